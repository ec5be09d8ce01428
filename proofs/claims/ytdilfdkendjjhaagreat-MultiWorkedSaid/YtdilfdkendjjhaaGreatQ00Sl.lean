/- The heap logic: lists of assertions on separate parts of the memory that a call has made, and how they turn with the world. -/
import Derived.WalkKit
import Derived.Laws.CopyRow
import Derived.WalkSpells
import Derived.WalkLawsBesides
import Derived.Deep.LoopGhost
import Derived.OrdersHeld
import Derived.Laws.BytesString
import Derived.Lib.SliceRun
namespace Go.Proofs.YtdilfdkendjjhaaGreat
open Go.RowKit
set_option linter.unusedVariables false
set_option linter.unusedSimpArgs false
set_option maxRecDepth 10000
set_option synthInstance.maxSize 4000
set_option synthInstance.maxHeartbeats 400000
section
abbrev Hp:=Nat→Option Obj
abbrev SP:=Hp→Prop
def Hp.Sub (a b:Hp):Prop:=∀ n o,a n=some o→b n=some o
def Hp.Dj (a b:Hp):Prop:=∀ n,a n=none∨b n=none
def Hp.un (a b:Hp):Hp:=λn=>match a n with | some o=>some o | none=>b n
theorem Hp.Sub.refl (a:Hp):Hp.Sub a a:=λ_ _ h=>h
theorem Hp.Sub.trans {a b c:Hp}(h:Hp.Sub a b)(k:Hp.Sub b c):Hp.Sub a c:=λn o e=>k n o (h n o e)
theorem Hp.un_left (a b:Hp):Hp.Sub a (Hp.un a b):=λn o h=>by simp[Hp.un,h]
theorem Hp.un_right {a b:Hp}(d:Hp.Dj a b):Hp.Sub b (Hp.un a b):=λn o h=>by
 rcases d n with e | e
 · simp[Hp.un,e,h]
 · rw[h]at e;cases e
theorem Hp.un_sub {a b c:Hp}(h:Hp.Sub a c)(k:Hp.Sub b c):Hp.Sub (Hp.un a b) c:=λn o e=>by
 cases ha:a n with
 | some x=>simp[Hp.un,ha]at e;subst e;exact h n _ ha
 | none=>simp[Hp.un,ha]at e;exact k n _ e
theorem Hp.Dj.symm {a b:Hp}(d:Hp.Dj a b):Hp.Dj b a:=λn=>(d n).symm
theorem Hp.Dj.mono {a b a' b':Hp}(d:Hp.Dj a b)(h:Hp.Sub a' a)(k:Hp.Sub b' b):Hp.Dj a' b':=λn=>by
 rcases d n with e | e
 · left;cases ha:a' n with
   | none=>rfl
   | some x=>rw[h n _ ha]at e;cases e
 · right;cases hb:b' n with
   | none=>rfl
   | some x=>rw[k n _ hb]at e;cases e
theorem Hp.Dj.un_right {a b c:Hp}(d:Hp.Dj a b)(k:Hp.Dj a c):Hp.Dj a (Hp.un b c):=λn=>by
 rcases d n with e | e
 · exact .inl e
 · rcases k n with f | f
   · exact .inl f
   · right;simp[Hp.un,e,f]
def sepL:List SP→SP
 | [],_=>True
 | A::L,h=>∃ h1 h2,Hp.Dj h1 h2∧Hp.Sub h1 h∧Hp.Sub h2 h∧A h1∧sepL L h2
theorem sepL_sub:∀ {L:List SP} {h h':Hp},Hp.Sub h h'→sepL L h→sepL L h'
 | [],_,_,_,_=>trivial
 | _::_,_,_,s,⟨h1,h2,d,a,b,p,q⟩=>⟨h1,h2,d,a.trans s,b.trans s,p,q⟩
theorem sepL_swap {A B:SP}{L:List SP}{h:Hp}:sepL (A::B::L) h→sepL (B::A::L) h
 | ⟨h1,h2,d,a,b,p,k1,k2,e,f,g,q,r⟩ =>
   ⟨k1,Hp.un h1 k2,(d.mono (Hp.Sub.refl _) f).symm.un_right e,f.trans b,Hp.un_sub a (g.trans b),q,
     h1,k2,d.mono (Hp.Sub.refl _) g,Hp.un_left _ _,Hp.un_right (d.mono (Hp.Sub.refl _) g),p,r⟩
theorem sepL_cons {A:SP}{L L':List SP}(k:∀ h,sepL L h→sepL L' h){h:Hp}:sepL (A::L) h→sepL (A::L') h
 | ⟨h1,h2,d,a,b,p,q⟩=>⟨h1,h2,d,a,b,p,k _ q⟩
theorem sepL_perm {L L':List SP}(p:L.Perm L'):∀ {h:Hp},sepL L h→sepL L' h:=by
 induction p with
 | nil=>exact λh=>h
 | cons x _ ih=>exact λh=>sepL_cons (λ_=>ih) h
 | swap x y l=>exact λh=>sepL_swap h
 | trans _ _ ih1 ih2=>exact λh=>ih2 (ih1 h)
theorem sepL_join:∀ {M L:List SP} {h1 h2 h:Hp},Hp.Dj h1 h2→Hp.Sub h1 h→Hp.Sub h2 h→sepL M h1→sepL L h2→sepL (M++L) h
 | [],_,_,_,_,_,_,s,_,q=>sepL_sub s q
 | _::_,_,h1,h2,_,d,s,t,⟨k1,k2,e,f,g,p,r⟩,q =>
   ⟨k1,Hp.un k2 h2,e.un_right (d.mono f (Hp.Sub.refl _)),f.trans s,Hp.un_sub (g.trans s) t,p,
     sepL_join (d.mono g (Hp.Sub.refl _)) (Hp.un_left _ _) (Hp.un_right (d.mono g (Hp.Sub.refl _))) r q⟩
theorem sepL_split:∀ {M L:List SP} {h:Hp},sepL (M++L) h→∃ h1 h2,Hp.Dj h1 h2∧Hp.Sub h1 h∧Hp.Sub h2 h∧sepL M h1∧sepL L h2
 | [],_,h,q=>⟨λ_=>none,h,λ_=>.inl rfl,λ_ _ e=>(by cases e),Hp.Sub.refl _,trivial,q⟩
 | _::M,L,h,⟨k1,k2,e,f,g,p,r⟩=>by
   obtain⟨h1,h2,d,s,t,q,u⟩:=sepL_split (M:=M) (L:=L) r
   exact⟨Hp.un k1 h1,h2,(Hp.Dj.un_right (d.symm) (e.symm.mono t (Hp.Sub.refl _)) |> λx=>(by
     intro n
     rcases x n with y | y
     · exact .inr y
     · left
       simp only[Hp.un]at y ⊢
       cases hk:k1 n with
       | some z=>cases hh:h1 n with
         | some u=>simp[hh]at y
         | none=>simp[hh,hk]at y
       | none=>cases hh:h1 n with
         | some u=>simp[hh]at y
         | none=>rfl)),Hp.un_sub f (s.trans g),t.trans g,p |> λp=>⟨k1,h1,e.mono (Hp.Sub.refl _) s,Hp.un_left _ _,Hp.un_right (e.mono (Hp.Sub.refl _) s),p,q⟩,u⟩
def pts (b:Nat)(o:Obj):SP:=λh=>h b=some o
def blk (b:Nat)(e:TypeId)(cs:List Value):SP:=pts b (.cells cs.toArray e (0,0))
structure St (W w:World)(L:List SP):Prop where
 below:Below W.heap.size W w
 sat:∃ h:Hp,(∀ n o,h n=some o→W.heap.size≤n∧w.heap[n]?=some o)∧sepL L h
section
variable {W w:World}{L L' M:List SP}
theorem St.start (W:World):St W W []:=⟨Below.refl _ _,λ_=>none,λ_ _ h=>(by cases h),trivial⟩
theorem St.imp (s:St W w L)(k:∀ h,sepL L h→sepL L' h):St W w L' :=
 let ⟨b,h,p,q⟩:=s;⟨b,h,p,k h q⟩
theorem St.perm (s:St W w L)(p:L.Perm L'):St W w L':=s.imp λ_=>sepL_perm p
theorem St.tail {A:SP}(s:St W w (A::L)):St W w L:=s.imp λ_ ⟨_,_,_,_,b,_,q⟩=>sepL_sub b q
theorem St.drop (s:St W w (M++L)):St W w L:=s.imp λ_ q=>let ⟨_,_,_,_,b,_,q⟩:=sepL_split q;sepL_sub b q
theorem St.open {A:SP}(s:St W w (A::L))(k:∀ h,A h→sepL M h):St W w (M++L) :=
 s.imp λ_ ⟨_,_,d,a,b,p,q⟩=>sepL_join d a b (k _ p) q
theorem St.shut {A:SP}(s:St W w (M++L))(k:∀ h,sepL M h→A h):St W w (A::L) :=
 s.imp λ_ q=>let ⟨h1,h2,d,a,b,p,q⟩:=sepL_split q;⟨h1,h2,d,a,b,k _ p,q⟩
theorem St.tell {A:SP}{p:Prop}(s:St W w (A::L))(k:∀ h,A h→p):p :=
 let ⟨_,_,_,_,_,_,_,_,x,_⟩:=s;k _ x
theorem St.exi {ι:Type}{A:SP}{p:ι→Prop}{B:ι→SP}(s:St W w (A::L))(k:∀ h,A h→∃ i,p i∧B i h):∃ i,p i∧St W w (B i::L):=by
 obtain⟨b,h,q,h1,h2,d,x,y,z,r⟩:=s
 obtain⟨i,hp,hB⟩:=k _ z
 exact⟨i,hp,b,h,q,h1,h2,d,x,y,hB,r⟩
theorem St.drew (s:St W w L):St W w.drew L:=⟨s.below.drew,s.sat⟩
theorem St.alloc (s:St W w L)(o:Obj):St W (w.alloc o) (pts w.heap.size o::L):=by
 obtain⟨b,h,p,q⟩:=s
 have hn:h w.heap.size=none:=by
   cases e:h w.heap.size with
   | none=>rfl
   | some x=>have:=(p _ _ e).2;simp at this
 refine⟨b.alloc b.size o,λn=>if n=w.heap.size then some o else h n,?_,λn=>if n=w.heap.size then some o else none,h,?_,?_,?_,by simp[pts],q⟩
 · intro n x e
   by_cases hb:n=w.heap.size
   · simp[hb]at e;subst e;subst hb
     exact⟨b.size,by show (w.heap.push o)[w.heap.size]?=_;simp⟩
   · simp[hb]at e
     refine⟨(p _ _ e).1,?_⟩
     have:=(p _ _ e).2
     show (w.heap.push o)[n]?=_
     rw[Array.getElem?_push,if_neg hb];exact this
 · intro n;by_cases hb:n=w.heap.size
   · right;rw[hb];exact hn
   · left;simp[hb]
 · intro n x e;by_cases hb:n=w.heap.size <;> simp[hb]at e ⊢;exact e
 · intro n x e;by_cases hb:n=w.heap.size
   · rw[hb,hn]at e;cases e
   · simp[hb,e]
theorem St.has {b:Nat}{o:Obj}(s:St W w (pts b o::L)):W.heap.size≤b∧w.heap[b]?=some o :=
 let ⟨_,_,p,_,_,_,a,_,x,_⟩:=s;p _ _ (a _ _ x)
theorem St.upd {b:Nat}{o o':Obj}{w':World}(s:St W w (pts b o::L))(hos:w'.os=w.os)(ht:w'.tape=w.tape)(hout:w'.output=w.output)
   (hh:w'.heap=w.heap.setIfInBounds b o'):St W w' (pts b o'::L):=by
 have hb:=s.has
 obtain⟨bl,h,p,h1,h2,d,a,k,x,q⟩:=s
 have hlt:b<w.heap.size:=by have:=(Array.getElem?_eq_some_iff.1 hb.2).1;exact this
 have h2b : h2 b = none := by rcases d b with e | e; · rw [x] at e; cases e
                              · exact e
 refine⟨bl.trans ⟨hos,ht,hout,by rw[hh];simp,λn hn=>?_⟩,λn=>if n=b then some o' else h n,?_,λn=>if n=b then some o' else none,h2,?_,?_,?_,by simp[pts],q⟩
 · rw[hh,Array.getElem?_setIfInBounds,if_neg (by omega)]
 · intro n y e
   by_cases hn:n=b
   · simp[hn]at e;subst e;subst hn
     exact⟨hb.1,by rw[hh,Array.getElem?_setIfInBounds];simp[hlt]⟩
   · simp[hn]at e
     refine⟨(p _ _ e).1,?_⟩
     rw[hh,Array.getElem?_setIfInBounds,if_neg (by omega)];exact (p _ _ e).2
 · intro n;by_cases hn:n=b
   · right;rw[hn];exact h2b
   · left;simp[hn]
 · intro n y e;by_cases hn:n=b <;> simp[hn]at e ⊢;exact e
 · intro n y e;by_cases hn:n=b
   · rw[hn,h2b]at e;cases e
   · simp[hn];exact k _ _ e
end
theorem St.cell {W w:World}{L:List SP}{b:Nat}{e:TypeId}{cs:List Value}(s:St W w (blk b e cs::L))(i:Nat) :
   w.cell? ⟨b,i,none⟩=cs[i]?:=by
 have:=s.has.2
 simp[World.cell?,this]
theorem St.old {W w:World}{L:List SP}(s:St W w L){a:Addr}(h:a.block<W.heap.size):w.cell? a=W.cell? a:=s.below.cell h
def splice (cs:List Value)(off:Nat)(vs:List Value):List Value:=cs.take off++vs++cs.drop (off+vs.length)
theorem St.setRow {W w:World}{L:List SP}{b:Nat}{e:TypeId}{cs cs':List Value}(s:St W w (blk b e cs::L)) :
   St W (w.setRow b cs'.toArray) (blk b e cs'::L):=by
 have hb:=s.has.2
 refine s.upd (o':=.cells cs'.toArray e (0,0)) rfl rfl rfl ?_
 apply Array.ext_getElem?
 intro i
 simp only[World.setRow,Array.getElem?_modify,Array.getElem?_setIfInBounds]
 by_cases hi:b=i
 · subst hi
   rw[if_pos rfl,if_pos rfl,hb]
   have:b<w.heap.size:=(Array.getElem?_eq_some_iff.1 hb).1
   simp[this]
 · simp[hi]
structure Old (w0 w:World):Prop where
 size:w0.heap.size≤w.heap.size
 same:∀ k,k<w0.heap.size→w.heap[k]?=w0.heap[k]?
theorem Old.refl (w:World):Old w w:=⟨Nat.le_refl _,λ_ _=>rfl⟩
theorem Old.cell {w0 w:World}(h:Old w0 w){ad:Addr}{v:Value}(hc:w0.cell? ad=some v):w.cell? ad=some v:=by
 rw[← hc];exact World.cell?_of_block (h.same _ (World.block_lt_of_cell? _ _ hc))
theorem Old.trans {a b c:World}(h:Old a b)(k:Old b c):Old a c:=⟨Nat.le_trans h.size k.size,λn hn=>(k.same n (Nat.lt_of_lt_of_le hn h.size)).trans (h.same n hn)⟩
theorem Old.alloc (w:World)(o:Obj):Old w (w.alloc o):=⟨by simp,λk hk=>Below.heap_alloc _ _ _ hk⟩
end
section
structure Fr (a:Act)(n:Nat)(l:List (Nat×Value)):Prop where
 defers:a.defers=[]
 size:a.tmps.size=n
 has:∀ p∈l,a.tmps[p.1]?=some p.2
def freshB (d:Nat)(l:List (Nat×Value)):Bool:=l.all λp=>!(Nat.beq p.1 d)
def okB (d n:Nat)(l:List (Nat×Value)):Bool:=Nat.ble (d+1) n&&freshB d l
class Get (l:List (Nat×Value))(t:Nat)(v:outParam Value):Prop where mem:(t,v)∈l
instance Get.head {l t v}:Get ((t,v)::l) t v:=⟨List.mem_cons_self⟩
instance (priority:=low) Get.tail {l t v p}[h:Get l t v]:Get (p::l) t v:=⟨List.mem_cons_of_mem _ h.mem⟩
class Ev (l:List (Nat×Value))(o:Operand)(v:outParam Value):Prop where ev:∀ a n,Fr a n l→a.eval o=v
instance Ev.tmp {l t v}[h:Get l t v]:Ev l (.tmp t) v:=⟨λa n ha=>by
 have:=ha.has _ h.mem
 simp only[Act.eval]
 simp[Array.getD_eq_getD_getElem?,this]⟩
instance Ev.const {l v}:Ev l (.const v) v:=⟨λ_ _ _=>rfl⟩
instance Ev.func {l f}:Ev l (.func f) (.func (.func f) #[] #[]):=⟨λ_ _ _=>rfl⟩
class EvL (l:List (Nat×Value))(os:List Operand)(vs:outParam (List Value)):Prop where ev:∀ a n,Fr a n l→os.map a.eval=vs
instance EvL.nil {l}:EvL l [] []:=⟨λ_ _ _=>rfl⟩
instance EvL.cons {l o os v vs}[h:Ev l o v][k:EvL l os vs]:EvL l (o::os) (v::vs):=⟨λa n ha=>by
 simp[h.ev a n ha,k.ev a n ha]⟩
class Keep (l:List (Nat×Value))(ks:List Nat)(l':outParam (List (Nat×Value))):Prop where sub:∀ p∈l',p∈l
instance Keep.nil {l}:Keep l [] []:=⟨λ_ h=>by cases h⟩
instance Keep.cons {l k ks v l'}[h:Get l k v][r:Keep l ks l']:Keep l (k::ks) ((k,v)::l'):=⟨λp hp=>by
 rcases List.mem_cons.1 hp with rfl | h'
 · exact h.mem
 · exact r.sub _ h'⟩
theorem Fr.keep {a n l l'}(h:Fr a n l)(ks:List Nat)[k:Keep l ks l']:Fr a n l':=⟨h.defers,h.size,λp hp=>h.has _ (k.sub _ hp)⟩
class Del (l:List (Nat×Value))(d:Nat)(l':outParam (List (Nat×Value))):Prop where sub:∀ p∈l',p∈l
instance Del.nil {d}:Del [] d []:=⟨λ_ h=>h⟩
instance Del.head {l d v}:Del ((d,v)::l) d l:=⟨λ_ h=>List.mem_cons_of_mem _ h⟩
instance (priority:=low) Del.tail {l d p l'}[h:Del l d l']:Del (p::l) d (p::l'):=⟨λq hq=>by
 rcases List.mem_cons.1 hq with rfl | h'
 · exact List.mem_cons_self
 · exact List.mem_cons_of_mem _ (h.sub _ h')⟩
theorem Fr.del {a n l l'}(h:Fr a n l)(d:Nat)[k:Del l d l']:Fr a n l':=⟨h.defers,h.size,λp hp=>h.has _ (k.sub _ hp)⟩
theorem okB_lt {d n l}(h:okB d n l=true):d<n:=by
 simp only[okB,Bool.and_eq_true]at h;exact Nat.le_of_ble_eq_true h.1
theorem okB_fresh {d n l}(h:okB d n l=true):∀ p∈l,p.1≠d:=by
 simp only[okB,freshB,Bool.and_eq_true,List.all_eq_true]at h
 intro p hp e
 have:=h.2 p hp
 rw[e]at this
 have:Nat.beq d d=true:=Nat.beq_refl d
 simp[this] at *
theorem Fr.put {a n l d}(h:Fr a n l)(hf:okB d n l=true)(v:Value):Fr (a.put (some d) v) n ((d,v)::l):=by
 have hl:=okB_lt hf
 refine⟨h.defers,by simp[Act.put,h.size],λp hp=>?_⟩
 rcases List.mem_cons.1 hp with rfl | hp
 · simp[Act.put,h.size,hl]
 · have hne:=okB_fresh hf p hp
   simp only[Act.put]
   rw[Array.getElem?_setIfInBounds,if_neg (λe=>hne e.symm)]
   exact h.has _ hp
theorem Fr.enter {m:Nat}{vs:List Value}(hm:vs.length≤m) :
   Fr { tmps:=vs.toArray++Array.replicate (m-vs.toArray.size) undef,defers:=[] } m ((List.range vs.length).zip vs):=by
 refine⟨rfl,by simp;omega,λp hp=>?_⟩
 obtain⟨i,hi,rfl⟩:=List.mem_iff_getElem.1 hp
 simp only[List.length_zip,List.length_range]at hi
 have hv:i<vs.length:=by omega
 simp only[List.getElem_zip,List.getElem_range]
 rw[Array.getElem?_append_left (by simp;omega)]
 simp[hv]
section
variable {P:Program}{ops:Array Oper}{Q:Exit→Act→World→Prop}{a:Act}{w w':World}{K:Act→World→Prop}{o:Oper}{n d:Nat}{l:List (Nat×Value)}{v:Value}
def StepK (P:Program)(ops:Array Oper)(Q:Exit→Act→World→Prop)(o:Oper)(K:Act→World→Prop)(a:Act)(w:World):Prop :=
 if Region.wanted o (yielded ops a.tmps) then o.wp P a w K Q∨(o.asks P a w∧LetsOut Q) else K (a.put o.dst undef) w
theorem wpList_k {rest:List Oper}(h:StepK P ops Q o (wpList P ops Q rest) a w):wpList P ops Q (o::rest) a w:=h
theorem st_run (hw:Region.wanted o (yielded ops a.tmps)=true)(hr:(execOp a.eval o).run P w=.ok (.value v) w')
   (h:K (a.put o.dst v) w'):StepK P ops Q o K a w:=by
 unfold StepK;rw[if_pos hw];left;unfold Oper.wp;rw[hr];exact h
theorem st_set {op ty ps af g}(ha:Fr a n l)(hw:Region.wanted ⟨some d,op,ty,ps,af,g⟩ (yielded ops a.tmps)=true)
   (hr:(execOp a.eval ⟨some d,op,ty,ps,af,g⟩).run P w=.ok (.value v) w') (hf:okB d n l=true)
   (h:∀ a',Fr a' n ((d,v)::l)→K a' w'):StepK P ops Q ⟨some d,op,ty,ps,af,g⟩ K a w :=
 st_run hw hr (h _ (ha.put hf v))
theorem st_none {op ty ps af g}(ha:Fr a n l)(hw:Region.wanted ⟨none,op,ty,ps,af,g⟩ (yielded ops a.tmps)=true)
   (hr:(execOp a.eval ⟨none,op,ty,ps,af,g⟩).run P w=.ok (.value v) w')
   (h:∀ a',Fr a' n l→K a' w'):StepK P ops Q ⟨none,op,ty,ps,af,g⟩ K a w :=
 st_run hw hr (h _ ha)
theorem st_act {op ty ps af g}(ha:Fr a n l)(hw:Region.wanted ⟨none,op,ty,ps,af,g⟩ (yielded ops a.tmps)=true)
   (hr:(execOp a.eval ⟨none,op,ty,ps,af,g⟩).run P w=.ok .skip w')
   (h:∀ a',Fr a' n l→K a' w'):StepK P ops Q ⟨none,op,ty,ps,af,g⟩ K a w:=by
 unfold StepK;rw[if_pos hw];left;unfold Oper.wp;rw[hr];exact h _ ha
theorem st_offU {op ty ps af g}(ha:Fr a n l)(hw:Region.wanted ⟨some d,op,ty,ps,af,g⟩ (yielded ops a.tmps)=false)(hf:okB d n l=true)
   (h:∀ a',Fr a' n ((d,undef)::l)→K a' w):StepK P ops Q ⟨some d,op,ty,ps,af,g⟩ K a w:=by
 unfold StepK
 rw[if_neg (by rw[hw];simp)]
 exact h _ (ha.put hf undef)
theorem wg {op ty ps af j s b c dst}(ha:Fr a n l)(hj:(ops[j]?).bind (·.dst)=some s)[k:Get l s (.bool c)] :
   Region.wanted ⟨dst,op,ty,ps,af,some (j,b)⟩ (yielded ops a.tmps)=(c==b):=by
 have:=ha.has _ k.mem
 simp[Region.wanted,yielded,hj,this]
theorem wgT {op ty ps af j s b dst}(ha:Fr a n l)(hj:(ops[j]?).bind (·.dst)=some s)[k:Get l s (.bool b)] :
   Region.wanted ⟨dst,op,ty,ps,af,some (j,b)⟩ (yielded ops a.tmps)=true:=by rw[wg ha hj];simp
theorem Fr.bool {s:Nat}{c:Bool} {l'}(ha:Fr a n l)[k:Get l s (.bool c)][e:Del l s l']{G:Prop}
   (ht:c=true→Fr a n ((s,.bool true)::l')→G) (hf:c=false→Fr a n ((s,.bool false)::l')→G):G:=by
 have hm:=ha.has _ k.mem
 have hd:=ha.del s
 cases c with
 | true => exact ht rfl ⟨ha.defers, ha.size, fun p hp => by
     rcases List.mem_cons.1 hp with rfl | hp
     · exact hm
     · exact hd.has _ hp⟩
 | false => exact hf rfl ⟨ha.defers, ha.size, fun p hp => by
     rcases List.mem_cons.1 hp with rfl | hp
     · exact hm
     · exact hd.has _ hp⟩
theorem ex_move {x dst ty ps af g}(ha:Fr a n l)[e:Ev l x v]:(execOp a.eval ⟨dst,.move x,ty,ps,af,g⟩).run P w=.ok (.value v) w:=by
 simp[execOp,e.ev a n ha,pure,Sem.run]
theorem ex_assign {x dst ty ps af g}(ha:Fr a n l)[e:Ev l x v]:(execOp a.eval ⟨dst,.assign x,ty,ps,af,g⟩).run P w=.ok (.value v) w:=by
 simp[execOp,e.ev a n ha,pure,Sem.run]
theorem ex_pickT {c x y dst ty ps af g}(ha:Fr a n l)[e:Ev l c (.bool true)][f:Ev l x v]:(execOp a.eval ⟨dst,.pick c x y,ty,ps,af,g⟩).run P w=.ok (.value v) w:=by
 simp[execOp,e.ev a n ha,f.ev a n ha,asBool]
theorem ex_pickF {c x y dst ty ps af g}(ha:Fr a n l)[e:Ev l c (.bool false)][f:Ev l y v]:(execOp a.eval ⟨dst,.pick c x y,ty,ps,af,g⟩).run P w=.ok (.value v) w:=by
 simp[execOp,e.ev a n ha,f.ev a n ha,asBool]
class NotNil (v:Value):Prop where h:(∃ ad,v=.pointer (some ad))∨∃ t u,v=.iface t u
instance {ad}:NotNil (.pointer (some ad)):=⟨.inl ⟨_,rfl⟩⟩
instance {t u}:NotNil (.iface t u):=⟨.inr ⟨_,_,rfl⟩⟩
theorem ex_nilCheck {x dst ty ps af g}(ha:Fr a n l)[e:Ev l x v][k:NotNil v]:(execOp a.eval ⟨dst,.nilCheck x,ty,ps,af,g⟩).run P w=.ok (.value v) w:=by
 rcases k.h with ⟨ad,rfl⟩ | ⟨t,u,rfl⟩ <;> simp[execOp,e.ev a n ha]
theorem ex_add {x y k i j t u dst ty ps af g}(ha:Fr a n l)[e:Ev l x (.int k i)][f:Ev l y (.int k j)] :
   (execOp a.eval ⟨dst,.binOp .add t x y u,ty,ps,af,g⟩).run P w=.ok (.value (.int k (k.wrap (i+j)))) w:=by
 simp[execOp,e.ev a n ha,f.ev a n ha,eqGuard,binOp,Op.intArith]
theorem ex_sub {x y k i j t u dst ty ps af g}(ha:Fr a n l)[e:Ev l x (.int k i)][f:Ev l y (.int k j)] :
   (execOp a.eval ⟨dst,.binOp .sub t x y u,ty,ps,af,g⟩).run P w=.ok (.value (.int k (k.wrap (i-j)))) w:=by
 simp[execOp,e.ev a n ha,f.ev a n ha,eqGuard,binOp,Op.intArith]
theorem ex_mul {x y k i j t u dst ty ps af g}(ha:Fr a n l)[e:Ev l x (.int k i)][f:Ev l y (.int k j)] :
   (execOp a.eval ⟨dst,.binOp .mul t x y u,ty,ps,af,g⟩).run P w=.ok (.value (.int k (k.wrap (i*j)))) w:=by
 simp[execOp,e.ev a n ha,f.ev a n ha,eqGuard,binOp,Op.intArith]
theorem wrap_in {i:Int}(h1:-9223372036854775808≤i)(h2:i≤9223372036854775807):IntKind.i64.wrap i=i:=IntWalk.i64_in _ (by omega)
theorem ex_addI {x y i j t u dst ty ps af g}(ha:Fr a n l)[e:Ev l x (.int .i64 i)][f:Ev l y (.int .i64 j)](h1:-9223372036854775808≤i+j)(h2:i+j≤9223372036854775807) :
   (execOp a.eval ⟨dst,.binOp .add t x y u,ty,ps,af,g⟩).run P w=.ok (.value (.int .i64 (i+j))) w:=by
 rw[ex_add ha,wrap_in h1 h2]
theorem ex_subI {x y i j t u dst ty ps af g}(ha:Fr a n l)[e:Ev l x (.int .i64 i)][f:Ev l y (.int .i64 j)](h1:-9223372036854775808≤i-j)(h2:i-j≤9223372036854775807) :
   (execOp a.eval ⟨dst,.binOp .sub t x y u,ty,ps,af,g⟩).run P w=.ok (.value (.int .i64 (i-j))) w:=by
 rw[ex_sub ha,wrap_in h1 h2]
theorem ex_mulI {x y i j t u dst ty ps af g}(ha:Fr a n l)[e:Ev l x (.int .i64 i)][f:Ev l y (.int .i64 j)](h1:-9223372036854775808≤i*j)(h2:i*j≤9223372036854775807) :
   (execOp a.eval ⟨dst,.binOp .mul t x y u,ty,ps,af,g⟩).run P w=.ok (.value (.int .i64 (i*j))) w:=by
 rw[ex_mul ha,wrap_in h1 h2]
theorem ex_lss {x y k i j t u dst ty ps af g}(ha:Fr a n l)[e:Ev l x (.int k i)][f:Ev l y (.int k j)] :
   (execOp a.eval ⟨dst,.binOp .lss t x y u,ty,ps,af,g⟩).run P w=.ok (.value (.bool (decide (i<j)))) w:=by
 simp[execOp,e.ev a n ha,f.ev a n ha,eqGuard,binOp,Op.intCmp]
theorem ex_leq {x y k i j t u dst ty ps af g}(ha:Fr a n l)[e:Ev l x (.int k i)][f:Ev l y (.int k j)] :
   (execOp a.eval ⟨dst,.binOp .leq t x y u,ty,ps,af,g⟩).run P w=.ok (.value (.bool (decide (i≤j)))) w:=by
 simp[execOp,e.ev a n ha,f.ev a n ha,eqGuard,binOp,Op.intCmp]
theorem ex_gtr {x y k i j t u dst ty ps af g}(ha:Fr a n l)[e:Ev l x (.int k i)][f:Ev l y (.int k j)] :
   (execOp a.eval ⟨dst,.binOp .gtr t x y u,ty,ps,af,g⟩).run P w=.ok (.value (.bool (decide (j<i)))) w:=by
 simp[execOp,e.ev a n ha,f.ev a n ha,eqGuard,binOp,Op.intCmp]
theorem ex_geq {x y k i j t u dst ty ps af g}(ha:Fr a n l)[e:Ev l x (.int k i)][f:Ev l y (.int k j)] :
   (execOp a.eval ⟨dst,.binOp .geq t x y u,ty,ps,af,g⟩).run P w=.ok (.value (.bool (decide (j≤i)))) w:=by
 simp[execOp,e.ev a n ha,f.ev a n ha,eqGuard,binOp,Op.intCmp]
theorem ex_eql {x y k i j t u dst ty ps af g}(ha:Fr a n l)[e:Ev l x (.int k i)][f:Ev l y (.int k j)] :
   (execOp a.eval ⟨dst,.binOp .eql t x y u,ty,ps,af,g⟩).run P w=.ok (.value (.bool (decide (i=j)))) w:=by
 simp[execOp,e.ev a n ha,f.ev a n ha,eqGuard,binOp,Op.intCmp];rfl
theorem ex_neq {x y k i j t u dst ty ps af g}(ha:Fr a n l)[e:Ev l x (.int k i)][f:Ev l y (.int k j)] :
   (execOp a.eval ⟨dst,.binOp .neq t x y u,ty,ps,af,g⟩).run P w=.ok (.value (.bool (decide (i≠j)))) w:=by
 simp[execOp,e.ev a n ha,f.ev a n ha,eqGuard,binOp,Op.intCmp,bne];rfl
theorem ex_not {x b t dst ty ps af g}(ha:Fr a n l)[e:Ev l x (.bool b)]:(execOp a.eval ⟨dst,.unOp .not t x,ty,ps,af,g⟩).run P w=.ok (.value (.bool (!b))) w:=by
 simp[execOp,e.ev a n ha,Op.unary]
class IsNil (v:Value)(b:outParam Bool):Prop where h:v=.pointer none∧b=true∨(∃ ad,v=.pointer (some ad))∧b=false
instance:IsNil (.pointer none) true:=⟨.inl ⟨rfl,rfl⟩⟩
instance {ad}:IsNil (.pointer (some ad)) false:=⟨.inr ⟨⟨_,rfl⟩,rfl⟩⟩
theorem pointee_of {t el:TypeId}(ht:P.underlying t=some (.pointer el)):P.underlying t=some (.pointer (P.pointee t)):=by
 rw[ht];simp[Program.pointee,ht]
theorem ex_eqnil {x b t u el dst ty ps af g}(ha:Fr a n l)(ht:P.underlying t=some (.pointer el))[e:Ev l x v][k:IsNil v b] :
   (execOp a.eval ⟨dst,.binOp .eql t x (.const (.pointer none)) u,ty,ps,af,g⟩).run P w=.ok (.value (.bool b)) w:=by
 have hc:a.eval (.const (.pointer none))=.pointer none:=rfl
 rcases k.h with ⟨rfl,rfl⟩ | ⟨⟨ad,rfl⟩,rfl⟩
 · have:=run_eql_pointer_nil (P:=P) (w:=w) t none (pointee_of ht)
   simp only[execOp,e.ev a n ha,hc,Sem.run_bind];simp[eqGuard,this]
 · have:=run_eql_pointer_nil (P:=P) (w:=w) t (some ad) (pointee_of ht)
   simp only[execOp,e.ev a n ha,hc,Sem.run_bind];simp[eqGuard,this]
theorem ex_neqnil {x b t u el dst ty ps af g}(ha:Fr a n l)(ht:P.underlying t=some (.pointer el))[e:Ev l x v][k:IsNil v b] :
   (execOp a.eval ⟨dst,.binOp .neq t x (.const (.pointer none)) u,ty,ps,af,g⟩).run P w=.ok (.value (.bool (!b))) w:=by
 have hc:a.eval (.const (.pointer none))=.pointer none:=rfl
 rcases k.h with ⟨rfl,rfl⟩ | ⟨⟨ad,rfl⟩,rfl⟩
 · have:=run_neq_pointer_nil (P:=P) (w:=w) t none (pointee_of ht)
   simp only[execOp,e.ev a n ha,hc,Sem.run_bind];simp[eqGuard,this]
 · have:=run_neq_pointer_nil (P:=P) (w:=w) t (some ad) (pointee_of ht)
   simp only[execOp,e.ev a n ha,hc,Sem.run_bind];simp[eqGuard,this]
end
end
section
class TI (P:Program)(t:TypeId)(z:outParam Value)(size bytes:outParam Nat):Prop where of ::
 h:(P.info? t).map (λi=>(i.zero,i.size,i.bytes))=some (some z,size,bytes)
def isOne:TypeDesc→Bool | .struct _ | .array _ _=>false | _=>true
class Blk (L:List SP)(b:Nat)(e:outParam TypeId)(cs:outParam (List Value))(R:outParam (List SP)):Prop where perm:L.Perm (blk b e cs::R)
instance Blk.head {L b e cs}:Blk (blk b e cs::L) b e cs L:=⟨List.Perm.refl _⟩
instance (priority:=low) Blk.tail {A L b e cs R}[h:Blk L b e cs R]:Blk (A::L) b e cs (A::R) :=
 ⟨(List.Perm.cons A h.perm).trans (List.Perm.swap _ _ _)⟩
class Cells (v:Value)(vs:outParam (List Value)):Prop where h:v.cells=vs.toArray
instance {vs:List Value}:Cells (.agg vs.toArray) vs:=⟨rfl⟩
instance {b}:Cells (.bool b) [.bool b]:=⟨rfl⟩
instance {k i}:Cells (.int k i) [.int k i]:=⟨rfl⟩
instance {s}:Cells (.string s) [.string s]:=⟨rfl⟩
instance {p}:Cells (.pointer p) [.pointer p]:=⟨rfl⟩
instance {p n c}:Cells (.slice p n c) [.slice p n c]:=⟨rfl⟩
instance {m}:Cells (.map m) [.map m]:=⟨rfl⟩
instance {f x y}:Cells (.func f x y) [.func f x y]:=⟨rfl⟩
instance {t v}:Cells (.iface t v) [.iface t v]:=⟨rfl⟩
class SetC (cs:List Value)(i:Nat)(v:Value)(cs':outParam (List Value)):Prop where h:cs.set i v=cs'
instance (priority:=low) SetC.any {cs i v}:SetC cs i v (cs.set i v):=⟨rfl⟩
instance SetC.zero {c cs v}:SetC (c::cs) 0 v (v::cs):=⟨rfl⟩
instance SetC.succ {c cs i v cs'}[h:SetC cs i v cs']:SetC (c::cs) (i+1) v (c::cs'):=⟨by rw[List.set_cons_succ,h.h]⟩
class SubC (cs:List Value)(off m:Nat)(vs:outParam (List Value)):Prop where h:(cs.drop off).take m=vs
instance (priority:=low) SubC.any {cs off m}:SubC cs off m ((cs.drop off).take m):=⟨rfl⟩
instance SubC.nil {cs}:SubC cs 0 0 []:=⟨by simp⟩
instance SubC.cons {x cs m vs}[h:SubC cs 0 m vs]:SubC (x::cs) 0 (m+1) (x::vs):=⟨by
 have:=h.h;simp only[List.drop_zero] at *;rw[List.take_succ_cons,this]⟩
class AddOff (o k:Nat)(r:outParam Nat):Prop where h:o+k=r
instance (priority:=low) AddOff.any {o k}:AddOff o k (o+k):=⟨rfl⟩
instance AddOff.left {o}:AddOff o 0 o:=⟨rfl⟩
instance AddOff.right {k}:AddOff 0 k k:=⟨Nat.zero_add k⟩
def Rd (w:World)(b off:Nat)(vs:List Value):Prop:=∀ j v,vs[j]?=some v→w.cell? ⟨b,off+j,none⟩=some v
theorem add_off (b o k:Nat):(⟨b,o,none⟩:Addr).add k=⟨b,o+k,none⟩:=by unfold Addr.add;split <;> simp_all
section
variable {P:Program}{W w:World}{L R:List SP}{b e:Nat}{cs:List Value}
theorem St.bring (s:St W w L)(b:Nat)[k:Blk L b e cs R]:St W w (blk b e cs::R):=s.perm k.perm
theorem St.rd1 (s:St W w L)[k:Blk L b e cs R]{off:Nat}{v:Value}(h:cs[off]?=some v):w.cell? ⟨b,off,none⟩=some v:=by
 rw[(s.perm k.perm).cell];exact h
theorem St.rdN (s:St W w L)[k:Blk L b e cs R]{off:Nat}(m:Nat){vs:List Value}[sc:SubC cs off m vs]:Rd w b off vs:=by
 have h:=sc.h
 intro j v hj
 rw[(s.perm k.perm).cell]
 rw[← h,List.getElem?_take]at hj
 by_cases hm:j<m
 · rw[if_pos hm,List.getElem?_drop]at hj;exact hj
 · rw[if_neg hm]at hj;cases hj
theorem St.rdAll (s:St W w L)[k:Blk L b e cs R]:Rd w b 0 cs:=by
 intro j v hj
 rw[(s.perm k.perm).cell,Nat.zero_add];exact hj
theorem run_load1 {t dd}{ad:Addr}{v:Value}(hu:P.underlying t=some dd)(hd:isOne dd=true)(hc:w.cell? ad=some v):(loadVar t ad).run P w=.ok v w:=by
 have:(isAgg t).run P w=.ok false w:=by
   simp only[isAgg,Sem.run_bind,run_underlying hu,Result.andThen_ok]
   cases dd <;> first | rfl | (simp[isOne]at hd)
 simp[loadVar,this,load,Sem.run,hc]
theorem run_loadN {t dd z by'}{off:Nat}{vs:List Value}(hu:P.underlying t=some dd)(hd:isOne dd=false)(hi:TI P t z vs.length by')(hc:Rd w b off vs) :
   (loadVar t ⟨b,off,none⟩).run P w=.ok (.agg vs.toArray) w:=by
 have h1:(isAgg t).run P w=.ok true w:=by
   simp only[isAgg,Sem.run_bind,run_underlying hu,Result.andThen_ok]
   cases dd <;> first | rfl | (simp[isOne]at hd)
 obtain⟨i,h2,_,h3,_⟩:=info_parts hi.h
 have h4:(sizeOf t).run P w=.ok vs.length w:=by simp[sizeOf,typeInfo,h2,h3]
 have h5:=run_loadCells_list (P:=P) w ⟨b,off,none⟩ vs (λj v hj=>by rw[add_off];exact hc j v hj)
 simp[loadVar,h1,h4,h5]
end
section
variable {P:Program}{ops:Array Oper}{Q:Exit→Act→World→Prop}{a:Act}{w w' W:World}{K:Act→World→Prop}{n d:Nat}{l:List (Nat×Value)}{v:Value}{L R:List SP}
theorem ex_load1 {x ad t dd dst ty ps af g}(ha:Fr a n l)(hu:P.underlying t=some dd)(hd:isOne dd=true)[ev:Ev l x (.pointer (some ad))](hc:w.cell? ad=some v) :
   (execOp a.eval ⟨dst,.load t x,ty,ps,af,g⟩).run P w=.ok (.value v) w:=by
 simp[execOp,ev.ev a n ha,Instr.loadAt,Instr.sureAddr,run_load1 hu hd hc]
theorem ex_loadN {x b off t dd z by' vs dst ty ps af g}(ha:Fr a n l)(hu:P.underlying t=some dd)(hd:isOne dd=false)(hi:TI P t z (List.length vs) by')[ev:Ev l x (.pointer (some ⟨b,off,none⟩))](hc:Rd w b off vs) :
   (execOp a.eval ⟨dst,.load t x,ty,ps,af,g⟩).run P w=.ok (.value (.agg vs.toArray)) w:=by
 simp[execOp,ev.ev a n ha,Instr.loadAt,Instr.sureAddr,run_loadN hu hd hi hc]
theorem run_size {t z sz by'}(hi:TI P t z sz by'):(sizeOf t).run P w=.ok sz w:=by
 obtain⟨i,h2,_,h3,_⟩:=info_parts hi.h
 simp[sizeOf,typeInfo,h2,h3]
theorem run_zero {t z sz by'}(hi:TI P t z sz by'):(zeroValue t).run P w=.ok z w:=by
 obtain⟨i,h2,h1,h3,_⟩:=info_parts hi.h
 simp[zeroValue,typeInfo,h2,h1]
theorem st_alloc {t z sz by' zs ty ps af g}(ha:Fr a n l)(hw:Region.wanted ⟨some d,.alloc t,ty,ps,af,g⟩ (yielded ops a.tmps)=true)(hs:St W w L)(hi:TI P t z sz by')[k:Cells z zs]
   (hf:okB d n l=true) (h:∀ b a' w',Fr a' n ((d,.pointer (some ⟨b,0,none⟩))::l)→St W w' (blk b t zs::L)→Old w w'→K a' w') :
   StepK P ops Q ⟨some d,.alloc t,ty,ps,af,g⟩ K a w:=by
 refine st_set (v:=.pointer (some ⟨w.heap.size,0,none⟩)) (w':=w.alloc (.cells zs.toArray t)) ha hw ?_ hf (λa' ha'=>h _ _ _ ha' (hs.alloc _) (Old.alloc _ _))
 simp[execOp,Instr.alloc,run_zero hi,newVar,newRow,newObj,Sem.run,k.h,Sem.run_bind]
theorem st_box {t x vs ty ps af g}(ha:Fr a n l)(hw:Region.wanted ⟨some d,.box t x,ty,ps,af,g⟩ (yielded ops a.tmps)=true)(hs:St W w L)[ev:Ev l x v][k:Cells v vs]
   (hf:okB d n l=true) (h:∀ b a' w',Fr a' n ((d,.pointer (some ⟨b,0,none⟩))::l)→St W w' (blk b t vs::L)→Old w w'→K a' w') :
   StepK P ops Q ⟨some d,.box t x,ty,ps,af,g⟩ K a w:=by
 refine st_set (v:=.pointer (some ⟨w.heap.size,0,none⟩)) (w':=w.alloc (.cells vs.toArray t)) ha hw ?_ hf (λa' ha'=>h _ _ _ ha' (hs.alloc _) (Old.alloc _ _))
 simp[execOp,Instr.box,ev.ev a n ha,newVar,newRow,newObj,Sem.run,k.h,Sem.run_bind]
theorem run_storeVar {t z by' b e off}{v:Value}{vs cs:List Value}(hs:St W w (blk b e cs::R))(hi:TI P t z vs.length by')(hv:v.cells=vs.toArray)(h1:∀ v∈vs,v.oneCell'=true)
   (hle:off+vs.length≤cs.length):(storeVar t ⟨b,off,none⟩ v).run P w=.ok () (w.setRow b (splice cs off vs).toArray):=by
 have:=run_storeCells_at (P:=P) b off e vs 0 cs.toArray w hs.has.2 (by simpa using hle) h1
 simp[storeVar,hv,run_size hi,this,splice]
theorem st_store {t z by' x y b e off cs cs' ty ps af g}(ha:Fr a n l)(hw:Region.wanted ⟨none,.store t x y,ty,ps,af,g⟩ (yielded ops a.tmps)=true)(hs:St W w L)
   (hi:TI P t z 1 by') [ev:Ev l x (.pointer (some ⟨b,off,none⟩))] [ew:Ev l y v] [kc:Cells v [v]] [k:Blk L b e cs R] (h1:v.oneCell'=true) (hlt:off<cs.length) [sc:SetC cs off v cs']
   (h:∀ a' w',Fr a' n l→St W w' (blk b e cs'::R)→K a' w'):StepK P ops Q ⟨none,.store t x y,ty,ps,af,g⟩ K a w:=by
 have hs':=hs.bring b
 have hr:=run_storeVar (P:=P) (t:=t) (off:=off) (vs:=[v]) hs' hi kc.h (by simpa using h1) (by simp;omega)
 have he:splice cs off [v]=cs':=by
   rw[← sc.h,splice,List.set_eq_take_append_cons_drop,if_pos hlt];simp
 refine st_act (w':=w.setRow b (splice cs off [v]).toArray) ha hw ?_ (λa' ha'=>h a' _ ha' (he ▸ hs'.setRow))
 simp[execOp,ev.ev a n ha,ew.ev a n ha,Instr.storeAt,Instr.sureAddr,hr]
theorem st_storeN {t z by' x y b e off cs vs ty ps af g}(ha:Fr a n l)(hw:Region.wanted ⟨none,.store t x y,ty,ps,af,g⟩ (yielded ops a.tmps)=true)(hs:St W w L)
   (hi:TI P t z (List.length vs) by') [ev:Ev l x (.pointer (some ⟨b,off,none⟩))] [ew:Ev l y v] [kc:Cells v vs] [k:Blk L b e cs R] (h1:∀ v∈vs,v.oneCell'=true) (hle:off+vs.length≤cs.length)
   (h:∀ a' w',Fr a' n l→St W w' (blk b e (splice cs off vs)::R)→K a' w'):StepK P ops Q ⟨none,.store t x y,ty,ps,af,g⟩ K a w:=by
 have hs':=hs.bring b
 have hr:=run_storeVar (P:=P) (t:=t) (off:=off) (vs:=vs) hs' hi kc.h h1 hle
 refine st_act (w':=w.setRow b (splice cs off vs).toArray) ha hw ?_ (λa' ha'=>h a' _ ha' hs'.setRow)
 simp[execOp,ev.ev a n ha,ew.ev a n ha,Instr.storeAt,Instr.sureAddr,hr]
theorem st_storeAll {t z by' x y b e cs vs ty ps af g}(ha:Fr a n l)(hw:Region.wanted ⟨none,.store t x y,ty,ps,af,g⟩ (yielded ops a.tmps)=true)(hs:St W w L)
   (hi:TI P t z (List.length vs) by') [ev:Ev l x (.pointer (some ⟨b,0,none⟩))] [ew:Ev l y v] [kc:Cells v vs] [k:Blk L b e cs R] (h1:∀ v∈vs,v.oneCell'=true) (hle:vs.length=cs.length)
   (h:∀ a' w',Fr a' n l→St W w' (blk b e vs::R)→K a' w'):StepK P ops Q ⟨none,.store t x y,ty,ps,af,g⟩ K a w:=by
 refine st_storeN ha hw hs hi h1 (by omega) (λa' w' ha' hs'=>h a' w' ha' ?_)
 rwa [show splice cs 0 vs=vs from by simp[splice,hle]]at hs'
theorem ex_fieldAddr {x b off t f k r fs fl z sz by' dst ty ps af g}(ha:Fr a n l)[ev:Ev l x (.pointer (some ⟨b,off,none⟩))](hu:P.underlying t=some (.struct fs))(hf:fs[f]?=some fl)(hi:TI P fl.type z (sz+1) by')
   (hk:fl.offset=k) [ao:AddOff off k r]:(execOp a.eval ⟨dst,.fieldAddr t x f,ty,ps,af,g⟩).run P w=.ok (.value (.pointer (some ⟨b,r,none⟩))) w:=by
 simp[execOp,ev.ev a n ha,Instr.fieldAt,run_underlying hu,hf,Instr.sureAddr,fieldPlace,run_size hi,add_off,hk,ao.h]
class NatOf (i:Int)(j:outParam Nat):Prop where h:i=(j:Int)
instance {j:Nat}:NatOf (j:Int) j:=⟨rfl⟩
instance:NatOf 0 0:=⟨rfl⟩
instance:NatOf 1 1:=⟨rfl⟩
instance:NatOf 2 2:=⟨rfl⟩
instance:NatOf 3 3:=⟨rfl⟩
instance:NatOf 4 4:=⟨rfl⟩
instance:NatOf 7 7:=⟨rfl⟩
instance:NatOf 8 8:=⟨rfl⟩
instance:NatOf 16 16:=⟨rfl⟩
instance:NatOf 24 24:=⟨rfl⟩
instance {x y:Int}{i j:Nat}[h:NatOf x i][k:NatOf y j]:NatOf (x+y) (i+j):=⟨by rw[h.h,k.h];rfl⟩
theorem ex_indexAddr {x y k i j b off m c t el z sz by' dst ty ps af g}(ha:Fr a n l)[ev:Ev l x (.slice (some ⟨b,off,none⟩) m c)][ey:Ev l y (.int k i)](hu:P.underlying t=some (.slice el))(hi:TI P el z sz by')[nj:NatOf i j]
   (hlt:j<m):(execOp a.eval ⟨dst,.indexAddr t x y,ty,ps,af,g⟩).run P w=.ok (.value (.pointer (some ⟨b,off+j*sz,none⟩))) w:=by
 have:=nj.h;subst this
 simp[execOp,ev.ev a n ha,ey.ev a n ha,Instr.indexAt,asIntOf,run_underlying hu,run_size hi,add_off,hlt]
theorem ex_indexAddrA {x y k i j b off m t el z sz by' dst ty ps af g}(ha:Fr a n l)[ev:Ev l x (.pointer (some ⟨b,off,none⟩))][ey:Ev l y (.int k i)](hu:P.underlying t=some (.array m el))(hi:TI P el z sz by')[nj:NatOf i j]
   (hlt:j<m):(execOp a.eval ⟨dst,.indexAddr t x y,ty,ps,af,g⟩).run P w=.ok (.value (.pointer (some ⟨b,off+j*sz,none⟩))) w:=by
 have:=nj.h;subst this
 simp[execOp,ev.ev a n ha,ey.ev a n ha,Instr.indexAt,asIntOf,run_underlying hu,run_size hi,add_off,hlt,Instr.sureAddr]
theorem ex_len {x ad m c t el dst ty ps af g}(ha:Fr a n l)[ev:Ev l x (.slice ad m c)](hu:P.underlying t=some (.slice el)) :
   (execOp a.eval ⟨dst,.call ⟨.builtin .len,#[x],#[t]⟩,ty,ps,af,g⟩).run P w=.ok (.value (.int .i64 m)) w:=by
 simp[execOp,resolve,ev.ev a n ha,invoke,builtin,Builtin.len_,run_underlying hu,goInt]
theorem ex_makeFunc {fn xs ys us vs dst ty ps af g}(ha:Fr a n l)[e1:EvL l xs us][e2:EvL l ys vs] :
   (execOp a.eval ⟨dst,.makeFunc fn xs.toArray ys.toArray,ty,ps,af,g⟩).run P w=.ok (.value (.func fn us.toArray vs.toArray)) w:=by
 simp[execOp,Instr.makeFunc,e1.ev a n ha,e2.ev a n ha]
def callable (P : Program) (f : FuncId) : Bool := match P.funcs[f]? with | some fn => !(fn.name == "runtime.NumGoroutine") && fn.body.isSome | none => false
theorem run_callFunc {f}{vs:Array Value}(h:callable P f=true):(callFunc f vs).run P w=.ok (.enter f vs) w:=by
 simp only[callable]at h
 cases hf:P.funcs[f]? with
 | none=>simp[hf]at h
 | some fn =>
   simp only[hf,Bool.and_eq_true,Bool.not_eq_true']at h
   have hb:fn.body.isNone=false:=by cases hb:fn.body <;> simp_all
   simp only[callFunc,program,Sem.run,Sem.run_bind,Result.andThen_ok,hf,h.1,hb]
   simp
theorem st_enter {op ty ps af g dst f}{vs:Array Value}{X:Ending→World→Prop}(hw:Region.wanted ⟨dst,op,ty,ps,af,g⟩ (yielded ops a.tmps)=true)
   (hr:(execOp a.eval ⟨dst,op,ty,ps,af,g⟩).run P w=.ok (.enter f vs) w) (hc:Calls P f vs w X)
   (h:∀ e w',X e w'→∃ v,e=.returned v∧K (a.put dst v) w'):StepK P ops Q ⟨dst,op,ty,ps,af,g⟩ K a w:=by
 unfold StepK;rw[if_pos hw];left;unfold Oper.wp;rw[hr,Oper.upon_enter]
 refine hc.mono λe w' hx=>?_
 obtain⟨v,rfl,hv⟩:=h e w' hx
 exact hv
theorem ret1 {fn:Func} {t}{X:Ending→World→Prop}(ha:Fr a n l)(hr:fn.results=#[.tmp t])[k:Get l t v](h:X (.returned v) w):bodyPost P fn X .ret a w:=by
 refine bodyPost_ret (results_tmp hr _ _ _) ha.defers ?_
 have:=ha.has _ k.mem
 simpa [Array.getD_eq_getD_getElem?,this] using h
theorem ret2 {fn:Func} {t u v2}{X:Ending→World→Prop}(ha:Fr a n l)(hr:fn.results=#[.tmp t,.tmp u])[k:Get l t v][k2:Get l u v2](h:X (.returned (.tuple #[v,v2])) w):bodyPost P fn X .ret a w:=by
 refine bodyPost_ret (results_tmp2 hr _ _ _) ha.defers ?_
 have h1:=ha.has _ k.mem
 have h2:=ha.has _ k2.mem
 simpa [Array.getD_eq_getD_getElem?,h1,h2] using h
theorem ret0 {fn:Func}{X:Ending→World→Prop}(ha:Fr a n l)(hr:fn.results=#[])(h:X (.returned (.tuple #[])) w):bodyPost P fn X .ret a w :=
 bodyPost_ret (results_none hr _ _ _) ha.defers h
theorem end0 {fn:Func}{X:Ending→World→Prop}(ha:Fr a n l)(hr:fn.results=#[])(h:X (.returned (.tuple #[])) w):bodyPost P fn X .normal a w :=
 bodyPost_end (results_none hr _ _ _) ha.defers h
theorem retC1 {fn:Func} {x ad t}{X:Ending→World→Prop}(ha:Fr a n l)(hr:fn.results=#[.cell x t])[k:Get l x (.pointer (some ad))](hl:(loadVar t ad).run P w=.ok v w)(h:X (.returned v) w):bodyPost P fn X .ret a w:=by
 refine bodyPost_ret ?_ ha.defers h
 have h1:=ha.has _ k.mem
 simp[results,hr,Array.getD_eq_getD_getElem?,h1,asAddr,hl]
theorem retC2 {fn:Func} {x ad t u v2}{X:Ending→World→Prop}(ha:Fr a n l)(hr:fn.results=#[.cell x t,.tmp u])[k:Get l x (.pointer (some ad))][k2:Get l u v2](hl:(loadVar t ad).run P w=.ok v w)
   (h:X (.returned (.tuple #[v,v2])) w):bodyPost P fn X .ret a w:=by
 refine bodyPost_ret ?_ ha.defers h
 have h1:=ha.has _ k.mem
 have h2:=ha.has _ k2.mem
 simp[results,hr,Array.getD_eq_getD_getElem?,h1,h2,asAddr,hl]
theorem calls_enter {f m:Nat}{fn:Func}{c:Code}{vs:List Value}{X:Ending→World→Prop}(hf:P.funcs[f]?=some fn)(hb:fn.body=some c)(hn:fn.ntmps=m)(hm:vs.length≤m)
   (h:∀ a,Fr a m ((List.range vs.length).zip vs)→c.wp P (bodyPost P fn X) a w):Calls P f vs.toArray w X :=
 calls_of_wp hf hb (by rw[hn];exact h _ (Fr.enter hm))
theorem wp_seq_cut {x y:Code}{M:Act→World→Prop}(h:x.wp P (Exit.then M Q) a w)(k:∀ a w,M a w→y.wp P Q a w):(Code.seq x y).wp P Q a w:=by
 refine wp_seq (wp_mono h ?_)
 intro e a' w' hq
 cases e <;> first | exact k _ _ hq | exact hq
theorem wp_ifT {c:Operand}{x y:Code}(ha:Fr a n l)[e:Ev l c (.bool true)](h:x.wp P Q a w):(Code.cond c x y).wp P Q a w:=wp_cond_true (e.ev a n ha) h
theorem wp_ifF {c:Operand}{x y:Code}(ha:Fr a n l)[e:Ev l c (.bool false)](h:y.wp P Q a w):(Code.cond c x y).wp P Q a w:=wp_cond_false (e.ev a n ha) h
theorem blk_e {i:Nat}(h:Q .normal a w):Exit.inBlock i Q (.exit i) a w:=by simp only[Exit.inBlock,if_true];exact h
theorem blk_ne {i j:Nat}(hn:Nat.beq j i=false)(h:Q (.exit j) a w):Exit.inBlock i Q (.exit j) a w:=by
 simp only[Exit.inBlock];rw[if_neg (by intro e;subst e;rw[Nat.beq_refl]at hn;cases hn)];exact h
end
end
section
def Sl (e sz:Nat)(ad:Option Addr)(n c:Nat)(cs:List Value):SP:=λh =>
 cs.length=n*sz∧n≤c∧(c=0∨∃ b pre post,ad=some ⟨b,pre.length,none⟩∧(c-n)*sz≤post.length∧blk b e (pre++cs++post) h)
class PickSl (L:List SP)(ad:Option Addr)(n c e sz:outParam Nat)(cs:outParam (List Value))(R:outParam (List SP)):Prop where perm:L.Perm (Sl e sz ad n c cs::R)
instance PickSl.head {L ad n c e sz cs}:PickSl (Sl e sz ad n c cs::L) ad n c e sz cs L:=⟨List.Perm.refl _⟩
instance (priority:=low) PickSl.tail {A L ad n c e sz cs R}[h:PickSl L ad n c e sz cs R]:PickSl (A::L) ad n c e sz cs (A::R) :=
 ⟨(List.Perm.cons A h.perm).trans (List.Perm.swap _ _ _)⟩
class Pick (L:List SP)(A:SP)(R:outParam (List SP)):Prop where perm:L.Perm (A::R)
instance Pick.head {A L}:Pick (A::L) A L:=⟨List.Perm.refl _⟩
instance (priority:=low) Pick.tail {B L A R}[h:Pick L A R]:Pick (B::L) A (B::R):=⟨(List.Perm.cons B h.perm).trans (List.Perm.swap _ _ _)⟩
class Arr (L M:List SP)(R:outParam (List SP)):Prop where perm:L.Perm (M++R)
instance Arr.nil {L}:Arr L [] L:=⟨List.Perm.refl _⟩
instance (priority:=high) Arr.refl {L}:Arr L L []:=⟨by simp⟩
instance (priority:=low) Arr.skip {A L M R}[h:Arr L M R]:Arr (A::L) M (A::R):=⟨(List.Perm.cons A h.perm).trans (by
 have:=List.perm_middle (a:=A) (l₁:=M) (l₂:=R)
 exact this.symm)⟩
instance Arr.cons {L A M R R'}[h:Pick L A R][k:Arr R M R']:Arr L (A::M) R':=⟨h.perm.trans (List.Perm.cons A k.perm)⟩
section
variable {P:Program}{W w:World}{L R:List SP}{e sz n c:Nat}{ad:Option Addr}{cs:List Value}
theorem St.pick (s:St W w L)(A:SP)[k:Pick L A R]:St W w (A::R):=s.perm k.perm
theorem St.arr {M:List SP}(s:St W w L)[k:Arr L M R]:St W w (M++R):=s.perm k.perm
theorem St.sub {M:List SP}(s:St W w L)[k:Arr L M R]:St W w M:=by
 have:=(s.perm k.perm).perm (List.perm_append_comm)
 exact this.drop
theorem St.sl (s:St W w L)(ad:Option Addr)[k:PickSl L ad n c e sz cs R]:cs.length=n*sz∧n≤c:=(s.perm k.perm).tell λ_ h=>⟨h.1,h.2.1⟩
theorem St.slOpen (s:St W w (Sl e sz ad n c cs::L))(h0:0<c):∃ b pre post,(cs.length=n*sz∧n≤c∧ad=some ⟨b,List.length pre,none⟩∧(c-n)*sz≤List.length post)∧St W w (blk b e (pre++cs++post)::L):=by
 obtain⟨⟨b,pre,post⟩,h1,h2⟩:=s.exi (ι:=Nat×List Value×List Value) (p:=λi=>cs.length=n*sz∧n≤c∧ad=some ⟨i.1,i.2.1.length,none⟩∧(c-n)*sz≤i.2.2.length)
   (B:=λi=>blk i.1 e (i.2.1++cs++i.2.2)) (λh hx=>by
     obtain⟨a1,a2,a3⟩:=hx
     rcases a3 with a3 | ⟨b,pre,post,x,y,z⟩
     · omega
     · exact⟨⟨b,pre,post⟩,⟨a1,a2,x,y⟩,z⟩)
 exact⟨b,pre,post,h1,h2⟩
theorem St.slShut {b:Nat}{pre post:List Value}(s:St W w (blk b e (pre++cs++post)::L))(h1:cs.length=n*sz)(h2:n≤c)(h3:(c-n)*sz≤post.length) :
   St W w (Sl e sz (some ⟨b,pre.length,none⟩) n c cs::L) :=
 St.imp s λ_ ⟨h1',h2',d,a,k,x,q⟩=>⟨h1',h2',d,a,k,⟨h1,h2,.inr ⟨b,pre,post,rfl,h3,x⟩⟩,q⟩
theorem St.sl0 (s:St W w L)(e sz:Nat)(ad:Option Addr):St W w (Sl e sz ad 0 0 []::L) :=
 ⟨s.below,let ⟨h,p,q⟩:=s.sat;⟨h,p,λ_=>none,h,λ_=>.inl rfl,λ_ _ e=>(by cases e),Hp.Sub.refl _,⟨by simp,Nat.le_refl _,.inl rfl⟩,q⟩⟩
theorem St.slRd (s:St W w L)(ad:Option Addr)[k:PickSl L ad n c e sz cs R](h0:0<n):∃ b off,ad=some ⟨b,off,none⟩∧Rd w b off cs:=by
 have s':=s.perm k.perm
 have hn:=s.sl ad
 obtain⟨b,pre,post,⟨h1,h2,h3,h4⟩,s2⟩:=s'.slOpen (by omega)
 refine⟨b,pre.length,h3,λj v hj=>?_⟩
 rw[s2.cell]
 have:j<cs.length:=by
   rcases Nat.lt_or_ge j cs.length with h | h
   · exact h
   · rw[List.getElem?_eq_none h]at hj;cases hj
 rw[List.getElem?_append_left (by simp;omega),List.getElem?_append_right (by omega)]
 simpa using hj
theorem St.slRdAt (s:St W w L)(b:Nat)(off:Nat)[k:PickSl L (some ⟨b,off,none⟩) n c e sz cs R](h0:0<n):Rd w b off cs:=by
 obtain⟨b2,off2,h,hr⟩:=s.slRd (some ⟨b,off,none⟩) h0
 cases h;exact hr
theorem Rd.part {b off:Nat}{vs:List Value}(h:Rd w b off vs)(i m:Nat):Rd w b (off+i) ((vs.drop i).take m):=by
 intro j v hj
 rw[List.getElem?_take]at hj
 by_cases hm:j<m
 · rw[if_pos hm,List.getElem?_drop]at hj
   have:=h _ _ hj
   rwa [← Nat.add_assoc]at this
 · rw[if_neg hm]at hj;cases hj
theorem zero_size (e:TypeId){z:Value}{by':Nat}(hz:z.cells.size=sz)(m:Nat):(Builtin.zeroCells z.cells m).toList.length=m*sz:=by
 rw[Array.length_toList,size_zeroCells,hz]
theorem run_append_sl {t ty:TypeId}{z:Value}{by':Nat}(ht:P.underlying t=some (.slice e))(hi:TI P e z sz by')(hz:z.cells.size=sz)(s:St W w (Sl e sz ad n c cs::L))
   (hnil:ad=none→c=0) {b2 off2 m c2:Nat} {news:List Value} (hr:Rd w b2 off2 news) (hl:news.length=m*sz) (h1:∀ v∈news,v.oneCell'=true) (hm:0<m) (hb:0<by') (hsz:(n+m)*by'≤140737488355328) :
   ∃ ad' c' w',(Builtin.append_ #[t,t] ty #[.slice ad n c,.slice (some ⟨b2,off2,none⟩) m c2]).run P w=.ok (.slice ad' (n+m) c') w'∧St W w' (Sl e sz ad' (n+m) c' (cs++news)::L)∧(ad'=none→c'=0):=by
 obtain⟨i,hi1,hi2,hi3,hi4⟩:=info_parts hi.h
 have hsl:=s.sl ad
 have hn63:n+m≤140737488355328:=Nat.le_trans (Nat.le_mul_of_pos_right _ hb) hsz
 have hnews:∀ j v,news[j]?=some v→w.cell? ((⟨b2,off2,none⟩:Addr).add j)=some v:=λj v hj=>by rw[add_off];exact hr j v hj
 by_cases hfit:n+m≤c
 · obtain⟨b,pre,post,⟨a1,a2,rfl,a4⟩,s2⟩:=s.slOpen (by omega)
   have hpl:(c-n)*sz ≥ m*sz:=Nat.mul_le_mul_right _ (by omega)
   have hf:=run_firstCells_some (P:=P) w i.size m ⟨b2,off2,none⟩ m c2 news (by rw[hi3];exact hl) hnews
   have hst:=run_storeCells_at (P:=P) b (pre.length+n*sz) e news 0 (pre++cs++post).toArray w s2.has.2 (by simp;omega) h1
   have e1:(pre++cs++post).take (pre.length+n*sz)=pre++cs:=by rw[← a1,← List.length_append,List.take_left]
   have e2:(pre++cs++post).drop (pre.length+n*sz+0+news.length)=post.drop news.length:=by
     rw[← a1,Nat.add_zero,← List.length_append,← List.drop_drop,List.drop_left]
   refine⟨some ⟨b,pre.length,none⟩,c,w.setRow b (pre++(cs++news)++post.drop news.length).toArray,?_,?_,λh=>by cases h⟩
   · have hst2:(storeCells ⟨b,pre.length+n*sz,none⟩ news 0).run P w=.ok () (w.setRow b (((pre++cs++post).take (pre.length+n*sz)++news)++(pre++cs++post).drop (pre.length+n*sz+0+news.length)).toArray):=hst
     rw[e1,e2]at hst2
     simp[Builtin.append_,run_underlying ht,sizeOf,typeInfo,hi1,Builtin.lenOf,hfit,add_off,hi3]
     rw[hi3]at hf
     simp[hf,hst2,List.append_assoc]
   · refine St.slShut (pre:=pre) (post:=post.drop news.length) s2.setRow (by simp;rw[hl,a1,Nat.add_mul]) (by omega) ?_
     simp only[List.length_drop]
     have:(c-(n+m))*sz=(c-n)*sz-m*sz:=by rw[← Nat.sub_mul];congr 1;omega
     omega
 · have hgz:(Builtin.zeroCells z.cells (grownCap w (n+m) c e-(n+m))).toList.length=(grownCap w (n+m) c e-(n+m))*sz:=zero_size e (by':=by') hz _
   have hge:=grownCap_ge w (n+m) c e
   have hnx:Builtin.nextslicecap (n+m) c*i.bytes≤281474976710656:=by rw[hi4];exact growslice_fits (by omega) hsz
   have done : ∀ old : List Value, old = cs → St W (w.drew.alloc (.cells (old.toArray ++ news.toArray ++ Builtin.zeroCells z.cells (grownCap w (n + m) c e - (n + m))) e))
       (Sl e sz (some ⟨w.heap.size,0,none⟩) (n+m) (grownCap w (n+m) c e) (cs++news)::L):=by
     intro old ho
     have s3:=(s.tail.drew).alloc (.cells (old.toArray++news.toArray++Builtin.zeroCells z.cells (grownCap w (n+m) c e-(n+m))) e)
     have s4 : St W (w.drew.alloc (.cells (old.toArray ++ news.toArray ++ Builtin.zeroCells z.cells (grownCap w (n + m) c e - (n + m))) e))
         (blk w.heap.size e ([]++(cs++news)++(Builtin.zeroCells z.cells (grownCap w (n+m) c e-(n+m))).toList)::L):=by
       have:(old.toArray++news.toArray++Builtin.zeroCells z.cells (grownCap w (n+m) c e-(n+m)))=([]++(cs++news)++(Builtin.zeroCells z.cells (grownCap w (n+m) c e-(n+m))).toList).toArray:=by
         apply Array.ext';simp[ho]
       rw[this]at s3 ⊢
       exact s3
     exact St.slShut (pre:=[]) s4 (by simp;rw[hl,hsl.1,Nat.add_mul]) hge (by omega)
   by_cases hc:c=0
   · subst hc
     have hn0:n=0:=by omega
     subst hn0
     have hcs:cs=[]:=List.eq_nil_of_length_eq_zero (by rw[hsl.1];simp)
     subst hcs
     cases ad with
     | none =>
       have:=run_append_nil (P:=P) w t ty e i z ht hi1 hi2 ⟨b2,off2,none⟩ m c2 news (by rw[hi3];exact hl) hnews hm (by omega) (by rw[hi4];rw[Nat.zero_add]at hsz;omega)
       refine⟨_,_,_,by simpa using this,?_,λh=>by cases h⟩
       have:=done [] rfl
       simpa using this
     | some b =>
       have:=run_append_grow (P:=P) w t ty e i z ht hi1 hi2 b 0 0 [] (by simp) (λj v hj=>by simp at hj) ⟨b2,off2,none⟩ m c2 news (by rw[hi3];exact hl) hnews (by omega) (by omega) hnx
       refine⟨_,_,_,by simpa using this,?_,λh=>by cases h⟩
       have:=done [] rfl
       simpa using this
   · obtain⟨b,pre,post,⟨a1,a2,rfl,a4⟩,s2⟩:=s.slOpen (by omega)
     have holds:∀ j v,cs[j]?=some v→w.cell? ((⟨b,pre.length,none⟩:Addr).add j)=some v:=by
       intro j v hj
       rw[add_off,s2.cell]
       have:j<cs.length:=by
         rcases Nat.lt_or_ge j cs.length with h | h
         · exact h
         · rw[List.getElem?_eq_none h]at hj;cases hj
       rw[List.getElem?_append_left (by simp;omega),List.getElem?_append_right (by omega)]
       simpa using hj
     have:=run_append_grow (P:=P) w t ty e i z ht hi1 hi2 ⟨b,pre.length,none⟩ n c cs (by rw[hi3];exact a1) holds ⟨b2,off2,none⟩ m c2 news (by rw[hi3];exact hl) hnews (by omega) (by omega) hnx
     exact⟨_,_,_,this,done cs rfl,λh=>by cases h⟩
def cutAd (ad:Option Addr)(lo c sz:Nat):Option Addr:=if c=lo then ad else ad.map (·.add (lo*sz))
theorem cutAd_some {b o lo c sz:Nat}(h:c≠lo):cutAd (some ⟨b,o,none⟩) lo c sz=some ⟨b,o+lo*sz,none⟩:=by simp[cutAd,h,add_off]
theorem St.slCut (s:St W w (Sl e sz ad n c cs::L)){lo hi:Nat}(h1:lo≤hi)(h2:hi≤n) :
   St W w (Sl e sz (cutAd ad lo c sz) (hi-lo) (c-lo) ((cs.drop (lo*sz)).take ((hi-lo)*sz))::L):=by
 have hsl:=s.sl ad
 have hm1:(hi-lo)*sz+lo*sz=hi*sz:=by rw[← Nat.add_mul];congr 1;omega
 have hm2:hi*sz≤n*sz:=Nat.mul_le_mul_right _ h2
 have hlen:((cs.drop (lo*sz)).take ((hi-lo)*sz)).length=(hi-lo)*sz:=by simp;omega
 by_cases hc:c=lo
 · have hz:hi-lo=0:=by omega
   have hz2:c-lo=0:=by omega
   rw[hz,hz2]
   simp only[Nat.zero_mul,List.take_zero]
   exact s.tail.sl0 e sz _
 · obtain⟨b,pre,post,⟨a1,a2,rfl,a4⟩,s2⟩:=s.slOpen (by omega)
   have he:pre++cs++post=(pre++cs.take (lo*sz))++((cs.drop (lo*sz)).take ((hi-lo)*sz))++(cs.drop (hi*sz)++post):=by
     have e1:cs=cs.take (lo*sz)++(cs.drop (lo*sz)).take ((hi-lo)*sz)++cs.drop (hi*sz):=by
       have:cs.drop (hi*sz)=(cs.drop (lo*sz)).drop ((hi-lo)*sz):=by rw[List.drop_drop];congr 1;omega
       rw[this,List.append_assoc,List.take_append_drop,List.take_append_drop]
     conv=>lhs;rw[e1]
     simp[List.append_assoc]
   rw[he]at s2
   have hpl:(pre++cs.take (lo*sz)).length=pre.length+lo*sz:=by simp;omega
   have:=St.slShut (n:=hi-lo) (c:=c-lo) (sz:=sz) s2 hlen (by omega) (by
     simp only[List.length_append,List.length_drop]
     have:(c-lo-(hi-lo))*sz=(c-n)*sz+(n*sz-hi*sz):=by rw[← Nat.sub_mul,← Nat.add_mul];congr 1;omega
     omega)
   rw[hpl]at this
   simpa [cutAd,hc,add_off] using this
theorem St.cutSl (s:St W w L)(ad:Option Addr)(lo hi:Nat)[k:PickSl L ad n c e sz cs R](h1:lo≤hi)(h2:hi≤n) :
   St W w (Sl e sz (cutAd ad lo c sz) (hi-lo) (c-lo) ((cs.drop (lo*sz)).take ((hi-lo)*sz))::R):=(s.perm k.perm).slCut h1 h2
end
section
variable {P:Program}{ops:Array Oper}{Q:Exit→Act→World→Prop}{a:Act}{w w' W:World}{K:Act→World→Prop}{o:Oper}{n d:Nat}{l:List (Nat×Value)}{v:Value}{L R:List SP}
theorem elem_of {t el:TypeId}(ht:P.underlying t=some (.slice el)):P.underlying t=some (.slice (P.elem t))∧P.elem t=el:=by
 constructor <;> simp[Program.elem,ht]
theorem ex_sliceL {x y k i j ad m c t el z sz by' dst ty ps af g}(ha:Fr a n l)(ht:P.underlying t=some (.slice el))(hi:TI P el z sz by')[ev:Ev l x (.slice ad m c)][ey:Ev l y (.int k i)][nj:NatOf i j](h:j≤m) :
   (execOp a.eval ⟨dst,.slice t x (some y) none none,ty,ps,af,g⟩).run P w=.ok (.value (.slice (cutAd ad j c sz) (m-j) (c-j))) w:=by
 have hj:=nj.h
 subst hj
 have e1:=(elem_of ht).1
 have e2:=(elem_of ht).2
 have:=run_slice_l (P:=P) (w:=w) t ad m c e1 k (j:Int) (by omega) (by omega)
 rw[e2,run_size hi]at this
 simp only[Result.andThen_ok,Int.toNat_natCast]at this
 simp[execOp,ev.ev a n ha,ey.ev a n ha,run_sliceAt_slice (P:=P) (w:=w) t _ _ _ _ e1,this,sliced,cutAd]
theorem ex_sliceH {x y k i j ad m c t el z sz by' dst ty ps af g}(ha:Fr a n l)(ht:P.underlying t=some (.slice el))(hi:TI P el z sz by')[ev:Ev l x (.slice ad m c)][ey:Ev l y (.int k i)][nj:NatOf i j](h:j≤c) :
   (execOp a.eval ⟨dst,.slice t x none (some y) none,ty,ps,af,g⟩).run P w=.ok (.value (.slice (cutAd ad 0 c sz) (j-0) (c-0))) w:=by
 have hj:=nj.h
 subst hj
 have e1:=(elem_of ht).1
 have e2:=(elem_of ht).2
 have:=run_slice_h (P:=P) (w:=w) t ad m c e1 k (j:Int) (by omega) (by omega)
 rw[e2,run_size hi]at this
 simp only[Result.andThen_ok,Int.toNat_natCast]at this
 simp[execOp,ev.ev a n ha,ey.ev a n ha,run_sliceAt_slice (P:=P) (w:=w) t _ _ _ _ e1,this,sliced,cutAd]
theorem ex_sliceLH {x y u k k' i i' j j' ad m c t el z sz by' dst ty ps af g}(ha:Fr a n l)(ht:P.underlying t=some (.slice el))(hi:TI P el z sz by')[ev:Ev l x (.slice ad m c)][ey:Ev l y (.int k i)][eu:Ev l u (.int k' i')][nj:NatOf i j][nj':NatOf i' j'](h:j≤j')(h':j'≤c) :
   (execOp a.eval ⟨dst,.slice t x (some y) (some u) none,ty,ps,af,g⟩).run P w=.ok (.value (.slice (cutAd ad j c sz) (j'-j) (c-j))) w:=by
 have hj:=nj.h
 subst hj
 have hj':=nj'.h
 subst hj'
 have e1:=(elem_of ht).1
 have e2:=(elem_of ht).2
 have:=run_slice_lh (P:=P) (w:=w) t ad m c e1 k k' (j:Int) (j':Int) (by omega) (by omega) (by omega)
 rw[e2,run_size hi]at this
 simp only[Result.andThen_ok,Int.toNat_natCast]at this
 simp[execOp,ev.ev a n ha,ey.ev a n ha,eu.ev a n ha,run_sliceAt_slice (P:=P) (w:=w) t _ _ _ _ e1,this,sliced,cutAd]
theorem ex_append {s x t z by' b2 off2 m c2 news e sz ad k c dst ty ps af g}{cs:List Value}(ha:Fr a n l)(hs:St W w L)(ht:P.underlying t=some (.slice e))(hi:TI P e z sz by')(hz:z.cells.size=sz)
   [e1:Ev l s (.slice ad k c)] [pk:PickSl L ad k c e sz cs R] [e2:Ev l x (.slice (some ⟨b2,off2,none⟩) m c2)] (hr:Rd w b2 off2 news) (hl:news.length=m*sz) (h1:∀ v∈news,v.oneCell'=true) (hm:0<m) (hb:0<by')
   (hsz:(k+m)*by'≤140737488355328) :
   ∃ ad' c' w',(execOp a.eval ⟨dst,.call ⟨.builtin .append,#[s,x],#[t,t]⟩,ty,ps,af,g⟩).run P w=.ok (.value (.slice ad' (k+m) c')) w'∧St W w' (Sl e sz ad' (k+m) c' (cs++news)::R):=by
 have hs':=hs.perm pk.perm
 have hnil:ad=none→c=0:=hs'.tell λ_ hx=>by
   rintro rfl
   rcases hx.2.2 with h | ⟨_,_,_,h,_⟩
   · exact h
   · cases h
 obtain⟨ad',c',w',h2,h3,_⟩:=run_append_sl (P:=P) (ty:=ty) ht hi hz hs' hnil (c2:=c2) hr hl h1 hm hb hsz
 exact⟨ad',c',w',by simp[execOp,resolve,e1.ev a n ha,e2.ev a n ha,invoke,builtin,h2],h3⟩
theorem st_append {s x t z by' b2 off2 m c2 news e sz ad k c ty ps af g}{cs:List Value}(ha:Fr a n l)(hw:Region.wanted ⟨some d,.call ⟨.builtin .append,#[s,x],#[t,t]⟩,ty,ps,af,g⟩ (yielded ops a.tmps)=true)(hs:St W w L)
   (ht:P.underlying t=some (.slice e)) (hi:TI P e z sz by') (hz:z.cells.size=sz) (hf:okB d n l=true)
   [e1:Ev l s (.slice ad k c)] [pk:PickSl L ad k c e sz cs R] [e2:Ev l x (.slice (some ⟨b2,off2,none⟩) m c2)] (hr:Rd w b2 off2 news) (hl:news.length=m*sz) (h1:∀ v∈news,v.oneCell'=true) (hm:0<m) (hb:0<by')
   (hsz:(k+m)*by'≤140737488355328)
   (h:∀ ad' c' a' w',Fr a' n ((d,.slice ad' (k+m) c')::l)→St W w' (Sl e sz ad' (k+m) c' (cs++news)::R)→K a' w') :
   StepK P ops Q ⟨some d,.call ⟨.builtin .append,#[s,x],#[t,t]⟩,ty,ps,af,g⟩ K a w:=by
 obtain⟨ad',c',w',h2,h3⟩:=ex_append (P:=P) (dst:=some d) (ty:=ty) (ps:=ps) (af:=af) (g:=g) ha hs ht hi hz (s:=s) (x:=x) hr hl h1 hm hb hsz
 exact st_set ha hw h2 hf λa' ha'=>h _ _ a' _ ha' h3
class EvP (l:List (Nat×Value))(parts:List (Nat×Operand))(i:Nat)(css:outParam (List (List Value))):Prop where
 h:∀ a n,Fr a n l→∃ vs:List Value,parts.map (λp=>(p.1,a.eval p.2))=(List.range' i css.length).zip vs∧vs.map (·.cells)=css.map (·.toArray)
instance EvP.nil {l i}:EvP l [] i []:=⟨λ_ _ _=>⟨[],rfl,rfl⟩⟩
instance EvP.cons {l i o v c ps css}[h1:Ev l o v][h2:Cells v c][h3:EvP l ps (i+1) css]:EvP l ((i,o)::ps) i (c::css):=⟨λa n ha=>by
 obtain⟨vs,e1,e2⟩:=h3.h a n ha
 exact⟨v::vs,by simp[List.range'_succ,e1,h1.ev a n ha],by simp[e2,h2.h]⟩⟩
theorem foldl_set (c:List Value):∀ (k:Nat) (off:Nat) (cells:List Value),off+k+c.length≤cells.length →
   (c.zipIdx k).foldl (λ(cs:Array Value) (p:Value×Nat)=>cs.setIfInBounds (off+p.2) p.1) cells.toArray=(cells.take (off+k)++c++cells.drop (off+k+c.length)).toArray:=by
 induction c with
 | nil=>intro k off cells h;simp
 | cons x c ih =>
   intro k off cells h
   simp only[List.length_cons]at h
   simp only[List.zipIdx_cons,List.foldl_cons,List.setIfInBounds_toArray]
   rw[ih (k+1) off (cells.set (off+k) x) (by simp;omega)]
   congr 1
   rw[List.set_eq_take_append_cons_drop,if_pos (by omega)]
   have hl:(cells.take (off+k)).length=off+k:=by simp;omega
   have e1:(cells.take (off+k)++x::cells.drop (off+k+1)).take (off+(k+1))=cells.take (off+k)++[x]:=by
     rw[List.take_append,hl,List.take_of_length_le (by omega)]
     congr 1
     rw[show off+(k+1)-(off+k)=1 from by omega];simp
   have e2:(cells.take (off+k)++x::cells.drop (off+k+1)).drop (off+(k+1)+c.length)=cells.drop (off+k+(c.length+1)):=by
     rw[List.drop_append,hl,List.drop_of_length_le (by rw[hl];omega),List.nil_append,show off+(k+1)+c.length-(off+k)=c.length+1 from by omega,List.drop_succ_cons,List.drop_drop]
     congr 1;omega
   rw[e1,e2];simp
theorem fill_row {sz:Nat}:∀ (css:List (List Value)) (vs:List Value) (i:Nat) (pre rst:List Value),vs.map (·.cells)=css.map (·.toArray)→(∀ c∈css,c.length=sz)→pre.length=i*sz→rst.length=css.length*sz →
   Instr.fill (λi=>some (i*sz,sz)) (pre++rst).toArray ((List.range' i css.length).zip vs)=some (pre++css.flatten).toArray
 | [],vs,i,pre,rst,h,_,_,hr=>by
   have:rst=[]:=List.eq_nil_of_length_eq_zero (by simpa using hr)
   subst this;simp[Instr.fill]
 | c::css,[],_,_,_,h,_,_,_=>by simp at h
 | c::css,v::vs,i,pre,rst,h,hc,hp,hr=>by
   simp only[List.map_cons,List.cons.injEq]at h
   have hcl:=hc c (by simp)
   simp only[List.length_cons,Nat.succ_mul]at hr
   have hcs:v.cells.size=sz:=by rw[h.1];simpa using hcl
   have ih:=fill_row (sz:=sz) css vs (i+1) (pre++c) (rst.drop sz) h.2 (λx hx=>hc x (by simp[hx])) (by simp[hp,hcl,Nat.succ_mul]) (by simp;omega)
   simp only[List.length_cons,List.range'_succ,List.zip_cons_cons,Instr.fill]
   rw[if_neg (by simp[hcs,hp];omega)]
   have:=foldl_set c 0 (i*sz) (pre++rst) (by simp[hp];omega)
   have e1:(pre++rst).take (i*sz)=pre:=by rw[← hp,List.take_left]
   have e2:(pre++rst).drop (i*sz+c.length)=rst.drop sz:=by rw[← hp,← List.drop_drop,List.drop_left,hcl]
   simp only[Nat.add_zero]at this
   rw[e1,e2]at this
   have e3:(v.cells.zipIdx.foldl (λ(cs:Array Value) (x:Value×Nat)=>cs.setIfInBounds (i*sz+x.2) x.1) (pre++rst).toArray)=(pre++c++rst.drop sz).toArray:=by
     rw[h.1,← Array.foldl_toList,Array.toList_zipIdx]
     exact this
   have e4:=ih
   simp only[List.flatten_cons] at *
   rw[← List.append_assoc,← e4]
   congr 1
theorem st_buildSlice {t el z sz by' m parts css ty ps af g}(ha:Fr a n l)(hw:Region.wanted ⟨some d,.buildSlice t m (List.toArray parts),ty,ps,af,g⟩ (yielded ops a.tmps)=true)(hs:St W w L)(ht:P.underlying t=some (.slice el))
   (hi:TI P el z sz by') (hz:z.cells.size=sz) (hf:okB d n l=true) [ep:EvP l parts 0 css] (hm:css.length=m) (hc:(css.all λc=>c.length==sz)=true) (h24:m*sz≤16777216) (h0:0<m*sz)
   (h:∀ b a' w',Fr a' n ((d,.slice (some ⟨b,0,none⟩) m m)::l)→St W w' (blk b el css.flatten::L)→Old w w'→K a' w') :
   StepK P ops Q ⟨some d,.buildSlice t m (List.toArray parts),ty,ps,af,g⟩ K a w:=by
 obtain⟨vs,e1,e2⟩:=ep.h a n ha
 have hf2:=fill_row (sz:=sz) css vs 0 [] ((List.range (m*sz)).map (λi=>z.cells[i%z.cells.size]!)) e2 (λc hc'=>by simpa using List.all_eq_true.1 hc c hc') (by simp) (by simp[hm])
 simp only[List.nil_append]at hf2
 refine st_set (v:=.slice (some ⟨w.heap.size,0,none⟩) m m) (w':=w.alloc (.cells css.flatten.toArray el)) ha hw ?_ hf (λa' ha'=>h _ _ _ ha' (hs.alloc _) (Old.alloc _ _))
 have h24':¬ (16777216<m*sz):=by omega
 have h0':¬ (m*sz=0):=by omega
 have e3:(Array.range (m*sz)).map (λi=>z.cells[i%z.cells.size]!)=((List.range (m*sz)).map (λi=>z.cells[i%z.cells.size]!)).toArray:=by
   apply Array.ext';simp
 simp only[execOp,Sem.run_bind,Instr.buildSlice,run_underlying ht,Result.andThen_ok,run_size hi,List.map_toArray,e1,hm]
 simp only[hm]at hf2
 simp[h24',run_zero hi,e3,hf2,newRow,newObj,Sem.run,if_neg h0']
theorem st_storeS {t z by' x y b off k o' e sz m c cs v ty ps af g}(ha:Fr a n l)(hw:Region.wanted ⟨none,.store t x y,ty,ps,af,g⟩ (yielded ops a.tmps)=true)(hs:St W w L)
   (hi:TI P t z 1 by') [ev:Ev l x (.pointer (some ⟨b,o',none⟩))] [ew:Ev l y v] [kc:Cells v [v]] [pk:PickSl L (some ⟨b,off,none⟩) m c e sz cs R] (h1:v.oneCell'=true) (ho:o'=off+k) (hk:k<cs.length)
   (h:∀ a' w',Fr a' n l→St W w' (Sl e sz (some ⟨b,off,none⟩) m c (cs.set k v)::R)→K a' w'):StepK P ops Q ⟨none,.store t x y,ty,ps,af,g⟩ K a w:=by
 subst ho
 have hs1:=hs.perm pk.perm
 have hsl:=hs1.sl (some ⟨b,off,none⟩)
 have hc:0<c:=by
   rcases Nat.eq_zero_or_pos c with h0 | h0
   · have:m=0:=by omega
     subst this;rw[Nat.zero_mul]at hsl;omega
   · exact h0
 obtain⟨b2,pre,post,⟨a1,a2,a3,a4⟩,s2⟩:=hs1.slOpen hc
 cases a3
 refine st_store (cs:=pre++cs++post) (R:=R) ha hw s2 hi h1 (by simp only[List.length_append];omega) (λa' w' ha' hs'=>h a' w' ha' ?_)
 have e1:(pre++cs++post).set (pre.length+k) v=pre++cs.set k v++post:=by
   rw[List.append_assoc,List.set_append_right _ _ (by omega),show pre.length+k-pre.length=k from by omega,List.set_append_left _ _ hk,List.append_assoc]
 rw[e1]at hs'
 exact St.slShut hs' (by rw[List.length_set];exact a1) a2 a4
end
end
section
def wpN (P:Program)(ops:Array Oper)(Q:Exit→Act→World→Prop)(C:World→Prop)(need:List Nat):Nat→Array Bool→Act→World→Prop
 | 0,listed,a,w=>Region.ready .any ops listed=[]∧Q .normal a w
 | fuel+1,listed,a,w =>
   (Region.ready .any ops listed=[]→Q .normal a w) ∧
   ∀ i∈Region.ready .any ops listed,wpOp P ops Q i (λa' w'=>(need.contains i=true→C w')∧wpN P ops Q C need fuel (listed.setIfInBounds i true) a' w') a w
def maskOf (acc:List Nat)(es:List Edge):Nat:=es.foldl (λs e=>if Region.binds .any e then s ||| 2 ^ e.on ||| acc.getD e.on 0 else s) 0
def masks:List Oper→List Nat→List Nat
 | [],acc=>acc
 | o::r,acc=>masks r (acc++[maskOf acc o.after.toList])
def dcB (ops:Array Oper)(listed:Array Bool):Bool :=
 (List.range ops.size).all λj=>!listed.getD j false||match ops[j]? with
   | none=>true
   | some o=>o.after.all λe=>!Region.binds .any e||listed.getD e.on false
def DC (ops:Array Oper)(listed:Array Bool):Prop:=∀ j o,ops[j]?=some o→listed.getD j false=true→∀ e∈o.after,Region.binds .any e=true→listed.getD e.on false=true
def takeB (ops:Array Oper)(listed:Array Bool)(need:List Nat)(pure:Bool)(i:Nat):Bool :=
 Region.noSelect ops&&dcB ops listed&&(Region.ready .any ops listed).contains i&&match ops[i]? with
   | none=>false
   | some oi=>(List.range ops.size).all λj=>j==i||listed.getD j true||((masks ops.toList []).getD j 0).testBit i||match ops[j]? with
     | none=>true
     | some oj=>oi.apart ops oj&&(pure||need.contains j)
def lb (n m:Nat):Array Bool:=((List.range n).map m.testBit).toArray
def PanOk (Q:Exit→Act→World→Prop):Prop:=∀ c a (o:Option Tmp) v w,Q (.panic c) (a.put o v) w→Q (.panic c) a w
theorem pk_then {K Q}(h:PanOk Q):PanOk (Exit.then K Q):=h
theorem pk_blk {i Q}(h:PanOk Q):PanOk (Exit.inBlock i Q):=h
theorem pk_body {P fn X}:PanOk (bodyPost P fn X):=λc a o v w h=>by
 cases o <;> exact h
section
variable {P:Program}{ops:Array Oper}{Q:Exit→Act→World→Prop}{C:World→Prop}{need:List Nat}{a:Act}{w:World}{n d:Nat}{l:List (Nat×Value)}{v:Value}
theorem wpN_any:∀ (fuel:Nat) (listed:Array Bool) (a:Act) (w:World),wpN P ops Q C need fuel listed a w→wpAny P .any ops Q fuel listed a w
 | 0,_,_,_,h=>h
 | fuel+1,_,_,_,h=>⟨h.1,λi hi=>wpOp_mono (λa' w' h'=>wpN_any fuel _ a' w' h'.2) (h.2 i hi)⟩
theorem dc_of {listed:Array Bool}(h:dcB ops listed=true):DC ops listed:=by
 intro j o hj hl e he hb
 have hlt:j<ops.size:=(Array.getElem?_eq_some_iff.1 hj).1
 have h1:=List.all_eq_true.1 h j (List.mem_range.2 hlt)
 simp only[hl,hj,Bool.not_true,Bool.false_or]at h1
 have h2:=Array.all_eq_true_iff_forall_mem.1 h1 e he
 simpa [hb] using h2
theorem DC.set {listed:Array Bool}(h:DC ops listed){i:Nat}(hi:i∈Region.ready .any ops listed):DC ops (listed.setIfInBounds i true):=by
 intro j o hj hl e he hb
 obtain⟨_,oi,hoi,hall⟩:=mem_ready.1 hi
 by_cases hji:j=i
 · subst hji
   rw[hoi]at hj;cases hj
   exact getD_set_true (hall e he hb)
 · rw[getD_set_ne false (Ne.symm hji)]at hl
   exact getD_set_true (h j o hj hl e he hb)
theorem maskOf_bit {acc:List Nat}{i:Nat}:∀ (es:List Edge) (s:Nat),(es.foldl (λs e=>if Region.binds .any e then s ||| 2 ^ e.on ||| acc.getD e.on 0 else s) s).testBit i=true →
   s.testBit i=true∨∃ e∈es,Region.binds .any e=true∧(e.on=i∨(acc.getD e.on 0).testBit i=true)
 | [],s,h=>.inl h
 | e::es,s,h=>by
   simp only[List.foldl_cons]at h
   rcases maskOf_bit es _ h with h1 | ⟨x,hx,hb,hi⟩
   · cases hb:Region.binds .any e with
     | false=>rw[hb]at h1;exact .inl (by simpa using h1)
     | true =>
       rw[hb,if_pos rfl]at h1
       simp only[Nat.testBit_or,Bool.or_eq_true,Nat.testBit_two_pow,decide_eq_true_eq]at h1
       rcases h1 with (h1 | h1) | h1
       · exact .inl h1
       · exact .inr ⟨e,List.mem_cons_self,hb,.inl h1⟩
       · exact .inr ⟨e,List.mem_cons_self,hb,.inr h1⟩
   · exact .inr ⟨x,List.mem_cons_of_mem _ hx,hb,hi⟩
theorem masks_in {listed:Array Bool}(h:DC ops listed):∀ (r:List Oper) (acc:List Nat),(∀ j,r[j]?=ops[acc.length+j]?) →
   (∀ k,k<acc.length→(∀ o,ops[k]?=some o→∀ e∈o.after,Region.binds .any e=true→listed.getD e.on false=true)→∀ i,(acc.getD k 0).testBit i=true→listed.getD i false=true) →
   ∀ k,(∀ o,ops[k]?=some o→∀ e∈o.after,Region.binds .any e=true→listed.getD e.on false=true)→∀ i,((masks r acc).getD k 0).testBit i=true→listed.getD i false=true
 | [],acc,_,hinv,k,hk,i,hb=>by
   rcases Nat.lt_or_ge k acc.length with hlt | hge
   · exact hinv k hlt hk i hb
   · simp[masks,List.getD_eq_getElem?_getD,List.getElem?_eq_none hge]at hb
 | o::r,acc,hr,hinv,k,hk,i,hb=>by
   refine masks_in h r (acc++[maskOf acc o.after.toList]) (λj=>?_) ?_ k hk i hb
   · have:=hr (j+1)
     simp only[List.getElem?_cons_succ]at this
     rw[this];congr 1;simp;omega
   · intro k' hk' hk2 i' hb'
     simp only[List.length_append,List.length_cons,List.length_nil]at hk'
     rcases Nat.lt_or_ge k' acc.length with hlt | hge
     · rw[List.getD_eq_getElem?_getD,List.getElem?_append_left hlt,← List.getD_eq_getElem?_getD]at hb'
       exact hinv k' hlt hk2 i' hb'
     · obtain rfl:k'=acc.length:=by omega
       rw[List.getD_eq_getElem?_getD,List.getElem?_append_right (Nat.le_refl _)]at hb'
       simp only[Nat.sub_self,List.getElem?_cons_zero,Option.getD_some]at hb'
       have ho:ops[acc.length]?=some o:=by have:=hr 0;simpa using this.symm
       rcases maskOf_bit _ _ hb' with h1 | ⟨e,he,hbd,h1⟩
       · simp at h1
       · have hle:=hk2 o ho e (Array.mem_toList_iff.1 he) hbd
         rcases h1 with h1 | h1
         · rw[← h1];exact hle
         · rcases Nat.lt_or_ge e.on acc.length with hlt | hge2
           · exact hinv e.on hlt (λo' ho' e' he' hb2=>h e.on o' ho' hle e' he' hb2) i' h1
           · simp[List.getD_eq_getElem?_getD,List.getElem?_eq_none hge2]at h1
theorem not_waits {listed:Array Bool}(h:DC ops listed){i:Nat}(hi:listed.getD i false=false)(k:Nat)(hk:∀ o,ops[k]?=some o→∀ e∈o.after,Region.binds .any e=true→listed.getD e.on false=true) :
   ((masks ops.toList []).getD k 0).testBit i=false:=by
 cases hb:((masks ops.toList []).getD k 0).testBit i with
 | false=>rfl
 | true =>
   have:=masks_in h ops.toList [] (λj=>by simp) (λk hk=>by simp at hk) k hk i hb
   rw[hi]at this;cases this
theorem wpN_first {T:World→Prop}{i:Nat}{oi:Oper}(hi:ops[i]?=some oi)(hs:Region.noSelect ops=true)(hQ:PanOk Q) :
   ∀ (fuel:Nat) (listed:Array Bool) (a:Act) (w:World),
     (∀ j oj,ops[j]?=some oj→j≠i→listed.getD j true=false→((masks ops.toList []).getD j 0).testBit i=false→oi.apart ops oj=true∧∀ w',(need.contains j=true→C w')→T w') →
     DC ops listed→i∈Region.ready .any ops listed→YieldsIf P ops T oi v a→T w→(∀ w',T w'→need.contains i=true→C w') →
     wpN P ops Q C need fuel (listed.setIfInBounds i true) (a.put oi.dst v) w→wpN P ops Q C need (fuel+1) listed a w:=by
 have hsel:=Region.noSelect_spec hs
 intro fuel
 induction fuel with
 | zero =>
   intro listed a w _ _ hr hy hT hTC H
   refine⟨λh=>(by rw[h]at hr;cases hr),λj hj=>?_⟩
   by_cases hji:j=i
   · subst hji;exact hy.wpOp hi hT ⟨hTC w hT,H⟩
   · have:=ready_mono hj hji
     rw[H.1]at this
     cases this
 | succ fuel ih =>
   intro listed a w hfree hdc hr hy hT hTC H
   refine⟨λh=>(by rw[h]at hr;cases hr),λj hj=>?_⟩
   by_cases hji:j=i
   · subst hji;exact hy.wpOp hi hT ⟨hTC w hT,H⟩
   · have h1:=H.2 j (ready_mono hj hji)
     obtain⟨hjun,oj,hoj,hall⟩:=mem_ready.1 hj
     have hiun:listed.getD i false=false:=by
       have h0:=(mem_ready.1 hr).1
       rcases Nat.lt_or_ge i listed.size with h' | h'
       · simp[h']at h0 ⊢;exact h0
       · simp[Array.getElem?_eq_none h']
     have hnw:=not_waits hdc hiun j (λo ho e he hb=>by rw[hoj]at ho;cases ho;exact hall e he hb)
     obtain⟨hap,hst⟩:=hfree j oj hoj hji hjun hnw
     have h2:=wpOp_putIf (S:=T) hoj hap (λcs b=>hsel i oi cs b hi) (λcs b=>hsel j oj cs b hoj) (λc a w=>hQ c a oi.dst v w) hy h1
     have hfree':∀ k ok,ops[k]?=some ok→k≠i→(listed.setIfInBounds j true).getD k true=false→((masks ops.toList []).getD k 0).testBit i=false→oi.apart ops ok=true∧∀ w',(need.contains k=true→C w')→T w':=λk ok hk hki hun hno=>by
       refine hfree k ok hk hki ?_ hno
       by_cases hjk:j=k
       · subst hjk;exact hjun
       · rw[getD_set_ne true hjk]at hun;exact hun
     refine wpOp_mono (λa' w' h3=>⟨h3.2.1,ih (listed.setIfInBounds j true) a' w' hfree' (hdc.set hj) (ready_mono hr (Ne.symm hji)) h3.1 (hst w' h3.2.1) hTC ?_⟩) h2
     rw[Array.setIfInBounds_comm _ _ hji]
     exact h3.2.2
theorem wpN_pure {i fuel:Nat}{listed:Array Bool}{oi:Oper}(hi:ops[i]?=some oi)(ht:takeB ops listed need true i=true)(hn:need.contains i=false)(hQ:PanOk Q)
   (hy:YieldsIf P ops (λ_=>True) oi v a)
   (h:wpN P ops Q C need fuel (listed.setIfInBounds i true) (a.put oi.dst v) w):wpN P ops Q C need (fuel+1) listed a w:=by
 simp only[takeB,hi,Bool.and_eq_true,List.all_eq_true,List.mem_range]at ht
 obtain⟨⟨⟨h1,h2⟩,h3⟩,h4⟩:=ht
 refine wpN_first (T:=λ_=>True) hi h1 hQ fuel listed a w (λj oj hj hne hun hnw=>?_) (dc_of h2) (by simpa using h3) hy trivial (λ_ _ h=>by rw[hn]at h;cases h) h
 have h5:=h4 j (Array.getElem?_eq_some_iff.1 hj).1
 simp only[hj,hnw,hun,Bool.or_eq_true,beq_iff_eq,hne,Bool.false_eq_true,Bool.and_eq_true,false_or,or_false]at h5
 exact⟨h5.1,λ_ _=>trivial⟩
theorem wpN_held {i fuel:Nat}{listed:Array Bool}{oi:Oper}(hi:ops[i]?=some oi)(ht:takeB ops listed need false i=true)(hQ:PanOk Q)
   (hy:YieldsIf P ops C oi v a) (hC:C w)
   (h:wpN P ops Q C need fuel (listed.setIfInBounds i true) (a.put oi.dst v) w):wpN P ops Q C need (fuel+1) listed a w:=by
 simp only[takeB,hi,Bool.and_eq_true,List.all_eq_true,List.mem_range]at ht
 obtain⟨⟨⟨h1,h2⟩,h3⟩,h4⟩:=ht
 refine wpN_first (T:=C) hi h1 hQ fuel listed a w (λj oj hj hne hun hnw=>?_) (dc_of h2) (by simpa using h3) hy hC (λ_ h _=>h) h
 have h5:=h4 j (Array.getElem?_eq_some_iff.1 hj).1
 simp only[hj,hnw,hun,Bool.or_eq_true,beq_iff_eq,hne,Bool.false_eq_true,Bool.and_eq_true,false_or,or_false]at h5
 exact⟨h5.1,λw' hw'=>hw' h5.2⟩
theorem nt_pure {i fuel:Nat}{listed listed':Array Bool}(hl:listed.setIfInBounds i true=listed') {op ty ps af g}(hi:ops[i]?=some ⟨some d,op,ty,ps,af,g⟩)(ht:takeB ops listed need true i=true)(hn:need.contains i=false)(hQ:PanOk Q)
   (ha:Fr a n l) (hw:Region.wanted ⟨some d,op,ty,ps,af,g⟩ (yielded ops a.tmps)=true) (hr:∀ w,(execOp a.eval ⟨some d,op,ty,ps,af,g⟩).run P w=.ok (.value v) w) (hf:okB d n l=true)
   (h:∀ a',Fr a' n ((d,v)::l)→wpN P ops Q C need fuel listed' a' w):wpN P ops Q C need (fuel+1) listed a w:=by
 subst hl;exact wpN_pure hi ht hn hQ (.inl ⟨hw,λw _=>hr w⟩) (h _ (ha.put hf v))
theorem nt_held {i fuel:Nat}{listed listed':Array Bool}(hl:listed.setIfInBounds i true=listed') {op ty ps af g}(hi:ops[i]?=some ⟨some d,op,ty,ps,af,g⟩)(ht:takeB ops listed need false i=true)(hQ:PanOk Q)
   (ha:Fr a n l) (hw:Region.wanted ⟨some d,op,ty,ps,af,g⟩ (yielded ops a.tmps)=true) (hr:∀ w,C w→(execOp a.eval ⟨some d,op,ty,ps,af,g⟩).run P w=.ok (.value v) w) (hC:C w) (hf:okB d n l=true)
   (h:∀ a',Fr a' n ((d,v)::l)→wpN P ops Q C need fuel listed' a' w):wpN P ops Q C need (fuel+1) listed a w:=by
 subst hl;exact wpN_held hi ht hQ (.inl ⟨hw,hr⟩) hC (h _ (ha.put hf v))
theorem nt_offU {i fuel:Nat}{listed listed':Array Bool}(hl:listed.setIfInBounds i true=listed') {op ty ps af g}(hi:ops[i]?=some ⟨some d,op,ty,ps,af,g⟩)(ht:takeB ops listed need true i=true)(hn:need.contains i=false)(hQ:PanOk Q)
   (ha:Fr a n l) (hw:Region.wanted ⟨some d,op,ty,ps,af,g⟩ (yielded ops a.tmps)=false) (hf:okB d n l=true)
   (h:∀ a',Fr a' n ((d,undef)::l)→wpN P ops Q C need fuel listed' a' w):wpN P ops Q C need (fuel+1) listed a w:=by
 subst hl;exact wpN_pure hi ht hn hQ (.inr ⟨hw,rfl⟩) (h _ (ha.put hf undef))
theorem nt_offUH {i fuel:Nat}{listed listed':Array Bool}(hl:listed.setIfInBounds i true=listed') {op ty ps af g}(hi:ops[i]?=some ⟨some d,op,ty,ps,af,g⟩)(ht:takeB ops listed need false i=true)(hQ:PanOk Q)
   (ha:Fr a n l) (hw:Region.wanted ⟨some d,op,ty,ps,af,g⟩ (yielded ops a.tmps)=false) (hC:C w) (hf:okB d n l=true)
   (h:∀ a',Fr a' n ((d,undef)::l)→wpN P ops Q C need fuel listed' a' w):wpN P ops Q C need (fuel+1) listed a w:=by
 subst hl;exact wpN_held hi ht hQ (.inr ⟨hw,rfl⟩) hC (h _ (ha.put hf undef))
theorem nt_one {i fuel:Nat}{listed listed':Array Bool}(hl:listed.setIfInBounds i true=listed'){o:Oper}(hr:Region.ready .any ops listed=[i])(hi:ops[i]?=some o)
   (h:StepK P ops Q o (λa' w'=>(need.contains i=true→C w')∧wpN P ops Q C need fuel listed' a' w') a w):wpN P ops Q C need (fuel+1) listed a w:=by
 subst hl
 refine⟨λh0=>(by rw[hr]at h0;cases h0),λj hj=>?_⟩
 rw[hr]at hj
 obtain rfl:j=i:=by simpa using hj
 simp only[wpOp,hi]
 exact h
theorem nt_done {listed:Array Bool}(hr:Region.ready .any ops listed=[])(h:Q .normal a w):∀ fuel,wpN P ops Q C need fuel listed a w
 | 0=>⟨hr,h⟩
 | _+1=>⟨λ_=>h,by rw[hr];simp⟩
theorem wp_draw {id m:Nat}{l0:Array Bool}(C:World→Prop)(need:List Nat)(hm:P.follows .mixedOrders=true)(hn:ops.size=m)(hl:Array.replicate m false=l0)(hQ:PanOk Q)(h:PanOk Q→wpN P ops Q C need m l0 a w.drew):(Code.region id ops true).wp P Q a w:=by
 subst hl;subst hn
 exact wp_region_any hm (wpN_any _ _ _ _ (h hQ))
theorem Old.rd {w0 w:World}(h:Old w0 w){b off:Nat}{vs:List Value}(hc:Rd w0 b off vs):Rd w b off vs:=λj v hj=>h.cell (hc j v hj)
end
end
section
class BuildT (P:Program)(t:TypeId)(places:outParam (List (Nat×Nat))):Prop where
 h:∃ fs,P.underlying t=some (.struct fs)∧∀ w,(fs.mapM (λf=>do pure (f.offset,← sizeOf f.type)):Sem (Array (Nat×Nat))).run P w=.ok places.toArray w
class NthP (ps:List (Nat×Nat))(i:Nat)(off sz:outParam Nat):Prop where h:ps[i]?=some (off,sz)
instance NthP.zero {off sz ps}:NthP ((off,sz)::ps) 0 off sz:=⟨rfl⟩
instance NthP.succ {p ps i off sz}[h:NthP ps i off sz]:NthP (p::ps) (i+1) off sz:=⟨by rw[List.getElem?_cons_succ];exact h.h⟩
class SplC (cs:List Value)(off:Nat)(vs:List Value)(out:outParam (List Value)):Prop where h:off+vs.length≤cs.length→splice cs off vs=out
theorem splice_cons {cs vs:List Value}{off:Nat}{v:Value}(h:off+(vs.length+1)≤cs.length):splice cs off (v::vs)=splice (cs.set off v) (off+1) vs:=by
 have hl:(cs.take off).length=off:=by simp;omega
 simp only[splice,List.length_cons]
 rw[List.set_eq_take_append_cons_drop,if_pos (by omega)]
 have e1:(cs.take off++v::cs.drop (off+1)).take (off+1)=cs.take off++[v]:=by
   rw[List.take_append,hl,List.take_of_length_le (by omega),show off+1-off=1 from by omega];simp
 have e2:(cs.take off++v::cs.drop (off+1)).drop (off+1+vs.length)=cs.drop (off+(vs.length+1)):=by
   rw[List.drop_append,hl,List.drop_of_length_le (by rw[hl];omega),List.nil_append,show off+1+vs.length-off=vs.length+1 from by omega,List.drop_succ_cons,List.drop_drop]
   congr 1;omega
 rw[e1,e2];simp
instance (priority:=low) SplC.any {cs off vs}:SplC cs off vs (splice cs off vs):=⟨λ_=>rfl⟩
instance SplC.nil {cs off}:SplC cs off [] cs:=⟨λ_=>by simp[splice]⟩
instance SplC.cons {cs off v vs cs1 out}[h1:SetC cs off v cs1][h2:SplC cs1 (off+1) vs out]:SplC cs off (v::vs) out:=⟨λh=>by
 simp only[List.length_cons]at h
 rw[splice_cons h,h1.h]
 exact h2.h (by rw[← h1.h];simp;omega)⟩
theorem splice_len {cs vs:List Value}{off:Nat}(h:off+vs.length≤cs.length):(splice cs off vs).length=cs.length:=by simp[splice];omega
class LenEq (c:List Value)(n:Nat):Prop where h:c.length=n
instance LenEq.nil:LenEq [] 0:=⟨rfl⟩
instance LenEq.cons {x c n}[h:LenEq c n]:LenEq (x::c) (n+1):=⟨by simp[h.h]⟩
class FillQ (places:List (Nat×Nat))(zs:List Value)(l:List (Nat×Value))(parts:List (Nat×Operand))(out:outParam (List Value)):Prop where
 h:(∀ p∈places,p.1+p.2≤zs.length)→∀ a n,Fr a n l→Instr.fill (places.toArray[·]?) zs.toArray (parts.map λp=>(p.1,a.eval p.2))=some out.toArray
instance FillQ.nil {places zs l}:FillQ places zs l [] zs:=⟨λ_ _ _ _=>rfl⟩
instance FillQ.cons {places zs l i o ps off sz v c zs1 out}[h1:NthP places i off sz][h2:Ev l o v][h3:Cells v c][h4:LenEq c sz][h5:SplC zs off c zs1][h6:FillQ places zs1 l ps out] :
   FillQ places zs l ((i,o)::ps) out:=⟨λhp a n ha=>by
 have hin:=hp _ (List.mem_of_getElem? h1.h)
 simp only at hin
 have hl:=h4.h
 have e1:=h5.h (by rw[hl];exact hin)
 have hz1:zs1.length=zs.length:=by rw[← e1];exact splice_len (by rw[hl];exact hin)
 have ih:=h6.h (by rw[hz1];exact hp) a n ha
 simp only[List.map_cons,Instr.fill,h2.ev a n ha]
 have hg:places.toArray[i]?=some (off,sz):=by rw[List.getElem?_toArray];exact h1.h
 simp only[hg]
 have hcs:v.cells.size=sz:=by rw[h3.h];simpa using hl
 rw[if_neg (by simp[hcs];omega)]
 have hf:=foldl_set c 0 off zs (by rw[hl];omega)
 have e3:(v.cells.zipIdx.foldl (λ(cs:Array Value) (x:Value×Nat)=>cs.setIfInBounds (off+x.2) x.1) zs.toArray)=zs1.toArray:=by
   rw[h3.h,← Array.foldl_toList,Array.toList_zipIdx,← e1]
   simpa [splice] using hf
 rw[← ih]
 congr 1⟩
section
variable {P:Program}{ops:Array Oper}{Q:Exit→Act→World→Prop}{a:Act}{w w' W:World}{K:Act→World→Prop}{n:Nat}{l:List (Nat×Value)}{v:Value}{L R:List SP}
theorem ex_build {t places z zs sz by' parts cs dst ty ps af g}(ha:Fr a n l)(hb:BuildT P t places)(hi:TI P t z sz by')[kz:Cells z zs][fq:FillQ places zs l parts cs](hp:(places.all λp=>Nat.ble (p.1+p.2) zs.length)=true) :
   (execOp a.eval ⟨dst,.build t (List.toArray parts),ty,ps,af,g⟩).run P w=.ok (.value (.agg cs.toArray)) w:=by
 obtain⟨fs,hu,hm⟩:=hb.h
 have hf:=fq.h (λp hpm=>Nat.le_of_ble_eq_true (List.all_eq_true.1 hp p hpm)) a n ha
 simp only[execOp,Sem.run_bind,Instr.build,run_zero hi,Result.andThen_ok,run_underlying hu,hm,kz.h]
 simp only[List.getElem?_toArray]at hf
 simp[hf]
theorem ex_extract {x i vs dst ty ps af g}(ha:Fr a n l)[e:Ev l x (.tuple (List.toArray vs))](h:vs[i]?=some v):(execOp a.eval ⟨dst,.extract x i,ty,ps,af,g⟩).run P w=.ok (.value v) w:=by
 simp[execOp,e.ev a n ha,Instr.extract,h]
theorem run_equalIn_bool {t:TypeId}(ht:P.underlying t=some .bool)(i j:Bool)(k:Nat):(Op.equalIn (k+1) t (.bool i) (.bool j)).run P w=.ok (i==j) w:=by
 simp[Op.equalIn,run_underlying ht]
theorem run_equal_bool {t:TypeId}(ht:P.underlying t=some .bool)(i j:Bool):(Op.equal t (.bool i) (.bool j)).run P w=.ok (i==j) w:=run_equalIn_bool ht i j 9999
theorem run_eql_bool {t:TypeId}(ht:P.underlying t=some .bool)(i j:Bool):(binOp .eql t (.bool i) (.bool j)).run P w=.ok (.bool (i==j)) w:=by
 simp only[binOp]
 simp[run_equal_bool ht]
theorem run_neq_bool {t:TypeId}(ht:P.underlying t=some .bool)(i j:Bool):(binOp .neq t (.bool i) (.bool j)).run P w=.ok (.bool (i != j)) w:=by
 simp only[binOp]
 simp[run_equal_bool ht,bne]
theorem ex_eqlB {x y i j t u dst ty ps af g}(ha:Fr a n l)(ht:P.underlying t=some .bool)[e:Ev l x (.bool i)][f:Ev l y (.bool j)] :
   (execOp a.eval ⟨dst,.binOp .eql t x y u,ty,ps,af,g⟩).run P w=.ok (.value (.bool (i==j))) w:=by
 simp only[execOp,e.ev a n ha,f.ev a n ha,Sem.run_bind];simp[eqGuard,run_eql_bool ht]
theorem ex_neqB {x y i j t u dst ty ps af g}(ha:Fr a n l)(ht:P.underlying t=some .bool)[e:Ev l x (.bool i)][f:Ev l y (.bool j)] :
   (execOp a.eval ⟨dst,.binOp .neq t x y u,ty,ps,af,g⟩).run P w=.ok (.value (.bool (i != j))) w:=by
 simp only[execOp,e.ev a n ha,f.ev a n ha,Sem.run_bind];simp[eqGuard,run_neq_bool ht]
theorem ex_min {x y k i j ty' dst ty ps af g}(ha:Fr a n l)[e:Ev l x (.int k i)][f:Ev l y (.int k j)] :
   (execOp a.eval ⟨dst,.call ⟨.builtin .min,#[x,y],ty'⟩,ty,ps,af,g⟩).run P w=.ok (.value (.int k (min i j))) w:=by
 simp[execOp,resolve,e.ev a n ha,f.ev a n ha,invoke,builtin,Builtin.min_,Builtin.min2]
 rw[Int.min_def];split <;> split <;> omega
theorem ex_max {x y k i j ty' dst ty ps af g}(ha:Fr a n l)[e:Ev l x (.int k i)][f:Ev l y (.int k j)] :
   (execOp a.eval ⟨dst,.call ⟨.builtin .max,#[x,y],ty'⟩,ty,ps,af,g⟩).run P w=.ok (.value (.int k (max i j))) w:=by
 simp[execOp,resolve,e.ev a n ha,f.ev a n ha,invoke,builtin,Builtin.max_,Builtin.max2]
 rw[Int.max_def];split <;> split <;> omega
theorem st_clear {x t el z sz by' b off m c e cs ty ps af g}(ha:Fr a n l)(hw:Region.wanted ⟨none,.call ⟨.builtin .clear,#[x],#[t]⟩,ty,ps,af,g⟩ (yielded ops a.tmps)=true)(hs:St W w L)
   (ht:P.underlying t=some (.slice el)) (hi:TI P el z sz by') (hz:z.cells.size=sz) (h1:z.cells.toList.all (·.oneCell')=true) [ev:Ev l x (.slice (some ⟨b,off,none⟩) m c)] [k:Blk L b e cs R] (hle:off+m*sz≤cs.length)
   (h:∀ a' w',Fr a' n l→St W w' (blk b e (splice cs off (Builtin.zeroCells z.cells m).toList)::R)→K a' w') :
   StepK P ops Q ⟨none,.call ⟨.builtin .clear,#[x],#[t]⟩,ty,ps,af,g⟩ K a w:=by
 have hs':=hs.bring b
 have hzl:=zero_size (sz:=sz) e (z:=z) (by':=by') hz m
 have hone:∀ v∈(Builtin.zeroCells z.cells m).toList,v.oneCell'=true:=by
   intro v hv
   simp only[Builtin.zeroCells,Array.toList_map,List.mem_map]at hv
   obtain⟨i,hi',rfl⟩:=hv
   have:i<m*z.cells.size:=by simpa using hi'
   have hpos : 0 < z.cells.size := by rcases Nat.eq_zero_or_pos z.cells.size with h | h; · rw [h] at this; omega
                                      · exact h
   have hlt:i%z.cells.size<z.cells.size:=Nat.mod_lt _ hpos
   rw[getElem!_pos z.cells _ hlt]
   exact List.all_eq_true.1 h1 _ (Array.mem_toList_iff.2 (Array.getElem_mem hlt))
 have hst:=run_storeCells_at (P:=P) b off e (Builtin.zeroCells z.cells m).toList 0 cs.toArray w hs'.has.2 (by rw[hzl];simpa using hle) hone
 by_cases hm:m=0
 · subst hm
   refine st_none (v:=.tuple #[]) (w':=w) ha hw ?_ λa' ha'=>h a' w ha' ?_
   · simp[execOp,resolve,ev.ev a n ha,invoke,builtin,Builtin.clear_,run_underlying ht]
   · have:(Builtin.zeroCells z.cells 0).toList=[]:=List.eq_nil_of_length_eq_zero (by rw[hzl];simp)
     rw[this]
     simpa [splice] using hs'
 · refine st_none (v:=.tuple #[]) (w':=w.setRow b (splice cs off (Builtin.zeroCells z.cells m).toList).toArray) ha hw ?_ λa' ha'=>h a' _ ha' hs'.setRow
   have:(storeCells ⟨b,off,none⟩ (Builtin.zeroCells z.cells m).toList).run P w=.ok () (w.setRow b (splice cs off (Builtin.zeroCells z.cells m).toList).toArray):=by
     simpa [splice] using hst
   obtain⟨m',rfl⟩:∃ m',m=m'+1:=⟨m-1,by omega⟩
   simp[execOp,resolve,ev.ev a n ha,invoke,builtin,Builtin.clear_,run_underlying ht,run_zero hi,this]
end
end
section
def bc (bs:List UInt8):List Value:=bs.map λb=>.int .u8 b.toNat
theorem bc_len (bs:List UInt8):(bc bs).length=bs.length:=by simp[bc]
theorem bc_one (bs:List UInt8):∀ v∈bc bs,v.oneCell'=true:=by
 intro v hv
 simp only[bc,List.mem_map]at hv
 obtain⟨b,_,rfl⟩:=hv;rfl
section
variable {P:Program}{ops:Array Oper}{Q:Exit→Act→World→Prop}{a:Act}{w w' W:World}{K:Act→World→Prop}{n d:Nat}{l:List (Nat×Value)}{v:Value}{L:List SP}
theorem ex_eqnilS {x ad m c t el u dst ty ps af g}(ha:Fr a n l)(ht:P.underlying t=some (.slice el))[e:Ev l x (.slice ad m c)] :
   (execOp a.eval ⟨dst,.binOp .eql t x (.const (.slice none 0 0)) u,ty,ps,af,g⟩).run P w=.ok (.value (.bool ad.isNone)) w:=by
 have hc:a.eval (.const (.slice none 0 0))=.slice none 0 0:=rfl
 have:=Lib.run_eql_slice_nil (P:=P) w t el ad m c 0 0 ht
 simp only[execOp,e.ev a n ha,hc,Sem.run_bind];simp[eqGuard,this]
def RdB (w:World)(ad:Option Addr)(m:Nat)(bs:List UInt8):Prop :=
 bs.length=m∧(ad=none→m=0)∧∀ x,ad=some x→0<m→∃ b off,x=⟨b,off,none⟩∧Rd w b off (bc bs)
theorem push_all (bs:List UInt8):∀ r:List UInt8,(bs.map λb=>(b.toNat:Int)).foldl (λ(r:ByteArray) n=>r.push (UInt8.ofNat n.toNat)) ⟨r.toArray⟩=⟨(r++bs).toArray⟩:=by
 induction bs with
 | nil=>intro r;simp
 | cons b bs ih =>
   intro r
   simp only[List.map_cons,List.foldl_cons]
   have:(ByteArray.mk r.toArray).push (UInt8.ofNat (b.toNat:Int).toNat)=ByteArray.mk (r++[b]).toArray:=by
     simp[ByteArray.push]
   rw[this,ih];simp
theorem ex_toString {x t u el ad m c bs dst ty ps af g}(ha:Fr a n l)(ht:P.underlying t=some (.slice el))(hu:P.underlying el=some (.int .u8))(hs':P.underlying u=some .string)[ev:Ev l x (.slice ad m c)]
   (hr:RdB w ad m bs):(execOp a.eval ⟨dst,.convert t u x,ty,ps,af,g⟩).run P w=.ok (.value (.string ⟨bs.toArray⟩)) w:=by
 have h0:=run_convert_bytes_string (P:=P) w t u el ad m c ht hu hs'
 obtain⟨h1,h2,h3⟩:=hr
 have h4:(Conv.bytesToString (.slice ad m c)).run P w=.ok (.string ⟨bs.toArray⟩) w:=by
   cases ad with
   | none =>
     have:bs=[]:=List.eq_nil_of_length_eq_zero (by rw[h1];exact h2 rfl)
     subst this
     rfl
   | some x =>
     have hl:(loadCells x m).run P w=.ok ((bs.map λb=>(b.toNat:Int)).map (Value.int .u8)).toArray w:=by
       have:=run_loadCells_list (P:=P) w x ((bs.map λb=>(b.toNat:Int)).map (Value.int .u8)) (λj v hj=>by
         have hm:0<m:=by
           rcases Nat.eq_zero_or_pos m with h | h
           · rw[h]at h1
             rw[List.eq_nil_of_length_eq_zero h1]at hj;simp at hj
           · exact h
         obtain⟨b,off,rfl,hrd⟩:=h3 x rfl hm
         rw[add_off]
         refine hrd j v ?_
         simpa [bc] using hj)
       simpa [h1] using this
     have:=run_bytesToString (P:=P) w x m c _ hl
     rw[this]
     have h5:=push_all bs []
     simp only[List.nil_append]at h5
     exact congrArg (λs=>Result.ok (Value.string s) w) h5
 simp[execOp,ev.ev a n ha,h0,h4]
theorem ex_eqlS {x y i j t u dst ty ps af g}(ha:Fr a n l)[e:Ev l x (.string i)][f:Ev l y (.string j)] :
   (execOp a.eval ⟨dst,.binOp .eql t x y u,ty,ps,af,g⟩).run P w=.ok (.value (.bool (i.data.toList==j.data.toList))) w:=by
 simp[execOp,e.ev a n ha,f.ev a n ha,eqGuard,binOp,Op.stringOp,ByteArray.toList_eq]
theorem xor_u8 (x y:UInt8):IntKind.u8.wrap ((x.toNat ^^^ y.toNat:Nat):Int)=((x ^^^ y).toNat:Int):=by
 rw[UInt8.toNat_xor]
 have h:=(x ^^^ y).toNat_lt
 rw[UInt8.toNat_xor]at h
 simp only[IntKind.wrap,IntKind.bits,IntKind.signed,Bool.false_and,Bool.false_eq_true,if_false]
 omega
theorem ex_xor8 {x y t u dst ty ps af g}{i j:UInt8}(ha:Fr a n l)[e:Ev l x (.int .u8 (i.toNat:Int))][f:Ev l y (.int .u8 (j.toNat:Int))] :
   (execOp a.eval ⟨dst,.binOp .xor t x y u,ty,ps,af,g⟩).run P w=.ok (.value (.int .u8 ((i ^^^ j).toNat:Int))) w:=by
 rw[← xor_u8]
 simp[execOp,e.ev a n ha,f.ev a n ha,eqGuard,binOp,Op.intBits]
 have h1:i.toNat%2 ^ IntKind.u8.bits=i.toNat:=Nat.mod_eq_of_lt i.toNat_lt
 have h2:j.toNat%2 ^ IntKind.u8.bits=j.toNat:=Nat.mod_eq_of_lt j.toNat_lt
 rw[h1,h2]
theorem st_buildSlice0 {t el z sz by' ty ps af g}(ha:Fr a n l)(hw:Region.wanted ⟨some d,.buildSlice t 0 #[],ty,ps,af,g⟩ (yielded ops a.tmps)=true)(hs:St W w L)(ht:P.underlying t=some (.slice el))
   (hi:TI P el z sz by') (hf:okB d n l=true)
   (h:∀ b a' w',Fr a' n ((d,.slice (some ⟨b,0,none⟩) 0 0)::l)→St W w' (Sl el sz (some ⟨b,0,none⟩) 0 0 []::L)→Old w w'→K a' w') :
   StepK P ops Q ⟨some d,.buildSlice t 0 #[],ty,ps,af,g⟩ K a w:=by
 refine st_set (v:=.slice (some ⟨w.heap.size,0,none⟩) 0 0) (w':=w.alloc (.cells #[] el)) ha hw ?_ hf (λa' ha'=>h _ _ _ ha' ((hs.alloc (.cells #[] el)).tail.sl0 _ _ _) (Old.alloc _ _))
 simp[execOp,Sem.run_bind,Instr.buildSlice,run_underlying ht,Result.andThen_ok,run_size hi,Instr.fill,newRow,newObj,Sem.run]
 rw[show Array.range 0=#[] from Array.eq_empty_of_size_eq_zero (by simp)];simp
theorem st_append0 {s x t z by' e sz ad k c ad2 c2 ty ps af g}(ha:Fr a n l)(hw:Region.wanted ⟨some d,.call ⟨.builtin .append,#[s,x],#[t,t]⟩,ty,ps,af,g⟩ (yielded ops a.tmps)=true)
   (ht:P.underlying t=some (.slice e)) (hi:TI P e z sz by') (hf:okB d n l=true) [e1:Ev l s (.slice ad k c)] [e2:Ev l x (.slice ad2 0 c2)] (hkc:k≤c)
   (h:∀ a',Fr a' n ((d,.slice ad k c)::l)→K a' w):StepK P ops Q ⟨some d,.call ⟨.builtin .append,#[s,x],#[t,t]⟩,ty,ps,af,g⟩ K a w:=by
 obtain⟨i,hi1,hi2,hi3,hi4⟩:=info_parts hi.h
 have hf1:(Builtin.firstCells sz 0 (.slice ad2 0 c2)).run P w=.ok #[] w:=by
   cases ad2 with
   | none=>exact run_firstCells_none (P:=P) w sz 0 0 c2
   | some b=>exact run_firstCells_some (P:=P) w sz 0 b 0 c2 [] (by simp) (λj v hj=>by simp at hj)
 refine st_set (v:=.slice ad k c) (w':=w) ha hw ?_ hf h
 cases ad <;> simp[execOp,resolve,e1.ev a n ha,e2.ev a n ha,invoke,builtin,Builtin.append_,run_underlying ht,sizeOf,typeInfo,hi1,hi3,Builtin.lenOf,hkc,hf1,storeCells]
end
end
end Go.Proofs.YtdilfdkendjjhaaGreat
