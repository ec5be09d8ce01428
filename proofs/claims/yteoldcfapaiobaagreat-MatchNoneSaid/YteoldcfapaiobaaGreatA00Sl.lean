/- The heap logic: lists of assertions on separate parts of the memory that a call has made, and how they turn with the world. -/
import Derived.WalkKit
import Derived.Laws.CopyRow
import Derived.WalkSpells
import Derived.WalkLawsBesides
import Derived.Deep.LoopGhost
namespace Go.Proofs.YteoldcfapaiobaaGreat
open Go.RowKit
set_option linter.unusedVariables false
set_option linter.unusedSimpArgs false
set_option maxRecDepth 10000
set_option synthInstance.maxSize 4000
set_option synthInstance.maxHeartbeats 400000
section
abbrev Hp:=Nat→Option Obj
abbrev SP:=Hp→Prop
def Hp.Sub (a b:Hp):Prop:=∀ n o,a n=some o→b n=some o
def Hp.Dj (a b:Hp):Prop:=∀ n,a n=none∨b n=none
def Hp.un (a b:Hp):Hp:=λn=>match a n with | some o=>some o | none=>b n
theorem Hp.Sub.refl (a:Hp):Hp.Sub a a:=λ_ _ h=>h
theorem Hp.Sub.trans {a b c:Hp}(h:Hp.Sub a b)(k:Hp.Sub b c):Hp.Sub a c:=λn o e=>k n o (h n o e)
theorem Hp.un_left (a b:Hp):Hp.Sub a (Hp.un a b):=λn o h=>by simp[Hp.un,h]
theorem Hp.un_right {a b:Hp}(d:Hp.Dj a b):Hp.Sub b (Hp.un a b):=λn o h=>by
 rcases d n with e | e
 · simp[Hp.un,e,h]
 · rw[h]at e;cases e
theorem Hp.un_sub {a b c:Hp}(h:Hp.Sub a c)(k:Hp.Sub b c):Hp.Sub (Hp.un a b) c:=λn o e=>by
 cases ha:a n with
 | some x=>simp[Hp.un,ha]at e;subst e;exact h n _ ha
 | none=>simp[Hp.un,ha]at e;exact k n _ e
theorem Hp.Dj.symm {a b:Hp}(d:Hp.Dj a b):Hp.Dj b a:=λn=>(d n).symm
theorem Hp.Dj.mono {a b a' b':Hp}(d:Hp.Dj a b)(h:Hp.Sub a' a)(k:Hp.Sub b' b):Hp.Dj a' b':=λn=>by
 rcases d n with e | e
 · left;cases ha:a' n with
   | none=>rfl
   | some x=>rw[h n _ ha]at e;cases e
 · right;cases hb:b' n with
   | none=>rfl
   | some x=>rw[k n _ hb]at e;cases e
theorem Hp.Dj.un_right {a b c:Hp}(d:Hp.Dj a b)(k:Hp.Dj a c):Hp.Dj a (Hp.un b c):=λn=>by
 rcases d n with e | e
 · exact .inl e
 · rcases k n with f | f
   · exact .inl f
   · right;simp[Hp.un,e,f]
def sepL:List SP→SP
 | [],_=>True
 | A::L,h=>∃ h1 h2,Hp.Dj h1 h2∧Hp.Sub h1 h∧Hp.Sub h2 h∧A h1∧sepL L h2
theorem sepL_sub:∀ {L:List SP} {h h':Hp},Hp.Sub h h'→sepL L h→sepL L h'
 | [],_,_,_,_=>trivial
 | _::_,_,_,s,⟨h1,h2,d,a,b,p,q⟩=>⟨h1,h2,d,a.trans s,b.trans s,p,q⟩
theorem sepL_swap {A B:SP}{L:List SP}{h:Hp}:sepL (A::B::L) h→sepL (B::A::L) h
 | ⟨h1,h2,d,a,b,p,k1,k2,e,f,g,q,r⟩ =>
   ⟨k1,Hp.un h1 k2,(d.mono (Hp.Sub.refl _) f).symm.un_right e,f.trans b,Hp.un_sub a (g.trans b),q,
     h1,k2,d.mono (Hp.Sub.refl _) g,Hp.un_left _ _,Hp.un_right (d.mono (Hp.Sub.refl _) g),p,r⟩
theorem sepL_cons {A:SP}{L L':List SP}(k:∀ h,sepL L h→sepL L' h){h:Hp}:sepL (A::L) h→sepL (A::L') h
 | ⟨h1,h2,d,a,b,p,q⟩=>⟨h1,h2,d,a,b,p,k _ q⟩
theorem sepL_perm {L L':List SP}(p:L.Perm L'):∀ {h:Hp},sepL L h→sepL L' h:=by
 induction p with
 | nil=>exact λh=>h
 | cons x _ ih=>exact λh=>sepL_cons (λ_=>ih) h
 | swap x y l=>exact λh=>sepL_swap h
 | trans _ _ ih1 ih2=>exact λh=>ih2 (ih1 h)
theorem sepL_join:∀ {M L:List SP} {h1 h2 h:Hp},Hp.Dj h1 h2→Hp.Sub h1 h→Hp.Sub h2 h→sepL M h1→sepL L h2→sepL (M++L) h
 | [],_,_,_,_,_,_,s,_,q=>sepL_sub s q
 | _::_,_,h1,h2,_,d,s,t,⟨k1,k2,e,f,g,p,r⟩,q =>
   ⟨k1,Hp.un k2 h2,e.un_right (d.mono f (Hp.Sub.refl _)),f.trans s,Hp.un_sub (g.trans s) t,p,
     sepL_join (d.mono g (Hp.Sub.refl _)) (Hp.un_left _ _) (Hp.un_right (d.mono g (Hp.Sub.refl _))) r q⟩
theorem sepL_split:∀ {M L:List SP} {h:Hp},sepL (M++L) h→∃ h1 h2,Hp.Dj h1 h2∧Hp.Sub h1 h∧Hp.Sub h2 h∧sepL M h1∧sepL L h2
 | [],_,h,q=>⟨λ_=>none,h,λ_=>.inl rfl,λ_ _ e=>(by cases e),Hp.Sub.refl _,trivial,q⟩
 | _::M,L,h,⟨k1,k2,e,f,g,p,r⟩=>by
   obtain⟨h1,h2,d,s,t,q,u⟩:=sepL_split (M:=M) (L:=L) r
   exact⟨Hp.un k1 h1,h2,(Hp.Dj.un_right (d.symm) (e.symm.mono t (Hp.Sub.refl _)) |> λx=>(by
     intro n
     rcases x n with y | y
     · exact .inr y
     · left
       simp only[Hp.un]at y ⊢
       cases hk:k1 n with
       | some z=>cases hh:h1 n with
         | some u=>simp[hh]at y
         | none=>simp[hh,hk]at y
       | none=>cases hh:h1 n with
         | some u=>simp[hh]at y
         | none=>rfl)),Hp.un_sub f (s.trans g),t.trans g,p |> λp=>⟨k1,h1,e.mono (Hp.Sub.refl _) s,Hp.un_left _ _,Hp.un_right (e.mono (Hp.Sub.refl _) s),p,q⟩,u⟩
def pts (b:Nat)(o:Obj):SP:=λh=>h b=some o
def blk (b:Nat)(e:TypeId)(cs:List Value):SP:=pts b (.cells cs.toArray e (0,0))
structure St (W w:World)(L:List SP):Prop where
 below:Below W.heap.size W w
 sat:∃ h:Hp,(∀ n o,h n=some o→W.heap.size≤n∧w.heap[n]?=some o)∧sepL L h
section
variable {W w:World}{L L' M:List SP}
theorem St.start (W:World):St W W []:=⟨Below.refl _ _,λ_=>none,λ_ _ h=>(by cases h),trivial⟩
theorem St.imp (s:St W w L)(k:∀ h,sepL L h→sepL L' h):St W w L' :=
 let ⟨b,h,p,q⟩:=s;⟨b,h,p,k h q⟩
theorem St.perm (s:St W w L)(p:L.Perm L'):St W w L':=s.imp λ_=>sepL_perm p
theorem St.tail {A:SP}(s:St W w (A::L)):St W w L:=s.imp λ_ ⟨_,_,_,_,b,_,q⟩=>sepL_sub b q
theorem St.drop (s:St W w (M++L)):St W w L:=s.imp λ_ q=>let ⟨_,_,_,_,b,_,q⟩:=sepL_split q;sepL_sub b q
theorem St.open {A:SP}(s:St W w (A::L))(k:∀ h,A h→sepL M h):St W w (M++L) :=
 s.imp λ_ ⟨_,_,d,a,b,p,q⟩=>sepL_join d a b (k _ p) q
theorem St.shut {A:SP}(s:St W w (M++L))(k:∀ h,sepL M h→A h):St W w (A::L) :=
 s.imp λ_ q=>let ⟨h1,h2,d,a,b,p,q⟩:=sepL_split q;⟨h1,h2,d,a,b,k _ p,q⟩
theorem St.tell {A:SP}{p:Prop}(s:St W w (A::L))(k:∀ h,A h→p):p :=
 let ⟨_,_,_,_,_,_,_,_,x,_⟩:=s;k _ x
theorem St.exi {ι:Type}{A:SP}{p:ι→Prop}{B:ι→SP}(s:St W w (A::L))(k:∀ h,A h→∃ i,p i∧B i h):∃ i,p i∧St W w (B i::L):=by
 obtain⟨b,h,q,h1,h2,d,x,y,z,r⟩:=s
 obtain⟨i,hp,hB⟩:=k _ z
 exact⟨i,hp,b,h,q,h1,h2,d,x,y,hB,r⟩
theorem St.drew (s:St W w L):St W w.drew L:=⟨s.below.drew,s.sat⟩
theorem St.alloc (s:St W w L)(o:Obj):St W (w.alloc o) (pts w.heap.size o::L):=by
 obtain⟨b,h,p,q⟩:=s
 have hn:h w.heap.size=none:=by
   cases e:h w.heap.size with
   | none=>rfl
   | some x=>have:=(p _ _ e).2;simp at this
 refine⟨b.alloc b.size o,λn=>if n=w.heap.size then some o else h n,?_,λn=>if n=w.heap.size then some o else none,h,?_,?_,?_,by simp[pts],q⟩
 · intro n x e
   by_cases hb:n=w.heap.size
   · simp[hb]at e;subst e;subst hb
     exact⟨b.size,by show (w.heap.push o)[w.heap.size]?=_;simp⟩
   · simp[hb]at e
     refine⟨(p _ _ e).1,?_⟩
     have:=(p _ _ e).2
     show (w.heap.push o)[n]?=_
     rw[Array.getElem?_push,if_neg hb];exact this
 · intro n;by_cases hb:n=w.heap.size
   · right;rw[hb];exact hn
   · left;simp[hb]
 · intro n x e;by_cases hb:n=w.heap.size <;> simp[hb]at e ⊢;exact e
 · intro n x e;by_cases hb:n=w.heap.size
   · rw[hb,hn]at e;cases e
   · simp[hb,e]
theorem St.has {b:Nat}{o:Obj}(s:St W w (pts b o::L)):W.heap.size≤b∧w.heap[b]?=some o :=
 let ⟨_,_,p,_,_,_,a,_,x,_⟩:=s;p _ _ (a _ _ x)
theorem St.upd {b:Nat}{o o':Obj}{w':World}(s:St W w (pts b o::L))(hos:w'.os=w.os)(ht:w'.tape=w.tape)(hout:w'.output=w.output)
   (hh:w'.heap=w.heap.setIfInBounds b o'):St W w' (pts b o'::L):=by
 have hb:=s.has
 obtain⟨bl,h,p,h1,h2,d,a,k,x,q⟩:=s
 have hlt:b<w.heap.size:=by have:=(Array.getElem?_eq_some_iff.1 hb.2).1;exact this
 have h2b : h2 b = none := by rcases d b with e | e; · rw [x] at e; cases e
                              · exact e
 refine⟨bl.trans ⟨hos,ht,hout,by rw[hh];simp,λn hn=>?_⟩,λn=>if n=b then some o' else h n,?_,λn=>if n=b then some o' else none,h2,?_,?_,?_,by simp[pts],q⟩
 · rw[hh,Array.getElem?_setIfInBounds,if_neg (by omega)]
 · intro n y e
   by_cases hn:n=b
   · simp[hn]at e;subst e;subst hn
     exact⟨hb.1,by rw[hh,Array.getElem?_setIfInBounds];simp[hlt]⟩
   · simp[hn]at e
     refine⟨(p _ _ e).1,?_⟩
     rw[hh,Array.getElem?_setIfInBounds,if_neg (by omega)];exact (p _ _ e).2
 · intro n;by_cases hn:n=b
   · right;rw[hn];exact h2b
   · left;simp[hn]
 · intro n y e;by_cases hn:n=b <;> simp[hn]at e ⊢;exact e
 · intro n y e;by_cases hn:n=b
   · rw[hn,h2b]at e;cases e
   · simp[hn];exact k _ _ e
end
theorem St.cell {W w:World}{L:List SP}{b:Nat}{e:TypeId}{cs:List Value}(s:St W w (blk b e cs::L))(i:Nat) :
   w.cell? ⟨b,i,none⟩=cs[i]?:=by
 have:=s.has.2
 simp[World.cell?,this]
theorem St.old {W w:World}{L:List SP}(s:St W w L){a:Addr}(h:a.block<W.heap.size):w.cell? a=W.cell? a:=s.below.cell h
def splice (cs:List Value)(off:Nat)(vs:List Value):List Value:=cs.take off++vs++cs.drop (off+vs.length)
theorem St.setRow {W w:World}{L:List SP}{b:Nat}{e:TypeId}{cs cs':List Value}(s:St W w (blk b e cs::L)) :
   St W (w.setRow b cs'.toArray) (blk b e cs'::L):=by
 have hb:=s.has.2
 refine s.upd (o':=.cells cs'.toArray e (0,0)) rfl rfl rfl ?_
 apply Array.ext_getElem?
 intro i
 simp only[World.setRow,Array.getElem?_modify,Array.getElem?_setIfInBounds]
 by_cases hi:b=i
 · subst hi
   rw[if_pos rfl,if_pos rfl,hb]
   have:b<w.heap.size:=(Array.getElem?_eq_some_iff.1 hb).1
   simp[this]
 · simp[hi]
structure Old (w0 w:World):Prop where
 size:w0.heap.size≤w.heap.size
 same:∀ k,k<w0.heap.size→w.heap[k]?=w0.heap[k]?
theorem Old.refl (w:World):Old w w:=⟨Nat.le_refl _,λ_ _=>rfl⟩
theorem Old.cell {w0 w:World}(h:Old w0 w){ad:Addr}{v:Value}(hc:w0.cell? ad=some v):w.cell? ad=some v:=by
 rw[← hc];exact World.cell?_of_block (h.same _ (World.block_lt_of_cell? _ _ hc))
theorem Old.trans {a b c:World}(h:Old a b)(k:Old b c):Old a c:=⟨Nat.le_trans h.size k.size,λn hn=>(k.same n (Nat.lt_of_lt_of_le hn h.size)).trans (h.same n hn)⟩
theorem Old.alloc (w:World)(o:Obj):Old w (w.alloc o):=⟨by simp,λk hk=>Below.heap_alloc _ _ _ hk⟩
end
section
structure Fr (a:Act)(n:Nat)(l:List (Nat×Value)):Prop where
 defers:a.defers=[]
 size:a.tmps.size=n
 has:∀ p∈l,a.tmps[p.1]?=some p.2
def freshB (d:Nat)(l:List (Nat×Value)):Bool:=l.all λp=>!(Nat.beq p.1 d)
def okB (d n:Nat)(l:List (Nat×Value)):Bool:=Nat.ble (d+1) n&&freshB d l
class Get (l:List (Nat×Value))(t:Nat)(v:outParam Value):Prop where mem:(t,v)∈l
instance Get.head {l t v}:Get ((t,v)::l) t v:=⟨List.mem_cons_self⟩
instance (priority:=low) Get.tail {l t v p}[h:Get l t v]:Get (p::l) t v:=⟨List.mem_cons_of_mem _ h.mem⟩
class Ev (l:List (Nat×Value))(o:Operand)(v:outParam Value):Prop where ev:∀ a n,Fr a n l→a.eval o=v
instance Ev.tmp {l t v}[h:Get l t v]:Ev l (.tmp t) v:=⟨λa n ha=>by
 have:=ha.has _ h.mem
 simp only[Act.eval]
 simp[Array.getD_eq_getD_getElem?,this]⟩
instance Ev.const {l v}:Ev l (.const v) v:=⟨λ_ _ _=>rfl⟩
instance Ev.func {l f}:Ev l (.func f) (.func (.func f) #[] #[]):=⟨λ_ _ _=>rfl⟩
class EvL (l:List (Nat×Value))(os:List Operand)(vs:outParam (List Value)):Prop where ev:∀ a n,Fr a n l→os.map a.eval=vs
instance EvL.nil {l}:EvL l [] []:=⟨λ_ _ _=>rfl⟩
instance EvL.cons {l o os v vs}[h:Ev l o v][k:EvL l os vs]:EvL l (o::os) (v::vs):=⟨λa n ha=>by
 simp[h.ev a n ha,k.ev a n ha]⟩
class Keep (l:List (Nat×Value))(ks:List Nat)(l':outParam (List (Nat×Value))):Prop where sub:∀ p∈l',p∈l
instance Keep.nil {l}:Keep l [] []:=⟨λ_ h=>by cases h⟩
instance Keep.cons {l k ks v l'}[h:Get l k v][r:Keep l ks l']:Keep l (k::ks) ((k,v)::l'):=⟨λp hp=>by
 rcases List.mem_cons.1 hp with rfl | h'
 · exact h.mem
 · exact r.sub _ h'⟩
theorem Fr.keep {a n l l'}(h:Fr a n l)(ks:List Nat)[k:Keep l ks l']:Fr a n l':=⟨h.defers,h.size,λp hp=>h.has _ (k.sub _ hp)⟩
class Del (l:List (Nat×Value))(d:Nat)(l':outParam (List (Nat×Value))):Prop where sub:∀ p∈l',p∈l
instance Del.nil {d}:Del [] d []:=⟨λ_ h=>h⟩
instance Del.head {l d v}:Del ((d,v)::l) d l:=⟨λ_ h=>List.mem_cons_of_mem _ h⟩
instance (priority:=low) Del.tail {l d p l'}[h:Del l d l']:Del (p::l) d (p::l'):=⟨λq hq=>by
 rcases List.mem_cons.1 hq with rfl | h'
 · exact List.mem_cons_self
 · exact List.mem_cons_of_mem _ (h.sub _ h')⟩
theorem Fr.del {a n l l'}(h:Fr a n l)(d:Nat)[k:Del l d l']:Fr a n l':=⟨h.defers,h.size,λp hp=>h.has _ (k.sub _ hp)⟩
theorem okB_lt {d n l}(h:okB d n l=true):d<n:=by
 simp only[okB,Bool.and_eq_true]at h;exact Nat.le_of_ble_eq_true h.1
theorem okB_fresh {d n l}(h:okB d n l=true):∀ p∈l,p.1≠d:=by
 simp only[okB,freshB,Bool.and_eq_true,List.all_eq_true]at h
 intro p hp e
 have:=h.2 p hp
 rw[e]at this
 have:Nat.beq d d=true:=Nat.beq_refl d
 simp[this] at *
theorem Fr.put {a n l d}(h:Fr a n l)(hf:okB d n l=true)(v:Value):Fr (a.put (some d) v) n ((d,v)::l):=by
 have hl:=okB_lt hf
 refine⟨h.defers,by simp[Act.put,h.size],λp hp=>?_⟩
 rcases List.mem_cons.1 hp with rfl | hp
 · simp[Act.put,h.size,hl]
 · have hne:=okB_fresh hf p hp
   simp only[Act.put]
   rw[Array.getElem?_setIfInBounds,if_neg (λe=>hne e.symm)]
   exact h.has _ hp
theorem Fr.enter {m:Nat}{vs:List Value}(hm:vs.length≤m) :
   Fr { tmps:=vs.toArray++Array.replicate (m-vs.toArray.size) undef,defers:=[] } m ((List.range vs.length).zip vs):=by
 refine⟨rfl,by simp;omega,λp hp=>?_⟩
 obtain⟨i,hi,rfl⟩:=List.mem_iff_getElem.1 hp
 simp only[List.length_zip,List.length_range]at hi
 have hv:i<vs.length:=by omega
 simp only[List.getElem_zip,List.getElem_range]
 rw[Array.getElem?_append_left (by simp;omega)]
 simp[hv]
section
variable {P:Program}{ops:Array Oper}{Q:Exit→Act→World→Prop}{a:Act}{w w':World}{K:Act→World→Prop}{o:Oper}{n d:Nat}{l:List (Nat×Value)}{v:Value}
def StepK (P:Program)(ops:Array Oper)(Q:Exit→Act→World→Prop)(o:Oper)(K:Act→World→Prop)(a:Act)(w:World):Prop :=
 if Region.wanted o (yielded ops a.tmps) then o.wp P a w K Q∨(o.asks P a w∧LetsOut Q) else K (a.put o.dst undef) w
theorem wpList_k {rest:List Oper}(h:StepK P ops Q o (wpList P ops Q rest) a w):wpList P ops Q (o::rest) a w:=h
theorem st_run (hw:Region.wanted o (yielded ops a.tmps)=true)(hr:(execOp a.eval o).run P w=.ok (.value v) w')
   (h:K (a.put o.dst v) w'):StepK P ops Q o K a w:=by
 unfold StepK;rw[if_pos hw];left;unfold Oper.wp;rw[hr];exact h
theorem st_set {op ty ps af g}(ha:Fr a n l)(hw:Region.wanted ⟨some d,op,ty,ps,af,g⟩ (yielded ops a.tmps)=true)
   (hr:(execOp a.eval ⟨some d,op,ty,ps,af,g⟩).run P w=.ok (.value v) w') (hf:okB d n l=true)
   (h:∀ a',Fr a' n ((d,v)::l)→K a' w'):StepK P ops Q ⟨some d,op,ty,ps,af,g⟩ K a w :=
 st_run hw hr (h _ (ha.put hf v))
theorem st_none {op ty ps af g}(ha:Fr a n l)(hw:Region.wanted ⟨none,op,ty,ps,af,g⟩ (yielded ops a.tmps)=true)
   (hr:(execOp a.eval ⟨none,op,ty,ps,af,g⟩).run P w=.ok (.value v) w')
   (h:∀ a',Fr a' n l→K a' w'):StepK P ops Q ⟨none,op,ty,ps,af,g⟩ K a w :=
 st_run hw hr (h _ ha)
theorem st_act {op ty ps af g}(ha:Fr a n l)(hw:Region.wanted ⟨none,op,ty,ps,af,g⟩ (yielded ops a.tmps)=true)
   (hr:(execOp a.eval ⟨none,op,ty,ps,af,g⟩).run P w=.ok .skip w')
   (h:∀ a',Fr a' n l→K a' w'):StepK P ops Q ⟨none,op,ty,ps,af,g⟩ K a w:=by
 unfold StepK;rw[if_pos hw];left;unfold Oper.wp;rw[hr];exact h _ ha
theorem st_offU {op ty ps af g}(ha:Fr a n l)(hw:Region.wanted ⟨some d,op,ty,ps,af,g⟩ (yielded ops a.tmps)=false)(hf:okB d n l=true)
   (h:∀ a',Fr a' n ((d,undef)::l)→K a' w):StepK P ops Q ⟨some d,op,ty,ps,af,g⟩ K a w:=by
 unfold StepK
 rw[if_neg (by rw[hw];simp)]
 exact h _ (ha.put hf undef)
theorem wg {op ty ps af j s b c dst}(ha:Fr a n l)(hj:(ops[j]?).bind (·.dst)=some s)[k:Get l s (.bool c)] :
   Region.wanted ⟨dst,op,ty,ps,af,some (j,b)⟩ (yielded ops a.tmps)=(c==b):=by
 have:=ha.has _ k.mem
 simp[Region.wanted,yielded,hj,this]
theorem wgT {op ty ps af j s b dst}(ha:Fr a n l)(hj:(ops[j]?).bind (·.dst)=some s)[k:Get l s (.bool b)] :
   Region.wanted ⟨dst,op,ty,ps,af,some (j,b)⟩ (yielded ops a.tmps)=true:=by rw[wg ha hj];simp
theorem Fr.bool {s:Nat}{c:Bool} {l'}(ha:Fr a n l)[k:Get l s (.bool c)][e:Del l s l']{G:Prop}
   (ht:c=true→Fr a n ((s,.bool true)::l')→G) (hf:c=false→Fr a n ((s,.bool false)::l')→G):G:=by
 have hm:=ha.has _ k.mem
 have hd:=ha.del s
 cases c with
 | true => exact ht rfl ⟨ha.defers, ha.size, fun p hp => by
     rcases List.mem_cons.1 hp with rfl | hp
     · exact hm
     · exact hd.has _ hp⟩
 | false => exact hf rfl ⟨ha.defers, ha.size, fun p hp => by
     rcases List.mem_cons.1 hp with rfl | hp
     · exact hm
     · exact hd.has _ hp⟩
theorem ex_move {x dst ty ps af g}(ha:Fr a n l)[e:Ev l x v]:(execOp a.eval ⟨dst,.move x,ty,ps,af,g⟩).run P w=.ok (.value v) w:=by
 simp[execOp,e.ev a n ha,pure,Sem.run]
theorem ex_assign {x dst ty ps af g}(ha:Fr a n l)[e:Ev l x v]:(execOp a.eval ⟨dst,.assign x,ty,ps,af,g⟩).run P w=.ok (.value v) w:=by
 simp[execOp,e.ev a n ha,pure,Sem.run]
theorem ex_pickT {c x y dst ty ps af g}(ha:Fr a n l)[e:Ev l c (.bool true)][f:Ev l x v]:(execOp a.eval ⟨dst,.pick c x y,ty,ps,af,g⟩).run P w=.ok (.value v) w:=by
 simp[execOp,e.ev a n ha,f.ev a n ha,asBool]
theorem ex_pickF {c x y dst ty ps af g}(ha:Fr a n l)[e:Ev l c (.bool false)][f:Ev l y v]:(execOp a.eval ⟨dst,.pick c x y,ty,ps,af,g⟩).run P w=.ok (.value v) w:=by
 simp[execOp,e.ev a n ha,f.ev a n ha,asBool]
class NotNil (v:Value):Prop where h:(∃ ad,v=.pointer (some ad))∨∃ t u,v=.iface t u
instance {ad}:NotNil (.pointer (some ad)):=⟨.inl ⟨_,rfl⟩⟩
instance {t u}:NotNil (.iface t u):=⟨.inr ⟨_,_,rfl⟩⟩
theorem ex_nilCheck {x dst ty ps af g}(ha:Fr a n l)[e:Ev l x v][k:NotNil v]:(execOp a.eval ⟨dst,.nilCheck x,ty,ps,af,g⟩).run P w=.ok (.value v) w:=by
 rcases k.h with ⟨ad,rfl⟩ | ⟨t,u,rfl⟩ <;> simp[execOp,e.ev a n ha]
theorem ex_add {x y k i j t u dst ty ps af g}(ha:Fr a n l)[e:Ev l x (.int k i)][f:Ev l y (.int k j)] :
   (execOp a.eval ⟨dst,.binOp .add t x y u,ty,ps,af,g⟩).run P w=.ok (.value (.int k (k.wrap (i+j)))) w:=by
 simp[execOp,e.ev a n ha,f.ev a n ha,eqGuard,binOp,Op.intArith]
theorem ex_sub {x y k i j t u dst ty ps af g}(ha:Fr a n l)[e:Ev l x (.int k i)][f:Ev l y (.int k j)] :
   (execOp a.eval ⟨dst,.binOp .sub t x y u,ty,ps,af,g⟩).run P w=.ok (.value (.int k (k.wrap (i-j)))) w:=by
 simp[execOp,e.ev a n ha,f.ev a n ha,eqGuard,binOp,Op.intArith]
theorem ex_mul {x y k i j t u dst ty ps af g}(ha:Fr a n l)[e:Ev l x (.int k i)][f:Ev l y (.int k j)] :
   (execOp a.eval ⟨dst,.binOp .mul t x y u,ty,ps,af,g⟩).run P w=.ok (.value (.int k (k.wrap (i*j)))) w:=by
 simp[execOp,e.ev a n ha,f.ev a n ha,eqGuard,binOp,Op.intArith]
theorem wrap_in {i:Int}(h1:-9223372036854775808≤i)(h2:i≤9223372036854775807):IntKind.i64.wrap i=i:=IntWalk.i64_in _ (by omega)
theorem ex_addI {x y i j t u dst ty ps af g}(ha:Fr a n l)[e:Ev l x (.int .i64 i)][f:Ev l y (.int .i64 j)](h1:-9223372036854775808≤i+j)(h2:i+j≤9223372036854775807) :
   (execOp a.eval ⟨dst,.binOp .add t x y u,ty,ps,af,g⟩).run P w=.ok (.value (.int .i64 (i+j))) w:=by
 rw[ex_add ha,wrap_in h1 h2]
theorem ex_subI {x y i j t u dst ty ps af g}(ha:Fr a n l)[e:Ev l x (.int .i64 i)][f:Ev l y (.int .i64 j)](h1:-9223372036854775808≤i-j)(h2:i-j≤9223372036854775807) :
   (execOp a.eval ⟨dst,.binOp .sub t x y u,ty,ps,af,g⟩).run P w=.ok (.value (.int .i64 (i-j))) w:=by
 rw[ex_sub ha,wrap_in h1 h2]
theorem ex_mulI {x y i j t u dst ty ps af g}(ha:Fr a n l)[e:Ev l x (.int .i64 i)][f:Ev l y (.int .i64 j)](h1:-9223372036854775808≤i*j)(h2:i*j≤9223372036854775807) :
   (execOp a.eval ⟨dst,.binOp .mul t x y u,ty,ps,af,g⟩).run P w=.ok (.value (.int .i64 (i*j))) w:=by
 rw[ex_mul ha,wrap_in h1 h2]
theorem ex_lss {x y k i j t u dst ty ps af g}(ha:Fr a n l)[e:Ev l x (.int k i)][f:Ev l y (.int k j)] :
   (execOp a.eval ⟨dst,.binOp .lss t x y u,ty,ps,af,g⟩).run P w=.ok (.value (.bool (decide (i<j)))) w:=by
 simp[execOp,e.ev a n ha,f.ev a n ha,eqGuard,binOp,Op.intCmp]
theorem ex_leq {x y k i j t u dst ty ps af g}(ha:Fr a n l)[e:Ev l x (.int k i)][f:Ev l y (.int k j)] :
   (execOp a.eval ⟨dst,.binOp .leq t x y u,ty,ps,af,g⟩).run P w=.ok (.value (.bool (decide (i≤j)))) w:=by
 simp[execOp,e.ev a n ha,f.ev a n ha,eqGuard,binOp,Op.intCmp]
theorem ex_gtr {x y k i j t u dst ty ps af g}(ha:Fr a n l)[e:Ev l x (.int k i)][f:Ev l y (.int k j)] :
   (execOp a.eval ⟨dst,.binOp .gtr t x y u,ty,ps,af,g⟩).run P w=.ok (.value (.bool (decide (j<i)))) w:=by
 simp[execOp,e.ev a n ha,f.ev a n ha,eqGuard,binOp,Op.intCmp]
theorem ex_geq {x y k i j t u dst ty ps af g}(ha:Fr a n l)[e:Ev l x (.int k i)][f:Ev l y (.int k j)] :
   (execOp a.eval ⟨dst,.binOp .geq t x y u,ty,ps,af,g⟩).run P w=.ok (.value (.bool (decide (j≤i)))) w:=by
 simp[execOp,e.ev a n ha,f.ev a n ha,eqGuard,binOp,Op.intCmp]
theorem ex_eql {x y k i j t u dst ty ps af g}(ha:Fr a n l)[e:Ev l x (.int k i)][f:Ev l y (.int k j)] :
   (execOp a.eval ⟨dst,.binOp .eql t x y u,ty,ps,af,g⟩).run P w=.ok (.value (.bool (decide (i=j)))) w:=by
 simp[execOp,e.ev a n ha,f.ev a n ha,eqGuard,binOp,Op.intCmp];rfl
theorem ex_neq {x y k i j t u dst ty ps af g}(ha:Fr a n l)[e:Ev l x (.int k i)][f:Ev l y (.int k j)] :
   (execOp a.eval ⟨dst,.binOp .neq t x y u,ty,ps,af,g⟩).run P w=.ok (.value (.bool (decide (i≠j)))) w:=by
 simp[execOp,e.ev a n ha,f.ev a n ha,eqGuard,binOp,Op.intCmp,bne];rfl
theorem ex_not {x b t dst ty ps af g}(ha:Fr a n l)[e:Ev l x (.bool b)]:(execOp a.eval ⟨dst,.unOp .not t x,ty,ps,af,g⟩).run P w=.ok (.value (.bool (!b))) w:=by
 simp[execOp,e.ev a n ha,Op.unary]
class IsNil (v:Value)(b:outParam Bool):Prop where h:v=.pointer none∧b=true∨(∃ ad,v=.pointer (some ad))∧b=false
instance:IsNil (.pointer none) true:=⟨.inl ⟨rfl,rfl⟩⟩
instance {ad}:IsNil (.pointer (some ad)) false:=⟨.inr ⟨⟨_,rfl⟩,rfl⟩⟩
theorem pointee_of {t el:TypeId}(ht:P.underlying t=some (.pointer el)):P.underlying t=some (.pointer (P.pointee t)):=by
 rw[ht];simp[Program.pointee,ht]
theorem ex_eqnil {x b t u el dst ty ps af g}(ha:Fr a n l)(ht:P.underlying t=some (.pointer el))[e:Ev l x v][k:IsNil v b] :
   (execOp a.eval ⟨dst,.binOp .eql t x (.const (.pointer none)) u,ty,ps,af,g⟩).run P w=.ok (.value (.bool b)) w:=by
 have hc:a.eval (.const (.pointer none))=.pointer none:=rfl
 rcases k.h with ⟨rfl,rfl⟩ | ⟨⟨ad,rfl⟩,rfl⟩
 · have:=run_eql_pointer_nil (P:=P) (w:=w) t none (pointee_of ht)
   simp only[execOp,e.ev a n ha,hc,Sem.run_bind];simp[eqGuard,this]
 · have:=run_eql_pointer_nil (P:=P) (w:=w) t (some ad) (pointee_of ht)
   simp only[execOp,e.ev a n ha,hc,Sem.run_bind];simp[eqGuard,this]
theorem ex_neqnil {x b t u el dst ty ps af g}(ha:Fr a n l)(ht:P.underlying t=some (.pointer el))[e:Ev l x v][k:IsNil v b] :
   (execOp a.eval ⟨dst,.binOp .neq t x (.const (.pointer none)) u,ty,ps,af,g⟩).run P w=.ok (.value (.bool (!b))) w:=by
 have hc:a.eval (.const (.pointer none))=.pointer none:=rfl
 rcases k.h with ⟨rfl,rfl⟩ | ⟨⟨ad,rfl⟩,rfl⟩
 · have:=run_neq_pointer_nil (P:=P) (w:=w) t none (pointee_of ht)
   simp only[execOp,e.ev a n ha,hc,Sem.run_bind];simp[eqGuard,this]
 · have:=run_neq_pointer_nil (P:=P) (w:=w) t (some ad) (pointee_of ht)
   simp only[execOp,e.ev a n ha,hc,Sem.run_bind];simp[eqGuard,this]
end
end
section
class TI (P:Program)(t:TypeId)(z:outParam Value)(size bytes:outParam Nat):Prop where of ::
 h:(P.info? t).map (λi=>(i.zero,i.size,i.bytes))=some (some z,size,bytes)
def isOne:TypeDesc→Bool | .struct _ | .array _ _=>false | _=>true
class Blk (L:List SP)(b:Nat)(e:outParam TypeId)(cs:outParam (List Value))(R:outParam (List SP)):Prop where perm:L.Perm (blk b e cs::R)
instance Blk.head {L b e cs}:Blk (blk b e cs::L) b e cs L:=⟨List.Perm.refl _⟩
instance (priority:=low) Blk.tail {A L b e cs R}[h:Blk L b e cs R]:Blk (A::L) b e cs (A::R) :=
 ⟨(List.Perm.cons A h.perm).trans (List.Perm.swap _ _ _)⟩
class Cells (v:Value)(vs:outParam (List Value)):Prop where h:v.cells=vs.toArray
instance {vs:List Value}:Cells (.agg vs.toArray) vs:=⟨rfl⟩
instance {b}:Cells (.bool b) [.bool b]:=⟨rfl⟩
instance {k i}:Cells (.int k i) [.int k i]:=⟨rfl⟩
instance {s}:Cells (.string s) [.string s]:=⟨rfl⟩
instance {p}:Cells (.pointer p) [.pointer p]:=⟨rfl⟩
instance {p n c}:Cells (.slice p n c) [.slice p n c]:=⟨rfl⟩
instance {m}:Cells (.map m) [.map m]:=⟨rfl⟩
instance {f x y}:Cells (.func f x y) [.func f x y]:=⟨rfl⟩
instance {t v}:Cells (.iface t v) [.iface t v]:=⟨rfl⟩
class SetC (cs:List Value)(i:Nat)(v:Value)(cs':outParam (List Value)):Prop where h:cs.set i v=cs'
instance (priority:=low) SetC.any {cs i v}:SetC cs i v (cs.set i v):=⟨rfl⟩
instance SetC.zero {c cs v}:SetC (c::cs) 0 v (v::cs):=⟨rfl⟩
instance SetC.succ {c cs i v cs'}[h:SetC cs i v cs']:SetC (c::cs) (i+1) v (c::cs'):=⟨by rw[List.set_cons_succ,h.h]⟩
class SubC (cs:List Value)(off m:Nat)(vs:outParam (List Value)):Prop where h:(cs.drop off).take m=vs
instance (priority:=low) SubC.any {cs off m}:SubC cs off m ((cs.drop off).take m):=⟨rfl⟩
instance SubC.nil {cs}:SubC cs 0 0 []:=⟨by simp⟩
instance SubC.cons {x cs m vs}[h:SubC cs 0 m vs]:SubC (x::cs) 0 (m+1) (x::vs):=⟨by
 have:=h.h;simp only[List.drop_zero] at *;rw[List.take_succ_cons,this]⟩
class AddOff (o k:Nat)(r:outParam Nat):Prop where h:o+k=r
instance (priority:=low) AddOff.any {o k}:AddOff o k (o+k):=⟨rfl⟩
instance AddOff.left {o}:AddOff o 0 o:=⟨rfl⟩
instance AddOff.right {k}:AddOff 0 k k:=⟨Nat.zero_add k⟩
def Rd (w:World)(b off:Nat)(vs:List Value):Prop:=∀ j v,vs[j]?=some v→w.cell? ⟨b,off+j,none⟩=some v
theorem add_off (b o k:Nat):(⟨b,o,none⟩:Addr).add k=⟨b,o+k,none⟩:=by unfold Addr.add;split <;> simp_all
section
variable {P:Program}{W w:World}{L R:List SP}{b e:Nat}{cs:List Value}
theorem St.bring (s:St W w L)(b:Nat)[k:Blk L b e cs R]:St W w (blk b e cs::R):=s.perm k.perm
theorem St.rd1 (s:St W w L)[k:Blk L b e cs R]{off:Nat}{v:Value}(h:cs[off]?=some v):w.cell? ⟨b,off,none⟩=some v:=by
 rw[(s.perm k.perm).cell];exact h
theorem St.rdN (s:St W w L)[k:Blk L b e cs R]{off:Nat}(m:Nat){vs:List Value}[sc:SubC cs off m vs]:Rd w b off vs:=by
 have h:=sc.h
 intro j v hj
 rw[(s.perm k.perm).cell]
 rw[← h,List.getElem?_take]at hj
 by_cases hm:j<m
 · rw[if_pos hm,List.getElem?_drop]at hj;exact hj
 · rw[if_neg hm]at hj;cases hj
theorem St.rdAll (s:St W w L)[k:Blk L b e cs R]:Rd w b 0 cs:=by
 intro j v hj
 rw[(s.perm k.perm).cell,Nat.zero_add];exact hj
theorem run_load1 {t dd}{ad:Addr}{v:Value}(hu:P.underlying t=some dd)(hd:isOne dd=true)(hc:w.cell? ad=some v):(loadVar t ad).run P w=.ok v w:=by
 have:(isAgg t).run P w=.ok false w:=by
   simp only[isAgg,Sem.run_bind,run_underlying hu,Result.andThen_ok]
   cases dd <;> first | rfl | (simp[isOne]at hd)
 simp[loadVar,this,load,Sem.run,hc]
theorem run_loadN {t dd z by'}{off:Nat}{vs:List Value}(hu:P.underlying t=some dd)(hd:isOne dd=false)(hi:TI P t z vs.length by')(hc:Rd w b off vs) :
   (loadVar t ⟨b,off,none⟩).run P w=.ok (.agg vs.toArray) w:=by
 have h1:(isAgg t).run P w=.ok true w:=by
   simp only[isAgg,Sem.run_bind,run_underlying hu,Result.andThen_ok]
   cases dd <;> first | rfl | (simp[isOne]at hd)
 obtain⟨i,h2,_,h3,_⟩:=info_parts hi.h
 have h4:(sizeOf t).run P w=.ok vs.length w:=by simp[sizeOf,typeInfo,h2,h3]
 have h5:=run_loadCells_list (P:=P) w ⟨b,off,none⟩ vs (λj v hj=>by rw[add_off];exact hc j v hj)
 simp[loadVar,h1,h4,h5]
end
section
variable {P:Program}{ops:Array Oper}{Q:Exit→Act→World→Prop}{a:Act}{w w' W:World}{K:Act→World→Prop}{n d:Nat}{l:List (Nat×Value)}{v:Value}{L R:List SP}
theorem ex_load1 {x ad t dd dst ty ps af g}(ha:Fr a n l)(hu:P.underlying t=some dd)(hd:isOne dd=true)[ev:Ev l x (.pointer (some ad))](hc:w.cell? ad=some v) :
   (execOp a.eval ⟨dst,.load t x,ty,ps,af,g⟩).run P w=.ok (.value v) w:=by
 simp[execOp,ev.ev a n ha,Instr.loadAt,Instr.sureAddr,run_load1 hu hd hc]
theorem ex_loadN {x b off t dd z by' vs dst ty ps af g}(ha:Fr a n l)(hu:P.underlying t=some dd)(hd:isOne dd=false)(hi:TI P t z (List.length vs) by')[ev:Ev l x (.pointer (some ⟨b,off,none⟩))](hc:Rd w b off vs) :
   (execOp a.eval ⟨dst,.load t x,ty,ps,af,g⟩).run P w=.ok (.value (.agg vs.toArray)) w:=by
 simp[execOp,ev.ev a n ha,Instr.loadAt,Instr.sureAddr,run_loadN hu hd hi hc]
theorem run_size {t z sz by'}(hi:TI P t z sz by'):(sizeOf t).run P w=.ok sz w:=by
 obtain⟨i,h2,_,h3,_⟩:=info_parts hi.h
 simp[sizeOf,typeInfo,h2,h3]
theorem run_zero {t z sz by'}(hi:TI P t z sz by'):(zeroValue t).run P w=.ok z w:=by
 obtain⟨i,h2,h1,h3,_⟩:=info_parts hi.h
 simp[zeroValue,typeInfo,h2,h1]
theorem st_alloc {t z sz by' zs ty ps af g}(ha:Fr a n l)(hw:Region.wanted ⟨some d,.alloc t,ty,ps,af,g⟩ (yielded ops a.tmps)=true)(hs:St W w L)(hi:TI P t z sz by')[k:Cells z zs]
   (hf:okB d n l=true) (h:∀ b a' w',Fr a' n ((d,.pointer (some ⟨b,0,none⟩))::l)→St W w' (blk b t zs::L)→Old w w'→K a' w') :
   StepK P ops Q ⟨some d,.alloc t,ty,ps,af,g⟩ K a w:=by
 refine st_set (v:=.pointer (some ⟨w.heap.size,0,none⟩)) (w':=w.alloc (.cells zs.toArray t)) ha hw ?_ hf (λa' ha'=>h _ _ _ ha' (hs.alloc _) (Old.alloc _ _))
 simp[execOp,Instr.alloc,run_zero hi,newVar,newRow,newObj,Sem.run,k.h,Sem.run_bind]
theorem st_box {t x vs ty ps af g}(ha:Fr a n l)(hw:Region.wanted ⟨some d,.box t x,ty,ps,af,g⟩ (yielded ops a.tmps)=true)(hs:St W w L)[ev:Ev l x v][k:Cells v vs]
   (hf:okB d n l=true) (h:∀ b a' w',Fr a' n ((d,.pointer (some ⟨b,0,none⟩))::l)→St W w' (blk b t vs::L)→Old w w'→K a' w') :
   StepK P ops Q ⟨some d,.box t x,ty,ps,af,g⟩ K a w:=by
 refine st_set (v:=.pointer (some ⟨w.heap.size,0,none⟩)) (w':=w.alloc (.cells vs.toArray t)) ha hw ?_ hf (λa' ha'=>h _ _ _ ha' (hs.alloc _) (Old.alloc _ _))
 simp[execOp,Instr.box,ev.ev a n ha,newVar,newRow,newObj,Sem.run,k.h,Sem.run_bind]
theorem run_storeVar {t z by' b e off}{v:Value}{vs cs:List Value}(hs:St W w (blk b e cs::R))(hi:TI P t z vs.length by')(hv:v.cells=vs.toArray)(h1:∀ v∈vs,v.oneCell'=true)
   (hle:off+vs.length≤cs.length):(storeVar t ⟨b,off,none⟩ v).run P w=.ok () (w.setRow b (splice cs off vs).toArray):=by
 have:=run_storeCells_at (P:=P) b off e vs 0 cs.toArray w hs.has.2 (by simpa using hle) h1
 simp[storeVar,hv,run_size hi,this,splice]
theorem st_store {t z by' x y b e off cs cs' ty ps af g}(ha:Fr a n l)(hw:Region.wanted ⟨none,.store t x y,ty,ps,af,g⟩ (yielded ops a.tmps)=true)(hs:St W w L)
   (hi:TI P t z 1 by') [ev:Ev l x (.pointer (some ⟨b,off,none⟩))] [ew:Ev l y v] [kc:Cells v [v]] [k:Blk L b e cs R] (h1:v.oneCell'=true) (hlt:off<cs.length) [sc:SetC cs off v cs']
   (h:∀ a' w',Fr a' n l→St W w' (blk b e cs'::R)→K a' w'):StepK P ops Q ⟨none,.store t x y,ty,ps,af,g⟩ K a w:=by
 have hs':=hs.bring b
 have hr:=run_storeVar (P:=P) (t:=t) (off:=off) (vs:=[v]) hs' hi kc.h (by simpa using h1) (by simp;omega)
 have he:splice cs off [v]=cs':=by
   rw[← sc.h,splice,List.set_eq_take_append_cons_drop,if_pos hlt];simp
 refine st_act (w':=w.setRow b (splice cs off [v]).toArray) ha hw ?_ (λa' ha'=>h a' _ ha' (he ▸ hs'.setRow))
 simp[execOp,ev.ev a n ha,ew.ev a n ha,Instr.storeAt,Instr.sureAddr,hr]
theorem st_storeN {t z by' x y b e off cs vs ty ps af g}(ha:Fr a n l)(hw:Region.wanted ⟨none,.store t x y,ty,ps,af,g⟩ (yielded ops a.tmps)=true)(hs:St W w L)
   (hi:TI P t z (List.length vs) by') [ev:Ev l x (.pointer (some ⟨b,off,none⟩))] [ew:Ev l y v] [kc:Cells v vs] [k:Blk L b e cs R] (h1:∀ v∈vs,v.oneCell'=true) (hle:off+vs.length≤cs.length)
   (h:∀ a' w',Fr a' n l→St W w' (blk b e (splice cs off vs)::R)→K a' w'):StepK P ops Q ⟨none,.store t x y,ty,ps,af,g⟩ K a w:=by
 have hs':=hs.bring b
 have hr:=run_storeVar (P:=P) (t:=t) (off:=off) (vs:=vs) hs' hi kc.h h1 hle
 refine st_act (w':=w.setRow b (splice cs off vs).toArray) ha hw ?_ (λa' ha'=>h a' _ ha' hs'.setRow)
 simp[execOp,ev.ev a n ha,ew.ev a n ha,Instr.storeAt,Instr.sureAddr,hr]
theorem st_storeAll {t z by' x y b e cs vs ty ps af g}(ha:Fr a n l)(hw:Region.wanted ⟨none,.store t x y,ty,ps,af,g⟩ (yielded ops a.tmps)=true)(hs:St W w L)
   (hi:TI P t z (List.length vs) by') [ev:Ev l x (.pointer (some ⟨b,0,none⟩))] [ew:Ev l y v] [kc:Cells v vs] [k:Blk L b e cs R] (h1:∀ v∈vs,v.oneCell'=true) (hle:vs.length=cs.length)
   (h:∀ a' w',Fr a' n l→St W w' (blk b e vs::R)→K a' w'):StepK P ops Q ⟨none,.store t x y,ty,ps,af,g⟩ K a w:=by
 refine st_storeN ha hw hs hi h1 (by omega) (λa' w' ha' hs'=>h a' w' ha' ?_)
 rwa [show splice cs 0 vs=vs from by simp[splice,hle]]at hs'
theorem ex_fieldAddr {x b off t f k r fs fl z sz by' dst ty ps af g}(ha:Fr a n l)[ev:Ev l x (.pointer (some ⟨b,off,none⟩))](hu:P.underlying t=some (.struct fs))(hf:fs[f]?=some fl)(hi:TI P fl.type z (sz+1) by')
   (hk:fl.offset=k) [ao:AddOff off k r]:(execOp a.eval ⟨dst,.fieldAddr t x f,ty,ps,af,g⟩).run P w=.ok (.value (.pointer (some ⟨b,r,none⟩))) w:=by
 simp[execOp,ev.ev a n ha,Instr.fieldAt,run_underlying hu,hf,Instr.sureAddr,fieldPlace,run_size hi,add_off,hk,ao.h]
class NatOf (i:Int)(j:outParam Nat):Prop where h:i=(j:Int)
instance {j:Nat}:NatOf (j:Int) j:=⟨rfl⟩
instance:NatOf 0 0:=⟨rfl⟩
instance:NatOf 1 1:=⟨rfl⟩
instance:NatOf 2 2:=⟨rfl⟩
instance:NatOf 3 3:=⟨rfl⟩
instance:NatOf 4 4:=⟨rfl⟩
instance:NatOf 7 7:=⟨rfl⟩
instance:NatOf 8 8:=⟨rfl⟩
instance:NatOf 16 16:=⟨rfl⟩
instance:NatOf 24 24:=⟨rfl⟩
instance {x y:Int}{i j:Nat}[h:NatOf x i][k:NatOf y j]:NatOf (x+y) (i+j):=⟨by rw[h.h,k.h];rfl⟩
theorem ex_indexAddr {x y k i j b off m c t el z sz by' dst ty ps af g}(ha:Fr a n l)[ev:Ev l x (.slice (some ⟨b,off,none⟩) m c)][ey:Ev l y (.int k i)](hu:P.underlying t=some (.slice el))(hi:TI P el z sz by')[nj:NatOf i j]
   (hlt:j<m):(execOp a.eval ⟨dst,.indexAddr t x y,ty,ps,af,g⟩).run P w=.ok (.value (.pointer (some ⟨b,off+j*sz,none⟩))) w:=by
 have:=nj.h;subst this
 simp[execOp,ev.ev a n ha,ey.ev a n ha,Instr.indexAt,asIntOf,run_underlying hu,run_size hi,add_off,hlt]
theorem ex_indexAddrA {x y k i j b off m t el z sz by' dst ty ps af g}(ha:Fr a n l)[ev:Ev l x (.pointer (some ⟨b,off,none⟩))][ey:Ev l y (.int k i)](hu:P.underlying t=some (.array m el))(hi:TI P el z sz by')[nj:NatOf i j]
   (hlt:j<m):(execOp a.eval ⟨dst,.indexAddr t x y,ty,ps,af,g⟩).run P w=.ok (.value (.pointer (some ⟨b,off+j*sz,none⟩))) w:=by
 have:=nj.h;subst this
 simp[execOp,ev.ev a n ha,ey.ev a n ha,Instr.indexAt,asIntOf,run_underlying hu,run_size hi,add_off,hlt,Instr.sureAddr]
theorem ex_len {x ad m c t el dst ty ps af g}(ha:Fr a n l)[ev:Ev l x (.slice ad m c)](hu:P.underlying t=some (.slice el)) :
   (execOp a.eval ⟨dst,.call ⟨.builtin .len,#[x],#[t]⟩,ty,ps,af,g⟩).run P w=.ok (.value (.int .i64 m)) w:=by
 simp[execOp,resolve,ev.ev a n ha,invoke,builtin,Builtin.len_,run_underlying hu,goInt]
theorem ex_makeFunc {fn xs ys us vs dst ty ps af g}(ha:Fr a n l)[e1:EvL l xs us][e2:EvL l ys vs] :
   (execOp a.eval ⟨dst,.makeFunc fn xs.toArray ys.toArray,ty,ps,af,g⟩).run P w=.ok (.value (.func fn us.toArray vs.toArray)) w:=by
 simp[execOp,Instr.makeFunc,e1.ev a n ha,e2.ev a n ha]
def callable (P : Program) (f : FuncId) : Bool := match P.funcs[f]? with | some fn => !(fn.name == "runtime.NumGoroutine") && fn.body.isSome | none => false
theorem run_callFunc {f}{vs:Array Value}(h:callable P f=true):(callFunc f vs).run P w=.ok (.enter f vs) w:=by
 simp only[callable]at h
 cases hf:P.funcs[f]? with
 | none=>simp[hf]at h
 | some fn =>
   simp only[hf,Bool.and_eq_true,Bool.not_eq_true']at h
   have hb:fn.body.isNone=false:=by cases hb:fn.body <;> simp_all
   simp only[callFunc,program,Sem.run,Sem.run_bind,Result.andThen_ok,hf,h.1,hb]
   simp
theorem st_enter {op ty ps af g dst f}{vs:Array Value}{X:Ending→World→Prop}(hw:Region.wanted ⟨dst,op,ty,ps,af,g⟩ (yielded ops a.tmps)=true)
   (hr:(execOp a.eval ⟨dst,op,ty,ps,af,g⟩).run P w=.ok (.enter f vs) w) (hc:Calls P f vs w X)
   (h:∀ e w',X e w'→∃ v,e=.returned v∧K (a.put dst v) w'):StepK P ops Q ⟨dst,op,ty,ps,af,g⟩ K a w:=by
 unfold StepK;rw[if_pos hw];left;unfold Oper.wp;rw[hr,Oper.upon_enter]
 refine hc.mono λe w' hx=>?_
 obtain⟨v,rfl,hv⟩:=h e w' hx
 exact hv
theorem ret1 {fn:Func} {t}{X:Ending→World→Prop}(ha:Fr a n l)(hr:fn.results=#[.tmp t])[k:Get l t v](h:X (.returned v) w):bodyPost P fn X .ret a w:=by
 refine bodyPost_ret (results_tmp hr _ _ _) ha.defers ?_
 have:=ha.has _ k.mem
 simpa [Array.getD_eq_getD_getElem?,this] using h
theorem ret2 {fn:Func} {t u v2}{X:Ending→World→Prop}(ha:Fr a n l)(hr:fn.results=#[.tmp t,.tmp u])[k:Get l t v][k2:Get l u v2](h:X (.returned (.tuple #[v,v2])) w):bodyPost P fn X .ret a w:=by
 refine bodyPost_ret (results_tmp2 hr _ _ _) ha.defers ?_
 have h1:=ha.has _ k.mem
 have h2:=ha.has _ k2.mem
 simpa [Array.getD_eq_getD_getElem?,h1,h2] using h
theorem ret0 {fn:Func}{X:Ending→World→Prop}(ha:Fr a n l)(hr:fn.results=#[])(h:X (.returned (.tuple #[])) w):bodyPost P fn X .ret a w :=
 bodyPost_ret (results_none hr _ _ _) ha.defers h
theorem end0 {fn:Func}{X:Ending→World→Prop}(ha:Fr a n l)(hr:fn.results=#[])(h:X (.returned (.tuple #[])) w):bodyPost P fn X .normal a w :=
 bodyPost_end (results_none hr _ _ _) ha.defers h
theorem retC1 {fn:Func} {x ad t}{X:Ending→World→Prop}(ha:Fr a n l)(hr:fn.results=#[.cell x t])[k:Get l x (.pointer (some ad))](hl:(loadVar t ad).run P w=.ok v w)(h:X (.returned v) w):bodyPost P fn X .ret a w:=by
 refine bodyPost_ret ?_ ha.defers h
 have h1:=ha.has _ k.mem
 simp[results,hr,Array.getD_eq_getD_getElem?,h1,asAddr,hl]
theorem retC2 {fn:Func} {x ad t u v2}{X:Ending→World→Prop}(ha:Fr a n l)(hr:fn.results=#[.cell x t,.tmp u])[k:Get l x (.pointer (some ad))][k2:Get l u v2](hl:(loadVar t ad).run P w=.ok v w)
   (h:X (.returned (.tuple #[v,v2])) w):bodyPost P fn X .ret a w:=by
 refine bodyPost_ret ?_ ha.defers h
 have h1:=ha.has _ k.mem
 have h2:=ha.has _ k2.mem
 simp[results,hr,Array.getD_eq_getD_getElem?,h1,h2,asAddr,hl]
theorem calls_enter {f m:Nat}{fn:Func}{c:Code}{vs:List Value}{X:Ending→World→Prop}(hf:P.funcs[f]?=some fn)(hb:fn.body=some c)(hn:fn.ntmps=m)(hm:vs.length≤m)
   (h:∀ a,Fr a m ((List.range vs.length).zip vs)→c.wp P (bodyPost P fn X) a w):Calls P f vs.toArray w X :=
 calls_of_wp hf hb (by rw[hn];exact h _ (Fr.enter hm))
theorem wp_seq_cut {x y:Code}{M:Act→World→Prop}(h:x.wp P (Exit.then M Q) a w)(k:∀ a w,M a w→y.wp P Q a w):(Code.seq x y).wp P Q a w:=by
 refine wp_seq (wp_mono h ?_)
 intro e a' w' hq
 cases e <;> first | exact k _ _ hq | exact hq
theorem wp_ifT {c:Operand}{x y:Code}(ha:Fr a n l)[e:Ev l c (.bool true)](h:x.wp P Q a w):(Code.cond c x y).wp P Q a w:=wp_cond_true (e.ev a n ha) h
theorem wp_ifF {c:Operand}{x y:Code}(ha:Fr a n l)[e:Ev l c (.bool false)](h:y.wp P Q a w):(Code.cond c x y).wp P Q a w:=wp_cond_false (e.ev a n ha) h
theorem blk_e {i:Nat}(h:Q .normal a w):Exit.inBlock i Q (.exit i) a w:=by simp only[Exit.inBlock,if_true];exact h
theorem blk_ne {i j:Nat}(hn:Nat.beq j i=false)(h:Q (.exit j) a w):Exit.inBlock i Q (.exit j) a w:=by
 simp only[Exit.inBlock];rw[if_neg (by intro e;subst e;rw[Nat.beq_refl]at hn;cases hn)];exact h
end
end
end Go.Proofs.YteoldcfapaiobaaGreat
