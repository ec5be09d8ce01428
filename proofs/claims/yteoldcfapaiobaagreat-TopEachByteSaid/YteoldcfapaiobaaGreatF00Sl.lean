/- The heap logic: lists of assertions on separate parts of the memory that a call has made, and how they turn with the world. -/
import Derived.Test.YteoldcfapaiobaaGreatFQ
import Derived.WalkKit
import Derived.Laws.CopyRow
import Derived.WalkSpells
import Derived.WalkLawsBesides
import Derived.Deep.LoopGhost
import Derived.OrdersHeld
import Derived.Laws.BytesString
import Derived.Lib.SliceRun
namespace Go.Proofs.YteoldcfapaiobaaGreat
open List (all_eq_true length_range drop_zero take_succ_cons drop_left take_zero foldl_cons nil_append map_cons getElem?_cons_succ length_nil mem_range getElem?_toArray getElem?_range)
open Go.RowKit
set_option linter.unusedVariables false
set_option linter.unusedSimpArgs false
set_option maxRecDepth 10000
set_option synthInstance.maxSize 4000
set_option synthInstance.maxHeartbeats 400000
section
abbrev Hp:=Nat→Option Obj
abbrev SP:=Hp→Prop
def Hp.Sub (a b:Hp):Prop:=∀ n o,a n=some o→b n=some o
def Hp.Dj (a b:Hp):Prop:=∀ n,a n=none∨b n=none
def Hp.un (a b:Hp):Hp:=λn=>match a n with | some o=>some o | none=>b n
theorem Hp.Sub.refl (a:Hp):Hp.Sub a a:=λ_ _ h=>h
theorem Hp.Sub.trans {a b c:Hp}(h:Hp.Sub a b)(k:Hp.Sub b c):Hp.Sub a c:=λn o e=>k n o (h n o e)
theorem Hp.C5 (a b:Hp):Hp.Sub a (Hp.un a b):=λn o h=>by simp[Hp.un,h]
theorem Hp.ui {a b:Hp}(d:Hp.Dj a b):Hp.Sub b (Hp.un a b):=λn o h=>by
 rcases d n with e | e
 ·simp[Hp.un,e,h]
 ·rw[h]at e;cases e
theorem Hp.C6 {a b c:Hp}(h:Hp.Sub a c)(k:Hp.Sub b c):Hp.Sub (Hp.un a b) c:=λn o e=>by
 cases E:a n with
 | some x=>simp[Hp.un,E]at e;subst e;exact h n _ E
 | none=>simp[Hp.un,E]at e;exact k n _ e
theorem Hp.Dj.symm {a b:Hp}(d:Hp.Dj a b):Hp.Dj b a:=λn=>(d n).symm
theorem Hp.Dj.mono {a b a' b':Hp}(d:Hp.Dj a b)(h:Hp.Sub a' a)(k:Hp.Sub b' b):Hp.Dj a' b':=λn=>by
 rcases d n with e | e
 ·left;cases E:a' n with
  | none=>rfl
  | some x=>rw[h n _ E]at e;cases e
 ·right;cases hb:b' n with
  | none=>rfl
  | some x=>rw[k n _ hb]at e;cases e
theorem Hp.Dj.ui {a b c:Hp}(d:Hp.Dj a b)(k:Hp.Dj a c):Hp.Dj a (Hp.un b c):=λn=>by
 rcases d n with e | e
 ·exact .inl e
 ·rcases k n with f | f
  ·exact .inl f
  ·right;simp[Hp.un,e,f]
def cn:List SP→SP
 | [],_=>True
 | A::L,h=>∃ h1 h2,Hp.Dj h1 h2∧Hp.Sub h1 h∧Hp.Sub h2 h∧A h1∧cn L h2
theorem C7:∀ {L:List SP} {h h':Hp},Hp.Sub h h'→cn L h→cn L h'
 | [],_,_,_,_=>trivial
 | _::_,_,_,s,⟨h1,h2,d,a,b,p,q⟩=>⟨h1,h2,d,a.trans s,b.trans s,p,q⟩
theorem PU {A B:SP}{L:List SP}{h:Hp}:cn (A::B::L) h→cn (B::A::L) h
 | ⟨h1,h2,d,a,b,p,k1,k2,e,f,g,q,r⟩ =>
  ⟨k1,Hp.un h1 k2,(d.mono (Hp.Sub.refl _) f).symm.ui e,f.trans b,Hp.C6 a (g.trans b),q,
   h1,k2,d.mono (Hp.Sub.refl _) g,Hp.C5 _ _,Hp.ui (d.mono (Hp.Sub.refl _) g),p,r⟩
theorem PV {A:SP}{L L':List SP}(k:∀ h,cn L h→cn L' h){h:Hp}:cn (A::L) h→cn (A::L') h
 | ⟨h1,h2,d,a,b,p,q⟩=>⟨h1,h2,d,a,b,p,k _ q⟩
theorem PW {L L':List SP}(p:L.Perm L'):∀ {h:Hp},cn L h→cn L' h:=by
 induction p with
 | nil=>exact λh=>h
 | cons x _ ih=>exact λh=>PV (λ_=>ih) h
 | swap x y l=>exact λh=>PU h
 | trans _ _ PX PY=>exact λh=>PY (PX h)
theorem H9:∀ {M L:List SP} {h1 h2 h:Hp},Hp.Dj h1 h2→Hp.Sub h1 h→Hp.Sub h2 h→cn M h1→cn L h2→cn (M++L) h
 | [],_,_,_,_,_,_,s,_,q=>C7 s q
 | _::_,_,h1,h2,_,d,s,t,⟨k1,k2,e,f,g,p,r⟩,q =>
  ⟨k1,Hp.un k2 h2,e.ui (d.mono f (Hp.Sub.refl _)),f.trans s,Hp.C6 (g.trans s) t,p,
   H9 (d.mono g (Hp.Sub.refl _)) (Hp.C5 _ _) (Hp.ui (d.mono g (Hp.Sub.refl _))) r q⟩
theorem C8:∀ {M L:List SP} {h:Hp},cn (M++L) h→∃ h1 h2,Hp.Dj h1 h2∧Hp.Sub h1 h∧Hp.Sub h2 h∧cn M h1∧cn L h2
 | [],_,h,q=>⟨λ_=>none,h,λ_=>.inl rfl,λ_ _ e=>(by cases e),Hp.Sub.refl _,trivial,q⟩
 | _::M,L,h,⟨k1,k2,e,f,g,p,r⟩=>by
  obtain⟨h1,h2,d,s,t,q,u⟩:=C8 (M:=M) (L:=L) r;exact⟨Hp.un k1 h1,h2,(Hp.Dj.ui (d.symm) (e.symm.mono t (Hp.Sub.refl _)) |> λx=>(by
   intro n;rcases x n with y | y
   ·exact .inr y
   ·left;simp only[Hp.un]at y ⊢;cases hk:k1 n with
    | some z=>cases hh:h1 n with
     | some u=>simp[hh]at y
     | none=>simp[hh,hk]at y
    | none=>cases hh:h1 n with
     | some u=>simp[hh]at y
     | none=>rfl)),Hp.C6 f (s.trans g),t.trans g,p |> λp=>⟨k1,h1,e.mono (Hp.Sub.refl _) s,Hp.C5 _ _,Hp.ui (e.mono (Hp.Sub.refl _) s),p,q⟩,u⟩
def kW (b:Nat)(o:Obj):SP:=λh=>h b=some o
def aa (b:Nat)(e:TypeId)(cs:List Value):SP:=kW b (.cells cs.toArray e (0,0))
structure U (W w:World)(L:List SP):Prop where
 below:Below W.heap.size W w
 sat:∃ h:Hp,(∀ n o,h n=some o→W.heap.size≤n∧w.heap[n]?=some o)∧cn L h
section
variable {W w:World}{L L' M:List SP}
theorem U.start (W:World):U W W []:=⟨Below.refl _ _,λ_=>none,λ_ _ h=>(by cases h),trivial⟩
theorem U.imp (s:U W w L)(k:∀ h,cn L h→cn L' h):U W w L' :=
 let ⟨b,h,p,q⟩:=s;⟨b,h,p,k h q⟩
theorem U.perm (s:U W w L)(p:L.Perm L'):U W w L':=s.imp λ_=>PW p
theorem U.nil (s:U W w L):U W w []:=s.imp λ_ _=>trivial
theorem U.tail {A:SP}(s:U W w (A::L)):U W w L:=s.imp λ_ ⟨_,_,_,_,b,_,q⟩=>C7 b q
theorem U.drop (s:U W w (M++L)):U W w L:=s.imp λ_ q=>let ⟨_,_,_,_,b,_,q⟩:=C8 q;C7 b q
theorem U.open {A:SP}(s:U W w (A::L))(k:∀ h,A h→cn M h):U W w (M++L) :=
 s.imp λ_ ⟨_,_,d,a,b,p,q⟩=>H9 d a b (k _ p) q
theorem U.shut {A:SP}(s:U W w (M++L))(k:∀ h,cn M h→A h):U W w (A::L) :=
 s.imp λ_ q=>let ⟨h1,h2,d,a,b,p,q⟩:=C8 q;⟨h1,h2,d,a,b,k _ p,q⟩
theorem U.tell {A:SP}{p:Prop}(s:U W w (A::L))(k:∀ h,A h→p):p :=
 let ⟨_,_,_,_,_,_,_,_,x,_⟩:=s;k _ x
theorem U.jL {ι:Type}{A:SP}{p:ι→Prop}{B:ι→SP}(s:U W w (A::L))(k:∀ h,A h→∃ i,p i∧B i h):∃ i,p i∧U W w (B i::L):=by
 obtain⟨b,h,q,h1,h2,d,x,y,z,r⟩:=s;obtain⟨i,hp,hB⟩:=k _ z;exact⟨i,hp,b,h,q,h1,h2,d,x,y,hB,r⟩
theorem U.drew (s:U W w L):U W w.drew L:=⟨s.below.drew,s.sat⟩
theorem U.alloc (s:U W w L)(o:Obj):U W (w.alloc o) (kW w.heap.size o::L):=by
 obtain⟨b,h,p,q⟩:=s;have hn:h w.heap.size=none:=by
  cases e:h w.heap.size with
  | none=>rfl
  | some x=>have:=(p _ _ e).2;simp at this
 refine⟨b.alloc b.size o,λn=>if n=w.heap.size then some o else h n,?_,λn=>if n=w.heap.size then some o else none,h,?_,?_,?_,by simp[kW],q⟩
 ·intro n x e;by_cases hb:n=w.heap.size
  ·simp[hb]at e;subst e;subst hb;exact⟨b.size,by show (w.heap.push o)[w.heap.size]?=_;simp⟩
  ·simp[hb]at e;refine⟨(p _ _ e).1,?_⟩;have:=(p _ _ e).2;show (w.heap.push o)[n]?=_;rw[Array.getElem?_push,ag hb];exact this
 ·intro n;by_cases hb:n=w.heap.size
  ·right;rw[hb];exact hn
  ·left;simp[hb]
 ·intro n x e;by_cases hb:n=w.heap.size <;> simp[hb]at e ⊢;exact e
 ·intro n x e;by_cases hb:n=w.heap.size
  ·rw[hb,hn]at e;cases e
  ·simp[hb,e]
theorem U.has {b:Nat}{o:Obj}(s:U W w (kW b o::L)):W.heap.size≤b∧w.heap[b]?=some o :=
 let ⟨_,_,p,_,_,_,a,_,x,_⟩:=s;p _ _ (a _ _ x)
theorem U.cm {b:Nat}{o o':Obj}{w':World}(s:U W w (kW b o::L))(PZ:w'.os=w.os)(ht:w'.tape=w.tape)(P0:w'.output=w.output)
   (hh:w'.heap=w.heap.setIfInBounds b o'):U W w' (kW b o'::L):=by
 have hb:=s.has;obtain⟨m5,h,p,h1,h2,d,a,k,x,q⟩:=s;have hlt:b<w.heap.size:=by have:=(rl.1 hb.2).1;exact this
 have Ia : h2 b = none := by rcases d b with e | e; · rw [x] at e; cases e
                             ·exact e
 refine⟨m5.trans ⟨PZ,ht,P0,by rw[hh];simp,λn hn=>?_⟩,λn=>if n=b then some o' else h n,?_,λn=>if n=b then some o' else none,h2,?_,?_,?_,by simp[kW],q⟩
 ·rw[hh,Array.getElem?_setIfInBounds,ag (by omega)]
 ·intro n y e;by_cases hn:n=b
  ·simp[hn]at e;subst e;subst hn;exact⟨hb.1,by rw[hh,Array.getElem?_setIfInBounds];simp[hlt]⟩
  ·simp[hn]at e;refine⟨(p _ _ e).1,?_⟩;rw[hh,Array.getElem?_setIfInBounds,ag (by omega)];exact (p _ _ e).2
 ·intro n;by_cases hn:n=b
  ·right;rw[hn];exact Ia
  ·left;simp[hn]
 ·intro n y e;by_cases hn:n=b <;> simp[hn]at e ⊢;exact e
 ·intro n y e;by_cases hn:n=b
  ·rw[hn,Ia]at e;cases e
  ·simp[hn];exact k _ _ e
end
theorem U.cell {W w:World}{L:List SP}{b:Nat}{e:TypeId}{cs:List Value}(s:U W w (aa b e cs::L))(i:Nat) :
   w.cell? ⟨b,i,none⟩=cs[i]?:=by
 have:=s.has.2;simp[World.cell?,this]
theorem U.gD {W w:World}{L:List SP}(s:U W w L){a:Addr}(h:a.block<W.heap.size):w.cell? a=W.cell? a:=s.below.cell h
def cG (cs:List Value)(off:Nat)(vs:List Value):List Value:=cs.take off++vs++cs.drop (off+vs.length)
theorem U.setRow {W w:World}{L:List SP}{b:Nat}{e:TypeId}{cs mx:List Value}(s:U W w (aa b e cs::L)) :
   U W (w.setRow b mx.toArray) (aa b e mx::L):=by
 have hb:=s.has.2;refine s.cm (o':=.cells mx.toArray e (0,0)) rfl rfl rfl ?_;apply Array.ext_getElem?;intro i;simp only[World.setRow,Array.getElem?_modify,Array.getElem?_setIfInBounds];by_cases hi:b=i
 ·subst hi;rw[ak rfl,ak rfl,hb];have:b<w.heap.size:=(rl.1 hb).1;simp[this]
 ·simp[hi]
structure Old (w0 w:World):Prop where
 size:w0.heap.size≤w.heap.size
 same:∀ k,k<w0.heap.size→w.heap[k]?=w0.heap[k]?
theorem Old.refl (w:World):Old w w:=⟨bf _,λ_ _=>rfl⟩
theorem Old.cell {w0 w:World}(h:Old w0 w){ad:Addr}{v:Value}(hc:w0.cell? ad=some v):w.cell? ad=some v:=by
 rw[← hc];exact World.cell?_of_block (h.same _ (World.block_lt_of_cell? _ _ hc))
theorem Old.trans {a b c:World}(h:Old a b)(k:Old b c):Old a c:=⟨fG h.size k.size,λn hn=>(k.same n (z6 hn h.size)).trans (h.same n hn)⟩
theorem Old.alloc (w:World)(o:Obj):Old w (w.alloc o):=⟨by simp,λk hk=>Below.heap_alloc _ _ _ hk⟩
end
section
structure Fr (a:Act)(n:Nat)(l:List (Nat×Value)):Prop where
 defers:a.defers=[]
 size:a.tmps.size=n
 has:∀ p∈l,a.tmps[p.1]?=some p.2
def Ib (d:Nat)(l:List (Nat×Value)):Bool:=l.all λp=>!(Nat.beq p.1 d)
def okB (d n:Nat)(l:List (Nat×Value)):Bool:=Nat.ble (d+1) n&&Ib d l
class fp (l:List (Nat×Value))(t:Nat)(v:outParam Value):Prop where mem:(t,v)∈l
instance fp.head {l t v}:fp ((t,v)::l) t v:=⟨gY⟩
instance (priority:=low) fp.tail {l t v p}[h:fp l t v]:fp (p::l) t v:=⟨gP _ h.mem⟩
class Ev (l:List (Nat×Value))(o:Operand)(v:outParam Value):Prop where ev:∀ a n,Fr a n l→a.eval o=v
instance Ev.tmp {l t v}[h:fp l t v]:Ev l (.tmp t) v:=⟨λa n E=>by
 have:=E.has _ h.mem;simp only[Act.eval];simp[Array.getD_eq_getD_getElem?,this]⟩
instance Ev.const {l v}:Ev l (.const v) v:=⟨λ_ _ _=>rfl⟩
instance Ev.func {l f}:Ev l (.func f) (.func (.func f) #[] #[]):=⟨λ_ _ _=>rfl⟩
class nP (l:List (Nat×Value))(os:List Operand)(vs:outParam (List Value)):Prop where ev:∀ a n,Fr a n l→os.map a.eval=vs
instance nP.nil {l}:nP l [] []:=⟨λ_ _ _=>rfl⟩
instance nP.cons {l o os v vs}[h:Ev l o v][k:nP l os vs]:nP l (o::os) (v::vs):=⟨λa n E=>by
 simp[h.ev a n E,k.ev a n E]⟩
class vO (l:List (Nat×Value))(ks:List Nat)(l':outParam (List (Nat×Value))):Prop where sub:∀ p∈l',p∈l
instance vO.nil {l}:vO l [] []:=⟨λ_ h=>by cases h⟩
instance vO.cons {l k ks v l'}[h:fp l k v][r:vO l ks l']:vO l (k::ks) ((k,v)::l'):=⟨λp hp=>by
 rcases List.mem_cons.1 hp with rfl | h'
 ·exact h.mem
 ·exact r.sub _ h'⟩
theorem Fr.ab {a n l l'}(h:Fr a n l)(ks:List Nat)[k:vO l ks l']:Fr a n l':=⟨h.defers,h.size,λp hp=>h.has _ (k.sub _ hp)⟩
class gZ (l:List (Nat×Value))(d:Nat)(l':outParam (List (Nat×Value))):Prop where sub:∀ p∈l',p∈l
instance gZ.nil {d}:gZ [] d []:=⟨λ_ h=>h⟩
instance gZ.head {l d v}:gZ ((d,v)::l) d l:=⟨λ_ h=>gP _ h⟩
instance (priority:=low) gZ.tail {l d p l'}[h:gZ l d l']:gZ (p::l) d (p::l'):=⟨λq hq=>by
 rcases List.mem_cons.1 hq with rfl | h'
 ·exact gY
 ·exact gP _ (h.sub _ h')⟩
theorem Fr.del {a n l l'}(h:Fr a n l)(d:Nat)[k:gZ l d l']:Fr a n l':=⟨h.defers,h.size,λp hp=>h.has _ (k.sub _ hp)⟩
theorem P1 {d n l}(h:okB d n l=true):d<n:=by
 simp only[okB,fq]at h;exact Nat.le_of_ble_eq_true h.1
theorem P2 {d n l}(h:okB d n l=true):∀ p∈l,p.1≠d:=by
 simp only[okB,Ib,fq,all_eq_true]at h;intro p hp e;have:=h.2 p hp;rw[e]at this;have:Nat.beq d d=true:=Nat.beq_refl d;simp[this] at *
theorem Fr.put {a n l d}(h:Fr a n l)(hf:okB d n l=true)(v:Value):Fr (a.put (some d) v) n ((d,v)::l):=by
 have hl:=P1 hf;refine⟨h.defers,by simp[Act.put,h.size],λp hp=>?_⟩;rcases List.mem_cons.1 hp with rfl | hp
 ·simp[Act.put,h.size,hl]
 ·have bD:=P2 hf p hp;simp only[Act.put];rw[Array.getElem?_setIfInBounds,ag (λe=>bD e.symm)];exact h.has _ hp
theorem Fr.enter {m:Nat}{vs:List Value}(hm:vs.length≤m) :
   Fr { tmps:=vs.toArray++Array.replicate (m-vs.toArray.size) undef,defers:=[] } m ((List.range vs.length).zip vs):=by
 refine⟨rfl,by simp;omega,λp hp=>?_⟩;obtain⟨i,hi,rfl⟩:=List.mem_iff_getElem.1 hp;simp only[List.length_zip,length_range]at hi;have hv:i<vs.length:=by omega
 simp only[List.getElem_zip,List.getElem_range];rw[Array.getElem?_append_left (by simp;omega)];simp[hv]
section
variable {P:Program}{ops:Array Oper}{Q:Exit→Act→World→Prop}{a:Act}{w w':World}{K:Act→World→Prop}{o:Oper}{n d:Nat}{l:List (Nat×Value)}{v:Value}
def cJ (P:Program)(ops:Array Oper)(Q:Exit→Act→World→Prop)(o:Oper)(K:Act→World→Prop)(a:Act)(w:World):Prop :=
 if Region.wanted o (yielded ops a.tmps) then o.wp P a w K Q∨(o.asks P a w∧LetsOut Q) else K (a.put o.dst undef) w
theorem P3 {rest:List Oper}(h:cJ P ops Q o (wpList P ops Q rest) a w):wpList P ops Q (o::rest) a w:=h
theorem Ic (hw:Region.wanted o (yielded ops a.tmps)=true)(hr:(execOp a.eval o).run P w=.ok (.value v) w')
   (h:K (a.put o.dst v) w'):cJ P ops Q o K a w:=by
 unfold cJ;rw[ak hw];left;unfold Oper.wp;rw[hr];exact h
theorem bm {op ty ps af g}(E:Fr a n l)(hw:Region.wanted ⟨some d,op,ty,ps,af,g⟩ (yielded ops a.tmps)=true)
   (hr:(execOp a.eval ⟨some d,op,ty,ps,af,g⟩).run P w=.ok (.value v) w') (hf:okB d n l=true)
   (h:∀ a',Fr a' n ((d,v)::l)→K a' w'):cJ P ops Q ⟨some d,op,ty,ps,af,g⟩ K a w :=
 Ic hw hr (h _ (E.put hf v))
theorem C9 {op ty ps af g}(E:Fr a n l)(hw:Region.wanted ⟨none,op,ty,ps,af,g⟩ (yielded ops a.tmps)=true)
   (hr:(execOp a.eval ⟨none,op,ty,ps,af,g⟩).run P w=.ok (.value v) w')
   (h:∀ a',Fr a' n l→K a' w'):cJ P ops Q ⟨none,op,ty,ps,af,g⟩ K a w :=
 Ic hw hr (h _ E)
theorem Da {op ty ps af g}(E:Fr a n l)(hw:Region.wanted ⟨none,op,ty,ps,af,g⟩ (yielded ops a.tmps)=true)
   (hr:(execOp a.eval ⟨none,op,ty,ps,af,g⟩).run P w=.ok .skip w')
   (h:∀ a',Fr a' n l→K a' w'):cJ P ops Q ⟨none,op,ty,ps,af,g⟩ K a w:=by
 unfold cJ;rw[ak hw];left;unfold Oper.wp;rw[hr];exact h _ E
theorem P4 {op ty ps af g}(E:Fr a n l)(hw:Region.wanted ⟨some d,op,ty,ps,af,g⟩ (yielded ops a.tmps)=false)(hf:okB d n l=true)
   (h:∀ a',Fr a' n ((d,undef)::l)→K a' w):cJ P ops Q ⟨some d,op,ty,ps,af,g⟩ K a w:=by
 unfold cJ;rw[ag (by rw[hw];simp)];exact h _ (E.put hf undef)
theorem P5 {op ty ps af j s b c dst}(E:Fr a n l)(hj:(ops[j]?).bind (·.dst)=some s)[k:fp l s (.bool c)] :
   Region.wanted ⟨dst,op,ty,ps,af,some (j,b)⟩ (yielded ops a.tmps)=(c==b):=by
 have:=E.has _ k.mem;simp[Region.wanted,yielded,hj,this]
theorem bQ {op ty ps af j s b dst}(E:Fr a n l)(hj:(ops[j]?).bind (·.dst)=some s)[k:fp l s (.bool b)] :
   Region.wanted ⟨dst,op,ty,ps,af,some (j,b)⟩ (yielded ops a.tmps)=true:=by rw[P5 E hj];simp
theorem Fr.bool {s:Nat}{c:Bool} {l'}(E:Fr a n l)[k:fp l s (.bool c)][e:gZ l s l']{G:Prop}
   (ht:c=true→Fr a n ((s,.bool true)::l')→G) (hf:c=false→Fr a n ((s,.bool false)::l')→G):G:=by
 have hm:=E.has _ k.mem;have hd:=E.del s;cases c with
 | true => exact ht rfl ⟨E.defers, E.size, fun p hp => by
      rcases List.mem_cons.1 hp with rfl | hp
      ·exact hm
      ·exact hd.has _ hp⟩
 | false => exact hf rfl ⟨E.defers, E.size, fun p hp => by
     rcases List.mem_cons.1 hp with rfl | hp
     ·exact hm
     ·exact hd.has _ hp⟩
theorem P6 {x dst ty ps af g}(E:Fr a n l)[e:Ev l x v]:(execOp a.eval ⟨dst,.move x,ty,ps,af,g⟩).run P w=.ok (.value v) w:=by
 simp[execOp,e.ev a n E,pure,Sem.run]
theorem P7 {x dst ty ps af g}(E:Fr a n l)[e:Ev l x v]:(execOp a.eval ⟨dst,.assign x,ty,ps,af,g⟩).run P w=.ok (.value v) w:=by
 simp[execOp,e.ev a n E,pure,Sem.run]
theorem P8 {c x y dst ty ps af g}(E:Fr a n l)[e:Ev l c (.bool true)][f:Ev l x v]:(execOp a.eval ⟨dst,.pick c x y,ty,ps,af,g⟩).run P w=.ok (.value v) w:=by
 simp[execOp,e.ev a n E,f.ev a n E,asBool]
theorem P9 {c x y dst ty ps af g}(E:Fr a n l)[e:Ev l c (.bool false)][f:Ev l y v]:(execOp a.eval ⟨dst,.pick c x y,ty,ps,af,g⟩).run P w=.ok (.value v) w:=by
 simp[execOp,e.ev a n E,f.ev a n E,asBool]
class z7 (v:Value):Prop where h:(∃ ad,v=.pointer (some ad))∨∃ t u,v=.iface t u
instance {ad}:z7 (.pointer (some ad)):=⟨.inl ⟨_,rfl⟩⟩
instance {t u}:z7 (.iface t u):=⟨.inr ⟨_,_,rfl⟩⟩
theorem Qa {x dst ty ps af g}(E:Fr a n l)[e:Ev l x v][k:z7 v]:(execOp a.eval ⟨dst,.nilCheck x,ty,ps,af,g⟩).run P w=.ok (.value v) w:=by
 rcases k.h with ⟨ad,rfl⟩ | ⟨t,u,rfl⟩ <;> simp[execOp,e.ev a n E]
theorem Ie {x y k i j t u dst ty ps af g}(E:Fr a n l)[e:Ev l x (.int k i)][f:Ev l y (.int k j)] :
   (execOp a.eval ⟨dst,.binOp .add t x y u,ty,ps,af,g⟩).run P w=.ok (.value (.int k (k.wrap (i+j)))) w:=by
 simp[execOp,e.ev a n E,f.ev a n E,eqGuard,binOp,Op.intArith]
theorem z8 {x y k i j t u dst ty ps af g}(E:Fr a n l)[e:Ev l x (.int k i)][f:Ev l y (.int k j)] :
   (execOp a.eval ⟨dst,.binOp .sub t x y u,ty,ps,af,g⟩).run P w=.ok (.value (.int k (k.wrap (i-j)))) w:=by
 simp[execOp,e.ev a n E,f.ev a n E,eqGuard,binOp,Op.intArith]
theorem Ig {x y k i j t u dst ty ps af g}(E:Fr a n l)[e:Ev l x (.int k i)][f:Ev l y (.int k j)] :
   (execOp a.eval ⟨dst,.binOp .mul t x y u,ty,ps,af,g⟩).run P w=.ok (.value (.int k (k.wrap (i*j)))) w:=by
 simp[execOp,e.ev a n E,f.ev a n E,eqGuard,binOp,Op.intArith]
theorem fH {i:Int}(h1:-9223372036854775808≤i)(h2:i≤9223372036854775807):IntKind.i64.wrap i=i:=IntWalk.i64_in _ (by omega)
theorem Qb {x y i j t u dst ty ps af g}(E:Fr a n l)[e:Ev l x (.int .i64 i)][f:Ev l y (.int .i64 j)](h1:-9223372036854775808≤i+j)(h2:i+j≤9223372036854775807) :
   (execOp a.eval ⟨dst,.binOp .add t x y u,ty,ps,af,g⟩).run P w=.ok (.value (.int .i64 (i+j))) w:=by
 rw[Ie E,fH h1 h2]
theorem Qc {x y i j t u dst ty ps af g}(E:Fr a n l)[e:Ev l x (.int .i64 i)][f:Ev l y (.int .i64 j)](h1:-9223372036854775808≤i-j)(h2:i-j≤9223372036854775807) :
   (execOp a.eval ⟨dst,.binOp .sub t x y u,ty,ps,af,g⟩).run P w=.ok (.value (.int .i64 (i-j))) w:=by
 rw[z8 E,fH h1 h2]
theorem Qd {x y i j t u dst ty ps af g}(E:Fr a n l)[e:Ev l x (.int .i64 i)][f:Ev l y (.int .i64 j)](h1:-9223372036854775808≤i*j)(h2:i*j≤9223372036854775807) :
   (execOp a.eval ⟨dst,.binOp .mul t x y u,ty,ps,af,g⟩).run P w=.ok (.value (.int .i64 (i*j))) w:=by
 rw[Ig E,fH h1 h2]
theorem Qe {x y k i j t u dst ty ps af g}(E:Fr a n l)[e:Ev l x (.int k i)][f:Ev l y (.int k j)] :
   (execOp a.eval ⟨dst,.binOp .lss t x y u,ty,ps,af,g⟩).run P w=.ok (.value (.bool (decide (i<j)))) w:=by
 simp[execOp,e.ev a n E,f.ev a n E,eqGuard,binOp,Op.intCmp]
theorem Qf {x y k i j t u dst ty ps af g}(E:Fr a n l)[e:Ev l x (.int k i)][f:Ev l y (.int k j)] :
   (execOp a.eval ⟨dst,.binOp .leq t x y u,ty,ps,af,g⟩).run P w=.ok (.value (.bool (decide (i≤j)))) w:=by
 simp[execOp,e.ev a n E,f.ev a n E,eqGuard,binOp,Op.intCmp]
theorem Qg {x y k i j t u dst ty ps af g}(E:Fr a n l)[e:Ev l x (.int k i)][f:Ev l y (.int k j)] :
   (execOp a.eval ⟨dst,.binOp .gtr t x y u,ty,ps,af,g⟩).run P w=.ok (.value (.bool (decide (j<i)))) w:=by
 simp[execOp,e.ev a n E,f.ev a n E,eqGuard,binOp,Op.intCmp]
theorem Qh {x y k i j t u dst ty ps af g}(E:Fr a n l)[e:Ev l x (.int k i)][f:Ev l y (.int k j)] :
   (execOp a.eval ⟨dst,.binOp .geq t x y u,ty,ps,af,g⟩).run P w=.ok (.value (.bool (decide (j≤i)))) w:=by
 simp[execOp,e.ev a n E,f.ev a n E,eqGuard,binOp,Op.intCmp]
theorem Qi {x y k i j t u dst ty ps af g}(E:Fr a n l)[e:Ev l x (.int k i)][f:Ev l y (.int k j)] :
   (execOp a.eval ⟨dst,.binOp .eql t x y u,ty,ps,af,g⟩).run P w=.ok (.value (.bool (decide (i=j)))) w:=by
 simp[execOp,e.ev a n E,f.ev a n E,eqGuard,binOp,Op.intCmp];rfl
theorem Qj {x y k i j t u dst ty ps af g}(E:Fr a n l)[e:Ev l x (.int k i)][f:Ev l y (.int k j)] :
   (execOp a.eval ⟨dst,.binOp .neq t x y u,ty,ps,af,g⟩).run P w=.ok (.value (.bool (decide (i≠j)))) w:=by
 simp[execOp,e.ev a n E,f.ev a n E,eqGuard,binOp,Op.intCmp,bne];rfl
theorem Qk {x b t dst ty ps af g}(E:Fr a n l)[e:Ev l x (.bool b)]:(execOp a.eval ⟨dst,.unOp .not t x,ty,ps,af,g⟩).run P w=.ok (.value (.bool (!b))) w:=by
 simp[execOp,e.ev a n E,Op.unary]
class uj (v:Value)(b:outParam Bool):Prop where h:v=.pointer none∧b=true∨(∃ ad,v=.pointer (some ad))∧b=false
instance:uj (.pointer none) true:=⟨.inl ⟨rfl,rfl⟩⟩
instance {ad}:uj (.pointer (some ad)) false:=⟨.inr ⟨⟨_,rfl⟩,rfl⟩⟩
theorem Aa {t el:TypeId}(ht:P.underlying t=some (.pointer el)):P.underlying t=some (.pointer (P.pointee t)):=by
 rw[ht];simp[Program.pointee,ht]
theorem Ql {x b t u el dst ty ps af g}(E:Fr a n l)(ht:P.underlying t=some (.pointer el))[e:Ev l x v][k:uj v b] :
   (execOp a.eval ⟨dst,.binOp .eql t x (.const (.pointer none)) u,ty,ps,af,g⟩).run P w=.ok (.value (.bool b)) w:=by
 have hc:a.eval (.const (.pointer none))=.pointer none:=rfl;rcases k.h with ⟨rfl,rfl⟩ | ⟨⟨ad,rfl⟩,rfl⟩
 ·have:=run_eql_pointer_nil (P:=P) (w:=w) t none (Aa ht);simp only[execOp,e.ev a n E,hc,Sem.run_bind];simp[eqGuard,this]
 ·have:=run_eql_pointer_nil (P:=P) (w:=w) t (some ad) (Aa ht);simp only[execOp,e.ev a n E,hc,Sem.run_bind];simp[eqGuard,this]
theorem Qm {x b t u el dst ty ps af g}(E:Fr a n l)(ht:P.underlying t=some (.pointer el))[e:Ev l x v][k:uj v b] :
   (execOp a.eval ⟨dst,.binOp .neq t x (.const (.pointer none)) u,ty,ps,af,g⟩).run P w=.ok (.value (.bool (!b))) w:=by
 have hc:a.eval (.const (.pointer none))=.pointer none:=rfl;rcases k.h with ⟨rfl,rfl⟩ | ⟨⟨ad,rfl⟩,rfl⟩
 ·have:=run_neq_pointer_nil (P:=P) (w:=w) t none (Aa ht);simp only[execOp,e.ev a n E,hc,Sem.run_bind];simp[eqGuard,this]
 ·have:=run_neq_pointer_nil (P:=P) (w:=w) t (some ad) (Aa ht);simp only[execOp,e.ev a n E,hc,Sem.run_bind];simp[eqGuard,this]
end
end
section
class TI (P:Program)(t:TypeId)(z:outParam Value)(size bytes:outParam Nat):Prop where of ::
 h:(P.info? t).map (λi=>(i.zero,i.size,i.bytes))=some (some z,size,bytes)
def ov:TypeDesc→Bool | .struct _ | .array _ _=>false | _=>true
class fI (L:List SP)(b:Nat)(e:outParam TypeId)(cs:outParam (List Value))(R:outParam (List SP)):Prop where perm:L.Perm (aa b e cs::R)
instance fI.head {L b e cs}:fI (aa b e cs::L) b e cs L:=⟨lD _⟩
instance (priority:=low) fI.tail {A L b e cs R}[h:fI L b e cs R]:fI (A::L) b e cs (A::R) :=
 ⟨(kx A h.perm).trans (cZ _ _ _)⟩
class Cells (v:Value)(vs:outParam (List Value)):Prop where h:v.cells=vs.toArray
instance {vs:List Value}:Cells (.agg vs.toArray) vs:=⟨rfl⟩
instance {b}:Cells (.bool b) [.bool b]:=⟨rfl⟩
instance {k i}:Cells (.int k i) [.int k i]:=⟨rfl⟩
instance {s}:Cells (.string s) [.string s]:=⟨rfl⟩
instance {p}:Cells (.pointer p) [.pointer p]:=⟨rfl⟩
instance {p n c}:Cells (.slice p n c) [.slice p n c]:=⟨rfl⟩
instance {m}:Cells (.map m) [.map m]:=⟨rfl⟩
instance {f x y}:Cells (.func f x y) [.func f x y]:=⟨rfl⟩
instance {t v}:Cells (.iface t v) [.iface t v]:=⟨rfl⟩
class qp (cs:List Value)(i:Nat)(v:Value)(mx:outParam (List Value)):Prop where h:cs.set i v=mx
instance (priority:=low) qp.any {cs i v}:qp cs i v (cs.set i v):=⟨rfl⟩
instance qp.zero {c cs v}:qp (c::cs) 0 v (v::cs):=⟨rfl⟩
instance qp.succ {c cs i v mx}[h:qp cs i v mx]:qp (c::cs) (i+1) v (c::mx):=⟨by rw[List.set_cons_succ,h.h]⟩
class my (cs:List Value)(off m:Nat)(vs:outParam (List Value)):Prop where h:(cs.drop off).take m=vs
instance (priority:=low) my.any {cs off m}:my cs off m ((cs.drop off).take m):=⟨rfl⟩
instance my.nil {cs}:my cs 0 0 []:=⟨by simp⟩
instance my.cons {x cs m vs}[h:my cs 0 m vs]:my (x::cs) 0 (m+1) (x::vs):=⟨by
 have:=h.h;simp only[drop_zero] at *;rw[take_succ_cons,this]⟩
class sL (o k:Nat)(r:outParam Nat):Prop where h:o+k=r
instance (priority:=low) sL.any {o k}:sL o k (o+k):=⟨rfl⟩
instance sL.left {o}:sL o 0 o:=⟨rfl⟩
instance sL.right {k}:sL 0 k k:=⟨eE k⟩
def Rd (w:World)(b off:Nat)(vs:List Value):Prop:=∀ j v,vs[j]?=some v→w.cell? ⟨b,off+j,none⟩=some v
theorem lE (b o k:Nat):(⟨b,o,none⟩:Addr).add k=⟨b,o+k,none⟩:=by unfold Addr.add;split <;> simp_all
section
variable {P:Program}{W w:World}{L R:List SP}{b e:Nat}{cs:List Value}
theorem U.jX (s:U W w L)(b:Nat)[k:fI L b e cs R]:U W w (aa b e cs::R):=s.perm k.perm
theorem U.bz (s:U W w L)[k:fI L b e cs R]{off:Nat}{v:Value}(h:cs[off]?=some v):w.cell? ⟨b,off,none⟩=some v:=by
 rw[(s.perm k.perm).cell];exact h
theorem U.qq (s:U W w L)[k:fI L b e cs R]{off:Nat}(m:Nat){vs:List Value}[sc:my cs off m vs]:Rd w b off vs:=by
 have h:=sc.h;intro j v hj;rw[(s.perm k.perm).cell];rw[← h,vP]at hj;by_cases hm:j<m
 ·rw[ak hm,qs]at hj;exact hj
 ·rw[ag hm]at hj;cases hj
theorem U.ai (s:U W w L)[k:fI L b e cs R]:Rd w b 0 cs:=by
 intro j v hj;rw[(s.perm k.perm).cell,eE];exact hj
theorem Qn {t eh}{ad:Addr}{v:Value}(hu:P.underlying t=some eh)(hd:ov eh=true)(hc:w.cell? ad=some v):(loadVar t ad).run P w=.ok v w:=by
 have:(isAgg t).run P w=.ok false w:=by
  simp only[isAgg,Sem.run_bind,eO hu,Result.andThen_ok];cases eh <;> first | rfl | (simp[ov]at hd)
 simp[loadVar,this,load,Sem.run,hc]
theorem Db {t eh z a1}{off:Nat}{vs:List Value}(hu:P.underlying t=some eh)(hd:ov eh=false)(hi:TI P t z vs.length a1)(hc:Rd w b off vs) :
   (loadVar t ⟨b,off,none⟩).run P w=.ok (.agg vs.toArray) w:=by
 have h1:(isAgg t).run P w=.ok true w:=by
  simp only[isAgg,Sem.run_bind,eO hu,Result.andThen_ok];cases eh <;> first | rfl | (simp[ov]at hd)
 obtain⟨i,h2,_,h3,_⟩:=info_parts hi.h;have h4:(sizeOf t).run P w=.ok vs.length w:=by simp[sizeOf,typeInfo,h2,h3]
 have h5:=run_loadCells_list (P:=P) w ⟨b,off,none⟩ vs (λj v hj=>by rw[lE];exact hc j v hj);simp[loadVar,h1,h4,h5]
end
section
variable {P:Program}{ops:Array Oper}{Q:Exit→Act→World→Prop}{a:Act}{w w' W:World}{K:Act→World→Prop}{n d:Nat}{l:List (Nat×Value)}{v:Value}{L R:List SP}
theorem Ih {x ad t eh dst ty ps af g}(E:Fr a n l)(hu:P.underlying t=some eh)(hd:ov eh=true)[ev:Ev l x (.pointer (some ad))](hc:w.cell? ad=some v) :
   (execOp a.eval ⟨dst,.load t x,ty,ps,af,g⟩).run P w=.ok (.value v) w:=by
 simp[execOp,ev.ev a n E,Instr.loadAt,Instr.sureAddr,Qn hu hd hc]
theorem bT {x b off t eh z a1 vs dst ty ps af g}(E:Fr a n l)(hu:P.underlying t=some eh)(hd:ov eh=false)(hi:TI P t z (List.length vs) a1)[ev:Ev l x (.pointer (some ⟨b,off,none⟩))](hc:Rd w b off vs) :
   (execOp a.eval ⟨dst,.load t x,ty,ps,af,g⟩).run P w=.ok (.value (.agg vs.toArray)) w:=by
 simp[execOp,ev.ev a n E,Instr.loadAt,Instr.sureAddr,Db hu hd hi hc]
theorem mz {t z sz a1}(hi:TI P t z sz a1):(sizeOf t).run P w=.ok sz w:=by
 obtain⟨i,h2,_,h3,_⟩:=info_parts hi.h;simp[sizeOf,typeInfo,h2,h3]
theorem uk {t z sz a1}(hi:TI P t z sz a1):(zeroValue t).run P w=.ok z w:=by
 obtain⟨i,h2,h1,h3,_⟩:=info_parts hi.h;simp[zeroValue,typeInfo,h2,h1]
theorem e0 {t z sz a1 zs ty ps af g}(E:Fr a n l)(hw:Region.wanted ⟨some d,.alloc t,ty,ps,af,g⟩ (yielded ops a.tmps)=true)(I:U W w L)(hi:TI P t z sz a1)[k:Cells z zs]
   (hf:okB d n l=true) (h:∀ b a' w',Fr a' n ((d,.pointer (some ⟨b,0,none⟩))::l)→U W w' (aa b t zs::L)→Old w w'→K a' w') :
   cJ P ops Q ⟨some d,.alloc t,ty,ps,af,g⟩ K a w:=by
 refine bm (v:=.pointer (some ⟨w.heap.size,0,none⟩)) (w':=w.alloc (.cells zs.toArray t)) E hw ?_ hf (λa' de=>h _ _ _ de (I.alloc _) (Old.alloc _ _));simp[execOp,Instr.alloc,uk hi,newVar,newRow,newObj,Sem.run,k.h,Sem.run_bind]
theorem xQ {t x vs ty ps af g}(E:Fr a n l)(hw:Region.wanted ⟨some d,.box t x,ty,ps,af,g⟩ (yielded ops a.tmps)=true)(I:U W w L)[ev:Ev l x v][k:Cells v vs]
   (hf:okB d n l=true) (h:∀ b a' w',Fr a' n ((d,.pointer (some ⟨b,0,none⟩))::l)→U W w' (aa b t vs::L)→Old w w'→K a' w') :
   cJ P ops Q ⟨some d,.box t x,ty,ps,af,g⟩ K a w:=by
 refine bm (v:=.pointer (some ⟨w.heap.size,0,none⟩)) (w':=w.alloc (.cells vs.toArray t)) E hw ?_ hf (λa' de=>h _ _ _ de (I.alloc _) (Old.alloc _ _));simp[execOp,Instr.box,ev.ev a n E,newVar,newRow,newObj,Sem.run,k.h,Sem.run_bind]
theorem Ii {t z a1 b e off}{v:Value}{vs cs:List Value}(I:U W w (aa b e cs::R))(hi:TI P t z vs.length a1)(hv:v.cells=vs.toArray)(h1:∀ v∈vs,v.oneCell'=true)
   (hle:off+vs.length≤cs.length):(storeVar t ⟨b,off,none⟩ v).run P w=.ok () (w.setRow b (cG cs off vs).toArray):=by
 have:=run_storeCells_at (P:=P) b off e vs 0 cs.toArray w I.has.2 (by simpa using hle) h1;simp[storeVar,hv,mz hi,this,cG]
theorem Ij {t z a1 x y b e off cs mx ty ps af g}(E:Fr a n l)(hw:Region.wanted ⟨none,.store t x y,ty,ps,af,g⟩ (yielded ops a.tmps)=true)(I:U W w L)
   (hi:TI P t z 1 a1) [ev:Ev l x (.pointer (some ⟨b,off,none⟩))] [um:Ev l y v] [qt:Cells v [v]] [k:fI L b e cs R] (h1:v.oneCell'=true) (hlt:off<cs.length) [sc:qp cs off v mx]
   (h:∀ a' w',Fr a' n l→U W w' (aa b e mx::R)→K a' w'):cJ P ops Q ⟨none,.store t x y,ty,ps,af,g⟩ K a w:=by
 have g2:=I.jX b;have hr:=Ii (P:=P) (t:=t) (off:=off) (vs:=[v]) g2 hi qt.h (by simpa using h1) (by simp;omega);have he:cG cs off [v]=mx:=by
  rw[← sc.h,cG,rp,ak hlt];simp
 refine Da (w':=w.setRow b (cG cs off [v]).toArray) E hw ?_ (λa' de=>h a' _ de (he ▸ g2.setRow));simp[execOp,ev.ev a n E,um.ev a n E,Instr.storeAt,Instr.sureAddr,hr]
theorem rq {t z a1 x y b e off cs vs ty ps af g}(E:Fr a n l)(hw:Region.wanted ⟨none,.store t x y,ty,ps,af,g⟩ (yielded ops a.tmps)=true)(I:U W w L)
   (hi:TI P t z (List.length vs) a1) [ev:Ev l x (.pointer (some ⟨b,off,none⟩))] [um:Ev l y v] [qt:Cells v vs] [k:fI L b e cs R] (h1:∀ v∈vs,v.oneCell'=true) (hle:off+vs.length≤cs.length)
   (h:∀ a' w',Fr a' n l→U W w' (aa b e (cG cs off vs)::R)→K a' w'):cJ P ops Q ⟨none,.store t x y,ty,ps,af,g⟩ K a w:=by
 have g2:=I.jX b;have hr:=Ii (P:=P) (t:=t) (off:=off) (vs:=vs) g2 hi qt.h h1 hle;refine Da (w':=w.setRow b (cG cs off vs).toArray) E hw ?_ (λa' de=>h a' _ de g2.setRow);simp[execOp,ev.ev a n E,um.ev a n E,Instr.storeAt,Instr.sureAddr,hr]
theorem Qo {t z a1 x y b e cs vs ty ps af g}(E:Fr a n l)(hw:Region.wanted ⟨none,.store t x y,ty,ps,af,g⟩ (yielded ops a.tmps)=true)(I:U W w L)
   (hi:TI P t z (List.length vs) a1) [ev:Ev l x (.pointer (some ⟨b,0,none⟩))] [um:Ev l y v] [qt:Cells v vs] [k:fI L b e cs R] (h1:∀ v∈vs,v.oneCell'=true) (hle:vs.length=cs.length)
   (h:∀ a' w',Fr a' n l→U W w' (aa b e vs::R)→K a' w'):cJ P ops Q ⟨none,.store t x y,ty,ps,af,g⟩ K a w:=by
 refine rq E hw I hi h1 (by omega) (λa' w' de g2=>h a' w' de ?_)
 rwa [show cG cs 0 vs=vs from by simp[cG,hle]]at g2
theorem Qp {x b off t f k r fs iW z sz a1 dst ty ps af g}(E:Fr a n l)[ev:Ev l x (.pointer (some ⟨b,off,none⟩))](hu:P.underlying t=some (.struct fs))(hf:fs[f]?=some iW)(hi:TI P iW.type z (sz+1) a1)
   (hk:iW.offset=k) [Qq:sL off k r]:(execOp a.eval ⟨dst,.fieldAddr t x f,ty,ps,af,g⟩).run P w=.ok (.value (.pointer (some ⟨b,r,none⟩))) w:=by
 simp[execOp,ev.ev a n E,Instr.fieldAt,eO hu,hf,Instr.sureAddr,fieldPlace,mz hi,lE,hk,Qq.h]
class eo (i:Int)(j:outParam Nat):Prop where h:i=(j:Int)
instance {j:Nat}:eo (j:Int) j:=⟨rfl⟩
instance:eo 0 0:=⟨rfl⟩
instance:eo 1 1:=⟨rfl⟩
instance:eo 2 2:=⟨rfl⟩
instance:eo 3 3:=⟨rfl⟩
instance:eo 4 4:=⟨rfl⟩
instance:eo 7 7:=⟨rfl⟩
instance:eo 8 8:=⟨rfl⟩
instance:eo 16 16:=⟨rfl⟩
instance:eo 24 24:=⟨rfl⟩
instance {x y:Int}{i j:Nat}[h:eo x i][k:eo y j]:eo (x+y) (i+j):=⟨by rw[h.h,k.h];rfl⟩
theorem Ik {x y k i j b off m c t el z sz a1 dst ty ps af g}(E:Fr a n l)[ev:Ev l x (.slice (some ⟨b,off,none⟩) m c)][g3:Ev l y (.int k i)](hu:P.underlying t=some (.slice el))(hi:TI P el z sz a1)[nj:eo i j]
   (hlt:j<m):(execOp a.eval ⟨dst,.indexAddr t x y,ty,ps,af,g⟩).run P w=.ok (.value (.pointer (some ⟨b,off+j*sz,none⟩))) w:=by
 have:=nj.h;subst this;simp[execOp,ev.ev a n E,g3.ev a n E,Instr.indexAt,asIntOf,eO hu,mz hi,lE,hlt]
theorem Qr {x y k i j b off m t el z sz a1 dst ty ps af g}(E:Fr a n l)[ev:Ev l x (.pointer (some ⟨b,off,none⟩))][g3:Ev l y (.int k i)](hu:P.underlying t=some (.array m el))(hi:TI P el z sz a1)[nj:eo i j]
   (hlt:j<m):(execOp a.eval ⟨dst,.indexAddr t x y,ty,ps,af,g⟩).run P w=.ok (.value (.pointer (some ⟨b,off+j*sz,none⟩))) w:=by
 have:=nj.h;subst this;simp[execOp,ev.ev a n E,g3.ev a n E,Instr.indexAt,asIntOf,eO hu,mz hi,lE,hlt,Instr.sureAddr]
theorem Qs {x ad m c t el dst ty ps af g}(E:Fr a n l)[ev:Ev l x (.slice ad m c)](hu:P.underlying t=some (.slice el)) :
   (execOp a.eval ⟨dst,.call ⟨.builtin .len,#[x],#[t]⟩,ty,ps,af,g⟩).run P w=.ok (.value (.int .i64 m)) w:=by
 simp[execOp,resolve,ev.ev a n E,invoke,builtin,Builtin.len_,eO hu,goInt]
theorem Qt {fn xs ys us vs dst ty ps af g}(E:Fr a n l)[e1:nP l xs us][e2:nP l ys vs] :
   (execOp a.eval ⟨dst,.makeFunc fn xs.toArray ys.toArray,ty,ps,af,g⟩).run P w=.ok (.value (.func fn us.toArray vs.toArray)) w:=by
 simp[execOp,Instr.makeFunc,e1.ev a n E,e2.ev a n E]
def hQ (P : Program) (f : FuncId) : Bool := match P.funcs[f]? with | some fn => !(fn.name == "runtime.NumGoroutine") && fn.body.isSome | none => false
theorem Ab {f}{vs:Array Value}(h:hQ P f=true):(callFunc f vs).run P w=.ok (.enter f vs) w:=by
 simp only[hQ]at h;cases hf:P.funcs[f]? with
 | none=>simp[hf]at h
 | some fn =>
  simp only[hf,fq,Bool.not_eq_true']at h;have hb:fn.body.isNone=false:=by cases hb:fn.body <;> simp_all
  simp only[callFunc,program,Sem.run,Sem.run_bind,Result.andThen_ok,hf,h.1,hb];simp
theorem Il {op ty ps af g dst f}{vs:Array Value}{X:Ending→World→Prop}(hw:Region.wanted ⟨dst,op,ty,ps,af,g⟩ (yielded ops a.tmps)=true)
   (hr:(execOp a.eval ⟨dst,op,ty,ps,af,g⟩).run P w=.ok (.enter f vs) w) (hc:Calls P f vs w X)
   (h:∀ e w',X e w'→∃ v,e=.returned v∧K (a.put dst v) w'):cJ P ops Q ⟨dst,op,ty,ps,af,g⟩ K a w:=by
 unfold cJ;rw[ak hw];left;unfold Oper.wp;rw[hr,Oper.upon_enter];refine hc.mono λe w' hx=>?_;obtain⟨v,rfl,hv⟩:=h e w' hx;exact hv
theorem Im {fn:Func} {t}{X:Ending→World→Prop}(E:Fr a n l)(hr:fn.results=#[.tmp t])[k:fp l t v](h:X (.returned v) w):bodyPost P fn X .ret a w:=by
 refine bodyPost_ret (results_tmp hr _ _ _) E.defers ?_;have:=E.has _ k.mem;simpa [Array.getD_eq_getD_getElem?,this] using h
theorem Io {fn:Func} {t u v2}{X:Ending→World→Prop}(E:Fr a n l)(hr:fn.results=#[.tmp t,.tmp u])[k:fp l t v][k2:fp l u v2](h:X (.returned (.tuple #[v,v2])) w):bodyPost P fn X .ret a w:=by
 refine bodyPost_ret (results_tmp2 hr _ _ _) E.defers ?_;have h1:=E.has _ k.mem;have h2:=E.has _ k2.mem;simpa [Array.getD_eq_getD_getElem?,h1,h2] using h
theorem Ip {fn:Func}{X:Ending→World→Prop}(E:Fr a n l)(hr:fn.results=#[])(h:X (.returned (.tuple #[])) w):bodyPost P fn X .ret a w :=
 bodyPost_ret (results_none hr _ _ _) E.defers h
theorem Iq {fn:Func}{X:Ending→World→Prop}(E:Fr a n l)(hr:fn.results=#[])(h:X (.returned (.tuple #[])) w):bodyPost P fn X .normal a w :=
 bodyPost_end (results_none hr _ _ _) E.defers h
theorem Qv {fn:Func} {x ad t}{X:Ending→World→Prop}(E:Fr a n l)(hr:fn.results=#[.cell x t])[k:fp l x (.pointer (some ad))](hl:(loadVar t ad).run P w=.ok v w)(h:X (.returned v) w):bodyPost P fn X .ret a w:=by
 refine bodyPost_ret ?_ E.defers h;have h1:=E.has _ k.mem;simp[results,hr,Array.getD_eq_getD_getElem?,h1,asAddr,hl]
theorem Qw {fn:Func} {x ad t u v2}{X:Ending→World→Prop}(E:Fr a n l)(hr:fn.results=#[.cell x t,.tmp u])[k:fp l x (.pointer (some ad))][k2:fp l u v2](hl:(loadVar t ad).run P w=.ok v w)
   (h:X (.returned (.tuple #[v,v2])) w):bodyPost P fn X .ret a w:=by
 refine bodyPost_ret ?_ E.defers h;have h1:=E.has _ k.mem;have h2:=E.has _ k2.mem;simp[results,hr,Array.getD_eq_getD_getElem?,h1,h2,asAddr,hl]
theorem Qx {f m:Nat}{fn:Func}{c:Code}{vs:List Value}{X:Ending→World→Prop}(hf:P.funcs[f]?=some fn)(hb:fn.body=some c)(hn:fn.ntmps=m)(hm:vs.length≤m)
   (h:∀ a,Fr a m ((List.range vs.length).zip vs)→c.wp P (bodyPost P fn X) a w):Calls P f vs.toArray w X :=
 calls_of_wp hf hb (by rw[hn];exact h _ (Fr.enter hm))
theorem cd {x y:Code}{M:Act→World→Prop}(h:x.wp P (Exit.then M Q) a w)(k:∀ a w,M a w→y.wp P Q a w):(Code.seq x y).wp P Q a w:=by
 refine wp_seq (wp_mono h ?_);intro e a' w' hq;cases e <;> first | exact k _ _ hq | exact hq
theorem Ir {c:Operand}{x y:Code}(E:Fr a n l)[e:Ev l c (.bool true)](h:x.wp P Q a w):(Code.cond c x y).wp P Q a w:=wp_cond_true (e.ev a n E) h
theorem Is {c:Operand}{x y:Code}(E:Fr a n l)[e:Ev l c (.bool false)](h:y.wp P Q a w):(Code.cond c x y).wp P Q a w:=wp_cond_false (e.ev a n E) h
theorem Qy {i:Nat}(h:Q .normal a w):Exit.inBlock i Q (.exit i) a w:=by simp only[Exit.inBlock,if_true];exact h
theorem Qz {i j:Nat}(hn:Nat.beq j i=false)(h:Q (.exit j) a w):Exit.inBlock i Q (.exit j) a w:=by
 simp only[Exit.inBlock];rw[ag (by intro e;subst e;rw[Nat.beq_refl]at hn;cases hn)];exact h
end
end
section
def Sl (e sz:Nat)(ad:Option Addr)(n c:Nat)(cs:List Value):SP:=λh =>
 cs.length=n*sz∧n≤c∧(c=0∨∃ b pre post,ad=some ⟨b,pre.length,none⟩∧(c-n)*sz≤post.length∧aa b e (pre++cs++post) h)
class fQ (L:List SP)(ad:Option Addr)(n c e sz:outParam Nat)(cs:outParam (List Value))(R:outParam (List SP)):Prop where perm:L.Perm (Sl e sz ad n c cs::R)
instance fQ.head {L ad n c e sz cs}:fQ (Sl e sz ad n c cs::L) ad n c e sz cs L:=⟨lD _⟩
instance (priority:=low) fQ.tail {A L ad n c e sz cs R}[h:fQ L ad n c e sz cs R]:fQ (A::L) ad n c e sz cs (A::R) :=
 ⟨(kx A h.perm).trans (cZ _ _ _)⟩
class qv (L:List SP)(A:SP)(R:outParam (List SP)):Prop where perm:L.Perm (A::R)
instance qv.head {A L}:qv (A::L) A L:=⟨lD _⟩
instance (priority:=low) qv.tail {B L A R}[h:qv L A R]:qv (B::L) A (B::R):=⟨(kx B h.perm).trans (cZ _ _ _)⟩
class fJ (L M:List SP)(R:outParam (List SP)):Prop where perm:L.Perm (M++R)
instance fJ.nil {L}:fJ L [] L:=⟨lD _⟩
instance (priority:=high) fJ.refl {L}:fJ L L []:=⟨by simp⟩
instance (priority:=low) fJ.skip {A L M R}[h:fJ L M R]:fJ (A::L) M (A::R):=⟨(kx A h.perm).trans (by
 have:=nQ (a:=A) (l₁:=M) (l₂:=R);exact this.symm)⟩
instance fJ.cons {L A M R R'}[h:qv L A R][k:fJ R M R']:fJ L (A::M) R':=⟨h.perm.trans (kx A k.perm)⟩
section
variable {P:Program}{W w:World}{L R:List SP}{e sz n c:Nat}{ad:Option Addr}{cs:List Value}
theorem U.pick (s:U W w L)(A:SP)[k:qv L A R]:U W w (A::R):=s.perm k.perm
theorem U.arr {M:List SP}(s:U W w L)[k:fJ L M R]:U W w (M++R):=s.perm k.perm
theorem U.sub {M:List SP}(s:U W w L)[k:fJ L M R]:U W w M:=by
 have:=(s.perm k.perm).perm (List.perm_append_comm);exact this.drop
theorem U.sl (s:U W w L)(ad:Option Addr)[k:fQ L ad n c e sz cs R]:cs.length=n*sz∧n≤c:=(s.perm k.perm).tell λ_ h=>⟨h.1,h.2.1⟩
theorem U.l4 (s:U W w (Sl e sz ad n c cs::L))(h0:0<c):∃ b pre post,(cs.length=n*sz∧n≤c∧ad=some ⟨b,List.length pre,none⟩∧(c-n)*sz≤List.length post)∧U W w (aa b e (pre++cs++post)::L):=by
 obtain⟨⟨b,pre,post⟩,h1,h2⟩:=s.jL (ι:=Nat×List Value×List Value) (p:=λi=>cs.length=n*sz∧n≤c∧ad=some ⟨i.1,i.2.1.length,none⟩∧(c-n)*sz≤i.2.2.length)
  (B:=λi=>aa i.1 e (i.2.1++cs++i.2.2)) (λh hx=>by
   obtain⟨cH,dq,a3⟩:=hx;rcases a3 with a3 | ⟨b,pre,post,x,y,z⟩
   ·omega
   ·exact⟨⟨b,pre,post⟩,⟨cH,dq,x,y⟩,z⟩)
 exact⟨b,pre,post,h1,h2⟩
theorem U.iX {b:Nat}{pre post:List Value}(s:U W w (aa b e (pre++cs++post)::L))(h1:cs.length=n*sz)(h2:n≤c)(h3:(c-n)*sz≤post.length) :
   U W w (Sl e sz (some ⟨b,pre.length,none⟩) n c cs::L) :=
 U.imp s λ_ ⟨QA,QB,d,a,k,x,q⟩=>⟨QA,QB,d,a,k,⟨h1,h2,.inr ⟨b,pre,post,rfl,h3,x⟩⟩,q⟩
theorem U.bN (s:U W w L)(e sz:Nat)(ad:Option Addr):U W w (Sl e sz ad 0 0 []::L) :=
 ⟨s.below,let ⟨h,p,q⟩:=s.sat;⟨h,p,λ_=>none,h,λ_=>.inl rfl,λ_ _ e=>(by cases e),Hp.Sub.refl _,⟨by simp,bf _,.inl rfl⟩,q⟩⟩
theorem U.bU (s:U W w L)(ad:Option Addr)[k:fQ L ad n c e sz cs R](h0:0<n):∃ b off,ad=some ⟨b,off,none⟩∧Rd w b off cs:=by
 have s':=s.perm k.perm;have hn:=s.sl ad;obtain⟨b,pre,post,⟨h1,h2,h3,h4⟩,s2⟩:=s'.l4 (by omega);refine⟨b,pre.length,h3,λj v hj=>?_⟩;rw[s2.cell];have:j<cs.length:=by
  rcases gQ j cs.length with h | h
  ·exact h
  ·rw[js h]at hj;cases hj
 rw[mA (by simp;omega),pA (by omega)];simpa using hj
theorem U.cK (s:U W w L)(b:Nat)(off:Nat)[k:fQ L (some ⟨b,off,none⟩) n c e sz cs R](h0:0<n):Rd w b off cs:=by
 obtain⟨b2,gR,h,hr⟩:=s.bU (some ⟨b,off,none⟩) h0;cases h;exact hr
theorem Rd.part {b off:Nat}{vs:List Value}(h:Rd w b off vs)(i m:Nat):Rd w b (off+i) ((vs.drop i).take m):=by
 intro j v hj;rw[vP]at hj;by_cases hm:j<m
 ·rw[ak hm,qs]at hj;have:=h _ _ hj
  rwa [← Nat.add_assoc]at this
 ·rw[ag hm]at hj;cases hj
theorem xR (e:TypeId){z:Value}{a1:Nat}(hz:z.cells.size=sz)(m:Nat):(Builtin.zeroCells z.cells m).toList.length=m*sz:=by
 rw[Array.length_toList,size_zeroCells,hz]
theorem QC {t ty:TypeId}{z:Value}{a1:Nat}(ht:P.underlying t=some (.slice e))(hi:TI P e z sz a1)(hz:z.cells.size=sz)(s:U W w (Sl e sz ad n c cs::L))
   (It:ad=none→c=0) {b2 gR m c2:Nat} {news:List Value} (hr:Rd w b2 gR news) (hl:news.length=m*sz) (h1:∀ v∈news,v.oneCell'=true) (hm:0<m) (hb:0<a1) (aH:(n+m)*a1≤140737488355328) :
   ∃ av c' w',(Builtin.append_ #[t,t] ty #[.slice ad n c,.slice (some ⟨b2,gR,none⟩) m c2]).run P w=.ok (.slice av (n+m) c') w'∧U W w' (Sl e sz av (n+m) c' (cs++news)::L)∧(av=none→c'=0):=by
 obtain⟨i,lF,dL,kX,qw⟩:=info_parts hi.h;have qx:=s.sl ad;have QD:n+m≤140737488355328:=fG (Nat.le_mul_of_pos_right _ hb) aH;have ow:∀ j v,news[j]?=some v→w.cell? ((⟨b2,gR,none⟩:Addr).add j)=some v:=λj v hj=>by rw[lE];exact hr j v hj
 by_cases nR:n+m≤c
 ·obtain⟨b,pre,post,⟨cH,dq,rfl,a4⟩,s2⟩:=s.l4 (by omega);have eF:(c-n)*sz ≥ m*sz:=ox _ (by omega);have hf:=run_firstCells_some (P:=P) w i.size m ⟨b2,gR,none⟩ m c2 news (by rw[kX];exact hl) ow;have aR:=run_storeCells_at (P:=P) b (pre.length+n*sz) e news 0 (pre++cs++post).toArray w s2.has.2 (by simp;omega) h1;have e1:(pre++cs++post).take (pre.length+n*sz)=pre++cs:=by rw[← cH,← aI,List.take_left]
  have e2:(pre++cs++post).drop (pre.length+n*sz+0+news.length)=post.drop news.length:=by
   rw[← cH,Nat.add_zero,← aI,← ky,drop_left]
  refine⟨some ⟨b,pre.length,none⟩,c,w.setRow b (pre++(cs++news)++post.drop news.length).toArray,?_,?_,λh=>by cases h⟩
  ·have rr:(storeCells ⟨b,pre.length+n*sz,none⟩ news 0).run P w=.ok () (w.setRow b (((pre++cs++post).take (pre.length+n*sz)++news)++(pre++cs++post).drop (pre.length+n*sz+0+news.length)).toArray):=aR;rw[e1,e2]at rr;simp[Builtin.append_,eO ht,sizeOf,typeInfo,lF,Builtin.lenOf,nR,lE,kX];rw[kX]at hf;simp[hf,rr,dx]
  ·refine U.iX (pre:=pre) (post:=post.drop news.length) s2.setRow (by simp;rw[hl,cH,Nat.add_mul]) (by omega) ?_;simp only[c5];have:(c-(n+m))*sz=(c-n)*sz-m*sz:=by rw[← Nat.sub_mul];congr 1;omega
   omega
 ·have QE:(Builtin.zeroCells z.cells (grownCap w (n+m) c e-(n+m))).toList.length=(grownCap w (n+m) c e-(n+m))*sz:=xR e (a1:=a1) hz _;have nS:=grownCap_ge w (n+m) c e;have eP:Builtin.nextslicecap (n+m) c*i.bytes≤281474976710656:=by rw[qw];exact growslice_fits (by omega) aH
  have done : ∀ gD : List Value, gD = cs → U W (w.drew.alloc (.cells (gD.toArray ++ news.toArray ++ Builtin.zeroCells z.cells (grownCap w (n + m) c e - (n + m))) e))
      (Sl e sz (some ⟨w.heap.size,0,none⟩) (n+m) (grownCap w (n+m) c e) (cs++news)::L):=by
   intro gD ho;have vQ:=(s.tail.drew).alloc (.cells (gD.toArray++news.toArray++Builtin.zeroCells z.cells (grownCap w (n+m) c e-(n+m))) e)
   have Dc : U W (w.drew.alloc (.cells (gD.toArray ++ news.toArray ++ Builtin.zeroCells z.cells (grownCap w (n + m) c e - (n + m))) e))
       (aa w.heap.size e ([]++(cs++news)++(Builtin.zeroCells z.cells (grownCap w (n+m) c e-(n+m))).toList)::L):=by
    have:(gD.toArray++news.toArray++Builtin.zeroCells z.cells (grownCap w (n+m) c e-(n+m)))=([]++(cs++news)++(Builtin.zeroCells z.cells (grownCap w (n+m) c e-(n+m))).toList).toArray:=by
     apply Array.ext';simp[ho]
    rw[this]at vQ ⊢;exact vQ
   exact U.iX (pre:=[]) Dc (by simp;rw[hl,qx.1,Nat.add_mul]) nS (by omega)
  by_cases hc:c=0
  ·subst hc;have vR:n=0:=by omega
   subst vR;have kz:cs=[]:=g4 (by rw[qx.1];simp);subst kz;cases ad with
   | none =>
    have:=run_append_nil (P:=P) w t ty e i z ht lF dL ⟨b2,gR,none⟩ m c2 news (by rw[kX];exact hl) ow hm (by omega) (by rw[qw];rw[eE]at aH;omega);refine⟨_,_,_,by simpa using this,?_,λh=>by cases h⟩;have:=done [] rfl;simpa using this
   | some b =>
    have:=run_append_grow (P:=P) w t ty e i z ht lF dL b 0 0 [] (by simp) (λj v hj=>by simp at hj) ⟨b2,gR,none⟩ m c2 news (by rw[kX];exact hl) ow (by omega) (by omega) eP;refine⟨_,_,_,by simpa using this,?_,λh=>by cases h⟩;have:=done [] rfl;simpa using this
  ·obtain⟨b,pre,post,⟨cH,dq,rfl,a4⟩,s2⟩:=s.l4 (by omega);have holds:∀ j v,cs[j]?=some v→w.cell? ((⟨b,pre.length,none⟩:Addr).add j)=some v:=by
    intro j v hj;rw[lE,s2.cell];have:j<cs.length:=by
     rcases gQ j cs.length with h | h
     ·exact h
     ·rw[js h]at hj;cases hj
    rw[mA (by simp;omega),pA (by omega)];simpa using hj
   have:=run_append_grow (P:=P) w t ty e i z ht lF dL ⟨b,pre.length,none⟩ n c cs (by rw[kX];exact cH) holds ⟨b2,gR,none⟩ m c2 news (by rw[kX];exact hl) ow (by omega) (by omega) eP;exact⟨_,_,_,this,done cs rfl,λh=>by cases h⟩
def ft (ad:Option Addr)(lo c sz:Nat):Option Addr:=if c=lo then ad else ad.map (·.add (lo*sz))
theorem pB {b o lo c sz:Nat}(h:c≠lo):ft (some ⟨b,o,none⟩) lo c sz=some ⟨b,o+lo*sz,none⟩:=by simp[ft,h,lE]
theorem U.QF (s:U W w (Sl e sz ad n c cs::L)){lo hi:Nat}(h1:lo≤hi)(h2:hi≤n) :
   U W w (Sl e sz (ft ad lo c sz) (hi-lo) (c-lo) ((cs.drop (lo*sz)).take ((hi-lo)*sz))::L):=by
 have qx:=s.sl ad;have gS:(hi-lo)*sz+lo*sz=hi*sz:=by rw[← Nat.add_mul];congr 1;omega
 have kA:hi*sz≤n*sz:=ox _ h2;have hlen:((cs.drop (lo*sz)).take ((hi-lo)*sz)).length=(hi-lo)*sz:=by simp;omega
 by_cases hc:c=lo
 ·have hz:hi-lo=0:=by omega
  have eQ:c-lo=0:=by omega
  rw[hz,eQ];simp only[Nat.zero_mul,take_zero];exact s.tail.bN e sz _
 ·obtain⟨b,pre,post,⟨cH,dq,rfl,a4⟩,s2⟩:=s.l4 (by omega);have he:pre++cs++post=(pre++cs.take (lo*sz))++((cs.drop (lo*sz)).take ((hi-lo)*sz))++(cs.drop (hi*sz)++post):=by
   have e1:cs=cs.take (lo*sz)++(cs.drop (lo*sz)).take ((hi-lo)*sz)++cs.drop (hi*sz):=by
    have:cs.drop (hi*sz)=(cs.drop (lo*sz)).drop ((hi-lo)*sz):=by rw[ky];congr 1;omega
    rw[this,dx,jY,jY]
   conv=>lhs;rw[e1]
   simp[dx]
  rw[he]at s2;have eF:(pre++cs.take (lo*sz)).length=pre.length+lo*sz:=by simp;omega
  have:=U.iX (n:=hi-lo) (c:=c-lo) (sz:=sz) s2 hlen (by omega) (by
   simp only[aI,c5];have:(c-lo-(hi-lo))*sz=(c-n)*sz+(n*sz-hi*sz):=by rw[← Nat.sub_mul,← Nat.add_mul];congr 1;omega
   omega)
  rw[eF]at this;simpa [ft,hc,lE] using this
theorem U.Dd (s:U W w L)(ad:Option Addr)(lo hi:Nat)[k:fQ L ad n c e sz cs R](h1:lo≤hi)(h2:hi≤n) :
   U W w (Sl e sz (ft ad lo c sz) (hi-lo) (c-lo) ((cs.drop (lo*sz)).take ((hi-lo)*sz))::R):=(s.perm k.perm).QF h1 h2
end
section
variable {P:Program}{ops:Array Oper}{Q:Exit→Act→World→Prop}{a:Act}{w w' W:World}{K:Act→World→Prop}{o:Oper}{n d:Nat}{l:List (Nat×Value)}{v:Value}{L R:List SP}
theorem qy {t el:TypeId}(ht:P.underlying t=some (.slice el)):P.underlying t=some (.slice (P.elem t))∧P.elem t=el:=by
 constructor <;> simp[Program.elem,ht]
theorem QG {x y k i j ad m c t el z sz a1 dst ty ps af g}(E:Fr a n l)(ht:P.underlying t=some (.slice el))(hi:TI P el z sz a1)[ev:Ev l x (.slice ad m c)][g3:Ev l y (.int k i)][nj:eo i j](h:j≤m) :
   (execOp a.eval ⟨dst,.slice t x (some y) none none,ty,ps,af,g⟩).run P w=.ok (.value (.slice (ft ad j c sz) (m-j) (c-j))) w:=by
 have hj:=nj.h;subst hj;have e1:=(qy ht).1;have e2:=(qy ht).2;have:=run_slice_l (P:=P) (w:=w) t ad m c e1 k (j:Int) (by omega) (by omega);rw[e2,mz hi]at this;simp only[Result.andThen_ok,c6]at this;simp[execOp,ev.ev a n E,g3.ev a n E,run_sliceAt_slice (P:=P) (w:=w) t _ _ _ _ e1,this,sliced,ft]
theorem QI {x y k i j ad m c t el z sz a1 dst ty ps af g}(E:Fr a n l)(ht:P.underlying t=some (.slice el))(hi:TI P el z sz a1)[ev:Ev l x (.slice ad m c)][g3:Ev l y (.int k i)][nj:eo i j](h:j≤c) :
   (execOp a.eval ⟨dst,.slice t x none (some y) none,ty,ps,af,g⟩).run P w=.ok (.value (.slice (ft ad 0 c sz) (j-0) (c-0))) w:=by
 have hj:=nj.h;subst hj;have e1:=(qy ht).1;have e2:=(qy ht).2;have:=run_slice_h (P:=P) (w:=w) t ad m c e1 k (j:Int) (by omega) (by omega);rw[e2,mz hi]at this;simp only[Result.andThen_ok,c6]at this;simp[execOp,ev.ev a n E,g3.ev a n E,run_sliceAt_slice (P:=P) (w:=w) t _ _ _ _ e1,this,sliced,ft]
theorem QJ {x y u k k' i i' j j' ad m c t el z sz a1 dst ty ps af g}(E:Fr a n l)(ht:P.underlying t=some (.slice el))(hi:TI P el z sz a1)[ev:Ev l x (.slice ad m c)][g3:Ev l y (.int k i)][uo:Ev l u (.int k' i')][nj:eo i j][xS:eo i' j'](h:j≤j')(h':j'≤c) :
   (execOp a.eval ⟨dst,.slice t x (some y) (some u) none,ty,ps,af,g⟩).run P w=.ok (.value (.slice (ft ad j c sz) (j'-j) (c-j))) w:=by
 have hj:=nj.h;subst hj;have lG:=xS.h;subst lG;have e1:=(qy ht).1;have e2:=(qy ht).2;have:=run_slice_lh (P:=P) (w:=w) t ad m c e1 k k' (j:Int) (j':Int) (by omega) (by omega) (by omega);rw[e2,mz hi]at this;simp only[Result.andThen_ok,c6]at this;simp[execOp,ev.ev a n E,g3.ev a n E,uo.ev a n E,run_sliceAt_slice (P:=P) (w:=w) t _ _ _ _ e1,this,sliced,ft]
theorem QK {s x t z a1 b2 gR m c2 news e sz ad k c dst ty ps af g}{cs:List Value}(E:Fr a n l)(I:U W w L)(ht:P.underlying t=some (.slice e))(hi:TI P e z sz a1)(hz:z.cells.size=sz)
   [e1:Ev l s (.slice ad k c)] [pk:fQ L ad k c e sz cs R] [e2:Ev l x (.slice (some ⟨b2,gR,none⟩) m c2)] (hr:Rd w b2 gR news) (hl:news.length=m*sz) (h1:∀ v∈news,v.oneCell'=true) (hm:0<m) (hb:0<a1)
   (aH:(k+m)*a1≤140737488355328) :
   ∃ av c' w',(execOp a.eval ⟨dst,.call ⟨.builtin .append,#[s,x],#[t,t]⟩,ty,ps,af,g⟩).run P w=.ok (.value (.slice av (k+m) c')) w'∧U W w' (Sl e sz av (k+m) c' (cs++news)::R):=by
 have g2:=I.perm pk.perm;have It:ad=none→c=0:=g2.tell λ_ hx=>by
  rintro rfl;rcases hx.2.2 with h | ⟨_,_,_,h,_⟩
  ·exact h
  ·cases h
 obtain⟨av,c',w',h2,h3,_⟩:=QC (P:=P) (ty:=ty) ht hi hz g2 It (c2:=c2) hr hl h1 hm hb aH;exact⟨av,c',w',by simp[execOp,resolve,e1.ev a n E,e2.ev a n E,invoke,builtin,h2],h3⟩
theorem cQ {s x t z a1 b2 gR m c2 news e sz ad k c ty ps af g}{cs:List Value}(E:Fr a n l)(hw:Region.wanted ⟨some d,.call ⟨.builtin .append,#[s,x],#[t,t]⟩,ty,ps,af,g⟩ (yielded ops a.tmps)=true)(I:U W w L)
   (ht:P.underlying t=some (.slice e)) (hi:TI P e z sz a1) (hz:z.cells.size=sz) (hf:okB d n l=true)
   [e1:Ev l s (.slice ad k c)] [pk:fQ L ad k c e sz cs R] [e2:Ev l x (.slice (some ⟨b2,gR,none⟩) m c2)] (hr:Rd w b2 gR news) (hl:news.length=m*sz) (h1:∀ v∈news,v.oneCell'=true) (hm:0<m) (hb:0<a1)
   (aH:(k+m)*a1≤140737488355328)
   (h:∀ av c' a' w',Fr a' n ((d,.slice av (k+m) c')::l)→U W w' (Sl e sz av (k+m) c' (cs++news)::R)→K a' w') :
   cJ P ops Q ⟨some d,.call ⟨.builtin .append,#[s,x],#[t,t]⟩,ty,ps,af,g⟩ K a w:=by
 obtain⟨av,c',w',h2,h3⟩:=QK (P:=P) (dst:=some d) (ty:=ty) (ps:=ps) (af:=af) (g:=g) E I ht hi hz (s:=s) (x:=x) hr hl h1 hm hb aH;exact bm E hw h2 hf λa' de=>h _ _ a' _ de h3
class uq (l:List (Nat×Value))(parts:List (Nat×Operand))(i:Nat)(fR:outParam (List (List Value))):Prop where
 h:∀ a n,Fr a n l→∃ vs:List Value,parts.map (λp=>(p.1,a.eval p.2))=(List.range' i fR.length).zip vs∧vs.map (·.cells)=fR.map (·.toArray)
instance uq.nil {l i}:uq l [] i []:=⟨λ_ _ _=>⟨[],rfl,rfl⟩⟩
instance uq.cons {l i o v c ps fR}[h1:Ev l o v][h2:Cells v c][h3:uq l ps (i+1) fR]:uq l ((i,o)::ps) i (c::fR):=⟨λa n E=>by
 obtain⟨vs,e1,e2⟩:=h3.h a n E;exact⟨v::vs,by simp[List.range'_succ,e1,h1.ev a n E],by simp[e2,h2.h]⟩⟩
theorem Iu (c:List Value):∀ (k:Nat) (off:Nat) (cells:List Value),off+k+c.length≤cells.length →
   (c.zipIdx k).foldl (λ(cs:Array Value) (p:Value×Nat)=>cs.setIfInBounds (off+p.2) p.1) cells.toArray=(cells.take (off+k)++c++cells.drop (off+k+c.length)).toArray:=by
 induction c with
 | nil=>intro k off cells h;simp
 | cons x c ih =>
  intro k off cells h;simp only[eR]at h;simp only[List.zipIdx_cons,foldl_cons,List.setIfInBounds_toArray];rw[ih (k+1) off (cells.set (off+k) x) (by simp;omega)]
  congr 1
  rw[rp,ak (by omega)];have hl:(cells.take (off+k)).length=off+k:=by simp;omega
  have e1:(cells.take (off+k)++x::cells.drop (off+k+1)).take (off+(k+1))=cells.take (off+k)++[x]:=by
   rw[ur,hl,gg (by omega)]
   congr 1
   rw[show off+(k+1)-(off+k)=1 from by omega];simp
  have e2:(cells.take (off+k)++x::cells.drop (off+k+1)).drop (off+(k+1)+c.length)=cells.drop (off+k+(c.length+1)):=by
   rw[List.drop_append,hl,List.drop_of_length_le (by rw[hl];omega),nil_append,show off+(k+1)+c.length-(off+k)=c.length+1 from by omega,List.drop_succ_cons,ky]
   congr 1;omega
  rw[e1,e2];simp
theorem De {sz:Nat}:∀ (fR:List (List Value)) (vs:List Value) (i:Nat) (pre oy:List Value),vs.map (·.cells)=fR.map (·.toArray)→(∀ c∈fR,c.length=sz)→pre.length=i*sz→oy.length=fR.length*sz →
   Instr.fill (λi=>some (i*sz,sz)) (pre++oy).toArray ((List.range' i fR.length).zip vs)=some (pre++fR.flatten).toArray
 | [],vs,i,pre,oy,h,_,_,hr=>by
  have:oy=[]:=g4 (by simpa using hr);subst this;simp[Instr.fill]
 | c::fR,[],_,_,_,h,_,_,_=>by simp at h
 | c::fR,v::vs,i,pre,oy,h,hc,hp,hr=>by
  simp only[map_cons,List.cons.injEq]at h;have cp:=hc c (by simp);simp only[eR,Nat.succ_mul]at hr;have kz:v.cells.size=sz:=by rw[h.1];simpa using cp
  have ih:=De (sz:=sz) fR vs (i+1) (pre++c) (oy.drop sz) h.2 (λx hx=>hc x (by simp[hx])) (by simp[hp,cp,Nat.succ_mul]) (by simp;omega);simp only[eR,List.range'_succ,List.zip_cons_cons,Instr.fill];rw[ag (by simp[kz,hp];omega)];have:=Iu c 0 (i*sz) (pre++oy) (by simp[hp];omega);have e1:(pre++oy).take (i*sz)=pre:=by rw[← hp,List.take_left]
  have e2:(pre++oy).drop (i*sz+c.length)=oy.drop sz:=by rw[← hp,← ky,drop_left,cp]
  simp only[Nat.add_zero]at this;rw[e1,e2]at this;have e3:(v.cells.zipIdx.foldl (λ(cs:Array Value) (x:Value×Nat)=>cs.setIfInBounds (i*sz+x.2) x.1) (pre++oy).toArray)=(pre++c++oy.drop sz).toArray:=by
   rw[h.1,← Array.foldl_toList,Array.toList_zipIdx];exact this
  have jt:=ih;simp only[List.flatten_cons] at *;rw[← dx,← jt]
  congr 1
theorem cr {t el z sz a1 m parts fR ty ps af g}(E:Fr a n l)(hw:Region.wanted ⟨some d,.buildSlice t m (List.toArray parts),ty,ps,af,g⟩ (yielded ops a.tmps)=true)(I:U W w L)(ht:P.underlying t=some (.slice el))
   (hi:TI P el z sz a1) (hz:z.cells.size=sz) (hf:okB d n l=true) [sM:uq l parts 0 fR] (hm:fR.length=m) (hc:(fR.all λc=>c.length==sz)=true) (h24:m*sz≤16777216) (h0:0<m*sz)
   (h:∀ b a' w',Fr a' n ((d,.slice (some ⟨b,0,none⟩) m m)::l)→U W w' (aa b el fR.flatten::L)→Old w w'→K a' w') :
   cJ P ops Q ⟨some d,.buildSlice t m (List.toArray parts),ty,ps,af,g⟩ K a w:=by
 obtain⟨vs,e1,e2⟩:=sM.h a n E;have jM:=De (sz:=sz) fR vs 0 [] ((List.range (m*sz)).map (λi=>z.cells[i%z.cells.size]!)) e2 (λc xT=>by simpa using all_eq_true.1 hc c xT) (by simp) (by simp[hm]);simp only[nil_append]at jM;refine bm (v:=.slice (some ⟨w.heap.size,0,none⟩) m m) (w':=w.alloc (.cells fR.flatten.toArray el)) E hw ?_ hf (λa' de=>h _ _ _ de (I.alloc _) (Old.alloc _ _));have QL:¬ (16777216<m*sz):=by omega
 have QM:¬ (m*sz=0):=by omega
 have e3:(Array.range (m*sz)).map (λi=>z.cells[i%z.cells.size]!)=((List.range (m*sz)).map (λi=>z.cells[i%z.cells.size]!)).toArray:=by
  apply Array.ext';simp
 simp only[execOp,Sem.run_bind,Instr.buildSlice,eO ht,Result.andThen_ok,mz hi,List.map_toArray,e1,hm];simp only[hm]at jM;simp[QL,uk hi,e3,jM,newRow,newObj,Sem.run,ag QM]
theorem mB {t z a1 x y b off k o' e sz m c cs v ty ps af g}(E:Fr a n l)(hw:Region.wanted ⟨none,.store t x y,ty,ps,af,g⟩ (yielded ops a.tmps)=true)(I:U W w L)
   (hi:TI P t z 1 a1) [ev:Ev l x (.pointer (some ⟨b,o',none⟩))] [um:Ev l y v] [qt:Cells v [v]] [pk:fQ L (some ⟨b,off,none⟩) m c e sz cs R] (h1:v.oneCell'=true) (ho:o'=off+k) (hk:k<cs.length)
   (h:∀ a' w',Fr a' n l→U W w' (Sl e sz (some ⟨b,off,none⟩) m c (cs.set k v)::R)→K a' w'):cJ P ops Q ⟨none,.store t x y,ty,ps,af,g⟩ K a w:=by
 subst ho;have oz:=I.perm pk.perm;have qx:=oz.sl (some ⟨b,off,none⟩);have hc:0<c:=by
  rcases lH c with h0 | h0
  ·have:m=0:=by omega
   subst this;rw[Nat.zero_mul]at qx;omega
  ·exact h0
 obtain⟨b2,pre,post,⟨cH,dq,a3,a4⟩,s2⟩:=oz.l4 hc;cases a3;refine Ij (cs:=pre++cs++post) (R:=R) E hw s2 hi h1 (by simp only[aI];omega) (λa' w' de g2=>h a' w' de ?_);have e1:(pre++cs++post).set (pre.length+k) v=pre++cs.set k v++post:=by
  rw[dx,uu _ _ (by omega),show pre.length+k-pre.length=k from by omega,sN _ _ hk,dx]
 rw[e1]at g2;exact U.iX g2 (by rw[bw];exact cH) dq a4
end
end
section
def hR (P:Program)(ops:Array Oper)(Q:Exit→Act→World→Prop)(C:World→Prop)(bh:List Nat):Nat→Array Bool→Act→World→Prop
 | 0,bE,a,w=>Region.ready .any ops bE=[]∧Q .normal a w
 | fuel+1,bE,a,w =>
  (Region.ready .any ops bE=[]→Q .normal a w) ∧
  ∀ i∈Region.ready .any ops bE,wpOp P ops Q i (λa' w'=>(bh.contains i=true→C w')∧hR P ops Q C bh fuel (bE.setIfInBounds i true) a' w') a w
def Iv (acc:List Nat)(es:List Edge):Nat:=es.foldl (λs e=>if Region.binds .any e then s ||| 2 ^ e.on ||| acc.getD e.on 0 else s) 0
def sO:List Oper→List Nat→List Nat
 | [],acc=>acc
 | o::r,acc=>sO r (acc++[Iv acc o.after.toList])
def Iw (ops:Array Oper)(bE:Array Bool):Bool :=
 (List.range ops.size).all λj=>!bE.getD j false||match ops[j]? with
  | none=>true
  | some o=>o.after.all λe=>!Region.binds .any e||bE.getD e.on false
def DC (ops:Array Oper)(bE:Array Bool):Prop:=∀ j o,ops[j]?=some o→bE.getD j false=true→∀ e∈o.after,Region.binds .any e=true→bE.getD e.on false=true
def m6 (ops:Array Oper)(bE:Array Bool)(bh:List Nat)(pure:Bool)(i:Nat):Bool :=
 Region.noSelect ops&&Iw ops bE&&(Region.ready .any ops bE).contains i&&match ops[i]? with
  | none=>false
  | some oi=>(List.range ops.size).all λj=>j==i||bE.getD j true||((sO ops.toList []).getD j 0).testBit i||match ops[j]? with
   | none=>true
   | some ru=>oi.apart ops ru&&(pure||bh.contains j)
def lb (n m:Nat):Array Bool:=((List.range n).map m.testBit).toArray
def lI (Q:Exit→Act→World→Prop):Prop:=∀ c a (o:Option Tmp) v w,Q (.panic c) (a.put o v) w→Q (.panic c) a w
theorem QN {K Q}(h:lI Q):lI (Exit.then K Q):=h
theorem QO {i Q}(h:lI Q):lI (Exit.inBlock i Q):=h
theorem QQ {P fn X}:lI (bodyPost P fn X):=λc a o v w h=>by
 cases o <;> exact h
section
variable {P:Program}{ops:Array Oper}{Q:Exit→Act→World→Prop}{C:World→Prop}{bh:List Nat}{a:Act}{w:World}{n d:Nat}{l:List (Nat×Value)}{v:Value}
theorem Ix:∀ (fuel:Nat) (bE:Array Bool) (a:Act) (w:World),hR P ops Q C bh fuel bE a w→wpAny P .any ops Q fuel bE a w
 | 0,_,_,_,h=>h
 | fuel+1,_,_,_,h=>⟨h.1,λi hi=>wpOp_mono (λa' w' h'=>Ix fuel _ a' w' h'.2) (h.2 i hi)⟩
theorem Iy {bE:Array Bool}(h:Iw ops bE=true):DC ops bE:=by
 intro j o hj hl e he hb;have hlt:j<ops.size:=(rl.1 hj).1;have h1:=all_eq_true.1 h j (mem_range.2 hlt);simp only[hl,hj,Bool.not_true,Bool.false_or]at h1;have h2:=Array.all_eq_true_iff_forall_mem.1 h1 e he;simpa [hb] using h2
theorem DC.set {bE:Array Bool}(h:DC ops bE){i:Nat}(hi:i∈Region.ready .any ops bE):DC ops (bE.setIfInBounds i true):=by
 intro j o hj hl e he hb;obtain⟨_,oi,QR,ig⟩:=mem_ready.1 hi;by_cases gT:j=i
 ·subst gT;rw[QR]at hj;cases hj;exact getD_set_true (ig e he hb)
 ·rw[getD_set_ne false (Ne.symm gT)]at hl;exact getD_set_true (h j o hj hl e he hb)
theorem Iz {acc:List Nat}{i:Nat}:∀ (es:List Edge) (s:Nat),(es.foldl (λs e=>if Region.binds .any e then s ||| 2 ^ e.on ||| acc.getD e.on 0 else s) s).testBit i=true →
   s.testBit i=true∨∃ e∈es,Region.binds .any e=true∧(e.on=i∨(acc.getD e.on 0).testBit i=true)
 | [],s,h=>.inl h
 | e::es,s,h=>by
  simp only[foldl_cons]at h;rcases Iz es _ h with h1 | ⟨x,hx,hb,hi⟩
  ·cases hb:Region.binds .any e with
   | false=>rw[hb]at h1;exact .inl (by simpa using h1)
   | true =>
    rw[hb,ak rfl]at h1;simp only[Nat.testBit_or,Bool.or_eq_true,Nat.testBit_two_pow,oA]at h1;rcases h1 with (h1 | h1) | h1
    ·exact .inl h1
    ·exact .inr ⟨e,gY,hb,.inl h1⟩
    ·exact .inr ⟨e,gY,hb,.inr h1⟩
  ·exact .inr ⟨x,gP _ hx,hb,hi⟩
theorem IA {bE:Array Bool}(h:DC ops bE):∀ (r:List Oper) (acc:List Nat),(∀ j,r[j]?=ops[acc.length+j]?) →
   (∀ k,k<acc.length→(∀ o,ops[k]?=some o→∀ e∈o.after,Region.binds .any e=true→bE.getD e.on false=true)→∀ i,(acc.getD k 0).testBit i=true→bE.getD i false=true) →
   ∀ k,(∀ o,ops[k]?=some o→∀ e∈o.after,Region.binds .any e=true→bE.getD e.on false=true)→∀ i,((sO r acc).getD k 0).testBit i=true→bE.getD i false=true
 | [],acc,_,hinv,k,hk,i,hb=>by
  rcases gQ k acc.length with hlt | nS
  ·exact hinv k hlt hk i hb
  ·simp[sO,bl,js nS]at hb
 | o::r,acc,hr,hinv,k,hk,i,hb=>by
  refine IA h r (acc++[Iv acc o.after.toList]) (λj=>?_) ?_ k hk i hb
  ·have:=hr (j+1);simp only[getElem?_cons_succ]at this;rw[this];congr 1;simp;omega
  ·intro k' e4 b9 i' lJ;simp only[aI,eR,length_nil]at e4;rcases gQ k' acc.length with hlt | nS
   ·rw[bl,mA hlt,← bl]at lJ;exact hinv k' hlt b9 i' lJ
   ·obtain rfl:k'=acc.length:=by omega
    rw[bl,pA (bf _)]at lJ;simp only[Nat.sub_self,List.getElem?_cons_zero,Option.getD_some]at lJ;have ho:ops[acc.length]?=some o:=by have:=hr 0;simpa using this.symm
    rcases Iz _ _ lJ with h1 | ⟨e,he,nT,h1⟩
    ·simp at h1
    ·have hle:=b9 o ho e (Array.mem_toList_iff.1 he) nT;rcases h1 with h1 | h1
     ·rw[← h1];exact hle
     ·rcases gQ e.on acc.length with hlt | QS
      ·exact hinv e.on hlt (λo' kB e' QT pC=>h e.on o' kB hle e' QT pC) i' h1
      ·simp[bl,js QS]at h1
theorem QU {bE:Array Bool}(h:DC ops bE){i:Nat}(hi:bE.getD i false=false)(k:Nat)(hk:∀ o,ops[k]?=some o→∀ e∈o.after,Region.binds .any e=true→bE.getD e.on false=true) :
   ((sO ops.toList []).getD k 0).testBit i=false:=by
 cases hb:((sO ops.toList []).getD k 0).testBit i with
 | false=>rfl
 | true =>
  have:=IA h ops.toList [] (λj=>by simp) (λk hk=>by simp at hk) k hk i hb;rw[hi]at this;cases this
theorem IB {T:World→Prop}{i:Nat}{oi:Oper}(hi:ops[i]?=some oi)(I:Region.noSelect ops=true)(kC:lI Q) :
   ∀ (fuel:Nat) (bE:Array Bool) (a:Act) (w:World),
    (∀ j ru,ops[j]?=some ru→j≠i→bE.getD j true=false→((sO ops.toList []).getD j 0).testBit i=false→oi.apart ops ru=true∧∀ w',(bh.contains j=true→C w')→T w') →
    DC ops bE→i∈Region.ready .any ops bE→YieldsIf P ops T oi v a→T w→(∀ w',T w'→bh.contains i=true→C w') →
    hR P ops Q C bh fuel (bE.setIfInBounds i true) (a.put oi.dst v) w→hR P ops Q C bh (fuel+1) bE a w:=by
 have IC:=Region.noSelect_spec I;intro fuel
 induction fuel with
 | zero =>
  intro bE a w _ _ hr hy hT Ac H;refine⟨λh=>(by rw[h]at hr;cases hr),λj hj=>?_⟩;by_cases gT:j=i
  ·subst gT;exact hy.wpOp hi hT ⟨Ac w hT,H⟩
  ·have:=ready_mono hj gT;rw[H.1]at this;cases this
 | succ fuel ih =>
  intro bE a w ID vS hr hy hT Ac H;refine⟨λh=>(by rw[h]at hr;cases hr),λj hj=>?_⟩;by_cases gT:j=i
  ·subst gT;exact hy.wpOp hi hT ⟨Ac w hT,H⟩
  ·have h1:=H.2 j (ready_mono hj gT);obtain⟨IE,ru,Ad,ig⟩:=mem_ready.1 hj;have QV:bE.getD i false=false:=by
    have h0:=(mem_ready.1 hr).1;rcases gQ i bE.size with h' | h'
    ·simp[h']at h0 ⊢;exact h0
    ·simp[Array.getElem?_eq_none h']
   have pD:=QU vS QV j (λo ho e he hb=>by rw[Ad]at ho;cases ho;exact ig e he hb);obtain⟨Df,aR⟩:=ID j ru Ad gT IE pD;have h2:=wpOp_putIf (S:=T) Ad Df (λcs b=>IC i oi cs b hi) (λcs b=>IC j ru cs b Ad) (λc a w=>kC c a oi.dst v w) hy h1;have QW:∀ k ok,ops[k]?=some ok→k≠i→(bE.setIfInBounds j true).getD k true=false→((sO ops.toList []).getD k 0).testBit i=false→oi.apart ops ok=true∧∀ w',(bh.contains k=true→C w')→T w':=λk ok hk IG nU bR=>by
    refine ID k ok hk IG ?_ bR;by_cases qz:j=k
    ·subst qz;exact IE
    ·rw[getD_set_ne true qz]at nU;exact nU
   refine wpOp_mono (λa' w' h3=>⟨h3.2.1,ih (bE.setIfInBounds j true) a' w' QW (vS.set hj) (ready_mono hr (Ne.symm gT)) h3.1 (aR w' h3.2.1) Ac ?_⟩) h2;rw[Array.setIfInBounds_comm _ _ gT];exact h3.2.2
theorem IH {i fuel:Nat}{bE:Array Bool}{oi:Oper}(hi:ops[i]?=some oi)(ht:m6 ops bE bh true i=true)(hn:bh.contains i=false)(kC:lI Q)
   (hy:YieldsIf P ops (λ_=>True) oi v a)
   (h:hR P ops Q C bh fuel (bE.setIfInBounds i true) (a.put oi.dst v) w):hR P ops Q C bh (fuel+1) bE a w:=by
 simp only[m6,hi,fq,all_eq_true,mem_range]at ht;obtain⟨⟨⟨h1,h2⟩,h3⟩,h4⟩:=ht;refine IB (T:=λ_=>True) hi h1 kC fuel bE a w (λj ru hj bD nU pD=>?_) (Iy h2) (by simpa using h3) hy trivial (λ_ _ h=>by rw[hn]at h;cases h) h;have h5:=h4 j (rl.1 hj).1;simp only[hj,pD,nU,Bool.or_eq_true,beq_iff_eq,bD,Bool.false_eq_true,fq,false_or,or_false]at h5;exact⟨h5.1,λ_ _=>trivial⟩
theorem II {i fuel:Nat}{bE:Array Bool}{oi:Oper}(hi:ops[i]?=some oi)(ht:m6 ops bE bh false i=true)(kC:lI Q)
   (hy:YieldsIf P ops C oi v a) (hC:C w)
   (h:hR P ops Q C bh fuel (bE.setIfInBounds i true) (a.put oi.dst v) w):hR P ops Q C bh (fuel+1) bE a w:=by
 simp only[m6,hi,fq,all_eq_true,mem_range]at ht;obtain⟨⟨⟨h1,h2⟩,h3⟩,h4⟩:=ht;refine IB (T:=C) hi h1 kC fuel bE a w (λj ru hj bD nU pD=>?_) (Iy h2) (by simpa using h3) hy hC (λ_ h _=>h) h;have h5:=h4 j (rl.1 hj).1;simp only[hj,pD,nU,Bool.or_eq_true,beq_iff_eq,bD,Bool.false_eq_true,fq,false_or,or_false]at h5;exact⟨h5.1,λw' df=>df h5.2⟩
theorem IJ {i fuel:Nat}{bE m7:Array Bool}(hl:bE.setIfInBounds i true=m7) {op ty ps af g}(hi:ops[i]?=some ⟨some d,op,ty,ps,af,g⟩)(ht:m6 ops bE bh true i=true)(hn:bh.contains i=false)(kC:lI Q)
   (E:Fr a n l) (hw:Region.wanted ⟨some d,op,ty,ps,af,g⟩ (yielded ops a.tmps)=true) (hr:∀ w,(execOp a.eval ⟨some d,op,ty,ps,af,g⟩).run P w=.ok (.value v) w) (hf:okB d n l=true)
   (h:∀ a',Fr a' n ((d,v)::l)→hR P ops Q C bh fuel m7 a' w):hR P ops Q C bh (fuel+1) bE a w:=by
 subst hl;exact IH hi ht hn kC (.inl ⟨hw,λw _=>hr w⟩) (h _ (E.put hf v))
theorem IK {i fuel:Nat}{bE m7:Array Bool}(hl:bE.setIfInBounds i true=m7) {op ty ps af g}(hi:ops[i]?=some ⟨some d,op,ty,ps,af,g⟩)(ht:m6 ops bE bh false i=true)(kC:lI Q)
   (E:Fr a n l) (hw:Region.wanted ⟨some d,op,ty,ps,af,g⟩ (yielded ops a.tmps)=true) (hr:∀ w,C w→(execOp a.eval ⟨some d,op,ty,ps,af,g⟩).run P w=.ok (.value v) w) (hC:C w) (hf:okB d n l=true)
   (h:∀ a',Fr a' n ((d,v)::l)→hR P ops Q C bh fuel m7 a' w):hR P ops Q C bh (fuel+1) bE a w:=by
 subst hl;exact II hi ht kC (.inl ⟨hw,hr⟩) hC (h _ (E.put hf v))
theorem QX {i fuel:Nat}{bE m7:Array Bool}(hl:bE.setIfInBounds i true=m7) {op ty ps af g}(hi:ops[i]?=some ⟨some d,op,ty,ps,af,g⟩)(ht:m6 ops bE bh true i=true)(hn:bh.contains i=false)(kC:lI Q)
   (E:Fr a n l) (hw:Region.wanted ⟨some d,op,ty,ps,af,g⟩ (yielded ops a.tmps)=false) (hf:okB d n l=true)
   (h:∀ a',Fr a' n ((d,undef)::l)→hR P ops Q C bh fuel m7 a' w):hR P ops Q C bh (fuel+1) bE a w:=by
 subst hl;exact IH hi ht hn kC (.inr ⟨hw,rfl⟩) (h _ (E.put hf undef))
theorem QY {i fuel:Nat}{bE m7:Array Bool}(hl:bE.setIfInBounds i true=m7) {op ty ps af g}(hi:ops[i]?=some ⟨some d,op,ty,ps,af,g⟩)(ht:m6 ops bE bh false i=true)(kC:lI Q)
   (E:Fr a n l) (hw:Region.wanted ⟨some d,op,ty,ps,af,g⟩ (yielded ops a.tmps)=false) (hC:C w) (hf:okB d n l=true)
   (h:∀ a',Fr a' n ((d,undef)::l)→hR P ops Q C bh fuel m7 a' w):hR P ops Q C bh (fuel+1) bE a w:=by
 subst hl;exact II hi ht kC (.inr ⟨hw,rfl⟩) hC (h _ (E.put hf undef))
theorem QZ {i fuel:Nat}{bE m7:Array Bool}(hl:bE.setIfInBounds i true=m7){o:Oper}(hr:Region.ready .any ops bE=[i])(hi:ops[i]?=some o)
   (h:cJ P ops Q o (λa' w'=>(bh.contains i=true→C w')∧hR P ops Q C bh fuel m7 a' w') a w):hR P ops Q C bh (fuel+1) bE a w:=by
 subst hl;refine⟨λh0=>(by rw[hr]at h0;cases h0),λj hj=>?_⟩;rw[hr]at hj;obtain rfl:j=i:=by simpa using hj
 simp only[wpOp,hi];exact h
theorem Q0 {bE:Array Bool}(hr:Region.ready .any ops bE=[])(h:Q .normal a w):∀ fuel,hR P ops Q C bh fuel bE a w
 | 0=>⟨hr,h⟩
 | _+1=>⟨λ_=>h,by rw[hr];simp⟩
theorem Q1 {id m:Nat}{l0:Array Bool}(C:World→Prop)(bh:List Nat)(hm:P.follows .mixedOrders=true)(hn:ops.size=m)(hl:Array.replicate m false=l0)(kC:lI Q)(h:lI Q→hR P ops Q C bh m l0 a w.drew):(Code.region id ops true).wp P Q a w:=by
 subst hl;subst hn;exact wp_region_any hm (Ix _ _ _ _ (h kC))
theorem Old.rd {w0 w:World}(h:Old w0 w){b off:Nat}{vs:List Value}(hc:Rd w0 b off vs):Rd w b off vs:=λj v hj=>h.cell (hc j v hj)
end
section
variable {P:Program}{ops:Array Oper}{Q:Exit→Act→World→Prop}{C:World→Prop}{bh:List Nat}{a:Act}{w:World}
theorem Q2 {i j fuel:Nat}{bE li IL:Array Bool}(vT:bE.setIfInBounds i true=li)(Q3:bE.setIfInBounds j true=IL){o o':Oper}(hr:Region.ready .any ops bE=[i,j])(hi:ops[i]?=some o)(hj:ops[j]?=some o')
   (h1:cJ P ops Q o (λa' w'=>(bh.contains i=true→C w')∧hR P ops Q C bh fuel li a' w') a w) (h2:cJ P ops Q o' (λa' w'=>(bh.contains j=true→C w')∧hR P ops Q C bh fuel IL a' w') a w):hR P ops Q C bh (fuel+1) bE a w:=by
 subst vT;subst Q3;refine⟨λh0=>(by rw[hr]at h0;cases h0),λk hk=>?_⟩;rw[hr]at hk;rcases List.mem_cons.1 hk with rfl | hk
 ·simp only[wpOp,hi];exact h1
 ·obtain rfl:=iH.1 hk;simp only[wpOp,hj];exact h2
end
end
section
class ek (P:Program)(t:TypeId)(kD:outParam (List (Nat×Nat))):Prop where
 h:∃ fs,P.underlying t=some (.struct fs)∧∀ w,(fs.mapM (λf=>do pure (f.offset,← sizeOf f.type)):Sem (Array (Nat×Nat))).run P w=.ok kD.toArray w
class vU (ps:List (Nat×Nat))(i:Nat)(off sz:outParam Nat):Prop where h:ps[i]?=some (off,sz)
instance vU.zero {off sz ps}:vU ((off,sz)::ps) 0 off sz:=⟨rfl⟩
instance vU.succ {p ps i off sz}[h:vU ps i off sz]:vU (p::ps) (i+1) off sz:=⟨by rw[getElem?_cons_succ];exact h.h⟩
class sP (cs:List Value)(off:Nat)(vs:List Value)(out:outParam (List Value)):Prop where h:off+vs.length≤cs.length→cG cs off vs=out
theorem Q4 {cs vs:List Value}{off:Nat}{v:Value}(h:off+(vs.length+1)≤cs.length):cG cs off (v::vs)=cG (cs.set off v) (off+1) vs:=by
 have hl:(cs.take off).length=off:=by simp;omega
 simp only[cG,eR];rw[rp,ak (by omega)];have e1:(cs.take off++v::cs.drop (off+1)).take (off+1)=cs.take off++[v]:=by
  rw[ur,hl,gg (by omega),show off+1-off=1 from by omega];simp
 have e2:(cs.take off++v::cs.drop (off+1)).drop (off+1+vs.length)=cs.drop (off+(vs.length+1)):=by
  rw[List.drop_append,hl,List.drop_of_length_le (by rw[hl];omega),nil_append,show off+1+vs.length-off=vs.length+1 from by omega,List.drop_succ_cons,ky]
  congr 1;omega
 rw[e1,e2];simp
instance (priority:=low) sP.any {cs off vs}:sP cs off vs (cG cs off vs):=⟨λ_=>rfl⟩
instance sP.nil {cs off}:sP cs off [] cs:=⟨λ_=>by simp[cG]⟩
instance sP.cons {cs off v vs IM out}[h1:qp cs off v IM][h2:sP IM (off+1) vs out]:sP cs off (v::vs) out:=⟨λh=>by
 simp only[eR]at h;rw[Q4 h,h1.h];exact h2.h (by rw[← h1.h];simp;omega)⟩
theorem Q5 {cs vs:List Value}{off:Nat}(h:off+vs.length≤cs.length):(cG cs off vs).length=cs.length:=by simp[cG];omega
class mC (c:List Value)(n:Nat):Prop where h:c.length=n
instance mC.nil:mC [] 0:=⟨rfl⟩
instance mC.cons {x c n}[h:mC c n]:mC (x::c) (n+1):=⟨by simp[h.h]⟩
class uv (kD:List (Nat×Nat))(zs:List Value)(l:List (Nat×Value))(parts:List (Nat×Operand))(out:outParam (List Value)):Prop where
 h:(∀ p∈kD,p.1+p.2≤zs.length)→∀ a n,Fr a n l→Instr.fill (kD.toArray[·]?) zs.toArray (parts.map λp=>(p.1,a.eval p.2))=some out.toArray
instance uv.nil {kD zs l}:uv kD zs l [] zs:=⟨λ_ _ _ _=>rfl⟩
instance uv.cons {kD zs l i o ps off sz v c Ae out}[h1:vU kD i off sz][h2:Ev l o v][h3:Cells v c][h4:mC c sz][h5:sP zs off c Ae][h6:uv kD Ae l ps out] :
   uv kD zs l ((i,o)::ps) out:=⟨λhp a n E=>by
 have cC:=hp _ (bH h1.h);simp only at cC;have hl:=h4.h;have e1:=h5.h (by rw[hl];exact cC);have cV:Ae.length=zs.length:=by rw[← e1];exact Q5 (by rw[hl];exact cC)
 have ih:=h6.h (by rw[cV];exact hp) a n E;simp only[map_cons,Instr.fill,h2.ev a n E];have hg:kD.toArray[i]?=some (off,sz):=by rw[getElem?_toArray];exact h1.h
 simp only[hg];have kz:v.cells.size=sz:=by rw[h3.h];simpa using hl
 rw[ag (by simp[kz];omega)];have hf:=Iu c 0 off zs (by rw[hl];omega);have e3:(v.cells.zipIdx.foldl (λ(cs:Array Value) (x:Value×Nat)=>cs.setIfInBounds (off+x.2) x.1) zs.toArray)=Ae.toArray:=by
  rw[h3.h,← Array.foldl_toList,Array.toList_zipIdx,← e1];simpa [cG] using hf
 rw[← ih]
 congr 1⟩
section
variable {P:Program}{ops:Array Oper}{Q:Exit→Act→World→Prop}{a:Act}{w w' W:World}{K:Act→World→Prop}{n:Nat}{l:List (Nat×Value)}{v:Value}{L R:List SP}
theorem IN {t kD z zs sz a1 parts cs dst ty ps af g}(E:Fr a n l)(hb:ek P t kD)(hi:TI P t z sz a1)[Dg:Cells z zs][Q6:uv kD zs l parts cs](hp:(kD.all λp=>Nat.ble (p.1+p.2) zs.length)=true) :
   (execOp a.eval ⟨dst,.build t (List.toArray parts),ty,ps,af,g⟩).run P w=.ok (.value (.agg cs.toArray)) w:=by
 obtain⟨fs,hu,hm⟩:=hb.h;have hf:=Q6.h (λp Q7=>Nat.le_of_ble_eq_true (all_eq_true.1 hp p Q7)) a n E;simp only[execOp,Sem.run_bind,Instr.build,uk hi,Result.andThen_ok,eO hu,hm,Dg.h];simp only[getElem?_toArray]at hf;simp[hf]
theorem oB {x i vs dst ty ps af g}(E:Fr a n l)[e:Ev l x (.tuple (List.toArray vs))](h:vs[i]?=some v):(execOp a.eval ⟨dst,.extract x i,ty,ps,af,g⟩).run P w=.ok (.value v) w:=by
 simp[execOp,e.ev a n E,Instr.extract,h]
theorem run_equalIn_bool {t:TypeId}(ht:P.underlying t=some .bool)(i j:Bool)(k:Nat):(Op.equalIn (k+1) t (.bool i) (.bool j)).run P w=.ok (i==j) w:=by
 simp[Op.equalIn,eO ht]
theorem run_equal_bool {t:TypeId}(ht:P.underlying t=some .bool)(i j:Bool):(Op.equal t (.bool i) (.bool j)).run P w=.ok (i==j) w:=run_equalIn_bool ht i j 9999
theorem run_eql_bool {t:TypeId}(ht:P.underlying t=some .bool)(i j:Bool):(binOp .eql t (.bool i) (.bool j)).run P w=.ok (.bool (i==j)) w:=by
 simp only[binOp];simp[run_equal_bool ht]
theorem run_neq_bool {t:TypeId}(ht:P.underlying t=some .bool)(i j:Bool):(binOp .neq t (.bool i) (.bool j)).run P w=.ok (.bool (i != j)) w:=by
 simp only[binOp];simp[run_equal_bool ht,bne]
theorem Q8 {x y i j t u dst ty ps af g}(E:Fr a n l)(ht:P.underlying t=some .bool)[e:Ev l x (.bool i)][f:Ev l y (.bool j)] :
   (execOp a.eval ⟨dst,.binOp .eql t x y u,ty,ps,af,g⟩).run P w=.ok (.value (.bool (i==j))) w:=by
 simp only[execOp,e.ev a n E,f.ev a n E,Sem.run_bind];simp[eqGuard,run_eql_bool ht]
theorem Q9 {x y i j t u dst ty ps af g}(E:Fr a n l)(ht:P.underlying t=some .bool)[e:Ev l x (.bool i)][f:Ev l y (.bool j)] :
   (execOp a.eval ⟨dst,.binOp .neq t x y u,ty,ps,af,g⟩).run P w=.ok (.value (.bool (i != j))) w:=by
 simp only[execOp,e.ev a n E,f.ev a n E,Sem.run_bind];simp[eqGuard,run_neq_bool ht]
theorem Ra {x y k i j uw dst ty ps af g}(E:Fr a n l)[e:Ev l x (.int k i)][f:Ev l y (.int k j)] :
   (execOp a.eval ⟨dst,.call ⟨.builtin .min,#[x,y],uw⟩,ty,ps,af,g⟩).run P w=.ok (.value (.int k (min i j))) w:=by
 simp[execOp,resolve,e.ev a n E,f.ev a n E,invoke,builtin,Builtin.min_,Builtin.min2];rw[Int.min_def];split <;> split <;> omega
theorem Rb {x y k i j uw dst ty ps af g}(E:Fr a n l)[e:Ev l x (.int k i)][f:Ev l y (.int k j)] :
   (execOp a.eval ⟨dst,.call ⟨.builtin .max,#[x,y],uw⟩,ty,ps,af,g⟩).run P w=.ok (.value (.int k (max i j))) w:=by
 simp[execOp,resolve,e.ev a n E,f.ev a n E,invoke,builtin,Builtin.max_,Builtin.max2];rw[Int.max_def];split <;> split <;> omega
theorem IP {x t el z sz a1 b off m c e cs ty ps af g}(E:Fr a n l)(hw:Region.wanted ⟨none,.call ⟨.builtin .clear,#[x],#[t]⟩,ty,ps,af,g⟩ (yielded ops a.tmps)=true)(I:U W w L)
   (ht:P.underlying t=some (.slice el)) (hi:TI P el z sz a1) (hz:z.cells.size=sz) (h1:z.cells.toList.all (·.oneCell')=true) [ev:Ev l x (.slice (some ⟨b,off,none⟩) m c)] [k:fI L b e cs R] (hle:off+m*sz≤cs.length)
   (h:∀ a' w',Fr a' n l→U W w' (aa b e (cG cs off (Builtin.zeroCells z.cells m).toList)::R)→K a' w') :
   cJ P ops Q ⟨none,.call ⟨.builtin .clear,#[x],#[t]⟩,ty,ps,af,g⟩ K a w:=by
 have g2:=I.jX b;have iI:=xR (sz:=sz) e (z:=z) (a1:=a1) hz m;have fS:∀ v∈(Builtin.zeroCells z.cells m).toList,v.oneCell'=true:=by
  intro v hv;simp only[Builtin.zeroCells,Array.toList_map,cR]at hv;obtain⟨i,vV,rfl⟩:=hv;have:i<m*z.cells.size:=by simpa using vV
  have qA : 0 < z.cells.size := by rcases lH z.cells.size with h | h; · rw [h] at this; omega
                                   ·exact h
  have hlt:i%z.cells.size<z.cells.size:=Nat.mod_lt _ qA;rw[getElem!_pos z.cells _ hlt];exact all_eq_true.1 h1 _ (Array.mem_toList_iff.2 (Array.getElem_mem hlt))
 have aR:=run_storeCells_at (P:=P) b off e (Builtin.zeroCells z.cells m).toList 0 cs.toArray w g2.has.2 (by rw[iI];simpa using hle) fS;by_cases hm:m=0
 ·subst hm;refine C9 (v:=.tuple #[]) (w':=w) E hw ?_ λa' de=>h a' w de ?_
  ·simp[execOp,resolve,ev.ev a n E,invoke,builtin,Builtin.clear_,eO ht]
  ·have:(Builtin.zeroCells z.cells 0).toList=[]:=g4 (by rw[iI];simp);rw[this];simpa [cG] using g2
 ·refine C9 (v:=.tuple #[]) (w':=w.setRow b (cG cs off (Builtin.zeroCells z.cells m).toList).toArray) E hw ?_ λa' de=>h a' _ de g2.setRow;have:(storeCells ⟨b,off,none⟩ (Builtin.zeroCells z.cells m).toList).run P w=.ok () (w.setRow b (cG cs off (Builtin.zeroCells z.cells m).toList).toArray):=by
   simpa [cG] using aR
  obtain⟨m',rfl⟩:∃ m',m=m'+1:=⟨m-1,by omega⟩;simp[execOp,resolve,ev.ev a n E,invoke,builtin,Builtin.clear_,eO ht,uk hi,this]
end
end
section
def bc (bs:List UInt8):List Value:=bs.map λb=>.int .u8 b.toNat
theorem dy (bs:List UInt8):(bc bs).length=bs.length:=by simp[bc]
theorem ep (bs:List UInt8):∀ v∈bc bs,v.oneCell'=true:=by
 intro v hv;simp only[bc,cR]at hv;obtain⟨b,_,rfl⟩:=hv;rfl
section
variable {P:Program}{ops:Array Oper}{Q:Exit→Act→World→Prop}{a:Act}{w w' W:World}{K:Act→World→Prop}{n d:Nat}{l:List (Nat×Value)}{v:Value}{L R:List SP}
theorem Rc {x y u z3 k k' xU i i' xV j j' nV ad m c t el z sz a1 dst ty ps af g}(E:Fr a n l)(ht:P.underlying t=some (.slice el))(hi:TI P el z sz a1)[ev:Ev l x (.slice ad m c)][g3:Ev l y (.int k i)][uo:Ev l u (.int k' i')][Dh:Ev l z3 (.int xU xV)]
   [nj:eo i j] [xS:eo i' j'] [Di:eo xV nV] (h:j≤j') (h':j'≤nV) (Re:nV≤c) :
   (execOp a.eval ⟨dst,.slice t x (some y) (some u) (some z3),ty,ps,af,g⟩).run P w=.ok (.value (.slice (ft ad j nV sz) (j'-j) (nV-j))) w:=by
 have hj:=nj.h;subst hj;have lG:=xS.h;subst lG;have Dk:=Di.h;subst Dk;have e1:=(qy ht).1;have e2:=(qy ht).2;have:=run_slice_lhm (P:=P) (w:=w) t ad m c e1 k k' xU (j:Int) (j':Int) (nV:Int) (by omega) (by omega) (by omega) (by omega);rw[e2,mz hi]at this;simp only[Result.andThen_ok,c6]at this;simp[execOp,ev.ev a n E,g3.ev a n E,uo.ev a n E,Dh.ev a n E,run_sliceAt_slice (P:=P) (w:=w) t _ _ _ _ e1,this,sliced,ft]
theorem Rf {x ad m c t el u dst ty ps af g}(E:Fr a n l)(ht:P.underlying t=some (.slice el))[e:Ev l x (.slice ad m c)] :
   (execOp a.eval ⟨dst,.binOp .eql t x (.const (.slice none 0 0)) u,ty,ps,af,g⟩).run P w=.ok (.value (.bool ad.isNone)) w:=by
 have hc:a.eval (.const (.slice none 0 0))=.slice none 0 0:=rfl;have:=Lib.run_eql_slice_nil (P:=P) w t el ad m c 0 0 ht;simp only[execOp,e.ev a n E,hc,Sem.run_bind];simp[eqGuard,this]
theorem Rg {s x t z sz a1 b off el e k c b2 gR m c2 news ty ps af g}{cs:List Value}(E:Fr a n l)(hw:Region.wanted ⟨some d,.call ⟨.builtin .append,#[s,x],#[t,t]⟩,ty,ps,af,g⟩ (yielded ops a.tmps)=true)(I:U W w L)
   (ht:P.underlying t=some (.slice el)) (hi:TI P el z sz a1) (hf:okB d n l=true) [e1:Ev l s (.slice (some ⟨b,off,none⟩) k c)] [Dm:fI L b e cs R] [e2:Ev l x (.slice (some ⟨b2,gR,none⟩) m c2)]
   (hr:Rd w b2 gR news) (hl:news.length=m*sz) (h1:∀ v∈news,v.oneCell'=true) (nR:k+m≤c) (hle:off+k*sz+news.length≤cs.length)
   (h:∀ a' w',Fr a' n ((d,.slice (some ⟨b,off,none⟩) (k+m) c)::l)→U W w' (aa b e (cG cs (off+k*sz) news)::R)→K a' w') :
   cJ P ops Q ⟨some d,.call ⟨.builtin .append,#[s,x],#[t,t]⟩,ty,ps,af,g⟩ K a w:=by
 obtain⟨i,lF,dL,kX,qw⟩:=info_parts hi.h;have g2:=I.jX b;have ow:∀ j v,news[j]?=some v→w.cell? ((⟨b2,gR,none⟩:Addr).add j)=some v:=λj v hj=>by rw[lE];exact hr j v hj
 have ju:=run_firstCells_some (P:=P) w sz m ⟨b2,gR,none⟩ m c2 news hl ow;have aR:=run_storeCells_at (P:=P) b (off+k*sz) e news 0 cs.toArray w g2.has.2 (by simpa using hle) h1;have rr:(storeCells ⟨b,off+k*sz,none⟩ news).run P w=.ok () (w.setRow b (cG cs (off+k*sz) news).toArray):=by simpa [cG] using aR
 refine bm (v:=.slice (some ⟨b,off,none⟩) (k+m) c) (w':=w.setRow b (cG cs (off+k*sz) news).toArray) E hw ?_ hf (λa' de=>h a' _ de g2.setRow);simp[execOp,resolve,e1.ev a n E,e2.ev a n E,invoke,builtin,Builtin.append_,eO ht,sizeOf,typeInfo,lF,kX,Builtin.lenOf,nR,lE,ju,rr]
def aW (w:World)(ad:Option Addr)(m:Nat)(bs:List UInt8):Prop :=
 bs.length=m∧(ad=none→m=0)∧∀ x,ad=some x→0<m→∃ b off,x=⟨b,off,none⟩∧Rd w b off (bc bs)
theorem Rh (bs:List UInt8):∀ r:List UInt8,(bs.map λb=>(b.toNat:Int)).foldl (λ(r:ByteArray) n=>r.push (UInt8.ofNat n.toNat)) ⟨r.toArray⟩=⟨(r++bs).toArray⟩:=by
 induction bs with
 | nil=>intro r;simp
 | cons b bs ih =>
  intro r;simp only[map_cons,foldl_cons];have:(ByteArray.mk r.toArray).push (UInt8.ofNat (b.toNat:Int).toNat)=ByteArray.mk (r++[b]).toArray:=by
   simp[ByteArray.push]
  rw[this,ih];simp
theorem lK {x t u el ad m c bs dst ty ps af g}(E:Fr a n l)(ht:P.underlying t=some (.slice el))(hu:P.underlying el=some (.int .u8))(g2:P.underlying u=some .string)[ev:Ev l x (.slice ad m c)]
   (hr:aW w ad m bs):(execOp a.eval ⟨dst,.convert t u x,ty,ps,af,g⟩).run P w=.ok (.value (.string ⟨bs.toArray⟩)) w:=by
 have h0:=run_convert_bytes_string (P:=P) w t u el ad m c ht hu g2;obtain⟨h1,h2,h3⟩:=hr;have h4:(Conv.bytesToString (.slice ad m c)).run P w=.ok (.string ⟨bs.toArray⟩) w:=by
  cases ad with
  | none =>
   have:bs=[]:=g4 (by rw[h1];exact h2 rfl);subst this;rfl
  | some x =>
   have hl:(loadCells x m).run P w=.ok ((bs.map λb=>(b.toNat:Int)).map (Value.int .u8)).toArray w:=by
    have:=run_loadCells_list (P:=P) w x ((bs.map λb=>(b.toNat:Int)).map (Value.int .u8)) (λj v hj=>by
     have hm:0<m:=by
      rcases lH m with h | h
      ·rw[h]at h1;rw[g4 h1]at hj;simp at hj
      ·exact h
     obtain⟨b,off,rfl,c7⟩:=h3 x rfl hm;rw[lE];refine c7 j v ?_;simpa [bc] using hj)
    simpa [h1] using this
   have:=run_bytesToString (P:=P) w x m c _ hl;rw[this];have h5:=Rh bs [];simp only[nil_append]at h5;exact di (λs=>Result.ok (Value.string s) w) h5
 simp[execOp,ev.ev a n E,h0,h4]
theorem sQ {x y i j t u dst ty ps af g}(E:Fr a n l)[e:Ev l x (.string i)][f:Ev l y (.string j)] :
   (execOp a.eval ⟨dst,.binOp .eql t x y u,ty,ps,af,g⟩).run P w=.ok (.value (.bool (i.data.toList==j.data.toList))) w:=by
 simp[execOp,e.ev a n E,f.ev a n E,eqGuard,binOp,Op.stringOp,ByteArray.toList_eq]
theorem Ri (x y:UInt8):IntKind.u8.wrap ((x.toNat ^^^ y.toNat:Nat):Int)=((x ^^^ y).toNat:Int):=by
 rw[UInt8.toNat_xor];have h:=(x ^^^ y).toNat_lt;rw[UInt8.toNat_xor]at h;simp only[IntKind.wrap,IntKind.bits,IntKind.signed,Bool.false_and,Bool.false_eq_true,if_false];omega
theorem Rj {x y t u dst ty ps af g}{i j:UInt8}(E:Fr a n l)[e:Ev l x (.int .u8 (i.toNat:Int))][f:Ev l y (.int .u8 (j.toNat:Int))] :
   (execOp a.eval ⟨dst,.binOp .xor t x y u,ty,ps,af,g⟩).run P w=.ok (.value (.int .u8 ((i ^^^ j).toNat:Int))) w:=by
 rw[← Ri];simp[execOp,e.ev a n E,f.ev a n E,eqGuard,binOp,Op.intBits];have h1:i.toNat%2 ^ IntKind.u8.bits=i.toNat:=kY i.toNat_lt;have h2:j.toNat%2 ^ IntKind.u8.bits=j.toNat:=kY j.toNat_lt;rw[h1,h2]
theorem ux {t el z sz a1 ty ps af g}(E:Fr a n l)(hw:Region.wanted ⟨some d,.buildSlice t 0 #[],ty,ps,af,g⟩ (yielded ops a.tmps)=true)(I:U W w L)(ht:P.underlying t=some (.slice el))
   (hi:TI P el z sz a1) (hf:okB d n l=true)
   (h:∀ b a' w',Fr a' n ((d,.slice (some ⟨b,0,none⟩) 0 0)::l)→U W w' (Sl el sz (some ⟨b,0,none⟩) 0 0 []::L)→Old w w'→K a' w') :
   cJ P ops Q ⟨some d,.buildSlice t 0 #[],ty,ps,af,g⟩ K a w:=by
 refine bm (v:=.slice (some ⟨w.heap.size,0,none⟩) 0 0) (w':=w.alloc (.cells #[] el)) E hw ?_ hf (λa' de=>h _ _ _ de ((I.alloc (.cells #[] el)).tail.bN _ _ _) (Old.alloc _ _));simp[execOp,Sem.run_bind,Instr.buildSlice,eO ht,Result.andThen_ok,mz hi,Instr.fill,newRow,newObj,Sem.run];rw[show Array.range 0=#[] from Array.eq_empty_of_size_eq_zero (by simp)];simp
theorem Dn {s x t z a1 e sz ad k c ad2 c2 ty ps af g}(E:Fr a n l)(hw:Region.wanted ⟨some d,.call ⟨.builtin .append,#[s,x],#[t,t]⟩,ty,ps,af,g⟩ (yielded ops a.tmps)=true)
   (ht:P.underlying t=some (.slice e)) (hi:TI P e z sz a1) (hf:okB d n l=true) [e1:Ev l s (.slice ad k c)] [e2:Ev l x (.slice ad2 0 c2)] (rv:k≤c)
   (h:∀ a',Fr a' n ((d,.slice ad k c)::l)→K a' w):cJ P ops Q ⟨some d,.call ⟨.builtin .append,#[s,x],#[t,t]⟩,ty,ps,af,g⟩ K a w:=by
 obtain⟨i,lF,dL,kX,qw⟩:=info_parts hi.h;have ju:(Builtin.firstCells sz 0 (.slice ad2 0 c2)).run P w=.ok #[] w:=by
  cases ad2 with
  | none=>exact run_firstCells_none (P:=P) w sz 0 0 c2
  | some b=>exact run_firstCells_some (P:=P) w sz 0 b 0 c2 [] (by simp) (λj v hj=>by simp at hj)
 refine bm (v:=.slice ad k c) (w':=w) E hw ?_ hf h;cases ad <;> simp[execOp,resolve,e1.ev a n E,e2.ev a n E,invoke,builtin,Builtin.append_,eO ht,sizeOf,typeInfo,lF,kX,Builtin.lenOf,rv,ju,storeCells]
end
end
section
class xW (P:Program)(t:TypeId):Prop where h:∃ el,P.underlying t=some (.pointer el)
class Dp (P:Program)(t:TypeId):Prop where h:∃ el,P.underlying t=some (.slice el)
class Dq (P:Program)(t:TypeId):Prop where h:∃ eh,P.underlying t=some eh∧ov eh=true
class Dr (P:Program)(t:TypeId)(f:Nat)(k:outParam Nat):Prop where h:∃ fs iW z sz a1,P.underlying t=some (.struct fs)∧fs[f]?=some iW∧TI P iW.type z (sz+1) a1∧iW.offset=k
class Ex (P:Program)(l:List (Nat×Value))(op:Go.Op)(v:outParam Value):Prop where
 ex:∀ (a:Act) (n:Nat),Fr a n l→∀ (w:World) (dst ty ps af g),(execOp a.eval ⟨dst,op,ty,ps,af,g⟩).run P w=.ok (.value v) w
section
variable {P:Program}{l:List (Nat×Value)}{v v1 v2:Value}{x y c:Operand}{t u:TypeId}{k:IntKind}{i j:Int}{b:Bool}
instance Ex.move [Ev l x v]:Ex P l (.move x) v:=⟨λ_ _ E _ _ _ _ _ _=>P6 E⟩
instance Ex.assign [Ev l x v]:Ex P l (.assign x) v:=⟨λ_ _ E _ _ _ _ _ _=>P7 E⟩
instance Ex.nilCheck [Ev l x v] [z7 v]:Ex P l (.nilCheck x) v:=⟨λ_ _ E _ _ _ _ _ _=>Qa E⟩
instance Ex.not [Ev l x (.bool b)]:Ex P l (.unOp .not t x) (.bool (!b)):=⟨λ_ _ E _ _ _ _ _ _=>Qk E⟩
instance Ex.lss [Ev l x (.int k i)] [Ev l y (.int k j)]:Ex P l (.binOp .lss t x y u) (.bool (decide (i<j))):=⟨λ_ _ E _ _ _ _ _ _=>Qe E⟩
instance Ex.leq [Ev l x (.int k i)] [Ev l y (.int k j)]:Ex P l (.binOp .leq t x y u) (.bool (decide (i≤j))):=⟨λ_ _ E _ _ _ _ _ _=>Qf E⟩
instance Ex.gtr [Ev l x (.int k i)] [Ev l y (.int k j)]:Ex P l (.binOp .gtr t x y u) (.bool (decide (j<i))):=⟨λ_ _ E _ _ _ _ _ _=>Qg E⟩
instance Ex.geq [Ev l x (.int k i)] [Ev l y (.int k j)]:Ex P l (.binOp .geq t x y u) (.bool (decide (j≤i))):=⟨λ_ _ E _ _ _ _ _ _=>Qh E⟩
instance Ex.eql [Ev l x (.int k i)] [Ev l y (.int k j)]:Ex P l (.binOp .eql t x y u) (.bool (decide (i=j))):=⟨λ_ _ E _ _ _ _ _ _=>Qi E⟩
instance Ex.neq [Ev l x (.int k i)] [Ev l y (.int k j)]:Ex P l (.binOp .neq t x y u) (.bool (decide (i≠j))):=⟨λ_ _ E _ _ _ _ _ _=>Qj E⟩
instance Ex.aew [xW P t] [Ev l x v] [uj v b]:Ex P l (.binOp .eql t x (.const (.pointer none)) u) (.bool b):=⟨λ_ _ E _ _ _ _ _ _=>(xW.h (P:=P) (t:=t)).elim λ_ h=>Ql E h⟩
instance Ex.aex [xW P t] [Ev l x v] [uj v b]:Ex P l (.binOp .neq t x (.const (.pointer none)) u) (.bool (!b)):=⟨λ_ _ E _ _ _ _ _ _=>(xW.h (P:=P) (t:=t)).elim λ_ h=>Qm E h⟩
instance Ex.aey [Ev l x (.tuple #[v1,v2])]:Ex P l (.extract x 0) v1:=⟨λ_ _ E _ _ _ _ _ _=>oB E rfl⟩
instance Ex.aez [Ev l x (.tuple #[v1,v2])]:Ex P l (.extract x 1) v2:=⟨λ_ _ E _ _ _ _ _ _=>oB E rfl⟩
instance Ex.len {ad:Option Addr}{m c:Nat} [Dp P t] [Ev l x (.slice ad m c)]:Ex P l (.call ⟨.builtin .len,#[x],#[t]⟩) (.int .i64 m):=⟨λ_ _ E _ _ _ _ _ _=>(Dp.h (P:=P) (t:=t)).elim λ_ h=>Qs E h⟩
instance Ex.field {bb off f kk r:Nat} [Ev l x (.pointer (some ⟨bb,off,none⟩))] [Dr P t f kk] [sL off kk r]:Ex P l (.fieldAddr t x f) (.pointer (some ⟨bb,r,none⟩)):=⟨λ_ _ E _ _ _ _ _ _=>by
 obtain⟨fs,iW,z,sz,a1,h1,h2,h3,h4⟩:=Dr.h (P:=P) (t:=t) (f:=f) (k:=kk);exact Qp E h1 h2 h3 h4⟩
end
class BP (b:Bool)(p q:outParam Prop):Prop where
 t:b=true→p
 f:b=false→q
instance BP.lt {i j:Int}:BP (decide (i<j)) (i<j) (j≤i):=⟨qB,λh=>Int.not_lt.1 (of_decide_eq_false h)⟩
instance BP.le {i j:Int}:BP (decide (i≤j)) (i≤j) (j<i):=⟨qB,λh=>Int.not_le.1 (of_decide_eq_false h)⟩
instance BP.eq {i j:Int}:BP (decide (i=j)) (i=j) (¬ i=j):=⟨qB,of_decide_eq_false⟩
instance BP.ne {i j:Int}:BP (decide (i≠j)) (¬ i=j) (i=j):=⟨qB,λh=>Decidable.of_not_not (of_decide_eq_false h)⟩
instance BP.not {b:Bool}{p q:Prop}[h:BP b p q]:BP (!b) q p:=⟨λe=>h.f (by simpa using e),λe=>h.t (by simpa using e)⟩
instance (priority:=low) BP.dec {p:Prop} [Decidable p]:BP (decide p) p (¬ p):=⟨qB,of_decide_eq_false⟩
instance (priority:=10) BP.any {b:Bool}:BP b (b=true) (b=false):=⟨id,id⟩
section
variable {P:Program}{ops:Array Oper}{Q:Exit→Act→World→Prop}{a:Act}{w w':World}{K:Act→World→Prop}{o:Oper}{n d:Nat}{l l':List (Nat×Value)}{v:Value}{op:Go.Op}{ty:TypeId}{ps:String}{af:Array Edge}{rest:List Oper}
theorem S1 (E:Fr a n l)[e:Ex P l op v](h:∀ a',Fr a' n ((d,v)::l)→wpList P ops Q rest a' w)(hf:okB d n l=true:=by rfl):wpList P ops Q (⟨some d,op,ty,ps,af,none⟩::rest) a w :=
 P3 (bm E rfl (e.ex a n E w _ _ _ _ _) hf h)
theorem SK (h:cJ P ops Q o (wpList P ops Q rest) a w):wpList P ops Q (o::rest) a w:=h
theorem Rk (h:Q .normal a w):wpList P ops Q [] a w:=h
theorem TN {K:Act→World→Prop}(h:K a w):Exit.then K Q .normal a w:=h
theorem TR {K:Act→World→Prop}(h:Q .ret a w):Exit.then K Q .ret a w:=h
theorem TE {K:Act→World→Prop}{i:Nat}(h:Q (.exit i) a w):Exit.then K Q (.exit i) a w:=h
theorem Rl {i:Nat}(h:Q .normal a w):Exit.inBlock i Q .normal a w:=h
theorem Rm {i:Nat}(h:Q .ret a w):Exit.inBlock i Q .ret a w:=h
theorem Fr.by {s:Nat}{c:Bool} {l'}{p q:Prop}(E:Fr a n l)[k:fp l s (.bool c)][e:gZ l s l'][B:BP c p q]{G:Prop}
   (ht:p→Fr a n ((s,.bool true)::l')→G) (hf:q→Fr a n ((s,.bool false)::l')→G):G :=
 E.bool (s:=s) (λh=>ht (B.t h)) (λh=>hf (B.f h))
variable {C:World→Prop}{bh:List Nat}{i fuel m:Nat}{od:List Nat}
def gh (P:Program)(ops:Array Oper)(Q:Exit→Act→World→Prop)(C:World→Prop)(bh:List Nat)(_od:List Nat)(fuel m:Nat)(a:Act)(w:World):Prop:=hR P ops Q C bh fuel (lb ops.size m) a w
def mD (m i:Nat):Nat:=m ||| 2 ^ i
theorem qC (k m i:Nat):(lb k m).setIfInBounds i true=lb k (mD m i):=by
 apply Array.ext_getElem?;intro j;simp only[lb,List.setIfInBounds_toArray,getElem?_toArray,jZ,bn,a8,length_range];by_cases hj:i=j
 ·subst hj;rw[ak rfl];by_cases hi:i<k
  ·rw[ak hi,getElem?_range hi];simp[mD]
  ·rw[ag hi,js (by simpa using hi)];rfl
 ·rw[ag hj];by_cases hk:j<k
  ·rw[getElem?_range hk];simp[mD,Nat.testBit_two_pow,hj]
  ·rw[js (by simpa using hk)];rfl
theorem DW {id m:Nat}(C:World→Prop)(bh od:List Nat)(hm:P.follows .mixedOrders=true)(kC:lI Q)(h:lI Q→gh P ops Q C bh od m 0 a w.drew)(hn:ops.size=m:=by kernel_rfl):(Code.region id ops true).wp P Q a w:=by
 subst hn;refine Q1 (m:=ops.size) (l0:=lb ops.size 0) C bh hm rfl ?_ kC h;apply Array.ext_getElem?;intro j;simp only[lb,Nat.zero_testBit,getElem?_toArray,bn,Array.getElem?_replicate];by_cases hj:j<ops.size
 ·rw[ak hj,getElem?_range hj];simp
 ·rw[ag hj,js (by simpa using hj)];rfl
theorem Rp (hi:ops[i]?=some o)(h:cJ P ops Q o (λa' w'=>(bh.contains i=true→C w')∧gh P ops Q C bh od fuel (mD m i) a' w') a w)(hr:Region.ready .any ops (lb ops.size m)=[i]:=by kernel_rfl):gh P ops Q C bh (i::od) (fuel+1) m a w :=
 QZ (qC _ _ _) hr hi h
theorem Rq {j:Nat}{o':Oper}(Rr Rs:List Nat)(hr:Region.ready .any ops (lb ops.size m)=[i,j])(hi:ops[i]?=some o)(hj:ops[j]?=some o')
   (h1:cJ P ops Q o (λa' w'=>(bh.contains i=true→C w')∧gh P ops Q C bh Rr fuel (mD m i) a' w') a w) (h2:cJ P ops Q o' (λa' w'=>(bh.contains j=true→C w')∧gh P ops Q C bh Rs fuel (mD m j) a' w') a w):gh P ops Q C bh od (fuel+1) m a w :=
 Q2 (qC _ _ _) (qC _ _ _) hr hi hj h1 h2
theorem Rt (h:Q .normal a w)(hr:Region.ready .any ops (lb ops.size m)=[]:=by kernel_rfl):gh P ops Q C bh [] fuel m a w:=Q0 hr h fuel
end
end
end Go.Proofs.YteoldcfapaiobaaGreat
