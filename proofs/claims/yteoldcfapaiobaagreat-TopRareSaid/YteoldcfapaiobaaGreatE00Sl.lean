/- The heap logic: lists of assertions on separate parts of the memory that a call has made, and how they turn with the world. -/
import Derived.Test.YteoldcfapaiobaaGreatEQ
import Derived.WalkKit
import Derived.Laws.CopyRow
import Derived.WalkSpells
import Derived.WalkLawsBesides
import Derived.Deep.LoopGhost
import Derived.OrdersHeld
import Derived.Laws.BytesString
import Derived.Lib.SliceRun
namespace Go.Proofs.YteoldcfapaiobaaGreat
open List (mem_cons_self all_eq_true length_range drop_zero take_succ_cons getElem?_take getElem?_drop set_eq_take_append_cons_drop perm_middle getElem?_append_right drop_drop drop_left take_zero foldl_cons take_append nil_append map_cons set_append_right set_append_left getElem?_cons_succ length_nil mem_range getElem?_toArray getElem?_range mem_singleton)
open Go.RowKit
set_option linter.unusedVariables false
set_option linter.unusedSimpArgs false
set_option maxRecDepth 10000
set_option synthInstance.maxSize 4000
set_option synthInstance.maxHeartbeats 400000
section
abbrev Hp:=Nat→Option Obj
abbrev SP:=Hp→Prop
def Hp.Sub (a b:Hp):Prop:=∀ n o,a n=some o→b n=some o
def Hp.Dj (a b:Hp):Prop:=∀ n,a n=none∨b n=none
def Hp.un (a b:Hp):Hp:=λn=>match a n with | some o=>some o | none=>b n
theorem Hp.Sub.refl (a:Hp):Hp.Sub a a:=λ_ _ h=>h
theorem Hp.Sub.trans {a b c:Hp}(h:Hp.Sub a b)(k:Hp.Sub b c):Hp.Sub a c:=λn o e=>k n o (h n o e)
theorem Hp.Cd (a b:Hp):Hp.Sub a (Hp.un a b):=λn o h=>by simp[Hp.un,h]
theorem Hp.tt {a b:Hp}(d:Hp.Dj a b):Hp.Sub b (Hp.un a b):=λn o h=>by
 rcases d n with e | e
 ·simp[Hp.un,e,h]
 ·rw[h]at e;cases e
theorem Hp.Ce {a b c:Hp}(h:Hp.Sub a c)(k:Hp.Sub b c):Hp.Sub (Hp.un a b) c:=λn o e=>by
 cases E:a n with
 | some x=>simp[Hp.un,E]at e;subst e;exact h n _ E
 | none=>simp[Hp.un,E]at e;exact k n _ e
theorem Hp.Dj.symm {a b:Hp}(d:Hp.Dj a b):Hp.Dj b a:=λn=>(d n).symm
theorem Hp.Dj.mono {a b a' b':Hp}(d:Hp.Dj a b)(h:Hp.Sub a' a)(k:Hp.Sub b' b):Hp.Dj a' b':=λn=>by
 rcases d n with e | e
 ·left;cases E:a' n with
  | none=>rfl
  | some x=>rw[h n _ E]at e;cases e
 ·right;cases hb:b' n with
  | none=>rfl
  | some x=>rw[k n _ hb]at e;cases e
theorem Hp.Dj.tt {a b c:Hp}(d:Hp.Dj a b)(k:Hp.Dj a c):Hp.Dj a (Hp.un b c):=λn=>by
 rcases d n with e | e
 ·exact .inl e
 ·rcases k n with f | f
  ·exact .inl f
  ·right;simp[Hp.un,e,f]
def cn:List SP→SP
 | [],_=>True
 | A::L,h=>∃ h1 h2,Hp.Dj h1 h2∧Hp.Sub h1 h∧Hp.Sub h2 h∧A h1∧cn L h2
theorem Cg:∀ {L:List SP} {h h':Hp},Hp.Sub h h'→cn L h→cn L h'
 | [],_,_,_,_=>trivial
 | _::_,_,_,s,⟨h1,h2,d,a,b,p,q⟩=>⟨h1,h2,d,a.trans s,b.trans s,p,q⟩
theorem OT {A B:SP}{L:List SP}{h:Hp}:cn (A::B::L) h→cn (B::A::L) h
 | ⟨h1,h2,d,a,b,p,k1,k2,e,f,g,q,r⟩ =>
  ⟨k1,Hp.un h1 k2,(d.mono (Hp.Sub.refl _) f).symm.tt e,f.trans b,Hp.Ce a (g.trans b),q,
   h1,k2,d.mono (Hp.Sub.refl _) g,Hp.Cd _ _,Hp.tt (d.mono (Hp.Sub.refl _) g),p,r⟩
theorem OU {A:SP}{L L':List SP}(k:∀ h,cn L h→cn L' h){h:Hp}:cn (A::L) h→cn (A::L') h
 | ⟨h1,h2,d,a,b,p,q⟩=>⟨h1,h2,d,a,b,p,k _ q⟩
theorem OV {L L':List SP}(p:L.Perm L'):∀ {h:Hp},cn L h→cn L' h:=by
 induction p with
 | nil=>exact λh=>h
 | cons x _ ih=>exact λh=>OU (λ_=>ih) h
 | swap x y l=>exact λh=>OT h
 | trans _ _ OW OX=>exact λh=>OX (OW h)
theorem Hj:∀ {M L:List SP} {h1 h2 h:Hp},Hp.Dj h1 h2→Hp.Sub h1 h→Hp.Sub h2 h→cn M h1→cn L h2→cn (M++L) h
 | [],_,_,_,_,_,_,s,_,q=>Cg s q
 | _::_,_,h1,h2,_,d,s,t,⟨k1,k2,e,f,g,p,r⟩,q =>
  ⟨k1,Hp.un k2 h2,e.tt (d.mono f (Hp.Sub.refl _)),f.trans s,Hp.Ce (g.trans s) t,p,
   Hj (d.mono g (Hp.Sub.refl _)) (Hp.Cd _ _) (Hp.tt (d.mono g (Hp.Sub.refl _))) r q⟩
theorem Ch:∀ {M L:List SP} {h:Hp},cn (M++L) h→∃ h1 h2,Hp.Dj h1 h2∧Hp.Sub h1 h∧Hp.Sub h2 h∧cn M h1∧cn L h2
 | [],_,h,q=>⟨λ_=>none,h,λ_=>.inl rfl,λ_ _ e=>(by cases e),Hp.Sub.refl _,trivial,q⟩
 | _::M,L,h,⟨k1,k2,e,f,g,p,r⟩=>by
  obtain⟨h1,h2,d,s,t,q,u⟩:=Ch (M:=M) (L:=L) r;exact⟨Hp.un k1 h1,h2,(Hp.Dj.tt (d.symm) (e.symm.mono t (Hp.Sub.refl _)) |> λx=>(by
   intro n;rcases x n with y | y
   ·exact .inr y
   ·left;simp only[Hp.un]at y ⊢;cases hk:k1 n with
    | some z=>cases hh:h1 n with
     | some u=>simp[hh]at y
     | none=>simp[hh,hk]at y
    | none=>cases hh:h1 n with
     | some u=>simp[hh]at y
     | none=>rfl)),Hp.Ce f (s.trans g),t.trans g,p |> λp=>⟨k1,h1,e.mono (Hp.Sub.refl _) s,Hp.Cd _ _,Hp.tt (e.mono (Hp.Sub.refl _) s),p,q⟩,u⟩
def kG (b:Nat)(o:Obj):SP:=λh=>h b=some o
def aa (b:Nat)(e:TypeId)(cs:List Value):SP:=kG b (.cells cs.toArray e (0,0))
structure U (W w:World)(L:List SP):Prop where
 below:Below W.heap.size W w
 sat:∃ h:Hp,(∀ n o,h n=some o→W.heap.size≤n∧w.heap[n]?=some o)∧cn L h
section
variable {W w:World}{L L' M:List SP}
theorem U.start (W:World):U W W []:=⟨Below.refl _ _,λ_=>none,λ_ _ h=>(by cases h),trivial⟩
theorem U.imp (s:U W w L)(k:∀ h,cn L h→cn L' h):U W w L' :=
 let ⟨b,h,p,q⟩:=s;⟨b,h,p,k h q⟩
theorem U.perm (s:U W w L)(p:L.Perm L'):U W w L':=s.imp λ_=>OV p
theorem U.nil (s:U W w L):U W w []:=s.imp λ_ _=>trivial
theorem U.tail {A:SP}(s:U W w (A::L)):U W w L:=s.imp λ_ ⟨_,_,_,_,b,_,q⟩=>Cg b q
theorem U.drop (s:U W w (M++L)):U W w L:=s.imp λ_ q=>let ⟨_,_,_,_,b,_,q⟩:=Ch q;Cg b q
theorem U.open {A:SP}(s:U W w (A::L))(k:∀ h,A h→cn M h):U W w (M++L) :=
 s.imp λ_ ⟨_,_,d,a,b,p,q⟩=>Hj d a b (k _ p) q
theorem U.shut {A:SP}(s:U W w (M++L))(k:∀ h,cn M h→A h):U W w (A::L) :=
 s.imp λ_ q=>let ⟨h1,h2,d,a,b,p,q⟩:=Ch q;⟨h1,h2,d,a,b,k _ p,q⟩
theorem U.tell {A:SP}{p:Prop}(s:U W w (A::L))(k:∀ h,A h→p):p :=
 let ⟨_,_,_,_,_,_,_,_,x,_⟩:=s;k _ x
theorem U.jy {ι:Type}{A:SP}{p:ι→Prop}{B:ι→SP}(s:U W w (A::L))(k:∀ h,A h→∃ i,p i∧B i h):∃ i,p i∧U W w (B i::L):=by
 obtain⟨b,h,q,h1,h2,d,x,y,z,r⟩:=s;obtain⟨i,hp,hB⟩:=k _ z;exact⟨i,hp,b,h,q,h1,h2,d,x,y,hB,r⟩
theorem U.drew (s:U W w L):U W w.drew L:=⟨s.below.drew,s.sat⟩
theorem U.alloc (s:U W w L)(o:Obj):U W (w.alloc o) (kG w.heap.size o::L):=by
 obtain⟨b,h,p,q⟩:=s;have hn:h w.heap.size=none:=by
  cases e:h w.heap.size with
  | none=>rfl
  | some x=>have:=(p _ _ e).2;simp at this
 refine⟨b.alloc b.size o,λn=>if n=w.heap.size then some o else h n,?_,λn=>if n=w.heap.size then some o else none,h,?_,?_,?_,by simp[kG],q⟩
 ·intro n x e;by_cases hb:n=w.heap.size
  ·simp[hb]at e;subst e;subst hb;exact⟨b.size,by show (w.heap.push o)[w.heap.size]?=_;simp⟩
  ·simp[hb]at e;refine⟨(p _ _ e).1,?_⟩;have:=(p _ _ e).2;show (w.heap.push o)[n]?=_;rw[Array.getElem?_push,ag hb];exact this
 ·intro n;by_cases hb:n=w.heap.size
  ·right;rw[hb];exact hn
  ·left;simp[hb]
 ·intro n x e;by_cases hb:n=w.heap.size <;> simp[hb]at e ⊢;exact e
 ·intro n x e;by_cases hb:n=w.heap.size
  ·rw[hb,hn]at e;cases e
  ·simp[hb,e]
theorem U.has {b:Nat}{o:Obj}(s:U W w (kG b o::L)):W.heap.size≤b∧w.heap[b]?=some o :=
 let ⟨_,_,p,_,_,_,a,_,x,_⟩:=s;p _ _ (a _ _ x)
theorem U.ck {b:Nat}{o o':Obj}{w':World}(s:U W w (kG b o::L))(OY:w'.os=w.os)(ht:w'.tape=w.tape)(OZ:w'.output=w.output)
   (hh:w'.heap=w.heap.setIfInBounds b o'):U W w' (kG b o'::L):=by
 have hb:=s.has;obtain⟨lX,h,p,h1,h2,d,a,k,x,q⟩:=s;have hlt:b<w.heap.size:=by have:=(Array.getElem?_eq_some_iff.1 hb.2).1;exact this
 have Hk : h2 b = none := by rcases d b with e | e; · rw [x] at e; cases e
                             ·exact e
 refine⟨lX.trans ⟨OY,ht,OZ,by rw[hh];simp,λn hn=>?_⟩,λn=>if n=b then some o' else h n,?_,λn=>if n=b then some o' else none,h2,?_,?_,?_,by simp[kG],q⟩
 ·rw[hh,Array.getElem?_setIfInBounds,ag (by omega)]
 ·intro n y e;by_cases hn:n=b
  ·simp[hn]at e;subst e;subst hn;exact⟨hb.1,by rw[hh,Array.getElem?_setIfInBounds];simp[hlt]⟩
  ·simp[hn]at e;refine⟨(p _ _ e).1,?_⟩;rw[hh,Array.getElem?_setIfInBounds,ag (by omega)];exact (p _ _ e).2
 ·intro n;by_cases hn:n=b
  ·right;rw[hn];exact Hk
  ·left;simp[hn]
 ·intro n y e;by_cases hn:n=b <;> simp[hn]at e ⊢;exact e
 ·intro n y e;by_cases hn:n=b
  ·rw[hn,Hk]at e;cases e
  ·simp[hn];exact k _ _ e
end
theorem U.cell {W w:World}{L:List SP}{b:Nat}{e:TypeId}{cs:List Value}(s:U W w (aa b e cs::L))(i:Nat) :
   w.cell? ⟨b,i,none⟩=cs[i]?:=by
 have:=s.has.2;simp[World.cell?,this]
theorem U.gy {W w:World}{L:List SP}(s:U W w L){a:Addr}(h:a.block<W.heap.size):w.cell? a=W.cell? a:=s.below.cell h
def cG (cs:List Value)(off:Nat)(vs:List Value):List Value:=cs.take off++vs++cs.drop (off+vs.length)
theorem U.setRow {W w:World}{L:List SP}{b:Nat}{e:TypeId}{cs lY:List Value}(s:U W w (aa b e cs::L)) :
   U W (w.setRow b lY.toArray) (aa b e lY::L):=by
 have hb:=s.has.2;refine s.ck (o':=.cells lY.toArray e (0,0)) rfl rfl rfl ?_;apply Array.ext_getElem?;intro i;simp only[World.setRow,Array.getElem?_modify,Array.getElem?_setIfInBounds];by_cases hi:b=i
 ·subst hi;rw[ak rfl,ak rfl,hb];have:b<w.heap.size:=(Array.getElem?_eq_some_iff.1 hb).1;simp[this]
 ·simp[hi]
structure Old (w0 w:World):Prop where
 size:w0.heap.size≤w.heap.size
 same:∀ k,k<w0.heap.size→w.heap[k]?=w0.heap[k]?
theorem Old.refl (w:World):Old w w:=⟨a7 _,λ_ _=>rfl⟩
theorem Old.cell {w0 w:World}(h:Old w0 w){ad:Addr}{v:Value}(hc:w0.cell? ad=some v):w.cell? ad=some v:=by
 rw[← hc];exact World.cell?_of_block (h.same _ (World.block_lt_of_cell? _ _ hc))
theorem Old.trans {a b c:World}(h:Old a b)(k:Old b c):Old a c:=⟨ft h.size k.size,λn hn=>(k.same n (zb hn h.size)).trans (h.same n hn)⟩
theorem Old.alloc (w:World)(o:Obj):Old w (w.alloc o):=⟨by simp,λk hk=>Below.heap_alloc _ _ _ hk⟩
end
section
structure Fr (a:Act)(n:Nat)(l:List (Nat×Value)):Prop where
 defers:a.defers=[]
 size:a.tmps.size=n
 has:∀ p∈l,a.tmps[p.1]?=some p.2
def Hl (d:Nat)(l:List (Nat×Value)):Bool:=l.all λp=>!(Nat.beq p.1 d)
def okB (d n:Nat)(l:List (Nat×Value)):Bool:=Nat.ble (d+1) n&&Hl d l
class fj (l:List (Nat×Value))(t:Nat)(v:outParam Value):Prop where mem:(t,v)∈l
instance fj.head {l t v}:fj ((t,v)::l) t v:=⟨mem_cons_self⟩
instance (priority:=low) fj.tail {l t v p}[h:fj l t v]:fj (p::l) t v:=⟨gM _ h.mem⟩
class Ev (l:List (Nat×Value))(o:Operand)(v:outParam Value):Prop where ev:∀ a n,Fr a n l→a.eval o=v
instance Ev.tmp {l t v}[h:fj l t v]:Ev l (.tmp t) v:=⟨λa n E=>by
 have:=E.has _ h.mem;simp only[Act.eval];simp[Array.getD_eq_getD_getElem?,this]⟩
instance Ev.const {l v}:Ev l (.const v) v:=⟨λ_ _ _=>rfl⟩
instance Ev.func {l f}:Ev l (.func f) (.func (.func f) #[] #[]):=⟨λ_ _ _=>rfl⟩
class nq (l:List (Nat×Value))(os:List Operand)(vs:outParam (List Value)):Prop where ev:∀ a n,Fr a n l→os.map a.eval=vs
instance nq.nil {l}:nq l [] []:=⟨λ_ _ _=>rfl⟩
instance nq.cons {l o os v vs}[h:Ev l o v][k:nq l os vs]:nq l (o::os) (v::vs):=⟨λa n E=>by
 simp[h.ev a n E,k.ev a n E]⟩
class vb (l:List (Nat×Value))(ks:List Nat)(l':outParam (List (Nat×Value))):Prop where sub:∀ p∈l',p∈l
instance vb.nil {l}:vb l [] []:=⟨λ_ h=>by cases h⟩
instance vb.cons {l k ks v l'}[h:fj l k v][r:vb l ks l']:vb l (k::ks) ((k,v)::l'):=⟨λp hp=>by
 rcases List.mem_cons.1 hp with rfl | h'
 ·exact h.mem
 ·exact r.sub _ h'⟩
theorem Fr.ab {a n l l'}(h:Fr a n l)(ks:List Nat)[k:vb l ks l']:Fr a n l':=⟨h.defers,h.size,λp hp=>h.has _ (k.sub _ hp)⟩
class gT (l:List (Nat×Value))(d:Nat)(l':outParam (List (Nat×Value))):Prop where sub:∀ p∈l',p∈l
instance gT.nil {d}:gT [] d []:=⟨λ_ h=>h⟩
instance gT.head {l d v}:gT ((d,v)::l) d l:=⟨λ_ h=>gM _ h⟩
instance (priority:=low) gT.tail {l d p l'}[h:gT l d l']:gT (p::l) d (p::l'):=⟨λq hq=>by
 rcases List.mem_cons.1 hq with rfl | h'
 ·exact mem_cons_self
 ·exact gM _ (h.sub _ h')⟩
theorem Fr.del {a n l l'}(h:Fr a n l)(d:Nat)[k:gT l d l']:Fr a n l':=⟨h.defers,h.size,λp hp=>h.has _ (k.sub _ hp)⟩
theorem O0 {d n l}(h:okB d n l=true):d<n:=by
 simp only[okB,fk]at h;exact Nat.le_of_ble_eq_true h.1
theorem O1 {d n l}(h:okB d n l=true):∀ p∈l,p.1≠d:=by
 simp only[okB,Hl,fk,all_eq_true]at h;intro p hp e;have:=h.2 p hp;rw[e]at this;have:Nat.beq d d=true:=Nat.beq_refl d;simp[this] at *
theorem Fr.put {a n l d}(h:Fr a n l)(hf:okB d n l=true)(v:Value):Fr (a.put (some d) v) n ((d,v)::l):=by
 have hl:=O0 hf;refine⟨h.defers,by simp[Act.put,h.size],λp hp=>?_⟩;rcases List.mem_cons.1 hp with rfl | hp
 ·simp[Act.put,h.size,hl]
 ·have bD:=O1 hf p hp;simp only[Act.put];rw[Array.getElem?_setIfInBounds,ag (λe=>bD e.symm)];exact h.has _ hp
theorem Fr.enter {m:Nat}{vs:List Value}(hm:vs.length≤m) :
   Fr { tmps:=vs.toArray++Array.replicate (m-vs.toArray.size) undef,defers:=[] } m ((List.range vs.length).zip vs):=by
 refine⟨rfl,by simp;omega,λp hp=>?_⟩;obtain⟨i,hi,rfl⟩:=List.mem_iff_getElem.1 hp;simp only[List.length_zip,length_range]at hi;have hv:i<vs.length:=by omega
 simp only[List.getElem_zip,List.getElem_range];rw[Array.getElem?_append_left (by simp;omega)];simp[hv]
section
variable {P:Program}{ops:Array Oper}{Q:Exit→Act→World→Prop}{a:Act}{w w':World}{K:Act→World→Prop}{o:Oper}{n d:Nat}{l:List (Nat×Value)}{v:Value}
def cI (P:Program)(ops:Array Oper)(Q:Exit→Act→World→Prop)(o:Oper)(K:Act→World→Prop)(a:Act)(w:World):Prop :=
 if Region.wanted o (yielded ops a.tmps) then o.wp P a w K Q∨(o.asks P a w∧LetsOut Q) else K (a.put o.dst undef) w
theorem O2 {rest:List Oper}(h:cI P ops Q o (wpList P ops Q rest) a w):wpList P ops Q (o::rest) a w:=h
theorem Hm (hw:Region.wanted o (yielded ops a.tmps)=true)(hr:(execOp a.eval o).run P w=.ok (.value v) w')
   (h:K (a.put o.dst v) w'):cI P ops Q o K a w:=by
 unfold cI;rw[ak hw];left;unfold Oper.wp;rw[hr];exact h
theorem bo {op ty ps af g}(E:Fr a n l)(hw:Region.wanted ⟨some d,op,ty,ps,af,g⟩ (yielded ops a.tmps)=true)
   (hr:(execOp a.eval ⟨some d,op,ty,ps,af,g⟩).run P w=.ok (.value v) w') (hf:okB d n l=true)
   (h:∀ a',Fr a' n ((d,v)::l)→K a' w'):cI P ops Q ⟨some d,op,ty,ps,af,g⟩ K a w :=
 Hm hw hr (h _ (E.put hf v))
theorem Ci {op ty ps af g}(E:Fr a n l)(hw:Region.wanted ⟨none,op,ty,ps,af,g⟩ (yielded ops a.tmps)=true)
   (hr:(execOp a.eval ⟨none,op,ty,ps,af,g⟩).run P w=.ok (.value v) w')
   (h:∀ a',Fr a' n l→K a' w'):cI P ops Q ⟨none,op,ty,ps,af,g⟩ K a w :=
 Hm hw hr (h _ E)
theorem Cj {op ty ps af g}(E:Fr a n l)(hw:Region.wanted ⟨none,op,ty,ps,af,g⟩ (yielded ops a.tmps)=true)
   (hr:(execOp a.eval ⟨none,op,ty,ps,af,g⟩).run P w=.ok .skip w')
   (h:∀ a',Fr a' n l→K a' w'):cI P ops Q ⟨none,op,ty,ps,af,g⟩ K a w:=by
 unfold cI;rw[ak hw];left;unfold Oper.wp;rw[hr];exact h _ E
theorem O3 {op ty ps af g}(E:Fr a n l)(hw:Region.wanted ⟨some d,op,ty,ps,af,g⟩ (yielded ops a.tmps)=false)(hf:okB d n l=true)
   (h:∀ a',Fr a' n ((d,undef)::l)→K a' w):cI P ops Q ⟨some d,op,ty,ps,af,g⟩ K a w:=by
 unfold cI;rw[ag (by rw[hw];simp)];exact h _ (E.put hf undef)
theorem O4 {op ty ps af j s b c dst}(E:Fr a n l)(hj:(ops[j]?).bind (·.dst)=some s)[k:fj l s (.bool c)] :
   Region.wanted ⟨dst,op,ty,ps,af,some (j,b)⟩ (yielded ops a.tmps)=(c==b):=by
 have:=E.has _ k.mem;simp[Region.wanted,yielded,hj,this]
theorem b7 {op ty ps af j s b dst}(E:Fr a n l)(hj:(ops[j]?).bind (·.dst)=some s)[k:fj l s (.bool b)] :
   Region.wanted ⟨dst,op,ty,ps,af,some (j,b)⟩ (yielded ops a.tmps)=true:=by rw[O4 E hj];simp
theorem Fr.bool {s:Nat}{c:Bool} {l'}(E:Fr a n l)[k:fj l s (.bool c)][e:gT l s l']{G:Prop}
   (ht:c=true→Fr a n ((s,.bool true)::l')→G) (hf:c=false→Fr a n ((s,.bool false)::l')→G):G:=by
 have hm:=E.has _ k.mem;have hd:=E.del s;cases c with
 | true => exact ht rfl ⟨E.defers, E.size, fun p hp => by
      rcases List.mem_cons.1 hp with rfl | hp
      ·exact hm
      ·exact hd.has _ hp⟩
 | false => exact hf rfl ⟨E.defers, E.size, fun p hp => by
     rcases List.mem_cons.1 hp with rfl | hp
     ·exact hm
     ·exact hd.has _ hp⟩
theorem O5 {x dst ty ps af g}(E:Fr a n l)[e:Ev l x v]:(execOp a.eval ⟨dst,.move x,ty,ps,af,g⟩).run P w=.ok (.value v) w:=by
 simp[execOp,e.ev a n E,pure,Sem.run]
theorem O6 {x dst ty ps af g}(E:Fr a n l)[e:Ev l x v]:(execOp a.eval ⟨dst,.assign x,ty,ps,af,g⟩).run P w=.ok (.value v) w:=by
 simp[execOp,e.ev a n E,pure,Sem.run]
theorem O7 {c x y dst ty ps af g}(E:Fr a n l)[e:Ev l c (.bool true)][f:Ev l x v]:(execOp a.eval ⟨dst,.pick c x y,ty,ps,af,g⟩).run P w=.ok (.value v) w:=by
 simp[execOp,e.ev a n E,f.ev a n E,asBool]
theorem O8 {c x y dst ty ps af g}(E:Fr a n l)[e:Ev l c (.bool false)][f:Ev l y v]:(execOp a.eval ⟨dst,.pick c x y,ty,ps,af,g⟩).run P w=.ok (.value v) w:=by
 simp[execOp,e.ev a n E,f.ev a n E,asBool]
class zc (v:Value):Prop where h:(∃ ad,v=.pointer (some ad))∨∃ t u,v=.iface t u
instance {ad}:zc (.pointer (some ad)):=⟨.inl ⟨_,rfl⟩⟩
instance {t u}:zc (.iface t u):=⟨.inr ⟨_,_,rfl⟩⟩
theorem O9 {x dst ty ps af g}(E:Fr a n l)[e:Ev l x v][k:zc v]:(execOp a.eval ⟨dst,.nilCheck x,ty,ps,af,g⟩).run P w=.ok (.value v) w:=by
 rcases k.h with ⟨ad,rfl⟩ | ⟨t,u,rfl⟩ <;> simp[execOp,e.ev a n E]
theorem Hn {x y k i j t u dst ty ps af g}(E:Fr a n l)[e:Ev l x (.int k i)][f:Ev l y (.int k j)] :
   (execOp a.eval ⟨dst,.binOp .add t x y u,ty,ps,af,g⟩).run P w=.ok (.value (.int k (k.wrap (i+j)))) w:=by
 simp[execOp,e.ev a n E,f.ev a n E,eqGuard,binOp,Op.intArith]
theorem zd {x y k i j t u dst ty ps af g}(E:Fr a n l)[e:Ev l x (.int k i)][f:Ev l y (.int k j)] :
   (execOp a.eval ⟨dst,.binOp .sub t x y u,ty,ps,af,g⟩).run P w=.ok (.value (.int k (k.wrap (i-j)))) w:=by
 simp[execOp,e.ev a n E,f.ev a n E,eqGuard,binOp,Op.intArith]
theorem Ho {x y k i j t u dst ty ps af g}(E:Fr a n l)[e:Ev l x (.int k i)][f:Ev l y (.int k j)] :
   (execOp a.eval ⟨dst,.binOp .mul t x y u,ty,ps,af,g⟩).run P w=.ok (.value (.int k (k.wrap (i*j)))) w:=by
 simp[execOp,e.ev a n E,f.ev a n E,eqGuard,binOp,Op.intArith]
theorem gi {i:Int}(h1:-9223372036854775808≤i)(h2:i≤9223372036854775807):IntKind.i64.wrap i=i:=IntWalk.i64_in _ (by omega)
theorem Pa {x y i j t u dst ty ps af g}(E:Fr a n l)[e:Ev l x (.int .i64 i)][f:Ev l y (.int .i64 j)](h1:-9223372036854775808≤i+j)(h2:i+j≤9223372036854775807) :
   (execOp a.eval ⟨dst,.binOp .add t x y u,ty,ps,af,g⟩).run P w=.ok (.value (.int .i64 (i+j))) w:=by
 rw[Hn E,gi h1 h2]
theorem Pb {x y i j t u dst ty ps af g}(E:Fr a n l)[e:Ev l x (.int .i64 i)][f:Ev l y (.int .i64 j)](h1:-9223372036854775808≤i-j)(h2:i-j≤9223372036854775807) :
   (execOp a.eval ⟨dst,.binOp .sub t x y u,ty,ps,af,g⟩).run P w=.ok (.value (.int .i64 (i-j))) w:=by
 rw[zd E,gi h1 h2]
theorem Pc {x y i j t u dst ty ps af g}(E:Fr a n l)[e:Ev l x (.int .i64 i)][f:Ev l y (.int .i64 j)](h1:-9223372036854775808≤i*j)(h2:i*j≤9223372036854775807) :
   (execOp a.eval ⟨dst,.binOp .mul t x y u,ty,ps,af,g⟩).run P w=.ok (.value (.int .i64 (i*j))) w:=by
 rw[Ho E,gi h1 h2]
theorem Pd {x y k i j t u dst ty ps af g}(E:Fr a n l)[e:Ev l x (.int k i)][f:Ev l y (.int k j)] :
   (execOp a.eval ⟨dst,.binOp .lss t x y u,ty,ps,af,g⟩).run P w=.ok (.value (.bool (decide (i<j)))) w:=by
 simp[execOp,e.ev a n E,f.ev a n E,eqGuard,binOp,Op.intCmp]
theorem Pf {x y k i j t u dst ty ps af g}(E:Fr a n l)[e:Ev l x (.int k i)][f:Ev l y (.int k j)] :
   (execOp a.eval ⟨dst,.binOp .leq t x y u,ty,ps,af,g⟩).run P w=.ok (.value (.bool (decide (i≤j)))) w:=by
 simp[execOp,e.ev a n E,f.ev a n E,eqGuard,binOp,Op.intCmp]
theorem Ph {x y k i j t u dst ty ps af g}(E:Fr a n l)[e:Ev l x (.int k i)][f:Ev l y (.int k j)] :
   (execOp a.eval ⟨dst,.binOp .gtr t x y u,ty,ps,af,g⟩).run P w=.ok (.value (.bool (decide (j<i)))) w:=by
 simp[execOp,e.ev a n E,f.ev a n E,eqGuard,binOp,Op.intCmp]
theorem Pj {x y k i j t u dst ty ps af g}(E:Fr a n l)[e:Ev l x (.int k i)][f:Ev l y (.int k j)] :
   (execOp a.eval ⟨dst,.binOp .geq t x y u,ty,ps,af,g⟩).run P w=.ok (.value (.bool (decide (j≤i)))) w:=by
 simp[execOp,e.ev a n E,f.ev a n E,eqGuard,binOp,Op.intCmp]
theorem Pm {x y k i j t u dst ty ps af g}(E:Fr a n l)[e:Ev l x (.int k i)][f:Ev l y (.int k j)] :
   (execOp a.eval ⟨dst,.binOp .eql t x y u,ty,ps,af,g⟩).run P w=.ok (.value (.bool (decide (i=j)))) w:=by
 simp[execOp,e.ev a n E,f.ev a n E,eqGuard,binOp,Op.intCmp];rfl
theorem Pn {x y k i j t u dst ty ps af g}(E:Fr a n l)[e:Ev l x (.int k i)][f:Ev l y (.int k j)] :
   (execOp a.eval ⟨dst,.binOp .neq t x y u,ty,ps,af,g⟩).run P w=.ok (.value (.bool (decide (i≠j)))) w:=by
 simp[execOp,e.ev a n E,f.ev a n E,eqGuard,binOp,Op.intCmp,bne];rfl
theorem Po {x b t dst ty ps af g}(E:Fr a n l)[e:Ev l x (.bool b)]:(execOp a.eval ⟨dst,.unOp .not t x,ty,ps,af,g⟩).run P w=.ok (.value (.bool (!b))) w:=by
 simp[execOp,e.ev a n E,Op.unary]
class tu (v:Value)(b:outParam Bool):Prop where h:v=.pointer none∧b=true∨(∃ ad,v=.pointer (some ad))∧b=false
instance:tu (.pointer none) true:=⟨.inl ⟨rfl,rfl⟩⟩
instance {ad}:tu (.pointer (some ad)) false:=⟨.inr ⟨⟨_,rfl⟩,rfl⟩⟩
theorem ze {t el:TypeId}(ht:P.underlying t=some (.pointer el)):P.underlying t=some (.pointer (P.pointee t)):=by
 rw[ht];simp[Program.pointee,ht]
theorem Pp {x b t u el dst ty ps af g}(E:Fr a n l)(ht:P.underlying t=some (.pointer el))[e:Ev l x v][k:tu v b] :
   (execOp a.eval ⟨dst,.binOp .eql t x (.const (.pointer none)) u,ty,ps,af,g⟩).run P w=.ok (.value (.bool b)) w:=by
 have hc:a.eval (.const (.pointer none))=.pointer none:=rfl;rcases k.h with ⟨rfl,rfl⟩ | ⟨⟨ad,rfl⟩,rfl⟩
 ·have:=run_eql_pointer_nil (P:=P) (w:=w) t none (ze ht);simp only[execOp,e.ev a n E,hc,Sem.run_bind];simp[eqGuard,this]
 ·have:=run_eql_pointer_nil (P:=P) (w:=w) t (some ad) (ze ht);simp only[execOp,e.ev a n E,hc,Sem.run_bind];simp[eqGuard,this]
theorem Pq {x b t u el dst ty ps af g}(E:Fr a n l)(ht:P.underlying t=some (.pointer el))[e:Ev l x v][k:tu v b] :
   (execOp a.eval ⟨dst,.binOp .neq t x (.const (.pointer none)) u,ty,ps,af,g⟩).run P w=.ok (.value (.bool (!b))) w:=by
 have hc:a.eval (.const (.pointer none))=.pointer none:=rfl;rcases k.h with ⟨rfl,rfl⟩ | ⟨⟨ad,rfl⟩,rfl⟩
 ·have:=run_neq_pointer_nil (P:=P) (w:=w) t none (ze ht);simp only[execOp,e.ev a n E,hc,Sem.run_bind];simp[eqGuard,this]
 ·have:=run_neq_pointer_nil (P:=P) (w:=w) t (some ad) (ze ht);simp only[execOp,e.ev a n E,hc,Sem.run_bind];simp[eqGuard,this]
end
end
section
class TI (P:Program)(t:TypeId)(z:outParam Value)(size bytes:outParam Nat):Prop where of ::
 h:(P.info? t).map (λi=>(i.zero,i.size,i.bytes))=some (some z,size,bytes)
def nS:TypeDesc→Bool | .struct _ | .array _ _=>false | _=>true
class fC (L:List SP)(b:Nat)(e:outParam TypeId)(cs:outParam (List Value))(R:outParam (List SP)):Prop where perm:L.Perm (aa b e cs::R)
instance fC.head {L b e cs}:fC (aa b e cs::L) b e cs L:=⟨List.Perm.refl _⟩
instance (priority:=low) fC.tail {A L b e cs R}[h:fC L b e cs R]:fC (A::L) b e cs (A::R) :=
 ⟨(List.Perm.cons A h.perm).trans (List.Perm.swap _ _ _)⟩
class Cells (v:Value)(vs:outParam (List Value)):Prop where h:v.cells=vs.toArray
instance {vs:List Value}:Cells (.agg vs.toArray) vs:=⟨rfl⟩
instance {b}:Cells (.bool b) [.bool b]:=⟨rfl⟩
instance {k i}:Cells (.int k i) [.int k i]:=⟨rfl⟩
instance {s}:Cells (.string s) [.string s]:=⟨rfl⟩
instance {p}:Cells (.pointer p) [.pointer p]:=⟨rfl⟩
instance {p n c}:Cells (.slice p n c) [.slice p n c]:=⟨rfl⟩
instance {m}:Cells (.map m) [.map m]:=⟨rfl⟩
instance {f x y}:Cells (.func f x y) [.func f x y]:=⟨rfl⟩
instance {t v}:Cells (.iface t v) [.iface t v]:=⟨rfl⟩
class pW (cs:List Value)(i:Nat)(v:Value)(lY:outParam (List Value)):Prop where h:cs.set i v=lY
instance (priority:=low) pW.any {cs i v}:pW cs i v (cs.set i v):=⟨rfl⟩
instance pW.zero {c cs v}:pW (c::cs) 0 v (v::cs):=⟨rfl⟩
instance pW.succ {c cs i v lY}[h:pW cs i v lY]:pW (c::cs) (i+1) v (c::lY):=⟨by rw[List.set_cons_succ,h.h]⟩
class lZ (cs:List Value)(off m:Nat)(vs:outParam (List Value)):Prop where h:(cs.drop off).take m=vs
instance (priority:=low) lZ.any {cs off m}:lZ cs off m ((cs.drop off).take m):=⟨rfl⟩
instance lZ.nil {cs}:lZ cs 0 0 []:=⟨by simp⟩
instance lZ.cons {x cs m vs}[h:lZ cs 0 m vs]:lZ (x::cs) 0 (m+1) (x::vs):=⟨by
 have:=h.h;simp only[drop_zero] at *;rw[take_succ_cons,this]⟩
class rV (o k:Nat)(r:outParam Nat):Prop where h:o+k=r
instance (priority:=low) rV.any {o k}:rV o k (o+k):=⟨rfl⟩
instance rV.left {o}:rV o 0 o:=⟨rfl⟩
instance rV.right {k}:rV 0 k k:=⟨Nat.zero_add k⟩
def Rd (w:World)(b off:Nat)(vs:List Value):Prop:=∀ j v,vs[j]?=some v→w.cell? ⟨b,off+j,none⟩=some v
theorem la (b o k:Nat):(⟨b,o,none⟩:Addr).add k=⟨b,o+k,none⟩:=by unfold Addr.add;split <;> simp_all
section
variable {P:Program}{W w:World}{L R:List SP}{b e:Nat}{cs:List Value}
theorem U.jJ (s:U W w L)(b:Nat)[k:fC L b e cs R]:U W w (aa b e cs::R):=s.perm k.perm
theorem U.bz (s:U W w L)[k:fC L b e cs R]{off:Nat}{v:Value}(h:cs[off]?=some v):w.cell? ⟨b,off,none⟩=some v:=by
 rw[(s.perm k.perm).cell];exact h
theorem U.pX (s:U W w L)[k:fC L b e cs R]{off:Nat}(m:Nat){vs:List Value}[sc:lZ cs off m vs]:Rd w b off vs:=by
 have h:=sc.h;intro j v hj;rw[(s.perm k.perm).cell];rw[← h,getElem?_take]at hj;by_cases hm:j<m
 ·rw[ak hm,getElem?_drop]at hj;exact hj
 ·rw[ag hm]at hj;cases hj
theorem U.ai (s:U W w L)[k:fC L b e cs R]:Rd w b 0 cs:=by
 intro j v hj;rw[(s.perm k.perm).cell,Nat.zero_add];exact hj
theorem Ps {t ee}{ad:Addr}{v:Value}(hu:P.underlying t=some ee)(hd:nS ee=true)(hc:w.cell? ad=some v):(loadVar t ad).run P w=.ok v w:=by
 have:(isAgg t).run P w=.ok false w:=by
  simp only[isAgg,Sem.run_bind,eL hu,Result.andThen_ok];cases ee <;> first | rfl | (simp[nS]at hd)
 simp[loadVar,this,load,Sem.run,hc]
theorem Ck {t ee z a1}{off:Nat}{vs:List Value}(hu:P.underlying t=some ee)(hd:nS ee=false)(hi:TI P t z vs.length a1)(hc:Rd w b off vs) :
   (loadVar t ⟨b,off,none⟩).run P w=.ok (.agg vs.toArray) w:=by
 have h1:(isAgg t).run P w=.ok true w:=by
  simp only[isAgg,Sem.run_bind,eL hu,Result.andThen_ok];cases ee <;> first | rfl | (simp[nS]at hd)
 obtain⟨i,h2,_,h3,_⟩:=info_parts hi.h;have h4:(sizeOf t).run P w=.ok vs.length w:=by simp[sizeOf,typeInfo,h2,h3]
 have h5:=run_loadCells_list (P:=P) w ⟨b,off,none⟩ vs (λj v hj=>by rw[la];exact hc j v hj);simp[loadVar,h1,h4,h5]
end
section
variable {P:Program}{ops:Array Oper}{Q:Exit→Act→World→Prop}{a:Act}{w w' W:World}{K:Act→World→Prop}{n d:Nat}{l:List (Nat×Value)}{v:Value}{L R:List SP}
theorem Hq {x ad t ee dst ty ps af g}(E:Fr a n l)(hu:P.underlying t=some ee)(hd:nS ee=true)[ev:Ev l x (.pointer (some ad))](hc:w.cell? ad=some v) :
   (execOp a.eval ⟨dst,.load t x,ty,ps,af,g⟩).run P w=.ok (.value v) w:=by
 simp[execOp,ev.ev a n E,Instr.loadAt,Instr.sureAddr,Ps hu hd hc]
theorem bS {x b off t ee z a1 vs dst ty ps af g}(E:Fr a n l)(hu:P.underlying t=some ee)(hd:nS ee=false)(hi:TI P t z (List.length vs) a1)[ev:Ev l x (.pointer (some ⟨b,off,none⟩))](hc:Rd w b off vs) :
   (execOp a.eval ⟨dst,.load t x,ty,ps,af,g⟩).run P w=.ok (.value (.agg vs.toArray)) w:=by
 simp[execOp,ev.ev a n E,Instr.loadAt,Instr.sureAddr,Ck hu hd hi hc]
theorem l3 {t z sz a1}(hi:TI P t z sz a1):(sizeOf t).run P w=.ok sz w:=by
 obtain⟨i,h2,_,h3,_⟩:=info_parts hi.h;simp[sizeOf,typeInfo,h2,h3]
theorem tv {t z sz a1}(hi:TI P t z sz a1):(zeroValue t).run P w=.ok z w:=by
 obtain⟨i,h2,h1,h3,_⟩:=info_parts hi.h;simp[zeroValue,typeInfo,h2,h1]
theorem eV {t z sz a1 zs ty ps af g}(E:Fr a n l)(hw:Region.wanted ⟨some d,.alloc t,ty,ps,af,g⟩ (yielded ops a.tmps)=true)(I:U W w L)(hi:TI P t z sz a1)[k:Cells z zs]
   (hf:okB d n l=true) (h:∀ b a' w',Fr a' n ((d,.pointer (some ⟨b,0,none⟩))::l)→U W w' (aa b t zs::L)→Old w w'→K a' w') :
   cI P ops Q ⟨some d,.alloc t,ty,ps,af,g⟩ K a w:=by
 refine bo (v:=.pointer (some ⟨w.heap.size,0,none⟩)) (w':=w.alloc (.cells zs.toArray t)) E hw ?_ hf (λa' db=>h _ _ _ db (I.alloc _) (Old.alloc _ _));simp[execOp,Instr.alloc,tv hi,newVar,newRow,newObj,Sem.run,k.h,Sem.run_bind]
theorem w6 {t x vs ty ps af g}(E:Fr a n l)(hw:Region.wanted ⟨some d,.box t x,ty,ps,af,g⟩ (yielded ops a.tmps)=true)(I:U W w L)[ev:Ev l x v][k:Cells v vs]
   (hf:okB d n l=true) (h:∀ b a' w',Fr a' n ((d,.pointer (some ⟨b,0,none⟩))::l)→U W w' (aa b t vs::L)→Old w w'→K a' w') :
   cI P ops Q ⟨some d,.box t x,ty,ps,af,g⟩ K a w:=by
 refine bo (v:=.pointer (some ⟨w.heap.size,0,none⟩)) (w':=w.alloc (.cells vs.toArray t)) E hw ?_ hf (λa' db=>h _ _ _ db (I.alloc _) (Old.alloc _ _));simp[execOp,Instr.box,ev.ev a n E,newVar,newRow,newObj,Sem.run,k.h,Sem.run_bind]
theorem Hr {t z a1 b e off}{v:Value}{vs cs:List Value}(I:U W w (aa b e cs::R))(hi:TI P t z vs.length a1)(hv:v.cells=vs.toArray)(h1:∀ v∈vs,v.oneCell'=true)
   (hle:off+vs.length≤cs.length):(storeVar t ⟨b,off,none⟩ v).run P w=.ok () (w.setRow b (cG cs off vs).toArray):=by
 have:=run_storeCells_at (P:=P) b off e vs 0 cs.toArray w I.has.2 (by simpa using hle) h1;simp[storeVar,hv,l3 hi,this,cG]
theorem Hs {t z a1 x y b e off cs lY ty ps af g}(E:Fr a n l)(hw:Region.wanted ⟨none,.store t x y,ty,ps,af,g⟩ (yielded ops a.tmps)=true)(I:U W w L)
   (hi:TI P t z 1 a1) [ev:Ev l x (.pointer (some ⟨b,off,none⟩))] [tw:Ev l y v] [pY:Cells v [v]] [k:fC L b e cs R] (h1:v.oneCell'=true) (hlt:off<cs.length) [sc:pW cs off v lY]
   (h:∀ a' w',Fr a' n l→U W w' (aa b e lY::R)→K a' w'):cI P ops Q ⟨none,.store t x y,ty,ps,af,g⟩ K a w:=by
 have gU:=I.jJ b;have hr:=Hr (P:=P) (t:=t) (off:=off) (vs:=[v]) gU hi pY.h (by simpa using h1) (by simp;omega);have he:cG cs off [v]=lY:=by
  rw[← sc.h,cG,set_eq_take_append_cons_drop,ak hlt];simp
 refine Cj (w':=w.setRow b (cG cs off [v]).toArray) E hw ?_ (λa' db=>h a' _ db (he ▸ gU.setRow));simp[execOp,ev.ev a n E,tw.ev a n E,Instr.storeAt,Instr.sureAddr,hr]
theorem qK {t z a1 x y b e off cs vs ty ps af g}(E:Fr a n l)(hw:Region.wanted ⟨none,.store t x y,ty,ps,af,g⟩ (yielded ops a.tmps)=true)(I:U W w L)
   (hi:TI P t z (List.length vs) a1) [ev:Ev l x (.pointer (some ⟨b,off,none⟩))] [tw:Ev l y v] [pY:Cells v vs] [k:fC L b e cs R] (h1:∀ v∈vs,v.oneCell'=true) (hle:off+vs.length≤cs.length)
   (h:∀ a' w',Fr a' n l→U W w' (aa b e (cG cs off vs)::R)→K a' w'):cI P ops Q ⟨none,.store t x y,ty,ps,af,g⟩ K a w:=by
 have gU:=I.jJ b;have hr:=Hr (P:=P) (t:=t) (off:=off) (vs:=vs) gU hi pY.h h1 hle;refine Cj (w':=w.setRow b (cG cs off vs).toArray) E hw ?_ (λa' db=>h a' _ db gU.setRow);simp[execOp,ev.ev a n E,tw.ev a n E,Instr.storeAt,Instr.sureAddr,hr]
theorem Pt {t z a1 x y b e cs vs ty ps af g}(E:Fr a n l)(hw:Region.wanted ⟨none,.store t x y,ty,ps,af,g⟩ (yielded ops a.tmps)=true)(I:U W w L)
   (hi:TI P t z (List.length vs) a1) [ev:Ev l x (.pointer (some ⟨b,0,none⟩))] [tw:Ev l y v] [pY:Cells v vs] [k:fC L b e cs R] (h1:∀ v∈vs,v.oneCell'=true) (hle:vs.length=cs.length)
   (h:∀ a' w',Fr a' n l→U W w' (aa b e vs::R)→K a' w'):cI P ops Q ⟨none,.store t x y,ty,ps,af,g⟩ K a w:=by
 refine qK E hw I hi h1 (by omega) (λa' w' db gU=>h a' w' db ?_)
 rwa [show cG cs 0 vs=vs from by simp[cG,hle]]at gU
theorem Pu {x b off t f k r fs iL z sz a1 dst ty ps af g}(E:Fr a n l)[ev:Ev l x (.pointer (some ⟨b,off,none⟩))](hu:P.underlying t=some (.struct fs))(hf:fs[f]?=some iL)(hi:TI P iL.type z (sz+1) a1)
   (hk:iL.offset=k) [Pv:rV off k r]:(execOp a.eval ⟨dst,.fieldAddr t x f,ty,ps,af,g⟩).run P w=.ok (.value (.pointer (some ⟨b,r,none⟩))) w:=by
 simp[execOp,ev.ev a n E,Instr.fieldAt,eL hu,hf,Instr.sureAddr,fieldPlace,l3 hi,la,hk,Pv.h]
class en (i:Int)(j:outParam Nat):Prop where h:i=(j:Int)
instance {j:Nat}:en (j:Int) j:=⟨rfl⟩
instance:en 0 0:=⟨rfl⟩
instance:en 1 1:=⟨rfl⟩
instance:en 2 2:=⟨rfl⟩
instance:en 3 3:=⟨rfl⟩
instance:en 4 4:=⟨rfl⟩
instance:en 7 7:=⟨rfl⟩
instance:en 8 8:=⟨rfl⟩
instance:en 16 16:=⟨rfl⟩
instance:en 24 24:=⟨rfl⟩
instance {x y:Int}{i j:Nat}[h:en x i][k:en y j]:en (x+y) (i+j):=⟨by rw[h.h,k.h];rfl⟩
theorem Ht {x y k i j b off m c t el z sz a1 dst ty ps af g}(E:Fr a n l)[ev:Ev l x (.slice (some ⟨b,off,none⟩) m c)][gV:Ev l y (.int k i)](hu:P.underlying t=some (.slice el))(hi:TI P el z sz a1)[nj:en i j]
   (hlt:j<m):(execOp a.eval ⟨dst,.indexAddr t x y,ty,ps,af,g⟩).run P w=.ok (.value (.pointer (some ⟨b,off+j*sz,none⟩))) w:=by
 have:=nj.h;subst this;simp[execOp,ev.ev a n E,gV.ev a n E,Instr.indexAt,asIntOf,eL hu,l3 hi,la,hlt]
theorem Pw {x y k i j b off m t el z sz a1 dst ty ps af g}(E:Fr a n l)[ev:Ev l x (.pointer (some ⟨b,off,none⟩))][gV:Ev l y (.int k i)](hu:P.underlying t=some (.array m el))(hi:TI P el z sz a1)[nj:en i j]
   (hlt:j<m):(execOp a.eval ⟨dst,.indexAddr t x y,ty,ps,af,g⟩).run P w=.ok (.value (.pointer (some ⟨b,off+j*sz,none⟩))) w:=by
 have:=nj.h;subst this;simp[execOp,ev.ev a n E,gV.ev a n E,Instr.indexAt,asIntOf,eL hu,l3 hi,la,hlt,Instr.sureAddr]
theorem Px {x ad m c t el dst ty ps af g}(E:Fr a n l)[ev:Ev l x (.slice ad m c)](hu:P.underlying t=some (.slice el)) :
   (execOp a.eval ⟨dst,.call ⟨.builtin .len,#[x],#[t]⟩,ty,ps,af,g⟩).run P w=.ok (.value (.int .i64 m)) w:=by
 simp[execOp,resolve,ev.ev a n E,invoke,builtin,Builtin.len_,eL hu,goInt]
theorem Py {fn xs ys us vs dst ty ps af g}(E:Fr a n l)[e1:nq l xs us][e2:nq l ys vs] :
   (execOp a.eval ⟨dst,.makeFunc fn xs.toArray ys.toArray,ty,ps,af,g⟩).run P w=.ok (.value (.func fn us.toArray vs.toArray)) w:=by
 simp[execOp,Instr.makeFunc,e1.ev a n E,e2.ev a n E]
def g9 (P : Program) (f : FuncId) : Bool := match P.funcs[f]? with | some fn => !(fn.name == "runtime.NumGoroutine") && fn.body.isSome | none => false
theorem zf {f}{vs:Array Value}(h:g9 P f=true):(callFunc f vs).run P w=.ok (.enter f vs) w:=by
 simp only[g9]at h;cases hf:P.funcs[f]? with
 | none=>simp[hf]at h
 | some fn =>
  simp only[hf,fk,Bool.not_eq_true']at h;have hb:fn.body.isNone=false:=by cases hb:fn.body <;> simp_all
  simp only[callFunc,program,Sem.run,Sem.run_bind,Result.andThen_ok,hf,h.1,hb];simp
theorem Hu {op ty ps af g dst f}{vs:Array Value}{X:Ending→World→Prop}(hw:Region.wanted ⟨dst,op,ty,ps,af,g⟩ (yielded ops a.tmps)=true)
   (hr:(execOp a.eval ⟨dst,op,ty,ps,af,g⟩).run P w=.ok (.enter f vs) w) (hc:Calls P f vs w X)
   (h:∀ e w',X e w'→∃ v,e=.returned v∧K (a.put dst v) w'):cI P ops Q ⟨dst,op,ty,ps,af,g⟩ K a w:=by
 unfold cI;rw[ak hw];left;unfold Oper.wp;rw[hr,Oper.upon_enter];refine hc.mono λe w' hx=>?_;obtain⟨v,rfl,hv⟩:=h e w' hx;exact hv
theorem Hv {fn:Func} {t}{X:Ending→World→Prop}(E:Fr a n l)(hr:fn.results=#[.tmp t])[k:fj l t v](h:X (.returned v) w):bodyPost P fn X .ret a w:=by
 refine bodyPost_ret (results_tmp hr _ _ _) E.defers ?_;have:=E.has _ k.mem;simpa [Array.getD_eq_getD_getElem?,this] using h
theorem Hw {fn:Func} {t u v2}{X:Ending→World→Prop}(E:Fr a n l)(hr:fn.results=#[.tmp t,.tmp u])[k:fj l t v][k2:fj l u v2](h:X (.returned (.tuple #[v,v2])) w):bodyPost P fn X .ret a w:=by
 refine bodyPost_ret (results_tmp2 hr _ _ _) E.defers ?_;have h1:=E.has _ k.mem;have h2:=E.has _ k2.mem;simpa [Array.getD_eq_getD_getElem?,h1,h2] using h
theorem Hx {fn:Func}{X:Ending→World→Prop}(E:Fr a n l)(hr:fn.results=#[])(h:X (.returned (.tuple #[])) w):bodyPost P fn X .ret a w :=
 bodyPost_ret (results_none hr _ _ _) E.defers h
theorem Hy {fn:Func}{X:Ending→World→Prop}(E:Fr a n l)(hr:fn.results=#[])(h:X (.returned (.tuple #[])) w):bodyPost P fn X .normal a w :=
 bodyPost_end (results_none hr _ _ _) E.defers h
theorem Pz {fn:Func} {x ad t}{X:Ending→World→Prop}(E:Fr a n l)(hr:fn.results=#[.cell x t])[k:fj l x (.pointer (some ad))](hl:(loadVar t ad).run P w=.ok v w)(h:X (.returned v) w):bodyPost P fn X .ret a w:=by
 refine bodyPost_ret ?_ E.defers h;have h1:=E.has _ k.mem;simp[results,hr,Array.getD_eq_getD_getElem?,h1,asAddr,hl]
theorem PA {fn:Func} {x ad t u v2}{X:Ending→World→Prop}(E:Fr a n l)(hr:fn.results=#[.cell x t,.tmp u])[k:fj l x (.pointer (some ad))][k2:fj l u v2](hl:(loadVar t ad).run P w=.ok v w)
   (h:X (.returned (.tuple #[v,v2])) w):bodyPost P fn X .ret a w:=by
 refine bodyPost_ret ?_ E.defers h;have h1:=E.has _ k.mem;have h2:=E.has _ k2.mem;simp[results,hr,Array.getD_eq_getD_getElem?,h1,h2,asAddr,hl]
theorem PB {f m:Nat}{fn:Func}{c:Code}{vs:List Value}{X:Ending→World→Prop}(hf:P.funcs[f]?=some fn)(hb:fn.body=some c)(hn:fn.ntmps=m)(hm:vs.length≤m)
   (h:∀ a,Fr a m ((List.range vs.length).zip vs)→c.wp P (bodyPost P fn X) a w):Calls P f vs.toArray w X :=
 calls_of_wp hf hb (by rw[hn];exact h _ (Fr.enter hm))
theorem cc {x y:Code}{M:Act→World→Prop}(h:x.wp P (Exit.then M Q) a w)(k:∀ a w,M a w→y.wp P Q a w):(Code.seq x y).wp P Q a w:=by
 refine wp_seq (wp_mono h ?_);intro e a' w' hq;cases e <;> first | exact k _ _ hq | exact hq
theorem Hz {c:Operand}{x y:Code}(E:Fr a n l)[e:Ev l c (.bool true)](h:x.wp P Q a w):(Code.cond c x y).wp P Q a w:=wp_cond_true (e.ev a n E) h
theorem HA {c:Operand}{x y:Code}(E:Fr a n l)[e:Ev l c (.bool false)](h:y.wp P Q a w):(Code.cond c x y).wp P Q a w:=wp_cond_false (e.ev a n E) h
theorem PC {i:Nat}(h:Q .normal a w):Exit.inBlock i Q (.exit i) a w:=by simp only[Exit.inBlock,if_true];exact h
theorem PD {i j:Nat}(hn:Nat.beq j i=false)(h:Q (.exit j) a w):Exit.inBlock i Q (.exit j) a w:=by
 simp only[Exit.inBlock];rw[ag (by intro e;subst e;rw[Nat.beq_refl]at hn;cases hn)];exact h
end
end
section
def Sl (e sz:Nat)(ad:Option Addr)(n c:Nat)(cs:List Value):SP:=λh =>
 cs.length=n*sz∧n≤c∧(c=0∨∃ b pre post,ad=some ⟨b,pre.length,none⟩∧(c-n)*sz≤post.length∧aa b e (pre++cs++post) h)
class fK (L:List SP)(ad:Option Addr)(n c e sz:outParam Nat)(cs:outParam (List Value))(R:outParam (List SP)):Prop where perm:L.Perm (Sl e sz ad n c cs::R)
instance fK.head {L ad n c e sz cs}:fK (Sl e sz ad n c cs::L) ad n c e sz cs L:=⟨List.Perm.refl _⟩
instance (priority:=low) fK.tail {A L ad n c e sz cs R}[h:fK L ad n c e sz cs R]:fK (A::L) ad n c e sz cs (A::R) :=
 ⟨(List.Perm.cons A h.perm).trans (List.Perm.swap _ _ _)⟩
class pZ (L:List SP)(A:SP)(R:outParam (List SP)):Prop where perm:L.Perm (A::R)
instance pZ.head {A L}:pZ (A::L) A L:=⟨List.Perm.refl _⟩
instance (priority:=low) pZ.tail {B L A R}[h:pZ L A R]:pZ (B::L) A (B::R):=⟨(List.Perm.cons B h.perm).trans (List.Perm.swap _ _ _)⟩
class fD (L M:List SP)(R:outParam (List SP)):Prop where perm:L.Perm (M++R)
instance fD.nil {L}:fD L [] L:=⟨List.Perm.refl _⟩
instance (priority:=high) fD.refl {L}:fD L L []:=⟨by simp⟩
instance (priority:=low) fD.skip {A L M R}[h:fD L M R]:fD (A::L) M (A::R):=⟨(List.Perm.cons A h.perm).trans (by
 have:=perm_middle (a:=A) (l₁:=M) (l₂:=R);exact this.symm)⟩
instance fD.cons {L A M R R'}[h:pZ L A R][k:fD R M R']:fD L (A::M) R':=⟨h.perm.trans (List.Perm.cons A k.perm)⟩
section
variable {P:Program}{W w:World}{L R:List SP}{e sz n c:Nat}{ad:Option Addr}{cs:List Value}
theorem U.pick (s:U W w L)(A:SP)[k:pZ L A R]:U W w (A::R):=s.perm k.perm
theorem U.arr {M:List SP}(s:U W w L)[k:fD L M R]:U W w (M++R):=s.perm k.perm
theorem U.sub {M:List SP}(s:U W w L)[k:fD L M R]:U W w M:=by
 have:=(s.perm k.perm).perm (List.perm_append_comm);exact this.drop
theorem U.sl (s:U W w L)(ad:Option Addr)[k:fK L ad n c e sz cs R]:cs.length=n*sz∧n≤c:=(s.perm k.perm).tell λ_ h=>⟨h.1,h.2.1⟩
theorem U.lG (s:U W w (Sl e sz ad n c cs::L))(h0:0<c):∃ b pre post,(cs.length=n*sz∧n≤c∧ad=some ⟨b,List.length pre,none⟩∧(c-n)*sz≤List.length post)∧U W w (aa b e (pre++cs++post)::L):=by
 obtain⟨⟨b,pre,post⟩,h1,h2⟩:=s.jy (ι:=Nat×List Value×List Value) (p:=λi=>cs.length=n*sz∧n≤c∧ad=some ⟨i.1,i.2.1.length,none⟩∧(c-n)*sz≤i.2.2.length)
  (B:=λi=>aa i.1 e (i.2.1++cs++i.2.2)) (λh hx=>by
   obtain⟨de,dG,a3⟩:=hx;rcases a3 with a3 | ⟨b,pre,post,x,y,z⟩
   ·omega
   ·exact⟨⟨b,pre,post⟩,⟨de,dG,x,y⟩,z⟩)
 exact⟨b,pre,post,h1,h2⟩
theorem U.iM {b:Nat}{pre post:List Value}(s:U W w (aa b e (pre++cs++post)::L))(h1:cs.length=n*sz)(h2:n≤c)(h3:(c-n)*sz≤post.length) :
   U W w (Sl e sz (some ⟨b,pre.length,none⟩) n c cs::L) :=
 U.imp s λ_ ⟨PE,PF,d,a,k,x,q⟩=>⟨PE,PF,d,a,k,⟨h1,h2,.inr ⟨b,pre,post,rfl,h3,x⟩⟩,q⟩
theorem U.bN (s:U W w L)(e sz:Nat)(ad:Option Addr):U W w (Sl e sz ad 0 0 []::L) :=
 ⟨s.below,let ⟨h,p,q⟩:=s.sat;⟨h,p,λ_=>none,h,λ_=>.inl rfl,λ_ _ e=>(by cases e),Hp.Sub.refl _,⟨by simp,a7 _,.inl rfl⟩,q⟩⟩
theorem U.bV (s:U W w L)(ad:Option Addr)[k:fK L ad n c e sz cs R](h0:0<n):∃ b off,ad=some ⟨b,off,none⟩∧Rd w b off cs:=by
 have s':=s.perm k.perm;have hn:=s.sl ad;obtain⟨b,pre,post,⟨h1,h2,h3,h4⟩,s2⟩:=s'.lG (by omega);refine⟨b,pre.length,h3,λj v hj=>?_⟩;rw[s2.cell];have:j<cs.length:=by
  rcases Nat.lt_or_ge j cs.length with h | h
  ·exact h
  ·rw[iW h]at hj;cases hj
 rw[l4 (by simp;omega),getElem?_append_right (by omega)];simpa using hj
theorem U.cJ (s:U W w L)(b:Nat)(off:Nat)[k:fK L (some ⟨b,off,none⟩) n c e sz cs R](h0:0<n):Rd w b off cs:=by
 obtain⟨b2,gN,h,hr⟩:=s.bV (some ⟨b,off,none⟩) h0;cases h;exact hr
theorem Rd.part {b off:Nat}{vs:List Value}(h:Rd w b off vs)(i m:Nat):Rd w b (off+i) ((vs.drop i).take m):=by
 intro j v hj;rw[getElem?_take]at hj;by_cases hm:j<m
 ·rw[ak hm,getElem?_drop]at hj;have:=h _ _ hj
  rwa [← Nat.add_assoc]at this
 ·rw[ag hm]at hj;cases hj
theorem w7 (e:TypeId){z:Value}{a1:Nat}(hz:z.cells.size=sz)(m:Nat):(Builtin.zeroCells z.cells m).toList.length=m*sz:=by
 rw[Array.length_toList,size_zeroCells,hz]
theorem PG {t ty:TypeId}{z:Value}{a1:Nat}(ht:P.underlying t=some (.slice e))(hi:TI P e z sz a1)(hz:z.cells.size=sz)(s:U W w (Sl e sz ad n c cs::L))
   (HB:ad=none→c=0) {b2 gN m c2:Nat} {news:List Value} (hr:Rd w b2 gN news) (hl:news.length=m*sz) (h1:∀ v∈news,v.oneCell'=true) (hm:0<m) (hb:0<a1) (aG:(n+m)*a1≤140737488355328) :
   ∃ av c' w',(Builtin.append_ #[t,t] ty #[.slice ad n c,.slice (some ⟨b2,gN,none⟩) m c2]).run P w=.ok (.slice av (n+m) c') w'∧U W w' (Sl e sz av (n+m) c' (cs++news)::L)∧(av=none→c'=0):=by
 obtain⟨i,ld,dH,kH,p0⟩:=info_parts hi.h;have p1:=s.sl ad;have PH:n+m≤140737488355328:=ft (Nat.le_mul_of_pos_right _ hb) aG;have nT:∀ j v,news[j]?=some v→w.cell? ((⟨b2,gN,none⟩:Addr).add j)=some v:=λj v hj=>by rw[la];exact hr j v hj
 by_cases nr:n+m≤c
 ·obtain⟨b,pre,post,⟨de,dG,rfl,a4⟩,s2⟩:=s.lG (by omega);have eB:(c-n)*sz ≥ m*sz:=Nat.mul_le_mul_right _ (by omega);have hf:=run_firstCells_some (P:=P) w i.size m ⟨b2,gN,none⟩ m c2 news (by rw[kH];exact hl) nT;have aS:=run_storeCells_at (P:=P) b (pre.length+n*sz) e news 0 (pre++cs++post).toArray w s2.has.2 (by simp;omega) h1;have e1:(pre++cs++post).take (pre.length+n*sz)=pre++cs:=by rw[← de,← aL,List.take_left]
  have e2:(pre++cs++post).drop (pre.length+n*sz+0+news.length)=post.drop news.length:=by
   rw[← de,Nat.add_zero,← aL,← drop_drop,drop_left]
  refine⟨some ⟨b,pre.length,none⟩,c,w.setRow b (pre++(cs++news)++post.drop news.length).toArray,?_,?_,λh=>by cases h⟩
  ·have qL:(storeCells ⟨b,pre.length+n*sz,none⟩ news 0).run P w=.ok () (w.setRow b (((pre++cs++post).take (pre.length+n*sz)++news)++(pre++cs++post).drop (pre.length+n*sz+0+news.length)).toArray):=aS;rw[e1,e2]at qL;simp[Builtin.append_,eL ht,sizeOf,typeInfo,ld,Builtin.lenOf,nr,la,kH];rw[kH]at hf;simp[hf,qL,ds]
  ·refine U.iM (pre:=pre) (post:=post.drop news.length) s2.setRow (by simp;rw[hl,de,Nat.add_mul]) (by omega) ?_;simp only[c3];have:(c-(n+m))*sz=(c-n)*sz-m*sz:=by rw[← Nat.sub_mul];congr 1;omega
   omega
 ·have PI:(Builtin.zeroCells z.cells (grownCap w (n+m) c e-(n+m))).toList.length=(grownCap w (n+m) c e-(n+m))*sz:=w7 e (a1:=a1) hz _;have nt:=grownCap_ge w (n+m) c e;have eM:Builtin.nextslicecap (n+m) c*i.bytes≤281474976710656:=by rw[p0];exact growslice_fits (by omega) aG
  have done : ∀ gy : List Value, gy = cs → U W (w.drew.alloc (.cells (gy.toArray ++ news.toArray ++ Builtin.zeroCells z.cells (grownCap w (n + m) c e - (n + m))) e))
      (Sl e sz (some ⟨w.heap.size,0,none⟩) (n+m) (grownCap w (n+m) c e) (cs++news)::L):=by
   intro gy ho;have vc:=(s.tail.drew).alloc (.cells (gy.toArray++news.toArray++Builtin.zeroCells z.cells (grownCap w (n+m) c e-(n+m))) e)
   have Cl : U W (w.drew.alloc (.cells (gy.toArray ++ news.toArray ++ Builtin.zeroCells z.cells (grownCap w (n + m) c e - (n + m))) e))
       (aa w.heap.size e ([]++(cs++news)++(Builtin.zeroCells z.cells (grownCap w (n+m) c e-(n+m))).toList)::L):=by
    have:(gy.toArray++news.toArray++Builtin.zeroCells z.cells (grownCap w (n+m) c e-(n+m)))=([]++(cs++news)++(Builtin.zeroCells z.cells (grownCap w (n+m) c e-(n+m))).toList).toArray:=by
     apply Array.ext';simp[ho]
    rw[this]at vc ⊢;exact vc
   exact U.iM (pre:=[]) Cl (by simp;rw[hl,p1.1,Nat.add_mul]) nt (by omega)
  by_cases hc:c=0
  ·subst hc;have zg:n=0:=by omega
   subst zg;have ke:cs=[]:=gW (by rw[p1.1];simp);subst ke;cases ad with
   | none =>
    have:=run_append_nil (P:=P) w t ty e i z ht ld dH ⟨b2,gN,none⟩ m c2 news (by rw[kH];exact hl) nT hm (by omega) (by rw[p0];rw[Nat.zero_add]at aG;omega);refine⟨_,_,_,by simpa using this,?_,λh=>by cases h⟩;have:=done [] rfl;simpa using this
   | some b =>
    have:=run_append_grow (P:=P) w t ty e i z ht ld dH b 0 0 [] (by simp) (λj v hj=>by simp at hj) ⟨b2,gN,none⟩ m c2 news (by rw[kH];exact hl) nT (by omega) (by omega) eM;refine⟨_,_,_,by simpa using this,?_,λh=>by cases h⟩;have:=done [] rfl;simpa using this
  ·obtain⟨b,pre,post,⟨de,dG,rfl,a4⟩,s2⟩:=s.lG (by omega);have holds:∀ j v,cs[j]?=some v→w.cell? ((⟨b,pre.length,none⟩:Addr).add j)=some v:=by
    intro j v hj;rw[la,s2.cell];have:j<cs.length:=by
     rcases Nat.lt_or_ge j cs.length with h | h
     ·exact h
     ·rw[iW h]at hj;cases hj
    rw[l4 (by simp;omega),getElem?_append_right (by omega)];simpa using hj
   have:=run_append_grow (P:=P) w t ty e i z ht ld dH ⟨b,pre.length,none⟩ n c cs (by rw[kH];exact de) holds ⟨b2,gN,none⟩ m c2 news (by rw[kH];exact hl) nT (by omega) (by omega) eM;exact⟨_,_,_,this,done cs rfl,λh=>by cases h⟩
def fl (ad:Option Addr)(lo c sz:Nat):Option Addr:=if c=lo then ad else ad.map (·.add (lo*sz))
theorem oZ {b o lo c sz:Nat}(h:c≠lo):fl (some ⟨b,o,none⟩) lo c sz=some ⟨b,o+lo*sz,none⟩:=by simp[fl,h,la]
theorem U.PJ (s:U W w (Sl e sz ad n c cs::L)){lo hi:Nat}(h1:lo≤hi)(h2:hi≤n) :
   U W w (Sl e sz (fl ad lo c sz) (hi-lo) (c-lo) ((cs.drop (lo*sz)).take ((hi-lo)*sz))::L):=by
 have p1:=s.sl ad;have gO:(hi-lo)*sz+lo*sz=hi*sz:=by rw[← Nat.add_mul];congr 1;omega
 have kf:hi*sz≤n*sz:=Nat.mul_le_mul_right _ h2;have hlen:((cs.drop (lo*sz)).take ((hi-lo)*sz)).length=(hi-lo)*sz:=by simp;omega
 by_cases hc:c=lo
 ·have hz:hi-lo=0:=by omega
  have eN:c-lo=0:=by omega
  rw[hz,eN];simp only[Nat.zero_mul,take_zero];exact s.tail.bN e sz _
 ·obtain⟨b,pre,post,⟨de,dG,rfl,a4⟩,s2⟩:=s.lG (by omega);have he:pre++cs++post=(pre++cs.take (lo*sz))++((cs.drop (lo*sz)).take ((hi-lo)*sz))++(cs.drop (hi*sz)++post):=by
   have e1:cs=cs.take (lo*sz)++(cs.drop (lo*sz)).take ((hi-lo)*sz)++cs.drop (hi*sz):=by
    have:cs.drop (hi*sz)=(cs.drop (lo*sz)).drop ((hi-lo)*sz):=by rw[drop_drop];congr 1;omega
    rw[this,ds,jK,jK]
   conv=>lhs;rw[e1]
   simp[ds]
  rw[he]at s2;have eB:(pre++cs.take (lo*sz)).length=pre.length+lo*sz:=by simp;omega
  have:=U.iM (n:=hi-lo) (c:=c-lo) (sz:=sz) s2 hlen (by omega) (by
   simp only[aL,c3];have:(c-lo-(hi-lo))*sz=(c-n)*sz+(n*sz-hi*sz):=by rw[← Nat.sub_mul,← Nat.add_mul];congr 1;omega
   omega)
  rw[eB]at this;simpa [fl,hc,la] using this
theorem U.Cm (s:U W w L)(ad:Option Addr)(lo hi:Nat)[k:fK L ad n c e sz cs R](h1:lo≤hi)(h2:hi≤n) :
   U W w (Sl e sz (fl ad lo c sz) (hi-lo) (c-lo) ((cs.drop (lo*sz)).take ((hi-lo)*sz))::R):=(s.perm k.perm).PJ h1 h2
end
section
variable {P:Program}{ops:Array Oper}{Q:Exit→Act→World→Prop}{a:Act}{w w' W:World}{K:Act→World→Prop}{o:Oper}{n d:Nat}{l:List (Nat×Value)}{v:Value}{L R:List SP}
theorem p3 {t el:TypeId}(ht:P.underlying t=some (.slice el)):P.underlying t=some (.slice (P.elem t))∧P.elem t=el:=by
 constructor <;> simp[Program.elem,ht]
theorem PK {x y k i j ad m c t el z sz a1 dst ty ps af g}(E:Fr a n l)(ht:P.underlying t=some (.slice el))(hi:TI P el z sz a1)[ev:Ev l x (.slice ad m c)][gV:Ev l y (.int k i)][nj:en i j](h:j≤m) :
   (execOp a.eval ⟨dst,.slice t x (some y) none none,ty,ps,af,g⟩).run P w=.ok (.value (.slice (fl ad j c sz) (m-j) (c-j))) w:=by
 have hj:=nj.h;subst hj;have e1:=(p3 ht).1;have e2:=(p3 ht).2;have:=run_slice_l (P:=P) (w:=w) t ad m c e1 k (j:Int) (by omega) (by omega);rw[e2,l3 hi]at this;simp only[Result.andThen_ok,Int.toNat_natCast]at this;simp[execOp,ev.ev a n E,gV.ev a n E,run_sliceAt_slice (P:=P) (w:=w) t _ _ _ _ e1,this,sliced,fl]
theorem PL {x y k i j ad m c t el z sz a1 dst ty ps af g}(E:Fr a n l)(ht:P.underlying t=some (.slice el))(hi:TI P el z sz a1)[ev:Ev l x (.slice ad m c)][gV:Ev l y (.int k i)][nj:en i j](h:j≤c) :
   (execOp a.eval ⟨dst,.slice t x none (some y) none,ty,ps,af,g⟩).run P w=.ok (.value (.slice (fl ad 0 c sz) (j-0) (c-0))) w:=by
 have hj:=nj.h;subst hj;have e1:=(p3 ht).1;have e2:=(p3 ht).2;have:=run_slice_h (P:=P) (w:=w) t ad m c e1 k (j:Int) (by omega) (by omega);rw[e2,l3 hi]at this;simp only[Result.andThen_ok,Int.toNat_natCast]at this;simp[execOp,ev.ev a n E,gV.ev a n E,run_sliceAt_slice (P:=P) (w:=w) t _ _ _ _ e1,this,sliced,fl]
theorem PM {x y u k k' i i' j j' ad m c t el z sz a1 dst ty ps af g}(E:Fr a n l)(ht:P.underlying t=some (.slice el))(hi:TI P el z sz a1)[ev:Ev l x (.slice ad m c)][gV:Ev l y (.int k i)][tx:Ev l u (.int k' i')][nj:en i j][w8:en i' j'](h:j≤j')(h':j'≤c) :
   (execOp a.eval ⟨dst,.slice t x (some y) (some u) none,ty,ps,af,g⟩).run P w=.ok (.value (.slice (fl ad j c sz) (j'-j) (c-j))) w:=by
 have hj:=nj.h;subst hj;have lf:=w8.h;subst lf;have e1:=(p3 ht).1;have e2:=(p3 ht).2;have:=run_slice_lh (P:=P) (w:=w) t ad m c e1 k k' (j:Int) (j':Int) (by omega) (by omega) (by omega);rw[e2,l3 hi]at this;simp only[Result.andThen_ok,Int.toNat_natCast]at this;simp[execOp,ev.ev a n E,gV.ev a n E,tx.ev a n E,run_sliceAt_slice (P:=P) (w:=w) t _ _ _ _ e1,this,sliced,fl]
theorem PN {s x t z a1 b2 gN m c2 news e sz ad k c dst ty ps af g}{cs:List Value}(E:Fr a n l)(I:U W w L)(ht:P.underlying t=some (.slice e))(hi:TI P e z sz a1)(hz:z.cells.size=sz)
   [e1:Ev l s (.slice ad k c)] [pk:fK L ad k c e sz cs R] [e2:Ev l x (.slice (some ⟨b2,gN,none⟩) m c2)] (hr:Rd w b2 gN news) (hl:news.length=m*sz) (h1:∀ v∈news,v.oneCell'=true) (hm:0<m) (hb:0<a1)
   (aG:(k+m)*a1≤140737488355328) :
   ∃ av c' w',(execOp a.eval ⟨dst,.call ⟨.builtin .append,#[s,x],#[t,t]⟩,ty,ps,af,g⟩).run P w=.ok (.value (.slice av (k+m) c')) w'∧U W w' (Sl e sz av (k+m) c' (cs++news)::R):=by
 have gU:=I.perm pk.perm;have HB:ad=none→c=0:=gU.tell λ_ hx=>by
  rintro rfl;rcases hx.2.2 with h | ⟨_,_,_,h,_⟩
  ·exact h
  ·cases h
 obtain⟨av,c',w',h2,h3,_⟩:=PG (P:=P) (ty:=ty) ht hi hz gU HB (c2:=c2) hr hl h1 hm hb aG;exact⟨av,c',w',by simp[execOp,resolve,e1.ev a n E,e2.ev a n E,invoke,builtin,h2],h3⟩
theorem cK {s x t z a1 b2 gN m c2 news e sz ad k c ty ps af g}{cs:List Value}(E:Fr a n l)(hw:Region.wanted ⟨some d,.call ⟨.builtin .append,#[s,x],#[t,t]⟩,ty,ps,af,g⟩ (yielded ops a.tmps)=true)(I:U W w L)
   (ht:P.underlying t=some (.slice e)) (hi:TI P e z sz a1) (hz:z.cells.size=sz) (hf:okB d n l=true)
   [e1:Ev l s (.slice ad k c)] [pk:fK L ad k c e sz cs R] [e2:Ev l x (.slice (some ⟨b2,gN,none⟩) m c2)] (hr:Rd w b2 gN news) (hl:news.length=m*sz) (h1:∀ v∈news,v.oneCell'=true) (hm:0<m) (hb:0<a1)
   (aG:(k+m)*a1≤140737488355328)
   (h:∀ av c' a' w',Fr a' n ((d,.slice av (k+m) c')::l)→U W w' (Sl e sz av (k+m) c' (cs++news)::R)→K a' w') :
   cI P ops Q ⟨some d,.call ⟨.builtin .append,#[s,x],#[t,t]⟩,ty,ps,af,g⟩ K a w:=by
 obtain⟨av,c',w',h2,h3⟩:=PN (P:=P) (dst:=some d) (ty:=ty) (ps:=ps) (af:=af) (g:=g) E I ht hi hz (s:=s) (x:=x) hr hl h1 hm hb aG;exact bo E hw h2 hf λa' db=>h _ _ a' _ db h3
class tz (l:List (Nat×Value))(parts:List (Nat×Operand))(i:Nat)(fL:outParam (List (List Value))):Prop where
 h:∀ a n,Fr a n l→∃ vs:List Value,parts.map (λp=>(p.1,a.eval p.2))=(List.range' i fL.length).zip vs∧vs.map (·.cells)=fL.map (·.toArray)
instance tz.nil {l i}:tz l [] i []:=⟨λ_ _ _=>⟨[],rfl,rfl⟩⟩
instance tz.cons {l i o v c ps fL}[h1:Ev l o v][h2:Cells v c][h3:tz l ps (i+1) fL]:tz l ((i,o)::ps) i (c::fL):=⟨λa n E=>by
 obtain⟨vs,e1,e2⟩:=h3.h a n E;exact⟨v::vs,by simp[List.range'_succ,e1,h1.ev a n E],by simp[e2,h2.h]⟩⟩
theorem HC (c:List Value):∀ (k:Nat) (off:Nat) (cells:List Value),off+k+c.length≤cells.length →
   (c.zipIdx k).foldl (λ(cs:Array Value) (p:Value×Nat)=>cs.setIfInBounds (off+p.2) p.1) cells.toArray=(cells.take (off+k)++c++cells.drop (off+k+c.length)).toArray:=by
 induction c with
 | nil=>intro k off cells h;simp
 | cons x c ih =>
  intro k off cells h;simp only[eO]at h;simp only[List.zipIdx_cons,foldl_cons,List.setIfInBounds_toArray];rw[ih (k+1) off (cells.set (off+k) x) (by simp;omega)]
  congr 1
  rw[set_eq_take_append_cons_drop,ak (by omega)];have hl:(cells.take (off+k)).length=off+k:=by simp;omega
  have e1:(cells.take (off+k)++x::cells.drop (off+k+1)).take (off+(k+1))=cells.take (off+k)++[x]:=by
   rw[take_append,hl,fX (by omega)]
   congr 1
   rw[show off+(k+1)-(off+k)=1 from by omega];simp
  have e2:(cells.take (off+k)++x::cells.drop (off+k+1)).drop (off+(k+1)+c.length)=cells.drop (off+k+(c.length+1)):=by
   rw[List.drop_append,hl,List.drop_of_length_le (by rw[hl];omega),nil_append,show off+(k+1)+c.length-(off+k)=c.length+1 from by omega,List.drop_succ_cons,drop_drop]
   congr 1;omega
  rw[e1,e2];simp
theorem Cn {sz:Nat}:∀ (fL:List (List Value)) (vs:List Value) (i:Nat) (pre nU:List Value),vs.map (·.cells)=fL.map (·.toArray)→(∀ c∈fL,c.length=sz)→pre.length=i*sz→nU.length=fL.length*sz →
   Instr.fill (λi=>some (i*sz,sz)) (pre++nU).toArray ((List.range' i fL.length).zip vs)=some (pre++fL.flatten).toArray
 | [],vs,i,pre,nU,h,_,_,hr=>by
  have:nU=[]:=gW (by simpa using hr);subst this;simp[Instr.fill]
 | c::fL,[],_,_,_,h,_,_,_=>by simp at h
 | c::fL,v::vs,i,pre,nU,h,hc,hp,hr=>by
  simp only[map_cons,List.cons.injEq]at h;have cp:=hc c (by simp);simp only[eO,Nat.succ_mul]at hr;have ke:v.cells.size=sz:=by rw[h.1];simpa using cp
  have ih:=Cn (sz:=sz) fL vs (i+1) (pre++c) (nU.drop sz) h.2 (λx hx=>hc x (by simp[hx])) (by simp[hp,cp,Nat.succ_mul]) (by simp;omega);simp only[eO,List.range'_succ,List.zip_cons_cons,Instr.fill];rw[ag (by simp[ke,hp];omega)];have:=HC c 0 (i*sz) (pre++nU) (by simp[hp];omega);have e1:(pre++nU).take (i*sz)=pre:=by rw[← hp,List.take_left]
  have e2:(pre++nU).drop (i*sz+c.length)=nU.drop sz:=by rw[← hp,← drop_drop,drop_left,cp]
  simp only[Nat.add_zero]at this;rw[e1,e2]at this;have e3:(v.cells.zipIdx.foldl (λ(cs:Array Value) (x:Value×Nat)=>cs.setIfInBounds (i*sz+x.2) x.1) (pre++nU).toArray)=(pre++c++nU.drop sz).toArray:=by
   rw[h.1,← Array.foldl_toList,Array.toList_zipIdx];exact this
  have iX:=ih;simp only[List.flatten_cons] at *;rw[← ds,← iX]
  congr 1
theorem cr {t el z sz a1 m parts fL ty ps af g}(E:Fr a n l)(hw:Region.wanted ⟨some d,.buildSlice t m (List.toArray parts),ty,ps,af,g⟩ (yielded ops a.tmps)=true)(I:U W w L)(ht:P.underlying t=some (.slice el))
   (hi:TI P el z sz a1) (hz:z.cells.size=sz) (hf:okB d n l=true) [rX:tz l parts 0 fL] (hm:fL.length=m) (hc:(fL.all λc=>c.length==sz)=true) (h24:m*sz≤16777216) (h0:0<m*sz)
   (h:∀ b a' w',Fr a' n ((d,.slice (some ⟨b,0,none⟩) m m)::l)→U W w' (aa b el fL.flatten::L)→Old w w'→K a' w') :
   cI P ops Q ⟨some d,.buildSlice t m (List.toArray parts),ty,ps,af,g⟩ K a w:=by
 obtain⟨vs,e1,e2⟩:=rX.h a n E;have jz:=Cn (sz:=sz) fL vs 0 [] ((List.range (m*sz)).map (λi=>z.cells[i%z.cells.size]!)) e2 (λc w9=>by simpa using all_eq_true.1 hc c w9) (by simp) (by simp[hm]);simp only[nil_append]at jz;refine bo (v:=.slice (some ⟨w.heap.size,0,none⟩) m m) (w':=w.alloc (.cells fL.flatten.toArray el)) E hw ?_ hf (λa' db=>h _ _ _ db (I.alloc _) (Old.alloc _ _));have PO:¬ (16777216<m*sz):=by omega
 have PQ:¬ (m*sz=0):=by omega
 have e3:(Array.range (m*sz)).map (λi=>z.cells[i%z.cells.size]!)=((List.range (m*sz)).map (λi=>z.cells[i%z.cells.size]!)).toArray:=by
  apply Array.ext';simp
 simp only[execOp,Sem.run_bind,Instr.buildSlice,eL ht,Result.andThen_ok,l3 hi,List.map_toArray,e1,hm];simp only[hm]at jz;simp[PO,tv hi,e3,jz,newRow,newObj,Sem.run,ag PQ]
theorem l5 {t z a1 x y b off k o' e sz m c cs v ty ps af g}(E:Fr a n l)(hw:Region.wanted ⟨none,.store t x y,ty,ps,af,g⟩ (yielded ops a.tmps)=true)(I:U W w L)
   (hi:TI P t z 1 a1) [ev:Ev l x (.pointer (some ⟨b,o',none⟩))] [tw:Ev l y v] [pY:Cells v [v]] [pk:fK L (some ⟨b,off,none⟩) m c e sz cs R] (h1:v.oneCell'=true) (ho:o'=off+k) (hk:k<cs.length)
   (h:∀ a' w',Fr a' n l→U W w' (Sl e sz (some ⟨b,off,none⟩) m c (cs.set k v)::R)→K a' w'):cI P ops Q ⟨none,.store t x y,ty,ps,af,g⟩ K a w:=by
 subst ho;have nV:=I.perm pk.perm;have p1:=nV.sl (some ⟨b,off,none⟩);have hc:0<c:=by
  rcases Nat.eq_zero_or_pos c with h0 | h0
  ·have:m=0:=by omega
   subst this;rw[Nat.zero_mul]at p1;omega
  ·exact h0
 obtain⟨b2,pre,post,⟨de,dG,a3,a4⟩,s2⟩:=nV.lG hc;cases a3;refine Hs (cs:=pre++cs++post) (R:=R) E hw s2 hi h1 (by simp only[aL];omega) (λa' w' db gU=>h a' w' db ?_);have e1:(pre++cs++post).set (pre.length+k) v=pre++cs.set k v++post:=by
  rw[ds,set_append_right _ _ (by omega),show pre.length+k-pre.length=k from by omega,set_append_left _ _ hk,ds]
 rw[e1]at gU;exact U.iM gU (by rw[bu];exact de) dG a4
end
end
section
def ha (P:Program)(ops:Array Oper)(Q:Exit→Act→World→Prop)(C:World→Prop)(bg:List Nat):Nat→Array Bool→Act→World→Prop
 | 0,bE,a,w=>Region.ready .any ops bE=[]∧Q .normal a w
 | fuel+1,bE,a,w =>
  (Region.ready .any ops bE=[]→Q .normal a w) ∧
  ∀ i∈Region.ready .any ops bE,wpOp P ops Q i (λa' w'=>(bg.contains i=true→C w')∧ha P ops Q C bg fuel (bE.setIfInBounds i true) a' w') a w
def HD (acc:List Nat)(es:List Edge):Nat:=es.foldl (λs e=>if Region.binds .any e then s ||| 2 ^ e.on ||| acc.getD e.on 0 else s) 0
def rZ:List Oper→List Nat→List Nat
 | [],acc=>acc
 | o::r,acc=>rZ r (acc++[HD acc o.after.toList])
def HE (ops:Array Oper)(bE:Array Bool):Bool :=
 (List.range ops.size).all λj=>!bE.getD j false||match ops[j]? with
  | none=>true
  | some o=>o.after.all λe=>!Region.binds .any e||bE.getD e.on false
def DC (ops:Array Oper)(bE:Array Bool):Prop:=∀ j o,ops[j]?=some o→bE.getD j false=true→∀ e∈o.after,Region.binds .any e=true→bE.getD e.on false=true
def mM (ops:Array Oper)(bE:Array Bool)(bg:List Nat)(pure:Bool)(i:Nat):Bool :=
 Region.noSelect ops&&HE ops bE&&(Region.ready .any ops bE).contains i&&match ops[i]? with
  | none=>false
  | some oi=>(List.range ops.size).all λj=>j==i||bE.getD j true||((rZ ops.toList []).getD j 0).testBit i||match ops[j]? with
   | none=>true
   | some qM=>oi.apart ops qM&&(pure||bg.contains j)
def lb (n m:Nat):Array Bool:=((List.range n).map m.testBit).toArray
def lg (Q:Exit→Act→World→Prop):Prop:=∀ c a (o:Option Tmp) v w,Q (.panic c) (a.put o v) w→Q (.panic c) a w
theorem PR {K Q}(h:lg Q):lg (Exit.then K Q):=h
theorem PS {i Q}(h:lg Q):lg (Exit.inBlock i Q):=h
theorem PT {P fn X}:lg (bodyPost P fn X):=λc a o v w h=>by
 cases o <;> exact h
section
variable {P:Program}{ops:Array Oper}{Q:Exit→Act→World→Prop}{C:World→Prop}{bg:List Nat}{a:Act}{w:World}{n d:Nat}{l:List (Nat×Value)}{v:Value}
theorem HF:∀ (fuel:Nat) (bE:Array Bool) (a:Act) (w:World),ha P ops Q C bg fuel bE a w→wpAny P .any ops Q fuel bE a w
 | 0,_,_,_,h=>h
 | fuel+1,_,_,_,h=>⟨h.1,λi hi=>wpOp_mono (λa' w' h'=>HF fuel _ a' w' h'.2) (h.2 i hi)⟩
theorem HG {bE:Array Bool}(h:HE ops bE=true):DC ops bE:=by
 intro j o hj hl e he hb;have hlt:j<ops.size:=(Array.getElem?_eq_some_iff.1 hj).1;have h1:=all_eq_true.1 h j (mem_range.2 hlt);simp only[hl,hj,Bool.not_true,Bool.false_or]at h1;have h2:=Array.all_eq_true_iff_forall_mem.1 h1 e he;simpa [hb] using h2
theorem DC.set {bE:Array Bool}(h:DC ops bE){i:Nat}(hi:i∈Region.ready .any ops bE):DC ops (bE.setIfInBounds i true):=by
 intro j o hj hl e he hb;obtain⟨_,oi,PU,hS⟩:=mem_ready.1 hi;by_cases gP:j=i
 ·subst gP;rw[PU]at hj;cases hj;exact getD_set_true (hS e he hb)
 ·rw[getD_set_ne false (Ne.symm gP)]at hl;exact getD_set_true (h j o hj hl e he hb)
theorem HH {acc:List Nat}{i:Nat}:∀ (es:List Edge) (s:Nat),(es.foldl (λs e=>if Region.binds .any e then s ||| 2 ^ e.on ||| acc.getD e.on 0 else s) s).testBit i=true →
   s.testBit i=true∨∃ e∈es,Region.binds .any e=true∧(e.on=i∨(acc.getD e.on 0).testBit i=true)
 | [],s,h=>.inl h
 | e::es,s,h=>by
  simp only[foldl_cons]at h;rcases HH es _ h with h1 | ⟨x,hx,hb,hi⟩
  ·cases hb:Region.binds .any e with
   | false=>rw[hb]at h1;exact .inl (by simpa using h1)
   | true =>
    rw[hb,ak rfl]at h1;simp only[Nat.testBit_or,Bool.or_eq_true,Nat.testBit_two_pow,decide_eq_true_eq]at h1;rcases h1 with (h1 | h1) | h1
    ·exact .inl h1
    ·exact .inr ⟨e,mem_cons_self,hb,.inl h1⟩
    ·exact .inr ⟨e,mem_cons_self,hb,.inr h1⟩
  ·exact .inr ⟨x,gM _ hx,hb,hi⟩
theorem HI {bE:Array Bool}(h:DC ops bE):∀ (r:List Oper) (acc:List Nat),(∀ j,r[j]?=ops[acc.length+j]?) →
   (∀ k,k<acc.length→(∀ o,ops[k]?=some o→∀ e∈o.after,Region.binds .any e=true→bE.getD e.on false=true)→∀ i,(acc.getD k 0).testBit i=true→bE.getD i false=true) →
   ∀ k,(∀ o,ops[k]?=some o→∀ e∈o.after,Region.binds .any e=true→bE.getD e.on false=true)→∀ i,((rZ r acc).getD k 0).testBit i=true→bE.getD i false=true
 | [],acc,_,hinv,k,hk,i,hb=>by
  rcases Nat.lt_or_ge k acc.length with hlt | nt
  ·exact hinv k hlt hk i hb
  ·simp[rZ,bn,iW nt]at hb
 | o::r,acc,hr,hinv,k,hk,i,hb=>by
  refine HI h r (acc++[HD acc o.after.toList]) (λj=>?_) ?_ k hk i hb
  ·have:=hr (j+1);simp only[getElem?_cons_succ]at this;rw[this];congr 1;simp;omega
  ·intro k' eW cd i' lh;simp only[aL,eO,length_nil]at eW;rcases Nat.lt_or_ge k' acc.length with hlt | nt
   ·rw[bn,l4 hlt,← bn]at lh;exact hinv k' hlt cd i' lh
   ·obtain rfl:k'=acc.length:=by omega
    rw[bn,getElem?_append_right (a7 _)]at lh;simp only[Nat.sub_self,List.getElem?_cons_zero,Option.getD_some]at lh;have ho:ops[acc.length]?=some o:=by have:=hr 0;simpa using this.symm
    rcases HH _ _ lh with h1 | ⟨e,he,nu,h1⟩
    ·simp at h1
    ·have hle:=cd o ho e (Array.mem_toList_iff.1 he) nu;rcases h1 with h1 | h1
     ·rw[← h1];exact hle
     ·rcases Nat.lt_or_ge e.on acc.length with hlt | PV
      ·exact hinv e.on hlt (λo' kg e' PW o0=>h e.on o' kg hle e' PW o0) i' h1
      ·simp[bn,iW PV]at h1
theorem PX {bE:Array Bool}(h:DC ops bE){i:Nat}(hi:bE.getD i false=false)(k:Nat)(hk:∀ o,ops[k]?=some o→∀ e∈o.after,Region.binds .any e=true→bE.getD e.on false=true) :
   ((rZ ops.toList []).getD k 0).testBit i=false:=by
 cases hb:((rZ ops.toList []).getD k 0).testBit i with
 | false=>rfl
 | true =>
  have:=HI h ops.toList [] (λj=>by simp) (λk hk=>by simp at hk) k hk i hb;rw[hi]at this;cases this
theorem HJ {T:World→Prop}{i:Nat}{oi:Oper}(hi:ops[i]?=some oi)(I:Region.noSelect ops=true)(kh:lg Q) :
   ∀ (fuel:Nat) (bE:Array Bool) (a:Act) (w:World),
    (∀ j qM,ops[j]?=some qM→j≠i→bE.getD j true=false→((rZ ops.toList []).getD j 0).testBit i=false→oi.apart ops qM=true∧∀ w',(bg.contains j=true→C w')→T w') →
    DC ops bE→i∈Region.ready .any ops bE→YieldsIf P ops T oi v a→T w→(∀ w',T w'→bg.contains i=true→C w') →
    ha P ops Q C bg fuel (bE.setIfInBounds i true) (a.put oi.dst v) w→ha P ops Q C bg (fuel+1) bE a w:=by
 have HK:=Region.noSelect_spec I;intro fuel
 induction fuel with
 | zero =>
  intro bE a w _ _ hr hy hT zh H;refine⟨λh=>(by rw[h]at hr;cases hr),λj hj=>?_⟩;by_cases gP:j=i
  ·subst gP;exact hy.wpOp hi hT ⟨zh w hT,H⟩
  ·have:=ready_mono hj gP;rw[H.1]at this;cases this
 | succ fuel ih =>
  intro bE a w HL vd hr hy hT zh H;refine⟨λh=>(by rw[h]at hr;cases hr),λj hj=>?_⟩;by_cases gP:j=i
  ·subst gP;exact hy.wpOp hi hT ⟨zh w hT,H⟩
  ·have h1:=H.2 j (ready_mono hj gP);obtain⟨HM,qM,zi,hS⟩:=mem_ready.1 hj;have PY:bE.getD i false=false:=by
    have h0:=(mem_ready.1 hr).1;rcases Nat.lt_or_ge i bE.size with h' | h'
    ·simp[h']at h0 ⊢;exact h0
    ·simp[Array.getElem?_eq_none h']
   have o2:=PX vd PY j (λo ho e he hb=>by rw[zi]at ho;cases ho;exact hS e he hb);obtain⟨Co,aS⟩:=HL j qM zi gP HM o2;have h2:=wpOp_putIf (S:=T) zi Co (λcs b=>HK i oi cs b hi) (λcs b=>HK j qM cs b zi) (λc a w=>kh c a oi.dst v w) hy h1;have PZ:∀ k ok,ops[k]?=some ok→k≠i→(bE.setIfInBounds j true).getD k true=false→((rZ ops.toList []).getD k 0).testBit i=false→oi.apart ops ok=true∧∀ w',(bg.contains k=true→C w')→T w':=λk ok hk HN nv bR=>by
    refine HL k ok hk HN ?_ bR;by_cases p4:j=k
    ·subst p4;exact HM
    ·rw[getD_set_ne true p4]at nv;exact nv
   refine wpOp_mono (λa' w' h3=>⟨h3.2.1,ih (bE.setIfInBounds j true) a' w' PZ (vd.set hj) (ready_mono hr (Ne.symm gP)) h3.1 (aS w' h3.2.1) zh ?_⟩) h2;rw[Array.setIfInBounds_comm _ _ gP];exact h3.2.2
theorem HO {i fuel:Nat}{bE:Array Bool}{oi:Oper}(hi:ops[i]?=some oi)(ht:mM ops bE bg true i=true)(hn:bg.contains i=false)(kh:lg Q)
   (hy:YieldsIf P ops (λ_=>True) oi v a)
   (h:ha P ops Q C bg fuel (bE.setIfInBounds i true) (a.put oi.dst v) w):ha P ops Q C bg (fuel+1) bE a w:=by
 simp only[mM,hi,fk,all_eq_true,mem_range]at ht;obtain⟨⟨⟨h1,h2⟩,h3⟩,h4⟩:=ht;refine HJ (T:=λ_=>True) hi h1 kh fuel bE a w (λj qM hj bD nv o2=>?_) (HG h2) (by simpa using h3) hy trivial (λ_ _ h=>by rw[hn]at h;cases h) h;have h5:=h4 j (Array.getElem?_eq_some_iff.1 hj).1;simp only[hj,o2,nv,Bool.or_eq_true,beq_iff_eq,bD,Bool.false_eq_true,fk,false_or,or_false]at h5;exact⟨h5.1,λ_ _=>trivial⟩
theorem HP {i fuel:Nat}{bE:Array Bool}{oi:Oper}(hi:ops[i]?=some oi)(ht:mM ops bE bg false i=true)(kh:lg Q)
   (hy:YieldsIf P ops C oi v a) (hC:C w)
   (h:ha P ops Q C bg fuel (bE.setIfInBounds i true) (a.put oi.dst v) w):ha P ops Q C bg (fuel+1) bE a w:=by
 simp only[mM,hi,fk,all_eq_true,mem_range]at ht;obtain⟨⟨⟨h1,h2⟩,h3⟩,h4⟩:=ht;refine HJ (T:=C) hi h1 kh fuel bE a w (λj qM hj bD nv o2=>?_) (HG h2) (by simpa using h3) hy hC (λ_ h _=>h) h;have h5:=h4 j (Array.getElem?_eq_some_iff.1 hj).1;simp only[hj,o2,nv,Bool.or_eq_true,beq_iff_eq,bD,Bool.false_eq_true,fk,false_or,or_false]at h5;exact⟨h5.1,λw' dc=>dc h5.2⟩
theorem HQ {i fuel:Nat}{bE mN:Array Bool}(hl:bE.setIfInBounds i true=mN) {op ty ps af g}(hi:ops[i]?=some ⟨some d,op,ty,ps,af,g⟩)(ht:mM ops bE bg true i=true)(hn:bg.contains i=false)(kh:lg Q)
   (E:Fr a n l) (hw:Region.wanted ⟨some d,op,ty,ps,af,g⟩ (yielded ops a.tmps)=true) (hr:∀ w,(execOp a.eval ⟨some d,op,ty,ps,af,g⟩).run P w=.ok (.value v) w) (hf:okB d n l=true)
   (h:∀ a',Fr a' n ((d,v)::l)→ha P ops Q C bg fuel mN a' w):ha P ops Q C bg (fuel+1) bE a w:=by
 subst hl;exact HO hi ht hn kh (.inl ⟨hw,λw _=>hr w⟩) (h _ (E.put hf v))
theorem HR {i fuel:Nat}{bE mN:Array Bool}(hl:bE.setIfInBounds i true=mN) {op ty ps af g}(hi:ops[i]?=some ⟨some d,op,ty,ps,af,g⟩)(ht:mM ops bE bg false i=true)(kh:lg Q)
   (E:Fr a n l) (hw:Region.wanted ⟨some d,op,ty,ps,af,g⟩ (yielded ops a.tmps)=true) (hr:∀ w,C w→(execOp a.eval ⟨some d,op,ty,ps,af,g⟩).run P w=.ok (.value v) w) (hC:C w) (hf:okB d n l=true)
   (h:∀ a',Fr a' n ((d,v)::l)→ha P ops Q C bg fuel mN a' w):ha P ops Q C bg (fuel+1) bE a w:=by
 subst hl;exact HP hi ht kh (.inl ⟨hw,hr⟩) hC (h _ (E.put hf v))
theorem P0 {i fuel:Nat}{bE mN:Array Bool}(hl:bE.setIfInBounds i true=mN) {op ty ps af g}(hi:ops[i]?=some ⟨some d,op,ty,ps,af,g⟩)(ht:mM ops bE bg true i=true)(hn:bg.contains i=false)(kh:lg Q)
   (E:Fr a n l) (hw:Region.wanted ⟨some d,op,ty,ps,af,g⟩ (yielded ops a.tmps)=false) (hf:okB d n l=true)
   (h:∀ a',Fr a' n ((d,undef)::l)→ha P ops Q C bg fuel mN a' w):ha P ops Q C bg (fuel+1) bE a w:=by
 subst hl;exact HO hi ht hn kh (.inr ⟨hw,rfl⟩) (h _ (E.put hf undef))
theorem P1 {i fuel:Nat}{bE mN:Array Bool}(hl:bE.setIfInBounds i true=mN) {op ty ps af g}(hi:ops[i]?=some ⟨some d,op,ty,ps,af,g⟩)(ht:mM ops bE bg false i=true)(kh:lg Q)
   (E:Fr a n l) (hw:Region.wanted ⟨some d,op,ty,ps,af,g⟩ (yielded ops a.tmps)=false) (hC:C w) (hf:okB d n l=true)
   (h:∀ a',Fr a' n ((d,undef)::l)→ha P ops Q C bg fuel mN a' w):ha P ops Q C bg (fuel+1) bE a w:=by
 subst hl;exact HP hi ht kh (.inr ⟨hw,rfl⟩) hC (h _ (E.put hf undef))
theorem P2 {i fuel:Nat}{bE mN:Array Bool}(hl:bE.setIfInBounds i true=mN){o:Oper}(hr:Region.ready .any ops bE=[i])(hi:ops[i]?=some o)
   (h:cI P ops Q o (λa' w'=>(bg.contains i=true→C w')∧ha P ops Q C bg fuel mN a' w') a w):ha P ops Q C bg (fuel+1) bE a w:=by
 subst hl;refine⟨λh0=>(by rw[hr]at h0;cases h0),λj hj=>?_⟩;rw[hr]at hj;obtain rfl:j=i:=by simpa using hj
 simp only[wpOp,hi];exact h
theorem P3 {bE:Array Bool}(hr:Region.ready .any ops bE=[])(h:Q .normal a w):∀ fuel,ha P ops Q C bg fuel bE a w
 | 0=>⟨hr,h⟩
 | _+1=>⟨λ_=>h,by rw[hr];simp⟩
theorem P4 {id m:Nat}{l0:Array Bool}(C:World→Prop)(bg:List Nat)(hm:P.follows .mixedOrders=true)(hn:ops.size=m)(hl:Array.replicate m false=l0)(kh:lg Q)(h:lg Q→ha P ops Q C bg m l0 a w.drew):(Code.region id ops true).wp P Q a w:=by
 subst hl;subst hn;exact wp_region_any hm (HF _ _ _ _ (h kh))
theorem Old.rd {w0 w:World}(h:Old w0 w){b off:Nat}{vs:List Value}(hc:Rd w0 b off vs):Rd w b off vs:=λj v hj=>h.cell (hc j v hj)
end
section
variable {P:Program}{ops:Array Oper}{Q:Exit→Act→World→Prop}{C:World→Prop}{bg:List Nat}{a:Act}{w:World}
theorem P5 {i j fuel:Nat}{bE li HS:Array Bool}(ve:bE.setIfInBounds i true=li)(P6:bE.setIfInBounds j true=HS){o o':Oper}(hr:Region.ready .any ops bE=[i,j])(hi:ops[i]?=some o)(hj:ops[j]?=some o')
   (h1:cI P ops Q o (λa' w'=>(bg.contains i=true→C w')∧ha P ops Q C bg fuel li a' w') a w) (h2:cI P ops Q o' (λa' w'=>(bg.contains j=true→C w')∧ha P ops Q C bg fuel HS a' w') a w):ha P ops Q C bg (fuel+1) bE a w:=by
 subst ve;subst P6;refine⟨λh0=>(by rw[hr]at h0;cases h0),λk hk=>?_⟩;rw[hr]at hk;rcases List.mem_cons.1 hk with rfl | hk
 ·simp only[wpOp,hi];exact h1
 ·obtain rfl:=mem_singleton.1 hk;simp only[wpOp,hj];exact h2
end
end
section
class eg (P:Program)(t:TypeId)(ki:outParam (List (Nat×Nat))):Prop where
 h:∃ fs,P.underlying t=some (.struct fs)∧∀ w,(fs.mapM (λf=>do pure (f.offset,← sizeOf f.type)):Sem (Array (Nat×Nat))).run P w=.ok ki.toArray w
class vf (ps:List (Nat×Nat))(i:Nat)(off sz:outParam Nat):Prop where h:ps[i]?=some (off,sz)
instance vf.zero {off sz ps}:vf ((off,sz)::ps) 0 off sz:=⟨rfl⟩
instance vf.succ {p ps i off sz}[h:vf ps i off sz]:vf (p::ps) (i+1) off sz:=⟨by rw[getElem?_cons_succ];exact h.h⟩
class r0 (cs:List Value)(off:Nat)(vs:List Value)(out:outParam (List Value)):Prop where h:off+vs.length≤cs.length→cG cs off vs=out
theorem P7 {cs vs:List Value}{off:Nat}{v:Value}(h:off+(vs.length+1)≤cs.length):cG cs off (v::vs)=cG (cs.set off v) (off+1) vs:=by
 have hl:(cs.take off).length=off:=by simp;omega
 simp only[cG,eO];rw[set_eq_take_append_cons_drop,ak (by omega)];have e1:(cs.take off++v::cs.drop (off+1)).take (off+1)=cs.take off++[v]:=by
  rw[take_append,hl,fX (by omega),show off+1-off=1 from by omega];simp
 have e2:(cs.take off++v::cs.drop (off+1)).drop (off+1+vs.length)=cs.drop (off+(vs.length+1)):=by
  rw[List.drop_append,hl,List.drop_of_length_le (by rw[hl];omega),nil_append,show off+1+vs.length-off=vs.length+1 from by omega,List.drop_succ_cons,drop_drop]
  congr 1;omega
 rw[e1,e2];simp
instance (priority:=low) r0.any {cs off vs}:r0 cs off vs (cG cs off vs):=⟨λ_=>rfl⟩
instance r0.nil {cs off}:r0 cs off [] cs:=⟨λ_=>by simp[cG]⟩
instance r0.cons {cs off v vs HT out}[h1:pW cs off v HT][h2:r0 HT (off+1) vs out]:r0 cs off (v::vs) out:=⟨λh=>by
 simp only[eO]at h;rw[P7 h,h1.h];exact h2.h (by rw[← h1.h];simp;omega)⟩
theorem P8 {cs vs:List Value}{off:Nat}(h:off+vs.length≤cs.length):(cG cs off vs).length=cs.length:=by simp[cG];omega
class l6 (c:List Value)(n:Nat):Prop where h:c.length=n
instance l6.nil:l6 [] 0:=⟨rfl⟩
instance l6.cons {x c n}[h:l6 c n]:l6 (x::c) (n+1):=⟨by simp[h.h]⟩
class tA (ki:List (Nat×Nat))(zs:List Value)(l:List (Nat×Value))(parts:List (Nat×Operand))(out:outParam (List Value)):Prop where
 h:(∀ p∈ki,p.1+p.2≤zs.length)→∀ a n,Fr a n l→Instr.fill (ki.toArray[·]?) zs.toArray (parts.map λp=>(p.1,a.eval p.2))=some out.toArray
instance tA.nil {ki zs l}:tA ki zs l [] zs:=⟨λ_ _ _ _=>rfl⟩
instance tA.cons {ki zs l i o ps off sz v c zj out}[h1:vf ki i off sz][h2:Ev l o v][h3:Cells v c][h4:l6 c sz][h5:r0 zs off c zj][h6:tA ki zj l ps out] :
   tA ki zs l ((i,o)::ps) out:=⟨λhp a n E=>by
 have cC:=hp _ (bH h1.h);simp only at cC;have hl:=h4.h;have e1:=h5.h (by rw[hl];exact cC);have cU:zj.length=zs.length:=by rw[← e1];exact P8 (by rw[hl];exact cC)
 have ih:=h6.h (by rw[cU];exact hp) a n E;simp only[map_cons,Instr.fill,h2.ev a n E];have hg:ki.toArray[i]?=some (off,sz):=by rw[getElem?_toArray];exact h1.h
 simp only[hg];have ke:v.cells.size=sz:=by rw[h3.h];simpa using hl
 rw[ag (by simp[ke];omega)];have hf:=HC c 0 off zs (by rw[hl];omega);have e3:(v.cells.zipIdx.foldl (λ(cs:Array Value) (x:Value×Nat)=>cs.setIfInBounds (off+x.2) x.1) zs.toArray)=zj.toArray:=by
  rw[h3.h,← Array.foldl_toList,Array.toList_zipIdx,← e1];simpa [cG] using hf
 rw[← ih]
 congr 1⟩
section
variable {P:Program}{ops:Array Oper}{Q:Exit→Act→World→Prop}{a:Act}{w w' W:World}{K:Act→World→Prop}{n:Nat}{l:List (Nat×Value)}{v:Value}{L R:List SP}
theorem HU {t ki z zs sz a1 parts cs dst ty ps af g}(E:Fr a n l)(hb:eg P t ki)(hi:TI P t z sz a1)[Cp:Cells z zs][P9:tA ki zs l parts cs](hp:(ki.all λp=>Nat.ble (p.1+p.2) zs.length)=true) :
   (execOp a.eval ⟨dst,.build t (List.toArray parts),ty,ps,af,g⟩).run P w=.ok (.value (.agg cs.toArray)) w:=by
 obtain⟨fs,hu,hm⟩:=hb.h;have hf:=P9.h (λp Qa=>Nat.le_of_ble_eq_true (all_eq_true.1 hp p Qa)) a n E;simp only[execOp,Sem.run_bind,Instr.build,tv hi,Result.andThen_ok,eL hu,hm,Cp.h];simp only[getElem?_toArray]at hf;simp[hf]
theorem nW {x i vs dst ty ps af g}(E:Fr a n l)[e:Ev l x (.tuple (List.toArray vs))](h:vs[i]?=some v):(execOp a.eval ⟨dst,.extract x i,ty,ps,af,g⟩).run P w=.ok (.value v) w:=by
 simp[execOp,e.ev a n E,Instr.extract,h]
theorem run_equalIn_bool {t:TypeId}(ht:P.underlying t=some .bool)(i j:Bool)(k:Nat):(Op.equalIn (k+1) t (.bool i) (.bool j)).run P w=.ok (i==j) w:=by
 simp[Op.equalIn,eL ht]
theorem run_equal_bool {t:TypeId}(ht:P.underlying t=some .bool)(i j:Bool):(Op.equal t (.bool i) (.bool j)).run P w=.ok (i==j) w:=run_equalIn_bool ht i j 9999
theorem run_eql_bool {t:TypeId}(ht:P.underlying t=some .bool)(i j:Bool):(binOp .eql t (.bool i) (.bool j)).run P w=.ok (.bool (i==j)) w:=by
 simp only[binOp];simp[run_equal_bool ht]
theorem run_neq_bool {t:TypeId}(ht:P.underlying t=some .bool)(i j:Bool):(binOp .neq t (.bool i) (.bool j)).run P w=.ok (.bool (i != j)) w:=by
 simp only[binOp];simp[run_equal_bool ht,bne]
theorem Qb {x y i j t u dst ty ps af g}(E:Fr a n l)(ht:P.underlying t=some .bool)[e:Ev l x (.bool i)][f:Ev l y (.bool j)] :
   (execOp a.eval ⟨dst,.binOp .eql t x y u,ty,ps,af,g⟩).run P w=.ok (.value (.bool (i==j))) w:=by
 simp only[execOp,e.ev a n E,f.ev a n E,Sem.run_bind];simp[eqGuard,run_eql_bool ht]
theorem Qc {x y i j t u dst ty ps af g}(E:Fr a n l)(ht:P.underlying t=some .bool)[e:Ev l x (.bool i)][f:Ev l y (.bool j)] :
   (execOp a.eval ⟨dst,.binOp .neq t x y u,ty,ps,af,g⟩).run P w=.ok (.value (.bool (i != j))) w:=by
 simp only[execOp,e.ev a n E,f.ev a n E,Sem.run_bind];simp[eqGuard,run_neq_bool ht]
theorem Qd {x y k i j tB dst ty ps af g}(E:Fr a n l)[e:Ev l x (.int k i)][f:Ev l y (.int k j)] :
   (execOp a.eval ⟨dst,.call ⟨.builtin .min,#[x,y],tB⟩,ty,ps,af,g⟩).run P w=.ok (.value (.int k (min i j))) w:=by
 simp[execOp,resolve,e.ev a n E,f.ev a n E,invoke,builtin,Builtin.min_,Builtin.min2];rw[Int.min_def];split <;> split <;> omega
theorem Qe {x y k i j tB dst ty ps af g}(E:Fr a n l)[e:Ev l x (.int k i)][f:Ev l y (.int k j)] :
   (execOp a.eval ⟨dst,.call ⟨.builtin .max,#[x,y],tB⟩,ty,ps,af,g⟩).run P w=.ok (.value (.int k (max i j))) w:=by
 simp[execOp,resolve,e.ev a n E,f.ev a n E,invoke,builtin,Builtin.max_,Builtin.max2];rw[Int.max_def];split <;> split <;> omega
theorem HV {x t el z sz a1 b off m c e cs ty ps af g}(E:Fr a n l)(hw:Region.wanted ⟨none,.call ⟨.builtin .clear,#[x],#[t]⟩,ty,ps,af,g⟩ (yielded ops a.tmps)=true)(I:U W w L)
   (ht:P.underlying t=some (.slice el)) (hi:TI P el z sz a1) (hz:z.cells.size=sz) (h1:z.cells.toList.all (·.oneCell')=true) [ev:Ev l x (.slice (some ⟨b,off,none⟩) m c)] [k:fC L b e cs R] (hle:off+m*sz≤cs.length)
   (h:∀ a' w',Fr a' n l→U W w' (aa b e (cG cs off (Builtin.zeroCells z.cells m).toList)::R)→K a' w') :
   cI P ops Q ⟨none,.call ⟨.builtin .clear,#[x],#[t]⟩,ty,ps,af,g⟩ K a w:=by
 have gU:=I.jJ b;have iY:=w7 (sz:=sz) e (z:=z) (a1:=a1) hz m;have fM:∀ v∈(Builtin.zeroCells z.cells m).toList,v.oneCell'=true:=by
  intro v hv;simp only[Builtin.zeroCells,Array.toList_map,cV]at hv;obtain⟨i,vg,rfl⟩:=hv;have:i<m*z.cells.size:=by simpa using vg
  have p5 : 0 < z.cells.size := by rcases Nat.eq_zero_or_pos z.cells.size with h | h; · rw [h] at this; omega
                                   ·exact h
  have hlt:i%z.cells.size<z.cells.size:=Nat.mod_lt _ p5;rw[getElem!_pos z.cells _ hlt];exact all_eq_true.1 h1 _ (Array.mem_toList_iff.2 (Array.getElem_mem hlt))
 have aS:=run_storeCells_at (P:=P) b off e (Builtin.zeroCells z.cells m).toList 0 cs.toArray w gU.has.2 (by rw[iY];simpa using hle) fM;by_cases hm:m=0
 ·subst hm;refine Ci (v:=.tuple #[]) (w':=w) E hw ?_ λa' db=>h a' w db ?_
  ·simp[execOp,resolve,ev.ev a n E,invoke,builtin,Builtin.clear_,eL ht]
  ·have:(Builtin.zeroCells z.cells 0).toList=[]:=gW (by rw[iY];simp);rw[this];simpa [cG] using gU
 ·refine Ci (v:=.tuple #[]) (w':=w.setRow b (cG cs off (Builtin.zeroCells z.cells m).toList).toArray) E hw ?_ λa' db=>h a' _ db gU.setRow;have:(storeCells ⟨b,off,none⟩ (Builtin.zeroCells z.cells m).toList).run P w=.ok () (w.setRow b (cG cs off (Builtin.zeroCells z.cells m).toList).toArray):=by
   simpa [cG] using aS
  obtain⟨m',rfl⟩:∃ m',m=m'+1:=⟨m-1,by omega⟩;simp[execOp,resolve,ev.ev a n E,invoke,builtin,Builtin.clear_,eL ht,tv hi,this]
end
end
section
def bc (bs:List UInt8):List Value:=bs.map λb=>.int .u8 b.toNat
theorem dt (bs:List UInt8):(bc bs).length=bs.length:=by simp[bc]
theorem eo (bs:List UInt8):∀ v∈bc bs,v.oneCell'=true:=by
 intro v hv;simp only[bc,cV]at hv;obtain⟨b,_,rfl⟩:=hv;rfl
section
variable {P:Program}{ops:Array Oper}{Q:Exit→Act→World→Prop}{a:Act}{w w' W:World}{K:Act→World→Prop}{n d:Nat}{l:List (Nat×Value)}{v:Value}{L R:List SP}
theorem Qf {x y u z3 k k' xc i i' xd j j' nx ad m c t el z sz a1 dst ty ps af g}(E:Fr a n l)(ht:P.underlying t=some (.slice el))(hi:TI P el z sz a1)[ev:Ev l x (.slice ad m c)][gV:Ev l y (.int k i)][tx:Ev l u (.int k' i')][Cq:Ev l z3 (.int xc xd)]
   [nj:en i j] [w8:en i' j'] [Cr:en xd nx] (h:j≤j') (h':j'≤nx) (Qg:nx≤c) :
   (execOp a.eval ⟨dst,.slice t x (some y) (some u) (some z3),ty,ps,af,g⟩).run P w=.ok (.value (.slice (fl ad j nx sz) (j'-j) (nx-j))) w:=by
 have hj:=nj.h;subst hj;have lf:=w8.h;subst lf;have Cs:=Cr.h;subst Cs;have e1:=(p3 ht).1;have e2:=(p3 ht).2;have:=run_slice_lhm (P:=P) (w:=w) t ad m c e1 k k' xc (j:Int) (j':Int) (nx:Int) (by omega) (by omega) (by omega) (by omega);rw[e2,l3 hi]at this;simp only[Result.andThen_ok,Int.toNat_natCast]at this;simp[execOp,ev.ev a n E,gV.ev a n E,tx.ev a n E,Cq.ev a n E,run_sliceAt_slice (P:=P) (w:=w) t _ _ _ _ e1,this,sliced,fl]
theorem Qh {x ad m c t el u dst ty ps af g}(E:Fr a n l)(ht:P.underlying t=some (.slice el))[e:Ev l x (.slice ad m c)] :
   (execOp a.eval ⟨dst,.binOp .eql t x (.const (.slice none 0 0)) u,ty,ps,af,g⟩).run P w=.ok (.value (.bool ad.isNone)) w:=by
 have hc:a.eval (.const (.slice none 0 0))=.slice none 0 0:=rfl;have:=Lib.run_eql_slice_nil (P:=P) w t el ad m c 0 0 ht;simp only[execOp,e.ev a n E,hc,Sem.run_bind];simp[eqGuard,this]
theorem Qi {s x t z sz a1 b off el e k c b2 gN m c2 news ty ps af g}{cs:List Value}(E:Fr a n l)(hw:Region.wanted ⟨some d,.call ⟨.builtin .append,#[s,x],#[t,t]⟩,ty,ps,af,g⟩ (yielded ops a.tmps)=true)(I:U W w L)
   (ht:P.underlying t=some (.slice el)) (hi:TI P el z sz a1) (hf:okB d n l=true) [e1:Ev l s (.slice (some ⟨b,off,none⟩) k c)] [Ct:fC L b e cs R] [e2:Ev l x (.slice (some ⟨b2,gN,none⟩) m c2)]
   (hr:Rd w b2 gN news) (hl:news.length=m*sz) (h1:∀ v∈news,v.oneCell'=true) (nr:k+m≤c) (hle:off+k*sz+news.length≤cs.length)
   (h:∀ a' w',Fr a' n ((d,.slice (some ⟨b,off,none⟩) (k+m) c)::l)→U W w' (aa b e (cG cs (off+k*sz) news)::R)→K a' w') :
   cI P ops Q ⟨some d,.call ⟨.builtin .append,#[s,x],#[t,t]⟩,ty,ps,af,g⟩ K a w:=by
 obtain⟨i,ld,dH,kH,p0⟩:=info_parts hi.h;have gU:=I.jJ b;have nT:∀ j v,news[j]?=some v→w.cell? ((⟨b2,gN,none⟩:Addr).add j)=some v:=λj v hj=>by rw[la];exact hr j v hj
 have iZ:=run_firstCells_some (P:=P) w sz m ⟨b2,gN,none⟩ m c2 news hl nT;have aS:=run_storeCells_at (P:=P) b (off+k*sz) e news 0 cs.toArray w gU.has.2 (by simpa using hle) h1;have qL:(storeCells ⟨b,off+k*sz,none⟩ news).run P w=.ok () (w.setRow b (cG cs (off+k*sz) news).toArray):=by simpa [cG] using aS
 refine bo (v:=.slice (some ⟨b,off,none⟩) (k+m) c) (w':=w.setRow b (cG cs (off+k*sz) news).toArray) E hw ?_ hf (λa' db=>h a' _ db gU.setRow);simp[execOp,resolve,e1.ev a n E,e2.ev a n E,invoke,builtin,Builtin.append_,eL ht,sizeOf,typeInfo,ld,kH,Builtin.lenOf,nr,la,iZ,qL]
def aX (w:World)(ad:Option Addr)(m:Nat)(bs:List UInt8):Prop :=
 bs.length=m∧(ad=none→m=0)∧∀ x,ad=some x→0<m→∃ b off,x=⟨b,off,none⟩∧Rd w b off (bc bs)
theorem Qj (bs:List UInt8):∀ r:List UInt8,(bs.map λb=>(b.toNat:Int)).foldl (λ(r:ByteArray) n=>r.push (UInt8.ofNat n.toNat)) ⟨r.toArray⟩=⟨(r++bs).toArray⟩:=by
 induction bs with
 | nil=>intro r;simp
 | cons b bs ih =>
  intro r;simp only[map_cons,foldl_cons];have:(ByteArray.mk r.toArray).push (UInt8.ofNat (b.toNat:Int).toNat)=ByteArray.mk (r++[b]).toArray:=by
   simp[ByteArray.push]
  rw[this,ih];simp
theorem lj {x t u el ad m c bs dst ty ps af g}(E:Fr a n l)(ht:P.underlying t=some (.slice el))(hu:P.underlying el=some (.int .u8))(gU:P.underlying u=some .string)[ev:Ev l x (.slice ad m c)]
   (hr:aX w ad m bs):(execOp a.eval ⟨dst,.convert t u x,ty,ps,af,g⟩).run P w=.ok (.value (.string ⟨bs.toArray⟩)) w:=by
 have h0:=run_convert_bytes_string (P:=P) w t u el ad m c ht hu gU;obtain⟨h1,h2,h3⟩:=hr;have h4:(Conv.bytesToString (.slice ad m c)).run P w=.ok (.string ⟨bs.toArray⟩) w:=by
  cases ad with
  | none =>
   have:bs=[]:=gW (by rw[h1];exact h2 rfl);subst this;rfl
  | some x =>
   have hl:(loadCells x m).run P w=.ok ((bs.map λb=>(b.toNat:Int)).map (Value.int .u8)).toArray w:=by
    have:=run_loadCells_list (P:=P) w x ((bs.map λb=>(b.toNat:Int)).map (Value.int .u8)) (λj v hj=>by
     have hm:0<m:=by
      rcases Nat.eq_zero_or_pos m with h | h
      ·rw[h]at h1;rw[gW h1]at hj;simp at hj
      ·exact h
     obtain⟨b,off,rfl,c4⟩:=h3 x rfl hm;rw[la];refine c4 j v ?_;simpa [bc] using hj)
    simpa [h1] using this
   have:=run_bytesToString (P:=P) w x m c _ hl;rw[this];have h5:=Qj bs [];simp only[nil_append]at h5;exact congrArg (λs=>Result.ok (Value.string s) w) h5
 simp[execOp,ev.ev a n E,h0,h4]
theorem r4 {x y i j t u dst ty ps af g}(E:Fr a n l)[e:Ev l x (.string i)][f:Ev l y (.string j)] :
   (execOp a.eval ⟨dst,.binOp .eql t x y u,ty,ps,af,g⟩).run P w=.ok (.value (.bool (i.data.toList==j.data.toList))) w:=by
 simp[execOp,e.ev a n E,f.ev a n E,eqGuard,binOp,Op.stringOp,ByteArray.toList_eq]
theorem Qk (x y:UInt8):IntKind.u8.wrap ((x.toNat ^^^ y.toNat:Nat):Int)=((x ^^^ y).toNat:Int):=by
 rw[UInt8.toNat_xor];have h:=(x ^^^ y).toNat_lt;rw[UInt8.toNat_xor]at h;simp only[IntKind.wrap,IntKind.bits,IntKind.signed,Bool.false_and,Bool.false_eq_true,if_false];omega
theorem Ql {x y t u dst ty ps af g}{i j:UInt8}(E:Fr a n l)[e:Ev l x (.int .u8 (i.toNat:Int))][f:Ev l y (.int .u8 (j.toNat:Int))] :
   (execOp a.eval ⟨dst,.binOp .xor t x y u,ty,ps,af,g⟩).run P w=.ok (.value (.int .u8 ((i ^^^ j).toNat:Int))) w:=by
 rw[← Qk];simp[execOp,e.ev a n E,f.ev a n E,eqGuard,binOp,Op.intBits];have h1:i.toNat%2 ^ IntKind.u8.bits=i.toNat:=Nat.mod_eq_of_lt i.toNat_lt;have h2:j.toNat%2 ^ IntKind.u8.bits=j.toNat:=Nat.mod_eq_of_lt j.toNat_lt;rw[h1,h2]
theorem tC {t el z sz a1 ty ps af g}(E:Fr a n l)(hw:Region.wanted ⟨some d,.buildSlice t 0 #[],ty,ps,af,g⟩ (yielded ops a.tmps)=true)(I:U W w L)(ht:P.underlying t=some (.slice el))
   (hi:TI P el z sz a1) (hf:okB d n l=true)
   (h:∀ b a' w',Fr a' n ((d,.slice (some ⟨b,0,none⟩) 0 0)::l)→U W w' (Sl el sz (some ⟨b,0,none⟩) 0 0 []::L)→Old w w'→K a' w') :
   cI P ops Q ⟨some d,.buildSlice t 0 #[],ty,ps,af,g⟩ K a w:=by
 refine bo (v:=.slice (some ⟨w.heap.size,0,none⟩) 0 0) (w':=w.alloc (.cells #[] el)) E hw ?_ hf (λa' db=>h _ _ _ db ((I.alloc (.cells #[] el)).tail.bN _ _ _) (Old.alloc _ _));simp[execOp,Sem.run_bind,Instr.buildSlice,eL ht,Result.andThen_ok,l3 hi,Instr.fill,newRow,newObj,Sem.run];rw[show Array.range 0=#[] from Array.eq_empty_of_size_eq_zero (by simp)];simp
theorem Cu {s x t z a1 e sz ad k c ad2 c2 ty ps af g}(E:Fr a n l)(hw:Region.wanted ⟨some d,.call ⟨.builtin .append,#[s,x],#[t,t]⟩,ty,ps,af,g⟩ (yielded ops a.tmps)=true)
   (ht:P.underlying t=some (.slice e)) (hi:TI P e z sz a1) (hf:okB d n l=true) [e1:Ev l s (.slice ad k c)] [e2:Ev l x (.slice ad2 0 c2)] (qN:k≤c)
   (h:∀ a',Fr a' n ((d,.slice ad k c)::l)→K a' w):cI P ops Q ⟨some d,.call ⟨.builtin .append,#[s,x],#[t,t]⟩,ty,ps,af,g⟩ K a w:=by
 obtain⟨i,ld,dH,kH,p0⟩:=info_parts hi.h;have iZ:(Builtin.firstCells sz 0 (.slice ad2 0 c2)).run P w=.ok #[] w:=by
  cases ad2 with
  | none=>exact run_firstCells_none (P:=P) w sz 0 0 c2
  | some b=>exact run_firstCells_some (P:=P) w sz 0 b 0 c2 [] (by simp) (λj v hj=>by simp at hj)
 refine bo (v:=.slice ad k c) (w':=w) E hw ?_ hf h;cases ad <;> simp[execOp,resolve,e1.ev a n E,e2.ev a n E,invoke,builtin,Builtin.append_,eL ht,sizeOf,typeInfo,ld,kH,Builtin.lenOf,qN,iZ,storeCells]
end
end
section
class xe (P:Program)(t:TypeId):Prop where h:∃ el,P.underlying t=some (.pointer el)
class Cv (P:Program)(t:TypeId):Prop where h:∃ el,P.underlying t=some (.slice el)
class Cw (P:Program)(t:TypeId):Prop where h:∃ ee,P.underlying t=some ee∧nS ee=true
class Cx (P:Program)(t:TypeId)(f:Nat)(k:outParam Nat):Prop where h:∃ fs iL z sz a1,P.underlying t=some (.struct fs)∧fs[f]?=some iL∧TI P iL.type z (sz+1) a1∧iL.offset=k
class Ex (P:Program)(l:List (Nat×Value))(op:Go.Op)(v:outParam Value):Prop where
 ex:∀ (a:Act) (n:Nat),Fr a n l→∀ (w:World) (dst ty ps af g),(execOp a.eval ⟨dst,op,ty,ps,af,g⟩).run P w=.ok (.value v) w
section
variable {P:Program}{l:List (Nat×Value)}{v v1 v2:Value}{x y c:Operand}{t u:TypeId}{k:IntKind}{i j:Int}{b:Bool}
instance Ex.move [Ev l x v]:Ex P l (.move x) v:=⟨λ_ _ E _ _ _ _ _ _=>O5 E⟩
instance Ex.assign [Ev l x v]:Ex P l (.assign x) v:=⟨λ_ _ E _ _ _ _ _ _=>O6 E⟩
instance Ex.nilCheck [Ev l x v] [zc v]:Ex P l (.nilCheck x) v:=⟨λ_ _ E _ _ _ _ _ _=>O9 E⟩
instance Ex.not [Ev l x (.bool b)]:Ex P l (.unOp .not t x) (.bool (!b)):=⟨λ_ _ E _ _ _ _ _ _=>Po E⟩
instance Ex.lss [Ev l x (.int k i)] [Ev l y (.int k j)]:Ex P l (.binOp .lss t x y u) (.bool (decide (i<j))):=⟨λ_ _ E _ _ _ _ _ _=>Pd E⟩
instance Ex.leq [Ev l x (.int k i)] [Ev l y (.int k j)]:Ex P l (.binOp .leq t x y u) (.bool (decide (i≤j))):=⟨λ_ _ E _ _ _ _ _ _=>Pf E⟩
instance Ex.gtr [Ev l x (.int k i)] [Ev l y (.int k j)]:Ex P l (.binOp .gtr t x y u) (.bool (decide (j<i))):=⟨λ_ _ E _ _ _ _ _ _=>Ph E⟩
instance Ex.geq [Ev l x (.int k i)] [Ev l y (.int k j)]:Ex P l (.binOp .geq t x y u) (.bool (decide (j≤i))):=⟨λ_ _ E _ _ _ _ _ _=>Pj E⟩
instance Ex.eql [Ev l x (.int k i)] [Ev l y (.int k j)]:Ex P l (.binOp .eql t x y u) (.bool (decide (i=j))):=⟨λ_ _ E _ _ _ _ _ _=>Pm E⟩
instance Ex.neq [Ev l x (.int k i)] [Ev l y (.int k j)]:Ex P l (.binOp .neq t x y u) (.bool (decide (i≠j))):=⟨λ_ _ E _ _ _ _ _ _=>Pn E⟩
instance Ex.adA [xe P t] [Ev l x v] [tu v b]:Ex P l (.binOp .eql t x (.const (.pointer none)) u) (.bool b):=⟨λ_ _ E _ _ _ _ _ _=>(xe.h (P:=P) (t:=t)).elim λ_ h=>Pp E h⟩
instance Ex.adB [xe P t] [Ev l x v] [tu v b]:Ex P l (.binOp .neq t x (.const (.pointer none)) u) (.bool (!b)):=⟨λ_ _ E _ _ _ _ _ _=>(xe.h (P:=P) (t:=t)).elim λ_ h=>Pq E h⟩
instance Ex.adC [Ev l x (.tuple #[v1,v2])]:Ex P l (.extract x 0) v1:=⟨λ_ _ E _ _ _ _ _ _=>nW E rfl⟩
instance Ex.adD [Ev l x (.tuple #[v1,v2])]:Ex P l (.extract x 1) v2:=⟨λ_ _ E _ _ _ _ _ _=>nW E rfl⟩
instance Ex.len {ad:Option Addr}{m c:Nat} [Cv P t] [Ev l x (.slice ad m c)]:Ex P l (.call ⟨.builtin .len,#[x],#[t]⟩) (.int .i64 m):=⟨λ_ _ E _ _ _ _ _ _=>(Cv.h (P:=P) (t:=t)).elim λ_ h=>Px E h⟩
instance Ex.field {bb off f kk r:Nat} [Ev l x (.pointer (some ⟨bb,off,none⟩))] [Cx P t f kk] [rV off kk r]:Ex P l (.fieldAddr t x f) (.pointer (some ⟨bb,r,none⟩)):=⟨λ_ _ E _ _ _ _ _ _=>by
 obtain⟨fs,iL,z,sz,a1,h1,h2,h3,h4⟩:=Cx.h (P:=P) (t:=t) (f:=f) (k:=kk);exact Pu E h1 h2 h3 h4⟩
end
class BP (b:Bool)(p q:outParam Prop):Prop where
 t:b=true→p
 f:b=false→q
instance BP.lt {i j:Int}:BP (decide (i<j)) (i<j) (j≤i):=⟨of_decide_eq_true,λh=>Int.not_lt.1 (of_decide_eq_false h)⟩
instance BP.le {i j:Int}:BP (decide (i≤j)) (i≤j) (j<i):=⟨of_decide_eq_true,λh=>Int.not_le.1 (of_decide_eq_false h)⟩
instance BP.eq {i j:Int}:BP (decide (i=j)) (i=j) (¬ i=j):=⟨of_decide_eq_true,of_decide_eq_false⟩
instance BP.ne {i j:Int}:BP (decide (i≠j)) (¬ i=j) (i=j):=⟨of_decide_eq_true,λh=>Decidable.of_not_not (of_decide_eq_false h)⟩
instance BP.not {b:Bool}{p q:Prop}[h:BP b p q]:BP (!b) q p:=⟨λe=>h.f (by simpa using e),λe=>h.t (by simpa using e)⟩
instance (priority:=low) BP.dec {p:Prop} [Decidable p]:BP (decide p) p (¬ p):=⟨of_decide_eq_true,of_decide_eq_false⟩
instance (priority:=10) BP.any {b:Bool}:BP b (b=true) (b=false):=⟨id,id⟩
section
variable {P:Program}{ops:Array Oper}{Q:Exit→Act→World→Prop}{a:Act}{w w':World}{K:Act→World→Prop}{o:Oper}{n d:Nat}{l l':List (Nat×Value)}{v:Value}{op:Go.Op}{ty:TypeId}{ps:String}{af:Array Edge}{rest:List Oper}
theorem S1 (E:Fr a n l)[e:Ex P l op v](h:∀ a',Fr a' n ((d,v)::l)→wpList P ops Q rest a' w)(hf:okB d n l=true:=by rfl):wpList P ops Q (⟨some d,op,ty,ps,af,none⟩::rest) a w :=
 O2 (bo E rfl (e.ex a n E w _ _ _ _ _) hf h)
theorem SK (h:cI P ops Q o (wpList P ops Q rest) a w):wpList P ops Q (o::rest) a w:=h
theorem Qm (h:Q .normal a w):wpList P ops Q [] a w:=h
theorem TN {K:Act→World→Prop}(h:K a w):Exit.then K Q .normal a w:=h
theorem TR {K:Act→World→Prop}(h:Q .ret a w):Exit.then K Q .ret a w:=h
theorem TE {K:Act→World→Prop}{i:Nat}(h:Q (.exit i) a w):Exit.then K Q (.exit i) a w:=h
theorem Qn {i:Nat}(h:Q .normal a w):Exit.inBlock i Q .normal a w:=h
theorem Qo {i:Nat}(h:Q .ret a w):Exit.inBlock i Q .ret a w:=h
theorem Fr.by {s:Nat}{c:Bool} {l'}{p q:Prop}(E:Fr a n l)[k:fj l s (.bool c)][e:gT l s l'][B:BP c p q]{G:Prop}
   (ht:p→Fr a n ((s,.bool true)::l')→G) (hf:q→Fr a n ((s,.bool false)::l')→G):G :=
 E.bool (s:=s) (λh=>ht (B.t h)) (λh=>hf (B.f h))
variable {C:World→Prop}{bg:List Nat}{i fuel m:Nat}{od:List Nat}
def fY (P:Program)(ops:Array Oper)(Q:Exit→Act→World→Prop)(C:World→Prop)(bg:List Nat)(_od:List Nat)(fuel m:Nat)(a:Act)(w:World):Prop:=ha P ops Q C bg fuel (lb ops.size m) a w
def l7 (m i:Nat):Nat:=m ||| 2 ^ i
theorem p6 (k m i:Nat):(lb k m).setIfInBounds i true=lb k (l7 m i):=by
 apply Array.ext_getElem?;intro j;simp only[lb,List.setIfInBounds_toArray,getElem?_toArray,jL,bm,bd,length_range];by_cases hj:i=j
 ·subst hj;rw[ak rfl];by_cases hi:i<k
  ·rw[ak hi,getElem?_range hi];simp[l7]
  ·rw[ag hi,iW (by simpa using hi)];rfl
 ·rw[ag hj];by_cases hk:j<k
  ·rw[getElem?_range hk];simp[l7,Nat.testBit_two_pow,hj]
  ·rw[iW (by simpa using hk)];rfl
theorem DW {id m:Nat}(C:World→Prop)(bg od:List Nat)(hm:P.follows .mixedOrders=true)(kh:lg Q)(h:lg Q→fY P ops Q C bg od m 0 a w.drew)(hn:ops.size=m:=by kernel_rfl):(Code.region id ops true).wp P Q a w:=by
 subst hn;refine P4 (m:=ops.size) (l0:=lb ops.size 0) C bg hm rfl ?_ kh h;apply Array.ext_getElem?;intro j;simp only[lb,Nat.zero_testBit,getElem?_toArray,bm,Array.getElem?_replicate];by_cases hj:j<ops.size
 ·rw[ak hj,getElem?_range hj];simp
 ·rw[ag hj,iW (by simpa using hj)];rfl
theorem Qp (hi:ops[i]?=some o)(h:cI P ops Q o (λa' w'=>(bg.contains i=true→C w')∧fY P ops Q C bg od fuel (l7 m i) a' w') a w)(hr:Region.ready .any ops (lb ops.size m)=[i]:=by kernel_rfl):fY P ops Q C bg (i::od) (fuel+1) m a w :=
 P2 (p6 _ _ _) hr hi h
theorem Qq {j:Nat}{o':Oper}(Qr Qs:List Nat)(hr:Region.ready .any ops (lb ops.size m)=[i,j])(hi:ops[i]?=some o)(hj:ops[j]?=some o')
   (h1:cI P ops Q o (λa' w'=>(bg.contains i=true→C w')∧fY P ops Q C bg Qr fuel (l7 m i) a' w') a w) (h2:cI P ops Q o' (λa' w'=>(bg.contains j=true→C w')∧fY P ops Q C bg Qs fuel (l7 m j) a' w') a w):fY P ops Q C bg od (fuel+1) m a w :=
 P5 (p6 _ _ _) (p6 _ _ _) hr hi hj h1 h2
theorem Qt (h:Q .normal a w)(hr:Region.ready .any ops (lb ops.size m)=[]:=by kernel_rfl):fY P ops Q C bg [] fuel m a w:=P3 hr h fuel
end
end
end Go.Proofs.YteoldcfapaiobaaGreat
