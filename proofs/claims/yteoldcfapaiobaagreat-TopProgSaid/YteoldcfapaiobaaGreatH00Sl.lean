/- The heap logic: lists of assertions on separate parts of the memory that a call has made, and how they turn with the world. -/
import Derived.Test.YteoldcfapaiobaaGreatHQ
import Derived.WalkKit
import Derived.Laws.CopyRow
import Derived.WalkSpells
import Derived.WalkLawsBesides
import Derived.Deep.LoopGhost
import Derived.OrdersHeld
import Derived.Laws.BytesString
import Derived.Lib.SliceRun
namespace Go.Proofs.YteoldcfapaiobaaGreat
open List (all_eq_true length_range drop_zero take_succ_cons drop_left take_zero foldl_cons nil_append map_cons getElem?_cons_succ length_nil mem_range getElem?_toArray getElem?_range)
open Go.RowKit
set_option linter.unusedVariables false
set_option linter.unusedSimpArgs false
set_option maxRecDepth 10000
set_option synthInstance.maxSize 4000
set_option synthInstance.maxHeartbeats 400000
section
abbrev Hp:=Nat→Option Obj
abbrev SP:=Hp→Prop
def Hp.Sub (a b:Hp):Prop:=∀ n o,a n=some o→b n=some o
def Hp.Dj (a b:Hp):Prop:=∀ n,a n=none∨b n=none
def Hp.un (a b:Hp):Hp:=λn=>match a n with | some o=>some o | none=>b n
theorem Hp.Sub.refl (a:Hp):Hp.Sub a a:=λ_ _ h=>h
theorem Hp.Sub.trans {a b c:Hp}(h:Hp.Sub a b)(k:Hp.Sub b c):Hp.Sub a c:=λn o e=>k n o (h n o e)
theorem Hp.Dn (a b:Hp):Hp.Sub a (Hp.un a b):=λn o h=>by simp[Hp.un,h]
theorem Hp.ui {a b:Hp}(d:Hp.Dj a b):Hp.Sub b (Hp.un a b):=λn o h=>by
 rcases d n with e | e
 ·simp[Hp.un,e,h]
 ·rw[h]at e;cases e
theorem Hp.Dp {a b c:Hp}(h:Hp.Sub a c)(k:Hp.Sub b c):Hp.Sub (Hp.un a b) c:=λn o e=>by
 cases E:a n with
 | some x=>simp[Hp.un,E]at e;subst e;exact h n _ E
 | none=>simp[Hp.un,E]at e;exact k n _ e
theorem Hp.Dj.symm {a b:Hp}(d:Hp.Dj a b):Hp.Dj b a:=λn=>(d n).symm
theorem Hp.Dj.mono {a b a' b':Hp}(d:Hp.Dj a b)(h:Hp.Sub a' a)(k:Hp.Sub b' b):Hp.Dj a' b':=λn=>by
 rcases d n with e | e
 ·left;cases E:a' n with
  | none=>rfl
  | some x=>rw[h n _ E]at e;cases e
 ·right;cases hb:b' n with
  | none=>rfl
  | some x=>rw[k n _ hb]at e;cases e
theorem Hp.Dj.ui {a b c:Hp}(d:Hp.Dj a b)(k:Hp.Dj a c):Hp.Dj a (Hp.un b c):=λn=>by
 rcases d n with e | e
 ·exact .inl e
 ·rcases k n with f | f
  ·exact .inl f
  ·right;simp[Hp.un,e,f]
def cp:List SP→SP
 | [],_=>True
 | A::L,h=>∃ h1 h2,Hp.Dj h1 h2∧Hp.Sub h1 h∧Hp.Sub h2 h∧A h1∧cp L h2
theorem Dq:∀ {L:List SP} {h h':Hp},Hp.Sub h h'→cp L h→cp L h'
 | [],_,_,_,_=>trivial
 | _::_,_,_,s,⟨h1,h2,d,a,b,p,q⟩=>⟨h1,h2,d,a.trans s,b.trans s,p,q⟩
theorem PW {A B:SP}{L:List SP}{h:Hp}:cp (A::B::L) h→cp (B::A::L) h
 | ⟨h1,h2,d,a,b,p,k1,k2,e,f,g,q,r⟩ =>
  ⟨k1,Hp.un h1 k2,(d.mono (Hp.Sub.refl _) f).symm.ui e,f.trans b,Hp.Dp a (g.trans b),q,
   h1,k2,d.mono (Hp.Sub.refl _) g,Hp.Dn _ _,Hp.ui (d.mono (Hp.Sub.refl _) g),p,r⟩
theorem PX {A:SP}{L L':List SP}(k:∀ h,cp L h→cp L' h){h:Hp}:cp (A::L) h→cp (A::L') h
 | ⟨h1,h2,d,a,b,p,q⟩=>⟨h1,h2,d,a,b,p,k _ q⟩
theorem PY {L L':List SP}(p:L.Perm L'):∀ {h:Hp},cp L h→cp L' h:=by
 induction p with
 | nil=>exact λh=>h
 | cons x _ ih=>exact λh=>PX (λ_=>ih) h
 | swap x y l=>exact λh=>PW h
 | trans _ _ PZ P1=>exact λh=>P1 (PZ h)
theorem Ig:∀ {M L:List SP} {h1 h2 h:Hp},Hp.Dj h1 h2→Hp.Sub h1 h→Hp.Sub h2 h→cp M h1→cp L h2→cp (M++L) h
 | [],_,_,_,_,_,_,s,_,q=>Dq s q
 | _::_,_,h1,h2,_,d,s,t,⟨k1,k2,e,f,g,p,r⟩,q =>
  ⟨k1,Hp.un k2 h2,e.ui (d.mono f (Hp.Sub.refl _)),f.trans s,Hp.Dp (g.trans s) t,p,
   Ig (d.mono g (Hp.Sub.refl _)) (Hp.Dn _ _) (Hp.ui (d.mono g (Hp.Sub.refl _))) r q⟩
theorem Dr:∀ {M L:List SP} {h:Hp},cp (M++L) h→∃ h1 h2,Hp.Dj h1 h2∧Hp.Sub h1 h∧Hp.Sub h2 h∧cp M h1∧cp L h2
 | [],_,h,q=>⟨λ_=>none,h,λ_=>.inl rfl,λ_ _ e=>(by cases e),Hp.Sub.refl _,trivial,q⟩
 | _::M,L,h,⟨k1,k2,e,f,g,p,r⟩=>by
  obtain⟨h1,h2,d,s,t,q,u⟩:=Dr (M:=M) (L:=L) r;exact⟨Hp.un k1 h1,h2,(Hp.Dj.ui (d.symm) (e.symm.mono t (Hp.Sub.refl _)) |> λx=>(by
   intro n;rcases x n with y | y
   ·exact .inr y
   ·left;simp only[Hp.un]at y ⊢;cases hk:k1 n with
    | some z=>cases hh:h1 n with
     | some u=>simp[hh]at y
     | none=>simp[hh,hk]at y
    | none=>cases hh:h1 n with
     | some u=>simp[hh]at y
     | none=>rfl)),Hp.Dp f (s.trans g),t.trans g,p |> λp=>⟨k1,h1,e.mono (Hp.Sub.refl _) s,Hp.Dn _ _,Hp.ui (e.mono (Hp.Sub.refl _) s),p,q⟩,u⟩
def kV (b:Nat)(o:Obj):SP:=λh=>h b=some o
def aa (b:Nat)(e:TypeId)(cs:List Value):SP:=kV b (.cells cs.toArray e (0,0))
structure U (W w:World)(L:List SP):Prop where
 below:Below W.heap.size W w
 sat:∃ h:Hp,(∀ n o,h n=some o→W.heap.size≤n∧w.heap[n]?=some o)∧cp L h
section
variable {W w:World}{L L' M:List SP}
theorem U.start (W:World):U W W []:=⟨Below.refl _ _,λ_=>none,λ_ _ h=>(by cases h),trivial⟩
theorem U.imp (s:U W w L)(k:∀ h,cp L h→cp L' h):U W w L' :=
 let ⟨b,h,p,q⟩:=s;⟨b,h,p,k h q⟩
theorem U.perm (s:U W w L)(p:L.Perm L'):U W w L':=s.imp λ_=>PY p
theorem U.nil (s:U W w L):U W w []:=s.imp λ_ _=>trivial
theorem U.tail {A:SP}(s:U W w (A::L)):U W w L:=s.imp λ_ ⟨_,_,_,_,b,_,q⟩=>Dq b q
theorem U.drop (s:U W w (M++L)):U W w L:=s.imp λ_ q=>let ⟨_,_,_,_,b,_,q⟩:=Dr q;Dq b q
theorem U.open {A:SP}(s:U W w (A::L))(k:∀ h,A h→cp M h):U W w (M++L) :=
 s.imp λ_ ⟨_,_,d,a,b,p,q⟩=>Ig d a b (k _ p) q
theorem U.shut {A:SP}(s:U W w (M++L))(k:∀ h,cp M h→A h):U W w (A::L) :=
 s.imp λ_ q=>let ⟨h1,h2,d,a,b,p,q⟩:=Dr q;⟨h1,h2,d,a,b,k _ p,q⟩
theorem U.tell {A:SP}{p:Prop}(s:U W w (A::L))(k:∀ h,A h→p):p :=
 let ⟨_,_,_,_,_,_,_,_,x,_⟩:=s;k _ x
theorem U.jL {ι:Type}{A:SP}{p:ι→Prop}{B:ι→SP}(s:U W w (A::L))(k:∀ h,A h→∃ i,p i∧B i h):∃ i,p i∧U W w (B i::L):=by
 obtain⟨b,h,q,h1,h2,d,x,y,z,r⟩:=s;obtain⟨i,hp,hB⟩:=k _ z;exact⟨i,hp,b,h,q,h1,h2,d,x,y,hB,r⟩
theorem U.drew (s:U W w L):U W w.drew L:=⟨s.below.drew,s.sat⟩
theorem U.alloc (s:U W w L)(o:Obj):U W (w.alloc o) (kV w.heap.size o::L):=by
 obtain⟨b,h,p,q⟩:=s;have hn:h w.heap.size=none:=by
  cases e:h w.heap.size with
  | none=>rfl
  | some x=>have:=(p _ _ e).2;simp at this
 refine⟨b.alloc b.size o,λn=>if n=w.heap.size then some o else h n,?_,λn=>if n=w.heap.size then some o else none,h,?_,?_,?_,by simp[kV],q⟩
 ·intro n x e;by_cases hb:n=w.heap.size
  ·simp[hb]at e;subst e;subst hb;exact⟨b.size,by show (w.heap.push o)[w.heap.size]?=_;simp⟩
  ·simp[hb]at e;refine⟨(p _ _ e).1,?_⟩;have:=(p _ _ e).2;show (w.heap.push o)[n]?=_;rw[Array.getElem?_push,ag hb];exact this
 ·intro n;by_cases hb:n=w.heap.size
  ·right;rw[hb];exact hn
  ·left;simp[hb]
 ·intro n x e;by_cases hb:n=w.heap.size <;> simp[hb]at e ⊢;exact e
 ·intro n x e;by_cases hb:n=w.heap.size
  ·rw[hb,hn]at e;cases e
  ·simp[hb,e]
theorem U.has {b:Nat}{o:Obj}(s:U W w (kV b o::L)):W.heap.size≤b∧w.heap[b]?=some o :=
 let ⟨_,_,p,_,_,_,a,_,x,_⟩:=s;p _ _ (a _ _ x)
theorem U.ck {b:Nat}{o o':Obj}{V:World}(s:U W w (kV b o::L))(P2:V.os=w.os)(ht:V.tape=w.tape)(P3:V.output=w.output)
   (hh:V.heap=w.heap.setIfInBounds b o'):U W V (kV b o'::L):=by
 have hb:=s.has;obtain⟨lz,h,p,h1,h2,d,a,k,x,q⟩:=s;have hlt:b<w.heap.size:=by have:=(rf.1 hb.2).1;exact this
 have Ih : h2 b = none := by rcases d b with e | e; · rw [x] at e; cases e
                             ·exact e
 refine⟨lz.trans ⟨P2,ht,P3,by rw[hh];simp,λn hn=>?_⟩,λn=>if n=b then some o' else h n,?_,λn=>if n=b then some o' else none,h2,?_,?_,?_,by simp[kV],q⟩
 ·rw[hh,Array.getElem?_setIfInBounds,ag (by omega)]
 ·intro n y e;by_cases hn:n=b
  ·simp[hn]at e;subst e;subst hn;exact⟨hb.1,by rw[hh,Array.getElem?_setIfInBounds];simp[hlt]⟩
  ·simp[hn]at e;refine⟨(p _ _ e).1,?_⟩;rw[hh,Array.getElem?_setIfInBounds,ag (by omega)];exact (p _ _ e).2
 ·intro n;by_cases hn:n=b
  ·right;rw[hn];exact Ih
  ·left;simp[hn]
 ·intro n y e;by_cases hn:n=b <;> simp[hn]at e ⊢;exact e
 ·intro n y e;by_cases hn:n=b
  ·rw[hn,Ih]at e;cases e
  ·simp[hn];exact k _ _ e
end
theorem U.cell {W w:World}{L:List SP}{b:Nat}{e:TypeId}{cs:List Value}(s:U W w (aa b e cs::L))(i:Nat) :
   w.cell? ⟨b,i,none⟩=cs[i]?:=by
 have:=s.has.2;simp[World.cell?,this]
theorem U.fK {W w:World}{L:List SP}(s:U W w L){a:Addr}(h:a.block<W.heap.size):w.cell? a=W.cell? a:=s.below.cell h
def cD (cs:List Value)(off:Nat)(vs:List Value):List Value:=cs.take off++vs++cs.drop (off+vs.length)
theorem U.setRow {W w:World}{L:List SP}{b:Nat}{e:TypeId}{cs mn:List Value}(s:U W w (aa b e cs::L)) :
   U W (w.setRow b mn.toArray) (aa b e mn::L):=by
 have hb:=s.has.2;refine s.ck (o':=.cells mn.toArray e (0,0)) rfl rfl rfl ?_;apply Array.ext_getElem?;intro i;simp only[World.setRow,Array.getElem?_modify,Array.getElem?_setIfInBounds];by_cases hi:b=i
 ·subst hi;rw[ak rfl,ak rfl,hb];have:b<w.heap.size:=(rf.1 hb).1;simp[this]
 ·simp[hi]
structure Old (w0 w:World):Prop where
 size:w0.heap.size≤w.heap.size
 same:∀ k,k<w0.heap.size→w.heap[k]?=w0.heap[k]?
theorem Old.refl (w:World):Old w w:=⟨bh _,λ_ _=>rfl⟩
theorem Old.cell {w0 w:World}(h:Old w0 w){ad:Addr}{v:Value}(hc:w0.cell? ad=some v):w.cell? ad=some v:=by
 rw[← hc];exact World.cell?_of_block (h.same _ (World.block_lt_of_cell? _ _ hc))
theorem Old.trans {a b c:World}(h:Old a b)(k:Old b c):Old a c:=⟨gC h.size k.size,λn hn=>(k.same n (Ag hn h.size)).trans (h.same n hn)⟩
theorem Old.alloc (w:World)(o:Obj):Old w (w.alloc o):=⟨by simp,λk hk=>Below.heap_alloc _ _ _ hk⟩
end
section
structure Fr (a:Act)(n:Nat)(l:List (Nat×Value)):Prop where
 defers:a.defers=[]
 size:a.tmps.size=n
 has:∀ p∈l,a.tmps[p.1]?=some p.2
def Ii (d:Nat)(l:List (Nat×Value)):Bool:=l.all λp=>!(Nat.beq p.1 d)
def okB (d n:Nat)(l:List (Nat×Value)):Bool:=Nat.ble (d+1) n&&Ii d l
class fx (l:List (Nat×Value))(t:Nat)(v:outParam Value):Prop where mem:(t,v)∈l
instance fx.head {l t v}:fx ((t,v)::l) t v:=⟨jo⟩
instance (priority:=low) fx.tail {l t v p}[h:fx l t v]:fx (p::l) t v:=⟨gU _ h.mem⟩
class Ev (l:List (Nat×Value))(o:Operand)(v:outParam Value):Prop where ev:∀ a n,Fr a n l→a.eval o=v
instance Ev.tmp {l t v}[h:fx l t v]:Ev l (.tmp t) v:=⟨λa n E=>by
 have:=E.has _ h.mem;simp only[Act.eval];simp[Array.getD_eq_getD_getElem?,this]⟩
instance Ev.const {l v}:Ev l (.const v) v:=⟨λ_ _ _=>rfl⟩
instance Ev.func {l f}:Ev l (.func f) (.func (.func f) #[] #[]):=⟨λ_ _ _=>rfl⟩
class nG (l:List (Nat×Value))(os:List Operand)(vs:outParam (List Value)):Prop where ev:∀ a n,Fr a n l→os.map a.eval=vs
instance nG.nil {l}:nG l [] []:=⟨λ_ _ _=>rfl⟩
instance nG.cons {l o os v vs}[h:Ev l o v][k:nG l os vs]:nG l (o::os) (v::vs):=⟨λa n E=>by
 simp[h.ev a n E,k.ev a n E]⟩
class vT (l:List (Nat×Value))(ks:List Nat)(l':outParam (List (Nat×Value))):Prop where sub:∀ p∈l',p∈l
instance vT.nil {l}:vT l [] []:=⟨λ_ h=>by cases h⟩
instance vT.cons {l k ks v l'}[h:fx l k v][r:vT l ks l']:vT l (k::ks) ((k,v)::l'):=⟨λp hp=>by
 rcases List.mem_cons.1 hp with rfl | h'
 ·exact h.mem
 ·exact r.sub _ h'⟩
theorem Fr.ab {a n l l'}(h:Fr a n l)(ks:List Nat)[k:vT l ks l']:Fr a n l':=⟨h.defers,h.size,λp hp=>h.has _ (k.sub _ hp)⟩
class gV (l:List (Nat×Value))(d:Nat)(l':outParam (List (Nat×Value))):Prop where sub:∀ p∈l',p∈l
instance gV.nil {d}:gV [] d []:=⟨λ_ h=>h⟩
instance gV.head {l d v}:gV ((d,v)::l) d l:=⟨λ_ h=>gU _ h⟩
instance (priority:=low) gV.tail {l d p l'}[h:gV l d l']:gV (p::l) d (p::l'):=⟨λq hq=>by
 rcases List.mem_cons.1 hq with rfl | h'
 ·exact jo
 ·exact gU _ (h.sub _ h')⟩
theorem Fr.del {a n l l'}(h:Fr a n l)(d:Nat)[k:gV l d l']:Fr a n l':=⟨h.defers,h.size,λp hp=>h.has _ (k.sub _ hp)⟩
theorem P4 {d n l}(h:okB d n l=true):d<n:=by
 simp only[okB,fL]at h;exact Nat.le_of_ble_eq_true h.1
theorem P5 {d n l}(h:okB d n l=true):∀ p∈l,p.1≠d:=by
 simp only[okB,Ii,fL,all_eq_true]at h;intro p hp e;have:=h.2 p hp;rw[e]at this;have:Nat.beq d d=true:=Nat.beq_refl d;simp[this] at *
theorem Fr.put {a n l d}(h:Fr a n l)(hf:okB d n l=true)(v:Value):Fr (a.put (some d) v) n ((d,v)::l):=by
 have hl:=P4 hf;refine⟨h.defers,by simp[Act.put,h.size],λp hp=>?_⟩;rcases List.mem_cons.1 hp with rfl | hp
 ·simp[Act.put,h.size,hl]
 ·have bT:=P5 hf p hp;simp only[Act.put];rw[Array.getElem?_setIfInBounds,ag (λe=>bT e.symm)];exact h.has _ hp
theorem Fr.enter {m:Nat}{vs:List Value}(hm:vs.length≤m) :
   Fr { tmps:=vs.toArray++Array.replicate (m-vs.toArray.size) undef,defers:=[] } m ((List.range vs.length).zip vs):=by
 refine⟨rfl,by simp;omega,λp hp=>?_⟩;obtain⟨i,hi,rfl⟩:=List.mem_iff_getElem.1 hp;simp only[List.length_zip,length_range]at hi;have hv:i<vs.length:=by omega
 simp only[List.getElem_zip,List.getElem_range];rw[Array.getElem?_append_left (by simp;omega)];simp[hv]
section
variable {P:Program}{ops:Array Oper}{Q:Exit→Act→World→Prop}{a:Act}{w V:World}{K:Act→World→Prop}{o:Oper}{n d:Nat}{l:List (Nat×Value)}{v:Value}
def cH (P:Program)(ops:Array Oper)(Q:Exit→Act→World→Prop)(o:Oper)(K:Act→World→Prop)(a:Act)(w:World):Prop :=
 if Region.wanted o (yielded ops a.tmps) then o.wp P a w K Q∨(o.asks P a w∧LetsOut Q) else K (a.put o.dst undef) w
theorem P6 {rest:List Oper}(h:cH P ops Q o (wpList P ops Q rest) a w):wpList P ops Q (o::rest) a w:=h
theorem Ij (hw:Region.wanted o (yielded ops a.tmps)=true)(hr:(execOp a.eval o).run P w=.ok (.value v) V)
   (h:K (a.put o.dst v) V):cH P ops Q o K a w:=by
 unfold cH;rw[ak hw];left;unfold Oper.wp;rw[hr];exact h
theorem bu {op ty ps af g}(E:Fr a n l)(hw:Region.wanted ⟨some d,op,ty,ps,af,g⟩ (yielded ops a.tmps)=true)
   (hr:(execOp a.eval ⟨some d,op,ty,ps,af,g⟩).run P w=.ok (.value v) V) (hf:okB d n l=true)
   (h:∀ a',Fr a' n ((d,v)::l)→K a' V):cH P ops Q ⟨some d,op,ty,ps,af,g⟩ K a w :=
 Ij hw hr (h _ (E.put hf v))
theorem Ds {op ty ps af g}(E:Fr a n l)(hw:Region.wanted ⟨none,op,ty,ps,af,g⟩ (yielded ops a.tmps)=true)
   (hr:(execOp a.eval ⟨none,op,ty,ps,af,g⟩).run P w=.ok (.value v) V)
   (h:∀ a',Fr a' n l→K a' V):cH P ops Q ⟨none,op,ty,ps,af,g⟩ K a w :=
 Ij hw hr (h _ E)
theorem Dt {op ty ps af g}(E:Fr a n l)(hw:Region.wanted ⟨none,op,ty,ps,af,g⟩ (yielded ops a.tmps)=true)
   (hr:(execOp a.eval ⟨none,op,ty,ps,af,g⟩).run P w=.ok .skip V)
   (h:∀ a',Fr a' n l→K a' V):cH P ops Q ⟨none,op,ty,ps,af,g⟩ K a w:=by
 unfold cH;rw[ak hw];left;unfold Oper.wp;rw[hr];exact h _ E
theorem P7 {op ty ps af g}(E:Fr a n l)(hw:Region.wanted ⟨some d,op,ty,ps,af,g⟩ (yielded ops a.tmps)=false)(hf:okB d n l=true)
   (h:∀ a',Fr a' n ((d,undef)::l)→K a' w):cH P ops Q ⟨some d,op,ty,ps,af,g⟩ K a w:=by
 unfold cH;rw[ag (by rw[hw];simp)];exact h _ (E.put hf undef)
theorem P8 {op ty ps af j s b c dst}(E:Fr a n l)(hj:(ops[j]?).bind (·.dst)=some s)[k:fx l s (.bool c)] :
   Region.wanted ⟨dst,op,ty,ps,af,some (j,b)⟩ (yielded ops a.tmps)=(c==b):=by
 have:=E.has _ k.mem;simp[Region.wanted,yielded,hj,this]
theorem cu {op ty ps af j s b dst}(E:Fr a n l)(hj:(ops[j]?).bind (·.dst)=some s)[k:fx l s (.bool b)] :
   Region.wanted ⟨dst,op,ty,ps,af,some (j,b)⟩ (yielded ops a.tmps)=true:=by rw[P8 E hj];simp
theorem Fr.bool {s:Nat}{c:Bool} {l'}(E:Fr a n l)[k:fx l s (.bool c)][e:gV l s l']{G:Prop}
   (ht:c=true→Fr a n ((s,.bool true)::l')→G) (hf:c=false→Fr a n ((s,.bool false)::l')→G):G:=by
 have hm:=E.has _ k.mem;have hd:=E.del s;cases c with
 | true => exact ht rfl ⟨E.defers, E.size, fun p hp => by
      rcases List.mem_cons.1 hp with rfl | hp
      ·exact hm
      ·exact hd.has _ hp⟩
 | false => exact hf rfl ⟨E.defers, E.size, fun p hp => by
     rcases List.mem_cons.1 hp with rfl | hp
     ·exact hm
     ·exact hd.has _ hp⟩
theorem P9 {x dst ty ps af g}(E:Fr a n l)[e:Ev l x v]:(execOp a.eval ⟨dst,.move x,ty,ps,af,g⟩).run P w=.ok (.value v) w:=by
 simp[execOp,e.ev a n E,pure,Sem.run]
theorem Qa {x dst ty ps af g}(E:Fr a n l)[e:Ev l x v]:(execOp a.eval ⟨dst,.assign x,ty,ps,af,g⟩).run P w=.ok (.value v) w:=by
 simp[execOp,e.ev a n E,pure,Sem.run]
theorem Qb {c x y dst ty ps af g}(E:Fr a n l)[e:Ev l c (.bool true)][f:Ev l x v]:(execOp a.eval ⟨dst,.pick c x y,ty,ps,af,g⟩).run P w=.ok (.value v) w:=by
 simp[execOp,e.ev a n E,f.ev a n E,asBool]
theorem Qc {c x y dst ty ps af g}(E:Fr a n l)[e:Ev l c (.bool false)][f:Ev l y v]:(execOp a.eval ⟨dst,.pick c x y,ty,ps,af,g⟩).run P w=.ok (.value v) w:=by
 simp[execOp,e.ev a n E,f.ev a n E,asBool]
class Ah (v:Value):Prop where h:(∃ ad,v=.pointer (some ad))∨∃ t u,v=.iface t u
instance {ad}:Ah (.pointer (some ad)):=⟨.inl ⟨_,rfl⟩⟩
instance {t u}:Ah (.iface t u):=⟨.inr ⟨_,_,rfl⟩⟩
theorem Qd {x dst ty ps af g}(E:Fr a n l)[e:Ev l x v][k:Ah v]:(execOp a.eval ⟨dst,.nilCheck x,ty,ps,af,g⟩).run P w=.ok (.value v) w:=by
 rcases k.h with ⟨ad,rfl⟩ | ⟨t,u,rfl⟩ <;> simp[execOp,e.ev a n E]
theorem Ik {x y k i j t u dst ty ps af g}(E:Fr a n l)[e:Ev l x (.int k i)][f:Ev l y (.int k j)] :
   (execOp a.eval ⟨dst,.binOp .add t x y u,ty,ps,af,g⟩).run P w=.ok (.value (.int k (k.wrap (i+j)))) w:=by
 simp[execOp,e.ev a n E,f.ev a n E,eqGuard,binOp,Op.intArith]
theorem xZ {x y k i j t u dst ty ps af g}(E:Fr a n l)[e:Ev l x (.int k i)][f:Ev l y (.int k j)] :
   (execOp a.eval ⟨dst,.binOp .sub t x y u,ty,ps,af,g⟩).run P w=.ok (.value (.int k (k.wrap (i-j)))) w:=by
 simp[execOp,e.ev a n E,f.ev a n E,eqGuard,binOp,Op.intArith]
theorem Il {x y k i j t u dst ty ps af g}(E:Fr a n l)[e:Ev l x (.int k i)][f:Ev l y (.int k j)] :
   (execOp a.eval ⟨dst,.binOp .mul t x y u,ty,ps,af,g⟩).run P w=.ok (.value (.int k (k.wrap (i*j)))) w:=by
 simp[execOp,e.ev a n E,f.ev a n E,eqGuard,binOp,Op.intArith]
theorem fU {i:Int}(h1:-9223372036854775808≤i)(h2:i≤9223372036854775807):IntKind.i64.wrap i=i:=IntWalk.i64_in _ (by omega)
theorem Qe {x y i j t u dst ty ps af g}(E:Fr a n l)[e:Ev l x (.int .i64 i)][f:Ev l y (.int .i64 j)](h1:-9223372036854775808≤i+j)(h2:i+j≤9223372036854775807) :
   (execOp a.eval ⟨dst,.binOp .add t x y u,ty,ps,af,g⟩).run P w=.ok (.value (.int .i64 (i+j))) w:=by
 rw[Ik E,fU h1 h2]
theorem Qf {x y i j t u dst ty ps af g}(E:Fr a n l)[e:Ev l x (.int .i64 i)][f:Ev l y (.int .i64 j)](h1:-9223372036854775808≤i-j)(h2:i-j≤9223372036854775807) :
   (execOp a.eval ⟨dst,.binOp .sub t x y u,ty,ps,af,g⟩).run P w=.ok (.value (.int .i64 (i-j))) w:=by
 rw[xZ E,fU h1 h2]
theorem Qg {x y i j t u dst ty ps af g}(E:Fr a n l)[e:Ev l x (.int .i64 i)][f:Ev l y (.int .i64 j)](h1:-9223372036854775808≤i*j)(h2:i*j≤9223372036854775807) :
   (execOp a.eval ⟨dst,.binOp .mul t x y u,ty,ps,af,g⟩).run P w=.ok (.value (.int .i64 (i*j))) w:=by
 rw[Il E,fU h1 h2]
theorem Qh {x y k i j t u dst ty ps af g}(E:Fr a n l)[e:Ev l x (.int k i)][f:Ev l y (.int k j)] :
   (execOp a.eval ⟨dst,.binOp .lss t x y u,ty,ps,af,g⟩).run P w=.ok (.value (.bool (decide (i<j)))) w:=by
 simp[execOp,e.ev a n E,f.ev a n E,eqGuard,binOp,Op.intCmp]
theorem Qi {x y k i j t u dst ty ps af g}(E:Fr a n l)[e:Ev l x (.int k i)][f:Ev l y (.int k j)] :
   (execOp a.eval ⟨dst,.binOp .leq t x y u,ty,ps,af,g⟩).run P w=.ok (.value (.bool (decide (i≤j)))) w:=by
 simp[execOp,e.ev a n E,f.ev a n E,eqGuard,binOp,Op.intCmp]
theorem Qj {x y k i j t u dst ty ps af g}(E:Fr a n l)[e:Ev l x (.int k i)][f:Ev l y (.int k j)] :
   (execOp a.eval ⟨dst,.binOp .gtr t x y u,ty,ps,af,g⟩).run P w=.ok (.value (.bool (decide (j<i)))) w:=by
 simp[execOp,e.ev a n E,f.ev a n E,eqGuard,binOp,Op.intCmp]
theorem Qk {x y k i j t u dst ty ps af g}(E:Fr a n l)[e:Ev l x (.int k i)][f:Ev l y (.int k j)] :
   (execOp a.eval ⟨dst,.binOp .geq t x y u,ty,ps,af,g⟩).run P w=.ok (.value (.bool (decide (j≤i)))) w:=by
 simp[execOp,e.ev a n E,f.ev a n E,eqGuard,binOp,Op.intCmp]
theorem Ql {x y k i j t u dst ty ps af g}(E:Fr a n l)[e:Ev l x (.int k i)][f:Ev l y (.int k j)] :
   (execOp a.eval ⟨dst,.binOp .eql t x y u,ty,ps,af,g⟩).run P w=.ok (.value (.bool (decide (i=j)))) w:=by
 simp[execOp,e.ev a n E,f.ev a n E,eqGuard,binOp,Op.intCmp];rfl
theorem Qm {x y k i j t u dst ty ps af g}(E:Fr a n l)[e:Ev l x (.int k i)][f:Ev l y (.int k j)] :
   (execOp a.eval ⟨dst,.binOp .neq t x y u,ty,ps,af,g⟩).run P w=.ok (.value (.bool (decide (i≠j)))) w:=by
 simp[execOp,e.ev a n E,f.ev a n E,eqGuard,binOp,Op.intCmp,bne];rfl
theorem Qn {x b t dst ty ps af g}(E:Fr a n l)[e:Ev l x (.bool b)]:(execOp a.eval ⟨dst,.unOp .not t x,ty,ps,af,g⟩).run P w=.ok (.value (.bool (!b))) w:=by
 simp[execOp,e.ev a n E,Op.unary]
class uj (v:Value)(b:outParam Bool):Prop where h:v=.pointer none∧b=true∨(∃ ad,v=.pointer (some ad))∧b=false
instance:uj (.pointer none) true:=⟨.inl ⟨rfl,rfl⟩⟩
instance {ad}:uj (.pointer (some ad)) false:=⟨.inr ⟨⟨_,rfl⟩,rfl⟩⟩
theorem Ai {t el:TypeId}(ht:P.underlying t=some (.pointer el)):P.underlying t=some (.pointer (P.pointee t)):=by
 rw[ht];simp[Program.pointee,ht]
theorem Qo {x b t u el dst ty ps af g}(E:Fr a n l)(ht:P.underlying t=some (.pointer el))[e:Ev l x v][k:uj v b] :
   (execOp a.eval ⟨dst,.binOp .eql t x (.const (.pointer none)) u,ty,ps,af,g⟩).run P w=.ok (.value (.bool b)) w:=by
 have hc:a.eval (.const (.pointer none))=.pointer none:=rfl;rcases k.h with ⟨rfl,rfl⟩ | ⟨⟨ad,rfl⟩,rfl⟩
 ·have:=run_eql_pointer_nil (P:=P) (w:=w) t none (Ai ht);simp only[execOp,e.ev a n E,hc,Sem.run_bind];simp[eqGuard,this]
 ·have:=run_eql_pointer_nil (P:=P) (w:=w) t (some ad) (Ai ht);simp only[execOp,e.ev a n E,hc,Sem.run_bind];simp[eqGuard,this]
theorem Qp {x b t u el dst ty ps af g}(E:Fr a n l)(ht:P.underlying t=some (.pointer el))[e:Ev l x v][k:uj v b] :
   (execOp a.eval ⟨dst,.binOp .neq t x (.const (.pointer none)) u,ty,ps,af,g⟩).run P w=.ok (.value (.bool (!b))) w:=by
 have hc:a.eval (.const (.pointer none))=.pointer none:=rfl;rcases k.h with ⟨rfl,rfl⟩ | ⟨⟨ad,rfl⟩,rfl⟩
 ·have:=run_neq_pointer_nil (P:=P) (w:=w) t none (Ai ht);simp only[execOp,e.ev a n E,hc,Sem.run_bind];simp[eqGuard,this]
 ·have:=run_neq_pointer_nil (P:=P) (w:=w) t (some ad) (Ai ht);simp only[execOp,e.ev a n E,hc,Sem.run_bind];simp[eqGuard,this]
end
end
section
class TI (P:Program)(t:TypeId)(z:outParam Value)(size bytes:outParam Nat):Prop where of ::
 h:(P.info? t).map (λi=>(i.zero,i.size,i.bytes))=some (some z,size,bytes)
def og:TypeDesc→Bool | .struct _ | .array _ _=>false | _=>true
class fM (L:List SP)(b:Nat)(e:outParam TypeId)(cs:outParam (List Value))(R:outParam (List SP)):Prop where perm:L.Perm (aa b e cs::R)
instance fM.head {L b e cs}:fM (aa b e cs::L) b e cs L:=⟨lA _⟩
instance (priority:=low) fM.tail {A L b e cs R}[h:fM L b e cs R]:fM (A::L) b e cs (A::R) :=
 ⟨(kq A h.perm).trans (cW _ _ _)⟩
class Cells (v:Value)(vs:outParam (List Value)):Prop where h:v.cells=vs.toArray
instance {vs:List Value}:Cells (.agg vs.toArray) vs:=⟨rfl⟩
instance {b}:Cells (.bool b) [.bool b]:=⟨rfl⟩
instance {k i}:Cells (.int k i) [.int k i]:=⟨rfl⟩
instance {s}:Cells (.string s) [.string s]:=⟨rfl⟩
instance {p}:Cells (.pointer p) [.pointer p]:=⟨rfl⟩
instance {p n c}:Cells (.slice p n c) [.slice p n c]:=⟨rfl⟩
instance {m}:Cells (.map m) [.map m]:=⟨rfl⟩
instance {f x y}:Cells (.func f x y) [.func f x y]:=⟨rfl⟩
instance {t v}:Cells (.iface t v) [.iface t v]:=⟨rfl⟩
class ql (cs:List Value)(i:Nat)(v:Value)(mn:outParam (List Value)):Prop where h:cs.set i v=mn
instance (priority:=low) ql.any {cs i v}:ql cs i v (cs.set i v):=⟨rfl⟩
instance ql.zero {c cs v}:ql (c::cs) 0 v (v::cs):=⟨rfl⟩
instance ql.succ {c cs i v mn}[h:ql cs i v mn]:ql (c::cs) (i+1) v (c::mn):=⟨by rw[List.set_cons_succ,h.h]⟩
class mo (cs:List Value)(off m:Nat)(vs:outParam (List Value)):Prop where h:(cs.drop off).take m=vs
instance (priority:=low) mo.any {cs off m}:mo cs off m ((cs.drop off).take m):=⟨rfl⟩
instance mo.nil {cs}:mo cs 0 0 []:=⟨by simp⟩
instance mo.cons {x cs m vs}[h:mo cs 0 m vs]:mo (x::cs) 0 (m+1) (x::vs):=⟨by
 have:=h.h;simp only[drop_zero] at *;rw[take_succ_cons,this]⟩
class sK (o k:Nat)(r:outParam Nat):Prop where h:o+k=r
instance (priority:=low) sK.any {o k}:sK o k (o+k):=⟨rfl⟩
instance sK.left {o}:sK o 0 o:=⟨rfl⟩
instance sK.right {k}:sK 0 k k:=⟨ep k⟩
def Rd (w:World)(b off:Nat)(vs:List Value):Prop:=∀ j v,vs[j]?=some v→w.cell? ⟨b,off+j,none⟩=some v
theorem jU (b o k:Nat):(⟨b,o,none⟩:Addr).add k=⟨b,o+k,none⟩:=by unfold Addr.add;split <;> simp_all
section
variable {P:Program}{W w:World}{L R:List SP}{b e:Nat}{cs:List Value}
theorem U.jV (s:U W w L)(b:Nat)[k:fM L b e cs R]:U W w (aa b e cs::R):=s.perm k.perm
theorem U.bz (s:U W w L)[k:fM L b e cs R]{off:Nat}{v:Value}(h:cs[off]?=some v):w.cell? ⟨b,off,none⟩=some v:=by
 rw[(s.perm k.perm).cell];exact h
theorem U.qm (s:U W w L)[k:fM L b e cs R]{off:Nat}(m:Nat){vs:List Value}[sc:mo cs off m vs]:Rd w b off vs:=by
 have h:=sc.h;intro j v hj;rw[(s.perm k.perm).cell];rw[← h,rh]at hj;by_cases hm:j<m
 ·rw[ak hm,pj]at hj;exact hj
 ·rw[ag hm]at hj;cases hj
theorem U.ai (s:U W w L)[k:fM L b e cs R]:Rd w b 0 cs:=by
 intro j v hj;rw[(s.perm k.perm).cell,ep];exact hj
theorem Qq {t et}{ad:Addr}{v:Value}(hu:P.underlying t=some et)(hd:og et=true)(hc:w.cell? ad=some v):(loadVar t ad).run P w=.ok v w:=by
 have:(isAgg t).run P w=.ok false w:=by
  simp only[isAgg,Sem.run_bind,eW hu,Result.andThen_ok];cases et <;> first | rfl | (simp[og]at hd)
 simp[loadVar,this,load,Sem.run,hc]
theorem Du {t et z a6}{off:Nat}{vs:List Value}(hu:P.underlying t=some et)(hd:og et=false)(hi:TI P t z vs.length a6)(hc:Rd w b off vs) :
   (loadVar t ⟨b,off,none⟩).run P w=.ok (.agg vs.toArray) w:=by
 have h1:(isAgg t).run P w=.ok true w:=by
  simp only[isAgg,Sem.run_bind,eW hu,Result.andThen_ok];cases et <;> first | rfl | (simp[og]at hd)
 obtain⟨i,h2,_,h3,_⟩:=info_parts hi.h;have h4:(sizeOf t).run P w=.ok vs.length w:=by simp[sizeOf,typeInfo,h2,h3]
 have h5:=run_loadCells_list (P:=P) w ⟨b,off,none⟩ vs (λj v hj=>by rw[jU];exact hc j v hj);simp[loadVar,h1,h4,h5]
end
section
variable {P:Program}{ops:Array Oper}{Q:Exit→Act→World→Prop}{a:Act}{w V W:World}{K:Act→World→Prop}{n d:Nat}{l:List (Nat×Value)}{v:Value}{L R:List SP}
theorem Im {x ad t et dst ty ps af g}(E:Fr a n l)(hu:P.underlying t=some et)(hd:og et=true)[ev:Ev l x (.pointer (some ad))](hc:w.cell? ad=some v) :
   (execOp a.eval ⟨dst,.load t x,ty,ps,af,g⟩).run P w=.ok (.value v) w:=by
 simp[execOp,ev.ev a n E,Instr.loadAt,Instr.sureAddr,Qq hu hd hc]
theorem bQ {x b off t et z a6 vs dst ty ps af g}(E:Fr a n l)(hu:P.underlying t=some et)(hd:og et=false)(hi:TI P t z (List.length vs) a6)[ev:Ev l x (.pointer (some ⟨b,off,none⟩))](hc:Rd w b off vs) :
   (execOp a.eval ⟨dst,.load t x,ty,ps,af,g⟩).run P w=.ok (.value (.agg vs.toArray)) w:=by
 simp[execOp,ev.ev a n E,Instr.loadAt,Instr.sureAddr,Du hu hd hi hc]
theorem mq {t z sz a6}(hi:TI P t z sz a6):(sizeOf t).run P w=.ok sz w:=by
 obtain⟨i,h2,_,h3,_⟩:=info_parts hi.h;simp[sizeOf,typeInfo,h2,h3]
theorem uk {t z sz a6}(hi:TI P t z sz a6):(zeroValue t).run P w=.ok z w:=by
 obtain⟨i,h2,h1,h3,_⟩:=info_parts hi.h;simp[zeroValue,typeInfo,h2,h1]
theorem e5 {t z sz a6 zs ty ps af g}(E:Fr a n l)(hw:Region.wanted ⟨some d,.alloc t,ty,ps,af,g⟩ (yielded ops a.tmps)=true)(I:U W w L)(hi:TI P t z sz a6)[k:Cells z zs]
   (hf:okB d n l=true) (h:∀ b a' V,Fr a' n ((d,.pointer (some ⟨b,0,none⟩))::l)→U W V (aa b t zs::L)→Old w V→K a' V) :
   cH P ops Q ⟨some d,.alloc t,ty,ps,af,g⟩ K a w:=by
 refine bu (v:=.pointer (some ⟨w.heap.size,0,none⟩)) (V:=w.alloc (.cells zs.toArray t)) E hw ?_ hf (λa' de=>h _ _ _ de (I.alloc _) (Old.alloc _ _));simp[execOp,Instr.alloc,uk hi,newVar,newRow,newObj,Sem.run,k.h,Sem.run_bind]
theorem x4 {t x vs ty ps af g}(E:Fr a n l)(hw:Region.wanted ⟨some d,.box t x,ty,ps,af,g⟩ (yielded ops a.tmps)=true)(I:U W w L)[ev:Ev l x v][k:Cells v vs]
   (hf:okB d n l=true) (h:∀ b a' V,Fr a' n ((d,.pointer (some ⟨b,0,none⟩))::l)→U W V (aa b t vs::L)→Old w V→K a' V) :
   cH P ops Q ⟨some d,.box t x,ty,ps,af,g⟩ K a w:=by
 refine bu (v:=.pointer (some ⟨w.heap.size,0,none⟩)) (V:=w.alloc (.cells vs.toArray t)) E hw ?_ hf (λa' de=>h _ _ _ de (I.alloc _) (Old.alloc _ _));simp[execOp,Instr.box,ev.ev a n E,newVar,newRow,newObj,Sem.run,k.h,Sem.run_bind]
theorem Io {t z a6 b e off}{v:Value}{vs cs:List Value}(I:U W w (aa b e cs::R))(hi:TI P t z vs.length a6)(hv:v.cells=vs.toArray)(h1:∀ v∈vs,v.oneCell'=true)
   (hle:off+vs.length≤cs.length):(storeVar t ⟨b,off,none⟩ v).run P w=.ok () (w.setRow b (cD cs off vs).toArray):=by
 have:=run_storeCells_at (P:=P) b off e vs 0 cs.toArray w I.has.2 (by simpa using hle) h1;simp[storeVar,hv,mq hi,this,cD]
theorem Ip {t z a6 x y b e off cs mn ty ps af g}(E:Fr a n l)(hw:Region.wanted ⟨none,.store t x y,ty,ps,af,g⟩ (yielded ops a.tmps)=true)(I:U W w L)
   (hi:TI P t z 1 a6) [ev:Ev l x (.pointer (some ⟨b,off,none⟩))] [um:Ev l y v] [qn:Cells v [v]] [k:fM L b e cs R] (h1:v.oneCell'=true) (hlt:off<cs.length) [sc:ql cs off v mn]
   (h:∀ a' V,Fr a' n l→U W V (aa b e mn::R)→K a' V):cH P ops Q ⟨none,.store t x y,ty,ps,af,g⟩ K a w:=by
 have gW:=I.jV b;have hr:=Io (P:=P) (t:=t) (off:=off) (vs:=[v]) gW hi qn.h (by simpa using h1) (by simp;omega);have he:cD cs off [v]=mn:=by
  rw[← sc.h,cD,ri,ak hlt];simp
 refine Dt (V:=w.setRow b (cD cs off [v]).toArray) E hw ?_ (λa' de=>h a' _ de (he ▸ gW.setRow));simp[execOp,ev.ev a n E,um.ev a n E,Instr.storeAt,Instr.sureAddr,hr]
theorem rj {t z a6 x y b e off cs vs ty ps af g}(E:Fr a n l)(hw:Region.wanted ⟨none,.store t x y,ty,ps,af,g⟩ (yielded ops a.tmps)=true)(I:U W w L)
   (hi:TI P t z (List.length vs) a6) [ev:Ev l x (.pointer (some ⟨b,off,none⟩))] [um:Ev l y v] [qn:Cells v vs] [k:fM L b e cs R] (h1:∀ v∈vs,v.oneCell'=true) (hle:off+vs.length≤cs.length)
   (h:∀ a' V,Fr a' n l→U W V (aa b e (cD cs off vs)::R)→K a' V):cH P ops Q ⟨none,.store t x y,ty,ps,af,g⟩ K a w:=by
 have gW:=I.jV b;have hr:=Io (P:=P) (t:=t) (off:=off) (vs:=vs) gW hi qn.h h1 hle;refine Dt (V:=w.setRow b (cD cs off vs).toArray) E hw ?_ (λa' de=>h a' _ de gW.setRow);simp[execOp,ev.ev a n E,um.ev a n E,Instr.storeAt,Instr.sureAddr,hr]
theorem Qr {t z a6 x y b e cs vs ty ps af g}(E:Fr a n l)(hw:Region.wanted ⟨none,.store t x y,ty,ps,af,g⟩ (yielded ops a.tmps)=true)(I:U W w L)
   (hi:TI P t z (List.length vs) a6) [ev:Ev l x (.pointer (some ⟨b,0,none⟩))] [um:Ev l y v] [qn:Cells v vs] [k:fM L b e cs R] (h1:∀ v∈vs,v.oneCell'=true) (hle:vs.length=cs.length)
   (h:∀ a' V,Fr a' n l→U W V (aa b e vs::R)→K a' V):cH P ops Q ⟨none,.store t x y,ty,ps,af,g⟩ K a w:=by
 refine rj E hw I hi h1 (by omega) (λa' V de gW=>h a' V de ?_)
 rwa [show cD cs 0 vs=vs from by simp[cD,hle]]at gW
theorem Qs {x b off t f k r fs iX z sz a6 dst ty ps af g}(E:Fr a n l)[ev:Ev l x (.pointer (some ⟨b,off,none⟩))](hu:P.underlying t=some (.struct fs))(hf:fs[f]?=some iX)(hi:TI P iX.type z (sz+1) a6)
   (hk:iX.offset=k) [Qt:sK off k r]:(execOp a.eval ⟨dst,.fieldAddr t x f,ty,ps,af,g⟩).run P w=.ok (.value (.pointer (some ⟨b,r,none⟩))) w:=by
 simp[execOp,ev.ev a n E,Instr.fieldAt,eW hu,hf,Instr.sureAddr,fieldPlace,mq hi,jU,hk,Qt.h]
class eA (i:Int)(j:outParam Nat):Prop where h:i=(j:Int)
instance {j:Nat}:eA (j:Int) j:=⟨rfl⟩
instance:eA 0 0:=⟨rfl⟩
instance:eA 1 1:=⟨rfl⟩
instance:eA 2 2:=⟨rfl⟩
instance:eA 3 3:=⟨rfl⟩
instance:eA 4 4:=⟨rfl⟩
instance:eA 7 7:=⟨rfl⟩
instance:eA 8 8:=⟨rfl⟩
instance:eA 16 16:=⟨rfl⟩
instance:eA 24 24:=⟨rfl⟩
instance {x y:Int}{i j:Nat}[h:eA x i][k:eA y j]:eA (x+y) (i+j):=⟨by rw[h.h,k.h];rfl⟩
theorem Iq {x y k i j b off m c t el z sz a6 dst ty ps af g}(E:Fr a n l)[ev:Ev l x (.slice (some ⟨b,off,none⟩) m c)][gD:Ev l y (.int k i)](hu:P.underlying t=some (.slice el))(hi:TI P el z sz a6)[nj:eA i j]
   (hlt:j<m):(execOp a.eval ⟨dst,.indexAddr t x y,ty,ps,af,g⟩).run P w=.ok (.value (.pointer (some ⟨b,off+j*sz,none⟩))) w:=by
 have:=nj.h;subst this;simp[execOp,ev.ev a n E,gD.ev a n E,Instr.indexAt,asIntOf,eW hu,mq hi,jU,hlt]
theorem Qv {x y k i j b off m t el z sz a6 dst ty ps af g}(E:Fr a n l)[ev:Ev l x (.pointer (some ⟨b,off,none⟩))][gD:Ev l y (.int k i)](hu:P.underlying t=some (.array m el))(hi:TI P el z sz a6)[nj:eA i j]
   (hlt:j<m):(execOp a.eval ⟨dst,.indexAddr t x y,ty,ps,af,g⟩).run P w=.ok (.value (.pointer (some ⟨b,off+j*sz,none⟩))) w:=by
 have:=nj.h;subst this;simp[execOp,ev.ev a n E,gD.ev a n E,Instr.indexAt,asIntOf,eW hu,mq hi,jU,hlt,Instr.sureAddr]
theorem Qw {x ad m c t el dst ty ps af g}(E:Fr a n l)[ev:Ev l x (.slice ad m c)](hu:P.underlying t=some (.slice el)) :
   (execOp a.eval ⟨dst,.call ⟨.builtin .len,#[x],#[t]⟩,ty,ps,af,g⟩).run P w=.ok (.value (.int .i64 m)) w:=by
 simp[execOp,resolve,ev.ev a n E,invoke,builtin,Builtin.len_,eW hu,goInt]
theorem Qx {fn xs ys us vs dst ty ps af g}(E:Fr a n l)[e1:nG l xs us][e2:nG l ys vs] :
   (execOp a.eval ⟨dst,.makeFunc fn xs.toArray ys.toArray,ty,ps,af,g⟩).run P w=.ok (.value (.func fn us.toArray vs.toArray)) w:=by
 simp[execOp,Instr.makeFunc,e1.ev a n E,e2.ev a n E]
def hE (P : Program) (f : FuncId) : Bool := match P.funcs[f]? with | some fn => !(fn.name == "runtime.NumGoroutine") && fn.body.isSome | none => false
theorem Aj {f}{vs:Array Value}(h:hE P f=true):(callFunc f vs).run P w=.ok (.enter f vs) w:=by
 simp only[hE]at h;cases hf:P.funcs[f]? with
 | none=>simp[hf]at h
 | some fn =>
  simp only[hf,fL,Bool.not_eq_true']at h;have hb:fn.body.isNone=false:=by cases hb:fn.body <;> simp_all
  simp only[callFunc,program,Sem.run,Sem.run_bind,Result.andThen_ok,hf,h.1,hb];simp
theorem Ir {op ty ps af g dst f}{vs:Array Value}{X:Ending→World→Prop}(hw:Region.wanted ⟨dst,op,ty,ps,af,g⟩ (yielded ops a.tmps)=true)
   (hr:(execOp a.eval ⟨dst,op,ty,ps,af,g⟩).run P w=.ok (.enter f vs) w) (hc:Calls P f vs w X)
   (h:∀ e V,X e V→∃ v,e=.returned v∧K (a.put dst v) V):cH P ops Q ⟨dst,op,ty,ps,af,g⟩ K a w:=by
 unfold cH;rw[ak hw];left;unfold Oper.wp;rw[hr,Oper.upon_enter];refine hc.mono λe V hx=>?_;obtain⟨v,rfl,hv⟩:=h e V hx;exact hv
theorem Is {fn:Func} {t}{X:Ending→World→Prop}(E:Fr a n l)(hr:fn.results=#[.tmp t])[k:fx l t v](h:X (.returned v) w):bodyPost P fn X .ret a w:=by
 refine bodyPost_ret (results_tmp hr _ _ _) E.defers ?_;have:=E.has _ k.mem;simpa [Array.getD_eq_getD_getElem?,this] using h
theorem It {fn:Func} {t u v2}{X:Ending→World→Prop}(E:Fr a n l)(hr:fn.results=#[.tmp t,.tmp u])[k:fx l t v][k2:fx l u v2](h:X (.returned (.tuple #[v,v2])) w):bodyPost P fn X .ret a w:=by
 refine bodyPost_ret (results_tmp2 hr _ _ _) E.defers ?_;have h1:=E.has _ k.mem;have h2:=E.has _ k2.mem;simpa [Array.getD_eq_getD_getElem?,h1,h2] using h
theorem Iu {fn:Func}{X:Ending→World→Prop}(E:Fr a n l)(hr:fn.results=#[])(h:X (.returned (.tuple #[])) w):bodyPost P fn X .ret a w :=
 bodyPost_ret (results_none hr _ _ _) E.defers h
theorem Iv {fn:Func}{X:Ending→World→Prop}(E:Fr a n l)(hr:fn.results=#[])(h:X (.returned (.tuple #[])) w):bodyPost P fn X .normal a w :=
 bodyPost_end (results_none hr _ _ _) E.defers h
theorem Qy {fn:Func} {x ad t}{X:Ending→World→Prop}(E:Fr a n l)(hr:fn.results=#[.cell x t])[k:fx l x (.pointer (some ad))](hl:(loadVar t ad).run P w=.ok v w)(h:X (.returned v) w):bodyPost P fn X .ret a w:=by
 refine bodyPost_ret ?_ E.defers h;have h1:=E.has _ k.mem;simp[results,hr,Array.getD_eq_getD_getElem?,h1,asAddr,hl]
theorem Qz {fn:Func} {x ad t u v2}{X:Ending→World→Prop}(E:Fr a n l)(hr:fn.results=#[.cell x t,.tmp u])[k:fx l x (.pointer (some ad))][k2:fx l u v2](hl:(loadVar t ad).run P w=.ok v w)
   (h:X (.returned (.tuple #[v,v2])) w):bodyPost P fn X .ret a w:=by
 refine bodyPost_ret ?_ E.defers h;have h1:=E.has _ k.mem;have h2:=E.has _ k2.mem;simp[results,hr,Array.getD_eq_getD_getElem?,h1,h2,asAddr,hl]
theorem QA {f m:Nat}{fn:Func}{c:Code}{vs:List Value}{X:Ending→World→Prop}(hf:P.funcs[f]?=some fn)(hb:fn.body=some c)(hn:fn.ntmps=m)(hm:vs.length≤m)
   (h:∀ a,Fr a m ((List.range vs.length).zip vs)→c.wp P (bodyPost P fn X) a w):Calls P f vs.toArray w X :=
 calls_of_wp hf hb (by rw[hn];exact h _ (Fr.enter hm))
theorem cc {x y:Code}{M:Act→World→Prop}(h:x.wp P (Exit.then M Q) a w)(k:∀ a w,M a w→y.wp P Q a w):(Code.seq x y).wp P Q a w:=by
 refine wp_seq (wp_mono h ?_);intro e a' V hq;cases e <;> first | exact k _ _ hq | exact hq
theorem Iw {c:Operand}{x y:Code}(E:Fr a n l)[e:Ev l c (.bool true)](h:x.wp P Q a w):(Code.cond c x y).wp P Q a w:=wp_cond_true (e.ev a n E) h
theorem Ix {c:Operand}{x y:Code}(E:Fr a n l)[e:Ev l c (.bool false)](h:y.wp P Q a w):(Code.cond c x y).wp P Q a w:=wp_cond_false (e.ev a n E) h
theorem QB {i:Nat}(h:Q .normal a w):Exit.inBlock i Q (.exit i) a w:=by simp only[Exit.inBlock,if_true];exact h
theorem QC {i j:Nat}(hn:Nat.beq j i=false)(h:Q (.exit j) a w):Exit.inBlock i Q (.exit j) a w:=by
 simp only[Exit.inBlock];rw[ag (by intro e;subst e;rw[Nat.beq_refl]at hn;cases hn)];exact h
end
end
section
def Sl (e sz:Nat)(ad:Option Addr)(n c:Nat)(cs:List Value):SP:=λh =>
 cs.length=n*sz∧n≤c∧(c=0∨∃ b pre post,ad=some ⟨b,pre.length,none⟩∧(c-n)*sz≤post.length∧aa b e (pre++cs++post) h)
class fk (L:List SP)(ad:Option Addr)(n c e sz:outParam Nat)(cs:outParam (List Value))(R:outParam (List SP)):Prop where perm:L.Perm (Sl e sz ad n c cs::R)
instance fk.head {L ad n c e sz cs}:fk (Sl e sz ad n c cs::L) ad n c e sz cs L:=⟨lA _⟩
instance (priority:=low) fk.tail {A L ad n c e sz cs R}[h:fk L ad n c e sz cs R]:fk (A::L) ad n c e sz cs (A::R) :=
 ⟨(kq A h.perm).trans (cW _ _ _)⟩
class qo (L:List SP)(A:SP)(R:outParam (List SP)):Prop where perm:L.Perm (A::R)
instance qo.head {A L}:qo (A::L) A L:=⟨lA _⟩
instance (priority:=low) qo.tail {B L A R}[h:qo L A R]:qo (B::L) A (B::R):=⟨(kq B h.perm).trans (cW _ _ _)⟩
class fN (L M:List SP)(R:outParam (List SP)):Prop where perm:L.Perm (M++R)
instance fN.nil {L}:fN L [] L:=⟨lA _⟩
instance (priority:=high) fN.refl {L}:fN L L []:=⟨by simp⟩
instance (priority:=low) fN.skip {A L M R}[h:fN L M R]:fN (A::L) M (A::R):=⟨(kq A h.perm).trans (by
 have:=nH (a:=A) (l₁:=M) (l₂:=R);exact this.symm)⟩
instance fN.cons {L A M R R'}[h:qo L A R][k:fN R M R']:fN L (A::M) R':=⟨h.perm.trans (kq A k.perm)⟩
section
variable {P:Program}{W w:World}{L R:List SP}{e sz n c:Nat}{ad:Option Addr}{cs:List Value}
theorem U.pick (s:U W w L)(A:SP)[k:qo L A R]:U W w (A::R):=s.perm k.perm
theorem U.arr {M:List SP}(s:U W w L)[k:fN L M R]:U W w (M++R):=s.perm k.perm
theorem U.sub {M:List SP}(s:U W w L)[k:fN L M R]:U W w M:=by
 have:=(s.perm k.perm).perm (List.perm_append_comm);exact this.drop
theorem U.sl (s:U W w L)(ad:Option Addr)[k:fk L ad n c e sz cs R]:cs.length=n*sz∧n≤c:=(s.perm k.perm).tell λ_ h=>⟨h.1,h.2.1⟩
theorem U.lZ (s:U W w (Sl e sz ad n c cs::L))(h0:0<c):∃ b pre post,(cs.length=n*sz∧n≤c∧ad=some ⟨b,List.length pre,none⟩∧(c-n)*sz≤List.length post)∧U W w (aa b e (pre++cs++post)::L):=by
 obtain⟨⟨b,pre,post⟩,h1,h2⟩:=s.jL (ι:=Nat×List Value×List Value) (p:=λi=>cs.length=n*sz∧n≤c∧ad=some ⟨i.1,i.2.1.length,none⟩∧(c-n)*sz≤i.2.2.length)
  (B:=λi=>aa i.1 e (i.2.1++cs++i.2.2)) (λh hx=>by
   obtain⟨df,dz,a3⟩:=hx;rcases a3 with a3 | ⟨b,pre,post,x,y,z⟩
   ·omega
   ·exact⟨⟨b,pre,post⟩,⟨df,dz,x,y⟩,z⟩)
 exact⟨b,pre,post,h1,h2⟩
theorem U.iY {b:Nat}{pre post:List Value}(s:U W w (aa b e (pre++cs++post)::L))(h1:cs.length=n*sz)(h2:n≤c)(h3:(c-n)*sz≤post.length) :
   U W w (Sl e sz (some ⟨b,pre.length,none⟩) n c cs::L) :=
 U.imp s λ_ ⟨QD,QE,d,a,k,x,q⟩=>⟨QD,QE,d,a,k,⟨h1,h2,.inr ⟨b,pre,post,rfl,h3,x⟩⟩,q⟩
theorem U.bR (s:U W w L)(e sz:Nat)(ad:Option Addr):U W w (Sl e sz ad 0 0 []::L) :=
 ⟨s.below,let ⟨h,p,q⟩:=s.sat;⟨h,p,λ_=>none,h,λ_=>.inl rfl,λ_ _ e=>(by cases e),Hp.Sub.refl _,⟨by simp,bh _,.inl rfl⟩,q⟩⟩
theorem U.bY (s:U W w L)(ad:Option Addr)[k:fk L ad n c e sz cs R](h0:0<n):∃ b off,ad=some ⟨b,off,none⟩∧Rd w b off cs:=by
 have s':=s.perm k.perm;have hn:=s.sl ad;obtain⟨b,pre,post,⟨h1,h2,h3,h4⟩,s2⟩:=s'.lZ (by omega);refine⟨b,pre.length,h3,λj v hj=>?_⟩;rw[s2.cell];have:j<cs.length:=by
  rcases gE j cs.length with h | h
  ·exact h
  ·rw[iD h]at hj;cases hj
 rw[mv (by simp;omega),pn (by omega)];simpa using hj
theorem U.cJ (s:U W w L)(b:Nat)(off:Nat)[k:fk L (some ⟨b,off,none⟩) n c e sz cs R](h0:0<n):Rd w b off cs:=by
 obtain⟨b2,gN,h,hr⟩:=s.bY (some ⟨b,off,none⟩) h0;cases h;exact hr
theorem Rd.part {b off:Nat}{vs:List Value}(h:Rd w b off vs)(i m:Nat):Rd w b (off+i) ((vs.drop i).take m):=by
 intro j v hj;rw[rh]at hj;by_cases hm:j<m
 ·rw[ak hm,pj]at hj;have:=h _ _ hj
  rwa [← Nat.add_assoc]at this
 ·rw[ag hm]at hj;cases hj
theorem x5 (e:TypeId){z:Value}{a6:Nat}(hz:z.cells.size=sz)(m:Nat):(Builtin.zeroCells z.cells m).toList.length=m*sz:=by
 rw[Array.length_toList,size_zeroCells,hz]
theorem QF {t ty:TypeId}{z:Value}{a6:Nat}(ht:P.underlying t=some (.slice e))(hi:TI P e z sz a6)(hz:z.cells.size=sz)(s:U W w (Sl e sz ad n c cs::L))
   (Iy:ad=none→c=0) {b2 gN m c2:Nat} {news:List Value} (hr:Rd w b2 gN news) (hl:news.length=m*sz) (h1:∀ v∈news,v.oneCell'=true) (hm:0<m) (hb:0<a6) (aE:(n+m)*a6≤140737488355328) :
   ∃ au c' V,(Builtin.append_ #[t,t] ty #[.slice ad n c,.slice (some ⟨b2,gN,none⟩) m c2]).run P w=.ok (.slice au (n+m) c') V∧U W V (Sl e sz au (n+m) c' (cs++news)::L)∧(au=none→c'=0):=by
 obtain⟨i,lB,dN,kW,mw⟩:=info_parts hi.h;have qp:=s.sl ad;have QG:n+m≤140737488355328:=gC (Nat.le_mul_of_pos_right _ hb) aE;have oh:∀ j v,news[j]?=some v→w.cell? ((⟨b2,gN,none⟩:Addr).add j)=some v:=λj v hj=>by rw[jU];exact hr j v hj
 by_cases nI:n+m≤c
 ·obtain⟨b,pre,post,⟨df,dz,rfl,a4⟩,s2⟩:=s.lZ (by omega);have eO:(c-n)*sz ≥ m*sz:=nJ _ (by omega);have hf:=run_firstCells_some (P:=P) w i.size m ⟨b2,gN,none⟩ m c2 news (by rw[kW];exact hl) oh;have aT:=run_storeCells_at (P:=P) b (pre.length+n*sz) e news 0 (pre++cs++post).toArray w s2.has.2 (by simp;omega) h1;have e1:(pre++cs++post).take (pre.length+n*sz)=pre++cs:=by rw[← df,← aN,List.take_left]
  have e2:(pre++cs++post).drop (pre.length+n*sz+0+news.length)=post.drop news.length:=by
   rw[← df,Nat.add_zero,← aN,← kr,drop_left]
  refine⟨some ⟨b,pre.length,none⟩,c,w.setRow b (pre++(cs++news)++post.drop news.length).toArray,?_,?_,λh=>by cases h⟩
  ·have rk:(storeCells ⟨b,pre.length+n*sz,none⟩ news 0).run P w=.ok () (w.setRow b (((pre++cs++post).take (pre.length+n*sz)++news)++(pre++cs++post).drop (pre.length+n*sz+0+news.length)).toArray):=aT;rw[e1,e2]at rk;simp[Builtin.append_,eW ht,sizeOf,typeInfo,lB,Builtin.lenOf,nI,jU,kW];rw[kW]at hf;simp[hf,rk,dA]
  ·refine U.iY (pre:=pre) (post:=post.drop news.length) s2.setRow (by simp;rw[hl,df,Nat.add_mul]) (by omega) ?_;simp only[c4];have:(c-(n+m))*sz=(c-n)*sz-m*sz:=by rw[← Nat.sub_mul];congr 1;omega
   omega
 ·have QI:(Builtin.zeroCells z.cells (grownCap w (n+m) c e-(n+m))).toList.length=(grownCap w (n+m) c e-(n+m))*sz:=x5 e (a6:=a6) hz _;have nK:=grownCap_ge w (n+m) c e;have fl:Builtin.nextslicecap (n+m) c*i.bytes≤281474976710656:=by rw[mw];exact growslice_fits (by omega) aE
  have done : ∀ fK : List Value, fK = cs → U W (w.drew.alloc (.cells (fK.toArray ++ news.toArray ++ Builtin.zeroCells z.cells (grownCap w (n + m) c e - (n + m))) e))
      (Sl e sz (some ⟨w.heap.size,0,none⟩) (n+m) (grownCap w (n+m) c e) (cs++news)::L):=by
   intro fK ho;have s3:=(s.tail.drew).alloc (.cells (fK.toArray++news.toArray++Builtin.zeroCells z.cells (grownCap w (n+m) c e-(n+m))) e)
   have Dv : U W (w.drew.alloc (.cells (fK.toArray ++ news.toArray ++ Builtin.zeroCells z.cells (grownCap w (n + m) c e - (n + m))) e))
       (aa w.heap.size e ([]++(cs++news)++(Builtin.zeroCells z.cells (grownCap w (n+m) c e-(n+m))).toList)::L):=by
    have:(fK.toArray++news.toArray++Builtin.zeroCells z.cells (grownCap w (n+m) c e-(n+m)))=([]++(cs++news)++(Builtin.zeroCells z.cells (grownCap w (n+m) c e-(n+m))).toList).toArray:=by
     apply Array.ext';simp[ho]
    rw[this]at s3 ⊢;exact s3
   exact U.iY (pre:=[]) Dv (by simp;rw[hl,qp.1,Nat.add_mul]) nK (by omega)
  by_cases hc:c=0
  ·subst hc;have rl:n=0:=by omega
   subst rl;have eu:cs=[]:=hG (by rw[qp.1];simp);subst eu;cases ad with
   | none =>
    have:=run_append_nil (P:=P) w t ty e i z ht lB dN ⟨b2,gN,none⟩ m c2 news (by rw[kW];exact hl) oh hm (by omega) (by rw[mw];rw[ep]at aE;omega);refine⟨_,_,_,by simpa using this,?_,λh=>by cases h⟩;have:=done [] rfl;simpa using this
   | some b =>
    have:=run_append_grow (P:=P) w t ty e i z ht lB dN b 0 0 [] (by simp) (λj v hj=>by simp at hj) ⟨b2,gN,none⟩ m c2 news (by rw[kW];exact hl) oh (by omega) (by omega) fl;refine⟨_,_,_,by simpa using this,?_,λh=>by cases h⟩;have:=done [] rfl;simpa using this
  ·obtain⟨b,pre,post,⟨df,dz,rfl,a4⟩,s2⟩:=s.lZ (by omega);have holds:∀ j v,cs[j]?=some v→w.cell? ((⟨b,pre.length,none⟩:Addr).add j)=some v:=by
    intro j v hj;rw[jU,s2.cell];have:j<cs.length:=by
     rcases gE j cs.length with h | h
     ·exact h
     ·rw[iD h]at hj;cases hj
    rw[mv (by simp;omega),pn (by omega)];simpa using hj
   have:=run_append_grow (P:=P) w t ty e i z ht lB dN ⟨b,pre.length,none⟩ n c cs (by rw[kW];exact df) holds ⟨b2,gN,none⟩ m c2 news (by rw[kW];exact hl) oh (by omega) (by omega) fl;exact⟨_,_,_,this,done cs rfl,λh=>by cases h⟩
def e6 (ad:Option Addr)(lo c sz:Nat):Option Addr:=if c=lo then ad else ad.map (·.add (lo*sz))
theorem po {b o lo c sz:Nat}(h:c≠lo):e6 (some ⟨b,o,none⟩) lo c sz=some ⟨b,o+lo*sz,none⟩:=by simp[e6,h,jU]
theorem U.Iz (s:U W w (Sl e sz ad n c cs::L)){lo hi:Nat}(h1:lo≤hi)(h2:hi≤n) :
   U W w (Sl e sz (e6 ad lo c sz) (hi-lo) (c-lo) ((cs.drop (lo*sz)).take ((hi-lo)*sz))::L):=by
 have qp:=s.sl ad;have gO:(hi-lo)*sz+lo*sz=hi*sz:=by rw[← Nat.add_mul];congr 1;omega
 have iE:hi*sz≤n*sz:=nJ _ h2;have hlen:((cs.drop (lo*sz)).take ((hi-lo)*sz)).length=(hi-lo)*sz:=by simp;omega
 by_cases hc:c=lo
 ·have hz:hi-lo=0:=by omega
  have ew:c-lo=0:=by omega
  rw[hz,ew];simp only[Nat.zero_mul,take_zero];exact s.tail.bR e sz _
 ·obtain⟨b,pre,post,⟨df,dz,rfl,a4⟩,s2⟩:=s.lZ (by omega);have he:pre++cs++post=(pre++cs.take (lo*sz))++((cs.drop (lo*sz)).take ((hi-lo)*sz))++(cs.drop (hi*sz)++post):=by
   have e1:cs=cs.take (lo*sz)++(cs.drop (lo*sz)).take ((hi-lo)*sz)++cs.drop (hi*sz):=by
    have:cs.drop (hi*sz)=(cs.drop (lo*sz)).drop ((hi-lo)*sz):=by rw[kr];congr 1;omega
    rw[this,dA,jW,jW]
   conv=>lhs;rw[e1]
   simp[dA]
  rw[he]at s2;have eO:(pre++cs.take (lo*sz)).length=pre.length+lo*sz:=by simp;omega
  have:=U.iY (n:=hi-lo) (c:=c-lo) (sz:=sz) s2 hlen (by omega) (by
   simp only[aN,c4];have:(c-lo-(hi-lo))*sz=(c-n)*sz+(n*sz-hi*sz):=by rw[← Nat.sub_mul,← Nat.add_mul];congr 1;omega
   omega)
  rw[eO]at this;simpa [e6,hc,jU] using this
theorem U.Dw (s:U W w L)(ad:Option Addr)(lo hi:Nat)[k:fk L ad n c e sz cs R](h1:lo≤hi)(h2:hi≤n) :
   U W w (Sl e sz (e6 ad lo c sz) (hi-lo) (c-lo) ((cs.drop (lo*sz)).take ((hi-lo)*sz))::R):=(s.perm k.perm).Iz h1 h2
end
section
variable {P:Program}{ops:Array Oper}{Q:Exit→Act→World→Prop}{a:Act}{w V W:World}{K:Act→World→Prop}{o:Oper}{n d:Nat}{l:List (Nat×Value)}{v:Value}{L R:List SP}
theorem qq {t el:TypeId}(ht:P.underlying t=some (.slice el)):P.underlying t=some (.slice (P.elem t))∧P.elem t=el:=by
 constructor <;> simp[Program.elem,ht]
theorem QJ {x y k i j ad m c t el z sz a6 dst ty ps af g}(E:Fr a n l)(ht:P.underlying t=some (.slice el))(hi:TI P el z sz a6)[ev:Ev l x (.slice ad m c)][gD:Ev l y (.int k i)][nj:eA i j](h:j≤m) :
   (execOp a.eval ⟨dst,.slice t x (some y) none none,ty,ps,af,g⟩).run P w=.ok (.value (.slice (e6 ad j c sz) (m-j) (c-j))) w:=by
 have hj:=nj.h;subst hj;have e1:=(qq ht).1;have e2:=(qq ht).2;have:=run_slice_l (P:=P) (w:=w) t ad m c e1 k (j:Int) (by omega) (by omega);rw[e2,mq hi]at this;simp only[Result.andThen_ok,c3]at this;simp[execOp,ev.ev a n E,gD.ev a n E,run_sliceAt_slice (P:=P) (w:=w) t _ _ _ _ e1,this,sliced,e6]
theorem QK {x y k i j ad m c t el z sz a6 dst ty ps af g}(E:Fr a n l)(ht:P.underlying t=some (.slice el))(hi:TI P el z sz a6)[ev:Ev l x (.slice ad m c)][gD:Ev l y (.int k i)][nj:eA i j](h:j≤c) :
   (execOp a.eval ⟨dst,.slice t x none (some y) none,ty,ps,af,g⟩).run P w=.ok (.value (.slice (e6 ad 0 c sz) (j-0) (c-0))) w:=by
 have hj:=nj.h;subst hj;have e1:=(qq ht).1;have e2:=(qq ht).2;have:=run_slice_h (P:=P) (w:=w) t ad m c e1 k (j:Int) (by omega) (by omega);rw[e2,mq hi]at this;simp only[Result.andThen_ok,c3]at this;simp[execOp,ev.ev a n E,gD.ev a n E,run_sliceAt_slice (P:=P) (w:=w) t _ _ _ _ e1,this,sliced,e6]
theorem QL {x y u k k' i i' j j' ad m c t el z sz a6 dst ty ps af g}(E:Fr a n l)(ht:P.underlying t=some (.slice el))(hi:TI P el z sz a6)[ev:Ev l x (.slice ad m c)][gD:Ev l y (.int k i)][uo:Ev l u (.int k' i')][nj:eA i j][x6:eA i' j'](h:j≤j')(h':j'≤c) :
   (execOp a.eval ⟨dst,.slice t x (some y) (some u) none,ty,ps,af,g⟩).run P w=.ok (.value (.slice (e6 ad j c sz) (j'-j) (c-j))) w:=by
 have hj:=nj.h;subst hj;have lC:=x6.h;subst lC;have e1:=(qq ht).1;have e2:=(qq ht).2;have:=run_slice_lh (P:=P) (w:=w) t ad m c e1 k k' (j:Int) (j':Int) (by omega) (by omega) (by omega);rw[e2,mq hi]at this;simp only[Result.andThen_ok,c3]at this;simp[execOp,ev.ev a n E,gD.ev a n E,uo.ev a n E,run_sliceAt_slice (P:=P) (w:=w) t _ _ _ _ e1,this,sliced,e6]
theorem QM {s x t z a6 b2 gN m c2 news e sz ad k c dst ty ps af g}{cs:List Value}(E:Fr a n l)(I:U W w L)(ht:P.underlying t=some (.slice e))(hi:TI P e z sz a6)(hz:z.cells.size=sz)
   [e1:Ev l s (.slice ad k c)] [pk:fk L ad k c e sz cs R] [e2:Ev l x (.slice (some ⟨b2,gN,none⟩) m c2)] (hr:Rd w b2 gN news) (hl:news.length=m*sz) (h1:∀ v∈news,v.oneCell'=true) (hm:0<m) (hb:0<a6)
   (aE:(k+m)*a6≤140737488355328) :
   ∃ au c' V,(execOp a.eval ⟨dst,.call ⟨.builtin .append,#[s,x],#[t,t]⟩,ty,ps,af,g⟩).run P w=.ok (.value (.slice au (k+m) c')) V∧U W V (Sl e sz au (k+m) c' (cs++news)::R):=by
 have gW:=I.perm pk.perm;have Iy:ad=none→c=0:=gW.tell λ_ hx=>by
  rintro rfl;rcases hx.2.2 with h | ⟨_,_,_,h,_⟩
  ·exact h
  ·cases h
 obtain⟨au,c',V,h2,h3,_⟩:=QF (P:=P) (ty:=ty) ht hi hz gW Iy (c2:=c2) hr hl h1 hm hb aE;exact⟨au,c',V,by simp[execOp,resolve,e1.ev a n E,e2.ev a n E,invoke,builtin,h2],h3⟩
theorem cK {s x t z a6 b2 gN m c2 news e sz ad k c ty ps af g}{cs:List Value}(E:Fr a n l)(hw:Region.wanted ⟨some d,.call ⟨.builtin .append,#[s,x],#[t,t]⟩,ty,ps,af,g⟩ (yielded ops a.tmps)=true)(I:U W w L)
   (ht:P.underlying t=some (.slice e)) (hi:TI P e z sz a6) (hz:z.cells.size=sz) (hf:okB d n l=true)
   [e1:Ev l s (.slice ad k c)] [pk:fk L ad k c e sz cs R] [e2:Ev l x (.slice (some ⟨b2,gN,none⟩) m c2)] (hr:Rd w b2 gN news) (hl:news.length=m*sz) (h1:∀ v∈news,v.oneCell'=true) (hm:0<m) (hb:0<a6)
   (aE:(k+m)*a6≤140737488355328)
   (h:∀ au c' a' V,Fr a' n ((d,.slice au (k+m) c')::l)→U W V (Sl e sz au (k+m) c' (cs++news)::R)→K a' V) :
   cH P ops Q ⟨some d,.call ⟨.builtin .append,#[s,x],#[t,t]⟩,ty,ps,af,g⟩ K a w:=by
 obtain⟨au,c',V,h2,h3⟩:=QM (P:=P) (dst:=some d) (ty:=ty) (ps:=ps) (af:=af) (g:=g) E I ht hi hz (s:=s) (x:=x) hr hl h1 hm hb aE;exact bu E hw h2 hf λa' de=>h _ _ a' _ de h3
class uq (l:List (Nat×Value))(parts:List (Nat×Operand))(i:Nat)(fV:outParam (List (List Value))):Prop where
 h:∀ a n,Fr a n l→∃ vs:List Value,parts.map (λp=>(p.1,a.eval p.2))=(List.range' i fV.length).zip vs∧vs.map (·.cells)=fV.map (·.toArray)
instance uq.nil {l i}:uq l [] i []:=⟨λ_ _ _=>⟨[],rfl,rfl⟩⟩
instance uq.cons {l i o v c ps fV}[h1:Ev l o v][h2:Cells v c][h3:uq l ps (i+1) fV]:uq l ((i,o)::ps) i (c::fV):=⟨λa n E=>by
 obtain⟨vs,e1,e2⟩:=h3.h a n E;exact⟨v::vs,by simp[List.range'_succ,e1,h1.ev a n E],by simp[e2,h2.h]⟩⟩
theorem IA (c:List Value):∀ (k:Nat) (off:Nat) (cells:List Value),off+k+c.length≤cells.length →
   (c.zipIdx k).foldl (λ(cs:Array Value) (p:Value×Nat)=>cs.setIfInBounds (off+p.2) p.1) cells.toArray=(cells.take (off+k)++c++cells.drop (off+k+c.length)).toArray:=by
 induction c with
 | nil=>intro k off cells h;simp
 | cons x c ih =>
  intro k off cells h;simp only[fm]at h;simp only[List.zipIdx_cons,foldl_cons,List.setIfInBounds_toArray];rw[ih (k+1) off (cells.set (off+k) x) (by simp;omega)]
  congr 1
  rw[ri,ak (by omega)];have hl:(cells.take (off+k)).length=off+k:=by simp;omega
  have e1:(cells.take (off+k)++x::cells.drop (off+k+1)).take (off+(k+1))=cells.take (off+k)++[x]:=by
   rw[ur,hl,fO (by omega)]
   congr 1
   rw[show off+(k+1)-(off+k)=1 from by omega];simp
  have e2:(cells.take (off+k)++x::cells.drop (off+k+1)).drop (off+(k+1)+c.length)=cells.drop (off+k+(c.length+1)):=by
   rw[List.drop_append,hl,List.drop_of_length_le (by rw[hl];omega),nil_append,show off+(k+1)+c.length-(off+k)=c.length+1 from by omega,List.drop_succ_cons,kr]
   congr 1;omega
  rw[e1,e2];simp
theorem Dx {sz:Nat}:∀ (fV:List (List Value)) (vs:List Value) (i:Nat) (pre oj:List Value),vs.map (·.cells)=fV.map (·.toArray)→(∀ c∈fV,c.length=sz)→pre.length=i*sz→oj.length=fV.length*sz →
   Instr.fill (λi=>some (i*sz,sz)) (pre++oj).toArray ((List.range' i fV.length).zip vs)=some (pre++fV.flatten).toArray
 | [],vs,i,pre,oj,h,_,_,hr=>by
  have:oj=[]:=hG (by simpa using hr);subst this;simp[Instr.fill]
 | c::fV,[],_,_,_,h,_,_,_=>by simp at h
 | c::fV,v::vs,i,pre,oj,h,hc,hp,hr=>by
  simp only[map_cons,List.cons.injEq]at h;have cm:=hc c (by simp);simp only[fm,Nat.succ_mul]at hr;have eu:v.cells.size=sz:=by rw[h.1];simpa using cm
  have ih:=Dx (sz:=sz) fV vs (i+1) (pre++c) (oj.drop sz) h.2 (λx hx=>hc x (by simp[hx])) (by simp[hp,cm,Nat.succ_mul]) (by simp;omega);simp only[fm,List.range'_succ,List.zip_cons_cons,Instr.fill];rw[ag (by simp[eu,hp];omega)];have:=IA c 0 (i*sz) (pre++oj) (by simp[hp];omega);have e1:(pre++oj).take (i*sz)=pre:=by rw[← hp,List.take_left]
  have e2:(pre++oj).drop (i*sz+c.length)=oj.drop sz:=by rw[← hp,← kr,drop_left,cm]
  simp only[Nat.add_zero]at this;rw[e1,e2]at this;have e3:(v.cells.zipIdx.foldl (λ(cs:Array Value) (x:Value×Nat)=>cs.setIfInBounds (i*sz+x.2) x.1) (pre++oj).toArray)=(pre++c++oj.drop sz).toArray:=by
   rw[h.1,← Array.foldl_toList,Array.toList_zipIdx];exact this
  have jr:=ih;simp only[List.flatten_cons] at *;rw[← dA,← jr]
  congr 1
theorem cn {t el z sz a6 m parts fV ty ps af g}(E:Fr a n l)(hw:Region.wanted ⟨some d,.buildSlice t m (List.toArray parts),ty,ps,af,g⟩ (yielded ops a.tmps)=true)(I:U W w L)(ht:P.underlying t=some (.slice el))
   (hi:TI P el z sz a6) (hz:z.cells.size=sz) (hf:okB d n l=true) [sL:uq l parts 0 fV] (hm:fV.length=m) (hc:(fV.all λc=>c.length==sz)=true) (h24:m*sz≤16777216) (h0:0<m*sz)
   (h:∀ b a' V,Fr a' n ((d,.slice (some ⟨b,0,none⟩) m m)::l)→U W V (aa b el fV.flatten::L)→Old w V→K a' V) :
   cH P ops Q ⟨some d,.buildSlice t m (List.toArray parts),ty,ps,af,g⟩ K a w:=by
 obtain⟨vs,e1,e2⟩:=sL.h a n E;have jM:=Dx (sz:=sz) fV vs 0 [] ((List.range (m*sz)).map (λi=>z.cells[i%z.cells.size]!)) e2 (λc x7=>by simpa using all_eq_true.1 hc c x7) (by simp) (by simp[hm]);simp only[nil_append]at jM;refine bu (v:=.slice (some ⟨w.heap.size,0,none⟩) m m) (V:=w.alloc (.cells fV.flatten.toArray el)) E hw ?_ hf (λa' de=>h _ _ _ de (I.alloc _) (Old.alloc _ _));have QN:¬ (16777216<m*sz):=by omega
 have QO:¬ (m*sz=0):=by omega
 have e3:(Array.range (m*sz)).map (λi=>z.cells[i%z.cells.size]!)=((List.range (m*sz)).map (λi=>z.cells[i%z.cells.size]!)).toArray:=by
  apply Array.ext';simp
 simp only[execOp,Sem.run_bind,Instr.buildSlice,eW ht,Result.andThen_ok,mq hi,List.map_toArray,e1,hm];simp only[hm]at jM;simp[QN,uk hi,e3,jM,newRow,newObj,Sem.run,ag QO]
theorem mx {t z a6 x y b off k o' e sz m c cs v ty ps af g}(E:Fr a n l)(hw:Region.wanted ⟨none,.store t x y,ty,ps,af,g⟩ (yielded ops a.tmps)=true)(I:U W w L)
   (hi:TI P t z 1 a6) [ev:Ev l x (.pointer (some ⟨b,o',none⟩))] [um:Ev l y v] [qn:Cells v [v]] [pk:fk L (some ⟨b,off,none⟩) m c e sz cs R] (h1:v.oneCell'=true) (ho:o'=off+k) (hk:k<cs.length)
   (h:∀ a' V,Fr a' n l→U W V (Sl e sz (some ⟨b,off,none⟩) m c (cs.set k v)::R)→K a' V):cH P ops Q ⟨none,.store t x y,ty,ps,af,g⟩ K a w:=by
 subst ho;have js:=I.perm pk.perm;have qp:=js.sl (some ⟨b,off,none⟩);have hc:0<c:=by
  rcases lD c with h0 | h0
  ·have:m=0:=by omega
   subst this;rw[Nat.zero_mul]at qp;omega
  ·exact h0
 obtain⟨b2,pre,post,⟨df,dz,a3,a4⟩,s2⟩:=js.lZ hc;cases a3;refine Ip (cs:=pre++cs++post) (R:=R) E hw s2 hi h1 (by simp only[aN];omega) (λa' V de gW=>h a' V de ?_);have e1:(pre++cs++post).set (pre.length+k) v=pre++cs.set k v++post:=by
  rw[dA,vU _ _ (by omega),show pre.length+k-pre.length=k from by omega,uu _ _ hk,dA]
 rw[e1]at gW;exact U.iY gW (by rw[bt];exact df) dz a4
end
end
section
def hJ (P:Program)(ops:Array Oper)(Q:Exit→Act→World→Prop)(C:World→Prop)(bg:List Nat):Nat→Array Bool→Act→World→Prop
 | 0,bD,a,w=>Region.ready .any ops bD=[]∧Q .normal a w
 | fuel+1,bD,a,w =>
  (Region.ready .any ops bD=[]→Q .normal a w) ∧
  ∀ i∈Region.ready .any ops bD,wpOp P ops Q i (λa' V=>(bg.contains i=true→C V)∧hJ P ops Q C bg fuel (bD.setIfInBounds i true) a' V) a w
def IB (acc:List Nat)(es:List Edge):Nat:=es.foldl (λs e=>if Region.binds .any e then s ||| 2 ^ e.on ||| acc.getD e.on 0 else s) 0
def sM:List Oper→List Nat→List Nat
 | [],acc=>acc
 | o::r,acc=>sM r (acc++[IB acc o.after.toList])
def IC (ops:Array Oper)(bD:Array Bool):Bool :=
 (List.range ops.size).all λj=>!bD.getD j false||match ops[j]? with
  | none=>true
  | some o=>o.after.all λe=>!Region.binds .any e||bD.getD e.on false
def DC (ops:Array Oper)(bD:Array Bool):Prop:=∀ j o,ops[j]?=some o→bD.getD j false=true→∀ e∈o.after,Region.binds .any e=true→bD.getD e.on false=true
def m1 (ops:Array Oper)(bD:Array Bool)(bg:List Nat)(pure:Bool)(i:Nat):Bool :=
 Region.noSelect ops&&IC ops bD&&(Region.ready .any ops bD).contains i&&match ops[i]? with
  | none=>false
  | some oi=>(List.range ops.size).all λj=>j==i||bD.getD j true||((sM ops.toList []).getD j 0).testBit i||match ops[j]? with
   | none=>true
   | some rp=>oi.apart ops rp&&(pure||bg.contains j)
def lb (n m:Nat):Array Bool:=((List.range n).map m.testBit).toArray
def lE (Q:Exit→Act→World→Prop):Prop:=∀ c a (o:Option Tmp) v w,Q (.panic c) (a.put o v) w→Q (.panic c) a w
theorem QQ {K Q}(h:lE Q):lE (Exit.then K Q):=h
theorem QR {i Q}(h:lE Q):lE (Exit.inBlock i Q):=h
theorem QS {P fn X}:lE (bodyPost P fn X):=λc a o v w h=>by
 cases o <;> exact h
section
variable {P:Program}{ops:Array Oper}{Q:Exit→Act→World→Prop}{C:World→Prop}{bg:List Nat}{a:Act}{w:World}{n d:Nat}{l:List (Nat×Value)}{v:Value}
theorem ID:∀ (fuel:Nat) (bD:Array Bool) (a:Act) (w:World),hJ P ops Q C bg fuel bD a w→wpAny P .any ops Q fuel bD a w
 | 0,_,_,_,h=>h
 | fuel+1,_,_,_,h=>⟨h.1,λi hi=>wpOp_mono (λa' V h'=>ID fuel _ a' V h'.2) (h.2 i hi)⟩
theorem IE {bD:Array Bool}(h:IC ops bD=true):DC ops bD:=by
 intro j o hj hl e he hb;have hlt:j<ops.size:=(rf.1 hj).1;have h1:=all_eq_true.1 h j (mem_range.2 hlt);simp only[hl,hj,Bool.not_true,Bool.false_or]at h1;have h2:=Array.all_eq_true_iff_forall_mem.1 h1 e he;simpa [hb] using h2
theorem DC.set {bD:Array Bool}(h:DC ops bD){i:Nat}(hi:i∈Region.ready .any ops bD):DC ops (bD.setIfInBounds i true):=by
 intro j o hj hl e he hb;obtain⟨_,oi,QT,hX⟩:=mem_ready.1 hi;by_cases gP:j=i
 ·subst gP;rw[QT]at hj;cases hj;exact getD_set_true (hX e he hb)
 ·rw[getD_set_ne false (Ne.symm gP)]at hl;exact getD_set_true (h j o hj hl e he hb)
theorem IG {acc:List Nat}{i:Nat}:∀ (es:List Edge) (s:Nat),(es.foldl (λs e=>if Region.binds .any e then s ||| 2 ^ e.on ||| acc.getD e.on 0 else s) s).testBit i=true →
   s.testBit i=true∨∃ e∈es,Region.binds .any e=true∧(e.on=i∨(acc.getD e.on 0).testBit i=true)
 | [],s,h=>.inl h
 | e::es,s,h=>by
  simp only[foldl_cons]at h;rcases IG es _ h with h1 | ⟨x,hx,hb,hi⟩
  ·cases hb:Region.binds .any e with
   | false=>rw[hb]at h1;exact .inl (by simpa using h1)
   | true =>
    rw[hb,ak rfl]at h1;simp only[Nat.testBit_or,Bool.or_eq_true,Nat.testBit_two_pow,qs]at h1;rcases h1 with (h1 | h1) | h1
    ·exact .inl h1
    ·exact .inr ⟨e,jo,hb,.inl h1⟩
    ·exact .inr ⟨e,jo,hb,.inr h1⟩
  ·exact .inr ⟨x,gU _ hx,hb,hi⟩
theorem IH {bD:Array Bool}(h:DC ops bD):∀ (r:List Oper) (acc:List Nat),(∀ j,r[j]?=ops[acc.length+j]?) →
   (∀ k,k<acc.length→(∀ o,ops[k]?=some o→∀ e∈o.after,Region.binds .any e=true→bD.getD e.on false=true)→∀ i,(acc.getD k 0).testBit i=true→bD.getD i false=true) →
   ∀ k,(∀ o,ops[k]?=some o→∀ e∈o.after,Region.binds .any e=true→bD.getD e.on false=true)→∀ i,((sM r acc).getD k 0).testBit i=true→bD.getD i false=true
 | [],acc,_,hinv,k,hk,i,hb=>by
  rcases gE k acc.length with hlt | nK
  ·exact hinv k hlt hk i hb
  ·simp[sM,bl,iD nK]at hb
 | o::r,acc,hr,hinv,k,hk,i,hb=>by
  refine IH h r (acc++[IB acc o.after.toList]) (λj=>?_) ?_ k hk i hb
  ·have:=hr (j+1);simp only[getElem?_cons_succ]at this;rw[this];congr 1;simp;omega
  ·intro k' e7 ca i' lF;simp only[aN,fm,length_nil]at e7;rcases gE k' acc.length with hlt | nK
   ·rw[bl,mv hlt,← bl]at lF;exact hinv k' hlt ca i' lF
   ·obtain rfl:k'=acc.length:=by omega
    rw[bl,pn (bh _)]at lF;simp only[Nat.sub_self,List.getElem?_cons_zero,Option.getD_some]at lF;have ho:ops[acc.length]?=some o:=by have:=hr 0;simpa using this.symm
    rcases IG _ _ lF with h1 | ⟨e,he,nL,h1⟩
    ·simp at h1
    ·have hle:=ca o ho e (Array.mem_toList_iff.1 he) nL;rcases h1 with h1 | h1
     ·rw[← h1];exact hle
     ·rcases gE e.on acc.length with hlt | QU
      ·exact hinv e.on hlt (λo' ku e' QV pq=>h e.on o' ku hle e' QV pq) i' h1
      ·simp[bl,iD QU]at h1
theorem QW {bD:Array Bool}(h:DC ops bD){i:Nat}(hi:bD.getD i false=false)(k:Nat)(hk:∀ o,ops[k]?=some o→∀ e∈o.after,Region.binds .any e=true→bD.getD e.on false=true) :
   ((sM ops.toList []).getD k 0).testBit i=false:=by
 cases hb:((sM ops.toList []).getD k 0).testBit i with
 | false=>rfl
 | true =>
  have:=IH h ops.toList [] (λj=>by simp) (λk hk=>by simp at hk) k hk i hb;rw[hi]at this;cases this
theorem II {T:World→Prop}{i:Nat}{oi:Oper}(hi:ops[i]?=some oi)(I:Region.noSelect ops=true)(kv:lE Q) :
   ∀ (fuel:Nat) (bD:Array Bool) (a:Act) (w:World),
    (∀ j rp,ops[j]?=some rp→j≠i→bD.getD j true=false→((sM ops.toList []).getD j 0).testBit i=false→oi.apart ops rp=true∧∀ V,(bg.contains j=true→C V)→T V) →
    DC ops bD→i∈Region.ready .any ops bD→YieldsIf P ops T oi v a→T w→(∀ V,T V→bg.contains i=true→C V) →
    hJ P ops Q C bg fuel (bD.setIfInBounds i true) (a.put oi.dst v) w→hJ P ops Q C bg (fuel+1) bD a w:=by
 have IJ:=Region.noSelect_spec I;intro fuel
 induction fuel with
 | zero =>
  intro bD a w _ _ hr hy hT Ak H;refine⟨λh=>(by rw[h]at hr;cases hr),λj hj=>?_⟩;by_cases gP:j=i
  ·subst gP;exact hy.wpOp hi hT ⟨Ak w hT,H⟩
  ·have:=ready_mono hj gP;rw[H.1]at this;cases this
 | succ fuel ih =>
  intro bD a w IK vV hr hy hT Ak H;refine⟨λh=>(by rw[h]at hr;cases hr),λj hj=>?_⟩;by_cases gP:j=i
  ·subst gP;exact hy.wpOp hi hT ⟨Ak w hT,H⟩
  ·have h1:=H.2 j (ready_mono hj gP);obtain⟨IL,rp,Al,hX⟩:=mem_ready.1 hj;have QX:bD.getD i false=false:=by
    have h0:=(mem_ready.1 hr).1;rcases gE i bD.size with h' | h'
    ·simp[h']at h0 ⊢;exact h0
    ·simp[Array.getElem?_eq_none h']
   have pv:=QW vV QX j (λo ho e he hb=>by rw[Al]at ho;cases ho;exact hX e he hb);obtain⟨Dy,aT⟩:=IK j rp Al gP IL pv;have h2:=wpOp_putIf (S:=T) Al Dy (λcs b=>IJ i oi cs b hi) (λcs b=>IJ j rp cs b Al) (λc a w=>kv c a oi.dst v w) hy h1;have QY:∀ k ok,ops[k]?=some ok→k≠i→(bD.setIfInBounds j true).getD k true=false→((sM ops.toList []).getD k 0).testBit i=false→oi.apart ops ok=true∧∀ V,(bg.contains k=true→C V)→T V:=λk ok hk IM nM b6=>by
    refine IK k ok hk IM ?_ b6;by_cases qt:j=k
    ·subst qt;exact IL
    ·rw[getD_set_ne true qt]at nM;exact nM
   refine wpOp_mono (λa' V h3=>⟨h3.2.1,ih (bD.setIfInBounds j true) a' V QY (vV.set hj) (ready_mono hr (Ne.symm gP)) h3.1 (aT V h3.2.1) Ak ?_⟩) h2;rw[Array.setIfInBounds_comm _ _ gP];exact h3.2.2
theorem IN {i fuel:Nat}{bD:Array Bool}{oi:Oper}(hi:ops[i]?=some oi)(ht:m1 ops bD bg true i=true)(hn:bg.contains i=false)(kv:lE Q)
   (hy:YieldsIf P ops (λ_=>True) oi v a)
   (h:hJ P ops Q C bg fuel (bD.setIfInBounds i true) (a.put oi.dst v) w):hJ P ops Q C bg (fuel+1) bD a w:=by
 simp only[m1,hi,fL,all_eq_true,mem_range]at ht;obtain⟨⟨⟨h1,h2⟩,h3⟩,h4⟩:=ht;refine II (T:=λ_=>True) hi h1 kv fuel bD a w (λj rp hj bT nM pv=>?_) (IE h2) (by simpa using h3) hy trivial (λ_ _ h=>by rw[hn]at h;cases h) h;have h5:=h4 j (rf.1 hj).1;simp only[hj,pv,nM,Bool.or_eq_true,beq_iff_eq,bT,Bool.false_eq_true,fL,false_or,or_false]at h5;exact⟨h5.1,λ_ _=>trivial⟩
theorem IP {i fuel:Nat}{bD:Array Bool}{oi:Oper}(hi:ops[i]?=some oi)(ht:m1 ops bD bg false i=true)(kv:lE Q)
   (hy:YieldsIf P ops C oi v a) (hC:C w)
   (h:hJ P ops Q C bg fuel (bD.setIfInBounds i true) (a.put oi.dst v) w):hJ P ops Q C bg (fuel+1) bD a w:=by
 simp only[m1,hi,fL,all_eq_true,mem_range]at ht;obtain⟨⟨⟨h1,h2⟩,h3⟩,h4⟩:=ht;refine II (T:=C) hi h1 kv fuel bD a w (λj rp hj bT nM pv=>?_) (IE h2) (by simpa using h3) hy hC (λ_ h _=>h) h;have h5:=h4 j (rf.1 hj).1;simp only[hj,pv,nM,Bool.or_eq_true,beq_iff_eq,bT,Bool.false_eq_true,fL,false_or,or_false]at h5;exact⟨h5.1,λV dg=>dg h5.2⟩
theorem IQ {i fuel:Nat}{bD m2:Array Bool}(hl:bD.setIfInBounds i true=m2) {op ty ps af g}(hi:ops[i]?=some ⟨some d,op,ty,ps,af,g⟩)(ht:m1 ops bD bg true i=true)(hn:bg.contains i=false)(kv:lE Q)
   (E:Fr a n l) (hw:Region.wanted ⟨some d,op,ty,ps,af,g⟩ (yielded ops a.tmps)=true) (hr:∀ w,(execOp a.eval ⟨some d,op,ty,ps,af,g⟩).run P w=.ok (.value v) w) (hf:okB d n l=true)
   (h:∀ a',Fr a' n ((d,v)::l)→hJ P ops Q C bg fuel m2 a' w):hJ P ops Q C bg (fuel+1) bD a w:=by
 subst hl;exact IN hi ht hn kv (.inl ⟨hw,λw _=>hr w⟩) (h _ (E.put hf v))
theorem IS {i fuel:Nat}{bD m2:Array Bool}(hl:bD.setIfInBounds i true=m2) {op ty ps af g}(hi:ops[i]?=some ⟨some d,op,ty,ps,af,g⟩)(ht:m1 ops bD bg false i=true)(kv:lE Q)
   (E:Fr a n l) (hw:Region.wanted ⟨some d,op,ty,ps,af,g⟩ (yielded ops a.tmps)=true) (hr:∀ w,C w→(execOp a.eval ⟨some d,op,ty,ps,af,g⟩).run P w=.ok (.value v) w) (hC:C w) (hf:okB d n l=true)
   (h:∀ a',Fr a' n ((d,v)::l)→hJ P ops Q C bg fuel m2 a' w):hJ P ops Q C bg (fuel+1) bD a w:=by
 subst hl;exact IP hi ht kv (.inl ⟨hw,hr⟩) hC (h _ (E.put hf v))
theorem QZ {i fuel:Nat}{bD m2:Array Bool}(hl:bD.setIfInBounds i true=m2) {op ty ps af g}(hi:ops[i]?=some ⟨some d,op,ty,ps,af,g⟩)(ht:m1 ops bD bg true i=true)(hn:bg.contains i=false)(kv:lE Q)
   (E:Fr a n l) (hw:Region.wanted ⟨some d,op,ty,ps,af,g⟩ (yielded ops a.tmps)=false) (hf:okB d n l=true)
   (h:∀ a',Fr a' n ((d,undef)::l)→hJ P ops Q C bg fuel m2 a' w):hJ P ops Q C bg (fuel+1) bD a w:=by
 subst hl;exact IN hi ht hn kv (.inr ⟨hw,rfl⟩) (h _ (E.put hf undef))
theorem Q0 {i fuel:Nat}{bD m2:Array Bool}(hl:bD.setIfInBounds i true=m2) {op ty ps af g}(hi:ops[i]?=some ⟨some d,op,ty,ps,af,g⟩)(ht:m1 ops bD bg false i=true)(kv:lE Q)
   (E:Fr a n l) (hw:Region.wanted ⟨some d,op,ty,ps,af,g⟩ (yielded ops a.tmps)=false) (hC:C w) (hf:okB d n l=true)
   (h:∀ a',Fr a' n ((d,undef)::l)→hJ P ops Q C bg fuel m2 a' w):hJ P ops Q C bg (fuel+1) bD a w:=by
 subst hl;exact IP hi ht kv (.inr ⟨hw,rfl⟩) hC (h _ (E.put hf undef))
theorem Q1 {i fuel:Nat}{bD m2:Array Bool}(hl:bD.setIfInBounds i true=m2){o:Oper}(hr:Region.ready .any ops bD=[i])(hi:ops[i]?=some o)
   (h:cH P ops Q o (λa' V=>(bg.contains i=true→C V)∧hJ P ops Q C bg fuel m2 a' V) a w):hJ P ops Q C bg (fuel+1) bD a w:=by
 subst hl;refine⟨λh0=>(by rw[hr]at h0;cases h0),λj hj=>?_⟩;rw[hr]at hj;obtain rfl:j=i:=by simpa using hj
 simp only[wpOp,hi];exact h
theorem Q2 {bD:Array Bool}(hr:Region.ready .any ops bD=[])(h:Q .normal a w):∀ fuel,hJ P ops Q C bg fuel bD a w
 | 0=>⟨hr,h⟩
 | _+1=>⟨λ_=>h,by rw[hr];simp⟩
theorem Q3 {id m:Nat}{l0:Array Bool}(C:World→Prop)(bg:List Nat)(hm:P.follows .mixedOrders=true)(hn:ops.size=m)(hl:Array.replicate m false=l0)(kv:lE Q)(h:lE Q→hJ P ops Q C bg m l0 a w.drew):(Code.region id ops true).wp P Q a w:=by
 subst hl;subst hn;exact wp_region_any hm (ID _ _ _ _ (h kv))
theorem Old.rd {w0 w:World}(h:Old w0 w){b off:Nat}{vs:List Value}(hc:Rd w0 b off vs):Rd w b off vs:=λj v hj=>h.cell (hc j v hj)
end
section
variable {P:Program}{ops:Array Oper}{Q:Exit→Act→World→Prop}{C:World→Prop}{bg:List Nat}{a:Act}{w:World}
theorem Q4 {i j fuel:Nat}{bD li IT:Array Bool}(vW:bD.setIfInBounds i true=li)(Q5:bD.setIfInBounds j true=IT){o o':Oper}(hr:Region.ready .any ops bD=[i,j])(hi:ops[i]?=some o)(hj:ops[j]?=some o')
   (h1:cH P ops Q o (λa' V=>(bg.contains i=true→C V)∧hJ P ops Q C bg fuel li a' V) a w) (h2:cH P ops Q o' (λa' V=>(bg.contains j=true→C V)∧hJ P ops Q C bg fuel IT a' V) a w):hJ P ops Q C bg (fuel+1) bD a w:=by
 subst vW;subst Q5;refine⟨λh0=>(by rw[hr]at h0;cases h0),λk hk=>?_⟩;rw[hr]at hk;rcases List.mem_cons.1 hk with rfl | hk
 ·simp only[wpOp,hi];exact h1
 ·obtain rfl:=iF.1 hk;simp only[wpOp,hj];exact h2
end
end
section
class eE (P:Program)(t:TypeId)(kx:outParam (List (Nat×Nat))):Prop where
 h:∃ fs,P.underlying t=some (.struct fs)∧∀ w,(fs.mapM (λf=>do pure (f.offset,← sizeOf f.type)):Sem (Array (Nat×Nat))).run P w=.ok kx.toArray w
class vX (ps:List (Nat×Nat))(i:Nat)(off sz:outParam Nat):Prop where h:ps[i]?=some (off,sz)
instance vX.zero {off sz ps}:vX ((off,sz)::ps) 0 off sz:=⟨rfl⟩
instance vX.succ {p ps i off sz}[h:vX ps i off sz]:vX (p::ps) (i+1) off sz:=⟨by rw[getElem?_cons_succ];exact h.h⟩
class sN (cs:List Value)(off:Nat)(vs:List Value)(out:outParam (List Value)):Prop where h:off+vs.length≤cs.length→cD cs off vs=out
theorem Q6 {cs vs:List Value}{off:Nat}{v:Value}(h:off+(vs.length+1)≤cs.length):cD cs off (v::vs)=cD (cs.set off v) (off+1) vs:=by
 have hl:(cs.take off).length=off:=by simp;omega
 simp only[cD,fm];rw[ri,ak (by omega)];have e1:(cs.take off++v::cs.drop (off+1)).take (off+1)=cs.take off++[v]:=by
  rw[ur,hl,fO (by omega),show off+1-off=1 from by omega];simp
 have e2:(cs.take off++v::cs.drop (off+1)).drop (off+1+vs.length)=cs.drop (off+(vs.length+1)):=by
  rw[List.drop_append,hl,List.drop_of_length_le (by rw[hl];omega),nil_append,show off+1+vs.length-off=vs.length+1 from by omega,List.drop_succ_cons,kr]
  congr 1;omega
 rw[e1,e2];simp
instance (priority:=low) sN.any {cs off vs}:sN cs off vs (cD cs off vs):=⟨λ_=>rfl⟩
instance sN.nil {cs off}:sN cs off [] cs:=⟨λ_=>by simp[cD]⟩
instance sN.cons {cs off v vs IU out}[h1:ql cs off v IU][h2:sN IU (off+1) vs out]:sN cs off (v::vs) out:=⟨λh=>by
 simp only[fm]at h;rw[Q6 h,h1.h];exact h2.h (by rw[← h1.h];simp;omega)⟩
theorem Q7 {cs vs:List Value}{off:Nat}(h:off+vs.length≤cs.length):(cD cs off vs).length=cs.length:=by simp[cD];omega
class my (c:List Value)(n:Nat):Prop where h:c.length=n
instance my.nil:my [] 0:=⟨rfl⟩
instance my.cons {x c n}[h:my c n]:my (x::c) (n+1):=⟨by simp[h.h]⟩
class uv (kx:List (Nat×Nat))(zs:List Value)(l:List (Nat×Value))(parts:List (Nat×Operand))(out:outParam (List Value)):Prop where
 h:(∀ p∈kx,p.1+p.2≤zs.length)→∀ a n,Fr a n l→Instr.fill (kx.toArray[·]?) zs.toArray (parts.map λp=>(p.1,a.eval p.2))=some out.toArray
instance uv.nil {kx zs l}:uv kx zs l [] zs:=⟨λ_ _ _ _=>rfl⟩
instance uv.cons {kx zs l i o ps off sz v c Am out}[h1:vX kx i off sz][h2:Ev l o v][h3:Cells v c][h4:my c sz][h5:sN zs off c Am][h6:uv kx Am l ps out] :
   uv kx zs l ((i,o)::ps) out:=⟨λhp a n E=>by
 have cF:=hp _ (bH h1.h);simp only at cF;have hl:=h4.h;have e1:=h5.h (by rw[hl];exact cF);have cv:Am.length=zs.length:=by rw[← e1];exact Q7 (by rw[hl];exact cF)
 have ih:=h6.h (by rw[cv];exact hp) a n E;simp only[map_cons,Instr.fill,h2.ev a n E];have hg:kx.toArray[i]?=some (off,sz):=by rw[getElem?_toArray];exact h1.h
 simp only[hg];have eu:v.cells.size=sz:=by rw[h3.h];simpa using hl
 rw[ag (by simp[eu];omega)];have hf:=IA c 0 off zs (by rw[hl];omega);have e3:(v.cells.zipIdx.foldl (λ(cs:Array Value) (x:Value×Nat)=>cs.setIfInBounds (off+x.2) x.1) zs.toArray)=Am.toArray:=by
  rw[h3.h,← Array.foldl_toList,Array.toList_zipIdx,← e1];simpa [cD] using hf
 rw[← ih]
 congr 1⟩
section
variable {P:Program}{ops:Array Oper}{Q:Exit→Act→World→Prop}{a:Act}{w V W:World}{K:Act→World→Prop}{n:Nat}{l:List (Nat×Value)}{v:Value}{L R:List SP}
theorem IV {t kx z zs sz a6 parts cs dst ty ps af g}(E:Fr a n l)(hb:eE P t kx)(hi:TI P t z sz a6)[Dz:Cells z zs][Q8:uv kx zs l parts cs](hp:(kx.all λp=>Nat.ble (p.1+p.2) zs.length)=true) :
   (execOp a.eval ⟨dst,.build t (List.toArray parts),ty,ps,af,g⟩).run P w=.ok (.value (.agg cs.toArray)) w:=by
 obtain⟨fs,hu,hm⟩:=hb.h;have hf:=Q8.h (λp Q9=>Nat.le_of_ble_eq_true (all_eq_true.1 hp p Q9)) a n E;simp only[execOp,Sem.run_bind,Instr.build,uk hi,Result.andThen_ok,eW hu,hm,Dz.h];simp only[getElem?_toArray]at hf;simp[hf]
theorem om {x i vs dst ty ps af g}(E:Fr a n l)[e:Ev l x (.tuple (List.toArray vs))](h:vs[i]?=some v):(execOp a.eval ⟨dst,.extract x i,ty,ps,af,g⟩).run P w=.ok (.value v) w:=by
 simp[execOp,e.ev a n E,Instr.extract,h]
theorem run_equalIn_bool {t:TypeId}(ht:P.underlying t=some .bool)(i j:Bool)(k:Nat):(Op.equalIn (k+1) t (.bool i) (.bool j)).run P w=.ok (i==j) w:=by
 simp[Op.equalIn,eW ht]
theorem run_equal_bool {t:TypeId}(ht:P.underlying t=some .bool)(i j:Bool):(Op.equal t (.bool i) (.bool j)).run P w=.ok (i==j) w:=run_equalIn_bool ht i j 9999
theorem run_eql_bool {t:TypeId}(ht:P.underlying t=some .bool)(i j:Bool):(binOp .eql t (.bool i) (.bool j)).run P w=.ok (.bool (i==j)) w:=by
 simp only[binOp];simp[run_equal_bool ht]
theorem run_neq_bool {t:TypeId}(ht:P.underlying t=some .bool)(i j:Bool):(binOp .neq t (.bool i) (.bool j)).run P w=.ok (.bool (i != j)) w:=by
 simp only[binOp];simp[run_equal_bool ht,bne]
theorem Ra {x y i j t u dst ty ps af g}(E:Fr a n l)(ht:P.underlying t=some .bool)[e:Ev l x (.bool i)][f:Ev l y (.bool j)] :
   (execOp a.eval ⟨dst,.binOp .eql t x y u,ty,ps,af,g⟩).run P w=.ok (.value (.bool (i==j))) w:=by
 simp only[execOp,e.ev a n E,f.ev a n E,Sem.run_bind];simp[eqGuard,run_eql_bool ht]
theorem Rb {x y i j t u dst ty ps af g}(E:Fr a n l)(ht:P.underlying t=some .bool)[e:Ev l x (.bool i)][f:Ev l y (.bool j)] :
   (execOp a.eval ⟨dst,.binOp .neq t x y u,ty,ps,af,g⟩).run P w=.ok (.value (.bool (i != j))) w:=by
 simp only[execOp,e.ev a n E,f.ev a n E,Sem.run_bind];simp[eqGuard,run_neq_bool ht]
theorem Rc {x y k i j uw dst ty ps af g}(E:Fr a n l)[e:Ev l x (.int k i)][f:Ev l y (.int k j)] :
   (execOp a.eval ⟨dst,.call ⟨.builtin .min,#[x,y],uw⟩,ty,ps,af,g⟩).run P w=.ok (.value (.int k (min i j))) w:=by
 simp[execOp,resolve,e.ev a n E,f.ev a n E,invoke,builtin,Builtin.min_,Builtin.min2];rw[Int.min_def];split <;> split <;> omega
theorem Re {x y k i j uw dst ty ps af g}(E:Fr a n l)[e:Ev l x (.int k i)][f:Ev l y (.int k j)] :
   (execOp a.eval ⟨dst,.call ⟨.builtin .max,#[x,y],uw⟩,ty,ps,af,g⟩).run P w=.ok (.value (.int k (max i j))) w:=by
 simp[execOp,resolve,e.ev a n E,f.ev a n E,invoke,builtin,Builtin.max_,Builtin.max2];rw[Int.max_def];split <;> split <;> omega
theorem IW {x t el z sz a6 b off m c e cs ty ps af g}(E:Fr a n l)(hw:Region.wanted ⟨none,.call ⟨.builtin .clear,#[x],#[t]⟩,ty,ps,af,g⟩ (yielded ops a.tmps)=true)(I:U W w L)
   (ht:P.underlying t=some (.slice el)) (hi:TI P el z sz a6) (hz:z.cells.size=sz) (h1:z.cells.toList.all (·.oneCell')=true) [ev:Ev l x (.slice (some ⟨b,off,none⟩) m c)] [k:fM L b e cs R] (hle:off+m*sz≤cs.length)
   (h:∀ a' V,Fr a' n l→U W V (aa b e (cD cs off (Builtin.zeroCells z.cells m).toList)::R)→K a' V) :
   cH P ops Q ⟨none,.call ⟨.builtin .clear,#[x],#[t]⟩,ty,ps,af,g⟩ K a w:=by
 have gW:=I.jV b;have jt:=x5 (sz:=sz) e (z:=z) (a6:=a6) hz m;have fW:∀ v∈(Builtin.zeroCells z.cells m).toList,v.oneCell'=true:=by
  intro v hv;simp only[Builtin.zeroCells,Array.toList_map,cV]at hv;obtain⟨i,vY,rfl⟩:=hv;have:i<m*z.cells.size:=by simpa using vY
  have qv : 0 < z.cells.size := by rcases lD z.cells.size with h | h; · rw [h] at this; omega
                                   ·exact h
  have hlt:i%z.cells.size<z.cells.size:=Nat.mod_lt _ qv;rw[getElem!_pos z.cells _ hlt];exact all_eq_true.1 h1 _ (Array.mem_toList_iff.2 (Array.getElem_mem hlt))
 have aT:=run_storeCells_at (P:=P) b off e (Builtin.zeroCells z.cells m).toList 0 cs.toArray w gW.has.2 (by rw[jt];simpa using hle) fW;by_cases hm:m=0
 ·subst hm;refine Ds (v:=.tuple #[]) (V:=w) E hw ?_ λa' de=>h a' w de ?_
  ·simp[execOp,resolve,ev.ev a n E,invoke,builtin,Builtin.clear_,eW ht]
  ·have:(Builtin.zeroCells z.cells 0).toList=[]:=hG (by rw[jt];simp);rw[this];simpa [cD] using gW
 ·refine Ds (v:=.tuple #[]) (V:=w.setRow b (cD cs off (Builtin.zeroCells z.cells m).toList).toArray) E hw ?_ λa' de=>h a' _ de gW.setRow;have:(storeCells ⟨b,off,none⟩ (Builtin.zeroCells z.cells m).toList).run P w=.ok () (w.setRow b (cD cs off (Builtin.zeroCells z.cells m).toList).toArray):=by
   simpa [cD] using aT
  obtain⟨m',rfl⟩:∃ m',m=m'+1:=⟨m-1,by omega⟩;simp[execOp,resolve,ev.ev a n E,invoke,builtin,Builtin.clear_,eW ht,uk hi,this]
end
end
section
def bc (bs:List UInt8):List Value:=bs.map λb=>.int .u8 b.toNat
theorem dt (bs:List UInt8):(bc bs).length=bs.length:=by simp[bc]
theorem eF (bs:List UInt8):∀ v∈bc bs,v.oneCell'=true:=by
 intro v hv;simp only[bc,cV]at hv;obtain⟨b,_,rfl⟩:=hv;rfl
section
variable {P:Program}{ops:Array Oper}{Q:Exit→Act→World→Prop}{a:Act}{w V W:World}{K:Act→World→Prop}{n d:Nat}{l:List (Nat×Value)}{v:Value}{L R:List SP}
theorem Rf {x y u z3 k k' x8 i i' x9 j j' nN ad m c t el z sz a6 dst ty ps af g}(E:Fr a n l)(ht:P.underlying t=some (.slice el))(hi:TI P el z sz a6)[ev:Ev l x (.slice ad m c)][gD:Ev l y (.int k i)][uo:Ev l u (.int k' i')][DA:Ev l z3 (.int x8 x9)]
   [nj:eA i j] [x6:eA i' j'] [DB:eA x9 nN] (h:j≤j') (h':j'≤nN) (Rg:nN≤c) :
   (execOp a.eval ⟨dst,.slice t x (some y) (some u) (some z3),ty,ps,af,g⟩).run P w=.ok (.value (.slice (e6 ad j nN sz) (j'-j) (nN-j))) w:=by
 have hj:=nj.h;subst hj;have lC:=x6.h;subst lC;have DD:=DB.h;subst DD;have e1:=(qq ht).1;have e2:=(qq ht).2;have:=run_slice_lhm (P:=P) (w:=w) t ad m c e1 k k' x8 (j:Int) (j':Int) (nN:Int) (by omega) (by omega) (by omega) (by omega);rw[e2,mq hi]at this;simp only[Result.andThen_ok,c3]at this;simp[execOp,ev.ev a n E,gD.ev a n E,uo.ev a n E,DA.ev a n E,run_sliceAt_slice (P:=P) (w:=w) t _ _ _ _ e1,this,sliced,e6]
theorem Rh {x ad m c t el u dst ty ps af g}(E:Fr a n l)(ht:P.underlying t=some (.slice el))[e:Ev l x (.slice ad m c)] :
   (execOp a.eval ⟨dst,.binOp .eql t x (.const (.slice none 0 0)) u,ty,ps,af,g⟩).run P w=.ok (.value (.bool ad.isNone)) w:=by
 have hc:a.eval (.const (.slice none 0 0))=.slice none 0 0:=rfl;have:=Lib.run_eql_slice_nil (P:=P) w t el ad m c 0 0 ht;simp only[execOp,e.ev a n E,hc,Sem.run_bind];simp[eqGuard,this]
theorem Ri {s x t z sz a6 b off el e k c b2 gN m c2 news ty ps af g}{cs:List Value}(E:Fr a n l)(hw:Region.wanted ⟨some d,.call ⟨.builtin .append,#[s,x],#[t,t]⟩,ty,ps,af,g⟩ (yielded ops a.tmps)=true)(I:U W w L)
   (ht:P.underlying t=some (.slice el)) (hi:TI P el z sz a6) (hf:okB d n l=true) [e1:Ev l s (.slice (some ⟨b,off,none⟩) k c)] [DE:fM L b e cs R] [e2:Ev l x (.slice (some ⟨b2,gN,none⟩) m c2)]
   (hr:Rd w b2 gN news) (hl:news.length=m*sz) (h1:∀ v∈news,v.oneCell'=true) (nI:k+m≤c) (hle:off+k*sz+news.length≤cs.length)
   (h:∀ a' V,Fr a' n ((d,.slice (some ⟨b,off,none⟩) (k+m) c)::l)→U W V (aa b e (cD cs (off+k*sz) news)::R)→K a' V) :
   cH P ops Q ⟨some d,.call ⟨.builtin .append,#[s,x],#[t,t]⟩,ty,ps,af,g⟩ K a w:=by
 obtain⟨i,lB,dN,kW,mw⟩:=info_parts hi.h;have gW:=I.jV b;have oh:∀ j v,news[j]?=some v→w.cell? ((⟨b2,gN,none⟩:Addr).add j)=some v:=λj v hj=>by rw[jU];exact hr j v hj
 have ju:=run_firstCells_some (P:=P) w sz m ⟨b2,gN,none⟩ m c2 news hl oh;have aT:=run_storeCells_at (P:=P) b (off+k*sz) e news 0 cs.toArray w gW.has.2 (by simpa using hle) h1;have rk:(storeCells ⟨b,off+k*sz,none⟩ news).run P w=.ok () (w.setRow b (cD cs (off+k*sz) news).toArray):=by simpa [cD] using aT
 refine bu (v:=.slice (some ⟨b,off,none⟩) (k+m) c) (V:=w.setRow b (cD cs (off+k*sz) news).toArray) E hw ?_ hf (λa' de=>h a' _ de gW.setRow);simp[execOp,resolve,e1.ev a n E,e2.ev a n E,invoke,builtin,Builtin.append_,eW ht,sizeOf,typeInfo,lB,kW,Builtin.lenOf,nI,jU,ju,rk]
def aL (w:World)(ad:Option Addr)(m:Nat)(bs:List UInt8):Prop :=
 bs.length=m∧(ad=none→m=0)∧∀ x,ad=some x→0<m→∃ b off,x=⟨b,off,none⟩∧Rd w b off (bc bs)
theorem Rj (bs:List UInt8):∀ r:List UInt8,(bs.map λb=>(b.toNat:Int)).foldl (λ(r:ByteArray) n=>r.push (UInt8.ofNat n.toNat)) ⟨r.toArray⟩=⟨(r++bs).toArray⟩:=by
 induction bs with
 | nil=>intro r;simp
 | cons b bs ih =>
  intro r;simp only[map_cons,foldl_cons];have:(ByteArray.mk r.toArray).push (UInt8.ofNat (b.toNat:Int).toNat)=ByteArray.mk (r++[b]).toArray:=by
   simp[ByteArray.push]
  rw[this,ih];simp
theorem ky {x t u el ad m c bs dst ty ps af g}(E:Fr a n l)(ht:P.underlying t=some (.slice el))(hu:P.underlying el=some (.int .u8))(gW:P.underlying u=some .string)[ev:Ev l x (.slice ad m c)]
   (hr:aL w ad m bs):(execOp a.eval ⟨dst,.convert t u x,ty,ps,af,g⟩).run P w=.ok (.value (.string ⟨bs.toArray⟩)) w:=by
 have h0:=run_convert_bytes_string (P:=P) w t u el ad m c ht hu gW;obtain⟨h1,h2,h3⟩:=hr;have h4:(Conv.bytesToString (.slice ad m c)).run P w=.ok (.string ⟨bs.toArray⟩) w:=by
  cases ad with
  | none =>
   have:bs=[]:=hG (by rw[h1];exact h2 rfl);subst this;rfl
  | some x =>
   have hl:(loadCells x m).run P w=.ok ((bs.map λb=>(b.toNat:Int)).map (Value.int .u8)).toArray w:=by
    have:=run_loadCells_list (P:=P) w x ((bs.map λb=>(b.toNat:Int)).map (Value.int .u8)) (λj v hj=>by
     have hm:0<m:=by
      rcases lD m with h | h
      ·rw[h]at h1;rw[hG h1]at hj;simp at hj
      ·exact h
     obtain⟨b,off,rfl,dh⟩:=h3 x rfl hm;rw[jU];refine dh j v ?_;simpa [bc] using hj)
    simpa [h1] using this
   have:=run_bytesToString (P:=P) w x m c _ hl;rw[this];have h5:=Rj bs [];simp only[nil_append]at h5;exact dG (λs=>Result.ok (Value.string s) w) h5
 simp[execOp,ev.ev a n E,h0,h4]
theorem sO {x y i j t u dst ty ps af g}(E:Fr a n l)[e:Ev l x (.string i)][f:Ev l y (.string j)] :
   (execOp a.eval ⟨dst,.binOp .eql t x y u,ty,ps,af,g⟩).run P w=.ok (.value (.bool (i.data.toList==j.data.toList))) w:=by
 simp[execOp,e.ev a n E,f.ev a n E,eqGuard,binOp,Op.stringOp,ByteArray.toList_eq]
theorem Rk (x y:UInt8):IntKind.u8.wrap ((x.toNat ^^^ y.toNat:Nat):Int)=((x ^^^ y).toNat:Int):=by
 rw[UInt8.toNat_xor];have h:=(x ^^^ y).toNat_lt;rw[UInt8.toNat_xor]at h;simp only[IntKind.wrap,IntKind.bits,IntKind.signed,Bool.false_and,Bool.false_eq_true,if_false];omega
theorem Rl {x y t u dst ty ps af g}{i j:UInt8}(E:Fr a n l)[e:Ev l x (.int .u8 (i.toNat:Int))][f:Ev l y (.int .u8 (j.toNat:Int))] :
   (execOp a.eval ⟨dst,.binOp .xor t x y u,ty,ps,af,g⟩).run P w=.ok (.value (.int .u8 ((i ^^^ j).toNat:Int))) w:=by
 rw[← Rk];simp[execOp,e.ev a n E,f.ev a n E,eqGuard,binOp,Op.intBits];have h1:i.toNat%2 ^ IntKind.u8.bits=i.toNat:=kX i.toNat_lt;have h2:j.toNat%2 ^ IntKind.u8.bits=j.toNat:=kX j.toNat_lt;rw[h1,h2]
theorem ux {t el z sz a6 ty ps af g}(E:Fr a n l)(hw:Region.wanted ⟨some d,.buildSlice t 0 #[],ty,ps,af,g⟩ (yielded ops a.tmps)=true)(I:U W w L)(ht:P.underlying t=some (.slice el))
   (hi:TI P el z sz a6) (hf:okB d n l=true)
   (h:∀ b a' V,Fr a' n ((d,.slice (some ⟨b,0,none⟩) 0 0)::l)→U W V (Sl el sz (some ⟨b,0,none⟩) 0 0 []::L)→Old w V→K a' V) :
   cH P ops Q ⟨some d,.buildSlice t 0 #[],ty,ps,af,g⟩ K a w:=by
 refine bu (v:=.slice (some ⟨w.heap.size,0,none⟩) 0 0) (V:=w.alloc (.cells #[] el)) E hw ?_ hf (λa' de=>h _ _ _ de ((I.alloc (.cells #[] el)).tail.bR _ _ _) (Old.alloc _ _));simp[execOp,Sem.run_bind,Instr.buildSlice,eW ht,Result.andThen_ok,mq hi,Instr.fill,newRow,newObj,Sem.run];rw[show Array.range 0=#[] from Array.eq_empty_of_size_eq_zero (by simp)];simp
theorem DF {s x t z a6 e sz ad k c ad2 c2 ty ps af g}(E:Fr a n l)(hw:Region.wanted ⟨some d,.call ⟨.builtin .append,#[s,x],#[t,t]⟩,ty,ps,af,g⟩ (yielded ops a.tmps)=true)
   (ht:P.underlying t=some (.slice e)) (hi:TI P e z sz a6) (hf:okB d n l=true) [e1:Ev l s (.slice ad k c)] [e2:Ev l x (.slice ad2 0 c2)] (rq:k≤c)
   (h:∀ a',Fr a' n ((d,.slice ad k c)::l)→K a' w):cH P ops Q ⟨some d,.call ⟨.builtin .append,#[s,x],#[t,t]⟩,ty,ps,af,g⟩ K a w:=by
 obtain⟨i,lB,dN,kW,mw⟩:=info_parts hi.h;have ju:(Builtin.firstCells sz 0 (.slice ad2 0 c2)).run P w=.ok #[] w:=by
  cases ad2 with
  | none=>exact run_firstCells_none (P:=P) w sz 0 0 c2
  | some b=>exact run_firstCells_some (P:=P) w sz 0 b 0 c2 [] (by simp) (λj v hj=>by simp at hj)
 refine bu (v:=.slice ad k c) (V:=w) E hw ?_ hf h;cases ad <;> simp[execOp,resolve,e1.ev a n E,e2.ev a n E,invoke,builtin,Builtin.append_,eW ht,sizeOf,typeInfo,lB,kW,Builtin.lenOf,rq,ju,storeCells]
end
end
section
class yb (P:Program)(t:TypeId):Prop where h:∃ el,P.underlying t=some (.pointer el)
class DG (P:Program)(t:TypeId):Prop where h:∃ el,P.underlying t=some (.slice el)
class DH (P:Program)(t:TypeId):Prop where h:∃ et,P.underlying t=some et∧og et=true
class DI (P:Program)(t:TypeId)(f:Nat)(k:outParam Nat):Prop where h:∃ fs iX z sz a6,P.underlying t=some (.struct fs)∧fs[f]?=some iX∧TI P iX.type z (sz+1) a6∧iX.offset=k
class Ex (P:Program)(l:List (Nat×Value))(op:Go.Op)(v:outParam Value):Prop where
 ex:∀ (a:Act) (n:Nat),Fr a n l→∀ (w:World) (dst ty ps af g),(execOp a.eval ⟨dst,op,ty,ps,af,g⟩).run P w=.ok (.value v) w
section
variable {P:Program}{l:List (Nat×Value)}{v v1 v2:Value}{x y c:Operand}{t u:TypeId}{k:IntKind}{i j:Int}{b:Bool}
instance Ex.move [Ev l x v]:Ex P l (.move x) v:=⟨λ_ _ E _ _ _ _ _ _=>P9 E⟩
instance Ex.assign [Ev l x v]:Ex P l (.assign x) v:=⟨λ_ _ E _ _ _ _ _ _=>Qa E⟩
instance Ex.nilCheck [Ev l x v] [Ah v]:Ex P l (.nilCheck x) v:=⟨λ_ _ E _ _ _ _ _ _=>Qd E⟩
instance Ex.not [Ev l x (.bool b)]:Ex P l (.unOp .not t x) (.bool (!b)):=⟨λ_ _ E _ _ _ _ _ _=>Qn E⟩
instance Ex.lss [Ev l x (.int k i)] [Ev l y (.int k j)]:Ex P l (.binOp .lss t x y u) (.bool (decide (i<j))):=⟨λ_ _ E _ _ _ _ _ _=>Qh E⟩
instance Ex.leq [Ev l x (.int k i)] [Ev l y (.int k j)]:Ex P l (.binOp .leq t x y u) (.bool (decide (i≤j))):=⟨λ_ _ E _ _ _ _ _ _=>Qi E⟩
instance Ex.gtr [Ev l x (.int k i)] [Ev l y (.int k j)]:Ex P l (.binOp .gtr t x y u) (.bool (decide (j<i))):=⟨λ_ _ E _ _ _ _ _ _=>Qj E⟩
instance Ex.geq [Ev l x (.int k i)] [Ev l y (.int k j)]:Ex P l (.binOp .geq t x y u) (.bool (decide (j≤i))):=⟨λ_ _ E _ _ _ _ _ _=>Qk E⟩
instance Ex.eql [Ev l x (.int k i)] [Ev l y (.int k j)]:Ex P l (.binOp .eql t x y u) (.bool (decide (i=j))):=⟨λ_ _ E _ _ _ _ _ _=>Ql E⟩
instance Ex.neq [Ev l x (.int k i)] [Ev l y (.int k j)]:Ex P l (.binOp .neq t x y u) (.bool (decide (i≠j))):=⟨λ_ _ E _ _ _ _ _ _=>Qm E⟩
instance Ex.aeE [yb P t] [Ev l x v] [uj v b]:Ex P l (.binOp .eql t x (.const (.pointer none)) u) (.bool b):=⟨λ_ _ E _ _ _ _ _ _=>(yb.h (P:=P) (t:=t)).elim λ_ h=>Qo E h⟩
instance Ex.aeF [yb P t] [Ev l x v] [uj v b]:Ex P l (.binOp .neq t x (.const (.pointer none)) u) (.bool (!b)):=⟨λ_ _ E _ _ _ _ _ _=>(yb.h (P:=P) (t:=t)).elim λ_ h=>Qp E h⟩
instance Ex.aeG [Ev l x (.tuple #[v1,v2])]:Ex P l (.extract x 0) v1:=⟨λ_ _ E _ _ _ _ _ _=>om E rfl⟩
instance Ex.aeH [Ev l x (.tuple #[v1,v2])]:Ex P l (.extract x 1) v2:=⟨λ_ _ E _ _ _ _ _ _=>om E rfl⟩
instance Ex.len {ad:Option Addr}{m c:Nat} [DG P t] [Ev l x (.slice ad m c)]:Ex P l (.call ⟨.builtin .len,#[x],#[t]⟩) (.int .i64 m):=⟨λ_ _ E _ _ _ _ _ _=>(DG.h (P:=P) (t:=t)).elim λ_ h=>Qw E h⟩
instance Ex.field {bb off f kk r:Nat} [Ev l x (.pointer (some ⟨bb,off,none⟩))] [DI P t f kk] [sK off kk r]:Ex P l (.fieldAddr t x f) (.pointer (some ⟨bb,r,none⟩)):=⟨λ_ _ E _ _ _ _ _ _=>by
 obtain⟨fs,iX,z,sz,a6,h1,h2,h3,h4⟩:=DI.h (P:=P) (t:=t) (f:=f) (k:=kk);exact Qs E h1 h2 h3 h4⟩
end
class BP (b:Bool)(p q:outParam Prop):Prop where
 t:b=true→p
 f:b=false→q
instance BP.lt {i j:Int}:BP (decide (i<j)) (i<j) (j≤i):=⟨m3,λh=>Int.not_lt.1 (of_decide_eq_false h)⟩
instance BP.le {i j:Int}:BP (decide (i≤j)) (i≤j) (j<i):=⟨m3,λh=>Int.not_le.1 (of_decide_eq_false h)⟩
instance BP.eq {i j:Int}:BP (decide (i=j)) (i=j) (¬ i=j):=⟨m3,of_decide_eq_false⟩
instance BP.ne {i j:Int}:BP (decide (i≠j)) (¬ i=j) (i=j):=⟨m3,λh=>Decidable.of_not_not (of_decide_eq_false h)⟩
instance BP.not {b:Bool}{p q:Prop}[h:BP b p q]:BP (!b) q p:=⟨λe=>h.f (by simpa using e),λe=>h.t (by simpa using e)⟩
instance (priority:=low) BP.dec {p:Prop} [Decidable p]:BP (decide p) p (¬ p):=⟨m3,of_decide_eq_false⟩
instance (priority:=10) BP.any {b:Bool}:BP b (b=true) (b=false):=⟨id,id⟩
section
variable {P:Program}{ops:Array Oper}{Q:Exit→Act→World→Prop}{a:Act}{w V:World}{K:Act→World→Prop}{o:Oper}{n d:Nat}{l l':List (Nat×Value)}{v:Value}{op:Go.Op}{ty:TypeId}{ps:String}{af:Array Edge}{rest:List Oper}
theorem S1 (E:Fr a n l)[e:Ex P l op v](h:∀ a',Fr a' n ((d,v)::l)→wpList P ops Q rest a' w)(hf:okB d n l=true:=by rfl):wpList P ops Q (⟨some d,op,ty,ps,af,none⟩::rest) a w :=
 P6 (bu E rfl (e.ex a n E w _ _ _ _ _) hf h)
theorem SK (h:cH P ops Q o (wpList P ops Q rest) a w):wpList P ops Q (o::rest) a w:=h
theorem Rm (h:Q .normal a w):wpList P ops Q [] a w:=h
theorem TN {K:Act→World→Prop}(h:K a w):Exit.then K Q .normal a w:=h
theorem TR {K:Act→World→Prop}(h:Q .ret a w):Exit.then K Q .ret a w:=h
theorem TE {K:Act→World→Prop}{i:Nat}(h:Q (.exit i) a w):Exit.then K Q (.exit i) a w:=h
theorem Rp {i:Nat}(h:Q .normal a w):Exit.inBlock i Q .normal a w:=h
theorem Rq {i:Nat}(h:Q .ret a w):Exit.inBlock i Q .ret a w:=h
theorem Fr.by {s:Nat}{c:Bool} {l'}{p q:Prop}(E:Fr a n l)[k:fx l s (.bool c)][e:gV l s l'][B:BP c p q]{G:Prop}
   (ht:p→Fr a n ((s,.bool true)::l')→G) (hf:q→Fr a n ((s,.bool false)::l')→G):G :=
 E.bool (s:=s) (λh=>ht (B.t h)) (λh=>hf (B.f h))
variable {C:World→Prop}{bg:List Nat}{i fuel m:Nat}{od:List Nat}
def gj (P:Program)(ops:Array Oper)(Q:Exit→Act→World→Prop)(C:World→Prop)(bg:List Nat)(_od:List Nat)(fuel m:Nat)(a:Act)(w:World):Prop:=hJ P ops Q C bg fuel (lb ops.size m) a w
def mz (m i:Nat):Nat:=m ||| 2 ^ i
theorem qw (k m i:Nat):(lb k m).setIfInBounds i true=lb k (mz m i):=by
 apply Array.ext_getElem?;intro j;simp only[lb,List.setIfInBounds_toArray,getElem?_toArray,jX,bm,bf,length_range];by_cases hj:i=j
 ·subst hj;rw[ak rfl];by_cases hi:i<k
  ·rw[ak hi,getElem?_range hi];simp[mz]
  ·rw[ag hi,iD (by simpa using hi)];rfl
 ·rw[ag hj];by_cases hk:j<k
  ·rw[getElem?_range hk];simp[mz,Nat.testBit_two_pow,hj]
  ·rw[iD (by simpa using hk)];rfl
theorem DW {id m:Nat}(C:World→Prop)(bg od:List Nat)(hm:P.follows .mixedOrders=true)(kv:lE Q)(h:lE Q→gj P ops Q C bg od m 0 a w.drew)(hn:ops.size=m:=by kernel_rfl):(Code.region id ops true).wp P Q a w:=by
 subst hn;refine Q3 (m:=ops.size) (l0:=lb ops.size 0) C bg hm rfl ?_ kv h;apply Array.ext_getElem?;intro j;simp only[lb,Nat.zero_testBit,getElem?_toArray,bm,Array.getElem?_replicate];by_cases hj:j<ops.size
 ·rw[ak hj,getElem?_range hj];simp
 ·rw[ag hj,iD (by simpa using hj)];rfl
theorem D1 (hi:ops[i]?=some o)(h:cH P ops Q o (λa' V=>(bg.contains i=true→C V)∧gj P ops Q C bg od fuel (mz m i) a' V) a w)(hr:Region.ready .any ops (lb ops.size m)=[i]:=by kernel_rfl):gj P ops Q C bg (i::od) (fuel+1) m a w :=
 Q1 (qw _ _ _) hr hi h
theorem D2 {j:Nat}{o':Oper}(Rr Rs:List Nat)(hr:Region.ready .any ops (lb ops.size m)=[i,j])(hi:ops[i]?=some o)(hj:ops[j]?=some o')
   (h1:cH P ops Q o (λa' V=>(bg.contains i=true→C V)∧gj P ops Q C bg Rr fuel (mz m i) a' V) a w) (h2:cH P ops Q o' (λa' V=>(bg.contains j=true→C V)∧gj P ops Q C bg Rs fuel (mz m j) a' V) a w):gj P ops Q C bg od (fuel+1) m a w :=
 Q4 (qw _ _ _) (qw _ _ _) hr hi hj h1 h2
theorem Rt (h:Q .normal a w)(hr:Region.ready .any ops (lb ops.size m)=[]:=by kernel_rfl):gj P ops Q C bg [] fuel m a w:=Q2 hr h fuel
end
end
end Go.Proofs.YteoldcfapaiobaaGreat
