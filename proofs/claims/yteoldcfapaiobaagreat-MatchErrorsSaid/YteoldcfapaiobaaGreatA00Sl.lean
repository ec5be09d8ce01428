/- The heap logic: lists of assertions on separate parts of the memory that a call has made, and how they turn with the world. -/
import Derived.Test.YteoldcfapaiobaaGreatAQ
import Derived.WalkKit
import Derived.Laws.CopyRow
import Derived.WalkSpells
import Derived.WalkLawsBesides
import Derived.Deep.LoopGhost
import Derived.OrdersHeld
import Derived.Laws.BytesString
import Derived.Lib.SliceRun
namespace Go.Proofs.YteoldcfapaiobaaGreat
open List (mem_cons_self all_eq_true length_range drop_zero take_succ_cons getElem?_take getElem?_drop set_eq_take_append_cons_drop perm_middle getElem?_append_right drop_drop drop_left take_zero foldl_cons take_append nil_append map_cons set_append_right set_append_left getElem?_cons_succ length_nil mem_range getElem?_toArray getElem?_range mem_singleton)
open Go.RowKit
set_option linter.unusedVariables false
set_option linter.unusedSimpArgs false
set_option maxRecDepth 10000
set_option synthInstance.maxSize 4000
set_option synthInstance.maxHeartbeats 400000
section
abbrev Hp:=Nat→Option Obj
abbrev SP:=Hp→Prop
def Hp.Sub (a b:Hp):Prop:=∀ n o,a n=some o→b n=some o
def Hp.Dj (a b:Hp):Prop:=∀ n,a n=none∨b n=none
def Hp.un (a b:Hp):Hp:=λn=>match a n with | some o=>some o | none=>b n
theorem Hp.Sub.refl (a:Hp):Hp.Sub a a:=λ_ _ h=>h
theorem Hp.Sub.trans {a b c:Hp}(h:Hp.Sub a b)(k:Hp.Sub b c):Hp.Sub a c:=λn o e=>k n o (h n o e)
theorem Hp.Bm (a b:Hp):Hp.Sub a (Hp.un a b):=λn o h=>by simp[Hp.un,h]
theorem Hp.s3 {a b:Hp}(d:Hp.Dj a b):Hp.Sub b (Hp.un a b):=λn o h=>by
 rcases d n with e | e
 ·simp[Hp.un,e,h]
 ·rw[h]at e;cases e
theorem Hp.Bn {a b c:Hp}(h:Hp.Sub a c)(k:Hp.Sub b c):Hp.Sub (Hp.un a b) c:=λn o e=>by
 cases E:a n with
 | some x=>simp[Hp.un,E]at e;subst e;exact h n _ E
 | none=>simp[Hp.un,E]at e;exact k n _ e
theorem Hp.Dj.symm {a b:Hp}(d:Hp.Dj a b):Hp.Dj b a:=λn=>(d n).symm
theorem Hp.Dj.mono {a b a' b':Hp}(d:Hp.Dj a b)(h:Hp.Sub a' a)(k:Hp.Sub b' b):Hp.Dj a' b':=λn=>by
 rcases d n with e | e
 ·left;cases E:a' n with
  | none=>rfl
  | some x=>rw[h n _ E]at e;cases e
 ·right;cases hb:b' n with
  | none=>rfl
  | some x=>rw[k n _ hb]at e;cases e
theorem Hp.Dj.s3 {a b c:Hp}(d:Hp.Dj a b)(k:Hp.Dj a c):Hp.Dj a (Hp.un b c):=λn=>by
 rcases d n with e | e
 ·exact .inl e
 ·rcases k n with f | f
  ·exact .inl f
  ·right;simp[Hp.un,e,f]
def ck:List SP→SP
 | [],_=>True
 | A::L,h=>∃ h1 h2,Hp.Dj h1 h2∧Hp.Sub h1 h∧Hp.Sub h2 h∧A h1∧ck L h2
theorem Bo:∀ {L:List SP} {h h':Hp},Hp.Sub h h'→ck L h→ck L h'
 | [],_,_,_,_=>trivial
 | _::_,_,_,s,⟨h1,h2,d,a,b,p,q⟩=>⟨h1,h2,d,a.trans s,b.trans s,p,q⟩
theorem NO {A B:SP}{L:List SP}{h:Hp}:ck (A::B::L) h→ck (B::A::L) h
 | ⟨h1,h2,d,a,b,p,k1,k2,e,f,g,q,r⟩ =>
  ⟨k1,Hp.un h1 k2,(d.mono (Hp.Sub.refl _) f).symm.s3 e,f.trans b,Hp.Bn a (g.trans b),q,
   h1,k2,d.mono (Hp.Sub.refl _) g,Hp.Bm _ _,Hp.s3 (d.mono (Hp.Sub.refl _) g),p,r⟩
theorem NP {A:SP}{L L':List SP}(k:∀ h,ck L h→ck L' h){h:Hp}:ck (A::L) h→ck (A::L') h
 | ⟨h1,h2,d,a,b,p,q⟩=>⟨h1,h2,d,a,b,p,k _ q⟩
theorem NQ {L L':List SP}(p:L.Perm L'):∀ {h:Hp},ck L h→ck L' h:=by
 induction p with
 | nil=>exact λh=>h
 | cons x _ ih=>exact λh=>NP (λ_=>ih) h
 | swap x y l=>exact λh=>NO h
 | trans _ _ NR NS=>exact λh=>NS (NR h)
theorem Gw:∀ {M L:List SP} {h1 h2 h:Hp},Hp.Dj h1 h2→Hp.Sub h1 h→Hp.Sub h2 h→ck M h1→ck L h2→ck (M++L) h
 | [],_,_,_,_,_,_,s,_,q=>Bo s q
 | _::_,_,h1,h2,_,d,s,t,⟨k1,k2,e,f,g,p,r⟩,q =>
  ⟨k1,Hp.un k2 h2,e.s3 (d.mono f (Hp.Sub.refl _)),f.trans s,Hp.Bn (g.trans s) t,p,
   Gw (d.mono g (Hp.Sub.refl _)) (Hp.Bm _ _) (Hp.s3 (d.mono g (Hp.Sub.refl _))) r q⟩
theorem Bp:∀ {M L:List SP} {h:Hp},ck (M++L) h→∃ h1 h2,Hp.Dj h1 h2∧Hp.Sub h1 h∧Hp.Sub h2 h∧ck M h1∧ck L h2
 | [],_,h,q=>⟨λ_=>none,h,λ_=>.inl rfl,λ_ _ e=>(by cases e),Hp.Sub.refl _,trivial,q⟩
 | _::M,L,h,⟨k1,k2,e,f,g,p,r⟩=>by
  obtain⟨h1,h2,d,s,t,q,u⟩:=Bp (M:=M) (L:=L) r;exact⟨Hp.un k1 h1,h2,(Hp.Dj.s3 (d.symm) (e.symm.mono t (Hp.Sub.refl _)) |> λx=>(by
   intro n;rcases x n with y | y
   ·exact .inr y
   ·left;simp only[Hp.un]at y ⊢;cases hk:k1 n with
    | some z=>cases hh:h1 n with
     | some u=>simp[hh]at y
     | none=>simp[hh,hk]at y
    | none=>cases hh:h1 n with
     | some u=>simp[hh]at y
     | none=>rfl)),Hp.Bn f (s.trans g),t.trans g,p |> λp=>⟨k1,h1,e.mono (Hp.Sub.refl _) s,Hp.Bm _ _,Hp.s3 (e.mono (Hp.Sub.refl _) s),p,q⟩,u⟩
def km (b:Nat)(o:Obj):SP:=λh=>h b=some o
def aa (b:Nat)(e:TypeId)(cs:List Value):SP:=km b (.cells cs.toArray e (0,0))
structure V (W w:World)(L:List SP):Prop where
 below:Below W.heap.size W w
 sat:∃ h:Hp,(∀ n o,h n=some o→W.heap.size≤n∧w.heap[n]?=some o)∧ck L h
section
variable {W w:World}{L L' M:List SP}
theorem V.start (W:World):V W W []:=⟨Below.refl _ _,λ_=>none,λ_ _ h=>(by cases h),trivial⟩
theorem V.imp (s:V W w L)(k:∀ h,ck L h→ck L' h):V W w L' :=
 let ⟨b,h,p,q⟩:=s;⟨b,h,p,k h q⟩
theorem V.perm (s:V W w L)(p:L.Perm L'):V W w L':=s.imp λ_=>NQ p
theorem V.nil (s:V W w L):V W w []:=s.imp λ_ _=>trivial
theorem V.tail {A:SP}(s:V W w (A::L)):V W w L:=s.imp λ_ ⟨_,_,_,_,b,_,q⟩=>Bo b q
theorem V.drop (s:V W w (M++L)):V W w L:=s.imp λ_ q=>let ⟨_,_,_,_,b,_,q⟩:=Bp q;Bo b q
theorem V.open {A:SP}(s:V W w (A::L))(k:∀ h,A h→ck M h):V W w (M++L) :=
 s.imp λ_ ⟨_,_,d,a,b,p,q⟩=>Gw d a b (k _ p) q
theorem V.shut {A:SP}(s:V W w (M++L))(k:∀ h,ck M h→A h):V W w (A::L) :=
 s.imp λ_ q=>let ⟨h1,h2,d,a,b,p,q⟩:=Bp q;⟨h1,h2,d,a,b,k _ p,q⟩
theorem V.tell {A:SP}{p:Prop}(s:V W w (A::L))(k:∀ h,A h→p):p :=
 let ⟨_,_,_,_,_,_,_,_,x,_⟩:=s;k _ x
theorem V.jj {ι:Type}{A:SP}{p:ι→Prop}{B:ι→SP}(s:V W w (A::L))(k:∀ h,A h→∃ i,p i∧B i h):∃ i,p i∧V W w (B i::L):=by
 obtain⟨b,h,q,h1,h2,d,x,y,z,r⟩:=s;obtain⟨i,hp,hB⟩:=k _ z;exact⟨i,hp,b,h,q,h1,h2,d,x,y,hB,r⟩
theorem V.drew (s:V W w L):V W w.drew L:=⟨s.below.drew,s.sat⟩
theorem V.alloc (s:V W w L)(o:Obj):V W (w.alloc o) (km w.heap.size o::L):=by
 obtain⟨b,h,p,q⟩:=s;have hn:h w.heap.size=none:=by
  cases e:h w.heap.size with
  | none=>rfl
  | some x=>have:=(p _ _ e).2;simp at this
 refine⟨b.alloc b.size o,λn=>if n=w.heap.size then some o else h n,?_,λn=>if n=w.heap.size then some o else none,h,?_,?_,?_,by simp[km],q⟩
 ·intro n x e;by_cases hb:n=w.heap.size
  ·simp[hb]at e;subst e;subst hb;exact⟨b.size,by show (w.heap.push o)[w.heap.size]?=_;simp⟩
  ·simp[hb]at e;refine⟨(p _ _ e).1,?_⟩;have:=(p _ _ e).2;show (w.heap.push o)[n]?=_;rw[Array.getElem?_push,ae hb];exact this
 ·intro n;by_cases hb:n=w.heap.size
  ·right;rw[hb];exact hn
  ·left;simp[hb]
 ·intro n x e;by_cases hb:n=w.heap.size <;> simp[hb]at e ⊢;exact e
 ·intro n x e;by_cases hb:n=w.heap.size
  ·rw[hb,hn]at e;cases e
  ·simp[hb,e]
theorem V.has {b:Nat}{o:Obj}(s:V W w (km b o::L)):W.heap.size≤b∧w.heap[b]?=some o :=
 let ⟨_,_,p,_,_,_,a,_,x,_⟩:=s;p _ _ (a _ _ x)
theorem V.ca {b:Nat}{o o':Obj}{w':World}(s:V W w (km b o::L))(NT:w'.os=w.os)(ht:w'.tape=w.tape)(NU:w'.output=w.output)
   (hh:w'.heap=w.heap.setIfInBounds b o'):V W w' (km b o'::L):=by
 have hb:=s.has;obtain⟨mx,h,p,h1,h2,d,a,k,x,q⟩:=s;have hlt:b<w.heap.size:=by have:=(Array.getElem?_eq_some_iff.1 hb.2).1;exact this
 have Gx : h2 b = none := by rcases d b with e | e; · rw [x] at e; cases e
                             ·exact e
 refine⟨mx.trans ⟨NT,ht,NU,by rw[hh];simp,λn hn=>?_⟩,λn=>if n=b then some o' else h n,?_,λn=>if n=b then some o' else none,h2,?_,?_,?_,by simp[km],q⟩
 ·rw[hh,Array.getElem?_setIfInBounds,ae (by omega)]
 ·intro n y e;by_cases hn:n=b
  ·simp[hn]at e;subst e;subst hn;exact⟨hb.1,by rw[hh,Array.getElem?_setIfInBounds];simp[hlt]⟩
  ·simp[hn]at e;refine⟨(p _ _ e).1,?_⟩;rw[hh,Array.getElem?_setIfInBounds,ae (by omega)];exact (p _ _ e).2
 ·intro n;by_cases hn:n=b
  ·right;rw[hn];exact Gx
  ·left;simp[hn]
 ·intro n y e;by_cases hn:n=b <;> simp[hn]at e ⊢;exact e
 ·intro n y e;by_cases hn:n=b
  ·rw[hn,Gx]at e;cases e
  ·simp[hn];exact k _ _ e
end
theorem V.cell {W w:World}{L:List SP}{b:Nat}{e:TypeId}{cs:List Value}(s:V W w (aa b e cs::L))(i:Nat) :
   w.cell? ⟨b,i,none⟩=cs[i]?:=by
 have:=s.has.2;simp[World.cell?,this]
theorem V.gq {W w:World}{L:List SP}(s:V W w L){a:Addr}(h:a.block<W.heap.size):w.cell? a=W.cell? a:=s.below.cell h
def cC (cs:List Value)(off:Nat)(vs:List Value):List Value:=cs.take off++vs++cs.drop (off+vs.length)
theorem V.setRow {W w:World}{L:List SP}{b:Nat}{e:TypeId}{cs lJ:List Value}(s:V W w (aa b e cs::L)) :
   V W (w.setRow b lJ.toArray) (aa b e lJ::L):=by
 have hb:=s.has.2;refine s.ca (o':=.cells lJ.toArray e (0,0)) rfl rfl rfl ?_;apply Array.ext_getElem?;intro i;simp only[World.setRow,Array.getElem?_modify,Array.getElem?_setIfInBounds];by_cases hi:b=i
 ·subst hi;rw[al rfl,al rfl,hb];have:b<w.heap.size:=(Array.getElem?_eq_some_iff.1 hb).1;simp[this]
 ·simp[hi]
structure Old (w0 w:World):Prop where
 size:w0.heap.size≤w.heap.size
 same:∀ k,k<w0.heap.size→w.heap[k]?=w0.heap[k]?
theorem Old.refl (w:World):Old w w:=⟨bh _,λ_ _=>rfl⟩
theorem Old.cell {w0 w:World}(h:Old w0 w){ad:Addr}{v:Value}(hc:w0.cell? ad=some v):w.cell? ad=some v:=by
 rw[← hc];exact World.cell?_of_block (h.same _ (World.block_lt_of_cell? _ _ hc))
theorem Old.trans {a b c:World}(h:Old a b)(k:Old b c):Old a c:=⟨gO h.size k.size,λn hn=>(k.same n (yB hn h.size)).trans (h.same n hn)⟩
theorem Old.alloc (w:World)(o:Obj):Old w (w.alloc o):=⟨by simp,λk hk=>Below.heap_alloc _ _ _ hk⟩
end
section
structure Fr (a:Act)(n:Nat)(l:List (Nat×Value)):Prop where
 defers:a.defers=[]
 size:a.tmps.size=n
 has:∀ p∈l,a.tmps[p.1]?=some p.2
def Gy (d:Nat)(l:List (Nat×Value)):Bool:=l.all λp=>!(Nat.beq p.1 d)
def okB (d n:Nat)(l:List (Nat×Value)):Bool:=Nat.ble (d+1) n&&Gy d l
class fl (l:List (Nat×Value))(t:Nat)(v:outParam Value):Prop where mem:(t,v)∈l
instance fl.head {l t v}:fl ((t,v)::l) t v:=⟨mem_cons_self⟩
instance (priority:=low) fl.tail {l t v p}[h:fl l t v]:fl (p::l) t v:=⟨gP _ h.mem⟩
class Ev (l:List (Nat×Value))(o:Operand)(v:outParam Value):Prop where ev:∀ a n,Fr a n l→a.eval o=v
instance Ev.tmp {l t v}[h:fl l t v]:Ev l (.tmp t) v:=⟨λa n E=>by
 have:=E.has _ h.mem;simp only[Act.eval];simp[Array.getD_eq_getD_getElem?,this]⟩
instance Ev.const {l v}:Ev l (.const v) v:=⟨λ_ _ _=>rfl⟩
instance Ev.func {l f}:Ev l (.func f) (.func (.func f) #[] #[]):=⟨λ_ _ _=>rfl⟩
class m5 (l:List (Nat×Value))(os:List Operand)(vs:outParam (List Value)):Prop where ev:∀ a n,Fr a n l→os.map a.eval=vs
instance m5.nil {l}:m5 l [] []:=⟨λ_ _ _=>rfl⟩
instance m5.cons {l o os v vs}[h:Ev l o v][k:m5 l os vs]:m5 l (o::os) (v::vs):=⟨λa n E=>by
 simp[h.ev a n E,k.ev a n E]⟩
class uM (l:List (Nat×Value))(ks:List Nat)(l':outParam (List (Nat×Value))):Prop where sub:∀ p∈l',p∈l
instance uM.nil {l}:uM l [] []:=⟨λ_ h=>by cases h⟩
instance uM.cons {l k ks v l'}[h:fl l k v][r:uM l ks l']:uM l (k::ks) ((k,v)::l'):=⟨λp hp=>by
 rcases List.mem_cons.1 hp with rfl | h'
 ·exact h.mem
 ·exact r.sub _ h'⟩
theorem Fr.ab {a n l l'}(h:Fr a n l)(ks:List Nat)[k:uM l ks l']:Fr a n l':=⟨h.defers,h.size,λp hp=>h.has _ (k.sub _ hp)⟩
class gQ (l:List (Nat×Value))(d:Nat)(l':outParam (List (Nat×Value))):Prop where sub:∀ p∈l',p∈l
instance gQ.nil {d}:gQ [] d []:=⟨λ_ h=>h⟩
instance gQ.head {l d v}:gQ ((d,v)::l) d l:=⟨λ_ h=>gP _ h⟩
instance (priority:=low) gQ.tail {l d p l'}[h:gQ l d l']:gQ (p::l) d (p::l'):=⟨λq hq=>by
 rcases List.mem_cons.1 hq with rfl | h'
 ·exact mem_cons_self
 ·exact gP _ (h.sub _ h')⟩
theorem Fr.del {a n l l'}(h:Fr a n l)(d:Nat)[k:gQ l d l']:Fr a n l':=⟨h.defers,h.size,λp hp=>h.has _ (k.sub _ hp)⟩
theorem NV {d n l}(h:okB d n l=true):d<n:=by
 simp only[okB,fB]at h;exact Nat.le_of_ble_eq_true h.1
theorem NW {d n l}(h:okB d n l=true):∀ p∈l,p.1≠d:=by
 simp only[okB,Gy,fB,all_eq_true]at h;intro p hp e;have:=h.2 p hp;rw[e]at this;have:Nat.beq d d=true:=Nat.beq_refl d;simp[this] at *
theorem Fr.put {a n l d}(h:Fr a n l)(hf:okB d n l=true)(v:Value):Fr (a.put (some d) v) n ((d,v)::l):=by
 have hl:=NV hf;refine⟨h.defers,by simp[Act.put,h.size],λp hp=>?_⟩;rcases List.mem_cons.1 hp with rfl | hp
 ·simp[Act.put,h.size,hl]
 ·have bN:=NW hf p hp;simp only[Act.put];rw[Array.getElem?_setIfInBounds,ae (λe=>bN e.symm)];exact h.has _ hp
theorem Fr.enter {m:Nat}{vs:List Value}(hm:vs.length≤m) :
   Fr { tmps:=vs.toArray++Array.replicate (m-vs.toArray.size) undef,defers:=[] } m ((List.range vs.length).zip vs):=by
 refine⟨rfl,by simp;omega,λp hp=>?_⟩;obtain⟨i,hi,rfl⟩:=List.mem_iff_getElem.1 hp;simp only[List.length_zip,length_range]at hi;have hv:i<vs.length:=by omega
 simp only[List.getElem_zip,List.getElem_range];rw[Array.getElem?_append_left (by simp;omega)];simp[hv]
section
variable {P:Program}{ops:Array Oper}{Q:Exit→Act→World→Prop}{a:Act}{w w':World}{K:Act→World→Prop}{o:Oper}{n d:Nat}{l:List (Nat×Value)}{v:Value}
def cI (P:Program)(ops:Array Oper)(Q:Exit→Act→World→Prop)(o:Oper)(K:Act→World→Prop)(a:Act)(w:World):Prop :=
 if Region.wanted o (yielded ops a.tmps) then o.wp P a w K Q∨(o.asks P a w∧LetsOut Q) else K (a.put o.dst undef) w
theorem NX {rest:List Oper}(h:cI P ops Q o (wpList P ops Q rest) a w):wpList P ops Q (o::rest) a w:=h
theorem Gz (hw:Region.wanted o (yielded ops a.tmps)=true)(hr:(execOp a.eval o).run P w=.ok (.value v) w')
   (h:K (a.put o.dst v) w'):cI P ops Q o K a w:=by
 unfold cI;rw[al hw];left;unfold Oper.wp;rw[hr];exact h
theorem bz {op ty ps af g}(E:Fr a n l)(hw:Region.wanted ⟨some d,op,ty,ps,af,g⟩ (yielded ops a.tmps)=true)
   (hr:(execOp a.eval ⟨some d,op,ty,ps,af,g⟩).run P w=.ok (.value v) w') (hf:okB d n l=true)
   (h:∀ a',Fr a' n ((d,v)::l)→K a' w'):cI P ops Q ⟨some d,op,ty,ps,af,g⟩ K a w :=
 Gz hw hr (h _ (E.put hf v))
theorem Bq {op ty ps af g}(E:Fr a n l)(hw:Region.wanted ⟨none,op,ty,ps,af,g⟩ (yielded ops a.tmps)=true)
   (hr:(execOp a.eval ⟨none,op,ty,ps,af,g⟩).run P w=.ok (.value v) w')
   (h:∀ a',Fr a' n l→K a' w'):cI P ops Q ⟨none,op,ty,ps,af,g⟩ K a w :=
 Gz hw hr (h _ E)
theorem Bs {op ty ps af g}(E:Fr a n l)(hw:Region.wanted ⟨none,op,ty,ps,af,g⟩ (yielded ops a.tmps)=true)
   (hr:(execOp a.eval ⟨none,op,ty,ps,af,g⟩).run P w=.ok .skip w')
   (h:∀ a',Fr a' n l→K a' w'):cI P ops Q ⟨none,op,ty,ps,af,g⟩ K a w:=by
 unfold cI;rw[al hw];left;unfold Oper.wp;rw[hr];exact h _ E
theorem NY {op ty ps af g}(E:Fr a n l)(hw:Region.wanted ⟨some d,op,ty,ps,af,g⟩ (yielded ops a.tmps)=false)(hf:okB d n l=true)
   (h:∀ a',Fr a' n ((d,undef)::l)→K a' w):cI P ops Q ⟨some d,op,ty,ps,af,g⟩ K a w:=by
 unfold cI;rw[ae (by rw[hw];simp)];exact h _ (E.put hf undef)
theorem NZ {op ty ps af j s b c dst}(E:Fr a n l)(hj:(ops[j]?).bind (·.dst)=some s)[k:fl l s (.bool c)] :
   Region.wanted ⟨dst,op,ty,ps,af,some (j,b)⟩ (yielded ops a.tmps)=(c==b):=by
 have:=E.has _ k.mem;simp[Region.wanted,yielded,hj,this]
theorem cW {op ty ps af j s b dst}(E:Fr a n l)(hj:(ops[j]?).bind (·.dst)=some s)[k:fl l s (.bool b)] :
   Region.wanted ⟨dst,op,ty,ps,af,some (j,b)⟩ (yielded ops a.tmps)=true:=by rw[NZ E hj];simp
theorem Fr.bool {s:Nat}{c:Bool} {l'}(E:Fr a n l)[k:fl l s (.bool c)][e:gQ l s l']{G:Prop}
   (ht:c=true→Fr a n ((s,.bool true)::l')→G) (hf:c=false→Fr a n ((s,.bool false)::l')→G):G:=by
 have hm:=E.has _ k.mem;have hd:=E.del s;cases c with
 | true => exact ht rfl ⟨E.defers, E.size, fun p hp => by
      rcases List.mem_cons.1 hp with rfl | hp
      ·exact hm
      ·exact hd.has _ hp⟩
 | false => exact hf rfl ⟨E.defers, E.size, fun p hp => by
     rcases List.mem_cons.1 hp with rfl | hp
     ·exact hm
     ·exact hd.has _ hp⟩
theorem N0 {x dst ty ps af g}(E:Fr a n l)[e:Ev l x v]:(execOp a.eval ⟨dst,.move x,ty,ps,af,g⟩).run P w=.ok (.value v) w:=by
 simp[execOp,e.ev a n E,pure,Sem.run]
theorem N1 {x dst ty ps af g}(E:Fr a n l)[e:Ev l x v]:(execOp a.eval ⟨dst,.assign x,ty,ps,af,g⟩).run P w=.ok (.value v) w:=by
 simp[execOp,e.ev a n E,pure,Sem.run]
theorem N2 {c x y dst ty ps af g}(E:Fr a n l)[e:Ev l c (.bool true)][f:Ev l x v]:(execOp a.eval ⟨dst,.pick c x y,ty,ps,af,g⟩).run P w=.ok (.value v) w:=by
 simp[execOp,e.ev a n E,f.ev a n E,asBool]
theorem N3 {c x y dst ty ps af g}(E:Fr a n l)[e:Ev l c (.bool false)][f:Ev l y v]:(execOp a.eval ⟨dst,.pick c x y,ty,ps,af,g⟩).run P w=.ok (.value v) w:=by
 simp[execOp,e.ev a n E,f.ev a n E,asBool]
class yC (v:Value):Prop where h:(∃ ad,v=.pointer (some ad))∨∃ t u,v=.iface t u
instance {ad}:yC (.pointer (some ad)):=⟨.inl ⟨_,rfl⟩⟩
instance {t u}:yC (.iface t u):=⟨.inr ⟨_,_,rfl⟩⟩
theorem N4 {x dst ty ps af g}(E:Fr a n l)[e:Ev l x v][k:yC v]:(execOp a.eval ⟨dst,.nilCheck x,ty,ps,af,g⟩).run P w=.ok (.value v) w:=by
 rcases k.h with ⟨ad,rfl⟩ | ⟨t,u,rfl⟩ <;> simp[execOp,e.ev a n E]
theorem GA {x y k i j t u dst ty ps af g}(E:Fr a n l)[e:Ev l x (.int k i)][f:Ev l y (.int k j)] :
   (execOp a.eval ⟨dst,.binOp .add t x y u,ty,ps,af,g⟩).run P w=.ok (.value (.int k (k.wrap (i+j)))) w:=by
 simp[execOp,e.ev a n E,f.ev a n E,eqGuard,binOp,Op.intArith]
theorem yD {x y k i j t u dst ty ps af g}(E:Fr a n l)[e:Ev l x (.int k i)][f:Ev l y (.int k j)] :
   (execOp a.eval ⟨dst,.binOp .sub t x y u,ty,ps,af,g⟩).run P w=.ok (.value (.int k (k.wrap (i-j)))) w:=by
 simp[execOp,e.ev a n E,f.ev a n E,eqGuard,binOp,Op.intArith]
theorem GC {x y k i j t u dst ty ps af g}(E:Fr a n l)[e:Ev l x (.int k i)][f:Ev l y (.int k j)] :
   (execOp a.eval ⟨dst,.binOp .mul t x y u,ty,ps,af,g⟩).run P w=.ok (.value (.int k (k.wrap (i*j)))) w:=by
 simp[execOp,e.ev a n E,f.ev a n E,eqGuard,binOp,Op.intArith]
theorem gr {i:Int}(h1:-9223372036854775808≤i)(h2:i≤9223372036854775807):IntKind.i64.wrap i=i:=IntWalk.i64_in _ (by omega)
theorem N5 {x y i j t u dst ty ps af g}(E:Fr a n l)[e:Ev l x (.int .i64 i)][f:Ev l y (.int .i64 j)](h1:-9223372036854775808≤i+j)(h2:i+j≤9223372036854775807) :
   (execOp a.eval ⟨dst,.binOp .add t x y u,ty,ps,af,g⟩).run P w=.ok (.value (.int .i64 (i+j))) w:=by
 rw[GA E,gr h1 h2]
theorem N6 {x y i j t u dst ty ps af g}(E:Fr a n l)[e:Ev l x (.int .i64 i)][f:Ev l y (.int .i64 j)](h1:-9223372036854775808≤i-j)(h2:i-j≤9223372036854775807) :
   (execOp a.eval ⟨dst,.binOp .sub t x y u,ty,ps,af,g⟩).run P w=.ok (.value (.int .i64 (i-j))) w:=by
 rw[yD E,gr h1 h2]
theorem N7 {x y i j t u dst ty ps af g}(E:Fr a n l)[e:Ev l x (.int .i64 i)][f:Ev l y (.int .i64 j)](h1:-9223372036854775808≤i*j)(h2:i*j≤9223372036854775807) :
   (execOp a.eval ⟨dst,.binOp .mul t x y u,ty,ps,af,g⟩).run P w=.ok (.value (.int .i64 (i*j))) w:=by
 rw[GC E,gr h1 h2]
theorem N8 {x y k i j t u dst ty ps af g}(E:Fr a n l)[e:Ev l x (.int k i)][f:Ev l y (.int k j)] :
   (execOp a.eval ⟨dst,.binOp .lss t x y u,ty,ps,af,g⟩).run P w=.ok (.value (.bool (decide (i<j)))) w:=by
 simp[execOp,e.ev a n E,f.ev a n E,eqGuard,binOp,Op.intCmp]
theorem N9 {x y k i j t u dst ty ps af g}(E:Fr a n l)[e:Ev l x (.int k i)][f:Ev l y (.int k j)] :
   (execOp a.eval ⟨dst,.binOp .leq t x y u,ty,ps,af,g⟩).run P w=.ok (.value (.bool (decide (i≤j)))) w:=by
 simp[execOp,e.ev a n E,f.ev a n E,eqGuard,binOp,Op.intCmp]
theorem Oa {x y k i j t u dst ty ps af g}(E:Fr a n l)[e:Ev l x (.int k i)][f:Ev l y (.int k j)] :
   (execOp a.eval ⟨dst,.binOp .gtr t x y u,ty,ps,af,g⟩).run P w=.ok (.value (.bool (decide (j<i)))) w:=by
 simp[execOp,e.ev a n E,f.ev a n E,eqGuard,binOp,Op.intCmp]
theorem Ob {x y k i j t u dst ty ps af g}(E:Fr a n l)[e:Ev l x (.int k i)][f:Ev l y (.int k j)] :
   (execOp a.eval ⟨dst,.binOp .geq t x y u,ty,ps,af,g⟩).run P w=.ok (.value (.bool (decide (j≤i)))) w:=by
 simp[execOp,e.ev a n E,f.ev a n E,eqGuard,binOp,Op.intCmp]
theorem Oc {x y k i j t u dst ty ps af g}(E:Fr a n l)[e:Ev l x (.int k i)][f:Ev l y (.int k j)] :
   (execOp a.eval ⟨dst,.binOp .eql t x y u,ty,ps,af,g⟩).run P w=.ok (.value (.bool (decide (i=j)))) w:=by
 simp[execOp,e.ev a n E,f.ev a n E,eqGuard,binOp,Op.intCmp];rfl
theorem Od {x y k i j t u dst ty ps af g}(E:Fr a n l)[e:Ev l x (.int k i)][f:Ev l y (.int k j)] :
   (execOp a.eval ⟨dst,.binOp .neq t x y u,ty,ps,af,g⟩).run P w=.ok (.value (.bool (decide (i≠j)))) w:=by
 simp[execOp,e.ev a n E,f.ev a n E,eqGuard,binOp,Op.intCmp,bne];rfl
theorem Oe {x b t dst ty ps af g}(E:Fr a n l)[e:Ev l x (.bool b)]:(execOp a.eval ⟨dst,.unOp .not t x,ty,ps,af,g⟩).run P w=.ok (.value (.bool (!b))) w:=by
 simp[execOp,e.ev a n E,Op.unary]
class s4 (v:Value)(b:outParam Bool):Prop where h:v=.pointer none∧b=true∨(∃ ad,v=.pointer (some ad))∧b=false
instance:s4 (.pointer none) true:=⟨.inl ⟨rfl,rfl⟩⟩
instance {ad}:s4 (.pointer (some ad)) false:=⟨.inr ⟨⟨_,rfl⟩,rfl⟩⟩
theorem yE {t el:TypeId}(ht:P.underlying t=some (.pointer el)):P.underlying t=some (.pointer (P.pointee t)):=by
 rw[ht];simp[Program.pointee,ht]
theorem Of {x b t u el dst ty ps af g}(E:Fr a n l)(ht:P.underlying t=some (.pointer el))[e:Ev l x v][k:s4 v b] :
   (execOp a.eval ⟨dst,.binOp .eql t x (.const (.pointer none)) u,ty,ps,af,g⟩).run P w=.ok (.value (.bool b)) w:=by
 have hc:a.eval (.const (.pointer none))=.pointer none:=rfl;rcases k.h with ⟨rfl,rfl⟩ | ⟨⟨ad,rfl⟩,rfl⟩
 ·have:=run_eql_pointer_nil (P:=P) (w:=w) t none (yE ht);simp only[execOp,e.ev a n E,hc,Sem.run_bind];simp[eqGuard,this]
 ·have:=run_eql_pointer_nil (P:=P) (w:=w) t (some ad) (yE ht);simp only[execOp,e.ev a n E,hc,Sem.run_bind];simp[eqGuard,this]
theorem Og {x b t u el dst ty ps af g}(E:Fr a n l)(ht:P.underlying t=some (.pointer el))[e:Ev l x v][k:s4 v b] :
   (execOp a.eval ⟨dst,.binOp .neq t x (.const (.pointer none)) u,ty,ps,af,g⟩).run P w=.ok (.value (.bool (!b))) w:=by
 have hc:a.eval (.const (.pointer none))=.pointer none:=rfl;rcases k.h with ⟨rfl,rfl⟩ | ⟨⟨ad,rfl⟩,rfl⟩
 ·have:=run_neq_pointer_nil (P:=P) (w:=w) t none (yE ht);simp only[execOp,e.ev a n E,hc,Sem.run_bind];simp[eqGuard,this]
 ·have:=run_neq_pointer_nil (P:=P) (w:=w) t (some ad) (yE ht);simp only[execOp,e.ev a n E,hc,Sem.run_bind];simp[eqGuard,this]
end
end
section
class TI (P:Program)(t:TypeId)(z:outParam Value)(size bytes:outParam Nat):Prop where of ::
 h:(P.info? t).map (λi=>(i.zero,i.size,i.bytes))=some (some z,size,bytes)
def nB:TypeDesc→Bool | .struct _ | .array _ _=>false | _=>true
class fC (L:List SP)(b:Nat)(e:outParam TypeId)(cs:outParam (List Value))(R:outParam (List SP)):Prop where perm:L.Perm (aa b e cs::R)
instance fC.head {L b e cs}:fC (aa b e cs::L) b e cs L:=⟨List.Perm.refl _⟩
instance (priority:=low) fC.tail {A L b e cs R}[h:fC L b e cs R]:fC (A::L) b e cs (A::R) :=
 ⟨(List.Perm.cons A h.perm).trans (List.Perm.swap _ _ _)⟩
class Cells (v:Value)(vs:outParam (List Value)):Prop where h:v.cells=vs.toArray
instance {vs:List Value}:Cells (.agg vs.toArray) vs:=⟨rfl⟩
instance {b}:Cells (.bool b) [.bool b]:=⟨rfl⟩
instance {k i}:Cells (.int k i) [.int k i]:=⟨rfl⟩
instance {s}:Cells (.string s) [.string s]:=⟨rfl⟩
instance {p}:Cells (.pointer p) [.pointer p]:=⟨rfl⟩
instance {p n c}:Cells (.slice p n c) [.slice p n c]:=⟨rfl⟩
instance {m}:Cells (.map m) [.map m]:=⟨rfl⟩
instance {f x y}:Cells (.func f x y) [.func f x y]:=⟨rfl⟩
instance {t v}:Cells (.iface t v) [.iface t v]:=⟨rfl⟩
class pC (cs:List Value)(i:Nat)(v:Value)(lJ:outParam (List Value)):Prop where h:cs.set i v=lJ
instance (priority:=low) pC.any {cs i v}:pC cs i v (cs.set i v):=⟨rfl⟩
instance pC.zero {c cs v}:pC (c::cs) 0 v (v::cs):=⟨rfl⟩
instance pC.succ {c cs i v lJ}[h:pC cs i v lJ]:pC (c::cs) (i+1) v (c::lJ):=⟨by rw[List.set_cons_succ,h.h]⟩
class lK (cs:List Value)(off m:Nat)(vs:outParam (List Value)):Prop where h:(cs.drop off).take m=vs
instance (priority:=low) lK.any {cs off m}:lK cs off m ((cs.drop off).take m):=⟨rfl⟩
instance lK.nil {cs}:lK cs 0 0 []:=⟨by simp⟩
instance lK.cons {x cs m vs}[h:lK cs 0 m vs]:lK (x::cs) 0 (m+1) (x::vs):=⟨by
 have:=h.h;simp only[drop_zero] at *;rw[take_succ_cons,this]⟩
class rD (o k:Nat)(r:outParam Nat):Prop where h:o+k=r
instance (priority:=low) rD.any {o k}:rD o k (o+k):=⟨rfl⟩
instance rD.left {o}:rD o 0 o:=⟨rfl⟩
instance rD.right {k}:rD 0 k k:=⟨Nat.zero_add k⟩
def Rd (w:World)(b off:Nat)(vs:List Value):Prop:=∀ j v,vs[j]?=some v→w.cell? ⟨b,off+j,none⟩=some v
theorem kR (b o k:Nat):(⟨b,o,none⟩:Addr).add k=⟨b,o+k,none⟩:=by unfold Addr.add;split <;> simp_all
section
variable {P:Program}{W w:World}{L R:List SP}{b e:Nat}{cs:List Value}
theorem V.jy (s:V W w L)(b:Nat)[k:fC L b e cs R]:V W w (aa b e cs::R):=s.perm k.perm
theorem V.bu (s:V W w L)[k:fC L b e cs R]{off:Nat}{v:Value}(h:cs[off]?=some v):w.cell? ⟨b,off,none⟩=some v:=by
 rw[(s.perm k.perm).cell];exact h
theorem V.pD (s:V W w L)[k:fC L b e cs R]{off:Nat}(m:Nat){vs:List Value}[sc:lK cs off m vs]:Rd w b off vs:=by
 have h:=sc.h;intro j v hj;rw[(s.perm k.perm).cell];rw[← h,getElem?_take]at hj;by_cases hm:j<m
 ·rw[al hm,getElem?_drop]at hj;exact hj
 ·rw[ae hm]at hj;cases hj
theorem V.ai (s:V W w L)[k:fC L b e cs R]:Rd w b 0 cs:=by
 intro j v hj;rw[(s.perm k.perm).cell,Nat.zero_add];exact hj
theorem Oh {t ef}{ad:Addr}{v:Value}(hu:P.underlying t=some ef)(hd:nB ef=true)(hc:w.cell? ad=some v):(loadVar t ad).run P w=.ok v w:=by
 have:(isAgg t).run P w=.ok false w:=by
  simp only[isAgg,Sem.run_bind,eM hu,Result.andThen_ok];cases ef <;> first | rfl | (simp[nB]at hd)
 simp[loadVar,this,load,Sem.run,hc]
theorem Bt {t ef z aX}{off:Nat}{vs:List Value}(hu:P.underlying t=some ef)(hd:nB ef=false)(hi:TI P t z vs.length aX)(hc:Rd w b off vs) :
   (loadVar t ⟨b,off,none⟩).run P w=.ok (.agg vs.toArray) w:=by
 have h1:(isAgg t).run P w=.ok true w:=by
  simp only[isAgg,Sem.run_bind,eM hu,Result.andThen_ok];cases ef <;> first | rfl | (simp[nB]at hd)
 obtain⟨i,h2,_,h3,_⟩:=info_parts hi.h;have h4:(sizeOf t).run P w=.ok vs.length w:=by simp[sizeOf,typeInfo,h2,h3]
 have h5:=run_loadCells_list (P:=P) w ⟨b,off,none⟩ vs (λj v hj=>by rw[kR];exact hc j v hj);simp[loadVar,h1,h4,h5]
end
section
variable {P:Program}{ops:Array Oper}{Q:Exit→Act→World→Prop}{a:Act}{w w' W:World}{K:Act→World→Prop}{n d:Nat}{l:List (Nat×Value)}{v:Value}{L R:List SP}
theorem GD {x ad t ef dst ty ps af g}(E:Fr a n l)(hu:P.underlying t=some ef)(hd:nB ef=true)[ev:Ev l x (.pointer (some ad))](hc:w.cell? ad=some v) :
   (execOp a.eval ⟨dst,.load t x,ty,ps,af,g⟩).run P w=.ok (.value v) w:=by
 simp[execOp,ev.ev a n E,Instr.loadAt,Instr.sureAddr,Oh hu hd hc]
theorem bO {x b off t ef z aX vs dst ty ps af g}(E:Fr a n l)(hu:P.underlying t=some ef)(hd:nB ef=false)(hi:TI P t z (List.length vs) aX)[ev:Ev l x (.pointer (some ⟨b,off,none⟩))](hc:Rd w b off vs) :
   (execOp a.eval ⟨dst,.load t x,ty,ps,af,g⟩).run P w=.ok (.value (.agg vs.toArray)) w:=by
 simp[execOp,ev.ev a n E,Instr.loadAt,Instr.sureAddr,Bt hu hd hi hc]
theorem lL {t z sz aX}(hi:TI P t z sz aX):(sizeOf t).run P w=.ok sz w:=by
 obtain⟨i,h2,_,h3,_⟩:=info_parts hi.h;simp[sizeOf,typeInfo,h2,h3]
theorem s5 {t z sz aX}(hi:TI P t z sz aX):(zeroValue t).run P w=.ok z w:=by
 obtain⟨i,h2,h1,h3,_⟩:=info_parts hi.h;simp[zeroValue,typeInfo,h2,h1]
theorem eS {t z sz aX zs ty ps af g}(E:Fr a n l)(hw:Region.wanted ⟨some d,.alloc t,ty,ps,af,g⟩ (yielded ops a.tmps)=true)(I:V W w L)(hi:TI P t z sz aX)[k:Cells z zs]
   (hf:okB d n l=true) (h:∀ b a' w',Fr a' n ((d,.pointer (some ⟨b,0,none⟩))::l)→V W w' (aa b t zs::L)→Old w w'→K a' w') :
   cI P ops Q ⟨some d,.alloc t,ty,ps,af,g⟩ K a w:=by
 refine bz (v:=.pointer (some ⟨w.heap.size,0,none⟩)) (w':=w.alloc (.cells zs.toArray t)) E hw ?_ hf (λa' dg=>h _ _ _ dg (I.alloc _) (Old.alloc _ _));simp[execOp,Instr.alloc,s5 hi,newVar,newRow,newObj,Sem.run,k.h,Sem.run_bind]
theorem gF {t x vs ty ps af g}(E:Fr a n l)(hw:Region.wanted ⟨some d,.box t x,ty,ps,af,g⟩ (yielded ops a.tmps)=true)(I:V W w L)[ev:Ev l x v][k:Cells v vs]
   (hf:okB d n l=true) (h:∀ b a' w',Fr a' n ((d,.pointer (some ⟨b,0,none⟩))::l)→V W w' (aa b t vs::L)→Old w w'→K a' w') :
   cI P ops Q ⟨some d,.box t x,ty,ps,af,g⟩ K a w:=by
 refine bz (v:=.pointer (some ⟨w.heap.size,0,none⟩)) (w':=w.alloc (.cells vs.toArray t)) E hw ?_ hf (λa' dg=>h _ _ _ dg (I.alloc _) (Old.alloc _ _));simp[execOp,Instr.box,ev.ev a n E,newVar,newRow,newObj,Sem.run,k.h,Sem.run_bind]
theorem GF {t z aX b e off}{v:Value}{vs cs:List Value}(I:V W w (aa b e cs::R))(hi:TI P t z vs.length aX)(hv:v.cells=vs.toArray)(h1:∀ v∈vs,v.oneCell'=true)
   (hle:off+vs.length≤cs.length):(storeVar t ⟨b,off,none⟩ v).run P w=.ok () (w.setRow b (cC cs off vs).toArray):=by
 have:=run_storeCells_at (P:=P) b off e vs 0 cs.toArray w I.has.2 (by simpa using hle) h1;simp[storeVar,hv,lL hi,this,cC]
theorem GG {t z aX x y b e off cs lJ ty ps af g}(E:Fr a n l)(hw:Region.wanted ⟨none,.store t x y,ty,ps,af,g⟩ (yielded ops a.tmps)=true)(I:V W w L)
   (hi:TI P t z 1 aX) [ev:Ev l x (.pointer (some ⟨b,off,none⟩))] [s6:Ev l y v] [pE:Cells v [v]] [k:fC L b e cs R] (h1:v.oneCell'=true) (hlt:off<cs.length) [sc:pC cs off v lJ]
   (h:∀ a' w',Fr a' n l→V W w' (aa b e lJ::R)→K a' w'):cI P ops Q ⟨none,.store t x y,ty,ps,af,g⟩ K a w:=by
 have gR:=I.jy b;have hr:=GF (P:=P) (t:=t) (off:=off) (vs:=[v]) gR hi pE.h (by simpa using h1) (by simp;omega);have he:cC cs off [v]=lJ:=by
  rw[← sc.h,cC,set_eq_take_append_cons_drop,al hlt];simp
 refine Bs (w':=w.setRow b (cC cs off [v]).toArray) E hw ?_ (λa' dg=>h a' _ dg (he ▸ gR.setRow));simp[execOp,ev.ev a n E,s6.ev a n E,Instr.storeAt,Instr.sureAddr,hr]
theorem qj {t z aX x y b e off cs vs ty ps af g}(E:Fr a n l)(hw:Region.wanted ⟨none,.store t x y,ty,ps,af,g⟩ (yielded ops a.tmps)=true)(I:V W w L)
   (hi:TI P t z (List.length vs) aX) [ev:Ev l x (.pointer (some ⟨b,off,none⟩))] [s6:Ev l y v] [pE:Cells v vs] [k:fC L b e cs R] (h1:∀ v∈vs,v.oneCell'=true) (hle:off+vs.length≤cs.length)
   (h:∀ a' w',Fr a' n l→V W w' (aa b e (cC cs off vs)::R)→K a' w'):cI P ops Q ⟨none,.store t x y,ty,ps,af,g⟩ K a w:=by
 have gR:=I.jy b;have hr:=GF (P:=P) (t:=t) (off:=off) (vs:=vs) gR hi pE.h h1 hle;refine Bs (w':=w.setRow b (cC cs off vs).toArray) E hw ?_ (λa' dg=>h a' _ dg gR.setRow);simp[execOp,ev.ev a n E,s6.ev a n E,Instr.storeAt,Instr.sureAddr,hr]
theorem Oi {t z aX x y b e cs vs ty ps af g}(E:Fr a n l)(hw:Region.wanted ⟨none,.store t x y,ty,ps,af,g⟩ (yielded ops a.tmps)=true)(I:V W w L)
   (hi:TI P t z (List.length vs) aX) [ev:Ev l x (.pointer (some ⟨b,0,none⟩))] [s6:Ev l y v] [pE:Cells v vs] [k:fC L b e cs R] (h1:∀ v∈vs,v.oneCell'=true) (hle:vs.length=cs.length)
   (h:∀ a' w',Fr a' n l→V W w' (aa b e vs::R)→K a' w'):cI P ops Q ⟨none,.store t x y,ty,ps,af,g⟩ K a w:=by
 refine qj E hw I hi h1 (by omega) (λa' w' dg gR=>h a' w' dg ?_)
 rwa [show cC cs 0 vs=vs from by simp[cC,hle]]at gR
theorem Oj {x b off t f k r fs iE z sz aX dst ty ps af g}(E:Fr a n l)[ev:Ev l x (.pointer (some ⟨b,off,none⟩))](hu:P.underlying t=some (.struct fs))(hf:fs[f]?=some iE)(hi:TI P iE.type z (sz+1) aX)
   (hk:iE.offset=k) [Ol:rD off k r]:(execOp a.eval ⟨dst,.fieldAddr t x f,ty,ps,af,g⟩).run P w=.ok (.value (.pointer (some ⟨b,r,none⟩))) w:=by
 simp[execOp,ev.ev a n E,Instr.fieldAt,eM hu,hf,Instr.sureAddr,fieldPlace,lL hi,kR,hk,Ol.h]
class ei (i:Int)(j:outParam Nat):Prop where h:i=(j:Int)
instance {j:Nat}:ei (j:Int) j:=⟨rfl⟩
instance:ei 0 0:=⟨rfl⟩
instance:ei 1 1:=⟨rfl⟩
instance:ei 2 2:=⟨rfl⟩
instance:ei 3 3:=⟨rfl⟩
instance:ei 4 4:=⟨rfl⟩
instance:ei 7 7:=⟨rfl⟩
instance:ei 8 8:=⟨rfl⟩
instance:ei 16 16:=⟨rfl⟩
instance:ei 24 24:=⟨rfl⟩
instance {x y:Int}{i j:Nat}[h:ei x i][k:ei y j]:ei (x+y) (i+j):=⟨by rw[h.h,k.h];rfl⟩
theorem GH {x y k i j b off m c t el z sz aX dst ty ps af g}(E:Fr a n l)[ev:Ev l x (.slice (some ⟨b,off,none⟩) m c)][gS:Ev l y (.int k i)](hu:P.underlying t=some (.slice el))(hi:TI P el z sz aX)[nj:ei i j]
   (hlt:j<m):(execOp a.eval ⟨dst,.indexAddr t x y,ty,ps,af,g⟩).run P w=.ok (.value (.pointer (some ⟨b,off+j*sz,none⟩))) w:=by
 have:=nj.h;subst this;simp[execOp,ev.ev a n E,gS.ev a n E,Instr.indexAt,asIntOf,eM hu,lL hi,kR,hlt]
theorem Om {x y k i j b off m t el z sz aX dst ty ps af g}(E:Fr a n l)[ev:Ev l x (.pointer (some ⟨b,off,none⟩))][gS:Ev l y (.int k i)](hu:P.underlying t=some (.array m el))(hi:TI P el z sz aX)[nj:ei i j]
   (hlt:j<m):(execOp a.eval ⟨dst,.indexAddr t x y,ty,ps,af,g⟩).run P w=.ok (.value (.pointer (some ⟨b,off+j*sz,none⟩))) w:=by
 have:=nj.h;subst this;simp[execOp,ev.ev a n E,gS.ev a n E,Instr.indexAt,asIntOf,eM hu,lL hi,kR,hlt,Instr.sureAddr]
theorem On {x ad m c t el dst ty ps af g}(E:Fr a n l)[ev:Ev l x (.slice ad m c)](hu:P.underlying t=some (.slice el)) :
   (execOp a.eval ⟨dst,.call ⟨.builtin .len,#[x],#[t]⟩,ty,ps,af,g⟩).run P w=.ok (.value (.int .i64 m)) w:=by
 simp[execOp,resolve,ev.ev a n E,invoke,builtin,Builtin.len_,eM hu,goInt]
theorem Oo {fn xs ys us vs dst ty ps af g}(E:Fr a n l)[e1:m5 l xs us][e2:m5 l ys vs] :
   (execOp a.eval ⟨dst,.makeFunc fn xs.toArray ys.toArray,ty,ps,af,g⟩).run P w=.ok (.value (.func fn us.toArray vs.toArray)) w:=by
 simp[execOp,Instr.makeFunc,e1.ev a n E,e2.ev a n E]
def g5 (P : Program) (f : FuncId) : Bool := match P.funcs[f]? with | some fn => !(fn.name == "runtime.NumGoroutine") && fn.body.isSome | none => false
theorem yF {f}{vs:Array Value}(h:g5 P f=true):(callFunc f vs).run P w=.ok (.enter f vs) w:=by
 simp only[g5]at h;cases hf:P.funcs[f]? with
 | none=>simp[hf]at h
 | some fn =>
  simp only[hf,fB,Bool.not_eq_true']at h;have hb:fn.body.isNone=false:=by cases hb:fn.body <;> simp_all
  simp only[callFunc,program,Sem.run,Sem.run_bind,Result.andThen_ok,hf,h.1,hb];simp
theorem GI {op ty ps af g dst f}{vs:Array Value}{X:Ending→World→Prop}(hw:Region.wanted ⟨dst,op,ty,ps,af,g⟩ (yielded ops a.tmps)=true)
   (hr:(execOp a.eval ⟨dst,op,ty,ps,af,g⟩).run P w=.ok (.enter f vs) w) (hc:Calls P f vs w X)
   (h:∀ e w',X e w'→∃ v,e=.returned v∧K (a.put dst v) w'):cI P ops Q ⟨dst,op,ty,ps,af,g⟩ K a w:=by
 unfold cI;rw[al hw];left;unfold Oper.wp;rw[hr,Oper.upon_enter];refine hc.mono λe w' hx=>?_;obtain⟨v,rfl,hv⟩:=h e w' hx;exact hv
theorem GJ {fn:Func} {t}{X:Ending→World→Prop}(E:Fr a n l)(hr:fn.results=#[.tmp t])[k:fl l t v](h:X (.returned v) w):bodyPost P fn X .ret a w:=by
 refine bodyPost_ret (results_tmp hr _ _ _) E.defers ?_;have:=E.has _ k.mem;simpa [Array.getD_eq_getD_getElem?,this] using h
theorem GK {fn:Func} {t u v2}{X:Ending→World→Prop}(E:Fr a n l)(hr:fn.results=#[.tmp t,.tmp u])[k:fl l t v][k2:fl l u v2](h:X (.returned (.tuple #[v,v2])) w):bodyPost P fn X .ret a w:=by
 refine bodyPost_ret (results_tmp2 hr _ _ _) E.defers ?_;have h1:=E.has _ k.mem;have h2:=E.has _ k2.mem;simpa [Array.getD_eq_getD_getElem?,h1,h2] using h
theorem GL {fn:Func}{X:Ending→World→Prop}(E:Fr a n l)(hr:fn.results=#[])(h:X (.returned (.tuple #[])) w):bodyPost P fn X .ret a w :=
 bodyPost_ret (results_none hr _ _ _) E.defers h
theorem GM {fn:Func}{X:Ending→World→Prop}(E:Fr a n l)(hr:fn.results=#[])(h:X (.returned (.tuple #[])) w):bodyPost P fn X .normal a w :=
 bodyPost_end (results_none hr _ _ _) E.defers h
theorem Oq {fn:Func} {x ad t}{X:Ending→World→Prop}(E:Fr a n l)(hr:fn.results=#[.cell x t])[k:fl l x (.pointer (some ad))](hl:(loadVar t ad).run P w=.ok v w)(h:X (.returned v) w):bodyPost P fn X .ret a w:=by
 refine bodyPost_ret ?_ E.defers h;have h1:=E.has _ k.mem;simp[results,hr,Array.getD_eq_getD_getElem?,h1,asAddr,hl]
theorem Ot {fn:Func} {x ad t u v2}{X:Ending→World→Prop}(E:Fr a n l)(hr:fn.results=#[.cell x t,.tmp u])[k:fl l x (.pointer (some ad))][k2:fl l u v2](hl:(loadVar t ad).run P w=.ok v w)
   (h:X (.returned (.tuple #[v,v2])) w):bodyPost P fn X .ret a w:=by
 refine bodyPost_ret ?_ E.defers h;have h1:=E.has _ k.mem;have h2:=E.has _ k2.mem;simp[results,hr,Array.getD_eq_getD_getElem?,h1,h2,asAddr,hl]
theorem Ou {f m:Nat}{fn:Func}{c:Code}{vs:List Value}{X:Ending→World→Prop}(hf:P.funcs[f]?=some fn)(hb:fn.body=some c)(hn:fn.ntmps=m)(hm:vs.length≤m)
   (h:∀ a,Fr a m ((List.range vs.length).zip vs)→c.wp P (bodyPost P fn X) a w):Calls P f vs.toArray w X :=
 calls_of_wp hf hb (by rw[hn];exact h _ (Fr.enter hm))
theorem bZ {x y:Code}{M:Act→World→Prop}(h:x.wp P (Exit.then M Q) a w)(k:∀ a w,M a w→y.wp P Q a w):(Code.seq x y).wp P Q a w:=by
 refine wp_seq (wp_mono h ?_);intro e a' w' hq;cases e <;> first | exact k _ _ hq | exact hq
theorem GN {c:Operand}{x y:Code}(E:Fr a n l)[e:Ev l c (.bool true)](h:x.wp P Q a w):(Code.cond c x y).wp P Q a w:=wp_cond_true (e.ev a n E) h
theorem GO {c:Operand}{x y:Code}(E:Fr a n l)[e:Ev l c (.bool false)](h:y.wp P Q a w):(Code.cond c x y).wp P Q a w:=wp_cond_false (e.ev a n E) h
theorem Ov {i:Nat}(h:Q .normal a w):Exit.inBlock i Q (.exit i) a w:=by simp only[Exit.inBlock,if_true];exact h
theorem Ow {i j:Nat}(hn:Nat.beq j i=false)(h:Q (.exit j) a w):Exit.inBlock i Q (.exit j) a w:=by
 simp only[Exit.inBlock];rw[ae (by intro e;subst e;rw[Nat.beq_refl]at hn;cases hn)];exact h
end
end
section
def Sl (e sz:Nat)(ad:Option Addr)(n c:Nat)(cs:List Value):SP:=λh =>
 cs.length=n*sz∧n≤c∧(c=0∨∃ b pre post,ad=some ⟨b,pre.length,none⟩∧(c-n)*sz≤post.length∧aa b e (pre++cs++post) h)
class fL (L:List SP)(ad:Option Addr)(n c e sz:outParam Nat)(cs:outParam (List Value))(R:outParam (List SP)):Prop where perm:L.Perm (Sl e sz ad n c cs::R)
instance fL.head {L ad n c e sz cs}:fL (Sl e sz ad n c cs::L) ad n c e sz cs L:=⟨List.Perm.refl _⟩
instance (priority:=low) fL.tail {A L ad n c e sz cs R}[h:fL L ad n c e sz cs R]:fL (A::L) ad n c e sz cs (A::R) :=
 ⟨(List.Perm.cons A h.perm).trans (List.Perm.swap _ _ _)⟩
class pF (L:List SP)(A:SP)(R:outParam (List SP)):Prop where perm:L.Perm (A::R)
instance pF.head {A L}:pF (A::L) A L:=⟨List.Perm.refl _⟩
instance (priority:=low) pF.tail {B L A R}[h:pF L A R]:pF (B::L) A (B::R):=⟨(List.Perm.cons B h.perm).trans (List.Perm.swap _ _ _)⟩
class fD (L M:List SP)(R:outParam (List SP)):Prop where perm:L.Perm (M++R)
instance fD.nil {L}:fD L [] L:=⟨List.Perm.refl _⟩
instance (priority:=high) fD.refl {L}:fD L L []:=⟨by simp⟩
instance (priority:=low) fD.skip {A L M R}[h:fD L M R]:fD (A::L) M (A::R):=⟨(List.Perm.cons A h.perm).trans (by
 have:=perm_middle (a:=A) (l₁:=M) (l₂:=R);exact this.symm)⟩
instance fD.cons {L A M R R'}[h:pF L A R][k:fD R M R']:fD L (A::M) R':=⟨h.perm.trans (List.Perm.cons A k.perm)⟩
section
variable {P:Program}{W w:World}{L R:List SP}{e sz n c:Nat}{ad:Option Addr}{cs:List Value}
theorem V.pick (s:V W w L)(A:SP)[k:pF L A R]:V W w (A::R):=s.perm k.perm
theorem V.arr {M:List SP}(s:V W w L)[k:fD L M R]:V W w (M++R):=s.perm k.perm
theorem V.sub {M:List SP}(s:V W w L)[k:fD L M R]:V W w M:=by
 have:=(s.perm k.perm).perm (List.perm_append_comm);exact this.drop
theorem V.sl (s:V W w L)(ad:Option Addr)[k:fL L ad n c e sz cs R]:cs.length=n*sz∧n≤c:=(s.perm k.perm).tell λ_ h=>⟨h.1,h.2.1⟩
theorem V.ln (s:V W w (Sl e sz ad n c cs::L))(h0:0<c):∃ b pre post,(cs.length=n*sz∧n≤c∧ad=some ⟨b,List.length pre,none⟩∧(c-n)*sz≤List.length post)∧V W w (aa b e (pre++cs++post)::L):=by
 obtain⟨⟨b,pre,post⟩,h1,h2⟩:=s.jj (ι:=Nat×List Value×List Value) (p:=λi=>cs.length=n*sz∧n≤c∧ad=some ⟨i.1,i.2.1.length,none⟩∧(c-n)*sz≤i.2.2.length)
  (B:=λi=>aa i.1 e (i.2.1++cs++i.2.2)) (λh hx=>by
   obtain⟨dD,dU,a3⟩:=hx;rcases a3 with a3 | ⟨b,pre,post,x,y,z⟩
   ·omega
   ·exact⟨⟨b,pre,post⟩,⟨dD,dU,x,y⟩,z⟩)
 exact⟨b,pre,post,h1,h2⟩
theorem V.iF {b:Nat}{pre post:List Value}(s:V W w (aa b e (pre++cs++post)::L))(h1:cs.length=n*sz)(h2:n≤c)(h3:(c-n)*sz≤post.length) :
   V W w (Sl e sz (some ⟨b,pre.length,none⟩) n c cs::L) :=
 V.imp s λ_ ⟨Ox,Oy,d,a,k,x,q⟩=>⟨Ox,Oy,d,a,k,⟨h1,h2,.inr ⟨b,pre,post,rfl,h3,x⟩⟩,q⟩
theorem V.bH (s:V W w L)(e sz:Nat)(ad:Option Addr):V W w (Sl e sz ad 0 0 []::L) :=
 ⟨s.below,let ⟨h,p,q⟩:=s.sat;⟨h,p,λ_=>none,h,λ_=>.inl rfl,λ_ _ e=>(by cases e),Hp.Sub.refl _,⟨by simp,bh _,.inl rfl⟩,q⟩⟩
theorem V.bY (s:V W w L)(ad:Option Addr)[k:fL L ad n c e sz cs R](h0:0<n):∃ b off,ad=some ⟨b,off,none⟩∧Rd w b off cs:=by
 have s':=s.perm k.perm;have hn:=s.sl ad;obtain⟨b,pre,post,⟨h1,h2,h3,h4⟩,s2⟩:=s'.ln (by omega);refine⟨b,pre.length,h3,λj v hj=>?_⟩;rw[s2.cell];have:j<cs.length:=by
  rcases Nat.lt_or_ge j cs.length with h | h
  ·exact h
  ·rw[iP h]at hj;cases hj
 rw[lM (by simp;omega),getElem?_append_right (by omega)];simpa using hj
theorem V.cX (s:V W w L)(b:Nat)(off:Nat)[k:fL L (some ⟨b,off,none⟩) n c e sz cs R](h0:0<n):Rd w b off cs:=by
 obtain⟨b2,gG,h,hr⟩:=s.bY (some ⟨b,off,none⟩) h0;cases h;exact hr
theorem Rd.part {b off:Nat}{vs:List Value}(h:Rd w b off vs)(i m:Nat):Rd w b (off+i) ((vs.drop i).take m):=by
 intro j v hj;rw[getElem?_take]at hj;by_cases hm:j<m
 ·rw[al hm,getElem?_drop]at hj;have:=h _ _ hj
  rwa [← Nat.add_assoc]at this
 ·rw[ae hm]at hj;cases hj
theorem wD (e:TypeId){z:Value}{aX:Nat}(hz:z.cells.size=sz)(m:Nat):(Builtin.zeroCells z.cells m).toList.length=m*sz:=by
 rw[Array.length_toList,size_zeroCells,hz]
theorem Oz {t ty:TypeId}{z:Value}{aX:Nat}(ht:P.underlying t=some (.slice e))(hi:TI P e z sz aX)(hz:z.cells.size=sz)(s:V W w (Sl e sz ad n c cs::L))
   (GP:ad=none→c=0) {b2 gG m c2:Nat} {news:List Value} (hr:Rd w b2 gG news) (hl:news.length=m*sz) (h1:∀ v∈news,v.oneCell'=true) (hm:0<m) (hb:0<aX) (aE:(n+m)*aX≤140737488355328) :
   ∃ av c' w',(Builtin.append_ #[t,t] ty #[.slice ad n c,.slice (some ⟨b2,gG,none⟩) m c2]).run P w=.ok (.slice av (n+m) c') w'∧V W w' (Sl e sz av (n+m) c' (cs++news)::L)∧(av=none→c'=0):=by
 obtain⟨i,kS,dK,kn,pG⟩:=info_parts hi.h;have pH:=s.sl ad;have OA:n+m≤140737488355328:=gO (Nat.le_mul_of_pos_right _ hb) aE;have nC:∀ j v,news[j]?=some v→w.cell? ((⟨b2,gG,none⟩:Addr).add j)=some v:=λj v hj=>by rw[kR];exact hr j v hj
 by_cases m6:n+m≤c
 ·obtain⟨b,pre,post,⟨dD,dU,rfl,a4⟩,s2⟩:=s.ln (by omega);have eE:(c-n)*sz ≥ m*sz:=Nat.mul_le_mul_right _ (by omega);have hf:=run_firstCells_some (P:=P) w i.size m ⟨b2,gG,none⟩ m c2 news (by rw[kn];exact hl) nC;have aQ:=run_storeCells_at (P:=P) b (pre.length+n*sz) e news 0 (pre++cs++post).toArray w s2.has.2 (by simp;omega) h1;have e1:(pre++cs++post).take (pre.length+n*sz)=pre++cs:=by rw[← dD,← aK,List.take_left]
  have e2:(pre++cs++post).drop (pre.length+n*sz+0+news.length)=post.drop news.length:=by
   rw[← dD,Nat.add_zero,← aK,← drop_drop,drop_left]
  refine⟨some ⟨b,pre.length,none⟩,c,w.setRow b (pre++(cs++news)++post.drop news.length).toArray,?_,?_,λh=>by cases h⟩
  ·have qk:(storeCells ⟨b,pre.length+n*sz,none⟩ news 0).run P w=.ok () (w.setRow b (((pre++cs++post).take (pre.length+n*sz)++news)++(pre++cs++post).drop (pre.length+n*sz+0+news.length)).toArray):=aQ;rw[e1,e2]at qk;simp[Builtin.append_,eM ht,sizeOf,typeInfo,kS,Builtin.lenOf,m6,kR,kn];rw[kn]at hf;simp[hf,qk,dw]
  ·refine V.iF (pre:=pre) (post:=post.drop news.length) s2.setRow (by simp;rw[hl,dD,Nat.add_mul]) (by omega) ?_;simp only[c7];have:(c-(n+m))*sz=(c-n)*sz-m*sz:=by rw[← Nat.sub_mul];congr 1;omega
   omega
 ·have OB:(Builtin.zeroCells z.cells (grownCap w (n+m) c e-(n+m))).toList.length=(grownCap w (n+m) c e-(n+m))*sz:=wD e (aX:=aX) hz _;have m7:=grownCap_ge w (n+m) c e;have e8:Builtin.nextslicecap (n+m) c*i.bytes≤281474976710656:=by rw[pG];exact growslice_fits (by omega) aE
  have done : ∀ gq : List Value, gq = cs → V W (w.drew.alloc (.cells (gq.toArray ++ news.toArray ++ Builtin.zeroCells z.cells (grownCap w (n + m) c e - (n + m))) e))
      (Sl e sz (some ⟨w.heap.size,0,none⟩) (n+m) (grownCap w (n+m) c e) (cs++news)::L):=by
   intro gq ho;have uN:=(s.tail.drew).alloc (.cells (gq.toArray++news.toArray++Builtin.zeroCells z.cells (grownCap w (n+m) c e-(n+m))) e)
   have Bu : V W (w.drew.alloc (.cells (gq.toArray ++ news.toArray ++ Builtin.zeroCells z.cells (grownCap w (n + m) c e - (n + m))) e))
       (aa w.heap.size e ([]++(cs++news)++(Builtin.zeroCells z.cells (grownCap w (n+m) c e-(n+m))).toList)::L):=by
    have:(gq.toArray++news.toArray++Builtin.zeroCells z.cells (grownCap w (n+m) c e-(n+m)))=([]++(cs++news)++(Builtin.zeroCells z.cells (grownCap w (n+m) c e-(n+m))).toList).toArray:=by
     apply Array.ext';simp[ho]
    rw[this]at uN ⊢;exact uN
   exact V.iF (pre:=[]) Bu (by simp;rw[hl,pH.1,Nat.add_mul]) m7 (by omega)
  by_cases hc:c=0
  ·subst hc;have yG:n=0:=by omega
   subst yG;have j0:cs=[]:=g6 (by rw[pH.1];simp);subst j0;cases ad with
   | none =>
    have:=run_append_nil (P:=P) w t ty e i z ht kS dK ⟨b2,gG,none⟩ m c2 news (by rw[kn];exact hl) nC hm (by omega) (by rw[pG];rw[Nat.zero_add]at aE;omega);refine⟨_,_,_,by simpa using this,?_,λh=>by cases h⟩;have:=done [] rfl;simpa using this
   | some b =>
    have:=run_append_grow (P:=P) w t ty e i z ht kS dK b 0 0 [] (by simp) (λj v hj=>by simp at hj) ⟨b2,gG,none⟩ m c2 news (by rw[kn];exact hl) nC (by omega) (by omega) e8;refine⟨_,_,_,by simpa using this,?_,λh=>by cases h⟩;have:=done [] rfl;simpa using this
  ·obtain⟨b,pre,post,⟨dD,dU,rfl,a4⟩,s2⟩:=s.ln (by omega);have holds:∀ j v,cs[j]?=some v→w.cell? ((⟨b,pre.length,none⟩:Addr).add j)=some v:=by
    intro j v hj;rw[kR,s2.cell];have:j<cs.length:=by
     rcases Nat.lt_or_ge j cs.length with h | h
     ·exact h
     ·rw[iP h]at hj;cases hj
    rw[lM (by simp;omega),getElem?_append_right (by omega)];simpa using hj
   have:=run_append_grow (P:=P) w t ty e i z ht kS dK ⟨b,pre.length,none⟩ n c cs (by rw[kn];exact dD) holds ⟨b2,gG,none⟩ m c2 news (by rw[kn];exact hl) nC (by omega) (by omega) e8;exact⟨_,_,_,this,done cs rfl,λh=>by cases h⟩
def fm (ad:Option Addr)(lo c sz:Nat):Option Addr:=if c=lo then ad else ad.map (·.add (lo*sz))
theorem oG {b o lo c sz:Nat}(h:c≠lo):fm (some ⟨b,o,none⟩) lo c sz=some ⟨b,o+lo*sz,none⟩:=by simp[fm,h,kR]
theorem V.OC (s:V W w (Sl e sz ad n c cs::L)){lo hi:Nat}(h1:lo≤hi)(h2:hi≤n) :
   V W w (Sl e sz (fm ad lo c sz) (hi-lo) (c-lo) ((cs.drop (lo*sz)).take ((hi-lo)*sz))::L):=by
 have pH:=s.sl ad;have gH:(hi-lo)*sz+lo*sz=hi*sz:=by rw[← Nat.add_mul];congr 1;omega
 have j1:hi*sz≤n*sz:=Nat.mul_le_mul_right _ h2;have hlen:((cs.drop (lo*sz)).take ((hi-lo)*sz)).length=(hi-lo)*sz:=by simp;omega
 by_cases hc:c=lo
 ·have hz:hi-lo=0:=by omega
  have eN:c-lo=0:=by omega
  rw[hz,eN];simp only[Nat.zero_mul,take_zero];exact s.tail.bH e sz _
 ·obtain⟨b,pre,post,⟨dD,dU,rfl,a4⟩,s2⟩:=s.ln (by omega);have he:pre++cs++post=(pre++cs.take (lo*sz))++((cs.drop (lo*sz)).take ((hi-lo)*sz))++(cs.drop (hi*sz)++post):=by
   have e1:cs=cs.take (lo*sz)++(cs.drop (lo*sz)).take ((hi-lo)*sz)++cs.drop (hi*sz):=by
    have:cs.drop (hi*sz)=(cs.drop (lo*sz)).drop ((hi-lo)*sz):=by rw[drop_drop];congr 1;omega
    rw[this,dw,jz,jz]
   conv=>lhs;rw[e1]
   simp[dw]
  rw[he]at s2;have eE:(pre++cs.take (lo*sz)).length=pre.length+lo*sz:=by simp;omega
  have:=V.iF (n:=hi-lo) (c:=c-lo) (sz:=sz) s2 hlen (by omega) (by
   simp only[aK,c7];have:(c-lo-(hi-lo))*sz=(c-n)*sz+(n*sz-hi*sz):=by rw[← Nat.sub_mul,← Nat.add_mul];congr 1;omega
   omega)
  rw[eE]at this;simpa [fm,hc,kR] using this
theorem V.Bv (s:V W w L)(ad:Option Addr)(lo hi:Nat)[k:fL L ad n c e sz cs R](h1:lo≤hi)(h2:hi≤n) :
   V W w (Sl e sz (fm ad lo c sz) (hi-lo) (c-lo) ((cs.drop (lo*sz)).take ((hi-lo)*sz))::R):=(s.perm k.perm).OC h1 h2
end
section
variable {P:Program}{ops:Array Oper}{Q:Exit→Act→World→Prop}{a:Act}{w w' W:World}{K:Act→World→Prop}{o:Oper}{n d:Nat}{l:List (Nat×Value)}{v:Value}{L R:List SP}
theorem pI {t el:TypeId}(ht:P.underlying t=some (.slice el)):P.underlying t=some (.slice (P.elem t))∧P.elem t=el:=by
 constructor <;> simp[Program.elem,ht]
theorem OD {x y k i j ad m c t el z sz aX dst ty ps af g}(E:Fr a n l)(ht:P.underlying t=some (.slice el))(hi:TI P el z sz aX)[ev:Ev l x (.slice ad m c)][gS:Ev l y (.int k i)][nj:ei i j](h:j≤m) :
   (execOp a.eval ⟨dst,.slice t x (some y) none none,ty,ps,af,g⟩).run P w=.ok (.value (.slice (fm ad j c sz) (m-j) (c-j))) w:=by
 have hj:=nj.h;subst hj;have e1:=(pI ht).1;have e2:=(pI ht).2;have:=run_slice_l (P:=P) (w:=w) t ad m c e1 k (j:Int) (by omega) (by omega);rw[e2,lL hi]at this;simp only[Result.andThen_ok,Int.toNat_natCast]at this;simp[execOp,ev.ev a n E,gS.ev a n E,run_sliceAt_slice (P:=P) (w:=w) t _ _ _ _ e1,this,sliced,fm]
theorem OE {x y k i j ad m c t el z sz aX dst ty ps af g}(E:Fr a n l)(ht:P.underlying t=some (.slice el))(hi:TI P el z sz aX)[ev:Ev l x (.slice ad m c)][gS:Ev l y (.int k i)][nj:ei i j](h:j≤c) :
   (execOp a.eval ⟨dst,.slice t x none (some y) none,ty,ps,af,g⟩).run P w=.ok (.value (.slice (fm ad 0 c sz) (j-0) (c-0))) w:=by
 have hj:=nj.h;subst hj;have e1:=(pI ht).1;have e2:=(pI ht).2;have:=run_slice_h (P:=P) (w:=w) t ad m c e1 k (j:Int) (by omega) (by omega);rw[e2,lL hi]at this;simp only[Result.andThen_ok,Int.toNat_natCast]at this;simp[execOp,ev.ev a n E,gS.ev a n E,run_sliceAt_slice (P:=P) (w:=w) t _ _ _ _ e1,this,sliced,fm]
theorem OF {x y u k k' i i' j j' ad m c t el z sz aX dst ty ps af g}(E:Fr a n l)(ht:P.underlying t=some (.slice el))(hi:TI P el z sz aX)[ev:Ev l x (.slice ad m c)][gS:Ev l y (.int k i)][s7:Ev l u (.int k' i')][nj:ei i j][wE:ei i' j'](h:j≤j')(h':j'≤c) :
   (execOp a.eval ⟨dst,.slice t x (some y) (some u) none,ty,ps,af,g⟩).run P w=.ok (.value (.slice (fm ad j c sz) (j'-j) (c-j))) w:=by
 have hj:=nj.h;subst hj;have kT:=wE.h;subst kT;have e1:=(pI ht).1;have e2:=(pI ht).2;have:=run_slice_lh (P:=P) (w:=w) t ad m c e1 k k' (j:Int) (j':Int) (by omega) (by omega) (by omega);rw[e2,lL hi]at this;simp only[Result.andThen_ok,Int.toNat_natCast]at this;simp[execOp,ev.ev a n E,gS.ev a n E,s7.ev a n E,run_sliceAt_slice (P:=P) (w:=w) t _ _ _ _ e1,this,sliced,fm]
theorem OG {s x t z aX b2 gG m c2 news e sz ad k c dst ty ps af g}{cs:List Value}(E:Fr a n l)(I:V W w L)(ht:P.underlying t=some (.slice e))(hi:TI P e z sz aX)(hz:z.cells.size=sz)
   [e1:Ev l s (.slice ad k c)] [pk:fL L ad k c e sz cs R] [e2:Ev l x (.slice (some ⟨b2,gG,none⟩) m c2)] (hr:Rd w b2 gG news) (hl:news.length=m*sz) (h1:∀ v∈news,v.oneCell'=true) (hm:0<m) (hb:0<aX)
   (aE:(k+m)*aX≤140737488355328) :
   ∃ av c' w',(execOp a.eval ⟨dst,.call ⟨.builtin .append,#[s,x],#[t,t]⟩,ty,ps,af,g⟩).run P w=.ok (.value (.slice av (k+m) c')) w'∧V W w' (Sl e sz av (k+m) c' (cs++news)::R):=by
 have gR:=I.perm pk.perm;have GP:ad=none→c=0:=gR.tell λ_ hx=>by
  rintro rfl;rcases hx.2.2 with h | ⟨_,_,_,h,_⟩
  ·exact h
  ·cases h
 obtain⟨av,c',w',h2,h3,_⟩:=Oz (P:=P) (ty:=ty) ht hi hz gR GP (c2:=c2) hr hl h1 hm hb aE;exact⟨av,c',w',by simp[execOp,resolve,e1.ev a n E,e2.ev a n E,invoke,builtin,h2],h3⟩
theorem cJ {s x t z aX b2 gG m c2 news e sz ad k c ty ps af g}{cs:List Value}(E:Fr a n l)(hw:Region.wanted ⟨some d,.call ⟨.builtin .append,#[s,x],#[t,t]⟩,ty,ps,af,g⟩ (yielded ops a.tmps)=true)(I:V W w L)
   (ht:P.underlying t=some (.slice e)) (hi:TI P e z sz aX) (hz:z.cells.size=sz) (hf:okB d n l=true)
   [e1:Ev l s (.slice ad k c)] [pk:fL L ad k c e sz cs R] [e2:Ev l x (.slice (some ⟨b2,gG,none⟩) m c2)] (hr:Rd w b2 gG news) (hl:news.length=m*sz) (h1:∀ v∈news,v.oneCell'=true) (hm:0<m) (hb:0<aX)
   (aE:(k+m)*aX≤140737488355328)
   (h:∀ av c' a' w',Fr a' n ((d,.slice av (k+m) c')::l)→V W w' (Sl e sz av (k+m) c' (cs++news)::R)→K a' w') :
   cI P ops Q ⟨some d,.call ⟨.builtin .append,#[s,x],#[t,t]⟩,ty,ps,af,g⟩ K a w:=by
 obtain⟨av,c',w',h2,h3⟩:=OG (P:=P) (dst:=some d) (ty:=ty) (ps:=ps) (af:=af) (g:=g) E I ht hi hz (s:=s) (x:=x) hr hl h1 hm hb aE;exact bz E hw h2 hf λa' dg=>h _ _ a' _ dg h3
class s8 (l:List (Nat×Value))(parts:List (Nat×Operand))(i:Nat)(fM:outParam (List (List Value))):Prop where
 h:∀ a n,Fr a n l→∃ vs:List Value,parts.map (λp=>(p.1,a.eval p.2))=(List.range' i fM.length).zip vs∧vs.map (·.cells)=fM.map (·.toArray)
instance s8.nil {l i}:s8 l [] i []:=⟨λ_ _ _=>⟨[],rfl,rfl⟩⟩
instance s8.cons {l i o v c ps fM}[h1:Ev l o v][h2:Cells v c][h3:s8 l ps (i+1) fM]:s8 l ((i,o)::ps) i (c::fM):=⟨λa n E=>by
 obtain⟨vs,e1,e2⟩:=h3.h a n E;exact⟨v::vs,by simp[List.range'_succ,e1,h1.ev a n E],by simp[e2,h2.h]⟩⟩
theorem GQ (c:List Value):∀ (k:Nat) (off:Nat) (cells:List Value),off+k+c.length≤cells.length →
   (c.zipIdx k).foldl (λ(cs:Array Value) (p:Value×Nat)=>cs.setIfInBounds (off+p.2) p.1) cells.toArray=(cells.take (off+k)++c++cells.drop (off+k+c.length)).toArray:=by
 induction c with
 | nil=>intro k off cells h;simp
 | cons x c ih =>
  intro k off cells h;simp only[e9]at h;simp only[List.zipIdx_cons,foldl_cons,List.setIfInBounds_toArray];rw[ih (k+1) off (cells.set (off+k) x) (by simp;omega)]
  congr 1
  rw[set_eq_take_append_cons_drop,al (by omega)];have hl:(cells.take (off+k)).length=off+k:=by simp;omega
  have e1:(cells.take (off+k)++x::cells.drop (off+k+1)).take (off+(k+1))=cells.take (off+k)++[x]:=by
   rw[take_append,hl,fX (by omega)]
   congr 1
   rw[show off+(k+1)-(off+k)=1 from by omega];simp
  have e2:(cells.take (off+k)++x::cells.drop (off+k+1)).drop (off+(k+1)+c.length)=cells.drop (off+k+(c.length+1)):=by
   rw[List.drop_append,hl,List.drop_of_length_le (by rw[hl];omega),nil_append,show off+(k+1)+c.length-(off+k)=c.length+1 from by omega,List.drop_succ_cons,drop_drop]
   congr 1;omega
  rw[e1,e2];simp
theorem Bw {sz:Nat}:∀ (fM:List (List Value)) (vs:List Value) (i:Nat) (pre nD:List Value),vs.map (·.cells)=fM.map (·.toArray)→(∀ c∈fM,c.length=sz)→pre.length=i*sz→nD.length=fM.length*sz →
   Instr.fill (λi=>some (i*sz,sz)) (pre++nD).toArray ((List.range' i fM.length).zip vs)=some (pre++fM.flatten).toArray
 | [],vs,i,pre,nD,h,_,_,hr=>by
  have:nD=[]:=g6 (by simpa using hr);subst this;simp[Instr.fill]
 | c::fM,[],_,_,_,h,_,_,_=>by simp at h
 | c::fM,v::vs,i,pre,nD,h,hc,hp,hr=>by
  simp only[map_cons,List.cons.injEq]at h;have cd:=hc c (by simp);simp only[e9,Nat.succ_mul]at hr;have j0:v.cells.size=sz:=by rw[h.1];simpa using cd
  have ih:=Bw (sz:=sz) fM vs (i+1) (pre++c) (nD.drop sz) h.2 (λx hx=>hc x (by simp[hx])) (by simp[hp,cd,Nat.succ_mul]) (by simp;omega);simp only[e9,List.range'_succ,List.zip_cons_cons,Instr.fill];rw[ae (by simp[j0,hp];omega)];have:=GQ c 0 (i*sz) (pre++nD) (by simp[hp];omega);have e1:(pre++nD).take (i*sz)=pre:=by rw[← hp,List.take_left]
  have e2:(pre++nD).drop (i*sz+c.length)=nD.drop sz:=by rw[← hp,← drop_drop,drop_left,cd]
  simp only[Nat.add_zero]at this;rw[e1,e2]at this;have e3:(v.cells.zipIdx.foldl (λ(cs:Array Value) (x:Value×Nat)=>cs.setIfInBounds (i*sz+x.2) x.1) (pre++nD).toArray)=(pre++c++nD.drop sz).toArray:=by
   rw[h.1,← Array.foldl_toList,Array.toList_zipIdx];exact this
  have iQ:=ih;simp only[List.flatten_cons] at *;rw[← dw,← iQ]
  congr 1
theorem cm {t el z sz aX m parts fM ty ps af g}(E:Fr a n l)(hw:Region.wanted ⟨some d,.buildSlice t m (List.toArray parts),ty,ps,af,g⟩ (yielded ops a.tmps)=true)(I:V W w L)(ht:P.underlying t=some (.slice el))
   (hi:TI P el z sz aX) (hz:z.cells.size=sz) (hf:okB d n l=true) [rE:s8 l parts 0 fM] (hm:fM.length=m) (hc:(fM.all λc=>c.length==sz)=true) (h24:m*sz≤16777216) (h0:0<m*sz)
   (h:∀ b a' w',Fr a' n ((d,.slice (some ⟨b,0,none⟩) m m)::l)→V W w' (aa b el fM.flatten::L)→Old w w'→K a' w') :
   cI P ops Q ⟨some d,.buildSlice t m (List.toArray parts),ty,ps,af,g⟩ K a w:=by
 obtain⟨vs,e1,e2⟩:=rE.h a n E;have jk:=Bw (sz:=sz) fM vs 0 [] ((List.range (m*sz)).map (λi=>z.cells[i%z.cells.size]!)) e2 (λc wF=>by simpa using all_eq_true.1 hc c wF) (by simp) (by simp[hm]);simp only[nil_append]at jk;refine bz (v:=.slice (some ⟨w.heap.size,0,none⟩) m m) (w':=w.alloc (.cells fM.flatten.toArray el)) E hw ?_ hf (λa' dg=>h _ _ _ dg (I.alloc _) (Old.alloc _ _));have OH:¬ (16777216<m*sz):=by omega
 have OI:¬ (m*sz=0):=by omega
 have e3:(Array.range (m*sz)).map (λi=>z.cells[i%z.cells.size]!)=((List.range (m*sz)).map (λi=>z.cells[i%z.cells.size]!)).toArray:=by
  apply Array.ext';simp
 simp only[execOp,Sem.run_bind,Instr.buildSlice,eM ht,Result.andThen_ok,lL hi,List.map_toArray,e1,hm];simp only[hm]at jk;simp[OH,s5 hi,e3,jk,newRow,newObj,Sem.run,ae OI]
theorem lN {t z aX x y b off k o' e sz m c cs v ty ps af g}(E:Fr a n l)(hw:Region.wanted ⟨none,.store t x y,ty,ps,af,g⟩ (yielded ops a.tmps)=true)(I:V W w L)
   (hi:TI P t z 1 aX) [ev:Ev l x (.pointer (some ⟨b,o',none⟩))] [s6:Ev l y v] [pE:Cells v [v]] [pk:fL L (some ⟨b,off,none⟩) m c e sz cs R] (h1:v.oneCell'=true) (ho:o'=off+k) (hk:k<cs.length)
   (h:∀ a' w',Fr a' n l→V W w' (Sl e sz (some ⟨b,off,none⟩) m c (cs.set k v)::R)→K a' w'):cI P ops Q ⟨none,.store t x y,ty,ps,af,g⟩ K a w:=by
 subst ho;have nE:=I.perm pk.perm;have pH:=nE.sl (some ⟨b,off,none⟩);have hc:0<c:=by
  rcases Nat.eq_zero_or_pos c with h0 | h0
  ·have:m=0:=by omega
   subst this;rw[Nat.zero_mul]at pH;omega
  ·exact h0
 obtain⟨b2,pre,post,⟨dD,dU,a3,a4⟩,s2⟩:=nE.ln hc;cases a3;refine GG (cs:=pre++cs++post) (R:=R) E hw s2 hi h1 (by simp only[aK];omega) (λa' w' dg gR=>h a' w' dg ?_);have e1:(pre++cs++post).set (pre.length+k) v=pre++cs.set k v++post:=by
  rw[dw,set_append_right _ _ (by omega),show pre.length+k-pre.length=k from by omega,set_append_left _ _ hk,dw]
 rw[e1]at gR;exact V.iF gR (by rw[br];exact dD) dU a4
end
end
section
def iu (P:Program)(ops:Array Oper)(Q:Exit→Act→World→Prop)(C:World→Prop)(bk:List Nat):Nat→Array Bool→Act→World→Prop
 | 0,bA,a,w=>Region.ready .any ops bA=[]∧Q .normal a w
 | fuel+1,bA,a,w =>
  (Region.ready .any ops bA=[]→Q .normal a w) ∧
  ∀ i∈Region.ready .any ops bA,wpOp P ops Q i (λa' w'=>(bk.contains i=true→C w')∧iu P ops Q C bk fuel (bA.setIfInBounds i true) a' w') a w
def GR (acc:List Nat)(es:List Edge):Nat:=es.foldl (λs e=>if Region.binds .any e then s ||| 2 ^ e.on ||| acc.getD e.on 0 else s) 0
def rF:List Oper→List Nat→List Nat
 | [],acc=>acc
 | o::r,acc=>rF r (acc++[GR acc o.after.toList])
def GS (ops:Array Oper)(bA:Array Bool):Bool :=
 (List.range ops.size).all λj=>!bA.getD j false||match ops[j]? with
  | none=>true
  | some o=>o.after.all λe=>!Region.binds .any e||bA.getD e.on false
def DC (ops:Array Oper)(bA:Array Bool):Prop:=∀ j o,ops[j]?=some o→bA.getD j false=true→∀ e∈o.after,Region.binds .any e=true→bA.getD e.on false=true
def my (ops:Array Oper)(bA:Array Bool)(bk:List Nat)(pure:Bool)(i:Nat):Bool :=
 Region.noSelect ops&&GS ops bA&&(Region.ready .any ops bA).contains i&&match ops[i]? with
  | none=>false
  | some oi=>(List.range ops.size).all λj=>j==i||bA.getD j true||((rF ops.toList []).getD j 0).testBit i||match ops[j]? with
   | none=>true
   | some ql=>oi.apart ops ql&&(pure||bk.contains j)
def lb (n m:Nat):Array Bool:=((List.range n).map m.testBit).toArray
def kU (Q:Exit→Act→World→Prop):Prop:=∀ c a (o:Option Tmp) v w,Q (.panic c) (a.put o v) w→Q (.panic c) a w
theorem OJ {K Q}(h:kU Q):kU (Exit.then K Q):=h
theorem OK {i Q}(h:kU Q):kU (Exit.inBlock i Q):=h
theorem OL {P fn X}:kU (bodyPost P fn X):=λc a o v w h=>by
 cases o <;> exact h
section
variable {P:Program}{ops:Array Oper}{Q:Exit→Act→World→Prop}{C:World→Prop}{bk:List Nat}{a:Act}{w:World}{n d:Nat}{l:List (Nat×Value)}{v:Value}
theorem GU:∀ (fuel:Nat) (bA:Array Bool) (a:Act) (w:World),iu P ops Q C bk fuel bA a w→wpAny P .any ops Q fuel bA a w
 | 0,_,_,_,h=>h
 | fuel+1,_,_,_,h=>⟨h.1,λi hi=>wpOp_mono (λa' w' h'=>GU fuel _ a' w' h'.2) (h.2 i hi)⟩
theorem GV {bA:Array Bool}(h:GS ops bA=true):DC ops bA:=by
 intro j o hj hl e he hb;have hlt:j<ops.size:=(Array.getElem?_eq_some_iff.1 hj).1;have h1:=all_eq_true.1 h j (mem_range.2 hlt);simp only[hl,hj,Bool.not_true,Bool.false_or]at h1;have h2:=Array.all_eq_true_iff_forall_mem.1 h1 e he;simpa [hb] using h2
theorem DC.set {bA:Array Bool}(h:DC ops bA){i:Nat}(hi:i∈Region.ready .any ops bA):DC ops (bA.setIfInBounds i true):=by
 intro j o hj hl e he hb;obtain⟨_,oi,OM,hO⟩:=mem_ready.1 hi;by_cases gI:j=i
 ·subst gI;rw[OM]at hj;cases hj;exact getD_set_true (hO e he hb)
 ·rw[getD_set_ne false (Ne.symm gI)]at hl;exact getD_set_true (h j o hj hl e he hb)
theorem GW {acc:List Nat}{i:Nat}:∀ (es:List Edge) (s:Nat),(es.foldl (λs e=>if Region.binds .any e then s ||| 2 ^ e.on ||| acc.getD e.on 0 else s) s).testBit i=true →
   s.testBit i=true∨∃ e∈es,Region.binds .any e=true∧(e.on=i∨(acc.getD e.on 0).testBit i=true)
 | [],s,h=>.inl h
 | e::es,s,h=>by
  simp only[foldl_cons]at h;rcases GW es _ h with h1 | ⟨x,hx,hb,hi⟩
  ·cases hb:Region.binds .any e with
   | false=>rw[hb]at h1;exact .inl (by simpa using h1)
   | true =>
    rw[hb,al rfl]at h1;simp only[Nat.testBit_or,Bool.or_eq_true,Nat.testBit_two_pow,decide_eq_true_eq]at h1;rcases h1 with (h1 | h1) | h1
    ·exact .inl h1
    ·exact .inr ⟨e,mem_cons_self,hb,.inl h1⟩
    ·exact .inr ⟨e,mem_cons_self,hb,.inr h1⟩
  ·exact .inr ⟨x,gP _ hx,hb,hi⟩
theorem GX {bA:Array Bool}(h:DC ops bA):∀ (r:List Oper) (acc:List Nat),(∀ j,r[j]?=ops[acc.length+j]?) →
   (∀ k,k<acc.length→(∀ o,ops[k]?=some o→∀ e∈o.after,Region.binds .any e=true→bA.getD e.on false=true)→∀ i,(acc.getD k 0).testBit i=true→bA.getD i false=true) →
   ∀ k,(∀ o,ops[k]?=some o→∀ e∈o.after,Region.binds .any e=true→bA.getD e.on false=true)→∀ i,((rF r acc).getD k 0).testBit i=true→bA.getD i false=true
 | [],acc,_,hinv,k,hk,i,hb=>by
  rcases Nat.lt_or_ge k acc.length with hlt | m7
  ·exact hinv k hlt hk i hb
  ·simp[rF,bl,iP m7]at hb
 | o::r,acc,hr,hinv,k,hk,i,hb=>by
  refine GX h r (acc++[GR acc o.after.toList]) (λj=>?_) ?_ k hk i hb
  ·have:=hr (j+1);simp only[getElem?_cons_succ]at this;rw[this];congr 1;simp;omega
  ·intro k' eT cc i' kV;simp only[aK,e9,length_nil]at eT;rcases Nat.lt_or_ge k' acc.length with hlt | m7
   ·rw[bl,lM hlt,← bl]at kV;exact hinv k' hlt cc i' kV
   ·obtain rfl:k'=acc.length:=by omega
    rw[bl,getElem?_append_right (bh _)]at kV;simp only[Nat.sub_self,List.getElem?_cons_zero,Option.getD_some]at kV;have ho:ops[acc.length]?=some o:=by have:=hr 0;simpa using this.symm
    rcases GW _ _ kV with h1 | ⟨e,he,m8,h1⟩
    ·simp at h1
    ·have hle:=cc o ho e (Array.mem_toList_iff.1 he) m8;rcases h1 with h1 | h1
     ·rw[← h1];exact hle
     ·rcases Nat.lt_or_ge e.on acc.length with hlt | ON
      ·exact hinv e.on hlt (λo' j2 e' OO oH=>h e.on o' j2 hle e' OO oH) i' h1
      ·simp[bl,iP ON]at h1
theorem OP {bA:Array Bool}(h:DC ops bA){i:Nat}(hi:bA.getD i false=false)(k:Nat)(hk:∀ o,ops[k]?=some o→∀ e∈o.after,Region.binds .any e=true→bA.getD e.on false=true) :
   ((rF ops.toList []).getD k 0).testBit i=false:=by
 cases hb:((rF ops.toList []).getD k 0).testBit i with
 | false=>rfl
 | true =>
  have:=GX h ops.toList [] (λj=>by simp) (λk hk=>by simp at hk) k hk i hb;rw[hi]at this;cases this
theorem GY {T:World→Prop}{i:Nat}{oi:Oper}(hi:ops[i]?=some oi)(I:Region.noSelect ops=true)(j3:kU Q) :
   ∀ (fuel:Nat) (bA:Array Bool) (a:Act) (w:World),
    (∀ j ql,ops[j]?=some ql→j≠i→bA.getD j true=false→((rF ops.toList []).getD j 0).testBit i=false→oi.apart ops ql=true∧∀ w',(bk.contains j=true→C w')→T w') →
    DC ops bA→i∈Region.ready .any ops bA→YieldsIf P ops T oi v a→T w→(∀ w',T w'→bk.contains i=true→C w') →
    iu P ops Q C bk fuel (bA.setIfInBounds i true) (a.put oi.dst v) w→iu P ops Q C bk (fuel+1) bA a w:=by
 have GZ:=Region.noSelect_spec I;intro fuel
 induction fuel with
 | zero =>
  intro bA a w _ _ hr hy hT yH H;refine⟨λh=>(by rw[h]at hr;cases hr),λj hj=>?_⟩;by_cases gI:j=i
  ·subst gI;exact hy.wpOp hi hT ⟨yH w hT,H⟩
  ·have:=ready_mono hj gI;rw[H.1]at this;cases this
 | succ fuel ih =>
  intro bA a w G0 uO hr hy hT yH H;refine⟨λh=>(by rw[h]at hr;cases hr),λj hj=>?_⟩;by_cases gI:j=i
  ·subst gI;exact hy.wpOp hi hT ⟨yH w hT,H⟩
  ·have h1:=H.2 j (ready_mono hj gI);obtain⟨G1,ql,yI,hO⟩:=mem_ready.1 hj;have OQ:bA.getD i false=false:=by
    have h0:=(mem_ready.1 hr).1;rcases Nat.lt_or_ge i bA.size with h' | h'
    ·simp[h']at h0 ⊢;exact h0
    ·simp[Array.getElem?_eq_none h']
   have oI:=OP uO OQ j (λo ho e he hb=>by rw[yI]at ho;cases ho;exact hO e he hb);obtain⟨By,aQ⟩:=G0 j ql yI gI G1 oI;have h2:=wpOp_putIf (S:=T) yI By (λcs b=>GZ i oi cs b hi) (λcs b=>GZ j ql cs b yI) (λc a w=>j3 c a oi.dst v w) hy h1;have OR:∀ k ok,ops[k]?=some ok→k≠i→(bA.setIfInBounds j true).getD k true=false→((rF ops.toList []).getD k 0).testBit i=false→oi.apart ops ok=true∧∀ w',(bk.contains k=true→C w')→T w':=λk ok hk G2 m9 bQ=>by
    refine G0 k ok hk G2 ?_ bQ;by_cases pJ:j=k
    ·subst pJ;exact G1
    ·rw[getD_set_ne true pJ]at m9;exact m9
   refine wpOp_mono (λa' w' h3=>⟨h3.2.1,ih (bA.setIfInBounds j true) a' w' OR (uO.set hj) (ready_mono hr (Ne.symm gI)) h3.1 (aQ w' h3.2.1) yH ?_⟩) h2;rw[Array.setIfInBounds_comm _ _ gI];exact h3.2.2
theorem G3 {i fuel:Nat}{bA:Array Bool}{oi:Oper}(hi:ops[i]?=some oi)(ht:my ops bA bk true i=true)(hn:bk.contains i=false)(j3:kU Q)
   (hy:YieldsIf P ops (λ_=>True) oi v a)
   (h:iu P ops Q C bk fuel (bA.setIfInBounds i true) (a.put oi.dst v) w):iu P ops Q C bk (fuel+1) bA a w:=by
 simp only[my,hi,fB,all_eq_true,mem_range]at ht;obtain⟨⟨⟨h1,h2⟩,h3⟩,h4⟩:=ht;refine GY (T:=λ_=>True) hi h1 j3 fuel bA a w (λj ql hj bN m9 oI=>?_) (GV h2) (by simpa using h3) hy trivial (λ_ _ h=>by rw[hn]at h;cases h) h;have h5:=h4 j (Array.getElem?_eq_some_iff.1 hj).1;simp only[hj,oI,m9,Bool.or_eq_true,beq_iff_eq,bN,Bool.false_eq_true,fB,false_or,or_false]at h5;exact⟨h5.1,λ_ _=>trivial⟩
theorem G4 {i fuel:Nat}{bA:Array Bool}{oi:Oper}(hi:ops[i]?=some oi)(ht:my ops bA bk false i=true)(j3:kU Q)
   (hy:YieldsIf P ops C oi v a) (U:C w)
   (h:iu P ops Q C bk fuel (bA.setIfInBounds i true) (a.put oi.dst v) w):iu P ops Q C bk (fuel+1) bA a w:=by
 simp only[my,hi,fB,all_eq_true,mem_range]at ht;obtain⟨⟨⟨h1,h2⟩,h3⟩,h4⟩:=ht;refine GY (T:=C) hi h1 j3 fuel bA a w (λj ql hj bN m9 oI=>?_) (GV h2) (by simpa using h3) hy U (λ_ h _=>h) h;have h5:=h4 j (Array.getElem?_eq_some_iff.1 hj).1;simp only[hj,oI,m9,Bool.or_eq_true,beq_iff_eq,bN,Bool.false_eq_true,fB,false_or,or_false]at h5;exact⟨h5.1,λw' dh=>dh h5.2⟩
theorem G5 {i fuel:Nat}{bA mz:Array Bool}(hl:bA.setIfInBounds i true=mz) {op ty ps af g}(hi:ops[i]?=some ⟨some d,op,ty,ps,af,g⟩)(ht:my ops bA bk true i=true)(hn:bk.contains i=false)(j3:kU Q)
   (E:Fr a n l) (hw:Region.wanted ⟨some d,op,ty,ps,af,g⟩ (yielded ops a.tmps)=true) (hr:∀ w,(execOp a.eval ⟨some d,op,ty,ps,af,g⟩).run P w=.ok (.value v) w) (hf:okB d n l=true)
   (h:∀ a',Fr a' n ((d,v)::l)→iu P ops Q C bk fuel mz a' w):iu P ops Q C bk (fuel+1) bA a w:=by
 subst hl;exact G3 hi ht hn j3 (.inl ⟨hw,λw _=>hr w⟩) (h _ (E.put hf v))
theorem G6 {i fuel:Nat}{bA mz:Array Bool}(hl:bA.setIfInBounds i true=mz) {op ty ps af g}(hi:ops[i]?=some ⟨some d,op,ty,ps,af,g⟩)(ht:my ops bA bk false i=true)(j3:kU Q)
   (E:Fr a n l) (hw:Region.wanted ⟨some d,op,ty,ps,af,g⟩ (yielded ops a.tmps)=true) (hr:∀ w,C w→(execOp a.eval ⟨some d,op,ty,ps,af,g⟩).run P w=.ok (.value v) w) (U:C w) (hf:okB d n l=true)
   (h:∀ a',Fr a' n ((d,v)::l)→iu P ops Q C bk fuel mz a' w):iu P ops Q C bk (fuel+1) bA a w:=by
 subst hl;exact G4 hi ht j3 (.inl ⟨hw,hr⟩) U (h _ (E.put hf v))
theorem OS {i fuel:Nat}{bA mz:Array Bool}(hl:bA.setIfInBounds i true=mz) {op ty ps af g}(hi:ops[i]?=some ⟨some d,op,ty,ps,af,g⟩)(ht:my ops bA bk true i=true)(hn:bk.contains i=false)(j3:kU Q)
   (E:Fr a n l) (hw:Region.wanted ⟨some d,op,ty,ps,af,g⟩ (yielded ops a.tmps)=false) (hf:okB d n l=true)
   (h:∀ a',Fr a' n ((d,undef)::l)→iu P ops Q C bk fuel mz a' w):iu P ops Q C bk (fuel+1) bA a w:=by
 subst hl;exact G3 hi ht hn j3 (.inr ⟨hw,rfl⟩) (h _ (E.put hf undef))
theorem OT {i fuel:Nat}{bA mz:Array Bool}(hl:bA.setIfInBounds i true=mz) {op ty ps af g}(hi:ops[i]?=some ⟨some d,op,ty,ps,af,g⟩)(ht:my ops bA bk false i=true)(j3:kU Q)
   (E:Fr a n l) (hw:Region.wanted ⟨some d,op,ty,ps,af,g⟩ (yielded ops a.tmps)=false) (U:C w) (hf:okB d n l=true)
   (h:∀ a',Fr a' n ((d,undef)::l)→iu P ops Q C bk fuel mz a' w):iu P ops Q C bk (fuel+1) bA a w:=by
 subst hl;exact G4 hi ht j3 (.inr ⟨hw,rfl⟩) U (h _ (E.put hf undef))
theorem OU {i fuel:Nat}{bA mz:Array Bool}(hl:bA.setIfInBounds i true=mz){o:Oper}(hr:Region.ready .any ops bA=[i])(hi:ops[i]?=some o)
   (h:cI P ops Q o (λa' w'=>(bk.contains i=true→C w')∧iu P ops Q C bk fuel mz a' w') a w):iu P ops Q C bk (fuel+1) bA a w:=by
 subst hl;refine⟨λh0=>(by rw[hr]at h0;cases h0),λj hj=>?_⟩;rw[hr]at hj;obtain rfl:j=i:=by simpa using hj
 simp only[wpOp,hi];exact h
theorem OV {bA:Array Bool}(hr:Region.ready .any ops bA=[])(h:Q .normal a w):∀ fuel,iu P ops Q C bk fuel bA a w
 | 0=>⟨hr,h⟩
 | _+1=>⟨λ_=>h,by rw[hr];simp⟩
theorem OW {id m:Nat}{l0:Array Bool}(C:World→Prop)(bk:List Nat)(hm:P.follows .mixedOrders=true)(hn:ops.size=m)(hl:Array.replicate m false=l0)(j3:kU Q)(h:kU Q→iu P ops Q C bk m l0 a w.drew):(Code.region id ops true).wp P Q a w:=by
 subst hl;subst hn;exact wp_region_any hm (GU _ _ _ _ (h j3))
theorem Old.rd {w0 w:World}(h:Old w0 w){b off:Nat}{vs:List Value}(hc:Rd w0 b off vs):Rd w b off vs:=λj v hj=>h.cell (hc j v hj)
end
section
variable {P:Program}{ops:Array Oper}{Q:Exit→Act→World→Prop}{C:World→Prop}{bk:List Nat}{a:Act}{w:World}
theorem OX {i j fuel:Nat}{bA li G7:Array Bool}(uP:bA.setIfInBounds i true=li)(OY:bA.setIfInBounds j true=G7){o o':Oper}(hr:Region.ready .any ops bA=[i,j])(hi:ops[i]?=some o)(hj:ops[j]?=some o')
   (h1:cI P ops Q o (λa' w'=>(bk.contains i=true→C w')∧iu P ops Q C bk fuel li a' w') a w) (h2:cI P ops Q o' (λa' w'=>(bk.contains j=true→C w')∧iu P ops Q C bk fuel G7 a' w') a w):iu P ops Q C bk (fuel+1) bA a w:=by
 subst uP;subst OY;refine⟨λh0=>(by rw[hr]at h0;cases h0),λk hk=>?_⟩;rw[hr]at hk;rcases List.mem_cons.1 hk with rfl | hk
 ·simp only[wpOp,hi];exact h1
 ·obtain rfl:=mem_singleton.1 hk;simp only[wpOp,hj];exact h2
end
end
section
class ej (P:Program)(t:TypeId)(j4:outParam (List (Nat×Nat))):Prop where
 h:∃ fs,P.underlying t=some (.struct fs)∧∀ w,(fs.mapM (λf=>do pure (f.offset,← sizeOf f.type)):Sem (Array (Nat×Nat))).run P w=.ok j4.toArray w
class uQ (ps:List (Nat×Nat))(i:Nat)(off sz:outParam Nat):Prop where h:ps[i]?=some (off,sz)
instance uQ.zero {off sz ps}:uQ ((off,sz)::ps) 0 off sz:=⟨rfl⟩
instance uQ.succ {p ps i off sz}[h:uQ ps i off sz]:uQ (p::ps) (i+1) off sz:=⟨by rw[getElem?_cons_succ];exact h.h⟩
class rG (cs:List Value)(off:Nat)(vs:List Value)(out:outParam (List Value)):Prop where h:off+vs.length≤cs.length→cC cs off vs=out
theorem OZ {cs vs:List Value}{off:Nat}{v:Value}(h:off+(vs.length+1)≤cs.length):cC cs off (v::vs)=cC (cs.set off v) (off+1) vs:=by
 have hl:(cs.take off).length=off:=by simp;omega
 simp only[cC,e9];rw[set_eq_take_append_cons_drop,al (by omega)];have e1:(cs.take off++v::cs.drop (off+1)).take (off+1)=cs.take off++[v]:=by
  rw[take_append,hl,fX (by omega),show off+1-off=1 from by omega];simp
 have e2:(cs.take off++v::cs.drop (off+1)).drop (off+1+vs.length)=cs.drop (off+(vs.length+1)):=by
  rw[List.drop_append,hl,List.drop_of_length_le (by rw[hl];omega),nil_append,show off+1+vs.length-off=vs.length+1 from by omega,List.drop_succ_cons,drop_drop]
  congr 1;omega
 rw[e1,e2];simp
instance (priority:=low) rG.any {cs off vs}:rG cs off vs (cC cs off vs):=⟨λ_=>rfl⟩
instance rG.nil {cs off}:rG cs off [] cs:=⟨λ_=>by simp[cC]⟩
instance rG.cons {cs off v vs G8 out}[h1:pC cs off v G8][h2:rG G8 (off+1) vs out]:rG cs off (v::vs) out:=⟨λh=>by
 simp only[e9]at h;rw[OZ h,h1.h];exact h2.h (by rw[← h1.h];simp;omega)⟩
theorem O0 {cs vs:List Value}{off:Nat}(h:off+vs.length≤cs.length):(cC cs off vs).length=cs.length:=by simp[cC];omega
class lO (c:List Value)(n:Nat):Prop where h:c.length=n
instance lO.nil:lO [] 0:=⟨rfl⟩
instance lO.cons {x c n}[h:lO c n]:lO (x::c) (n+1):=⟨by simp[h.h]⟩
class s9 (j4:List (Nat×Nat))(zs:List Value)(l:List (Nat×Value))(parts:List (Nat×Operand))(out:outParam (List Value)):Prop where
 h:(∀ p∈j4,p.1+p.2≤zs.length)→∀ a n,Fr a n l→Instr.fill (j4.toArray[·]?) zs.toArray (parts.map λp=>(p.1,a.eval p.2))=some out.toArray
instance s9.nil {j4 zs l}:s9 j4 zs l [] zs:=⟨λ_ _ _ _=>rfl⟩
instance s9.cons {j4 zs l i o ps off sz v c yJ out}[h1:uQ j4 i off sz][h2:Ev l o v][h3:Cells v c][h4:lO c sz][h5:rG zs off c yJ][h6:s9 j4 yJ l ps out] :
   s9 j4 zs l ((i,o)::ps) out:=⟨λhp a n E=>by
 have cD:=hp _ (bE h1.h);simp only at cD;have hl:=h4.h;have e1:=h5.h (by rw[hl];exact cD);have c5:yJ.length=zs.length:=by rw[← e1];exact O0 (by rw[hl];exact cD)
 have ih:=h6.h (by rw[c5];exact hp) a n E;simp only[map_cons,Instr.fill,h2.ev a n E];have hg:j4.toArray[i]?=some (off,sz):=by rw[getElem?_toArray];exact h1.h
 simp only[hg];have j0:v.cells.size=sz:=by rw[h3.h];simpa using hl
 rw[ae (by simp[j0];omega)];have hf:=GQ c 0 off zs (by rw[hl];omega);have e3:(v.cells.zipIdx.foldl (λ(cs:Array Value) (x:Value×Nat)=>cs.setIfInBounds (off+x.2) x.1) zs.toArray)=yJ.toArray:=by
  rw[h3.h,← Array.foldl_toList,Array.toList_zipIdx,← e1];simpa [cC] using hf
 rw[← ih]
 congr 1⟩
section
variable {P:Program}{ops:Array Oper}{Q:Exit→Act→World→Prop}{a:Act}{w w' W:World}{K:Act→World→Prop}{n:Nat}{l:List (Nat×Value)}{v:Value}{L R:List SP}
theorem G9 {t j4 z zs sz aX parts cs dst ty ps af g}(E:Fr a n l)(hb:ej P t j4)(hi:TI P t z sz aX)[Bz:Cells z zs][O1:s9 j4 zs l parts cs](hp:(j4.all λp=>Nat.ble (p.1+p.2) zs.length)=true) :
   (execOp a.eval ⟨dst,.build t (List.toArray parts),ty,ps,af,g⟩).run P w=.ok (.value (.agg cs.toArray)) w:=by
 obtain⟨fs,hu,hm⟩:=hb.h;have hf:=O1.h (λp O2=>Nat.le_of_ble_eq_true (all_eq_true.1 hp p O2)) a n E;simp only[execOp,Sem.run_bind,Instr.build,s5 hi,Result.andThen_ok,eM hu,hm,Bz.h];simp only[getElem?_toArray]at hf;simp[hf]
theorem nF {x i vs dst ty ps af g}(E:Fr a n l)[e:Ev l x (.tuple (List.toArray vs))](h:vs[i]?=some v):(execOp a.eval ⟨dst,.extract x i,ty,ps,af,g⟩).run P w=.ok (.value v) w:=by
 simp[execOp,e.ev a n E,Instr.extract,h]
theorem run_equalIn_bool {t:TypeId}(ht:P.underlying t=some .bool)(i j:Bool)(k:Nat):(Op.equalIn (k+1) t (.bool i) (.bool j)).run P w=.ok (i==j) w:=by
 simp[Op.equalIn,eM ht]
theorem run_equal_bool {t:TypeId}(ht:P.underlying t=some .bool)(i j:Bool):(Op.equal t (.bool i) (.bool j)).run P w=.ok (i==j) w:=run_equalIn_bool ht i j 9999
theorem run_eql_bool {t:TypeId}(ht:P.underlying t=some .bool)(i j:Bool):(binOp .eql t (.bool i) (.bool j)).run P w=.ok (.bool (i==j)) w:=by
 simp only[binOp];simp[run_equal_bool ht]
theorem run_neq_bool {t:TypeId}(ht:P.underlying t=some .bool)(i j:Bool):(binOp .neq t (.bool i) (.bool j)).run P w=.ok (.bool (i != j)) w:=by
 simp only[binOp];simp[run_equal_bool ht,bne]
theorem O3 {x y i j t u dst ty ps af g}(E:Fr a n l)(ht:P.underlying t=some .bool)[e:Ev l x (.bool i)][f:Ev l y (.bool j)] :
   (execOp a.eval ⟨dst,.binOp .eql t x y u,ty,ps,af,g⟩).run P w=.ok (.value (.bool (i==j))) w:=by
 simp only[execOp,e.ev a n E,f.ev a n E,Sem.run_bind];simp[eqGuard,run_eql_bool ht]
theorem O4 {x y i j t u dst ty ps af g}(E:Fr a n l)(ht:P.underlying t=some .bool)[e:Ev l x (.bool i)][f:Ev l y (.bool j)] :
   (execOp a.eval ⟨dst,.binOp .neq t x y u,ty,ps,af,g⟩).run P w=.ok (.value (.bool (i != j))) w:=by
 simp only[execOp,e.ev a n E,f.ev a n E,Sem.run_bind];simp[eqGuard,run_neq_bool ht]
theorem O5 {x y k i j ta dst ty ps af g}(E:Fr a n l)[e:Ev l x (.int k i)][f:Ev l y (.int k j)] :
   (execOp a.eval ⟨dst,.call ⟨.builtin .min,#[x,y],ta⟩,ty,ps,af,g⟩).run P w=.ok (.value (.int k (min i j))) w:=by
 simp[execOp,resolve,e.ev a n E,f.ev a n E,invoke,builtin,Builtin.min_,Builtin.min2];rw[Int.min_def];split <;> split <;> omega
theorem O6 {x y k i j ta dst ty ps af g}(E:Fr a n l)[e:Ev l x (.int k i)][f:Ev l y (.int k j)] :
   (execOp a.eval ⟨dst,.call ⟨.builtin .max,#[x,y],ta⟩,ty,ps,af,g⟩).run P w=.ok (.value (.int k (max i j))) w:=by
 simp[execOp,resolve,e.ev a n E,f.ev a n E,invoke,builtin,Builtin.max_,Builtin.max2];rw[Int.max_def];split <;> split <;> omega
theorem Ha {x t el z sz aX b off m c e cs ty ps af g}(E:Fr a n l)(hw:Region.wanted ⟨none,.call ⟨.builtin .clear,#[x],#[t]⟩,ty,ps,af,g⟩ (yielded ops a.tmps)=true)(I:V W w L)
   (ht:P.underlying t=some (.slice el)) (hi:TI P el z sz aX) (hz:z.cells.size=sz) (h1:z.cells.toList.all (·.oneCell')=true) [ev:Ev l x (.slice (some ⟨b,off,none⟩) m c)] [k:fC L b e cs R] (hle:off+m*sz≤cs.length)
   (h:∀ a' w',Fr a' n l→V W w' (aa b e (cC cs off (Builtin.zeroCells z.cells m).toList)::R)→K a' w') :
   cI P ops Q ⟨none,.call ⟨.builtin .clear,#[x],#[t]⟩,ty,ps,af,g⟩ K a w:=by
 have gR:=I.jy b;have iR:=wD (sz:=sz) e (z:=z) (aX:=aX) hz m;have fN:∀ v∈(Builtin.zeroCells z.cells m).toList,v.oneCell'=true:=by
  intro v hv;simp only[Builtin.zeroCells,Array.toList_map,c8]at hv;obtain⟨i,uR,rfl⟩:=hv;have:i<m*z.cells.size:=by simpa using uR
  have pK : 0 < z.cells.size := by rcases Nat.eq_zero_or_pos z.cells.size with h | h; · rw [h] at this; omega
                                   ·exact h
  have hlt:i%z.cells.size<z.cells.size:=Nat.mod_lt _ pK;rw[getElem!_pos z.cells _ hlt];exact all_eq_true.1 h1 _ (Array.mem_toList_iff.2 (Array.getElem_mem hlt))
 have aQ:=run_storeCells_at (P:=P) b off e (Builtin.zeroCells z.cells m).toList 0 cs.toArray w gR.has.2 (by rw[iR];simpa using hle) fN;by_cases hm:m=0
 ·subst hm;refine Bq (v:=.tuple #[]) (w':=w) E hw ?_ λa' dg=>h a' w dg ?_
  ·simp[execOp,resolve,ev.ev a n E,invoke,builtin,Builtin.clear_,eM ht]
  ·have:(Builtin.zeroCells z.cells 0).toList=[]:=g6 (by rw[iR];simp);rw[this];simpa [cC] using gR
 ·refine Bq (v:=.tuple #[]) (w':=w.setRow b (cC cs off (Builtin.zeroCells z.cells m).toList).toArray) E hw ?_ λa' dg=>h a' _ dg gR.setRow;have:(storeCells ⟨b,off,none⟩ (Builtin.zeroCells z.cells m).toList).run P w=.ok () (w.setRow b (cC cs off (Builtin.zeroCells z.cells m).toList).toArray):=by
   simpa [cC] using aQ
  obtain⟨m',rfl⟩:∃ m',m=m'+1:=⟨m-1,by omega⟩;simp[execOp,resolve,ev.ev a n E,invoke,builtin,Builtin.clear_,eM ht,s5 hi,this]
end
end
section
def bc (bs:List UInt8):List Value:=bs.map λb=>.int .u8 b.toNat
theorem dx (bs:List UInt8):(bc bs).length=bs.length:=by simp[bc]
theorem ek (bs:List UInt8):∀ v∈bc bs,v.oneCell'=true:=by
 intro v hv;simp only[bc,c8]at hv;obtain⟨b,_,rfl⟩:=hv;rfl
section
variable {P:Program}{ops:Array Oper}{Q:Exit→Act→World→Prop}{a:Act}{w w' W:World}{K:Act→World→Prop}{n d:Nat}{l:List (Nat×Value)}{v:Value}{L R:List SP}
theorem O7 {x y u z3 k k' wG i i' wH j j' na ad m c t el z sz aX dst ty ps af g}(E:Fr a n l)(ht:P.underlying t=some (.slice el))(hi:TI P el z sz aX)[ev:Ev l x (.slice ad m c)][gS:Ev l y (.int k i)][s7:Ev l u (.int k' i')][BA:Ev l z3 (.int wG wH)]
   [nj:ei i j] [wE:ei i' j'] [BB:ei wH na] (h:j≤j') (h':j'≤na) (O8:na≤c) :
   (execOp a.eval ⟨dst,.slice t x (some y) (some u) (some z3),ty,ps,af,g⟩).run P w=.ok (.value (.slice (fm ad j na sz) (j'-j) (na-j))) w:=by
 have hj:=nj.h;subst hj;have kT:=wE.h;subst kT;have BC:=BB.h;subst BC;have e1:=(pI ht).1;have e2:=(pI ht).2;have:=run_slice_lhm (P:=P) (w:=w) t ad m c e1 k k' wG (j:Int) (j':Int) (na:Int) (by omega) (by omega) (by omega) (by omega);rw[e2,lL hi]at this;simp only[Result.andThen_ok,Int.toNat_natCast]at this;simp[execOp,ev.ev a n E,gS.ev a n E,s7.ev a n E,BA.ev a n E,run_sliceAt_slice (P:=P) (w:=w) t _ _ _ _ e1,this,sliced,fm]
theorem O9 {x ad m c t el u dst ty ps af g}(E:Fr a n l)(ht:P.underlying t=some (.slice el))[e:Ev l x (.slice ad m c)] :
   (execOp a.eval ⟨dst,.binOp .eql t x (.const (.slice none 0 0)) u,ty,ps,af,g⟩).run P w=.ok (.value (.bool ad.isNone)) w:=by
 have hc:a.eval (.const (.slice none 0 0))=.slice none 0 0:=rfl;have:=Lib.run_eql_slice_nil (P:=P) w t el ad m c 0 0 ht;simp only[execOp,e.ev a n E,hc,Sem.run_bind];simp[eqGuard,this]
theorem Pa {s x t z sz aX b off el e k c b2 gG m c2 news ty ps af g}{cs:List Value}(E:Fr a n l)(hw:Region.wanted ⟨some d,.call ⟨.builtin .append,#[s,x],#[t,t]⟩,ty,ps,af,g⟩ (yielded ops a.tmps)=true)(I:V W w L)
   (ht:P.underlying t=some (.slice el)) (hi:TI P el z sz aX) (hf:okB d n l=true) [e1:Ev l s (.slice (some ⟨b,off,none⟩) k c)] [BD:fC L b e cs R] [e2:Ev l x (.slice (some ⟨b2,gG,none⟩) m c2)]
   (hr:Rd w b2 gG news) (hl:news.length=m*sz) (h1:∀ v∈news,v.oneCell'=true) (m6:k+m≤c) (hle:off+k*sz+news.length≤cs.length)
   (h:∀ a' w',Fr a' n ((d,.slice (some ⟨b,off,none⟩) (k+m) c)::l)→V W w' (aa b e (cC cs (off+k*sz) news)::R)→K a' w') :
   cI P ops Q ⟨some d,.call ⟨.builtin .append,#[s,x],#[t,t]⟩,ty,ps,af,g⟩ K a w:=by
 obtain⟨i,kS,dK,kn,pG⟩:=info_parts hi.h;have gR:=I.jy b;have nC:∀ j v,news[j]?=some v→w.cell? ((⟨b2,gG,none⟩:Addr).add j)=some v:=λj v hj=>by rw[kR];exact hr j v hj
 have iS:=run_firstCells_some (P:=P) w sz m ⟨b2,gG,none⟩ m c2 news hl nC;have aQ:=run_storeCells_at (P:=P) b (off+k*sz) e news 0 cs.toArray w gR.has.2 (by simpa using hle) h1;have qk:(storeCells ⟨b,off+k*sz,none⟩ news).run P w=.ok () (w.setRow b (cC cs (off+k*sz) news).toArray):=by simpa [cC] using aQ
 refine bz (v:=.slice (some ⟨b,off,none⟩) (k+m) c) (w':=w.setRow b (cC cs (off+k*sz) news).toArray) E hw ?_ hf (λa' dg=>h a' _ dg gR.setRow);simp[execOp,resolve,e1.ev a n E,e2.ev a n E,invoke,builtin,Builtin.append_,eM ht,sizeOf,typeInfo,kS,kn,Builtin.lenOf,m6,kR,iS,qk]
def a6 (w:World)(ad:Option Addr)(m:Nat)(bs:List UInt8):Prop :=
 bs.length=m∧(ad=none→m=0)∧∀ x,ad=some x→0<m→∃ b off,x=⟨b,off,none⟩∧Rd w b off (bc bs)
theorem Pb (bs:List UInt8):∀ r:List UInt8,(bs.map λb=>(b.toNat:Int)).foldl (λ(r:ByteArray) n=>r.push (UInt8.ofNat n.toNat)) ⟨r.toArray⟩=⟨(r++bs).toArray⟩:=by
 induction bs with
 | nil=>intro r;simp
 | cons b bs ih =>
  intro r;simp only[map_cons,foldl_cons];have:(ByteArray.mk r.toArray).push (UInt8.ofNat (b.toNat:Int).toNat)=ByteArray.mk (r++[b]).toArray:=by
   simp[ByteArray.push]
  rw[this,ih];simp
theorem lP {x t u el ad m c bs dst ty ps af g}(E:Fr a n l)(ht:P.underlying t=some (.slice el))(hu:P.underlying el=some (.int .u8))(gR:P.underlying u=some .string)[ev:Ev l x (.slice ad m c)]
   (hr:a6 w ad m bs):(execOp a.eval ⟨dst,.convert t u x,ty,ps,af,g⟩).run P w=.ok (.value (.string ⟨bs.toArray⟩)) w:=by
 have h0:=run_convert_bytes_string (P:=P) w t u el ad m c ht hu gR;obtain⟨h1,h2,h3⟩:=hr;have h4:(Conv.bytesToString (.slice ad m c)).run P w=.ok (.string ⟨bs.toArray⟩) w:=by
  cases ad with
  | none =>
   have:bs=[]:=g6 (by rw[h1];exact h2 rfl);subst this;rfl
  | some x =>
   have hl:(loadCells x m).run P w=.ok ((bs.map λb=>(b.toNat:Int)).map (Value.int .u8)).toArray w:=by
    have:=run_loadCells_list (P:=P) w x ((bs.map λb=>(b.toNat:Int)).map (Value.int .u8)) (λj v hj=>by
     have hm:0<m:=by
      rcases Nat.eq_zero_or_pos m with h | h
      ·rw[h]at h1;rw[g6 h1]at hj;simp at hj
      ·exact h
     obtain⟨b,off,rfl,cK⟩:=h3 x rfl hm;rw[kR];refine cK j v ?_;simpa [bc] using hj)
    simpa [h1] using this
   have:=run_bytesToString (P:=P) w x m c _ hl;rw[this];have h5:=Pb bs [];simp only[nil_append]at h5;exact congrArg (λs=>Result.ok (Value.string s) w) h5
 simp[execOp,ev.ev a n E,h0,h4]
theorem rH {x y i j t u dst ty ps af g}(E:Fr a n l)[e:Ev l x (.string i)][f:Ev l y (.string j)] :
   (execOp a.eval ⟨dst,.binOp .eql t x y u,ty,ps,af,g⟩).run P w=.ok (.value (.bool (i.data.toList==j.data.toList))) w:=by
 simp[execOp,e.ev a n E,f.ev a n E,eqGuard,binOp,Op.stringOp,ByteArray.toList_eq]
theorem Pc (x y:UInt8):IntKind.u8.wrap ((x.toNat ^^^ y.toNat:Nat):Int)=((x ^^^ y).toNat:Int):=by
 rw[UInt8.toNat_xor];have h:=(x ^^^ y).toNat_lt;rw[UInt8.toNat_xor]at h;simp only[IntKind.wrap,IntKind.bits,IntKind.signed,Bool.false_and,Bool.false_eq_true,if_false];omega
theorem Pd {x y t u dst ty ps af g}{i j:UInt8}(E:Fr a n l)[e:Ev l x (.int .u8 (i.toNat:Int))][f:Ev l y (.int .u8 (j.toNat:Int))] :
   (execOp a.eval ⟨dst,.binOp .xor t x y u,ty,ps,af,g⟩).run P w=.ok (.value (.int .u8 ((i ^^^ j).toNat:Int))) w:=by
 rw[← Pc];simp[execOp,e.ev a n E,f.ev a n E,eqGuard,binOp,Op.intBits];have h1:i.toNat%2 ^ IntKind.u8.bits=i.toNat:=Nat.mod_eq_of_lt i.toNat_lt;have h2:j.toNat%2 ^ IntKind.u8.bits=j.toNat:=Nat.mod_eq_of_lt j.toNat_lt;rw[h1,h2]
theorem tc {t el z sz aX ty ps af g}(E:Fr a n l)(hw:Region.wanted ⟨some d,.buildSlice t 0 #[],ty,ps,af,g⟩ (yielded ops a.tmps)=true)(I:V W w L)(ht:P.underlying t=some (.slice el))
   (hi:TI P el z sz aX) (hf:okB d n l=true)
   (h:∀ b a' w',Fr a' n ((d,.slice (some ⟨b,0,none⟩) 0 0)::l)→V W w' (Sl el sz (some ⟨b,0,none⟩) 0 0 []::L)→Old w w'→K a' w') :
   cI P ops Q ⟨some d,.buildSlice t 0 #[],ty,ps,af,g⟩ K a w:=by
 refine bz (v:=.slice (some ⟨w.heap.size,0,none⟩) 0 0) (w':=w.alloc (.cells #[] el)) E hw ?_ hf (λa' dg=>h _ _ _ dg ((I.alloc (.cells #[] el)).tail.bH _ _ _) (Old.alloc _ _));simp[execOp,Sem.run_bind,Instr.buildSlice,eM ht,Result.andThen_ok,lL hi,Instr.fill,newRow,newObj,Sem.run];rw[show Array.range 0=#[] from Array.eq_empty_of_size_eq_zero (by simp)];simp
theorem BE {s x t z aX e sz ad k c ad2 c2 ty ps af g}(E:Fr a n l)(hw:Region.wanted ⟨some d,.call ⟨.builtin .append,#[s,x],#[t,t]⟩,ty,ps,af,g⟩ (yielded ops a.tmps)=true)
   (ht:P.underlying t=some (.slice e)) (hi:TI P e z sz aX) (hf:okB d n l=true) [e1:Ev l s (.slice ad k c)] [e2:Ev l x (.slice ad2 0 c2)] (qm:k≤c)
   (h:∀ a',Fr a' n ((d,.slice ad k c)::l)→K a' w):cI P ops Q ⟨some d,.call ⟨.builtin .append,#[s,x],#[t,t]⟩,ty,ps,af,g⟩ K a w:=by
 obtain⟨i,kS,dK,kn,pG⟩:=info_parts hi.h;have iS:(Builtin.firstCells sz 0 (.slice ad2 0 c2)).run P w=.ok #[] w:=by
  cases ad2 with
  | none=>exact run_firstCells_none (P:=P) w sz 0 0 c2
  | some b=>exact run_firstCells_some (P:=P) w sz 0 b 0 c2 [] (by simp) (λj v hj=>by simp at hj)
 refine bz (v:=.slice ad k c) (w':=w) E hw ?_ hf h;cases ad <;> simp[execOp,resolve,e1.ev a n E,e2.ev a n E,invoke,builtin,Builtin.append_,eM ht,sizeOf,typeInfo,kS,kn,Builtin.lenOf,qm,iS,storeCells]
end
end
section
class wI (P:Program)(t:TypeId):Prop where h:∃ el,P.underlying t=some (.pointer el)
class BF (P:Program)(t:TypeId):Prop where h:∃ el,P.underlying t=some (.slice el)
class BG (P:Program)(t:TypeId):Prop where h:∃ ef,P.underlying t=some ef∧nB ef=true
class BH (P:Program)(t:TypeId)(f:Nat)(k:outParam Nat):Prop where h:∃ fs iE z sz aX,P.underlying t=some (.struct fs)∧fs[f]?=some iE∧TI P iE.type z (sz+1) aX∧iE.offset=k
class Ex (P:Program)(l:List (Nat×Value))(op:Go.Op)(v:outParam Value):Prop where
 ex:∀ (a:Act) (n:Nat),Fr a n l→∀ (w:World) (dst ty ps af g),(execOp a.eval ⟨dst,op,ty,ps,af,g⟩).run P w=.ok (.value v) w
section
variable {P:Program}{l:List (Nat×Value)}{v v1 v2:Value}{x y c:Operand}{t u:TypeId}{k:IntKind}{i j:Int}{b:Bool}
instance Ex.move [Ev l x v]:Ex P l (.move x) v:=⟨λ_ _ E _ _ _ _ _ _=>N0 E⟩
instance Ex.assign [Ev l x v]:Ex P l (.assign x) v:=⟨λ_ _ E _ _ _ _ _ _=>N1 E⟩
instance Ex.nilCheck [Ev l x v] [yC v]:Ex P l (.nilCheck x) v:=⟨λ_ _ E _ _ _ _ _ _=>N4 E⟩
instance Ex.not [Ev l x (.bool b)]:Ex P l (.unOp .not t x) (.bool (!b)):=⟨λ_ _ E _ _ _ _ _ _=>Oe E⟩
instance Ex.lss [Ev l x (.int k i)] [Ev l y (.int k j)]:Ex P l (.binOp .lss t x y u) (.bool (decide (i<j))):=⟨λ_ _ E _ _ _ _ _ _=>N8 E⟩
instance Ex.leq [Ev l x (.int k i)] [Ev l y (.int k j)]:Ex P l (.binOp .leq t x y u) (.bool (decide (i≤j))):=⟨λ_ _ E _ _ _ _ _ _=>N9 E⟩
instance Ex.gtr [Ev l x (.int k i)] [Ev l y (.int k j)]:Ex P l (.binOp .gtr t x y u) (.bool (decide (j<i))):=⟨λ_ _ E _ _ _ _ _ _=>Oa E⟩
instance Ex.geq [Ev l x (.int k i)] [Ev l y (.int k j)]:Ex P l (.binOp .geq t x y u) (.bool (decide (j≤i))):=⟨λ_ _ E _ _ _ _ _ _=>Ob E⟩
instance Ex.eql [Ev l x (.int k i)] [Ev l y (.int k j)]:Ex P l (.binOp .eql t x y u) (.bool (decide (i=j))):=⟨λ_ _ E _ _ _ _ _ _=>Oc E⟩
instance Ex.neq [Ev l x (.int k i)] [Ev l y (.int k j)]:Ex P l (.binOp .neq t x y u) (.bool (decide (i≠j))):=⟨λ_ _ E _ _ _ _ _ _=>Od E⟩
instance Ex.acx [wI P t] [Ev l x v] [s4 v b]:Ex P l (.binOp .eql t x (.const (.pointer none)) u) (.bool b):=⟨λ_ _ E _ _ _ _ _ _=>(wI.h (P:=P) (t:=t)).elim λ_ h=>Of E h⟩
instance Ex.acy [wI P t] [Ev l x v] [s4 v b]:Ex P l (.binOp .neq t x (.const (.pointer none)) u) (.bool (!b)):=⟨λ_ _ E _ _ _ _ _ _=>(wI.h (P:=P) (t:=t)).elim λ_ h=>Og E h⟩
instance Ex.acz [Ev l x (.tuple #[v1,v2])]:Ex P l (.extract x 0) v1:=⟨λ_ _ E _ _ _ _ _ _=>nF E rfl⟩
instance Ex.acA [Ev l x (.tuple #[v1,v2])]:Ex P l (.extract x 1) v2:=⟨λ_ _ E _ _ _ _ _ _=>nF E rfl⟩
instance Ex.len {ad:Option Addr}{m c:Nat} [BF P t] [Ev l x (.slice ad m c)]:Ex P l (.call ⟨.builtin .len,#[x],#[t]⟩) (.int .i64 m):=⟨λ_ _ E _ _ _ _ _ _=>(BF.h (P:=P) (t:=t)).elim λ_ h=>On E h⟩
instance Ex.field {bb off f kk r:Nat} [Ev l x (.pointer (some ⟨bb,off,none⟩))] [BH P t f kk] [rD off kk r]:Ex P l (.fieldAddr t x f) (.pointer (some ⟨bb,r,none⟩)):=⟨λ_ _ E _ _ _ _ _ _=>by
 obtain⟨fs,iE,z,sz,aX,h1,h2,h3,h4⟩:=BH.h (P:=P) (t:=t) (f:=f) (k:=kk);exact Oj E h1 h2 h3 h4⟩
end
class BP (b:Bool)(p q:outParam Prop):Prop where
 t:b=true→p
 f:b=false→q
instance BP.lt {i j:Int}:BP (decide (i<j)) (i<j) (j≤i):=⟨of_decide_eq_true,λh=>Int.not_lt.1 (of_decide_eq_false h)⟩
instance BP.le {i j:Int}:BP (decide (i≤j)) (i≤j) (j<i):=⟨of_decide_eq_true,λh=>Int.not_le.1 (of_decide_eq_false h)⟩
instance BP.eq {i j:Int}:BP (decide (i=j)) (i=j) (¬ i=j):=⟨of_decide_eq_true,of_decide_eq_false⟩
instance BP.ne {i j:Int}:BP (decide (i≠j)) (¬ i=j) (i=j):=⟨of_decide_eq_true,λh=>Decidable.of_not_not (of_decide_eq_false h)⟩
instance BP.not {b:Bool}{p q:Prop}[h:BP b p q]:BP (!b) q p:=⟨λe=>h.f (by simpa using e),λe=>h.t (by simpa using e)⟩
instance (priority:=low) BP.dec {p:Prop} [Decidable p]:BP (decide p) p (¬ p):=⟨of_decide_eq_true,of_decide_eq_false⟩
instance (priority:=10) BP.any {b:Bool}:BP b (b=true) (b=false):=⟨id,id⟩
section
variable {P:Program}{ops:Array Oper}{Q:Exit→Act→World→Prop}{a:Act}{w w':World}{K:Act→World→Prop}{o:Oper}{n d:Nat}{l l':List (Nat×Value)}{v:Value}{op:Go.Op}{ty:TypeId}{ps:String}{af:Array Edge}{rest:List Oper}
theorem S1 (E:Fr a n l)[e:Ex P l op v](h:∀ a',Fr a' n ((d,v)::l)→wpList P ops Q rest a' w)(hf:okB d n l=true:=by rfl):wpList P ops Q (⟨some d,op,ty,ps,af,none⟩::rest) a w :=
 NX (bz E rfl (e.ex a n E w _ _ _ _ _) hf h)
theorem SK (h:cI P ops Q o (wpList P ops Q rest) a w):wpList P ops Q (o::rest) a w:=h
theorem Pf (h:Q .normal a w):wpList P ops Q [] a w:=h
theorem TN {K:Act→World→Prop}(h:K a w):Exit.then K Q .normal a w:=h
theorem TR {K:Act→World→Prop}(h:Q .ret a w):Exit.then K Q .ret a w:=h
theorem TE {K:Act→World→Prop}{i:Nat}(h:Q (.exit i) a w):Exit.then K Q (.exit i) a w:=h
theorem Ph {i:Nat}(h:Q .normal a w):Exit.inBlock i Q .normal a w:=h
theorem Pj {i:Nat}(h:Q .ret a w):Exit.inBlock i Q .ret a w:=h
theorem Fr.by {s:Nat}{c:Bool} {l'}{p q:Prop}(E:Fr a n l)[k:fl l s (.bool c)][e:gQ l s l'][B:BP c p q]{G:Prop}
   (ht:p→Fr a n ((s,.bool true)::l')→G) (hf:q→Fr a n ((s,.bool false)::l')→G):G :=
 E.bool (s:=s) (λh=>ht (B.t h)) (λh=>hf (B.f h))
variable {C:World→Prop}{bk:List Nat}{i fuel m:Nat}{od:List Nat}
def gu (P:Program)(ops:Array Oper)(Q:Exit→Act→World→Prop)(C:World→Prop)(bk:List Nat)(_od:List Nat)(fuel m:Nat)(a:Act)(w:World):Prop:=iu P ops Q C bk fuel (lb ops.size m) a w
def lQ (m i:Nat):Nat:=m ||| 2 ^ i
theorem pL (k m i:Nat):(lb k m).setIfInBounds i true=lb k (lQ m i):=by
 apply Array.ext_getElem?;intro j;simp only[lb,List.setIfInBounds_toArray,getElem?_toArray,jA,bn,bf,length_range];by_cases hj:i=j
 ·subst hj;rw[al rfl];by_cases hi:i<k
  ·rw[al hi,getElem?_range hi];simp[lQ]
  ·rw[ae hi,iP (by simpa using hi)];rfl
 ·rw[ae hj];by_cases hk:j<k
  ·rw[getElem?_range hk];simp[lQ,Nat.testBit_two_pow,hj]
  ·rw[iP (by simpa using hk)];rfl
theorem DW {id m:Nat}(C:World→Prop)(bk od:List Nat)(hm:P.follows .mixedOrders=true)(j3:kU Q)(h:kU Q→gu P ops Q C bk od m 0 a w.drew)(hn:ops.size=m:=by kernel_rfl):(Code.region id ops true).wp P Q a w:=by
 subst hn;refine OW (m:=ops.size) (l0:=lb ops.size 0) C bk hm rfl ?_ j3 h;apply Array.ext_getElem?;intro j;simp only[lb,Nat.zero_testBit,getElem?_toArray,bn,Array.getElem?_replicate];by_cases hj:j<ops.size
 ·rw[al hj,getElem?_range hj];simp
 ·rw[ae hj,iP (by simpa using hj)];rfl
theorem Pm (hi:ops[i]?=some o)(h:cI P ops Q o (λa' w'=>(bk.contains i=true→C w')∧gu P ops Q C bk od fuel (lQ m i) a' w') a w)(hr:Region.ready .any ops (lb ops.size m)=[i]:=by kernel_rfl):gu P ops Q C bk (i::od) (fuel+1) m a w :=
 OU (pL _ _ _) hr hi h
theorem Pn {j:Nat}{o':Oper}(Po Pp:List Nat)(hr:Region.ready .any ops (lb ops.size m)=[i,j])(hi:ops[i]?=some o)(hj:ops[j]?=some o')
   (h1:cI P ops Q o (λa' w'=>(bk.contains i=true→C w')∧gu P ops Q C bk Po fuel (lQ m i) a' w') a w) (h2:cI P ops Q o' (λa' w'=>(bk.contains j=true→C w')∧gu P ops Q C bk Pp fuel (lQ m j) a' w') a w):gu P ops Q C bk od (fuel+1) m a w :=
 OX (pL _ _ _) (pL _ _ _) hr hi hj h1 h2
theorem Pq (h:Q .normal a w)(hr:Region.ready .any ops (lb ops.size m)=[]:=by kernel_rfl):gu P ops Q C bk [] fuel m a w:=OV hr h fuel
end
end
end Go.Proofs.YteoldcfapaiobaaGreat
