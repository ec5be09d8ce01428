/- The heap logic: lists of assertions on separate parts of the memory that a call has made, and how they turn with the world. -/
import Derived.Test.YteoldcfapaiobaaGreatIQ
import Derived.WalkKit
import Derived.Laws.CopyRow
import Derived.WalkSpells
import Derived.WalkLawsBesides
import Derived.Deep.LoopGhost
import Derived.OrdersHeld
import Derived.Laws.BytesString
import Derived.Lib.SliceRun
namespace Go.Proofs.YteoldcfapaiobaaGreat
open List (all_eq_true length_range drop_zero take_succ_cons drop_left take_zero foldl_cons nil_append map_cons getElem?_cons_succ length_nil mem_range getElem?_toArray getElem?_range)
open Go.RowKit
set_option linter.unusedVariables false
set_option linter.unusedSimpArgs false
set_option maxRecDepth 10000
set_option synthInstance.maxSize 4000
set_option synthInstance.maxHeartbeats 400000
section
abbrev Hp:=Nat→Option Obj
abbrev SP:=Hp→Prop
def Hp.Sub (a b:Hp):Prop:=∀ n o,a n=some o→b n=some o
def Hp.Dj (a b:Hp):Prop:=∀ n,a n=none∨b n=none
def Hp.un (a b:Hp):Hp:=λn=>match a n with | some o=>some o | none=>b n
theorem Hp.Sub.refl (a:Hp):Hp.Sub a a:=λ_ _ h=>h
theorem Hp.Sub.trans {a b c:Hp}(h:Hp.Sub a b)(k:Hp.Sub b c):Hp.Sub a c:=λn o e=>k n o (h n o e)
theorem Hp.Ea (a b:Hp):Hp.Sub a (Hp.un a b):=λn o h=>by simp[Hp.un,h]
theorem Hp.uO {a b:Hp}(d:Hp.Dj a b):Hp.Sub b (Hp.un a b):=λn o h=>by
 rcases d n with e | e
 ·simp[Hp.un,e,h]
 ·rw[h]at e;cases e
theorem Hp.Eb {a b c:Hp}(h:Hp.Sub a c)(k:Hp.Sub b c):Hp.Sub (Hp.un a b) c:=λn o e=>by
 cases E:a n with
 | some x=>simp[Hp.un,E]at e;subst e;exact h n _ E
 | none=>simp[Hp.un,E]at e;exact k n _ e
theorem Hp.Dj.symm {a b:Hp}(d:Hp.Dj a b):Hp.Dj b a:=λn=>(d n).symm
theorem Hp.Dj.mono {a b a' b':Hp}(d:Hp.Dj a b)(h:Hp.Sub a' a)(k:Hp.Sub b' b):Hp.Dj a' b':=λn=>by
 rcases d n with e | e
 ·left;cases E:a' n with
  | none=>rfl
  | some x=>rw[h n _ E]at e;cases e
 ·right;cases hb:b' n with
  | none=>rfl
  | some x=>rw[k n _ hb]at e;cases e
theorem Hp.Dj.uO {a b c:Hp}(d:Hp.Dj a b)(k:Hp.Dj a c):Hp.Dj a (Hp.un b c):=λn=>by
 rcases d n with e | e
 ·exact .inl e
 ·rcases k n with f | f
  ·exact .inl f
  ·right;simp[Hp.un,e,f]
def cp:List SP→SP
 | [],_=>True
 | A::L,h=>∃ h1 h2,Hp.Dj h1 h2∧Hp.Sub h1 h∧Hp.Sub h2 h∧A h1∧cp L h2
theorem Ec:∀ {L:List SP} {h h':Hp},Hp.Sub h h'→cp L h→cp L h'
 | [],_,_,_,_=>trivial
 | _::_,_,_,s,⟨h1,h2,d,a,b,p,q⟩=>⟨h1,h2,d,a.trans s,b.trans s,p,q⟩
theorem Rc {A B:SP}{L:List SP}{h:Hp}:cp (A::B::L) h→cp (B::A::L) h
 | ⟨h1,h2,d,a,b,p,k1,k2,e,f,g,q,r⟩ =>
  ⟨k1,Hp.un h1 k2,(d.mono (Hp.Sub.refl _) f).symm.uO e,f.trans b,Hp.Eb a (g.trans b),q,
   h1,k2,d.mono (Hp.Sub.refl _) g,Hp.Ea _ _,Hp.uO (d.mono (Hp.Sub.refl _) g),p,r⟩
theorem Re {A:SP}{L L':List SP}(k:∀ h,cp L h→cp L' h){h:Hp}:cp (A::L) h→cp (A::L') h
 | ⟨h1,h2,d,a,b,p,q⟩=>⟨h1,h2,d,a,b,p,k _ q⟩
theorem Rf {L L':List SP}(p:L.Perm L'):∀ {h:Hp},cp L h→cp L' h:=by
 induction p with
 | nil=>exact λh=>h
 | cons x _ ih=>exact λh=>Re (λ_=>ih) h
 | swap x y l=>exact λh=>Rc h
 | trans _ _ Rg Rh=>exact λh=>Rh (Rg h)
theorem JD:∀ {M L:List SP} {h1 h2 h:Hp},Hp.Dj h1 h2→Hp.Sub h1 h→Hp.Sub h2 h→cp M h1→cp L h2→cp (M++L) h
 | [],_,_,_,_,_,_,s,_,q=>Ec s q
 | _::_,_,h1,h2,_,d,s,t,⟨k1,k2,e,f,g,p,r⟩,q =>
  ⟨k1,Hp.un k2 h2,e.uO (d.mono f (Hp.Sub.refl _)),f.trans s,Hp.Eb (g.trans s) t,p,
   JD (d.mono g (Hp.Sub.refl _)) (Hp.Ea _ _) (Hp.uO (d.mono g (Hp.Sub.refl _))) r q⟩
theorem Ed:∀ {M L:List SP} {h:Hp},cp (M++L) h→∃ h1 h2,Hp.Dj h1 h2∧Hp.Sub h1 h∧Hp.Sub h2 h∧cp M h1∧cp L h2
 | [],_,h,q=>⟨λ_=>none,h,λ_=>.inl rfl,λ_ _ e=>(by cases e),Hp.Sub.refl _,trivial,q⟩
 | _::M,L,h,⟨k1,k2,e,f,g,p,r⟩=>by
  obtain⟨h1,h2,d,s,t,q,u⟩:=Ed (M:=M) (L:=L) r;exact⟨Hp.un k1 h1,h2,(Hp.Dj.uO (d.symm) (e.symm.mono t (Hp.Sub.refl _)) |> λx=>(by
   intro n;rcases x n with y | y
   ·exact .inr y
   ·left;simp only[Hp.un]at y ⊢;cases hk:k1 n with
    | some z=>cases hh:h1 n with
     | some u=>simp[hh]at y
     | none=>simp[hh,hk]at y
    | none=>cases hh:h1 n with
     | some u=>simp[hh]at y
     | none=>rfl)),Hp.Eb f (s.trans g),t.trans g,p |> λp=>⟨k1,h1,e.mono (Hp.Sub.refl _) s,Hp.Ea _ _,Hp.uO (e.mono (Hp.Sub.refl _) s),p,q⟩,u⟩
def k5 (b:Nat)(o:Obj):SP:=λh=>h b=some o
def aa (b:Nat)(e:TypeId)(cs:List Value):SP:=k5 b (.cells cs.toArray e (0,0))
structure U (W w:World)(L:List SP):Prop where
 below:Below W.heap.size W w
 sat:∃ h:Hp,(∀ n o,h n=some o→W.heap.size≤n∧w.heap[n]?=some o)∧cp L h
section
variable {W w:World}{L L' M:List SP}
theorem U.start (W:World):U W W []:=⟨Below.refl _ _,λ_=>none,λ_ _ h=>(by cases h),trivial⟩
theorem U.imp (s:U W w L)(k:∀ h,cp L h→cp L' h):U W w L' :=
 let ⟨b,h,p,q⟩:=s;⟨b,h,p,k h q⟩
theorem U.perm (s:U W w L)(p:L.Perm L'):U W w L':=s.imp λ_=>Rf p
theorem U.nil (s:U W w L):U W w []:=s.imp λ_ _=>trivial
theorem U.tail {A:SP}(s:U W w (A::L)):U W w L:=s.imp λ_ ⟨_,_,_,_,b,_,q⟩=>Ec b q
theorem U.drop (s:U W w (M++L)):U W w L:=s.imp λ_ q=>let ⟨_,_,_,_,b,_,q⟩:=Ed q;Ec b q
theorem U.open {A:SP}(s:U W w (A::L))(k:∀ h,A h→cp M h):U W w (M++L) :=
 s.imp λ_ ⟨_,_,d,a,b,p,q⟩=>JD d a b (k _ p) q
theorem U.shut {A:SP}(s:U W w (M++L))(k:∀ h,cp M h→A h):U W w (A::L) :=
 s.imp λ_ q=>let ⟨h1,h2,d,a,b,p,q⟩:=Ed q;⟨h1,h2,d,a,b,k _ p,q⟩
theorem U.tell {A:SP}{p:Prop}(s:U W w (A::L))(k:∀ h,A h→p):p :=
 let ⟨_,_,_,_,_,_,_,_,x,_⟩:=s;k _ x
theorem U.jS {ι:Type}{A:SP}{p:ι→Prop}{B:ι→SP}(s:U W w (A::L))(k:∀ h,A h→∃ i,p i∧B i h):∃ i,p i∧U W w (B i::L):=by
 obtain⟨b,h,q,h1,h2,d,x,y,z,r⟩:=s;obtain⟨i,hp,hB⟩:=k _ z;exact⟨i,hp,b,h,q,h1,h2,d,x,y,hB,r⟩
theorem U.drew (s:U W w L):U W w.drew L:=⟨s.below.drew,s.sat⟩
theorem U.alloc (s:U W w L)(o:Obj):U W (w.alloc o) (k5 w.heap.size o::L):=by
 obtain⟨b,h,p,q⟩:=s;have hn:h w.heap.size=none:=by
  cases e:h w.heap.size with
  | none=>rfl
  | some x=>have:=(p _ _ e).2;simp at this
 refine⟨b.alloc b.size o,λn=>if n=w.heap.size then some o else h n,?_,λn=>if n=w.heap.size then some o else none,h,?_,?_,?_,by simp[k5],q⟩
 ·intro n x e;by_cases hb:n=w.heap.size
  ·simp[hb]at e;subst e;subst hb;exact⟨b.size,by show (w.heap.push o)[w.heap.size]?=_;simp⟩
  ·simp[hb]at e;refine⟨(p _ _ e).1,?_⟩;have:=(p _ _ e).2;show (w.heap.push o)[n]?=_;rw[Array.getElem?_push,ag hb];exact this
 ·intro n;by_cases hb:n=w.heap.size
  ·right;rw[hb];exact hn
  ·left;simp[hb]
 ·intro n x e;by_cases hb:n=w.heap.size <;> simp[hb]at e ⊢;exact e
 ·intro n x e;by_cases hb:n=w.heap.size
  ·rw[hb,hn]at e;cases e
  ·simp[hb,e]
theorem U.has {b:Nat}{o:Obj}(s:U W w (k5 b o::L)):W.heap.size≤b∧w.heap[b]?=some o :=
 let ⟨_,_,p,_,_,_,a,_,x,_⟩:=s;p _ _ (a _ _ x)
theorem U.cn {b:Nat}{o o':Obj}{w':World}(s:U W w (k5 b o::L))(Ri:w'.os=w.os)(ht:w'.tape=w.tape)(Rj:w'.output=w.output)
   (hh:w'.heap=w.heap.setIfInBounds b o'):U W w' (k5 b o'::L):=by
 have hb:=s.has;obtain⟨nn,h,p,h1,h2,d,a,k,x,q⟩:=s;have hlt:b<w.heap.size:=by have:=(rG.1 hb.2).1;exact this
 have JE : h2 b = none := by rcases d b with e | e; · rw [x] at e; cases e
                             ·exact e
 refine⟨nn.trans ⟨Ri,ht,Rj,by rw[hh];simp,λn hn=>?_⟩,λn=>if n=b then some o' else h n,?_,λn=>if n=b then some o' else none,h2,?_,?_,?_,by simp[k5],q⟩
 ·rw[hh,Array.getElem?_setIfInBounds,ag (by omega)]
 ·intro n y e;by_cases hn:n=b
  ·simp[hn]at e;subst e;subst hn;exact⟨hb.1,by rw[hh,Array.getElem?_setIfInBounds];simp[hlt]⟩
  ·simp[hn]at e;refine⟨(p _ _ e).1,?_⟩;rw[hh,Array.getElem?_setIfInBounds,ag (by omega)];exact (p _ _ e).2
 ·intro n;by_cases hn:n=b
  ·right;rw[hn];exact JE
  ·left;simp[hn]
 ·intro n y e;by_cases hn:n=b <;> simp[hn]at e ⊢;exact e
 ·intro n y e;by_cases hn:n=b
  ·rw[hn,JE]at e;cases e
  ·simp[hn];exact k _ _ e
end
theorem U.cell {W w:World}{L:List SP}{b:Nat}{e:TypeId}{cs:List Value}(s:U W w (aa b e cs::L))(i:Nat) :
   w.cell? ⟨b,i,none⟩=cs[i]?:=by
 have:=s.has.2;simp[World.cell?,this]
theorem U.gw {W w:World}{L:List SP}(s:U W w L){a:Addr}(h:a.block<W.heap.size):w.cell? a=W.cell? a:=s.below.cell h
def cH (cs:List Value)(off:Nat)(vs:List Value):List Value:=cs.take off++vs++cs.drop (off+vs.length)
theorem U.setRow {W w:World}{L:List SP}{b:Nat}{e:TypeId}{cs mJ:List Value}(s:U W w (aa b e cs::L)) :
   U W (w.setRow b mJ.toArray) (aa b e mJ::L):=by
 have hb:=s.has.2;refine s.cn (o':=.cells mJ.toArray e (0,0)) rfl rfl rfl ?_;apply Array.ext_getElem?;intro i;simp only[World.setRow,Array.getElem?_modify,Array.getElem?_setIfInBounds];by_cases hi:b=i
 ·subst hi;rw[aj rfl,aj rfl,hb];have:b<w.heap.size:=(rG.1 hb).1;simp[this]
 ·simp[hi]
structure Old (w0 w:World):Prop where
 size:w0.heap.size≤w.heap.size
 same:∀ k,k<w0.heap.size→w.heap[k]?=w0.heap[k]?
theorem Old.refl (w:World):Old w w:=⟨a7 _,λ_ _=>rfl⟩
theorem Old.cell {w0 w:World}(h:Old w0 w){ad:Addr}{v:Value}(hc:w0.cell? ad=some v):w.cell? ad=some v:=by
 rw[← hc];exact World.cell?_of_block (h.same _ (World.block_lt_of_cell? _ _ hc))
theorem Old.trans {a b c:World}(h:Old a b)(k:Old b c):Old a c:=⟨eS h.size k.size,λn hn=>(k.same n (yA hn h.size)).trans (h.same n hn)⟩
theorem Old.alloc (w:World)(o:Obj):Old w (w.alloc o):=⟨by simp,λk hk=>Below.heap_alloc _ _ _ hk⟩
end
section
structure Fr (a:Act)(n:Nat)(l:List (Nat×Value)):Prop where
 defers:a.defers=[]
 size:a.tmps.size=n
 has:∀ p∈l,a.tmps[p.1]?=some p.2
def JF (d:Nat)(l:List (Nat×Value)):Bool:=l.all λp=>!(Nat.beq p.1 d)
def okB (d n:Nat)(l:List (Nat×Value)):Bool:=Nat.ble (d+1) n&&JF d l
class fv (l:List (Nat×Value))(t:Nat)(v:outParam Value):Prop where mem:(t,v)∈l
instance fv.head {l t v}:fv ((t,v)::l) t v:=⟨iq⟩
instance (priority:=low) fv.tail {l t v p}[h:fv l t v]:fv (p::l) t v:=⟨gx _ h.mem⟩
class Ev (l:List (Nat×Value))(o:Operand)(v:outParam Value):Prop where ev:∀ a n,Fr a n l→a.eval o=v
instance Ev.tmp {l t v}[h:fv l t v]:Ev l (.tmp t) v:=⟨λa n E=>by
 have:=E.has _ h.mem;simp only[Act.eval];simp[Array.getD_eq_getD_getElem?,this]⟩
instance Ev.const {l v}:Ev l (.const v) v:=⟨λ_ _ _=>rfl⟩
instance Ev.func {l f}:Ev l (.func f) (.func (.func f) #[] #[]):=⟨λ_ _ _=>rfl⟩
class nV (l:List (Nat×Value))(os:List Operand)(vs:outParam (List Value)):Prop where ev:∀ a n,Fr a n l→os.map a.eval=vs
instance nV.nil {l}:nV l [] []:=⟨λ_ _ _=>rfl⟩
instance nV.cons {l o os v vs}[h:Ev l o v][k:nV l os vs]:nV l (o::os) (v::vs):=⟨λa n E=>by
 simp[h.ev a n E,k.ev a n E]⟩
class wE (l:List (Nat×Value))(ks:List Nat)(l':outParam (List (Nat×Value))):Prop where sub:∀ p∈l',p∈l
instance wE.nil {l}:wE l [] []:=⟨λ_ h=>by cases h⟩
instance wE.cons {l k ks v l'}[h:fv l k v][r:wE l ks l']:wE l (k::ks) ((k,v)::l'):=⟨λp hp=>by
 rcases List.mem_cons.1 hp with rfl | h'
 ·exact h.mem
 ·exact r.sub _ h'⟩
theorem Fr.ab {a n l l'}(h:Fr a n l)(ks:List Nat)[k:wE l ks l']:Fr a n l':=⟨h.defers,h.size,λp hp=>h.has _ (k.sub _ hp)⟩
class g8 (l:List (Nat×Value))(d:Nat)(l':outParam (List (Nat×Value))):Prop where sub:∀ p∈l',p∈l
instance g8.nil {d}:g8 [] d []:=⟨λ_ h=>h⟩
instance g8.head {l d v}:g8 ((d,v)::l) d l:=⟨λ_ h=>gx _ h⟩
instance (priority:=low) g8.tail {l d p l'}[h:g8 l d l']:g8 (p::l) d (p::l'):=⟨λq hq=>by
 rcases List.mem_cons.1 hq with rfl | h'
 ·exact iq
 ·exact gx _ (h.sub _ h')⟩
theorem Fr.del {a n l l'}(h:Fr a n l)(d:Nat)[k:g8 l d l']:Fr a n l':=⟨h.defers,h.size,λp hp=>h.has _ (k.sub _ hp)⟩
theorem Rk {d n l}(h:okB d n l=true):d<n:=by
 simp only[okB,fK]at h;exact Nat.le_of_ble_eq_true h.1
theorem Rl {d n l}(h:okB d n l=true):∀ p∈l,p.1≠d:=by
 simp only[okB,JF,fK,all_eq_true]at h;intro p hp e;have:=h.2 p hp;rw[e]at this;have:Nat.beq d d=true:=Nat.beq_refl d;simp[this] at *
theorem Fr.put {a n l d}(h:Fr a n l)(hf:okB d n l=true)(v:Value):Fr (a.put (some d) v) n ((d,v)::l):=by
 have hl:=Rk hf;refine⟨h.defers,by simp[Act.put,h.size],λp hp=>?_⟩;rcases List.mem_cons.1 hp with rfl | hp
 ·simp[Act.put,h.size,hl]
 ·have bq:=Rl hf p hp;simp only[Act.put];rw[Array.getElem?_setIfInBounds,ag (λe=>bq e.symm)];exact h.has _ hp
theorem Fr.enter {m:Nat}{vs:List Value}(hm:vs.length≤m) :
   Fr { tmps:=vs.toArray++Array.replicate (m-vs.toArray.size) undef,defers:=[] } m ((List.range vs.length).zip vs):=by
 refine⟨rfl,by simp;omega,λp hp=>?_⟩;obtain⟨i,hi,rfl⟩:=List.mem_iff_getElem.1 hp;simp only[List.length_zip,length_range]at hi;have hv:i<vs.length:=by omega
 simp only[List.getElem_zip,List.getElem_range];rw[Array.getElem?_append_left (by simp;omega)];simp[hv]
section
variable {P:Program}{ops:Array Oper}{Q:Exit→Act→World→Prop}{a:Act}{w w':World}{K:Act→World→Prop}{o:Oper}{n d:Nat}{l:List (Nat×Value)}{v:Value}
def cK (P:Program)(ops:Array Oper)(Q:Exit→Act→World→Prop)(o:Oper)(K:Act→World→Prop)(a:Act)(w:World):Prop :=
 if Region.wanted o (yielded ops a.tmps) then o.wp P a w K Q∨(o.asks P a w∧LetsOut Q) else K (a.put o.dst undef) w
theorem Rm {rest:List Oper}(h:cK P ops Q o (wpList P ops Q rest) a w):wpList P ops Q (o::rest) a w:=h
theorem JG (hw:Region.wanted o (yielded ops a.tmps)=true)(hr:(execOp a.eval o).run P w=.ok (.value v) w')
   (h:K (a.put o.dst v) w'):cK P ops Q o K a w:=by
 unfold cK;rw[aj hw];left;unfold Oper.wp;rw[hr];exact h
theorem bA {op ty ps af g}(E:Fr a n l)(hw:Region.wanted ⟨some d,op,ty,ps,af,g⟩ (yielded ops a.tmps)=true)
   (hr:(execOp a.eval ⟨some d,op,ty,ps,af,g⟩).run P w=.ok (.value v) w') (hf:okB d n l=true)
   (h:∀ a',Fr a' n ((d,v)::l)→K a' w'):cK P ops Q ⟨some d,op,ty,ps,af,g⟩ K a w :=
 JG hw hr (h _ (E.put hf v))
theorem Ee {op ty ps af g}(E:Fr a n l)(hw:Region.wanted ⟨none,op,ty,ps,af,g⟩ (yielded ops a.tmps)=true)
   (hr:(execOp a.eval ⟨none,op,ty,ps,af,g⟩).run P w=.ok (.value v) w')
   (h:∀ a',Fr a' n l→K a' w'):cK P ops Q ⟨none,op,ty,ps,af,g⟩ K a w :=
 JG hw hr (h _ E)
theorem Ef {op ty ps af g}(E:Fr a n l)(hw:Region.wanted ⟨none,op,ty,ps,af,g⟩ (yielded ops a.tmps)=true)
   (hr:(execOp a.eval ⟨none,op,ty,ps,af,g⟩).run P w=.ok .skip w')
   (h:∀ a',Fr a' n l→K a' w'):cK P ops Q ⟨none,op,ty,ps,af,g⟩ K a w:=by
 unfold cK;rw[aj hw];left;unfold Oper.wp;rw[hr];exact h _ E
theorem Rp {op ty ps af g}(E:Fr a n l)(hw:Region.wanted ⟨some d,op,ty,ps,af,g⟩ (yielded ops a.tmps)=false)(hf:okB d n l=true)
   (h:∀ a',Fr a' n ((d,undef)::l)→K a' w):cK P ops Q ⟨some d,op,ty,ps,af,g⟩ K a w:=by
 unfold cK;rw[ag (by rw[hw];simp)];exact h _ (E.put hf undef)
theorem Rq {op ty ps af j s b c dst}(E:Fr a n l)(hj:(ops[j]?).bind (·.dst)=some s)[k:fv l s (.bool c)] :
   Region.wanted ⟨dst,op,ty,ps,af,some (j,b)⟩ (yielded ops a.tmps)=(c==b):=by
 have:=E.has _ k.mem;simp[Region.wanted,yielded,hj,this]
theorem cv {op ty ps af j s b dst}(E:Fr a n l)(hj:(ops[j]?).bind (·.dst)=some s)[k:fv l s (.bool b)] :
   Region.wanted ⟨dst,op,ty,ps,af,some (j,b)⟩ (yielded ops a.tmps)=true:=by rw[Rq E hj];simp
theorem Fr.bool {s:Nat}{c:Bool} {l'}(E:Fr a n l)[k:fv l s (.bool c)][e:g8 l s l']{G:Prop}
   (ht:c=true→Fr a n ((s,.bool true)::l')→G) (hf:c=false→Fr a n ((s,.bool false)::l')→G):G:=by
 have hm:=E.has _ k.mem;have hd:=E.del s;cases c with
 | true => exact ht rfl ⟨E.defers, E.size, fun p hp => by
      rcases List.mem_cons.1 hp with rfl | hp
      ·exact hm
      ·exact hd.has _ hp⟩
 | false => exact hf rfl ⟨E.defers, E.size, fun p hp => by
     rcases List.mem_cons.1 hp with rfl | hp
     ·exact hm
     ·exact hd.has _ hp⟩
theorem Rr {x dst ty ps af g}(E:Fr a n l)[e:Ev l x v]:(execOp a.eval ⟨dst,.move x,ty,ps,af,g⟩).run P w=.ok (.value v) w:=by
 simp[execOp,e.ev a n E,pure,Sem.run]
theorem Rs {x dst ty ps af g}(E:Fr a n l)[e:Ev l x v]:(execOp a.eval ⟨dst,.assign x,ty,ps,af,g⟩).run P w=.ok (.value v) w:=by
 simp[execOp,e.ev a n E,pure,Sem.run]
theorem Rt {c x y dst ty ps af g}(E:Fr a n l)[e:Ev l c (.bool true)][f:Ev l x v]:(execOp a.eval ⟨dst,.pick c x y,ty,ps,af,g⟩).run P w=.ok (.value v) w:=by
 simp[execOp,e.ev a n E,f.ev a n E,asBool]
theorem Ru {c x y dst ty ps af g}(E:Fr a n l)[e:Ev l c (.bool false)][f:Ev l y v]:(execOp a.eval ⟨dst,.pick c x y,ty,ps,af,g⟩).run P w=.ok (.value v) w:=by
 simp[execOp,e.ev a n E,f.ev a n E,asBool]
class AU (v:Value):Prop where h:(∃ ad,v=.pointer (some ad))∨∃ t u,v=.iface t u
instance {ad}:AU (.pointer (some ad)):=⟨.inl ⟨_,rfl⟩⟩
instance {t u}:AU (.iface t u):=⟨.inr ⟨_,_,rfl⟩⟩
theorem Rv {x dst ty ps af g}(E:Fr a n l)[e:Ev l x v][k:AU v]:(execOp a.eval ⟨dst,.nilCheck x,ty,ps,af,g⟩).run P w=.ok (.value v) w:=by
 rcases k.h with ⟨ad,rfl⟩ | ⟨t,u,rfl⟩ <;> simp[execOp,e.ev a n E]
theorem JH {x y k i j t u dst ty ps af g}(E:Fr a n l)[e:Ev l x (.int k i)][f:Ev l y (.int k j)] :
   (execOp a.eval ⟨dst,.binOp .add t x y u,ty,ps,af,g⟩).run P w=.ok (.value (.int k (k.wrap (i+j)))) w:=by
 simp[execOp,e.ev a n E,f.ev a n E,eqGuard,binOp,Op.intArith]
theorem AV {x y k i j t u dst ty ps af g}(E:Fr a n l)[e:Ev l x (.int k i)][f:Ev l y (.int k j)] :
   (execOp a.eval ⟨dst,.binOp .sub t x y u,ty,ps,af,g⟩).run P w=.ok (.value (.int k (k.wrap (i-j)))) w:=by
 simp[execOp,e.ev a n E,f.ev a n E,eqGuard,binOp,Op.intArith]
theorem JI {x y k i j t u dst ty ps af g}(E:Fr a n l)[e:Ev l x (.int k i)][f:Ev l y (.int k j)] :
   (execOp a.eval ⟨dst,.binOp .mul t x y u,ty,ps,af,g⟩).run P w=.ok (.value (.int k (k.wrap (i*j)))) w:=by
 simp[execOp,e.ev a n E,f.ev a n E,eqGuard,binOp,Op.intArith]
theorem gy {i:Int}(h1:-9223372036854775808≤i)(h2:i≤9223372036854775807):IntKind.i64.wrap i=i:=IntWalk.i64_in _ (by omega)
theorem Rw {x y i j t u dst ty ps af g}(E:Fr a n l)[e:Ev l x (.int .i64 i)][f:Ev l y (.int .i64 j)](h1:-9223372036854775808≤i+j)(h2:i+j≤9223372036854775807) :
   (execOp a.eval ⟨dst,.binOp .add t x y u,ty,ps,af,g⟩).run P w=.ok (.value (.int .i64 (i+j))) w:=by
 rw[JH E,gy h1 h2]
theorem Rx {x y i j t u dst ty ps af g}(E:Fr a n l)[e:Ev l x (.int .i64 i)][f:Ev l y (.int .i64 j)](h1:-9223372036854775808≤i-j)(h2:i-j≤9223372036854775807) :
   (execOp a.eval ⟨dst,.binOp .sub t x y u,ty,ps,af,g⟩).run P w=.ok (.value (.int .i64 (i-j))) w:=by
 rw[AV E,gy h1 h2]
theorem Ry {x y i j t u dst ty ps af g}(E:Fr a n l)[e:Ev l x (.int .i64 i)][f:Ev l y (.int .i64 j)](h1:-9223372036854775808≤i*j)(h2:i*j≤9223372036854775807) :
   (execOp a.eval ⟨dst,.binOp .mul t x y u,ty,ps,af,g⟩).run P w=.ok (.value (.int .i64 (i*j))) w:=by
 rw[JI E,gy h1 h2]
theorem Rz {x y k i j t u dst ty ps af g}(E:Fr a n l)[e:Ev l x (.int k i)][f:Ev l y (.int k j)] :
   (execOp a.eval ⟨dst,.binOp .lss t x y u,ty,ps,af,g⟩).run P w=.ok (.value (.bool (decide (i<j)))) w:=by
 simp[execOp,e.ev a n E,f.ev a n E,eqGuard,binOp,Op.intCmp]
theorem RA {x y k i j t u dst ty ps af g}(E:Fr a n l)[e:Ev l x (.int k i)][f:Ev l y (.int k j)] :
   (execOp a.eval ⟨dst,.binOp .leq t x y u,ty,ps,af,g⟩).run P w=.ok (.value (.bool (decide (i≤j)))) w:=by
 simp[execOp,e.ev a n E,f.ev a n E,eqGuard,binOp,Op.intCmp]
theorem RB {x y k i j t u dst ty ps af g}(E:Fr a n l)[e:Ev l x (.int k i)][f:Ev l y (.int k j)] :
   (execOp a.eval ⟨dst,.binOp .gtr t x y u,ty,ps,af,g⟩).run P w=.ok (.value (.bool (decide (j<i)))) w:=by
 simp[execOp,e.ev a n E,f.ev a n E,eqGuard,binOp,Op.intCmp]
theorem RC {x y k i j t u dst ty ps af g}(E:Fr a n l)[e:Ev l x (.int k i)][f:Ev l y (.int k j)] :
   (execOp a.eval ⟨dst,.binOp .geq t x y u,ty,ps,af,g⟩).run P w=.ok (.value (.bool (decide (j≤i)))) w:=by
 simp[execOp,e.ev a n E,f.ev a n E,eqGuard,binOp,Op.intCmp]
theorem RD {x y k i j t u dst ty ps af g}(E:Fr a n l)[e:Ev l x (.int k i)][f:Ev l y (.int k j)] :
   (execOp a.eval ⟨dst,.binOp .eql t x y u,ty,ps,af,g⟩).run P w=.ok (.value (.bool (decide (i=j)))) w:=by
 simp[execOp,e.ev a n E,f.ev a n E,eqGuard,binOp,Op.intCmp];rfl
theorem RE {x y k i j t u dst ty ps af g}(E:Fr a n l)[e:Ev l x (.int k i)][f:Ev l y (.int k j)] :
   (execOp a.eval ⟨dst,.binOp .neq t x y u,ty,ps,af,g⟩).run P w=.ok (.value (.bool (decide (i≠j)))) w:=by
 simp[execOp,e.ev a n E,f.ev a n E,eqGuard,binOp,Op.intCmp,bne];rfl
theorem RF {x b t dst ty ps af g}(E:Fr a n l)[e:Ev l x (.bool b)]:(execOp a.eval ⟨dst,.unOp .not t x,ty,ps,af,g⟩).run P w=.ok (.value (.bool (!b))) w:=by
 simp[execOp,e.ev a n E,Op.unary]
class uP (v:Value)(b:outParam Bool):Prop where h:v=.pointer none∧b=true∨(∃ ad,v=.pointer (some ad))∧b=false
instance:uP (.pointer none) true:=⟨.inl ⟨rfl,rfl⟩⟩
instance {ad}:uP (.pointer (some ad)) false:=⟨.inr ⟨⟨_,rfl⟩,rfl⟩⟩
theorem AW {t el:TypeId}(ht:P.underlying t=some (.pointer el)):P.underlying t=some (.pointer (P.pointee t)):=by
 rw[ht];simp[Program.pointee,ht]
theorem RG {x b t u el dst ty ps af g}(E:Fr a n l)(ht:P.underlying t=some (.pointer el))[e:Ev l x v][k:uP v b] :
   (execOp a.eval ⟨dst,.binOp .eql t x (.const (.pointer none)) u,ty,ps,af,g⟩).run P w=.ok (.value (.bool b)) w:=by
 have hc:a.eval (.const (.pointer none))=.pointer none:=rfl;rcases k.h with ⟨rfl,rfl⟩ | ⟨⟨ad,rfl⟩,rfl⟩
 ·have:=run_eql_pointer_nil (P:=P) (w:=w) t none (AW ht);simp only[execOp,e.ev a n E,hc,Sem.run_bind];simp[eqGuard,this]
 ·have:=run_eql_pointer_nil (P:=P) (w:=w) t (some ad) (AW ht);simp only[execOp,e.ev a n E,hc,Sem.run_bind];simp[eqGuard,this]
theorem RJ {x b t u el dst ty ps af g}(E:Fr a n l)(ht:P.underlying t=some (.pointer el))[e:Ev l x v][k:uP v b] :
   (execOp a.eval ⟨dst,.binOp .neq t x (.const (.pointer none)) u,ty,ps,af,g⟩).run P w=.ok (.value (.bool (!b))) w:=by
 have hc:a.eval (.const (.pointer none))=.pointer none:=rfl;rcases k.h with ⟨rfl,rfl⟩ | ⟨⟨ad,rfl⟩,rfl⟩
 ·have:=run_neq_pointer_nil (P:=P) (w:=w) t none (AW ht);simp only[execOp,e.ev a n E,hc,Sem.run_bind];simp[eqGuard,this]
 ·have:=run_neq_pointer_nil (P:=P) (w:=w) t (some ad) (AW ht);simp only[execOp,e.ev a n E,hc,Sem.run_bind];simp[eqGuard,this]
end
end
section
class TI (P:Program)(t:TypeId)(z:outParam Value)(size bytes:outParam Nat):Prop where of ::
 h:(P.info? t).map (λi=>(i.zero,i.size,i.bytes))=some (some z,size,bytes)
def oH:TypeDesc→Bool | .struct _ | .array _ _=>false | _=>true
class fL (L:List SP)(b:Nat)(e:outParam TypeId)(cs:outParam (List Value))(R:outParam (List SP)):Prop where perm:L.Perm (aa b e cs::R)
instance fL.head {L b e cs}:fL (aa b e cs::L) b e cs L:=⟨lL _⟩
instance (priority:=low) fL.tail {A L b e cs R}[h:fL L b e cs R]:fL (A::L) b e cs (A::R) :=
 ⟨(kE A h.perm).trans (c1 _ _ _)⟩
class Cells (v:Value)(vs:outParam (List Value)):Prop where h:v.cells=vs.toArray
instance {vs:List Value}:Cells (.agg vs.toArray) vs:=⟨rfl⟩
instance {b}:Cells (.bool b) [.bool b]:=⟨rfl⟩
instance {k i}:Cells (.int k i) [.int k i]:=⟨rfl⟩
instance {s}:Cells (.string s) [.string s]:=⟨rfl⟩
instance {p}:Cells (.pointer p) [.pointer p]:=⟨rfl⟩
instance {p n c}:Cells (.slice p n c) [.slice p n c]:=⟨rfl⟩
instance {m}:Cells (.map m) [.map m]:=⟨rfl⟩
instance {f x y}:Cells (.func f x y) [.func f x y]:=⟨rfl⟩
instance {t v}:Cells (.iface t v) [.iface t v]:=⟨rfl⟩
class qC (cs:List Value)(i:Nat)(v:Value)(mJ:outParam (List Value)):Prop where h:cs.set i v=mJ
instance (priority:=low) qC.any {cs i v}:qC cs i v (cs.set i v):=⟨rfl⟩
instance qC.zero {c cs v}:qC (c::cs) 0 v (v::cs):=⟨rfl⟩
instance qC.succ {c cs i v mJ}[h:qC cs i v mJ]:qC (c::cs) (i+1) v (c::mJ):=⟨by rw[List.set_cons_succ,h.h]⟩
class mK (cs:List Value)(off m:Nat)(vs:outParam (List Value)):Prop where h:(cs.drop off).take m=vs
instance (priority:=low) mK.any {cs off m}:mK cs off m ((cs.drop off).take m):=⟨rfl⟩
instance mK.nil {cs}:mK cs 0 0 []:=⟨by simp⟩
instance mK.cons {x cs m vs}[h:mK cs 0 m vs]:mK (x::cs) 0 (m+1) (x::vs):=⟨by
 have:=h.h;simp only[drop_zero] at *;rw[take_succ_cons,this]⟩
class s8 (o k:Nat)(r:outParam Nat):Prop where h:o+k=r
instance (priority:=low) s8.any {o k}:s8 o k (o+k):=⟨rfl⟩
instance s8.left {o}:s8 o 0 o:=⟨rfl⟩
instance s8.right {k}:s8 0 k k:=⟨ei k⟩
def Rd (w:World)(b off:Nat)(vs:List Value):Prop:=∀ j v,vs[j]?=some v→w.cell? ⟨b,off+j,none⟩=some v
theorem k6 (b o k:Nat):(⟨b,o,none⟩:Addr).add k=⟨b,o+k,none⟩:=by unfold Addr.add;split <;> simp_all
section
variable {P:Program}{W w:World}{L R:List SP}{b e:Nat}{cs:List Value}
theorem U.j5 (s:U W w L)(b:Nat)[k:fL L b e cs R]:U W w (aa b e cs::R):=s.perm k.perm
theorem U.bC (s:U W w L)[k:fL L b e cs R]{off:Nat}{v:Value}(h:cs[off]?=some v):w.cell? ⟨b,off,none⟩=some v:=by
 rw[(s.perm k.perm).cell];exact h
theorem U.qD (s:U W w L)[k:fL L b e cs R]{off:Nat}(m:Nat){vs:List Value}[sc:mK cs off m vs]:Rd w b off vs:=by
 have h:=sc.h;intro j v hj;rw[(s.perm k.perm).cell];rw[← h,uQ]at hj;by_cases hm:j<m
 ·rw[aj hm,qE]at hj;exact hj
 ·rw[ag hm]at hj;cases hj
theorem U.ai (s:U W w L)[k:fL L b e cs R]:Rd w b 0 cs:=by
 intro j v hj;rw[(s.perm k.perm).cell,ei];exact hj
theorem RK {t ej}{ad:Addr}{v:Value}(hu:P.underlying t=some ej)(hd:oH ej=true)(hc:w.cell? ad=some v):(loadVar t ad).run P w=.ok v w:=by
 have:(isAgg t).run P w=.ok false w:=by
  simp only[isAgg,Sem.run_bind,eT hu,Result.andThen_ok];cases ej <;> first | rfl | (simp[oH]at hd)
 simp[loadVar,this,load,Sem.run,hc]
theorem Eg {t ej z a1}{off:Nat}{vs:List Value}(hu:P.underlying t=some ej)(hd:oH ej=false)(hi:TI P t z vs.length a1)(hc:Rd w b off vs) :
   (loadVar t ⟨b,off,none⟩).run P w=.ok (.agg vs.toArray) w:=by
 have h1:(isAgg t).run P w=.ok true w:=by
  simp only[isAgg,Sem.run_bind,eT hu,Result.andThen_ok];cases ej <;> first | rfl | (simp[oH]at hd)
 obtain⟨i,h2,_,h3,_⟩:=info_parts hi.h;have h4:(sizeOf t).run P w=.ok vs.length w:=by simp[sizeOf,typeInfo,h2,h3]
 have h5:=run_loadCells_list (P:=P) w ⟨b,off,none⟩ vs (λj v hj=>by rw[k6];exact hc j v hj);simp[loadVar,h1,h4,h5]
end
section
variable {P:Program}{ops:Array Oper}{Q:Exit→Act→World→Prop}{a:Act}{w w' W:World}{K:Act→World→Prop}{n d:Nat}{l:List (Nat×Value)}{v:Value}{L R:List SP}
theorem JJ {x ad t ej dst ty ps af g}(E:Fr a n l)(hu:P.underlying t=some ej)(hd:oH ej=true)[ev:Ev l x (.pointer (some ad))](hc:w.cell? ad=some v) :
   (execOp a.eval ⟨dst,.load t x,ty,ps,af,g⟩).run P w=.ok (.value v) w:=by
 simp[execOp,ev.ev a n E,Instr.loadAt,Instr.sureAddr,RK hu hd hc]
theorem bT {x b off t ej z a1 vs dst ty ps af g}(E:Fr a n l)(hu:P.underlying t=some ej)(hd:oH ej=false)(hi:TI P t z (List.length vs) a1)[ev:Ev l x (.pointer (some ⟨b,off,none⟩))](hc:Rd w b off vs) :
   (execOp a.eval ⟨dst,.load t x,ty,ps,af,g⟩).run P w=.ok (.value (.agg vs.toArray)) w:=by
 simp[execOp,ev.ev a n E,Instr.loadAt,Instr.sureAddr,Eg hu hd hi hc]
theorem mL {t z sz a1}(hi:TI P t z sz a1):(sizeOf t).run P w=.ok sz w:=by
 obtain⟨i,h2,_,h3,_⟩:=info_parts hi.h;simp[sizeOf,typeInfo,h2,h3]
theorem uR {t z sz a1}(hi:TI P t z sz a1):(zeroValue t).run P w=.ok z w:=by
 obtain⟨i,h2,h1,h3,_⟩:=info_parts hi.h;simp[zeroValue,typeInfo,h2,h1]
theorem e5 {t z sz a1 zs ty ps af g}(E:Fr a n l)(hw:Region.wanted ⟨some d,.alloc t,ty,ps,af,g⟩ (yielded ops a.tmps)=true)(I:U W w L)(hi:TI P t z sz a1)[k:Cells z zs]
   (hf:okB d n l=true) (h:∀ b a' w',Fr a' n ((d,.pointer (some ⟨b,0,none⟩))::l)→U W w' (aa b t zs::L)→Old w w'→K a' w') :
   cK P ops Q ⟨some d,.alloc t,ty,ps,af,g⟩ K a w:=by
 refine bA (v:=.pointer (some ⟨w.heap.size,0,none⟩)) (w':=w.alloc (.cells zs.toArray t)) E hw ?_ hf (λa' di=>h _ _ _ di (I.alloc _) (Old.alloc _ _));simp[execOp,Instr.alloc,uR hi,newVar,newRow,newObj,Sem.run,k.h,Sem.run_bind]
theorem yB {t x vs ty ps af g}(E:Fr a n l)(hw:Region.wanted ⟨some d,.box t x,ty,ps,af,g⟩ (yielded ops a.tmps)=true)(I:U W w L)[ev:Ev l x v][k:Cells v vs]
   (hf:okB d n l=true) (h:∀ b a' w',Fr a' n ((d,.pointer (some ⟨b,0,none⟩))::l)→U W w' (aa b t vs::L)→Old w w'→K a' w') :
   cK P ops Q ⟨some d,.box t x,ty,ps,af,g⟩ K a w:=by
 refine bA (v:=.pointer (some ⟨w.heap.size,0,none⟩)) (w':=w.alloc (.cells vs.toArray t)) E hw ?_ hf (λa' di=>h _ _ _ di (I.alloc _) (Old.alloc _ _));simp[execOp,Instr.box,ev.ev a n E,newVar,newRow,newObj,Sem.run,k.h,Sem.run_bind]
theorem JK {t z a1 b e off}{v:Value}{vs cs:List Value}(I:U W w (aa b e cs::R))(hi:TI P t z vs.length a1)(hv:v.cells=vs.toArray)(h1:∀ v∈vs,v.oneCell'=true)
   (hle:off+vs.length≤cs.length):(storeVar t ⟨b,off,none⟩ v).run P w=.ok () (w.setRow b (cH cs off vs).toArray):=by
 have:=run_storeCells_at (P:=P) b off e vs 0 cs.toArray w I.has.2 (by simpa using hle) h1;simp[storeVar,hv,mL hi,this,cH]
theorem JL {t z a1 x y b e off cs mJ ty ps af g}(E:Fr a n l)(hw:Region.wanted ⟨none,.store t x y,ty,ps,af,g⟩ (yielded ops a.tmps)=true)(I:U W w L)
   (hi:TI P t z 1 a1) [ev:Ev l x (.pointer (some ⟨b,off,none⟩))] [uS:Ev l y v] [qF:Cells v [v]] [k:fL L b e cs R] (h1:v.oneCell'=true) (hlt:off<cs.length) [sc:qC cs off v mJ]
   (h:∀ a' w',Fr a' n l→U W w' (aa b e mJ::R)→K a' w'):cK P ops Q ⟨none,.store t x y,ty,ps,af,g⟩ K a w:=by
 have g9:=I.j5 b;have hr:=JK (P:=P) (t:=t) (off:=off) (vs:=[v]) g9 hi qF.h (by simpa using h1) (by simp;omega);have he:cH cs off [v]=mJ:=by
  rw[← sc.h,cH,rH,aj hlt];simp
 refine Ef (w':=w.setRow b (cH cs off [v]).toArray) E hw ?_ (λa' di=>h a' _ di (he ▸ g9.setRow));simp[execOp,ev.ev a n E,uS.ev a n E,Instr.storeAt,Instr.sureAddr,hr]
theorem rI {t z a1 x y b e off cs vs ty ps af g}(E:Fr a n l)(hw:Region.wanted ⟨none,.store t x y,ty,ps,af,g⟩ (yielded ops a.tmps)=true)(I:U W w L)
   (hi:TI P t z (List.length vs) a1) [ev:Ev l x (.pointer (some ⟨b,off,none⟩))] [uS:Ev l y v] [qF:Cells v vs] [k:fL L b e cs R] (h1:∀ v∈vs,v.oneCell'=true) (hle:off+vs.length≤cs.length)
   (h:∀ a' w',Fr a' n l→U W w' (aa b e (cH cs off vs)::R)→K a' w'):cK P ops Q ⟨none,.store t x y,ty,ps,af,g⟩ K a w:=by
 have g9:=I.j5 b;have hr:=JK (P:=P) (t:=t) (off:=off) (vs:=vs) g9 hi qF.h h1 hle;refine Ef (w':=w.setRow b (cH cs off vs).toArray) E hw ?_ (λa' di=>h a' _ di g9.setRow);simp[execOp,ev.ev a n E,uS.ev a n E,Instr.storeAt,Instr.sureAddr,hr]
theorem RL {t z a1 x y b e cs vs ty ps af g}(E:Fr a n l)(hw:Region.wanted ⟨none,.store t x y,ty,ps,af,g⟩ (yielded ops a.tmps)=true)(I:U W w L)
   (hi:TI P t z (List.length vs) a1) [ev:Ev l x (.pointer (some ⟨b,0,none⟩))] [uS:Ev l y v] [qF:Cells v vs] [k:fL L b e cs R] (h1:∀ v∈vs,v.oneCell'=true) (hle:vs.length=cs.length)
   (h:∀ a' w',Fr a' n l→U W w' (aa b e vs::R)→K a' w'):cK P ops Q ⟨none,.store t x y,ty,ps,af,g⟩ K a w:=by
 refine rI E hw I hi h1 (by omega) (λa' w' di g9=>h a' w' di ?_)
 rwa [show cH cs 0 vs=vs from by simp[cH,hle]]at g9
theorem RM {x b off t f k r fs jg z sz a1 dst ty ps af g}(E:Fr a n l)[ev:Ev l x (.pointer (some ⟨b,off,none⟩))](hu:P.underlying t=some (.struct fs))(hf:fs[f]?=some jg)(hi:TI P jg.type z (sz+1) a1)
   (hk:jg.offset=k) [RO:s8 off k r]:(execOp a.eval ⟨dst,.fieldAddr t x f,ty,ps,af,g⟩).run P w=.ok (.value (.pointer (some ⟨b,r,none⟩))) w:=by
 simp[execOp,ev.ev a n E,Instr.fieldAt,eT hu,hf,Instr.sureAddr,fieldPlace,mL hi,k6,hk,RO.h]
class ey (i:Int)(j:outParam Nat):Prop where h:i=(j:Int)
instance {j:Nat}:ey (j:Int) j:=⟨rfl⟩
instance:ey 0 0:=⟨rfl⟩
instance:ey 1 1:=⟨rfl⟩
instance:ey 2 2:=⟨rfl⟩
instance:ey 3 3:=⟨rfl⟩
instance:ey 4 4:=⟨rfl⟩
instance:ey 7 7:=⟨rfl⟩
instance:ey 8 8:=⟨rfl⟩
instance:ey 16 16:=⟨rfl⟩
instance:ey 24 24:=⟨rfl⟩
instance {x y:Int}{i j:Nat}[h:ey x i][k:ey y j]:ey (x+y) (i+j):=⟨by rw[h.h,k.h];rfl⟩
theorem JM {x y k i j b off m c t el z sz a1 dst ty ps af g}(E:Fr a n l)[ev:Ev l x (.slice (some ⟨b,off,none⟩) m c)][ha:Ev l y (.int k i)](hu:P.underlying t=some (.slice el))(hi:TI P el z sz a1)[nj:ey i j]
   (hlt:j<m):(execOp a.eval ⟨dst,.indexAddr t x y,ty,ps,af,g⟩).run P w=.ok (.value (.pointer (some ⟨b,off+j*sz,none⟩))) w:=by
 have:=nj.h;subst this;simp[execOp,ev.ev a n E,ha.ev a n E,Instr.indexAt,asIntOf,eT hu,mL hi,k6,hlt]
theorem RP {x y k i j b off m t el z sz a1 dst ty ps af g}(E:Fr a n l)[ev:Ev l x (.pointer (some ⟨b,off,none⟩))][ha:Ev l y (.int k i)](hu:P.underlying t=some (.array m el))(hi:TI P el z sz a1)[nj:ey i j]
   (hlt:j<m):(execOp a.eval ⟨dst,.indexAddr t x y,ty,ps,af,g⟩).run P w=.ok (.value (.pointer (some ⟨b,off+j*sz,none⟩))) w:=by
 have:=nj.h;subst this;simp[execOp,ev.ev a n E,ha.ev a n E,Instr.indexAt,asIntOf,eT hu,mL hi,k6,hlt,Instr.sureAddr]
theorem RQ {x ad m c t el dst ty ps af g}(E:Fr a n l)[ev:Ev l x (.slice ad m c)](hu:P.underlying t=some (.slice el)) :
   (execOp a.eval ⟨dst,.call ⟨.builtin .len,#[x],#[t]⟩,ty,ps,af,g⟩).run P w=.ok (.value (.int .i64 m)) w:=by
 simp[execOp,resolve,ev.ev a n E,invoke,builtin,Builtin.len_,eT hu,goInt]
theorem RS {fn xs ys us vs dst ty ps af g}(E:Fr a n l)[e1:nV l xs us][e2:nV l ys vs] :
   (execOp a.eval ⟨dst,.makeFunc fn xs.toArray ys.toArray,ty,ps,af,g⟩).run P w=.ok (.value (.func fn us.toArray vs.toArray)) w:=by
 simp[execOp,Instr.makeFunc,e1.ev a n E,e2.ev a n E]
def hZ (P : Program) (f : FuncId) : Bool := match P.funcs[f]? with | some fn => !(fn.name == "runtime.NumGoroutine") && fn.body.isSome | none => false
theorem AX {f}{vs:Array Value}(h:hZ P f=true):(callFunc f vs).run P w=.ok (.enter f vs) w:=by
 simp only[hZ]at h;cases hf:P.funcs[f]? with
 | none=>simp[hf]at h
 | some fn =>
  simp only[hf,fK,Bool.not_eq_true']at h;have hb:fn.body.isNone=false:=by cases hb:fn.body <;> simp_all
  simp only[callFunc,program,Sem.run,Sem.run_bind,Result.andThen_ok,hf,h.1,hb];simp
theorem JN {op ty ps af g dst f}{vs:Array Value}{X:Ending→World→Prop}(hw:Region.wanted ⟨dst,op,ty,ps,af,g⟩ (yielded ops a.tmps)=true)
   (hr:(execOp a.eval ⟨dst,op,ty,ps,af,g⟩).run P w=.ok (.enter f vs) w) (hc:Calls P f vs w X)
   (h:∀ e w',X e w'→∃ v,e=.returned v∧K (a.put dst v) w'):cK P ops Q ⟨dst,op,ty,ps,af,g⟩ K a w:=by
 unfold cK;rw[aj hw];left;unfold Oper.wp;rw[hr,Oper.upon_enter];refine hc.mono λe w' hx=>?_;obtain⟨v,rfl,hv⟩:=h e w' hx;exact hv
theorem JO {fn:Func} {t}{X:Ending→World→Prop}(E:Fr a n l)(hr:fn.results=#[.tmp t])[k:fv l t v](h:X (.returned v) w):bodyPost P fn X .ret a w:=by
 refine bodyPost_ret (results_tmp hr _ _ _) E.defers ?_;have:=E.has _ k.mem;simpa [Array.getD_eq_getD_getElem?,this] using h
theorem JP {fn:Func} {t u v2}{X:Ending→World→Prop}(E:Fr a n l)(hr:fn.results=#[.tmp t,.tmp u])[k:fv l t v][k2:fv l u v2](h:X (.returned (.tuple #[v,v2])) w):bodyPost P fn X .ret a w:=by
 refine bodyPost_ret (results_tmp2 hr _ _ _) E.defers ?_;have h1:=E.has _ k.mem;have h2:=E.has _ k2.mem;simpa [Array.getD_eq_getD_getElem?,h1,h2] using h
theorem JQ {fn:Func}{X:Ending→World→Prop}(E:Fr a n l)(hr:fn.results=#[])(h:X (.returned (.tuple #[])) w):bodyPost P fn X .ret a w :=
 bodyPost_ret (results_none hr _ _ _) E.defers h
theorem JR {fn:Func}{X:Ending→World→Prop}(E:Fr a n l)(hr:fn.results=#[])(h:X (.returned (.tuple #[])) w):bodyPost P fn X .normal a w :=
 bodyPost_end (results_none hr _ _ _) E.defers h
theorem RU {fn:Func} {x ad t}{X:Ending→World→Prop}(E:Fr a n l)(hr:fn.results=#[.cell x t])[k:fv l x (.pointer (some ad))](hl:(loadVar t ad).run P w=.ok v w)(h:X (.returned v) w):bodyPost P fn X .ret a w:=by
 refine bodyPost_ret ?_ E.defers h;have h1:=E.has _ k.mem;simp[results,hr,Array.getD_eq_getD_getElem?,h1,asAddr,hl]
theorem RV {fn:Func} {x ad t u v2}{X:Ending→World→Prop}(E:Fr a n l)(hr:fn.results=#[.cell x t,.tmp u])[k:fv l x (.pointer (some ad))][k2:fv l u v2](hl:(loadVar t ad).run P w=.ok v w)
   (h:X (.returned (.tuple #[v,v2])) w):bodyPost P fn X .ret a w:=by
 refine bodyPost_ret ?_ E.defers h;have h1:=E.has _ k.mem;have h2:=E.has _ k2.mem;simp[results,hr,Array.getD_eq_getD_getElem?,h1,h2,asAddr,hl]
theorem RW {f m:Nat}{fn:Func}{c:Code}{vs:List Value}{X:Ending→World→Prop}(hf:P.funcs[f]?=some fn)(hb:fn.body=some c)(hn:fn.ntmps=m)(hm:vs.length≤m)
   (h:∀ a,Fr a m ((List.range vs.length).zip vs)→c.wp P (bodyPost P fn X) a w):Calls P f vs.toArray w X :=
 calls_of_wp hf hb (by rw[hn];exact h _ (Fr.enter hm))
theorem b6 {x y:Code}{M:Act→World→Prop}(h:x.wp P (Exit.then M Q) a w)(k:∀ a w,M a w→y.wp P Q a w):(Code.seq x y).wp P Q a w:=by
 refine wp_seq (wp_mono h ?_);intro e a' w' hq;cases e <;> first | exact k _ _ hq | exact hq
theorem JS {c:Operand}{x y:Code}(E:Fr a n l)[e:Ev l c (.bool true)](h:x.wp P Q a w):(Code.cond c x y).wp P Q a w:=wp_cond_true (e.ev a n E) h
theorem JT {c:Operand}{x y:Code}(E:Fr a n l)[e:Ev l c (.bool false)](h:y.wp P Q a w):(Code.cond c x y).wp P Q a w:=wp_cond_false (e.ev a n E) h
theorem RX {i:Nat}(h:Q .normal a w):Exit.inBlock i Q (.exit i) a w:=by simp only[Exit.inBlock,if_true];exact h
theorem RY {i j:Nat}(hn:Nat.beq j i=false)(h:Q (.exit j) a w):Exit.inBlock i Q (.exit j) a w:=by
 simp only[Exit.inBlock];rw[ag (by intro e;subst e;rw[Nat.beq_refl]at hn;cases hn)];exact h
end
end
section
def Sl (e sz:Nat)(ad:Option Addr)(n c:Nat)(cs:List Value):SP:=λh =>
 cs.length=n*sz∧n≤c∧(c=0∨∃ b pre post,ad=some ⟨b,pre.length,none⟩∧(c-n)*sz≤post.length∧aa b e (pre++cs++post) h)
class fX (L:List SP)(ad:Option Addr)(n c e sz:outParam Nat)(cs:outParam (List Value))(R:outParam (List SP)):Prop where perm:L.Perm (Sl e sz ad n c cs::R)
instance fX.head {L ad n c e sz cs}:fX (Sl e sz ad n c cs::L) ad n c e sz cs L:=⟨lL _⟩
instance (priority:=low) fX.tail {A L ad n c e sz cs R}[h:fX L ad n c e sz cs R]:fX (A::L) ad n c e sz cs (A::R) :=
 ⟨(kE A h.perm).trans (c1 _ _ _)⟩
class qG (L:List SP)(A:SP)(R:outParam (List SP)):Prop where perm:L.Perm (A::R)
instance qG.head {A L}:qG (A::L) A L:=⟨lL _⟩
instance (priority:=low) qG.tail {B L A R}[h:qG L A R]:qG (B::L) A (B::R):=⟨(kE B h.perm).trans (c1 _ _ _)⟩
class fM (L M:List SP)(R:outParam (List SP)):Prop where perm:L.Perm (M++R)
instance fM.nil {L}:fM L [] L:=⟨lL _⟩
instance (priority:=high) fM.refl {L}:fM L L []:=⟨by simp⟩
instance (priority:=low) fM.skip {A L M R}[h:fM L M R]:fM (A::L) M (A::R):=⟨(kE A h.perm).trans (by
 have:=nW (a:=A) (l₁:=M) (l₂:=R);exact this.symm)⟩
instance fM.cons {L A M R R'}[h:qG L A R][k:fM R M R']:fM L (A::M) R':=⟨h.perm.trans (kE A k.perm)⟩
section
variable {P:Program}{W w:World}{L R:List SP}{e sz n c:Nat}{ad:Option Addr}{cs:List Value}
theorem U.pick (s:U W w L)(A:SP)[k:qG L A R]:U W w (A::R):=s.perm k.perm
theorem U.arr {M:List SP}(s:U W w L)[k:fM L M R]:U W w (M++R):=s.perm k.perm
theorem U.sub {M:List SP}(s:U W w L)[k:fM L M R]:U W w M:=by
 have:=(s.perm k.perm).perm (List.perm_append_comm);exact this.drop
theorem U.sl (s:U W w L)(ad:Option Addr)[k:fX L ad n c e sz cs R]:cs.length=n*sz∧n≤c:=(s.perm k.perm).tell λ_ h=>⟨h.1,h.2.1⟩
theorem U.mh (s:U W w (Sl e sz ad n c cs::L))(h0:0<c):∃ b pre post,(cs.length=n*sz∧n≤c∧ad=some ⟨b,List.length pre,none⟩∧(c-n)*sz≤List.length post)∧U W w (aa b e (pre++cs++post)::L):=by
 obtain⟨⟨b,pre,post⟩,h1,h2⟩:=s.jS (ι:=Nat×List Value×List Value) (p:=λi=>cs.length=n*sz∧n≤c∧ad=some ⟨i.1,i.2.1.length,none⟩∧(c-n)*sz≤i.2.2.length)
  (B:=λi=>aa i.1 e (i.2.1++cs++i.2.2)) (λh hx=>by
   obtain⟨cV,cc,a3⟩:=hx;rcases a3 with a3 | ⟨b,pre,post,x,y,z⟩
   ·omega
   ·exact⟨⟨b,pre,post⟩,⟨cV,cc,x,y⟩,z⟩)
 exact⟨b,pre,post,h1,h2⟩
theorem U.jh {b:Nat}{pre post:List Value}(s:U W w (aa b e (pre++cs++post)::L))(h1:cs.length=n*sz)(h2:n≤c)(h3:(c-n)*sz≤post.length) :
   U W w (Sl e sz (some ⟨b,pre.length,none⟩) n c cs::L) :=
 U.imp s λ_ ⟨RZ,R0,d,a,k,x,q⟩=>⟨RZ,R0,d,a,k,⟨h1,h2,.inr ⟨b,pre,post,rfl,h3,x⟩⟩,q⟩
theorem U.bQ (s:U W w L)(e sz:Nat)(ad:Option Addr):U W w (Sl e sz ad 0 0 []::L) :=
 ⟨s.below,let ⟨h,p,q⟩:=s.sat;⟨h,p,λ_=>none,h,λ_=>.inl rfl,λ_ _ e=>(by cases e),Hp.Sub.refl _,⟨by simp,a7 _,.inl rfl⟩,q⟩⟩
theorem U.bU (s:U W w L)(ad:Option Addr)[k:fX L ad n c e sz cs R](h0:0<n):∃ b off,ad=some ⟨b,off,none⟩∧Rd w b off cs:=by
 have s':=s.perm k.perm;have hn:=s.sl ad;obtain⟨b,pre,post,⟨h1,h2,h3,h4⟩,s2⟩:=s'.mh (by omega);refine⟨b,pre.length,h3,λj v hj=>?_⟩;rw[s2.cell];have:j<cs.length:=by
  rcases gX j cs.length with h | h
  ·exact h
  ·rw[iO h]at hj;cases hj
 rw[mM (by simp;omega),pJ (by omega)];simpa using hj
theorem U.cQ (s:U W w L)(b:Nat)(off:Nat)[k:fX L (some ⟨b,off,none⟩) n c e sz cs R](h0:0<n):Rd w b off cs:=by
 obtain⟨b2,gY,h,hr⟩:=s.bU (some ⟨b,off,none⟩) h0;cases h;exact hr
theorem Rd.part {b off:Nat}{vs:List Value}(h:Rd w b off vs)(i m:Nat):Rd w b (off+i) ((vs.drop i).take m):=by
 intro j v hj;rw[uQ]at hj;by_cases hm:j<m
 ·rw[aj hm,qE]at hj;have:=h _ _ hj
  rwa [← Nat.add_assoc]at this
 ·rw[ag hm]at hj;cases hj
theorem yC (e:TypeId){z:Value}{a1:Nat}(hz:z.cells.size=sz)(m:Nat):(Builtin.zeroCells z.cells m).toList.length=m*sz:=by
 rw[Array.length_toList,size_zeroCells,hz]
theorem R4 {t ty:TypeId}{z:Value}{a1:Nat}(ht:P.underlying t=some (.slice e))(hi:TI P e z sz a1)(hz:z.cells.size=sz)(s:U W w (Sl e sz ad n c cs::L))
   (JU:ad=none→c=0) {b2 gY m c2:Nat} {news:List Value} (hr:Rd w b2 gY news) (hl:news.length=m*sz) (h1:∀ v∈news,v.oneCell'=true) (hm:0<m) (hb:0<a1) (aF:(n+m)*a1≤140737488355328) :
   ∃ av c' w',(Builtin.append_ #[t,t] ty #[.slice ad n c,.slice (some ⟨b2,gY,none⟩) m c2]).run P w=.ok (.slice av (n+m) c') w'∧U W w' (Sl e sz av (n+m) c' (cs++news)::L)∧(av=none→c'=0):=by
 obtain⟨i,lM,dI,k7,qH⟩:=info_parts hi.h;have qI:=s.sl ad;have R5:n+m≤140737488355328:=eS (Nat.le_mul_of_pos_right _ hb) aF;have oI:∀ j v,news[j]?=some v→w.cell? ((⟨b2,gY,none⟩:Addr).add j)=some v:=λj v hj=>by rw[k6];exact hr j v hj
 by_cases nX:n+m≤c
 ·obtain⟨b,pre,post,⟨cV,cc,rfl,a4⟩,s2⟩:=s.mh (by omega);have eI:(c-n)*sz ≥ m*sz:=oJ _ (by omega);have hf:=run_firstCells_some (P:=P) w i.size m ⟨b2,gY,none⟩ m c2 news (by rw[k7];exact hl) oI;have aS:=run_storeCells_at (P:=P) b (pre.length+n*sz) e news 0 (pre++cs++post).toArray w s2.has.2 (by simp;omega) h1;have e1:(pre++cs++post).take (pre.length+n*sz)=pre++cs:=by rw[← cV,← aM,List.take_left]
  have e2:(pre++cs++post).drop (pre.length+n*sz+0+news.length)=post.drop news.length:=by
   rw[← cV,Nat.add_zero,← aM,← kF,drop_left]
  refine⟨some ⟨b,pre.length,none⟩,c,w.setRow b (pre++(cs++news)++post.drop news.length).toArray,?_,?_,λh=>by cases h⟩
  ·have rJ:(storeCells ⟨b,pre.length+n*sz,none⟩ news 0).run P w=.ok () (w.setRow b (((pre++cs++post).take (pre.length+n*sz)++news)++(pre++cs++post).drop (pre.length+n*sz+0+news.length)).toArray):=aS;rw[e1,e2]at rJ;simp[Builtin.append_,eT ht,sizeOf,typeInfo,lM,Builtin.lenOf,nX,k6,k7];rw[k7]at hf;simp[hf,rJ,dz]
  ·refine U.jh (pre:=pre) (post:=post.drop news.length) s2.setRow (by simp;rw[hl,cV,Nat.add_mul]) (by omega) ?_;simp only[c8];have:(c-(n+m))*sz=(c-n)*sz-m*sz:=by rw[← Nat.sub_mul];congr 1;omega
   omega
 ·have R6:(Builtin.zeroCells z.cells (grownCap w (n+m) c e-(n+m))).toList.length=(grownCap w (n+m) c e-(n+m))*sz:=yC e (a1:=a1) hz _;have nY:=grownCap_ge w (n+m) c e;have fj:Builtin.nextslicecap (n+m) c*i.bytes≤281474976710656:=by rw[qH];exact growslice_fits (by omega) aF
  have done : ∀ gw : List Value, gw = cs → U W (w.drew.alloc (.cells (gw.toArray ++ news.toArray ++ Builtin.zeroCells z.cells (grownCap w (n + m) c e - (n + m))) e))
      (Sl e sz (some ⟨w.heap.size,0,none⟩) (n+m) (grownCap w (n+m) c e) (cs++news)::L):=by
   intro gw ho;have wF:=(s.tail.drew).alloc (.cells (gw.toArray++news.toArray++Builtin.zeroCells z.cells (grownCap w (n+m) c e-(n+m))) e)
   have Eh : U W (w.drew.alloc (.cells (gw.toArray ++ news.toArray ++ Builtin.zeroCells z.cells (grownCap w (n + m) c e - (n + m))) e))
       (aa w.heap.size e ([]++(cs++news)++(Builtin.zeroCells z.cells (grownCap w (n+m) c e-(n+m))).toList)::L):=by
    have:(gw.toArray++news.toArray++Builtin.zeroCells z.cells (grownCap w (n+m) c e-(n+m)))=([]++(cs++news)++(Builtin.zeroCells z.cells (grownCap w (n+m) c e-(n+m))).toList).toArray:=by
     apply Array.ext';simp[ho]
    rw[this]at wF ⊢;exact wF
   exact U.jh (pre:=[]) Eh (by simp;rw[hl,qI.1,Nat.add_mul]) nY (by omega)
  by_cases hc:c=0
  ·subst hc;have wG:n=0:=by omega
   subst wG;have iu:cs=[]:=hs (by rw[qI.1];simp);subst iu;cases ad with
   | none =>
    have:=run_append_nil (P:=P) w t ty e i z ht lM dI ⟨b2,gY,none⟩ m c2 news (by rw[k7];exact hl) oI hm (by omega) (by rw[qH];rw[ei]at aF;omega);refine⟨_,_,_,by simpa using this,?_,λh=>by cases h⟩;have:=done [] rfl;simpa using this
   | some b =>
    have:=run_append_grow (P:=P) w t ty e i z ht lM dI b 0 0 [] (by simp) (λj v hj=>by simp at hj) ⟨b2,gY,none⟩ m c2 news (by rw[k7];exact hl) oI (by omega) (by omega) fj;refine⟨_,_,_,by simpa using this,?_,λh=>by cases h⟩;have:=done [] rfl;simpa using this
  ·obtain⟨b,pre,post,⟨cV,cc,rfl,a4⟩,s2⟩:=s.mh (by omega);have holds:∀ j v,cs[j]?=some v→w.cell? ((⟨b,pre.length,none⟩:Addr).add j)=some v:=by
    intro j v hj;rw[k6,s2.cell];have:j<cs.length:=by
     rcases gX j cs.length with h | h
     ·exact h
     ·rw[iO h]at hj;cases hj
    rw[mM (by simp;omega),pJ (by omega)];simpa using hj
   have:=run_append_grow (P:=P) w t ty e i z ht lM dI ⟨b,pre.length,none⟩ n c cs (by rw[k7];exact cV) holds ⟨b2,gY,none⟩ m c2 news (by rw[k7];exact hl) oI (by omega) (by omega) fj;exact⟨_,_,_,this,done cs rfl,λh=>by cases h⟩
def fw (ad:Option Addr)(lo c sz:Nat):Option Addr:=if c=lo then ad else ad.map (·.add (lo*sz))
theorem pK {b o lo c sz:Nat}(h:c≠lo):fw (some ⟨b,o,none⟩) lo c sz=some ⟨b,o+lo*sz,none⟩:=by simp[fw,h,k6]
theorem U.R8 (s:U W w (Sl e sz ad n c cs::L)){lo hi:Nat}(h1:lo≤hi)(h2:hi≤n) :
   U W w (Sl e sz (fw ad lo c sz) (hi-lo) (c-lo) ((cs.drop (lo*sz)).take ((hi-lo)*sz))::L):=by
 have qI:=s.sl ad;have gz:(hi-lo)*sz+lo*sz=hi*sz:=by rw[← Nat.add_mul];congr 1;omega
 have kG:hi*sz≤n*sz:=oJ _ h2;have hlen:((cs.drop (lo*sz)).take ((hi-lo)*sz)).length=(hi-lo)*sz:=by simp;omega
 by_cases hc:c=lo
 ·have hz:hi-lo=0:=by omega
  have eU:c-lo=0:=by omega
  rw[hz,eU];simp only[Nat.zero_mul,take_zero];exact s.tail.bQ e sz _
 ·obtain⟨b,pre,post,⟨cV,cc,rfl,a4⟩,s2⟩:=s.mh (by omega);have he:pre++cs++post=(pre++cs.take (lo*sz))++((cs.drop (lo*sz)).take ((hi-lo)*sz))++(cs.drop (hi*sz)++post):=by
   have e1:cs=cs.take (lo*sz)++(cs.drop (lo*sz)).take ((hi-lo)*sz)++cs.drop (hi*sz):=by
    have:cs.drop (hi*sz)=(cs.drop (lo*sz)).drop ((hi-lo)*sz):=by rw[kF];congr 1;omega
    rw[this,dz,j6,j6]
   conv=>lhs;rw[e1]
   simp[dz]
  rw[he]at s2;have eI:(pre++cs.take (lo*sz)).length=pre.length+lo*sz:=by simp;omega
  have:=U.jh (n:=hi-lo) (c:=c-lo) (sz:=sz) s2 hlen (by omega) (by
   simp only[aM,c8];have:(c-lo-(hi-lo))*sz=(c-n)*sz+(n*sz-hi*sz):=by rw[← Nat.sub_mul,← Nat.add_mul];congr 1;omega
   omega)
  rw[eI]at this;simpa [fw,hc,k6] using this
theorem U.Ei (s:U W w L)(ad:Option Addr)(lo hi:Nat)[k:fX L ad n c e sz cs R](h1:lo≤hi)(h2:hi≤n) :
   U W w (Sl e sz (fw ad lo c sz) (hi-lo) (c-lo) ((cs.drop (lo*sz)).take ((hi-lo)*sz))::R):=(s.perm k.perm).R8 h1 h2
end
section
variable {P:Program}{ops:Array Oper}{Q:Exit→Act→World→Prop}{a:Act}{w w' W:World}{K:Act→World→Prop}{o:Oper}{n d:Nat}{l:List (Nat×Value)}{v:Value}{L R:List SP}
theorem qJ {t el:TypeId}(ht:P.underlying t=some (.slice el)):P.underlying t=some (.slice (P.elem t))∧P.elem t=el:=by
 constructor <;> simp[Program.elem,ht]
theorem R9 {x y k i j ad m c t el z sz a1 dst ty ps af g}(E:Fr a n l)(ht:P.underlying t=some (.slice el))(hi:TI P el z sz a1)[ev:Ev l x (.slice ad m c)][ha:Ev l y (.int k i)][nj:ey i j](h:j≤m) :
   (execOp a.eval ⟨dst,.slice t x (some y) none none,ty,ps,af,g⟩).run P w=.ok (.value (.slice (fw ad j c sz) (m-j) (c-j))) w:=by
 have hj:=nj.h;subst hj;have e1:=(qJ ht).1;have e2:=(qJ ht).2;have:=run_slice_l (P:=P) (w:=w) t ad m c e1 k (j:Int) (by omega) (by omega);rw[e2,mL hi]at this;simp only[Result.andThen_ok,c9]at this;simp[execOp,ev.ev a n E,ha.ev a n E,run_sliceAt_slice (P:=P) (w:=w) t _ _ _ _ e1,this,sliced,fw]
theorem Sa {x y k i j ad m c t el z sz a1 dst ty ps af g}(E:Fr a n l)(ht:P.underlying t=some (.slice el))(hi:TI P el z sz a1)[ev:Ev l x (.slice ad m c)][ha:Ev l y (.int k i)][nj:ey i j](h:j≤c) :
   (execOp a.eval ⟨dst,.slice t x none (some y) none,ty,ps,af,g⟩).run P w=.ok (.value (.slice (fw ad 0 c sz) (j-0) (c-0))) w:=by
 have hj:=nj.h;subst hj;have e1:=(qJ ht).1;have e2:=(qJ ht).2;have:=run_slice_h (P:=P) (w:=w) t ad m c e1 k (j:Int) (by omega) (by omega);rw[e2,mL hi]at this;simp only[Result.andThen_ok,c9]at this;simp[execOp,ev.ev a n E,ha.ev a n E,run_sliceAt_slice (P:=P) (w:=w) t _ _ _ _ e1,this,sliced,fw]
theorem Sb {x y u k k' i i' j j' ad m c t el z sz a1 dst ty ps af g}(E:Fr a n l)(ht:P.underlying t=some (.slice el))(hi:TI P el z sz a1)[ev:Ev l x (.slice ad m c)][ha:Ev l y (.int k i)][uT:Ev l u (.int k' i')][nj:ey i j][yD:ey i' j'](h:j≤j')(h':j'≤c) :
   (execOp a.eval ⟨dst,.slice t x (some y) (some u) none,ty,ps,af,g⟩).run P w=.ok (.value (.slice (fw ad j c sz) (j'-j) (c-j))) w:=by
 have hj:=nj.h;subst hj;have lN:=yD.h;subst lN;have e1:=(qJ ht).1;have e2:=(qJ ht).2;have:=run_slice_lh (P:=P) (w:=w) t ad m c e1 k k' (j:Int) (j':Int) (by omega) (by omega) (by omega);rw[e2,mL hi]at this;simp only[Result.andThen_ok,c9]at this;simp[execOp,ev.ev a n E,ha.ev a n E,uT.ev a n E,run_sliceAt_slice (P:=P) (w:=w) t _ _ _ _ e1,this,sliced,fw]
theorem Sc {s x t z a1 b2 gY m c2 news e sz ad k c dst ty ps af g}{cs:List Value}(E:Fr a n l)(I:U W w L)(ht:P.underlying t=some (.slice e))(hi:TI P e z sz a1)(hz:z.cells.size=sz)
   [e1:Ev l s (.slice ad k c)] [pk:fX L ad k c e sz cs R] [e2:Ev l x (.slice (some ⟨b2,gY,none⟩) m c2)] (hr:Rd w b2 gY news) (hl:news.length=m*sz) (h1:∀ v∈news,v.oneCell'=true) (hm:0<m) (hb:0<a1)
   (aF:(k+m)*a1≤140737488355328) :
   ∃ av c' w',(execOp a.eval ⟨dst,.call ⟨.builtin .append,#[s,x],#[t,t]⟩,ty,ps,af,g⟩).run P w=.ok (.value (.slice av (k+m) c')) w'∧U W w' (Sl e sz av (k+m) c' (cs++news)::R):=by
 have g9:=I.perm pk.perm;have JU:ad=none→c=0:=g9.tell λ_ hx=>by
  rintro rfl;rcases hx.2.2 with h | ⟨_,_,_,h,_⟩
  ·exact h
  ·cases h
 obtain⟨av,c',w',h2,h3,_⟩:=R4 (P:=P) (ty:=ty) ht hi hz g9 JU (c2:=c2) hr hl h1 hm hb aF;exact⟨av,c',w',by simp[execOp,resolve,e1.ev a n E,e2.ev a n E,invoke,builtin,h2],h3⟩
theorem cR {s x t z a1 b2 gY m c2 news e sz ad k c ty ps af g}{cs:List Value}(E:Fr a n l)(hw:Region.wanted ⟨some d,.call ⟨.builtin .append,#[s,x],#[t,t]⟩,ty,ps,af,g⟩ (yielded ops a.tmps)=true)(I:U W w L)
   (ht:P.underlying t=some (.slice e)) (hi:TI P e z sz a1) (hz:z.cells.size=sz) (hf:okB d n l=true)
   [e1:Ev l s (.slice ad k c)] [pk:fX L ad k c e sz cs R] [e2:Ev l x (.slice (some ⟨b2,gY,none⟩) m c2)] (hr:Rd w b2 gY news) (hl:news.length=m*sz) (h1:∀ v∈news,v.oneCell'=true) (hm:0<m) (hb:0<a1)
   (aF:(k+m)*a1≤140737488355328)
   (h:∀ av c' a' w',Fr a' n ((d,.slice av (k+m) c')::l)→U W w' (Sl e sz av (k+m) c' (cs++news)::R)→K a' w') :
   cK P ops Q ⟨some d,.call ⟨.builtin .append,#[s,x],#[t,t]⟩,ty,ps,af,g⟩ K a w:=by
 obtain⟨av,c',w',h2,h3⟩:=Sc (P:=P) (dst:=some d) (ty:=ty) (ps:=ps) (af:=af) (g:=g) E I ht hi hz (s:=s) (x:=x) hr hl h1 hm hb aF;exact bA E hw h2 hf λa' di=>h _ _ a' _ di h3
class uU (l:List (Nat×Value))(parts:List (Nat×Operand))(i:Nat)(fY:outParam (List (List Value))):Prop where
 h:∀ a n,Fr a n l→∃ vs:List Value,parts.map (λp=>(p.1,a.eval p.2))=(List.range' i fY.length).zip vs∧vs.map (·.cells)=fY.map (·.toArray)
instance uU.nil {l i}:uU l [] i []:=⟨λ_ _ _=>⟨[],rfl,rfl⟩⟩
instance uU.cons {l i o v c ps fY}[h1:Ev l o v][h2:Cells v c][h3:uU l ps (i+1) fY]:uU l ((i,o)::ps) i (c::fY):=⟨λa n E=>by
 obtain⟨vs,e1,e2⟩:=h3.h a n E;exact⟨v::vs,by simp[List.range'_succ,e1,h1.ev a n E],by simp[e2,h2.h]⟩⟩
theorem JV (c:List Value):∀ (k:Nat) (off:Nat) (cells:List Value),off+k+c.length≤cells.length →
   (c.zipIdx k).foldl (λ(cs:Array Value) (p:Value×Nat)=>cs.setIfInBounds (off+p.2) p.1) cells.toArray=(cells.take (off+k)++c++cells.drop (off+k+c.length)).toArray:=by
 induction c with
 | nil=>intro k off cells h;simp
 | cons x c ih =>
  intro k off cells h;simp only[eV]at h;simp only[List.zipIdx_cons,foldl_cons,List.setIfInBounds_toArray];rw[ih (k+1) off (cells.set (off+k) x) (by simp;omega)]
  congr 1
  rw[rH,aj (by omega)];have hl:(cells.take (off+k)).length=off+k:=by simp;omega
  have e1:(cells.take (off+k)++x::cells.drop (off+k+1)).take (off+(k+1))=cells.take (off+k)++[x]:=by
   rw[uV,hl,gl (by omega)]
   congr 1
   rw[show off+(k+1)-(off+k)=1 from by omega];simp
  have e2:(cells.take (off+k)++x::cells.drop (off+k+1)).drop (off+(k+1)+c.length)=cells.drop (off+k+(c.length+1)):=by
   rw[List.drop_append,hl,List.drop_of_length_le (by rw[hl];omega),nil_append,show off+(k+1)+c.length-(off+k)=c.length+1 from by omega,List.drop_succ_cons,kF]
   congr 1;omega
  rw[e1,e2];simp
theorem Ej {sz:Nat}:∀ (fY:List (List Value)) (vs:List Value) (i:Nat) (pre oK:List Value),vs.map (·.cells)=fY.map (·.toArray)→(∀ c∈fY,c.length=sz)→pre.length=i*sz→oK.length=fY.length*sz →
   Instr.fill (λi=>some (i*sz,sz)) (pre++oK).toArray ((List.range' i fY.length).zip vs)=some (pre++fY.flatten).toArray
 | [],vs,i,pre,oK,h,_,_,hr=>by
  have:oK=[]:=hs (by simpa using hr);subst this;simp[Instr.fill]
 | c::fY,[],_,_,_,h,_,_,_=>by simp at h
 | c::fY,v::vs,i,pre,oK,h,hc,hp,hr=>by
  simp only[map_cons,List.cons.injEq]at h;have cr:=hc c (by simp);simp only[eV,Nat.succ_mul]at hr;have iu:v.cells.size=sz:=by rw[h.1];simpa using cr
  have ih:=Ej (sz:=sz) fY vs (i+1) (pre++c) (oK.drop sz) h.2 (λx hx=>hc x (by simp[hx])) (by simp[hp,cr,Nat.succ_mul]) (by simp;omega);simp only[eV,List.range'_succ,List.zip_cons_cons,Instr.fill];rw[ag (by simp[iu,hp];omega)];have:=JV c 0 (i*sz) (pre++oK) (by simp[hp];omega);have e1:(pre++oK).take (i*sz)=pre:=by rw[← hp,List.take_left]
  have e2:(pre++oK).drop (i*sz+c.length)=oK.drop sz:=by rw[← hp,← kF,drop_left,cr]
  simp only[Nat.add_zero]at this;rw[e1,e2]at this;have e3:(v.cells.zipIdx.foldl (λ(cs:Array Value) (x:Value×Nat)=>cs.setIfInBounds (i*sz+x.2) x.1) (pre++oK).toArray)=(pre++c++oK.drop sz).toArray:=by
   rw[h.1,← Array.foldl_toList,Array.toList_zipIdx];exact this
  have ia:=ih;simp only[List.flatten_cons] at *;rw[← dz,← ia]
  congr 1
theorem ct {t el z sz a1 m parts fY ty ps af g}(E:Fr a n l)(hw:Region.wanted ⟨some d,.buildSlice t m (List.toArray parts),ty,ps,af,g⟩ (yielded ops a.tmps)=true)(I:U W w L)(ht:P.underlying t=some (.slice el))
   (hi:TI P el z sz a1) (hz:z.cells.size=sz) (hf:okB d n l=true) [s9:uU l parts 0 fY] (hm:fY.length=m) (hc:(fY.all λc=>c.length==sz)=true) (h24:m*sz≤16777216) (h0:0<m*sz)
   (h:∀ b a' w',Fr a' n ((d,.slice (some ⟨b,0,none⟩) m m)::l)→U W w' (aa b el fY.flatten::L)→Old w w'→K a' w') :
   cK P ops Q ⟨some d,.buildSlice t m (List.toArray parts),ty,ps,af,g⟩ K a w:=by
 obtain⟨vs,e1,e2⟩:=s9.h a n E;have jT:=Ej (sz:=sz) fY vs 0 [] ((List.range (m*sz)).map (λi=>z.cells[i%z.cells.size]!)) e2 (λc yE=>by simpa using all_eq_true.1 hc c yE) (by simp) (by simp[hm]);simp only[nil_append]at jT;refine bA (v:=.slice (some ⟨w.heap.size,0,none⟩) m m) (w':=w.alloc (.cells fY.flatten.toArray el)) E hw ?_ hf (λa' di=>h _ _ _ di (I.alloc _) (Old.alloc _ _));have Sd:¬ (16777216<m*sz):=by omega
 have Se:¬ (m*sz=0):=by omega
 have e3:(Array.range (m*sz)).map (λi=>z.cells[i%z.cells.size]!)=((List.range (m*sz)).map (λi=>z.cells[i%z.cells.size]!)).toArray:=by
  apply Array.ext';simp
 simp only[execOp,Sem.run_bind,Instr.buildSlice,eT ht,Result.andThen_ok,mL hi,List.map_toArray,e1,hm];simp only[hm]at jT;simp[Sd,uR hi,e3,jT,newRow,newObj,Sem.run,ag Se]
theorem mN {t z a1 x y b off k o' e sz m c cs v ty ps af g}(E:Fr a n l)(hw:Region.wanted ⟨none,.store t x y,ty,ps,af,g⟩ (yielded ops a.tmps)=true)(I:U W w L)
   (hi:TI P t z 1 a1) [ev:Ev l x (.pointer (some ⟨b,o',none⟩))] [uS:Ev l y v] [qF:Cells v [v]] [pk:fX L (some ⟨b,off,none⟩) m c e sz cs R] (h1:v.oneCell'=true) (ho:o'=off+k) (hk:k<cs.length)
   (h:∀ a' w',Fr a' n l→U W w' (Sl e sz (some ⟨b,off,none⟩) m c (cs.set k v)::R)→K a' w'):cK P ops Q ⟨none,.store t x y,ty,ps,af,g⟩ K a w:=by
 subst ho;have oL:=I.perm pk.perm;have qI:=oL.sl (some ⟨b,off,none⟩);have hc:0<c:=by
  rcases k8 c with h0 | h0
  ·have:m=0:=by omega
   subst this;rw[Nat.zero_mul]at qI;omega
  ·exact h0
 obtain⟨b2,pre,post,⟨cV,cc,a3,a4⟩,s2⟩:=oL.mh hc;cases a3;refine JL (cs:=pre++cs++post) (R:=R) E hw s2 hi h1 (by simp only[aM];omega) (λa' w' di g9=>h a' w' di ?_);have e1:(pre++cs++post).set (pre.length+k) v=pre++cs.set k v++post:=by
  rw[dz,wH _ _ (by omega),show pre.length+k-pre.length=k from by omega,uW _ _ hk,dz]
 rw[e1]at g9;exact U.jh g9 (by rw[bz];exact cV) cc a4
end
end
section
def ib (P:Program)(ops:Array Oper)(Q:Exit→Act→World→Prop)(C:World→Prop)(bk:List Nat):Nat→Array Bool→Act→World→Prop
 | 0,bG,a,w=>Region.ready .any ops bG=[]∧Q .normal a w
 | fuel+1,bG,a,w =>
  (Region.ready .any ops bG=[]→Q .normal a w) ∧
  ∀ i∈Region.ready .any ops bG,wpOp P ops Q i (λa' w'=>(bk.contains i=true→C w')∧ib P ops Q C bk fuel (bG.setIfInBounds i true) a' w') a w
def JW (acc:List Nat)(es:List Edge):Nat:=es.foldl (λs e=>if Region.binds .any e then s ||| 2 ^ e.on ||| acc.getD e.on 0 else s) 0
def ta:List Oper→List Nat→List Nat
 | [],acc=>acc
 | o::r,acc=>ta r (acc++[JW acc o.after.toList])
def JX (ops:Array Oper)(bG:Array Bool):Bool :=
 (List.range ops.size).all λj=>!bG.getD j false||match ops[j]? with
  | none=>true
  | some o=>o.after.all λe=>!Region.binds .any e||bG.getD e.on false
def DC (ops:Array Oper)(bG:Array Bool):Prop:=∀ j o,ops[j]?=some o→bG.getD j false=true→∀ e∈o.after,Region.binds .any e=true→bG.getD e.on false=true
def np (ops:Array Oper)(bG:Array Bool)(bk:List Nat)(pure:Bool)(i:Nat):Bool :=
 Region.noSelect ops&&JX ops bG&&(Region.ready .any ops bG).contains i&&match ops[i]? with
  | none=>false
  | some oi=>(List.range ops.size).all λj=>j==i||bG.getD j true||((ta ops.toList []).getD j 0).testBit i||match ops[j]? with
   | none=>true
   | some rK=>oi.apart ops rK&&(pure||bk.contains j)
def lb (n m:Nat):Array Bool:=((List.range n).map m.testBit).toArray
def lO (Q:Exit→Act→World→Prop):Prop:=∀ c a (o:Option Tmp) v w,Q (.panic c) (a.put o v) w→Q (.panic c) a w
theorem Sf {K Q}(h:lO Q):lO (Exit.then K Q):=h
theorem Sg {i Q}(h:lO Q):lO (Exit.inBlock i Q):=h
theorem Sh {P fn X}:lO (bodyPost P fn X):=λc a o v w h=>by
 cases o <;> exact h
section
variable {P:Program}{ops:Array Oper}{Q:Exit→Act→World→Prop}{C:World→Prop}{bk:List Nat}{a:Act}{w:World}{n d:Nat}{l:List (Nat×Value)}{v:Value}
theorem JY:∀ (fuel:Nat) (bG:Array Bool) (a:Act) (w:World),ib P ops Q C bk fuel bG a w→wpAny P .any ops Q fuel bG a w
 | 0,_,_,_,h=>h
 | fuel+1,_,_,_,h=>⟨h.1,λi hi=>wpOp_mono (λa' w' h'=>JY fuel _ a' w' h'.2) (h.2 i hi)⟩
theorem JZ {bG:Array Bool}(h:JX ops bG=true):DC ops bG:=by
 intro j o hj hl e he hb;have hlt:j<ops.size:=(rG.1 hj).1;have h1:=all_eq_true.1 h j (mem_range.2 hlt);simp only[hl,hj,Bool.not_true,Bool.false_or]at h1;have h2:=Array.all_eq_true_iff_forall_mem.1 h1 e he;simpa [hb] using h2
theorem DC.set {bG:Array Bool}(h:DC ops bG){i:Nat}(hi:i∈Region.ready .any ops bG):DC ops (bG.setIfInBounds i true):=by
 intro j o hj hl e he hb;obtain⟨_,oi,Si,iv⟩:=mem_ready.1 hi;by_cases gZ:j=i
 ·subst gZ;rw[Si]at hj;cases hj;exact getD_set_true (iv e he hb)
 ·rw[getD_set_ne false (Ne.symm gZ)]at hl;exact getD_set_true (h j o hj hl e he hb)
theorem J0 {acc:List Nat}{i:Nat}:∀ (es:List Edge) (s:Nat),(es.foldl (λs e=>if Region.binds .any e then s ||| 2 ^ e.on ||| acc.getD e.on 0 else s) s).testBit i=true →
   s.testBit i=true∨∃ e∈es,Region.binds .any e=true∧(e.on=i∨(acc.getD e.on 0).testBit i=true)
 | [],s,h=>.inl h
 | e::es,s,h=>by
  simp only[foldl_cons]at h;rcases J0 es _ h with h1 | ⟨x,hx,hb,hi⟩
  ·cases hb:Region.binds .any e with
   | false=>rw[hb]at h1;exact .inl (by simpa using h1)
   | true =>
    rw[hb,aj rfl]at h1;simp only[Nat.testBit_or,Bool.or_eq_true,Nat.testBit_two_pow,qK]at h1;rcases h1 with (h1 | h1) | h1
    ·exact .inl h1
    ·exact .inr ⟨e,iq,hb,.inl h1⟩
    ·exact .inr ⟨e,iq,hb,.inr h1⟩
  ·exact .inr ⟨x,gx _ hx,hb,hi⟩
theorem J1 {bG:Array Bool}(h:DC ops bG):∀ (r:List Oper) (acc:List Nat),(∀ j,r[j]?=ops[acc.length+j]?) →
   (∀ k,k<acc.length→(∀ o,ops[k]?=some o→∀ e∈o.after,Region.binds .any e=true→bG.getD e.on false=true)→∀ i,(acc.getD k 0).testBit i=true→bG.getD i false=true) →
   ∀ k,(∀ o,ops[k]?=some o→∀ e∈o.after,Region.binds .any e=true→bG.getD e.on false=true)→∀ i,((ta r acc).getD k 0).testBit i=true→bG.getD i false=true
 | [],acc,_,hinv,k,hk,i,hb=>by
  rcases gX k acc.length with hlt | nY
  ·exact hinv k hlt hk i hb
  ·simp[ta,br,iO nY]at hb
 | o::r,acc,hr,hinv,k,hk,i,hb=>by
  refine J1 h r (acc++[JW acc o.after.toList]) (λj=>?_) ?_ k hk i hb
  ·have:=hr (j+1);simp only[getElem?_cons_succ]at this;rw[this];congr 1;simp;omega
  ·intro k' e6 ch i' lP;simp only[aM,eV,length_nil]at e6;rcases gX k' acc.length with hlt | nY
   ·rw[br,mM hlt,← br]at lP;exact hinv k' hlt ch i' lP
   ·obtain rfl:k'=acc.length:=by omega
    rw[br,pJ (a7 _)]at lP;simp only[Nat.sub_self,List.getElem?_cons_zero,Option.getD_some]at lP;have ho:ops[acc.length]?=some o:=by have:=hr 0;simpa using this.symm
    rcases J0 _ _ lP with h1 | ⟨e,he,nZ,h1⟩
    ·simp at h1
    ·have hle:=ch o ho e (Array.mem_toList_iff.1 he) nZ;rcases h1 with h1 | h1
     ·rw[← h1];exact hle
     ·rcases gX e.on acc.length with hlt | Sj
      ·exact hinv e.on hlt (λo' kH e' Sk pL=>h e.on o' kH hle e' Sk pL) i' h1
      ·simp[br,iO Sj]at h1
theorem Sm {bG:Array Bool}(h:DC ops bG){i:Nat}(hi:bG.getD i false=false)(k:Nat)(hk:∀ o,ops[k]?=some o→∀ e∈o.after,Region.binds .any e=true→bG.getD e.on false=true) :
   ((ta ops.toList []).getD k 0).testBit i=false:=by
 cases hb:((ta ops.toList []).getD k 0).testBit i with
 | false=>rfl
 | true =>
  have:=J1 h ops.toList [] (λj=>by simp) (λk hk=>by simp at hk) k hk i hb;rw[hi]at this;cases this
theorem J2 {T:World→Prop}{i:Nat}{oi:Oper}(hi:ops[i]?=some oi)(I:Region.noSelect ops=true)(kI:lO Q) :
   ∀ (fuel:Nat) (bG:Array Bool) (a:Act) (w:World),
    (∀ j rK,ops[j]?=some rK→j≠i→bG.getD j true=false→((ta ops.toList []).getD j 0).testBit i=false→oi.apart ops rK=true∧∀ w',(bk.contains j=true→C w')→T w') →
    DC ops bG→i∈Region.ready .any ops bG→YieldsIf P ops T oi v a→T w→(∀ w',T w'→bk.contains i=true→C w') →
    ib P ops Q C bk fuel (bG.setIfInBounds i true) (a.put oi.dst v) w→ib P ops Q C bk (fuel+1) bG a w:=by
 have J3:=Region.noSelect_spec I;intro fuel
 induction fuel with
 | zero =>
  intro bG a w _ _ hr hy hT AY H;refine⟨λh=>(by rw[h]at hr;cases hr),λj hj=>?_⟩;by_cases gZ:j=i
  ·subst gZ;exact hy.wpOp hi hT ⟨AY w hT,H⟩
  ·have:=ready_mono hj gZ;rw[H.1]at this;cases this
 | succ fuel ih =>
  intro bG a w J4 wI hr hy hT AY H;refine⟨λh=>(by rw[h]at hr;cases hr),λj hj=>?_⟩;by_cases gZ:j=i
  ·subst gZ;exact hy.wpOp hi hT ⟨AY w hT,H⟩
  ·have h1:=H.2 j (ready_mono hj gZ);obtain⟨J5,rK,AZ,iv⟩:=mem_ready.1 hj;have Sp:bG.getD i false=false:=by
    have h0:=(mem_ready.1 hr).1;rcases gX i bG.size with h' | h'
    ·simp[h']at h0 ⊢;exact h0
    ·simp[Array.getElem?_eq_none h']
   have pM:=Sm wI Sp j (λo ho e he hb=>by rw[AZ]at ho;cases ho;exact iv e he hb);obtain⟨Ek,aS⟩:=J4 j rK AZ gZ J5 pM;have h2:=wpOp_putIf (S:=T) AZ Ek (λcs b=>J3 i oi cs b hi) (λcs b=>J3 j rK cs b AZ) (λc a w=>kI c a oi.dst v w) hy h1;have Sq:∀ k ok,ops[k]?=some ok→k≠i→(bG.setIfInBounds j true).getD k true=false→((ta ops.toList []).getD k 0).testBit i=false→oi.apart ops ok=true∧∀ w',(bk.contains k=true→C w')→T w':=λk ok hk J6 n0 bX=>by
    refine J4 k ok hk J6 ?_ bX;by_cases qL:j=k
    ·subst qL;exact J5
    ·rw[getD_set_ne true qL]at n0;exact n0
   refine wpOp_mono (λa' w' h3=>⟨h3.2.1,ih (bG.setIfInBounds j true) a' w' Sq (wI.set hj) (ready_mono hr (Ne.symm gZ)) h3.1 (aS w' h3.2.1) AY ?_⟩) h2;rw[Array.setIfInBounds_comm _ _ gZ];exact h3.2.2
theorem J7 {i fuel:Nat}{bG:Array Bool}{oi:Oper}(hi:ops[i]?=some oi)(ht:np ops bG bk true i=true)(hn:bk.contains i=false)(kI:lO Q)
   (hy:YieldsIf P ops (λ_=>True) oi v a)
   (h:ib P ops Q C bk fuel (bG.setIfInBounds i true) (a.put oi.dst v) w):ib P ops Q C bk (fuel+1) bG a w:=by
 simp only[np,hi,fK,all_eq_true,mem_range]at ht;obtain⟨⟨⟨h1,h2⟩,h3⟩,h4⟩:=ht;refine J2 (T:=λ_=>True) hi h1 kI fuel bG a w (λj rK hj bq n0 pM=>?_) (JZ h2) (by simpa using h3) hy trivial (λ_ _ h=>by rw[hn]at h;cases h) h;have h5:=h4 j (rG.1 hj).1;simp only[hj,pM,n0,Bool.or_eq_true,beq_iff_eq,bq,Bool.false_eq_true,fK,false_or,or_false]at h5;exact⟨h5.1,λ_ _=>trivial⟩
theorem J8 {i fuel:Nat}{bG:Array Bool}{oi:Oper}(hi:ops[i]?=some oi)(ht:np ops bG bk false i=true)(kI:lO Q)
   (hy:YieldsIf P ops C oi v a) (hC:C w)
   (h:ib P ops Q C bk fuel (bG.setIfInBounds i true) (a.put oi.dst v) w):ib P ops Q C bk (fuel+1) bG a w:=by
 simp only[np,hi,fK,all_eq_true,mem_range]at ht;obtain⟨⟨⟨h1,h2⟩,h3⟩,h4⟩:=ht;refine J2 (T:=C) hi h1 kI fuel bG a w (λj rK hj bq n0 pM=>?_) (JZ h2) (by simpa using h3) hy hC (λ_ h _=>h) h;have h5:=h4 j (rG.1 hj).1;simp only[hj,pM,n0,Bool.or_eq_true,beq_iff_eq,bq,Bool.false_eq_true,fK,false_or,or_false]at h5;exact⟨h5.1,λw' dj=>dj h5.2⟩
theorem J9 {i fuel:Nat}{bG nq:Array Bool}(hl:bG.setIfInBounds i true=nq) {op ty ps af g}(hi:ops[i]?=some ⟨some d,op,ty,ps,af,g⟩)(ht:np ops bG bk true i=true)(hn:bk.contains i=false)(kI:lO Q)
   (E:Fr a n l) (hw:Region.wanted ⟨some d,op,ty,ps,af,g⟩ (yielded ops a.tmps)=true) (hr:∀ w,(execOp a.eval ⟨some d,op,ty,ps,af,g⟩).run P w=.ok (.value v) w) (hf:okB d n l=true)
   (h:∀ a',Fr a' n ((d,v)::l)→ib P ops Q C bk fuel nq a' w):ib P ops Q C bk (fuel+1) bG a w:=by
 subst hl;exact J7 hi ht hn kI (.inl ⟨hw,λw _=>hr w⟩) (h _ (E.put hf v))
theorem Ka {i fuel:Nat}{bG nq:Array Bool}(hl:bG.setIfInBounds i true=nq) {op ty ps af g}(hi:ops[i]?=some ⟨some d,op,ty,ps,af,g⟩)(ht:np ops bG bk false i=true)(kI:lO Q)
   (E:Fr a n l) (hw:Region.wanted ⟨some d,op,ty,ps,af,g⟩ (yielded ops a.tmps)=true) (hr:∀ w,C w→(execOp a.eval ⟨some d,op,ty,ps,af,g⟩).run P w=.ok (.value v) w) (hC:C w) (hf:okB d n l=true)
   (h:∀ a',Fr a' n ((d,v)::l)→ib P ops Q C bk fuel nq a' w):ib P ops Q C bk (fuel+1) bG a w:=by
 subst hl;exact J8 hi ht kI (.inl ⟨hw,hr⟩) hC (h _ (E.put hf v))
theorem Sr {i fuel:Nat}{bG nq:Array Bool}(hl:bG.setIfInBounds i true=nq) {op ty ps af g}(hi:ops[i]?=some ⟨some d,op,ty,ps,af,g⟩)(ht:np ops bG bk true i=true)(hn:bk.contains i=false)(kI:lO Q)
   (E:Fr a n l) (hw:Region.wanted ⟨some d,op,ty,ps,af,g⟩ (yielded ops a.tmps)=false) (hf:okB d n l=true)
   (h:∀ a',Fr a' n ((d,undef)::l)→ib P ops Q C bk fuel nq a' w):ib P ops Q C bk (fuel+1) bG a w:=by
 subst hl;exact J7 hi ht hn kI (.inr ⟨hw,rfl⟩) (h _ (E.put hf undef))
theorem Ss {i fuel:Nat}{bG nq:Array Bool}(hl:bG.setIfInBounds i true=nq) {op ty ps af g}(hi:ops[i]?=some ⟨some d,op,ty,ps,af,g⟩)(ht:np ops bG bk false i=true)(kI:lO Q)
   (E:Fr a n l) (hw:Region.wanted ⟨some d,op,ty,ps,af,g⟩ (yielded ops a.tmps)=false) (hC:C w) (hf:okB d n l=true)
   (h:∀ a',Fr a' n ((d,undef)::l)→ib P ops Q C bk fuel nq a' w):ib P ops Q C bk (fuel+1) bG a w:=by
 subst hl;exact J8 hi ht kI (.inr ⟨hw,rfl⟩) hC (h _ (E.put hf undef))
theorem St {i fuel:Nat}{bG nq:Array Bool}(hl:bG.setIfInBounds i true=nq){o:Oper}(hr:Region.ready .any ops bG=[i])(hi:ops[i]?=some o)
   (h:cK P ops Q o (λa' w'=>(bk.contains i=true→C w')∧ib P ops Q C bk fuel nq a' w') a w):ib P ops Q C bk (fuel+1) bG a w:=by
 subst hl;refine⟨λh0=>(by rw[hr]at h0;cases h0),λj hj=>?_⟩;rw[hr]at hj;obtain rfl:j=i:=by simpa using hj
 simp only[wpOp,hi];exact h
theorem Su {bG:Array Bool}(hr:Region.ready .any ops bG=[])(h:Q .normal a w):∀ fuel,ib P ops Q C bk fuel bG a w
 | 0=>⟨hr,h⟩
 | _+1=>⟨λ_=>h,by rw[hr];simp⟩
theorem Sv {id m:Nat}{l0:Array Bool}(C:World→Prop)(bk:List Nat)(hm:P.follows .mixedOrders=true)(hn:ops.size=m)(hl:Array.replicate m false=l0)(kI:lO Q)(h:lO Q→ib P ops Q C bk m l0 a w.drew):(Code.region id ops true).wp P Q a w:=by
 subst hl;subst hn;exact wp_region_any hm (JY _ _ _ _ (h kI))
theorem Old.rd {w0 w:World}(h:Old w0 w){b off:Nat}{vs:List Value}(hc:Rd w0 b off vs):Rd w b off vs:=λj v hj=>h.cell (hc j v hj)
end
section
variable {P:Program}{ops:Array Oper}{Q:Exit→Act→World→Prop}{C:World→Prop}{bk:List Nat}{a:Act}{w:World}
theorem Sw {i j fuel:Nat}{bG li Kb:Array Bool}(wJ:bG.setIfInBounds i true=li)(Sy:bG.setIfInBounds j true=Kb){o o':Oper}(hr:Region.ready .any ops bG=[i,j])(hi:ops[i]?=some o)(hj:ops[j]?=some o')
   (h1:cK P ops Q o (λa' w'=>(bk.contains i=true→C w')∧ib P ops Q C bk fuel li a' w') a w) (h2:cK P ops Q o' (λa' w'=>(bk.contains j=true→C w')∧ib P ops Q C bk fuel Kb a' w') a w):ib P ops Q C bk (fuel+1) bG a w:=by
 subst wJ;subst Sy;refine⟨λh0=>(by rw[hr]at h0;cases h0),λk hk=>?_⟩;rw[hr]at hk;rcases List.mem_cons.1 hk with rfl | hk
 ·simp only[wpOp,hi];exact h1
 ·obtain rfl:=iP.1 hk;simp only[wpOp,hj];exact h2
end
end
section
class ep (P:Program)(t:TypeId)(kJ:outParam (List (Nat×Nat))):Prop where
 h:∃ fs,P.underlying t=some (.struct fs)∧∀ w,(fs.mapM (λf=>do pure (f.offset,← sizeOf f.type)):Sem (Array (Nat×Nat))).run P w=.ok kJ.toArray w
class wK (ps:List (Nat×Nat))(i:Nat)(off sz:outParam Nat):Prop where h:ps[i]?=some (off,sz)
instance wK.zero {off sz ps}:wK ((off,sz)::ps) 0 off sz:=⟨rfl⟩
instance wK.succ {p ps i off sz}[h:wK ps i off sz]:wK (p::ps) (i+1) off sz:=⟨by rw[getElem?_cons_succ];exact h.h⟩
class tc (cs:List Value)(off:Nat)(vs:List Value)(out:outParam (List Value)):Prop where h:off+vs.length≤cs.length→cH cs off vs=out
theorem Sz {cs vs:List Value}{off:Nat}{v:Value}(h:off+(vs.length+1)≤cs.length):cH cs off (v::vs)=cH (cs.set off v) (off+1) vs:=by
 have hl:(cs.take off).length=off:=by simp;omega
 simp only[cH,eV];rw[rH,aj (by omega)];have e1:(cs.take off++v::cs.drop (off+1)).take (off+1)=cs.take off++[v]:=by
  rw[uV,hl,gl (by omega),show off+1-off=1 from by omega];simp
 have e2:(cs.take off++v::cs.drop (off+1)).drop (off+1+vs.length)=cs.drop (off+(vs.length+1)):=by
  rw[List.drop_append,hl,List.drop_of_length_le (by rw[hl];omega),nil_append,show off+1+vs.length-off=vs.length+1 from by omega,List.drop_succ_cons,kF]
  congr 1;omega
 rw[e1,e2];simp
instance (priority:=low) tc.any {cs off vs}:tc cs off vs (cH cs off vs):=⟨λ_=>rfl⟩
instance tc.nil {cs off}:tc cs off [] cs:=⟨λ_=>by simp[cH]⟩
instance tc.cons {cs off v vs Kc out}[h1:qC cs off v Kc][h2:tc Kc (off+1) vs out]:tc cs off (v::vs) out:=⟨λh=>by
 simp only[eV]at h;rw[Sz h,h1.h];exact h2.h (by rw[← h1.h];simp;omega)⟩
theorem SB {cs vs:List Value}{off:Nat}(h:off+vs.length≤cs.length):(cH cs off vs).length=cs.length:=by simp[cH];omega
class mO (c:List Value)(n:Nat):Prop where h:c.length=n
instance mO.nil:mO [] 0:=⟨rfl⟩
instance mO.cons {x c n}[h:mO c n]:mO (x::c) (n+1):=⟨by simp[h.h]⟩
class uX (kJ:List (Nat×Nat))(zs:List Value)(l:List (Nat×Value))(parts:List (Nat×Operand))(out:outParam (List Value)):Prop where
 h:(∀ p∈kJ,p.1+p.2≤zs.length)→∀ a n,Fr a n l→Instr.fill (kJ.toArray[·]?) zs.toArray (parts.map λp=>(p.1,a.eval p.2))=some out.toArray
instance uX.nil {kJ zs l}:uX kJ zs l [] zs:=⟨λ_ _ _ _=>rfl⟩
instance uX.cons {kJ zs l i o ps off sz v c A4 out}[h1:wK kJ i off sz][h2:Ev l o v][h3:Cells v c][h4:mO c sz][h5:tc zs off c A4][h6:uX kJ A4 l ps out] :
   uX kJ zs l ((i,o)::ps) out:=⟨λhp a n E=>by
 have cI:=hp _ (bI h1.h);simp only at cI;have hl:=h4.h;have e1:=h5.h (by rw[hl];exact cI);have cW:A4.length=zs.length:=by rw[← e1];exact SB (by rw[hl];exact cI)
 have ih:=h6.h (by rw[cW];exact hp) a n E;simp only[map_cons,Instr.fill,h2.ev a n E];have hg:kJ.toArray[i]?=some (off,sz):=by rw[getElem?_toArray];exact h1.h
 simp only[hg];have iu:v.cells.size=sz:=by rw[h3.h];simpa using hl
 rw[ag (by simp[iu];omega)];have hf:=JV c 0 off zs (by rw[hl];omega);have e3:(v.cells.zipIdx.foldl (λ(cs:Array Value) (x:Value×Nat)=>cs.setIfInBounds (off+x.2) x.1) zs.toArray)=A4.toArray:=by
  rw[h3.h,← Array.foldl_toList,Array.toList_zipIdx,← e1];simpa [cH] using hf
 rw[← ih]
 congr 1⟩
section
variable {P:Program}{ops:Array Oper}{Q:Exit→Act→World→Prop}{a:Act}{w w' W:World}{K:Act→World→Prop}{n:Nat}{l:List (Nat×Value)}{v:Value}{L R:List SP}
theorem Kd {t kJ z zs sz a1 parts cs dst ty ps af g}(E:Fr a n l)(hb:ep P t kJ)(hi:TI P t z sz a1)[El:Cells z zs][SC:uX kJ zs l parts cs](hp:(kJ.all λp=>Nat.ble (p.1+p.2) zs.length)=true) :
   (execOp a.eval ⟨dst,.build t (List.toArray parts),ty,ps,af,g⟩).run P w=.ok (.value (.agg cs.toArray)) w:=by
 obtain⟨fs,hu,hm⟩:=hb.h;have hf:=SC.h (λp SD=>Nat.le_of_ble_eq_true (all_eq_true.1 hp p SD)) a n E;simp only[execOp,Sem.run_bind,Instr.build,uR hi,Result.andThen_ok,eT hu,hm,El.h];simp only[getElem?_toArray]at hf;simp[hf]
theorem oM {x i vs dst ty ps af g}(E:Fr a n l)[e:Ev l x (.tuple (List.toArray vs))](h:vs[i]?=some v):(execOp a.eval ⟨dst,.extract x i,ty,ps,af,g⟩).run P w=.ok (.value v) w:=by
 simp[execOp,e.ev a n E,Instr.extract,h]
theorem run_equalIn_bool {t:TypeId}(ht:P.underlying t=some .bool)(i j:Bool)(k:Nat):(Op.equalIn (k+1) t (.bool i) (.bool j)).run P w=.ok (i==j) w:=by
 simp[Op.equalIn,eT ht]
theorem run_equal_bool {t:TypeId}(ht:P.underlying t=some .bool)(i j:Bool):(Op.equal t (.bool i) (.bool j)).run P w=.ok (i==j) w:=run_equalIn_bool ht i j 9999
theorem run_eql_bool {t:TypeId}(ht:P.underlying t=some .bool)(i j:Bool):(binOp .eql t (.bool i) (.bool j)).run P w=.ok (.bool (i==j)) w:=by
 simp only[binOp];simp[run_equal_bool ht]
theorem run_neq_bool {t:TypeId}(ht:P.underlying t=some .bool)(i j:Bool):(binOp .neq t (.bool i) (.bool j)).run P w=.ok (.bool (i != j)) w:=by
 simp only[binOp];simp[run_equal_bool ht,bne]
theorem SE {x y i j t u dst ty ps af g}(E:Fr a n l)(ht:P.underlying t=some .bool)[e:Ev l x (.bool i)][f:Ev l y (.bool j)] :
   (execOp a.eval ⟨dst,.binOp .eql t x y u,ty,ps,af,g⟩).run P w=.ok (.value (.bool (i==j))) w:=by
 simp only[execOp,e.ev a n E,f.ev a n E,Sem.run_bind];simp[eqGuard,run_eql_bool ht]
theorem SF {x y i j t u dst ty ps af g}(E:Fr a n l)(ht:P.underlying t=some .bool)[e:Ev l x (.bool i)][f:Ev l y (.bool j)] :
   (execOp a.eval ⟨dst,.binOp .neq t x y u,ty,ps,af,g⟩).run P w=.ok (.value (.bool (i != j))) w:=by
 simp only[execOp,e.ev a n E,f.ev a n E,Sem.run_bind];simp[eqGuard,run_neq_bool ht]
theorem SG {x y k i j uY dst ty ps af g}(E:Fr a n l)[e:Ev l x (.int k i)][f:Ev l y (.int k j)] :
   (execOp a.eval ⟨dst,.call ⟨.builtin .min,#[x,y],uY⟩,ty,ps,af,g⟩).run P w=.ok (.value (.int k (min i j))) w:=by
 simp[execOp,resolve,e.ev a n E,f.ev a n E,invoke,builtin,Builtin.min_,Builtin.min2];rw[Int.min_def];split <;> split <;> omega
theorem SH {x y k i j uY dst ty ps af g}(E:Fr a n l)[e:Ev l x (.int k i)][f:Ev l y (.int k j)] :
   (execOp a.eval ⟨dst,.call ⟨.builtin .max,#[x,y],uY⟩,ty,ps,af,g⟩).run P w=.ok (.value (.int k (max i j))) w:=by
 simp[execOp,resolve,e.ev a n E,f.ev a n E,invoke,builtin,Builtin.max_,Builtin.max2];rw[Int.max_def];split <;> split <;> omega
theorem Ke {x t el z sz a1 b off m c e cs ty ps af g}(E:Fr a n l)(hw:Region.wanted ⟨none,.call ⟨.builtin .clear,#[x],#[t]⟩,ty,ps,af,g⟩ (yielded ops a.tmps)=true)(I:U W w L)
   (ht:P.underlying t=some (.slice el)) (hi:TI P el z sz a1) (hz:z.cells.size=sz) (h1:z.cells.toList.all (·.oneCell')=true) [ev:Ev l x (.slice (some ⟨b,off,none⟩) m c)] [k:fL L b e cs R] (hle:off+m*sz≤cs.length)
   (h:∀ a' w',Fr a' n l→U W w' (aa b e (cH cs off (Builtin.zeroCells z.cells m).toList)::R)→K a' w') :
   cK P ops Q ⟨none,.call ⟨.builtin .clear,#[x],#[t]⟩,ty,ps,af,g⟩ K a w:=by
 have g9:=I.j5 b;have jz:=yC (sz:=sz) e (z:=z) (a1:=a1) hz m;have fZ:∀ v∈(Builtin.zeroCells z.cells m).toList,v.oneCell'=true:=by
  intro v hv;simp only[Builtin.zeroCells,Array.toList_map,cX]at hv;obtain⟨i,wL,rfl⟩:=hv;have:i<m*z.cells.size:=by simpa using wL
  have qM : 0 < z.cells.size := by rcases k8 z.cells.size with h | h; · rw [h] at this; omega
                                   ·exact h
  have hlt:i%z.cells.size<z.cells.size:=Nat.mod_lt _ qM;rw[getElem!_pos z.cells _ hlt];exact all_eq_true.1 h1 _ (Array.mem_toList_iff.2 (Array.getElem_mem hlt))
 have aS:=run_storeCells_at (P:=P) b off e (Builtin.zeroCells z.cells m).toList 0 cs.toArray w g9.has.2 (by rw[jz];simpa using hle) fZ;by_cases hm:m=0
 ·subst hm;refine Ee (v:=.tuple #[]) (w':=w) E hw ?_ λa' di=>h a' w di ?_
  ·simp[execOp,resolve,ev.ev a n E,invoke,builtin,Builtin.clear_,eT ht]
  ·have:(Builtin.zeroCells z.cells 0).toList=[]:=hs (by rw[jz];simp);rw[this];simpa [cH] using g9
 ·refine Ee (v:=.tuple #[]) (w':=w.setRow b (cH cs off (Builtin.zeroCells z.cells m).toList).toArray) E hw ?_ λa' di=>h a' _ di g9.setRow;have:(storeCells ⟨b,off,none⟩ (Builtin.zeroCells z.cells m).toList).run P w=.ok () (w.setRow b (cH cs off (Builtin.zeroCells z.cells m).toList).toArray):=by
   simpa [cH] using aS
  obtain⟨m',rfl⟩:∃ m',m=m'+1:=⟨m-1,by omega⟩;simp[execOp,resolve,ev.ev a n E,invoke,builtin,Builtin.clear_,eT ht,uR hi,this]
end
end
section
def bc (bs:List UInt8):List Value:=bs.map λb=>.int .u8 b.toNat
theorem dA (bs:List UInt8):(bc bs).length=bs.length:=by simp[bc]
theorem ez (bs:List UInt8):∀ v∈bc bs,v.oneCell'=true:=by
 intro v hv;simp only[bc,cX]at hv;obtain⟨b,_,rfl⟩:=hv;rfl
section
variable {P:Program}{ops:Array Oper}{Q:Exit→Act→World→Prop}{a:Act}{w w' W:World}{K:Act→World→Prop}{n d:Nat}{l:List (Nat×Value)}{v:Value}{L R:List SP}
theorem SI {x y u z3 k k' yF i i' yG j j' n1 ad m c t el z sz a1 dst ty ps af g}(E:Fr a n l)(ht:P.underlying t=some (.slice el))(hi:TI P el z sz a1)[ev:Ev l x (.slice ad m c)][ha:Ev l y (.int k i)][uT:Ev l u (.int k' i')][Em:Ev l z3 (.int yF yG)]
   [nj:ey i j] [yD:ey i' j'] [En:ey yG n1] (h:j≤j') (h':j'≤n1) (SJ:n1≤c) :
   (execOp a.eval ⟨dst,.slice t x (some y) (some u) (some z3),ty,ps,af,g⟩).run P w=.ok (.value (.slice (fw ad j n1 sz) (j'-j) (n1-j))) w:=by
 have hj:=nj.h;subst hj;have lN:=yD.h;subst lN;have Eo:=En.h;subst Eo;have e1:=(qJ ht).1;have e2:=(qJ ht).2;have:=run_slice_lhm (P:=P) (w:=w) t ad m c e1 k k' yF (j:Int) (j':Int) (n1:Int) (by omega) (by omega) (by omega) (by omega);rw[e2,mL hi]at this;simp only[Result.andThen_ok,c9]at this;simp[execOp,ev.ev a n E,ha.ev a n E,uT.ev a n E,Em.ev a n E,run_sliceAt_slice (P:=P) (w:=w) t _ _ _ _ e1,this,sliced,fw]
theorem SL {x ad m c t el u dst ty ps af g}(E:Fr a n l)(ht:P.underlying t=some (.slice el))[e:Ev l x (.slice ad m c)] :
   (execOp a.eval ⟨dst,.binOp .eql t x (.const (.slice none 0 0)) u,ty,ps,af,g⟩).run P w=.ok (.value (.bool ad.isNone)) w:=by
 have hc:a.eval (.const (.slice none 0 0))=.slice none 0 0:=rfl;have:=Lib.run_eql_slice_nil (P:=P) w t el ad m c 0 0 ht;simp only[execOp,e.ev a n E,hc,Sem.run_bind];simp[eqGuard,this]
theorem SM {s x t z sz a1 b off el e k c b2 gY m c2 news ty ps af g}{cs:List Value}(E:Fr a n l)(hw:Region.wanted ⟨some d,.call ⟨.builtin .append,#[s,x],#[t,t]⟩,ty,ps,af,g⟩ (yielded ops a.tmps)=true)(I:U W w L)
   (ht:P.underlying t=some (.slice el)) (hi:TI P el z sz a1) (hf:okB d n l=true) [e1:Ev l s (.slice (some ⟨b,off,none⟩) k c)] [Ep:fL L b e cs R] [e2:Ev l x (.slice (some ⟨b2,gY,none⟩) m c2)]
   (hr:Rd w b2 gY news) (hl:news.length=m*sz) (h1:∀ v∈news,v.oneCell'=true) (nX:k+m≤c) (hle:off+k*sz+news.length≤cs.length)
   (h:∀ a' w',Fr a' n ((d,.slice (some ⟨b,off,none⟩) (k+m) c)::l)→U W w' (aa b e (cH cs (off+k*sz) news)::R)→K a' w') :
   cK P ops Q ⟨some d,.call ⟨.builtin .append,#[s,x],#[t,t]⟩,ty,ps,af,g⟩ K a w:=by
 obtain⟨i,lM,dI,k7,qH⟩:=info_parts hi.h;have g9:=I.j5 b;have oI:∀ j v,news[j]?=some v→w.cell? ((⟨b2,gY,none⟩:Addr).add j)=some v:=λj v hj=>by rw[k6];exact hr j v hj
 have jA:=run_firstCells_some (P:=P) w sz m ⟨b2,gY,none⟩ m c2 news hl oI;have aS:=run_storeCells_at (P:=P) b (off+k*sz) e news 0 cs.toArray w g9.has.2 (by simpa using hle) h1;have rJ:(storeCells ⟨b,off+k*sz,none⟩ news).run P w=.ok () (w.setRow b (cH cs (off+k*sz) news).toArray):=by simpa [cH] using aS
 refine bA (v:=.slice (some ⟨b,off,none⟩) (k+m) c) (w':=w.setRow b (cH cs (off+k*sz) news).toArray) E hw ?_ hf (λa' di=>h a' _ di g9.setRow);simp[execOp,resolve,e1.ev a n E,e2.ev a n E,invoke,builtin,Builtin.append_,eT ht,sizeOf,typeInfo,lM,k7,Builtin.lenOf,nX,k6,jA,rJ]
def aX (w:World)(ad:Option Addr)(m:Nat)(bs:List UInt8):Prop :=
 bs.length=m∧(ad=none→m=0)∧∀ x,ad=some x→0<m→∃ b off,x=⟨b,off,none⟩∧Rd w b off (bc bs)
theorem SN (bs:List UInt8):∀ r:List UInt8,(bs.map λb=>(b.toNat:Int)).foldl (λ(r:ByteArray) n=>r.push (UInt8.ofNat n.toNat)) ⟨r.toArray⟩=⟨(r++bs).toArray⟩:=by
 induction bs with
 | nil=>intro r;simp
 | cons b bs ih =>
  intro r;simp only[map_cons,foldl_cons];have:(ByteArray.mk r.toArray).push (UInt8.ofNat (b.toNat:Int).toNat)=ByteArray.mk (r++[b]).toArray:=by
   simp[ByteArray.push]
  rw[this,ih];simp
theorem lQ {x t u el ad m c bs dst ty ps af g}(E:Fr a n l)(ht:P.underlying t=some (.slice el))(hu:P.underlying el=some (.int .u8))(g9:P.underlying u=some .string)[ev:Ev l x (.slice ad m c)]
   (hr:aX w ad m bs):(execOp a.eval ⟨dst,.convert t u x,ty,ps,af,g⟩).run P w=.ok (.value (.string ⟨bs.toArray⟩)) w:=by
 have h0:=run_convert_bytes_string (P:=P) w t u el ad m c ht hu g9;obtain⟨h1,h2,h3⟩:=hr;have h4:(Conv.bytesToString (.slice ad m c)).run P w=.ok (.string ⟨bs.toArray⟩) w:=by
  cases ad with
  | none =>
   have:bs=[]:=hs (by rw[h1];exact h2 rfl);subst this;rfl
  | some x =>
   have hl:(loadCells x m).run P w=.ok ((bs.map λb=>(b.toNat:Int)).map (Value.int .u8)).toArray w:=by
    have:=run_loadCells_list (P:=P) w x ((bs.map λb=>(b.toNat:Int)).map (Value.int .u8)) (λj v hj=>by
     have hm:0<m:=by
      rcases k8 m with h | h
      ·rw[h]at h1;rw[hs h1]at hj;simp at hj
      ·exact h
     obtain⟨b,off,rfl,da⟩:=h3 x rfl hm;rw[k6];refine da j v ?_;simpa [bc] using hj)
    simpa [h1] using this
   have:=run_bytesToString (P:=P) w x m c _ hl;rw[this];have h5:=SN bs [];simp only[nil_append]at h5;exact dJ (λs=>Result.ok (Value.string s) w) h5
 simp[execOp,ev.ev a n E,h0,h4]
theorem td {x y i j t u dst ty ps af g}(E:Fr a n l)[e:Ev l x (.string i)][f:Ev l y (.string j)] :
   (execOp a.eval ⟨dst,.binOp .eql t x y u,ty,ps,af,g⟩).run P w=.ok (.value (.bool (i.data.toList==j.data.toList))) w:=by
 simp[execOp,e.ev a n E,f.ev a n E,eqGuard,binOp,Op.stringOp,ByteArray.toList_eq]
theorem SO (x y:UInt8):IntKind.u8.wrap ((x.toNat ^^^ y.toNat:Nat):Int)=((x ^^^ y).toNat:Int):=by
 rw[UInt8.toNat_xor];have h:=(x ^^^ y).toNat_lt;rw[UInt8.toNat_xor]at h;simp only[IntKind.wrap,IntKind.bits,IntKind.signed,Bool.false_and,Bool.false_eq_true,if_false];omega
theorem SQ {x y t u dst ty ps af g}{i j:UInt8}(E:Fr a n l)[e:Ev l x (.int .u8 (i.toNat:Int))][f:Ev l y (.int .u8 (j.toNat:Int))] :
   (execOp a.eval ⟨dst,.binOp .xor t x y u,ty,ps,af,g⟩).run P w=.ok (.value (.int .u8 ((i ^^^ j).toNat:Int))) w:=by
 rw[← SO];simp[execOp,e.ev a n E,f.ev a n E,eqGuard,binOp,Op.intBits];have h1:i.toNat%2 ^ IntKind.u8.bits=i.toNat:=k9 i.toNat_lt;have h2:j.toNat%2 ^ IntKind.u8.bits=j.toNat:=k9 j.toNat_lt;rw[h1,h2]
theorem uZ {t el z sz a1 ty ps af g}(E:Fr a n l)(hw:Region.wanted ⟨some d,.buildSlice t 0 #[],ty,ps,af,g⟩ (yielded ops a.tmps)=true)(I:U W w L)(ht:P.underlying t=some (.slice el))
   (hi:TI P el z sz a1) (hf:okB d n l=true)
   (h:∀ b a' w',Fr a' n ((d,.slice (some ⟨b,0,none⟩) 0 0)::l)→U W w' (Sl el sz (some ⟨b,0,none⟩) 0 0 []::L)→Old w w'→K a' w') :
   cK P ops Q ⟨some d,.buildSlice t 0 #[],ty,ps,af,g⟩ K a w:=by
 refine bA (v:=.slice (some ⟨w.heap.size,0,none⟩) 0 0) (w':=w.alloc (.cells #[] el)) E hw ?_ hf (λa' di=>h _ _ _ di ((I.alloc (.cells #[] el)).tail.bQ _ _ _) (Old.alloc _ _));simp[execOp,Sem.run_bind,Instr.buildSlice,eT ht,Result.andThen_ok,mL hi,Instr.fill,newRow,newObj,Sem.run];rw[show Array.range 0=#[] from Array.eq_empty_of_size_eq_zero (by simp)];simp
theorem Er {s x t z a1 e sz ad k c ad2 c2 ty ps af g}(E:Fr a n l)(hw:Region.wanted ⟨some d,.call ⟨.builtin .append,#[s,x],#[t,t]⟩,ty,ps,af,g⟩ (yielded ops a.tmps)=true)
   (ht:P.underlying t=some (.slice e)) (hi:TI P e z sz a1) (hf:okB d n l=true) [e1:Ev l s (.slice ad k c)] [e2:Ev l x (.slice ad2 0 c2)] (rL:k≤c)
   (h:∀ a',Fr a' n ((d,.slice ad k c)::l)→K a' w):cK P ops Q ⟨some d,.call ⟨.builtin .append,#[s,x],#[t,t]⟩,ty,ps,af,g⟩ K a w:=by
 obtain⟨i,lM,dI,k7,qH⟩:=info_parts hi.h;have jA:(Builtin.firstCells sz 0 (.slice ad2 0 c2)).run P w=.ok #[] w:=by
  cases ad2 with
  | none=>exact run_firstCells_none (P:=P) w sz 0 0 c2
  | some b=>exact run_firstCells_some (P:=P) w sz 0 b 0 c2 [] (by simp) (λj v hj=>by simp at hj)
 refine bA (v:=.slice ad k c) (w':=w) E hw ?_ hf h;cases ad <;> simp[execOp,resolve,e1.ev a n E,e2.ev a n E,invoke,builtin,Builtin.append_,eT ht,sizeOf,typeInfo,lM,k7,Builtin.lenOf,rL,jA,storeCells]
end
end
section
class yH (P:Program)(t:TypeId):Prop where h:∃ el,P.underlying t=some (.pointer el)
class Es (P:Program)(t:TypeId):Prop where h:∃ el,P.underlying t=some (.slice el)
class Et (P:Program)(t:TypeId):Prop where h:∃ ej,P.underlying t=some ej∧oH ej=true
class Eu (P:Program)(t:TypeId)(f:Nat)(k:outParam Nat):Prop where h:∃ fs jg z sz a1,P.underlying t=some (.struct fs)∧fs[f]?=some jg∧TI P jg.type z (sz+1) a1∧jg.offset=k
class Ex (P:Program)(l:List (Nat×Value))(op:Go.Op)(v:outParam Value):Prop where
 ex:∀ (a:Act) (n:Nat),Fr a n l→∀ (w:World) (dst ty ps af g),(execOp a.eval ⟨dst,op,ty,ps,af,g⟩).run P w=.ok (.value v) w
section
variable {P:Program}{l:List (Nat×Value)}{v v1 v2:Value}{x y c:Operand}{t u:TypeId}{k:IntKind}{i j:Int}{b:Bool}
instance Ex.move [Ev l x v]:Ex P l (.move x) v:=⟨λ_ _ E _ _ _ _ _ _=>Rr E⟩
instance Ex.assign [Ev l x v]:Ex P l (.assign x) v:=⟨λ_ _ E _ _ _ _ _ _=>Rs E⟩
instance Ex.nilCheck [Ev l x v] [AU v]:Ex P l (.nilCheck x) v:=⟨λ_ _ E _ _ _ _ _ _=>Rv E⟩
instance Ex.not [Ev l x (.bool b)]:Ex P l (.unOp .not t x) (.bool (!b)):=⟨λ_ _ E _ _ _ _ _ _=>RF E⟩
instance Ex.lss [Ev l x (.int k i)] [Ev l y (.int k j)]:Ex P l (.binOp .lss t x y u) (.bool (decide (i<j))):=⟨λ_ _ E _ _ _ _ _ _=>Rz E⟩
instance Ex.leq [Ev l x (.int k i)] [Ev l y (.int k j)]:Ex P l (.binOp .leq t x y u) (.bool (decide (i≤j))):=⟨λ_ _ E _ _ _ _ _ _=>RA E⟩
instance Ex.gtr [Ev l x (.int k i)] [Ev l y (.int k j)]:Ex P l (.binOp .gtr t x y u) (.bool (decide (j<i))):=⟨λ_ _ E _ _ _ _ _ _=>RB E⟩
instance Ex.geq [Ev l x (.int k i)] [Ev l y (.int k j)]:Ex P l (.binOp .geq t x y u) (.bool (decide (j≤i))):=⟨λ_ _ E _ _ _ _ _ _=>RC E⟩
instance Ex.eql [Ev l x (.int k i)] [Ev l y (.int k j)]:Ex P l (.binOp .eql t x y u) (.bool (decide (i=j))):=⟨λ_ _ E _ _ _ _ _ _=>RD E⟩
instance Ex.neq [Ev l x (.int k i)] [Ev l y (.int k j)]:Ex P l (.binOp .neq t x y u) (.bool (decide (i≠j))):=⟨λ_ _ E _ _ _ _ _ _=>RE E⟩
instance Ex.afl [yH P t] [Ev l x v] [uP v b]:Ex P l (.binOp .eql t x (.const (.pointer none)) u) (.bool b):=⟨λ_ _ E _ _ _ _ _ _=>(yH.h (P:=P) (t:=t)).elim λ_ h=>RG E h⟩
instance Ex.afm [yH P t] [Ev l x v] [uP v b]:Ex P l (.binOp .neq t x (.const (.pointer none)) u) (.bool (!b)):=⟨λ_ _ E _ _ _ _ _ _=>(yH.h (P:=P) (t:=t)).elim λ_ h=>RJ E h⟩
instance Ex.afn [Ev l x (.tuple #[v1,v2])]:Ex P l (.extract x 0) v1:=⟨λ_ _ E _ _ _ _ _ _=>oM E rfl⟩
instance Ex.afo [Ev l x (.tuple #[v1,v2])]:Ex P l (.extract x 1) v2:=⟨λ_ _ E _ _ _ _ _ _=>oM E rfl⟩
instance Ex.len {ad:Option Addr}{m c:Nat} [Es P t] [Ev l x (.slice ad m c)]:Ex P l (.call ⟨.builtin .len,#[x],#[t]⟩) (.int .i64 m):=⟨λ_ _ E _ _ _ _ _ _=>(Es.h (P:=P) (t:=t)).elim λ_ h=>RQ E h⟩
instance Ex.field {bb off f kk r:Nat} [Ev l x (.pointer (some ⟨bb,off,none⟩))] [Eu P t f kk] [s8 off kk r]:Ex P l (.fieldAddr t x f) (.pointer (some ⟨bb,r,none⟩)):=⟨λ_ _ E _ _ _ _ _ _=>by
 obtain⟨fs,jg,z,sz,a1,h1,h2,h3,h4⟩:=Eu.h (P:=P) (t:=t) (f:=f) (k:=kk);exact RM E h1 h2 h3 h4⟩
end
class BP (b:Bool)(p q:outParam Prop):Prop where
 t:b=true→p
 f:b=false→q
instance BP.lt {i j:Int}:BP (decide (i<j)) (i<j) (j≤i):=⟨pN,λh=>Int.not_lt.1 (of_decide_eq_false h)⟩
instance BP.le {i j:Int}:BP (decide (i≤j)) (i≤j) (j<i):=⟨pN,λh=>Int.not_le.1 (of_decide_eq_false h)⟩
instance BP.eq {i j:Int}:BP (decide (i=j)) (i=j) (¬ i=j):=⟨pN,of_decide_eq_false⟩
instance BP.ne {i j:Int}:BP (decide (i≠j)) (¬ i=j) (i=j):=⟨pN,λh=>Decidable.of_not_not (of_decide_eq_false h)⟩
instance BP.not {b:Bool}{p q:Prop}[h:BP b p q]:BP (!b) q p:=⟨λe=>h.f (by simpa using e),λe=>h.t (by simpa using e)⟩
instance (priority:=low) BP.dec {p:Prop} [Decidable p]:BP (decide p) p (¬ p):=⟨pN,of_decide_eq_false⟩
instance (priority:=10) BP.any {b:Bool}:BP b (b=true) (b=false):=⟨id,id⟩
section
variable {P:Program}{ops:Array Oper}{Q:Exit→Act→World→Prop}{a:Act}{w w':World}{K:Act→World→Prop}{o:Oper}{n d:Nat}{l l':List (Nat×Value)}{v:Value}{op:Go.Op}{ty:TypeId}{ps:String}{af:Array Edge}{rest:List Oper}
theorem S1 (E:Fr a n l)[e:Ex P l op v](h:∀ a',Fr a' n ((d,v)::l)→wpList P ops Q rest a' w)(hf:okB d n l=true:=by rfl):wpList P ops Q (⟨some d,op,ty,ps,af,none⟩::rest) a w :=
 Rm (bA E rfl (e.ex a n E w _ _ _ _ _) hf h)
theorem SK (h:cK P ops Q o (wpList P ops Q rest) a w):wpList P ops Q (o::rest) a w:=h
theorem SR (h:Q .normal a w):wpList P ops Q [] a w:=h
theorem TN {K:Act→World→Prop}(h:K a w):Exit.then K Q .normal a w:=h
theorem TR {K:Act→World→Prop}(h:Q .ret a w):Exit.then K Q .ret a w:=h
theorem TE {K:Act→World→Prop}{i:Nat}(h:Q (.exit i) a w):Exit.then K Q (.exit i) a w:=h
theorem SU {i:Nat}(h:Q .normal a w):Exit.inBlock i Q .normal a w:=h
theorem SV {i:Nat}(h:Q .ret a w):Exit.inBlock i Q .ret a w:=h
theorem Fr.by {s:Nat}{c:Bool} {l'}{p q:Prop}(E:Fr a n l)[k:fv l s (.bool c)][e:g8 l s l'][B:BP c p q]{G:Prop}
   (ht:p→Fr a n ((s,.bool true)::l')→G) (hf:q→Fr a n ((s,.bool false)::l')→G):G :=
 E.bool (s:=s) (λh=>ht (B.t h)) (λh=>hf (B.f h))
variable {C:World→Prop}{bk:List Nat}{i fuel m:Nat}{od:List Nat}
def gm (P:Program)(ops:Array Oper)(Q:Exit→Act→World→Prop)(C:World→Prop)(bk:List Nat)(_od:List Nat)(fuel m:Nat)(a:Act)(w:World):Prop:=ib P ops Q C bk fuel (lb ops.size m) a w
def mP (m i:Nat):Nat:=m ||| 2 ^ i
theorem qN (k m i:Nat):(lb k m).setIfInBounds i true=lb k (mP m i):=by
 apply Array.ext_getElem?;intro j;simp only[lb,List.setIfInBounds_toArray,getElem?_toArray,jB,bd,a8,length_range];by_cases hj:i=j
 ·subst hj;rw[aj rfl];by_cases hi:i<k
  ·rw[aj hi,getElem?_range hi];simp[mP]
  ·rw[ag hi,iO (by simpa using hi)];rfl
 ·rw[ag hj];by_cases hk:j<k
  ·rw[getElem?_range hk];simp[mP,Nat.testBit_two_pow,hj]
  ·rw[iO (by simpa using hk)];rfl
theorem Ew {id m:Nat}(C:World→Prop)(bk od:List Nat)(hm:P.follows .mixedOrders=true)(kI:lO Q)(h:lO Q→gm P ops Q C bk od m 0 a w.drew)(hn:ops.size=m:=by kernel_rfl):(Code.region id ops true).wp P Q a w:=by
 subst hn;refine Sv (m:=ops.size) (l0:=lb ops.size 0) C bk hm rfl ?_ kI h;apply Array.ext_getElem?;intro j;simp only[lb,Nat.zero_testBit,getElem?_toArray,bd,Array.getElem?_replicate];by_cases hj:j<ops.size
 ·rw[aj hj,getElem?_range hj];simp
 ·rw[ag hj,iO (by simpa using hj)];rfl
theorem SW (hi:ops[i]?=some o)(h:cK P ops Q o (λa' w'=>(bk.contains i=true→C w')∧gm P ops Q C bk od fuel (mP m i) a' w') a w)(hr:Region.ready .any ops (lb ops.size m)=[i]:=by kernel_rfl):gm P ops Q C bk (i::od) (fuel+1) m a w :=
 St (qN _ _ _) hr hi h
theorem SY {j:Nat}{o':Oper}(SZ S4:List Nat)(hr:Region.ready .any ops (lb ops.size m)=[i,j])(hi:ops[i]?=some o)(hj:ops[j]?=some o')
   (h1:cK P ops Q o (λa' w'=>(bk.contains i=true→C w')∧gm P ops Q C bk SZ fuel (mP m i) a' w') a w) (h2:cK P ops Q o' (λa' w'=>(bk.contains j=true→C w')∧gm P ops Q C bk S4 fuel (mP m j) a' w') a w):gm P ops Q C bk od (fuel+1) m a w :=
 Sw (qN _ _ _) (qN _ _ _) hr hi hj h1 h2
theorem S5 (h:Q .normal a w)(hr:Region.ready .any ops (lb ops.size m)=[]:=by kernel_rfl):gm P ops Q C bk [] fuel m a w:=Su hr h fuel
end
end
end Go.Proofs.YteoldcfapaiobaaGreat
