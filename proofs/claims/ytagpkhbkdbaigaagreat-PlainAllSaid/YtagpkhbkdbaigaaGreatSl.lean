/- The heap logic: lists of assertions on separate parts of the memory that a call has made, and how they turn with the world. -/
import Derived.WalkKit
import Derived.Laws.CopyRow
namespace Go.Proofs.YtagpkhbkdbaigaaGreat
open Go.RowKit
set_option linter.unusedVariables false
set_option linter.unusedSimpArgs false
abbrev Hp:=Nat→Option Obj
abbrev SP:=Hp→Prop
def Hp.Sub (a b : Hp) : Prop:=∀ n o,a n=some o→b n=some o
def Hp.Dj (a b : Hp) : Prop:=∀ n,a n=none∨b n=none
def Hp.un (a b : Hp) : Hp:=fun n=>match a n with | some o=>some o | none=>b n
theorem Hp.Sub.refl (a : Hp) : Hp.Sub a a:=fun _ _ h=>h
theorem Hp.Sub.trans {a b c : Hp} (h : Hp.Sub a b) (k : Hp.Sub b c) : Hp.Sub a c:=fun n o e=>k n o (h n o e)
theorem Hp.un_left (a b : Hp) : Hp.Sub a (Hp.un a b):=fun n o h=>by simp [Hp.un,h]
theorem Hp.un_right {a b : Hp} (d : Hp.Dj a b) : Hp.Sub b (Hp.un a b):=fun n o h=>by
 rcases d n with e | e
 · simp [Hp.un,e,h]
 · rw [h] at e; cases e
theorem Hp.un_sub {a b c : Hp} (h : Hp.Sub a c) (k : Hp.Sub b c) : Hp.Sub (Hp.un a b) c:=fun n o e=>by
 cases ha : a n with
 | some x=>simp [Hp.un,ha] at e; subst e; exact h n _ ha
 | none=>simp [Hp.un,ha] at e; exact k n _ e
theorem Hp.Dj.symm {a b : Hp} (d : Hp.Dj a b) : Hp.Dj b a:=fun n=>(d n).symm
theorem Hp.Dj.mono {a b a' b' : Hp} (d : Hp.Dj a b) (h : Hp.Sub a' a) (k : Hp.Sub b' b) : Hp.Dj a' b':=fun n=>by
 rcases d n with e | e
 · left; cases ha : a' n with
   | none=>rfl
   | some x=>rw [h n _ ha] at e; cases e
 · right; cases hb : b' n with
   | none=>rfl
   | some x=>rw [k n _ hb] at e; cases e
theorem Hp.Dj.un_right {a b c : Hp} (d : Hp.Dj a b) (k : Hp.Dj a c) : Hp.Dj a (Hp.un b c):=fun n=>by
 rcases d n with e | e
 · exact .inl e
 · rcases k n with f | f
   · exact .inl f
   · right; simp [Hp.un,e,f]
def sepL : List SP→SP
 | [],_=>True
 | A::L,h=>∃ h1 h2,Hp.Dj h1 h2∧Hp.Sub h1 h∧Hp.Sub h2 h∧A h1∧sepL L h2
theorem sepL_sub : ∀ {L : List SP} {h h' : Hp},Hp.Sub h h'→sepL L h→sepL L h'
 | [],_,_,_,_=>trivial
 | _::_,_,_,s,⟨h1,h2,d,a,b,p,q⟩=>⟨h1,h2,d,a.trans s,b.trans s,p,q⟩
theorem sepL_swap {A B : SP} {L : List SP} {h : Hp} : sepL (A::B::L) h→sepL (B::A::L) h
 | ⟨h1,h2,d,a,b,p,k1,k2,e,f,g,q,r⟩ =>
   ⟨k1,Hp.un h1 k2,(d.mono (Hp.Sub.refl _) f).symm.un_right e,f.trans b,Hp.un_sub a (g.trans b),q,
     h1,k2,d.mono (Hp.Sub.refl _) g,Hp.un_left _ _,Hp.un_right (d.mono (Hp.Sub.refl _) g),p,r⟩
theorem sepL_cons {A : SP} {L L' : List SP} (k : ∀ h,sepL L h→sepL L' h) {h : Hp} : sepL (A::L) h→sepL (A::L') h
 | ⟨h1,h2,d,a,b,p,q⟩=>⟨h1,h2,d,a,b,p,k _ q⟩
theorem sepL_perm {L L' : List SP} (p : L.Perm L') : ∀ {h : Hp},sepL L h→sepL L' h:=by
 induction p with
 | nil=>exact fun h=>h
 | cons x _ ih=>exact fun h=>sepL_cons (fun _=>ih) h
 | swap x y l=>exact fun h=>sepL_swap h
 | trans _ _ ih1 ih2=>exact fun h=>ih2 (ih1 h)
theorem sepL_join : ∀ {M L : List SP} {h1 h2 h : Hp},Hp.Dj h1 h2→Hp.Sub h1 h→Hp.Sub h2 h→sepL M h1→sepL L h2→sepL (M++L) h
 | [],_,_,_,_,_,_,s,_,q=>sepL_sub s q
 | _::_,_,h1,h2,_,d,s,t,⟨k1,k2,e,f,g,p,r⟩,q =>
   ⟨k1,Hp.un k2 h2,e.un_right (d.mono f (Hp.Sub.refl _)),f.trans s,Hp.un_sub (g.trans s) t,p,
     sepL_join (d.mono g (Hp.Sub.refl _)) (Hp.un_left _ _) (Hp.un_right (d.mono g (Hp.Sub.refl _))) r q⟩
theorem sepL_split : ∀ {M L : List SP} {h : Hp},sepL (M++L) h→∃ h1 h2,Hp.Dj h1 h2∧Hp.Sub h1 h∧Hp.Sub h2 h∧sepL M h1∧sepL L h2
 | [],_,h,q=>⟨fun _=>none,h,fun _=>.inl rfl,fun _ _ e=>(by cases e),Hp.Sub.refl _,trivial,q⟩
 | _::M,L,h,⟨k1,k2,e,f,g,p,r⟩=>by
   obtain ⟨h1,h2,d,s,t,q,u⟩:=sepL_split (M:=M) (L:=L) r
   exact ⟨Hp.un k1 h1,h2,(Hp.Dj.un_right (d.symm) (e.symm.mono t (Hp.Sub.refl _)) |> fun x=>(by
     intro n
     rcases x n with y | y
     · exact .inr y
     · left
       simp only [Hp.un] at y ⊢
       cases hk : k1 n with
       | some z=>cases hh : h1 n with
         | some u=>simp [hh] at y
         | none=>simp [hh,hk] at y
       | none=>cases hh : h1 n with
         | some u=>simp [hh] at y
         | none=>rfl)),Hp.un_sub f (s.trans g),t.trans g,p |> fun p=>⟨k1,h1,e.mono (Hp.Sub.refl _) s,Hp.un_left _ _,Hp.un_right (e.mono (Hp.Sub.refl _) s),p,q⟩,u⟩
def pts (b : Nat) (o : Obj) : SP:=fun h=>h b=some o
def blk (b : Nat) (e : TypeId) (cs : List Value) : SP:=pts b (.cells cs.toArray e (0,0))
structure St (W w : World) (L : List SP) : Prop where
 below : Below W.heap.size W w
 sat : ∃ h : Hp,(∀ n o,h n=some o→W.heap.size≤n∧w.heap[n]?=some o)∧sepL L h
section
variable {W w : World} {L L' M : List SP}
theorem St.start (W : World) : St W W []:=⟨Below.refl _ _,fun _=>none,fun _ _ h=>(by cases h),trivial⟩
theorem St.imp (s : St W w L) (k : ∀ h,sepL L h→sepL L' h) : St W w L' :=
 let ⟨b,h,p,q⟩:=s; ⟨b,h,p,k h q⟩
theorem St.perm (s : St W w L) (p : L.Perm L') : St W w L':=s.imp fun _=>sepL_perm p
theorem St.nil (s : St W w L) : St W w []:=s.imp fun _ _=>trivial
theorem St.tail {A : SP} (s : St W w (A::L)) : St W w L:=s.imp fun _ ⟨_,_,_,_,b,_,q⟩=>sepL_sub b q
theorem St.drop (s : St W w (M++L)) : St W w L:=s.imp fun _ q=>let ⟨_,_,_,_,b,_,q⟩:=sepL_split q; sepL_sub b q
theorem St.open {A : SP} (s : St W w (A::L)) (k : ∀ h,A h→sepL M h) : St W w (M++L) :=
 s.imp fun _ ⟨_,_,d,a,b,p,q⟩=>sepL_join d a b (k _ p) q
theorem St.shut {A : SP} (s : St W w (M++L)) (k : ∀ h,sepL M h→A h) : St W w (A::L) :=
 s.imp fun _ q=>let ⟨h1,h2,d,a,b,p,q⟩:=sepL_split q; ⟨h1,h2,d,a,b,k _ p,q⟩
theorem St.tell {A : SP} {p : Prop} (s : St W w (A::L)) (k : ∀ h,A h→p) : p :=
 let ⟨_,_,_,_,_,_,_,_,x,_⟩:=s; k _ x
theorem St.exi {ι : Type} {A : SP} {p : ι→Prop} {B : ι→SP} (s : St W w (A::L)) (k : ∀ h,A h→∃ i,p i∧B i h) : ∃ i,p i∧St W w (B i::L):=by
 obtain ⟨b,h,q,h1,h2,d,x,y,z,r⟩:=s
 obtain ⟨i,hp,hB⟩:=k _ z
 exact ⟨i,hp,b,h,q,h1,h2,d,x,y,hB,r⟩
theorem St.drew (s : St W w L) : St W w.drew L:=⟨s.below.drew,s.sat⟩
theorem St.alloc (s : St W w L) (o : Obj) : St W (w.alloc o) (pts w.heap.size o::L):=by
 obtain ⟨b,h,p,q⟩:=s
 have hn : h w.heap.size=none:=by
   cases e : h w.heap.size with
   | none=>rfl
   | some x=>have:=(p _ _ e).2; simp at this
 refine ⟨b.alloc b.size o,fun n=>if n=w.heap.size then some o else h n,?_,fun n=>if n=w.heap.size then some o else none,h,?_,?_,?_,by simp [pts],q⟩
 · intro n x e
   by_cases hb : n=w.heap.size
   · simp [hb] at e; subst e; subst hb
     exact ⟨b.size,by show (w.heap.push o)[w.heap.size]?=_; simp⟩
   · simp [hb] at e
     refine ⟨(p _ _ e).1,?_⟩
     have:=(p _ _ e).2
     show (w.heap.push o)[n]?=_
     rw [Array.getElem?_push,if_neg hb]; exact this
 · intro n; by_cases hb : n=w.heap.size
   · right; rw [hb]; exact hn
   · left; simp [hb]
 · intro n x e; by_cases hb : n=w.heap.size <;> simp [hb] at e ⊢; exact e
 · intro n x e; by_cases hb : n=w.heap.size
   · rw [hb,hn] at e; cases e
   · simp [hb,e]
theorem St.has {b : Nat} {o : Obj} (s : St W w (pts b o::L)) : W.heap.size≤b∧w.heap[b]?=some o :=
 let ⟨_,_,p,_,_,_,a,_,x,_⟩:=s; p _ _ (a _ _ x)
theorem St.upd {b : Nat} {o o' : Obj} {w' : World} (s : St W w (pts b o::L)) (hos : w'.os=w.os) (ht : w'.tape=w.tape) (hout : w'.output=w.output)
   (hh : w'.heap=w.heap.setIfInBounds b o') : St W w' (pts b o'::L):=by
 have hb:=s.has
 obtain ⟨bl,h,p,h1,h2,d,a,k,x,q⟩:=s
 have hlt : b < w.heap.size:=by have:=(Array.getElem?_eq_some_iff.1 hb.2).1; exact this
 have h2b : h2 b = none := by rcases d b with e | e; · rw [x] at e; cases e
                              · exact e
 refine ⟨bl.trans ⟨hos,ht,hout,by rw [hh]; simp,fun n hn=>?_⟩,fun n=>if n=b then some o' else h n,?_,fun n=>if n=b then some o' else none,h2,?_,?_,?_,by simp [pts],q⟩
 · rw [hh,Array.getElem?_setIfInBounds,if_neg (by omega)]
 · intro n y e
   by_cases hn : n=b
   · simp [hn] at e; subst e; subst hn
     exact ⟨hb.1,by rw [hh,Array.getElem?_setIfInBounds]; simp [hlt]⟩
   · simp [hn] at e
     refine ⟨(p _ _ e).1,?_⟩
     rw [hh,Array.getElem?_setIfInBounds,if_neg (by omega)]; exact (p _ _ e).2
 · intro n; by_cases hn : n=b
   · right; rw [hn]; exact h2b
   · left; simp [hn]
 · intro n y e; by_cases hn : n=b <;> simp [hn] at e ⊢; exact e
 · intro n y e; by_cases hn : n=b
   · rw [hn,h2b] at e; cases e
   · simp [hn]; exact k _ _ e
theorem St.ne {b b' : Nat} {o o' : Obj} (s : St W w (pts b o::pts b' o'::L)) : b≠b':=by
 obtain ⟨_,h,p,h1,h2,d,a,k,x,k1,k2,e,f,g,y,q⟩:=s
 intro hb; subst hb
 rcases d b with z | z
 · rw [x] at z; cases z
 · rw [f _ _ y] at z; cases z
end
/-! Cells. -/
theorem St.cell {W w : World} {L : List SP} {b : Nat} {e : TypeId} {cs : List Value} (s : St W w (blk b e cs::L)) (i : Nat) :
   w.cell? ⟨b,i,none⟩=cs[i]?:=by
 have:=s.has.2
 simp [World.cell?,this]
theorem St.old {W w : World} {L : List SP} (s : St W w L) {a : Addr} (h : a.block < W.heap.size) : w.cell? a=W.cell? a:=s.below.cell h
def splice (cs : List Value) (off : Nat) (vs : List Value) : List Value:=cs.take off++vs++cs.drop (off+vs.length)
theorem St.setRow {W w : World} {L : List SP} {b : Nat} {e : TypeId} {cs cs' : List Value} (s : St W w (blk b e cs::L)) :
   St W (w.setRow b cs'.toArray) (blk b e cs'::L):=by
 have hb:=s.has.2
 refine s.upd (o':=.cells cs'.toArray e (0,0)) rfl rfl rfl ?_
 apply Array.ext_getElem?
 intro i
 simp only [World.setRow,Array.getElem?_modify,Array.getElem?_setIfInBounds]
 by_cases hi : b=i
 · subst hi
   rw [if_pos rfl,if_pos rfl,hb]
   have : b < w.heap.size:=(Array.getElem?_eq_some_iff.1 hb).1
   simp [this]
 · simp [hi]
structure Old (w0 w : World) : Prop where
 size : w0.heap.size≤w.heap.size
 same : ∀ k,k < w0.heap.size→w.heap[k]?=w0.heap[k]?
theorem Old.refl (w : World) : Old w w:=⟨Nat.le_refl _,fun _ _=>rfl⟩
theorem Old.cell {w0 w : World} (h : Old w0 w) {ad : Addr} {v : Value} (hc : w0.cell? ad=some v) : w.cell? ad=some v:=by
 rw [← hc]; exact World.cell?_of_block (h.same _ (World.block_lt_of_cell? _ _ hc))
theorem Old.trans {a b c : World} (h : Old a b) (k : Old b c) : Old a c:=⟨Nat.le_trans h.size k.size,fun n hn=>(k.same n (Nat.lt_of_lt_of_le hn h.size)).trans (h.same n hn)⟩
theorem Old.alloc (w : World) (o : Obj) : Old w (w.alloc o):=⟨by simp,fun k hk=>Below.heap_alloc _ _ _ hk⟩
end Go.Proofs.YtagpkhbkdbaigaaGreat
