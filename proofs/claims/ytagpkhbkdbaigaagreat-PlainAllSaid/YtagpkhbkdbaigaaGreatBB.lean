/- Lists of bytes: read, owned, copied, compared. -/
import Derived.Test.YtagpkhbkdbaigaaGreatTy
import Derived.Test.YtagpkhbkdbaigaaGreatRow
namespace Go.Proofs.YtagpkhbkdbaigaaGreat
open Go.RowKit
set_option linter.unusedVariables false
set_option linter.unusedSimpArgs false
set_option maxRecDepth 10000
set_option synthInstance.maxSize 4000
set_option synthInstance.maxHeartbeats 400000
theorem St.rdB {W w : World} {L R : List SP} {n c e : Nat} {cs : List Value} (hs : St W w L) (ad : Option Addr) (bs : List UInt8) [k : PickSl L ad n c e 1 cs R] (h : cs=bc bs) (hn : bs.length=n) : RdB w ad n bs:=by
 subst h
 refine ⟨hn,fun e=>?_,fun x hx hp=>?_⟩
 · rcases Nat.eq_zero_or_pos n with h0 | h0
   · exact h0
   · obtain ⟨b,off,e2,_⟩:=hs.slRd ad h0
     rw [e] at e2; cases e2
 · obtain ⟨b,off,e2,hr⟩:=hs.slRd ad hp
   exact ⟨b,off,by rw [hx] at e2; cases e2; rfl,hr⟩
theorem RdB.nil {w : World} {ad : Option Addr} : RdB w ad 0 []:=⟨rfl,fun _=>rfl,fun _ _ h=>absurd h (by decide)⟩
theorem RdB.old {W w : World} {L : List SP} {ad : Option Addr} {m : Nat} {bs : List UInt8} (h : RdB W ad m bs) (hs : St W w L) : RdB w ad m bs:=by
 refine ⟨h.1,h.2.1,fun x hx h0=>?_⟩
 obtain ⟨b,off,rfl,hr⟩:=h.2.2 x hx h0
 refine ⟨b,off,rfl,fun j v hj=>?_⟩
 have h1:=hr j v hj
 rw [hs.old (a:=⟨b,off+j,none⟩) (World.block_lt_of_cell? _ _ h1)]
 exact h1
theorem cutAd_zero (ad : Option Addr) (c sz : Nat) : cutAd ad 0 c sz=ad:=by
 unfold cutAd
 split
 · rfl
 · cases ad with
   | none=>rfl
   | some a=>simp [Addr.add]
def RdBB (w : World) (ad : Option Addr) (m : Nat) (p : List (List UInt8)) : Prop :=
 p.length=m∧(0 < m→∃ b off,ad=some ⟨b,off,none⟩∧∀ j bs,p[j]?=some bs→∃ ad' c',w.cell? ⟨b,off+j,none⟩=some (.slice ad' bs.length c')∧RdB w ad' bs.length bs)
theorem RdBB.nil {w : World} {ad : Option Addr} : RdBB w ad 0 []:=⟨rfl,fun h=>absurd h (by decide)⟩
theorem RdBB.take {w : World} {ad : Option Addr} {m n : Nat} {p : List (List UInt8)} (h : RdBB w ad m p) (hn : n≤m) : RdBB w ad n (p.take n):=by
 refine ⟨by rw [List.length_take,h.1]; omega,fun h0=>?_⟩
 obtain ⟨b,off,h1,h2⟩:=h.2 (by omega)
 refine ⟨b,off,h1,fun j bs hj=>?_⟩
 rw [List.getElem?_take] at hj
 by_cases hjn : j < n
 · rw [if_pos hjn] at hj; exact h2 j bs hj
 · rw [if_neg hjn] at hj; cases hj
theorem RdBB.old {W w : World} {L : List SP} {ad : Option Addr} {m : Nat} {p : List (List UInt8)} (h : RdBB W ad m p) (hs : St W w L) : RdBB w ad m p:=by
 refine ⟨h.1,fun h0=>?_⟩
 obtain ⟨b,off,h1,h2⟩:=h.2 h0
 refine ⟨b,off,h1,fun j bs hj=>?_⟩
 obtain ⟨ad',c',h3,h4⟩:=h2 j bs hj
 exact ⟨ad',c',by rw [hs.old (a:=⟨b,off+j,none⟩) (World.block_lt_of_cell? _ _ h3)]; exact h3,h4.old hs⟩
abbrev BBx:=Option Addr × Nat × List UInt8
def bbv (x : BBx) : Value:=.slice x.1 x.2.2.length x.2.1
def bbo (x : BBx) : SP:=Sl 5 1 x.1 x.2.2.length x.2.1 (bc x.2.2)
def OwnBB (ad : Option Addr) (n c : Nat) (p : List (List UInt8)) : SP:=fun h=>∃ xs : List BBx,(xs.map (·.2.2)=p∧p.length=n)∧sepL [Sl 22 1 ad n c (xs.map bbv),All bbo xs] h
section
variable {W w : World} {L L' R : List SP} {ad : Option Addr} {n c : Nat} {p : List (List UInt8)} {xs : List BBx}
theorem OwnBB.open (hs : St W w (OwnBB ad n c p::L)) : ∃ xs : List BBx,xs.map (·.2.2)=p∧p.length=n∧St W w (Sl 22 1 ad n c (xs.map bbv)::All bbo xs::L):=by
 obtain ⟨xs,⟨h1,h2⟩,h3⟩:=hs.exi (ι:=List BBx) (p:=fun xs=>xs.map (·.2.2)=p∧p.length=n) (B:=fun xs h=>sepL [Sl 22 1 ad n c (xs.map bbv),All bbo xs] h) (fun h ⟨xs,h1,h2⟩=>⟨xs,h1,h2⟩)
 exact ⟨xs,h1,h2,h3.open fun _ h=>h⟩
theorem OwnBB.close (hs : St W w L) [k : Arr L (Sl 22 1 ad n c (xs.map bbv)::All bbo xs::L') R] (h1 : xs.map (·.2.2)=p) (h2 : p.length=n) : St W w (OwnBB ad n c p::L') :=
 St.shut (M:=[_,_]) (hs.sub (M:=Sl 22 1 ad n c (xs.map bbv)::All bbo xs::L')) (fun _ x=>⟨xs,⟨h1,h2⟩,x⟩)
theorem OwnBB.le (hs : St W w (OwnBB ad n c p::L)) : p.length=n∧n≤c:=by
 obtain ⟨xs,h1,h2,h3⟩:=OwnBB.open hs
 exact ⟨h2,(h3.sl ad).2⟩
theorem OwnBB.nil (hs : St W w L) : St W w (OwnBB none 0 0 []::L):=by
 have h : St W w (Sl 22 1 none 0 0 (([] : List BBx).map bbv)::All bbo []::L):=(hs.allNil (f:=bbo)).sl0 22 1 none
 exact OwnBB.close (xs:=[]) h rfl rfl
theorem OwnBB.rd (hs : St W w (OwnBB ad n c p::L)) : RdBB w ad n p:=by
 obtain ⟨xs,h1,h2,h3⟩:=OwnBB.open hs
 refine ⟨h2,fun h0=>?_⟩
 obtain ⟨b,off,rfl,hr⟩:=h3.slRd ad h0
 refine ⟨b,off,rfl,fun j bs hj=>?_⟩
 rw [← h1,List.getElem?_map] at hj
 obtain ⟨x,hx,rfl⟩:=Option.map_eq_some_iff.1 hj
 obtain ⟨hxl,hxe⟩:=List.getElem?_eq_some_iff.1 hx
 refine ⟨x.1,x.2.1,hr j _ (by rw [List.getElem?_map,hx]; rfl),?_⟩
 have h4:=(h3.perm (List.Perm.swap _ _ _)).allOut hxl
 rw [hxe] at h4
 have h5 : St W w (Sl 5 1 x.1 x.2.2.length x.2.1 (bc x.2.2)::_):=h4
 exact h5.rdB x.1 x.2.2 rfl rfl
theorem bytes_clone {bs : List UInt8} {m : Nat} (hs : St W w L) (hr : ∀ w',St W w' L→RdB w' ad m bs) (hb : m≤1099511627776) :
   Calls Tryz.prog 35 #[.slice ad m c] w fun e w'=>∃ ad' c',e=.returned (.slice ad' m c')∧St W w' (Sl 5 1 ad' m c' (bc bs)::L):=by
 obtain ⟨h1,h2,h3⟩:=hr _ hs
 cases ad with
 | none =>
   obtain rfl:=h2 rfl
   obtain rfl : bs=[]:=List.eq_nil_of_length_eq_zero h1
   refine calls_enter Tryz.func35 rfl Tryz.ntmps35 (Nat.le_of_ble_eq_true rfl) ?_
   intro a ha
   replace ha : Fr a 8 [(0,_)]:=ha
   refine WS<|WR ?_
   refine S1 ha fun a ha=>?_
   refine LN<|TN<|WS<|WS<|WR ?_
   refine S1 ha fun a ha=>?_
   refine SK (st_set ha rfl (ex_eqnilS ha Tryz.underlying22) rfl fun a ha=>?_)
   refine LN<|TN<|WTr ha<|WS<|WR ?_
   refine S1d ha fun a ha=>?_
   refine LN<|TN<|wp_ret<|TR ?_
   refine ret1 ha rfl ?_
   exact ⟨_,_,rfl,hs.sl0 _ _ _⟩
 | some a =>
   rcases Nat.eq_zero_or_pos m with h0 | h0
   · subst h0
     obtain rfl : bs=[]:=List.eq_nil_of_length_eq_zero h1
     refine calls_enter Tryz.func35 rfl Tryz.ntmps35 (Nat.le_of_ble_eq_true rfl) ?_
     intro a ha
     replace ha : Fr a 8 [(0,_)]:=ha
     refine WS<|WR ?_
     refine S1 ha fun a ha=>?_
     refine LN<|TN<|WS<|WS<|WR ?_
     refine S1 ha fun a ha=>?_
     refine SK (st_set ha rfl (ex_eqnilS ha Tryz.underlying22) rfl fun a ha=>?_)
     refine LN<|TN<|WFa ha<|WK<|TN<|WS<|WR ?_
     refine SK (st_buildSlice0 ha rfl hs Tryz.underlying22 Ty.t5 rfl fun b5 a w ha hs ho=>?_)
     clear ho
     refine S1 ha fun a ha=>?_
     refine SK (st_append0 ha rfl Tryz.underlying22 Ty.t5 rfl (Nat.le_refl _) fun a ha=>?_)
     refine S1d ha fun a ha=>?_
     refine LN<|TN<|wp_ret ?_
     refine ret1 ha rfl ?_
     exact ⟨_,_,rfl,hs⟩
   · obtain ⟨b,off,rfl,_⟩:=h3 a rfl h0
     refine calls_enter Tryz.func35 rfl Tryz.ntmps35 (Nat.le_of_ble_eq_true rfl) ?_
     intro a ha
     replace ha : Fr a 8 [(0,_)]:=ha
     refine WS<|WR ?_
     refine S1 ha fun a ha=>?_
     refine LN<|TN<|WS<|WS<|WR ?_
     refine S1 ha fun a ha=>?_
     refine SK (st_set ha rfl (ex_eqnilS ha Tryz.underlying22) rfl fun a ha=>?_)
     refine LN<|TN<|WFa ha<|WK<|TN<|WS<|WR ?_
     refine SK (st_buildSlice0 ha rfl hs Tryz.underlying22 Ty.t5 rfl fun b5 a w ha hs ho=>?_)
     clear ho
     refine S1 ha fun a ha=>?_
     obtain ⟨b',off',hx,hrd⟩:=(hr _ hs.tail).2.2 _ rfl h0
     cases hx
     refine SK (st_append ha rfl hs Tryz.underlying22 Ty.t5 rfl rfl hrd (by rw [bc_len,h1,Nat.mul_one]) (bc_one bs) h0 (by decide) (by omega) fun ad7 c7 a w ha hs=>?_)
     rw [Nat.zero_add] at ha hs
     refine S1d ha fun a ha=>?_
     refine LN<|TN<|wp_ret ?_
     refine ret1 ha rfl ?_
     exact ⟨_,_,rfl,hs⟩
theorem str_beq (a b : List UInt8) : ((⟨a.toArray⟩ : ByteArray).data.toList == (⟨b.toArray⟩ : ByteArray).data.toList)=(a == b):=rfl
theorem bytes_equal {a b : List UInt8} {ad2 : Option Addr} {m n c2 : Nat} (ha' : RdB w ad m a) (hb' : RdB w ad2 n b) :
   Calls Tryz.prog 132 #[.slice ad m c,.slice ad2 n c2] w fun e w'=>e=.returned (.bool (a == b))∧w'=w:=by
 have hs:=St.start w
 refine calls_enter Tryz.func132 rfl Tryz.ntmps132 (Nat.le_of_ble_eq_true rfl) ?_
 intro a ha
 replace ha : Fr a 10 [(0,_),(1,_)]:=ha
 refine WS<|WR ?_
 refine S1 ha fun a ha=>?_
 refine LN<|TN<|WS<|WR ?_
 refine S1 ha fun a ha=>?_
 refine SK (st_set ha rfl (ex_toString ha Tryz.underlying22 Tryz.underlying5 Tryz.underlying9 (ha')) rfl fun a ha=>?_)
 refine S1 ha fun a ha=>?_
 refine SK (st_set ha rfl (ex_toString ha Tryz.underlying22 Tryz.underlying5 Tryz.underlying9 (hb')) rfl fun a ha=>?_)
 refine SK (st_set ha rfl (ex_eqlS ha) rfl fun a ha=>?_)
 refine S1d ha fun a ha=>?_
 refine LN<|TN<|wp_ret ?_
 refine ret1 ha rfl ?_
 exact ⟨by rw [str_beq],rfl⟩
def RdX (w : World) (ad : Option Addr) (xs : List BBx) : Prop:=(0 < xs.length→∃ b off,ad=some ⟨b,off,none⟩∧Rd w b off (xs.map bbv))∧∀ x∈xs,RdB w x.1 x.2.2.length x.2.2
theorem RdX.bb (h : RdX w ad xs) : RdBB w ad xs.length (xs.map (·.2.2)):=by
 refine ⟨by simp,fun h0=>?_⟩
 obtain ⟨b,off,h1,h2⟩:=h.1 h0
 refine ⟨b,off,h1,fun j bs hj=>?_⟩
 rw [List.getElem?_map] at hj
 obtain ⟨x,hx,rfl⟩:=Option.map_eq_some_iff.1 hj
 exact ⟨x.1,x.2.1,h2 j _ (by rw [List.getElem?_map,hx]; rfl),h.2 x (List.mem_of_getElem? hx)⟩
theorem RdBB.x {p : List (List UInt8)} {m : Nat} (h : RdBB w ad m p) : ∃ xs : List BBx,xs.map (·.2.2)=p∧xs.length=m∧RdX w ad xs:=by
 obtain ⟨h1,h2⟩:=h
 rcases Nat.eq_zero_or_pos m with h0 | h0
 · subst h0
   exact ⟨[],by simp [List.eq_nil_of_length_eq_zero h1],rfl,fun h=>absurd h (by decide),by simp⟩
 · obtain ⟨b,off,rfl,h3⟩:=h2 h0
   have aux : ∀ n,n≤p.length→∃ xs : List BBx,xs.map (·.2.2)=p.take n∧Rd w b off (xs.map bbv)∧∀ x∈xs,RdB w x.1 x.2.2.length x.2.2:=by
     intro n
     induction n with
     | zero=>exact fun _=>⟨[],rfl,fun j v hj=>by simp at hj,by simp⟩
     | succ n ih =>
       intro hn
       obtain ⟨xs,e1,e2,e3⟩:=ih (by omega)
       obtain ⟨a',c',e4,e5⟩:=h3 n p[n] (List.getElem?_eq_getElem (by omega))
       have hxl : xs.length=n:=by have:=congrArg List.length e1; simpa [List.length_take,Nat.min_eq_left (show n≤p.length by omega)] using this
       refine ⟨xs++[(a',c',p[n])],by rw [List.map_append,e1,List.take_succ_eq_append_getElem (by omega)]; rfl,fun j v hj=>?_,fun x hx=>?_⟩
       · rw [List.map_append] at hj
         rcases Nat.lt_or_ge j n with hjn | hjn
         · rw [List.getElem?_append_left (by simpa [hxl] using hjn)] at hj
           exact e2 j v hj
         · rw [List.getElem?_append_right (by simpa [hxl] using hjn)] at hj
           simp only [List.length_map,hxl,List.map_cons,List.map_nil] at hj
           obtain rfl : j=n:=by
             have:=(List.getElem?_eq_some_iff.1 hj).1
             simp at this; omega
           rw [Nat.sub_self] at hj
           simp only [List.getElem?_cons_zero,Option.some.injEq] at hj
           rw [← hj]; exact e4
       · rcases List.mem_append.1 hx with hx | hx
         · exact e3 x hx
         · simp at hx; subst hx; exact e5
   obtain ⟨xs,e1,e2,e3⟩:=aux p.length (Nat.le_refl _)
   rw [List.take_length] at e1
   exact ⟨xs,e1,by rw [← h1,← e1,List.length_map],fun _=>⟨b,off,rfl,e2⟩,e3⟩
theorem RdX.old {W w : World} {L : List SP} {ad : Option Addr} {xs : List BBx} (h : RdX W ad xs) (hs : St W w L) : RdX w ad xs:=by
 refine ⟨fun h0=>?_,fun x hx=>(h.2 x hx).old hs⟩
 obtain ⟨b,off,h1,h2⟩:=h.1 h0
 refine ⟨b,off,h1,fun j v hj=>?_⟩
 have h3:=h2 j v hj
 rw [hs.old (a:=⟨b,off+j,none⟩) (World.block_lt_of_cell? _ _ h3)]
 exact h3
theorem St.rdX {m : Nat} (hs : St W w (Sl 22 1 ad m c (xs.map bbv)::All bbo xs::L)) : RdX w ad xs:=by
 have hm : xs.length=m:=by have:=(hs.sl ad).1; simpa using this
 refine ⟨fun h0=>hs.slRd ad (by omega),fun x hx=>?_⟩
 obtain ⟨i,hi,rfl⟩:=List.mem_iff_getElem.1 hx
 have h4:=(hs.perm (List.Perm.swap _ _ _)).allOut hi
 have h5 : St W w (Sl 5 1 xs[i].1 xs[i].2.2.length xs[i].2.1 (bc xs[i].2.2)::_):=h4
 exact h5.rdB xs[i].1 xs[i].2.2 rfl rfl
end
end Go.Proofs.YtagpkhbkdbaigaaGreat
