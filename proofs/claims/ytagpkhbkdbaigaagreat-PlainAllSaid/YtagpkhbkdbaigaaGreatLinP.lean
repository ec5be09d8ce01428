/- Plain side of lines of presses, of guesses: what is put, the front, the joint presses, weights, the first value, chains. -/
import Derived.Test.YtagpkhbkdbaigaaGreatPktP
namespace Go.Proofs.YtagpkhbkdbaigaaGreat
open Go.RowKit
set_option linter.unusedVariables false
set_option linter.unusedSimpArgs false
set_option maxRecDepth 10000
/-! Lines. -/
def putLn (l : List UInt8) (f : Nat) (b : List UInt8) : List UInt8:=if l.length < f then l else l++(b.drop (l.length - f)).take (1000 - l.length)
theorem putLn_len {l : List UInt8} {f : Nat} {b : List UInt8} (h : l.length≤1000) : l.length≤(putLn l f b).length∧(putLn l f b).length≤1000:=by
 unfold putLn
 split
 · omega
 · rw [List.length_append,List.length_take]; omega
theorem putLn_add {l b : List UInt8} {f i : Nat} (hf : f≤l.length) (hi : i < b.length) (h1 : l.length - f≤i) (h2 : l.length+(i - (l.length - f)) < 1000) :
   l++(b.drop (l.length - f)).take (i+1 - (l.length - f))=(l++(b.drop (l.length - f)).take (i - (l.length - f)))++[b[i]]:=by
 rw [show i+1 - (l.length - f)=(i - (l.length - f))+1 from by omega,List.append_assoc]
 congr 1
 rw [List.take_succ_eq_append_getElem (by rw [List.length_drop]; omega)]
 congr 2
 rw [List.getElem_drop]
 congr 1
 omega
def frontN (ls : List (List UInt8)) : Nat→Nat
 | 0=>(ls.headD []).length
 | i+1=>min (frontN ls i) (ls.getD i []).length
def frontL (ls : List (List UInt8)) : Nat:=frontN ls ls.length
theorem frontN_one (ls : List (List UInt8)) : frontN ls 1=frontN ls 0:=by
 rw [frontN,frontN]
 cases ls <;> simp [frontN]
theorem frontN_le {ls : List (List UInt8)} : ∀ {i j : Nat},j < i→frontN ls i≤(ls.getD j []).length
 | 0,_,h=>absurd h (by omega)
 | i+1,j,h=>by
   rw [frontN]
   by_cases hj : j=i
   · subst hj; exact Nat.min_le_right _ _
   · exact Nat.le_trans (Nat.min_le_left _ _) (frontN_le (by omega))
theorem frontL_le {ls : List (List UInt8)} {l : List UInt8} (h : l∈ls) : frontL ls≤l.length:=by
 obtain ⟨i,hi,rfl⟩:=List.getElem_of_mem h
 have:=frontN_le (ls:=ls) (i:=ls.length) hi
 rwa [List.getD_eq_getElem?_getD,List.getElem?_eq_getElem hi] at this
theorem frontN_some (ls : List (List UInt8)) : ∀ i,i≤ls.length→ls≠[]→∃ l∈ls,frontN ls i=l.length
 | 0,_,h=>by
   cases ls with
   | nil=>exact absurd rfl h
   | cons a r=>exact ⟨a,by simp,rfl⟩
 | i+1,hi,h=>by
   obtain ⟨l,hl,e⟩:=frontN_some ls i (by omega) h
   rw [frontN]
   rcases Nat.le_total (frontN ls i) (ls.getD i []).length with h1 | h1
   · rw [Nat.min_eq_left h1]; exact ⟨l,hl,e⟩
   · rw [Nat.min_eq_right h1,List.getD_eq_getElem?_getD,List.getElem?_eq_getElem (by omega)]
     exact ⟨ls[i],List.getElem_mem _,rfl⟩
theorem frontL_some {ls : List (List UInt8)} (h : ls≠[]) : ∃ l∈ls,frontL ls=l.length:=frontN_some ls _ (Nat.le_refl _) h
theorem frontL_ge {ls : List (List UInt8)} {n : Nat} (h : ls≠[]) (hn : ∀ l∈ls,n≤l.length) : n≤frontL ls:=by
 obtain ⟨l,hl,e⟩:=frontL_some h
 rw [e]; exact hn l hl
def jointN (ls : List (List UInt8)) (f i : Nat) : List UInt8:=(ls.take i).map (·.getD f 0)
def jointL (ls : List (List UInt8)) (f : Nat) : List UInt8:=ls.map (·.getD f 0)
theorem jointN_all (ls : List (List UInt8)) (f : Nat) : jointN ls f ls.length=jointL ls f:=by rw [jointN,List.take_length,jointL]
theorem jointN_succ {ls : List (List UInt8)} {f i : Nat} (h : i < ls.length) : jointN ls f (i+1)=jointN ls f i++[ls[i].getD f 0]:=by
 rw [jointN,List.take_succ_eq_append_getElem h,List.map_append]; rfl
theorem jointN_len {ls : List (List UInt8)} {f i : Nat} (h : i≤ls.length) : (jointN ls f i).length=i:=by
 rw [jointN,List.length_map,List.length_take]; omega
theorem jointL_len (ls : List (List UInt8)) (f : Nat) : (jointL ls f).length=ls.length:=by rw [jointL,List.length_map]
/-! Guesses. -/
structure Gs where
 kind : Int
 order : Int
 table : List UInt8
def mayGs (b : Gs) : Prop:=(b.kind=1∧b.order=0∧b.table.length=0)∨(b.kind=2∧0≤b.order∧b.order≤3∧b.table.length=0)∨(b.kind=3∧b.order=0∧1≤b.table.length∧b.table.length≤1000)
instance (b : Gs) : Decidable (mayGs b):=inferInstanceAs (Decidable (_∨_))
def endsB (o : Nat) (past : List UInt8) (i : Nat) : Bool:=(past.drop (i - o)).take o == past.drop (past.length - o)
def wtN (o : Nat) (past : List UInt8) : Nat→Nat→Int
 | 0=>fun _=>0
 | i+1=>if o≤i∧endsB o past i=true then upd (wtN o past i) (past.getD i 0).toNat (wtN o past i (past.getD i 0).toNat+1) else wtN o past i
theorem wtN_low {o : Nat} {past : List UInt8} : ∀ {i : Nat},i≤o→wtN o past i=fun _=>0
 | 0,_=>rfl
 | i+1,h=>by rw [wtN,if_neg (by omega),wtN_low (by omega)]
theorem wtN_bd (o : Nat) (past : List UInt8) : ∀ (i v : Nat),0≤wtN o past i v∧wtN o past i v≤i
 | 0,v=>⟨Int.le_refl _,Int.le_refl _⟩
 | i+1,v=>by
   have h:=wtN_bd o past i v
   have h2:=wtN_bd o past i (past.getD i 0).toNat
   rw [wtN]
   split
   · unfold upd
     split <;> omega
   · omega
def wtL (b : Gs) (past : List UInt8) : Nat→Int:=if b.kind=2 then wtN b.order.toNat past past.length else fun _=>0
def lastB (past : List UInt8) : UInt8:=past.getLastD 0
def bestN (w : Nat→Int) (last : Nat) : Nat→Nat
 | 0=>last
 | i+1=>if w (bestN w last i) < w i then i else bestN w last i
theorem bestN_lt {w : Nat→Int} {last : Nat} (hl : last < 256) : ∀ {i : Nat},i≤256→bestN w last i < 256
 | 0,_=>hl
 | i+1,h=>by
   rw [bestN]
   split
   · omega
   · exact bestN_lt hl (by omega)
theorem bestN_last {w : Nat→Int} {last : Nat} : ∀ {i : Nat},(∀ v,v < i→w v≤w last)→bestN w last i=last
 | 0,_=>rfl
 | i+1,h=>by
   have ih:=bestN_last (i:=i) fun v hv=>h v (by omega)
   rw [bestN,ih,if_neg]
   have:=h i (by omega)
   omega
theorem bestN_of {w : Nat→Int} {last x : Nat} (h0 : w last < w x) (h1 : ∀ v,v < x→w v < w x) : ∀ {i : Nat},(∀ v,v < i→w v≤w x)→(i≤x→w (bestN w last i) < w x)∧(x < i→bestN w last i=x)
 | 0,_=>⟨fun _=>h0,fun h=>absurd h (by omega)⟩
 | i+1,h=>by
   have ih:=bestN_of h0 h1 (i:=i) fun v hv=>h v (by omega)
   rw [bestN]
   refine ⟨fun hi=>?_,fun hi=>?_⟩
   · have:=ih.1 (by omega)
     have:=h1 i (by omega)
     split <;> assumption
   · by_cases hx : x=i
     · subst hx
       rw [if_pos (ih.1 (by omega))]
     · rw [ih.2 (by omega),if_neg]
       have:=h i (by omega)
       omega
def firstB (b : Gs) (past : List UInt8) : UInt8:=if b.kind=3 then b.table.getD (past.length % b.table.length) 0 else UInt8.ofNat (bestN (wtL b past) (lastB past).toNat 256)
def chainN (b : Gs) (past : List UInt8) : Nat→List UInt8
 | 0=>past
 | i+1=>chainN b past i++[firstB b (chainN b past i)]
theorem chainN_len (b : Gs) (past : List UInt8) : ∀ i,(chainN b past i).length=past.length+i
 | 0=>rfl
 | i+1=>by rw [chainN,List.length_append,chainN_len b past i]; rfl
theorem chainN_take (b : Gs) (past : List UInt8) : ∀ i,(chainN b past i).take past.length=past
 | 0=>List.take_length
 | i+1=>by
   rw [chainN,List.take_append_of_le_length (by rw [chainN_len]; omega),chainN_take b past i]
def chainB (b : Gs) (past : List UInt8) (n : Nat) : List UInt8:=(chainN b past n).drop past.length
theorem chainB_len (b : Gs) (past : List UInt8) (n : Nat) : (chainB b past n).length=n:=by rw [chainB,List.length_drop,chainN_len]; omega
theorem chain_all (b : Gs) (past : List UInt8) (n : Nat) : past++chainB b past n=chainN b past n:=by
 conv=>lhs; lhs; rw [← chainN_take b past n]
 rw [chainB,List.take_append_drop]
theorem chainB_succ (b : Gs) (past : List UInt8) (n : Nat) : chainB b past (n+1)=chainB b past n++[firstB b (past++chainB b past n)]:=by
 rw [chain_all,chainB,chainN,List.drop_append_of_le_length (by rw [chainN_len]; omega)]; rfl
def fullB (b : Gs) (past : List UInt8) (to : Nat) : List UInt8:=chainN b past (to - past.length)
def fullL (b : Gs) (ls : List (List UInt8)) (to : Nat) : List (List UInt8):=ls.map fun l=>fullB b l to
theorem fullB_len (b : Gs) (past : List UInt8) (to : Nat) : to≤(fullB b past to).length:=by rw [fullB,chainN_len]; omega
def aheadL (b : Gs) (ls : List (List UInt8)) (to : Nat) : List (List UInt8):=(List.range (to - frontL ls)).map fun i=>jointL (fullL b ls to) (frontL ls+i)
theorem aheadL_len (b : Gs) (ls : List (List UInt8)) (to : Nat) : (aheadL b ls to).length=to - frontL ls:=by simp [aheadL]
end Go.Proofs.YtagpkhbkdbaigaaGreat
