/- What the laws of branch begin with; no tree; how many there may be. -/
import Derived.Test.YtneafbkhaooelaaGreatBranch2
import Derived.Test.YtneafbkhaooelaaGreatSnapL
import Derived.Test.YtneafbkhaooelaaGreatEq
import Derived.Test.YtneafbkhaooelaaGreatArg
namespace Go.Proofs.YtneafbkhaooelaaGreat
open Go.RowKit
set_option linter.unusedVariables false
set_option linter.unusedSimpArgs false
set_option maxRecDepth 10000
set_option synthInstance.maxSize 4000
set_option synthInstance.maxHeartbeats 400000

section
variable {W w : World} {L L' R : List SP} {tq sq q r n c k : Nat} {ad : Option Addr} {A : Sn} {T : Tr} {x y : Br} {xs : List Bx} {p : List (List UInt8)}
theorem rdb_blk {e : Nat} {cs : List Value} {bs : List UInt8} (hs : St W w L) (b : Nat) [kk : Blk L b e cs R] (h : cs = bc bs) (hn : bs.length = n) : RdB w (some ⟨b, 0, none⟩) n bs := by
  subst h
  exact ⟨hn, fun e => (by cases e), fun x hx _ => ⟨b, 0, by cases hx; rfl, hs.rdAll⟩⟩
theorem rdx1 {b1 b e1 e : Nat} {cs : List Value} {bs : List UInt8} {m : Nat} {R' : List SP} (hs : St W w L) [k1 : Blk L b1 e1 cs R] (h1 : cs = bc bs) [kk : Blk L b e [.slice (some ⟨b1, 0, none⟩) m c] R'] (hm : bs.length = m) : RdX w (some ⟨b, 0, none⟩) [(some ⟨b1, 0, none⟩, c, bs)] := by
  subst hm
  refine ⟨fun _ => ⟨b, 0, rfl, hs.rdAll⟩, fun x hx => ?_⟩
  simp at hx; subst hx
  exact rdb_blk hs b1 h1 rfl
theorem rdx2 {b1 b2 b e1 e2 e c2 : Nat} {cs cs2 : List Value} {bs bs2 : List UInt8} {m m2 : Nat} {R' R2 : List SP} (hs : St W w L) [k1 : Blk L b1 e1 cs R] (h1 : cs = bc bs) [k2 : Blk L b2 e2 cs2 R2] (h2 : cs2 = bc bs2) [kk : Blk L b e [.slice (some ⟨b1, 0, none⟩) m c, .slice (some ⟨b2, 0, none⟩) m2 c2] R'] (hm : bs.length = m) (hm2 : bs2.length = m2) :
    RdX w (some ⟨b, 0, none⟩) [(some ⟨b1, 0, none⟩, c, bs), (some ⟨b2, 0, none⟩, c2, bs2)] := by
  subst hm hm2
  refine ⟨fun _ => ⟨b, 0, rfl, hs.rdAll⟩, fun x hx => ?_⟩
  simp at hx
  rcases hx with rfl | rfl
  · exact rdb_blk hs b1 h1 rfl
  · exact rdb_blk hs b2 h2 rfl
theorem prune_nil {frm : Int} {ad2 : Option Addr} {m c2 : Nat} (hs : St W w L) : Calls Tryz.prog 19 #[.pointer none, .int .i64 frm, .slice ad2 m c2] w fun e w' => e = .returned (.int .i64 0) ∧ St W w' L := by
  refine calls_enter Tryz.func19 rfl Tryz.ntmps19 (Nat.le_of_ble_eq_true rfl) ?_
  intro a ha
  replace ha : Fr a 10 [(0, _), (1, _), (2, _)] := ha
  refine WS <| WR ?_
  refine SK (st_box ha rfl hs rfl ?_); clear ha hs a; (try clear w); intro b4 a w ha hs ho
  clear ho
  refine SK (st_box ha rfl hs rfl ?_); clear ha hs a; (try clear w); intro b5 a w ha hs ho
  clear ho
  refine S1 ha ?_; clear ha a; intro a ha
  refine LN <| TN <| WS <| WR ?_
  refine S1 ha ?_; clear ha a; intro a ha
  refine SK (st_set ha rfl (ex_makeFunc ha) rfl ?_); clear ha a; intro a ha
  refine SK (st_call ha rfl Ty.c44 rfl (drop_nil hs) ?_); clear ha hs
  rintro e w ⟨rfl, hs⟩
  refine ⟨_, rfl, ?_⟩
  intro a ha
  refine S1d ha ?_; clear ha a; intro a ha
  refine LN <| TN <| wp_ret ?_
  refine ret1 ha rfl ?_
  exact ⟨rfl, hs.sub⟩

end
end Go.Proofs.YtneafbkhaooelaaGreat

