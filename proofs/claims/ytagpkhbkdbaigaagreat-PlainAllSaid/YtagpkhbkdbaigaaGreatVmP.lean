/- Programs and frames, plainly: runes of a title, which programs may run, what an operation does. -/
import Derived.Test.YtagpkhbkdbaigaaGreatStr
namespace Go.Proofs.YtagpkhbkdbaigaaGreat
open Go.RowKit
set_option linter.unusedVariables false
set_option linter.unusedSimpArgs false
set_option maxRecDepth 10000
/-! Runes. -/
theorem decode_pos (s : ByteArray) (i : Nat) : 1≤(Utf8.decode s i).2∧(Utf8.decode s i).2≤4:=by
 simp only [Utf8.decode]
 repeat' split
 all_goals simp
def wideN (r : Nat) : Nat:=if r < 0x80 then 1 else if r < 0x800 then 2 else if r < 0x10000 then 3 else 4
theorem getB (s : ByteArray) (i : Nat) : (s.get! i).toNat < 256:=(s.get! i).toNat_lt
theorem decode_wide (s : ByteArray) (i : Nat) : wideN (Utf8.decode s i).1=(Utf8.decode s i).2∨Utf8.decode s i=(0xFFFD,1):=by
 have h0:=getB s (i+0); have h1:=getB s (i+1); have h2:=getB s (i+2); have h3:=getB s (i+3)
 simp only [Utf8.decode,Utf8.runeError]
 repeat' split
 all_goals first | (right; rfl) | (left; simp_all [wideN]; done) | (left; simp_all [wideN]; (repeat' split) <;> omega)
theorem decode_in (s : ByteArray) (i : Nat) (h : i < s.size) : i+(Utf8.decode s i).2≤s.size:=by
 simp only [Utf8.decode,Utf8.runeError]
 repeat' split
 all_goals simp_all
 all_goals omega
theorem decode_lt (s : ByteArray) (i : Nat) : (Utf8.decode s i).1 < 1114112:=by
 have h0:=getB s (i+0); have h1:=getB s (i+1); have h2:=getB s (i+2); have h3:=getB s (i+3)
 simp only [Utf8.decode,Utf8.runeError]
 repeat' split
 all_goals simp_all [Utf8.valid]
 all_goals omega
def runesAt (s : ByteArray) (pos : Nat) : List (Nat × Nat):=if h : pos < s.size then Utf8.decode s pos::runesAt s (pos+(Utf8.decode s pos).2) else []
termination_by s.size - pos
decreasing_by have:=(decode_pos s pos).1; omega
theorem runesAt_in {s : ByteArray} {pos : Nat} (h : pos < s.size) : runesAt s pos=Utf8.decode s pos::runesAt s (adv s pos):=by
 rw [runesAt,dif_pos h,adv,if_pos h]
theorem runesAt_out {s : ByteArray} {pos : Nat} (h : ¬ pos < s.size) : runesAt s pos=[]:=by
 rw [runesAt,dif_neg h]
theorem runesAt_len (s : ByteArray) : ∀ n pos,s.size - pos≤n→(runesAt s pos).length≤n:=by
 intro n
 induction n with
 | zero=>intro pos h; rw [runesAt_out (by omega)]; simp
 | succ n ih =>
   intro pos h
   by_cases hp : pos < s.size
   · rw [runesAt_in hp,List.length_cons]
     have:=(decode_pos s pos).1
     have:=ih (adv s pos) (by rw [adv,if_pos hp]; omega)
     omega
   · rw [runesAt_out hp]; simp
theorem adv_le {s : ByteArray} {pos : Nat} (h : pos≤s.size) : adv s pos≤s.size:=by
 by_cases hp : pos < s.size
 · rw [adv,if_pos hp]; exact decode_in s pos hp
 · rw [adv,if_neg hp]; exact h
def ctlB (x : Nat × Nat) : Bool:=decide (32≤x.1) && decide (x.1≠127)
def goodB (x : Nat × Nat) : Bool:=!decide (x=(0xFFFD,1))
def tOk (s : ByteArray) : Bool:=decide (1≤(runesAt s 0).length) && decide ((runesAt s 0).length≤20) && (runesAt s 0).all ctlB && (runesAt s 0).all goodB
def runeI (s : ByteArray) (n : Int) : Int:=if 0≤n then (((runesAt s 0)[n.toNat]?).map (fun x=>(x.1 : Int))).getD 0 else 0
/-! Programs. -/
structure OpR where
 code : Int
 a : Int
 b : Int
 c : Int
structure Pr where
 title : ByteArray
 ops : List OpR
def opR (o : OpR) : List Value:=[.int .i64 o.code,.int .i64 o.a,.int .i64 o.b,.int .i64 o.c]
theorem opR_len (o : OpR) : (opR o).length=4:=rfl
theorem opR_one (o : OpR) : ∀ v∈opR o,v.oneCell'=true:=by
 intro v hv
 simp [opR] at hv
 rcases hv with rfl | rfl | rfl | rfl <;> rfl
def cellP (x : Int) : Prop:=0≤x∧x < 32
def i32P (x : Int) : Prop := -2147483648≤x∧x≤2147483647
def okOp (n : Int) (o : OpR) : Prop :=
 (o.code=0∧o.a=0∧o.b=0∧o.c=0)∨(o.code=1∧cellP o.a∧o.c=0)∨(o.code=9∧0≤o.a∧o.a≤n∧o.b=0∧o.c=0)∨(o.code=15∧cellP o.a∧o.b=0∧o.c=0) ∨
 (o.code=10∧cellP o.a∧0≤o.b∧o.b≤n∧o.c=0)∨((o.code=2∨(11≤o.code∧o.code≤14))∧cellP o.a∧cellP o.b∧o.c=0)∨(3≤o.code∧o.code≤8∧cellP o.a∧cellP o.b∧cellP o.c)
def i32O (o : OpR) : Prop:=i32P o.code∧i32P o.a∧i32P o.b∧i32P o.c
def formOk (p : Pr) : Prop:=tOk p.title=true∧1≤p.ops.length∧p.ops.length≤64∧∀ o∈p.ops,i32O o
def prOk (p : Pr) : Prop:=formOk p∧∀ o∈p.ops,okOp p.ops.length o
/-! A frame. -/
def w32 (x : Int) : Int:=IntKind.i32.wrap x
def mod32 (x : Int) : Nat:=(x.emod 32).toNat
theorem mod32_lt (x : Int) : mod32 x < 32:=by
 have h1:=Int.emod_nonneg x (show (32 : Int)≠0 by decide)
 have h2:=Int.emod_lt_of_pos x (show (0 : Int) < 32 by decide)
 show (x % 32).toNat < 32
 omega
def pressI (b : List UInt8) (x : Int) : Int:=if 0≤x∧x < b.length then ((b.getD x.toNat 0).toNat : Int) else 0
def sumI (k a b : Int) : Int:=if k=3 then w32 (a+b) else if k=4 then w32 (a - b) else if k=5 then w32 (a*b) else if k=6 then (if b=0 then 0 else w32 (a.tdiv b)) else if k=7 then (if a < b then 1 else 0) else if a=b then 1 else 0
def valI (p : Pr) (fr : Int) (b : List UInt8) (g : Nat→Int) (o : OpR) : Int :=
 if o.code=1 then w32 o.b else if o.code=2 then g o.b.toNat else if o.code=11 then pressI b (g o.b.toNat) else if o.code=12 then g (mod32 (g o.b.toNat)) else if o.code=14 then runeI p.title (g o.b.toNat) else if o.code=15 then w32 fr else sumI o.code (g o.b.toNat) (g o.c.toNat)
def oneI (p : Pr) (fr : Int) (b : List UInt8) (g : Nat→Int) (at' : Nat) (o : OpR) : (Nat→Int) × Nat × Bool :=
 if o.code=0 then (g,at'+1,false) else if o.code=9 then (g,o.a.toNat,true) else if o.code=10 then (g,if g o.a.toNat=0 then o.b.toNat else at'+1,true) else if o.code=13 then (upd g (mod32 (g o.a.toNat)) (g o.b.toNat),at'+1,true)
 else (upd g o.a.toNat (valI p fr b g o),at'+1,true)
def runI (p : Pr) (fr : Int) (b : List UInt8) : Nat→(Nat→Int)→Nat→(Nat→Int)
 | 0,g,_=>g
 | n+1,g,at'=>match p.ops[at']? with
   | none=>g
   | some o=>let r:=oneI p fr b g at' o
     if r.2.2 then runI p fr b n r.1 r.2.1 else r.1
def frameI (p : Pr) (fr : Int) (b : List UInt8) (g : Nat→Int) : Nat→Int:=runI p fr b 200 g 0
def foldI (p : Pr) (fr : Int) : (Nat→Int)→List (List UInt8)→(Nat→Int)
 | g,[]=>g
 | g,b::l=>foldI p (fr+1) (frameI p fr b g) l
theorem foldI_snoc (p : Pr) (b : List UInt8) : ∀ (l : List (List UInt8)) (fr : Int) (g : Nat→Int),foldI p fr g (l++[b])=frameI p (fr+l.length) b (foldI p fr g l)
 | [],fr,g=>by simp [foldI]
 | x::l,fr,g=>by
   rw [List.cons_append,foldI,foldI_snoc p b l,foldI,List.length_cons]
   congr 1; omega
def gOk (g : Nat→Int) : Prop:=∀ c,c < 32→i32P (g c)
theorem wrap32' {i : Int} (h1 : -2147483648≤i) (h2 : i≤2147483647) : IntKind.i32.wrap i=i:=IntWalk.i32_in _ ⟨h1,h2⟩
theorem w32_in (x : Int) : i32P (w32 x):=by
 simp only [w32,i32P,IntKind.wrap]
 split <;> simp_all [IntKind.signed,IntKind.bits] <;> omega
/-! What can be read behind a slice: what came in, or what is the call's own. -/
def Ro (W : World) (e sz : Nat) (ad : Option Addr) (n c : Nat) (cs : List Value) : SP:=fun h =>
 (cs.length=n*sz∧n≤c∧(0 < n→∃ b off,ad=some ⟨b,off,none⟩∧b < W.heap.size∧Rd W b off cs))∨Sl e sz ad n c cs h
class PickRo (L : List SP) (W : World) (ad : Option Addr) (n c e sz : outParam Nat) (cs : outParam (List Value)) (R : outParam (List SP)) : Prop where perm : L.Perm (Ro W e sz ad n c cs::R)
instance PickRo.head {L W ad n c e sz cs} : PickRo (Ro W e sz ad n c cs::L) W ad n c e sz cs L:=⟨List.Perm.refl _⟩
instance (priority:=low) PickRo.tail {A L W ad n c e sz cs R} [h : PickRo L W ad n c e sz cs R] : PickRo (A::L) W ad n c e sz cs (A::R) :=
 ⟨(List.Perm.cons A h.perm).trans (List.Perm.swap _ _ _)⟩
section
variable {W w : World} {L R : List SP} {e sz n c : Nat} {ad : Option Addr} {cs : List Value}
theorem St.ro (s : St W w L) (ad : Option Addr) [k : PickRo L W ad n c e sz cs R] : cs.length=n*sz∧n≤c:=(s.perm k.perm).tell fun _ h=>by
 rcases h with ⟨h1,h2,_⟩ | h
 · exact ⟨h1,h2⟩
 · exact ⟨h.1,h.2.1⟩
theorem St.roRd (s : St W w L) (ad : Option Addr) [k : PickRo L W ad n c e sz cs R] (h0 : 0 < n) : ∃ b off,ad=some ⟨b,off,none⟩∧Rd w b off cs:=by
 have s':=s.perm k.perm
 obtain ⟨bl,h,p,h1,h2,d,a,kk,x,q⟩:=s'
 rcases x with ⟨x1,x2,x3⟩ | x
 · obtain ⟨b,off,rfl,hb,hr⟩:=x3 h0
   exact ⟨b,off,rfl,fun j v hj=>(s.old (a:=⟨b,off+j,none⟩) hb).trans (hr j v hj)⟩
 · have s2 : St W w (Sl e sz ad n c cs::R):=⟨bl,h,p,h1,h2,d,a,kk,x,q⟩
   exact s2.slRd ad h0
theorem St.roOld (s : St W w L) (h1 : cs.length=n*sz) (h2 : n≤c) (h3 : 0 < n→∃ b off,ad=some ⟨b,off,none⟩∧b < W.heap.size∧Rd W b off cs) : St W w (Ro W e sz ad n c cs::L) :=
 ⟨s.below,let ⟨h,p,q⟩:=s.sat; ⟨h,p,fun _=>none,h,fun _=>.inl rfl,fun _ _ e=>(by cases e),Hp.Sub.refl _,.inl ⟨h1,h2,h3⟩,q⟩⟩
theorem St.roSl (s : St W w (Sl e sz ad n c cs::L)) : St W w (Ro W e sz ad n c cs::L):=s.imp fun _ ⟨h1,h2,d,a,b,x,q⟩=>⟨h1,h2,d,a,b,.inr x,q⟩
theorem St.roCut (s : St W w (Ro W e sz ad n c cs::L)) {m : Nat} (hm : m≤n) : St W w (Ro W e sz ad m c (cs.take (m*sz))::L):=by
 obtain ⟨bl,h,p,h1,h2,d,a,kk,x,q⟩:=s
 rcases x with ⟨x1,x2,x3⟩ | x
 · refine ⟨bl,h,p,h1,h2,d,a,kk,.inl ⟨?_,by omega,fun h0=>?_⟩,q⟩
   · rw [List.length_take,x1]; exact Nat.min_eq_left (Nat.mul_le_mul_right _ hm)
   · obtain ⟨b,off,rfl,hb,hr⟩:=x3 (by omega)
     refine ⟨b,off,rfl,hb,fun j v hj=>?_⟩
     rw [List.getElem?_take] at hj
     split at hj
     · exact hr j v hj
     · cases hj
 · have s2 : St W w (Sl e sz ad n c cs::L):=⟨bl,h,p,h1,h2,d,a,kk,x,q⟩
   have s3:=s2.slCut (lo:=0) (hi:=m) (Nat.zero_le _) hm
   rw [Nat.zero_mul,List.drop_zero,Nat.sub_zero,Nat.sub_zero] at s3
   have e1 : cutAd ad 0 c sz=ad:=by
     unfold cutAd
     split
     · rfl
     · cases ad with
       | none=>rfl
       | some a=>simp [Addr.add]
   rw [e1] at s3
   exact s3.roSl
end
theorem op_rd {w : World} {b off k : Nat} {ops : List OpR} {o : OpR} (hr : Rd w b off (rows opR ops)) (ho : ops[k]?=some o) : Rd w b (off+k*4) (opR o):=by
 obtain ⟨hi,he⟩:=List.getElem?_eq_some_iff.1 ho
 have:=hr.part (k*4) 4
 rw [rows_at opR_len ops k hi,he] at this
 exact this
end Go.Proofs.YtagpkhbkdbaigaaGreat
