/- Plain side of what a player knows: the document's P21 and P22. -/
import Derived.Test.YteoldcfapaiobaaGreatA12Pkt3
import Derived.Test.YteoldcfapaiobaaGreatA09Chk2
namespace Go.Proofs.YteoldcfapaiobaaGreat
open Go.RowKit
set_option linter.unusedVariables false
set_option linter.unusedSimpArgs false
set_option maxRecDepth 10000
set_option synthInstance.maxSize 4000
set_option synthInstance.maxHeartbeats 400000
section
structure Cf where
 n:Int
 me:Int
 id:Int
 delay:Int
 window:Int
 guess:Int
 order:Int
 branches:Int
 workers:Int
 room:Int
abbrev cfC (c:Cf):List Value:=[.int .i64 c.n,.int .i64 c.me,.int .i64 c.id,.int .i64 c.delay,.int .i64 c.window,.int .i64 c.guess,.int .i64 c.order,.int .i64 c.branches,.int .i64 c.workers,.int .i64 c.room]
def inI (n l h:Int):Prop:=l≤n∧n≤h
instance (n l h:Int):Decidable (inI n l h):=inferInstanceAs (Decidable (_∧_))
def mayCf (c:Cf):Prop:=(inI c.n 2 8∧inI c.me 0 (c.n-1)∧inI c.id 0 1099511627776)∧(inI c.delay 0 8∧inI c.window 1 16∧inI c.guess 1 3∧inI c.order 0 3) ∧
 (c.order=0∨c.guess=2)∧inI c.branches 0 8∧inI c.workers 0 4∧inI c.room 3 50
instance (c:Cf):Decidable (mayCf c):=inferInstanceAs (Decidable (_∧_))
structure Pe where
 has:Nat
 heard:Nat
 frame:Nat
 sum:Nat
 apart:Bool
structure Ks where
 n:Nat
 me:Nat
 delay:Nat
 window:Nat
 id:Int
 guess:Int
 order:Int
 branches:Int
 workers:Int
 room:Int
 ls:List (List UInt8)
 ps:List Pe
 mr:List Nat
 ev:List (Nat×Nat×Nat)
 now:Nat
 cl:Bool
def ksCf (k:Ks):Cf:=⟨k.n,k.me,k.id,k.delay,k.window,k.guess,k.order,k.branches,k.workers,k.room⟩
def pe0 (d:Nat):Pe:=⟨d,0,0,0,false⟩
def newK (c:Cf):Ks:=⟨c.n.toNat,c.me.toNat,c.delay.toNat,c.window.toNat,c.id,c.guess,c.order,c.branches,c.workers,c.room,
 List.replicate c.n.toNat (List.replicate c.delay.toNat 0),List.replicate c.n.toNat (pe0 c.delay.toNat),[],[],0,false⟩
def headK (k:Ks):Nat:=(k.ls.getD k.me []).length
def frontK (k:Ks):Nat:=frontL k.ls
def badP (mk:List Nat)(p:Pe):Prop:=p.apart=false∧1≤p.frame∧p.frame≤mk.length∧mk.getD (p.frame-1) 0≠p.sum
instance (mk:List Nat)(p:Pe):Decidable (badP mk p):=inferInstanceAs (Decidable (_∧_))
def peK (k:Ks)(i:Nat):Pe:=k.ps.getD i (pe0 0)
def hold1 (k:Ks)(i:Nat):Ks:=if badP k.mr (peK k i) then { k with ps:=k.ps.set i { peK k i with apart:=true },ev:=k.ev++[(3,i,(peK k i).frame)] } else k
def holdN (k:Ks):Nat→Ks
 | 0=>k
 | i+1=>hold1 (holdN k i) i
def holdK (k:Ks):Ks:=holdN k k.ps.length
def markK (k:Ks)(s:Nat):Ks:=holdK (if k.mr.length<1000 then { k with mr:=k.mr++[s] } else k)
def pressK (b:UInt8)(k:Ks):Int×Ks:=if k.cl=true then (6,k) else if 1000≤headK k then (4,k) else if k.window+frontK k≤headK k then (5,k) else (0,{ k with ls:=k.ls.set k.me (k.ls.getD k.me []++[b]) })
def hearP (now head:Nat)(p:Pk)(x:Pe):Pe :=
 let h:=if x.has<p.ack.toNat∧p.ack.toNat≤head then p.ack.toNat else x.has
 if 0<p.frame∧(x.frame:Int)≤p.frame then { x with heard:=now,has:=h,frame:=p.frame.toNat,sum:=p.sum } else { x with heard:=now,has:=h }
def hearK (k:Ks)(p:Pk):Ks :=
 if p.kind=2 then { k with ps:=k.ps.set p.from'.toNat { peK k p.from'.toNat with heard:=k.now },ev:=k.ev++[(1,p.from'.toNat,0)],cl:=true }
 else holdK { k with ls:=k.ls.set p.from'.toNat (putLn (k.ls.getD p.from'.toNat []) p.first.toNat p.press),ps:=k.ps.set p.from'.toNat (hearP k.now (headK k) p (peK k p.from'.toNat)) }
noncomputable def recvK (bs:List UInt8)(k:Ks):Int×Ks:=if k.cl=true then (6,k) else match decO bs with
 | none=>(1,k)
 | some p=>if p.to≠k.me∨(k.n:Int)≤p.from'∨p.id≠k.id then (1,k) else (0,hearK k p)
def mailPk (k:Ks)(i:Nat):Pk:=⟨1,k.me,i,k.id,(peK k i).has,(k.ls.getD i []).length,k.mr.length,k.mr.getLastD 0,((k.ls.getD k.me []).drop (peK k i).has).take 32⟩
def quitPk (k:Ks)(i:Nat):Pk:=⟨2,k.me,i,k.id,0,0,0,0,[]⟩
def othersK (k:Ks):List Nat:=(List.range k.n).filter (·≠k.me)
def lateP (k:Ks)(i:Nat):Prop:=(peK k i).heard+40≤k.now
instance (k:Ks)(i:Nat):Decidable (lateP k i):=inferInstanceAs (Decidable (_≤_))
abbrev Ml:=Nat×Nat×List UInt8
def tickK (k:Ks):List Ml×Ks:=if k.cl=true then ([],k) else
 let k:={ k with now:=k.now+1 }
 match (othersK k).find? (λi=>decide (lateP k i)) with
 | some i=>([],{ k with ev:=k.ev++[(2,i,0)],cl:=true })
 | none=>((othersK k).map λi=>(k.me,i,encO (mailPk k i)),k)
def quitK (k:Ks):List Ml×Ks:=if k.cl=true then ([],k) else ((othersK k).map λi=>(k.me,i,encO (quitPk k i)),{ k with cl:=true })
def held (k:Ks):Prop:=∀ i,i<k.ps.length→¬ badP k.mr (peK k i)
structure WC (k:Ks):Prop where
 n:2≤k.n∧k.n≤8
 me:k.me<k.n
 id:0≤k.id∧k.id≤1099511627776
 delay:k.delay≤8
 window:1≤k.window∧k.window≤16
 ls:k.ls.length=k.n
 ps:k.ps.length=k.n
 ln:∀ l∈k.ls,l.length≤1000
 mr:k.mr.length≤1000
 mrs:∀ s∈k.mr,s<4294967296
 now:∀ p∈k.ps,p.heard≤k.now
 pe:∀ p∈k.ps,p.has≤1000∧p.frame≤1000∧p.sum<4294967296
 evs:∀ e∈k.ev,e.1≤3∧1≤e.1∧e.2.1<8∧e.2.2≤1000∧(e.1=3∨e.2.2=0)
 evn:k.ev.length+k.ps.countP (λp=>!p.apart)+(if k.cl=true then 0 else 1)≤k.n+1
section
variable {k:Ks}{i:Nat}
theorem WC.evl (h:WC k):k.ev.length≤9:=by have:=h.evn;have:=h.n;omega
theorem peK_mem (h:i<k.ps.length):peK k i∈k.ps:=by
 rw[peK,List.getD_eq_getElem?_getD,List.getElem?_eq_getElem h];exact List.getElem_mem _
theorem ln_mem {ls:List (List UInt8)}(h:i<ls.length):ls.getD i []∈ls:=by
 rw[List.getD_eq_getElem?_getD,List.getElem?_eq_getElem h];exact List.getElem_mem _
theorem WC.pet (h:WC k)(hi:i<k.n):(peK k i).has≤1000∧(peK k i).heard≤k.now∧(peK k i).frame≤1000∧(peK k i).sum<4294967296:=by
 have hm:=peK_mem (k:=k) (i:=i) (by rw[h.ps];exact hi)
 exact⟨(h.pe _ hm).1,h.now _ hm,(h.pe _ hm).2⟩
theorem WC.lnt (h:WC k)(hi:i<k.n):(k.ls.getD i []).length≤1000:=h.ln _ (ln_mem (by rw[h.ls];exact hi))
theorem WC.headt (h:WC k):headK k≤1000:=h.lnt h.me
theorem WC.frontt (h:WC k):frontK k≤headK k:=frontL_le (ln_mem (by rw[h.ls];exact h.me))
theorem mem_set {α:Type}{l:List α}{x y:α}(h:y∈l.set i x):y∈l∨y=x:=List.mem_or_eq_of_mem_set h
theorem WC.peSet (h:WC k){p:Pe}{ev:List (Nat×Nat×Nat)}{cl:Bool}(hp:p.has≤1000∧p.frame≤1000∧p.sum<4294967296)(hh:p.heard≤k.now)
   (he:∀ e∈ev,e.1≤3∧1≤e.1∧e.2.1<8∧e.2.2≤1000∧(e.1=3∨e.2.2=0)) (hn:ev.length+(k.ps.set i p).countP (λp=>!p.apart)+(if cl=true then 0 else 1)≤k.n+1):WC { k with ps:=k.ps.set i p,ev:=ev,cl:=cl } :=
 { h with
   ps:=by show (k.ps.set i p).length=_;rw[List.length_set];exact h.ps
   now:=λq hq=>by
     rcases mem_set hq with hq | rfl
     · exact h.now q hq
     · exact hh
   pe:=λq hq=>by
     rcases mem_set hq with hq | rfl
     · exact h.pe q hq
     · exact hp
   evs:=he
   evn:=hn }
theorem count_set {l:List Pe}{p:Pe}(h:i<l.length):(l.set i p).countP (λp=>!p.apart)+(if l[i].apart=true then 0 else 1)=l.countP (λp=>!p.apart)+(if p.apart=true then 0 else 1):=by
 have h1:l.countP (λp=>!p.apart)=(l[i]::l.eraseIdx i).countP (λp=>!p.apart):=List.Perm.countP_eq _ (erase_perm _ h)
 have hi:i<(l.set i p).length:=by simpa using h
 have h2:(l.set i p).countP (λp=>!p.apart)=((l.set i p)[i]::(l.set i p).eraseIdx i).countP (λp=>!p.apart):=List.Perm.countP_eq _ (erase_perm _ hi)
 rw[h1,h2,List.countP_cons,List.countP_cons,List.getElem_set_self,List.eraseIdx_set_eq]
 cases l[i].apart <;> cases p.apart <;> simp <;> omega
theorem WC.hold1 (h:WC k)(hi:i<k.n):WC (hold1 k i):=by
 unfold Go.Proofs.YteoldcfapaiobaaGreat.hold1
 split
 · rename_i hb
   have hil:i<k.ps.length:=by rw[h.ps];exact hi
   have hp:=h.pet hi
   have hpe:peK k i=k.ps[i]:=by rw[peK,List.getD_eq_getElem?_getD,List.getElem?_eq_getElem hil];rfl
   refine h.peSet ⟨hp.1,hp.2.2⟩ hp.2.1 (λe he=>?_) ?_
   · rcases List.mem_append.1 he with he | he
     · exact h.evs e he
     · rw[List.mem_singleton]at he
       subst he
       have:=h.n
       exact⟨by simp,by simp,by simp;omega,hp.2.2.1,.inl rfl⟩
   · have hc:=count_set (p:={ peK k i with apart:=true }) hil
     rw[← hpe,hb.1]at hc
     have:=h.evn
     rw[List.length_append,List.length_singleton]
     simp at hc ⊢
     omega
 · exact h
end
section
variable {k:Ks}{i:Nat}
theorem hold1_eq (k:Ks)(i:Nat):∃ ps ev,hold1 k i={ k with ps:=ps,ev:=ev }∧ps.length=k.ps.length:=by
 unfold hold1
 split
 · exact⟨_,_,rfl,by simp⟩
 · exact⟨k.ps,k.ev,rfl,rfl⟩
theorem holdN_eq (k:Ks):∀ i,∃ ps ev,holdN k i={ k with ps:=ps,ev:=ev }∧ps.length=k.ps.length
 | 0=>⟨k.ps,k.ev,rfl,rfl⟩
 | i+1=>by
   obtain⟨ps,ev,h1,h2⟩:=holdN_eq k i
   obtain⟨ps',ev',h3,h4⟩:=hold1_eq (holdN k i) i
   refine⟨ps',ev',?_,?_⟩
   · rw[holdN,h3,h1]
   · rw[h4,h1];exact h2
theorem holdK_eq (k:Ks):∃ ps ev,holdK k={ k with ps:=ps,ev:=ev }∧ps.length=k.ps.length:=holdN_eq k _
theorem WC.holdN (h:WC k):∀ {i},i≤k.n→WC (holdN k i)
 | 0,_=>h
 | i+1,hi=>by
   rw[Go.Proofs.YteoldcfapaiobaaGreat.holdN]
   refine (h.holdN (i:=i) (by omega)).hold1 ?_
   obtain⟨ps,ev,h1,_⟩:=holdN_eq k i
   rw[h1]
   show i<k.n
   omega
theorem WC.holdK (h:WC k):WC (holdK k):=h.holdN (by rw[h.ps];exact Nat.le_refl _)
theorem hold1_at (k:Ks)(i:Nat)(hi:i<k.ps.length):¬ badP (hold1 k i).mr (peK (hold1 k i) i):=by
 unfold hold1
 split
 · intro hb
   have:=hb.1
   simp[peK,hi]at this
 · assumption
theorem hold1_other (k:Ks){i j:Nat}(h:j≠i):peK (hold1 k i) j=peK k j:=by
 unfold hold1
 split
 · simp only[peK,List.getD_eq_getElem?_getD]
   rw[List.getElem?_set_ne (by omega)]
 · rfl
theorem hold1_mr (k:Ks)(i:Nat):(hold1 k i).mr=k.mr:=by
 obtain⟨ps,ev,h1,_⟩:=hold1_eq k i
 rw[h1]
theorem holdN_len (k:Ks)(i:Nat):(holdN k i).ps.length=k.ps.length:=by
 obtain⟨ps,ev,h1,h2⟩:=holdN_eq k i
 rw[h1];exact h2
theorem holdN_held (k:Ks):∀ {i j},i≤k.ps.length→j<i→¬ badP (holdN k i).mr (peK (holdN k i) j)
 | 0,_,_,h=>absurd h (by omega)
 | i+1,j,hi,hj=>by
   rw[Go.Proofs.YteoldcfapaiobaaGreat.holdN]
   by_cases h:j=i
   · subst h
     exact hold1_at _ _ (by rw[holdN_len];omega)
   · rw[hold1_mr,hold1_other _ h]
     exact holdN_held k (by omega) (by omega)
theorem holdK_held (k:Ks):held (holdK k):=λi hi=>holdN_held k (Nat.le_refl _) (by rw[holdK,holdN_len]at hi;exact hi)
theorem held.holdN (h:held k):∀ {i},i≤k.ps.length→holdN k i=k
 | 0,_=>rfl
 | i+1,hi=>by
   rw[Go.Proofs.YteoldcfapaiobaaGreat.holdN,h.holdN (i:=i) (by omega),hold1,if_neg (h i (by omega))]
theorem held.holdK (h:held k):holdK k=k:=h.holdN (Nat.le_refl _)
theorem held.of {k':Ks}(h:held k)(hm:k'.mr=k.mr)(hl:k'.ps.length=k.ps.length)(hp:∀ i,i<k.ps.length→(peK k' i).apart=(peK k i).apart∧(peK k' i).frame=(peK k i).frame∧(peK k' i).sum=(peK k i).sum):held k':=by
 intro i hi hb
 rw[hl]at hi
 obtain⟨h1,h2,h3⟩:=hp i hi
 refine h i hi ?_
 simp only[badP,hm,h1,h2,h3]at hb
 exact hb
theorem WC.mark (h:WC k){s:Nat}(hs:s<4294967296):WC (markK k s):=by
 unfold markK
 refine WC.holdK ?_
 split
 · exact { h with
     mr:=by show (k.mr++[s]).length≤1000;rw[List.length_append,List.length_singleton];omega
     mrs:=λx hx=>by
       rcases List.mem_append.1 hx with hx | hx
       · exact h.mrs x hx
       · rw[List.mem_singleton]at hx;rw[hx];exact hs }
 · exact h
theorem markK_eq (k:Ks)(s:Nat)(hl:k.mr.length<1000):∃ ps ev,markK k s={ k with ps:=ps,ev:=ev,mr:=k.mr++[s] }∧ps.length=k.ps.length:=by
 obtain⟨ps,ev,h1,h2⟩:=holdK_eq { k with mr:=k.mr++[s] }
 refine⟨ps,ev,?_,h2⟩
 rw[markK,if_pos hl,h1]
theorem press_ls {k:Ks}{b:UInt8}(h:(pressK b k).1=0):k.cl=false∧headK k<1000∧headK k<k.window+frontK k∧(pressK b k).2={ k with ls:=k.ls.set k.me (k.ls.getD k.me []++[b]) }:=by
 unfold pressK at h ⊢
 split at h
 · cases h
 · split at h
   · cases h
   · split at h
     · cases h
     · rename_i h1 h2 h3
       refine⟨by simpa using h1,by omega,by omega,?_⟩
       rw[if_neg h1,if_neg h2,if_neg h3]
theorem press_no {k:Ks}{b:UInt8}(h:(pressK b k).1≠0):(pressK b k).2=k:=by
 unfold pressK at h ⊢
 split
 · rfl
 · rename_i h1
   rw[if_neg h1]at h
   split
   · rfl
   · rename_i h2
     rw[if_neg h2]at h
     split
     · rfl
     · rename_i h3
       rw[if_neg h3]at h
       exact absurd rfl h
theorem WC.press (h:WC k)(b:UInt8):WC (pressK b k).2:=by
 by_cases h0:(pressK b k).1=0
 · obtain⟨h1,h2,h3,h4⟩:=press_ls h0
   rw[h4]
   exact { h with
     ls:=by show (k.ls.set _ _).length=_;rw[List.length_set];exact h.ls
     ln:=λl hl=>by
       rcases mem_set hl with hl | rfl
       · exact h.ln l hl
       · rw[List.length_append,List.length_singleton];simp only[headK]at h2;omega }
 · rw[press_no h0];exact h
theorem held.press (h:held k)(b:UInt8):held (pressK b k).2:=by
 by_cases h0:(pressK b k).1=0
 · obtain⟨h1,h2,h3,h4⟩:=press_ls h0
   rw[h4];exact h
 · rw[press_no h0];exact h
theorem WC.evTake (h:WC k):WC { k with ev:=[] } :=
 { h with
   evs:=λe he=>by cases he
   evn:=by have:=h.evn;show ([]:List (Nat×Nat×Nat)).length+_+_≤_;simp only[List.length_nil];omega }
theorem peK_set {k:Ks}{i j:Nat}{p:Pe}(hi:i<k.ps.length):(k.ps.set i p).getD j (pe0 0)=if j=i then p else peK k j:=by
 simp only[peK,List.getD_eq_getElem?_getD,List.getElem?_set]
 by_cases h:i=j
 · subst h
   simp[hi]
 · rw[if_neg h,if_neg (λe=>h e.symm)]
theorem count_same {k:Ks}{i:Nat}{p:Pe}(hi:i<k.ps.length)(ha:p.apart=(peK k i).apart):(k.ps.set i p).countP (λp=>!p.apart)=k.ps.countP (λp=>!p.apart):=by
 have hc:=count_set (p:=p) hi
 have hpe:peK k i=k.ps[i]:=by rw[peK,List.getD_eq_getElem?_getD,List.getElem?_eq_getElem hi];rfl
 rw[← hpe,ha]at hc
 omega
theorem WC.hear (h:WC k){p:Pk}(hp:mayPk p)(hs:p.sum<4294967296)(hn:p.from'<k.n)(hc:k.cl=false):WC (hearK k p)∧(held k→held (hearK k p)):=by
 have hf0:=hp.1.1
 have hil:p.from'.toNat<k.n:=by omega
 have hips:p.from'.toNat<k.ps.length:=by rw[h.ps];exact hil
 have hpt:=h.pet hil
 unfold hearK
 split
 · have hcs:=count_same (p:={ peK k p.from'.toNat with heard:=k.now }) hips rfl
   refine⟨h.peSet (p:={ peK k p.from'.toNat with heard:=k.now }) (cl:=true) ⟨hpt.1,hpt.2.2⟩ (Nat.le_refl _) (λe he=>?_) ?_,λhh=>hh.of rfl (by simp) λj hj=>?_⟩
   · rcases List.mem_append.1 he with he | he
     · exact h.evs e he
     · rw[List.mem_singleton]at he
       subst he
       have:=h.n
       exact⟨by simp,by simp,by show p.from'.toNat<8;omega,by simp,.inr rfl⟩
   · have:=h.evn
     rw[hc]at this
     rw[hcs,List.length_append,List.length_singleton]
     simp at this ⊢
     omega
   · show ((k.ps.set _ _).getD j _).apart=_∧((k.ps.set _ _).getD j _).frame=_∧((k.ps.set _ _).getD j _).sum=_
     rw[peK_set hips]
     split
     · rename_i h1;subst h1;exact⟨rfl,rfl,rfl⟩
     · exact⟨rfl,rfl,rfl⟩
 · refine⟨WC.holdK ?_,λ_=>holdK_held _⟩
   have hk:p.kind=1∧frP p.first∧frP p.ack∧frP p.frame∧p.press.length≤32:=by
     rcases hp.2.2.2.2 with h1 | h1
     · exact h1
     · rename_i h2;exact absurd h1.1 h2
   have hap:(hearP k.now (headK k) p (peK k p.from'.toNat)).apart=(peK k p.from'.toNat).apart:=by
     unfold hearP;simp only;split <;> rfl
   have hcs:=count_same (p:=hearP k.now (headK k) p (peK k p.from'.toNat)) hips hap
   have ha1:=hk.2.2.1
   have hf1:=hk.2.2.2.1
   simp only[frP]at ha1 hf1
   have hhd:=h.headt
   have hq:(hearP k.now (headK k) p (peK k p.from'.toNat)).has≤1000∧(hearP k.now (headK k) p (peK k p.from'.toNat)).frame≤1000∧(hearP k.now (headK k) p (peK k p.from'.toNat)).sum<4294967296∧(hearP k.now (headK k) p (peK k p.from'.toNat)).heard=k.now:=by
     unfold hearP
     simp only
     have h9:(if (peK k p.from'.toNat).has<p.ack.toNat∧p.ack.toNat≤headK k then p.ack.toNat else (peK k p.from'.toNat).has)≤1000:=by split <;> omega
     split
     · exact⟨h9,by show p.frame.toNat≤1000;omega,hs,rfl⟩
     · exact⟨h9,hpt.2.2.1,hpt.2.2.2,rfl⟩
   have h1:=h.peSet (p:=hearP k.now (headK k) p (peK k p.from'.toNat)) (i:=p.from'.toNat) (ev:=k.ev) (cl:=k.cl) ⟨hq.1,hq.2.1,hq.2.2.1⟩ (by rw[hq.2.2.2];exact Nat.le_refl _) h.evs (by rw[hcs];exact h.evn)
   have hln:=h.lnt hil
   exact { h1 with
     ls:=by show (k.ls.set _ _).length=_;rw[List.length_set];exact h.ls
     ln:=λl hl=>by
       rcases mem_set hl with hl | rfl
       · exact h.ln l hl
       · exact (putLn_len hln).2 }
theorem recv_ok {k:Ks}{bs:List UInt8}(h:(recvK bs k).1=0):∃ p,decO bs=some p∧k.cl=false∧p.to=k.me∧p.from'<k.n∧p.id=k.id∧(recvK bs k).2=hearK k p:=by
 unfold recvK at h ⊢
 split at h
 · cases h
 · rename_i h1
   rw[if_neg h1]
   cases hd:decO bs with
   | none=>rw[hd]at h;cases h
   | some p =>
     rw[hd]at h
     simp only at h ⊢
     split at h
     · cases h
     · rename_i h2
       rw[if_neg h2]
       have h3:p.to=k.me:=Decidable.of_not_not λhh=>h2 (.inl hh)
       have h4:p.id=k.id:=Decidable.of_not_not λhh=>h2 (.inr (.inr hh))
       have h5:p.from'<k.n:=Int.not_le.1 λhh=>h2 (.inr (.inl hh))
       exact⟨p,rfl,by simpa using h1,h3,h5,h4,rfl⟩
theorem recv_no {k:Ks}{bs:List UInt8}(h:(recvK bs k).1≠0):(recvK bs k).2=k:=by
 unfold recvK at h ⊢
 split
 · rfl
 · rename_i h1
   rw[if_neg h1]at h
   cases hd:decO bs with
   | none=>rfl
   | some p =>
     rw[hd]at h
     simp only at h ⊢
     split
     · rfl
     · rename_i h2
       rw[if_neg h2]at h
       exact absurd rfl h
theorem WC.recv (h:WC k)(bs:List UInt8):WC (recvK bs k).2∧(held k→held (recvK bs k).2):=by
 by_cases h0:(recvK bs k).1=0
 · obtain⟨p,h1,h2,h3,h4,h5,h6⟩:=recv_ok h0
   obtain⟨h7,h8,h9⟩:=decO_is h1
   rw[h6]
   exact h.hear h7 h8 h4 h2
 · rw[recv_no h0];exact⟨h,λh=>h⟩
theorem othersK_mem {k:Ks}{i:Nat}:i∈othersK k↔i<k.n∧i≠k.me:=by simp[othersK]
theorem WC.nowUp (h:WC k):WC { k with now:=k.now+1 }:={ h with now:=λp hp=>Nat.le_succ_of_le (h.now p hp) }
theorem WC.late (h:WC k){i:Nat}(hi:i<8)(hc:k.cl=false):WC { k with ev:=k.ev++[(2,i,0)],cl:=true } :=
 { h with
   evs:=λe he=>by
     rcases List.mem_append.1 he with he | he
     · exact h.evs e he
     · rw[List.mem_singleton]at he
       subst he
       exact⟨by simp,by simp,hi,by simp,.inr rfl⟩
   evn:=by
     have:=h.evn
     rw[hc]at this
     rw[List.length_append,List.length_singleton]
     simp at this ⊢
     omega }
theorem tickK_k (k:Ks):(tickK k).2=k∨(k.cl=false∧((tickK k).2={ k with now:=k.now+1 }∨∃ i,i<k.n∧(tickK k).2={ k with now:=k.now+1,ev:=k.ev++[(2,i,0)],cl:=true })):=by
 unfold tickK
 split
 · exact .inl rfl
 · rename_i hc
   refine .inr ⟨by simpa using hc,?_⟩
   simp only
   cases hf:(othersK { k with now:=k.now+1 }).find? (λi=>decide (lateP { k with now:=k.now+1 } i)) with
   | none=>exact .inl rfl
   | some i=>exact .inr ⟨i,(othersK_mem.1 (List.mem_of_find?_eq_some hf)).1,rfl⟩
theorem WC.tick (h:WC k):WC (tickK k).2∧(held k→held (tickK k).2):=by
 rcases tickK_k k with h1 | ⟨hc,h1 | ⟨i,hi,h1⟩⟩
 · rw[h1];exact⟨h,λh=>h⟩
 · rw[h1];exact⟨h.nowUp,λh=>h⟩
 · rw[h1]
   have:=h.n
   exact⟨(h.nowUp).late (by omega) hc,λh=>h⟩
theorem WC.quit (h:WC k):WC (quitK k).2∧(held k→held (quitK k).2):=by
 unfold quitK
 split
 · exact⟨h,λh=>h⟩
 · rename_i hc
   refine⟨{ h with evn:=?_ },λh=>h⟩
   have:=h.evn
   have hc':k.cl=false:=by simpa using hc
   rw[hc']at this
   simp at this ⊢
   omega
theorem WC.new {c:Cf}(h:mayCf c):WC (newK c)∧held (newK c)∧ksCf (newK c)=c:=by
 obtain⟨⟨h1,h2,h3⟩,⟨h4,h5,h6,h7⟩,h8,h9,h10,h11⟩:=h
 simp only[inI] at *
 refine⟨⟨?_,?_,?_,?_,?_,?_,?_,?_,?_,?_,?_,?_,?_,?_⟩,?_,?_⟩
 · show 2≤c.n.toNat∧c.n.toNat≤8;omega
 · show c.me.toNat<c.n.toNat;omega
 · exact h3
 · show c.delay.toNat≤8;omega
 · show 1≤c.window.toNat∧c.window.toNat≤16;omega
 · simp[newK]
 · simp[newK]
 · intro l hl
   simp[newK]at hl
   rw[hl.2,List.length_replicate];omega
 · simp[newK]
 · intro s hs;cases hs
 · intro p hp
   simp[newK]at hp
   rw[hp.2];exact Nat.zero_le _
 · intro p hp
   simp[newK]at hp
   rw[hp.2]
   refine⟨?_,?_,?_⟩ <;> simp[pe0];omega
 · intro e he;cases he
 · simp[newK,List.countP_replicate,pe0]
 · intro i hi hb
   have h1:(peK (newK c) i).frame≤0:=hb.2.2.1
   have h2:=hb.2.1
   omega
 · show Cf.mk _ _ _ _ _ _ _ _ _ _=c
   simp only[newK]
   rw[Int.toNat_of_nonneg (by omega),Int.toNat_of_nonneg (by omega),Int.toNat_of_nonneg (by omega),Int.toNat_of_nonneg (by omega)]
end
theorem oneI_ok {p:Pr}{fr:Int}{b:List UInt8}{g:Nat→Int}{at':Nat}{o:OpR}{m:Int}(hg:gOk g)(ho:okOp m o):gOk (oneI p fr b g at' o).1:=by
 have hop:=ho
 simp only[okOp,cellP]at hop
 unfold oneI
 split
 · exact hg
 · split
   · exact hg
   · split
     · exact hg
     · split
       · exact upd_ok hg (hg _ (by omega))
       · exact upd_ok hg (value_ok hg ho (by assumption) (by assumption))
theorem runI_ok {p:Pr}{fr:Int}{b:List UInt8}(hp:prOk p):∀ (n:Nat) {g:Nat→Int} {at':Nat},gOk g→gOk (runI p fr b n g at')
 | 0,_,_,hg=>hg
 | n+1,g,at',hg=>by
   cases ho:p.ops[at']? with
   | none =>
     rw [runI_end (by rcases Nat.lt_or_ge at' p.ops.length with h | h; · rw [List.getElem?_eq_getElem h] at ho; cases ho
                      · exact h)];exact hg
   | some o =>
     have h1:=oneI_ok (p:=p) (fr:=fr) (b:=b) (at':=at') hg (hp.2 o (List.mem_of_getElem? ho))
     rw[runI_step ho]
     split
     · exact runI_ok hp n h1
     · exact h1
theorem frameI_ok {p:Pr}{fr:Int}{b:List UInt8}{g:Nat→Int}(hp:prOk p)(hg:gOk g):gOk (frameI p fr b g):=runI_ok hp 200 hg
theorem foldI_ok {p:Pr}(hp:prOk p):∀ (l:List (List UInt8)) {fr:Int} {g:Nat→Int},gOk g→gOk (foldI p fr g l)
 | [],_,_,hg=>hg
 | b::l,_,_,hg=>foldI_ok hp l (frameI_ok hp hg)
structure Pl where
 k:Ks
 g:Nat→Int
def play1 (p:Pr)(s:Pl):Pl:=⟨markK s.k (crcSum (gameB (frameI p s.k.mr.length (jointL s.k.ls s.k.mr.length) s.g))),frameI p s.k.mr.length (jointL s.k.ls s.k.mr.length) s.g⟩
def playN (p:Pr):Nat→Pl→Pl
 | 0,s=>s
 | n+1,s=>playN p n (play1 p s)
theorem playN_succ (p:Pr):∀ (n:Nat) (s:Pl),playN p (n+1) s=play1 p (playN p n s)
 | 0,_=>rfl
 | n+1,s=>by rw[playN,playN_succ p n (play1 p s)];rfl
def playP (p:Pr)(s:Pl):Pl:=playN p (frontK s.k-s.k.mr.length) s
def zeroG:Nat→Int:=λ_=>0
theorem zeroG_ok:gOk zeroG:=λ_ _=>⟨by simp[zeroG],by simp[zeroG]⟩
def gameAt (p:Pr)(ls:List (List UInt8))(f:Nat):Nat→Int:=foldI p 0 zeroG ((List.range f).map (jointL ls))
def markAt (p:Pr)(ls:List (List UInt8))(f:Nat):Nat:=crcSum (gameB (gameAt p ls (f+1)))
theorem gameAt_succ (p:Pr)(ls:List (List UInt8))(f:Nat):gameAt p ls (f+1)=frameI p f (jointL ls f) (gameAt p ls f):=by
 rw[gameAt,List.range_succ,List.map_append,List.map_singleton,foldI_snoc,List.length_map,List.length_range,Int.zero_add];rfl
def Ext (ls ls':List (List UInt8)):Prop:=ls'.length=ls.length∧∀ i:Nat,i<ls.length→∃ t,ls'.getD i []=ls.getD i []++t
theorem Ext.refl (ls:List (List UInt8)):Ext ls ls:=⟨rfl,λi _=>⟨[],by simp⟩⟩
theorem Ext.trans {a b c:List (List UInt8)}(h:Ext a b)(h2:Ext b c):Ext a c:=⟨h2.1.trans h.1,λi hi=>by
 obtain⟨t,ht⟩:=h.2 i hi
 obtain⟨u,hu⟩:=h2.2 i (by rw[h.1];exact hi)
 exact⟨t++u,by rw[hu,ht,List.append_assoc]⟩⟩
theorem Ext.set {ls:List (List UInt8)}{i:Nat}{t:List UInt8}:Ext ls (ls.set i (ls.getD i []++t)):=by
 refine⟨by simp,λj hj=>?_⟩
 by_cases h:i=j
 · subst h;exact⟨t,by simp[List.getD_eq_getElem?_getD,hj]⟩
 · exact⟨[],by simp[List.getD_eq_getElem?_getD,List.getElem?_set_ne h]⟩
theorem getD_map {ls:List (List UInt8)}{f i:Nat}(h:i<ls.length):(jointL ls f)[i]?=some ((ls.getD i []).getD f 0):=by
 rw[jointL,List.getElem?_map,List.getElem?_eq_getElem h,List.getD_eq_getElem?_getD (l:=ls),List.getElem?_eq_getElem h];rfl
theorem Ext.joint {ls ls':List (List UInt8)}(h:Ext ls ls'){f:Nat}(hf:f<frontL ls):jointL ls' f=jointL ls f:=by
 apply List.ext_getElem?
 intro i
 by_cases hi:i<ls.length
 · rw[getD_map (by rw[h.1];exact hi),getD_map hi]
   obtain⟨t,ht⟩:=h.2 i hi
   have hl:=frontL_le (ln_mem hi)
   rw[ht,List.getD_eq_getElem?_getD,List.getElem?_append_left (by omega),← List.getD_eq_getElem?_getD]
 · rw[List.getElem?_eq_none (by rw[jointL_len,h.1];omega),List.getElem?_eq_none (by rw[jointL_len];omega)]
theorem Ext.front {ls ls':List (List UInt8)}(h:Ext ls ls')(h0:ls≠[]):frontL ls≤frontL ls':=by
 refine frontL_ge (λh1=>?_) λl hl=>?_
 · have:=h.1
   rw[h1]at this
   exact h0 (List.eq_nil_of_length_eq_zero this.symm)
 · obtain⟨i,hi,rfl⟩:=List.getElem_of_mem hl
   have hi':i<ls.length:=by rw[← h.1];exact hi
   obtain⟨t,ht⟩:=h.2 i hi'
   have h3:=frontL_le (ln_mem hi')
   rw[List.getD_eq_getElem?_getD,List.getElem?_eq_getElem hi]at ht
   simp only[Option.getD_some]at ht
   rw[ht,List.length_append];omega
theorem Ext.gameAt {ls ls':List (List UInt8)}(h:Ext ls ls'){p:Pr}{f:Nat}(hf:f≤frontL ls):gameAt p ls' f=gameAt p ls f:=by
 unfold Go.Proofs.YteoldcfapaiobaaGreat.gameAt
 congr 1
 refine List.map_congr_left λi hi=>h.joint ?_
 rw[List.mem_range]at hi;omega
theorem Ext.markAt {ls ls':List (List UInt8)}(h:Ext ls ls'){p:Pr}{f:Nat}(hf:f<frontL ls):markAt p ls' f=markAt p ls f:=by
 rw[Go.Proofs.YteoldcfapaiobaaGreat.markAt,h.gameAt (by omega)];rfl
structure WP (p:Pr)(s:Pl):Prop where
 wc:WC s.k
 held:held s.k
 low:s.k.mr.length≤frontK s.k
 game:s.g=gameAt p s.k.ls s.k.mr.length
 marks:s.k.mr=(List.range s.k.mr.length).map (markAt p s.k.ls)
section
variable {p:Pr}{s:Pl}
theorem WP.gok (h:WP p s)(hp:prOk p):gOk s.g:=by rw[h.game];exact foldI_ok hp _ zeroG_ok
theorem WC.lne {k:Ks}(h:WC k):k.ls≠[]:=λe=>by
 have:=h.ls
 have:=h.n
 rw[e] at *
 simp at *
 omega
theorem WP.one (h:WP p s)(hl:s.k.mr.length<frontK s.k):WP p (play1 p s)∧(play1 p s).k.ls=s.k.ls∧(play1 p s).k.mr.length=s.k.mr.length+1:=by
 have h9:=h.wc.frontt
 have h8:=h.wc.headt
 obtain⟨ps,ev,h1,h2⟩:=markK_eq s.k (crcSum (gameB (frameI p s.k.mr.length (jointL s.k.ls s.k.mr.length) s.g))) (by omega)
 have hk:(play1 p s).k={ s.k with ps:=ps,ev:=ev,mr:=s.k.mr++[crcSum (gameB (frameI p s.k.mr.length (jointL s.k.ls s.k.mr.length) s.g))] }:=h1
 have hm:(play1 p s).k.mr.length=s.k.mr.length+1:=by rw[hk];simp
 have hls:(play1 p s).k.ls=s.k.ls:=by rw[hk]
 have hg:frameI p s.k.mr.length (jointL s.k.ls s.k.mr.length) s.g=gameAt p s.k.ls (s.k.mr.length+1):=by rw[gameAt_succ,h.game]
 refine⟨⟨h.wc.mark (crcSum_lt _),?_,?_,?_,?_⟩,hls,hm⟩
 · show Go.Proofs.YteoldcfapaiobaaGreat.held (markK _ _)
   rw[markK];exact holdK_held _
 · rw[hm,frontK,hls];exact hl
 · rw[hm,hls];exact hg
 · rw[hm,hls,hk,List.range_succ,List.map_append,← h.marks,hg];rfl
theorem WP.play:∀ (n:Nat) {s:Pl},WP p s→n≤frontK s.k-s.k.mr.length→WP p (playN p n s)∧(playN p n s).k.ls=s.k.ls∧(playN p n s).k.mr.length=s.k.mr.length+n
 | 0,_,h,_=>⟨h,rfl,rfl⟩
 | n+1,s,h,hn=>by
   obtain⟨h1,h2,h3⟩:=h.one (by omega)
   obtain⟨h4,h5,h6⟩:=h1.play n (by rw[frontK,h2,h3];simp only[frontK]at hn;omega)
   exact⟨h4,h5.trans h2,by rw[playN,h6,h3];omega⟩
theorem play1_eq (h:s.k.mr.length<1000):∃ ps ev mr,(play1 p s).k={ s.k with ps:=ps,ev:=ev,mr:=mr }:=by
 obtain⟨ps,ev,h1,h2⟩:=markK_eq s.k (crcSum (gameB (frameI p s.k.mr.length (jointL s.k.ls s.k.mr.length) s.g))) h
 exact⟨ps,ev,_,h1⟩
theorem WP.play_eq:∀ (n:Nat) {s:Pl},WP p s→n≤frontK s.k-s.k.mr.length→∃ ps ev mr,(playN p n s).k={ s.k with ps:=ps,ev:=ev,mr:=mr }
 | 0,s,h,_=>⟨s.k.ps,s.k.ev,s.k.mr,rfl⟩
 | n+1,s,h,hn=>by
   have h9:=h.wc.frontt
   have h8:=h.wc.headt
   obtain⟨h1,h2,h3⟩:=h.one (by omega)
   obtain⟨ps,ev,mr,h4⟩:=h1.play_eq n (by rw[frontK,h2,h3];simp only[frontK]at hn;omega)
   obtain⟨ps',ev',mr',h5⟩:=play1_eq (p:=p) (s:=s) (by omega)
   exact⟨ps,ev,mr,by rw[playN,h4,h5]⟩
structure WF' (p:Pr)(s:Pl):Prop extends WP p s where
 full:s.k.mr.length=frontK s.k
theorem WP.playP (h:WP p s):WF' p (playP p s)∧(playP p s).k.ls=s.k.ls∧∃ ps ev mr,(Go.Proofs.YteoldcfapaiobaaGreat.playP p s).k={ s.k with ps:=ps,ev:=ev,mr:=mr }:=by
 obtain⟨h1,h2,h3⟩:=h.play _ (Nat.le_refl _)
 have hl:=h.low
 refine⟨⟨h1,?_⟩,h2,h.play_eq _ (Nat.le_refl _)⟩
 show (playN p _ s).k.mr.length=frontL (playN p _ s).k.ls
 rw[h3,h2]
 show _=frontK s.k
 omega
theorem WF'.playP (h:WF' p s):playP p s=s:=by rw[Go.Proofs.YteoldcfapaiobaaGreat.playP,h.full,Nat.sub_self];rfl
theorem WP.more {k':Ks}(h:WP p s)(hw:WC k')(hh:Go.Proofs.YteoldcfapaiobaaGreat.held k')(hm:k'.mr=s.k.mr)(he:Ext s.k.ls k'.ls):WP p ⟨k',s.g⟩:=by
 have hf:=he.front h.wc.lne
 have hl:=h.low
 refine⟨hw,hh,?_,?_,?_⟩
 · show k'.mr.length≤frontL k'.ls
   rw[hm];simp only[frontK]at hl;omega
 · show s.g=gameAt p k'.ls k'.mr.length
   rw[hm,he.gameAt hl];exact h.game
 · show k'.mr=(List.range k'.mr.length).map (markAt p k'.ls)
   rw[hm]
   conv=>lhs;rw[h.marks]
   refine List.map_congr_left λi hi=>?_
   rw[List.mem_range]at hi
   simp only[frontK]at hl
   rw[he.markAt (by omega)]
def pressP (p:Pr)(b:UInt8)(s:Pl):Int×Pl:=((pressK b s.k).1,playP p ⟨(pressK b s.k).2,s.g⟩)
noncomputable def recvP (p:Pr)(bs:List UInt8)(s:Pl):Int×Pl:=((recvK bs s.k).1,playP p ⟨(recvK bs s.k).2,s.g⟩)
def confP (s:Pl):List UInt8×Nat:=(gameB s.g,frontK s.k)
theorem putLn_ext (l:List UInt8)(f:Nat)(b:List UInt8):∃ t,putLn l f b=l++t:=by
 unfold putLn
 split
 · exact⟨[],by simp⟩
 · exact⟨_,rfl⟩
theorem hear_ls {k:Ks}{p:Pk}:(hearK k p).mr=k.mr∧Ext k.ls (hearK k p).ls:=by
 unfold hearK
 split
 · exact⟨rfl,Ext.refl _⟩
 · obtain⟨ps,ev,h1,_⟩:=holdK_eq { k with ls:=k.ls.set p.from'.toNat (putLn (k.ls.getD p.from'.toNat []) p.first.toNat p.press),ps:=k.ps.set p.from'.toNat (hearP k.now (headK k) p (peK k p.from'.toNat)) }
   rw[h1]
   obtain⟨t,ht⟩:=putLn_ext (k.ls.getD p.from'.toNat []) p.first.toNat p.press
   refine⟨rfl,?_⟩
   show Ext k.ls (k.ls.set _ _)
   rw[ht];exact Ext.set
theorem press_ext (b:UInt8)(k:Ks):(pressK b k).2.mr=k.mr∧Ext k.ls (pressK b k).2.ls:=by
 by_cases h0:(pressK b k).1=0
 · obtain⟨h1,h2,h3,h4⟩:=press_ls h0
   rw[h4];exact⟨rfl,Ext.set⟩
 · rw[press_no h0];exact⟨rfl,Ext.refl _⟩
theorem recv_ext (bs:List UInt8)(k:Ks):(recvK bs k).2.mr=k.mr∧Ext k.ls (recvK bs k).2.ls:=by
 by_cases h0:(recvK bs k).1=0
 · obtain⟨p,h1,h2,h3,h4,h5,h6⟩:=recv_ok h0
   rw[h6];exact hear_ls
 · rw[recv_no h0];exact⟨rfl,Ext.refl _⟩
theorem WF'.press (h:WF' p s)(b:UInt8):WF' p (pressP p b s).2:=by
 have h1:=press_ext b s.k
 exact (h.toWP.more (h.wc.press b) (h.held.press b) h1.1 h1.2).playP.1
theorem WF'.recv (h:WF' p s)(bs:List UInt8):WF' p (recvP p bs s).2:=by
 have h1:=recv_ext bs s.k
 exact (h.toWP.more (h.wc.recv bs).1 ((h.wc.recv bs).2 h.held) h1.1 h1.2).playP.1
theorem WF'.with {k':Ks}(h:WF' p s)(hw:WC k')(hh:Go.Proofs.YteoldcfapaiobaaGreat.held k')(hm:k'.mr=s.k.mr)(he:k'.ls=s.k.ls):WF' p ⟨k',s.g⟩:=by
 refine⟨h.toWP.more hw hh hm (by rw[he];exact Ext.refl _),?_⟩
 show k'.mr.length=frontL k'.ls
 rw[hm,he];exact h.full
theorem tick_same (k:Ks):(tickK k).2.mr=k.mr∧(tickK k).2.ls=k.ls:=by
 rcases tickK_k k with h1 | ⟨hc,h1 | ⟨i,hi,h1⟩⟩ <;> rw[h1] <;> exact⟨rfl,rfl⟩
theorem quit_same (k:Ks):(quitK k).2.mr=k.mr∧(quitK k).2.ls=k.ls:=by
 unfold quitK
 split <;> exact⟨rfl,rfl⟩
theorem WF'.tick (h:WF' p s):WF' p ⟨(tickK s.k).2,s.g⟩:=h.with h.wc.tick.1 (h.wc.tick.2 h.held) (tick_same _).1 (tick_same _).2
theorem WF'.quit (h:WF' p s):WF' p ⟨(quitK s.k).2,s.g⟩:=h.with h.wc.quit.1 (h.wc.quit.2 h.held) (quit_same _).1 (quit_same _).2
theorem WF'.told (h:WF' p s):WF' p ⟨{ s.k with ev:=[] },s.g⟩:=h.with h.wc.evTake (λi hi=>h.held i hi) rfl rfl
def newP (p:Pr)(c:Cf):Pl:=playP p ⟨newK c,zeroG⟩
theorem newP_ok {c:Cf}(h:mayCf c):WP p ⟨newK c,zeroG⟩:=by
 obtain⟨h1,h2,h3⟩:=WC.new h
 exact⟨h1,h2,Nat.zero_le _,rfl,rfl⟩
theorem WF'.new {c:Cf}(h:mayCf c):WF' p (newP p c):=(newP_ok h).playP.1
end
section
variable {p:Pr}{me:Nat}{ls:List (List UInt8)}{s:Pl}{k:Ks}
theorem playP_same (h:WP p s):(playP p s).k.n=s.k.n∧(playP p s).k.me=s.k.me∧(playP p s).k.id=s.k.id∧(playP p s).k.cl=s.k.cl∧(playP p s).k.window=s.k.window∧(playP p s).k.now=s.k.now∧(playP p s).k.ls=s.k.ls:=by
 obtain⟨_,h2,ps,ev,mr,h3⟩:=h.playP
 rw[h3];exact⟨rfl,rfl,rfl,rfl,rfl,rfl,rfl⟩
theorem encO_len (p:Pk):(encO p).length≤507:=by
 unfold encO
 split
 · rename_i h
   have:=midPk_len h
   rw[encPk_len];omega
 · simp
end
end
section
abbrev Evt:=Nat×Nat×Nat
def evOk (e:Evt):Prop:=e.1≤3∧1≤e.1∧e.2.1<8∧e.2.2≤1000∧(e.1=3∨e.2.2=0)
def evV (e:Evt):Value:=if e.1=1 then .iface 210 (.agg #[.int .i64 e.2.1]) else if e.1=2 then .iface 211 (.agg #[.int .i64 e.2.1]) else .iface 213 (.agg #[.int .i64 e.2.1,.int .i64 e.2.2])
theorem evV_one (e:Evt):(evV e).oneCell'=true:=by
 unfold evV
 split
 · rfl
 · split <;> rfl
instance {e:Evt}:One (evV e):=⟨evV_one e⟩
abbrev rawC (e:Evt):List Value:=[.int .i64 e.1,.int .i64 e.2.1,.int .i64 e.2.2]
section
variable {W w:World}{L:List SP}{e:Evt}
theorem event_of (hs:St W w L)(h:evOk e):Calls Tryz.prog 231 #[.agg (rawC e).toArray] w λr w'=>r=.returned (.tuple #[.agg #[evV e],.bool true])∧St W w' L:=by
 obtain⟨h1,h2,h3,h4,h5⟩:=h
 refine EN Tryz.func231 Tryz.ntmps231 rfl rfl λa ha=>?_
 refine BX 1 ha hs λb1 a w ha hs=>?_
 change St W w (blk b1 102 (rawC e)::_) at hs
 refine AL 0 ha hs λb2 a w ha hs=>?_
 refine RN 7 ha hs λa ha=>?_
 rw[decide_eq_false (by omega)]at ha
 refine RN 5 ha hs λa ha=>?_
 rw[decide_eq_false (by omega)]at ha
 refine RN 5 ha hs λa ha=>?_
 rw[decide_eq_false (by omega)]at ha
 refine RN 5 ha hs λa ha=>?_
 rw[decide_eq_false (by omega)]at ha
 refine BY 4 ha hs (λhg22 a ha=>?_) λhg22 a ha=>?_
 ·
  refine RN 5 ha hs λa ha=>?_
  rw[decide_eq_false (by omega)]at ha
  refine IF 8 ha hs (λhc1 a ha=>?_) λhc1 a ha=>?_
  ·
   refine SA 6 ha hs λa w ha hs=>?_
   refine RT 1 ha hs ?_
   exact⟨by rw[evV,if_pos (by omega)],hs.sub⟩
  refine IF 3 ha hs (λhc2 a ha=>?_) λhc2 a ha=>?_
  ·
   refine SA 6 ha hs λa w ha hs=>?_
   refine RT 1 ha hs ?_
   exact⟨by rw[evV,if_neg (by omega),if_pos (by omega)],hs.sub⟩
  refine IF 3 ha hs (λhc3 a ha=>?_) λhc3 a ha=>?_
  ·
   refine SA 8 ha hs λa w ha hs=>?_
   refine RT 1 ha hs ?_
   exact⟨by rw[evV,if_neg (by omega),if_neg (by omega)],hs.sub⟩
  exfalso;omega
 refine IF 13 ha hs (λhc1 a ha=>?_) λhc1 a ha=>?_
 ·
  refine SA 6 ha hs λa w ha hs=>?_
  refine RT 1 ha hs ?_
  exact⟨by rw[evV,if_pos (by omega)],hs.sub⟩
 refine IF 3 ha hs (λhc2 a ha=>?_) λhc2 a ha=>?_
 ·
  refine SA 6 ha hs λa w ha hs=>?_
  refine RT 1 ha hs ?_
  exact⟨by rw[evV,if_neg (by omega),if_pos (by omega)],hs.sub⟩
 refine IF 3 ha hs (λhc3 a ha=>?_) λhc3 a ha=>?_
 ·
  refine SA 8 ha hs λa w ha hs=>?_
  refine RT 1 ha hs ?_
  exact⟨by rw[evV,if_neg (by omega),if_neg (by omega)],hs.sub⟩
 exfalso;omega
end
end
end Go.Proofs.YteoldcfapaiobaaGreat
