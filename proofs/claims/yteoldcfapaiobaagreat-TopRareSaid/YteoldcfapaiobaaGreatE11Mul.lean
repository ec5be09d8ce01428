/- Package multi: a player that plays ahead. -/
import Derived.Test.YteoldcfapaiobaaGreatE06Ref
import Derived.Test.YteoldcfapaiobaaGreatE10Rank
import Derived.Test.YteoldcfapaiobaaGreatE04Job
import Derived.Test.YteoldcfapaiobaaGreatE05Vm
import Derived.Test.YteoldcfapaiobaaGreatE01Row
import Derived.Laws.StructEq
import Derived.ChangeKeysEq
import Derived.ProofKit
import Derived.Deep.Slices
import Derived.Deep.Strs
namespace Go.Proofs.YteoldcfapaiobaaGreat
open Tryz
open List (mem_cons_self all_eq_true getElem?_append_right foldl_cons nil_append map_cons length_nil mem_range getElem?_range getElem_map mem_singleton map_nil range_succ foldl_append length_filter_le map_singleton)
open Go.RowKit
set_option linter.unusedVariables false
set_option linter.unusedSimpArgs false
set_option maxRecDepth 10000
set_option synthInstance.maxSize 4000
set_option synthInstance.maxHeartbeats 400000
section
instance n0.fvB {P l x f ws args vs}[ex:Ev l (.tmp x) (.func (.func f) (List.toArray ws) #[])][ev:nq l args vs]:n0 P l (.value (.tmp x)) args f (ws++vs):=⟨λhb a n w E _ _ _ _ _ _=>by
 simp[execOp,resolve,ex.ev a n E,Deferred.ofValue,invoke,ev.ev a n E,zf hb]⟩
structure js where
 mb:Nat
 B:iU
 sq:Nat
 r:Nat
 tq:Nat
 jq:Nat
 dr:Option Addr
 dA:Nat
 aq:Option Addr
 cO:Nat
structure Mu where
 s:Pl
 A:Sn
 T:Tr
 J:Js
 ks:List Kx
 base:Nat
 front:Nat
abbrev dR (p:Pr)(M:js)(nk base front:Nat):List Value:=[pt M.B.pb,.string p.title,.slice M.aq p.ops.length M.cO,pt M.sq,pt M.tq,pt M.jq,.slice M.dr nk M.dA,.int .i64 base,.int .i64 front]
abbrev yD (W:World)(M:js)(p:Pr)(m:Mu):List SP:=[aa M.mb 177 (dR p M m.ks.length m.base m.front),aQ W M.B p m.s,aA W p M.aq M.cO,Sl 179 1 M.dr m.ks.length M.dA (gR m.ks),ah (e5 p M.aq M.cO M.tq M.jq M.sq) m.ks,Tree M.tq M.sq m.T,ax M.sq M.r m.A,bI M.jq m.J]
def aF (W:World)(M:js)(p:Pr)(m:Mu):SP:=λh=>cn (yD W M p m) h
section
variable {W w:World}{L R:List SP}{M:js}{B:iU}{p:Pr}{s:Pl}{m:Mu}
theorem aF.open (I:U W w (aF W M p m::L)):U W w (aa M.mb 177 (dR p M m.ks.length m.base m.front)::aQ W M.B p m.s::aA W p M.aq M.cO::Sl 179 1 M.dr m.ks.length M.dA (gR m.ks)::ah (e5 p M.aq M.cO M.tq M.jq M.sq) m.ks::Tree M.tq M.sq m.T::ax M.sq M.r m.A::bI M.jq m.J::L):=I.open (M:=yD W M p m) λ_ h=>h
theorem aF.close (I:U W w (yD W M p m++L)):U W w (aF W M p m::L):=U.shut (M:=yD W M p m) I λ_ h=>h
theorem aF.fold (I:U W w L)(M:js)(p:Pr)(m:Mu)[kk:fD L (aa M.mb 177 (dR p M m.ks.length m.base m.front)::aQ W M.B p m.s::aA W p M.aq M.cO::Sl 179 1 M.dr m.ks.length M.dA (gR m.ks)::ah (e5 p M.aq M.cO M.tq M.jq M.sq) m.ks::Tree M.tq M.sq m.T::ax M.sq M.r m.A::bI M.jq m.J::[]) R]:U W w (aF W M p m::R):=aF.close (I.perm kk.perm)
theorem Mg (I:U W w (aQ W B p s::L)):Calls prog 94 #[pt B.pb] w λe w'=>e=.returned (.agg (ints .i32 32 s.g).toArray)∧U W w' (aQ W B p s::L):=by
 replace I:=aQ.open I;refine EN func94 ntmps94 rfl rfl λa E=>?_;refine AL 1 E I λb2 a w E I=>?_;change U W w (aa b2 183 (ints .i32 32 (λ_=>0))::_) at I;refine RN 4 E I λa E=>?_;refine SS E (bS E underlying183 rfl Ty.t183 (yA (I.ai (b:=B.pb)))) λa E=>?_;refine SA 0 E I λa w E I=>?_;refine RT 0 E I ?_;exact⟨rfl,(aQ.fold I B p s).sub⟩
theorem Mh (I:U W w (aQ W B p s::L)):Calls prog 278 #[pt B.pb] w λe w'=>e=.returned (.agg (di B.gs B.adT B.cT).toArray)∧U W w' (aQ W B p s::L):=by
 replace I:=aQ.open I;refine EN func278 ntmps278 rfl rfl λa E=>?_;refine AL 1 E I λb2 a w E I=>?_;refine RN 4 E I λa E=>?_;refine SS E (bS E underlying186 rfl Ty.t186 (LY (I.ai (b:=B.pb)))) λa E=>?_;refine SA 0 E I λa w E I=>?_;refine RT 0 E I ?_;exact⟨rfl,(aQ.fold I B p s).sub⟩
theorem td (I:U W w (aF W M p m::L)):Calls prog 140 #[pt M.mb] w λe w'=>e=.returned (pt M.B.pb)∧U W w' (aF W M p m::L):=by
 replace I:=aF.open I;refine EN func140 ntmps140 rfl rfl λa E=>?_;refine RN 6 E I λa E=>?_;replace E:=E.aM 4;refine RT 7 E I ?_;exact⟨rfl,aF.fold I M p m⟩
theorem A9 (I:U W w (aF W M p m::L)):Calls prog 272 #[pt M.mb] w λe w'=>e=.returned (pt M.B.core.cb)∧U W w' (aF W M p m::L):=by
 refine EN func272 ntmps272 rfl rfl λa E=>?_;refine CL 4 E I (td I) λa w E I=>?_;replace I:=aF.open I;refine CL 0 E I (nL (I.pick (aQ W M.B p m.s))) λa w E I=>?_;refine RT 1 E I ?_;exact⟨rfl,aF.fold I M p m⟩
theorem yE (I:U W w (aF W M p m::L)):Calls prog 101 #[pt M.mb] w λe w'=>e=.returned (.bool m.s.k.cl)∧U W w' (aF W M p m::L):=by
 refine EN func101 ntmps101 rfl rfl λa E=>?_;refine CL 4 E I (td I) λa w E I=>?_;replace I:=aF.open I;refine CL 0 E I (L7 (I.pick (aQ W M.B p m.s))) λa w E I=>?_;refine RT 1 E I ?_;exact⟨rfl,aF.fold I M p m⟩
theorem ZP (I:U W w (aF W M p m::L)):Calls prog 81 #[pt M.mb] w λe w'=>e=.returned (pt M.sq)∧U W w' (aF W M p m::L):=by
 replace I:=aF.open I;refine EN func81 ntmps81 rfl rfl λa E=>?_;refine RN 6 E I λa E=>?_;replace E:=E.aM 4;refine RT 7 E I ?_;exact⟨rfl,aF.fold I M p m⟩
theorem ZQ (I:U W w (aF W M p m::L)):Calls prog 87 #[pt M.mb] w λe w'=>e=.returned (pt M.tq)∧U W w' (aF W M p m::L):=by
 replace I:=aF.open I;refine EN func87 ntmps87 rfl rfl λa E=>?_;refine RN 6 E I λa E=>?_;replace E:=E.aM 4;refine RT 7 E I ?_;exact⟨rfl,aF.fold I M p m⟩
end
end
section
section
variable {p:Pr}{F F':Int}{g g0:Nat→Int}{t t':Nat→Nat}{base i:Nat}{A:Sn}{T:Tr}{ws:List Wk}{k:Wk}{P:List (List UInt8)}
theorem Inv.ZR (h:Inv p F g0 t base A T ws)(hA:WF A)(hn:A.n+1<1099511627776)(hT:T.l=[])(hg:dO g) :
   Inv p F' g t' (A.last+1) ((A.add g t').et base) T ws:=by
 have vO:WF (A.add g t'):=hA.add hn g t';have hr:∀ x∈(A.add g t').ar,x.refs=1:=by
  intro x hx;rcases eP.1 hx with hx | hx
  ·exact (h.ar x hx).1
  ·rw[mem_singleton.1 hx]
 have tV:∀ z∈A.ar,z.id≠A.last+1:=λz hz e=>by have:=(hA.mg z hz).2.1;omega
 rw[zS vO hr];refine⟨?_,λx hx=>?_,λx hx he=>?_,λy hy=>?_,λk hk=>⟨(h.ll k hk).1,λ_ y hy=>?_⟩⟩
 ·simp only;rw[Du];have h1:((A.add g t').ar.map (·.id)).Perm (base::(A.last+1)::(T.l.map (·.snap)++ji ws)):=by
   simp only[Sn.add,cW,map_cons,map_nil];exact ((List.perm_append_singleton _ _).trans (h.perm.cons _)).trans (List.Perm.swap _ _ _)
  exact Dt (List.Perm.refl _) h1 vO.oe
 ·have hx:=jU hx;rcases eP.1 hx with hx | hx
  ·exact h.ar x hx
  ·rw[mem_singleton.1 hx];exact⟨rfl,hg⟩
 ·have hx:=jU hx;rcases eP.1 hx with hx | hx
  ·exact absurd he (tV x hx)
  ·rw[mem_singleton.1 hx];exact⟨rfl,rfl⟩
 ·rw[hT]at hy;cases hy
 ·rw[hT]at hy;cases hy
theorem Mi (h:∀ k∈ws,k.busy=false):ji ws=[]:=by
 rw[ji,List.filter_eq_nil_iff.2 (λk hk=>by rw[h k hk];decide)];rfl
theorem Ba:∀ (l:List Br) (A:Sn),(A.gQ l).room=A.room∧(A.gQ l).n=A.n∧(A.gQ l).last=A.last
 | [],_=>⟨rfl,rfl,rfl⟩
 | y::l,A=>by
  have h1:=Ba l (A.et y.snap);have h2:=og A y.snap;show ((A.et y.snap).gQ l).room=_∧((A.et y.snap).gQ l).n=_∧((A.et y.snap).gQ l).last=_;exact⟨h1.1.trans h2.1,h1.2.1.trans h2.2.1,h1.2.2.trans h2.2.2⟩
def te (ls:List (List UInt8))(f:Nat)(j:List UInt8):Bool:=(List.range j.length).all λq=>!(decide (f<(ls.getD q []).length)&&(ls.getD q []).getD f 0 != j.getD q 0)
def jt (ls:List (List UInt8))(f:Nat)(P:List (List UInt8)):Bool:=(List.range P.length).all λi=>te ls (f+i) (P.getD i [])
theorem ZS {ls:List (List UInt8)}{f q:Nat}{j:List UInt8}(hq:q<j.length)(h1:f<(ls.getD q []).length)(h2:(ls.getD q []).getD f 0≠j.getD q 0):te ls f j=false:=by
 rw[te,List.all_eq_false];exact⟨q,mem_range.2 hq,by rw[dg h1,Bool.true_and,bne_iff_ne.2 h2];decide⟩
theorem Mj {ls:List (List UInt8)}{f:Nat}{j:List UInt8}(h:∀ q,q<j.length→f<(ls.getD q []).length→(ls.getD q []).getD f 0=j.getD q 0):te ls f j=true:=by
 rw[te,all_eq_true];intro q hq;have:=h q (mem_range.1 hq);by_cases h1:f<(ls.getD q []).length
 ·rw[dg h1,Bool.true_and,this h1,bne_self_eq_false];rfl
 ·rw[bq h1,Bool.false_and];rfl
theorem ZT {ls:List (List UInt8)}{f i:Nat}{P:List (List UInt8)}(hi:i<P.length)(h:te ls (f+i) (P.getD i [])=false):jt ls f P=false:=by
 rw[jt,List.all_eq_false];exact⟨i,mem_range.2 hi,by rw[h];decide⟩
theorem Mk {ls:List (List UInt8)}{f:Nat}{P:List (List UInt8)}(h:∀ i,i<P.length→te ls (f+i) (P.getD i [])=true):jt ls f P=true:=by
 rw[jt,all_eq_true];intro i hi;exact h i (mem_range.1 hi)
end
end
section
section
variable {W w:World}{L:List SP}{q r:Nat}{A:Sn}
theorem ZU (l:List Nat):distinct l≤l.length:=by
 induction l with
 | nil=>exact a7 _
 | cons x l ih=>rw[distinct,eO];split <;> omega
theorem ZV (l:List aC):(kT l).length=4*l.length:=by
 induction l with
 | nil=>rfl
 | cons x l ih=>show (_++kT l).length=_;rw[aL,ih,eO];simp;omega
theorem ax.vp (I:U W w (ax q r A::L)):A.used≤4*A.ar.length:=by
 rw[ax.used I];have:=ZU (kT A.ar);rw[ZV]at this;exact this
end
end
section
theorem Tl.rest {N L:List SP}{A:SP}(t:Tl N (A::L)):Tl N L:=⟨let ⟨K,h⟩:=t.h;⟨K++[A],by simpa using h⟩⟩
section
variable {W w:World}{L:List SP}{n i tq sq r:Nat}{M:js}{B:iU}{x:UInt8}{p:Pr}{s:Pl}{m:Mu}{A:Sn}{T:Tr}{F:Int}{g0:Nat→Int}{t:Nat→Nat}{px:aC}
theorem Mm {kp:Br→Bool}{g:Nat}{ws:List Value}(I:U W w (Tree tq sq T::ax sq r A::L))(he:T.epoch+1<1099511627776)(cp:g9 prog g=true)
   (hg:∀ (N:List SP) (w':World) (x:Br) (av:Option Addr) (c':Nat),x∈T.l→U W w' N→Tl N L→vA W N av x.al→x.al.length≤c'→nA x.al →
    Calls prog g (ws++[Value.agg (ch x av c').toArray]).toArray w' λe nB=>e=.returned (.bool (kp x))∧U W nB N) :
   Calls prog 287 #[pt tq,.func (.func g) ws.toArray #[]] w λe w'=>(∃ v:Int,e=.returned (.int .i64 v)) ∧
    U W w' (Tree tq sq (T.cut λx=>!kp x)::ax sq r (A.gQ (T.l.filter λx=>!kp x))::L):=by
 have hF : ∀ (b3 : Nat) (N : List SP) (w' : World) (x : Br) (av : Option Addr) (c' : Nat), x ∈ T.l → U W w' N → Tl N (aa b3 343 [.func (.func g) ws.toArray #[]] :: L) → vA W N av x.al → x.al.length ≤ c' → nA x.al →
     Calls prog 304 (List.toArray [.agg (ch x av c').toArray,pt b3]) w' λe nB=>e=.returned (.bool (!kp x))∧U W nB N:=by
  intro b3 N w x av c' Bb I hM hx ZW ku;refine EN func304 ntmps304 rfl rfl λa E=>?_;refine BX 1 E I λb2 a w E I=>?_;refine RN 2 E I λa E=>?_;have pw:=I.tail.U1 hM;refine SS E (ae E (pw.bz rfl)) λa E=>?_;refine CL 1 E I (hg (aa b2 238 (ch x av c')::N) _ x av c' Bb I (@Tl.cons _ _ _ hM.rest) (hx.imp λzs h=>⟨h.1,λnB h2=>h.2 _ h2.tail⟩) ZW ku) (hf:=cp) λa w E I=>?_;refine RT 2 E I ?_;exact⟨rfl,I.tail⟩
 refine EN func287 ntmps287 rfl rfl λa E=>?_;refine BX 1 E I λb3 a w E I=>?_;refine CL 4 E I (I8 (tq:=tq) (sq:=sq) (r:=r) (A:=A) (T:=T) (wh:=λx=>!kp x) (us:=[pt b3]) (L:=aa b3 343 [.func (.func g) ws.toArray #[]]::L) I.sub he (by kernel_rfl) (hF b3)) λa w E I=>?_;refine RT 1 E I ?_;exact⟨⟨_,rfl⟩,I.sub⟩
theorem ZX (I:U W w (aF W M p m::L))(hI:Inv p F g0 t m.base m.A m.T (m.ks.map (·.1)))(he:m.T.epoch+1<1099511627776)(h4:m.ks.length≤4) :
   Calls prog 302 #[pt M.mb] w λe w'=>∃ (A':Sn) (Bd:List Kx),e=.returned (.tuple #[]) ∧
    (Inv p F g0 t m.base A' (m.T.cut λ_=>true) (Bd.map (·.1))∧Bd.length=m.ks.length∧(∀ k∈Bd,k.1.busy=false)∧A'.room=m.A.room∧A'.n=m.A.n) ∧
    U W w' (aF W M p { m with A:=A',ks:=Bd,T:=m.T.cut λ_=>true }::L):=by
 obtain⟨mb,B,sq,r,tq,jq,dr,dA,aq,cO⟩:=M;obtain⟨s,A,T,J,ks,base,front⟩:=m;replace I:=aF.open I;simp only at hI he h4;refine EN func302 ntmps302 rfl rfl λa E=>?_;refine RN 8 E I λa E=>?_;refine aO (λμ a w=>∃ (i:Nat) (A1:Sn) (k7:List Kx),(μ=ks.length-i∧i≤ks.length∧k7.length=ks.length∧(∀ (j:Nat) (k:Kx),j<i→k7[j]?=some k→k.1.busy=false)∧Inv p F g0 t base A1 T (k7.map (·.1))∧A1.room=A.room∧A1.n=A.n)∧Fr a 21 [(0,pt mb),(7,.slice dr ks.length dA),(8,.int .i64 ks.length),(9,.int .i64 i)]∧U W w (aa mb 177 (dR p ⟨mb,B,sq,r,tq,jq,dr,dA,aq,cO⟩ ks.length base front)::aQ W B p s::aA W p aq cO::Sl 179 1 dr ks.length dA (gR k7)::ah (e5 p aq cO tq jq sq) k7::Tree tq sq T::ax sq r A1::bI jq J::L)) (ks.length) (⟨0,A,ks,⟨rfl,by omega,rfl,λj k h=>absurd h (by omega),hI,rfl,rfl⟩,E.ab [0,7,8,9],I.sub⟩) ?_;clear E I;rintro μ a w ⟨i,A1,k7,⟨rfl,hi,dM,Mn,wE,lA,nD⟩,E,I⟩;refine IF 3 E I (λaj a E=>?_) λaj a E=>?_
 ·
  have pn:i<k7.length:=by omega
  obtain⟨⟨k,wb⟩,hk⟩:∃ y,k7[i]?=some y:=⟨_,aE pn⟩;obtain⟨b',dB,rfl,c4⟩:=I.bV dr (by omega);refine RN 3 E I λa E=>?_;refine SS E (ae E (c4 i _ (JY hk))) λa E=>?_;refine aY 2 E I (W4 ((I.store sq).pick (ah (e5 p aq cO tq jq sq) k7)) hk wE) λA2 k2 a w E ⟨⟨cd,oL,eX,pv⟩,I⟩=>?_;rw[← JZ (k':=k2) hk]at I;refine RN 2 E I λa E=>?_;refine⟨ks.length-(i+1),by omega,i+1,A2,k7.set i (k2,wb),⟨rfl,by omega,by rw[bu];exact dM,λj z hj hz=>?_,oL,eX.trans lA,pv.trans nD⟩,E.ab [0,7,8,9],I.sub⟩;rw[jL]at hz;split at hz
  ·cases hz;exact cd
  ·exact Mn j z (by omega) hz
 refine RN 0 E I λa E=>?_;have gB:=I;refine CL 4 E I (U7 ((I.store sq).tree tq) he) λa w E I=>?_;refine RT 0 E I ?_;obtain rfl:i=ks.length:=by omega
 have Be:=wE.cut (ax.facts (gB.store sq)).1 (λ_=>true);rw[show T.l.filter (λ_=>true)=T.l from by simp]at Be;have hd:=Ba T.l A1;refine⟨A1.gQ T.l,k7,rfl,⟨Be,dM,λk hk=>?_,hd.1.trans lA,hd.2.1.trans nD⟩,?_⟩
 ·obtain⟨j,hj⟩:=jS.1 hk;exact Mn j k (by have:=(a2.1 hj).1;omega) hj
 ·rw[← dM]at I;exact aF.fold I ⟨mb,B,sq,r,tq,jq,dr,dA,aq,cO⟩ p ⟨s,A1.gQ T.l,T.cut λ_=>true,J,k7,base,front⟩
theorem FO {id:Nat}(I:U W w (aF W M p m::L))(hx:m.A.ar[i]?=some px)(b6:px.id=id) :
   Calls prog 274 #[pt M.mb,.int .i64 id] w λe w'=>e=.returned (.agg (ints .i32 32 px.g).toArray)∧U W w' (aF W M p m::L):=by
 replace I:=aF.open I;refine EN func274 ntmps274 rfl rfl λa E=>?_;refine AL 1 E I λb4 a w E I=>?_;change U W w (aa b4 183 (ints .i32 32 (λ_=>0))::_) at I;refine CL 6 E I (W8 (I.store M.sq) hx b6) λa w E I=>?_;refine AL 3 E I λb5 a w E I=>?_;change U W w (aa b5 183 (ints .i32 32 (λ_=>0))::_) at I;refine SA 0 E I λa w E I=>?_;refine SA 3 E I λa w E I=>?_;refine RT 0 E I ?_;exact⟨rfl,(aF.fold I M p m).sub⟩
structure ZY (p:Pr)(M:js)(m m':Mu)(t':Nat→Nat):Prop where
 inv:Inv p (aw m.s.k:Int) m.s.g t' m'.base m'.A m'.T (m'.ks.map (·.1))
 s:m'.s=m.s
 J:m'.J=m.J
 front:m'.front=aw m.s.k
 room:m'.A.room=m.A.room
 n:m'.A.n≤m.A.n+1
 last:m'.T.last=m.T.last
 most:m'.T.most=m.T.most
 rX:m'.T.epoch≤m.T.epoch+2
 ks:m'.ks.length=m.ks.length
 afi:(m'.T=m.T∧m'.A=m.A∧m'.ks=m.ks)∨m'.T.l=[]
 same:m.front=aw m.s.k→m'.T=m.T∧m'.A=m.A∧m'.ks=m.ks
theorem ZZ (I:U W w (aF W M p m::L))(hw:cw p m.s)(hg:dO m.s.g)(hI:Inv p (m.front:Int) g0 t m.base m.A m.T (m.ks.map (·.1)))(fp:m.front=aw m.s.k→g0=m.s.g)
   (he:m.T.epoch+2<1099511627776) (hn:m.A.n+1<1099511627776) (h4:m.ks.length≤4) (qz:12≤m.A.room) :
   Calls prog 286 #[pt M.mb] w λe w'=>∃ (m':Mu) (t':Nat→Nat),e=.returned (.tuple #[])∧ZY p M m m' t'∧U W w' (aF W M p m'::L):=by
 have bD:=hw.wc.k0;have iq:m.s.k.ls.length≤8:=by rw[hw.wc.ls];exact hw.wc.n.2
 obtain⟨mb,B,sq,r,tq,jq,dr,dA,aq,cO⟩:=M;obtain⟨s,A,T,J,ks,base,front⟩:=m;obtain⟨i,px,hJ,kU⟩:=hI.mg (mem_cons_self ..)
 have hF : ∀ (N : List SP) (w' : World) (x : Br) (av : Option Addr) (c' : Nat), U W w' N →
     Calls prog 301 ([]++[Value.agg (ch x av c').toArray]).toArray w' λe nB=>e=.returned (.bool false)∧U W nB N:=by
  intro N w x av c' I;refine EN func301 ntmps301 rfl rfl λa E=>?_;refine BX 1 E I λb1 a w E I=>?_;refine RT 3 E I ?_;exact⟨rfl,I.tail⟩
 simp only at hw hg hI fp he hn h4 qz bD iq hJ kU;subst kU;replace I:=aF.open I;dsimp only at I;refine EN func286 ntmps286 rfl rfl λa E=>?_;refine CL 5 E I (nL (I.pick (aQ W B p s))) λa w E I=>?_;replace I:=aQ.open I;refine CL 0 E I (oI (I.pick (az B.core s.k))) λa w E I=>?_;obtain⟨D,I,hD⟩:=az.qu I;refine CL 0 E I (rA I bD iq) λa w E I=>?_;refine RN 1 E I λa E=>?_;replace I:=(aQ.fold (hD _ _ I) B p s);refine IF 8 E I (λaj a E=>?_) λaj a E=>?_
 ·
  have oA:front=aw s.k:=by rw[aw];omega
  refine RT 0 E I ?_;exact⟨⟨s,A,T,J,ks,px.id,front⟩,t,rfl,⟨by rw[← oA,← fp oA];exact hI,rfl,rfl,oA,rfl,by simp only;omega,rfl,rfl,by simp only;omega,rfl,.inl ⟨rfl,rfl,rfl⟩,λ_=>⟨rfl,rfl,rfl⟩⟩,aF.fold I ⟨mb,B,sq,r,tq,jq,dr,dA,aq,cO⟩ p ⟨s,A,T,J,ks,px.id,front⟩⟩
 refine RN 5 E I λa E=>?_;have wF:=hI.cut (ax.facts (I.store sq)).1 (λ_=>true);have tf:=Ba (T.l.filter λ_=>true) A;have FP:(T.cut λ_=>true).l=[]:=by simp[Tr.cut]
 have Z0:(T.cut λ_=>true).epoch≤T.epoch+1:=by simp only[Tr.cut];split <;> omega
 refine jP 0 E I (Mm (kp:=λ_=>false) (ws:=[]) ((I.store sq).tree tq) (by omega) (by kernel_rfl) (λN w' x av c' _ h1 _ _ _ _=>hF N w' x av c' h1)) ?_;clear E I;rintro e w ⟨⟨_,rfl⟩,I⟩;refine⟨_,rfl,λa E=>?_⟩;replace I:U W w (Tree tq sq (T.cut λ_=>true)::ax sq r (A.gQ (T.l.filter λ_=>true))::_):=I;generalize A.gQ (T.l.filter λ_=>true)=A1 at I wF tf;have rH:(T.cut λ_=>true).last=T.last∧(T.cut λ_=>true).most=T.most:=⟨rfl,rfl⟩;generalize (T.cut λ_=>true)=T1 at I wF FP Z0 rH;obtain⟨i1,qB,Z1,Z2⟩:=wF.mg (mem_cons_self ..);rw[← Z2]at I wF;refine RN 0 E I λa E=>?_;refine cc (M:=λa w=>∃ (A2:Sn) (T2:Tr) (qC:List Kx),(A2.used+4≤A2.room∧Inv p (front:Int) g0 t qB.id A2 T2 (qC.map (·.1))∧T2.l=[]∧T2.epoch≤T.epoch+2∧T2.last=T.last∧T2.most=T.most∧qC.length=ks.length∧A2.room=A.room∧A2.n=A.n)∧Fr a 73 [(0,pt mb),(2,.int .i64 (aU s.k.ls))]∧U W w (aF W ⟨mb,B,sq,r,tq,jq,dr,dA,aq,cO⟩ p ⟨s,A2,T2,J,qC,qB.id,front⟩::L)) ?_ ?_
 ·
  refine aV 1 (λw0 w'=>Rd w' mb 0 (dR p ⟨mb,B,sq,r,tq,jq,dr,dA,aq,cO⟩ ks.length qB.id front)) [7,11,12,13] [0,1,2,4,5,6,8,9,10,3003,3007,1011,1012,1013,1014,15] E I λa w E I hH=>?_;have hC:=hH.at w (I.ai (b:=mb));refine RH 9 E I hH hC λa E=>?_;refine QH E (λw hc=>ae E (hc 3 _ rfl)) hC λa E=>?_;refine QH E (λw hc=>ae E (hc 3 _ rfl)) hC λa E=>?_;refine RH 0 E I hH hC λa E=>?_;refine SS E (ae E (hC 7 _ rfl)) λa E=>?_;refine RH 0 E I hH hC λa E=>?_;refine aY 0 E I (IN (I.store sq) Z1) λcY dP a w E I=>?_;replace hC:=hH.at w (I.ai (b:=mb));refine RH 1 E I hH hC λa E=>?_;refine CL 0 E I (IP (I.store sq)) λa w E I=>?_;refine RN 1 E I λa E=>?_;refine IF 0 E I (λao a E=>?_) λao a E=>?_
  ·
   replace I:=aF.fold I ⟨mb,B,sq,r,tq,jq,dr,dA,aq,cO⟩ p ⟨s,A1,T1,J,ks,qB.id,front⟩;refine aY 1 E I (ZX I wF (by dsimp only;omega) h4) λA2 qC a w E ⟨⟨oL,cd,Z3,eX,pv⟩,I⟩=>?_;refine RN 0 E I λa E=>?_;have cp:(T1.cut λ_=>true).l=[]:=by simp[Tr.cut]
   have hce:(T1.cut λ_=>true).epoch≤T1.epoch+1:=by simp only[Tr.cut];split <;> omega
   have hu:=ax.vp ((aF.open I).store sq);have hQ:=oL.len;rw[Mi (λk hk=>by obtain⟨y,hy,rfl⟩:=cV.1 hk;exact Z3 y hy)]at hQ;simp only[cp,length_nil]at hQ eX pv cd hu;exact⟨A2,T1.cut λ_=>true,qC,⟨by rw[eX,tf.1];omega,oL,cp,by omega,rH.1,rH.2,cd,by rw[eX,tf.1],by rw[pv,tf.2.1]⟩,E.ab [0,2],I.sub⟩
  refine RN 0 E I λa E=>?_;exact⟨A1,T1,ks,⟨by omega,wF,FP,by omega,rH.1,rH.2,rfl,tf.1,tf.2.1⟩,E.ab [0,2],(aF.fold I ⟨mb,B,sq,r,tq,jq,dr,dA,aq,cO⟩ p ⟨s,A1,T1,J,ks,qB.id,front⟩).sub⟩
 clear E;(try clear I);rintro a w ⟨A2,T2,qC,⟨Z4,oL,Mo,FQ,Z5,Bf,cd,eX,pv⟩,E,I⟩;refine RN 1 E I λa E=>?_;replace I:=aF.open I;dsimp only at I;refine aV 0 (λw0 w'=>Rd w' mb 0 (dR p ⟨mb,B,sq,r,tq,jq,dr,dA,aq,cO⟩ qC.length qB.id front)) [7,8] [0,1,2,4,5,6,3003,1007,1008,1009,10,11,12,13,14] E I λa w E I hH=>?_;have hC:=hH.at w (I.ai (b:=mb));refine RH 6 E I hH hC λa E=>?_;refine QH E (λw hc=>ae E (hc 3 _ rfl)) hC λa E=>?_;refine RH 0 E I hH hC λa E=>?_;refine SS E (ae E (hC 0 _ rfl)) λa E=>?_;refine RH 0 E I hH hC λa E=>?_;refine CL 0 E I (Mg (I.pick (aQ W B p s))) λa w E I=>?_;replace hC:=hH.at w (I.ai (b:=mb));have vO:=(ax.facts (I.store sq)).1;refine RH 0 E I hH hC λa E=>?_;refine bh 0 E I (IQ (g:=s.g) (I.store sq) Z4 (by omega)) λt' a w E ⟨⟨Z6,FR⟩,I⟩=>?_;refine RN 5 E I λa E=>?_;refine RN 4 E I λa E=>?_;replace E:=E.aM 55;refine aV 2 (λw0 w'=>Rd w' mb 0 (dR p ⟨mb,B,sq,r,tq,jq,dr,dA,aq,cO⟩ qC.length qB.id front)) [7] [0,1,2,4,5,6,3003,1007,1008] E I λa w E I hH=>?_;have hC:=hH.at w (I.ai (b:=mb));refine RH 6 E I hH hC λa E=>?_;refine QH E (λw hc=>ae E (hc 3 _ rfl)) hC λa E=>?_;refine RH 0 E I hH hC λa E=>?_;refine SS E (ae E (hC 7 _ rfl)) λa E=>?_;refine RH 0 E I hH hC λa E=>?_;refine bh 0 E I (zP (I.store sq)) λ_ a w E I=>?_;refine ST 6 E I (λa w E I=>?_);refine ST 2 E I (λa w E I=>?_);refine RT 0 E I ?_;have hm:=oL.ZR (F':=(aw s.k:Int)) (g:=s.g) (t':=t') vO (by omega) Mo hg;have hd:=og (A2.add s.g t') qB.id;exact⟨⟨s,(A2.add s.g t').et qB.id,T2,J,qC,A2.last+1,aU s.k.ls⟩,t',rfl,⟨hm,rfl,rfl,rfl,hd.1.trans eX,by rw[hd.2.1];show A2.n+1≤A.n+1;omega,Z5,Bf,FQ,cd,.inr Mo,λe=>(by have e2:front=aU s.k.ls:=e;exfalso;omega)⟩,aF.fold I ⟨mb,B,sq,r,tq,jq,dr,dA,aq,cO⟩ p ⟨s,(A2.add s.g t').et qB.id,T2,J,qC,A2.last+1,aU s.k.ls⟩⟩
end
end
section
abbrev bj (xs:List dY):List (List UInt8):=xs.map (·.2.2)
theorem rI {xs:List dY}{i:Nat}{x:dY}(h:xs[i]?=some x):(bj xs).getD i []=x.2.2:=by
 rw[bn,bm,h];rfl
theorem fS (xs:List dY):(bj xs).length=xs.length:=bd _
theorem hU.at {w:World}{ad:Option Addr}{xs:List dY}(h:hU w ad xs){i:Nat}(hi:i<xs.length):∃ b off x,ad=some ⟨b,off,none⟩∧xs[i]?=some x∧w.cell? ⟨b,off+i,none⟩=some (aK x)∧aX w x.1 x.2.2.length x.2.2:=by
 obtain⟨b,off,hb,hr⟩:=h.1 (by omega);have hx:xs[i]?=some xs[i]:=aE hi;exact⟨b,off,xs[i],hb,hx,hr i _ (by rw[bm,hx];rfl),h.2 _ (bH hx)⟩
section
variable {W w:World}{L:List SP}{m cT to r f cl:Nat}{adT g5:Option Addr}{past:List UInt8}{b:Gs}{xs:List dY}
theorem Bg (I:U W w L)(h0:0<xs.length)(h8:xs.length≤8)(hp:∀ w',U W w' L→hU w' g5 xs) :
   Calls prog 41 #[.slice g5 xs.length cl] w λe w'=>e=.returned (.int .i64 (aU (bj xs)))∧U W w' L:=by
 refine EN func41 ntmps41 rfl rfl λa E=>?_;refine RN 3 E I λa E=>?_;obtain⟨lX,ol,x0,rfl,Z7,py,fE⟩:=(hp _ I).at h0;refine RN 3 E I λa E=>?_;refine SS E (ae E (py)) λa E=>?_;rw[aK]at E;refine RN 5 E I λa E=>?_;rw[show ((x0.2.2.length:Nat):Int)=(iF (bj xs) 1:Nat) from by rw[Yk,iF,List.headD_eq_getD,rI Z7]]at E;refine aO (λμ a w=>∃ (i:Nat),(μ=xs.length-i∧i≤xs.length∧1≤i)∧Fr a 25 [(0,.slice (some ⟨lX,ol,none⟩) xs.length cl),(3,.int .i64 (iF (bj xs) i:Nat)),(4,.int .i64 i)]∧U W w L) (xs.length-1) (⟨1,⟨rfl,by omega,by omega⟩,E.ab [0,3,4],I⟩) ?_;clear E I;rintro μ a w ⟨i,⟨rfl,hi,ld⟩,E,I⟩;refine IF 6 E I (λaj a E=>?_) λaj a E=>?_
 ·
  obtain⟨_,_,x,gX,hx,py,fE⟩:=(hp _ I).at (i:=i) (by omega);cases gX;refine RN 6 E I λa E=>?_;refine SS E (ae E (py)) λa E=>?_;rw[aK]at E;refine RN 2 E I λa E=>?_;rw[show min ((iF (bj xs) i:Nat):Int) ((x.2.2.length:Nat):Int)=((iF (bj xs) (i+1):Nat):Int) from by rw[iF,rI hx];omega]at E;refine RN 4 E I λa E=>?_;exact⟨xs.length-(i+1),by omega,i+1,⟨rfl,by omega,by omega⟩,E.ab [0,3,4],I⟩
 refine RT 3 E I ?_;obtain rfl:i=xs.length:=by omega
 exact⟨by rw[aU,fS],I⟩
theorem FT (I:U W w L)(h0:0<xs.length)(h8:xs.length≤8)(hp:∀ w',U W w' L→hU w' g5 xs)(hf:f<aU (bj xs)) :
   Calls prog 40 #[.slice g5 xs.length cl,.int .i64 f] w λe w'=>∃ av c',e=.returned (.slice av (bJ (bj xs) f).length c')∧U W w' (Sl 5 1 av (bJ (bj xs) f).length c' (bc (bJ (bj xs) f))::L):=by
 refine EN func40 ntmps40 rfl rfl λa E=>?_;refine RN 7 E I λa E=>?_;replace I:=I.bN 5 1 none;refine aO (λμ a w=>∃ (i:Nat) (ad2:Option Addr) (c2:Nat),(μ=xs.length-i∧i≤xs.length)∧Fr a 25 [(0,.slice g5 xs.length cl),(1,.int .i64 f),(5,.slice ad2 (fw (bj xs) f i).length c2),(6,.int .i64 i)]∧U W w (Sl 5 1 ad2 (fw (bj xs) f i).length c2 (bc (fw (bj xs) f i))::L)) (xs.length) (⟨0,none,0,⟨rfl,by omega⟩,E.ab [0,1,5,6],I⟩) ?_;clear E I;rintro μ a w ⟨i,ad2,c2,⟨rfl,hi⟩,E,I⟩;refine IF 6 E I (λaj a E=>?_) λaj a E=>?_
 ·
  obtain⟨lX,ol,x,rfl,hx,py,fE⟩:=(hp _ I.tail).at (i:=i) (by omega);have dZ:f<x.2.2.length:=by
   have h1:=v8 (ls:=bj xs) (l:=x.2.2) (cV.2 ⟨x,bH hx,rfl⟩);omega
  obtain⟨mw,ox,gX,gl⟩:=fE.get (by omega);have ei:=sX (ls:=bj xs) (f:=f) (i:=i) (by rw[fS];exact hi);refine RN 6 E I λa E=>?_;refine SS E (ae E (py)) λa E=>?_;rw[aK,gX]at E;refine RN 2 E I λa E=>?_;refine SS E (ae E (gl f _ (kX dZ))) λa E=>?_;refine RN 0 E I λa E=>?_;refine cr E rfl I underlying22 Ty.t5 rfl rfl rfl rfl (by decide) (by decide) λuc a w E I ho=>?_;clear ho;refine RN 0 E I λa E=>?_;refine cK E rfl I underlying22 Ty.t5 rfl rfl I.ai rfl (eo [x.2.2.getD f 0]) (by decide) (by decide) (by omega) λgq gr a w E I=>?_;rw[show bc (fw (bj xs) f i)++_=bc (fw (bj xs) f (i+1)) from by rw[AI (by rw[fS];omega),getElem_map,fG,(a2.1 hx).2],show (fw (bj xs) f i).length+1=(fw (bj xs) f (i+1)).length from by rw[ei,sX (by rw[fS];omega)]]at I;rw[show (fw (bj xs) f i).length+1=(fw (bj xs) f (i+1)).length from by rw[ei,sX (by rw[fS];omega)]]at E;refine RN 4 E I λa E=>?_;exact⟨xs.length-(i+1),by omega,i+1,gq,gr,⟨rfl,by omega⟩,E.ab [0,1,5,6],I.sub⟩
 refine RT 3 E I ?_;obtain rfl:i=xs.length:=by omega
 have hj:fw (bj xs) f xs.length=bJ (bj xs) f:=by
  conv=>lhs;rw[← fS xs]
  exact AH _ _
 rw[hj]at I ⊢;exact⟨_,_,rfl,I⟩
set_option maxHeartbeats 1000000 in
theorem Bh (hr:r≤100000)(I:U W w L)(hb:cX b)(h0:0<xs.length)(h8:xs.length≤8)(hl:∀ l∈bj xs,l.length≤1000)(s4:to≤1000)(hp:∀ w',U W w' L→hU w' g5 xs)(ht:∀ w',U W w' L→aX w' adT b.table.length b.table) :
   Calls prog 117 #[.slice g5 xs.length cl,.agg (di b adT cT).toArray,.int .i64 r,.int .i64 to] w λe w'=>∃ (av:Option Addr) (c':Nat) (X:List (List UInt8)),e=.returned (.slice av (to-aU (bj xs)) c')∧(yy to (bj xs) X∧(r=0→X=iS b (bj xs) to)) ∧
    U W w' (cg av (to-aU (bj xs)) c' (nf X (aU (bj xs)) to)::L):=by
 have bD:bj xs≠[]:=λe=>by have h1:=fS xs;rw[e]at h1;simp at h1;omega
 have fp:aU (bj xs)≤1000:=by
  obtain⟨l,kN,kq⟩:=AG bD;rw[kq];exact hl l kN
 refine EN func117 ntmps117 rfl rfl λa E=>?_;refine BX 1 E I λb5 a w E I=>?_;change U W w (aa b5 47 (di b adT cT)::_) at I;refine CL 3 E I (Bg (cl:=cl) I h0 h8 (λw' hw=>hp w' hw.tail)) λa w E I=>?_;refine bh 4 E I (FE I) λrG a w E ⟨jD,I⟩=>?_;rw[jD.2 hb]at E;refine RN 2 E I λa E=>?_;replace E:=E.aM 23;refine RN 4 E I λa E=>?_;rw[bq (by omega)]at E;refine RN 4 E I λa E=>?_;rw[bq (by omega)]at E;refine IF 4 E I (λaj a E=>?_) λaj a E=>?_
 ·
  refine RT 2 E I ?_;have hz:to-aU (bj xs)=0:=by omega
  refine⟨none,0,iS b (bj xs) to,by rw[hz],⟨⟨by rw[iS,bd],λj l x hj hx=>?_⟩,λ_=>rfl⟩,?_⟩
  ·rw[iS,bm,hj]at hx;obtain rfl:nI b l to=x:=by simpa using hx
   exact Zu (hl l (bH hj)) s4
  ·rw[nf,hz];exact cg.nil I.tail
 refine RN 7 E I λa E=>?_;replace I:=I.bN 22 1 none;replace I:=U.iN (f:=a8) I;have afj:aU (bj xs)<to:=by omega
 refine aO (λμ a w=>∃ (i:Nat) (Mp:Bool) (ys:List dY) (ng:Option Addr) (nh:Nat),(μ=xs.length-i∧i≤xs.length∧ys.length=i∧(∀ (j:Nat) (l:List UInt8) (x:dY),(bj xs)[j]?=some l→ys[j]?=some x→wz to l x.2.2)∧(r=0→bj ys=(iS b (bj xs) to).take i))∧Fr a 117 [(0,.slice g5 xs.length cl),(2,.int .i64 r),(3,.int .i64 to),(5,pt b5),(9,.int .i64 (aU (bj xs))),(10,.slice ng i nh),(11,.bool Mp),(12,.int .i64 i)]∧U W w (Sl 22 1 ng i nh (ys.map aK)::ah a8 ys::aa b5 47 (di b adT cT)::L)) (xs.length) (⟨0,false,[],none,0,⟨rfl,by omega,rfl,λj l x _ h=>by simp at h,λ_=>rfl⟩,E.ab [0,2,3,5,9,10,11,12],(I.sub:U W w (Sl 22 1 none 0 0 []::ah a8 []::aa b5 47 (di b adT cT)::L))⟩) ?_;clear E I;rintro μ a w ⟨i,Mp,ys,ng,nh,⟨rfl,hi,iH,nr,uD⟩,E,I⟩;refine IF 6 E I (λao a E=>?_) λao a E=>?_
 ·
  obtain⟨lX,ol,x,rfl,hx,py,fE⟩:=(hp _ I.tail.tail.tail).at (i:=i) (by omega);have eC:(bj xs)[i]?=some x.2.2:=by rw[bm,hx];rfl
  have bW:=hl _ (bH eC);replace I:=I.bN 5 1 none;refine RN 6 E I λa E=>?_;refine SS E (ae E (py)) λa E=>?_;rw[aK]at E;refine RN 0 E I λa E=>?_;refine g2 E rfl I underlying22 Ty.t5 rfl rfl (by decide) (λh0=>fE.get h0) (by rw[dt];omega) (eo _) (by omega) λpH ru a w E I=>?_;rw[nil_append,Nat.zero_add]at I;rw[Nat.zero_add]at E;refine RN 1 E I λa E=>?_;refine cc (M:=λa w=>∃ (Bi:Bool) (cY:Option Addr) (dP:Nat) (y:List UInt8),((∃ t,y=x.2.2++t)∧y.length≤x.2.2.length+1∧(y=x.2.2∨x.2.2.length=aU (bj xs))∧(r=0→y=x.2.2))∧Fr a 117 [(0,.slice (some ⟨lX,ol,none⟩) xs.length cl),(2,.int .i64 r),(3,.int .i64 to),(5,pt b5),(9,.int .i64 (aU (bj xs))),(10,.slice ng i nh),(11,.bool Bi),(12,.int .i64 i),(13,.slice cY y.length dP)]∧U W w (Sl 5 1 cY y.length dP (bc y)::Sl 22 1 ng i nh (ys.map aK)::ah a8 ys::aa b5 47 (di b adT cT)::L)) ?_ ?_
  ·
   refine BY 4 E I (λbA a E=>?_) λbA a E=>?_
   ·
    refine BY 4 E I (λjX a E=>?_) λjX a E=>?_
    ·
     refine IF 5 E I (λay a E=>?_) λay a E=>?_
     ·
      refine RN 2 E I λa E=>?_;have yd:r%256<256:=Nat.mod_lt _ (by decide);have Z8:=(I.sl pH).2;refine SX 4 E I (by decide) λa E=>?_;rw[show ((r:Nat):Int).tmod 256=((r%256:Nat):Int) from nY _ 256]at E;generalize lO:r%256=r6 at E yd;refine RN 1 E I λa E=>?_;rw[show ((r6:Nat):Int)+1=((r6+1:Nat):Int) from by omega]at E;refine jO 0 E I (LN (past:=x.2.2) (k:=r6+1) I hb (by omega) (by omega) Z8 (λw' hw=>hw.cu pH x.2.2 rfl rfl) (λw' hw=>ht w' hw.tail.tail.tail.tail)) λrk oz out a w E ⟨⟨dV,_⟩,I⟩=>?_;obtain⟨gm,or',rfl,jD⟩:=I.bV rk (by omega);refine SX 1 E I (by decide) λa E=>?_;rw[show ((r:Nat):Int).tmod 256=((r6:Nat):Int) from by rw[← lO];exact nY _ 256]at E;refine RN 1 E I λa E=>?_;refine SS E (ae E (jD r6 _ (dQ (by omega)))) λa E=>?_;refine RN 0 E I λa E=>?_;refine cr E rfl I underlying22 Ty.t5 rfl rfl rfl rfl (by decide) (by decide) λXJ a w E I ho=>?_;clear ho;refine RN 0 E I λa E=>?_;refine cK E rfl I underlying22 Ty.t5 rfl rfl I.ai rfl (eo [out[r6]]) (by decide) (by decide) (by omega) λKl Km a w E I=>?_;rw[show bc x.2.2++_=bc (x.2.2++[out[r6]]) from (fG _ [_]).symm,show x.2.2.length+1=(x.2.2++[out[r6]]).length from by simp]at I;rw[show x.2.2.length+1=(x.2.2++[out[r6]]).length from by simp]at E;refine RN 1 E I λa E=>?_;exact⟨_,Kl,Km,x.2.2++[out[r6]],⟨⟨_,rfl⟩,by simp,.inr (by omega),λh=>by omega⟩,E.ab [0,2,3,5,9,10,11,12,13],I.sub⟩
     refine RN 0 E I λa E=>?_;exact⟨_,pH,ru,x.2.2,⟨⟨[],by simp⟩,by omega,.inl rfl,λ_=>rfl⟩,E.ab [0,2,3,5,9,10,11,12,13],I.sub⟩
    refine RN 6 E I λa E=>?_;exact⟨_,pH,ru,x.2.2,⟨⟨[],by simp⟩,by omega,.inl rfl,λ_=>rfl⟩,E.ab [0,2,3,5,9,10,11,12,13],I.sub⟩
   refine RN 10 E I λa E=>?_;exact⟨_,pH,ru,x.2.2,⟨⟨[],by simp⟩,by omega,.inl rfl,λ_=>rfl⟩,E.ab [0,2,3,5,9,10,11,12,13],I.sub⟩
  clear E;(try clear I);rintro a w ⟨Bi,cY,dP,y,⟨fZ,gA,Zy,k6⟩,E,I⟩;refine cc (M:=λa w=>∃ (adq:Option Addr) (cq:Nat) (z:List UInt8),(wz to x.2.2 z∧(r=0→z=nI b x.2.2 to))∧Fr a 117 [(0,.slice (some ⟨lX,ol,none⟩) xs.length cl),(2,.int .i64 r),(3,.int .i64 to),(5,pt b5),(9,.int .i64 (aU (bj xs))),(10,.slice ng i nh),(11,.bool Bi),(12,.int .i64 i),(13,.slice adq z.length cq)]∧U W w (Sl 5 1 adq z.length cq (bc z)::Sl 22 1 ng i nh (ys.map aK)::ah a8 ys::aa b5 47 (di b adT cT)::L)) ?_ ?_
  ·
   refine IF 5 E I (λbk a E=>?_) λbk a E=>?_
   ·
    have oK:=(I.sl cY).2;have FI:=EZ b y (to-y.length);refine RN 7 E I λa E=>?_;rw[show ((to:Nat):Int)-((y.length:Nat):Int)=((to-y.length:Nat):Int) from by omega]at E;refine aY 0 E I (Zq (past:=y) (m:=to-y.length) I hb (by omega) oK (by omega) (λw' hw=>hw.cu cY y rfl rfl) (λw' hw=>ht w' hw.tail.tail.tail.tail)) λadc Zz a w E I=>?_;refine RN 0 E I λa E=>?_;refine g2 E rfl I underlying22 Ty.t5 rfl rfl (by decide) (λh0=>(I.cu adc (j4 b y (to-y.length)) rfl FI).get h0) (by rw[dt];omega) (eo _) (by omega) λZ9 c85 a w E I=>?_;rw[← fG,uq,show y.length+(to-y.length)=(ef b y (to-y.length)).length from by rw[im]]at I;rw[show y.length+(to-y.length)=(ef b y (to-y.length)).length from by rw[im]]at E;refine RN 1 E I λa E=>?_;obtain⟨t,FJ⟩:=fZ;refine⟨Z9,c85,_,⟨⟨⟨t++j4 b y (to-y.length),?_⟩,by rw[im];omega,by rw[im];omega⟩,λh=>?_⟩,E.ab [0,2,3,5,9,10,11,12,13],I.sub⟩
    ·rw[← uq,FJ,ds]
    ·rw[k6 h,nI]
   refine RN 0 E I λa E=>?_;exact⟨cY,dP,y,⟨⟨fZ,by omega,by omega⟩,λh=>by rw[LP (by rw[← k6 h];omega)];exact k6 h⟩,E.ab [0,2,3,5,9,10,11,12,13],I⟩
  clear E;(try clear I);rintro a w ⟨adq,cq,z,⟨cU,eN⟩,E,I⟩;refine RN 2 E I λa E=>?_;refine cr E rfl I underlying207 Ty.t22 rfl rfl rfl rfl (by decide) (by decide) λb88 a w E I ho=>?_;clear ho;refine RN 0 E I λa E=>?_;refine cK E rfl I underlying207 Ty.t22 rfl rfl I.ai rfl (by simp[Value.oneCell']) (by decide) (by decide) (by omega) λMq Mr a w E I=>?_;rw[show List.map aK ys++_=List.map aK (ys++[(adq,cq,z)]) from by rw[cW];rfl]at I;refine RN 4 E I λa E=>?_;have du:=U.jM (f:=a8) (x:=(adq,cq,z)) (I.sub (M:=Sl 5 1 adq z.length cq (bc z)::ah a8 ys::Sl 22 1 Mq (i+1) Mr ((ys++[(adq,cq,z)]).map aK)::aa b5 47 (di b adT cT)::L));refine⟨xs.length-(i+1),by omega,i+1,Bi,ys++[(adq,cq,z)],Mq,Mr,⟨rfl,by omega,by rw[aL,iH];rfl,λj l y hj hy=>?_,λh=>?_⟩,E.ab [0,2,3,5,9,10,11,12],du.sub⟩
  ·by_cases gP:j<i
   ·rw[l4 (by omega)]at hy;exact nr j l y hj hy
   ·have ei:=(a2.1 hy).1;rw[aL,jl]at ei;obtain rfl:j=i:=by omega
    rw[getElem?_append_right (by omega),iH,Nat.sub_self]at hy;obtain rfl:(adq,cq,z)=y:=by simpa using hy
    rw[eC]at hj;obtain rfl:x.2.2=l:=by simpa using hj
    exact cU
  ·rw[bj,cW,← bj,uD h,jd (by rw[iS,bd,fS];omega)]
   congr 1
   rw[map_singleton,eN h];simp only[iS,getElem_map];rw[(a2.1 hx).2]
 obtain rfl:i=xs.length:=by omega
 have ik:yy to (bj xs) (bj ys):=⟨by rw[fS,fS];exact iH,λj l x hj hx=>by
  rw[bm]at hx;obtain⟨y,hy,rfl⟩:=Option.map_eq_some_iff.1 hx;exact nr j l y hj hy⟩
 have mD:r=0→bj ys=iS b (bj xs) to:=λh=>by rw[uD h,fX (by rw[iS,bd,fS];exact a7 _)]
 clear nr uD;refine RN 6 E I λa E=>?_;replace I:=I.bN 22 1 none;replace I:=U.iN (f:=a8) I;refine aO (λμ a w=>∃ (d:Nat) (zs:List dY) (mE:Option Addr) (mF:Nat),(μ=to-aU (bj xs)-d∧d≤to-aU (bj xs)∧bj zs=(List.range d).map λi=>bJ (bj ys) (aU (bj xs)+i))∧Fr a 117 [(0,.slice g5 xs.length cl),(3,.int .i64 to),(10,.slice ng xs.length nh),(14,.slice mE d mF),(15,.int .i64 (aU (bj xs)+d:Nat))]∧U W w (Sl 22 1 mE d mF (zs.map aK)::ah a8 zs::Sl 22 1 ng xs.length nh (ys.map aK)::ah a8 ys::L)) (to-aU (bj xs)) (⟨0,[],none,0,⟨rfl,by omega,rfl⟩,by rw[Nat.add_zero];exact E.ab [0,3,10,14,15],(I.sub:U W w (Sl 22 1 none 0 0 []::ah a8 []::Sl 22 1 ng xs.length nh (ys.map aK)::ah a8 ys::L))⟩) ?_;clear E I;rintro μ a w ⟨d,zs,mE,mF,⟨rfl,hd,s9⟩,E,I⟩;refine IF 5 E I (λbO a E=>?_) λbO a E=>?_
 ·
  refine RN 6 E I λa E=>?_;replace I:=I.bN 5 1 none;refine aO (λμ a w=>∃ (i:Nat) (iI:Option Addr) (iT:Nat),(μ=xs.length-i∧i≤xs.length)∧Fr a 117 [(0,.slice g5 xs.length cl),(3,.int .i64 to),(10,.slice ng xs.length nh),(14,.slice mE d mF),(15,.int .i64 (aU (bj xs)+d:Nat)),(16,.slice iI i iT),(17,.int .i64 i)]∧U W w (Sl 5 1 iI i iT (bc (fw (bj ys) (aU (bj xs)+d) i))::Sl 22 1 mE d mF (zs.map aK)::ah a8 zs::Sl 22 1 ng xs.length nh (ys.map aK)::ah a8 ys::L)) (xs.length) (⟨0,none,0,⟨rfl,by omega⟩,E.ab [0,3,10,14,15,16,17],I⟩) ?_;clear E I;rintro μ a w ⟨i,iI,iT,⟨rfl,hi⟩,E,I⟩;refine IF 6 E I (λeE a E=>?_) λeE a E=>?_
  ·
   have aH:i<xs.length:=by omega
   have A6:=U.ma (xs:=ys) (I.sub (M:=Sl 22 1 ng xs.length nh (ys.map aK)::ah a8 ys::[]));obtain⟨a1,afk,y,rfl,hy,ni,oM⟩:=A6.at (i:=i) (by omega);have Bj:=ik.fit i _ y.2.2 (aE (by rw[fS];exact aH)) (by rw[bm,hy];rfl);obtain⟨bb,oo,tg,gl⟩:=oM.get (by have:=Bj.2.1;omega);refine RN 5 E I λa E=>?_;refine SS E (ae E (ni)) λa E=>?_;rw[aK,tg]at E;refine SX 1 E I (by have:=Bj.2.1;omega) λa E=>?_;refine RN 0 E I λa E=>?_;refine SS E (ae E (gl (aU (bj xs)+d) _ (kX (by have:=Bj.2.1;omega)))) λa E=>?_;refine RN 0 E I λa E=>?_;refine cr E rfl I underlying22 Ty.t5 rfl rfl rfl rfl (by decide) (by decide) λQ5 a w E I ho=>?_;clear ho;refine RN 0 E I λa E=>?_;refine cK E rfl I underlying22 Ty.t5 rfl rfl I.ai rfl (eo [y.2.2.getD (aU (bj xs)+d) 0]) (by decide) (by decide) (by omega) λaaa aab a w E I=>?_;rw[show bc (fw (bj ys) (aU (bj xs)+d) i)++_=bc (fw (bj ys) (aU (bj xs)+d) (i+1)) from by rw[AI (by rw[fS];omega),getElem_map,fG,(a2.1 hy).2]]at I;refine RN 4 E I λa E=>?_;exact⟨xs.length-(i+1),by omega,i+1,aaa,aab,⟨rfl,by omega⟩,E.ab [0,3,10,14,15,16,17],I.sub⟩
  obtain rfl:i=xs.length:=by omega
  have ei:fw (bj ys) (aU (bj xs)+d) xs.length=bJ (bj ys) (aU (bj xs)+d):=by
   conv=>lhs;rw[← iH,← fS]
   exact AH _ _
  rw[ei]at I;have p8:(bJ (bj ys) (aU (bj xs)+d)).length=xs.length:=by rw[m8,fS];exact iH
  refine RN 2 E I λa E=>?_;refine cr E rfl I underlying207 Ty.t22 rfl rfl rfl rfl (by decide) (by decide) λQ6 a w E I ho=>?_;clear ho;refine RN 0 E I λa E=>?_;refine cK E rfl I underlying207 Ty.t22 rfl rfl I.ai rfl (by simp[Value.oneCell']) (by decide) (by decide) (by omega) λMs Mt a w E I=>?_;rw[show List.map aK zs++_=List.map aK (zs++[(iI,iT,bJ (bj ys) (aU (bj xs)+d))]) from by rw[cW,map_singleton,aK,p8];rfl]at I;refine RN 4 E I λa E=>?_;have du:=U.jM (f:=a8) (x:=(iI,iT,bJ (bj ys) (aU (bj xs)+d))) (by
   rw[a8,p8];exact I.sub (M:=Sl 5 1 iI xs.length iT (bc (bJ (bj ys) (aU (bj xs)+d)))::ah a8 zs::Sl 22 1 Ms (d+1) Mt ((zs++[(iI,iT,bJ (bj ys) (aU (bj xs)+d))]).map aK)::Sl 22 1 ng xs.length nh (ys.map aK)::ah a8 ys::L))
  exact⟨to-aU (bj xs)-(d+1),by omega,d+1,zs++[(iI,iT,bJ (bj ys) (aU (bj xs)+d))],Ms,Mt,⟨rfl,by omega,by rw[bj,cW,← bj,s9,range_succ,cW];rfl⟩,by rw[show ((aU (bj xs)+(d+1):Nat):Int)=((aU (bj xs)+d:Nat):Int)+1 from by omega];exact E.ab [0,3,10,14,15],du.sub⟩
 obtain rfl:d=to-aU (bj xs):=by omega
 refine RT 3 E I ?_;exact⟨mE,mF,bj ys,rfl,⟨ik,mD⟩,cg.close (xs:=zs) (I.sub (M:=Sl 22 1 mE (to-aU (bj xs)) mF (zs.map aK)::ah a8 zs::L)) s9 (A5 _ _ _)⟩
end
end
section
section
variable {W w:World}{Z:List SP}{n c i tq sq r nk base front:Nat}{ad:Option Addr}{M:js}{B:iU}{y:UInt8}{x:Br}{p:Pr}{s:Pl}{T:Tr}
theorem aac (I:U W w (aa M.mb 177 (dR p M nk base front)::aQ W M.B p s::Z))(hw:cw p s)(hx:vA W (aa M.mb 177 (dR p M nk base front)::aQ W M.B p s::Z) ad x.al)
   (hf:x.frm=(front:Int)) (hj:∀ j∈x.al,j.length=s.k.n) (hb:front+x.al.length≤100000) :
   Calls prog 288 #[pt M.mb,.agg (ch x ad c).toArray] w λe w'=>e=.returned (.bool (jt s.k.ls front x.al))∧U W w' (aa M.mb 177 (dR p M nk base front)::aQ W M.B p s::Z):=by
 obtain⟨zs,hz,hx⟩:=hx;have bD:=hw.wc.k0;have eQ:=hw.wc.ls;have wG:=hw.wc.n;have iY:zs.length=x.al.length:=by rw[← hz,bd]
 refine EN func288 ntmps288 rfl rfl λa E=>?_;refine BX 1 E I λb3 a w E I=>?_;refine CL 6 E I (nL (I.pick (aQ W M.B p s))) λa w E I=>?_;replace I:=aQ.open I;refine CL 0 E I (oI (I.pick (az M.B.core s.k))) λa w E I=>?_;refine RN 1 E I λa E=>?_;obtain⟨D,I,hD⟩:=az.qu I;have Mv:∀ w',U W w' (Qu M.B.core.qb M.B.core.aB s.k.ls::D::aa M.B.pb 192 (gu p M.B s.g)::aA W p M.B.aq M.B.cO::Sl 5 1 M.B.adT M.B.gs.table.length M.B.cT (bc M.B.gs.table)::aa M.mb 177 (dR p M nk base front)::Z)→hU w' ad zs :=
  λw' h=>hx w' ((aQ.fold (hD _ _ h) M.B p s).sub)
 refine RN 6 E I λa E=>?_;refine aO (λμ a w=>∃ (i:Nat),(μ=x.al.length-i∧i≤x.al.length∧(∀ j,j<i→te s.k.ls (front+j) (x.al.getD j [])=true))∧Fr a 59 [(0,pt M.mb),(3,pt b3),(5,pt M.B.core.qb),(19,.slice ad x.al.length c),(20,.int .i64 x.al.length),(21,.int .i64 i)]∧U W w (Qu M.B.core.qb M.B.core.aB s.k.ls::D::aa b3 238 (ch x ad c)::aa M.B.pb 192 (gu p M.B s.g)::aA W p M.B.aq M.B.cO::Sl 5 1 M.B.adT M.B.gs.table.length M.B.cT (bc M.B.gs.table)::aa M.mb 177 (dR p M nk base front)::Z)) (x.al.length) (⟨0,⟨rfl,by omega,λj h=>absurd h (by omega)⟩,E.ab [0,3,5,19,20,21],I.sub⟩) ?_;clear E I;rintro μ a w ⟨i,⟨rfl,hi,uG⟩,E,I⟩;refine IF 3 E I (λaj a E=>?_) λaj a E=>?_
 ·
  have aH:i<zs.length:=by omega
  obtain⟨mw,ox,z,gY,kA,mf,FU⟩:=(Mv _ I.sub).at aH;have Mw:x.al.getD i []=z.2.2:=by rw[bn,← hz,bm,kA];rfl
  have JK:z.2.2.length=s.k.n:=hj _ (by rw[← hz];exact cV.2 ⟨z,bH kA,rfl⟩);refine RN 3 E I λa E=>?_;rw[gY]at E;refine RN 1 E I λa E=>?_;refine SS E (ae E (mf)) λa E=>?_;rw[← gY]at E;rw[aK]at E;refine RN 6 E I λa E=>?_;refine aO (λμ a w=>∃ (v:Nat),(μ=z.2.2.length-v∧v≤z.2.2.length∧(∀ q,q<v→front+i<(s.k.ls.getD q []).length→(s.k.ls.getD q []).getD (front+i) 0=z.2.2.getD q 0))∧Fr a 59 [(0,pt M.mb),(3,pt b3),(5,pt M.B.core.qb),(6,.int .i64 i),(19,.slice ad x.al.length c),(20,.int .i64 x.al.length),(21,.int .i64 i),(26,.slice z.1 z.2.2.length z.2.1),(27,.int .i64 z.2.2.length),(28,.int .i64 v)]∧U W w (Qu M.B.core.qb M.B.core.aB s.k.ls::D::aa b3 238 (ch x ad c)::aa M.B.pb 192 (gu p M.B s.g)::aA W p M.B.aq M.B.cO::Sl 5 1 M.B.adT M.B.gs.table.length M.B.cT (bc M.B.gs.table)::aa M.mb 177 (dR p M nk base front)::Z)) (z.2.2.length) (⟨0,⟨rfl,by omega,λj h=>absurd h (by omega)⟩,E.ab [0,3,5,6,19,20,21,26,27,28],I⟩) ?_;clear E I;rintro μ a w ⟨v,⟨rfl,hv,FV⟩,E,I⟩;refine IF 3 E I (λao a E=>?_) λao a E=>?_
  ·
   have Bk:v<z.2.2.length:=by omega
   have My:v<s.k.ls.length:=by omega
   obtain⟨afl,afm,cU,Bl⟩:=((Mv _ I.sub).2 z (bH kA)).get (by omega);refine RN 3 E I λa E=>?_;rw[cU]at E;refine RN 1 E I λa E=>?_;refine SS E (ae E (Bl v _ (kX Bk))) λa E=>?_;rw[← cU]at E;refine aV 3 (λw0 w'=>Rd w' b3 0 (ch x ad c)) [2] [0,1,3,5,3004,6,1002,1007,8,9,10,11,12] E I λa w E I hH=>?_;have hC:=hH.at w (I.ai (b:=b3));refine RH 4 E I hH hC λa E=>?_;refine QH E (λw hc=>ae E (hc 1 _ rfl)) hC λa E=>?_;refine RH 1 E I hH hC λa E=>?_;rw[hf,show ((front:Nat):Int)+(i:Int)=((front+i:Nat):Int) from rfl]at E;refine CL 0 E I (sY (I.pick (Qu M.B.core.qb M.B.core.aB s.k.ls)) My) λa w E I=>?_;replace hC:=hH.at w (I.ai (b:=b3));refine RH 0 E I hH hC λa E=>?_;refine CL 0 E I (Ys I My) λa w E I=>?_;refine RN 5 E I λa E=>?_;refine BY 3 E I (λmY a E=>?_) λmY a E=>?_
   ·
    refine IF 4 E I (λay a E=>?_) λay a E=>?_
    ·
     refine RT 2 E I ?_;exact⟨by rw[ZT (i:=i) (by omega) (by rw[Mw];exact ZS Bk mY (λe=>ay (by rw[e])))],((aQ.fold (hD _ _ I) M.B p s).sub)⟩
    refine RN 2 E I λa E=>?_;refine⟨z.2.2.length-(v+1),by omega,v+1,⟨rfl,by omega,λq hq h1=>?_⟩,E.ab [0,3,5,6,19,20,21,26,27,28],I.sub⟩;rcases (by omega:q<v∨q=v) with h | rfl
    ·exact FV q h h1
    ·exact UInt8.toNat.inj (by omega)
   refine RN 7 E I λa E=>?_;refine⟨z.2.2.length-(v+1),by omega,v+1,⟨rfl,by omega,λq hq h1=>?_⟩,E.ab [0,3,5,6,19,20,21,26,27,28],I.sub⟩;rcases (by omega:q<v∨q=v) with h | rfl
   ·exact FV q h h1
   ·omega
  refine RN 2 E I λa E=>?_;refine⟨x.al.length-(i+1),by omega,i+1,⟨rfl,by omega,λj hj=>?_⟩,E.ab [0,3,5,19,20,21],I.sub⟩;rcases (by omega:j<i∨j=i) with h | rfl
  ·exact uG j h
  ·rw[Mw];exact Mj λq hq=>FV q (by omega)
 refine bQ 1 [5] [0,2,3,4,3001,1005,6,7] E I λa w E I hH hC=>?_;refine RH 8 E I hH hC λa E=>?_;refine RT 0 E I ?_;exact⟨by rw[hf,dg rfl,Mk λj hj=>uG j (by omega)],((aQ.fold (hD _ _ I) M.B p s).sub)⟩
theorem aad {P:List (List UInt8)}(I:U W w (aa M.mb 177 (dR p M nk base front)::Tree M.tq M.sq T::Z))(hx:vA W Z ad P)(sN:P.length≤65536) :
   Calls prog 305 #[pt M.mb,.slice ad P.length c] w λe w'=>∃ r:Bool,e=.returned (.bool r)∧(r=true→T.l≠[])∧U W w' (aa M.mb 177 (dR p M nk base front)::Tree M.tq M.sq T::Z):=by
 obtain⟨zs,hz,hx⟩:=hx;have iY:zs.length=P.length:=by rw[← hz,bd]
 have kV:=Tree.wt (I.tree M.tq);have Mz:=kV.most;refine EN func305 ntmps305 rfl rfl λa E=>?_;refine aY 8 E I (zN (I.tree M.tq)) λth qD a w E I=>?_;obtain⟨xs,h1,h2,I⟩:=kO.open I;have bW:xs.length=T.l.length:=by rw[← h1,bd]
 refine RN 2 E I λa E=>?_;refine aO (λμ a w=>∃ (i:Nat),(μ=T.l.length-i∧i≤T.l.length)∧Fr a 61 [(0,pt M.mb),(1,.slice ad P.length c),(14,.slice th T.l.length qD),(15,.int .i64 T.l.length),(16,.int .i64 i)]∧U W w (Sl 238 5 th T.l.length qD (rows c5 xs)::ah bZ xs::Tree M.tq M.sq T::aa M.mb 177 (dR p M nk base front)::Z)) (T.l.length) (⟨0,⟨rfl,by omega⟩,E.ab [0,1,14,15,16],I.sub⟩) ?_;clear E I;rintro μ a w ⟨i,⟨xK,hi⟩,E,I⟩;refine IF 3 E I (λaj a E=>?_) λaj a E=>?_
 ·
  obtain⟨b',dB,rfl,c4⟩:=I.bV th (by omega);obtain⟨⟨x,eD,c8⟩,dT⟩:∃ y,xs[i]?=some y:=⟨_,aE (by omega)⟩;have fO:=n3 c4 dT;have jg:T.l[i]?=some x:=by rw[← h1,bm,dT];rfl
  have ku:=kV.ok x (bH jg);have hxP:=ku.1.1;have aae:T.l≠[]:=λe=>by rw[e]at jg;cases jg
  refine RN 3 E I λa E=>?_;refine SS E (bS E underlying238 rfl Ty.t238 (fO)) λa E=>?_;refine AL 0 E I λcH a w E I=>?_;refine SA 0 E I λa w E I=>?_;refine RN 6 E I λa E=>?_;refine cc (M:=λa w=>∃ q:Bool,(q=false→x.al.length≤P.length)∧Fr a 61 [(0,pt M.mb),(1,.slice ad P.length c),(6,pt cH),(7,.int .i64 x.al.length),(14,.slice (some ⟨b',dB,none⟩) T.l.length qD),(15,.int .i64 T.l.length),(16,.int .i64 i),(38,.bool q)]∧U W w (aa cH 238 (ch x eD c8)::Sl 238 5 (some ⟨b',dB,none⟩) T.l.length qD (rows c5 xs)::ah bZ xs::Tree M.tq M.sq T::aa M.mb 177 (dR p M nk base front)::Z)) ?_ ?_
  ·
   refine BY 5 E I (λdz a E=>?_) λdz a E=>?_
   ·
    refine RN 11 E I λa E=>?_;exact⟨_,(λh=>by first | omega | cases h),E.ab [0,1,6,7,14,15,16,38],I.sub⟩
   refine BY 5 E I (λuh a E=>?_) λuh a E=>?_
   ·
    refine RN 6 E I λa E=>?_;exact⟨_,(λh=>by first | omega | cases h),E.ab [0,1,6,7,14,15,16,38],I.sub⟩
   refine RN 6 E I λa E=>?_;exact⟨_,(λh=>by first | omega | cases h),E.ab [0,1,6,7,14,15,16,38],I.sub⟩
  clear E;(try clear I);rintro a w ⟨q,hq,E,I⟩;refine IF 0 E I (λao a E=>?_) λao a E=>?_
  ·
   refine RN 2 E I λa E=>?_;exact⟨T.l.length-(i+1),by omega,i+1,⟨rfl,by omega⟩,E.ab [0,1,14,15,16],I.sub⟩
  have mX:=hq ao;refine RN 6 E I λa E=>?_;refine aO (λμ a w=>∃ (v:Nat) (AE:Bool),(μ=x.al.length-v∧v≤x.al.length)∧Fr a 61 [(0,pt M.mb),(1,.slice ad P.length c),(6,pt cH),(7,.int .i64 x.al.length),(8,.bool AE),(14,.slice (some ⟨b',dB,none⟩) T.l.length qD),(15,.int .i64 T.l.length),(16,.int .i64 i),(39,.int .i64 x.al.length),(40,.int .i64 v)]∧U W w (aa cH 238 (ch x eD c8)::Sl 238 5 (some ⟨b',dB,none⟩) T.l.length qD (rows c5 xs)::ah bZ xs::Tree M.tq M.sq T::aa M.mb 177 (dR p M nk base front)::Z)) (x.al.length) (⟨0,true,⟨rfl,by omega⟩,E.ab [0,1,6,7,8,14,15,16,39,40],I⟩) ?_;clear E I;rintro μ a w ⟨v,AE,⟨rfl,hv⟩,E,I⟩;refine IF 3 E I (λay a E=>?_) λay a E=>?_
  ·
   have Bk:v<x.al.length:=by omega
   refine RN 4 E I λa E=>?_;obtain⟨qA,FW,DL,f9⟩:=(ah.pc (I.drew.pick (ah bZ xs)) dT).1.2 (by omega);obtain⟨rJ,rv,mq,MA⟩:=f9 v x.al[v] (aE Bk);obtain⟨dm,FX,z,gY,kA,mf,FU⟩:=(hx _ I.drew.sub).at (i:=v) (by omega);clear f9;refine qU 0 (λw'=>(Rd w' cH 0 (ch x eD c8)∧w'.cell? ⟨qA,FW+v,none⟩=some (.slice rJ x.al[v].length rv)∧aX w' rJ x.al[v].length x.al[v])∧(w'.cell? ⟨dm,FX+v,none⟩=some (aK z)∧aX w' z.1 z.2.2.length z.2.2)) [11,12] [0,1,2,4,8,9,10,3003,5,3006,3007,1011,1012,13,14,15] E I λa E=>?_;replace I:=I.drew;generalize w.drew=w at I mq MA mf FU ⊢;have hC:(Rd w cH 0 (ch x eD c8)∧w.cell? ⟨qA,FW+v,none⟩=some (.slice rJ x.al[v].length rv)∧aX w rJ x.al[v].length x.al[v])∧(w.cell? ⟨dm,FX+v,none⟩=some (aK z)∧aX w z.1 z.2.2.length z.2.2):=⟨⟨I.ai (b:=cH),mq,MA⟩,mf,FU⟩;have hH:=Hd.any (λw'=>(Rd w' cH 0 (ch x eD c8)∧w'.cell? ⟨qA,FW+v,none⟩=some (.slice rJ x.al[v].length rv)∧aX w' rJ x.al[v].length x.al[v])∧(w'.cell? ⟨dm,FX+v,none⟩=some (aK z)∧aX w' z.1 z.2.2.length z.2.2));refine RH 2 E I hH hC λa E=>?_;refine E.by (s:=44) (λmY E=>?_) (λmY E=>?_)
   ·
    refine RH 4 E I hH hC λa E=>?_;rw[gY]at E;refine RH 1 E I hH hC λa E=>?_;rw[← gY]at E;refine QH E (λw hc=>ae E (hc.1.1 2 _ rfl)) hC λa E=>?_;rw[DL]at E;refine RH 1 E I hH hC λa E=>?_;refine QH E (λw hc=>ae E (hc.1.2.1)) hC λa E=>?_;refine QH E (λw hc=>lj E underlying22 underlying5 underlying9 (hc.1.2.2)) hC λa E=>?_;refine RH 0 E I hH hC λa E=>?_;refine bo E (b7 E rfl (s:=44)) (ae E (hC.2.1)) rfl λa E=>?_;rw[aK]at E;refine RH 0 E I hH hC λa E=>?_;refine bo E (b7 E rfl (s:=44)) (lj E underlying22 underlying5 underlying9 (hC.2.2)) rfl λa E=>?_;refine RH 0 E I hH hC λa E=>?_;refine QP E (λw=>r4 E) λa E=>?_;refine RH 2 E I hH hC λa E=>?_;refine RN 2 E I λa E=>?_;exact⟨x.al.length-(v+1),by omega,v+1,_,⟨rfl,by omega⟩,E.ab [0,1,6,7,8,14,15,16,39,40],I.sub⟩
   refine RH 14 E I hH hC λa E=>?_;refine RN 2 E I λa E=>?_;exact⟨x.al.length-(v+1),by omega,v+1,_,⟨rfl,by omega⟩,E.ab [0,1,6,7,8,14,15,16,39,40],I.sub⟩
  refine IF 2 E I (λbk a E=>?_) λbk a E=>?_
  ·
   refine RT 2 E I ?_;exact⟨_,rfl,λ_=>aae,I.sub⟩
  refine RN 2 E I λa E=>?_;exact⟨T.l.length-(i+1),by omega,i+1,⟨rfl,by omega⟩,E.ab [0,1,14,15,16],I.sub⟩
 refine RT 2 E I ?_;exact⟨_,rfl,(λh=>by cases h),I.sub⟩
end
end
section
def uH (k:Ks)(T:Tr):Prop:=∀ y∈T.l,(∀ j∈y.al,j.length=k.n)∧jt k.ls (aw k) y.al=true
def pP (T:Tr)(J:Js)(i:Nat):Js:=(T.l.take i).foldl (λJ y=>if y.done<y.al.length then lL J y.id T.epoch else J) J
def yF (T:Tr)(J:Js):Js:=pP T (kept (λj=>decide (j.2<T.epoch)) J) T.l.length
theorem aaf {T:Tr}{J:Js}{i:Nat}{x:Br}(h:T.l[i]?=some x):pP T J (i+1)=if x.done<x.al.length then lL (pP T J i) x.id T.epoch else pP T J i:=by
 obtain⟨hi,rfl⟩:=a2.1 h;rw[pP,jd hi,foldl_append];rfl
theorem MB {T:Tr}{J:Js}(h:J.length≤16)(i:Nat):(pP T J i).length≤16:=by
 unfold pP;generalize T.l.take i=l
 induction l generalizing J with
 | nil=>exact h
 | cons y l ih =>
  rw[foldl_cons];apply ih;split
  ·exact zU h
  ·exact h
theorem MC {J:Js}(f:Int×Int→Bool)(h:J.length≤16):(kept f J).length≤16:=ft (length_filter_le _ _) h
theorem aag {ls X:List (List UInt8)}{fr to:Nat}(h:yy to ls X):(∀ j∈nf X fr to,j.length=ls.length)∧jt ls fr (nf X fr to)=true:=by
 refine⟨λj hj=>?_,Mk λi hi=>Mj λq hq h1=>?_⟩
 ·rw[nf,cV]at hj;obtain⟨i,_,rfl⟩:=hj;rw[m8,h.len]
 ·rw[A5]at hi;have he:(nf X fr to).getD i []=bJ X (fr+i):=by
   rw[nf,bn,bm,getElem?_range hi];rfl
  rw[he,m8]at hq;rw[he];obtain⟨l,hl⟩:∃ l,ls[q]?=some l:=⟨_,aE (by rw[← h.len];exact hq)⟩;obtain⟨x,hx⟩:∃ x,X[q]?=some x:=⟨_,aE hq⟩;obtain⟨⟨t,rfl⟩,_⟩:=h.fit q l x hl hx;have e1:ls.getD q []=l:=by rw[bn,hl];rfl
  rw[e1]at h1 ⊢;rw[bJ,bn,bn,bm,hx];show _=((l++t).getD (fr+i) 0);rw[bn,l4 h1]
structure rK (p:Pr)(s:Pl)(t:Nat→Nat)(base:Nat)(A0:Sn)(T0:Tr)(r:Nat)(ws:List Wk)(A:Sn)(T:Tr):Prop where
 inv:Inv p (aw s.k:Int) s.g t base A T ws
 ga:uH s.k T
 room:A.room=A0.room
 n:A.n≤A0.n+r
 last:T.last≤T0.last+r
 most:T.most=T0.most
 rX:T.epoch=T0.epoch
 add:∃ l,T.l=T0.l++l∧∀ y∈l,y.done=0∧y.al≠[]∧y.al.length=aD s.k-aw s.k
 has:0<r→aw s.k<aD s.k→T.l≠[]
section
variable {p:Pr}{s:Pl}{t:Nat→Nat}{base r i:Nat}{A0 A:Sn}{T0 T:Tr}{ws:List Wk}{P:List (List UInt8)}{px:aC}
theorem rK.skip (h:rK p s t base A0 T0 r ws A T)(hT:aw s.k<aD s.k→T.l≠[]):rK p s t base A0 T0 (r+1) ws A T :=
 ⟨h.inv,h.ga,h.room,Nat.le_succ_of_le h.n,Nat.le_succ_of_le h.last,h.most,h.rX,h.add,λ_=>hT⟩
theorem rK.push (h:rK p s t base A0 T0 r ws A T)(hA:WF A)(hT:WT T)(hi:A.ar[i]?=some px)(hb:px.id=base)(h0:P≠[])(sN:P.length=aD s.k-aw s.k)(hj:∀ j∈P,j.length=s.k.n)(hk:jt s.k.ls (aw s.k) P=true) :
   rK p s t base A0 T0 (r+1) ws (A.add px.g px.p) (T.add (aw s.k:Int) P (A.last+1)):=by
 refine⟨h.inv.VA hA hT hi hb,λy hy=>?_,h.room,?_,?_,h.most,h.rX,?_,λ_ _ e=>?_⟩
 ·rcases eP.1 hy with hy | hy
  ·exact h.ga y hy
  ·rw[mem_singleton.1 hy];exact⟨hj,hk⟩
 ·have:=h.n;simp only[Sn.add];omega
 ·have:=h.last;simp only[Tr.add];omega
 ·obtain⟨l,h1,h2⟩:=h.add;refine⟨l++[⟨T.last+1,(aw s.k:Int),P,0,A.last+1⟩],by simp only[Tr.add];rw[h1,ds],λy hy=>?_⟩;rcases eP.1 hy with hy | hy
  ·exact h2 y hy
  ·rw[mem_singleton.1 hy];exact⟨rfl,h0,sN⟩
 ·simp[Tr.add]at e
end
section
variable {W w:World}{L Z:List SP}{n i tq sq r base front:Nat}{M:js}{B:iU}{y:UInt8}{x:Br}{p:Pr}{s:Pl}{m:Mu}{A:Sn}{T:Tr}{g0:Nat→Int}{t:Nat→Nat}{px:aC}
theorem aah {frm:Int}{ad2:Option Addr}{c2 id:Nat}{zs:List dY}{P:List (List UInt8)}(I:U W w (Tree tq sq T::ax sq r A::L))(hr:∀ w',U W w' L→hU w' ad2 zs)(hz:zs.map (·.2.2)=P)(hc:P.length≤c2)(dj:nA P)(h0:P≠[])
   (hx:A.ar[i]?=some px) (b6:px.id=id) (hb:A.n+1<1099511627776) (hl:T.last+1<1099511627776) :
   Calls prog 306 #[pt tq,.int .i64 frm,.int .i64 id,.slice ad2 P.length c2] w λe w'=>∃ (z:Nat) (ok:Bool),e=.returned (.tuple #[.int .i64 z,.bool ok]) ∧
    (((T.most=0∨T.l≠[])∧U W w' (Tree tq sq T::ax sq r A::L))∨U W w' (Tree tq sq (T.add frm P (A.last+1))::ax sq r (A.add px.g px.p)::L)):=by
 by_cases hm:T.l.length<T.most
 ·refine (W6 I hr hz hc dj hx b6 hb hl hm).mono λe w' ⟨z,ok,h1,h2⟩=>⟨z,ok,h1,?_⟩;rcases h2 with ⟨_,h3,h4⟩ | ⟨_,_,_,_,h4⟩
  ·refine .inl ⟨.inr λe=>?_,h4⟩;rcases h3 with h3 | ⟨y,hy,_⟩
   ·exact h0 h3
   ·rw[e]at hy;cases hy
  ·exact .inr h4
 ·refine (I3 I (.inl (by omega))).mono λe w' ⟨h1,I⟩=>⟨0,false,h1,.inl ⟨?_,I⟩⟩;rcases Nat.eq_zero_or_pos T.most with h | h
  ·exact .inl h
  ·exact .inr λe=>by rw[e]at hm;simp at hm;omega
theorem aai (I:U W w (aF W M p m::L))(hw:cw p m.s)(hI:Inv p (aw m.s.k:Int) m.s.g t m.base m.A m.T (m.ks.map (·.1)))(fp:m.front=aw m.s.k)(fA:cX M.B.gs)(hB:uH m.s.k m.T)(kz:m.J.length≤16)
   (pN:m.s.k.cv=(m.T.most:Int)) (hn:m.A.n+10<1099511627776) (hl:m.T.last+10<1099511627776) :
   Calls prog 289 #[pt M.mb] w λe w'=>∃ (A':Sn) (T':Tr),e=.returned (.tuple #[])∧rK p m.s t m.base m.A m.T m.T.most (m.ks.map (·.1)) A' T'∧U W w' (aF W M p { m with A:=A',T:=T',J:=yF T' m.J }::L):=by
 have bD:=hw.wc.k0;have eQ:=hw.wc.ls;have wG:=hw.wc.n;have iq:m.s.k.ls.length≤8:=by rw[eQ];exact wG.2
 have gS:=hw.wc.lx;have jG:aU m.s.k.ls≤aD m.s.k:=hw.wc.nc;obtain⟨mb,B,sq,r,tq,jq,dr,dA,aq,cO⟩:=M;obtain⟨s,A,T,J,ks,base,front⟩:=m;simp only at hw hI fp fA hB kz pN hn hl bD eQ wG iq gS jG;subst fp;have Mz:=(Tree.wt ((aF.open I).tree tq)).most.1;replace I:=aF.open I;dsimp only at I Mz;refine EN func289 ntmps289 rfl rfl λa E=>?_;refine CL 6 E I (nL (I.pick (aQ W B p s))) λa w E I=>?_;replace I:=aQ.open I;refine CL 0 E I (Le (I.pick (az B.core s.k))) λa w E I=>?_;refine RN 0 E I λa E=>?_;refine SS E (H5 E underlying28 rfl underlying3 rfl rfl) λa E=>?_;rw[show (fe s.k).cv=(T.most:Int) from pN]at E;refine RN 1 E I λa E=>?_;replace I:=aQ.fold I B p s;refine aO (λμ a w=>∃ (i:Nat) (A1:Sn) (T1:Tr),(μ=T.most-i∧i≤T.most∧rK p s t base A T i (ks.map (·.1)) A1 T1)∧Fr a 98 [(0,pt mb),(12,.int .i64 T.most),(13,.int .i64 i)]∧U W w (aa mb 177 (dR p ⟨mb,B,sq,r,tq,jq,dr,dA,aq,cO⟩ ks.length base (aw s.k))::aQ W B p s::aA W p aq cO::Sl 179 1 dr ks.length dA (gR ks)::ah (e5 p aq cO tq jq sq) ks::Tree tq sq T1::ax sq r A1::bI jq J::L)) (T.most) (⟨0,A,T,⟨rfl,by omega,⟨hI,hB,rfl,a7 _,a7 _,rfl,rfl,⟨[],by simp,λy hy=>by cases hy⟩,λh=>absurd h (by omega)⟩⟩,E.ab [0,12,13],I.sub⟩) ?_;clear E I;rintro μ a w ⟨i,A1,T1,⟨rfl,hi,pQ⟩,E,I⟩;refine IF 3 E I (λaj a E=>?_) λaj a E=>?_
 ·
  have hiT:i<T.most:=by omega
  have hAn:=pQ.n;have FP:=pQ.last;have Be:=(ax.facts (I.store sq)).1;have rH:=Tree.wt (I.tree tq);obtain⟨aaj,px,hJ,kU⟩:=pQ.inv.mg (mem_cons_self ..);refine aV 5 (λw0 w'=>Rd w' mb 0 (dR p ⟨mb,B,sq,r,tq,jq,dr,dA,aq,cO⟩ ks.length base (aw s.k))) [4,5,9,10,15] [0,1,2,6,7,8,11,12,13,14,3003,3009,3015,1004,1005,1010,1016,1017,1018,19] E I λa w E I hH=>?_;have hC:=hH.at w (I.ai (b:=mb));refine RH 10 E I hH hC λa E=>?_;refine QH E (λw hc=>ae E (hc 0 _ rfl)) hC λa E=>?_;refine QH E (λw hc=>ae E (hc 0 _ rfl)) hC λa E=>?_;refine QH E (λw hc=>ae E (hc 0 _ rfl)) hC λa E=>?_;refine RH 0 E I hH hC λa E=>?_;refine CL 0 E I (nL (I.pick (aQ W B p s))) λa w E I=>?_;replace hC:=hH.at w (I.ai (b:=mb));replace I:=aQ.open I;refine RH 0 E I hH hC λa E=>?_;refine CL 0 E I (oI (I.pick (az B.core s.k))) λa w E I=>?_;replace hC:=hH.at w (I.ai (b:=mb));replace I:=aQ.fold I B p s;refine RH 0 E I hH hC λa E=>?_;refine CL 0 E I (Mh (I.pick (aQ W B p s))) λa w E I=>?_;replace hC:=hH.at w (I.ai (b:=mb));refine RH 0 E I hH hC λa E=>?_;refine CL 0 E I (nL (I.pick (aQ W B p s))) λa w E I=>?_;replace I:=aQ.open I;refine CL 0 E I (s0 (I.pick (az B.core s.k)) hw.wc) λa w E I=>?_;obtain⟨D,I,hD⟩:=az.qu I;refine jO 0 E I (FK (r:=i) (to:=aD s.k) (.inr ZO) (by omega) I fA bD iq hw.wc.na gS (λw' dc=>(dc.pick (Sl 5 1 B.adT B.gs.table.length B.cT (bc B.gs.table))).cu B.adT _ rfl rfl)) λfR gf X a w E ⟨⟨ta,_⟩,I⟩=>?_;replace I:U W w (Qu B.core.qb B.core.aB s.k.ls::D::cg fR (aD s.k-aU s.k.ls) gf (nf X (aU s.k.ls) (aD s.k))::_):=I.sub (M:=Qu B.core.qb B.core.aB s.k.ls::D::cg fR (aD s.k-aU s.k.ls) gf (nf X (aU s.k.ls) (aD s.k))::aa B.pb 192 (gu p B s.g)::aA W p B.aq B.cO::Sl 5 1 B.adT B.gs.table.length B.cT (bc B.gs.table)::aa mb 177 (dR p ⟨mb,B,sq,r,tq,jq,dr,dA,aq,cO⟩ ks.length base (aw s.k))::aA W p aq cO::Sl 179 1 dr ks.length dA (gR ks)::ah (e5 p aq cO tq jq sq) ks::Tree tq sq T1::ax sq r A1::bI jq J::L);replace I:=aQ.fold (hD _ _ I) B p s;have sN:=A5 X (aU s.k.ls) (aD s.k);obtain⟨FY,MD⟩:=aag (fr:=aU s.k.ls) ta;generalize hPe:nf X (aU s.k.ls) (aD s.k)=P at I sN FY MD;rw[← sN]at E I;obtain⟨zs,cU,eN,I⟩:=cg.open (I.pick (cg fR P.length gf P));have Bm:=(I.sl fR).2;replace I:=I.sub (M:=aa mb 177 (dR p ⟨mb,B,sq,r,tq,jq,dr,dA,aq,cO⟩ ks.length base (aw s.k))::Tree tq sq T1::Sl 22 1 fR P.length gf (zs.map aK)::ah a8 zs::aQ W B p s::aA W p aq cO::Sl 179 1 dr ks.length dA (gR ks)::ah (e5 p aq cO tq jq sq) ks::ax sq r A1::bI jq J::L);refine RN 1 E I λa E=>?_;refine BY 6 E I (λbX a E=>?_) λbX a E=>?_
  ·
   have kB:¬ aw s.k<aD s.k:=by rw[aw];omega
   refine RN 7 E I λa E=>?_;exact⟨T.most-(i+1),by omega,i+1,A1,T1,⟨rfl,by omega,pQ.skip λh=>absurd h kB⟩,E.ab [0,12,13],I.sub⟩
  have ME:P≠[]:=λe=>by rw[e]at bX;exact bX rfl
  refine bh 2 E I (aad (M:=⟨mb,B,sq,r,tq,jq,dr,dA,aq,cO⟩) (T:=T1) (P:=P) I ⟨zs,cU,λw' h=>U.ma (h.sub (M:=Sl 22 1 fR P.length gf (zs.map aK)::ah a8 zs::[]))⟩ (by omega)) λq a w E ⟨hq,I⟩=>?_;refine IF 1 E I (λao a E=>?_) λao a E=>?_
  ·
   refine RN 2 E I λa E=>?_;exact⟨T.most-(i+1),by omega,i+1,A1,T1,⟨rfl,by omega,pQ.skip λ_=>hq ao⟩,E.ab [0,12,13],I.sub⟩
  refine bQ 0 [7,11] [0,1,2,4,5,6,8,9,10,12,3003,3007,1011,1013] E I λa w E I hH hC=>?_;refine RH 13 E I hH hC λa E=>?_;refine aY 0 E I (aah (i:=aaj) (px:=px) (id:=base) (P:=P) (zs:=zs) ((I.store sq).tree tq) (λw' h=>U.ma (h.sub (M:=Sl 22 1 fR P.length gf (zs.map aK)::ah a8 zs::[]))) cU Bm ⟨by omega,λb hb=>by have:=FY b hb;omega⟩ ME hJ kU (by omega) (by omega)) λz ok a w E aak=>?_;obtain⟨A2,T2,aal,I⟩:∃ (A2:Sn) (T2:Tr),rK p s t base A T (i+1) (ks.map (·.1)) A2 T2∧U W w (aa mb 177 (dR p ⟨mb,B,sq,r,tq,jq,dr,dA,aq,cO⟩ ks.length base (aw s.k))::aQ W B p s::aA W p aq cO::Sl 179 1 dr ks.length dA (gR ks)::ah (e5 p aq cO tq jq sq) ks::Tree tq sq T2::ax sq r A2::bI jq J::L):=by
   rcases aak with ⟨ti,I⟩ | I
   ·exact⟨A1,T1,pQ.skip λ_=>ti.resolve_left (by rw[pQ.most];omega),I.sub⟩
   ·exact⟨_,_,pQ.push Be rH hJ kU ME sN (λj hj=>by rw[FY j hj,eQ]) MD,I.sub⟩
  refine RN 2 E I λa E=>?_;exact⟨T.most-(i+1),by omega,i+1,A2,T2,⟨rfl,by omega,aal⟩,E.ab [0,12,13],I.sub⟩
 refine aV 1 (λw0 w'=>Rd w' mb 0 (dR p ⟨mb,B,sq,r,tq,jq,dr,dA,aq,cO⟩ ks.length base (aw s.k))) [7,8] [0,1,2,4,5,6,3003,1007,1008,1009] E I λa w E I hH=>?_;have hC:=hH.at w (I.ai (b:=mb));refine RH 6 E I hH hC λa E=>?_;refine QH E (λw hc=>ae E (hc 5 _ rfl)) hC λa E=>?_;refine RH 0 E I hH hC λa E=>?_;refine SS E (ae E (hC 4 _ rfl)) λa E=>?_;refine RH 0 E I hH hC λa E=>?_;refine CL 0 E I (zM (I.tree tq)) λa w E I=>?_;replace hC:=hH.at w (I.ai (b:=mb));refine RH 0 E I hH hC λa E=>?_;refine CL 0 E I (Vr (I.tU jq) kz) λa w E I=>?_;change U W w (bI jq (pP T1 (kept (λj=>decide (j.2<(T1.epoch:Int))) J) 0)::_) at I;refine aY 5 E I (zN (I.tree tq)) λth qD a w E I=>?_;obtain⟨xs,h1,h2,I⟩:=kO.open I;have bW:xs.length=T1.l.length:=by rw[← h1,bd]
 have rH:=Tree.wt (I.tree tq);have hT8:=rH.most;obtain rfl:i=T.most:=by omega
 have hJ0:=MC (λj=>decide (j.2<(T1.epoch:Int))) kz;refine RN 2 E I λa E=>?_;refine aO (λμ a w=>∃ (v:Nat),(μ=T1.l.length-v∧v≤T1.l.length)∧Fr a 98 [(0,pt mb),(72,.slice th T1.l.length qD),(73,.int .i64 T1.l.length),(74,.int .i64 v)]∧U W w (bI jq (pP T1 (kept (λj=>decide (j.2<(T1.epoch:Int))) J) v)::Sl 238 5 th T1.l.length qD (rows c5 xs)::ah bZ xs::aa mb 177 (dR p ⟨mb,B,sq,r,tq,jq,dr,dA,aq,cO⟩ ks.length base (aw s.k))::aQ W B p s::aA W p aq cO::Sl 179 1 dr ks.length dA (gR ks)::ah (e5 p aq cO tq jq sq) ks::Tree tq sq T1::ax sq r A1::L)) (T1.l.length) (⟨0,⟨rfl,by omega⟩,E.ab [0,72,73,74],I.sub⟩) ?_;clear E I;rintro μ a w ⟨v,⟨xK,hv⟩,E,I⟩;refine IF 3 E I (λay a E=>?_) λay a E=>?_
 ·
  obtain⟨b',dB,rfl,c4⟩:=I.bV th (by omega);obtain⟨⟨x,eD,c8⟩,dT⟩:∃ y,xs[v]?=some y:=⟨_,aE (by omega)⟩;have fO:=n3 c4 dT;have jg:T1.l[v]?=some x:=by rw[← h1,bm,dT];rfl
  have sL:=aaf (J:=kept (λj=>decide (j.2<(T1.epoch:Int))) J) jg;have hj6:=MB hJ0 (T:=T1) v;refine RN 3 E I λa E=>?_;refine SS E (bS E underlying238 rfl Ty.t238 (fO)) λa E=>?_;refine AL 0 E I λb5 a w E I=>?_;refine SA 0 E I λa w E I=>?_;refine IF 7 E I (λbk a E=>?_) λbk a E=>?_
  ·
   rw[ak (by omega)]at sL;refine aV 0 (λw0 w'=>Rd w' mb 0 (dR p ⟨mb,B,sq,r,tq,jq,dr,dA,aq,cO⟩ ks.length base (aw s.k))∧Rd w' b5 0 (ch x eD c8)) [5,9,10,11] [0,1,2,4,6,7,8,3003,3005,1009,1010,1011,1012] E I λa w E I hH=>?_;have hC:=hH.at w ⟨I.ai (b:=mb),I.ai (b:=b5)⟩;refine RH 7 E I hH hC λa E=>?_;refine QH E (λw hc=>ae E (hc.1 5 _ rfl)) hC λa E=>?_;refine QH E (λw hc=>ae E (hc.2 0 _ rfl)) hC λa E=>?_;refine RH 0 E I hH hC λa E=>?_;refine SS E (ae E (hC.1 4 _ rfl)) λa E=>?_;refine RH 0 E I hH hC λa E=>?_;refine CL 0 E I (zM (I.tree tq)) λa w E I=>?_;replace hC:=hH.at w ⟨I.ai (b:=mb),I.ai (b:=b5)⟩;refine RH 1 E I hH hC λa E=>?_;refine CL 0 E I (zR (I.tU jq) hj6) λa w E I=>?_;change U W w (bI jq (lL (pP T1 (kept (λj=>decide (j.2<(T1.epoch:Int))) J) v) x.id T1.epoch)::_) at I;refine RN 2 E I λa E=>?_;exact⟨T1.l.length-(v+1),by omega,v+1,⟨rfl,by omega⟩,E.ab [0,72,73,74],by rw[sL];exact I.sub⟩
  rw[ag (by omega)]at sL;refine RN 2 E I λa E=>?_;exact⟨T1.l.length-(v+1),by omega,v+1,⟨rfl,by omega⟩,E.ab [0,72,73,74],by rw[sL];exact I.sub⟩
 refine RT 0 E I ?_;obtain rfl:v=T1.l.length:=by omega
 rw[show pP T1 (kept (λj=>decide (j.2<(T1.epoch:Int))) J) T1.l.length=yF T1 J from rfl]at I;exact⟨A1,T1,rfl,pQ,(aF.fold I ⟨mb,B,sq,r,tq,jq,dr,dA,aq,cO⟩ p ⟨s,A1,T1,yF T1 J,ks,base,aw s.k⟩).sub⟩
structure FZ (p:Pr)(m m':Mu)(t':Nat→Nat):Prop where
 inv:Inv p (aw m.s.k:Int) m.s.g t' m'.base m'.A m'.T (m'.ks.map (·.1))
 s:m'.s=m.s
 front:m'.front=aw m.s.k
 ga:uH m.s.k m'.T
 J:m'.J.length≤16
 room:m'.A.room=m.A.room
 n:m'.A.n≤m.A.n+9
 last:m'.T.last≤m.T.last+8
 most:m'.T.most=m.T.most
 rX:m'.T.epoch≤m.T.epoch+3
 ks:m'.ks.length=m.ks.length
 has:0<m.T.most→aw m.s.k<aD m.s.k→m'.T.l≠[]
 tU:m'.J=yF m'.T m.J
 ab:m.front=aw m.s.k→(∀ y∈m.T.l,jt m.s.k.ls (aw m.s.k) y.al=true)→m'.ks=m.ks∧m'.T.epoch=m.T.epoch∧∃ l,m'.T.l=m.T.l++l∧∀ y∈l,y.done=0∧y.al≠[]∧y.al.length=aD m.s.k-aw m.s.k
theorem aam (I:U W w (aF W M p m::L))(cp:m.s.k.cl=true) :
   Calls prog 271 #[pt M.mb] w λe w'=>e=.returned (.tuple #[])∧U W w' (aF W M p m::L):=by
 refine EN func271 ntmps271 rfl rfl λa E=>?_;refine RN 5 E I λa E=>?_;replace E:=E.aM 4;refine CL 1 E I (yE I) λa w E I=>?_;rw[cp]at E;refine RN 1 E I λa E=>?_;replace E:=E.eh 7;refine RT 1 E I ?_;exact⟨rfl,I⟩
theorem aan (I:U W w (aF W M p m::L))(hw:cw p m.s)(hg:dO m.s.g)(cp:m.s.k.cl=false)(hI:Inv p (m.front:Int) g0 t m.base m.A m.T (m.ks.map (·.1)))(fp:m.front=aw m.s.k→g0=m.s.g)
   (fA:cX M.B.gs) (ei:∀ y∈m.T.l,∀ j∈y.al,j.length=m.s.k.n) (kz:m.J.length≤16) (pN:m.s.k.cv=(m.T.most:Int))
   (he:m.T.epoch+10<1099511627776) (hn:m.A.n+20<1099511627776) (hl:m.T.last+20<1099511627776) (h4:m.ks.length≤4) (qz:12≤m.A.room) :
   Calls prog 271 #[pt M.mb] w λe w'=>∃ (m':Mu) (t':Nat→Nat),e=.returned (.tuple #[])∧FZ p m m' t'∧U W w' (aF W M p m'::L):=by
 have gS:=hw.wc.lx;have jG:=hw.wc.nc;refine EN func271 ntmps271 rfl rfl λa E=>?_;refine RN 5 E I λa E=>?_;replace E:=E.aM 4;refine CL 1 E I (yE I) λa w E I=>?_;rw[cp]at E;refine RN 1 E I λa E=>?_;replace E:=E.aM 7;refine aY 3 E I (ZZ I hw hg hI fp (by omega) (by omega) h4 qz) λMF t1 a w E ⟨hM,I⟩=>?_;refine RN 0 E I λa E=>?_;obtain⟨s1,A1,T1,afn,k7,MG,afo⟩:=MF;obtain⟨wE,e1,e2,e3,e9,m7,kN,gO,gz,gZ,MH,kC⟩:=hM;simp only at wE e1 e2 e3 e9 m7 kN gO gz gZ MH kC;subst e1 e2 e3;have MJ:∀ y∈T1.l,∀ j∈y.al,j.length=m.s.k.n:=by
  rcases MH with ⟨e,_⟩ | e
  ·rw[e];exact ei
  ·rw[e];intro y hy;cases hy
 have kV:=Tree.wt ((aF.open I).tree M.tq);have MK:=(ax.facts ((aF.open I).store M.sq)).1;dsimp only at kV MK;replace I:=aF.open I;dsimp only at I;refine jP 7 E I (Mm (kp:=λx=>jt m.s.k.ls (aw m.s.k) x.al) (ws:=[pt M.mb]) ((I.store M.sq).tree M.tq) (by omega) (by kernel_rfl) (λN w' x av c' Bb h1 hN hx _ dj=>by
  have pw:=hN.h;obtain⟨K,hp⟩:=pw;have hX:=hp.trans List.perm_append_comm;have hof:=dj.1;have yz:=(wE.ga x Bb).1;refine (aac (M:=M) (Z:=aA W p M.aq M.cO::Sl 179 1 M.dr k7.length M.dA (gR k7)::ah (e5 p M.aq M.cO M.tq M.jq M.sq) k7::bI M.jq m.J::(L++K)) (h1.perm hX) hw (hx.imp λzs h=>⟨h.1,λnB h2=>h.2 _ (h2.perm hX.symm)⟩) yz (MJ x Bb) (by omega)).mono λe nB ⟨h3,h4⟩=>⟨h3,h4.perm hX.symm⟩)) ?_
 clear E I;rintro e w ⟨⟨_,rfl⟩,I⟩;refine⟨_,rfl,λa E=>?_⟩;have oL:=wE.cut MK (λx=>!jt m.s.k.ls (aw m.s.k) x.al);have tf:=Ba (T1.l.filter λx=>!jt m.s.k.ls (aw m.s.k) x.al) A1;have ML:uH m.s.k (T1.cut λx=>!jt m.s.k.ls (aw m.s.k) x.al):=λy hy=>by
  obtain⟨h1,h2⟩:=List.mem_filter.1 hy;exact⟨MJ y h1,by simpa using h2⟩
 have FQ:(T1.cut λx=>!jt m.s.k.ls (aw m.s.k) x.al).epoch≤T1.epoch+1:=by simp only[Tr.cut];split <;> omega
 have ky:(∀ y∈T1.l,jt m.s.k.ls (aw m.s.k) y.al=true)→(T1.cut λx=>!jt m.s.k.ls (aw m.s.k) x.al).l=T1.l∧(T1.cut λx=>!jt m.s.k.ls (aw m.s.k) x.al).epoch=T1.epoch:=λh=>by
  have h1:T1.l.filter (λx=>!!jt m.s.k.ls (aw m.s.k) x.al)=T1.l:=List.filter_eq_self.2 λy hy=>by rw[h y hy];rfl
  simp only[Tr.cut,h1];exact⟨trivial,by rw[ag (Nat.lt_irrefl _)];rfl⟩
 have Bf:(T1.cut λx=>!jt m.s.k.ls (aw m.s.k) x.al).most=T1.most∧(T1.cut λx=>!jt m.s.k.ls (aw m.s.k) x.al).last=T1.last:=⟨rfl,rfl⟩;generalize (T1.cut λx=>!jt m.s.k.ls (aw m.s.k) x.al)=T2 at I oL ML FQ Bf ky;generalize A1.gQ (T1.l.filter λx=>!jt m.s.k.ls (aw m.s.k) x.al)=A2 at I oL tf;replace I:=aF.fold I M p ⟨m.s,A2,T2,m.J,k7,MG,aw m.s.k⟩;refine aY 1 E I (aai I hw oL rfl fA ML kz (by dsimp only;rw[Bf.1,gO];exact pN) (by dsimp only;omega) (by dsimp only;omega)) λA3 T3 a w E ⟨pQ,I⟩=>?_;refine RT 0 E I ?_;obtain⟨de,dG,a3,a4,a5,MM,MN,rJ,a9⟩:=pQ;have h8:=kV.most.1;dsimp only at *;exact⟨⟨m.s,A3,T3,yF T3 m.J,k7,MG,aw m.s.k⟩,t1,rfl,⟨de,rfl,rfl,dG,MB (MC _ kz) _,by simp only;omega,by simp only;omega,by simp only;omega,by simp only;omega,by simp only;omega,gZ,λh1 h2=>a9 (by omega) h2,rfl,λe h=>by
  obtain⟨q1,q2,Eo⟩:=kC e;obtain⟨Ep,Kb⟩:=ky (by rw[q1];exact h);obtain⟨l,aao,aap⟩:=rJ;refine⟨Eo,by rw[MN,Kb,q1],l,by rw[aao,Ep,q1],aap⟩⟩,I⟩
end
end
section
structure lC (p:Pr)(s s':Pl):Prop where
 wf:cw p s'
 rC:aw s'.k=aw s.k→s'.g=s.g
 cf:fe s'.k=fe s.k
 ls:s'.k.cl=true→s'.k.ls=s.k.ls
section
variable {p:Pr}{s:Pl}{k:Ks}{x:UInt8}{bs:List UInt8}
theorem lC.mk' {k':Ks}(h:cw p s)(hw:WC k')(hh:held k')(hm:k'.mr=s.k.mr)(he:Ext s.k.ls k'.ls)(c9:fe k'=fe s.k)(hl:k'.cl=true→k'.ls=s.k.ls):lC p s (ew p ⟨k',s.g⟩):=by
 have h1:=h.toWP.more hw hh hm he;obtain⟨h2,h3,ps,ev,mr,h4⟩:=h1.ew;refine⟨h2,λhf=>?_,?_,λhc=>?_⟩
 ·have e1:(ew p ⟨k',s.g⟩).g=ly p k'.ls (aw s.k):=by rw[h2.rC,h2.full,hf,h3]
  have e2:s.g=ly p s.k.ls (aw s.k):=by have:=h.rC;rwa [h.full]at this
  exact e1.trans ((he.ly (a7 _)).trans e2.symm)
 ·rw[h4];exact c9
 ·rw[h3];rw[h4]at hc;exact hl hc
theorem MO:fe (cZ x k).2=fe k∧((cZ x k).2.cl=true→(cZ x k).2.ls=k.ls):=by
 by_cases h0:(cZ x k).1=0
 ·obtain⟨h1,h2,h3,h4⟩:=uv h0;rw[h4];exact⟨rfl,λhc=>by rw[show k.cl=true from hc]at h1;cases h1⟩
 ·rw[uw h0];exact⟨rfl,λ_=>rfl⟩
theorem aaq {q:Pk}(h:k.cl=false):fe (fQ k q)=fe k∧((fQ k q).cl=true→(fQ k q).ls=k.ls):=by
 unfold fQ;split
 ·exact⟨rfl,λ_=>rfl⟩
 ·obtain⟨ps,ev,h1,_⟩:=wg { k with ls:=k.ls.set q.aW.toNat (dp (k.ls.getD q.aW.toNat []) q.first.toNat q.al),ps:=k.ps.set q.aW.toNat (fP k.now (aD k) q (au k q.aW.toNat)) };rw[h1];exact⟨rfl,λhc=>by rw[show k.cl=true from hc]at h;cases h⟩
theorem MP:fe (dw bs k).2=fe k∧((dw bs k).2.cl=true→(dw bs k).2.ls=k.ls):=by
 by_cases h0:(dw bs k).1=0
 ·obtain⟨q,h1,h2,h3,h4,h5,h6⟩:=AP h0;rw[h6];exact aaq h2
 ·rw[wj h0];exact⟨rfl,λ_=>rfl⟩
theorem lC.al (h:cw p s)(x:UInt8):lC p s (dE p x s).2:=lC.mk' h (h.wc.al x) (h.held.al x) (ux x s.k).1 (ux x s.k).2 MO.1 MO.2
theorem lC.recv (h:cw p s)(bs:List UInt8):lC p s (dF p bs s).2:=lC.mk' h (h.wc.recv bs).1 ((h.wc.recv bs).2 h.held) (rD bs s.k).1 (rD bs s.k).2 MP.1 MP.2
end
structure MI (p:Pr)(M:js)(N:Nat)(m:Mu):Prop where
 wf:cw p m.s
 gs:cX M.B.gs
 front:m.front=aw m.s.k
 inv:∃ t,Inv p (aw m.s.k:Int) m.s.g t m.base m.A m.T (m.ks.map (·.1))
 ga:uH m.s.k m.T
 J:m.J.length≤16
 most:m.s.k.cv=(m.T.most:Int)
 workers:m.s.k.workers=(m.ks.length:Int)
 ks:m.ks.length≤4
 room:(m.A.room:Int)=4*m.s.k.room∧12≤m.A.room
 n:m.A.n≤N∧m.T.last≤N∧m.T.epoch≤N
section
variable {W w:World}{L:List SP}{n c N front:Nat}{ad:Option Addr}{M:js}{B:iU}{x:UInt8}{p:Pr}{s s':Pl}{m:Mu}{bs:List UInt8}{cf:Cf}{g0:Nat→Int}{t:Nat→Nat}
theorem MI.more {N':Nat}(h:MI p M N m)(hN:N≤N'):MI p M N' m:={ h with n:=⟨ft h.n.1 hN,ft h.n.2.1 hN,ft h.n.2.2 hN⟩ }
theorem MI.same (h:MI p M N m)(hw:cw p s')(hg:s'.g=m.s.g)(hl:s'.k.ls=m.s.k.ls)(hc:fe s'.k=fe m.s.k):MI p M N { m with s:=s' }:=by
 have hf:aw s'.k=aw m.s.k:=by rw[aw,aw,hl]
 simp only[fe,Cf.mk.injEq]at hc;obtain⟨dL,c2,dC,hG,dD,oa,qW,rv,yG,zX⟩:=hc;have hn:s'.k.n=m.s.k.n:=by omega
 exact { wf:=hw,gs:=h.gs,front:=by rw[hf];exact h.front,inv:=by obtain⟨t,ht⟩:=h.inv;exact⟨t,by rw[hf,hg];exact ht⟩,ga:=λy hy=>by rw[hn,hl,hf];exact h.ga y hy,J:=h.J,most:=by rw[rv];exact h.most,workers:=by rw[yG];exact h.workers,ks:=h.ks,room:=by rw[zX];exact h.room,n:=h.n }
theorem MQ (I:U W w (aF W M p { m with s:=s' }::L))(h:MI p M N m)(hx:lC p m.s s')(a6:dh p)(hN:N≤1000000000000) :
   Calls prog 271 #[pt M.mb] w λe w'=>∃ m':Mu,e=.returned (.tuple #[])∧(m'.s=s'∧MI p M (N+20) m'∧(s'.k.cl=false→∃ t',FZ p { m with s:=s' } m' t'))∧U W w' (aF W M p m'::L):=by
 obtain⟨m7,pv,hn3⟩:=h.n;have hc:=hx.cf;cases cp:s'.k.cl with
 | true =>
  have hl:=hx.ls cp;refine (aam I cp).mono λe w' ⟨he,I⟩=>⟨_,he,⟨rfl,(h.same hx.wf (hx.rC (by rw[aw,aw,hl])) hl hc).more (by omega),λe=>(by cases e)⟩,I⟩
 | false =>
  obtain⟨t,ht⟩:=h.inv;simp only[fe,Cf.mk.injEq]at hc;obtain⟨dL,c2,dC,hG,dD,oa,qW,rv,yG,zX⟩:=hc;have hn:s'.k.n=m.s.k.n:=by omega
  refine (aan (g0:=m.s.g) (t:=t) I hx.wf (hx.wf.pJ a6) cp (by rw[← h.front]at ht;exact ht) (λe=>(hx.rC (by rw[← h.front];exact e.symm)).symm) h.gs (λy hy j hj=>by dsimp only;rw[hn];exact (h.ga y hy).1 j hj) h.J (by dsimp only;rw[rv];exact h.most) (by dsimp only;omega) (by dsimp only;omega) (by dsimp only;omega) h.ks h.room.2).mono λe w' ⟨m',t',he,hr,I⟩=>⟨m',he,⟨hr.s,?_,λ_=>⟨t',hr⟩⟩,I⟩;obtain⟨de,dG,a3,a4,a5,MM,MN,rJ,a9,b1,b2,b3,b4,b5⟩:=hr;dsimp only at *;exact { wf:=by rw[dG];exact hx.wf,gs:=h.gs,front:=by rw[dG];exact a3,inv:=⟨t',by rw[dG];exact de⟩,ga:=by rw[dG];exact a4,J:=a5,most:=by rw[dG,rv,a9];exact h.most,workers:=by rw[dG,yG,b2];exact h.workers,ks:=by rw[b2];exact h.ks,room:=by rw[dG,zX,MM];exact h.room,n:=⟨by omega,by omega,by omega⟩ }
theorem aar (I:U W w (aF W M p m::L))(h:MI p M N m)(a6:dh p)(aG:p.title.size≤1000000000)(hN:N≤1000000000000) :
   Calls prog 267 #[pt M.mb,.int .u8 (x.toNat:Nat)] w λe w'=>∃ m':Mu,e=.returned (.int .i64 (dE p x m.s).1)∧(m'.s=(dE p x m.s).2∧MI p M (N+20) m'∧((dE p x m.s).2.k.cl=false→∃ t',FZ p { m with s:=(dE p x m.s).2 } m' t'))∧U W w' (aF W M p m'::L):=by
 refine EN func267 ntmps267 rfl rfl λa E=>?_;refine CL 4 E I (td I) λa w E I=>?_;refine RN 1 E I λa E=>?_;replace I:=aF.open I;refine CL 0 E I (L1 (I.pick (aQ W M.B p m.s)) h.wf a6 aG) λa w E I=>?_;replace I:=aF.fold I M p { m with s:=(dE p x m.s).2 };refine bh 3 E I (MQ I h (lC.al h.wf x) a6 hN) λm' a w E ⟨hm,I⟩=>?_;refine RT 3 E I ?_;exact⟨m',rfl,hm,I⟩
theorem aas (I:U W w (aF W M p m::L))(h:MI p M N m)(a6:dh p)(aG:p.title.size≤1000000000)(hN:N≤1000000000000)(hb:bs.length≤65536)(hc:bs.length≤c)(hp:∀ w',U W w' L→aX w' ad bs.length bs) :
   Calls prog 269 #[pt M.mb,.slice ad bs.length c] w λe w'=>∃ m':Mu,e=.returned (.int .i64 (dF p bs m.s).1)∧(m'.s=(dF p bs m.s).2∧MI p M (N+20) m')∧U W w' (aF W M p m'::L):=by
 refine EN func269 ntmps269 rfl rfl λa E=>?_;refine CL 4 E I (td I) λa w E I=>?_;refine RN 1 E I λa E=>?_;replace I:=aF.open I;refine CL 0 E I (L2 (bs:=bs) (I.pick (aQ W M.B p m.s)) h.wf a6 aG hb hc (λw' hw=>hp w' hw.sub)) λa w E I=>?_;replace I:=aF.fold I M p { m with s:=(dF p bs m.s).2 };refine bh 3 E I (MQ I h (lC.recv h.wf bs) a6 hN) λm' a w E ⟨⟨gO,kf,_⟩,I⟩=>?_;refine RT 3 E I ?_;exact⟨m',rfl,⟨gO,kf⟩,I⟩
end
end
section
theorem F0 (k:Ks):fe (br k).2=fe k:=by
 rcases wm k with h1 | ⟨hc,h1 | ⟨i,hi,h1⟩⟩ <;> rw[h1] <;> rfl
theorem F1 (k:Ks):fe (cy k).2=fe k:=by
 unfold cy;split <;> rfl
section
variable {W w:World}{L:List SP}{n c i N tq sq r base front:Nat}{ad:Option Addr}{M:js}{B:iU}{p:Pr}{s:Pl}{m:Mu}{A:Sn}{T:Tr}{t:Nat→Nat}{px:aC}{y:Int}
theorem aat (I:U W w (aF W M p m::L))(h:MI p M N m)(o2:m.s.k.now≤1000000):Calls prog 270 #[pt M.mb] w λr w'=>∃ ad c,r=.returned (.slice ad (br m.s.k).1.length c)∧MI p M N { m with s:=⟨(br m.s.k).2,m.s.g⟩ } ∧
   U W w' (cm 124 ad (br m.s.k).1.length c (br m.s.k).1::aF W M p { m with s:=⟨(br m.s.k).2,m.s.g⟩ }::L):=by
 refine EN func270 ntmps270 rfl rfl λa E=>?_;refine CL 4 E I (td I) λa w E I=>?_;replace I:=aF.open I;refine aY 0 E I (L3 (I.pick (aQ W M.B p m.s)) h.wf o2) λad c a w E I=>?_;refine RT 1 E I ?_;exact⟨ad,c,rfl,h.same h.wf.tick rfl (AR _).2 (F0 _),(aF.fold I M p { m with s:=⟨(br m.s.k).2,m.s.g⟩ }).sub⟩
theorem aau (I:U W w (aF W M p m::L))(h:MI p M N m):Calls prog 268 #[pt M.mb] w λr w'=>∃ ad c,r=.returned (.slice ad (cy m.s.k).1.length c)∧MI p M N { m with s:=⟨(cy m.s.k).2,m.s.g⟩ } ∧
   U W w' (cm 124 ad (cy m.s.k).1.length c (cy m.s.k).1::aF W M p { m with s:=⟨(cy m.s.k).2,m.s.g⟩ }::L):=by
 refine EN func268 ntmps268 rfl rfl λa E=>?_;refine CL 4 E I (td I) λa w E I=>?_;replace I:=aF.open I;refine aY 0 E I (L5 (I.pick (aQ W M.B p m.s)) h.wf) λad c a w E I=>?_;refine RT 1 E I ?_;exact⟨ad,c,rfl,h.same h.wf.oC rfl (E7 _).2 (F1 _),(aF.fold I M p { m with s:=⟨(cy m.s.k).2,m.s.g⟩ }).sub⟩
theorem aav (I:U W w (aF W M p m::L))(h:MI p M N m):Calls prog 266 #[pt M.mb] w λr w'=>∃ ad c,r=.returned (.slice ad m.s.k.ev.length c)∧MI p M N { m with s:=⟨{ m.s.k with ev:=[] },m.s.g⟩ } ∧
   U W w' (Sl 135 1 ad m.s.k.ev.length c (m.s.k.ev.map cA)::aF W M p { m with s:=⟨{ m.s.k with ev:=[] },m.s.g⟩ }::L):=by
 refine EN func266 ntmps266 rfl rfl λa E=>?_;refine CL 4 E I (td I) λa w E I=>?_;replace I:=aF.open I;refine aY 0 E I (L6 (I.pick (aQ W M.B p m.s))) λad c a w E I=>?_;refine RT 1 E I ?_;exact⟨ad,c,rfl,h.same h.wf.told rfl rfl rfl,(aF.fold I M p { m with s:=⟨{ m.s.k with ev:=[] },m.s.g⟩ }).sub⟩
theorem aaw (I:U W w (aF W M p m::L))(h:MI p M N m):Calls prog 264 #[pt M.mb] w λr w'=>∃ ad c,r=.returned (.tuple #[.slice ad 128 c,.int .i64 (lz m.s).2])∧U W w' (Sl 5 1 ad 128 c (bc (lz m.s).1)::aF W M p m::L):=by
 have bD:=h.wf.wc.k0;have iq:m.s.k.ls.length≤8:=by rw[h.wf.wc.ls];exact h.wf.wc.n.2
 obtain⟨t,hI⟩:=h.inv;obtain⟨i,px,hJ,kU⟩:=hI.mg (mem_cons_self ..);have sI:=(hI.base px (bH hJ) kU).1;replace I:=aF.open I;rw[h.front]at I;refine EN func264 ntmps264 rfl rfl λa E=>?_;refine aV 5 (λw0 w'=>Rd w' M.mb 0 (dR p M m.ks.length m.base (aw m.s.k))) [8,9,10] [0,1,2,3,4,5,7,3006,1008,1009,1010,11,12] E I λa w E I hH=>?_;have hC:=hH.at w (I.ai (b:=M.mb));refine RH 3 E I hH hC λa E=>?_;replace E:=E.aM 6;refine RH 4 E I hH hC λa E=>?_;refine QH E (λw hc=>ae E (hc 8 _ rfl)) hC λa E=>?_;rw[← h.front]at I;replace I:=aF.fold I M p m;refine RH 0 E I hH hC λa E=>?_;refine CL 0 E I (A9 I) λa w E I=>?_;replace hC:=hH.at w (by have h9:=(aF.open I).ai (b:=M.mb);rw[h.front]at h9;exact h9);replace I:=aQ.open ((aF.open I).pick (aQ W M.B p m.s));rw[h.front]at I;refine RH 0 E I hH hC λa E=>?_;refine CL 0 E I (oI (I.pick (az M.B.core m.s.k))) λa w E I=>?_;replace hC:=hH.at w (I.ai (b:=M.mb));obtain⟨D,I,hD⟩:=az.qu I;refine RH 0 E I hH hC λa E=>?_;refine CL 0 E I (rA I bD iq) λa w E I=>?_;replace hC:=hH.at w (I.ai (b:=M.mb));refine RH 1 E I hH hC λa E=>?_;rw[show decide (((aw m.s.k:Nat):Int)≠((aU m.s.k.ls:Nat):Int))=false from Jm]at E;refine RH 1 E I hH hC λa E=>?_;replace I:=aQ.fold (hD _ _ I) M.B p m.s;rw[← h.front]at I;replace I:=aF.fold I M p m;replace E:=E.aM 16;refine RN 2 E I λa E=>?_;replace I:=aF.open I;refine aV 0 (λw0 w'=>Rd w' M.mb 0 (dR p M m.ks.length m.base m.front)) [5,6,10,11] [0,1,2,3,7,8,9,3004,3010,1005,1006,1011,12] E I λa w E I hH=>?_;have hC:=hH.at w (I.ai (b:=M.mb));refine RH 7 E I hH hC λa E=>?_;refine QH E (λw hc=>ae E (hc 7 _ rfl)) hC λa E=>?_;refine QH E (λw hc=>ae E (hc 8 _ rfl)) hC λa E=>?_;replace I:=aF.fold I M p m;refine RH 0 E I hH hC λa E=>?_;refine CL 0 E I (FO I hJ kU) λa w E I=>?_;replace hC:=hH.at w ((aF.open I).ai (b:=M.mb));refine RH 0 E I hH hC λa E=>?_;refine aY 0 E I (yg I) λad c a w E I=>?_;replace hC:=hH.at w ((aF.open I.tail).ai (b:=M.mb));refine RH 2 E I hH hC λa E=>?_;refine RT 0 E I ?_;rw[sI]at I;exact⟨ad,c,by rw[h.front];rfl,I⟩
theorem aax (I:U W w (aF W M p m::L))(hc:m.s.k.cl=true∨y<0∨(m.ks.length:Int)≤y)(h4:m.ks.length≤4) :
   Calls prog 62 #[pt M.mb,.int .i64 y] w λe w'=>e=.returned (.bool false)∧U W w' (aF W M p m::L):=by
 refine EN func62 ntmps62 rfl rfl λa E=>?_;refine RN 7 E I λa E=>?_;replace E:=E.aM 7;refine CL 1 E I (yE I) λa w E I=>?_;replace I:=aF.open I;refine BY 2 E I (λjX a E=>?_) λjX a E=>?_
 ·
  refine RT 15 E I ?_;exact⟨rfl,aF.fold I M p m⟩
 refine BY 4 E I (λlK a E=>?_) λlK a E=>?_
 ·
  refine RT 11 E I ?_;exact⟨rfl,aF.fold I M p m⟩
 refine IF 8 E I (λaj a E=>?_) λaj a E=>?_
 ·
  refine RT 2 E I ?_;exact⟨rfl,aF.fold I M p m⟩
 exact absurd hc (by rintro (h | h | h) <;> first | omega | (rw[h]at jX;cases jX))
theorem zV.brI {k:Ks}{J J':Js}{A A':Sn}{T T':Tr}(hn:zV A T J A' T' J')(h:uH k T):uH k T':=by
 intro y hy;have h1:(y.id,y.al)∈T'.l.map (λy=>(y.id,y.al)):=cV.2 ⟨y,hy,rfl⟩;rw[hn.l]at h1;obtain⟨z,hz,he⟩:=cV.1 h1;have h2:=h z hz;rw[(Prod.mk.inj he).2]at h2;exact h2
theorem aay {k:Wk}{wb:Nat}(I:U W w (aF W M p m::L))(h:MI p M N m)(cp:m.s.k.cl=false)(hk:m.ks[i]?=some (k,wb))(a6:dh p)(aG:p.title.size≤1000000000)(hN:N≤1000000000000) :
   Calls prog 62 #[pt M.mb,.int .i64 i] w λe w'=>∃ (z:Bool) (A':Sn) (T':Tr) (J':Js) (k':Wk),e=.returned (.bool z)∧(lk p m.A m.T m.J k z A' T' J' k'∧MI p M (N+1) { m with A:=A',T:=T',J:=J',ks:=m.ks.set i (k',wb) }) ∧
    U W w' (aF W M p { m with A:=A',T:=T',J:=J',ks:=m.ks.set i (k',wb) }::L):=by
 have aH:=(a2.1 hk).1;have h4:=h.ks;obtain⟨t,hI⟩:=h.inv;obtain⟨m7,pv,hn3⟩:=h.n;have jG:=h.wf.wc.nc;have gS:=h.wf.wc.lx;refine EN func62 ntmps62 rfl rfl λa E=>?_;refine RN 7 E I λa E=>?_;replace E:=E.aM 7;refine CL 1 E I (yE I) λa w E I=>?_;rw[cp]at E;refine RN 2 E I λa E=>?_;replace E:=E.aM 11;refine RN 4 E I λa E=>?_;replace I:=aF.open I;replace E:=E.aM 15;refine RN 8 E I λa E=>?_;rw[bq (by omega)]at E;refine RN 2 E I λa E=>?_;obtain⟨b',o',gY,c4⟩:=I.bV M.dr (by omega);refine RN 5 E I λa E=>?_;rw[gY]at E;refine RN 1 E I λa E=>?_;refine SS E (ae E (c4 i _ (JY hk))) λa E=>?_;refine jP 0 E I (W1 (I.sub (M:=ah (e5 p M.aq M.cO M.tq M.jq M.sq) m.ks::Tree M.tq M.sq m.T::ax M.sq M.r m.A::bI M.jq m.J::aA W p M.aq M.cO::aa M.mb 177 (dR p M m.ks.length m.base m.front)::aQ W M.B p m.s::Sl 179 1 M.dr m.ks.length M.dA (gR m.ks)::L)) hk hI ⟨by omega,by omega⟩ a6 aG (by omega) h.J) ?_;clear E I;rintro e w ⟨z,A',T',J',k',rfl,⟨ua,oL,uI⟩,I⟩;refine⟨_,rfl,λa E=>?_⟩;refine RT 1 E I ?_;have p1:(m.ks.set i (k',wb)).length=m.ks.length:=bu ..;have lA:=uI.room;have hn4:=uI.n;have hn5:=uI.last;have hn6:=uI.epoch;refine⟨z,A',T',J',k',rfl,⟨ua,{ wf:=h.wf,gs:=h.gs,front:=h.front,inv:=⟨t,oL⟩,ga:=uI.brI h.ga,J:=uI.len h.J,most:=by dsimp only;rw[uI.most];exact h.most,workers:=by dsimp only;rw[p1];exact h.workers,ks:=by dsimp only;rw[p1];exact h4,room:=by dsimp only;rw[lA];exact h.room,n:=⟨by dsimp only;omega,by dsimp only;omega,by dsimp only;omega⟩ }⟩,?_⟩;rw[← JZ (k':=k') hk,← p1]at I;exact aF.fold I M p { m with A:=A',T:=T',J:=J',ks:=m.ks.set i (k',wb) }
end
end
end Go.Proofs.YteoldcfapaiobaaGreat
