/- Package multi: a player that plays ahead. -/
import Derived.Test.YteoldcfapaiobaaGreatF06Ref
import Derived.Test.YteoldcfapaiobaaGreatF10Rank
import Derived.Test.YteoldcfapaiobaaGreatF04Job
import Derived.Test.YteoldcfapaiobaaGreatF05Vm
import Derived.Test.YteoldcfapaiobaaGreatF01Row
import Derived.Laws.StructEq
import Derived.ChangeKeysEq
import Derived.ProofKit
import Derived.Deep.Slices
import Derived.Deep.Strs
namespace Go.Proofs.YteoldcfapaiobaaGreat
open Tryz
open List (all_eq_true foldl_cons nil_append map_cons length_nil mem_range getElem?_range getElem_map map_nil range_succ foldl_append map_singleton)
open Go.RowKit
set_option linter.unusedVariables false
set_option linter.unusedSimpArgs false
set_option maxRecDepth 10000
set_option synthInstance.maxSize 4000
set_option synthInstance.maxHeartbeats 400000
section
instance oI.fvB {P l x f ws args vs}[ex:Ev l (.tmp x) (.func (.func f) (List.toArray ws) #[])][ev:nP l args vs]:oI P l (.value (.tmp x)) args f (ws++vs):=⟨λhb a n w E _ _ _ _ _ _=>by
 simp[execOp,resolve,ex.ev a n E,Deferred.ofValue,invoke,ev.ev a n E,Ab hb]⟩
structure jG where
 mb:Nat
 B:jo
 sq:Nat
 r:Nat
 tq:Nat
 jq:Nat
 dw:Option Addr
 dF:Nat
 aq:Option Addr
 cO:Nat
structure Mu where
 s:Pl
 A:Sn
 T:Tr
 J:Js
 ks:List Kx
 base:Nat
 front:Nat
abbrev dU (p:Pr)(M:jG)(nk base front:Nat):List Value:=[pt M.B.pb,.string p.title,.slice M.aq p.ops.length M.cO,pt M.sq,pt M.tq,pt M.jq,.slice M.dw nk M.dF,.int .i64 base,.int .i64 front]
abbrev zm (W:World)(M:jG)(p:Pr)(m:Mu):List SP:=[aa M.mb 177 (dU p M m.ks.length m.base m.front),aP W M.B p m.s,aA W p M.aq M.cO,Sl 179 1 M.dw m.ks.length M.dF (gV m.ks),ah (fa p M.aq M.cO M.tq M.jq M.sq) m.ks,Tree M.tq M.sq m.T,ax M.sq M.r m.A,bI M.jq m.J]
def aE (W:World)(M:jG)(p:Pr)(m:Mu):SP:=λh=>cn (zm W M p m) h
section
variable {W w:World}{L R:List SP}{M:jG}{B:jo}{p:Pr}{s:Pl}{m:Mu}
theorem aE.open (I:U W w (aE W M p m::L)):U W w (aa M.mb 177 (dU p M m.ks.length m.base m.front)::aP W M.B p m.s::aA W p M.aq M.cO::Sl 179 1 M.dw m.ks.length M.dF (gV m.ks)::ah (fa p M.aq M.cO M.tq M.jq M.sq) m.ks::Tree M.tq M.sq m.T::ax M.sq M.r m.A::bI M.jq m.J::L):=I.open (M:=zm W M p m) λ_ h=>h
theorem aE.close (I:U W w (zm W M p m++L)):U W w (aE W M p m::L):=U.shut (M:=zm W M p m) I λ_ h=>h
theorem aE.fold (I:U W w L)(M:jG)(p:Pr)(m:Mu)[kk:fJ L (aa M.mb 177 (dU p M m.ks.length m.base m.front)::aP W M.B p m.s::aA W p M.aq M.cO::Sl 179 1 M.dw m.ks.length M.dF (gV m.ks)::ah (fa p M.aq M.cO M.tq M.jq M.sq) m.ks::Tree M.tq M.sq m.T::ax M.sq M.r m.A::bI M.jq m.J::[]) R]:U W w (aE W M p m::R):=aE.close (I.perm kk.perm)
theorem Na (I:U W w (aP W B p s::L)):Calls prog 94 #[pt B.pb] w λe w'=>e=.returned (.agg (ints .i32 32 s.g).toArray)∧U W w' (aP W B p s::L):=by
 replace I:=aP.open I;refine EN func94 ntmps94 rfl rfl λa E=>?_;refine AL 1 E I λb2 a w E I=>?_;change U W w (aa b2 183 (ints .i32 32 (λ_=>0))::_) at I;refine RN 4 E I λa E=>?_;refine SS E (bT E underlying183 rfl Ty.t183 (zj (I.ai (b:=B.pb)))) λa E=>?_;refine SA 0 E I λa w E I=>?_;refine RT 0 E I ?_;exact⟨rfl,(aP.fold I B p s).sub⟩
theorem Nb (I:U W w (aP W B p s::L)):Calls prog 278 #[pt B.pb] w λe w'=>e=.returned (.agg (dp B.gs B.adT B.cT).toArray)∧U W w' (aP W B p s::L):=by
 replace I:=aP.open I;refine EN func278 ntmps278 rfl rfl λa E=>?_;refine AL 1 E I λb2 a w E I=>?_;refine RN 4 E I λa E=>?_;refine SS E (bT E underlying186 rfl Ty.t186 (MT (I.ai (b:=B.pb)))) λa E=>?_;refine SA 0 E I λa w E I=>?_;refine RT 0 E I ?_;exact⟨rfl,(aP.fold I B p s).sub⟩
theorem tS (I:U W w (aE W M p m::L)):Calls prog 140 #[pt M.mb] w λe w'=>e=.returned (pt M.B.pb)∧U W w' (aE W M p m::L):=by
 replace I:=aE.open I;refine EN func140 ntmps140 rfl rfl λa E=>?_;refine RN 6 E I λa E=>?_;replace E:=E.aM 4;refine RT 7 E I ?_;exact⟨rfl,aE.fold I M p m⟩
theorem BW (I:U W w (aE W M p m::L)):Calls prog 272 #[pt M.mb] w λe w'=>e=.returned (pt M.B.core.cb)∧U W w' (aE W M p m::L):=by
 refine EN func272 ntmps272 rfl rfl λa E=>?_;refine CL 4 E I (tS I) λa w E I=>?_;replace I:=aE.open I;refine CL 0 E I (oh (I.pick (aP W M.B p m.s))) λa w E I=>?_;refine RT 1 E I ?_;exact⟨rfl,aE.fold I M p m⟩
theorem zn (I:U W w (aE W M p m::L)):Calls prog 101 #[pt M.mb] w λe w'=>e=.returned (.bool m.s.k.cl)∧U W w' (aE W M p m::L):=by
 refine EN func101 ntmps101 rfl rfl λa E=>?_;refine CL 4 E I (tS I) λa w E I=>?_;replace I:=aE.open I;refine CL 0 E I (M0 (I.pick (aP W M.B p m.s))) λa w E I=>?_;refine RT 1 E I ?_;exact⟨rfl,aE.fold I M p m⟩
theorem aaw (I:U W w (aE W M p m::L)):Calls prog 81 #[pt M.mb] w λe w'=>e=.returned (pt M.sq)∧U W w' (aE W M p m::L):=by
 replace I:=aE.open I;refine EN func81 ntmps81 rfl rfl λa E=>?_;refine RN 6 E I λa E=>?_;replace E:=E.aM 4;refine RT 7 E I ?_;exact⟨rfl,aE.fold I M p m⟩
theorem aax (I:U W w (aE W M p m::L)):Calls prog 87 #[pt M.mb] w λe w'=>e=.returned (pt M.tq)∧U W w' (aE W M p m::L):=by
 replace I:=aE.open I;refine EN func87 ntmps87 rfl rfl λa E=>?_;refine RN 6 E I λa E=>?_;replace E:=E.aM 4;refine RT 7 E I ?_;exact⟨rfl,aE.fold I M p m⟩
end
end
section
section
variable {p:Pr}{F F':Int}{g g0:Nat→Int}{t t':Nat→Nat}{base i:Nat}{A:Sn}{T:Tr}{ws:List Wk}{k:Wk}{P:List (List UInt8)}
theorem Inv.aay (h:Inv p F g0 t base A T ws)(hA:WF A)(hn:A.n+1<1099511627776)(hT:T.l=[])(hg:dR g) :
   Inv p F' g t' (A.last+1) ((A.add g t').ey base) T ws:=by
 have wN:WF (A.add g t'):=hA.add hn g t';have hr:∀ x∈(A.add g t').ar,x.refs=1:=by
  intro x hx;rcases eS.1 hx with hx | hx
  ·exact (h.ar x hx).1
  ·rw[iH.1 hx]
 have uQ:∀ z∈A.ar,z.id≠A.last+1:=λz hz e=>by have:=(hA.mH z hz).2.1;omega
 rw[AN wN hr];refine⟨?_,λx hx=>?_,λx hx he=>?_,λy hy=>?_,λk hk=>⟨(h.lM k hk).1,λ_ y hy=>?_⟩⟩
 ·simp only;rw[El];have h1:((A.add g t').ar.map (·.id)).Perm (base::(A.last+1)::(T.l.map (·.snap)++jA ws)):=by
   simp only[Sn.add,cW,map_cons,map_nil];exact ((List.perm_append_singleton _ _).trans (h.perm.cons _)).trans (cZ _ _ _)
  exact Ek (lD _) h1 wN.oQ
 ·have hx:=j9 hx;rcases eS.1 hx with hx | hx
  ·exact h.ar x hx
  ·rw[iH.1 hx];exact⟨rfl,hg⟩
 ·have hx:=j9 hx;rcases eS.1 hx with hx | hx
  ·exact absurd he (uQ x hx)
  ·rw[iH.1 hx];exact⟨rfl,rfl⟩
 ·rw[hT]at hy;cases hy
 ·rw[hT]at hy;cases hy
theorem Nc (h:∀ k∈ws,k.busy=false):jA ws=[]:=by
 rw[jA,List.filter_eq_nil_iff.2 (λk hk=>by rw[h k hk];decide)];rfl
theorem BZ:∀ (l:List Br) (A:Sn),(A.gU l).room=A.room∧(A.gU l).n=A.n∧(A.gU l).last=A.last
 | [],_=>⟨rfl,rfl,rfl⟩
 | y::l,A=>by
  have h1:=BZ l (A.ey y.snap);have h2:=oR A y.snap;show ((A.ey y.snap).gU l).room=_∧((A.ey y.snap).gU l).n=_∧((A.ey y.snap).gU l).last=_;exact⟨h1.1.trans h2.1,h1.2.1.trans h2.2.1,h1.2.2.trans h2.2.2⟩
def tT (ls:List (List UInt8))(f:Nat)(j:List UInt8):Bool:=(List.range j.length).all λq=>!(decide (f<(ls.getD q []).length)&&(ls.getD q []).getD f 0 != j.getD q 0)
def jH (ls:List (List UInt8))(f:Nat)(P:List (List UInt8)):Bool:=(List.range P.length).all λi=>tT ls (f+i) (P.getD i [])
theorem aaz {ls:List (List UInt8)}{f q:Nat}{j:List UInt8}(hq:q<j.length)(h1:f<(ls.getD q []).length)(h2:(ls.getD q []).getD f 0≠j.getD q 0):tT ls f j=false:=by
 rw[tT,List.all_eq_false];exact⟨q,mem_range.2 hq,by rw[dh h1,Bool.true_and,bne_iff_ne.2 h2];decide⟩
theorem Nd {ls:List (List UInt8)}{f:Nat}{j:List UInt8}(h:∀ q,q<j.length→f<(ls.getD q []).length→(ls.getD q []).getD f 0=j.getD q 0):tT ls f j=true:=by
 rw[tT,all_eq_true];intro q hq;have:=h q (mem_range.1 hq);by_cases h1:f<(ls.getD q []).length
 ·rw[dh h1,Bool.true_and,this h1,bne_self_eq_false];rfl
 ·rw[bo h1,Bool.false_and];rfl
theorem aaA {ls:List (List UInt8)}{f i:Nat}{P:List (List UInt8)}(hi:i<P.length)(h:tT ls (f+i) (P.getD i [])=false):jH ls f P=false:=by
 rw[jH,List.all_eq_false];exact⟨i,mem_range.2 hi,by rw[h];decide⟩
theorem Nf {ls:List (List UInt8)}{f:Nat}{P:List (List UInt8)}(h:∀ i,i<P.length→tT ls (f+i) (P.getD i [])=true):jH ls f P=true:=by
 rw[jH,all_eq_true];intro i hi;exact h i (mem_range.1 hi)
end
end
section
section
variable {W w:World}{L:List SP}{q r:Nat}{A:Sn}
theorem aaB (l:List Nat):distinct l≤l.length:=by
 induction l with
 | nil=>exact bf _
 | cons x l ih=>rw[distinct,eR];split <;> omega
theorem aaC (l:List aC):(lg l).length=4*l.length:=by
 induction l with
 | nil=>rfl
 | cons x l ih=>show (_++lg l).length=_;rw[aI,ih,eR];simp;omega
theorem ax.wg (I:U W w (ax q r A::L)):A.used≤4*A.ar.length:=by
 rw[ax.used I];have:=aaB (lg A.ar);rw[aaC]at this;exact this
end
end
section
theorem Tl.rest {N L:List SP}{A:SP}(t:Tl N (A::L)):Tl N L:=⟨let ⟨K,h⟩:=t.h;⟨K++[A],by simpa using h⟩⟩
section
variable {W w:World}{L:List SP}{n i tq sq r:Nat}{M:jG}{B:jo}{x:UInt8}{p:Pr}{s:Pl}{m:Mu}{A:Sn}{T:Tr}{F:Int}{g0:Nat→Int}{t:Nat→Nat}{px:aC}
theorem Ng {kp:Br→Bool}{g:Nat}{ws:List Value}(I:U W w (Tree tq sq T::ax sq r A::L))(he:T.epoch+1<1099511627776)(cp:hQ prog g=true)
   (hg:∀ (N:List SP) (w':World) (x:Br) (av:Option Addr) (c':Nat),x∈T.l→U W w' N→Tl N L→wy W N av x.al→x.al.length≤c'→nY x.al →
    Calls prog g (ws++[Value.agg (cj x av c').toArray]).toArray w' λe nZ=>e=.returned (.bool (kp x))∧U W nZ N) :
   Calls prog 287 #[pt tq,.func (.func g) ws.toArray #[]] w λe w'=>(∃ v:Int,e=.returned (.int .i64 v)) ∧
    U W w' (Tree tq sq (T.cut λx=>!kp x)::ax sq r (A.gU (T.l.filter λx=>!kp x))::L):=by
 have hF : ∀ (b3 : Nat) (N : List SP) (w' : World) (x : Br) (av : Option Addr) (c' : Nat), x ∈ T.l → U W w' N → Tl N (aa b3 343 [.func (.func g) ws.toArray #[]] :: L) → wy W N av x.al → x.al.length ≤ c' → nY x.al →
     Calls prog 304 (List.toArray [.agg (cj x av c').toArray,pt b3]) w' λe nZ=>e=.returned (.bool (!kp x))∧U W nZ N:=by
  intro b3 N w x av c' B0 I hM hx hxc kK;refine EN func304 ntmps304 rfl rfl λa E=>?_;refine BX 1 E I λb2 a w E I=>?_;refine RN 2 E I λa E=>?_;have pX:=I.tail.V0 hM;refine SS E (ae E (pX.bz rfl)) λa E=>?_;refine CL 1 E I (hg (aa b2 238 (cj x av c')::N) _ x av c' B0 I (@Tl.cons _ _ _ hM.rest) (hx.imp λzs h=>⟨h.1,λnZ h2=>h.2 _ h2.tail⟩) hxc kK) (hf:=cp) λa w E I=>?_;refine RT 2 E I ?_;exact⟨rfl,I.tail⟩
 refine EN func287 ntmps287 rfl rfl λa E=>?_;refine BX 1 E I λb3 a w E I=>?_;refine CL 4 E I (JZ (tq:=tq) (sq:=sq) (r:=r) (A:=A) (T:=T) (wh:=λx=>!kp x) (us:=[pt b3]) (L:=aa b3 343 [.func (.func g) ws.toArray #[]]::L) I.sub he (by kernel_rfl) (hF b3)) λa w E I=>?_;refine RT 1 E I ?_;exact⟨⟨_,rfl⟩,I.sub⟩
theorem aaD (I:U W w (aE W M p m::L))(hI:Inv p F g0 t m.base m.A m.T (m.ks.map (·.1)))(he:m.T.epoch+1<1099511627776)(h4:m.ks.length≤4) :
   Calls prog 302 #[pt M.mb] w λe w'=>∃ (A':Sn) (B1:List Kx),e=.returned (.tuple #[]) ∧
    (Inv p F g0 t m.base A' (m.T.cut λ_=>true) (B1.map (·.1))∧B1.length=m.ks.length∧(∀ k∈B1,k.1.busy=false)∧A'.room=m.A.room∧A'.n=m.A.n) ∧
    U W w' (aE W M p { m with A:=A',ks:=B1,T:=m.T.cut λ_=>true }::L):=by
 obtain⟨mb,B,sq,r,tq,jq,dw,dF,aq,cO⟩:=M;obtain⟨s,A,T,J,ks,base,front⟩:=m;replace I:=aE.open I;simp only at hI he h4;refine EN func302 ntmps302 rfl rfl λa E=>?_;refine RN 8 E I λa E=>?_;refine aQ (λμ a w=>∃ (i:Nat) (A1:Sn) (lx:List Kx),(μ=ks.length-i∧i≤ks.length∧lx.length=ks.length∧(∀ (j:Nat) (k:Kx),j<i→lx[j]?=some k→k.1.busy=false)∧Inv p F g0 t base A1 T (lx.map (·.1))∧A1.room=A.room∧A1.n=A.n)∧Fr a 21 [(0,pt mb),(7,.slice dw ks.length dF),(8,.int .i64 ks.length),(9,.int .i64 i)]∧U W w (aa mb 177 (dU p ⟨mb,B,sq,r,tq,jq,dw,dF,aq,cO⟩ ks.length base front)::aP W B p s::aA W p aq cO::Sl 179 1 dw ks.length dF (gV lx)::ah (fa p aq cO tq jq sq) lx::Tree tq sq T::ax sq r A1::bI jq J::L)) (ks.length) (⟨0,A,ks,⟨rfl,by omega,rfl,λj k h=>absurd h (by omega),hI,rfl,rfl⟩,E.ab [0,7,8,9],I.sub⟩) ?_;clear E I;rintro μ a w ⟨i,A1,lx,⟨rfl,hi,dH,Nh,xq,lY,n1⟩,E,I⟩;refine IF 3 E I (λaj a E=>?_) λaj a E=>?_
 ·
  have pT:i<lx.length:=by omega
  obtain⟨⟨k,wb⟩,hk⟩:∃ y,lx[i]?=some y:=⟨_,aD pT⟩;obtain⟨b',dG,rfl,c7⟩:=I.bU dw (by omega);refine RN 3 E I λa E=>?_;refine SS E (ae E (c7 i _ (KN hk))) λa E=>?_;refine aY 2 E I (X1 ((I.store sq).pick (ah (fa p aq cO tq jq sq) lx)) hk xq) λA2 k2 a w E ⟨⟨b9,pc,e5,pW⟩,I⟩=>?_;rw[← KO (k':=k2) hk]at I;refine RN 2 E I λa E=>?_;refine⟨ks.length-(i+1),by omega,i+1,A2,lx.set i (k2,wb),⟨rfl,by omega,by rw[bw];exact dH,λj z hj hz=>?_,pc,e5.trans lY,pW.trans n1⟩,E.ab [0,7,8,9],I.sub⟩;rw[jZ]at hz;split at hz
  ·cases hz;exact b9
  ·exact Nh j z (by omega) hz
 refine RN 0 E I λa E=>?_;have gF:=I;refine CL 4 E I (V2 ((I.store sq).tree tq) he) λa w E I=>?_;refine RT 0 E I ?_;obtain rfl:i=ks.length:=by omega
 have B2:=xq.cut (ax.facts (gF.store sq)).1 (λ_=>true);rw[show T.l.filter (λ_=>true)=T.l from by simp]at B2;have hd:=BZ T.l A1;refine⟨A1.gU T.l,lx,rfl,⟨B2,dH,λk hk=>?_,hd.1.trans lY,hd.2.1.trans n1⟩,?_⟩
 ·obtain⟨j,hj⟩:=j6.1 hk;exact Nh j k (by have:=(a2.1 hj).1;omega) hj
 ·rw[← dH]at I;exact aE.fold I ⟨mb,B,sq,r,tq,jq,dw,dF,aq,cO⟩ p ⟨s,A1.gU T.l,T.cut λ_=>true,J,lx,base,front⟩
theorem GH {id:Nat}(I:U W w (aE W M p m::L))(hx:m.A.ar[i]?=some px)(b6:px.id=id) :
   Calls prog 274 #[pt M.mb,.int .i64 id] w λe w'=>e=.returned (.agg (ints .i32 32 px.g).toArray)∧U W w' (aE W M p m::L):=by
 replace I:=aE.open I;refine EN func274 ntmps274 rfl rfl λa E=>?_;refine AL 1 E I λb4 a w E I=>?_;change U W w (aa b4 183 (ints .i32 32 (λ_=>0))::_) at I;refine CL 6 E I (X5 (I.store M.sq) hx b6) λa w E I=>?_;refine AL 3 E I λb5 a w E I=>?_;change U W w (aa b5 183 (ints .i32 32 (λ_=>0))::_) at I;refine SA 0 E I λa w E I=>?_;refine SA 3 E I λa w E I=>?_;refine RT 0 E I ?_;exact⟨rfl,(aE.fold I M p m).sub⟩
structure aaE (p:Pr)(M:jG)(m m':Mu)(t':Nat→Nat):Prop where
 inv:Inv p (aw m.s.k:Int) m.s.g t' m'.base m'.A m'.T (m'.ks.map (·.1))
 s:m'.s=m.s
 J:m'.J=m.J
 front:m'.front=aw m.s.k
 room:m'.A.room=m.A.room
 n:m'.A.n≤m.A.n+1
 last:m'.T.last=m.T.last
 most:m'.T.most=m.T.most
 sM:m'.T.epoch≤m.T.epoch+2
 ks:m'.ks.length=m.ks.length
 af8:(m'.T=m.T∧m'.A=m.A∧m'.ks=m.ks)∨m'.T.l=[]
 same:m.front=aw m.s.k→m'.T=m.T∧m'.A=m.A∧m'.ks=m.ks
theorem aaF (I:U W w (aE W M p m::L))(hw:cu p m.s)(hg:dR m.s.g)(hI:Inv p (m.front:Int) g0 t m.base m.A m.T (m.ks.map (·.1)))(fw:m.front=aw m.s.k→g0=m.s.g)
   (he:m.T.epoch+2<1099511627776) (hn:m.A.n+1<1099511627776) (h4:m.ks.length≤4) (qi:12≤m.A.room) :
   Calls prog 286 #[pt M.mb] w λe w'=>∃ (m':Mu) (t':Nat→Nat),e=.returned (.tuple #[])∧aaE p M m m' t'∧U W w' (aE W M p m'::L):=by
 have bD:=hw.wc.lu;have ib:m.s.k.ls.length≤8:=by rw[hw.wc.ls];exact hw.wc.n.2
 obtain⟨mb,B,sq,r,tq,jq,dw,dF,aq,cO⟩:=M;obtain⟨s,A,T,J,ks,base,front⟩:=m;obtain⟨i,px,hW,lh⟩:=hI.mH (gY ..)
 have hF : ∀ (N : List SP) (w' : World) (x : Br) (av : Option Addr) (c' : Nat), U W w' N →
     Calls prog 301 ([]++[Value.agg (cj x av c').toArray]).toArray w' λe nZ=>e=.returned (.bool false)∧U W nZ N:=by
  intro N w x av c' I;refine EN func301 ntmps301 rfl rfl λa E=>?_;refine BX 1 E I λb1 a w E I=>?_;refine RT 3 E I ?_;exact⟨rfl,I.tail⟩
 simp only at hw hg hI fw he hn h4 qi bD ib hW lh;subst lh;replace I:=aE.open I;dsimp only at I;refine EN func286 ntmps286 rfl rfl λa E=>?_;refine CL 5 E I (oh (I.pick (aP W B p s))) λa w E I=>?_;replace I:=aP.open I;refine CL 0 E I (o9 (I.pick (az B.core s.k))) λa w E I=>?_;obtain⟨D,I,hD⟩:=az.qu I;refine CL 0 E I (se I bD ib) λa w E I=>?_;refine RN 1 E I λa E=>?_;replace I:=(aP.fold (hD _ _ I) B p s);refine IF 8 E I (λaj a E=>?_) λaj a E=>?_
 ·
  have o3:front=aw s.k:=by rw[aw];omega
  refine RT 0 E I ?_;exact⟨⟨s,A,T,J,ks,px.id,front⟩,t,rfl,⟨by rw[← o3,← fw o3];exact hI,rfl,rfl,o3,rfl,by simp only;omega,rfl,rfl,by simp only;omega,rfl,.inl ⟨rfl,rfl,rfl⟩,λ_=>⟨rfl,rfl,rfl⟩⟩,aE.fold I ⟨mb,B,sq,r,tq,jq,dw,dF,aq,cO⟩ p ⟨s,A,T,J,ks,px.id,front⟩⟩
 refine RN 5 E I λa E=>?_;have xr:=hI.cut (ax.facts (I.store sq)).1 (λ_=>true);have tU:=BZ (T.l.filter λ_=>true) A;have GI:(T.cut λ_=>true).l=[]:=by simp[Tr.cut]
 have hTe:(T.cut λ_=>true).epoch≤T.epoch+1:=by simp only[Tr.cut];split <;> omega
 refine j3 0 E I (Ng (kp:=λ_=>false) (ws:=[]) ((I.store sq).tree tq) (by omega) (by kernel_rfl) (λN w' x av c' _ h1 _ _ _ _=>hF N w' x av c' h1)) ?_;clear E I;rintro e w ⟨⟨_,rfl⟩,I⟩;refine⟨_,rfl,λa E=>?_⟩;replace I:U W w (Tree tq sq (T.cut λ_=>true)::ax sq r (A.gU (T.l.filter λ_=>true))::_):=I;generalize A.gU (T.l.filter λ_=>true)=A1 at I xr tU;have sr:(T.cut λ_=>true).last=T.last∧(T.cut λ_=>true).most=T.most:=⟨rfl,rfl⟩;generalize (T.cut λ_=>true)=T1 at I xr GI hTe sr;obtain⟨i1,q6,aaG,aaH⟩:=xr.mH (gY ..);rw[← aaH]at I xr;refine RN 0 E I λa E=>?_;refine cd (M:=λa w=>∃ (A2:Sn) (T2:Tr) (q7:List Kx),(A2.used+4≤A2.room∧Inv p (front:Int) g0 t q6.id A2 T2 (q7.map (·.1))∧T2.l=[]∧T2.epoch≤T.epoch+2∧T2.last=T.last∧T2.most=T.most∧q7.length=ks.length∧A2.room=A.room∧A2.n=A.n)∧Fr a 73 [(0,pt mb),(2,.int .i64 (aU s.k.ls))]∧U W w (aE W ⟨mb,B,sq,r,tq,jq,dw,dF,aq,cO⟩ p ⟨s,A2,T2,J,q7,q6.id,front⟩::L)) ?_ ?_
 ·
  refine aX 1 (λw0 w'=>Rd w' mb 0 (dU p ⟨mb,B,sq,r,tq,jq,dw,dF,aq,cO⟩ ks.length q6.id front)) [7,11,12,13] [0,1,2,4,5,6,8,9,10,3003,3007,1011,1012,1013,1014,15] E I λa w E I hH=>?_;have hC:=hH.at w (I.ai (b:=mb));refine RH 9 E I hH hC λa E=>?_;refine QH E (λw hc=>ae E (hc 3 _ rfl)) hC λa E=>?_;refine QH E (λw hc=>ae E (hc 3 _ rfl)) hC λa E=>?_;refine RH 0 E I hH hC λa E=>?_;refine SS E (ae E (hC 7 _ rfl)) λa E=>?_;refine RH 0 E I hH hC λa E=>?_;refine aY 0 E I (JG (I.store sq) aaG) λc0 dS a w E I=>?_;replace hC:=hH.at w (I.ai (b:=mb));refine RH 1 E I hH hC λa E=>?_;refine CL 0 E I (JH (I.store sq)) λa w E I=>?_;refine RN 1 E I λa E=>?_;refine IF 0 E I (λao a E=>?_) λao a E=>?_
  ·
   replace I:=aE.fold I ⟨mb,B,sq,r,tq,jq,dw,dF,aq,cO⟩ p ⟨s,A1,T1,J,ks,q6.id,front⟩;refine aY 1 E I (aaD I xr (by dsimp only;omega) h4) λA2 q7 a w E ⟨⟨pc,b9,aaI,e5,pW⟩,I⟩=>?_;refine RN 0 E I λa E=>?_;have cp:(T1.cut λ_=>true).l=[]:=by simp[Tr.cut]
   have hce:(T1.cut λ_=>true).epoch≤T1.epoch+1:=by simp only[Tr.cut];split <;> omega
   have hu:=ax.wg ((aE.open I).store sq);have ic:=pc.len;rw[Nc (λk hk=>by obtain⟨y,hy,rfl⟩:=cR.1 hk;exact aaI y hy)]at ic;simp only[cp,length_nil]at ic e5 pW b9 hu;exact⟨A2,T1.cut λ_=>true,q7,⟨by rw[e5,tU.1];omega,pc,cp,by omega,sr.1,sr.2,b9,by rw[e5,tU.1],by rw[pW,tU.2.1]⟩,E.ab [0,2],I.sub⟩
  refine RN 0 E I λa E=>?_;exact⟨A1,T1,ks,⟨by omega,xr,GI,by omega,sr.1,sr.2,rfl,tU.1,tU.2.1⟩,E.ab [0,2],(aE.fold I ⟨mb,B,sq,r,tq,jq,dw,dF,aq,cO⟩ p ⟨s,A1,T1,J,ks,q6.id,front⟩).sub⟩
 clear E;(try clear I);rintro a w ⟨A2,T2,q7,⟨hus,pc,Ni,GJ,B3,B4,b9,e5,pW⟩,E,I⟩;refine RN 1 E I λa E=>?_;replace I:=aE.open I;dsimp only at I;refine aX 0 (λw0 w'=>Rd w' mb 0 (dU p ⟨mb,B,sq,r,tq,jq,dw,dF,aq,cO⟩ q7.length q6.id front)) [7,8] [0,1,2,4,5,6,3003,1007,1008,1009,10,11,12,13,14] E I λa w E I hH=>?_;have hC:=hH.at w (I.ai (b:=mb));refine RH 6 E I hH hC λa E=>?_;refine QH E (λw hc=>ae E (hc 3 _ rfl)) hC λa E=>?_;refine RH 0 E I hH hC λa E=>?_;refine SS E (ae E (hC 0 _ rfl)) λa E=>?_;refine RH 0 E I hH hC λa E=>?_;refine CL 0 E I (Na (I.pick (aP W B p s))) λa w E I=>?_;replace hC:=hH.at w (I.ai (b:=mb));have wN:=(ax.facts (I.store sq)).1;refine RH 0 E I hH hC λa E=>?_;refine bj 0 E I (JI (g:=s.g) (I.store sq) hus (by omega)) λt' a w E ⟨⟨ht1,GK⟩,I⟩=>?_;refine RN 5 E I λa E=>?_;refine RN 4 E I λa E=>?_;replace E:=E.aM 55;refine aX 2 (λw0 w'=>Rd w' mb 0 (dU p ⟨mb,B,sq,r,tq,jq,dw,dF,aq,cO⟩ q7.length q6.id front)) [7] [0,1,2,4,5,6,3003,1007,1008] E I λa w E I hH=>?_;have hC:=hH.at w (I.ai (b:=mb));refine RH 6 E I hH hC λa E=>?_;refine QH E (λw hc=>ae E (hc 3 _ rfl)) hC λa E=>?_;refine RH 0 E I hH hC λa E=>?_;refine SS E (ae E (hC 7 _ rfl)) λa E=>?_;refine RH 0 E I hH hC λa E=>?_;refine bj 0 E I (AJ (I.store sq)) λ_ a w E I=>?_;refine ST 6 E I (λa w E I=>?_);refine ST 2 E I (λa w E I=>?_);refine RT 0 E I ?_;have hm:=pc.aay (F':=(aw s.k:Int)) (g:=s.g) (t':=t') wN (by omega) Ni hg;have hd:=oR (A2.add s.g t') q6.id;exact⟨⟨s,(A2.add s.g t').ey q6.id,T2,J,q7,A2.last+1,aU s.k.ls⟩,t',rfl,⟨hm,rfl,rfl,rfl,hd.1.trans e5,by rw[hd.2.1];show A2.n+1≤A.n+1;omega,B3,B4,GJ,b9,.inr Ni,λe=>(by have e2:front=aU s.k.ls:=e;exfalso;omega)⟩,aE.fold I ⟨mb,B,sq,r,tq,jq,dw,dF,aq,cO⟩ p ⟨s,(A2.add s.g t').ey q6.id,T2,J,q7,A2.last+1,aU s.k.ls⟩⟩
end
end
section
abbrev bk (xs:List ec):List (List UInt8):=xs.map (·.2.2)
theorem su {xs:List ec}{i:Nat}{x:ec}(h:xs[i]?=some x):(bk xs).getD i []=x.2.2:=by
 rw[bl,bn,h];rfl
theorem fZ (xs:List ec):(bk xs).length=xs.length:=a8 _
theorem iK.at {w:World}{ad:Option Addr}{xs:List ec}(h:iK w ad xs){i:Nat}(hi:i<xs.length):∃ b off x,ad=some ⟨b,off,none⟩∧xs[i]?=some x∧w.cell? ⟨b,off+i,none⟩=some (aL x)∧aW w x.1 x.2.2.length x.2.2:=by
 obtain⟨b,off,hb,hr⟩:=h.1 (by omega);have hx:xs[i]?=some xs[i]:=aD hi;exact⟨b,off,xs[i],hb,hx,hr i _ (by rw[bn,hx];rfl),h.2 _ (bH hx)⟩
section
variable {W w:World}{L:List SP}{m cT to r f cl:Nat}{adT hG:Option Addr}{past:List UInt8}{b:Gs}{xs:List ec}
theorem B5 (I:U W w L)(h0:0<xs.length)(h8:xs.length≤8)(hp:∀ w',U W w' L→iK w' hG xs) :
   Calls prog 41 #[.slice hG xs.length cl] w λe w'=>e=.returned (.int .i64 (aU (bk xs)))∧U W w' L:=by
 refine EN func41 ntmps41 rfl rfl λa E=>?_;refine RN 3 E I λa E=>?_;obtain⟨m5,ol,x0,rfl,GL,pY,fK⟩:=(hp _ I).at h0;refine RN 3 E I λa E=>?_;refine SS E (ae E (pY)) λa E=>?_;rw[aL]at E;refine RN 5 E I λa E=>?_;rw[show ((x0.2.2.length:Nat):Int)=(iP (bk xs) 1:Nat) from by rw[Zf,iP,List.headD_eq_getD,su GL]]at E;refine aQ (λμ a w=>∃ (i:Nat),(μ=xs.length-i∧i≤xs.length∧1≤i)∧Fr a 25 [(0,.slice (some ⟨m5,ol,none⟩) xs.length cl),(3,.int .i64 (iP (bk xs) i:Nat)),(4,.int .i64 i)]∧U W w L) (xs.length-1) (⟨1,⟨rfl,by omega,by omega⟩,E.ab [0,3,4],I⟩) ?_;clear E I;rintro μ a w ⟨i,⟨rfl,hi,lF⟩,E,I⟩;refine IF 6 E I (λaj a E=>?_) λaj a E=>?_
 ·
  obtain⟨_,_,x,g5,hx,pY,fK⟩:=(hp _ I).at (i:=i) (by omega);cases g5;refine RN 6 E I λa E=>?_;refine SS E (ae E (pY)) λa E=>?_;rw[aL]at E;refine RN 2 E I λa E=>?_;rw[show min ((iP (bk xs) i:Nat):Int) ((x.2.2.length:Nat):Int)=((iP (bk xs) (i+1):Nat):Int) from by rw[iP,su hx];omega]at E;refine RN 4 E I λa E=>?_;exact⟨xs.length-(i+1),by omega,i+1,⟨rfl,by omega,by omega⟩,E.ab [0,3,4],I⟩
 refine RT 3 E I ?_;obtain rfl:i=xs.length:=by omega
 exact⟨by rw[aU,fZ],I⟩
theorem GM (I:U W w L)(h0:0<xs.length)(h8:xs.length≤8)(hp:∀ w',U W w' L→iK w' hG xs)(hf:f<aU (bk xs)) :
   Calls prog 40 #[.slice hG xs.length cl,.int .i64 f] w λe w'=>∃ av c',e=.returned (.slice av (bJ (bk xs) f).length c')∧U W w' (Sl 5 1 av (bJ (bk xs) f).length c' (bc (bJ (bk xs) f))::L):=by
 refine EN func40 ntmps40 rfl rfl λa E=>?_;refine RN 7 E I λa E=>?_;replace I:=I.bN 5 1 none;refine aQ (λμ a w=>∃ (i:Nat) (ad2:Option Addr) (c2:Nat),(μ=xs.length-i∧i≤xs.length)∧Fr a 25 [(0,.slice hG xs.length cl),(1,.int .i64 f),(5,.slice ad2 (fA (bk xs) f i).length c2),(6,.int .i64 i)]∧U W w (Sl 5 1 ad2 (fA (bk xs) f i).length c2 (bc (fA (bk xs) f i))::L)) (xs.length) (⟨0,none,0,⟨rfl,by omega⟩,E.ab [0,1,5,6],I⟩) ?_;clear E I;rintro μ a w ⟨i,ad2,c2,⟨rfl,hi⟩,E,I⟩;refine IF 6 E I (λaj a E=>?_) λaj a E=>?_
 ·
  obtain⟨m5,ol,x,rfl,hx,pY,fK⟩:=(hp _ I.tail).at (i:=i) (by omega);have ed:f<x.2.2.length:=by
   have h1:=w4 (ls:=bk xs) (l:=x.2.2) (cR.2 ⟨x,bH hx,rfl⟩);omega
  obtain⟨mR,oT,g5,gq⟩:=fK.get (by omega);have eT:=tF (ls:=bk xs) (f:=f) (i:=i) (by rw[fZ];exact hi);refine RN 6 E I λa E=>?_;refine SS E (ae E (pY)) λa E=>?_;rw[aL,g5]at E;refine RN 2 E I λa E=>?_;refine SS E (ae E (gq f _ (ln ed))) λa E=>?_;refine RN 0 E I λa E=>?_;refine cr E rfl I underlying22 Ty.t5 rfl rfl rfl rfl (by decide) (by decide) λuW a w E I ho=>?_;clear ho;refine RN 0 E I λa E=>?_;refine cQ E rfl I underlying22 Ty.t5 rfl rfl I.ai rfl (ep [x.2.2.getD f 0]) (by decide) (by decide) (by omega) λgw gx a w E I=>?_;rw[show bc (fA (bk xs) f i)++_=bc (fA (bk xs) f (i+1)) from by rw[BA (by rw[fZ];omega),getElem_map,fM,(a2.1 hx).2],show (fA (bk xs) f i).length+1=(fA (bk xs) f (i+1)).length from by rw[eT,tF (by rw[fZ];omega)]]at I;rw[show (fA (bk xs) f i).length+1=(fA (bk xs) f (i+1)).length from by rw[eT,tF (by rw[fZ];omega)]]at E;refine RN 4 E I λa E=>?_;exact⟨xs.length-(i+1),by omega,i+1,gw,gx,⟨rfl,by omega⟩,E.ab [0,1,5,6],I.sub⟩
 refine RT 3 E I ?_;obtain rfl:i=xs.length:=by omega
 have hj:fA (bk xs) f xs.length=bJ (bk xs) f:=by
  conv=>lhs;rw[← fZ xs]
  exact Bz _ _
 rw[hj]at I ⊢;exact⟨_,_,rfl,I⟩
set_option maxHeartbeats 1000000 in
theorem B6 (hr:r≤100000)(I:U W w L)(hb:cY b)(h0:0<xs.length)(h8:xs.length≤8)(hl:∀ l∈bk xs,l.length≤1000)(tK:to≤1000)(hp:∀ w',U W w' L→iK w' hG xs)(ht:∀ w',U W w' L→aW w' adT b.table.length b.table) :
   Calls prog 117 #[.slice hG xs.length cl,.agg (dp b adT cT).toArray,.int .i64 r,.int .i64 to] w λe w'=>∃ (av:Option Addr) (c':Nat) (X:List (List UInt8)),e=.returned (.slice av (to-aU (bk xs)) c')∧(zg to (bk xs) X∧(r=0→X=jj b (bk xs) to)) ∧
    U W w' (ch av (to-aU (bk xs)) c' (nH X (aU (bk xs)) to)::L):=by
 have bD:bk xs≠[]:=λe=>by have h1:=fZ xs;rw[e]at h1;simp at h1;omega
 have fw:aU (bk xs)≤1000:=by
  obtain⟨l,jf,j7⟩:=By bD;rw[j7];exact hl l jf
 refine EN func117 ntmps117 rfl rfl λa E=>?_;refine BX 1 E I λb5 a w E I=>?_;change U W w (aa b5 47 (dp b adT cT)::_) at I;refine CL 3 E I (B5 (cl:=cl) I h0 h8 (λw' hw=>hp w' hw.tail)) λa w E I=>?_;refine bj 4 E I (Gv I) λso a w E ⟨jR,I⟩=>?_;rw[jR.2 hb]at E;refine RN 2 E I λa E=>?_;replace E:=E.aM 23;refine RN 4 E I λa E=>?_;rw[bo (by omega)]at E;refine RN 4 E I λa E=>?_;rw[bo (by omega)]at E;refine IF 4 E I (λaj a E=>?_) λaj a E=>?_
 ·
  refine RT 2 E I ?_;have hz:to-aU (bk xs)=0:=by omega
  refine⟨none,0,jj b (bk xs) to,by rw[hz],⟨⟨by rw[jj,a8],λj l x hj hx=>?_⟩,λ_=>rfl⟩,?_⟩
  ·rw[jj,bn,hj]at hx;obtain rfl:oa b l to=x:=by simpa using hx
   exact aai (hl l (bH hj)) tK
  ·rw[nH,hz];exact ch.nil I.tail
 refine RN 7 E I λa E=>?_;replace I:=I.bN 22 1 none;replace I:=U.iY (f:=a7) I;have af9:aU (bk xs)<to:=by omega
 refine aQ (λμ a w=>∃ (i:Nat) (Nj:Bool) (ys:List ec) (nI:Option Addr) (nJ:Nat),(μ=xs.length-i∧i≤xs.length∧ys.length=i∧(∀ (j:Nat) (l:List UInt8) (x:ec),(bk xs)[j]?=some l→ys[j]?=some x→xj to l x.2.2)∧(r=0→bk ys=(jj b (bk xs) to).take i))∧Fr a 117 [(0,.slice hG xs.length cl),(2,.int .i64 r),(3,.int .i64 to),(5,pt b5),(9,.int .i64 (aU (bk xs))),(10,.slice nI i nJ),(11,.bool Nj),(12,.int .i64 i)]∧U W w (Sl 22 1 nI i nJ (ys.map aL)::ah a7 ys::aa b5 47 (dp b adT cT)::L)) (xs.length) (⟨0,false,[],none,0,⟨rfl,by omega,rfl,λj l x _ h=>by simp at h,λ_=>rfl⟩,E.ab [0,2,3,5,9,10,11,12],(I.sub:U W w (Sl 22 1 none 0 0 []::ah a7 []::aa b5 47 (dp b adT cT)::L))⟩) ?_;clear E I;rintro μ a w ⟨i,Nj,ys,nI,nJ,⟨rfl,hi,jl,nR,vj⟩,E,I⟩;refine IF 6 E I (λao a E=>?_) λao a E=>?_
 ·
  obtain⟨m5,ol,x,rfl,hx,pY,fK⟩:=(hp _ I.tail.tail.tail).at (i:=i) (by omega);have eG:(bk xs)[i]?=some x.2.2:=by rw[bn,hx];rfl
  have ca:=hl _ (bH eG);replace I:=I.bN 5 1 none;refine RN 6 E I λa E=>?_;refine SS E (ae E (pY)) λa E=>?_;rw[aL]at E;refine RN 0 E I λa E=>?_;refine g9 E rfl I underlying22 Ty.t5 rfl rfl (by decide) (λh0=>fK.get h0) (by rw[dy];omega) (ep _) (by omega) λp9 r9 a w E I=>?_;rw[nil_append,eE]at I;rw[eE]at E;refine RN 1 E I λa E=>?_;refine cd (M:=λa w=>∃ (B7:Bool) (c0:Option Addr) (dS:Nat) (y:List UInt8),((∃ t,y=x.2.2++t)∧y.length≤x.2.2.length+1∧(y=x.2.2∨x.2.2.length=aU (bk xs))∧(r=0→y=x.2.2))∧Fr a 117 [(0,.slice (some ⟨m5,ol,none⟩) xs.length cl),(2,.int .i64 r),(3,.int .i64 to),(5,pt b5),(9,.int .i64 (aU (bk xs))),(10,.slice nI i nJ),(11,.bool B7),(12,.int .i64 i),(13,.slice c0 y.length dS)]∧U W w (Sl 5 1 c0 y.length dS (bc y)::Sl 22 1 nI i nJ (ys.map aL)::ah a7 ys::aa b5 47 (dp b adT cT)::L)) ?_ ?_
  ·
   refine BY 4 E I (λbA a E=>?_) λbA a E=>?_
   ·
    refine BY 4 E I (λkb a E=>?_) λkb a E=>?_
    ·
     refine IF 5 E I (λay a E=>?_) λay a E=>?_
     ·
      refine RN 2 E I λa E=>?_;have yV:r%256<256:=Nat.mod_lt _ (by decide);have aaJ:=(I.sl p9).2;refine SX 4 E I (by decide) λa E=>?_;rw[show ((r:Nat):Int).tmod 256=((r%256:Nat):Int) from oD _ 256]at E;generalize mf:r%256=r6 at E yV;refine RN 1 E I λa E=>?_;rw[show ((r6:Nat):Int)+1=((r6+1:Nat):Int) from by omega]at E;refine j2 0 E I (MH (past:=x.2.2) (k:=r6+1) I hb (by omega) (by omega) aaJ (λw' hw=>hw.cv p9 x.2.2 rfl rfl) (λw' hw=>ht w' hw.tail.tail.tail.tail)) λr4 o2 out a w E ⟨⟨dY,_⟩,I⟩=>?_;obtain⟨gr,or',rfl,jR⟩:=I.bU r4 (by omega);refine SX 1 E I (by decide) λa E=>?_;rw[show ((r:Nat):Int).tmod 256=((r6:Nat):Int) from by rw[← mf];exact oD _ 256]at E;refine RN 1 E I λa E=>?_;refine SS E (ae E (jR r6 _ (dT (by omega)))) λa E=>?_;refine RN 0 E I λa E=>?_;refine cr E rfl I underlying22 Ty.t5 rfl rfl rfl rfl (by decide) (by decide) λYE a w E I ho=>?_;clear ho;refine RN 0 E I λa E=>?_;refine cQ E rfl I underlying22 Ty.t5 rfl rfl I.ai rfl (ep [out[r6]]) (by decide) (by decide) (by omega) λLb Lc a w E I=>?_;rw[show bc x.2.2++_=bc (x.2.2++[out[r6]]) from (fM _ [_]).symm,show x.2.2.length+1=(x.2.2++[out[r6]]).length from by simp]at I;rw[show x.2.2.length+1=(x.2.2++[out[r6]]).length from by simp]at E;refine RN 1 E I λa E=>?_;exact⟨_,Lb,Lc,x.2.2++[out[r6]],⟨⟨_,rfl⟩,by simp,.inr (by omega),λh=>by omega⟩,E.ab [0,2,3,5,9,10,11,12,13],I.sub⟩
     refine RN 0 E I λa E=>?_;exact⟨_,p9,r9,x.2.2,⟨⟨[],by simp⟩,by omega,.inl rfl,λ_=>rfl⟩,E.ab [0,2,3,5,9,10,11,12,13],I.sub⟩
    refine RN 6 E I λa E=>?_;exact⟨_,p9,r9,x.2.2,⟨⟨[],by simp⟩,by omega,.inl rfl,λ_=>rfl⟩,E.ab [0,2,3,5,9,10,11,12,13],I.sub⟩
   refine RN 10 E I λa E=>?_;exact⟨_,p9,r9,x.2.2,⟨⟨[],by simp⟩,by omega,.inl rfl,λ_=>rfl⟩,E.ab [0,2,3,5,9,10,11,12,13],I.sub⟩
  clear E;(try clear I);rintro a w ⟨B7,c0,dS,y,⟨g6,jg,hy4,mv⟩,E,I⟩;refine cd (M:=λa w=>∃ (adq:Option Addr) (cq:Nat) (z:List UInt8),(xj to x.2.2 z∧(r=0→z=oa b x.2.2 to))∧Fr a 117 [(0,.slice (some ⟨m5,ol,none⟩) xs.length cl),(2,.int .i64 r),(3,.int .i64 to),(5,pt b5),(9,.int .i64 (aU (bk xs))),(10,.slice nI i nJ),(11,.bool B7),(12,.int .i64 i),(13,.slice adq z.length cq)]∧U W w (Sl 5 1 adq z.length cq (bc z)::Sl 22 1 nI i nJ (ys.map aL)::ah a7 ys::aa b5 47 (dp b adT cT)::L)) ?_ ?_
  ·
   refine IF 5 E I (λbd a E=>?_) λbd a E=>?_
   ·
    have pa:=(I.sl c0).2;have Gz:=FN b y (to-y.length);refine RN 7 E I λa E=>?_;rw[show ((to:Nat):Int)-((y.length:Nat):Int)=((to-y.length:Nat):Int) from by omega]at E;refine aY 0 E I (aag (past:=y) (m:=to-y.length) I hb (by omega) pa (by omega) (λw' hw=>hw.cv c0 y rfl rfl) (λw' hw=>ht w' hw.tail.tail.tail.tail)) λadc zh a w E I=>?_;refine RN 0 E I λa E=>?_;refine g9 E rfl I underlying22 Ty.t5 rfl rfl (by decide) (λh0=>(I.cv adc (kj b y (to-y.length)) rfl Gz).get h0) (by rw[dy];omega) (ep _) (by omega) λaaK c85 a w E I=>?_;rw[← fM,u7,show y.length+(to-y.length)=(ej b y (to-y.length)).length from by rw[iA]]at I;rw[show y.length+(to-y.length)=(ej b y (to-y.length)).length from by rw[iA]]at E;refine RN 1 E I λa E=>?_;obtain⟨t,GA⟩:=g6;refine⟨aaK,c85,_,⟨⟨⟨t++kj b y (to-y.length),?_⟩,by rw[iA];omega,by rw[iA];omega⟩,λh=>?_⟩,E.ab [0,2,3,5,9,10,11,12,13],I.sub⟩
    ·rw[← u7,GA,dx]
    ·rw[mv h,oa]
   refine RN 0 E I λa E=>?_;exact⟨c0,dS,y,⟨⟨g6,by omega,by omega⟩,λh=>by rw[MK (by rw[← mv h];omega)];exact mv h⟩,E.ab [0,2,3,5,9,10,11,12,13],I⟩
  clear E;(try clear I);rintro a w ⟨adq,cq,z,⟨cV,eQ⟩,E,I⟩;refine RN 2 E I λa E=>?_;refine cr E rfl I underlying207 Ty.t22 rfl rfl rfl rfl (by decide) (by decide) λb88 a w E I ho=>?_;clear ho;refine RN 0 E I λa E=>?_;refine cQ E rfl I underlying207 Ty.t22 rfl rfl I.ai rfl (by simp[Value.oneCell']) (by decide) (by decide) (by omega) λNk Nl a w E I=>?_;rw[show List.map aL ys++_=List.map aL (ys++[(adq,cq,z)]) from by rw[cW];rfl]at I;refine RN 4 E I λa E=>?_;have dz:=U.j0 (f:=a7) (x:=(adq,cq,z)) (I.sub (M:=Sl 5 1 adq z.length cq (bc z)::ah a7 ys::Sl 22 1 Nk (i+1) Nl ((ys++[(adq,cq,z)]).map aL)::aa b5 47 (dp b adT cT)::L));refine⟨xs.length-(i+1),by omega,i+1,B7,ys++[(adq,cq,z)],Nk,Nl,⟨rfl,by omega,by rw[aI,jl];rfl,λj l y hj hy=>?_,λh=>?_⟩,E.ab [0,2,3,5,9,10,11,12],dz.sub⟩
  ·by_cases gT:j<i
   ·rw[mA (by omega)]at hy;exact nR j l y hj hy
   ·have eT:=(a2.1 hy).1;rw[aI,jD]at eT;obtain rfl:j=i:=by omega
    rw[pA (by omega),jl,Nat.sub_self]at hy;obtain rfl:(adq,cq,z)=y:=by simpa using hy
    rw[eG]at hj;obtain rfl:x.2.2=l:=by simpa using hj
    exact cV
  ·rw[bk,cW,← bk,vj h,jw (by rw[jj,a8,fZ];omega)]
   congr 1
   rw[map_singleton,eQ h];simp only[jj,getElem_map];rw[(a2.1 hx).2]
 obtain rfl:i=xs.length:=by omega
 have iy:zg to (bk xs) (bk ys):=⟨by rw[fZ,fZ];exact jl,λj l x hj hx=>by
  rw[bn]at hx;obtain⟨y,hy,rfl⟩:=rG.1 hx;exact nR j l y hj hy⟩
 have mX:r=0→bk ys=jj b (bk xs) to:=λh=>by rw[vj h,gg (by rw[jj,a8,fZ];exact bf _)]
 clear nR vj;refine RN 6 E I λa E=>?_;replace I:=I.bN 22 1 none;replace I:=U.iY (f:=a7) I;refine aQ (λμ a w=>∃ (d:Nat) (zs:List ec) (mY:Option Addr) (mZ:Nat),(μ=to-aU (bk xs)-d∧d≤to-aU (bk xs)∧bk zs=(List.range d).map λi=>bJ (bk ys) (aU (bk xs)+i))∧Fr a 117 [(0,.slice hG xs.length cl),(3,.int .i64 to),(10,.slice nI xs.length nJ),(14,.slice mY d mZ),(15,.int .i64 (aU (bk xs)+d:Nat))]∧U W w (Sl 22 1 mY d mZ (zs.map aL)::ah a7 zs::Sl 22 1 nI xs.length nJ (ys.map aL)::ah a7 ys::L)) (to-aU (bk xs)) (⟨0,[],none,0,⟨rfl,by omega,rfl⟩,by rw[Nat.add_zero];exact E.ab [0,3,10,14,15],(I.sub:U W w (Sl 22 1 none 0 0 []::ah a7 []::Sl 22 1 nI xs.length nJ (ys.map aL)::ah a7 ys::L))⟩) ?_;clear E I;rintro μ a w ⟨d,zs,mY,mZ,⟨rfl,hd,tO⟩,E,I⟩;refine IF 5 E I (λbF a E=>?_) λbF a E=>?_
 ·
  refine RN 6 E I λa E=>?_;replace I:=I.bN 5 1 none;refine aQ (λμ a w=>∃ (i:Nat) (iR:Option Addr) (jm:Nat),(μ=xs.length-i∧i≤xs.length)∧Fr a 117 [(0,.slice hG xs.length cl),(3,.int .i64 to),(10,.slice nI xs.length nJ),(14,.slice mY d mZ),(15,.int .i64 (aU (bk xs)+d:Nat)),(16,.slice iR i jm),(17,.int .i64 i)]∧U W w (Sl 5 1 iR i jm (bc (fA (bk ys) (aU (bk xs)+d) i))::Sl 22 1 mY d mZ (zs.map aL)::ah a7 zs::Sl 22 1 nI xs.length nJ (ys.map aL)::ah a7 ys::L)) (xs.length) (⟨0,none,0,⟨rfl,by omega⟩,E.ab [0,3,10,14,15,16,17],I⟩) ?_;clear E I;rintro μ a w ⟨i,iR,jm,⟨rfl,hi⟩,E,I⟩;refine IF 6 E I (λeU a E=>?_) λeU a E=>?_
  ·
   have aF:i<xs.length:=by omega
   have BT:=U.mF (xs:=ys) (I.sub (M:=Sl 22 1 nI xs.length nJ (ys.map aL)::ah a7 ys::[]));obtain⟨a1,aga,y,rfl,hy,pd,qj⟩:=BT.at (i:=i) (by omega);have B8:=iy.fit i _ y.2.2 (aD (by rw[fZ];exact aF)) (by rw[bn,hy];rfl);obtain⟨bb,oo,tV,gq⟩:=qj.get (by have:=B8.2.1;omega);refine RN 5 E I λa E=>?_;refine SS E (ae E (pd)) λa E=>?_;rw[aL,tV]at E;refine SX 1 E I (by have:=B8.2.1;omega) λa E=>?_;refine RN 0 E I λa E=>?_;refine SS E (ae E (gq (aU (bk xs)+d) _ (ln (by have:=B8.2.1;omega)))) λa E=>?_;refine RN 0 E I λa E=>?_;refine cr E rfl I underlying22 Ty.t5 rfl rfl rfl rfl (by decide) (by decide) λSb a w E I ho=>?_;clear ho;refine RN 0 E I λa E=>?_;refine cQ E rfl I underlying22 Ty.t5 rfl rfl I.ai rfl (ep [y.2.2.getD (aU (bk xs)+d) 0]) (by decide) (by decide) (by omega) λaaL aaM a w E I=>?_;rw[show bc (fA (bk ys) (aU (bk xs)+d) i)++_=bc (fA (bk ys) (aU (bk xs)+d) (i+1)) from by rw[BA (by rw[fZ];omega),getElem_map,fM,(a2.1 hy).2]]at I;refine RN 4 E I λa E=>?_;exact⟨xs.length-(i+1),by omega,i+1,aaL,aaM,⟨rfl,by omega⟩,E.ab [0,3,10,14,15,16,17],I.sub⟩
  obtain rfl:i=xs.length:=by omega
  have eT:fA (bk ys) (aU (bk xs)+d) xs.length=bJ (bk ys) (aU (bk xs)+d):=by
   conv=>lhs;rw[← jl,← fZ]
   exact Bz _ _
  rw[eT]at I;have qE:(bJ (bk ys) (aU (bk xs)+d)).length=xs.length:=by rw[nC,fZ];exact jl
  refine RN 2 E I λa E=>?_;refine cr E rfl I underlying207 Ty.t22 rfl rfl rfl rfl (by decide) (by decide) λSc a w E I ho=>?_;clear ho;refine RN 0 E I λa E=>?_;refine cQ E rfl I underlying207 Ty.t22 rfl rfl I.ai rfl (by simp[Value.oneCell']) (by decide) (by decide) (by omega) λNm Nn a w E I=>?_;rw[show List.map aL zs++_=List.map aL (zs++[(iR,jm,bJ (bk ys) (aU (bk xs)+d))]) from by rw[cW,map_singleton,aL,qE];rfl]at I;refine RN 4 E I λa E=>?_;have dz:=U.j0 (f:=a7) (x:=(iR,jm,bJ (bk ys) (aU (bk xs)+d))) (by
   rw[a7,qE];exact I.sub (M:=Sl 5 1 iR xs.length jm (bc (bJ (bk ys) (aU (bk xs)+d)))::ah a7 zs::Sl 22 1 Nm (d+1) Nn ((zs++[(iR,jm,bJ (bk ys) (aU (bk xs)+d))]).map aL)::Sl 22 1 nI xs.length nJ (ys.map aL)::ah a7 ys::L))
  exact⟨to-aU (bk xs)-(d+1),by omega,d+1,zs++[(iR,jm,bJ (bk ys) (aU (bk xs)+d))],Nm,Nn,⟨rfl,by omega,by rw[bk,cW,← bk,tO,range_succ,cW];rfl⟩,by rw[show ((aU (bk xs)+(d+1):Nat):Int)=((aU (bk xs)+d:Nat):Int)+1 from by omega];exact E.ab [0,3,10,14,15],dz.sub⟩
 obtain rfl:d=to-aU (bk xs):=by omega
 refine RT 3 E I ?_;exact⟨mY,mZ,bk ys,rfl,⟨iy,mX⟩,ch.close (xs:=zs) (I.sub (M:=Sl 22 1 mY (to-aU (bk xs)) mZ (zs.map aL)::ah a7 zs::L)) tO (BS _ _ _)⟩
end
end
section
section
variable {W w:World}{Z:List SP}{n c i tq sq r nk base front:Nat}{ad:Option Addr}{M:jG}{B:jo}{y:UInt8}{x:Br}{p:Pr}{s:Pl}{T:Tr}
theorem aaN (I:U W w (aa M.mb 177 (dU p M nk base front)::aP W M.B p s::Z))(hw:cu p s)(hx:wy W (aa M.mb 177 (dU p M nk base front)::aP W M.B p s::Z) ad x.al)
   (hf:x.frm=(front:Int)) (hj:∀ j∈x.al,j.length=s.k.n) (hb:front+x.al.length≤100000) :
   Calls prog 288 #[pt M.mb,.agg (cj x ad c).toArray] w λe w'=>e=.returned (.bool (jH s.k.ls front x.al))∧U W w' (aa M.mb 177 (dU p M nk base front)::aP W M.B p s::Z):=by
 obtain⟨zs,hz,hx⟩:=hx;have bD:=hw.wc.lu;have fb:=hw.wc.ls;have xt:=hw.wc.n;have iI:zs.length=x.al.length:=by rw[← hz,a8]
 refine EN func288 ntmps288 rfl rfl λa E=>?_;refine BX 1 E I λb3 a w E I=>?_;refine CL 6 E I (oh (I.pick (aP W M.B p s))) λa w E I=>?_;replace I:=aP.open I;refine CL 0 E I (o9 (I.pick (az M.B.core s.k))) λa w E I=>?_;refine RN 1 E I λa E=>?_;obtain⟨D,I,hD⟩:=az.qu I;have No:∀ w',U W w' (Qu M.B.core.qb M.B.core.aB s.k.ls::D::aa M.B.pb 192 (gy p M.B s.g)::aA W p M.B.aq M.B.cO::Sl 5 1 M.B.adT M.B.gs.table.length M.B.cT (bc M.B.gs.table)::aa M.mb 177 (dU p M nk base front)::Z)→iK w' ad zs :=
  λw' h=>hx w' ((aP.fold (hD _ _ h) M.B p s).sub)
 refine RN 6 E I λa E=>?_;refine aQ (λμ a w=>∃ (i:Nat),(μ=x.al.length-i∧i≤x.al.length∧(∀ j,j<i→tT s.k.ls (front+j) (x.al.getD j [])=true))∧Fr a 59 [(0,pt M.mb),(3,pt b3),(5,pt M.B.core.qb),(19,.slice ad x.al.length c),(20,.int .i64 x.al.length),(21,.int .i64 i)]∧U W w (Qu M.B.core.qb M.B.core.aB s.k.ls::D::aa b3 238 (cj x ad c)::aa M.B.pb 192 (gy p M.B s.g)::aA W p M.B.aq M.B.cO::Sl 5 1 M.B.adT M.B.gs.table.length M.B.cT (bc M.B.gs.table)::aa M.mb 177 (dU p M nk base front)::Z)) (x.al.length) (⟨0,⟨rfl,by omega,λj h=>absurd h (by omega)⟩,E.ab [0,3,5,19,20,21],I.sub⟩) ?_;clear E I;rintro μ a w ⟨i,⟨rfl,hi,pf⟩,E,I⟩;refine IF 3 E I (λaj a E=>?_) λaj a E=>?_
 ·
  have aF:i<zs.length:=by omega
  obtain⟨mR,oT,z,g7,kP,mG,GN⟩:=(No _ I.sub).at aF;have Np:x.al.getD i []=z.2.2:=by rw[bl,← hz,bn,kP];rfl
  have Kz:z.2.2.length=s.k.n:=hj _ (by rw[← hz];exact cR.2 ⟨z,bH kP,rfl⟩);refine RN 3 E I λa E=>?_;rw[g7]at E;refine RN 1 E I λa E=>?_;refine SS E (ae E (mG)) λa E=>?_;rw[← g7]at E;rw[aL]at E;refine RN 6 E I λa E=>?_;refine aQ (λμ a w=>∃ (v:Nat),(μ=z.2.2.length-v∧v≤z.2.2.length∧(∀ q,q<v→front+i<(s.k.ls.getD q []).length→(s.k.ls.getD q []).getD (front+i) 0=z.2.2.getD q 0))∧Fr a 59 [(0,pt M.mb),(3,pt b3),(5,pt M.B.core.qb),(6,.int .i64 i),(19,.slice ad x.al.length c),(20,.int .i64 x.al.length),(21,.int .i64 i),(26,.slice z.1 z.2.2.length z.2.1),(27,.int .i64 z.2.2.length),(28,.int .i64 v)]∧U W w (Qu M.B.core.qb M.B.core.aB s.k.ls::D::aa b3 238 (cj x ad c)::aa M.B.pb 192 (gy p M.B s.g)::aA W p M.B.aq M.B.cO::Sl 5 1 M.B.adT M.B.gs.table.length M.B.cT (bc M.B.gs.table)::aa M.mb 177 (dU p M nk base front)::Z)) (z.2.2.length) (⟨0,⟨rfl,by omega,λj h=>absurd h (by omega)⟩,E.ab [0,3,5,6,19,20,21,26,27,28],I⟩) ?_;clear E I;rintro μ a w ⟨v,⟨rfl,hv,GO⟩,E,I⟩;refine IF 3 E I (λao a E=>?_) λao a E=>?_
  ·
   have B9:v<z.2.2.length:=by omega
   have Nq:v<s.k.ls.length:=by omega
   obtain⟨agb,agc,cV,Ca⟩:=((No _ I.sub).2 z (bH kP)).get (by omega);refine RN 3 E I λa E=>?_;rw[cV]at E;refine RN 1 E I λa E=>?_;refine SS E (ae E (Ca v _ (ln B9))) λa E=>?_;rw[← cV]at E;refine aX 3 (λw0 w'=>Rd w' b3 0 (cj x ad c)) [2] [0,1,3,5,3004,6,1002,1007,8,9,10,11,12] E I λa w E I hH=>?_;have hC:=hH.at w (I.ai (b:=b3));refine RH 4 E I hH hC λa E=>?_;refine QH E (λw hc=>ae E (hc 1 _ rfl)) hC λa E=>?_;refine RH 1 E I hH hC λa E=>?_;rw[hf,show ((front:Nat):Int)+(i:Int)=((front+i:Nat):Int) from rfl]at E;refine CL 0 E I (tG (I.pick (Qu M.B.core.qb M.B.core.aB s.k.ls)) Nq) λa w E I=>?_;replace hC:=hH.at w (I.ai (b:=b3));refine RH 0 E I hH hC λa E=>?_;refine CL 0 E I (Zn I Nq) λa w E I=>?_;refine RN 5 E I λa E=>?_;refine BY 3 E I (λnq a E=>?_) λnq a E=>?_
   ·
    refine IF 4 E I (λay a E=>?_) λay a E=>?_
    ·
     refine RT 2 E I ?_;exact⟨by rw[aaA (i:=i) (by omega) (by rw[Np];exact aaz B9 nq (λe=>ay (by rw[e])))],((aP.fold (hD _ _ I) M.B p s).sub)⟩
    refine RN 2 E I λa E=>?_;refine⟨z.2.2.length-(v+1),by omega,v+1,⟨rfl,by omega,λq hq h1=>?_⟩,E.ab [0,3,5,6,19,20,21,26,27,28],I.sub⟩;rcases (by omega:q<v∨q=v) with h | rfl
    ·exact GO q h h1
    ·exact UInt8.toNat.inj (by omega)
   refine RN 7 E I λa E=>?_;refine⟨z.2.2.length-(v+1),by omega,v+1,⟨rfl,by omega,λq hq h1=>?_⟩,E.ab [0,3,5,6,19,20,21,26,27,28],I.sub⟩;rcases (by omega:q<v∨q=v) with h | rfl
   ·exact GO q h h1
   ·omega
  refine RN 2 E I λa E=>?_;refine⟨x.al.length-(i+1),by omega,i+1,⟨rfl,by omega,λj hj=>?_⟩,E.ab [0,3,5,19,20,21],I.sub⟩;rcases (by omega:j<i∨j=i) with h | rfl
  ·exact pf j h
  ·rw[Np];exact Nd λq hq=>GO q (by omega)
 refine bS 1 [5] [0,2,3,4,3001,1005,6,7] E I λa w E I hH hC=>?_;refine RH 8 E I hH hC λa E=>?_;refine RT 0 E I ?_;exact⟨by rw[hf,dh rfl,Nf λj hj=>pf j (by omega)],((aP.fold (hD _ _ I) M.B p s).sub)⟩
theorem aaO {P:List (List UInt8)}(I:U W w (aa M.mb 177 (dU p M nk base front)::Tree M.tq M.sq T::Z))(hx:wy W Z ad P)(tv:P.length≤65536) :
   Calls prog 305 #[pt M.mb,.slice ad P.length c] w λe w'=>∃ r:Bool,e=.returned (.bool r)∧(r=true→T.l≠[])∧U W w' (aa M.mb 177 (dU p M nk base front)::Tree M.tq M.sq T::Z):=by
 obtain⟨zs,hz,hx⟩:=hx;have iI:zs.length=P.length:=by rw[← hz,a8]
 have lj:=Tree.wt (I.tree M.tq);have Nr:=lj.most;refine EN func305 ntmps305 rfl rfl λa E=>?_;refine aY 8 E I (AH (I.tree M.tq)) λtW q8 a w E I=>?_;obtain⟨xs,h1,h2,I⟩:=k8.open I;have ca:xs.length=T.l.length:=by rw[← h1,a8]
 refine RN 2 E I λa E=>?_;refine aQ (λμ a w=>∃ (i:Nat),(μ=T.l.length-i∧i≤T.l.length)∧Fr a 61 [(0,pt M.mb),(1,.slice ad P.length c),(14,.slice tW T.l.length q8),(15,.int .i64 T.l.length),(16,.int .i64 i)]∧U W w (Sl 238 5 tW T.l.length q8 (rows c8 xs)::ah bY xs::Tree M.tq M.sq T::aa M.mb 177 (dU p M nk base front)::Z)) (T.l.length) (⟨0,⟨rfl,by omega⟩,E.ab [0,1,14,15,16],I.sub⟩) ?_;clear E I;rintro μ a w ⟨i,⟨yu,hi⟩,E,I⟩;refine IF 3 E I (λaj a E=>?_) λaj a E=>?_
 ·
  obtain⟨b',dG,rfl,c7⟩:=I.bU tW (by omega);obtain⟨⟨x,eH,db⟩,dW⟩:∃ y,xs[i]?=some y:=⟨_,aD (by omega)⟩;have fV:=oL c7 dW;have jz:T.l[i]?=some x:=by rw[← h1,bn,dW];rfl
  have kK:=lj.ok x (bH jz);have hxP:=kK.1.1;have aaP:T.l≠[]:=λe=>by rw[e]at jz;cases jz
  refine RN 3 E I λa E=>?_;refine SS E (bT E underlying238 rfl Ty.t238 (fV)) λa E=>?_;refine AL 0 E I λcI a w E I=>?_;refine SA 0 E I λa w E I=>?_;refine RN 6 E I λa E=>?_;refine cd (M:=λa w=>∃ q:Bool,(q=false→x.al.length≤P.length)∧Fr a 61 [(0,pt M.mb),(1,.slice ad P.length c),(6,pt cI),(7,.int .i64 x.al.length),(14,.slice (some ⟨b',dG,none⟩) T.l.length q8),(15,.int .i64 T.l.length),(16,.int .i64 i),(38,.bool q)]∧U W w (aa cI 238 (cj x eH db)::Sl 238 5 (some ⟨b',dG,none⟩) T.l.length q8 (rows c8 xs)::ah bY xs::Tree M.tq M.sq T::aa M.mb 177 (dU p M nk base front)::Z)) ?_ ?_
  ·
   refine BY 5 E I (λdE a E=>?_) λdE a E=>?_
   ·
    refine RN 11 E I λa E=>?_;exact⟨_,(λh=>by first | omega | cases h),E.ab [0,1,6,7,14,15,16,38],I.sub⟩
   refine BY 5 E I (λu1 a E=>?_) λu1 a E=>?_
   ·
    refine RN 6 E I λa E=>?_;exact⟨_,(λh=>by first | omega | cases h),E.ab [0,1,6,7,14,15,16,38],I.sub⟩
   refine RN 6 E I λa E=>?_;exact⟨_,(λh=>by first | omega | cases h),E.ab [0,1,6,7,14,15,16,38],I.sub⟩
  clear E;(try clear I);rintro a w ⟨q,hq,E,I⟩;refine IF 0 E I (λao a E=>?_) λao a E=>?_
  ·
   refine RN 2 E I λa E=>?_;exact⟨T.l.length-(i+1),by omega,i+1,⟨rfl,by omega⟩,E.ab [0,1,14,15,16],I.sub⟩
  have np:=hq ao;refine RN 6 E I λa E=>?_;refine aQ (λμ a w=>∃ (v:Nat) (Bv:Bool),(μ=x.al.length-v∧v≤x.al.length)∧Fr a 61 [(0,pt M.mb),(1,.slice ad P.length c),(6,pt cI),(7,.int .i64 x.al.length),(8,.bool Bv),(14,.slice (some ⟨b',dG,none⟩) T.l.length q8),(15,.int .i64 T.l.length),(16,.int .i64 i),(39,.int .i64 x.al.length),(40,.int .i64 v)]∧U W w (aa cI 238 (cj x eH db)::Sl 238 5 (some ⟨b',dG,none⟩) T.l.length q8 (rows c8 xs)::ah bY xs::Tree M.tq M.sq T::aa M.mb 177 (dU p M nk base front)::Z)) (x.al.length) (⟨0,true,⟨rfl,by omega⟩,E.ab [0,1,6,7,8,14,15,16,39,40],I⟩) ?_;clear E I;rintro μ a w ⟨v,Bv,⟨rfl,hv⟩,E,I⟩;refine IF 3 E I (λay a E=>?_) λay a E=>?_
  ·
   have B9:v<x.al.length:=by omega
   refine RN 4 E I λa E=>?_;obtain⟨q5,GP,ED,f9⟩:=(ah.pM (I.drew.pick (ah bY xs)) dW).1.2 (by omega);obtain⟨sw,sa,mP,Ns⟩:=f9 v x.al[v] (aD B9);obtain⟨dt,GQ,z,g7,kP,mG,GN⟩:=(hx _ I.drew.sub).at (i:=v) (by omega);clear f9;refine rE 0 (λw'=>(Rd w' cI 0 (cj x eH db)∧w'.cell? ⟨q5,GP+v,none⟩=some (.slice sw x.al[v].length sa)∧aW w' sw x.al[v].length x.al[v])∧(w'.cell? ⟨dt,GQ+v,none⟩=some (aL z)∧aW w' z.1 z.2.2.length z.2.2)) [11,12] [0,1,2,4,8,9,10,3003,5,3006,3007,1011,1012,13,14,15] E I λa E=>?_;replace I:=I.drew;generalize w.drew=w at I mP Ns mG GN ⊢;have hC:(Rd w cI 0 (cj x eH db)∧w.cell? ⟨q5,GP+v,none⟩=some (.slice sw x.al[v].length sa)∧aW w sw x.al[v].length x.al[v])∧(w.cell? ⟨dt,GQ+v,none⟩=some (aL z)∧aW w z.1 z.2.2.length z.2.2):=⟨⟨I.ai (b:=cI),mP,Ns⟩,mG,GN⟩;have hH:=Hd.any (λw'=>(Rd w' cI 0 (cj x eH db)∧w'.cell? ⟨q5,GP+v,none⟩=some (.slice sw x.al[v].length sa)∧aW w' sw x.al[v].length x.al[v])∧(w'.cell? ⟨dt,GQ+v,none⟩=some (aL z)∧aW w' z.1 z.2.2.length z.2.2));refine RH 2 E I hH hC λa E=>?_;refine E.by (s:=44) (λnq E=>?_) (λnq E=>?_)
   ·
    refine RH 4 E I hH hC λa E=>?_;rw[g7]at E;refine RH 1 E I hH hC λa E=>?_;rw[← g7]at E;refine QH E (λw hc=>ae E (hc.1.1 2 _ rfl)) hC λa E=>?_;rw[ED]at E;refine RH 1 E I hH hC λa E=>?_;refine QH E (λw hc=>ae E (hc.1.2.1)) hC λa E=>?_;refine QH E (λw hc=>lK E underlying22 underlying5 underlying9 (hc.1.2.2)) hC λa E=>?_;refine RH 0 E I hH hC λa E=>?_;refine bm E (bQ E rfl (s:=44)) (ae E (hC.2.1)) rfl λa E=>?_;rw[aL]at E;refine RH 0 E I hH hC λa E=>?_;refine bm E (bQ E rfl (s:=44)) (lK E underlying22 underlying5 underlying9 (hC.2.2)) rfl λa E=>?_;refine RH 0 E I hH hC λa E=>?_;refine QP E (λw=>sQ E) λa E=>?_;refine RH 2 E I hH hC λa E=>?_;refine RN 2 E I λa E=>?_;exact⟨x.al.length-(v+1),by omega,v+1,_,⟨rfl,by omega⟩,E.ab [0,1,6,7,8,14,15,16,39,40],I.sub⟩
   refine RH 14 E I hH hC λa E=>?_;refine RN 2 E I λa E=>?_;exact⟨x.al.length-(v+1),by omega,v+1,_,⟨rfl,by omega⟩,E.ab [0,1,6,7,8,14,15,16,39,40],I.sub⟩
  refine IF 2 E I (λbd a E=>?_) λbd a E=>?_
  ·
   refine RT 2 E I ?_;exact⟨_,rfl,λ_=>aaP,I.sub⟩
  refine RN 2 E I λa E=>?_;exact⟨T.l.length-(i+1),by omega,i+1,⟨rfl,by omega⟩,E.ab [0,1,14,15,16],I.sub⟩
 refine RT 2 E I ?_;exact⟨_,rfl,(λh=>by cases h),I.sub⟩
end
end
section
def vm (k:Ks)(T:Tr):Prop:=∀ y∈T.l,(∀ j∈y.al,j.length=k.n)∧jH k.ls (aw k) y.al=true
def qk (T:Tr)(J:Js)(i:Nat):Js:=(T.l.take i).foldl (λJ y=>if y.done<y.al.length then l9 J y.id T.epoch else J) J
def zo (T:Tr)(J:Js):Js:=qk T (kept (λj=>decide (j.2<T.epoch)) J) T.l.length
theorem aaQ {T:Tr}{J:Js}{i:Nat}{x:Br}(h:T.l[i]?=some x):qk T J (i+1)=if x.done<x.al.length then l9 (qk T J i) x.id T.epoch else qk T J i:=by
 obtain⟨hi,rfl⟩:=a2.1 h;rw[qk,jw hi,foldl_append];rfl
theorem Nt {T:Tr}{J:Js}(h:J.length≤16)(i:Nat):(qk T J i).length≤16:=by
 unfold qk;generalize T.l.take i=l
 induction l generalizing J with
 | nil=>exact h
 | cons y l ih =>
  rw[foldl_cons];apply ih;split
  ·exact AQ h
  ·exact h
theorem Nu {J:Js}(f:Int×Int→Bool)(h:J.length≤16):(kept f J).length≤16:=fG (pO _ _) h
theorem aaR {ls X:List (List UInt8)}{fr to:Nat}(h:zg to ls X):(∀ j∈nH X fr to,j.length=ls.length)∧jH ls fr (nH X fr to)=true:=by
 refine⟨λj hj=>?_,Nf λi hi=>Nd λq hq h1=>?_⟩
 ·rw[nH,cR]at hj;obtain⟨i,_,rfl⟩:=hj;rw[nC,h.len]
 ·rw[BS]at hi;have he:(nH X fr to).getD i []=bJ X (fr+i):=by
   rw[nH,bl,bn,getElem?_range hi];rfl
  rw[he,nC]at hq;rw[he];obtain⟨l,hl⟩:∃ l,ls[q]?=some l:=⟨_,aD (by rw[← h.len];exact hq)⟩;obtain⟨x,hx⟩:∃ x,X[q]?=some x:=⟨_,aD hq⟩;obtain⟨⟨t,rfl⟩,_⟩:=h.fit q l x hl hx;have e1:ls.getD q []=l:=by rw[bl,hl];rfl
  rw[e1]at h1 ⊢;rw[bJ,bl,bl,bn,hx];show _=((l++t).getD (fr+i) 0);rw[bl,mA h1]
structure sx (p:Pr)(s:Pl)(t:Nat→Nat)(base:Nat)(A0:Sn)(T0:Tr)(r:Nat)(ws:List Wk)(A:Sn)(T:Tr):Prop where
 inv:Inv p (aw s.k:Int) s.g t base A T ws
 gi:vm s.k T
 room:A.room=A0.room
 n:A.n≤A0.n+r
 last:T.last≤T0.last+r
 most:T.most=T0.most
 sM:T.epoch=T0.epoch
 add:∃ l,T.l=T0.l++l∧∀ y∈l,y.done=0∧y.al≠[]∧y.al.length=aG s.k-aw s.k
 has:0<r→aw s.k<aG s.k→T.l≠[]
section
variable {p:Pr}{s:Pl}{t:Nat→Nat}{base r i:Nat}{A0 A:Sn}{T0 T:Tr}{ws:List Wk}{P:List (List UInt8)}{px:aC}
theorem sx.skip (h:sx p s t base A0 T0 r ws A T)(hT:aw s.k<aG s.k→T.l≠[]):sx p s t base A0 T0 (r+1) ws A T :=
 ⟨h.inv,h.gi,h.room,Nat.le_succ_of_le h.n,Nat.le_succ_of_le h.last,h.most,h.sM,h.add,λ_=>hT⟩
theorem sx.push (h:sx p s t base A0 T0 r ws A T)(hA:WF A)(hT:WT T)(hi:A.ar[i]?=some px)(hb:px.id=base)(h0:P≠[])(tv:P.length=aG s.k-aw s.k)(hj:∀ j∈P,j.length=s.k.n)(hk:jH s.k.ls (aw s.k) P=true) :
   sx p s t base A0 T0 (r+1) ws (A.add px.g px.p) (T.add (aw s.k:Int) P (A.last+1)):=by
 refine⟨h.inv.WA hA hT hi hb,λy hy=>?_,h.room,?_,?_,h.most,h.sM,?_,λ_ _ e=>?_⟩
 ·rcases eS.1 hy with hy | hy
  ·exact h.gi y hy
  ·rw[iH.1 hy];exact⟨hj,hk⟩
 ·have:=h.n;simp only[Sn.add];omega
 ·have:=h.last;simp only[Tr.add];omega
 ·obtain⟨l,h1,h2⟩:=h.add;refine⟨l++[⟨T.last+1,(aw s.k:Int),P,0,A.last+1⟩],by simp only[Tr.add];rw[h1,dx],λy hy=>?_⟩;rcases eS.1 hy with hy | hy
  ·exact h2 y hy
  ·rw[iH.1 hy];exact⟨rfl,h0,tv⟩
 ·simp[Tr.add]at e
end
section
variable {W w:World}{L Z:List SP}{n i tq sq r base front:Nat}{M:jG}{B:jo}{y:UInt8}{x:Br}{p:Pr}{s:Pl}{m:Mu}{A:Sn}{T:Tr}{g0:Nat→Int}{t:Nat→Nat}{px:aC}
theorem aaS {frm:Int}{ad2:Option Addr}{c2 id:Nat}{zs:List ec}{P:List (List UInt8)}(I:U W w (Tree tq sq T::ax sq r A::L))(hr:∀ w',U W w' L→iK w' ad2 zs)(hz:zs.map (·.2.2)=P)(hc:P.length≤c2)(dr:nY P)(h0:P≠[])
   (hx:A.ar[i]?=some px) (b6:px.id=id) (hb:A.n+1<1099511627776) (hl:T.last+1<1099511627776) :
   Calls prog 306 #[pt tq,.int .i64 frm,.int .i64 id,.slice ad2 P.length c2] w λe w'=>∃ (z:Nat) (ok:Bool),e=.returned (.tuple #[.int .i64 z,.bool ok]) ∧
    (((T.most=0∨T.l≠[])∧U W w' (Tree tq sq T::ax sq r A::L))∨U W w' (Tree tq sq (T.add frm P (A.last+1))::ax sq r (A.add px.g px.p)::L)):=by
 by_cases hm:T.l.length<T.most
 ·refine (X3 I hr hz hc dr hx b6 hb hl hm).mono λe w' ⟨z,ok,h1,h2⟩=>⟨z,ok,h1,?_⟩;rcases h2 with ⟨_,h3,h4⟩ | ⟨_,_,_,_,h4⟩
  ·refine .inl ⟨.inr λe=>?_,h4⟩;rcases h3 with h3 | ⟨y,hy,_⟩
   ·exact h0 h3
   ·rw[e]at hy;cases hy
  ·exact .inr h4
 ·refine (JU I (.inl (by omega))).mono λe w' ⟨h1,I⟩=>⟨0,false,h1,.inl ⟨?_,I⟩⟩;rcases lH T.most with h | h
  ·exact .inl h
  ·exact .inr λe=>by rw[e]at hm;simp at hm;omega
theorem aaT (I:U W w (aE W M p m::L))(hw:cu p m.s)(hI:Inv p (aw m.s.k:Int) m.s.g t m.base m.A m.T (m.ks.map (·.1)))(fw:m.front=aw m.s.k)(fE:cY M.B.gs)(hB:vm m.s.k m.T)(kO:m.J.length≤16)
   (qg:m.s.k.cw=(m.T.most:Int)) (hn:m.A.n+10<1099511627776) (hl:m.T.last+10<1099511627776) :
   Calls prog 289 #[pt M.mb] w λe w'=>∃ (A':Sn) (T':Tr),e=.returned (.tuple #[])∧sx p m.s t m.base m.A m.T m.T.most (m.ks.map (·.1)) A' T'∧U W w' (aE W M p { m with A:=A',T:=T',J:=zo T' m.J }::L):=by
 have bD:=hw.wc.lu;have fb:=hw.wc.ls;have xt:=hw.wc.n;have ib:m.s.k.ls.length≤8:=by rw[fb];exact xt.2
 have gW:=hw.wc.lV;have jU:aU m.s.k.ls≤aG m.s.k:=hw.wc.nF;obtain⟨mb,B,sq,r,tq,jq,dw,dF,aq,cO⟩:=M;obtain⟨s,A,T,J,ks,base,front⟩:=m;simp only at hw hI fw fE hB kO qg hn hl bD fb xt ib gW jU;subst fw;have Nr:=(Tree.wt ((aE.open I).tree tq)).most.1;replace I:=aE.open I;dsimp only at I Nr;refine EN func289 ntmps289 rfl rfl λa E=>?_;refine CL 6 E I (oh (I.pick (aP W B p s))) λa w E I=>?_;replace I:=aP.open I;refine CL 0 E I (Mb (I.pick (az B.core s.k))) λa w E I=>?_;refine RN 0 E I λa E=>?_;refine SS E (IZ E underlying28 rfl underlying3 rfl rfl) λa E=>?_;rw[show (fl s.k).cw=(T.most:Int) from qg]at E;refine RN 1 E I λa E=>?_;replace I:=aP.fold I B p s;refine aQ (λμ a w=>∃ (i:Nat) (A1:Sn) (T1:Tr),(μ=T.most-i∧i≤T.most∧sx p s t base A T i (ks.map (·.1)) A1 T1)∧Fr a 98 [(0,pt mb),(12,.int .i64 T.most),(13,.int .i64 i)]∧U W w (aa mb 177 (dU p ⟨mb,B,sq,r,tq,jq,dw,dF,aq,cO⟩ ks.length base (aw s.k))::aP W B p s::aA W p aq cO::Sl 179 1 dw ks.length dF (gV ks)::ah (fa p aq cO tq jq sq) ks::Tree tq sq T1::ax sq r A1::bI jq J::L)) (T.most) (⟨0,A,T,⟨rfl,by omega,⟨hI,hB,rfl,bf _,bf _,rfl,rfl,⟨[],by simp,λy hy=>by cases hy⟩,λh=>absurd h (by omega)⟩⟩,E.ab [0,12,13],I.sub⟩) ?_;clear E I;rintro μ a w ⟨i,A1,T1,⟨rfl,hi,ql⟩,E,I⟩;refine IF 3 E I (λaj a E=>?_) λaj a E=>?_
 ·
  have hiT:i<T.most:=by omega
  have hAn:=ql.n;have GI:=ql.last;have B2:=(ax.facts (I.store sq)).1;have sr:=Tree.wt (I.tree tq);obtain⟨aaU,px,hW,lh⟩:=ql.inv.mH (gY ..);refine aX 5 (λw0 w'=>Rd w' mb 0 (dU p ⟨mb,B,sq,r,tq,jq,dw,dF,aq,cO⟩ ks.length base (aw s.k))) [4,5,9,10,15] [0,1,2,6,7,8,11,12,13,14,3003,3009,3015,1004,1005,1010,1016,1017,1018,19] E I λa w E I hH=>?_;have hC:=hH.at w (I.ai (b:=mb));refine RH 10 E I hH hC λa E=>?_;refine QH E (λw hc=>ae E (hc 0 _ rfl)) hC λa E=>?_;refine QH E (λw hc=>ae E (hc 0 _ rfl)) hC λa E=>?_;refine QH E (λw hc=>ae E (hc 0 _ rfl)) hC λa E=>?_;refine RH 0 E I hH hC λa E=>?_;refine CL 0 E I (oh (I.pick (aP W B p s))) λa w E I=>?_;replace hC:=hH.at w (I.ai (b:=mb));replace I:=aP.open I;refine RH 0 E I hH hC λa E=>?_;refine CL 0 E I (o9 (I.pick (az B.core s.k))) λa w E I=>?_;replace hC:=hH.at w (I.ai (b:=mb));replace I:=aP.fold I B p s;refine RH 0 E I hH hC λa E=>?_;refine CL 0 E I (Nb (I.pick (aP W B p s))) λa w E I=>?_;replace hC:=hH.at w (I.ai (b:=mb));refine RH 0 E I hH hC λa E=>?_;refine CL 0 E I (oh (I.pick (aP W B p s))) λa w E I=>?_;replace I:=aP.open I;refine CL 0 E I (tI (I.pick (az B.core s.k)) hw.wc) λa w E I=>?_;obtain⟨D,I,hD⟩:=az.qu I;refine j2 0 E I (GC (r:=i) (to:=aG s.k) (.inr aav) (by omega) I fE bD ib hw.wc.nE gW (λw' df=>(df.pick (Sl 5 1 B.adT B.gs.table.length B.cT (bc B.gs.table))).cv B.adT _ rfl rfl)) λfY gk X a w E ⟨⟨tQ,_⟩,I⟩=>?_;replace I:U W w (Qu B.core.qb B.core.aB s.k.ls::D::ch fY (aG s.k-aU s.k.ls) gk (nH X (aU s.k.ls) (aG s.k))::_):=I.sub (M:=Qu B.core.qb B.core.aB s.k.ls::D::ch fY (aG s.k-aU s.k.ls) gk (nH X (aU s.k.ls) (aG s.k))::aa B.pb 192 (gy p B s.g)::aA W p B.aq B.cO::Sl 5 1 B.adT B.gs.table.length B.cT (bc B.gs.table)::aa mb 177 (dU p ⟨mb,B,sq,r,tq,jq,dw,dF,aq,cO⟩ ks.length base (aw s.k))::aA W p aq cO::Sl 179 1 dw ks.length dF (gV ks)::ah (fa p aq cO tq jq sq) ks::Tree tq sq T1::ax sq r A1::bI jq J::L);replace I:=aP.fold (hD _ _ I) B p s;have tv:=BS X (aU s.k.ls) (aG s.k);obtain⟨GR,Nv⟩:=aaR (fr:=aU s.k.ls) tQ;generalize hPe:nH X (aU s.k.ls) (aG s.k)=P at I tv GR Nv;rw[← tv]at E I;obtain⟨zs,cV,eQ,I⟩:=ch.open (I.pick (ch fY P.length gk P));have Cb:=(I.sl fY).2;replace I:=I.sub (M:=aa mb 177 (dU p ⟨mb,B,sq,r,tq,jq,dw,dF,aq,cO⟩ ks.length base (aw s.k))::Tree tq sq T1::Sl 22 1 fY P.length gk (zs.map aL)::ah a7 zs::aP W B p s::aA W p aq cO::Sl 179 1 dw ks.length dF (gV ks)::ah (fa p aq cO tq jq sq) ks::ax sq r A1::bI jq J::L);refine RN 1 E I λa E=>?_;refine BY 6 E I (λbX a E=>?_) λbX a E=>?_
  ·
   have kQ:¬ aw s.k<aG s.k:=by rw[aw];omega
   refine RN 7 E I λa E=>?_;exact⟨T.most-(i+1),by omega,i+1,A1,T1,⟨rfl,by omega,ql.skip λh=>absurd h kQ⟩,E.ab [0,12,13],I.sub⟩
  have Nw:P≠[]:=λe=>by rw[e]at bX;exact bX rfl
  refine bj 2 E I (aaO (M:=⟨mb,B,sq,r,tq,jq,dw,dF,aq,cO⟩) (T:=T1) (P:=P) I ⟨zs,cV,λw' h=>U.mF (h.sub (M:=Sl 22 1 fY P.length gk (zs.map aL)::ah a7 zs::[]))⟩ (by omega)) λq a w E ⟨hq,I⟩=>?_;refine IF 1 E I (λao a E=>?_) λao a E=>?_
  ·
   refine RN 2 E I λa E=>?_;exact⟨T.most-(i+1),by omega,i+1,A1,T1,⟨rfl,by omega,ql.skip λ_=>hq ao⟩,E.ab [0,12,13],I.sub⟩
  refine bS 0 [7,11] [0,1,2,4,5,6,8,9,10,12,3003,3007,1011,1013] E I λa w E I hH hC=>?_;refine RH 13 E I hH hC λa E=>?_;refine aY 0 E I (aaS (i:=aaU) (px:=px) (id:=base) (P:=P) (zs:=zs) ((I.store sq).tree tq) (λw' h=>U.mF (h.sub (M:=Sl 22 1 fY P.length gk (zs.map aL)::ah a7 zs::[]))) cV Cb ⟨by omega,λb hb=>by have:=GR b hb;omega⟩ Nw hW lh (by omega) (by omega)) λz ok a w E aaV=>?_;obtain⟨A2,T2,aaW,I⟩:∃ (A2:Sn) (T2:Tr),sx p s t base A T (i+1) (ks.map (·.1)) A2 T2∧U W w (aa mb 177 (dU p ⟨mb,B,sq,r,tq,jq,dw,dF,aq,cO⟩ ks.length base (aw s.k))::aP W B p s::aA W p aq cO::Sl 179 1 dw ks.length dF (gV ks)::ah (fa p aq cO tq jq sq) ks::Tree tq sq T2::ax sq r A2::bI jq J::L):=by
   rcases aaV with ⟨tX,I⟩ | I
   ·exact⟨A1,T1,ql.skip λ_=>tX.resolve_left (by rw[ql.most];omega),I.sub⟩
   ·exact⟨_,_,ql.push B2 sr hW lh Nw tv (λj hj=>by rw[GR j hj,fb]) Nv,I.sub⟩
  refine RN 2 E I λa E=>?_;exact⟨T.most-(i+1),by omega,i+1,A2,T2,⟨rfl,by omega,aaW⟩,E.ab [0,12,13],I.sub⟩
 refine aX 1 (λw0 w'=>Rd w' mb 0 (dU p ⟨mb,B,sq,r,tq,jq,dw,dF,aq,cO⟩ ks.length base (aw s.k))) [7,8] [0,1,2,4,5,6,3003,1007,1008,1009] E I λa w E I hH=>?_;have hC:=hH.at w (I.ai (b:=mb));refine RH 6 E I hH hC λa E=>?_;refine QH E (λw hc=>ae E (hc 5 _ rfl)) hC λa E=>?_;refine RH 0 E I hH hC λa E=>?_;refine SS E (ae E (hC 4 _ rfl)) λa E=>?_;refine RH 0 E I hH hC λa E=>?_;refine CL 0 E I (AG (I.tree tq)) λa w E I=>?_;replace hC:=hH.at w (I.ai (b:=mb));refine RH 0 E I hH hC λa E=>?_;refine CL 0 E I (Wq (I.uP jq) kO) λa w E I=>?_;change U W w (bI jq (qk T1 (kept (λj=>decide (j.2<(T1.epoch:Int))) J) 0)::_) at I;refine aY 5 E I (AH (I.tree tq)) λtW q8 a w E I=>?_;obtain⟨xs,h1,h2,I⟩:=k8.open I;have ca:xs.length=T1.l.length:=by rw[← h1,a8]
 have sr:=Tree.wt (I.tree tq);have hT8:=sr.most;obtain rfl:i=T.most:=by omega
 have hJ0:=Nu (λj=>decide (j.2<(T1.epoch:Int))) kO;refine RN 2 E I λa E=>?_;refine aQ (λμ a w=>∃ (v:Nat),(μ=T1.l.length-v∧v≤T1.l.length)∧Fr a 98 [(0,pt mb),(72,.slice tW T1.l.length q8),(73,.int .i64 T1.l.length),(74,.int .i64 v)]∧U W w (bI jq (qk T1 (kept (λj=>decide (j.2<(T1.epoch:Int))) J) v)::Sl 238 5 tW T1.l.length q8 (rows c8 xs)::ah bY xs::aa mb 177 (dU p ⟨mb,B,sq,r,tq,jq,dw,dF,aq,cO⟩ ks.length base (aw s.k))::aP W B p s::aA W p aq cO::Sl 179 1 dw ks.length dF (gV ks)::ah (fa p aq cO tq jq sq) ks::Tree tq sq T1::ax sq r A1::L)) (T1.l.length) (⟨0,⟨rfl,by omega⟩,E.ab [0,72,73,74],I.sub⟩) ?_;clear E I;rintro μ a w ⟨v,⟨yu,hv⟩,E,I⟩;refine IF 3 E I (λay a E=>?_) λay a E=>?_
 ·
  obtain⟨b',dG,rfl,c7⟩:=I.bU tW (by omega);obtain⟨⟨x,eH,db⟩,dW⟩:∃ y,xs[v]?=some y:=⟨_,aD (by omega)⟩;have fV:=oL c7 dW;have jz:T1.l[v]?=some x:=by rw[← h1,bn,dW];rfl
  have tt:=aaQ (J:=kept (λj=>decide (j.2<(T1.epoch:Int))) J) jz;have hj6:=Nt hJ0 (T:=T1) v;refine RN 3 E I λa E=>?_;refine SS E (bT E underlying238 rfl Ty.t238 (fV)) λa E=>?_;refine AL 0 E I λb5 a w E I=>?_;refine SA 0 E I λa w E I=>?_;refine IF 7 E I (λbd a E=>?_) λbd a E=>?_
  ·
   rw[ak (by omega)]at tt;refine aX 0 (λw0 w'=>Rd w' mb 0 (dU p ⟨mb,B,sq,r,tq,jq,dw,dF,aq,cO⟩ ks.length base (aw s.k))∧Rd w' b5 0 (cj x eH db)) [5,9,10,11] [0,1,2,4,6,7,8,3003,3005,1009,1010,1011,1012] E I λa w E I hH=>?_;have hC:=hH.at w ⟨I.ai (b:=mb),I.ai (b:=b5)⟩;refine RH 7 E I hH hC λa E=>?_;refine QH E (λw hc=>ae E (hc.1 5 _ rfl)) hC λa E=>?_;refine QH E (λw hc=>ae E (hc.2 0 _ rfl)) hC λa E=>?_;refine RH 0 E I hH hC λa E=>?_;refine SS E (ae E (hC.1 4 _ rfl)) λa E=>?_;refine RH 0 E I hH hC λa E=>?_;refine CL 0 E I (AG (I.tree tq)) λa w E I=>?_;replace hC:=hH.at w ⟨I.ai (b:=mb),I.ai (b:=b5)⟩;refine RH 1 E I hH hC λa E=>?_;refine CL 0 E I (AM (I.uP jq) hj6) λa w E I=>?_;change U W w (bI jq (l9 (qk T1 (kept (λj=>decide (j.2<(T1.epoch:Int))) J) v) x.id T1.epoch)::_) at I;refine RN 2 E I λa E=>?_;exact⟨T1.l.length-(v+1),by omega,v+1,⟨rfl,by omega⟩,E.ab [0,72,73,74],by rw[tt];exact I.sub⟩
  rw[ag (by omega)]at tt;refine RN 2 E I λa E=>?_;exact⟨T1.l.length-(v+1),by omega,v+1,⟨rfl,by omega⟩,E.ab [0,72,73,74],by rw[tt];exact I.sub⟩
 refine RT 0 E I ?_;obtain rfl:v=T1.l.length:=by omega
 rw[show qk T1 (kept (λj=>decide (j.2<(T1.epoch:Int))) J) T1.l.length=zo T1 J from rfl]at I;exact⟨A1,T1,rfl,ql,(aE.fold I ⟨mb,B,sq,r,tq,jq,dw,dF,aq,cO⟩ p ⟨s,A1,T1,zo T1 J,ks,base,aw s.k⟩).sub⟩
structure GS (p:Pr)(m m':Mu)(t':Nat→Nat):Prop where
 inv:Inv p (aw m.s.k:Int) m.s.g t' m'.base m'.A m'.T (m'.ks.map (·.1))
 s:m'.s=m.s
 front:m'.front=aw m.s.k
 gi:vm m.s.k m'.T
 J:m'.J.length≤16
 room:m'.A.room=m.A.room
 n:m'.A.n≤m.A.n+9
 last:m'.T.last≤m.T.last+8
 most:m'.T.most=m.T.most
 sM:m'.T.epoch≤m.T.epoch+3
 ks:m'.ks.length=m.ks.length
 has:0<m.T.most→aw m.s.k<aG m.s.k→m'.T.l≠[]
 uP:m'.J=zo m'.T m.J
 ab:m.front=aw m.s.k→(∀ y∈m.T.l,jH m.s.k.ls (aw m.s.k) y.al=true)→m'.ks=m.ks∧m'.T.epoch=m.T.epoch∧∃ l,m'.T.l=m.T.l++l∧∀ y∈l,y.done=0∧y.al≠[]∧y.al.length=aG m.s.k-aw m.s.k
theorem aaX (I:U W w (aE W M p m::L))(cp:m.s.k.cl=true) :
   Calls prog 271 #[pt M.mb] w λe w'=>e=.returned (.tuple #[])∧U W w' (aE W M p m::L):=by
 refine EN func271 ntmps271 rfl rfl λa E=>?_;refine RN 5 E I λa E=>?_;replace E:=E.aM 4;refine CL 1 E I (zn I) λa w E I=>?_;rw[cp]at E;refine RN 1 E I λa E=>?_;replace E:=E.ei 7;refine RT 1 E I ?_;exact⟨rfl,I⟩
theorem aaY (I:U W w (aE W M p m::L))(hw:cu p m.s)(hg:dR m.s.g)(cp:m.s.k.cl=false)(hI:Inv p (m.front:Int) g0 t m.base m.A m.T (m.ks.map (·.1)))(fw:m.front=aw m.s.k→g0=m.s.g)
   (fE:cY M.B.gs) (eT:∀ y∈m.T.l,∀ j∈y.al,j.length=m.s.k.n) (kO:m.J.length≤16) (qg:m.s.k.cw=(m.T.most:Int))
   (he:m.T.epoch+10<1099511627776) (hn:m.A.n+20<1099511627776) (hl:m.T.last+20<1099511627776) (h4:m.ks.length≤4) (qi:12≤m.A.room) :
   Calls prog 271 #[pt M.mb] w λe w'=>∃ (m':Mu) (t':Nat→Nat),e=.returned (.tuple #[])∧GS p m m' t'∧U W w' (aE W M p m'::L):=by
 have gW:=hw.wc.lV;have jU:=hw.wc.nF;refine EN func271 ntmps271 rfl rfl λa E=>?_;refine RN 5 E I λa E=>?_;replace E:=E.aM 4;refine CL 1 E I (zn I) λa w E I=>?_;rw[cp]at E;refine RN 1 E I λa E=>?_;replace E:=E.aM 7;refine aY 3 E I (aaF I hw hg hI fw (by omega) (by omega) h4 qi) λNx t1 a w E ⟨hM,I⟩=>?_;refine RN 0 E I λa E=>?_;obtain⟨s1,A1,T1,agd,lx,Ny,age⟩:=Nx;obtain⟨xq,e1,e2,e3,fg,mn,jf,gS,gE,g8,Nz,kR⟩:=hM;simp only at xq e1 e2 e3 fg mn jf gS gE g8 Nz kR;subst e1 e2 e3;have NA:∀ y∈T1.l,∀ j∈y.al,j.length=m.s.k.n:=by
  rcases Nz with ⟨e,_⟩ | e
  ·rw[e];exact eT
  ·rw[e];intro y hy;cases hy
 have lj:=Tree.wt ((aE.open I).tree M.tq);have NB:=(ax.facts ((aE.open I).store M.sq)).1;dsimp only at lj NB;replace I:=aE.open I;dsimp only at I;refine j3 7 E I (Ng (kp:=λx=>jH m.s.k.ls (aw m.s.k) x.al) (ws:=[pt M.mb]) ((I.store M.sq).tree M.tq) (by omega) (by kernel_rfl) (λN w' x av c' B0 h1 hN hx _ dr=>by
  have pX:=hN.h;obtain⟨K,hp⟩:=pX;have ik:=hp.trans List.perm_append_comm;have hof:=dr.1;have zi:=(xq.gi x B0).1;refine (aaN (M:=M) (Z:=aA W p M.aq M.cO::Sl 179 1 M.dw lx.length M.dF (gV lx)::ah (fa p M.aq M.cO M.tq M.jq M.sq) lx::bI M.jq m.J::(L++K)) (h1.perm ik) hw (hx.imp λzs h=>⟨h.1,λnZ h2=>h.2 _ (h2.perm ik.symm)⟩) zi (NA x B0) (by omega)).mono λe nZ ⟨h3,h4⟩=>⟨h3,h4.perm ik.symm⟩)) ?_
 clear E I;rintro e w ⟨⟨_,rfl⟩,I⟩;refine⟨_,rfl,λa E=>?_⟩;have pc:=xq.cut NB (λx=>!jH m.s.k.ls (aw m.s.k) x.al);have tU:=BZ (T1.l.filter λx=>!jH m.s.k.ls (aw m.s.k) x.al) A1;have NC:vm m.s.k (T1.cut λx=>!jH m.s.k.ls (aw m.s.k) x.al):=λy hy=>by
  obtain⟨h1,h2⟩:=List.mem_filter.1 hy;exact⟨NA y h1,by simpa using h2⟩
 have GJ:(T1.cut λx=>!jH m.s.k.ls (aw m.s.k) x.al).epoch≤T1.epoch+1:=by simp only[Tr.cut];split <;> omega
 have jQ:(∀ y∈T1.l,jH m.s.k.ls (aw m.s.k) y.al=true)→(T1.cut λx=>!jH m.s.k.ls (aw m.s.k) x.al).l=T1.l∧(T1.cut λx=>!jH m.s.k.ls (aw m.s.k) x.al).epoch=T1.epoch:=λh=>by
  have h1:T1.l.filter (λx=>!!jH m.s.k.ls (aw m.s.k) x.al)=T1.l:=List.filter_eq_self.2 λy hy=>by rw[h y hy];rfl
  simp only[Tr.cut,h1];exact⟨trivial,by rw[ag (Cc _)];rfl⟩
 have B4:(T1.cut λx=>!jH m.s.k.ls (aw m.s.k) x.al).most=T1.most∧(T1.cut λx=>!jH m.s.k.ls (aw m.s.k) x.al).last=T1.last:=⟨rfl,rfl⟩;generalize (T1.cut λx=>!jH m.s.k.ls (aw m.s.k) x.al)=T2 at I pc NC GJ B4 jQ;generalize A1.gU (T1.l.filter λx=>!jH m.s.k.ls (aw m.s.k) x.al)=A2 at I pc tU;replace I:=aE.fold I M p ⟨m.s,A2,T2,m.J,lx,Ny,aw m.s.k⟩;refine aY 1 E I (aaT I hw pc rfl fE NC kO (by dsimp only;rw[B4.1,gS];exact qg) (by dsimp only;omega) (by dsimp only;omega)) λA3 T3 a w E ⟨ql,I⟩=>?_;refine RT 0 E I ?_;obtain⟨cH,dq,a3,a4,a5,ND,NF,sw,a9⟩:=ql;have h8:=lj.most.1;dsimp only at *;exact⟨⟨m.s,A3,T3,zo T3 m.J,lx,Ny,aw m.s.k⟩,t1,rfl,⟨cH,rfl,rfl,dq,Nt (Nu _ kO) _,by simp only;omega,by simp only;omega,by simp only;omega,by simp only;omega,by simp only;omega,g8,λh1 h2=>a9 (by omega) h2,rfl,λe h=>by
  obtain⟨q1,q2,Fg⟩:=kR e;obtain⟨Fh,K1⟩:=jQ (by rw[q1];exact h);obtain⟨l,aaZ,aa0⟩:=sw;refine⟨Fg,by rw[NF,K1,q1],l,by rw[aaZ,Fh,q1],aa0⟩⟩,I⟩
end
end
section
structure l3 (p:Pr)(s s':Pl):Prop where
 wf:cu p s'
 sg:aw s'.k=aw s.k→s'.g=s.g
 cf:fl s'.k=fl s.k
 ls:s'.k.cl=true→s'.k.ls=s.k.ls
section
variable {p:Pr}{s:Pl}{k:Ks}{x:UInt8}{bs:List UInt8}
theorem l3.mk' {k':Ks}(h:cu p s)(hw:WC k')(hh:held k')(hm:k'.mr=s.k.mr)(he:Ext s.k.ls k'.ls)(dc:fl k'=fl s.k)(hl:k'.cl=true→k'.ls=s.k.ls):l3 p s (ez p ⟨k',s.g⟩):=by
 have h1:=h.toWP.more hw hh hm he;obtain⟨h2,h3,ps,ev,mr,h4⟩:=h1.ez;refine⟨h2,λhf=>?_,?_,λhc=>?_⟩
 ·have e1:(ez p ⟨k',s.g⟩).g=lW p k'.ls (aw s.k):=by rw[h2.sg,h2.full,hf,h3]
  have e2:s.g=lW p s.k.ls (aw s.k):=by have:=h.sg;rwa [h.full]at this
  exact e1.trans ((he.lW (bf _)).trans e2.symm)
 ·rw[h4];exact dc
 ·rw[h3];rw[h4]at hc;exact hl hc
theorem NG:fl (c1 x k).2=fl k∧((c1 x k).2.cl=true→(c1 x k).2.ls=k.ls):=by
 by_cases h0:(c1 x k).1=0
 ·obtain⟨h1,h2,h3,h4⟩:=vb h0;rw[h4];exact⟨rfl,λhc=>by rw[show k.cl=true from hc]at h1;cases h1⟩
 ·rw[vc h0];exact⟨rfl,λ_=>rfl⟩
theorem aa1 {q:Pk}(h:k.cl=false):fl (fX k q)=fl k∧((fX k q).cl=true→(fX k q).ls=k.ls):=by
 unfold fX;split
 ·exact⟨rfl,λ_=>rfl⟩
 ·obtain⟨ps,ev,h1,_⟩:=w7 { k with ls:=k.ls.set q.aV.toNat (du (k.ls.getD q.aV.toNat []) q.first.toNat q.al),ps:=k.ps.set q.aV.toNat (fW k.now (aG k) q (au k q.aV.toNat)) };rw[h1];exact⟨rfl,λhc=>by rw[show k.cl=true from hc]at h;cases h⟩
theorem NH:fl (dm bs k).2=fl k∧((dm bs k).2.cl=true→(dm bs k).2.ls=k.ls):=by
 by_cases h0:(dm bs k).1=0
 ·obtain⟨q,h1,h2,h3,h4,h5,h6⟩:=BG h0;rw[h6];exact aa1 h2
 ·rw[w9 h0];exact⟨rfl,λ_=>rfl⟩
theorem l3.al (h:cu p s)(x:UInt8):l3 p s (dK p x s).2:=l3.mk' h (h.wc.al x) (h.held.al x) (vd x s.k).1 (vd x s.k).2 NG.1 NG.2
theorem l3.recv (h:cu p s)(bs:List UInt8):l3 p s (dB p bs s).2:=l3.mk' h (h.wc.recv bs).1 ((h.wc.recv bs).2 h.held) (sh bs s.k).1 (sh bs s.k).2 NH.1 NH.2
end
structure MI (p:Pr)(M:jG)(N:Nat)(m:Mu):Prop where
 wf:cu p m.s
 gs:cY M.B.gs
 front:m.front=aw m.s.k
 inv:∃ t,Inv p (aw m.s.k:Int) m.s.g t m.base m.A m.T (m.ks.map (·.1))
 gi:vm m.s.k m.T
 J:m.J.length≤16
 most:m.s.k.cw=(m.T.most:Int)
 workers:m.s.k.workers=(m.ks.length:Int)
 ks:m.ks.length≤4
 room:(m.A.room:Int)=4*m.s.k.room∧12≤m.A.room
 n:m.A.n≤N∧m.T.last≤N∧m.T.epoch≤N
section
variable {W w:World}{L:List SP}{n c N front:Nat}{ad:Option Addr}{M:jG}{B:jo}{x:UInt8}{p:Pr}{s s':Pl}{m:Mu}{bs:List UInt8}{cf:Cf}{g0:Nat→Int}{t:Nat→Nat}
theorem MI.more {N':Nat}(h:MI p M N m)(hN:N≤N'):MI p M N' m:={ h with n:=⟨fG h.n.1 hN,fG h.n.2.1 hN,fG h.n.2.2 hN⟩ }
theorem MI.same (h:MI p M N m)(hw:cu p s')(hg:s'.g=m.s.g)(hl:s'.k.ls=m.s.k.ls)(hc:fl s'.k=fl m.s.k):MI p M N { m with s:=s' }:=by
 have hf:aw s'.k=aw m.s.k:=by rw[aw,aw,hl]
 simp only[fl,Cf.mk.injEq]at hc;obtain⟨eu,c2,dI,hV,dJ,oN,rH,sa,GU,AT⟩:=hc;have hn:s'.k.n=m.s.k.n:=by omega
 exact { wf:=hw,gs:=h.gs,front:=by rw[hf];exact h.front,inv:=by obtain⟨t,ht⟩:=h.inv;exact⟨t,by rw[hf,hg];exact ht⟩,gi:=λy hy=>by rw[hn,hl,hf];exact h.gi y hy,J:=h.J,most:=by rw[sa];exact h.most,workers:=by rw[GU];exact h.workers,ks:=h.ks,room:=by rw[AT];exact h.room,n:=h.n }
theorem NI (I:U W w (aE W M p { m with s:=s' }::L))(h:MI p M N m)(hx:l3 p m.s s')(a6:dk p)(hN:N≤1000000000000) :
   Calls prog 271 #[pt M.mb] w λe w'=>∃ m':Mu,e=.returned (.tuple #[])∧(m'.s=s'∧MI p M (N+20) m'∧(s'.k.cl=false→∃ t',GS p { m with s:=s' } m' t'))∧U W w' (aE W M p m'::L):=by
 obtain⟨mn,pW,hn3⟩:=h.n;have hc:=hx.cf;cases cp:s'.k.cl with
 | true =>
  have hl:=hx.ls cp;refine (aaX I cp).mono λe w' ⟨he,I⟩=>⟨_,he,⟨rfl,(h.same hx.wf (hx.sg (by rw[aw,aw,hl])) hl hc).more (by omega),λe=>(by cases e)⟩,I⟩
 | false =>
  obtain⟨t,ht⟩:=h.inv;simp only[fl,Cf.mk.injEq]at hc;obtain⟨eu,c2,dI,hV,dJ,oN,rH,sa,GU,AT⟩:=hc;have hn:s'.k.n=m.s.k.n:=by omega
  refine (aaY (g0:=m.s.g) (t:=t) I hx.wf (hx.wf.qc a6) cp (by rw[← h.front]at ht;exact ht) (λe=>(hx.sg (by rw[← h.front];exact e.symm)).symm) h.gs (λy hy j hj=>by dsimp only;rw[hn];exact (h.gi y hy).1 j hj) h.J (by dsimp only;rw[sa];exact h.most) (by dsimp only;omega) (by dsimp only;omega) (by dsimp only;omega) h.ks h.room.2).mono λe w' ⟨m',t',he,hr,I⟩=>⟨m',he,⟨hr.s,?_,λ_=>⟨t',hr⟩⟩,I⟩;obtain⟨cH,dq,a3,a4,a5,ND,NF,sw,a9,b1,b2,b3,b4,b5⟩:=hr;dsimp only at *;exact { wf:=by rw[dq];exact hx.wf,gs:=h.gs,front:=by rw[dq];exact a3,inv:=⟨t',by rw[dq];exact cH⟩,gi:=by rw[dq];exact a4,J:=a5,most:=by rw[dq,sa,a9];exact h.most,workers:=by rw[dq,GU,b2];exact h.workers,ks:=by rw[b2];exact h.ks,room:=by rw[dq,AT,ND];exact h.room,n:=⟨by omega,by omega,by omega⟩ }
theorem aa2 (I:U W w (aE W M p m::L))(h:MI p M N m)(a6:dk p)(aH:p.title.size≤1000000000)(hN:N≤1000000000000) :
   Calls prog 267 #[pt M.mb,.int .u8 (x.toNat:Nat)] w λe w'=>∃ m':Mu,e=.returned (.int .i64 (dK p x m.s).1)∧(m'.s=(dK p x m.s).2∧MI p M (N+20) m'∧((dK p x m.s).2.k.cl=false→∃ t',GS p { m with s:=(dK p x m.s).2 } m' t'))∧U W w' (aE W M p m'::L):=by
 refine EN func267 ntmps267 rfl rfl λa E=>?_;refine CL 4 E I (tS I) λa w E I=>?_;refine RN 1 E I λa E=>?_;replace I:=aE.open I;refine CL 0 E I (MV (I.pick (aP W M.B p m.s)) h.wf a6 aH) λa w E I=>?_;replace I:=aE.fold I M p { m with s:=(dK p x m.s).2 };refine bj 3 E I (NI I h (l3.al h.wf x) a6 hN) λm' a w E ⟨hm,I⟩=>?_;refine RT 3 E I ?_;exact⟨m',rfl,hm,I⟩
theorem aa3 (I:U W w (aE W M p m::L))(h:MI p M N m)(a6:dk p)(aH:p.title.size≤1000000000)(hN:N≤1000000000000)(hb:bs.length≤65536)(hc:bs.length≤c)(hp:∀ w',U W w' L→aW w' ad bs.length bs) :
   Calls prog 269 #[pt M.mb,.slice ad bs.length c] w λe w'=>∃ m':Mu,e=.returned (.int .i64 (dB p bs m.s).1)∧(m'.s=(dB p bs m.s).2∧MI p M (N+20) m')∧U W w' (aE W M p m'::L):=by
 refine EN func269 ntmps269 rfl rfl λa E=>?_;refine CL 4 E I (tS I) λa w E I=>?_;refine RN 1 E I λa E=>?_;replace I:=aE.open I;refine CL 0 E I (MW (bs:=bs) (I.pick (aP W M.B p m.s)) h.wf a6 aH hb hc (λw' hw=>hp w' hw.sub)) λa w E I=>?_;replace I:=aE.fold I M p { m with s:=(dB p bs m.s).2 };refine bj 3 E I (NI I h (l3.recv h.wf bs) a6 hN) λm' a w E ⟨⟨gS,kA,_⟩,I⟩=>?_;refine RT 3 E I ?_;exact⟨m',rfl,⟨gS,kA⟩,I⟩
end
end
section
theorem GV (k:Ks):fl (bt k).2=fl k:=by
 rcases xd k with h1 | ⟨hc,h1 | ⟨i,hi,h1⟩⟩ <;> rw[h1] <;> rfl
theorem GW (k:Ks):fl (cy k).2=fl k:=by
 unfold cy;split <;> rfl
section
variable {W w:World}{L:List SP}{n c i N tq sq r base front:Nat}{ad:Option Addr}{M:jG}{B:jo}{p:Pr}{s:Pl}{m:Mu}{A:Sn}{T:Tr}{t:Nat→Nat}{px:aC}{y:Int}
theorem aa4 (I:U W w (aE W M p m::L))(h:MI p M N m)(pD:m.s.k.now≤1000000):Calls prog 270 #[pt M.mb] w λr w'=>∃ ad c,r=.returned (.slice ad (bt m.s.k).1.length c)∧MI p M N { m with s:=⟨(bt m.s.k).2,m.s.g⟩ } ∧
   U W w' (cg 124 ad (bt m.s.k).1.length c (bt m.s.k).1::aE W M p { m with s:=⟨(bt m.s.k).2,m.s.g⟩ }::L):=by
 refine EN func270 ntmps270 rfl rfl λa E=>?_;refine CL 4 E I (tS I) λa w E I=>?_;replace I:=aE.open I;refine aY 0 E I (MX (I.pick (aP W M.B p m.s)) h.wf pD) λad c a w E I=>?_;refine RT 1 E I ?_;exact⟨ad,c,rfl,h.same h.wf.tick rfl (BI _).2 (GV _),(aE.fold I M p { m with s:=⟨(bt m.s.k).2,m.s.g⟩ }).sub⟩
theorem aa5 (I:U W w (aE W M p m::L))(h:MI p M N m):Calls prog 268 #[pt M.mb] w λr w'=>∃ ad c,r=.returned (.slice ad (cy m.s.k).1.length c)∧MI p M N { m with s:=⟨(cy m.s.k).2,m.s.g⟩ } ∧
   U W w' (cg 124 ad (cy m.s.k).1.length c (cy m.s.k).1::aE W M p { m with s:=⟨(cy m.s.k).2,m.s.g⟩ }::L):=by
 refine EN func268 ntmps268 rfl rfl λa E=>?_;refine CL 4 E I (tS I) λa w E I=>?_;replace I:=aE.open I;refine aY 0 E I (MY (I.pick (aP W M.B p m.s)) h.wf) λad c a w E I=>?_;refine RT 1 E I ?_;exact⟨ad,c,rfl,h.same h.wf.o5 rfl (FW _).2 (GW _),(aE.fold I M p { m with s:=⟨(cy m.s.k).2,m.s.g⟩ }).sub⟩
theorem aa6 (I:U W w (aE W M p m::L))(h:MI p M N m):Calls prog 266 #[pt M.mb] w λr w'=>∃ ad c,r=.returned (.slice ad m.s.k.ev.length c)∧MI p M N { m with s:=⟨{ m.s.k with ev:=[] },m.s.g⟩ } ∧
   U W w' (Sl 135 1 ad m.s.k.ev.length c (m.s.k.ev.map cA)::aE W M p { m with s:=⟨{ m.s.k with ev:=[] },m.s.g⟩ }::L):=by
 refine EN func266 ntmps266 rfl rfl λa E=>?_;refine CL 4 E I (tS I) λa w E I=>?_;replace I:=aE.open I;refine aY 0 E I (MZ (I.pick (aP W M.B p m.s))) λad c a w E I=>?_;refine RT 1 E I ?_;exact⟨ad,c,rfl,h.same h.wf.told rfl rfl rfl,(aE.fold I M p { m with s:=⟨{ m.s.k with ev:=[] },m.s.g⟩ }).sub⟩
theorem aa7 (I:U W w (aE W M p m::L))(h:MI p M N m):Calls prog 264 #[pt M.mb] w λr w'=>∃ ad c,r=.returned (.tuple #[.slice ad 128 c,.int .i64 (lX m.s).2])∧U W w' (Sl 5 1 ad 128 c (bc (lX m.s).1)::aE W M p m::L):=by
 have bD:=h.wf.wc.lu;have ib:m.s.k.ls.length≤8:=by rw[h.wf.wc.ls];exact h.wf.wc.n.2
 obtain⟨t,hI⟩:=h.inv;obtain⟨i,px,hW,lh⟩:=hI.mH (gY ..);have tp:=(hI.base px (bH hW) lh).1;replace I:=aE.open I;rw[h.front]at I;refine EN func264 ntmps264 rfl rfl λa E=>?_;refine aX 5 (λw0 w'=>Rd w' M.mb 0 (dU p M m.ks.length m.base (aw m.s.k))) [8,9,10] [0,1,2,3,4,5,7,3006,1008,1009,1010,11,12] E I λa w E I hH=>?_;have hC:=hH.at w (I.ai (b:=M.mb));refine RH 3 E I hH hC λa E=>?_;replace E:=E.aM 6;refine RH 4 E I hH hC λa E=>?_;refine QH E (λw hc=>ae E (hc 8 _ rfl)) hC λa E=>?_;rw[← h.front]at I;replace I:=aE.fold I M p m;refine RH 0 E I hH hC λa E=>?_;refine CL 0 E I (BW I) λa w E I=>?_;replace hC:=hH.at w (by have h9:=(aE.open I).ai (b:=M.mb);rw[h.front]at h9;exact h9);replace I:=aP.open ((aE.open I).pick (aP W M.B p m.s));rw[h.front]at I;refine RH 0 E I hH hC λa E=>?_;refine CL 0 E I (o9 (I.pick (az M.B.core m.s.k))) λa w E I=>?_;replace hC:=hH.at w (I.ai (b:=M.mb));obtain⟨D,I,hD⟩:=az.qu I;refine RH 0 E I hH hC λa E=>?_;refine CL 0 E I (se I bD ib) λa w E I=>?_;replace hC:=hH.at w (I.ai (b:=M.mb));refine RH 1 E I hH hC λa E=>?_;rw[show decide (((aw m.s.k:Nat):Int)≠((aU m.s.k.ls:Nat):Int))=false from Kc]at E;refine RH 1 E I hH hC λa E=>?_;replace I:=aP.fold (hD _ _ I) M.B p m.s;rw[← h.front]at I;replace I:=aE.fold I M p m;replace E:=E.aM 16;refine RN 2 E I λa E=>?_;replace I:=aE.open I;refine aX 0 (λw0 w'=>Rd w' M.mb 0 (dU p M m.ks.length m.base m.front)) [5,6,10,11] [0,1,2,3,7,8,9,3004,3010,1005,1006,1011,12] E I λa w E I hH=>?_;have hC:=hH.at w (I.ai (b:=M.mb));refine RH 7 E I hH hC λa E=>?_;refine QH E (λw hc=>ae E (hc 7 _ rfl)) hC λa E=>?_;refine QH E (λw hc=>ae E (hc 8 _ rfl)) hC λa E=>?_;replace I:=aE.fold I M p m;refine RH 0 E I hH hC λa E=>?_;refine CL 0 E I (GH I hW lh) λa w E I=>?_;replace hC:=hH.at w ((aE.open I).ai (b:=M.mb));refine RH 0 E I hH hC λa E=>?_;refine aY 0 E I (yY I) λad c a w E I=>?_;replace hC:=hH.at w ((aE.open I.tail).ai (b:=M.mb));refine RH 2 E I hH hC λa E=>?_;refine RT 0 E I ?_;rw[tp]at I;exact⟨ad,c,by rw[h.front];rfl,I⟩
theorem aa8 (I:U W w (aE W M p m::L))(hc:m.s.k.cl=true∨y<0∨(m.ks.length:Int)≤y)(h4:m.ks.length≤4) :
   Calls prog 62 #[pt M.mb,.int .i64 y] w λe w'=>e=.returned (.bool false)∧U W w' (aE W M p m::L):=by
 refine EN func62 ntmps62 rfl rfl λa E=>?_;refine RN 7 E I λa E=>?_;replace E:=E.aM 7;refine CL 1 E I (zn I) λa w E I=>?_;replace I:=aE.open I;refine BY 2 E I (λkb a E=>?_) λkb a E=>?_
 ·
  refine RT 15 E I ?_;exact⟨rfl,aE.fold I M p m⟩
 refine BY 4 E I (λl8 a E=>?_) λl8 a E=>?_
 ·
  refine RT 11 E I ?_;exact⟨rfl,aE.fold I M p m⟩
 refine IF 8 E I (λaj a E=>?_) λaj a E=>?_
 ·
  refine RT 2 E I ?_;exact⟨rfl,aE.fold I M p m⟩
 exact absurd hc (by rintro (h | h | h) <;> first | omega | (rw[h]at kb;cases kb))
theorem AR.brI {k:Ks}{J J':Js}{A A':Sn}{T T':Tr}(hn:AR A T J A' T' J')(h:vm k T):vm k T':=by
 intro y hy;have h1:(y.id,y.al)∈T'.l.map (λy=>(y.id,y.al)):=cR.2 ⟨y,hy,rfl⟩;rw[hn.l]at h1;obtain⟨z,hz,he⟩:=cR.1 h1;have h2:=h z hz;rw[(Prod.mk.inj he).2]at h2;exact h2
theorem aa9 {k:Wk}{wb:Nat}(I:U W w (aE W M p m::L))(h:MI p M N m)(cp:m.s.k.cl=false)(hk:m.ks[i]?=some (k,wb))(a6:dk p)(aH:p.title.size≤1000000000)(hN:N≤1000000000000) :
   Calls prog 62 #[pt M.mb,.int .i64 i] w λe w'=>∃ (z:Bool) (A':Sn) (T':Tr) (J':Js) (k':Wk),e=.returned (.bool z)∧(lL p m.A m.T m.J k z A' T' J' k'∧MI p M (N+1) { m with A:=A',T:=T',J:=J',ks:=m.ks.set i (k',wb) }) ∧
    U W w' (aE W M p { m with A:=A',T:=T',J:=J',ks:=m.ks.set i (k',wb) }::L):=by
 have aF:=(a2.1 hk).1;have h4:=h.ks;obtain⟨t,hI⟩:=h.inv;obtain⟨mn,pW,hn3⟩:=h.n;have jU:=h.wf.wc.nF;have gW:=h.wf.wc.lV;refine EN func62 ntmps62 rfl rfl λa E=>?_;refine RN 7 E I λa E=>?_;replace E:=E.aM 7;refine CL 1 E I (zn I) λa w E I=>?_;rw[cp]at E;refine RN 2 E I λa E=>?_;replace E:=E.aM 11;refine RN 4 E I λa E=>?_;replace I:=aE.open I;replace E:=E.aM 15;refine RN 8 E I λa E=>?_;rw[bo (by omega)]at E;refine RN 2 E I λa E=>?_;obtain⟨b',o',g7,c7⟩:=I.bU M.dw (by omega);refine RN 5 E I λa E=>?_;rw[g7]at E;refine RN 1 E I λa E=>?_;refine SS E (ae E (c7 i _ (KN hk))) λa E=>?_;refine j3 0 E I (XZ (I.sub (M:=ah (fa p M.aq M.cO M.tq M.jq M.sq) m.ks::Tree M.tq M.sq m.T::ax M.sq M.r m.A::bI M.jq m.J::aA W p M.aq M.cO::aa M.mb 177 (dU p M m.ks.length m.base m.front)::aP W M.B p m.s::Sl 179 1 M.dw m.ks.length M.dF (gV m.ks)::L)) hk hI ⟨by omega,by omega⟩ a6 aH (by omega) h.J) ?_;clear E I;rintro e w ⟨z,A',T',J',k',rfl,⟨uU,pc,vn⟩,I⟩;refine⟨_,rfl,λa E=>?_⟩;refine RT 1 E I ?_;have qx:(m.ks.set i (k',wb)).length=m.ks.length:=bw ..;have lY:=vn.room;have hn4:=vn.n;have hn5:=vn.last;have hn6:=vn.epoch;refine⟨z,A',T',J',k',rfl,⟨uU,{ wf:=h.wf,gs:=h.gs,front:=h.front,inv:=⟨t,pc⟩,gi:=vn.brI h.gi,J:=vn.len h.J,most:=by dsimp only;rw[vn.most];exact h.most,workers:=by dsimp only;rw[qx];exact h.workers,ks:=by dsimp only;rw[qx];exact h4,room:=by dsimp only;rw[lY];exact h.room,n:=⟨by dsimp only;omega,by dsimp only;omega,by dsimp only;omega⟩ }⟩,?_⟩;rw[← KO (k':=k') hk,← qx]at I;exact aE.fold I M p { m with A:=A',T:=T',J:=J',ks:=m.ks.set i (k',wb) }
end
end
end Go.Proofs.YteoldcfapaiobaaGreat
