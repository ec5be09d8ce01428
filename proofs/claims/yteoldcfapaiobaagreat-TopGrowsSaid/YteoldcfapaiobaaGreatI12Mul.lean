/- Package multi: a player that plays ahead. -/
import Derived.Test.YteoldcfapaiobaaGreatI06Ref
import Derived.Test.YteoldcfapaiobaaGreatI11Rank
import Derived.Test.YteoldcfapaiobaaGreatI04Job
import Derived.Test.YteoldcfapaiobaaGreatI05Vm
import Derived.Test.YteoldcfapaiobaaGreatI01Row
import Derived.Laws.StructEq
import Derived.ChangeKeysEq
namespace Go.Proofs.YteoldcfapaiobaaGreat
open Tryz
open List (all_eq_true foldl_cons nil_append map_cons length_nil mem_range getElem?_range getElem_map map_nil range_succ foldl_append map_singleton)
open Go.RowKit
set_option linter.unusedVariables false
set_option linter.unusedSimpArgs false
set_option maxRecDepth 10000
set_option synthInstance.maxSize 4000
set_option synthInstance.maxHeartbeats 400000
section
instance oR.fvB {P l x f ws args vs}[ex:Ev l (.tmp x) (.func (.func f) (List.toArray ws) #[])][ev:nV l args vs]:oR P l (.value (.tmp x)) args f (ws++vs):=⟨λhb a n w E _ _ _ _ _ _=>by
 simp[execOp,resolve,ex.ev a n E,Deferred.ofValue,invoke,ev.ev a n E,AX hb]⟩
structure jN where
 mb:Nat
 B:jw
 sq:Nat
 r:Nat
 tq:Nat
 jq:Nat
 dy:Option Addr
 dG:Nat
 aq:Option Addr
 cO:Nat
structure Mu where
 s:Pl
 A:Sn
 T:Tr
 J:Js
 ks:List Kx
 base:Nat
 front:Nat
abbrev dX (p:Pr)(M:jN)(nk base front:Nat):List Value:=[pt M.B.pb,.string p.title,.slice M.aq p.ops.length M.cO,pt M.sq,pt M.tq,pt M.jq,.slice M.dy nk M.dG,.int .i64 base,.int .i64 front]
abbrev Ac (W:World)(M:jN)(p:Pr)(m:Mu):List SP:=[aa M.mb 177 (dX p M m.ks.length m.base m.front),aP W M.B p m.s,aA W p M.aq M.cO,Sl 179 1 M.dy m.ks.length M.dG (g3 m.ks),ah (fb p M.aq M.cO M.tq M.jq M.sq) m.ks,Tree M.tq M.sq m.T,ax M.sq M.r m.A,bJ M.jq m.J]
def aE (W:World)(M:jN)(p:Pr)(m:Mu):SP:=λh=>cp (Ac W M p m) h
section
variable {W w:World}{L R:List SP}{M:jN}{B:jw}{p:Pr}{s:Pl}{m:Mu}
theorem aE.open (I:U W w (aE W M p m::L)):U W w (aa M.mb 177 (dX p M m.ks.length m.base m.front)::aP W M.B p m.s::aA W p M.aq M.cO::Sl 179 1 M.dy m.ks.length M.dG (g3 m.ks)::ah (fb p M.aq M.cO M.tq M.jq M.sq) m.ks::Tree M.tq M.sq m.T::ax M.sq M.r m.A::bJ M.jq m.J::L):=I.open (M:=Ac W M p m) λ_ h=>h
theorem aE.close (I:U W w (Ac W M p m++L)):U W w (aE W M p m::L):=U.shut (M:=Ac W M p m) I λ_ h=>h
theorem aE.fold (I:U W w L)(M:jN)(p:Pr)(m:Mu)[kk:fM L (aa M.mb 177 (dX p M m.ks.length m.base m.front)::aP W M.B p m.s::aA W p M.aq M.cO::Sl 179 1 M.dy m.ks.length M.dG (g3 m.ks)::ah (fb p M.aq M.cO M.tq M.jq M.sq) m.ks::Tree M.tq M.sq m.T::ax M.sq M.r m.A::bJ M.jq m.J::[]) R]:U W w (aE W M p m::R):=aE.close (I.perm kk.perm)
theorem Oz (I:U W w (aP W B p s::L)):Calls prog 94 #[pt B.pb] w λe w'=>e=.returned (.agg (ints .i32 32 s.g).toArray)∧U W w' (aP W B p s::L):=by
 replace I:=aP.open I;refine EN func94 ntmps94 rfl rfl λa E=>?_;refine AL 1 E I λb2 a w E I=>?_;change U W w (aa b2 183 (ints .i32 32 (λ_=>0))::_) at I;refine RN 4 E I λa E=>?_;refine SS E (bT E rX rfl Ty.t183 (z8 (I.ai (b:=B.pb)))) λa E=>?_;refine SA 0 E I λa w E I=>?_;refine RT 0 E I ?_;exact⟨rfl,(aP.fold I B p s).sub⟩
theorem OA (I:U W w (aP W B p s::L)):Calls prog 278 #[pt B.pb] w λe w'=>e=.returned (.agg (dq B.gs B.adT B.cT).toArray)∧U W w' (aP W B p s::L):=by
 replace I:=aP.open I;refine EN func278 ntmps278 rfl rfl λa E=>?_;refine AL 1 E I λb2 a w E I=>?_;refine RN 4 E I λa E=>?_;refine SS E (bT E Bf rfl Ty.t186 (Of (I.ai (b:=B.pb)))) λa E=>?_;refine SA 0 E I λa w E I=>?_;refine RT 0 E I ?_;exact⟨rfl,(aP.fold I B p s).sub⟩
theorem uA (I:U W w (aE W M p m::L)):Calls prog 140 #[pt M.mb] w λe w'=>e=.returned (pt M.B.pb)∧U W w' (aE W M p m::L):=by
 replace I:=aE.open I;refine EN func140 ntmps140 rfl rfl λa E=>?_;refine RN 6 E I λa E=>?_;replace E:=E.aQ 4;refine RT 7 E I ?_;exact⟨rfl,aE.fold I M p m⟩
theorem CX (I:U W w (aE W M p m::L)):Calls prog 272 #[pt M.mb] w λe w'=>e=.returned (pt M.B.core.cb)∧U W w' (aE W M p m::L):=by
 refine EN func272 ntmps272 rfl rfl λa E=>?_;refine CL 4 E I (uA I) λa w E I=>?_;replace I:=aE.open I;refine CL 0 E I (ov (I.pick (aP W M.B p m.s))) λa w E I=>?_;refine RT 1 E I ?_;exact⟨rfl,aE.fold I M p m⟩
theorem Ad (I:U W w (aE W M p m::L)):Calls prog 101 #[pt M.mb] w λe w'=>e=.returned (.bool m.s.k.cl)∧U W w' (aE W M p m::L):=by
 refine EN func101 ntmps101 rfl rfl λa E=>?_;refine CL 4 E I (uA I) λa w E I=>?_;replace I:=aE.open I;refine CL 0 E I (On (I.pick (aP W M.B p m.s))) λa w E I=>?_;refine RT 1 E I ?_;exact⟨rfl,aE.fold I M p m⟩
theorem abD (I:U W w (aE W M p m::L)):Calls prog 81 #[pt M.mb] w λe w'=>e=.returned (pt M.sq)∧U W w' (aE W M p m::L):=by
 replace I:=aE.open I;refine EN func81 ntmps81 rfl rfl λa E=>?_;refine RN 6 E I λa E=>?_;replace E:=E.aQ 4;refine RT 7 E I ?_;exact⟨rfl,aE.fold I M p m⟩
theorem abE (I:U W w (aE W M p m::L)):Calls prog 87 #[pt M.mb] w λe w'=>e=.returned (pt M.tq)∧U W w' (aE W M p m::L):=by
 replace I:=aE.open I;refine EN func87 ntmps87 rfl rfl λa E=>?_;refine RN 6 E I λa E=>?_;replace E:=E.aQ 4;refine RT 7 E I ?_;exact⟨rfl,aE.fold I M p m⟩
end
end
section
section
variable {p:Pr}{F F':Int}{g g0:Nat→Int}{t t':Nat→Nat}{base i:Nat}{A:Sn}{T:Tr}{ws:List Wk}{k:Wk}{P:List (List UInt8)}
theorem Inv.abF (h:Inv p F g0 t base A T ws)(hA:WF A)(hn:A.n+1<1099511627776)(hT:T.l=[])(hg:dT g) :
   Inv p F' g t' (A.last+1) ((A.add g t').eB base) T ws:=by
 have xv:WF (A.add g t'):=hA.add hn g t';have hr:∀ x∈(A.add g t').ar,x.refs=1:=by
  intro x hx;rcases e7.1 hx with hx | hx
  ·exact (h.ar x hx).1
  ·rw[iP.1 hx]
 have vl:∀ z∈A.ar,z.id≠A.last+1:=λz hz e=>by have:=(hA.mS z hz).2.1;omega
 rw[BM xv hr];refine⟨?_,λx hx=>?_,λx hx he=>?_,λy hy=>?_,λk hk=>⟨(h.lU k hk).1,λ_ y hy=>?_⟩⟩
 ·simp only;rw[FH];have h1:((A.add g t').ar.map (·.id)).Perm (base::(A.last+1)::(T.l.map (·.snap)++jH ws)):=by
   simp only[Sn.add,cY,map_cons,map_nil];exact ((List.perm_append_singleton _ _).trans (h.perm.cons _)).trans (c1 _ _ _)
  exact FG (lL _) h1 xv.o0
 ·have hx:=kg hx;rcases e7.1 hx with hx | hx
  ·exact h.ar x hx
  ·rw[iP.1 hx];exact⟨rfl,hg⟩
 ·have hx:=kg hx;rcases e7.1 hx with hx | hx
  ·exact absurd he (vl x hx)
  ·rw[iP.1 hx];exact⟨rfl,rfl⟩
 ·rw[hT]at hy;cases hy
 ·rw[hT]at hy;cases hy
theorem OB (h:∀ k∈ws,k.busy=false):jH ws=[]:=by
 rw[jH,List.filter_eq_nil_iff.2 (λk hk=>by rw[h k hk];decide)];rfl
theorem CY:∀ (l:List Br) (A:Sn),(A.g2 l).room=A.room∧(A.g2 l).n=A.n∧(A.g2 l).last=A.last
 | [],_=>⟨rfl,rfl,rfl⟩
 | y::l,A=>by
  have h1:=CY l (A.eB y.snap);have h2:=o2 A y.snap;show ((A.eB y.snap).g2 l).room=_∧((A.eB y.snap).g2 l).n=_∧((A.eB y.snap).g2 l).last=_;exact⟨h1.1.trans h2.1,h1.2.1.trans h2.2.1,h1.2.2.trans h2.2.2⟩
def uB (ls:List (List UInt8))(f:Nat)(j:List UInt8):Bool:=(List.range j.length).all λq=>!(decide (f<(ls.getD q []).length)&&(ls.getD q []).getD f 0 != j.getD q 0)
def jO (ls:List (List UInt8))(f:Nat)(P:List (List UInt8)):Bool:=(List.range P.length).all λi=>uB ls (f+i) (P.getD i [])
theorem abG {ls:List (List UInt8)}{f q:Nat}{j:List UInt8}(hq:q<j.length)(h1:f<(ls.getD q []).length)(h2:(ls.getD q []).getD f 0≠j.getD q 0):uB ls f j=false:=by
 rw[uB,List.all_eq_false];exact⟨q,mem_range.2 hq,by rw[dr h1,Bool.true_and,bne_iff_ne.2 h2];decide⟩
theorem OC {ls:List (List UInt8)}{f:Nat}{j:List UInt8}(h:∀ q,q<j.length→f<(ls.getD q []).length→(ls.getD q []).getD f 0=j.getD q 0):uB ls f j=true:=by
 rw[uB,all_eq_true];intro q hq;have:=h q (mem_range.1 hq);by_cases h1:f<(ls.getD q []).length
 ·rw[dr h1,Bool.true_and,this h1,bne_self_eq_false];rfl
 ·rw[bu h1,Bool.false_and];rfl
theorem abH {ls:List (List UInt8)}{f i:Nat}{P:List (List UInt8)}(hi:i<P.length)(h:uB ls (f+i) (P.getD i [])=false):jO ls f P=false:=by
 rw[jO,List.all_eq_false];exact⟨i,mem_range.2 hi,by rw[h];decide⟩
theorem OD {ls:List (List UInt8)}{f:Nat}{P:List (List UInt8)}(h:∀ i,i<P.length→uB ls (f+i) (P.getD i [])=true):jO ls f P=true:=by
 rw[jO,all_eq_true];intro i hi;exact h i (mem_range.1 hi)
end
end
section
section
variable {W w:World}{L:List SP}{q r:Nat}{A:Sn}
theorem abI (l:List Nat):distinct l≤l.length:=by
 induction l with
 | nil=>exact a7 _
 | cons x l ih=>rw[distinct,eV];split <;> omega
theorem abJ (l:List aC):(lv l).length=4*l.length:=by
 induction l with
 | nil=>rfl
 | cons x l ih=>show (_++lv l).length=_;rw[aM,ih,eV];simp;omega
theorem ax.wZ (I:U W w (ax q r A::L)):A.used≤4*A.ar.length:=by
 rw[ax.used I];have:=abI (lv A.ar);rw[abJ]at this;exact this
end
end
section
theorem Tl.rest {N L:List SP}{A:SP}(t:Tl N (A::L)):Tl N L:=⟨let ⟨K,h⟩:=t.h;⟨K++[A],by simpa using h⟩⟩
section
variable {W w:World}{L:List SP}{n i tq sq r:Nat}{M:jN}{B:jw}{x:UInt8}{p:Pr}{s:Pl}{m:Mu}{A:Sn}{T:Tr}{F:Int}{g0:Nat→Int}{t:Nat→Nat}{px:aC}
theorem OE {kp:Br→Bool}{g:Nat}{ws:List Value}(I:U W w (Tree tq sq T::ax sq r A::L))(he:T.epoch+1<1099511627776)(cr:hZ prog g=true)
   (hg:∀ (N:List SP) (w':World) (x:Br) (av:Option Addr) (c':Nat),x∈T.l→U W w' N→Tl N L→xd W N av x.al→x.al.length≤c'→oa x.al →
    Calls prog g (ws++[Value.agg (ck x av c').toArray]).toArray w' λe ob=>e=.returned (.bool (kp x))∧U W ob N) :
   Calls prog 287 #[pt tq,.func (.func g) ws.toArray #[]] w λe w'=>(∃ v:Int,e=.returned (.int .i64 v)) ∧
    U W w' (Tree tq sq (T.cut λx=>!kp x)::ax sq r (A.g2 (T.l.filter λx=>!kp x))::L):=by
 have hF : ∀ (b3 : Nat) (N : List SP) (w' : World) (x : Br) (av : Option Addr) (c' : Nat), x ∈ T.l → U W w' N → Tl N (aa b3 343 [.func (.func g) ws.toArray #[]] :: L) → xd W N av x.al → x.al.length ≤ c' → oa x.al →
     Calls prog 304 (List.toArray [.agg (ck x av c').toArray,pt b3]) w' λe ob=>e=.returned (.bool (!kp x))∧U W ob N:=by
  intro b3 N w x av c' CZ I hM hx hxc kP;refine EN func304 ntmps304 rfl rfl λa E=>?_;refine BX 1 E I λb2 a w E I=>?_;refine RN 2 E I λa E=>?_;have qc:=I.tail.Xn hM;refine SS E (ae E (qc.bC rfl)) λa E=>?_;refine CL 1 E I (hg (aa b2 238 (ck x av c')::N) _ x av c' CZ I (@Tl.cons _ _ _ hM.rest) (hx.imp λzs h=>⟨h.1,λob h2=>h.2 _ h2.tail⟩) hxc kP) (hf:=cr) λa w E I=>?_;refine RT 2 E I ?_;exact⟨rfl,I.tail⟩
 refine EN func287 ntmps287 rfl rfl λa E=>?_;refine BX 1 E I λb3 a w E I=>?_;refine CL 4 E I (Ll (tq:=tq) (sq:=sq) (r:=r) (A:=A) (T:=T) (wh:=λx=>!kp x) (us:=[pt b3]) (L:=aa b3 343 [.func (.func g) ws.toArray #[]]::L) I.sub he (by kernel_rfl) (hF b3)) λa w E I=>?_;refine RT 1 E I ?_;exact⟨⟨_,rfl⟩,I.sub⟩
theorem abK (I:U W w (aE W M p m::L))(hI:Inv p F g0 t m.base m.A m.T (m.ks.map (·.1)))(he:m.T.epoch+1<1099511627776)(h4:m.ks.length≤4) :
   Calls prog 302 #[pt M.mb] w λe w'=>∃ (A':Sn) (C0:List Kx),e=.returned (.tuple #[]) ∧
    (Inv p F g0 t m.base A' (m.T.cut λ_=>true) (C0.map (·.1))∧C0.length=m.ks.length∧(∀ k∈C0,k.1.busy=false)∧A'.room=m.A.room∧A'.n=m.A.n) ∧
    U W w' (aE W M p { m with A:=A',ks:=C0,T:=m.T.cut λ_=>true }::L):=by
 obtain⟨mb,B,sq,r,tq,jq,dy,dG,aq,cO⟩:=M;obtain⟨s,A,T,J,ks,base,front⟩:=m;replace I:=aE.open I;simp only at hI he h4;refine EN func302 ntmps302 rfl rfl λa E=>?_;refine RN 8 E I λa E=>?_;refine aL (λμ a w=>∃ (i:Nat) (A1:Sn) (lG:List Kx),(μ=ks.length-i∧i≤ks.length∧lG.length=ks.length∧(∀ (j:Nat) (k:Kx),j<i→lG[j]?=some k→k.1.busy=false)∧Inv p F g0 t base A1 T (lG.map (·.1))∧A1.room=A.room∧A1.n=A.n)∧Fr a 21 [(0,pt mb),(7,.slice dy ks.length dG),(8,.int .i64 ks.length),(9,.int .i64 i)]∧U W w (aa mb 177 (dX p ⟨mb,B,sq,r,tq,jq,dy,dG,aq,cO⟩ ks.length base front)::aP W B p s::aA W p aq cO::Sl 179 1 dy ks.length dG (g3 lG)::ah (fb p aq cO tq jq sq) lG::Tree tq sq T::ax sq r A1::bJ jq J::L)) (ks.length) (⟨0,A,ks,⟨rfl,by omega,rfl,λj k h=>absurd h (by omega),hI,rfl,rfl⟩,E.ab [0,7,8,9],I.sub⟩) ?_;clear E I;rintro μ a w ⟨i,A1,lG,⟨rfl,hi,dR,OF,x6,l8,oe⟩,E,I⟩;refine IF 3 E I (λak a E=>?_) λak a E=>?_
 ·
  have p6:i<lG.length:=by omega
  obtain⟨⟨k,wb⟩,hk⟩:∃ y,lG[i]?=some y:=⟨_,aD p6⟩;obtain⟨b',dK,rfl,da⟩:=I.bU dy (by omega);refine RN 3 E I λa E=>?_;refine SS E (ae E (da i _ (Mf hk))) λa E=>?_;refine aY 2 E I (Zf ((I.store sq).pick (ah (fb p aq cO tq jq sq) lG)) hk x6) λA2 k2 a w E ⟨⟨ch,py,eO,qa⟩,I⟩=>?_;rw[← Mg (k':=k2) hk]at I;refine RN 2 E I λa E=>?_;refine⟨ks.length-(i+1),by omega,i+1,A2,lG.set i (k2,wb),⟨rfl,by omega,by rw[bz];exact dR,λj z hj hz=>?_,py,eO.trans l8,qa.trans oe⟩,E.ab [0,7,8,9],I.sub⟩;rw[jB]at hz;split at hz
  ·cases hz;exact ch
  ·exact OF j z (by omega) hz
 refine RN 0 E I λa E=>?_;have gN:=I;refine CL 4 E I (Xp ((I.store sq).tree tq) he) λa w E I=>?_;refine RT 0 E I ?_;obtain rfl:i=ks.length:=by omega
 have C1:=x6.cut (ax.facts (gN.store sq)).1 (λ_=>true);rw[show T.l.filter (λ_=>true)=T.l from by simp]at C1;have hd:=CY T.l A1;refine⟨A1.g2 T.l,lG,rfl,⟨C1,dR,λk hk=>?_,hd.1.trans l8,hd.2.1.trans oe⟩,?_⟩
 ·obtain⟨j,hj⟩:=ke.1 hk;exact OF j k (by have:=(a2.1 hj).1;omega) hj
 ·rw[← dR]at I;exact aE.fold I ⟨mb,B,sq,r,tq,jq,dy,dG,aq,cO⟩ p ⟨s,A1.g2 T.l,T.cut λ_=>true,J,lG,base,front⟩
theorem H6 {id:Nat}(I:U W w (aE W M p m::L))(hx:m.A.ar[i]?=some px)(b9:px.id=id) :
   Calls prog 274 #[pt M.mb,.int .i64 id] w λe w'=>e=.returned (.agg (ints .i32 32 px.g).toArray)∧U W w' (aE W M p m::L):=by
 replace I:=aE.open I;refine EN func274 ntmps274 rfl rfl λa E=>?_;refine AL 1 E I λb4 a w E I=>?_;change U W w (aa b4 183 (ints .i32 32 (λ_=>0))::_) at I;refine CL 6 E I (Zj (I.store M.sq) hx b9) λa w E I=>?_;refine AL 3 E I λb5 a w E I=>?_;change U W w (aa b5 183 (ints .i32 32 (λ_=>0))::_) at I;refine SA 0 E I λa w E I=>?_;refine SA 3 E I λa w E I=>?_;refine RT 0 E I ?_;exact⟨rfl,(aE.fold I M p m).sub⟩
structure abL (p:Pr)(M:jN)(m m':Mu)(t':Nat→Nat):Prop where
 inv:Inv p (aw m.s.k:Int) m.s.g t' m'.base m'.A m'.T (m'.ks.map (·.1))
 s:m'.s=m.s
 J:m'.J=m.J
 front:m'.front=aw m.s.k
 room:m'.A.room=m.A.room
 n:m'.A.n≤m.A.n+1
 last:m'.T.last=m.T.last
 most:m'.T.most=m.T.most
 s9:m'.T.epoch≤m.T.epoch+2
 ks:m'.ks.length=m.ks.length
 agT:(m'.T=m.T∧m'.A=m.A∧m'.ks=m.ks)∨m'.T.l=[]
 same:m.front=aw m.s.k→m'.T=m.T∧m'.A=m.A∧m'.ks=m.ks
theorem abM (I:U W w (aE W M p m::L))(hw:cy p m.s)(hg:dT m.s.g)(hI:Inv p (m.front:Int) g0 t m.base m.A m.T (m.ks.map (·.1)))(fe:m.front=aw m.s.k→g0=m.s.g)
   (he:m.T.epoch+2<1099511627776) (hn:m.A.n+1<1099511627776) (h4:m.ks.length≤4) (ma:12≤m.A.room) :
   Calls prog 286 #[pt M.mb] w λe w'=>∃ (m':Mu) (t':Nat→Nat),e=.returned (.tuple #[])∧abL p M m m' t'∧U W w' (aE W M p m'::L):=by
 have bq:=hw.wc.lE;have iX:m.s.k.ls.length≤8:=by rw[hw.wc.ls];exact hw.wc.n.2
 obtain⟨mb,B,sq,r,tq,jq,dy,dG,aq,cO⟩:=M;obtain⟨s,A,T,J,ks,base,front⟩:=m;obtain⟨i,px,ig,lx⟩:=hI.mS (iq ..)
 have hF : ∀ (N : List SP) (w' : World) (x : Br) (av : Option Addr) (c' : Nat), U W w' N →
     Calls prog 301 ([]++[Value.agg (ck x av c').toArray]).toArray w' λe ob=>e=.returned (.bool false)∧U W ob N:=by
  intro N w x av c' I;refine EN func301 ntmps301 rfl rfl λa E=>?_;refine BX 1 E I λb1 a w E I=>?_;refine RT 3 E I ?_;exact⟨rfl,I.tail⟩
 simp only at hw hg hI fe he hn h4 ma bq iX ig lx;subst lx;replace I:=aE.open I;dsimp only at I;refine EN func286 ntmps286 rfl rfl λa E=>?_;refine CL 5 E I (ov (I.pick (aP W B p s))) λa w E I=>?_;replace I:=aP.open I;refine CL 0 E I (pv (I.pick (az B.core s.k))) λa w E I=>?_;obtain⟨D,I,hD⟩:=az.qu I;refine CL 0 E I (sH I bq iX) λa w E I=>?_;refine RN 1 E I λa E=>?_;replace I:=(aP.fold (hD _ _ I) B p s);refine IF 8 E I (λak a E=>?_) λak a E=>?_
 ·
  have pg:front=aw s.k:=by rw[aw];omega
  refine RT 0 E I ?_;exact⟨⟨s,A,T,J,ks,px.id,front⟩,t,rfl,⟨by rw[← pg,← fe pg];exact hI,rfl,rfl,pg,rfl,by simp only;omega,rfl,rfl,by simp only;omega,rfl,.inl ⟨rfl,rfl,rfl⟩,λ_=>⟨rfl,rfl,rfl⟩⟩,aE.fold I ⟨mb,B,sq,r,tq,jq,dy,dG,aq,cO⟩ p ⟨s,A,T,J,ks,px.id,front⟩⟩
 refine RN 5 E I λa E=>?_;have x7:=hI.cut (ax.facts (I.store sq)).1 (λ_=>true);have uC:=CY (T.l.filter λ_=>true) A;have H7:(T.cut λ_=>true).l=[]:=by simp[Tr.cut]
 have hTe:(T.cut λ_=>true).epoch≤T.epoch+1:=by simp only[Tr.cut];split <;> omega
 refine ka 0 E I (OE (kp:=λ_=>false) (ws:=[]) ((I.store sq).tree tq) (by omega) (by kernel_rfl) (λN w' x av c' _ h1 _ _ _ _=>hF N w' x av c' h1)) ?_;clear E I;rintro e w ⟨⟨_,rfl⟩,I⟩;refine⟨_,rfl,λa E=>?_⟩;replace I:U W w (Tree tq sq (T.cut λ_=>true)::ax sq r (A.g2 (T.l.filter λ_=>true))::_):=I;generalize A.g2 (T.l.filter λ_=>true)=A1 at I x7 uC;have sP:(T.cut λ_=>true).last=T.last∧(T.cut λ_=>true).most=T.most:=⟨rfl,rfl⟩;generalize (T.cut λ_=>true)=T1 at I x7 H7 hTe sP;obtain⟨i1,rr,abN,abO⟩:=x7.mS (iq ..);rw[← abO]at I x7;refine RN 0 E I λa E=>?_;refine b6 (M:=λa w=>∃ (A2:Sn) (T2:Tr) (ru:List Kx),(A2.used+4≤A2.room∧Inv p (front:Int) g0 t rr.id A2 T2 (ru.map (·.1))∧T2.l=[]∧T2.epoch≤T.epoch+2∧T2.last=T.last∧T2.most=T.most∧ru.length=ks.length∧A2.room=A.room∧A2.n=A.n)∧Fr a 73 [(0,pt mb),(2,.int .i64 (aU s.k.ls))]∧U W w (aE W ⟨mb,B,sq,r,tq,jq,dy,dG,aq,cO⟩ p ⟨s,A2,T2,J,ru,rr.id,front⟩::L)) ?_ ?_
 ·
  refine aV 1 (λw0 w'=>Rd w' mb 0 (dX p ⟨mb,B,sq,r,tq,jq,dy,dG,aq,cO⟩ ks.length rr.id front)) [7,11,12,13] [0,1,2,4,5,6,8,9,10,3003,3007,1011,1012,1013,1014,15] E I λa w E I hH=>?_;have hC:=hH.at w (I.ai (b:=mb));refine RH 9 E I hH hC λa E=>?_;refine QH E (λw hc=>ae E (hc 3 _ rfl)) hC λa E=>?_;refine QH E (λw hc=>ae E (hc 3 _ rfl)) hC λa E=>?_;refine RH 0 E I hH hC λa E=>?_;refine SS E (ae E (hC 7 _ rfl)) λa E=>?_;refine RH 0 E I hH hC λa E=>?_;refine aY 0 E I (K1 (I.store sq) abN) λc4 dU a w E I=>?_;replace hC:=hH.at w (I.ai (b:=mb));refine RH 1 E I hH hC λa E=>?_;refine CL 0 E I (K2 (I.store sq)) λa w E I=>?_;refine RN 1 E I λa E=>?_;refine IF 0 E I (λao a E=>?_) λao a E=>?_
  ·
   replace I:=aE.fold I ⟨mb,B,sq,r,tq,jq,dy,dG,aq,cO⟩ p ⟨s,A1,T1,J,ks,rr.id,front⟩;refine aY 1 E I (abK I x7 (by dsimp only;omega) h4) λA2 ru a w E ⟨⟨py,ch,abP,eO,qa⟩,I⟩=>?_;refine RN 0 E I λa E=>?_;have cr:(T1.cut λ_=>true).l=[]:=by simp[Tr.cut]
   have hce:(T1.cut λ_=>true).epoch≤T1.epoch+1:=by simp only[Tr.cut];split <;> omega
   have hu:=ax.wZ ((aE.open I).store sq);have hV:=py.len;rw[OB (λk hk=>by obtain⟨y,hy,rfl⟩:=cX.1 hk;exact abP y hy)]at hV;simp only[cr,length_nil]at hV eO qa ch hu;exact⟨A2,T1.cut λ_=>true,ru,⟨by rw[eO,uC.1];omega,py,cr,by omega,sP.1,sP.2,ch,by rw[eO,uC.1],by rw[qa,uC.2.1]⟩,E.ab [0,2],I.sub⟩
  refine RN 0 E I λa E=>?_;exact⟨A1,T1,ks,⟨by omega,x7,H7,by omega,sP.1,sP.2,rfl,uC.1,uC.2.1⟩,E.ab [0,2],(aE.fold I ⟨mb,B,sq,r,tq,jq,dy,dG,aq,cO⟩ p ⟨s,A1,T1,J,ks,rr.id,front⟩).sub⟩
 clear E;(try clear I);rintro a w ⟨A2,T2,ru,⟨hus,py,Ae,H8,hL2,C3,ch,eO,qa⟩,E,I⟩;refine RN 1 E I λa E=>?_;replace I:=aE.open I;dsimp only at I;refine aV 0 (λw0 w'=>Rd w' mb 0 (dX p ⟨mb,B,sq,r,tq,jq,dy,dG,aq,cO⟩ ru.length rr.id front)) [7,8] [0,1,2,4,5,6,3003,1007,1008,1009,10,11,12,13,14] E I λa w E I hH=>?_;have hC:=hH.at w (I.ai (b:=mb));refine RH 6 E I hH hC λa E=>?_;refine QH E (λw hc=>ae E (hc 3 _ rfl)) hC λa E=>?_;refine RH 0 E I hH hC λa E=>?_;refine SS E (ae E (hC 0 _ rfl)) λa E=>?_;refine RH 0 E I hH hC λa E=>?_;refine CL 0 E I (Oz (I.pick (aP W B p s))) λa w E I=>?_;replace hC:=hH.at w (I.ai (b:=mb));have xv:=(ax.facts (I.store sq)).1;refine RH 0 E I hH hC λa E=>?_;refine bg 0 E I (K3 (g:=s.g) (I.store sq) hus (by omega)) λt' a w E ⟨⟨ht1,H9⟩,I⟩=>?_;refine RN 5 E I λa E=>?_;refine RN 4 E I λa E=>?_;replace E:=E.aQ 55;refine aV 2 (λw0 w'=>Rd w' mb 0 (dX p ⟨mb,B,sq,r,tq,jq,dy,dG,aq,cO⟩ ru.length rr.id front)) [7] [0,1,2,4,5,6,3003,1007,1008] E I λa w E I hH=>?_;have hC:=hH.at w (I.ai (b:=mb));refine RH 6 E I hH hC λa E=>?_;refine QH E (λw hc=>ae E (hc 3 _ rfl)) hC λa E=>?_;refine RH 0 E I hH hC λa E=>?_;refine SS E (ae E (hC 7 _ rfl)) λa E=>?_;refine RH 0 E I hH hC λa E=>?_;refine bg 0 E I (BI (I.store sq)) λ_ a w E I=>?_;refine ST 6 E I (λa w E I=>?_);refine ST 2 E I (λa w E I=>?_);refine RT 0 E I ?_;have hm:=py.abF (F':=(aw s.k:Int)) (g:=s.g) (t':=t') xv (by omega) Ae hg;have hd:=o2 (A2.add s.g t') rr.id;exact⟨⟨s,(A2.add s.g t').eB rr.id,T2,J,ru,A2.last+1,aU s.k.ls⟩,t',rfl,⟨hm,rfl,rfl,rfl,hd.1.trans eO,by rw[hd.2.1];show A2.n+1≤A.n+1;omega,hL2,C3,H8,ch,.inr Ae,λe=>(by have e2:front=aU s.k.ls:=e;exfalso;omega)⟩,aE.fold I ⟨mb,B,sq,r,tq,jq,dy,dG,aq,cO⟩ p ⟨s,(A2.add s.g t').eB rr.id,T2,J,ru,A2.last+1,aU s.k.ls⟩⟩
end
end
section
abbrev bm (xs:List ee):List (List UInt8):=xs.map (·.2.2)
theorem uD {xs:List ee}{i:Nat}{x:ee}(h:xs[i]?=some x):(bm xs).getD i []=x.2.2:=by
 rw[br,bd,h];rfl
theorem gr (xs:List ee):(bm xs).length=xs.length:=a8 _
theorem iQ.at {w:World}{ad:Option Addr}{xs:List ee}(h:iQ w ad xs){i:Nat}(hi:i<xs.length):∃ b off x,ad=some ⟨b,off,none⟩∧xs[i]?=some x∧w.cell? ⟨b,off+i,none⟩=some (aK x)∧aX w x.1 x.2.2.length x.2.2:=by
 obtain⟨b,off,hb,hr⟩:=h.1 (by omega);have hx:xs[i]?=some xs[i]:=aD hi;exact⟨b,off,xs[i],hb,hx,hr i _ (by rw[bd,hx];rfl),h.2 _ (bI hx)⟩
section
variable {W w:World}{L:List SP}{m cT to r f cl:Nat}{adT hU:Option Addr}{past:List UInt8}{b:Gs}{xs:List ee}
theorem C4 (I:U W w L)(h0:0<xs.length)(h8:xs.length≤8)(hp:∀ w',U W w' L→iQ w' hU xs) :
   Calls prog 41 #[.slice hU xs.length cl] w λe w'=>e=.returned (.int .i64 (aU (bm xs)))∧U W w' L:=by
 refine EN func41 ntmps41 rfl rfl λa E=>?_;refine RN 3 E I λa E=>?_;obtain⟨nn,ol,x0,rfl,Ia,jZ,fP⟩:=(hp _ I).at h0;refine RN 3 E I λa E=>?_;refine SS E (ae E (jZ)) λa E=>?_;rw[aK]at E;refine RN 5 E I λa E=>?_;rw[show ((x0.2.2.length:Nat):Int)=(iW (bm xs) 1:Nat) from by rw[aar,iW,List.headD_eq_getD,uD Ia]]at E;refine aL (λμ a w=>∃ (i:Nat),(μ=xs.length-i∧i≤xs.length∧1≤i)∧Fr a 25 [(0,.slice (some ⟨nn,ol,none⟩) xs.length cl),(3,.int .i64 (iW (bm xs) i:Nat)),(4,.int .i64 i)]∧U W w L) (xs.length-1) (⟨1,⟨rfl,by omega,by omega⟩,E.ab [0,3,4],I⟩) ?_;clear E I;rintro μ a w ⟨i,⟨rfl,hi,lM⟩,E,I⟩;refine IF 6 E I (λak a E=>?_) λak a E=>?_
 ·
  obtain⟨_,_,x,hE,hx,jZ,fP⟩:=(hp _ I).at (i:=i) (by omega);cases hE;refine RN 6 E I λa E=>?_;refine SS E (ae E (jZ)) λa E=>?_;rw[aK]at E;refine RN 2 E I λa E=>?_;rw[show min ((iW (bm xs) i:Nat):Int) ((x.2.2.length:Nat):Int)=((iW (bm xs) (i+1):Nat):Int) from by rw[iW,uD hx];omega]at E;refine RN 4 E I λa E=>?_;exact⟨xs.length-(i+1),by omega,i+1,⟨rfl,by omega,by omega⟩,E.ab [0,3,4],I⟩
 refine RT 3 E I ?_;obtain rfl:i=xs.length:=by omega
 exact⟨by rw[aU,gr],I⟩
theorem Ib (I:U W w L)(h0:0<xs.length)(h8:xs.length≤8)(hp:∀ w',U W w' L→iQ w' hU xs)(hf:f<aU (bm xs)) :
   Calls prog 40 #[.slice hU xs.length cl,.int .i64 f] w λe w'=>∃ av c',e=.returned (.slice av (bK (bm xs) f).length c')∧U W w' (Sl 5 1 av (bK (bm xs) f).length c' (bc (bK (bm xs) f))::L):=by
 refine EN func40 ntmps40 rfl rfl λa E=>?_;refine RN 7 E I λa E=>?_;replace I:=I.bQ 5 1 none;refine aL (λμ a w=>∃ (i:Nat) (ad2:Option Addr) (c2:Nat),(μ=xs.length-i∧i≤xs.length)∧Fr a 25 [(0,.slice hU xs.length cl),(1,.int .i64 f),(5,.slice ad2 (fD (bm xs) f i).length c2),(6,.int .i64 i)]∧U W w (Sl 5 1 ad2 (fD (bm xs) f i).length c2 (bc (fD (bm xs) f i))::L)) (xs.length) (⟨0,none,0,⟨rfl,by omega⟩,E.ab [0,1,5,6],I⟩) ?_;clear E I;rintro μ a w ⟨i,ad2,c2,⟨rfl,hi⟩,E,I⟩;refine IF 6 E I (λak a E=>?_) λak a E=>?_
 ·
  obtain⟨nn,ol,x,rfl,hx,jZ,fP⟩:=(hp _ I.tail).at (i:=i) (by omega);have eP:f<x.2.2.length:=by
   have h1:=xJ (ls:=bm xs) (l:=x.2.2) (cX.2 ⟨x,bI hx,rfl⟩);omega
  obtain⟨m2,o5,hE,gD⟩:=fP.get (by omega);have dO:=ui (ls:=bm xs) (f:=f) (i:=i) (by rw[gr];exact hi);refine RN 6 E I λa E=>?_;refine SS E (ae E (jZ)) λa E=>?_;rw[aK,hE]at E;refine RN 2 E I λa E=>?_;refine SS E (ae E (gD f _ (lA eP))) λa E=>?_;refine RN 0 E I λa E=>?_;refine ct E rfl I bj Ty.t5 rfl rfl rfl rfl (by decide) (by decide) λvr a w E I ho=>?_;clear ho;refine RN 0 E I λa E=>?_;refine cR E rfl I bj Ty.t5 rfl rfl I.ai rfl (ez [x.2.2.getD f 0]) (by decide) (by decide) (by omega) λgH gI a w E I=>?_;rw[show bc (fD (bm xs) f i)++_=bc (fD (bm xs) f (i+1)) from by rw[CA (by rw[gr];omega),getElem_map,fS,(a2.1 hx).2],show (fD (bm xs) f i).length+1=(fD (bm xs) f (i+1)).length from by rw[dO,ui (by rw[gr];omega)]]at I;rw[show (fD (bm xs) f i).length+1=(fD (bm xs) f (i+1)).length from by rw[dO,ui (by rw[gr];omega)]]at E;refine RN 4 E I λa E=>?_;exact⟨xs.length-(i+1),by omega,i+1,gH,gI,⟨rfl,by omega⟩,E.ab [0,1,5,6],I.sub⟩
 refine RT 3 E I ?_;obtain rfl:i=xs.length:=by omega
 have hj:fD (bm xs) f xs.length=bK (bm xs) f:=by
  conv=>lhs;rw[← gr xs]
  exact Cz _ _
 rw[hj]at I ⊢;exact⟨_,_,rfl,I⟩
set_option maxHeartbeats 1000000 in
theorem C5 (hr:r≤100000)(I:U W w L)(hb:c0 b)(h0:0<xs.length)(h8:xs.length≤8)(hl:∀ l∈bm xs,l.length≤1000)(uq:to≤1000)(hp:∀ w',U W w' L→iQ w' hU xs)(ht:∀ w',U W w' L→aX w' adT b.table.length b.table) :
   Calls prog 117 #[.slice hU xs.length cl,.agg (dq b adT cT).toArray,.int .i64 r,.int .i64 to] w λe w'=>∃ (av:Option Addr) (c':Nat) (X:List (List UInt8)),e=.returned (.slice av (to-aU (bm xs)) c')∧(z6 to (bm xs) X∧(r=0→X=js b (bm xs) to)) ∧
    U W w' (cj av (to-aU (bm xs)) c' (nQ X (aU (bm xs)) to)::L):=by
 have bq:bm xs≠[]:=λe=>by have h1:=gr xs;rw[e]at h1;simp at h1;omega
 have fe:aU (bm xs)≤1000:=by
  obtain⟨l,ll,mm⟩:=Cy bq;rw[mm];exact hl l ll
 refine EN func117 ntmps117 rfl rfl λa E=>?_;refine BX 1 E I λb5 a w E I=>?_;change U W w (aa b5 47 (dq b adT cT)::_) at I;refine CL 3 E I (C4 (cl:=cl) I h0 h8 (λw' hw=>hp w' hw.tail)) λa w E I=>?_;refine bg 4 E I (HU I) λsO a w E ⟨jX,I⟩=>?_;rw[jX.2 hb]at E;refine RN 2 E I λa E=>?_;replace E:=E.aQ 23;refine RN 4 E I λa E=>?_;rw[bu (by omega)]at E;refine RN 4 E I λa E=>?_;rw[bu (by omega)]at E;refine IF 4 E I (λak a E=>?_) λak a E=>?_
 ·
  refine RT 2 E I ?_;have hz:to-aU (bm xs)=0:=by omega
  refine⟨none,0,js b (bm xs) to,by rw[hz],⟨⟨by rw[js,a8],λj l x hj hx=>?_⟩,λ_=>rfl⟩,?_⟩
  ·rw[js,bd,hj]at hx;obtain rfl:om b l to=x:=by simpa using hx
   exact abo (hl l (bI hj)) uq
  ·rw[nQ,hz];exact cj.nil I.tail
 refine RN 7 E I λa E=>?_;replace I:=I.bQ 22 1 none;replace I:=U.ji (f:=ba) I;have agU:aU (bm xs)<to:=by omega
 refine aL (λμ a w=>∃ (i:Nat) (OG:Bool) (ys:List ee) (nR:Option Addr) (nS:Nat),(μ=xs.length-i∧i≤xs.length∧ys.length=i∧(∀ (j:Nat) (l:List UInt8) (x:ee),(bm xs)[j]?=some l→ys[j]?=some x→xX to l x.2.2)∧(r=0→bm ys=(js b (bm xs) to).take i))∧Fr a 117 [(0,.slice hU xs.length cl),(2,.int .i64 r),(3,.int .i64 to),(5,pt b5),(9,.int .i64 (aU (bm xs))),(10,.slice nR i nS),(11,.bool OG),(12,.int .i64 i)]∧U W w (Sl 22 1 nR i nS (ys.map aK)::ah ba ys::aa b5 47 (dq b adT cT)::L)) (xs.length) (⟨0,false,[],none,0,⟨rfl,by omega,rfl,λj l x _ h=>by simp at h,λ_=>rfl⟩,E.ab [0,2,3,5,9,10,11,12],(I.sub:U W w (Sl 22 1 none 0 0 []::ah ba []::aa b5 47 (dq b adT cT)::L))⟩) ?_;clear E I;rintro μ a w ⟨i,OG,ys,nR,nS,⟨rfl,hi,ju,nX,vO⟩,E,I⟩;refine IF 6 E I (λao a E=>?_) λao a E=>?_
 ·
  obtain⟨nn,ol,x,rfl,hx,jZ,fP⟩:=(hp _ I.tail.tail.tail).at (i:=i) (by omega);have eJ:(bm xs)[i]?=some x.2.2:=by rw[bd,hx];rfl
  have b7:=hl _ (bI eJ);replace I:=I.bQ 5 1 none;refine RN 6 E I λa E=>?_;refine SS E (ae E (jZ)) λa E=>?_;rw[aK]at E;refine RN 0 E I λa E=>?_;refine hO E rfl I bj Ty.t5 rfl rfl (by decide) (λh0=>fP.get h0) (by rw[dA];omega) (ez _) (by omega) λql sD a w E I=>?_;rw[nil_append,ei]at I;rw[ei]at E;refine RN 1 E I λa E=>?_;refine b6 (M:=λa w=>∃ (C6:Bool) (c4:Option Addr) (dU:Nat) (y:List UInt8),((∃ t,y=x.2.2++t)∧y.length≤x.2.2.length+1∧(y=x.2.2∨x.2.2.length=aU (bm xs))∧(r=0→y=x.2.2))∧Fr a 117 [(0,.slice (some ⟨nn,ol,none⟩) xs.length cl),(2,.int .i64 r),(3,.int .i64 to),(5,pt b5),(9,.int .i64 (aU (bm xs))),(10,.slice nR i nS),(11,.bool C6),(12,.int .i64 i),(13,.slice c4 y.length dU)]∧U W w (Sl 5 1 c4 y.length dU (bc y)::Sl 22 1 nR i nS (ys.map aK)::ah ba ys::aa b5 47 (dq b adT cT)::L)) ?_ ?_
  ·
   refine BY 4 E I (λbD a E=>?_) λbD a E=>?_
   ·
    refine BY 4 E I (λki a E=>?_) λki a E=>?_
    ·
     refine IF 5 E I (λay a E=>?_) λay a E=>?_
     ·
      refine RN 2 E I λa E=>?_;have zF:r%256<256:=Nat.mod_lt _ (by decide);have abQ:=(I.sl ql).2;refine SX 4 E I (by decide) λa E=>?_;rw[show ((r:Nat):Int).tmod 256=((r%256:Nat):Int) from oO _ 256]at E;generalize my:r%256=r6 at E zF;refine RN 1 E I λa E=>?_;rw[show ((r6:Nat):Int)+1=((r6+1:Nat):Int) from by omega]at E;refine j9 0 E I (N4 (past:=x.2.2) (k:=r6+1) I hb (by omega) (by omega) abQ (λw' hw=>hw.cw ql x.2.2 rfl rfl) (λw' hw=>ht w' hw.tail.tail.tail.tail)) λsy pf out a w E ⟨⟨eb,_⟩,I⟩=>?_;obtain⟨gE,or',rfl,jX⟩:=I.bU sy (by omega);refine SX 1 E I (by decide) λa E=>?_;rw[show ((r:Nat):Int).tmod 256=((r6:Nat):Int) from by rw[← my];exact oO _ 256]at E;refine RN 1 E I λa E=>?_;refine SS E (ae E (jX r6 _ (dV (by omega)))) λa E=>?_;refine RN 0 E I λa E=>?_;refine ct E rfl I bj Ty.t5 rfl rfl rfl rfl (by decide) (by decide) λZY a w E I ho=>?_;clear ho;refine RN 0 E I λa E=>?_;refine cR E rfl I bj Ty.t5 rfl rfl I.ai rfl (ez [out[r6]]) (by decide) (by decide) (by omega) λME MF a w E I=>?_;rw[show bc x.2.2++_=bc (x.2.2++[out[r6]]) from (fS _ [_]).symm,show x.2.2.length+1=(x.2.2++[out[r6]]).length from by simp]at I;rw[show x.2.2.length+1=(x.2.2++[out[r6]]).length from by simp]at E;refine RN 1 E I λa E=>?_;exact⟨_,ME,MF,x.2.2++[out[r6]],⟨⟨_,rfl⟩,by simp,.inr (by omega),λh=>by omega⟩,E.ab [0,2,3,5,9,10,11,12,13],I.sub⟩
     refine RN 0 E I λa E=>?_;exact⟨_,ql,sD,x.2.2,⟨⟨[],by simp⟩,by omega,.inl rfl,λ_=>rfl⟩,E.ab [0,2,3,5,9,10,11,12,13],I.sub⟩
    refine RN 6 E I λa E=>?_;exact⟨_,ql,sD,x.2.2,⟨⟨[],by simp⟩,by omega,.inl rfl,λ_=>rfl⟩,E.ab [0,2,3,5,9,10,11,12,13],I.sub⟩
   refine RN 10 E I λa E=>?_;exact⟨_,ql,sD,x.2.2,⟨⟨[],by simp⟩,by omega,.inl rfl,λ_=>rfl⟩,E.ab [0,2,3,5,9,10,11,12,13],I.sub⟩
  clear E;(try clear I);rintro a w ⟨C6,c4,dU,y,⟨hG,iR,N7,mH⟩,E,I⟩;refine b6 (M:=λa w=>∃ (adq:Option Addr) (cq:Nat) (z:List UInt8),(xX to x.2.2 z∧(r=0→z=om b x.2.2 to))∧Fr a 117 [(0,.slice (some ⟨nn,ol,none⟩) xs.length cl),(2,.int .i64 r),(3,.int .i64 to),(5,pt b5),(9,.int .i64 (aU (bm xs))),(10,.slice nR i nS),(11,.bool C6),(12,.int .i64 i),(13,.slice adq z.length cq)]∧U W w (Sl 5 1 adq z.length cq (bc z)::Sl 22 1 nR i nS (ys.map aK)::ah ba ys::aa b5 47 (dq b adT cT)::L)) ?_ ?_
  ·
   refine IF 5 E I (λbl a E=>?_) λbl a E=>?_
   ·
    have pw:=(I.sl c4).2;have HZ:=Hg b y (to-y.length);refine RN 7 E I λa E=>?_;rw[show ((to:Nat):Int)-((y.length:Nat):Int)=((to-y.length:Nat):Int) from by omega]at E;refine aY 0 E I (abm (past:=y) (m:=to-y.length) I hb (by omega) pw (by omega) (λw' hw=>hw.cw c4 y rfl rfl) (λw' hw=>ht w' hw.tail.tail.tail.tail)) λadc HY a w E I=>?_;refine RN 0 E I λa E=>?_;refine hO E rfl I bj Ty.t5 rfl rfl (by decide) (λh0=>(I.cw adc (kr b y (to-y.length)) rfl HZ).get h0) (by rw[dA];omega) (ez _) (by omega) λabR c85 a w E I=>?_;rw[← fS,vD,show y.length+(to-y.length)=(eo b y (to-y.length)).length from by rw[iH]]at I;rw[show y.length+(to-y.length)=(eo b y (to-y.length)).length from by rw[iH]]at E;refine RN 1 E I λa E=>?_;obtain⟨t,H0⟩:=hG;refine⟨abR,c85,_,⟨⟨⟨t++kr b y (to-y.length),?_⟩,by rw[iH];omega,by rw[iH];omega⟩,λh=>?_⟩,E.ab [0,2,3,5,9,10,11,12,13],I.sub⟩
    ·rw[← vD,H0,dz]
    ·rw[mH h,om]
   refine RN 0 E I λa E=>?_;exact⟨c4,dU,y,⟨⟨hG,by omega,by omega⟩,λh=>by rw[N6 (by rw[← mH h];omega)];exact mH h⟩,E.ab [0,2,3,5,9,10,11,12,13],I⟩
  clear E;(try clear I);rintro a w ⟨adq,cq,z,⟨cW,eU⟩,E,I⟩;refine RN 2 E I λa E=>?_;refine ct E rfl I pT Ty.t22 rfl rfl rfl rfl (by decide) (by decide) λb88 a w E I ho=>?_;clear ho;refine RN 0 E I λa E=>?_;refine cR E rfl I pT Ty.t22 rfl rfl I.ai rfl (by simp[Value.oneCell']) (by decide) (by decide) (by omega) λOH OI a w E I=>?_;rw[show List.map aK ys++_=List.map aK (ys++[(adq,cq,z)]) from by rw[cY];rfl]at I;refine RN 4 E I λa E=>?_;have dB:=U.j7 (f:=ba) (x:=(adq,cq,z)) (I.sub (M:=Sl 5 1 adq z.length cq (bc z)::ah ba ys::Sl 22 1 OH (i+1) OI ((ys++[(adq,cq,z)]).map aK)::aa b5 47 (dq b adT cT)::L));refine⟨xs.length-(i+1),by omega,i+1,C6,ys++[(adq,cq,z)],OH,OI,⟨rfl,by omega,by rw[aM,ju];rfl,λj l y hj hy=>?_,λh=>?_⟩,E.ab [0,2,3,5,9,10,11,12],dB.sub⟩
  ·by_cases gZ:j<i
   ·rw[mM (by omega)]at hy;exact nX j l y hj hy
   ·have dO:=(a2.1 hy).1;rw[aM,jJ]at dO;obtain rfl:j=i:=by omega
    rw[pJ (by omega),ju,Nat.sub_self]at hy;obtain rfl:(adq,cq,z)=y:=by simpa using hy
    rw[eJ]at hj;obtain rfl:x.2.2=l:=by simpa using hj
    exact cW
  ·rw[bm,cY,← bm,vO h,jD (by rw[js,a8,gr];omega)]
   congr 1
   rw[map_singleton,eU h];simp only[js,getElem_map];rw[(a2.1 hx).2]
 obtain rfl:i=xs.length:=by omega
 have iF:z6 to (bm xs) (bm ys):=⟨by rw[gr,gr];exact ju,λj l x hj hx=>by
  rw[bd]at hx;obtain⟨y,hy,rfl⟩:=r0.1 hx;exact nX j l y hj hy⟩
 have m9:r=0→bm ys=js b (bm xs) to:=λh=>by rw[vO h,gl (by rw[js,a8,gr];exact a7 _)]
 clear nX vO;refine RN 6 E I λa E=>?_;replace I:=I.bQ 22 1 none;replace I:=U.ji (f:=ba) I;refine aL (λμ a w=>∃ (d:Nat) (zs:List ee) (na:Option Addr) (nc:Nat),(μ=to-aU (bm xs)-d∧d≤to-aU (bm xs)∧bm zs=(List.range d).map λi=>bK (bm ys) (aU (bm xs)+i))∧Fr a 117 [(0,.slice hU xs.length cl),(3,.int .i64 to),(10,.slice nR xs.length nS),(14,.slice na d nc),(15,.int .i64 (aU (bm xs)+d:Nat))]∧U W w (Sl 22 1 na d nc (zs.map aK)::ah ba zs::Sl 22 1 nR xs.length nS (ys.map aK)::ah ba ys::L)) (to-aU (bm xs)) (⟨0,[],none,0,⟨rfl,by omega,rfl⟩,by rw[Nat.add_zero];exact E.ab [0,3,10,14,15],(I.sub:U W w (Sl 22 1 none 0 0 []::ah ba []::Sl 22 1 nR xs.length nS (ys.map aK)::ah ba ys::L))⟩) ?_;clear E I;rintro μ a w ⟨d,zs,na,nc,⟨rfl,hd,ux⟩,E,I⟩;refine IF 5 E I (λbO a E=>?_) λbO a E=>?_
 ·
  refine RN 6 E I λa E=>?_;replace I:=I.bQ 5 1 none;refine aL (λμ a w=>∃ (i:Nat) (iZ:Option Addr) (jv:Nat),(μ=xs.length-i∧i≤xs.length)∧Fr a 117 [(0,.slice hU xs.length cl),(3,.int .i64 to),(10,.slice nR xs.length nS),(14,.slice na d nc),(15,.int .i64 (aU (bm xs)+d:Nat)),(16,.slice iZ i jv),(17,.int .i64 i)]∧U W w (Sl 5 1 iZ i jv (bc (fD (bm ys) (aU (bm xs)+d) i))::Sl 22 1 na d nc (zs.map aK)::ah ba zs::Sl 22 1 nR xs.length nS (ys.map aK)::ah ba ys::L)) (xs.length) (⟨0,none,0,⟨rfl,by omega⟩,E.ab [0,3,10,14,15,16,17],I⟩) ?_;clear E I;rintro μ a w ⟨i,iZ,jv,⟨rfl,hi⟩,E,I⟩;refine IF 6 E I (λeL a E=>?_) λeL a E=>?_
  ·
   have aG:i<xs.length:=by omega
   have CU:=U.mQ (xs:=ys) (I.sub (M:=Sl 22 1 nR xs.length nS (ys.map aK)::ah ba ys::[]));obtain⟨a1,agV,y,rfl,hy,pz,qv⟩:=CU.at (i:=i) (by omega);have C7:=iF.fit i _ y.2.2 (aD (by rw[gr];exact aG)) (by rw[bd,hy];rfl);obtain⟨bb,oo,nT,gD⟩:=qv.get (by have:=C7.2.1;omega);refine RN 5 E I λa E=>?_;refine SS E (ae E (pz)) λa E=>?_;rw[aK,nT]at E;refine SX 1 E I (by have:=C7.2.1;omega) λa E=>?_;refine RN 0 E I λa E=>?_;refine SS E (ae E (gD (aU (bm xs)+d) _ (lA (by have:=C7.2.1;omega)))) λa E=>?_;refine RN 0 E I λa E=>?_;refine ct E rfl I bj Ty.t5 rfl rfl rfl rfl (by decide) (by decide) λTJ a w E I ho=>?_;clear ho;refine RN 0 E I λa E=>?_;refine cR E rfl I bj Ty.t5 rfl rfl I.ai rfl (ez [y.2.2.getD (aU (bm xs)+d) 0]) (by decide) (by decide) (by omega) λabS abT a w E I=>?_;rw[show bc (fD (bm ys) (aU (bm xs)+d) i)++_=bc (fD (bm ys) (aU (bm xs)+d) (i+1)) from by rw[CA (by rw[gr];omega),getElem_map,fS,(a2.1 hy).2]]at I;refine RN 4 E I λa E=>?_;exact⟨xs.length-(i+1),by omega,i+1,abS,abT,⟨rfl,by omega⟩,E.ab [0,3,10,14,15,16,17],I.sub⟩
  obtain rfl:i=xs.length:=by omega
  have dO:fD (bm ys) (aU (bm xs)+d) xs.length=bK (bm ys) (aU (bm xs)+d):=by
   conv=>lhs;rw[← ju,← gr]
   exact Cz _ _
  rw[dO]at I;have qR:(bK (bm ys) (aU (bm xs)+d)).length=xs.length:=by rw[nL,gr];exact ju
  refine RN 2 E I λa E=>?_;refine ct E rfl I pT Ty.t22 rfl rfl rfl rfl (by decide) (by decide) λTL a w E I ho=>?_;clear ho;refine RN 0 E I λa E=>?_;refine cR E rfl I pT Ty.t22 rfl rfl I.ai rfl (by simp[Value.oneCell']) (by decide) (by decide) (by omega) λOJ OK a w E I=>?_;rw[show List.map aK zs++_=List.map aK (zs++[(iZ,jv,bK (bm ys) (aU (bm xs)+d))]) from by rw[cY,map_singleton,aK,qR];rfl]at I;refine RN 4 E I λa E=>?_;have dB:=U.j7 (f:=ba) (x:=(iZ,jv,bK (bm ys) (aU (bm xs)+d))) (by
   rw[ba,qR];exact I.sub (M:=Sl 5 1 iZ xs.length jv (bc (bK (bm ys) (aU (bm xs)+d)))::ah ba zs::Sl 22 1 OJ (d+1) OK ((zs++[(iZ,jv,bK (bm ys) (aU (bm xs)+d))]).map aK)::Sl 22 1 nR xs.length nS (ys.map aK)::ah ba ys::L))
  exact⟨to-aU (bm xs)-(d+1),by omega,d+1,zs++[(iZ,jv,bK (bm ys) (aU (bm xs)+d))],OJ,OK,⟨rfl,by omega,by rw[bm,cY,← bm,ux,range_succ,cY];rfl⟩,by rw[show ((aU (bm xs)+(d+1):Nat):Int)=((aU (bm xs)+d:Nat):Int)+1 from by omega];exact E.ab [0,3,10,14,15],dB.sub⟩
 obtain rfl:d=to-aU (bm xs):=by omega
 refine RT 3 E I ?_;exact⟨na,nc,bm ys,rfl,⟨iF,m9⟩,cj.close (xs:=zs) (I.sub (M:=Sl 22 1 na (to-aU (bm xs)) nc (zs.map aK)::ah ba zs::L)) ux (CT _ _ _)⟩
end
end
section
section
variable {W w:World}{Z:List SP}{n c i tq sq r nk base front:Nat}{ad:Option Addr}{M:jN}{B:jw}{y:UInt8}{x:Br}{p:Pr}{s:Pl}{T:Tr}
theorem abU (I:U W w (aa M.mb 177 (dX p M nk base front)::aP W M.B p s::Z))(hw:cy p s)(hx:xd W (aa M.mb 177 (dX p M nk base front)::aP W M.B p s::Z) ad x.al)
   (hf:x.frm=(front:Int)) (hj:∀ j∈x.al,j.length=s.k.n) (hb:front+x.al.length≤100000) :
   Calls prog 288 #[pt M.mb,.agg (ck x ad c).toArray] w λe w'=>e=.returned (.bool (jO s.k.ls front x.al))∧U W w' (aa M.mb 177 (dX p M nk base front)::aP W M.B p s::Z):=by
 obtain⟨zs,hz,hx⟩:=hx;have bq:=hw.wc.lE;have fc:=hw.wc.ls;have x8:=hw.wc.n;have jz:zs.length=x.al.length:=by rw[← hz,a8]
 refine EN func288 ntmps288 rfl rfl λa E=>?_;refine BX 1 E I λb3 a w E I=>?_;refine CL 6 E I (ov (I.pick (aP W M.B p s))) λa w E I=>?_;replace I:=aP.open I;refine CL 0 E I (pv (I.pick (az M.B.core s.k))) λa w E I=>?_;refine RN 1 E I λa E=>?_;obtain⟨D,I,hD⟩:=az.qu I;have OL:∀ w',U W w' (Qu M.B.core.qb M.B.core.aB s.k.ls::D::aa M.B.pb 192 (gJ p M.B s.g)::aA W p M.B.aq M.B.cO::Sl 5 1 M.B.adT M.B.gs.table.length M.B.cT (bc M.B.gs.table)::aa M.mb 177 (dX p M nk base front)::Z)→iQ w' ad zs :=
  λw' h=>hx w' ((aP.fold (hD _ _ h) M.B p s).sub)
 refine RN 6 E I λa E=>?_;refine aL (λμ a w=>∃ (i:Nat),(μ=x.al.length-i∧i≤x.al.length∧(∀ j,j<i→uB s.k.ls (front+j) (x.al.getD j [])=true))∧Fr a 59 [(0,pt M.mb),(3,pt b3),(5,pt M.B.core.qb),(19,.slice ad x.al.length c),(20,.int .i64 x.al.length),(21,.int .i64 i)]∧U W w (Qu M.B.core.qb M.B.core.aB s.k.ls::D::aa b3 238 (ck x ad c)::aa M.B.pb 192 (gJ p M.B s.g)::aA W p M.B.aq M.B.cO::Sl 5 1 M.B.adT M.B.gs.table.length M.B.cT (bc M.B.gs.table)::aa M.mb 177 (dX p M nk base front)::Z)) (x.al.length) (⟨0,⟨rfl,by omega,λj h=>absurd h (by omega)⟩,E.ab [0,3,5,19,20,21],I.sub⟩) ?_;clear E I;rintro μ a w ⟨i,⟨rfl,hi,vR⟩,E,I⟩;refine IF 3 E I (λak a E=>?_) λak a E=>?_
 ·
  have aG:i<zs.length:=by omega
  obtain⟨m2,o5,z,hK,kV,lS,Ic⟩:=(OL _ I.sub).at aG;have OM:x.al.getD i []=z.2.2:=by rw[br,← hz,bd,kV];rfl
  have LY:z.2.2.length=s.k.n:=hj _ (by rw[← hz];exact cX.2 ⟨z,bI kV,rfl⟩);refine RN 3 E I λa E=>?_;rw[hK]at E;refine RN 1 E I λa E=>?_;refine SS E (ae E (lS)) λa E=>?_;rw[← hK]at E;rw[aK]at E;refine RN 6 E I λa E=>?_;refine aL (λμ a w=>∃ (v:Nat),(μ=z.2.2.length-v∧v≤z.2.2.length∧(∀ q,q<v→front+i<(s.k.ls.getD q []).length→(s.k.ls.getD q []).getD (front+i) 0=z.2.2.getD q 0))∧Fr a 59 [(0,pt M.mb),(3,pt b3),(5,pt M.B.core.qb),(6,.int .i64 i),(19,.slice ad x.al.length c),(20,.int .i64 x.al.length),(21,.int .i64 i),(26,.slice z.1 z.2.2.length z.2.1),(27,.int .i64 z.2.2.length),(28,.int .i64 v)]∧U W w (Qu M.B.core.qb M.B.core.aB s.k.ls::D::aa b3 238 (ck x ad c)::aa M.B.pb 192 (gJ p M.B s.g)::aA W p M.B.aq M.B.cO::Sl 5 1 M.B.adT M.B.gs.table.length M.B.cT (bc M.B.gs.table)::aa M.mb 177 (dX p M nk base front)::Z)) (z.2.2.length) (⟨0,⟨rfl,by omega,λj h=>absurd h (by omega)⟩,E.ab [0,3,5,6,19,20,21,26,27,28],I⟩) ?_;clear E I;rintro μ a w ⟨v,⟨rfl,hv,Ie⟩,E,I⟩;refine IF 3 E I (λao a E=>?_) λao a E=>?_
  ·
   have C8:v<z.2.2.length:=by omega
   have ON:v<s.k.ls.length:=by omega
   obtain⟨agW,agX,cW,C9⟩:=((OL _ I.sub).2 z (bI kV)).get (by omega);refine RN 3 E I λa E=>?_;rw[cW]at E;refine RN 1 E I λa E=>?_;refine SS E (ae E (C9 v _ (lA C8))) λa E=>?_;rw[← cW]at E;refine aV 3 (λw0 w'=>Rd w' b3 0 (ck x ad c)) [2] [0,1,3,5,3004,6,1002,1007,8,9,10,11,12] E I λa w E I hH=>?_;have hC:=hH.at w (I.ai (b:=b3));refine RH 4 E I hH hC λa E=>?_;refine QH E (λw hc=>ae E (hc 1 _ rfl)) hC λa E=>?_;refine RH 1 E I hH hC λa E=>?_;rw[hf,show ((front:Nat):Int)+(i:Int)=((front+i:Nat):Int) from rfl]at E;refine CL 0 E I (uj (I.pick (Qu M.B.core.qb M.B.core.aB s.k.ls)) ON) λa w E I=>?_;replace hC:=hH.at w (I.ai (b:=b3));refine RH 0 E I hH hC λa E=>?_;refine CL 0 E I (aay I ON) λa w E I=>?_;refine RN 5 E I λa E=>?_;refine BY 3 E I (λmx a E=>?_) λmx a E=>?_
   ·
    refine IF 4 E I (λay a E=>?_) λay a E=>?_
    ·
     refine RT 2 E I ?_;exact⟨by rw[abH (i:=i) (by omega) (by rw[OM];exact abG C8 mx (λe=>ay (by rw[e])))],((aP.fold (hD _ _ I) M.B p s).sub)⟩
    refine RN 2 E I λa E=>?_;refine⟨z.2.2.length-(v+1),by omega,v+1,⟨rfl,by omega,λq hq h1=>?_⟩,E.ab [0,3,5,6,19,20,21,26,27,28],I.sub⟩;rcases (by omega:q<v∨q=v) with h | rfl
    ·exact Ie q h h1
    ·exact UInt8.toNat.inj (by omega)
   refine RN 7 E I λa E=>?_;refine⟨z.2.2.length-(v+1),by omega,v+1,⟨rfl,by omega,λq hq h1=>?_⟩,E.ab [0,3,5,6,19,20,21,26,27,28],I.sub⟩;rcases (by omega:q<v∨q=v) with h | rfl
   ·exact Ie q h h1
   ·omega
  refine RN 2 E I λa E=>?_;refine⟨x.al.length-(i+1),by omega,i+1,⟨rfl,by omega,λj hj=>?_⟩,E.ab [0,3,5,19,20,21],I.sub⟩;rcases (by omega:j<i∨j=i) with h | rfl
  ·exact vR j h
  ·rw[OM];exact OC λq hq=>Ie q (by omega)
 refine bM 1 [5] [0,2,3,4,3001,1005,6,7] E I λa w E I hH hC=>?_;refine RH 8 E I hH hC λa E=>?_;refine RT 0 E I ?_;exact⟨by rw[hf,dr rfl,OD λj hj=>vR j (by omega)],((aP.fold (hD _ _ I) M.B p s).sub)⟩
theorem abV {P:List (List UInt8)}(I:U W w (aa M.mb 177 (dX p M nk base front)::Tree M.tq M.sq T::Z))(hx:xd W Z ad P)(tX:P.length≤65536) :
   Calls prog 305 #[pt M.mb,.slice ad P.length c] w λe w'=>∃ r:Bool,e=.returned (.bool r)∧(r=true→T.l≠[])∧U W w' (aa M.mb 177 (dX p M nk base front)::Tree M.tq M.sq T::Z):=by
 obtain⟨zs,hz,hx⟩:=hx;have jz:zs.length=P.length:=by rw[← hz,a8]
 have ly:=Tree.wt (I.tree M.tq);have OO:=ly.most;refine EN func305 ntmps305 rfl rfl λa E=>?_;refine aY 8 E I (BG (I.tree M.tq)) λuE rv a w E I=>?_;obtain⟨xs,h1,h2,I⟩:=ln.open I;have b7:xs.length=T.l.length:=by rw[← h1,a8]
 refine RN 2 E I λa E=>?_;refine aL (λμ a w=>∃ (i:Nat),(μ=T.l.length-i∧i≤T.l.length)∧Fr a 61 [(0,pt M.mb),(1,.slice ad P.length c),(14,.slice uE T.l.length rv),(15,.int .i64 T.l.length),(16,.int .i64 i)]∧U W w (Sl 238 5 uE T.l.length rv (rows db xs)::ah bY xs::Tree M.tq M.sq T::aa M.mb 177 (dX p M nk base front)::Z)) (T.l.length) (⟨0,⟨rfl,by omega⟩,E.ab [0,1,14,15,16],I.sub⟩) ?_;clear E I;rintro μ a w ⟨i,⟨ze,hi⟩,E,I⟩;refine IF 3 E I (λak a E=>?_) λak a E=>?_
 ·
  obtain⟨b',dK,rfl,da⟩:=I.bU uE (by omega);obtain⟨⟨x,eK,de⟩,dZ⟩:∃ y,xs[i]?=some y:=⟨_,aD (by omega)⟩;have gb:=oV da dZ;have jG:T.l[i]?=some x:=by rw[← h1,bd,dZ];rfl
  have kP:=ly.ok x (bI jG);have hxP:=kP.1.1;have abW:T.l≠[]:=λe=>by rw[e]at jG;cases jG
  refine RN 3 E I λa E=>?_;refine SS E (bT E oS rfl Ty.t238 (gb)) λa E=>?_;refine AL 0 E I λcJ a w E I=>?_;refine SA 0 E I λa w E I=>?_;refine RN 6 E I λa E=>?_;refine b6 (M:=λa w=>∃ q:Bool,(q=false→x.al.length≤P.length)∧Fr a 61 [(0,pt M.mb),(1,.slice ad P.length c),(6,pt cJ),(7,.int .i64 x.al.length),(14,.slice (some ⟨b',dK,none⟩) T.l.length rv),(15,.int .i64 T.l.length),(16,.int .i64 i),(38,.bool q)]∧U W w (aa cJ 238 (ck x eK de)::Sl 238 5 (some ⟨b',dK,none⟩) T.l.length rv (rows db xs)::ah bY xs::Tree M.tq M.sq T::aa M.mb 177 (dX p M nk base front)::Z)) ?_ ?_
  ·
   refine BY 5 E I (λdt a E=>?_) λdt a E=>?_
   ·
    refine RN 11 E I λa E=>?_;exact⟨_,(λh=>by first | omega | cases h),E.ab [0,1,6,7,14,15,16,38],I.sub⟩
   refine BY 5 E I (λvx a E=>?_) λvx a E=>?_
   ·
    refine RN 6 E I λa E=>?_;exact⟨_,(λh=>by first | omega | cases h),E.ab [0,1,6,7,14,15,16,38],I.sub⟩
   refine RN 6 E I λa E=>?_;exact⟨_,(λh=>by first | omega | cases h),E.ab [0,1,6,7,14,15,16,38],I.sub⟩
  clear E;(try clear I);rintro a w ⟨q,hq,E,I⟩;refine IF 0 E I (λao a E=>?_) λao a E=>?_
  ·
   refine RN 2 E I λa E=>?_;exact⟨T.l.length-(i+1),by omega,i+1,⟨rfl,by omega⟩,E.ab [0,1,14,15,16],I.sub⟩
  have p8:=hq ao;refine RN 6 E I λa E=>?_;refine aL (λμ a w=>∃ (v:Nat) (Cw:Bool),(μ=x.al.length-v∧v≤x.al.length)∧Fr a 61 [(0,pt M.mb),(1,.slice ad P.length c),(6,pt cJ),(7,.int .i64 x.al.length),(8,.bool Cw),(14,.slice (some ⟨b',dK,none⟩) T.l.length rv),(15,.int .i64 T.l.length),(16,.int .i64 i),(39,.int .i64 x.al.length),(40,.int .i64 v)]∧U W w (aa cJ 238 (ck x eK de)::Sl 238 5 (some ⟨b',dK,none⟩) T.l.length rv (rows db xs)::ah bY xs::Tree M.tq M.sq T::aa M.mb 177 (dX p M nk base front)::Z)) (x.al.length) (⟨0,true,⟨rfl,by omega⟩,E.ab [0,1,6,7,8,14,15,16,39,40],I⟩) ?_;clear E I;rintro μ a w ⟨v,Cw,⟨rfl,hv⟩,E,I⟩;refine IF 3 E I (λay a E=>?_) λay a E=>?_
  ·
   have C8:v<x.al.length:=by omega
   refine RN 4 E I λa E=>?_;obtain⟨rq,Ig,FY,f9⟩:=(ah.pY (I.drew.pick (ah bY xs)) dZ).1.2 (by omega);obtain⟨sQ,sE,m0,OP⟩:=f9 v x.al[v] (aD C8);obtain⟨dv,Ih,z,hK,kV,lS,Ic⟩:=(hx _ I.drew.sub).at (i:=v) (by omega);clear f9;refine rT 0 (λw'=>(Rd w' cJ 0 (ck x eK de)∧w'.cell? ⟨rq,Ig+v,none⟩=some (.slice sQ x.al[v].length sE)∧aX w' sQ x.al[v].length x.al[v])∧(w'.cell? ⟨dv,Ih+v,none⟩=some (aK z)∧aX w' z.1 z.2.2.length z.2.2)) [11,12] [0,1,2,4,8,9,10,3003,5,3006,3007,1011,1012,13,14,15] E I λa E=>?_;replace I:=I.drew;generalize w.drew=w at I m0 OP lS Ic ⊢;have hC:(Rd w cJ 0 (ck x eK de)∧w.cell? ⟨rq,Ig+v,none⟩=some (.slice sQ x.al[v].length sE)∧aX w sQ x.al[v].length x.al[v])∧(w.cell? ⟨dv,Ih+v,none⟩=some (aK z)∧aX w z.1 z.2.2.length z.2.2):=⟨⟨I.ai (b:=cJ),m0,OP⟩,lS,Ic⟩;have hH:=Hd.any (λw'=>(Rd w' cJ 0 (ck x eK de)∧w'.cell? ⟨rq,Ig+v,none⟩=some (.slice sQ x.al[v].length sE)∧aX w' sQ x.al[v].length x.al[v])∧(w'.cell? ⟨dv,Ih+v,none⟩=some (aK z)∧aX w' z.1 z.2.2.length z.2.2));refine RH 2 E I hH hC λa E=>?_;refine E.by (s:=44) (λmx E=>?_) (λmx E=>?_)
   ·
    refine RH 4 E I hH hC λa E=>?_;rw[hK]at E;refine RH 1 E I hH hC λa E=>?_;rw[← hK]at E;refine QH E (λw hc=>ae E (hc.1.1 2 _ rfl)) hC λa E=>?_;rw[FY]at E;refine RH 1 E I hH hC λa E=>?_;refine QH E (λw hc=>ae E (hc.1.2.1)) hC λa E=>?_;refine QH E (λw hc=>lQ E bj dF gB (hc.1.2.2)) hC λa E=>?_;refine RH 0 E I hH hC λa E=>?_;refine bA E (cv E rfl (s:=44)) (ae E (hC.2.1)) rfl λa E=>?_;rw[aK]at E;refine RH 0 E I hH hC λa E=>?_;refine bA E (cv E rfl (s:=44)) (lQ E bj dF gB (hC.2.2)) rfl λa E=>?_;refine RH 0 E I hH hC λa E=>?_;refine QP E (λw=>td E) λa E=>?_;refine RH 2 E I hH hC λa E=>?_;refine RN 2 E I λa E=>?_;exact⟨x.al.length-(v+1),by omega,v+1,_,⟨rfl,by omega⟩,E.ab [0,1,6,7,8,14,15,16,39,40],I.sub⟩
   refine RH 14 E I hH hC λa E=>?_;refine RN 2 E I λa E=>?_;exact⟨x.al.length-(v+1),by omega,v+1,_,⟨rfl,by omega⟩,E.ab [0,1,6,7,8,14,15,16,39,40],I.sub⟩
  refine IF 2 E I (λbl a E=>?_) λbl a E=>?_
  ·
   refine RT 2 E I ?_;exact⟨_,rfl,λ_=>abW,I.sub⟩
  refine RN 2 E I λa E=>?_;exact⟨T.l.length-(i+1),by omega,i+1,⟨rfl,by omega⟩,E.ab [0,1,14,15,16],I.sub⟩
 refine RT 2 E I ?_;exact⟨_,rfl,(λh=>by cases h),I.sub⟩
end
end
section
def vS (k:Ks)(T:Tr):Prop:=∀ y∈T.l,(∀ j∈y.al,j.length=k.n)∧jO k.ls (aw k) y.al=true
def qw (T:Tr)(J:Js)(i:Nat):Js:=(T.l.take i).foldl (λJ y=>if y.done<y.al.length then mo J y.id T.epoch else J) J
def Af (T:Tr)(J:Js):Js:=qw T (kept (λj=>decide (j.2<T.epoch)) J) T.l.length
theorem abX {T:Tr}{J:Js}{i:Nat}{x:Br}(h:T.l[i]?=some x):qw T J (i+1)=if x.done<x.al.length then mo (qw T J i) x.id T.epoch else qw T J i:=by
 obtain⟨hi,rfl⟩:=a2.1 h;rw[qw,jD hi,foldl_append];rfl
theorem OQ {T:Tr}{J:Js}(h:J.length≤16)(i:Nat):(qw T J i).length≤16:=by
 unfold qw;generalize T.l.take i=l
 induction l generalizing J with
 | nil=>exact h
 | cons y l ih =>
  rw[foldl_cons];apply ih;split
  ·exact BQ h
  ·exact h
theorem OR {J:Js}(f:Int×Int→Bool)(h:J.length≤16):(kept f J).length≤16:=eS (p0 _ _) h
theorem abY {ls X:List (List UInt8)}{fr to:Nat}(h:z6 to ls X):(∀ j∈nQ X fr to,j.length=ls.length)∧jO ls fr (nQ X fr to)=true:=by
 refine⟨λj hj=>?_,OD λi hi=>OC λq hq h1=>?_⟩
 ·rw[nQ,cX]at hj;obtain⟨i,_,rfl⟩:=hj;rw[nL,h.len]
 ·rw[CT]at hi;have he:(nQ X fr to).getD i []=bK X (fr+i):=by
   rw[nQ,br,bd,getElem?_range hi];rfl
  rw[he,nL]at hq;rw[he];obtain⟨l,hl⟩:∃ l,ls[q]?=some l:=⟨_,aD (by rw[← h.len];exact hq)⟩;obtain⟨x,hx⟩:∃ x,X[q]?=some x:=⟨_,aD hq⟩;obtain⟨⟨t,rfl⟩,_⟩:=h.fit q l x hl hx;have e1:ls.getD q []=l:=by rw[br,hl];rfl
  rw[e1]at h1 ⊢;rw[bK,br,br,bd,hx];show _=((l++t).getD (fr+i) 0);rw[br,mM h1]
structure sR (p:Pr)(s:Pl)(t:Nat→Nat)(base:Nat)(A0:Sn)(T0:Tr)(r:Nat)(ws:List Wk)(A:Sn)(T:Tr):Prop where
 inv:Inv p (aw s.k:Int) s.g t base A T ws
 gn:vS s.k T
 room:A.room=A0.room
 n:A.n≤A0.n+r
 last:T.last≤T0.last+r
 most:T.most=T0.most
 s9:T.epoch=T0.epoch
 add:∃ l,T.l=T0.l++l∧∀ y∈l,y.done=0∧y.al≠[]∧y.al.length=aH s.k-aw s.k
 has:0<r→aw s.k<aH s.k→T.l≠[]
section
variable {p:Pr}{s:Pl}{t:Nat→Nat}{base r i:Nat}{A0 A:Sn}{T0 T:Tr}{ws:List Wk}{P:List (List UInt8)}{px:aC}
theorem sR.skip (h:sR p s t base A0 T0 r ws A T)(hT:aw s.k<aH s.k→T.l≠[]):sR p s t base A0 T0 (r+1) ws A T :=
 ⟨h.inv,h.gn,h.room,Nat.le_succ_of_le h.n,Nat.le_succ_of_le h.last,h.most,h.s9,h.add,λ_=>hT⟩
theorem sR.push (h:sR p s t base A0 T0 r ws A T)(hA:WF A)(hT:WT T)(hi:A.ar[i]?=some px)(hb:px.id=base)(h0:P≠[])(tX:P.length=aH s.k-aw s.k)(hj:∀ j∈P,j.length=s.k.n)(hk:jO s.k.ls (aw s.k) P=true) :
   sR p s t base A0 T0 (r+1) ws (A.add px.g px.p) (T.add (aw s.k:Int) P (A.last+1)):=by
 refine⟨h.inv.XT hA hT hi hb,λy hy=>?_,h.room,?_,?_,h.most,h.s9,?_,λ_ _ e=>?_⟩
 ·rcases e7.1 hy with hy | hy
  ·exact h.gn y hy
  ·rw[iP.1 hy];exact⟨hj,hk⟩
 ·have:=h.n;simp only[Sn.add];omega
 ·have:=h.last;simp only[Tr.add];omega
 ·obtain⟨l,h1,h2⟩:=h.add;refine⟨l++[⟨T.last+1,(aw s.k:Int),P,0,A.last+1⟩],by simp only[Tr.add];rw[h1,dz],λy hy=>?_⟩;rcases e7.1 hy with hy | hy
  ·exact h2 y hy
  ·rw[iP.1 hy];exact⟨rfl,h0,tX⟩
 ·simp[Tr.add]at e
end
section
variable {W w:World}{L Z:List SP}{n i tq sq r base front:Nat}{M:jN}{B:jw}{y:UInt8}{x:Br}{p:Pr}{s:Pl}{m:Mu}{A:Sn}{T:Tr}{g0:Nat→Int}{t:Nat→Nat}{px:aC}
theorem abZ {frm:Int}{ad2:Option Addr}{c2 id:Nat}{zs:List ee}{P:List (List UInt8)}(I:U W w (Tree tq sq T::ax sq r A::L))(hr:∀ w',U W w' L→iQ w' ad2 zs)(hz:zs.map (·.2.2)=P)(hc:P.length≤c2)(ds:oa P)(h0:P≠[])
   (hx:A.ar[i]?=some px) (b9:px.id=id) (hb:A.n+1<1099511627776) (hl:T.last+1<1099511627776) :
   Calls prog 306 #[pt tq,.int .i64 frm,.int .i64 id,.slice ad2 P.length c2] w λe w'=>∃ (z:Nat) (ok:Bool),e=.returned (.tuple #[.int .i64 z,.bool ok]) ∧
    (((T.most=0∨T.l≠[])∧U W w' (Tree tq sq T::ax sq r A::L))∨U W w' (Tree tq sq (T.add frm P (A.last+1))::ax sq r (A.add px.g px.p)::L)):=by
 by_cases hm:T.l.length<T.most
 ·refine (Zh I hr hz hc ds hx b9 hb hl hm).mono λe w' ⟨z,ok,h1,h2⟩=>⟨z,ok,h1,?_⟩;rcases h2 with ⟨_,h3,h4⟩ | ⟨_,_,_,_,h4⟩
  ·refine .inl ⟨.inr λe=>?_,h4⟩;rcases h3 with h3 | ⟨y,hy,_⟩
   ·exact h0 h3
   ·rw[e]at hy;cases hy
  ·exact .inr h4
 ·refine (Lf I (.inl (by omega))).mono λe w' ⟨h1,I⟩=>⟨0,false,h1,.inl ⟨?_,I⟩⟩;rcases k8 T.most with h | h
  ·exact .inl h
  ·exact .inr λe=>by rw[e]at hm;simp at hm;omega
theorem ab0 (I:U W w (aE W M p m::L))(hw:cy p m.s)(hI:Inv p (aw m.s.k:Int) m.s.g t m.base m.A m.T (m.ks.map (·.1)))(fe:m.front=aw m.s.k)(fH:c0 M.B.gs)(hB:vS m.s.k m.T)(kU:m.J.length≤16)
   (qs:m.s.k.cx=(m.T.most:Int)) (hn:m.A.n+10<1099511627776) (hl:m.T.last+10<1099511627776) :
   Calls prog 289 #[pt M.mb] w λe w'=>∃ (A':Sn) (T':Tr),e=.returned (.tuple #[])∧sR p m.s t m.base m.A m.T m.T.most (m.ks.map (·.1)) A' T'∧U W w' (aE W M p { m with A:=A',T:=T',J:=Af T' m.J }::L):=by
 have bq:=hw.wc.lE;have fc:=hw.wc.ls;have x8:=hw.wc.n;have iX:m.s.k.ls.length≤8:=by rw[fc];exact x8.2
 have g4:=hw.wc.l5;have j1:aU m.s.k.ls≤aH m.s.k:=hw.wc.nO;obtain⟨mb,B,sq,r,tq,jq,dy,dG,aq,cO⟩:=M;obtain⟨s,A,T,J,ks,base,front⟩:=m;simp only at hw hI fe fH hB kU qs hn hl bq fc x8 iX g4 j1;subst fe;have OO:=(Tree.wt ((aE.open I).tree tq)).most.1;replace I:=aE.open I;dsimp only at I OO;refine EN func289 ntmps289 rfl rfl λa E=>?_;refine CL 6 E I (ov (I.pick (aP W B p s))) λa w E I=>?_;replace I:=aP.open I;refine CL 0 E I (Nz (I.pick (az B.core s.k))) λa w E I=>?_;refine RN 0 E I λa E=>?_;refine SS E (Kn E rU rfl fk rfl rfl) λa E=>?_;rw[show (fq s.k).cx=(T.most:Int) from qs]at E;refine RN 1 E I λa E=>?_;replace I:=aP.fold I B p s;refine aL (λμ a w=>∃ (i:Nat) (A1:Sn) (T1:Tr),(μ=T.most-i∧i≤T.most∧sR p s t base A T i (ks.map (·.1)) A1 T1)∧Fr a 98 [(0,pt mb),(12,.int .i64 T.most),(13,.int .i64 i)]∧U W w (aa mb 177 (dX p ⟨mb,B,sq,r,tq,jq,dy,dG,aq,cO⟩ ks.length base (aw s.k))::aP W B p s::aA W p aq cO::Sl 179 1 dy ks.length dG (g3 ks)::ah (fb p aq cO tq jq sq) ks::Tree tq sq T1::ax sq r A1::bJ jq J::L)) (T.most) (⟨0,A,T,⟨rfl,by omega,⟨hI,hB,rfl,a7 _,a7 _,rfl,rfl,⟨[],by simp,λy hy=>by cases hy⟩,λh=>absurd h (by omega)⟩⟩,E.ab [0,12,13],I.sub⟩) ?_;clear E I;rintro μ a w ⟨i,A1,T1,⟨rfl,hi,qx⟩,E,I⟩;refine IF 3 E I (λak a E=>?_) λak a E=>?_
 ·
  have hiT:i<T.most:=by omega
  have hAn:=qx.n;have H7:=qx.last;have C1:=(ax.facts (I.store sq)).1;have sP:=Tree.wt (I.tree tq);obtain⟨ab1,px,ig,lx⟩:=qx.inv.mS (iq ..);refine aV 5 (λw0 w'=>Rd w' mb 0 (dX p ⟨mb,B,sq,r,tq,jq,dy,dG,aq,cO⟩ ks.length base (aw s.k))) [4,5,9,10,15] [0,1,2,6,7,8,11,12,13,14,3003,3009,3015,1004,1005,1010,1016,1017,1018,19] E I λa w E I hH=>?_;have hC:=hH.at w (I.ai (b:=mb));refine RH 10 E I hH hC λa E=>?_;refine QH E (λw hc=>ae E (hc 0 _ rfl)) hC λa E=>?_;refine QH E (λw hc=>ae E (hc 0 _ rfl)) hC λa E=>?_;refine QH E (λw hc=>ae E (hc 0 _ rfl)) hC λa E=>?_;refine RH 0 E I hH hC λa E=>?_;refine CL 0 E I (ov (I.pick (aP W B p s))) λa w E I=>?_;replace hC:=hH.at w (I.ai (b:=mb));replace I:=aP.open I;refine RH 0 E I hH hC λa E=>?_;refine CL 0 E I (pv (I.pick (az B.core s.k))) λa w E I=>?_;replace hC:=hH.at w (I.ai (b:=mb));replace I:=aP.fold I B p s;refine RH 0 E I hH hC λa E=>?_;refine CL 0 E I (OA (I.pick (aP W B p s))) λa w E I=>?_;replace hC:=hH.at w (I.ai (b:=mb));refine RH 0 E I hH hC λa E=>?_;refine CL 0 E I (ov (I.pick (aP W B p s))) λa w E I=>?_;replace I:=aP.open I;refine CL 0 E I (um (I.pick (az B.core s.k)) hw.wc) λa w E I=>?_;obtain⟨D,I,hD⟩:=az.qu I;refine j9 0 E I (H2 (r:=i) (to:=aH s.k) (.inr abC) (by omega) I fH bq iX hw.wc.nN g4 (λw' dj=>(dj.pick (Sl 5 1 B.adT B.gs.table.length B.cT (bc B.gs.table))).cw B.adT _ rfl rfl)) λgg gq X a w E ⟨⟨uy,_⟩,I⟩=>?_;replace I:U W w (Qu B.core.qb B.core.aB s.k.ls::D::cj gg (aH s.k-aU s.k.ls) gq (nQ X (aU s.k.ls) (aH s.k))::_):=I.sub (M:=Qu B.core.qb B.core.aB s.k.ls::D::cj gg (aH s.k-aU s.k.ls) gq (nQ X (aU s.k.ls) (aH s.k))::aa B.pb 192 (gJ p B s.g)::aA W p B.aq B.cO::Sl 5 1 B.adT B.gs.table.length B.cT (bc B.gs.table)::aa mb 177 (dX p ⟨mb,B,sq,r,tq,jq,dy,dG,aq,cO⟩ ks.length base (aw s.k))::aA W p aq cO::Sl 179 1 dy ks.length dG (g3 ks)::ah (fb p aq cO tq jq sq) ks::Tree tq sq T1::ax sq r A1::bJ jq J::L);replace I:=aP.fold (hD _ _ I) B p s;have tX:=CT X (aU s.k.ls) (aH s.k);obtain⟨Ii,OS⟩:=abY (fr:=aU s.k.ls) uy;generalize hPe:nQ X (aU s.k.ls) (aH s.k)=P at I tX Ii OS;rw[← tX]at E I;obtain⟨zs,cW,eU,I⟩:=cj.open (I.pick (cj gg P.length gq P));have Da:=(I.sl gg).2;replace I:=I.sub (M:=aa mb 177 (dX p ⟨mb,B,sq,r,tq,jq,dy,dG,aq,cO⟩ ks.length base (aw s.k))::Tree tq sq T1::Sl 22 1 gg P.length gq (zs.map aK)::ah ba zs::aP W B p s::aA W p aq cO::Sl 179 1 dy ks.length dG (g3 ks)::ah (fb p aq cO tq jq sq) ks::ax sq r A1::bJ jq J::L);refine RN 1 E I λa E=>?_;refine BY 6 E I (λbW a E=>?_) λbW a E=>?_
  ·
   have kW:¬ aw s.k<aH s.k:=by rw[aw];omega
   refine RN 7 E I λa E=>?_;exact⟨T.most-(i+1),by omega,i+1,A1,T1,⟨rfl,by omega,qx.skip λh=>absurd h kW⟩,E.ab [0,12,13],I.sub⟩
  have OT:P≠[]:=λe=>by rw[e]at bW;exact bW rfl
  refine bg 2 E I (abV (M:=⟨mb,B,sq,r,tq,jq,dy,dG,aq,cO⟩) (T:=T1) (P:=P) I ⟨zs,cW,λw' h=>U.mQ (h.sub (M:=Sl 22 1 gg P.length gq (zs.map aK)::ah ba zs::[]))⟩ (by omega)) λq a w E ⟨hq,I⟩=>?_;refine IF 1 E I (λao a E=>?_) λao a E=>?_
  ·
   refine RN 2 E I λa E=>?_;exact⟨T.most-(i+1),by omega,i+1,A1,T1,⟨rfl,by omega,qx.skip λ_=>hq ao⟩,E.ab [0,12,13],I.sub⟩
  refine bM 0 [7,11] [0,1,2,4,5,6,8,9,10,12,3003,3007,1011,1013] E I λa w E I hH hC=>?_;refine RH 13 E I hH hC λa E=>?_;refine aY 0 E I (abZ (i:=ab1) (px:=px) (id:=base) (P:=P) (zs:=zs) ((I.store sq).tree tq) (λw' h=>U.mQ (h.sub (M:=Sl 22 1 gg P.length gq (zs.map aK)::ah ba zs::[]))) cW Da ⟨by omega,λb hb=>by have:=Ii b hb;omega⟩ OT ig lx (by omega) (by omega)) λz ok a w E ab2=>?_;obtain⟨A2,T2,ab3,I⟩:∃ (A2:Sn) (T2:Tr),sR p s t base A T (i+1) (ks.map (·.1)) A2 T2∧U W w (aa mb 177 (dX p ⟨mb,B,sq,r,tq,jq,dy,dG,aq,cO⟩ ks.length base (aw s.k))::aP W B p s::aA W p aq cO::Sl 179 1 dy ks.length dG (g3 ks)::ah (fb p aq cO tq jq sq) ks::Tree tq sq T2::ax sq r A2::bJ jq J::L):=by
   rcases ab2 with ⟨uF,I⟩ | I
   ·exact⟨A1,T1,qx.skip λ_=>uF.resolve_left (by rw[qx.most];omega),I.sub⟩
   ·exact⟨_,_,qx.push C1 sP ig lx OT tX (λj hj=>by rw[Ii j hj,fc]) OS,I.sub⟩
  refine RN 2 E I λa E=>?_;exact⟨T.most-(i+1),by omega,i+1,A2,T2,⟨rfl,by omega,ab3⟩,E.ab [0,12,13],I.sub⟩
 refine aV 1 (λw0 w'=>Rd w' mb 0 (dX p ⟨mb,B,sq,r,tq,jq,dy,dG,aq,cO⟩ ks.length base (aw s.k))) [7,8] [0,1,2,4,5,6,3003,1007,1008,1009] E I λa w E I hH=>?_;have hC:=hH.at w (I.ai (b:=mb));refine RH 6 E I hH hC λa E=>?_;refine QH E (λw hc=>ae E (hc 5 _ rfl)) hC λa E=>?_;refine RH 0 E I hH hC λa E=>?_;refine SS E (ae E (hC 4 _ rfl)) λa E=>?_;refine RH 0 E I hH hC λa E=>?_;refine CL 0 E I (BF (I.tree tq)) λa w E I=>?_;replace hC:=hH.at w (I.ai (b:=mb));refine RH 0 E I hH hC λa E=>?_;refine CL 0 E I (XJ (I.vk jq) kU) λa w E I=>?_;change U W w (bJ jq (qw T1 (kept (λj=>decide (j.2<(T1.epoch:Int))) J) 0)::_) at I;refine aY 5 E I (BG (I.tree tq)) λuE rv a w E I=>?_;obtain⟨xs,h1,h2,I⟩:=ln.open I;have b7:xs.length=T1.l.length:=by rw[← h1,a8]
 have sP:=Tree.wt (I.tree tq);have hT8:=sP.most;obtain rfl:i=T.most:=by omega
 have hJ0:=OR (λj=>decide (j.2<(T1.epoch:Int))) kU;refine RN 2 E I λa E=>?_;refine aL (λμ a w=>∃ (v:Nat),(μ=T1.l.length-v∧v≤T1.l.length)∧Fr a 98 [(0,pt mb),(72,.slice uE T1.l.length rv),(73,.int .i64 T1.l.length),(74,.int .i64 v)]∧U W w (bJ jq (qw T1 (kept (λj=>decide (j.2<(T1.epoch:Int))) J) v)::Sl 238 5 uE T1.l.length rv (rows db xs)::ah bY xs::aa mb 177 (dX p ⟨mb,B,sq,r,tq,jq,dy,dG,aq,cO⟩ ks.length base (aw s.k))::aP W B p s::aA W p aq cO::Sl 179 1 dy ks.length dG (g3 ks)::ah (fb p aq cO tq jq sq) ks::Tree tq sq T1::ax sq r A1::L)) (T1.l.length) (⟨0,⟨rfl,by omega⟩,E.ab [0,72,73,74],I.sub⟩) ?_;clear E I;rintro μ a w ⟨v,⟨ze,hv⟩,E,I⟩;refine IF 3 E I (λay a E=>?_) λay a E=>?_
 ·
  obtain⟨b',dK,rfl,da⟩:=I.bU uE (by omega);obtain⟨⟨x,eK,de⟩,dZ⟩:∃ y,xs[v]?=some y:=⟨_,aD (by omega)⟩;have gb:=oV da dZ;have jG:T1.l[v]?=some x:=by rw[← h1,bd,dZ];rfl
  have tV:=abX (J:=kept (λj=>decide (j.2<(T1.epoch:Int))) J) jG;have hj6:=OQ hJ0 (T:=T1) v;refine RN 3 E I λa E=>?_;refine SS E (bT E oS rfl Ty.t238 (gb)) λa E=>?_;refine AL 0 E I λb5 a w E I=>?_;refine SA 0 E I λa w E I=>?_;refine IF 7 E I (λbl a E=>?_) λbl a E=>?_
  ·
   rw[aj (by omega)]at tV;refine aV 0 (λw0 w'=>Rd w' mb 0 (dX p ⟨mb,B,sq,r,tq,jq,dy,dG,aq,cO⟩ ks.length base (aw s.k))∧Rd w' b5 0 (ck x eK de)) [5,9,10,11] [0,1,2,4,6,7,8,3003,3005,1009,1010,1011,1012] E I λa w E I hH=>?_;have hC:=hH.at w ⟨I.ai (b:=mb),I.ai (b:=b5)⟩;refine RH 7 E I hH hC λa E=>?_;refine QH E (λw hc=>ae E (hc.1 5 _ rfl)) hC λa E=>?_;refine QH E (λw hc=>ae E (hc.2 0 _ rfl)) hC λa E=>?_;refine RH 0 E I hH hC λa E=>?_;refine SS E (ae E (hC.1 4 _ rfl)) λa E=>?_;refine RH 0 E I hH hC λa E=>?_;refine CL 0 E I (BF (I.tree tq)) λa w E I=>?_;replace hC:=hH.at w ⟨I.ai (b:=mb),I.ai (b:=b5)⟩;refine RH 1 E I hH hC λa E=>?_;refine CL 0 E I (BL (I.vk jq) hj6) λa w E I=>?_;change U W w (bJ jq (mo (qw T1 (kept (λj=>decide (j.2<(T1.epoch:Int))) J) v) x.id T1.epoch)::_) at I;refine RN 2 E I λa E=>?_;exact⟨T1.l.length-(v+1),by omega,v+1,⟨rfl,by omega⟩,E.ab [0,72,73,74],by rw[tV];exact I.sub⟩
  rw[ag (by omega)]at tV;refine RN 2 E I λa E=>?_;exact⟨T1.l.length-(v+1),by omega,v+1,⟨rfl,by omega⟩,E.ab [0,72,73,74],by rw[tV];exact I.sub⟩
 refine RT 0 E I ?_;obtain rfl:v=T1.l.length:=by omega
 rw[show qw T1 (kept (λj=>decide (j.2<(T1.epoch:Int))) J) T1.l.length=Af T1 J from rfl]at I;exact⟨A1,T1,rfl,qx,(aE.fold I ⟨mb,B,sq,r,tq,jq,dy,dG,aq,cO⟩ p ⟨s,A1,T1,Af T1 J,ks,base,aw s.k⟩).sub⟩
structure Ij (p:Pr)(m m':Mu)(t':Nat→Nat):Prop where
 inv:Inv p (aw m.s.k:Int) m.s.g t' m'.base m'.A m'.T (m'.ks.map (·.1))
 s:m'.s=m.s
 front:m'.front=aw m.s.k
 gn:vS m.s.k m'.T
 J:m'.J.length≤16
 room:m'.A.room=m.A.room
 n:m'.A.n≤m.A.n+9
 last:m'.T.last≤m.T.last+8
 most:m'.T.most=m.T.most
 s9:m'.T.epoch≤m.T.epoch+3
 ks:m'.ks.length=m.ks.length
 has:0<m.T.most→aw m.s.k<aH m.s.k→m'.T.l≠[]
 vk:m'.J=Af m'.T m.J
 ab:m.front=aw m.s.k→(∀ y∈m.T.l,jO m.s.k.ls (aw m.s.k) y.al=true)→m'.ks=m.ks∧m'.T.epoch=m.T.epoch∧∃ l,m'.T.l=m.T.l++l∧∀ y∈l,y.done=0∧y.al≠[]∧y.al.length=aH m.s.k-aw m.s.k
theorem ab4 (I:U W w (aE W M p m::L))(cr:m.s.k.cl=true) :
   Calls prog 271 #[pt M.mb] w λe w'=>e=.returned (.tuple #[])∧U W w' (aE W M p m::L):=by
 refine EN func271 ntmps271 rfl rfl λa E=>?_;refine RN 5 E I λa E=>?_;replace E:=E.aQ 4;refine CL 1 E I (Ad I) λa w E I=>?_;rw[cr]at E;refine RN 1 E I λa E=>?_;replace E:=E.ek 7;refine RT 1 E I ?_;exact⟨rfl,I⟩
theorem ab5 (I:U W w (aE W M p m::L))(hw:cy p m.s)(hg:dT m.s.g)(cr:m.s.k.cl=false)(hI:Inv p (m.front:Int) g0 t m.base m.A m.T (m.ks.map (·.1)))(fe:m.front=aw m.s.k→g0=m.s.g)
   (fH:c0 M.B.gs) (dO:∀ y∈m.T.l,∀ j∈y.al,j.length=m.s.k.n) (kU:m.J.length≤16) (qs:m.s.k.cx=(m.T.most:Int))
   (he:m.T.epoch+10<1099511627776) (hn:m.A.n+20<1099511627776) (hl:m.T.last+20<1099511627776) (h4:m.ks.length≤4) (ma:12≤m.A.room) :
   Calls prog 271 #[pt M.mb] w λe w'=>∃ (m':Mu) (t':Nat→Nat),e=.returned (.tuple #[])∧Ij p m m' t'∧U W w' (aE W M p m'::L):=by
 have g4:=hw.wc.l5;have j1:=hw.wc.nO;refine EN func271 ntmps271 rfl rfl λa E=>?_;refine RN 5 E I λa E=>?_;replace E:=E.aQ 4;refine CL 1 E I (Ad I) λa w E I=>?_;rw[cr]at E;refine RN 1 E I λa E=>?_;replace E:=E.aQ 7;refine aY 3 E I (abM I hw hg hI fe (by omega) (by omega) h4 ma) λOU t1 a w E ⟨hM,I⟩=>?_;refine RN 0 E I λa E=>?_;obtain⟨s1,A1,T1,agY,lG,OV,agZ⟩:=OU;obtain⟨x6,e1,e2,e3,fl,nK,ll,gz,fN,hL,OW,kX⟩:=hM;simp only at x6 e1 e2 e3 fl nK ll gz fN hL OW kX;subst e1 e2 e3;have OX:∀ y∈T1.l,∀ j∈y.al,j.length=m.s.k.n:=by
  rcases OW with ⟨e,_⟩ | e
  ·rw[e];exact dO
  ·rw[e];intro y hy;cases hy
 have ly:=Tree.wt ((aE.open I).tree M.tq);have OY:=(ax.facts ((aE.open I).store M.sq)).1;dsimp only at ly OY;replace I:=aE.open I;dsimp only at I;refine ka 7 E I (OE (kp:=λx=>jO m.s.k.ls (aw m.s.k) x.al) (ws:=[pt M.mb]) ((I.store M.sq).tree M.tq) (by omega) (by kernel_rfl) (λN w' x av c' CZ h1 hN hx _ ds=>by
  have qc:=hN.h;obtain⟨K,hp⟩:=qc;have ix:=hp.trans List.perm_append_comm;have hof:=ds.1;have z7:=(x6.gn x CZ).1;refine (abU (M:=M) (Z:=aA W p M.aq M.cO::Sl 179 1 M.dy lG.length M.dG (g3 lG)::ah (fb p M.aq M.cO M.tq M.jq M.sq) lG::bJ M.jq m.J::(L++K)) (h1.perm ix) hw (hx.imp λzs h=>⟨h.1,λob h2=>h.2 _ (h2.perm ix.symm)⟩) z7 (OX x CZ) (by omega)).mono λe ob ⟨h3,h4⟩=>⟨h3,h4.perm ix.symm⟩)) ?_
 clear E I;rintro e w ⟨⟨_,rfl⟩,I⟩;refine⟨_,rfl,λa E=>?_⟩;have py:=x6.cut OY (λx=>!jO m.s.k.ls (aw m.s.k) x.al);have uC:=CY (T1.l.filter λx=>!jO m.s.k.ls (aw m.s.k) x.al) A1;have OZ:vS m.s.k (T1.cut λx=>!jO m.s.k.ls (aw m.s.k) x.al):=λy hy=>by
  obtain⟨h1,h2⟩:=List.mem_filter.1 hy;exact⟨OX y h1,by simpa using h2⟩
 have H8:(T1.cut λx=>!jO m.s.k.ls (aw m.s.k) x.al).epoch≤T1.epoch+1:=by simp only[Tr.cut];split <;> omega
 have kT:(∀ y∈T1.l,jO m.s.k.ls (aw m.s.k) y.al=true)→(T1.cut λx=>!jO m.s.k.ls (aw m.s.k) x.al).l=T1.l∧(T1.cut λx=>!jO m.s.k.ls (aw m.s.k) x.al).epoch=T1.epoch:=λh=>by
  have h1:T1.l.filter (λx=>!!jO m.s.k.ls (aw m.s.k) x.al)=T1.l:=List.filter_eq_self.2 λy hy=>by rw[h y hy];rfl
  simp only[Tr.cut,h1];exact⟨trivial,by rw[ag (Db _)];rfl⟩
 have C3:(T1.cut λx=>!jO m.s.k.ls (aw m.s.k) x.al).most=T1.most∧(T1.cut λx=>!jO m.s.k.ls (aw m.s.k) x.al).last=T1.last:=⟨rfl,rfl⟩;generalize (T1.cut λx=>!jO m.s.k.ls (aw m.s.k) x.al)=T2 at I py OZ H8 C3 kT;generalize A1.g2 (T1.l.filter λx=>!jO m.s.k.ls (aw m.s.k) x.al)=A2 at I py uC;replace I:=aE.fold I M p ⟨m.s,A2,T2,m.J,lG,OV,aw m.s.k⟩;refine aY 1 E I (ab0 I hw py rfl fH OZ kU (by dsimp only;rw[C3.1,gz];exact qs) (by dsimp only;omega) (by dsimp only;omega)) λA3 T3 a w E ⟨qx,I⟩=>?_;refine RT 0 E I ?_;obtain⟨cV,cc,a3,a4,a5,O0,O1,sQ,a9⟩:=qx;have h8:=ly.most.1;dsimp only at *;exact⟨⟨m.s,A3,T3,Af T3 m.J,lG,OV,aw m.s.k⟩,t1,rfl,⟨cV,rfl,rfl,cc,OQ (OR _ kU) _,by simp only;omega,by simp only;omega,by simp only;omega,by simp only;omega,by simp only;omega,hL,λh1 h2=>a9 (by omega) h2,rfl,λe h=>by
  obtain⟨q1,q2,Ck⟩:=kX e;obtain⟨Cl,GJ⟩:=kT (by rw[q1];exact h);obtain⟨l,ab6,ab7⟩:=sQ;refine⟨Ck,by rw[O1,GJ,q1],l,by rw[ab6,Cl,q1],ab7⟩⟩,I⟩
end
end
section
structure mc (p:Pr)(s s':Pl):Prop where
 wf:cy p s'
 sJ:aw s'.k=aw s.k→s'.g=s.g
 cf:fq s'.k=fq s.k
 ls:s'.k.cl=true→s'.k.ls=s.k.ls
section
variable {p:Pr}{s:Pl}{k:Ks}{x:UInt8}{bs:List UInt8}
theorem mc.mk' {k':Ks}(h:cy p s)(hw:WC k')(hh:held k')(hm:k'.mr=s.k.mr)(he:Ext s.k.ls k'.ls)(df:fq k'=fq s.k)(hl:k'.cl=true→k'.ls=s.k.ls):mc p s (eD p ⟨k',s.g⟩):=by
 have h1:=h.toWP.more hw hh hm he;obtain⟨h2,h3,ps,ev,mr,h4⟩:=h1.eD;refine⟨h2,λhf=>?_,?_,λhc=>?_⟩
 ·have e1:(eD p ⟨k',s.g⟩).g=l6 p k'.ls (aw s.k):=by rw[h2.sJ,h2.full,hf,h3]
  have e2:s.g=l6 p s.k.ls (aw s.k):=by have:=h.sJ;rwa [h.full]at this
  exact e1.trans ((he.l6 (a7 _)).trans e2.symm)
 ·rw[h4];exact df
 ·rw[h3];rw[h4]at hc;exact hl hc
theorem O2:fq (c5 x k).2=fq k∧((c5 x k).2.cl=true→(c5 x k).2.ls=k.ls):=by
 by_cases h0:(c5 x k).1=0
 ·obtain⟨h1,h2,h3,h4⟩:=vG h0;rw[h4];exact⟨rfl,λhc=>by rw[show k.cl=true from hc]at h1;cases h1⟩
 ·rw[vH h0];exact⟨rfl,λ_=>rfl⟩
theorem ab8 {q:Pk}(h:k.cl=false):fq (gf k q)=fq k∧((gf k q).cl=true→(gf k q).ls=k.ls):=by
 unfold gf;split
 ·exact⟨rfl,λ_=>rfl⟩
 ·obtain⟨ps,ev,h1,_⟩:=xM { k with ls:=k.ls.set q.aW.toNat (dw (k.ls.getD q.aW.toNat []) q.first.toNat q.al),ps:=k.ps.set q.aW.toNat (gd k.now (aH k) q (au k q.aW.toNat)) };rw[h1];exact⟨rfl,λhc=>by rw[show k.cl=true from hc]at h;cases h⟩
theorem O3:fq (dD bs k).2=fq k∧((dD bs k).2.cl=true→(dD bs k).2.ls=k.ls):=by
 by_cases h0:(dD bs k).1=0
 ·obtain⟨q,h1,h2,h3,h4,h5,h6⟩:=CG h0;rw[h6];exact ab8 h2
 ·rw[xO h0];exact⟨rfl,λ_=>rfl⟩
theorem mc.al (h:cy p s)(x:UInt8):mc p s (dM p x s).2:=mc.mk' h (h.wc.al x) (h.held.al x) (vI x s.k).1 (vI x s.k).2 O2.1 O2.2
theorem mc.recv (h:cy p s)(bs:List UInt8):mc p s (dN p bs s).2:=mc.mk' h (h.wc.recv bs).1 ((h.wc.recv bs).2 h.held) (sK bs s.k).1 (sK bs s.k).2 O3.1 O3.2
end
structure MI (p:Pr)(M:jN)(N:Nat)(m:Mu):Prop where
 wf:cy p m.s
 gs:c0 M.B.gs
 front:m.front=aw m.s.k
 inv:∃ t,Inv p (aw m.s.k:Int) m.s.g t m.base m.A m.T (m.ks.map (·.1))
 gn:vS m.s.k m.T
 J:m.J.length≤16
 most:m.s.k.cx=(m.T.most:Int)
 workers:m.s.k.workers=(m.ks.length:Int)
 ks:m.ks.length≤4
 room:(m.A.room:Int)=4*m.s.k.room∧12≤m.A.room
 n:m.A.n≤N∧m.T.last≤N∧m.T.epoch≤N
section
variable {W w:World}{L:List SP}{n c N front:Nat}{ad:Option Addr}{M:jN}{B:jw}{x:UInt8}{p:Pr}{s s':Pl}{m:Mu}{bs:List UInt8}{cf:Cf}{g0:Nat→Int}{t:Nat→Nat}
theorem MI.more {N':Nat}(h:MI p M N m)(hN:N≤N'):MI p M N' m:={ h with n:=⟨eS h.n.1 hN,eS h.n.2.1 hN,eS h.n.2.2 hN⟩ }
theorem MI.same (h:MI p M N m)(hw:cy p s')(hg:s'.g=m.s.g)(hl:s'.k.ls=m.s.k.ls)(hc:fq s'.k=fq m.s.k):MI p M N { m with s:=s' }:=by
 have hf:aw s'.k=aw m.s.k:=by rw[aw,aw,hl]
 simp only[fq,Cf.mk.injEq]at hc;obtain⟨eW,c2,c3,en,dL,oX,r4,sE,Ik,BT⟩:=hc;have hn:s'.k.n=m.s.k.n:=by omega
 exact { wf:=hw,gs:=h.gs,front:=by rw[hf];exact h.front,inv:=by obtain⟨t,ht⟩:=h.inv;exact⟨t,by rw[hf,hg];exact ht⟩,gn:=λy hy=>by rw[hn,hl,hf];exact h.gn y hy,J:=h.J,most:=by rw[sE];exact h.most,workers:=by rw[Ik];exact h.workers,ks:=h.ks,room:=by rw[BT];exact h.room,n:=h.n }
theorem O4 (I:U W w (aE W M p { m with s:=s' }::L))(h:MI p M N m)(hx:mc p m.s s')(a6:dp p)(hN:N≤1000000000000) :
   Calls prog 271 #[pt M.mb] w λe w'=>∃ m':Mu,e=.returned (.tuple #[])∧(m'.s=s'∧MI p M (N+20) m'∧(s'.k.cl=false→∃ t',Ij p { m with s:=s' } m' t'))∧U W w' (aE W M p m'::L):=by
 obtain⟨nK,qa,hn3⟩:=h.n;have hc:=hx.cf;cases cr:s'.k.cl with
 | true =>
  have hl:=hx.ls cr;refine (ab4 I cr).mono λe w' ⟨he,I⟩=>⟨_,he,⟨rfl,(h.same hx.wf (hx.sJ (by rw[aw,aw,hl])) hl hc).more (by omega),λe=>(by cases e)⟩,I⟩
 | false =>
  obtain⟨t,ht⟩:=h.inv;simp only[fq,Cf.mk.injEq]at hc;obtain⟨eW,c2,c3,en,dL,oX,r4,sE,Ik,BT⟩:=hc;have hn:s'.k.n=m.s.k.n:=by omega
  refine (ab5 (g0:=m.s.g) (t:=t) I hx.wf (hx.wf.qn a6) cr (by rw[← h.front]at ht;exact ht) (λe=>(hx.sJ (by rw[← h.front];exact e.symm)).symm) h.gs (λy hy j hj=>by dsimp only;rw[hn];exact (h.gn y hy).1 j hj) h.J (by dsimp only;rw[sE];exact h.most) (by dsimp only;omega) (by dsimp only;omega) (by dsimp only;omega) h.ks h.room.2).mono λe w' ⟨m',t',he,hr,I⟩=>⟨m',he,⟨hr.s,?_,λ_=>⟨t',hr⟩⟩,I⟩;obtain⟨cV,cc,a3,a4,a5,O0,O1,sQ,a9,b1,b2,b3,b4,b5⟩:=hr;dsimp only at *;exact { wf:=by rw[cc];exact hx.wf,gs:=h.gs,front:=by rw[cc];exact a3,inv:=⟨t',by rw[cc];exact cV⟩,gn:=by rw[cc];exact a4,J:=a5,most:=by rw[cc,sE,a9];exact h.most,workers:=by rw[cc,Ik,b2];exact h.workers,ks:=by rw[b2];exact h.ks,room:=by rw[cc,BT,O0];exact h.room,n:=⟨by omega,by omega,by omega⟩ }
theorem ab9 (I:U W w (aE W M p m::L))(h:MI p M N m)(a6:dp p)(aF:p.title.size≤1000000000)(hN:N≤1000000000000) :
   Calls prog 267 #[pt M.mb,.int .u8 (x.toNat:Nat)] w λe w'=>∃ m':Mu,e=.returned (.int .i64 (dM p x m.s).1)∧(m'.s=(dM p x m.s).2∧MI p M (N+20) m'∧((dM p x m.s).2.k.cl=false→∃ t',Ij p { m with s:=(dM p x m.s).2 } m' t'))∧U W w' (aE W M p m'::L):=by
 refine EN func267 ntmps267 rfl rfl λa E=>?_;refine CL 4 E I (uA I) λa w E I=>?_;refine RN 1 E I λa E=>?_;replace I:=aE.open I;refine CL 0 E I (Oh (I.pick (aP W M.B p m.s)) h.wf a6 aF) λa w E I=>?_;replace I:=aE.fold I M p { m with s:=(dM p x m.s).2 };refine bg 3 E I (O4 I h (mc.al h.wf x) a6 hN) λm' a w E ⟨hm,I⟩=>?_;refine RT 3 E I ?_;exact⟨m',rfl,hm,I⟩
theorem aca (I:U W w (aE W M p m::L))(h:MI p M N m)(a6:dp p)(aF:p.title.size≤1000000000)(hN:N≤1000000000000)(hb:bs.length≤65536)(hc:bs.length≤c)(hp:∀ w',U W w' L→aX w' ad bs.length bs) :
   Calls prog 269 #[pt M.mb,.slice ad bs.length c] w λe w'=>∃ m':Mu,e=.returned (.int .i64 (dN p bs m.s).1)∧(m'.s=(dN p bs m.s).2∧MI p M (N+20) m')∧U W w' (aE W M p m'::L):=by
 refine EN func269 ntmps269 rfl rfl λa E=>?_;refine CL 4 E I (uA I) λa w E I=>?_;refine RN 1 E I λa E=>?_;replace I:=aE.open I;refine CL 0 E I (Oi (bs:=bs) (I.pick (aP W M.B p m.s)) h.wf a6 aF hb hc (λw' hw=>hp w' hw.sub)) λa w E I=>?_;replace I:=aE.fold I M p { m with s:=(dN p bs m.s).2 };refine bg 3 E I (O4 I h (mc.recv h.wf bs) a6 hN) λm' a w E ⟨⟨gz,kG,_⟩,I⟩=>?_;refine RT 3 E I ?_;exact⟨m',rfl,⟨gz,kG⟩,I⟩
end
end
section
theorem Il (k:Ks):fq (bw k).2=fq k:=by
 rcases xQ k with h1 | ⟨hc,h1 | ⟨i,hi,h1⟩⟩ <;> rw[h1] <;> rfl
theorem Im (k:Ks):fq (cA k).2=fq k:=by
 unfold cA;split <;> rfl
section
variable {W w:World}{L:List SP}{n c i N tq sq r base front:Nat}{ad:Option Addr}{M:jN}{B:jw}{p:Pr}{s:Pl}{m:Mu}{A:Sn}{T:Tr}{t:Nat→Nat}{px:aC}{y:Int}
theorem acb (I:U W w (aE W M p m::L))(h:MI p M N m)(pM:m.s.k.now≤1000000):Calls prog 270 #[pt M.mb] w λr w'=>∃ ad c,r=.returned (.slice ad (bw m.s.k).1.length c)∧MI p M N { m with s:=⟨(bw m.s.k).2,m.s.g⟩ } ∧
   U W w' (cg 124 ad (bw m.s.k).1.length c (bw m.s.k).1::aE W M p { m with s:=⟨(bw m.s.k).2,m.s.g⟩ }::L):=by
 refine EN func270 ntmps270 rfl rfl λa E=>?_;refine CL 4 E I (uA I) λa w E I=>?_;replace I:=aE.open I;refine aY 0 E I (Oj (I.pick (aP W M.B p m.s)) h.wf pM) λad c a w E I=>?_;refine RT 1 E I ?_;exact⟨ad,c,rfl,h.same h.wf.tick rfl (CI _).2 (Il _),(aE.fold I M p { m with s:=⟨(bw m.s.k).2,m.s.g⟩ }).sub⟩
theorem acd (I:U W w (aE W M p m::L))(h:MI p M N m):Calls prog 268 #[pt M.mb] w λr w'=>∃ ad c,r=.returned (.slice ad (cA m.s.k).1.length c)∧MI p M N { m with s:=⟨(cA m.s.k).2,m.s.g⟩ } ∧
   U W w' (cg 124 ad (cA m.s.k).1.length c (cA m.s.k).1::aE W M p { m with s:=⟨(cA m.s.k).2,m.s.g⟩ }::L):=by
 refine EN func268 ntmps268 rfl rfl λa E=>?_;refine CL 4 E I (uA I) λa w E I=>?_;replace I:=aE.open I;refine aY 0 E I (Ol (I.pick (aP W M.B p m.s)) h.wf) λad c a w E I=>?_;refine RT 1 E I ?_;exact⟨ad,c,rfl,h.same h.wf.pj rfl (Ho _).2 (Im _),(aE.fold I M p { m with s:=⟨(cA m.s.k).2,m.s.g⟩ }).sub⟩
theorem ace (I:U W w (aE W M p m::L))(h:MI p M N m):Calls prog 266 #[pt M.mb] w λr w'=>∃ ad c,r=.returned (.slice ad m.s.k.ev.length c)∧MI p M N { m with s:=⟨{ m.s.k with ev:=[] },m.s.g⟩ } ∧
   U W w' (Sl 135 1 ad m.s.k.ev.length c (m.s.k.ev.map cC)::aE W M p { m with s:=⟨{ m.s.k with ev:=[] },m.s.g⟩ }::L):=by
 refine EN func266 ntmps266 rfl rfl λa E=>?_;refine CL 4 E I (uA I) λa w E I=>?_;replace I:=aE.open I;refine aY 0 E I (Om (I.pick (aP W M.B p m.s))) λad c a w E I=>?_;refine RT 1 E I ?_;exact⟨ad,c,rfl,h.same h.wf.told rfl rfl rfl,(aE.fold I M p { m with s:=⟨{ m.s.k with ev:=[] },m.s.g⟩ }).sub⟩
theorem acf (I:U W w (aE W M p m::L))(h:MI p M N m):Calls prog 264 #[pt M.mb] w λr w'=>∃ ad c,r=.returned (.tuple #[.slice ad 128 c,.int .i64 (l7 m.s).2])∧U W w' (Sl 5 1 ad 128 c (bc (l7 m.s).1)::aE W M p m::L):=by
 have bq:=h.wf.wc.lE;have iX:m.s.k.ls.length≤8:=by rw[h.wf.wc.ls];exact h.wf.wc.n.2
 obtain⟨t,hI⟩:=h.inv;obtain⟨i,px,ig,lx⟩:=hI.mS (iq ..);have tS:=(hI.base px (bI ig) lx).1;replace I:=aE.open I;rw[h.front]at I;refine EN func264 ntmps264 rfl rfl λa E=>?_;refine aV 5 (λw0 w'=>Rd w' M.mb 0 (dX p M m.ks.length m.base (aw m.s.k))) [8,9,10] [0,1,2,3,4,5,7,3006,1008,1009,1010,11,12] E I λa w E I hH=>?_;have hC:=hH.at w (I.ai (b:=M.mb));refine RH 3 E I hH hC λa E=>?_;replace E:=E.aQ 6;refine RH 4 E I hH hC λa E=>?_;refine QH E (λw hc=>ae E (hc 8 _ rfl)) hC λa E=>?_;rw[← h.front]at I;replace I:=aE.fold I M p m;refine RH 0 E I hH hC λa E=>?_;refine CL 0 E I (CX I) λa w E I=>?_;replace hC:=hH.at w (by have h9:=(aE.open I).ai (b:=M.mb);rw[h.front]at h9;exact h9);replace I:=aP.open ((aE.open I).pick (aP W M.B p m.s));rw[h.front]at I;refine RH 0 E I hH hC λa E=>?_;refine CL 0 E I (pv (I.pick (az M.B.core m.s.k))) λa w E I=>?_;replace hC:=hH.at w (I.ai (b:=M.mb));obtain⟨D,I,hD⟩:=az.qu I;refine RH 0 E I hH hC λa E=>?_;refine CL 0 E I (sH I bq iX) λa w E I=>?_;replace hC:=hH.at w (I.ai (b:=M.mb));refine RH 1 E I hH hC λa E=>?_;rw[show decide (((aw m.s.k:Nat):Int)≠((aU m.s.k.ls:Nat):Int))=false from LB]at E;refine RH 1 E I hH hC λa E=>?_;replace I:=aP.fold (hD _ _ I) M.B p m.s;rw[← h.front]at I;replace I:=aE.fold I M p m;replace E:=E.aQ 16;refine RN 2 E I λa E=>?_;replace I:=aE.open I;refine aV 0 (λw0 w'=>Rd w' M.mb 0 (dX p M m.ks.length m.base m.front)) [5,6,10,11] [0,1,2,3,7,8,9,3004,3010,1005,1006,1011,12] E I λa w E I hH=>?_;have hC:=hH.at w (I.ai (b:=M.mb));refine RH 7 E I hH hC λa E=>?_;refine QH E (λw hc=>ae E (hc 7 _ rfl)) hC λa E=>?_;refine QH E (λw hc=>ae E (hc 8 _ rfl)) hC λa E=>?_;replace I:=aE.fold I M p m;refine RH 0 E I hH hC λa E=>?_;refine CL 0 E I (H6 I ig lx) λa w E I=>?_;replace hC:=hH.at w ((aE.open I).ai (b:=M.mb));refine RH 0 E I hH hC λa E=>?_;refine aY 0 E I (zI I) λad c a w E I=>?_;replace hC:=hH.at w ((aE.open I.tail).ai (b:=M.mb));refine RH 2 E I hH hC λa E=>?_;refine RT 0 E I ?_;rw[tS]at I;exact⟨ad,c,by rw[h.front];rfl,I⟩
theorem acg (I:U W w (aE W M p m::L))(hc:m.s.k.cl=true∨y<0∨(m.ks.length:Int)≤y)(h4:m.ks.length≤4) :
   Calls prog 62 #[pt M.mb,.int .i64 y] w λe w'=>e=.returned (.bool false)∧U W w' (aE W M p m::L):=by
 refine EN func62 ntmps62 rfl rfl λa E=>?_;refine RN 7 E I λa E=>?_;replace E:=E.aQ 7;refine CL 1 E I (Ad I) λa w E I=>?_;replace I:=aE.open I;refine BY 2 E I (λki a E=>?_) λki a E=>?_
 ·
  refine RT 15 E I ?_;exact⟨rfl,aE.fold I M p m⟩
 refine BY 4 E I (λmn a E=>?_) λmn a E=>?_
 ·
  refine RT 11 E I ?_;exact⟨rfl,aE.fold I M p m⟩
 refine IF 8 E I (λak a E=>?_) λak a E=>?_
 ·
  refine RT 2 E I ?_;exact⟨rfl,aE.fold I M p m⟩
 exact absurd hc (by rintro (h | h | h) <;> first | omega | (rw[h]at ki;cases ki))
theorem BR.brI {k:Ks}{J J':Js}{A A':Sn}{T T':Tr}(hn:BR A T J A' T' J')(h:vS k T):vS k T':=by
 intro y hy;have h1:(y.id,y.al)∈T'.l.map (λy=>(y.id,y.al)):=cX.2 ⟨y,hy,rfl⟩;rw[hn.l]at h1;obtain⟨z,hz,he⟩:=cX.1 h1;have h2:=h z hz;rw[(Prod.mk.inj he).2]at h2;exact h2
theorem ach {k:Wk}{wb:Nat}(I:U W w (aE W M p m::L))(h:MI p M N m)(cr:m.s.k.cl=false)(hk:m.ks[i]?=some (k,wb))(a6:dp p)(aF:p.title.size≤1000000000)(hN:N≤1000000000000) :
   Calls prog 62 #[pt M.mb,.int .i64 i] w λe w'=>∃ (z:Bool) (A':Sn) (T':Tr) (J':Js) (k':Wk),e=.returned (.bool z)∧(lT p m.A m.T m.J k z A' T' J' k'∧MI p M (N+1) { m with A:=A',T:=T',J:=J',ks:=m.ks.set i (k',wb) }) ∧
    U W w' (aE W M p { m with A:=A',T:=T',J:=J',ks:=m.ks.set i (k',wb) }::L):=by
 have aG:=(a2.1 hk).1;have h4:=h.ks;obtain⟨t,hI⟩:=h.inv;obtain⟨nK,qa,hn3⟩:=h.n;have j1:=h.wf.wc.nO;have g4:=h.wf.wc.l5;refine EN func62 ntmps62 rfl rfl λa E=>?_;refine RN 7 E I λa E=>?_;replace E:=E.aQ 7;refine CL 1 E I (Ad I) λa w E I=>?_;rw[cr]at E;refine RN 2 E I λa E=>?_;replace E:=E.aQ 11;refine RN 4 E I λa E=>?_;replace I:=aE.open I;replace E:=E.aQ 15;refine RN 8 E I λa E=>?_;rw[bu (by omega)]at E;refine RN 2 E I λa E=>?_;obtain⟨b',o',hK,da⟩:=I.bU M.dy (by omega);refine RN 5 E I λa E=>?_;rw[hK]at E;refine RN 1 E I λa E=>?_;refine SS E (ae E (da i _ (Mf hk))) λa E=>?_;refine ka 0 E I (Zd (I.sub (M:=ah (fb p M.aq M.cO M.tq M.jq M.sq) m.ks::Tree M.tq M.sq m.T::ax M.sq M.r m.A::bJ M.jq m.J::aA W p M.aq M.cO::aa M.mb 177 (dX p M m.ks.length m.base m.front)::aP W M.B p m.s::Sl 179 1 M.dy m.ks.length M.dG (g3 m.ks)::L)) hk hI ⟨by omega,by omega⟩ a6 aF (by omega) h.J) ?_;clear E I;rintro e w ⟨z,A',T',J',k',rfl,⟨vp,py,vT⟩,I⟩;refine⟨_,rfl,λa E=>?_⟩;refine RT 1 E I ?_;have qI:(m.ks.set i (k',wb)).length=m.ks.length:=bz ..;have l8:=vT.room;have hn4:=vT.n;have hn5:=vT.last;have hn6:=vT.epoch;refine⟨z,A',T',J',k',rfl,⟨vp,{ wf:=h.wf,gs:=h.gs,front:=h.front,inv:=⟨t,py⟩,gn:=vT.brI h.gn,J:=vT.len h.J,most:=by dsimp only;rw[vT.most];exact h.most,workers:=by dsimp only;rw[qI];exact h.workers,ks:=by dsimp only;rw[qI];exact h4,room:=by dsimp only;rw[l8];exact h.room,n:=⟨by dsimp only;omega,by dsimp only;omega,by dsimp only;omega⟩ }⟩,?_⟩;rw[← Mg (k':=k') hk,← qI]at I;exact aE.fold I M p { m with A:=A',T:=T',J:=J',ks:=m.ks.set i (k',wb) }
end
end
end Go.Proofs.YteoldcfapaiobaaGreat
