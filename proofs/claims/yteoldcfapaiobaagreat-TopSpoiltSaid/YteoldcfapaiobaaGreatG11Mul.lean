/- Package multi: a player that plays ahead. -/
import Derived.Test.YteoldcfapaiobaaGreatG06Ref
import Derived.Test.YteoldcfapaiobaaGreatG10Rank
import Derived.Test.YteoldcfapaiobaaGreatG04Job
import Derived.Test.YteoldcfapaiobaaGreatG05Vm
import Derived.Test.YteoldcfapaiobaaGreatG01Row
import Derived.Laws.StructEq
import Derived.ChangeKeysEq
import Derived.ProofKit
import Derived.Deep.Slices
import Derived.Deep.Strs
namespace Go.Proofs.YteoldcfapaiobaaGreat
open Tryz
open List (all_eq_true foldl_cons nil_append map_cons length_nil mem_range getElem?_range getElem_map map_nil range_succ foldl_append map_singleton)
open Go.RowKit
set_option linter.unusedVariables false
set_option linter.unusedSimpArgs false
set_option maxRecDepth 10000
set_option synthInstance.maxSize 4000
set_option synthInstance.maxHeartbeats 400000
section
instance oJ.fvB {P l x f ws args vs}[ex:Ev l (.tmp x) (.func (.func f) (List.toArray ws) #[])][ev:nO l args vs]:oJ P l (.value (.tmp x)) args f (ws++vs):=⟨λhb a n w E _ _ _ _ _ _=>by
 simp[execOp,resolve,ex.ev a n E,Deferred.ofValue,invoke,ev.ev a n E,Af hb]⟩
structure jJ where
 mb:Nat
 B:jr
 sq:Nat
 r:Nat
 tq:Nat
 jq:Nat
 dw:Option Addr
 dG:Nat
 aq:Option Addr
 cO:Nat
structure Mu where
 s:Pl
 A:Sn
 T:Tr
 J:Js
 ks:List Kx
 base:Nat
 front:Nat
abbrev dV (p:Pr)(M:jJ)(nk base front:Nat):List Value:=[pt M.B.pb,.string p.title,.slice M.aq p.ops.length M.cO,pt M.sq,pt M.tq,pt M.jq,.slice M.dw nk M.dG,.int .i64 base,.int .i64 front]
abbrev zq (W:World)(M:jJ)(p:Pr)(m:Mu):List SP:=[aa M.mb 177 (dV p M m.ks.length m.base m.front),aR W M.B p m.s,aA W p M.aq M.cO,Sl 179 1 M.dw m.ks.length M.dG (gW m.ks),ah (e9 p M.aq M.cO M.tq M.jq M.sq) m.ks,Tree M.tq M.sq m.T,ax M.sq M.r m.A,bI M.jq m.J]
def aF (W:World)(M:jJ)(p:Pr)(m:Mu):SP:=λh=>cm (zq W M p m) h
section
variable {W w:World}{L R:List SP}{M:jJ}{B:jr}{p:Pr}{s:Pl}{m:Mu}
theorem aF.open (I:U W w (aF W M p m::L)):U W w (aa M.mb 177 (dV p M m.ks.length m.base m.front)::aR W M.B p m.s::aA W p M.aq M.cO::Sl 179 1 M.dw m.ks.length M.dG (gW m.ks)::ah (e9 p M.aq M.cO M.tq M.jq M.sq) m.ks::Tree M.tq M.sq m.T::ax M.sq M.r m.A::bI M.jq m.J::L):=I.open (M:=zq W M p m) λ_ h=>h
theorem aF.close (I:U W w (zq W M p m++L)):U W w (aF W M p m::L):=U.shut (M:=zq W M p m) I λ_ h=>h
theorem aF.fold (I:U W w L)(M:jJ)(p:Pr)(m:Mu)[kk:fI L (aa M.mb 177 (dV p M m.ks.length m.base m.front)::aR W M.B p m.s::aA W p M.aq M.cO::Sl 179 1 M.dw m.ks.length M.dG (gW m.ks)::ah (e9 p M.aq M.cO M.tq M.jq M.sq) m.ks::Tree M.tq M.sq m.T::ax M.sq M.r m.A::bI M.jq m.J::[]) R]:U W w (aF W M p m::R):=aF.close (I.perm kk.perm)
theorem Ni (I:U W w (aR W B p s::L)):Calls prog 94 #[pt B.pb] w λe w'=>e=.returned (.agg (ints .i32 32 s.g).toArray)∧U W w' (aR W B p s::L):=by
 replace I:=aR.open I;refine EN func94 ntmps94 rfl rfl λa E=>?_;refine AL 1 E I λb2 a w E I=>?_;change U W w (aa b2 183 (ints .i32 32 (λ_=>0))::_) at I;refine RN 4 E I λa E=>?_;refine SS E (bT E underlying183 rfl Ty.t183 (zn (I.ai (b:=B.pb)))) λa E=>?_;refine SA 0 E I λa w E I=>?_;refine RT 0 E I ?_;exact⟨rfl,(aR.fold I B p s).sub⟩
theorem Nj (I:U W w (aR W B p s::L)):Calls prog 278 #[pt B.pb] w λe w'=>e=.returned (.agg (dq B.gs B.adT B.cT).toArray)∧U W w' (aR W B p s::L):=by
 replace I:=aR.open I;refine EN func278 ntmps278 rfl rfl λa E=>?_;refine AL 1 E I λb2 a w E I=>?_;refine RN 4 E I λa E=>?_;refine SS E (bT E underlying186 rfl Ty.t186 (M0 (I.ai (b:=B.pb)))) λa E=>?_;refine SA 0 E I λa w E I=>?_;refine RT 0 E I ?_;exact⟨rfl,(aR.fold I B p s).sub⟩
theorem tX (I:U W w (aF W M p m::L)):Calls prog 140 #[pt M.mb] w λe w'=>e=.returned (pt M.B.pb)∧U W w' (aF W M p m::L):=by
 replace I:=aF.open I;refine EN func140 ntmps140 rfl rfl λa E=>?_;refine RN 6 E I λa E=>?_;replace E:=E.aP 4;refine RT 7 E I ?_;exact⟨rfl,aF.fold I M p m⟩
theorem B3 (I:U W w (aF W M p m::L)):Calls prog 272 #[pt M.mb] w λe w'=>e=.returned (pt M.B.core.cb)∧U W w' (aF W M p m::L):=by
 refine EN func272 ntmps272 rfl rfl λa E=>?_;refine CL 4 E I (tX I) λa w E I=>?_;replace I:=aF.open I;refine CL 0 E I (oh (I.pick (aR W M.B p m.s))) λa w E I=>?_;refine RT 1 E I ?_;exact⟨rfl,aF.fold I M p m⟩
theorem zr (I:U W w (aF W M p m::L)):Calls prog 101 #[pt M.mb] w λe w'=>e=.returned (.bool m.s.k.cl)∧U W w' (aF W M p m::L):=by
 refine EN func101 ntmps101 rfl rfl λa E=>?_;refine CL 4 E I (tX I) λa w E I=>?_;replace I:=aF.open I;refine CL 0 E I (M8 (I.pick (aR W M.B p m.s))) λa w E I=>?_;refine RT 1 E I ?_;exact⟨rfl,aF.fold I M p m⟩
theorem aaA (I:U W w (aF W M p m::L)):Calls prog 81 #[pt M.mb] w λe w'=>e=.returned (pt M.sq)∧U W w' (aF W M p m::L):=by
 replace I:=aF.open I;refine EN func81 ntmps81 rfl rfl λa E=>?_;refine RN 6 E I λa E=>?_;replace E:=E.aP 4;refine RT 7 E I ?_;exact⟨rfl,aF.fold I M p m⟩
theorem aaB (I:U W w (aF W M p m::L)):Calls prog 87 #[pt M.mb] w λe w'=>e=.returned (pt M.tq)∧U W w' (aF W M p m::L):=by
 replace I:=aF.open I;refine EN func87 ntmps87 rfl rfl λa E=>?_;refine RN 6 E I λa E=>?_;replace E:=E.aP 4;refine RT 7 E I ?_;exact⟨rfl,aF.fold I M p m⟩
end
end
section
section
variable {p:Pr}{F F':Int}{g g0:Nat→Int}{t t':Nat→Nat}{base i:Nat}{A:Sn}{T:Tr}{ws:List Wk}{k:Wk}{P:List (List UInt8)}
theorem Inv.aaC (h:Inv p F g0 t base A T ws)(hA:WF A)(hn:A.n+1<1099511627776)(hT:T.l=[])(hg:dS g) :
   Inv p F' g t' (A.last+1) ((A.add g t').eB base) T ws:=by
 have wT:WF (A.add g t'):=hA.add hn g t';have hr:∀ x∈(A.add g t').ar,x.refs=1:=by
  intro x hx;rcases eT.1 hx with hx | hx
  ·exact (h.ar x hx).1
  ·rw[iK.1 hx]
 have uV:∀ z∈A.ar,z.id≠A.last+1:=λz hz e=>by have:=(hA.mM z hz).2.1;omega
 rw[AR wT hr];refine⟨?_,λx hx=>?_,λx hx he=>?_,λy hy=>?_,λk hk=>⟨(h.lO k hk).1,λ_ y hy=>?_⟩⟩
 ·simp only;rw[Ep];have h1:((A.add g t').ar.map (·.id)).Perm (base::(A.last+1)::(T.l.map (·.snap)++jC ws)):=by
   simp only[Sn.add,cW,map_cons,map_nil];exact ((List.perm_append_singleton _ _).trans (h.perm.cons _)).trans (cZ _ _ _)
  exact Eo (lE _) h1 wT.oR
 ·have hx:=ka hx;rcases eT.1 hx with hx | hx
  ·exact h.ar x hx
  ·rw[iK.1 hx];exact⟨rfl,hg⟩
 ·have hx:=ka hx;rcases eT.1 hx with hx | hx
  ·exact absurd he (uV x hx)
  ·rw[iK.1 hx];exact⟨rfl,rfl⟩
 ·rw[hT]at hy;cases hy
 ·rw[hT]at hy;cases hy
theorem Nk (h:∀ k∈ws,k.busy=false):jC ws=[]:=by
 rw[jC,List.filter_eq_nil_iff.2 (λk hk=>by rw[h k hk];decide)];rfl
theorem B4:∀ (l:List Br) (A:Sn),(A.gV l).room=A.room∧(A.gV l).n=A.n∧(A.gV l).last=A.last
 | [],_=>⟨rfl,rfl,rfl⟩
 | y::l,A=>by
  have h1:=B4 l (A.eB y.snap);have h2:=oS A y.snap;show ((A.eB y.snap).gV l).room=_∧((A.eB y.snap).gV l).n=_∧((A.eB y.snap).gV l).last=_;exact⟨h1.1.trans h2.1,h1.2.1.trans h2.2.1,h1.2.2.trans h2.2.2⟩
def tY (ls:List (List UInt8))(f:Nat)(j:List UInt8):Bool:=(List.range j.length).all λq=>!(decide (f<(ls.getD q []).length)&&(ls.getD q []).getD f 0 != j.getD q 0)
def jK (ls:List (List UInt8))(f:Nat)(P:List (List UInt8)):Bool:=(List.range P.length).all λi=>tY ls (f+i) (P.getD i [])
theorem aaD {ls:List (List UInt8)}{f q:Nat}{j:List UInt8}(hq:q<j.length)(h1:f<(ls.getD q []).length)(h2:(ls.getD q []).getD f 0≠j.getD q 0):tY ls f j=false:=by
 rw[tY,List.all_eq_false];exact⟨q,mem_range.2 hq,by rw[dk h1,Bool.true_and,bne_iff_ne.2 h2];decide⟩
theorem Nl {ls:List (List UInt8)}{f:Nat}{j:List UInt8}(h:∀ q,q<j.length→f<(ls.getD q []).length→(ls.getD q []).getD f 0=j.getD q 0):tY ls f j=true:=by
 rw[tY,all_eq_true];intro q hq;have:=h q (mem_range.1 hq);by_cases h1:f<(ls.getD q []).length
 ·rw[dk h1,Bool.true_and,this h1,bne_self_eq_false];rfl
 ·rw[bo h1,Bool.false_and];rfl
theorem aaE {ls:List (List UInt8)}{f i:Nat}{P:List (List UInt8)}(hi:i<P.length)(h:tY ls (f+i) (P.getD i [])=false):jK ls f P=false:=by
 rw[jK,List.all_eq_false];exact⟨i,mem_range.2 hi,by rw[h];decide⟩
theorem Nm {ls:List (List UInt8)}{f:Nat}{P:List (List UInt8)}(h:∀ i,i<P.length→tY ls (f+i) (P.getD i [])=true):jK ls f P=true:=by
 rw[jK,all_eq_true];intro i hi;exact h i (mem_range.1 hi)
end
end
section
section
variable {W w:World}{L:List SP}{q r:Nat}{A:Sn}
theorem aaF (l:List Nat):distinct l≤l.length:=by
 induction l with
 | nil=>exact a7 _
 | cons x l ih=>rw[distinct,eH];split <;> omega
theorem aaG (l:List aC):(lg l).length=4*l.length:=by
 induction l with
 | nil=>rfl
 | cons x l ih=>show (_++lg l).length=_;rw[aJ,ih,eH];simp;omega
theorem ax.wq (I:U W w (ax q r A::L)):A.used≤4*A.ar.length:=by
 rw[ax.used I];have:=aaF (lg A.ar);rw[aaG]at this;exact this
end
end
section
theorem Tl.rest {N L:List SP}{A:SP}(t:Tl N (A::L)):Tl N L:=⟨let ⟨K,h⟩:=t.h;⟨K++[A],by simpa using h⟩⟩
section
variable {W w:World}{L:List SP}{n i tq sq r:Nat}{M:jJ}{B:jr}{x:UInt8}{p:Pr}{s:Pl}{m:Mu}{A:Sn}{T:Tr}{F:Int}{g0:Nat→Int}{t:Nat→Nat}{px:aC}
theorem Nn {kp:Br→Bool}{g:Nat}{ws:List Value}(I:U W w (Tree tq sq T::ax sq r A::L))(he:T.epoch+1<1099511627776)(cn:hQ prog g=true)
   (hg:∀ (N:List SP) (w':World) (x:Br) (av:Option Addr) (c':Nat),x∈T.l→U W w' N→Tl N L→wE W N av x.al→x.al.length≤c'→nX x.al →
    Calls prog g (ws++[Value.agg (ch x av c').toArray]).toArray w' λe nY=>e=.returned (.bool (kp x))∧U W nY N) :
   Calls prog 287 #[pt tq,.func (.func g) ws.toArray #[]] w λe w'=>(∃ v:Int,e=.returned (.int .i64 v)) ∧
    U W w' (Tree tq sq (T.cut λx=>!kp x)::ax sq r (A.gV (T.l.filter λx=>!kp x))::L):=by
 have hF : ∀ (b3 : Nat) (N : List SP) (w' : World) (x : Br) (av : Option Addr) (c' : Nat), x ∈ T.l → U W w' N → Tl N (aa b3 343 [.func (.func g) ws.toArray #[]] :: L) → wE W N av x.al → x.al.length ≤ c' → nX x.al →
     Calls prog 304 (List.toArray [.agg (ch x av c').toArray,pt b3]) w' λe nY=>e=.returned (.bool (!kp x))∧U W nY N:=by
  intro b3 N w x av c' B5 I hM hx hxc kL;refine EN func304 ntmps304 rfl rfl λa E=>?_;refine BX 1 E I λb2 a w E I=>?_;refine RN 2 E I λa E=>?_;have p0:=I.tail.V2 hM;refine SS E (ae E (p0.bz rfl)) λa E=>?_;refine CL 1 E I (hg (aa b2 238 (ch x av c')::N) _ x av c' B5 I (@Tl.cons _ _ _ hM.rest) (hx.imp λzs h=>⟨h.1,λnY h2=>h.2 _ h2.tail⟩) hxc kL) (hf:=cn) λa w E I=>?_;refine RT 2 E I ?_;exact⟨rfl,I.tail⟩
 refine EN func287 ntmps287 rfl rfl λa E=>?_;refine BX 1 E I λb3 a w E I=>?_;refine CL 4 E I (J9 (tq:=tq) (sq:=sq) (r:=r) (A:=A) (T:=T) (wh:=λx=>!kp x) (us:=[pt b3]) (L:=aa b3 343 [.func (.func g) ws.toArray #[]]::L) I.sub he (by kernel_rfl) (hF b3)) λa w E I=>?_;refine RT 1 E I ?_;exact⟨⟨_,rfl⟩,I.sub⟩
theorem aaH (I:U W w (aF W M p m::L))(hI:Inv p F g0 t m.base m.A m.T (m.ks.map (·.1)))(he:m.T.epoch+1<1099511627776)(h4:m.ks.length≤4) :
   Calls prog 302 #[pt M.mb] w λe w'=>∃ (A':Sn) (B6:List Kx),e=.returned (.tuple #[]) ∧
    (Inv p F g0 t m.base A' (m.T.cut λ_=>true) (B6.map (·.1))∧B6.length=m.ks.length∧(∀ k∈B6,k.1.busy=false)∧A'.room=m.A.room∧A'.n=m.A.n) ∧
    U W w' (aF W M p { m with A:=A',ks:=B6,T:=m.T.cut λ_=>true }::L):=by
 obtain⟨mb,B,sq,r,tq,jq,dw,dG,aq,cO⟩:=M;obtain⟨s,A,T,J,ks,base,front⟩:=m;replace I:=aF.open I;simp only at hI he h4;refine EN func302 ntmps302 rfl rfl λa E=>?_;refine RN 8 E I λa E=>?_;refine aN (λμ a w=>∃ (i:Nat) (A1:Sn) (lx:List Kx),(μ=ks.length-i∧i≤ks.length∧lx.length=ks.length∧(∀ (j:Nat) (k:Kx),j<i→lx[j]?=some k→k.1.busy=false)∧Inv p F g0 t base A1 T (lx.map (·.1))∧A1.room=A.room∧A1.n=A.n)∧Fr a 21 [(0,pt mb),(7,.slice dw ks.length dG),(8,.int .i64 ks.length),(9,.int .i64 i)]∧U W w (aa mb 177 (dV p ⟨mb,B,sq,r,tq,jq,dw,dG,aq,cO⟩ ks.length base front)::aR W B p s::aA W p aq cO::Sl 179 1 dw ks.length dG (gW lx)::ah (e9 p aq cO tq jq sq) lx::Tree tq sq T::ax sq r A1::bI jq J::L)) (ks.length) (⟨0,A,ks,⟨rfl,by omega,rfl,λj k h=>absurd h (by omega),hI,rfl,rfl⟩,E.ab [0,7,8,9],I.sub⟩) ?_;clear E I;rintro μ a w ⟨i,A1,lx,⟨rfl,hi,dI,No,xz,l5,n0⟩,E,I⟩;refine IF 3 E I (λaj a E=>?_) λaj a E=>?_
 ·
  have pW:i<lx.length:=by omega
  obtain⟨⟨k,wb⟩,hk⟩:∃ y,lx[i]?=some y:=⟨_,aD pW⟩;obtain⟨b',dH,rfl,c9⟩:=I.bU dw (by omega);refine RN 3 E I λa E=>?_;refine SS E (ae E (c9 i _ (KX hk))) λa E=>?_;refine aZ 2 E I (X3 ((I.store sq).pick (ah (e9 p aq cO tq jq sq) lx)) hk xz) λA2 k2 a w E ⟨⟨b0,pf,e4,pZ⟩,I⟩=>?_;rw[← KY (k':=k2) hk]at I;refine RN 2 E I λa E=>?_;refine⟨ks.length-(i+1),by omega,i+1,A2,lx.set i (k2,wb),⟨rfl,by omega,by rw[bt];exact dI,λj z hj hz=>?_,pf,e4.trans l5,pZ.trans n0⟩,E.ab [0,7,8,9],I.sub⟩;rw[jO]at hz;split at hz
  ·cases hz;exact b0
  ·exact No j z (by omega) hz
 refine RN 0 E I λa E=>?_;have gI:=I;refine CL 4 E I (V4 ((I.store sq).tree tq) he) λa w E I=>?_;refine RT 0 E I ?_;obtain rfl:i=ks.length:=by omega
 have B7:=xz.cut (ax.facts (gI.store sq)).1 (λ_=>true);rw[show T.l.filter (λ_=>true)=T.l from by simp]at B7;have hd:=B4 T.l A1;refine⟨A1.gV T.l,lx,rfl,⟨B7,dI,λk hk=>?_,hd.1.trans l5,hd.2.1.trans n0⟩,?_⟩
 ·obtain⟨j,hj⟩:=j7.1 hk;exact No j k (by have:=(aY.1 hj).1;omega) hj
 ·rw[← dI]at I;exact aF.fold I ⟨mb,B,sq,r,tq,jq,dw,dG,aq,cO⟩ p ⟨s,A1.gV T.l,T.cut λ_=>true,J,lx,base,front⟩
theorem GK {id:Nat}(I:U W w (aF W M p m::L))(hx:m.A.ar[i]?=some px)(b6:px.id=id) :
   Calls prog 274 #[pt M.mb,.int .i64 id] w λe w'=>e=.returned (.agg (ints .i32 32 px.g).toArray)∧U W w' (aF W M p m::L):=by
 replace I:=aF.open I;refine EN func274 ntmps274 rfl rfl λa E=>?_;refine AL 1 E I λb4 a w E I=>?_;change U W w (aa b4 183 (ints .i32 32 (λ_=>0))::_) at I;refine CL 6 E I (X7 (I.store M.sq) hx b6) λa w E I=>?_;refine AL 3 E I λb5 a w E I=>?_;change U W w (aa b5 183 (ints .i32 32 (λ_=>0))::_) at I;refine SA 0 E I λa w E I=>?_;refine SA 3 E I λa w E I=>?_;refine RT 0 E I ?_;exact⟨rfl,(aF.fold I M p m).sub⟩
structure aaI (p:Pr)(M:jJ)(m m':Mu)(t':Nat→Nat):Prop where
 inv:Inv p (aw m.s.k:Int) m.s.g t' m'.base m'.A m'.T (m'.ks.map (·.1))
 s:m'.s=m.s
 J:m'.J=m.J
 front:m'.front=aw m.s.k
 room:m'.A.room=m.A.room
 n:m'.A.n≤m.A.n+1
 last:m'.T.last=m.T.last
 most:m'.T.most=m.T.most
 sS:m'.T.epoch≤m.T.epoch+2
 ks:m'.ks.length=m.ks.length
 agb:(m'.T=m.T∧m'.A=m.A∧m'.ks=m.ks)∨m'.T.l=[]
 same:m.front=aw m.s.k→m'.T=m.T∧m'.A=m.A∧m'.ks=m.ks
theorem aaJ (I:U W w (aF W M p m::L))(hw:ct p m.s)(hg:dS m.s.g)(hI:Inv p (m.front:Int) g0 t m.base m.A m.T (m.ks.map (·.1)))(fw:m.front=aw m.s.k→g0=m.s.g)
   (he:m.T.epoch+2<1099511627776) (hn:m.A.n+1<1099511627776) (h4:m.ks.length≤4) (ql:12≤m.A.room) :
   Calls prog 286 #[pt M.mb] w λe w'=>∃ (m':Mu) (t':Nat→Nat),e=.returned (.tuple #[])∧aaI p M m m' t'∧U W w' (aF W M p m'::L):=by
 have bD:=hw.wc.lu;have ie:m.s.k.ls.length≤8:=by rw[hw.wc.ls];exact hw.wc.n.2
 obtain⟨mb,B,sq,r,tq,jq,dw,dG,aq,cO⟩:=M;obtain⟨s,A,T,J,ks,base,front⟩:=m;obtain⟨i,px,hY,lh⟩:=hI.mM (iJ ..)
 have hF : ∀ (N : List SP) (w' : World) (x : Br) (av : Option Addr) (c' : Nat), U W w' N →
     Calls prog 301 ([]++[Value.agg (ch x av c').toArray]).toArray w' λe nY=>e=.returned (.bool false)∧U W nY N:=by
  intro N w x av c' I;refine EN func301 ntmps301 rfl rfl λa E=>?_;refine BX 1 E I λb1 a w E I=>?_;refine RT 3 E I ?_;exact⟨rfl,I.tail⟩
 simp only at hw hg hI fw he hn h4 ql bD ie hY lh;subst lh;replace I:=aF.open I;dsimp only at I;refine EN func286 ntmps286 rfl rfl λa E=>?_;refine CL 5 E I (oh (I.pick (aR W B p s))) λa w E I=>?_;replace I:=aR.open I;refine CL 0 E I (pc (I.pick (az B.core s.k))) λa w E I=>?_;obtain⟨D,I,hD⟩:=az.qu I;refine CL 0 E I (sj I bD ie) λa w E I=>?_;refine RN 1 E I λa E=>?_;replace I:=(aR.fold (hD _ _ I) B p s);refine IF 8 E I (λaj a E=>?_) λaj a E=>?_
 ·
  have o5:front=aw s.k:=by rw[aw];omega
  refine RT 0 E I ?_;exact⟨⟨s,A,T,J,ks,px.id,front⟩,t,rfl,⟨by rw[← o5,← fw o5];exact hI,rfl,rfl,o5,rfl,by simp only;omega,rfl,rfl,by simp only;omega,rfl,.inl ⟨rfl,rfl,rfl⟩,λ_=>⟨rfl,rfl,rfl⟩⟩,aF.fold I ⟨mb,B,sq,r,tq,jq,dw,dG,aq,cO⟩ p ⟨s,A,T,J,ks,px.id,front⟩⟩
 refine RN 5 E I λa E=>?_;have xA:=hI.cut (ax.facts (I.store sq)).1 (λ_=>true);have tZ:=B4 (T.l.filter λ_=>true) A;have GL:(T.cut λ_=>true).l=[]:=by simp[Tr.cut]
 have hTe:(T.cut λ_=>true).epoch≤T.epoch+1:=by simp only[Tr.cut];split <;> omega
 refine j4 0 E I (Nn (kp:=λ_=>false) (ws:=[]) ((I.store sq).tree tq) (by omega) (by kernel_rfl) (λN w' x av c' _ h1 _ _ _ _=>hF N w' x av c' h1)) ?_;clear E I;rintro e w ⟨⟨_,rfl⟩,I⟩;refine⟨_,rfl,λa E=>?_⟩;replace I:U W w (Tree tq sq (T.cut λ_=>true)::ax sq r (A.gV (T.l.filter λ_=>true))::_):=I;generalize A.gV (T.l.filter λ_=>true)=A1 at I xA tZ;have sy:(T.cut λ_=>true).last=T.last∧(T.cut λ_=>true).most=T.most:=⟨rfl,rfl⟩;generalize (T.cut λ_=>true)=T1 at I xA GL hTe sy;obtain⟨i1,q9,aaK,aaL⟩:=xA.mM (iJ ..);rw[← aaL]at I xA;refine RN 0 E I λa E=>?_;refine cc (M:=λa w=>∃ (A2:Sn) (T2:Tr) (ra:List Kx),(A2.used+4≤A2.room∧Inv p (front:Int) g0 t q9.id A2 T2 (ra.map (·.1))∧T2.l=[]∧T2.epoch≤T.epoch+2∧T2.last=T.last∧T2.most=T.most∧ra.length=ks.length∧A2.room=A.room∧A2.n=A.n)∧Fr a 73 [(0,pt mb),(2,.int .i64 (aU s.k.ls))]∧U W w (aF W ⟨mb,B,sq,r,tq,jq,dw,dG,aq,cO⟩ p ⟨s,A2,T2,J,ra,q9.id,front⟩::L)) ?_ ?_
 ·
  refine aV 1 (λw0 w'=>Rd w' mb 0 (dV p ⟨mb,B,sq,r,tq,jq,dw,dG,aq,cO⟩ ks.length q9.id front)) [7,11,12,13] [0,1,2,4,5,6,8,9,10,3003,3007,1011,1012,1013,1014,15] E I λa w E I hH=>?_;have hC:=hH.at w (I.ai (b:=mb));refine RH 9 E I hH hC λa E=>?_;refine QH E (λw hc=>ae E (hc 3 _ rfl)) hC λa E=>?_;refine QH E (λw hc=>ae E (hc 3 _ rfl)) hC λa E=>?_;refine RH 0 E I hH hC λa E=>?_;refine SS E (ae E (hC 7 _ rfl)) λa E=>?_;refine RH 0 E I hH hC λa E=>?_;refine aZ 0 E I (JQ (I.store sq) aaK) λc1 dT a w E I=>?_;replace hC:=hH.at w (I.ai (b:=mb));refine RH 1 E I hH hC λa E=>?_;refine CL 0 E I (JR (I.store sq)) λa w E I=>?_;refine RN 1 E I λa E=>?_;refine IF 0 E I (λao a E=>?_) λao a E=>?_
  ·
   replace I:=aF.fold I ⟨mb,B,sq,r,tq,jq,dw,dG,aq,cO⟩ p ⟨s,A1,T1,J,ks,q9.id,front⟩;refine aZ 1 E I (aaH I xA (by dsimp only;omega) h4) λA2 ra a w E ⟨⟨pf,b0,aaM,e4,pZ⟩,I⟩=>?_;refine RN 0 E I λa E=>?_;have cn:(T1.cut λ_=>true).l=[]:=by simp[Tr.cut]
   have hce:(T1.cut λ_=>true).epoch≤T1.epoch+1:=by simp only[Tr.cut];split <;> omega
   have hu:=ax.wq ((aF.open I).store sq);have ig:=pf.len;rw[Nk (λk hk=>by obtain⟨y,hy,rfl⟩:=cR.1 hk;exact aaM y hy)]at ig;simp only[cn,length_nil]at ig e4 pZ b0 hu;exact⟨A2,T1.cut λ_=>true,ra,⟨by rw[e4,tZ.1];omega,pf,cn,by omega,sy.1,sy.2,b0,by rw[e4,tZ.1],by rw[pZ,tZ.2.1]⟩,E.ab [0,2],I.sub⟩
  refine RN 0 E I λa E=>?_;exact⟨A1,T1,ks,⟨by omega,xA,GL,by omega,sy.1,sy.2,rfl,tZ.1,tZ.2.1⟩,E.ab [0,2],(aF.fold I ⟨mb,B,sq,r,tq,jq,dw,dG,aq,cO⟩ p ⟨s,A1,T1,J,ks,q9.id,front⟩).sub⟩
 clear E;(try clear I);rintro a w ⟨A2,T2,ra,⟨hus,pf,zt,GM,GN,B8,b0,e4,pZ⟩,E,I⟩;refine RN 1 E I λa E=>?_;replace I:=aF.open I;dsimp only at I;refine aV 0 (λw0 w'=>Rd w' mb 0 (dV p ⟨mb,B,sq,r,tq,jq,dw,dG,aq,cO⟩ ra.length q9.id front)) [7,8] [0,1,2,4,5,6,3003,1007,1008,1009,10,11,12,13,14] E I λa w E I hH=>?_;have hC:=hH.at w (I.ai (b:=mb));refine RH 6 E I hH hC λa E=>?_;refine QH E (λw hc=>ae E (hc 3 _ rfl)) hC λa E=>?_;refine RH 0 E I hH hC λa E=>?_;refine SS E (ae E (hC 0 _ rfl)) λa E=>?_;refine RH 0 E I hH hC λa E=>?_;refine CL 0 E I (Ni (I.pick (aR W B p s))) λa w E I=>?_;replace hC:=hH.at w (I.ai (b:=mb));have wT:=(ax.facts (I.store sq)).1;refine RH 0 E I hH hC λa E=>?_;refine bh 0 E I (JS (g:=s.g) (I.store sq) hus (by omega)) λt' a w E ⟨⟨ht1,GO⟩,I⟩=>?_;refine RN 5 E I λa E=>?_;refine RN 4 E I λa E=>?_;replace E:=E.aP 55;refine aV 2 (λw0 w'=>Rd w' mb 0 (dV p ⟨mb,B,sq,r,tq,jq,dw,dG,aq,cO⟩ ra.length q9.id front)) [7] [0,1,2,4,5,6,3003,1007,1008] E I λa w E I hH=>?_;have hC:=hH.at w (I.ai (b:=mb));refine RH 6 E I hH hC λa E=>?_;refine QH E (λw hc=>ae E (hc 3 _ rfl)) hC λa E=>?_;refine RH 0 E I hH hC λa E=>?_;refine SS E (ae E (hC 7 _ rfl)) λa E=>?_;refine RH 0 E I hH hC λa E=>?_;refine bh 0 E I (AO (I.store sq)) λ_ a w E I=>?_;refine ST 6 E I (λa w E I=>?_);refine ST 2 E I (λa w E I=>?_);refine RT 0 E I ?_;have hm:=pf.aaC (F':=(aw s.k:Int)) (g:=s.g) (t':=t') wT (by omega) zt hg;have hd:=oS (A2.add s.g t') q9.id;exact⟨⟨s,(A2.add s.g t').eB q9.id,T2,J,ra,A2.last+1,aU s.k.ls⟩,t',rfl,⟨hm,rfl,rfl,rfl,hd.1.trans e4,by rw[hd.2.1];show A2.n+1≤A.n+1;omega,GN,B8,GM,b0,.inr zt,λe=>(by have e2:front=aU s.k.ls:=e;exfalso;omega)⟩,aF.fold I ⟨mb,B,sq,r,tq,jq,dw,dG,aq,cO⟩ p ⟨s,(A2.add s.g t').eB q9.id,T2,J,ra,A2.last+1,aU s.k.ls⟩⟩
end
end
section
abbrev bj (xs:List ee):List (List UInt8):=xs.map (·.2.2)
theorem sA {xs:List ee}{i:Nat}{x:ee}(h:xs[i]?=some x):(bj xs).getD i []=x.2.2:=by
 rw[bm,bl,h];rfl
theorem gb (xs:List ee):(bj xs).length=xs.length:=a8 _
theorem iM.at {w:World}{ad:Option Addr}{xs:List ee}(h:iM w ad xs){i:Nat}(hi:i<xs.length):∃ b off x,ad=some ⟨b,off,none⟩∧xs[i]?=some x∧w.cell? ⟨b,off+i,none⟩=some (aM x)∧aX w x.1 x.2.2.length x.2.2:=by
 obtain⟨b,off,hb,hr⟩:=h.1 (by omega);have hx:xs[i]?=some xs[i]:=aD hi;exact⟨b,off,xs[i],hb,hx,hr i _ (by rw[bl,hx];rfl),h.2 _ (bF hx)⟩
section
variable {W w:World}{L:List SP}{m cT to r f cl:Nat}{adT hE:Option Addr}{past:List UInt8}{b:Gs}{xs:List ee}
theorem B9 (I:U W w L)(h0:0<xs.length)(h8:xs.length≤8)(hp:∀ w',U W w' L→iM w' hE xs) :
   Calls prog 41 #[.slice hE xs.length cl] w λe w'=>e=.returned (.int .i64 (aU (bj xs)))∧U W w' L:=by
 refine EN func41 ntmps41 rfl rfl λa E=>?_;refine RN 3 E I λa E=>?_;obtain⟨na,ol,x0,rfl,GP,p1,fJ⟩:=(hp _ I).at h0;refine RN 3 E I λa E=>?_;refine SS E (ae E (p1)) λa E=>?_;rw[aM]at E;refine RN 5 E I λa E=>?_;rw[show ((x0.2.2.length:Nat):Int)=(iR (bj xs) 1:Nat) from by rw[Zj,iR,List.headD_eq_getD,sA GP]]at E;refine aN (λμ a w=>∃ (i:Nat),(μ=xs.length-i∧i≤xs.length∧1≤i)∧Fr a 25 [(0,.slice (some ⟨na,ol,none⟩) xs.length cl),(3,.int .i64 (iR (bj xs) i:Nat)),(4,.int .i64 i)]∧U W w L) (xs.length-1) (⟨1,⟨rfl,by omega,by omega⟩,E.ab [0,3,4],I⟩) ?_;clear E I;rintro μ a w ⟨i,⟨rfl,hi,lG⟩,E,I⟩;refine IF 6 E I (λaj a E=>?_) λaj a E=>?_
 ·
  obtain⟨_,_,x,g4,hx,p1,fJ⟩:=(hp _ I).at (i:=i) (by omega);cases g4;refine RN 6 E I λa E=>?_;refine SS E (ae E (p1)) λa E=>?_;rw[aM]at E;refine RN 2 E I λa E=>?_;rw[show min ((iR (bj xs) i:Nat):Int) ((x.2.2.length:Nat):Int)=((iR (bj xs) (i+1):Nat):Int) from by rw[iR,sA hx];omega]at E;refine RN 4 E I λa E=>?_;exact⟨xs.length-(i+1),by omega,i+1,⟨rfl,by omega,by omega⟩,E.ab [0,3,4],I⟩
 refine RT 3 E I ?_;obtain rfl:i=xs.length:=by omega
 exact⟨by rw[aU,gb],I⟩
theorem GQ (I:U W w L)(h0:0<xs.length)(h8:xs.length≤8)(hp:∀ w',U W w' L→iM w' hE xs)(hf:f<aU (bj xs)) :
   Calls prog 40 #[.slice hE xs.length cl,.int .i64 f] w λe w'=>∃ av c',e=.returned (.slice av (bJ (bj xs) f).length c')∧U W w' (Sl 5 1 av (bJ (bj xs) f).length c' (bc (bJ (bj xs) f))::L):=by
 refine EN func40 ntmps40 rfl rfl λa E=>?_;refine RN 7 E I λa E=>?_;replace I:=I.bM 5 1 none;refine aN (λμ a w=>∃ (i:Nat) (ad2:Option Addr) (c2:Nat),(μ=xs.length-i∧i≤xs.length)∧Fr a 25 [(0,.slice hE xs.length cl),(1,.int .i64 f),(5,.slice ad2 (fA (bj xs) f i).length c2),(6,.int .i64 i)]∧U W w (Sl 5 1 ad2 (fA (bj xs) f i).length c2 (bc (fA (bj xs) f i))::L)) (xs.length) (⟨0,none,0,⟨rfl,by omega⟩,E.ab [0,1,5,6],I⟩) ?_;clear E I;rintro μ a w ⟨i,ad2,c2,⟨rfl,hi⟩,E,I⟩;refine IF 6 E I (λaj a E=>?_) λaj a E=>?_
 ·
  obtain⟨na,ol,x,rfl,hx,p1,fJ⟩:=(hp _ I.tail).at (i:=i) (by omega);have ef:f<x.2.2.length:=by
   have h1:=xd (ls:=bj xs) (l:=x.2.2) (cR.2 ⟨x,bF hx,rfl⟩);omega
  obtain⟨mW,oU,g4,gv⟩:=fJ.get (by omega);have dQ:=tK (ls:=bj xs) (f:=f) (i:=i) (by rw[gb];exact hi);refine RN 6 E I λa E=>?_;refine SS E (ae E (p1)) λa E=>?_;rw[aM,g4]at E;refine RN 2 E I λa E=>?_;refine SS E (ae E (gv f _ (ln ef))) λa E=>?_;refine RN 0 E I λa E=>?_;refine cp E rfl I underlying22 Ty.t5 rfl rfl rfl rfl (by decide) (by decide) λu1 a w E I ho=>?_;clear ho;refine RN 0 E I λa E=>?_;refine cQ E rfl I underlying22 Ty.t5 rfl rfl I.ai rfl (ez [x.2.2.getD f 0]) (by decide) (by decide) (by omega) λgz gA a w E I=>?_;rw[show bc (fA (bj xs) f i)++_=bc (fA (bj xs) f (i+1)) from by rw[BF (by rw[gb];omega),getElem_map,fM,(aY.1 hx).2],show (fA (bj xs) f i).length+1=(fA (bj xs) f (i+1)).length from by rw[dQ,tK (by rw[gb];omega)]]at I;rw[show (fA (bj xs) f i).length+1=(fA (bj xs) f (i+1)).length from by rw[dQ,tK (by rw[gb];omega)]]at E;refine RN 4 E I λa E=>?_;exact⟨xs.length-(i+1),by omega,i+1,gz,gA,⟨rfl,by omega⟩,E.ab [0,1,5,6],I.sub⟩
 refine RT 3 E I ?_;obtain rfl:i=xs.length:=by omega
 have hj:fA (bj xs) f xs.length=bJ (bj xs) f:=by
  conv=>lhs;rw[← gb xs]
  exact BE _ _
 rw[hj]at I ⊢;exact⟨_,_,rfl,I⟩
set_option maxHeartbeats 1000000 in
theorem Ca (hr:r≤100000)(I:U W w L)(hb:cY b)(h0:0<xs.length)(h8:xs.length≤8)(hl:∀ l∈bj xs,l.length≤1000)(tQ:to≤1000)(hp:∀ w',U W w' L→iM w' hE xs)(ht:∀ w',U W w' L→aX w' adT b.table.length b.table) :
   Calls prog 117 #[.slice hE xs.length cl,.agg (dq b adT cT).toArray,.int .i64 r,.int .i64 to] w λe w'=>∃ (av:Option Addr) (c':Nat) (X:List (List UInt8)),e=.returned (.slice av (to-aU (bj xs)) c')∧(zj to (bj xs) X∧(r=0→X=jk b (bj xs) to)) ∧
    U W w' (cg av (to-aU (bj xs)) c' (nI X (aU (bj xs)) to)::L):=by
 have bD:bj xs≠[]:=λe=>by have h1:=gb xs;rw[e]at h1;simp at h1;omega
 have fw:aU (bj xs)≤1000:=by
  obtain⟨l,jA,j8⟩:=BD bD;rw[j8];exact hl l jA
 refine EN func117 ntmps117 rfl rfl λa E=>?_;refine BX 1 E I λb5 a w E I=>?_;change U W w (aa b5 47 (dq b adT cT)::_) at I;refine CL 3 E I (B9 (cl:=cl) I h0 h8 (λw' hw=>hp w' hw.tail)) λa w E I=>?_;refine bh 4 E I (Gy I) λsx a w E ⟨jT,I⟩=>?_;rw[jT.2 hb]at E;refine RN 2 E I λa E=>?_;replace E:=E.aP 23;refine RN 4 E I λa E=>?_;rw[bo (by omega)]at E;refine RN 4 E I λa E=>?_;rw[bo (by omega)]at E;refine IF 4 E I (λaj a E=>?_) λaj a E=>?_
 ·
  refine RT 2 E I ?_;have hz:to-aU (bj xs)=0:=by omega
  refine⟨none,0,jk b (bj xs) to,by rw[hz],⟨⟨by rw[jk,a8],λj l x hj hx=>?_⟩,λ_=>rfl⟩,?_⟩
  ·rw[jk,bl,hj]at hx;obtain rfl:oa b l to=x:=by simpa using hx
   exact aam (hl l (bF hj)) tQ
  ·rw[nI,hz];exact cg.nil I.tail
 refine RN 7 E I λa E=>?_;replace I:=I.bM 22 1 none;replace I:=U.ja (f:=ba) I;have agc:aU (bj xs)<to:=by omega
 refine aN (λμ a w=>∃ (i:Nat) (Np:Bool) (ys:List ee) (nJ:Option Addr) (nK:Nat),(μ=xs.length-i∧i≤xs.length∧ys.length=i∧(∀ (j:Nat) (l:List UInt8) (x:ee),(bj xs)[j]?=some l→ys[j]?=some x→xu to l x.2.2)∧(r=0→bj ys=(jk b (bj xs) to).take i))∧Fr a 117 [(0,.slice hE xs.length cl),(2,.int .i64 r),(3,.int .i64 to),(5,pt b5),(9,.int .i64 (aU (bj xs))),(10,.slice nJ i nK),(11,.bool Np),(12,.int .i64 i)]∧U W w (Sl 22 1 nJ i nK (ys.map aM)::ah ba ys::aa b5 47 (dq b adT cT)::L)) (xs.length) (⟨0,false,[],none,0,⟨rfl,by omega,rfl,λj l x _ h=>by simp at h,λ_=>rfl⟩,E.ab [0,2,3,5,9,10,11,12],(I.sub:U W w (Sl 22 1 none 0 0 []::ah ba []::aa b5 47 (dq b adT cT)::L))⟩) ?_;clear E I;rintro μ a w ⟨i,Np,ys,nJ,nK,⟨rfl,hi,jm,nQ,vo⟩,E,I⟩;refine IF 6 E I (λao a E=>?_) λao a E=>?_
 ·
  obtain⟨na,ol,x,rfl,hx,p1,fJ⟩:=(hp _ I.tail.tail.tail).at (i:=i) (by omega);have eI:(bj xs)[i]?=some x.2.2:=by rw[bl,hx];rfl
  have b9:=hl _ (bF eI);replace I:=I.bM 5 1 none;refine RN 6 E I λa E=>?_;refine SS E (ae E (p1)) λa E=>?_;rw[aM]at E;refine RN 0 E I λa E=>?_;refine g8 E rfl I underlying22 Ty.t5 rfl rfl (by decide) (λh0=>fJ.get h0) (by rw[dy];omega) (ez _) (by omega) λqd se a w E I=>?_;rw[nil_append,eG]at I;rw[eG]at E;refine RN 1 E I λa E=>?_;refine cc (M:=λa w=>∃ (Cb:Bool) (c1:Option Addr) (dT:Nat) (y:List UInt8),((∃ t,y=x.2.2++t)∧y.length≤x.2.2.length+1∧(y=x.2.2∨x.2.2.length=aU (bj xs))∧(r=0→y=x.2.2))∧Fr a 117 [(0,.slice (some ⟨na,ol,none⟩) xs.length cl),(2,.int .i64 r),(3,.int .i64 to),(5,pt b5),(9,.int .i64 (aU (bj xs))),(10,.slice nJ i nK),(11,.bool Cb),(12,.int .i64 i),(13,.slice c1 y.length dT)]∧U W w (Sl 5 1 c1 y.length dT (bc y)::Sl 22 1 nJ i nK (ys.map aM)::ah ba ys::aa b5 47 (dq b adT cT)::L)) ?_ ?_
  ·
   refine BY 4 E I (λbA a E=>?_) λbA a E=>?_
   ·
    refine BY 4 E I (λkc a E=>?_) λkc a E=>?_
    ·
     refine IF 5 E I (λay a E=>?_) λay a E=>?_
     ·
      refine RN 2 E I λa E=>?_;have y0:r%256<256:=Nat.mod_lt _ (by decide);have aaN:=(I.sl qd).2;refine SX 4 E I (by decide) λa E=>?_;rw[show ((r:Nat):Int).tmod 256=((r%256:Nat):Int) from oG _ 256]at E;generalize mm:r%256=r6 at E y0;refine RN 1 E I λa E=>?_;rw[show ((r6:Nat):Int)+1=((r6+1:Nat):Int) from by omega]at E;refine j3 0 E I (MR (past:=x.2.2) (k:=r6+1) I hb (by omega) (by omega) aaN (λw' hw=>hw.cu qd x.2.2 rfl rfl) (λw' hw=>ht w' hw.tail.tail.tail.tail)) λr9 o4 out a w E ⟨⟨ea,_⟩,I⟩=>?_;obtain⟨gw,or',rfl,jT⟩:=I.bU r9 (by omega);refine SX 1 E I (by decide) λa E=>?_;rw[show ((r:Nat):Int).tmod 256=((r6:Nat):Int) from by rw[← mm];exact oG _ 256]at E;refine RN 1 E I λa E=>?_;refine SS E (ae E (jT r6 _ (dU (by omega)))) λa E=>?_;refine RN 0 E I λa E=>?_;refine cp E rfl I underlying22 Ty.t5 rfl rfl rfl rfl (by decide) (by decide) λYH a w E I ho=>?_;clear ho;refine RN 0 E I λa E=>?_;refine cQ E rfl I underlying22 Ty.t5 rfl rfl I.ai rfl (ez [out[r6]]) (by decide) (by decide) (by omega) λLm Lo a w E I=>?_;rw[show bc x.2.2++_=bc (x.2.2++[out[r6]]) from (fM _ [_]).symm,show x.2.2.length+1=(x.2.2++[out[r6]]).length from by simp]at I;rw[show x.2.2.length+1=(x.2.2++[out[r6]]).length from by simp]at E;refine RN 1 E I λa E=>?_;exact⟨_,Lm,Lo,x.2.2++[out[r6]],⟨⟨_,rfl⟩,by simp,.inr (by omega),λh=>by omega⟩,E.ab [0,2,3,5,9,10,11,12,13],I.sub⟩
     refine RN 0 E I λa E=>?_;exact⟨_,qd,se,x.2.2,⟨⟨[],by simp⟩,by omega,.inl rfl,λ_=>rfl⟩,E.ab [0,2,3,5,9,10,11,12,13],I.sub⟩
    refine RN 6 E I λa E=>?_;exact⟨_,qd,se,x.2.2,⟨⟨[],by simp⟩,by omega,.inl rfl,λ_=>rfl⟩,E.ab [0,2,3,5,9,10,11,12,13],I.sub⟩
   refine RN 10 E I λa E=>?_;exact⟨_,qd,se,x.2.2,⟨⟨[],by simp⟩,by omega,.inl rfl,λ_=>rfl⟩,E.ab [0,2,3,5,9,10,11,12,13],I.sub⟩
  clear E;(try clear I);rintro a w ⟨Cb,c1,dT,y,⟨g5,jh,hy4,mA⟩,E,I⟩;refine cc (M:=λa w=>∃ (adq:Option Addr) (cq:Nat) (z:List UInt8),(xu to x.2.2 z∧(r=0→z=oa b x.2.2 to))∧Fr a 117 [(0,.slice (some ⟨na,ol,none⟩) xs.length cl),(2,.int .i64 r),(3,.int .i64 to),(5,pt b5),(9,.int .i64 (aU (bj xs))),(10,.slice nJ i nK),(11,.bool Cb),(12,.int .i64 i),(13,.slice adq z.length cq)]∧U W w (Sl 5 1 adq z.length cq (bc z)::Sl 22 1 nJ i nK (ys.map aM)::ah ba ys::aa b5 47 (dq b adT cT)::L)) ?_ ?_
  ·
   refine IF 5 E I (λbk a E=>?_) λbk a E=>?_
   ·
    have pd:=(I.sl c1).2;have GD:=FQ b y (to-y.length);refine RN 7 E I λa E=>?_;rw[show ((to:Nat):Int)-((y.length:Nat):Int)=((to-y.length:Nat):Int) from by omega]at E;refine aZ 0 E I (aak (past:=y) (m:=to-y.length) I hb (by omega) pd (by omega) (λw' hw=>hw.cu c1 y rfl rfl) (λw' hw=>ht w' hw.tail.tail.tail.tail)) λadc zk a w E I=>?_;refine RN 0 E I λa E=>?_;refine g8 E rfl I underlying22 Ty.t5 rfl rfl (by decide) (λh0=>(I.cu adc (kl b y (to-y.length)) rfl GD).get h0) (by rw[dy];omega) (ez _) (by omega) λaaO c85 a w E I=>?_;rw[← fM,vc,show y.length+(to-y.length)=(en b y (to-y.length)).length from by rw[iC]]at I;rw[show y.length+(to-y.length)=(en b y (to-y.length)).length from by rw[iC]]at E;refine RN 1 E I λa E=>?_;obtain⟨t,GF⟩:=g5;refine⟨aaO,c85,_,⟨⟨⟨t++kl b y (to-y.length),?_⟩,by rw[iC];omega,by rw[iC];omega⟩,λh=>?_⟩,E.ab [0,2,3,5,9,10,11,12,13],I.sub⟩
    ·rw[← vc,GF,dx]
    ·rw[mA h,oa]
   refine RN 0 E I λa E=>?_;exact⟨c1,dT,y,⟨⟨g5,by omega,by omega⟩,λh=>by rw[MT (by rw[← mA h];omega)];exact mA h⟩,E.ab [0,2,3,5,9,10,11,12,13],I⟩
  clear E;(try clear I);rintro a w ⟨adq,cq,z,⟨cV,eS⟩,E,I⟩;refine RN 2 E I λa E=>?_;refine cp E rfl I underlying207 Ty.t22 rfl rfl rfl rfl (by decide) (by decide) λb88 a w E I ho=>?_;clear ho;refine RN 0 E I λa E=>?_;refine cQ E rfl I underlying207 Ty.t22 rfl rfl I.ai rfl (by simp[Value.oneCell']) (by decide) (by decide) (by omega) λNq Nr a w E I=>?_;rw[show List.map aM ys++_=List.map aM (ys++[(adq,cq,z)]) from by rw[cW];rfl]at I;refine RN 4 E I λa E=>?_;have dz:=U.j1 (f:=ba) (x:=(adq,cq,z)) (I.sub (M:=Sl 5 1 adq z.length cq (bc z)::ah ba ys::Sl 22 1 Nq (i+1) Nr ((ys++[(adq,cq,z)]).map aM)::aa b5 47 (dq b adT cT)::L));refine⟨xs.length-(i+1),by omega,i+1,Cb,ys++[(adq,cq,z)],Nq,Nr,⟨rfl,by omega,by rw[aJ,jm];rfl,λj l y hj hy=>?_,λh=>?_⟩,E.ab [0,2,3,5,9,10,11,12],dz.sub⟩
  ·by_cases gU:j<i
   ·rw[mF (by omega)]at hy;exact nQ j l y hj hy
   ·have dQ:=(aY.1 hy).1;rw[aJ,jF]at dQ;obtain rfl:j=i:=by omega
    rw[pD (by omega),jm,Nat.sub_self]at hy;obtain rfl:(adq,cq,z)=y:=by simpa using hy
    rw[eI]at hj;obtain rfl:x.2.2=l:=by simpa using hj
    exact cV
  ·rw[bj,cW,← bj,vo h,jx (by rw[jk,a8,gb];omega)]
   congr 1
   rw[map_singleton,eS h];simp only[jk,getElem_map];rw[(aY.1 hx).2]
 obtain rfl:i=xs.length:=by omega
 have iA:zj to (bj xs) (bj ys):=⟨by rw[gb,gb];exact jm,λj l x hj hx=>by
  rw[bl]at hx;obtain⟨y,hy,rfl⟩:=rI.1 hx;exact nQ j l y hj hy⟩
 have m2:r=0→bj ys=jk b (bj xs) to:=λh=>by rw[vo h,gi (by rw[jk,a8,gb];exact a7 _)]
 clear nQ vo;refine RN 6 E I λa E=>?_;replace I:=I.bM 22 1 none;replace I:=U.ja (f:=ba) I;refine aN (λμ a w=>∃ (d:Nat) (zs:List ee) (m3:Option Addr) (m4:Nat),(μ=to-aU (bj xs)-d∧d≤to-aU (bj xs)∧bj zs=(List.range d).map λi=>bJ (bj ys) (aU (bj xs)+i))∧Fr a 117 [(0,.slice hE xs.length cl),(3,.int .i64 to),(10,.slice nJ xs.length nK),(14,.slice m3 d m4),(15,.int .i64 (aU (bj xs)+d:Nat))]∧U W w (Sl 22 1 m3 d m4 (zs.map aM)::ah ba zs::Sl 22 1 nJ xs.length nK (ys.map aM)::ah ba ys::L)) (to-aU (bj xs)) (⟨0,[],none,0,⟨rfl,by omega,rfl⟩,by rw[Nat.add_zero];exact E.ab [0,3,10,14,15],(I.sub:U W w (Sl 22 1 none 0 0 []::ah ba []::Sl 22 1 nJ xs.length nK (ys.map aM)::ah ba ys::L))⟩) ?_;clear E I;rintro μ a w ⟨d,zs,m3,m4,⟨rfl,hd,tU⟩,E,I⟩;refine IF 5 E I (λbN a E=>?_) λbN a E=>?_
 ·
  refine RN 6 E I λa E=>?_;replace I:=I.bM 5 1 none;refine aN (λμ a w=>∃ (i:Nat) (iT:Option Addr) (jo:Nat),(μ=xs.length-i∧i≤xs.length)∧Fr a 117 [(0,.slice hE xs.length cl),(3,.int .i64 to),(10,.slice nJ xs.length nK),(14,.slice m3 d m4),(15,.int .i64 (aU (bj xs)+d:Nat)),(16,.slice iT i jo),(17,.int .i64 i)]∧U W w (Sl 5 1 iT i jo (bc (fA (bj ys) (aU (bj xs)+d) i))::Sl 22 1 m3 d m4 (zs.map aM)::ah ba zs::Sl 22 1 nJ xs.length nK (ys.map aM)::ah ba ys::L)) (xs.length) (⟨0,none,0,⟨rfl,by omega⟩,E.ab [0,3,10,14,15,16,17],I⟩) ?_;clear E I;rintro μ a w ⟨i,iT,jo,⟨rfl,hi⟩,E,I⟩;refine IF 6 E I (λeN a E=>?_) λeN a E=>?_
  ·
   have aI:i<xs.length:=by omega
   have B0:=U.mJ (xs:=ys) (I.sub (M:=Sl 22 1 nJ xs.length nK (ys.map aM)::ah ba ys::[]));obtain⟨a2,agd,y,rfl,hy,pg,qm⟩:=B0.at (i:=i) (by omega);have Cc:=iA.fit i _ y.2.2 (aD (by rw[gb];exact aI)) (by rw[bl,hy];rfl);obtain⟨bb,oo,ua,gv⟩:=qm.get (by have:=Cc.2.1;omega);refine RN 5 E I λa E=>?_;refine SS E (ae E (pg)) λa E=>?_;rw[aM,ua]at E;refine SX 1 E I (by have:=Cc.2.1;omega) λa E=>?_;refine RN 0 E I λa E=>?_;refine SS E (ae E (gv (aU (bj xs)+d) _ (ln (by have:=Cc.2.1;omega)))) λa E=>?_;refine RN 0 E I λa E=>?_;refine cp E rfl I underlying22 Ty.t5 rfl rfl rfl rfl (by decide) (by decide) λSd a w E I ho=>?_;clear ho;refine RN 0 E I λa E=>?_;refine cQ E rfl I underlying22 Ty.t5 rfl rfl I.ai rfl (ez [y.2.2.getD (aU (bj xs)+d) 0]) (by decide) (by decide) (by omega) λaaP aaQ a w E I=>?_;rw[show bc (fA (bj ys) (aU (bj xs)+d) i)++_=bc (fA (bj ys) (aU (bj xs)+d) (i+1)) from by rw[BF (by rw[gb];omega),getElem_map,fM,(aY.1 hy).2]]at I;refine RN 4 E I λa E=>?_;exact⟨xs.length-(i+1),by omega,i+1,aaP,aaQ,⟨rfl,by omega⟩,E.ab [0,3,10,14,15,16,17],I.sub⟩
  obtain rfl:i=xs.length:=by omega
  have dQ:fA (bj ys) (aU (bj xs)+d) xs.length=bJ (bj ys) (aU (bj xs)+d):=by
   conv=>lhs;rw[← jm,← gb]
   exact BE _ _
  rw[dQ]at I;have qH:(bJ (bj ys) (aU (bj xs)+d)).length=xs.length:=by rw[nD,gb];exact jm
  refine RN 2 E I λa E=>?_;refine cp E rfl I underlying207 Ty.t22 rfl rfl rfl rfl (by decide) (by decide) λSe a w E I ho=>?_;clear ho;refine RN 0 E I λa E=>?_;refine cQ E rfl I underlying207 Ty.t22 rfl rfl I.ai rfl (by simp[Value.oneCell']) (by decide) (by decide) (by omega) λNs Nt a w E I=>?_;rw[show List.map aM zs++_=List.map aM (zs++[(iT,jo,bJ (bj ys) (aU (bj xs)+d))]) from by rw[cW,map_singleton,aM,qH];rfl]at I;refine RN 4 E I λa E=>?_;have dz:=U.j1 (f:=ba) (x:=(iT,jo,bJ (bj ys) (aU (bj xs)+d))) (by
   rw[ba,qH];exact I.sub (M:=Sl 5 1 iT xs.length jo (bc (bJ (bj ys) (aU (bj xs)+d)))::ah ba zs::Sl 22 1 Ns (d+1) Nt ((zs++[(iT,jo,bJ (bj ys) (aU (bj xs)+d))]).map aM)::Sl 22 1 nJ xs.length nK (ys.map aM)::ah ba ys::L))
  exact⟨to-aU (bj xs)-(d+1),by omega,d+1,zs++[(iT,jo,bJ (bj ys) (aU (bj xs)+d))],Ns,Nt,⟨rfl,by omega,by rw[bj,cW,← bj,tU,range_succ,cW];rfl⟩,by rw[show ((aU (bj xs)+(d+1):Nat):Int)=((aU (bj xs)+d:Nat):Int)+1 from by omega];exact E.ab [0,3,10,14,15],dz.sub⟩
 obtain rfl:d=to-aU (bj xs):=by omega
 refine RT 3 E I ?_;exact⟨m3,m4,bj ys,rfl,⟨iA,m2⟩,cg.close (xs:=zs) (I.sub (M:=Sl 22 1 m3 (to-aU (bj xs)) m4 (zs.map aM)::ah ba zs::L)) tU (BZ _ _ _)⟩
end
end
section
section
variable {W w:World}{Z:List SP}{n c i tq sq r nk base front:Nat}{ad:Option Addr}{M:jJ}{B:jr}{y:UInt8}{x:Br}{p:Pr}{s:Pl}{T:Tr}
theorem aaR (I:U W w (aa M.mb 177 (dV p M nk base front)::aR W M.B p s::Z))(hw:ct p s)(hx:wE W (aa M.mb 177 (dV p M nk base front)::aR W M.B p s::Z) ad x.al)
   (hf:x.frm=(front:Int)) (hj:∀ j∈x.al,j.length=s.k.n) (hb:front+x.al.length≤100000) :
   Calls prog 288 #[pt M.mb,.agg (ch x ad c).toArray] w λe w'=>e=.returned (.bool (jK s.k.ls front x.al))∧U W w' (aa M.mb 177 (dV p M nk base front)::aR W M.B p s::Z):=by
 obtain⟨zs,hz,hx⟩:=hx;have bD:=hw.wc.lu;have fa:=hw.wc.ls;have xB:=hw.wc.n;have iL:zs.length=x.al.length:=by rw[← hz,a8]
 refine EN func288 ntmps288 rfl rfl λa E=>?_;refine BX 1 E I λb3 a w E I=>?_;refine CL 6 E I (oh (I.pick (aR W M.B p s))) λa w E I=>?_;replace I:=aR.open I;refine CL 0 E I (pc (I.pick (az M.B.core s.k))) λa w E I=>?_;refine RN 1 E I λa E=>?_;obtain⟨D,I,hD⟩:=az.qu I;have Nu:∀ w',U W w' (Qu M.B.core.qb M.B.core.aB s.k.ls::D::aa M.B.pb 192 (gB p M.B s.g)::aA W p M.B.aq M.B.cO::Sl 5 1 M.B.adT M.B.gs.table.length M.B.cT (bc M.B.gs.table)::aa M.mb 177 (dV p M nk base front)::Z)→iM w' ad zs :=
  λw' h=>hx w' ((aR.fold (hD _ _ h) M.B p s).sub)
 refine RN 6 E I λa E=>?_;refine aN (λμ a w=>∃ (i:Nat),(μ=x.al.length-i∧i≤x.al.length∧(∀ j,j<i→tY s.k.ls (front+j) (x.al.getD j [])=true))∧Fr a 59 [(0,pt M.mb),(3,pt b3),(5,pt M.B.core.qb),(19,.slice ad x.al.length c),(20,.int .i64 x.al.length),(21,.int .i64 i)]∧U W w (Qu M.B.core.qb M.B.core.aB s.k.ls::D::aa b3 238 (ch x ad c)::aa M.B.pb 192 (gB p M.B s.g)::aA W p M.B.aq M.B.cO::Sl 5 1 M.B.adT M.B.gs.table.length M.B.cT (bc M.B.gs.table)::aa M.mb 177 (dV p M nk base front)::Z)) (x.al.length) (⟨0,⟨rfl,by omega,λj h=>absurd h (by omega)⟩,E.ab [0,3,5,19,20,21],I.sub⟩) ?_;clear E I;rintro μ a w ⟨i,⟨rfl,hi,ph⟩,E,I⟩;refine IF 3 E I (λaj a E=>?_) λaj a E=>?_
 ·
  have aI:i<zs.length:=by omega
  obtain⟨mW,oU,z,g6,kQ,mL,GR⟩:=(Nu _ I.sub).at aI;have Nv:x.al.getD i []=z.2.2:=by rw[bm,← hz,bl,kQ];rfl
  have KJ:z.2.2.length=s.k.n:=hj _ (by rw[← hz];exact cR.2 ⟨z,bF kQ,rfl⟩);refine RN 3 E I λa E=>?_;rw[g6]at E;refine RN 1 E I λa E=>?_;refine SS E (ae E (mL)) λa E=>?_;rw[← g6]at E;rw[aM]at E;refine RN 6 E I λa E=>?_;refine aN (λμ a w=>∃ (v:Nat),(μ=z.2.2.length-v∧v≤z.2.2.length∧(∀ q,q<v→front+i<(s.k.ls.getD q []).length→(s.k.ls.getD q []).getD (front+i) 0=z.2.2.getD q 0))∧Fr a 59 [(0,pt M.mb),(3,pt b3),(5,pt M.B.core.qb),(6,.int .i64 i),(19,.slice ad x.al.length c),(20,.int .i64 x.al.length),(21,.int .i64 i),(26,.slice z.1 z.2.2.length z.2.1),(27,.int .i64 z.2.2.length),(28,.int .i64 v)]∧U W w (Qu M.B.core.qb M.B.core.aB s.k.ls::D::aa b3 238 (ch x ad c)::aa M.B.pb 192 (gB p M.B s.g)::aA W p M.B.aq M.B.cO::Sl 5 1 M.B.adT M.B.gs.table.length M.B.cT (bc M.B.gs.table)::aa M.mb 177 (dV p M nk base front)::Z)) (z.2.2.length) (⟨0,⟨rfl,by omega,λj h=>absurd h (by omega)⟩,E.ab [0,3,5,6,19,20,21,26,27,28],I⟩) ?_;clear E I;rintro μ a w ⟨v,⟨rfl,hv,GS⟩,E,I⟩;refine IF 3 E I (λao a E=>?_) λao a E=>?_
  ·
   have Cd:v<z.2.2.length:=by omega
   have Nw:v<s.k.ls.length:=by omega
   obtain⟨age,agf,cV,Ce⟩:=((Nu _ I.sub).2 z (bF kQ)).get (by omega);refine RN 3 E I λa E=>?_;rw[cV]at E;refine RN 1 E I λa E=>?_;refine SS E (ae E (Ce v _ (ln Cd))) λa E=>?_;rw[← cV]at E;refine aV 3 (λw0 w'=>Rd w' b3 0 (ch x ad c)) [2] [0,1,3,5,3004,6,1002,1007,8,9,10,11,12] E I λa w E I hH=>?_;have hC:=hH.at w (I.ai (b:=b3));refine RH 4 E I hH hC λa E=>?_;refine QH E (λw hc=>ae E (hc 1 _ rfl)) hC λa E=>?_;refine RH 1 E I hH hC λa E=>?_;rw[hf,show ((front:Nat):Int)+(i:Int)=((front+i:Nat):Int) from rfl]at E;refine CL 0 E I (tL (I.pick (Qu M.B.core.qb M.B.core.aB s.k.ls)) Nw) λa w E I=>?_;replace hC:=hH.at w (I.ai (b:=b3));refine RH 0 E I hH hC λa E=>?_;refine CL 0 E I (Zs I Nw) λa w E I=>?_;refine RN 5 E I λa E=>?_;refine BY 3 E I (λnr a E=>?_) λnr a E=>?_
   ·
    refine IF 4 E I (λay a E=>?_) λay a E=>?_
    ·
     refine RT 2 E I ?_;exact⟨by rw[aaE (i:=i) (by omega) (by rw[Nv];exact aaD Cd nr (λe=>ay (by rw[e])))],((aR.fold (hD _ _ I) M.B p s).sub)⟩
    refine RN 2 E I λa E=>?_;refine⟨z.2.2.length-(v+1),by omega,v+1,⟨rfl,by omega,λq hq h1=>?_⟩,E.ab [0,3,5,6,19,20,21,26,27,28],I.sub⟩;rcases (by omega:q<v∨q=v) with h | rfl
    ·exact GS q h h1
    ·exact UInt8.toNat.inj (by omega)
   refine RN 7 E I λa E=>?_;refine⟨z.2.2.length-(v+1),by omega,v+1,⟨rfl,by omega,λq hq h1=>?_⟩,E.ab [0,3,5,6,19,20,21,26,27,28],I.sub⟩;rcases (by omega:q<v∨q=v) with h | rfl
   ·exact GS q h h1
   ·omega
  refine RN 2 E I λa E=>?_;refine⟨x.al.length-(i+1),by omega,i+1,⟨rfl,by omega,λj hj=>?_⟩,E.ab [0,3,5,19,20,21],I.sub⟩;rcases (by omega:j<i∨j=i) with h | rfl
  ·exact ph j h
  ·rw[Nv];exact Nl λq hq=>GS q (by omega)
 refine bR 1 [5] [0,2,3,4,3001,1005,6,7] E I λa w E I hH hC=>?_;refine RH 8 E I hH hC λa E=>?_;refine RT 0 E I ?_;exact⟨by rw[hf,dk rfl,Nm λj hj=>ph j (by omega)],((aR.fold (hD _ _ I) M.B p s).sub)⟩
theorem aaS {P:List (List UInt8)}(I:U W w (aa M.mb 177 (dV p M nk base front)::Tree M.tq M.sq T::Z))(hx:wE W Z ad P)(tB:P.length≤65536) :
   Calls prog 305 #[pt M.mb,.slice ad P.length c] w λe w'=>∃ r:Bool,e=.returned (.bool r)∧(r=true→T.l≠[])∧U W w' (aa M.mb 177 (dV p M nk base front)::Tree M.tq M.sq T::Z):=by
 obtain⟨zs,hz,hx⟩:=hx;have iL:zs.length=P.length:=by rw[← hz,a8]
 have lj:=Tree.wt (I.tree M.tq);have Nx:=lj.most;refine EN func305 ntmps305 rfl rfl λa E=>?_;refine aZ 8 E I (AM (I.tree M.tq)) λub re a w E I=>?_;obtain⟨xs,h1,h2,I⟩:=k8.open I;have b9:xs.length=T.l.length:=by rw[← h1,a8]
 refine RN 2 E I λa E=>?_;refine aN (λμ a w=>∃ (i:Nat),(μ=T.l.length-i∧i≤T.l.length)∧Fr a 61 [(0,pt M.mb),(1,.slice ad P.length c),(14,.slice ub T.l.length re),(15,.int .i64 T.l.length),(16,.int .i64 i)]∧U W w (Sl 238 5 ub T.l.length re (rows da xs)::ah bY xs::Tree M.tq M.sq T::aa M.mb 177 (dV p M nk base front)::Z)) (T.l.length) (⟨0,⟨rfl,by omega⟩,E.ab [0,1,14,15,16],I.sub⟩) ?_;clear E I;rintro μ a w ⟨i,⟨yz,hi⟩,E,I⟩;refine IF 3 E I (λaj a E=>?_) λaj a E=>?_
 ·
  obtain⟨b',dH,rfl,c9⟩:=I.bU ub (by omega);obtain⟨⟨x,eJ,de⟩,dY⟩:∃ y,xs[i]?=some y:=⟨_,aD (by omega)⟩;have fX:=oM c9 dY;have jB:T.l[i]?=some x:=by rw[← h1,bl,dY];rfl
  have kL:=lj.ok x (bF jB);have hxP:=kL.1.1;have aaT:T.l≠[]:=λe=>by rw[e]at jB;cases jB
  refine RN 3 E I λa E=>?_;refine SS E (bT E underlying238 rfl Ty.t238 (fX)) λa E=>?_;refine AL 0 E I λcH a w E I=>?_;refine SA 0 E I λa w E I=>?_;refine RN 6 E I λa E=>?_;refine cc (M:=λa w=>∃ q:Bool,(q=false→x.al.length≤P.length)∧Fr a 61 [(0,pt M.mb),(1,.slice ad P.length c),(6,pt cH),(7,.int .i64 x.al.length),(14,.slice (some ⟨b',dH,none⟩) T.l.length re),(15,.int .i64 T.l.length),(16,.int .i64 i),(38,.bool q)]∧U W w (aa cH 238 (ch x eJ de)::Sl 238 5 (some ⟨b',dH,none⟩) T.l.length re (rows da xs)::ah bY xs::Tree M.tq M.sq T::aa M.mb 177 (dV p M nk base front)::Z)) ?_ ?_
  ·
   refine BY 5 E I (λdE a E=>?_) λdE a E=>?_
   ·
    refine RN 11 E I λa E=>?_;exact⟨_,(λh=>by first | omega | cases h),E.ab [0,1,6,7,14,15,16,38],I.sub⟩
   refine BY 5 E I (λr5 a E=>?_) λr5 a E=>?_
   ·
    refine RN 6 E I λa E=>?_;exact⟨_,(λh=>by first | omega | cases h),E.ab [0,1,6,7,14,15,16,38],I.sub⟩
   refine RN 6 E I λa E=>?_;exact⟨_,(λh=>by first | omega | cases h),E.ab [0,1,6,7,14,15,16,38],I.sub⟩
  clear E;(try clear I);rintro a w ⟨q,hq,E,I⟩;refine IF 0 E I (λao a E=>?_) λao a E=>?_
  ·
   refine RN 2 E I λa E=>?_;exact⟨T.l.length-(i+1),by omega,i+1,⟨rfl,by omega⟩,E.ab [0,1,14,15,16],I.sub⟩
  have n1:=hq ao;refine RN 6 E I λa E=>?_;refine aN (λμ a w=>∃ (v:Nat) (BB:Bool),(μ=x.al.length-v∧v≤x.al.length)∧Fr a 61 [(0,pt M.mb),(1,.slice ad P.length c),(6,pt cH),(7,.int .i64 x.al.length),(8,.bool BB),(14,.slice (some ⟨b',dH,none⟩) T.l.length re),(15,.int .i64 T.l.length),(16,.int .i64 i),(39,.int .i64 x.al.length),(40,.int .i64 v)]∧U W w (aa cH 238 (ch x eJ de)::Sl 238 5 (some ⟨b',dH,none⟩) T.l.length re (rows da xs)::ah bY xs::Tree M.tq M.sq T::aa M.mb 177 (dV p M nk base front)::Z)) (x.al.length) (⟨0,true,⟨rfl,by omega⟩,E.ab [0,1,6,7,8,14,15,16,39,40],I⟩) ?_;clear E I;rintro μ a w ⟨v,BB,⟨rfl,hv⟩,E,I⟩;refine IF 3 E I (λay a E=>?_) λay a E=>?_
  ·
   have Cd:v<x.al.length:=by omega
   refine RN 4 E I λa E=>?_;obtain⟨q8,GU,EH,f9⟩:=(ah.pP (I.drew.pick (ah bY xs)) dY).1.2 (by omega);obtain⟨sB,sf,lS,Ny⟩:=f9 v x.al[v] (aD Cd);obtain⟨dt,GV,z,g6,kQ,mL,GR⟩:=(hx _ I.drew.sub).at (i:=v) (by omega);clear f9;refine rG 0 (λw'=>(Rd w' cH 0 (ch x eJ de)∧w'.cell? ⟨q8,GU+v,none⟩=some (.slice sB x.al[v].length sf)∧aX w' sB x.al[v].length x.al[v])∧(w'.cell? ⟨dt,GV+v,none⟩=some (aM z)∧aX w' z.1 z.2.2.length z.2.2)) [11,12] [0,1,2,4,8,9,10,3003,5,3006,3007,1011,1012,13,14,15] E I λa E=>?_;replace I:=I.drew;generalize w.drew=w at I lS Ny mL GR ⊢;have hC:(Rd w cH 0 (ch x eJ de)∧w.cell? ⟨q8,GU+v,none⟩=some (.slice sB x.al[v].length sf)∧aX w sB x.al[v].length x.al[v])∧(w.cell? ⟨dt,GV+v,none⟩=some (aM z)∧aX w z.1 z.2.2.length z.2.2):=⟨⟨I.ai (b:=cH),lS,Ny⟩,mL,GR⟩;have hH:=Hd.any (λw'=>(Rd w' cH 0 (ch x eJ de)∧w'.cell? ⟨q8,GU+v,none⟩=some (.slice sB x.al[v].length sf)∧aX w' sB x.al[v].length x.al[v])∧(w'.cell? ⟨dt,GV+v,none⟩=some (aM z)∧aX w' z.1 z.2.2.length z.2.2));refine RH 2 E I hH hC λa E=>?_;refine E.by (s:=44) (λnr E=>?_) (λnr E=>?_)
   ·
    refine RH 4 E I hH hC λa E=>?_;rw[g6]at E;refine RH 1 E I hH hC λa E=>?_;rw[← g6]at E;refine QH E (λw hc=>ae E (hc.1.1 2 _ rfl)) hC λa E=>?_;rw[EH]at E;refine RH 1 E I hH hC λa E=>?_;refine QH E (λw hc=>ae E (hc.1.2.1)) hC λa E=>?_;refine QH E (λw hc=>lL E underlying22 underlying5 underlying9 (hc.1.2.2)) hC λa E=>?_;refine RH 0 E I hH hC λa E=>?_;refine bw E (cw E rfl (s:=44)) (ae E (hC.2.1)) rfl λa E=>?_;rw[aM]at E;refine RH 0 E I hH hC λa E=>?_;refine bw E (cw E rfl (s:=44)) (lL E underlying22 underlying5 underlying9 (hC.2.2)) rfl λa E=>?_;refine RH 0 E I hH hC λa E=>?_;refine QP E (λw=>sW E) λa E=>?_;refine RH 2 E I hH hC λa E=>?_;refine RN 2 E I λa E=>?_;exact⟨x.al.length-(v+1),by omega,v+1,_,⟨rfl,by omega⟩,E.ab [0,1,6,7,8,14,15,16,39,40],I.sub⟩
   refine RH 14 E I hH hC λa E=>?_;refine RN 2 E I λa E=>?_;exact⟨x.al.length-(v+1),by omega,v+1,_,⟨rfl,by omega⟩,E.ab [0,1,6,7,8,14,15,16,39,40],I.sub⟩
  refine IF 2 E I (λbk a E=>?_) λbk a E=>?_
  ·
   refine RT 2 E I ?_;exact⟨_,rfl,λ_=>aaT,I.sub⟩
  refine RN 2 E I λa E=>?_;exact⟨T.l.length-(i+1),by omega,i+1,⟨rfl,by omega⟩,E.ab [0,1,14,15,16],I.sub⟩
 refine RT 2 E I ?_;exact⟨_,rfl,(λh=>by cases h),I.sub⟩
end
end
section
def vr (k:Ks)(T:Tr):Prop:=∀ y∈T.l,(∀ j∈y.al,j.length=k.n)∧jK k.ls (aw k) y.al=true
def qn (T:Tr)(J:Js)(i:Nat):Js:=(T.l.take i).foldl (λJ y=>if y.done<y.al.length then mh J y.id T.epoch else J) J
def zu (T:Tr)(J:Js):Js:=qn T (kept (λj=>decide (j.2<T.epoch)) J) T.l.length
theorem aaU {T:Tr}{J:Js}{i:Nat}{x:Br}(h:T.l[i]?=some x):qn T J (i+1)=if x.done<x.al.length then mh (qn T J i) x.id T.epoch else qn T J i:=by
 obtain⟨hi,rfl⟩:=aY.1 h;rw[qn,jx hi,foldl_append];rfl
theorem Nz {T:Tr}{J:Js}(h:J.length≤16)(i:Nat):(qn T J i).length≤16:=by
 unfold qn;generalize T.l.take i=l
 induction l generalizing J with
 | nil=>exact h
 | cons y l ih =>
  rw[foldl_cons];apply ih;split
  ·exact AU h
  ·exact h
theorem NA {J:Js}(f:Int×Int→Bool)(h:J.length≤16):(kept f J).length≤16:=fG (pR _ _) h
theorem aaV {ls X:List (List UInt8)}{fr to:Nat}(h:zj to ls X):(∀ j∈nI X fr to,j.length=ls.length)∧jK ls fr (nI X fr to)=true:=by
 refine⟨λj hj=>?_,Nm λi hi=>Nl λq hq h1=>?_⟩
 ·rw[nI,cR]at hj;obtain⟨i,_,rfl⟩:=hj;rw[nD,h.len]
 ·rw[BZ]at hi;have he:(nI X fr to).getD i []=bJ X (fr+i):=by
   rw[nI,bm,bl,getElem?_range hi];rfl
  rw[he,nD]at hq;rw[he];obtain⟨l,hl⟩:∃ l,ls[q]?=some l:=⟨_,aD (by rw[← h.len];exact hq)⟩;obtain⟨x,hx⟩:∃ x,X[q]?=some x:=⟨_,aD hq⟩;obtain⟨⟨t,rfl⟩,_⟩:=h.fit q l x hl hx;have e1:ls.getD q []=l:=by rw[bm,hl];rfl
  rw[e1]at h1 ⊢;rw[bJ,bm,bm,bl,hx];show _=((l++t).getD (fr+i) 0);rw[bm,mF h1]
structure sC (p:Pr)(s:Pl)(t:Nat→Nat)(base:Nat)(A0:Sn)(T0:Tr)(r:Nat)(ws:List Wk)(A:Sn)(T:Tr):Prop where
 inv:Inv p (aw s.k:Int) s.g t base A T ws
 gk:vr s.k T
 room:A.room=A0.room
 n:A.n≤A0.n+r
 last:T.last≤T0.last+r
 most:T.most=T0.most
 sS:T.epoch=T0.epoch
 add:∃ l,T.l=T0.l++l∧∀ y∈l,y.done=0∧y.al≠[]∧y.al.length=aG s.k-aw s.k
 has:0<r→aw s.k<aG s.k→T.l≠[]
section
variable {p:Pr}{s:Pl}{t:Nat→Nat}{base r i:Nat}{A0 A:Sn}{T0 T:Tr}{ws:List Wk}{P:List (List UInt8)}{px:aC}
theorem sC.skip (h:sC p s t base A0 T0 r ws A T)(hT:aw s.k<aG s.k→T.l≠[]):sC p s t base A0 T0 (r+1) ws A T :=
 ⟨h.inv,h.gk,h.room,Nat.le_succ_of_le h.n,Nat.le_succ_of_le h.last,h.most,h.sS,h.add,λ_=>hT⟩
theorem sC.push (h:sC p s t base A0 T0 r ws A T)(hA:WF A)(hT:WT T)(hi:A.ar[i]?=some px)(hb:px.id=base)(h0:P≠[])(tB:P.length=aG s.k-aw s.k)(hj:∀ j∈P,j.length=s.k.n)(hk:jK s.k.ls (aw s.k) P=true) :
   sC p s t base A0 T0 (r+1) ws (A.add px.g px.p) (T.add (aw s.k:Int) P (A.last+1)):=by
 refine⟨h.inv.WD hA hT hi hb,λy hy=>?_,h.room,?_,?_,h.most,h.sS,?_,λ_ _ e=>?_⟩
 ·rcases eT.1 hy with hy | hy
  ·exact h.gk y hy
  ·rw[iK.1 hy];exact⟨hj,hk⟩
 ·have:=h.n;simp only[Sn.add];omega
 ·have:=h.last;simp only[Tr.add];omega
 ·obtain⟨l,h1,h2⟩:=h.add;refine⟨l++[⟨T.last+1,(aw s.k:Int),P,0,A.last+1⟩],by simp only[Tr.add];rw[h1,dx],λy hy=>?_⟩;rcases eT.1 hy with hy | hy
  ·exact h2 y hy
  ·rw[iK.1 hy];exact⟨rfl,h0,tB⟩
 ·simp[Tr.add]at e
end
section
variable {W w:World}{L Z:List SP}{n i tq sq r base front:Nat}{M:jJ}{B:jr}{y:UInt8}{x:Br}{p:Pr}{s:Pl}{m:Mu}{A:Sn}{T:Tr}{g0:Nat→Int}{t:Nat→Nat}{px:aC}
theorem aaW {frm:Int}{ad2:Option Addr}{c2 id:Nat}{zs:List ee}{P:List (List UInt8)}(I:U W w (Tree tq sq T::ax sq r A::L))(hr:∀ w',U W w' L→iM w' ad2 zs)(hz:zs.map (·.2.2)=P)(hc:P.length≤c2)(dr:nX P)(h0:P≠[])
   (hx:A.ar[i]?=some px) (b6:px.id=id) (hb:A.n+1<1099511627776) (hl:T.last+1<1099511627776) :
   Calls prog 306 #[pt tq,.int .i64 frm,.int .i64 id,.slice ad2 P.length c2] w λe w'=>∃ (z:Nat) (ok:Bool),e=.returned (.tuple #[.int .i64 z,.bool ok]) ∧
    (((T.most=0∨T.l≠[])∧U W w' (Tree tq sq T::ax sq r A::L))∨U W w' (Tree tq sq (T.add frm P (A.last+1))::ax sq r (A.add px.g px.p)::L)):=by
 by_cases hm:T.l.length<T.most
 ·refine (X5 I hr hz hc dr hx b6 hb hl hm).mono λe w' ⟨z,ok,h1,h2⟩=>⟨z,ok,h1,?_⟩;rcases h2 with ⟨_,h3,h4⟩ | ⟨_,_,_,_,h4⟩
  ·refine .inl ⟨.inr λe=>?_,h4⟩;rcases h3 with h3 | ⟨y,hy,_⟩
   ·exact h0 h3
   ·rw[e]at hy;cases hy
  ·exact .inr h4
 ·refine (J4 I (.inl (by omega))).mono λe w' ⟨h1,I⟩=>⟨0,false,h1,.inl ⟨?_,I⟩⟩;rcases lI T.most with h | h
  ·exact .inl h
  ·exact .inr λe=>by rw[e]at hm;simp at hm;omega
theorem aaX (I:U W w (aF W M p m::L))(hw:ct p m.s)(hI:Inv p (aw m.s.k:Int) m.s.g t m.base m.A m.T (m.ks.map (·.1)))(fw:m.front=aw m.s.k)(fE:cY M.B.gs)(hB:vr m.s.k m.T)(kP:m.J.length≤16)
   (qj:m.s.k.cv=(m.T.most:Int)) (hn:m.A.n+10<1099511627776) (hl:m.T.last+10<1099511627776) :
   Calls prog 289 #[pt M.mb] w λe w'=>∃ (A':Sn) (T':Tr),e=.returned (.tuple #[])∧sC p m.s t m.base m.A m.T m.T.most (m.ks.map (·.1)) A' T'∧U W w' (aF W M p { m with A:=A',T:=T',J:=zu T' m.J }::L):=by
 have bD:=hw.wc.lu;have fa:=hw.wc.ls;have xB:=hw.wc.n;have ie:m.s.k.ls.length≤8:=by rw[fa];exact xB.2
 have gX:=hw.wc.lZ;have jW:aU m.s.k.ls≤aG m.s.k:=hw.wc.nG;obtain⟨mb,B,sq,r,tq,jq,dw,dG,aq,cO⟩:=M;obtain⟨s,A,T,J,ks,base,front⟩:=m;simp only at hw hI fw fE hB kP qj hn hl bD fa xB ie gX jW;subst fw;have Nx:=(Tree.wt ((aF.open I).tree tq)).most.1;replace I:=aF.open I;dsimp only at I Nx;refine EN func289 ntmps289 rfl rfl λa E=>?_;refine CL 6 E I (oh (I.pick (aR W B p s))) λa w E I=>?_;replace I:=aR.open I;refine CL 0 E I (Mk (I.pick (az B.core s.k))) λa w E I=>?_;refine RN 0 E I λa E=>?_;refine SS E (Ja E underlying28 rfl underlying3 rfl rfl) λa E=>?_;rw[show (fk s.k).cv=(T.most:Int) from qj]at E;refine RN 1 E I λa E=>?_;replace I:=aR.fold I B p s;refine aN (λμ a w=>∃ (i:Nat) (A1:Sn) (T1:Tr),(μ=T.most-i∧i≤T.most∧sC p s t base A T i (ks.map (·.1)) A1 T1)∧Fr a 98 [(0,pt mb),(12,.int .i64 T.most),(13,.int .i64 i)]∧U W w (aa mb 177 (dV p ⟨mb,B,sq,r,tq,jq,dw,dG,aq,cO⟩ ks.length base (aw s.k))::aR W B p s::aA W p aq cO::Sl 179 1 dw ks.length dG (gW ks)::ah (e9 p aq cO tq jq sq) ks::Tree tq sq T1::ax sq r A1::bI jq J::L)) (T.most) (⟨0,A,T,⟨rfl,by omega,⟨hI,hB,rfl,a7 _,a7 _,rfl,rfl,⟨[],by simp,λy hy=>by cases hy⟩,λh=>absurd h (by omega)⟩⟩,E.ab [0,12,13],I.sub⟩) ?_;clear E I;rintro μ a w ⟨i,A1,T1,⟨rfl,hi,qo⟩,E,I⟩;refine IF 3 E I (λaj a E=>?_) λaj a E=>?_
 ·
  have hiT:i<T.most:=by omega
  have hAn:=qo.n;have GL:=qo.last;have B7:=(ax.facts (I.store sq)).1;have sy:=Tree.wt (I.tree tq);obtain⟨aaY,px,hY,lh⟩:=qo.inv.mM (iJ ..);refine aV 5 (λw0 w'=>Rd w' mb 0 (dV p ⟨mb,B,sq,r,tq,jq,dw,dG,aq,cO⟩ ks.length base (aw s.k))) [4,5,9,10,15] [0,1,2,6,7,8,11,12,13,14,3003,3009,3015,1004,1005,1010,1016,1017,1018,19] E I λa w E I hH=>?_;have hC:=hH.at w (I.ai (b:=mb));refine RH 10 E I hH hC λa E=>?_;refine QH E (λw hc=>ae E (hc 0 _ rfl)) hC λa E=>?_;refine QH E (λw hc=>ae E (hc 0 _ rfl)) hC λa E=>?_;refine QH E (λw hc=>ae E (hc 0 _ rfl)) hC λa E=>?_;refine RH 0 E I hH hC λa E=>?_;refine CL 0 E I (oh (I.pick (aR W B p s))) λa w E I=>?_;replace hC:=hH.at w (I.ai (b:=mb));replace I:=aR.open I;refine RH 0 E I hH hC λa E=>?_;refine CL 0 E I (pc (I.pick (az B.core s.k))) λa w E I=>?_;replace hC:=hH.at w (I.ai (b:=mb));replace I:=aR.fold I B p s;refine RH 0 E I hH hC λa E=>?_;refine CL 0 E I (Nj (I.pick (aR W B p s))) λa w E I=>?_;replace hC:=hH.at w (I.ai (b:=mb));refine RH 0 E I hH hC λa E=>?_;refine CL 0 E I (oh (I.pick (aR W B p s))) λa w E I=>?_;replace I:=aR.open I;refine CL 0 E I (tN (I.pick (az B.core s.k)) hw.wc) λa w E I=>?_;obtain⟨D,I,hD⟩:=az.qu I;refine j3 0 E I (GG (r:=i) (to:=aG s.k) (.inr aaz) (by omega) I fE bD ie hw.wc.nF gX (λw' di=>(di.pick (Sl 5 1 B.adT B.gs.table.length B.cT (bc B.gs.table))).cu B.adT _ rfl rfl)) λga gm X a w E ⟨⟨tV,_⟩,I⟩=>?_;replace I:U W w (Qu B.core.qb B.core.aB s.k.ls::D::cg ga (aG s.k-aU s.k.ls) gm (nI X (aU s.k.ls) (aG s.k))::_):=I.sub (M:=Qu B.core.qb B.core.aB s.k.ls::D::cg ga (aG s.k-aU s.k.ls) gm (nI X (aU s.k.ls) (aG s.k))::aa B.pb 192 (gB p B s.g)::aA W p B.aq B.cO::Sl 5 1 B.adT B.gs.table.length B.cT (bc B.gs.table)::aa mb 177 (dV p ⟨mb,B,sq,r,tq,jq,dw,dG,aq,cO⟩ ks.length base (aw s.k))::aA W p aq cO::Sl 179 1 dw ks.length dG (gW ks)::ah (e9 p aq cO tq jq sq) ks::Tree tq sq T1::ax sq r A1::bI jq J::L);replace I:=aR.fold (hD _ _ I) B p s;have tB:=BZ X (aU s.k.ls) (aG s.k);obtain⟨GW,NB⟩:=aaV (fr:=aU s.k.ls) tV;generalize hPe:nI X (aU s.k.ls) (aG s.k)=P at I tB GW NB;rw[← tB]at E I;obtain⟨zs,cV,eS,I⟩:=cg.open (I.pick (cg ga P.length gm P));have Cg:=(I.sl ga).2;replace I:=I.sub (M:=aa mb 177 (dV p ⟨mb,B,sq,r,tq,jq,dw,dG,aq,cO⟩ ks.length base (aw s.k))::Tree tq sq T1::Sl 22 1 ga P.length gm (zs.map aM)::ah ba zs::aR W B p s::aA W p aq cO::Sl 179 1 dw ks.length dG (gW ks)::ah (e9 p aq cO tq jq sq) ks::ax sq r A1::bI jq J::L);refine RN 1 E I λa E=>?_;refine BY 6 E I (λbX a E=>?_) λbX a E=>?_
  ·
   have kR:¬ aw s.k<aG s.k:=by rw[aw];omega
   refine RN 7 E I λa E=>?_;exact⟨T.most-(i+1),by omega,i+1,A1,T1,⟨rfl,by omega,qo.skip λh=>absurd h kR⟩,E.ab [0,12,13],I.sub⟩
  have NC:P≠[]:=λe=>by rw[e]at bX;exact bX rfl
  refine bh 2 E I (aaS (M:=⟨mb,B,sq,r,tq,jq,dw,dG,aq,cO⟩) (T:=T1) (P:=P) I ⟨zs,cV,λw' h=>U.mJ (h.sub (M:=Sl 22 1 ga P.length gm (zs.map aM)::ah ba zs::[]))⟩ (by omega)) λq a w E ⟨hq,I⟩=>?_;refine IF 1 E I (λao a E=>?_) λao a E=>?_
  ·
   refine RN 2 E I λa E=>?_;exact⟨T.most-(i+1),by omega,i+1,A1,T1,⟨rfl,by omega,qo.skip λ_=>hq ao⟩,E.ab [0,12,13],I.sub⟩
  refine bR 0 [7,11] [0,1,2,4,5,6,8,9,10,12,3003,3007,1011,1013] E I λa w E I hH hC=>?_;refine RH 13 E I hH hC λa E=>?_;refine aZ 0 E I (aaW (i:=aaY) (px:=px) (id:=base) (P:=P) (zs:=zs) ((I.store sq).tree tq) (λw' h=>U.mJ (h.sub (M:=Sl 22 1 ga P.length gm (zs.map aM)::ah ba zs::[]))) cV Cg ⟨by omega,λb hb=>by have:=GW b hb;omega⟩ NC hY lh (by omega) (by omega)) λz ok a w E aaZ=>?_;obtain⟨A2,T2,aa0,I⟩:∃ (A2:Sn) (T2:Tr),sC p s t base A T (i+1) (ks.map (·.1)) A2 T2∧U W w (aa mb 177 (dV p ⟨mb,B,sq,r,tq,jq,dw,dG,aq,cO⟩ ks.length base (aw s.k))::aR W B p s::aA W p aq cO::Sl 179 1 dw ks.length dG (gW ks)::ah (e9 p aq cO tq jq sq) ks::Tree tq sq T2::ax sq r A2::bI jq J::L):=by
   rcases aaZ with ⟨uc,I⟩ | I
   ·exact⟨A1,T1,qo.skip λ_=>uc.resolve_left (by rw[qo.most];omega),I.sub⟩
   ·exact⟨_,_,qo.push B7 sy hY lh NC tB (λj hj=>by rw[GW j hj,fa]) NB,I.sub⟩
  refine RN 2 E I λa E=>?_;exact⟨T.most-(i+1),by omega,i+1,A2,T2,⟨rfl,by omega,aa0⟩,E.ab [0,12,13],I.sub⟩
 refine aV 1 (λw0 w'=>Rd w' mb 0 (dV p ⟨mb,B,sq,r,tq,jq,dw,dG,aq,cO⟩ ks.length base (aw s.k))) [7,8] [0,1,2,4,5,6,3003,1007,1008,1009] E I λa w E I hH=>?_;have hC:=hH.at w (I.ai (b:=mb));refine RH 6 E I hH hC λa E=>?_;refine QH E (λw hc=>ae E (hc 5 _ rfl)) hC λa E=>?_;refine RH 0 E I hH hC λa E=>?_;refine SS E (ae E (hC 4 _ rfl)) λa E=>?_;refine RH 0 E I hH hC λa E=>?_;refine CL 0 E I (AK (I.tree tq)) λa w E I=>?_;replace hC:=hH.at w (I.ai (b:=mb));refine RH 0 E I hH hC λa E=>?_;refine CL 0 E I (Ws (I.uU jq) kP) λa w E I=>?_;change U W w (bI jq (qn T1 (kept (λj=>decide (j.2<(T1.epoch:Int))) J) 0)::_) at I;refine aZ 5 E I (AM (I.tree tq)) λub re a w E I=>?_;obtain⟨xs,h1,h2,I⟩:=k8.open I;have b9:xs.length=T1.l.length:=by rw[← h1,a8]
 have sy:=Tree.wt (I.tree tq);have hT8:=sy.most;obtain rfl:i=T.most:=by omega
 have hJ0:=NA (λj=>decide (j.2<(T1.epoch:Int))) kP;refine RN 2 E I λa E=>?_;refine aN (λμ a w=>∃ (v:Nat),(μ=T1.l.length-v∧v≤T1.l.length)∧Fr a 98 [(0,pt mb),(72,.slice ub T1.l.length re),(73,.int .i64 T1.l.length),(74,.int .i64 v)]∧U W w (bI jq (qn T1 (kept (λj=>decide (j.2<(T1.epoch:Int))) J) v)::Sl 238 5 ub T1.l.length re (rows da xs)::ah bY xs::aa mb 177 (dV p ⟨mb,B,sq,r,tq,jq,dw,dG,aq,cO⟩ ks.length base (aw s.k))::aR W B p s::aA W p aq cO::Sl 179 1 dw ks.length dG (gW ks)::ah (e9 p aq cO tq jq sq) ks::Tree tq sq T1::ax sq r A1::L)) (T1.l.length) (⟨0,⟨rfl,by omega⟩,E.ab [0,72,73,74],I.sub⟩) ?_;clear E I;rintro μ a w ⟨v,⟨yz,hv⟩,E,I⟩;refine IF 3 E I (λay a E=>?_) λay a E=>?_
 ·
  obtain⟨b',dH,rfl,c9⟩:=I.bU ub (by omega);obtain⟨⟨x,eJ,de⟩,dY⟩:∃ y,xs[v]?=some y:=⟨_,aD (by omega)⟩;have fX:=oM c9 dY;have jB:T1.l[v]?=some x:=by rw[← h1,bl,dY];rfl
  have tz:=aaU (J:=kept (λj=>decide (j.2<(T1.epoch:Int))) J) jB;have hj6:=Nz hJ0 (T:=T1) v;refine RN 3 E I λa E=>?_;refine SS E (bT E underlying238 rfl Ty.t238 (fX)) λa E=>?_;refine AL 0 E I λb5 a w E I=>?_;refine SA 0 E I λa w E I=>?_;refine IF 7 E I (λbk a E=>?_) λbk a E=>?_
  ·
   rw[ak (by omega)]at tz;refine aV 0 (λw0 w'=>Rd w' mb 0 (dV p ⟨mb,B,sq,r,tq,jq,dw,dG,aq,cO⟩ ks.length base (aw s.k))∧Rd w' b5 0 (ch x eJ de)) [5,9,10,11] [0,1,2,4,6,7,8,3003,3005,1009,1010,1011,1012] E I λa w E I hH=>?_;have hC:=hH.at w ⟨I.ai (b:=mb),I.ai (b:=b5)⟩;refine RH 7 E I hH hC λa E=>?_;refine QH E (λw hc=>ae E (hc.1 5 _ rfl)) hC λa E=>?_;refine QH E (λw hc=>ae E (hc.2 0 _ rfl)) hC λa E=>?_;refine RH 0 E I hH hC λa E=>?_;refine SS E (ae E (hC.1 4 _ rfl)) λa E=>?_;refine RH 0 E I hH hC λa E=>?_;refine CL 0 E I (AK (I.tree tq)) λa w E I=>?_;replace hC:=hH.at w ⟨I.ai (b:=mb),I.ai (b:=b5)⟩;refine RH 1 E I hH hC λa E=>?_;refine CL 0 E I (AQ (I.uU jq) hj6) λa w E I=>?_;change U W w (bI jq (mh (qn T1 (kept (λj=>decide (j.2<(T1.epoch:Int))) J) v) x.id T1.epoch)::_) at I;refine RN 2 E I λa E=>?_;exact⟨T1.l.length-(v+1),by omega,v+1,⟨rfl,by omega⟩,E.ab [0,72,73,74],by rw[tz];exact I.sub⟩
  rw[ag (by omega)]at tz;refine RN 2 E I λa E=>?_;exact⟨T1.l.length-(v+1),by omega,v+1,⟨rfl,by omega⟩,E.ab [0,72,73,74],by rw[tz];exact I.sub⟩
 refine RT 0 E I ?_;obtain rfl:v=T1.l.length:=by omega
 rw[show qn T1 (kept (λj=>decide (j.2<(T1.epoch:Int))) J) T1.l.length=zu T1 J from rfl]at I;exact⟨A1,T1,rfl,qo,(aF.fold I ⟨mb,B,sq,r,tq,jq,dw,dG,aq,cO⟩ p ⟨s,A1,T1,zu T1 J,ks,base,aw s.k⟩).sub⟩
structure GX (p:Pr)(m m':Mu)(t':Nat→Nat):Prop where
 inv:Inv p (aw m.s.k:Int) m.s.g t' m'.base m'.A m'.T (m'.ks.map (·.1))
 s:m'.s=m.s
 front:m'.front=aw m.s.k
 gk:vr m.s.k m'.T
 J:m'.J.length≤16
 room:m'.A.room=m.A.room
 n:m'.A.n≤m.A.n+9
 last:m'.T.last≤m.T.last+8
 most:m'.T.most=m.T.most
 sS:m'.T.epoch≤m.T.epoch+3
 ks:m'.ks.length=m.ks.length
 has:0<m.T.most→aw m.s.k<aG m.s.k→m'.T.l≠[]
 uU:m'.J=zu m'.T m.J
 ab:m.front=aw m.s.k→(∀ y∈m.T.l,jK m.s.k.ls (aw m.s.k) y.al=true)→m'.ks=m.ks∧m'.T.epoch=m.T.epoch∧∃ l,m'.T.l=m.T.l++l∧∀ y∈l,y.done=0∧y.al≠[]∧y.al.length=aG m.s.k-aw m.s.k
theorem aa1 (I:U W w (aF W M p m::L))(cn:m.s.k.cl=true) :
   Calls prog 271 #[pt M.mb] w λe w'=>e=.returned (.tuple #[])∧U W w' (aF W M p m::L):=by
 refine EN func271 ntmps271 rfl rfl λa E=>?_;refine RN 5 E I λa E=>?_;replace E:=E.aP 4;refine CL 1 E I (zr I) λa w E I=>?_;rw[cn]at E;refine RN 1 E I λa E=>?_;replace E:=E.ed 7;refine RT 1 E I ?_;exact⟨rfl,I⟩
theorem aa2 (I:U W w (aF W M p m::L))(hw:ct p m.s)(hg:dS m.s.g)(cn:m.s.k.cl=false)(hI:Inv p (m.front:Int) g0 t m.base m.A m.T (m.ks.map (·.1)))(fw:m.front=aw m.s.k→g0=m.s.g)
   (fE:cY M.B.gs) (dQ:∀ y∈m.T.l,∀ j∈y.al,j.length=m.s.k.n) (kP:m.J.length≤16) (qj:m.s.k.cv=(m.T.most:Int))
   (he:m.T.epoch+10<1099511627776) (hn:m.A.n+20<1099511627776) (hl:m.T.last+20<1099511627776) (h4:m.ks.length≤4) (ql:12≤m.A.room) :
   Calls prog 271 #[pt M.mb] w λe w'=>∃ (m':Mu) (t':Nat→Nat),e=.returned (.tuple #[])∧GX p m m' t'∧U W w' (aF W M p m'::L):=by
 have gX:=hw.wc.lZ;have jW:=hw.wc.nG;refine EN func271 ntmps271 rfl rfl λa E=>?_;refine RN 5 E I λa E=>?_;replace E:=E.aP 4;refine CL 1 E I (zr I) λa w E I=>?_;rw[cn]at E;refine RN 1 E I λa E=>?_;replace E:=E.aP 7;refine aZ 3 E I (aaJ I hw hg hI fw (by omega) (by omega) h4 ql) λND t1 a w E ⟨hM,I⟩=>?_;refine RN 0 E I λa E=>?_;obtain⟨s1,A1,T1,agh,lx,NF,agi⟩:=ND;obtain⟨xz,e1,e2,e3,ff,nC,jA,gT,gH,g7,NG,kS⟩:=hM;simp only at xz e1 e2 e3 ff nC jA gT gH g7 NG kS;subst e1 e2 e3;have NH:∀ y∈T1.l,∀ j∈y.al,j.length=m.s.k.n:=by
  rcases NG with ⟨e,_⟩ | e
  ·rw[e];exact dQ
  ·rw[e];intro y hy;cases hy
 have lj:=Tree.wt ((aF.open I).tree M.tq);have NI:=(ax.facts ((aF.open I).store M.sq)).1;dsimp only at lj NI;replace I:=aF.open I;dsimp only at I;refine j4 7 E I (Nn (kp:=λx=>jK m.s.k.ls (aw m.s.k) x.al) (ws:=[pt M.mb]) ((I.store M.sq).tree M.tq) (by omega) (by kernel_rfl) (λN w' x av c' B5 h1 hN hx _ dr=>by
  have p0:=hN.h;obtain⟨K,hp⟩:=p0;have im:=hp.trans List.perm_append_comm;have hof:=dr.1;have zm:=(xz.gk x B5).1;refine (aaR (M:=M) (Z:=aA W p M.aq M.cO::Sl 179 1 M.dw lx.length M.dG (gW lx)::ah (e9 p M.aq M.cO M.tq M.jq M.sq) lx::bI M.jq m.J::(L++K)) (h1.perm im) hw (hx.imp λzs h=>⟨h.1,λnY h2=>h.2 _ (h2.perm im.symm)⟩) zm (NH x B5) (by omega)).mono λe nY ⟨h3,h4⟩=>⟨h3,h4.perm im.symm⟩)) ?_
 clear E I;rintro e w ⟨⟨_,rfl⟩,I⟩;refine⟨_,rfl,λa E=>?_⟩;have pf:=xz.cut NI (λx=>!jK m.s.k.ls (aw m.s.k) x.al);have tZ:=B4 (T1.l.filter λx=>!jK m.s.k.ls (aw m.s.k) x.al) A1;have NJ:vr m.s.k (T1.cut λx=>!jK m.s.k.ls (aw m.s.k) x.al):=λy hy=>by
  obtain⟨h1,h2⟩:=List.mem_filter.1 hy;exact⟨NH y h1,by simpa using h2⟩
 have GM:(T1.cut λx=>!jK m.s.k.ls (aw m.s.k) x.al).epoch≤T1.epoch+1:=by simp only[Tr.cut];split <;> omega
 have jS:(∀ y∈T1.l,jK m.s.k.ls (aw m.s.k) y.al=true)→(T1.cut λx=>!jK m.s.k.ls (aw m.s.k) x.al).l=T1.l∧(T1.cut λx=>!jK m.s.k.ls (aw m.s.k) x.al).epoch=T1.epoch:=λh=>by
  have h1:T1.l.filter (λx=>!!jK m.s.k.ls (aw m.s.k) x.al)=T1.l:=List.filter_eq_self.2 λy hy=>by rw[h y hy];rfl
  simp only[Tr.cut,h1];exact⟨trivial,by rw[ag (Ch _)];rfl⟩
 have B8:(T1.cut λx=>!jK m.s.k.ls (aw m.s.k) x.al).most=T1.most∧(T1.cut λx=>!jK m.s.k.ls (aw m.s.k) x.al).last=T1.last:=⟨rfl,rfl⟩;generalize (T1.cut λx=>!jK m.s.k.ls (aw m.s.k) x.al)=T2 at I pf NJ GM B8 jS;generalize A1.gV (T1.l.filter λx=>!jK m.s.k.ls (aw m.s.k) x.al)=A2 at I pf tZ;replace I:=aF.fold I M p ⟨m.s,A2,T2,m.J,lx,NF,aw m.s.k⟩;refine aZ 1 E I (aaX I hw pf rfl fE NJ kP (by dsimp only;rw[B8.1,gT];exact qj) (by dsimp only;omega) (by dsimp only;omega)) λA3 T3 a w E ⟨qo,I⟩=>?_;refine RT 0 E I ?_;obtain⟨c0,cU,a3,a4,a5,NK,NL,sB,a9⟩:=qo;have h8:=lj.most.1;dsimp only at *;exact⟨⟨m.s,A3,T3,zu T3 m.J,lx,NF,aw m.s.k⟩,t1,rfl,⟨c0,rfl,rfl,cU,Nz (NA _ kP) _,by simp only;omega,by simp only;omega,by simp only;omega,by simp only;omega,by simp only;omega,g7,λh1 h2=>a9 (by omega) h2,rfl,λe h=>by
  obtain⟨q1,q2,Bn⟩:=kS e;obtain⟨Fk,Lb⟩:=jS (by rw[q1];exact h);obtain⟨l,aa3,aa4⟩:=sB;refine⟨Bn,by rw[NL,Lb,q1],l,by rw[aa3,Fk,q1],aa4⟩⟩,I⟩
end
end
section
structure l7 (p:Pr)(s s':Pl):Prop where
 wf:ct p s'
 sm:aw s'.k=aw s.k→s'.g=s.g
 cf:fk s'.k=fk s.k
 ls:s'.k.cl=true→s'.k.ls=s.k.ls
section
variable {p:Pr}{s:Pl}{k:Ks}{x:UInt8}{bs:List UInt8}
theorem l7.mk' {k':Ks}(h:ct p s)(hw:WC k')(hh:held k')(hm:k'.mr=s.k.mr)(he:Ext s.k.ls k'.ls)(df:fk k'=fk s.k)(hl:k'.cl=true→k'.ls=s.k.ls):l7 p s (eC p ⟨k',s.g⟩):=by
 have h1:=h.toWP.more hw hh hm he;obtain⟨h2,h3,ps,ev,mr,h4⟩:=h1.eC;refine⟨h2,λhf=>?_,?_,λhc=>?_⟩
 ·have e1:(eC p ⟨k',s.g⟩).g=l3 p k'.ls (aw s.k):=by rw[h2.sm,h2.full,hf,h3]
  have e2:s.g=l3 p s.k.ls (aw s.k):=by have:=h.sm;rwa [h.full]at this
  exact e1.trans ((he.l3 (a7 _)).trans e2.symm)
 ·rw[h4];exact df
 ·rw[h3];rw[h4]at hc;exact hl hc
theorem NM:fk (c3 x k).2=fk k∧((c3 x k).2.cl=true→(c3 x k).2.ls=k.ls):=by
 by_cases h0:(c3 x k).1=0
 ·obtain⟨h1,h2,h3,h4⟩:=vf h0;rw[h4];exact⟨rfl,λhc=>by rw[show k.cl=true from hc]at h1;cases h1⟩
 ·rw[vg h0];exact⟨rfl,λ_=>rfl⟩
theorem aa5 {q:Pk}(h:k.cl=false):fk (fZ k q)=fk k∧((fZ k q).cl=true→(fZ k q).ls=k.ls):=by
 unfold fZ;split
 ·exact⟨rfl,λ_=>rfl⟩
 ·obtain⟨ps,ev,h1,_⟩:=xh { k with ls:=k.ls.set q.aW.toNat (du (k.ls.getD q.aW.toNat []) q.first.toNat q.al),ps:=k.ps.set q.aW.toNat (fY k.now (aG k) q (au k q.aW.toNat)) };rw[h1];exact⟨rfl,λhc=>by rw[show k.cl=true from hc]at h;cases h⟩
theorem NN:fk (dp bs k).2=fk k∧((dp bs k).2.cl=true→(dp bs k).2.ls=k.ls):=by
 by_cases h0:(dp bs k).1=0
 ·obtain⟨q,h1,h2,h3,h4,h5,h6⟩:=BL h0;rw[h6];exact aa5 h2
 ·rw[xj h0];exact⟨rfl,λ_=>rfl⟩
theorem l7.al (h:ct p s)(x:UInt8):l7 p s (dK p x s).2:=l7.mk' h (h.wc.al x) (h.held.al x) (vh x s.k).1 (vh x s.k).2 NM.1 NM.2
theorem l7.recv (h:ct p s)(bs:List UInt8):l7 p s (dB p bs s).2:=l7.mk' h (h.wc.recv bs).1 ((h.wc.recv bs).2 h.held) (so bs s.k).1 (so bs s.k).2 NN.1 NN.2
end
structure MI (p:Pr)(M:jJ)(N:Nat)(m:Mu):Prop where
 wf:ct p m.s
 gs:cY M.B.gs
 front:m.front=aw m.s.k
 inv:∃ t,Inv p (aw m.s.k:Int) m.s.g t m.base m.A m.T (m.ks.map (·.1))
 gk:vr m.s.k m.T
 J:m.J.length≤16
 most:m.s.k.cv=(m.T.most:Int)
 workers:m.s.k.workers=(m.ks.length:Int)
 ks:m.ks.length≤4
 room:(m.A.room:Int)=4*m.s.k.room∧12≤m.A.room
 n:m.A.n≤N∧m.T.last≤N∧m.T.epoch≤N
section
variable {W w:World}{L:List SP}{n c N front:Nat}{ad:Option Addr}{M:jJ}{B:jr}{x:UInt8}{p:Pr}{s s':Pl}{m:Mu}{bs:List UInt8}{cf:Cf}{g0:Nat→Int}{t:Nat→Nat}
theorem MI.more {N':Nat}(h:MI p M N m)(hN:N≤N'):MI p M N' m:={ h with n:=⟨fG h.n.1 hN,fG h.n.2.1 hN,fG h.n.2.2 hN⟩ }
theorem MI.same (h:MI p M N m)(hw:ct p s')(hg:s'.g=m.s.g)(hl:s'.k.ls=m.s.k.ls)(hc:fk s'.k=fk m.s.k):MI p M N { m with s:=s' }:=by
 have hf:aw s'.k=aw m.s.k:=by rw[aw,aw,hl]
 simp only[fk,Cf.mk.injEq]at hc;obtain⟨et,c2,dJ,hX,dF,oO,rJ,sf,GY,AX⟩:=hc;have hn:s'.k.n=m.s.k.n:=by omega
 exact { wf:=hw,gs:=h.gs,front:=by rw[hf];exact h.front,inv:=by obtain⟨t,ht⟩:=h.inv;exact⟨t,by rw[hf,hg];exact ht⟩,gk:=λy hy=>by rw[hn,hl,hf];exact h.gk y hy,J:=h.J,most:=by rw[sf];exact h.most,workers:=by rw[GY];exact h.workers,ks:=h.ks,room:=by rw[AX];exact h.room,n:=h.n }
theorem NO (I:U W w (aF W M p { m with s:=s' }::L))(h:MI p M N m)(hx:l7 p m.s s')(a6:dm p)(hN:N≤1000000000000) :
   Calls prog 271 #[pt M.mb] w λe w'=>∃ m':Mu,e=.returned (.tuple #[])∧(m'.s=s'∧MI p M (N+20) m'∧(s'.k.cl=false→∃ t',GX p { m with s:=s' } m' t'))∧U W w' (aF W M p m'::L):=by
 obtain⟨nC,pZ,hn3⟩:=h.n;have hc:=hx.cf;cases cn:s'.k.cl with
 | true =>
  have hl:=hx.ls cn;refine (aa1 I cn).mono λe w' ⟨he,I⟩=>⟨_,he,⟨rfl,(h.same hx.wf (hx.sm (by rw[aw,aw,hl])) hl hc).more (by omega),λe=>(by cases e)⟩,I⟩
 | false =>
  obtain⟨t,ht⟩:=h.inv;simp only[fk,Cf.mk.injEq]at hc;obtain⟨et,c2,dJ,hX,dF,oO,rJ,sf,GY,AX⟩:=hc;have hn:s'.k.n=m.s.k.n:=by omega
  refine (aa2 (g0:=m.s.g) (t:=t) I hx.wf (hx.wf.qf a6) cn (by rw[← h.front]at ht;exact ht) (λe=>(hx.sm (by rw[← h.front];exact e.symm)).symm) h.gs (λy hy j hj=>by dsimp only;rw[hn];exact (h.gk y hy).1 j hj) h.J (by dsimp only;rw[sf];exact h.most) (by dsimp only;omega) (by dsimp only;omega) (by dsimp only;omega) h.ks h.room.2).mono λe w' ⟨m',t',he,hr,I⟩=>⟨m',he,⟨hr.s,?_,λ_=>⟨t',hr⟩⟩,I⟩;obtain⟨c0,cU,a3,a4,a5,NK,NL,sB,a9,b1,b2,b3,b4,b5⟩:=hr;dsimp only at *;exact { wf:=by rw[cU];exact hx.wf,gs:=h.gs,front:=by rw[cU];exact a3,inv:=⟨t',by rw[cU];exact c0⟩,gk:=by rw[cU];exact a4,J:=a5,most:=by rw[cU,sf,a9];exact h.most,workers:=by rw[cU,GY,b2];exact h.workers,ks:=by rw[b2];exact h.ks,room:=by rw[cU,AX,NK];exact h.room,n:=⟨by omega,by omega,by omega⟩ }
theorem aa6 (I:U W w (aF W M p m::L))(h:MI p M N m)(a6:dm p)(aH:p.title.size≤1000000000)(hN:N≤1000000000000) :
   Calls prog 267 #[pt M.mb,.int .u8 (x.toNat:Nat)] w λe w'=>∃ m':Mu,e=.returned (.int .i64 (dK p x m.s).1)∧(m'.s=(dK p x m.s).2∧MI p M (N+20) m'∧((dK p x m.s).2.k.cl=false→∃ t',GX p { m with s:=(dK p x m.s).2 } m' t'))∧U W w' (aF W M p m'::L):=by
 refine EN func267 ntmps267 rfl rfl λa E=>?_;refine CL 4 E I (tX I) λa w E I=>?_;refine RN 1 E I λa E=>?_;replace I:=aF.open I;refine CL 0 E I (M3 (I.pick (aR W M.B p m.s)) h.wf a6 aH) λa w E I=>?_;replace I:=aF.fold I M p { m with s:=(dK p x m.s).2 };refine bh 3 E I (NO I h (l7.al h.wf x) a6 hN) λm' a w E ⟨hm,I⟩=>?_;refine RT 3 E I ?_;exact⟨m',rfl,hm,I⟩
theorem aa7 (I:U W w (aF W M p m::L))(h:MI p M N m)(a6:dm p)(aH:p.title.size≤1000000000)(hN:N≤1000000000000)(hb:bs.length≤65536)(hc:bs.length≤c)(hp:∀ w',U W w' L→aX w' ad bs.length bs) :
   Calls prog 269 #[pt M.mb,.slice ad bs.length c] w λe w'=>∃ m':Mu,e=.returned (.int .i64 (dB p bs m.s).1)∧(m'.s=(dB p bs m.s).2∧MI p M (N+20) m')∧U W w' (aF W M p m'::L):=by
 refine EN func269 ntmps269 rfl rfl λa E=>?_;refine CL 4 E I (tX I) λa w E I=>?_;refine RN 1 E I λa E=>?_;replace I:=aF.open I;refine CL 0 E I (M4 (bs:=bs) (I.pick (aR W M.B p m.s)) h.wf a6 aH hb hc (λw' hw=>hp w' hw.sub)) λa w E I=>?_;replace I:=aF.fold I M p { m with s:=(dB p bs m.s).2 };refine bh 3 E I (NO I h (l7.recv h.wf bs) a6 hN) λm' a w E ⟨⟨gT,kC,_⟩,I⟩=>?_;refine RT 3 E I ?_;exact⟨m',rfl,⟨gT,kC⟩,I⟩
end
end
section
theorem GZ (k:Ks):fk (br k).2=fk k:=by
 rcases xm k with h1 | ⟨hc,h1 | ⟨i,hi,h1⟩⟩ <;> rw[h1] <;> rfl
theorem G0 (k:Ks):fk (cy k).2=fk k:=by
 unfold cy;split <;> rfl
section
variable {W w:World}{L:List SP}{n c i N tq sq r base front:Nat}{ad:Option Addr}{M:jJ}{B:jr}{p:Pr}{s:Pl}{m:Mu}{A:Sn}{T:Tr}{t:Nat→Nat}{px:aC}{y:Int}
theorem aa8 (I:U W w (aF W M p m::L))(h:MI p M N m)(pG:m.s.k.now≤1000000):Calls prog 270 #[pt M.mb] w λr w'=>∃ ad c,r=.returned (.slice ad (br m.s.k).1.length c)∧MI p M N { m with s:=⟨(br m.s.k).2,m.s.g⟩ } ∧
   U W w' (cd 124 ad (br m.s.k).1.length c (br m.s.k).1::aF W M p { m with s:=⟨(br m.s.k).2,m.s.g⟩ }::L):=by
 refine EN func270 ntmps270 rfl rfl λa E=>?_;refine CL 4 E I (tX I) λa w E I=>?_;replace I:=aF.open I;refine aZ 0 E I (M5 (I.pick (aR W M.B p m.s)) h.wf pG) λad c a w E I=>?_;refine RT 1 E I ?_;exact⟨ad,c,rfl,h.same h.wf.tick rfl (BN _).2 (GZ _),(aF.fold I M p { m with s:=⟨(br m.s.k).2,m.s.g⟩ }).sub⟩
theorem aa9 (I:U W w (aF W M p m::L))(h:MI p M N m):Calls prog 268 #[pt M.mb] w λr w'=>∃ ad c,r=.returned (.slice ad (cy m.s.k).1.length c)∧MI p M N { m with s:=⟨(cy m.s.k).2,m.s.g⟩ } ∧
   U W w' (cd 124 ad (cy m.s.k).1.length c (cy m.s.k).1::aF W M p { m with s:=⟨(cy m.s.k).2,m.s.g⟩ }::L):=by
 refine EN func268 ntmps268 rfl rfl λa E=>?_;refine CL 4 E I (tX I) λa w E I=>?_;replace I:=aF.open I;refine aZ 0 E I (M6 (I.pick (aR W M.B p m.s)) h.wf) λad c a w E I=>?_;refine RT 1 E I ?_;exact⟨ad,c,rfl,h.same h.wf.o7 rfl (FZ _).2 (G0 _),(aF.fold I M p { m with s:=⟨(cy m.s.k).2,m.s.g⟩ }).sub⟩
theorem aba (I:U W w (aF W M p m::L))(h:MI p M N m):Calls prog 266 #[pt M.mb] w λr w'=>∃ ad c,r=.returned (.slice ad m.s.k.ev.length c)∧MI p M N { m with s:=⟨{ m.s.k with ev:=[] },m.s.g⟩ } ∧
   U W w' (Sl 135 1 ad m.s.k.ev.length c (m.s.k.ev.map cB)::aF W M p { m with s:=⟨{ m.s.k with ev:=[] },m.s.g⟩ }::L):=by
 refine EN func266 ntmps266 rfl rfl λa E=>?_;refine CL 4 E I (tX I) λa w E I=>?_;replace I:=aF.open I;refine aZ 0 E I (M7 (I.pick (aR W M.B p m.s))) λad c a w E I=>?_;refine RT 1 E I ?_;exact⟨ad,c,rfl,h.same h.wf.told rfl rfl rfl,(aF.fold I M p { m with s:=⟨{ m.s.k with ev:=[] },m.s.g⟩ }).sub⟩
theorem abb (I:U W w (aF W M p m::L))(h:MI p M N m):Calls prog 264 #[pt M.mb] w λr w'=>∃ ad c,r=.returned (.tuple #[.slice ad 128 c,.int .i64 (l4 m.s).2])∧U W w' (Sl 5 1 ad 128 c (bc (l4 m.s).1)::aF W M p m::L):=by
 have bD:=h.wf.wc.lu;have ie:m.s.k.ls.length≤8:=by rw[h.wf.wc.ls];exact h.wf.wc.n.2
 obtain⟨t,hI⟩:=h.inv;obtain⟨i,px,hY,lh⟩:=hI.mM (iJ ..);have tv:=(hI.base px (bF hY) lh).1;replace I:=aF.open I;rw[h.front]at I;refine EN func264 ntmps264 rfl rfl λa E=>?_;refine aV 5 (λw0 w'=>Rd w' M.mb 0 (dV p M m.ks.length m.base (aw m.s.k))) [8,9,10] [0,1,2,3,4,5,7,3006,1008,1009,1010,11,12] E I λa w E I hH=>?_;have hC:=hH.at w (I.ai (b:=M.mb));refine RH 3 E I hH hC λa E=>?_;replace E:=E.aP 6;refine RH 4 E I hH hC λa E=>?_;refine QH E (λw hc=>ae E (hc 8 _ rfl)) hC λa E=>?_;rw[← h.front]at I;replace I:=aF.fold I M p m;refine RH 0 E I hH hC λa E=>?_;refine CL 0 E I (B3 I) λa w E I=>?_;replace hC:=hH.at w (by have h9:=(aF.open I).ai (b:=M.mb);rw[h.front]at h9;exact h9);replace I:=aR.open ((aF.open I).pick (aR W M.B p m.s));rw[h.front]at I;refine RH 0 E I hH hC λa E=>?_;refine CL 0 E I (pc (I.pick (az M.B.core m.s.k))) λa w E I=>?_;replace hC:=hH.at w (I.ai (b:=M.mb));obtain⟨D,I,hD⟩:=az.qu I;refine RH 0 E I hH hC λa E=>?_;refine CL 0 E I (sj I bD ie) λa w E I=>?_;replace hC:=hH.at w (I.ai (b:=M.mb));refine RH 1 E I hH hC λa E=>?_;rw[show decide (((aw m.s.k:Nat):Int)≠((aU m.s.k.ls:Nat):Int))=false from Km]at E;refine RH 1 E I hH hC λa E=>?_;replace I:=aR.fold (hD _ _ I) M.B p m.s;rw[← h.front]at I;replace I:=aF.fold I M p m;replace E:=E.aP 16;refine RN 2 E I λa E=>?_;replace I:=aF.open I;refine aV 0 (λw0 w'=>Rd w' M.mb 0 (dV p M m.ks.length m.base m.front)) [5,6,10,11] [0,1,2,3,7,8,9,3004,3010,1005,1006,1011,12] E I λa w E I hH=>?_;have hC:=hH.at w (I.ai (b:=M.mb));refine RH 7 E I hH hC λa E=>?_;refine QH E (λw hc=>ae E (hc 7 _ rfl)) hC λa E=>?_;refine QH E (λw hc=>ae E (hc 8 _ rfl)) hC λa E=>?_;replace I:=aF.fold I M p m;refine RH 0 E I hH hC λa E=>?_;refine CL 0 E I (GK I hY lh) λa w E I=>?_;replace hC:=hH.at w ((aF.open I).ai (b:=M.mb));refine RH 0 E I hH hC λa E=>?_;refine aZ 0 E I (y3 I) λad c a w E I=>?_;replace hC:=hH.at w ((aF.open I.tail).ai (b:=M.mb));refine RH 2 E I hH hC λa E=>?_;refine RT 0 E I ?_;rw[tv]at I;exact⟨ad,c,by rw[h.front];rfl,I⟩
theorem abc (I:U W w (aF W M p m::L))(hc:m.s.k.cl=true∨y<0∨(m.ks.length:Int)≤y)(h4:m.ks.length≤4) :
   Calls prog 62 #[pt M.mb,.int .i64 y] w λe w'=>e=.returned (.bool false)∧U W w' (aF W M p m::L):=by
 refine EN func62 ntmps62 rfl rfl λa E=>?_;refine RN 7 E I λa E=>?_;replace E:=E.aP 7;refine CL 1 E I (zr I) λa w E I=>?_;replace I:=aF.open I;refine BY 2 E I (λkc a E=>?_) λkc a E=>?_
 ·
  refine RT 15 E I ?_;exact⟨rfl,aF.fold I M p m⟩
 refine BY 4 E I (λmg a E=>?_) λmg a E=>?_
 ·
  refine RT 11 E I ?_;exact⟨rfl,aF.fold I M p m⟩
 refine IF 8 E I (λaj a E=>?_) λaj a E=>?_
 ·
  refine RT 2 E I ?_;exact⟨rfl,aF.fold I M p m⟩
 exact absurd hc (by rintro (h | h | h) <;> first | omega | (rw[h]at kc;cases kc))
theorem AV.brI {k:Ks}{J J':Js}{A A':Sn}{T T':Tr}(hn:AV A T J A' T' J')(h:vr k T):vr k T':=by
 intro y hy;have h1:(y.id,y.al)∈T'.l.map (λy=>(y.id,y.al)):=cR.2 ⟨y,hy,rfl⟩;rw[hn.l]at h1;obtain⟨z,hz,he⟩:=cR.1 h1;have h2:=h z hz;rw[(Prod.mk.inj he).2]at h2;exact h2
theorem abd {k:Wk}{wb:Nat}(I:U W w (aF W M p m::L))(h:MI p M N m)(cn:m.s.k.cl=false)(hk:m.ks[i]?=some (k,wb))(a6:dm p)(aH:p.title.size≤1000000000)(hN:N≤1000000000000) :
   Calls prog 62 #[pt M.mb,.int .i64 i] w λe w'=>∃ (z:Bool) (A':Sn) (T':Tr) (J':Js) (k':Wk),e=.returned (.bool z)∧(lN p m.A m.T m.J k z A' T' J' k'∧MI p M (N+1) { m with A:=A',T:=T',J:=J',ks:=m.ks.set i (k',wb) }) ∧
    U W w' (aF W M p { m with A:=A',T:=T',J:=J',ks:=m.ks.set i (k',wb) }::L):=by
 have aI:=(aY.1 hk).1;have h4:=h.ks;obtain⟨t,hI⟩:=h.inv;obtain⟨nC,pZ,hn3⟩:=h.n;have jW:=h.wf.wc.nG;have gX:=h.wf.wc.lZ;refine EN func62 ntmps62 rfl rfl λa E=>?_;refine RN 7 E I λa E=>?_;replace E:=E.aP 7;refine CL 1 E I (zr I) λa w E I=>?_;rw[cn]at E;refine RN 2 E I λa E=>?_;replace E:=E.aP 11;refine RN 4 E I λa E=>?_;replace I:=aF.open I;replace E:=E.aP 15;refine RN 8 E I λa E=>?_;rw[bo (by omega)]at E;refine RN 2 E I λa E=>?_;obtain⟨b',o',g6,c9⟩:=I.bU M.dw (by omega);refine RN 5 E I λa E=>?_;rw[g6]at E;refine RN 1 E I λa E=>?_;refine SS E (ae E (c9 i _ (KX hk))) λa E=>?_;refine j4 0 E I (X1 (I.sub (M:=ah (e9 p M.aq M.cO M.tq M.jq M.sq) m.ks::Tree M.tq M.sq m.T::ax M.sq M.r m.A::bI M.jq m.J::aA W p M.aq M.cO::aa M.mb 177 (dV p M m.ks.length m.base m.front)::aR W M.B p m.s::Sl 179 1 M.dw m.ks.length M.dG (gW m.ks)::L)) hk hI ⟨by omega,by omega⟩ a6 aH (by omega) h.J) ?_;clear E I;rintro e w ⟨z,A',T',J',k',rfl,⟨uZ,pf,vt⟩,I⟩;refine⟨_,rfl,λa E=>?_⟩;refine RT 1 E I ?_;have qA:(m.ks.set i (k',wb)).length=m.ks.length:=bt ..;have l5:=vt.room;have hn4:=vt.n;have hn5:=vt.last;have hn6:=vt.epoch;refine⟨z,A',T',J',k',rfl,⟨uZ,{ wf:=h.wf,gs:=h.gs,front:=h.front,inv:=⟨t,pf⟩,gk:=vt.brI h.gk,J:=vt.len h.J,most:=by dsimp only;rw[vt.most];exact h.most,workers:=by dsimp only;rw[qA];exact h.workers,ks:=by dsimp only;rw[qA];exact h4,room:=by dsimp only;rw[l5];exact h.room,n:=⟨by dsimp only;omega,by dsimp only;omega,by dsimp only;omega⟩ }⟩,?_⟩;rw[← KY (k':=k') hk,← qA]at I;exact aF.fold I M p { m with A:=A',T:=T',J:=J',ks:=m.ks.set i (k',wb) }
end
end
end Go.Proofs.YteoldcfapaiobaaGreat
