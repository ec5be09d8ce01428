/- Package multi: a player that plays ahead. -/
import Derived.Test.YteoldcfapaiobaaGreatB06Ref
import Derived.Test.YteoldcfapaiobaaGreatB11Rank
import Derived.Test.YteoldcfapaiobaaGreatB04Job
import Derived.Test.YteoldcfapaiobaaGreatB05Vm
import Derived.Test.YteoldcfapaiobaaGreatB01Row
import Derived.Laws.StructEq
import Derived.ChangeKeysEq
namespace Go.Proofs.YteoldcfapaiobaaGreat
open Tryz
open List (mem_cons_self all_eq_true getElem?_append_right foldl_cons nil_append map_cons length_nil mem_range getElem?_range getElem_map mem_singleton map_nil range_succ foldl_append length_filter_le map_singleton)
open Go.RowKit
set_option linter.unusedVariables false
set_option linter.unusedSimpArgs false
set_option maxRecDepth 10000
set_option synthInstance.maxSize 4000
set_option synthInstance.maxHeartbeats 400000
section
instance nT.fvB {P l x f ws args vs}[ex:Ev l (.tmp x) (.func (.func f) (List.toArray ws) #[])][ev:nh l args vs]:nT P l (.value (.tmp x)) args f (ws++vs):=⟨λhb a n w E _ _ _ _ _ _=>by
 simp[execOp,resolve,ex.ev a n E,Deferred.ofValue,invoke,ev.ev a n E,y4 hb]⟩
structure jm where
 mb:Nat
 B:iT
 sq:Nat
 r:Nat
 tq:Nat
 jq:Nat
 dy:Option Addr
 dF:Nat
 aq:Option Addr
 cO:Nat
structure Mu where
 s:Pl
 A:Sn
 T:Tr
 J:Js
 ks:List Kx
 base:Nat
 front:Nat
abbrev dU (p:Pr)(M:jm)(nk base front:Nat):List Value:=[pt M.B.pb,.string p.title,.slice M.aq p.ops.length M.cO,pt M.sq,pt M.tq,pt M.jq,.slice M.dy nk M.dF,.int .i64 base,.int .i64 front]
abbrev yv (W:World)(M:jm)(p:Pr)(m:Mu):List SP:=[aa M.mb 177 (dU p M m.ks.length m.base m.front),aO W M.B p m.s,ay W p M.aq M.cO,Sl 179 1 M.dy m.ks.length M.dF (gK m.ks),ah (e5 p M.aq M.cO M.tq M.jq M.sq) m.ks,Tree M.tq M.sq m.T,ax M.sq M.r m.A,bK M.jq m.J]
def aH (W:World)(M:jm)(p:Pr)(m:Mu):SP:=λh=>cn (yv W M p m) h
section
variable {W w:World}{L R:List SP}{M:jm}{B:iT}{p:Pr}{s:Pl}{m:Mu}
theorem aH.open (I:U W w (aH W M p m::L)):U W w (aa M.mb 177 (dU p M m.ks.length m.base m.front)::aO W M.B p m.s::ay W p M.aq M.cO::Sl 179 1 M.dy m.ks.length M.dF (gK m.ks)::ah (e5 p M.aq M.cO M.tq M.jq M.sq) m.ks::Tree M.tq M.sq m.T::ax M.sq M.r m.A::bK M.jq m.J::L):=I.open (M:=yv W M p m) λ_ h=>h
theorem aH.close (I:U W w (yv W M p m++L)):U W w (aH W M p m::L):=U.shut (M:=yv W M p m) I λ_ h=>h
theorem aH.fold (I:U W w L)(M:jm)(p:Pr)(m:Mu)[kk:fE L (aa M.mb 177 (dU p M m.ks.length m.base m.front)::aO W M.B p m.s::ay W p M.aq M.cO::Sl 179 1 M.dy m.ks.length M.dF (gK m.ks)::ah (e5 p M.aq M.cO M.tq M.jq M.sq) m.ks::Tree M.tq M.sq m.T::ax M.sq M.r m.A::bK M.jq m.J::[]) R]:U W w (aH W M p m::R):=aH.close (I.perm kk.perm)
theorem L9 (I:U W w (aO W B p s::L)):Calls prog 94 #[pt B.pb] w λe V=>e=.returned (.agg (ints .i32 32 s.g).toArray)∧U W V (aO W B p s::L):=by
 replace I:=aO.open I;refine EN func94 ntmps94 rfl rfl λa E=>?_;refine AL 1 E I λb2 a w E I=>?_;change U W w (aa b2 183 (ints .i32 32 (λ_=>0))::_) at I;refine RN 4 E I λa E=>?_;refine SS E (bR E underlying183 rfl Ty.t183 (yr (I.ai (b:=B.pb)))) λa E=>?_;refine SA 0 E I λa w E I=>?_;refine RT 0 E I ?_;exact⟨rfl,(aO.fold I B p s).sub⟩
theorem Ma (I:U W w (aO W B p s::L)):Calls prog 278 #[pt B.pb] w λe V=>e=.returned (.agg (dr B.gs B.adT B.cT).toArray)∧U W V (aO W B p s::L):=by
 replace I:=aO.open I;refine EN func278 ntmps278 rfl rfl λa E=>?_;refine AL 1 E I λb2 a w E I=>?_;refine RN 4 E I λa E=>?_;refine SS E (bR E underlying186 rfl Ty.t186 (LP (I.ai (b:=B.pb)))) λa E=>?_;refine SA 0 E I λa w E I=>?_;refine RT 0 E I ?_;exact⟨rfl,(aO.fold I B p s).sub⟩
theorem sY (I:U W w (aH W M p m::L)):Calls prog 140 #[pt M.mb] w λe V=>e=.returned (pt M.B.pb)∧U W V (aH W M p m::L):=by
 replace I:=aH.open I;refine EN func140 ntmps140 rfl rfl λa E=>?_;refine RN 6 E I λa E=>?_;replace E:=E.aK 4;refine RT 7 E I ?_;exact⟨rfl,aH.fold I M p m⟩
theorem AW (I:U W w (aH W M p m::L)):Calls prog 272 #[pt M.mb] w λe V=>e=.returned (pt M.B.core.cb)∧U W V (aH W M p m::L):=by
 refine EN func272 ntmps272 rfl rfl λa E=>?_;refine CL 4 E I (sY I) λa w E I=>?_;replace I:=aH.open I;refine CL 0 E I (nG (I.pick (aO W M.B p m.s))) λa w E I=>?_;refine RT 1 E I ?_;exact⟨rfl,aH.fold I M p m⟩
theorem yw (I:U W w (aH W M p m::L)):Calls prog 101 #[pt M.mb] w λe V=>e=.returned (.bool m.s.k.cl)∧U W V (aH W M p m::L):=by
 refine EN func101 ntmps101 rfl rfl λa E=>?_;refine CL 4 E I (sY I) λa w E I=>?_;replace I:=aH.open I;refine CL 0 E I (LX (I.pick (aO W M.B p m.s))) λa w E I=>?_;refine RT 1 E I ?_;exact⟨rfl,aH.fold I M p m⟩
theorem Zy (I:U W w (aH W M p m::L)):Calls prog 81 #[pt M.mb] w λe V=>e=.returned (pt M.sq)∧U W V (aH W M p m::L):=by
 replace I:=aH.open I;refine EN func81 ntmps81 rfl rfl λa E=>?_;refine RN 6 E I λa E=>?_;replace E:=E.aK 4;refine RT 7 E I ?_;exact⟨rfl,aH.fold I M p m⟩
theorem Zz (I:U W w (aH W M p m::L)):Calls prog 87 #[pt M.mb] w λe V=>e=.returned (pt M.tq)∧U W V (aH W M p m::L):=by
 replace I:=aH.open I;refine EN func87 ntmps87 rfl rfl λa E=>?_;refine RN 6 E I λa E=>?_;replace E:=E.aK 4;refine RT 7 E I ?_;exact⟨rfl,aH.fold I M p m⟩
end
end
section
section
variable {p:Pr}{F F':Int}{g g0:Nat→Int}{t t':Nat→Nat}{base i:Nat}{A:Sn}{T:Tr}{ws:List Wk}{k:Wk}{P:List (List UInt8)}
theorem Inv.ZA (h:Inv p F g0 t base A T ws)(hA:WF A)(hn:A.n+1<1099511627776)(hT:T.l=[])(hg:dQ g) :
   Inv p F' g t' (A.last+1) ((A.add g t').eA base) T ws:=by
 have vG:WF (A.add g t'):=hA.add hn g t';have hr:∀ x∈(A.add g t').au,x.refs=1:=by
  intro x hx;rcases eR.1 hx with hx | hx
  ·exact (h.au x hx).1
  ·rw[mem_singleton.1 hx]
 have tM:∀ z∈A.au,z.id≠A.last+1:=λz hz e=>by have:=(hA.l9 z hz).2.1;omega
 rw[zG vG hr];refine⟨?_,λx hx=>?_,λx hx he=>?_,λy hy=>?_,λk hk=>⟨(h.lj k hk).1,λ_ y hy=>?_⟩⟩
 ·simp only;rw[Dk];have h1:((A.add g t').au.map (·.id)).Perm (base::(A.last+1)::(T.l.map (·.snap)++jf ws)):=by
   simp only[Sn.add,cX,map_cons,map_nil];exact ((List.perm_append_singleton _ _).trans (h.perm.cons _)).trans (List.Perm.swap _ _ _)
  exact Di (List.Perm.refl _) h1 vG.n0
 ·have hx:=jO hx;rcases eR.1 hx with hx | hx
  ·exact h.au x hx
  ·rw[mem_singleton.1 hx];exact⟨rfl,hg⟩
 ·have hx:=jO hx;rcases eR.1 hx with hx | hx
  ·exact absurd he (tM x hx)
  ·rw[mem_singleton.1 hx];exact⟨rfl,rfl⟩
 ·rw[hT]at hy;cases hy
 ·rw[hT]at hy;cases hy
theorem Mb (h:∀ k∈ws,k.busy=false):jf ws=[]:=by
 rw[jf,List.filter_eq_nil_iff.2 (λk hk=>by rw[h k hk];decide)];rfl
theorem AX:∀ (l:List Br) (A:Sn),(A.gJ l).room=A.room∧(A.gJ l).n=A.n∧(A.gJ l).last=A.last
 | [],_=>⟨rfl,rfl,rfl⟩
 | y::l,A=>by
  have h1:=AX l (A.eA y.snap);have h2:=n1 A y.snap;show ((A.eA y.snap).gJ l).room=_∧((A.eA y.snap).gJ l).n=_∧((A.eA y.snap).gJ l).last=_;exact⟨h1.1.trans h2.1,h1.2.1.trans h2.2.1,h1.2.2.trans h2.2.2⟩
def sZ (ls:List (List UInt8))(f:Nat)(j:List UInt8):Bool:=(List.range j.length).all λq=>!(decide (f<(ls.getD q []).length)&&(ls.getD q []).getD f 0 != j.getD q 0)
def jo (ls:List (List UInt8))(f:Nat)(P:List (List UInt8)):Bool:=(List.range P.length).all λi=>sZ ls (f+i) (P.getD i [])
theorem ZB {ls:List (List UInt8)}{f q:Nat}{j:List UInt8}(hq:q<j.length)(h1:f<(ls.getD q []).length)(h2:(ls.getD q []).getD f 0≠j.getD q 0):sZ ls f j=false:=by
 rw[sZ,List.all_eq_false];exact⟨q,mem_range.2 hq,by rw[dq h1,Bool.true_and,bne_iff_ne.2 h2];decide⟩
theorem Mc {ls:List (List UInt8)}{f:Nat}{j:List UInt8}(h:∀ q,q<j.length→f<(ls.getD q []).length→(ls.getD q []).getD f 0=j.getD q 0):sZ ls f j=true:=by
 rw[sZ,all_eq_true];intro q hq;have:=h q (mem_range.1 hq);by_cases h1:f<(ls.getD q []).length
 ·rw[dq h1,Bool.true_and,this h1,bne_self_eq_false];rfl
 ·rw[bq h1,Bool.false_and];rfl
theorem ZC {ls:List (List UInt8)}{f i:Nat}{P:List (List UInt8)}(hi:i<P.length)(h:sZ ls (f+i) (P.getD i [])=false):jo ls f P=false:=by
 rw[jo,List.all_eq_false];exact⟨i,mem_range.2 hi,by rw[h];decide⟩
theorem Md {ls:List (List UInt8)}{f:Nat}{P:List (List UInt8)}(h:∀ i,i<P.length→sZ ls (f+i) (P.getD i [])=true):jo ls f P=true:=by
 rw[jo,all_eq_true];intro i hi;exact h i (mem_range.1 hi)
end
end
section
section
variable {W w:World}{L:List SP}{q r:Nat}{A:Sn}
theorem ZD (l:List Nat):distinct l≤l.length:=by
 induction l with
 | nil=>exact bk _
 | cons x l ih=>rw[distinct,fc];split <;> omega
theorem ZE (l:List aD):(kT l).length=4*l.length:=by
 induction l with
 | nil=>rfl
 | cons x l ih=>show (_++kT l).length=_;rw[aM,ih,fc];simp;omega
theorem ax.vi (I:U W w (ax q r A::L)):A.used≤4*A.au.length:=by
 rw[ax.used I];have:=ZD (kT A.au);rw[ZE]at this;exact this
end
end
section
theorem Tl.rest {N L:List SP}{A:SP}(t:Tl N (A::L)):Tl N L:=⟨let ⟨K,h⟩:=t.h;⟨K++[A],by simpa using h⟩⟩
section
variable {W w:World}{L:List SP}{n i tq sq r:Nat}{M:jm}{B:iT}{x:UInt8}{p:Pr}{s:Pl}{m:Mu}{A:Sn}{T:Tr}{F:Int}{g0:Nat→Int}{t:Nat→Nat}{px:aD}
theorem Me {kp:Br→Bool}{g:Nat}{ws:List Value}(I:U W w (Tree tq sq T::ax sq r A::L))(he:T.epoch+1<1099511627776)(b9:g4 prog g=true)
   (hg:∀ (N:List SP) (V:World) (x:Br) (av:Option Addr) (c':Nat),x∈T.l→U W V N→Tl N L→vt W N av x.ak→x.ak.length≤c'→nx x.ak →
    Calls prog g (ws++[Value.agg (cg x av c').toArray]).toArray V λe ny=>e=.returned (.bool (kp x))∧U W ny N) :
   Calls prog 287 #[pt tq,.func (.func g) ws.toArray #[]] w λe V=>(∃ v:Int,e=.returned (.int .i64 v)) ∧
    U W V (Tree tq sq (T.cut λx=>!kp x)::ax sq r (A.gJ (T.l.filter λx=>!kp x))::L):=by
 have hF : ∀ (b3 : Nat) (N : List SP) (V : World) (x : Br) (av : Option Addr) (c' : Nat), x ∈ T.l → U W V N → Tl N (aa b3 343 [.func (.func g) ws.toArray #[]] :: L) → vt W N av x.ak → x.ak.length ≤ c' → nx x.ak →
     Calls prog 304 (List.toArray [.agg (cg x av c').toArray,pt b3]) V λe ny=>e=.returned (.bool (!kp x))∧U W ny N:=by
  intro b3 N w x av c' AY I hM hx ZF kh;refine EN func304 ntmps304 rfl rfl λa E=>?_;refine BX 1 E I λb2 a w E I=>?_;refine RN 2 E I λa E=>?_;have o9:=I.tail.UL hM;refine SS E (ae E (o9.bz rfl)) λa E=>?_;refine CL 1 E I (hg (aa b2 238 (cg x av c')::N) _ x av c' AY I (@Tl.cons _ _ _ hM.rest) (hx.imp λzs h=>⟨h.1,λny h2=>h.2 _ h2.tail⟩) ZF kh) (hf:=b9) λa w E I=>?_;refine RT 2 E I ?_;exact⟨rfl,I.tail⟩
 refine EN func287 ntmps287 rfl rfl λa E=>?_;refine BX 1 E I λb3 a w E I=>?_;refine CL 4 E I (IX (tq:=tq) (sq:=sq) (r:=r) (A:=A) (T:=T) (wh:=λx=>!kp x) (us:=[pt b3]) (L:=aa b3 343 [.func (.func g) ws.toArray #[]]::L) I.sub he (by kernel_rfl) (hF b3)) λa w E I=>?_;refine RT 1 E I ?_;exact⟨⟨_,rfl⟩,I.sub⟩
theorem ZG (I:U W w (aH W M p m::L))(hI:Inv p F g0 t m.base m.A m.T (m.ks.map (·.1)))(he:m.T.epoch+1<1099511627776)(h4:m.ks.length≤4) :
   Calls prog 302 #[pt M.mb] w λe V=>∃ (A':Sn) (AZ:List Kx),e=.returned (.tuple #[]) ∧
    (Inv p F g0 t m.base A' (m.T.cut λ_=>true) (AZ.map (·.1))∧AZ.length=m.ks.length∧(∀ k∈AZ,k.1.busy=false)∧A'.room=m.A.room∧A'.n=m.A.n) ∧
    U W V (aH W M p { m with A:=A',ks:=AZ,T:=m.T.cut λ_=>true }::L):=by
 obtain⟨mb,B,sq,r,tq,jq,dy,dF,aq,cO⟩:=M;obtain⟨s,A,T,J,ks,base,front⟩:=m;replace I:=aH.open I;simp only at hI he h4;refine EN func302 ntmps302 rfl rfl λa E=>?_;refine RN 8 E I λa E=>?_;refine aP (λμ a w=>∃ (i:Nat) (A1:Sn) (k6:List Kx),(μ=ks.length-i∧i≤ks.length∧k6.length=ks.length∧(∀ (j:Nat) (k:Kx),j<i→k6[j]?=some k→k.1.busy=false)∧Inv p F g0 t base A1 T (k6.map (·.1))∧A1.room=A.room∧A1.n=A.n)∧Fr a 21 [(0,pt mb),(7,.slice dy ks.length dF),(8,.int .i64 ks.length),(9,.int .i64 i)]∧U W w (aa mb 177 (dU p ⟨mb,B,sq,r,tq,jq,dy,dF,aq,cO⟩ ks.length base front)::aO W B p s::ay W p aq cO::Sl 179 1 dy ks.length dF (gK k6)::ah (e5 p aq cO tq jq sq) k6::Tree tq sq T::ax sq r A1::bK jq J::L)) (ks.length) (⟨0,A,ks,⟨rfl,by omega,rfl,λj k h=>absurd h (by omega),hI,rfl,rfl⟩,E.ab [0,7,8,9],I.sub⟩) ?_;clear E I;rintro μ a w ⟨i,A1,k6,⟨rfl,hi,dO,Mf,wv,ly,qW⟩,E,I⟩;refine IF 3 E I (λaj a E=>?_) λaj a E=>?_
 ·
  have o5:i<k6.length:=by omega
  obtain⟨⟨k,wb⟩,hk⟩:∃ y,k6[i]?=some y:=⟨_,aF o5⟩;obtain⟨b',dG,rfl,dk⟩:=I.bW dy (by omega);refine RN 3 E I λa E=>?_;refine SS E (ae E (dk i _ (JO hk))) λa E=>?_;refine a6 2 E I (WQ ((I.store sq).pick (ah (e5 p aq cO tq jq sq) k6)) hk wv) λA2 k2 a w E ⟨⟨ca,oB,ee,o8⟩,I⟩=>?_;rw[← JP (k':=k2) hk]at I;refine RN 2 E I λa E=>?_;refine⟨ks.length-(i+1),by omega,i+1,A2,k6.set i (k2,wb),⟨rfl,by omega,by rw[bu];exact dO,λj z hj hz=>?_,oB,ee.trans ly,o8.trans qW⟩,E.ab [0,7,8,9],I.sub⟩;rw[jF]at hz;split at hz
  ·cases hz;exact ca
  ·exact Mf j z (by omega) hz
 refine RN 0 E I λa E=>?_;have gx:=I;refine CL 4 E I (UN ((I.store sq).tree tq) he) λa w E I=>?_;refine RT 0 E I ?_;obtain rfl:i=ks.length:=by omega
 have A4:=wv.cut (ax.facts (gx.store sq)).1 (λ_=>true);rw[show T.l.filter (λ_=>true)=T.l from by simp]at A4;have hd:=AX T.l A1;refine⟨A1.gJ T.l,k6,rfl,⟨A4,dO,λk hk=>?_,hd.1.trans ly,hd.2.1.trans qW⟩,?_⟩
 ·obtain⟨j,hj⟩:=jM.1 hk;exact Mf j k (by have:=(a8.1 hj).1;omega) hj
 ·rw[← dO]at I;exact aH.fold I ⟨mb,B,sq,r,tq,jq,dy,dF,aq,cO⟩ p ⟨s,A1.gJ T.l,T.cut λ_=>true,J,k6,base,front⟩
theorem FF {id:Nat}(I:U W w (aH W M p m::L))(hx:m.A.au[i]?=some px)(bT:px.id=id) :
   Calls prog 274 #[pt M.mb,.int .i64 id] w λe V=>e=.returned (.agg (ints .i32 32 px.g).toArray)∧U W V (aH W M p m::L):=by
 replace I:=aH.open I;refine EN func274 ntmps274 rfl rfl λa E=>?_;refine AL 1 E I λb4 a w E I=>?_;change U W w (aa b4 183 (ints .i32 32 (λ_=>0))::_) at I;refine CL 6 E I (WV (I.store M.sq) hx bT) λa w E I=>?_;refine AL 3 E I λb5 a w E I=>?_;change U W w (aa b5 183 (ints .i32 32 (λ_=>0))::_) at I;refine SA 0 E I λa w E I=>?_;refine SA 3 E I λa w E I=>?_;refine RT 0 E I ?_;exact⟨rfl,(aH.fold I M p m).sub⟩
structure ZH (p:Pr)(M:jm)(m m':Mu)(t':Nat→Nat):Prop where
 inv:Inv p (aw m.s.k:Int) m.s.g t' m'.base m'.A m'.T (m'.ks.map (·.1))
 s:m'.s=m.s
 J:m'.J=m.J
 front:m'.front=aw m.s.k
 room:m'.A.room=m.A.room
 n:m'.A.n≤m.A.n+1
 last:m'.T.last=m.T.last
 most:m'.T.most=m.T.most
 rP:m'.T.epoch≤m.T.epoch+2
 ks:m'.ks.length=m.ks.length
 ae2:(m'.T=m.T∧m'.A=m.A∧m'.ks=m.ks)∨m'.T.l=[]
 same:m.front=aw m.s.k→m'.T=m.T∧m'.A=m.A∧m'.ks=m.ks
theorem ZI (I:U W w (aH W M p m::L))(hw:cv p m.s)(hg:dQ m.s.g)(hI:Inv p (m.front:Int) g0 t m.base m.A m.T (m.ks.map (·.1)))(fq:m.front=aw m.s.k→g0=m.s.g)
   (he:m.T.epoch+2<1099511627776) (hn:m.A.n+1<1099511627776) (h4:m.ks.length≤4) (ry:12≤m.A.room) :
   Calls prog 286 #[pt M.mb] w λe V=>∃ (m':Mu) (t':Nat→Nat),e=.returned (.tuple #[])∧ZH p M m m' t'∧U W V (aH W M p m'::L):=by
 have bP:=hw.wc.k0;have iE:m.s.k.ls.length≤8:=by rw[hw.wc.ls];exact hw.wc.n.2
 obtain⟨mb,B,sq,r,tq,jq,dy,dF,aq,cO⟩:=M;obtain⟨s,A,T,J,ks,base,front⟩:=m;obtain⟨i,px,g9,kU⟩:=hI.l9 (mem_cons_self ..)
 have hF : ∀ (N : List SP) (V : World) (x : Br) (av : Option Addr) (c' : Nat), U W V N →
     Calls prog 301 ([]++[Value.agg (cg x av c').toArray]).toArray V λe ny=>e=.returned (.bool false)∧U W ny N:=by
  intro N w x av c' I;refine EN func301 ntmps301 rfl rfl λa E=>?_;refine BX 1 E I λb1 a w E I=>?_;refine RT 3 E I ?_;exact⟨rfl,I.tail⟩
 simp only at hw hg hI fq he hn h4 ry bP iE g9 kU;subst kU;replace I:=aH.open I;dsimp only at I;refine EN func286 ntmps286 rfl rfl λa E=>?_;refine CL 5 E I (nG (I.pick (aO W B p s))) λa w E I=>?_;replace I:=aO.open I;refine CL 0 E I (oy (I.pick (aA B.core s.k))) λa w E I=>?_;obtain⟨D,I,hD⟩:=aA.qu I;refine CL 0 E I (rl I bP iE) λa w E I=>?_;refine RN 1 E I λa E=>?_;replace I:=(aO.fold (hD _ _ I) B p s);refine IF 8 E I (λaj a E=>?_) λaj a E=>?_
 ·
  have oq:front=aw s.k:=by rw[aw];omega
  refine RT 0 E I ?_;exact⟨⟨s,A,T,J,ks,px.id,front⟩,t,rfl,⟨by rw[← oq,← fq oq];exact hI,rfl,rfl,oq,rfl,by simp only;omega,rfl,rfl,by simp only;omega,rfl,.inl ⟨rfl,rfl,rfl⟩,λ_=>⟨rfl,rfl,rfl⟩⟩,aH.fold I ⟨mb,B,sq,r,tq,jq,dy,dF,aq,cO⟩ p ⟨s,A,T,J,ks,px.id,front⟩⟩
 refine RN 5 E I λa E=>?_;have wx:=hI.cut (ax.facts (I.store sq)).1 (λ_=>true);have s0:=AX (T.l.filter λ_=>true) A;have FG:(T.cut λ_=>true).l=[]:=by simp[Tr.cut]
 have ZJ:(T.cut λ_=>true).epoch≤T.epoch+1:=by simp only[Tr.cut];split <;> omega
 refine jJ 0 E I (Me (kp:=λ_=>false) (ws:=[]) ((I.store sq).tree tq) (by omega) (by kernel_rfl) (λN V x av c' _ h1 _ _ _ _=>hF N V x av c' h1)) ?_;clear E I;rintro e w ⟨⟨_,rfl⟩,I⟩;refine⟨_,rfl,λa E=>?_⟩;replace I:U W w (Tree tq sq (T.cut λ_=>true)::ax sq r (A.gJ (T.l.filter λ_=>true))::_):=I;generalize A.gJ (T.l.filter λ_=>true)=A1 at I wx s0;have rA:(T.cut λ_=>true).last=T.last∧(T.cut λ_=>true).most=T.most:=⟨rfl,rfl⟩;generalize (T.cut λ_=>true)=T1 at I wx FG ZJ rA;obtain⟨i1,qp,ZK,ZL⟩:=wx.l9 (mem_cons_self ..);rw[← ZL]at I wx;refine RN 0 E I λa E=>?_;refine cc (M:=λa w=>∃ (A2:Sn) (T2:Tr) (qq:List Kx),(A2.used+4≤A2.room∧Inv p (front:Int) g0 t qp.id A2 T2 (qq.map (·.1))∧T2.l=[]∧T2.epoch≤T.epoch+2∧T2.last=T.last∧T2.most=T.most∧qq.length=ks.length∧A2.room=A.room∧A2.n=A.n)∧Fr a 73 [(0,pt mb),(2,.int .i64 (aW s.k.ls))]∧U W w (aH W ⟨mb,B,sq,r,tq,jq,dy,dF,aq,cO⟩ p ⟨s,A2,T2,J,qq,qp.id,front⟩::L)) ?_ ?_
 ·
  refine aY 1 (λw0 V=>Rd V mb 0 (dU p ⟨mb,B,sq,r,tq,jq,dy,dF,aq,cO⟩ ks.length qp.id front)) [7,11,12,13] [0,1,2,4,5,6,8,9,10,3003,3007,1011,1012,1013,1014,15] E I λa w E I hH=>?_;have hC:=hH.at w (I.ai (b:=mb));refine RH 9 E I hH hC λa E=>?_;refine QH E (λw hc=>ae E (hc 3 _ rfl)) hC λa E=>?_;refine QH E (λw hc=>ae E (hc 3 _ rfl)) hC λa E=>?_;refine RH 0 E I hH hC λa E=>?_;refine SS E (ae E (hC 7 _ rfl)) λa E=>?_;refine RH 0 E I hH hC λa E=>?_;refine a6 0 E I (IB (I.store sq) ZK) λc1 dR a w E I=>?_;replace hC:=hH.at w (I.ai (b:=mb));refine RH 1 E I hH hC λa E=>?_;refine CL 0 E I (IC (I.store sq)) λa w E I=>?_;refine RN 1 E I λa E=>?_;refine IF 0 E I (λao a E=>?_) λao a E=>?_
  ·
   replace I:=aH.fold I ⟨mb,B,sq,r,tq,jq,dy,dF,aq,cO⟩ p ⟨s,A1,T1,J,ks,qp.id,front⟩;refine a6 1 E I (ZG I wx (by dsimp only;omega) h4) λA2 qq a w E ⟨⟨oB,ca,ZM,ee,o8⟩,I⟩=>?_;refine RN 0 E I λa E=>?_;have b9:(T1.cut λ_=>true).l=[]:=by simp[Tr.cut]
   have hce:(T1.cut λ_=>true).epoch≤T1.epoch+1:=by simp only[Tr.cut];split <;> omega
   have hu:=ax.vi ((aH.open I).store sq);have hG:=oB.len;rw[Mb (λk hk=>by obtain⟨y,hy,rfl⟩:=c0.1 hk;exact ZM y hy)]at hG;simp only[b9,length_nil]at hG ee o8 ca hu;exact⟨A2,T1.cut λ_=>true,qq,⟨by rw[ee,s0.1];omega,oB,b9,by omega,rA.1,rA.2,ca,by rw[ee,s0.1],by rw[o8,s0.2.1]⟩,E.ab [0,2],I.sub⟩
  refine RN 0 E I λa E=>?_;exact⟨A1,T1,ks,⟨by omega,wx,FG,by omega,rA.1,rA.2,rfl,s0.1,s0.2.1⟩,E.ab [0,2],(aH.fold I ⟨mb,B,sq,r,tq,jq,dy,dF,aq,cO⟩ p ⟨s,A1,T1,J,ks,qp.id,front⟩).sub⟩
 clear E;(try clear I);rintro a w ⟨A2,T2,qq,⟨ZN,oB,Mg,FH,ZO,A5,ca,ee,o8⟩,E,I⟩;refine RN 1 E I λa E=>?_;replace I:=aH.open I;dsimp only at I;refine aY 0 (λw0 V=>Rd V mb 0 (dU p ⟨mb,B,sq,r,tq,jq,dy,dF,aq,cO⟩ qq.length qp.id front)) [7,8] [0,1,2,4,5,6,3003,1007,1008,1009,10,11,12,13,14] E I λa w E I hH=>?_;have hC:=hH.at w (I.ai (b:=mb));refine RH 6 E I hH hC λa E=>?_;refine QH E (λw hc=>ae E (hc 3 _ rfl)) hC λa E=>?_;refine RH 0 E I hH hC λa E=>?_;refine SS E (ae E (hC 0 _ rfl)) λa E=>?_;refine RH 0 E I hH hC λa E=>?_;refine CL 0 E I (L9 (I.pick (aO W B p s))) λa w E I=>?_;replace hC:=hH.at w (I.ai (b:=mb));have vG:=(ax.facts (I.store sq)).1;refine RH 0 E I hH hC λa E=>?_;refine aR 0 E I (ID (g:=s.g) (I.store sq) ZN (by omega)) λt' a w E ⟨⟨ZP,FI⟩,I⟩=>?_;refine RN 5 E I λa E=>?_;refine RN 4 E I λa E=>?_;replace E:=E.aK 55;refine aY 2 (λw0 V=>Rd V mb 0 (dU p ⟨mb,B,sq,r,tq,jq,dy,dF,aq,cO⟩ qq.length qp.id front)) [7] [0,1,2,4,5,6,3003,1007,1008] E I λa w E I hH=>?_;have hC:=hH.at w (I.ai (b:=mb));refine RH 6 E I hH hC λa E=>?_;refine QH E (λw hc=>ae E (hc 3 _ rfl)) hC λa E=>?_;refine RH 0 E I hH hC λa E=>?_;refine SS E (ae E (hC 7 _ rfl)) λa E=>?_;refine RH 0 E I hH hC λa E=>?_;refine aR 0 E I (zD (I.store sq)) λ_ a w E I=>?_;refine ST 6 E I (λa w E I=>?_);refine ST 2 E I (λa w E I=>?_);refine RT 0 E I ?_;have hm:=oB.ZA (F':=(aw s.k:Int)) (g:=s.g) (t':=t') vG (by omega) Mg hg;have hd:=n1 (A2.add s.g t') qp.id;exact⟨⟨s,(A2.add s.g t').eA qp.id,T2,J,qq,A2.last+1,aW s.k.ls⟩,t',rfl,⟨hm,rfl,rfl,rfl,hd.1.trans ee,by rw[hd.2.1];show A2.n+1≤A.n+1;omega,ZO,A5,FH,ca,.inr Mg,λe=>(by have e2:front=aW s.k.ls:=e;exfalso;omega)⟩,aH.fold I ⟨mb,B,sq,r,tq,jq,dy,dF,aq,cO⟩ p ⟨s,(A2.add s.g t').eA qp.id,T2,J,qq,A2.last+1,aW s.k.ls⟩⟩
end
end
section
abbrev bj (xs:List ed):List (List UInt8):=xs.map (·.2.2)
theorem s4 {xs:List ed}{i:Nat}{x:ed}(h:xs[i]?=some x):(bj xs).getD i []=x.2.2:=by
 rw[bl,bn,h];rfl
theorem gf (xs:List ed):(bj xs).length=xs.length:=bg _
theorem ix.at {w:World}{ad:Option Addr}{xs:List ed}(h:ix w ad xs){i:Nat}(hi:i<xs.length):∃ b off x,ad=some ⟨b,off,none⟩∧xs[i]?=some x∧w.cell? ⟨b,off+i,none⟩=some (aL x)∧aQ w x.1 x.2.2.length x.2.2:=by
 obtain⟨b,off,hb,hr⟩:=h.1 (by omega);have hx:xs[i]?=some xs[i]:=aF hi;exact⟨b,off,xs[i],hb,hx,hr i _ (by rw[bn,hx];rfl),h.2 _ (bJ hx)⟩
section
variable {W w:World}{L:List SP}{m cT to r f cl:Nat}{adT gY:Option Addr}{past:List UInt8}{b:Gs}{xs:List ed}
theorem A6 (I:U W w L)(h0:0<xs.length)(h8:xs.length≤8)(hp:∀ V,U W V L→ix V gY xs) :
   Calls prog 41 #[.slice gY xs.length cl] w λe V=>e=.returned (.int .i64 (aW (bj xs)))∧U W V L:=by
 refine EN func41 ntmps41 rfl rfl λa E=>?_;refine RN 3 E I λa E=>?_;obtain⟨mI,ol,x0,rfl,ZQ,pa,fG⟩:=(hp _ I).at h0;refine RN 3 E I λa E=>?_;refine SS E (ae E (pa)) λa E=>?_;rw[aL]at E;refine RN 5 E I λa E=>?_;rw[show ((x0.2.2.length:Nat):Int)=(iD (bj xs) 1:Nat) from by rw[X6,iD,List.headD_eq_getD,s4 ZQ]]at E;refine aP (λμ a w=>∃ (i:Nat),(μ=xs.length-i∧i≤xs.length∧1≤i)∧Fr a 25 [(0,.slice (some ⟨mI,ol,none⟩) xs.length cl),(3,.int .i64 (iD (bj xs) i:Nat)),(4,.int .i64 i)]∧U W w L) (xs.length-1) (⟨1,⟨rfl,by omega,by omega⟩,E.ab [0,3,4],I⟩) ?_;clear E I;rintro μ a w ⟨i,⟨rfl,hi,k9⟩,E,I⟩;refine IF 6 E I (λaj a E=>?_) λaj a E=>?_
 ·
  obtain⟨_,_,x,gQ,hx,pa,fG⟩:=(hp _ I).at (i:=i) (by omega);cases gQ;refine RN 6 E I λa E=>?_;refine SS E (ae E (pa)) λa E=>?_;rw[aL]at E;refine RN 2 E I λa E=>?_;rw[show min ((iD (bj xs) i:Nat):Int) ((x.2.2.length:Nat):Int)=((iD (bj xs) (i+1):Nat):Int) from by rw[iD,s4 hx];omega]at E;refine RN 4 E I λa E=>?_;exact⟨xs.length-(i+1),by omega,i+1,⟨rfl,by omega,by omega⟩,E.ab [0,3,4],I⟩
 refine RT 3 E I ?_;obtain rfl:i=xs.length:=by omega
 exact⟨by rw[aW,gf],I⟩
theorem FJ (I:U W w L)(h0:0<xs.length)(h8:xs.length≤8)(hp:∀ V,U W V L→ix V gY xs)(hf:f<aW (bj xs)) :
   Calls prog 40 #[.slice gY xs.length cl,.int .i64 f] w λe V=>∃ av c',e=.returned (.slice av (bL (bj xs) f).length c')∧U W V (Sl 5 1 av (bL (bj xs) f).length c' (bc (bL (bj xs) f))::L):=by
 refine EN func40 ntmps40 rfl rfl λa E=>?_;refine RN 7 E I λa E=>?_;replace I:=I.bO 5 1 none;refine aP (λμ a w=>∃ (i:Nat) (ad2:Option Addr) (c2:Nat),(μ=xs.length-i∧i≤xs.length)∧Fr a 25 [(0,.slice gY xs.length cl),(1,.int .i64 f),(5,.slice ad2 (fx (bj xs) f i).length c2),(6,.int .i64 i)]∧U W w (Sl 5 1 ad2 (fx (bj xs) f i).length c2 (bc (fx (bj xs) f i))::L)) (xs.length) (⟨0,none,0,⟨rfl,by omega⟩,E.ab [0,1,5,6],I⟩) ?_;clear E I;rintro μ a w ⟨i,ad2,c2,⟨rfl,hi⟩,E,I⟩;refine IF 6 E I (λaj a E=>?_) λaj a E=>?_
 ·
  obtain⟨mI,ol,x,rfl,hx,pa,fG⟩:=(hp _ I.tail).at (i:=i) (by omega);have eS:f<x.2.2.length:=by
   have h1:=vV (ls:=bj xs) (l:=x.2.2) (c0.2 ⟨x,bJ hx,rfl⟩);omega
  obtain⟨mn,ox,gQ,hS⟩:=fG.get (by omega);have eH:=sL (ls:=bj xs) (f:=f) (i:=i) (by rw[gf];exact hi);refine RN 6 E I λa E=>?_;refine SS E (ae E (pa)) λa E=>?_;rw[aL,gQ]at E;refine RN 2 E I λa E=>?_;refine SS E (ae E (hS f _ (kX eS))) λa E=>?_;refine RN 0 E I λa E=>?_;refine cp E rfl I underlying22 Ty.t5 rfl rfl rfl rfl (by decide) (by decide) λtV a w E I ho=>?_;clear ho;refine RN 0 E I λa E=>?_;refine cQ E rfl I underlying22 Ty.t5 rfl rfl I.ai rfl (ey [x.2.2.getD f 0]) (by decide) (by decide) (by omega) λgq gr a w E I=>?_;rw[show bc (fx (bj xs) f i)++_=bc (fx (bj xs) f (i+1)) from by rw[Aw (by rw[gf];omega),getElem_map,fI,(a8.1 hx).2],show (fx (bj xs) f i).length+1=(fx (bj xs) f (i+1)).length from by rw[eH,sL (by rw[gf];omega)]]at I;rw[show (fx (bj xs) f i).length+1=(fx (bj xs) f (i+1)).length from by rw[eH,sL (by rw[gf];omega)]]at E;refine RN 4 E I λa E=>?_;exact⟨xs.length-(i+1),by omega,i+1,gq,gr,⟨rfl,by omega⟩,E.ab [0,1,5,6],I.sub⟩
 refine RT 3 E I ?_;obtain rfl:i=xs.length:=by omega
 have hj:fx (bj xs) f xs.length=bL (bj xs) f:=by
  conv=>lhs;rw[← gf xs]
  exact Av _ _
 rw[hj]at I ⊢;exact⟨_,_,rfl,I⟩
set_option maxHeartbeats 1000000 in
theorem A7 (hr:r≤100000)(I:U W w L)(hb:cY b)(h0:0<xs.length)(h8:xs.length≤8)(hl:∀ l∈bj xs,l.length≤1000)(sQ:to≤1000)(hp:∀ V,U W V L→ix V gY xs)(ht:∀ V,U W V L→aQ V adT b.table.length b.table) :
   Calls prog 117 #[.slice gY xs.length cl,.agg (dr b adT cT).toArray,.int .i64 r,.int .i64 to] w λe V=>∃ (av:Option Addr) (c':Nat) (X:List (List UInt8)),e=.returned (.slice av (to-aW (bj xs)) c')∧(yp to (bj xs) X∧(r=0→X=iR b (bj xs) to)) ∧
    U W V (cd av (to-aW (bj xs)) c' (m9 X (aW (bj xs)) to)::L):=by
 have bP:bj xs≠[]:=λe=>by have h1:=gf xs;rw[e]at h1;simp at h1;omega
 have fq:aW (bj xs)≤1000:=by
  obtain⟨l,kM,ma⟩:=Au bP;rw[ma];exact hl l kM
 refine EN func117 ntmps117 rfl rfl λa E=>?_;refine BX 1 E I λb5 a w E I=>?_;change U W w (aa b5 47 (dr b adT cT)::_) at I;refine CL 3 E I (A6 (cl:=cl) I h0 h8 (λV hw=>hp V hw.tail)) λa w E I=>?_;refine aR 4 E I (AQ I) λrz a w E ⟨jx,I⟩=>?_;rw[jx.2 hb]at E;refine RN 2 E I λa E=>?_;replace E:=E.aK 23;refine RN 4 E I λa E=>?_;rw[bq (by omega)]at E;refine RN 4 E I λa E=>?_;rw[bq (by omega)]at E;refine IF 4 E I (λaj a E=>?_) λaj a E=>?_
 ·
  refine RT 2 E I ?_;have hz:to-aW (bj xs)=0:=by omega
  refine⟨none,0,iR b (bj xs) to,by rw[hz],⟨⟨by rw[iR,bg],λj l x hj hx=>?_⟩,λ_=>rfl⟩,?_⟩
  ·rw[iR,bn,hj]at hx;obtain rfl:nD b l to=x:=by simpa using hx
   exact Ze (hl l (bJ hj)) sQ
  ·rw[m9,hz];exact cd.nil I.tail
 refine RN 7 E I λa E=>?_;replace I:=I.bO 22 1 none;replace I:=U.iM (f:=ba) I;have ae3:aW (bj xs)<to:=by omega
 refine aP (λμ a w=>∃ (i:Nat) (Mh:Bool) (ys:List ed) (nc:Option Addr) (nd:Nat),(μ=xs.length-i∧i≤xs.length∧ys.length=i∧(∀ (j:Nat) (l:List UInt8) (x:ed),(bj xs)[j]?=some l→ys[j]?=some x→wk to l x.2.2)∧(r=0→bj ys=(iR b (bj xs) to).take i))∧Fr a 117 [(0,.slice gY xs.length cl),(2,.int .i64 r),(3,.int .i64 to),(5,pt b5),(9,.int .i64 (aW (bj xs))),(10,.slice nc i nd),(11,.bool Mh),(12,.int .i64 i)]∧U W w (Sl 22 1 nc i nd (ys.map aL)::ah ba ys::aa b5 47 (dr b adT cT)::L)) (xs.length) (⟨0,false,[],none,0,⟨rfl,by omega,rfl,λj l x _ h=>by simp at h,λ_=>rfl⟩,E.ab [0,2,3,5,9,10,11,12],(I.sub:U W w (Sl 22 1 none 0 0 []::ah ba []::aa b5 47 (dr b adT cT)::L))⟩) ?_;clear E I;rintro μ a w ⟨i,Mh,ys,nc,nd,⟨rfl,hi,jB,ni,ux⟩,E,I⟩;refine IF 6 E I (λao a E=>?_) λao a E=>?_
 ·
  obtain⟨mI,ol,x,rfl,hx,pa,fG⟩:=(hp _ I.tail.tail.tail).at (i:=i) (by omega);have eG:(bj xs)[i]?=some x.2.2:=by rw[bn,hx];rfl
  have b0:=hl _ (bJ eG);replace I:=I.bO 5 1 none;refine RN 6 E I λa E=>?_;refine SS E (ae E (pa)) λa E=>?_;rw[aL]at E;refine RN 0 E I λa E=>?_;refine gU E rfl I underlying22 Ty.t5 rfl rfl (by decide) (λh0=>fG.get h0) (by rw[dB];omega) (ey _) (by omega) λpq rh a w E I=>?_;rw[nil_append,Nat.zero_add]at I;rw[Nat.zero_add]at E;refine RN 1 E I λa E=>?_;refine cc (M:=λa w=>∃ (A8:Bool) (c1:Option Addr) (dR:Nat) (y:List UInt8),((∃ t,y=x.2.2++t)∧y.length≤x.2.2.length+1∧(y=x.2.2∨x.2.2.length=aW (bj xs))∧(r=0→y=x.2.2))∧Fr a 117 [(0,.slice (some ⟨mI,ol,none⟩) xs.length cl),(2,.int .i64 r),(3,.int .i64 to),(5,pt b5),(9,.int .i64 (aW (bj xs))),(10,.slice nc i nd),(11,.bool A8),(12,.int .i64 i),(13,.slice c1 y.length dR)]∧U W w (Sl 5 1 c1 y.length dR (bc y)::Sl 22 1 nc i nd (ys.map aL)::ah ba ys::aa b5 47 (dr b adT cT)::L)) ?_ ?_
  ·
   refine BY 4 E I (λbA a E=>?_) λbA a E=>?_
   ·
    refine BY 4 E I (λjQ a E=>?_) λjQ a E=>?_
    ·
     refine IF 5 E I (λaz a E=>?_) λaz a E=>?_
     ·
      refine RN 2 E I λa E=>?_;have ri:r%256<256:=Nat.mod_lt _ (by decide);have ZR:=(I.sl pq).2;refine SX 4 E I (by decide) λa E=>?_;rw[show ((r:Nat):Int).tmod 256=((r%256:Nat):Int) from nR _ 256]at E;generalize lJ:r%256=r6 at E ri;refine RN 1 E I λa E=>?_;rw[show ((r6:Nat):Int)+1=((r6+1:Nat):Int) from by omega]at E;refine jI 0 E I (LF (past:=x.2.2) (k:=r6+1) I hb (by omega) (by omega) ZR (λV hw=>hw.cu pq x.2.2 rfl rfl) (λV hw=>ht V hw.tail.tail.tail.tail)) λq7 oj out a w E ⟨⟨cS,_⟩,I⟩=>?_;obtain⟨gl,or',rfl,jx⟩:=I.bW q7 (by omega);refine SX 1 E I (by decide) λa E=>?_;rw[show ((r:Nat):Int).tmod 256=((r6:Nat):Int) from by rw[← lJ];exact nR _ 256]at E;refine RN 1 E I λa E=>?_;refine SS E (ae E (jx r6 _ (dS (by omega)))) λa E=>?_;refine RN 0 E I λa E=>?_;refine cp E rfl I underlying22 Ty.t5 rfl rfl rfl rfl (by decide) (by decide) λXw a w E I ho=>?_;clear ho;refine RN 0 E I λa E=>?_;refine cQ E rfl I underlying22 Ty.t5 rfl rfl I.ai rfl (ey [out[r6]]) (by decide) (by decide) (by omega) λKb Kc a w E I=>?_;rw[show bc x.2.2++_=bc (x.2.2++[out[r6]]) from (fI _ [_]).symm,show x.2.2.length+1=(x.2.2++[out[r6]]).length from by simp]at I;rw[show x.2.2.length+1=(x.2.2++[out[r6]]).length from by simp]at E;refine RN 1 E I λa E=>?_;exact⟨_,Kb,Kc,x.2.2++[out[r6]],⟨⟨_,rfl⟩,by simp,.inr (by omega),λh=>by omega⟩,E.ab [0,2,3,5,9,10,11,12,13],I.sub⟩
     refine RN 0 E I λa E=>?_;exact⟨_,pq,rh,x.2.2,⟨⟨[],by simp⟩,by omega,.inl rfl,λ_=>rfl⟩,E.ab [0,2,3,5,9,10,11,12,13],I.sub⟩
    refine RN 6 E I λa E=>?_;exact⟨_,pq,rh,x.2.2,⟨⟨[],by simp⟩,by omega,.inl rfl,λ_=>rfl⟩,E.ab [0,2,3,5,9,10,11,12,13],I.sub⟩
   refine RN 10 E I λa E=>?_;exact⟨_,pq,rh,x.2.2,⟨⟨[],by simp⟩,by omega,.inl rfl,λ_=>rfl⟩,E.ab [0,2,3,5,9,10,11,12,13],I.sub⟩
  clear E;(try clear I);rintro a w ⟨A8,c1,dR,y,⟨hU,kg,Zi,na⟩,E,I⟩;refine cc (M:=λa w=>∃ (adq:Option Addr) (cq:Nat) (z:List UInt8),(wk to x.2.2 z∧(r=0→z=nD b x.2.2 to))∧Fr a 117 [(0,.slice (some ⟨mI,ol,none⟩) xs.length cl),(2,.int .i64 r),(3,.int .i64 to),(5,pt b5),(9,.int .i64 (aW (bj xs))),(10,.slice nc i nd),(11,.bool A8),(12,.int .i64 i),(13,.slice adq z.length cq)]∧U W w (Sl 5 1 adq z.length cq (bc z)::Sl 22 1 nc i nd (ys.map aL)::ah ba ys::aa b5 47 (dr b adT cT)::L)) ?_ ?_
  ·
   refine IF 5 E I (λbh a E=>?_) λbh a E=>?_
   ·
    have oA:=(I.sl c1).2;have Fy:=ER b y (to-y.length);refine RN 7 E I λa E=>?_;rw[show ((to:Nat):Int)-((y.length:Nat):Int)=((to-y.length:Nat):Int) from by omega]at E;refine a6 0 E I (Y9 (past:=y) (m:=to-y.length) I hb (by omega) oA (by omega) (λV hw=>hw.cu c1 y rfl rfl) (λV hw=>ht V hw.tail.tail.tail.tail)) λadc Zj a w E I=>?_;refine RN 0 E I λa E=>?_;refine gU E rfl I underlying22 Ty.t5 rfl rfl (by decide) (λh0=>(I.cu adc (jX b y (to-y.length)) rfl Fy).get h0) (by rw[dB];omega) (ey _) (by omega) λZS ZT a w E I=>?_;rw[← fI,ug,show y.length+(to-y.length)=(en b y (to-y.length)).length from by rw[ij]]at I;rw[show y.length+(to-y.length)=(en b y (to-y.length)).length from by rw[ij]]at E;refine RN 1 E I λa E=>?_;obtain⟨t,Fz⟩:=hU;refine⟨ZS,ZT,_,⟨⟨⟨t++jX b y (to-y.length),?_⟩,by rw[ij];omega,by rw[ij];omega⟩,λh=>?_⟩,E.ab [0,2,3,5,9,10,11,12,13],I.sub⟩
    ·rw[← ug,Fz,dA]
    ·rw[na h,nD]
   refine RN 0 E I λa E=>?_;exact⟨c1,dR,y,⟨⟨hU,by omega,by omega⟩,λh=>by rw[LH (by rw[← na h];omega)];exact na h⟩,E.ab [0,2,3,5,9,10,11,12,13],I⟩
  clear E;(try clear I);rintro a w ⟨adq,cq,z,⟨cW,eQ⟩,E,I⟩;refine RN 2 E I λa E=>?_;refine cp E rfl I underlying207 Ty.t22 rfl rfl rfl rfl (by decide) (by decide) λb88 a w E I ho=>?_;clear ho;refine RN 0 E I λa E=>?_;refine cQ E rfl I underlying207 Ty.t22 rfl rfl I.ai rfl (by simp[Value.oneCell']) (by decide) (by decide) (by omega) λMi Mj a w E I=>?_;rw[show List.map aL ys++_=List.map aL (ys++[(adq,cq,z)]) from by rw[cX];rfl]at I;refine RN 4 E I λa E=>?_;have c6:=U.jG (f:=ba) (x:=(adq,cq,z)) (I.sub (M:=Sl 5 1 adq z.length cq (bc z)::ah ba ys::Sl 22 1 Mi (i+1) Mj ((ys++[(adq,cq,z)]).map aL)::aa b5 47 (dr b adT cT)::L));refine⟨xs.length-(i+1),by omega,i+1,A8,ys++[(adq,cq,z)],Mi,Mj,⟨rfl,by omega,by rw[aM,jB];rfl,λj l y hj hy=>?_,λh=>?_⟩,E.ab [0,2,3,5,9,10,11,12],c6.sub⟩
  ·by_cases gI:j<i
   ·rw[lX (by omega)]at hy;exact ni j l y hj hy
   ·have eH:=(a8.1 hy).1;rw[aM,ji]at eH;obtain rfl:j=i:=by omega
    rw[getElem?_append_right (by omega),jB,Nat.sub_self]at hy;obtain rfl:(adq,cq,z)=y:=by simpa using hy
    rw[eG]at hj;obtain rfl:x.2.2=l:=by simpa using hj
    exact cW
  ·rw[bj,cX,← bj,ux h,iZ (by rw[iR,bg,gf];omega)]
   congr 1
   rw[map_singleton,eQ h];simp only[iR,getElem_map];rw[(a8.1 hx).2]
 obtain rfl:i=xs.length:=by omega
 have ie:yp to (bj xs) (bj ys):=⟨by rw[gf,gf];exact jB,λj l x hj hx=>by
  rw[bn]at hx;obtain⟨y,hy,rfl⟩:=Option.map_eq_some_iff.1 hx;exact ni j l y hj hy⟩
 have mB:r=0→bj ys=iR b (bj xs) to:=λh=>by rw[ux h,fY (by rw[iR,bg,gf];exact bk _)]
 clear ni ux;refine RN 6 E I λa E=>?_;replace I:=I.bO 22 1 none;replace I:=U.iM (f:=ba) I;refine aP (λμ a w=>∃ (d:Nat) (zs:List ed) (mC:Option Addr) (mD:Nat),(μ=to-aW (bj xs)-d∧d≤to-aW (bj xs)∧bj zs=(List.range d).map λi=>bL (bj ys) (aW (bj xs)+i))∧Fr a 117 [(0,.slice gY xs.length cl),(3,.int .i64 to),(10,.slice nc xs.length nd),(14,.slice mC d mD),(15,.int .i64 (aW (bj xs)+d:Nat))]∧U W w (Sl 22 1 mC d mD (zs.map aL)::ah ba zs::Sl 22 1 nc xs.length nd (ys.map aL)::ah ba ys::L)) (to-aW (bj xs)) (⟨0,[],none,0,⟨rfl,by omega,rfl⟩,by rw[Nat.add_zero];exact E.ab [0,3,10,14,15],(I.sub:U W w (Sl 22 1 none 0 0 []::ah ba []::Sl 22 1 nc xs.length nd (ys.map aL)::ah ba ys::L))⟩) ?_;clear E I;rintro μ a w ⟨d,zs,mC,mD,⟨rfl,hd,sV⟩,E,I⟩;refine IF 5 E I (λbQ a E=>?_) λbQ a E=>?_
 ·
  refine RN 6 E I λa E=>?_;replace I:=I.bO 5 1 none;refine aP (λμ a w=>∃ (i:Nat) (iG:Option Addr) (iS:Nat),(μ=xs.length-i∧i≤xs.length)∧Fr a 117 [(0,.slice gY xs.length cl),(3,.int .i64 to),(10,.slice nc xs.length nd),(14,.slice mC d mD),(15,.int .i64 (aW (bj xs)+d:Nat)),(16,.slice iG i iS),(17,.int .i64 i)]∧U W w (Sl 5 1 iG i iS (bc (fx (bj ys) (aW (bj xs)+d) i))::Sl 22 1 mC d mD (zs.map aL)::ah ba zs::Sl 22 1 nc xs.length nd (ys.map aL)::ah ba ys::L)) (xs.length) (⟨0,none,0,⟨rfl,by omega⟩,E.ab [0,3,10,14,15,16,17],I⟩) ?_;clear E I;rintro μ a w ⟨i,iG,iS,⟨rfl,hi⟩,E,I⟩;refine IF 6 E I (λeT a E=>?_) λeT a E=>?_
  ·
   have aG:i<xs.length:=by omega
   have AT:=U.l6 (xs:=ys) (I.sub (M:=Sl 22 1 nc xs.length nd (ys.map aL)::ah ba ys::[]));obtain⟨a2,ae4,y,rfl,hy,oC,pE⟩:=AT.at (i:=i) (by omega);have A9:=ie.fit i _ y.2.2 (aF (by rw[gf];exact aG)) (by rw[bn,hy];rfl);obtain⟨bb,oo,s5,hS⟩:=pE.get (by have:=A9.2.1;omega);refine RN 5 E I λa E=>?_;refine SS E (ae E (oC)) λa E=>?_;rw[aL,s5]at E;refine SX 1 E I (by have:=A9.2.1;omega) λa E=>?_;refine RN 0 E I λa E=>?_;refine SS E (ae E (hS (aW (bj xs)+d) _ (kX (by have:=A9.2.1;omega)))) λa E=>?_;refine RN 0 E I λa E=>?_;refine cp E rfl I underlying22 Ty.t5 rfl rfl rfl rfl (by decide) (by decide) λQU a w E I ho=>?_;clear ho;refine RN 0 E I λa E=>?_;refine cQ E rfl I underlying22 Ty.t5 rfl rfl I.ai rfl (ey [y.2.2.getD (aW (bj xs)+d) 0]) (by decide) (by decide) (by omega) λZU ZV a w E I=>?_;rw[show bc (fx (bj ys) (aW (bj xs)+d) i)++_=bc (fx (bj ys) (aW (bj xs)+d) (i+1)) from by rw[Aw (by rw[gf];omega),getElem_map,fI,(a8.1 hy).2]]at I;refine RN 4 E I λa E=>?_;exact⟨xs.length-(i+1),by omega,i+1,ZU,ZV,⟨rfl,by omega⟩,E.ab [0,3,10,14,15,16,17],I.sub⟩
  obtain rfl:i=xs.length:=by omega
  have eH:fx (bj ys) (aW (bj xs)+d) xs.length=bL (bj ys) (aW (bj xs)+d):=by
   conv=>lhs;rw[← jB,← gf]
   exact Av _ _
  rw[eH]at I;have pZ:(bL (bj ys) (aW (bj xs)+d)).length=xs.length:=by rw[m4,gf];exact jB
  refine RN 2 E I λa E=>?_;refine cp E rfl I underlying207 Ty.t22 rfl rfl rfl rfl (by decide) (by decide) λQV a w E I ho=>?_;clear ho;refine RN 0 E I λa E=>?_;refine cQ E rfl I underlying207 Ty.t22 rfl rfl I.ai rfl (by simp[Value.oneCell']) (by decide) (by decide) (by omega) λMk Mm a w E I=>?_;rw[show List.map aL zs++_=List.map aL (zs++[(iG,iS,bL (bj ys) (aW (bj xs)+d))]) from by rw[cX,map_singleton,aL,pZ];rfl]at I;refine RN 4 E I λa E=>?_;have c6:=U.jG (f:=ba) (x:=(iG,iS,bL (bj ys) (aW (bj xs)+d))) (by
   rw[ba,pZ];exact I.sub (M:=Sl 5 1 iG xs.length iS (bc (bL (bj ys) (aW (bj xs)+d)))::ah ba zs::Sl 22 1 Mk (d+1) Mm ((zs++[(iG,iS,bL (bj ys) (aW (bj xs)+d))]).map aL)::Sl 22 1 nc xs.length nd (ys.map aL)::ah ba ys::L))
  exact⟨to-aW (bj xs)-(d+1),by omega,d+1,zs++[(iG,iS,bL (bj ys) (aW (bj xs)+d))],Mk,Mm,⟨rfl,by omega,by rw[bj,cX,← bj,sV,range_succ,cX];rfl⟩,by rw[show ((aW (bj xs)+(d+1):Nat):Int)=((aW (bj xs)+d:Nat):Int)+1 from by omega];exact E.ab [0,3,10,14,15],c6.sub⟩
 obtain rfl:d=to-aW (bj xs):=by omega
 refine RT 3 E I ?_;exact⟨mC,mD,bj ys,rfl,⟨ie,mB⟩,cd.close (xs:=zs) (I.sub (M:=Sl 22 1 mC (to-aW (bj xs)) mD (zs.map aL)::ah ba zs::L)) sV (AS _ _ _)⟩
end
end
section
section
variable {W w:World}{Z:List SP}{n c i tq sq r nk base front:Nat}{ad:Option Addr}{M:jm}{B:iT}{y:UInt8}{x:Br}{p:Pr}{s:Pl}{T:Tr}
theorem ZW (I:U W w (aa M.mb 177 (dU p M nk base front)::aO W M.B p s::Z))(hw:cv p s)(hx:vt W (aa M.mb 177 (dU p M nk base front)::aO W M.B p s::Z) ad x.ak)
   (hf:x.frm=(front:Int)) (hj:∀ j∈x.ak,j.length=s.k.n) (hb:front+x.ak.length≤100000) :
   Calls prog 288 #[pt M.mb,.agg (cg x ad c).toArray] w λe V=>e=.returned (.bool (jo s.k.ls front x.ak))∧U W V (aa M.mb 177 (dU p M nk base front)::aO W M.B p s::Z):=by
 obtain⟨zs,hz,hx⟩:=hx;have bP:=hw.wc.k0;have e6:=hw.wc.ls;have wy:=hw.wc.n;have iW:zs.length=x.ak.length:=by rw[← hz,bg]
 refine EN func288 ntmps288 rfl rfl λa E=>?_;refine BX 1 E I λb3 a w E I=>?_;refine CL 6 E I (nG (I.pick (aO W M.B p s))) λa w E I=>?_;replace I:=aO.open I;refine CL 0 E I (oy (I.pick (aA M.B.core s.k))) λa w E I=>?_;refine RN 1 E I λa E=>?_;obtain⟨D,I,hD⟩:=aA.qu I;have Mn:∀ V,U W V (Qu M.B.core.qb M.B.core.aB s.k.ls::D::aa M.B.pb 192 (gu p M.B s.g)::ay W p M.B.aq M.B.cO::Sl 5 1 M.B.adT M.B.gs.table.length M.B.cT (bc M.B.gs.table)::aa M.mb 177 (dU p M nk base front)::Z)→ix V ad zs :=
  λV h=>hx V ((aO.fold (hD _ _ h) M.B p s).sub)
 refine RN 6 E I λa E=>?_;refine aP (λμ a w=>∃ (i:Nat),(μ=x.ak.length-i∧i≤x.ak.length∧(∀ j,j<i→sZ s.k.ls (front+j) (x.ak.getD j [])=true))∧Fr a 59 [(0,pt M.mb),(3,pt b3),(5,pt M.B.core.qb),(19,.slice ad x.ak.length c),(20,.int .i64 x.ak.length),(21,.int .i64 i)]∧U W w (Qu M.B.core.qb M.B.core.aB s.k.ls::D::aa b3 238 (cg x ad c)::aa M.B.pb 192 (gu p M.B s.g)::ay W p M.B.aq M.B.cO::Sl 5 1 M.B.adT M.B.gs.table.length M.B.cT (bc M.B.gs.table)::aa M.mb 177 (dU p M nk base front)::Z)) (x.ak.length) (⟨0,⟨rfl,by omega,λj h=>absurd h (by omega)⟩,E.ab [0,3,5,19,20,21],I.sub⟩) ?_;clear E I;rintro μ a w ⟨i,⟨rfl,hi,uA⟩,E,I⟩;refine IF 3 E I (λaj a E=>?_) λaj a E=>?_
 ·
  have aG:i<zs.length:=by omega
  obtain⟨mn,ox,z,gR,kq,l8,FK⟩:=(Mn _ I.sub).at aG;have Mo:x.ak.getD i []=z.2.2:=by rw[bl,← hz,bn,kq];rfl
  have Jy:z.2.2.length=s.k.n:=hj _ (by rw[← hz];exact c0.2 ⟨z,bJ kq,rfl⟩);refine RN 3 E I λa E=>?_;rw[gR]at E;refine RN 1 E I λa E=>?_;refine SS E (ae E (l8)) λa E=>?_;rw[← gR]at E;rw[aL]at E;refine RN 6 E I λa E=>?_;refine aP (λμ a w=>∃ (v:Nat),(μ=z.2.2.length-v∧v≤z.2.2.length∧(∀ q,q<v→front+i<(s.k.ls.getD q []).length→(s.k.ls.getD q []).getD (front+i) 0=z.2.2.getD q 0))∧Fr a 59 [(0,pt M.mb),(3,pt b3),(5,pt M.B.core.qb),(6,.int .i64 i),(19,.slice ad x.ak.length c),(20,.int .i64 x.ak.length),(21,.int .i64 i),(26,.slice z.1 z.2.2.length z.2.1),(27,.int .i64 z.2.2.length),(28,.int .i64 v)]∧U W w (Qu M.B.core.qb M.B.core.aB s.k.ls::D::aa b3 238 (cg x ad c)::aa M.B.pb 192 (gu p M.B s.g)::ay W p M.B.aq M.B.cO::Sl 5 1 M.B.adT M.B.gs.table.length M.B.cT (bc M.B.gs.table)::aa M.mb 177 (dU p M nk base front)::Z)) (z.2.2.length) (⟨0,⟨rfl,by omega,λj h=>absurd h (by omega)⟩,E.ab [0,3,5,6,19,20,21,26,27,28],I⟩) ?_;clear E I;rintro μ a w ⟨v,⟨rfl,hv,FL⟩,E,I⟩;refine IF 3 E I (λao a E=>?_) λao a E=>?_
  ·
   have Ba:v<z.2.2.length:=by omega
   have Mp:v<s.k.ls.length:=by omega
   obtain⟨ae5,ae6,cW,Bb⟩:=((Mn _ I.sub).2 z (bJ kq)).get (by omega);refine RN 3 E I λa E=>?_;rw[cW]at E;refine RN 1 E I λa E=>?_;refine SS E (ae E (Bb v _ (kX Ba))) λa E=>?_;rw[← cW]at E;refine aY 3 (λw0 V=>Rd V b3 0 (cg x ad c)) [2] [0,1,3,5,3004,6,1002,1007,8,9,10,11,12] E I λa w E I hH=>?_;have hC:=hH.at w (I.ai (b:=b3));refine RH 4 E I hH hC λa E=>?_;refine QH E (λw hc=>ae E (hc 1 _ rfl)) hC λa E=>?_;refine RH 1 E I hH hC λa E=>?_;rw[hf,show ((front:Nat):Int)+(i:Int)=((front+i:Nat):Int) from rfl]at E;refine CL 0 E I (sM (I.pick (Qu M.B.core.qb M.B.core.aB s.k.ls)) Mp) λa w E I=>?_;replace hC:=hH.at w (I.ai (b:=b3));refine RH 0 E I hH hC λa E=>?_;refine CL 0 E I (Ye I Mp) λa w E I=>?_;refine RN 5 E I λa E=>?_;refine BY 3 E I (λmV a E=>?_) λmV a E=>?_
   ·
    refine IF 4 E I (λaz a E=>?_) λaz a E=>?_
    ·
     refine RT 2 E I ?_;exact⟨by rw[ZC (i:=i) (by omega) (by rw[Mo];exact ZB Ba mV (λe=>az (by rw[e])))],((aO.fold (hD _ _ I) M.B p s).sub)⟩
    refine RN 2 E I λa E=>?_;refine⟨z.2.2.length-(v+1),by omega,v+1,⟨rfl,by omega,λq hq h1=>?_⟩,E.ab [0,3,5,6,19,20,21,26,27,28],I.sub⟩;rcases (by omega:q<v∨q=v) with h | rfl
    ·exact FL q h h1
    ·exact UInt8.toNat.inj (by omega)
   refine RN 7 E I λa E=>?_;refine⟨z.2.2.length-(v+1),by omega,v+1,⟨rfl,by omega,λq hq h1=>?_⟩,E.ab [0,3,5,6,19,20,21,26,27,28],I.sub⟩;rcases (by omega:q<v∨q=v) with h | rfl
   ·exact FL q h h1
   ·omega
  refine RN 2 E I λa E=>?_;refine⟨x.ak.length-(i+1),by omega,i+1,⟨rfl,by omega,λj hj=>?_⟩,E.ab [0,3,5,19,20,21],I.sub⟩;rcases (by omega:j<i∨j=i) with h | rfl
  ·exact uA j h
  ·rw[Mo];exact Mc λq hq=>FL q (by omega)
 refine bS 1 [5] [0,2,3,4,3001,1005,6,7] E I λa w E I hH hC=>?_;refine RH 8 E I hH hC λa E=>?_;refine RT 0 E I ?_;exact⟨by rw[hf,dq rfl,Md λj hj=>uA j (by omega)],((aO.fold (hD _ _ I) M.B p s).sub)⟩
theorem ZX {P:List (List UInt8)}(I:U W w (aa M.mb 177 (dU p M nk base front)::Tree M.tq M.sq T::Z))(hx:vt W Z ad P)(sD:P.length≤65536) :
   Calls prog 305 #[pt M.mb,.slice ad P.length c] w λe V=>∃ r:Bool,e=.returned (.bool r)∧(r=true→T.l≠[])∧U W V (aa M.mb 177 (dU p M nk base front)::Tree M.tq M.sq T::Z):=by
 obtain⟨zs,hz,hx⟩:=hx;have iW:zs.length=P.length:=by rw[← hz,bg]
 have kV:=Tree.wt (I.tree M.tq);have Mq:=kV.most;refine EN func305 ntmps305 rfl rfl λa E=>?_;refine a6 8 E I (zB (I.tree M.tq)) λs6 qs a w E I=>?_;obtain⟨xs,h1,h2,I⟩:=kN.open I;have b0:xs.length=T.l.length:=by rw[← h1,bg]
 refine RN 2 E I λa E=>?_;refine aP (λμ a w=>∃ (i:Nat),(μ=T.l.length-i∧i≤T.l.length)∧Fr a 61 [(0,pt M.mb),(1,.slice ad P.length c),(14,.slice s6 T.l.length qs),(15,.int .i64 T.l.length),(16,.int .i64 i)]∧U W w (Sl 238 5 s6 T.l.length qs (rows c9 xs)::ah bY xs::Tree M.tq M.sq T::aa M.mb 177 (dU p M nk base front)::Z)) (T.l.length) (⟨0,⟨rfl,by omega⟩,E.ab [0,1,14,15,16],I.sub⟩) ?_;clear E I;rintro μ a w ⟨i,⟨xB,hi⟩,E,I⟩;refine IF 3 E I (λaj a E=>?_) λaj a E=>?_
 ·
  obtain⟨b',dG,rfl,dk⟩:=I.bW s6 (by omega);obtain⟨⟨x,eI,df⟩,dY⟩:∃ y,xs[i]?=some y:=⟨_,aF (by omega)⟩;have fQ:=nW dk dY;have jd:T.l[i]?=some x:=by rw[← h1,bn,dY];rfl
  have kh:=kV.ok x (bJ jd);have hxP:=kh.1.1;have ZY:T.l≠[]:=λe=>by rw[e]at jd;cases jd
  refine RN 3 E I λa E=>?_;refine SS E (bR E underlying238 rfl Ty.t238 (fQ)) λa E=>?_;refine AL 0 E I λcG a w E I=>?_;refine SA 0 E I λa w E I=>?_;refine RN 6 E I λa E=>?_;refine cc (M:=λa w=>∃ q:Bool,(q=false→x.ak.length≤P.length)∧Fr a 61 [(0,pt M.mb),(1,.slice ad P.length c),(6,pt cG),(7,.int .i64 x.ak.length),(14,.slice (some ⟨b',dG,none⟩) T.l.length qs),(15,.int .i64 T.l.length),(16,.int .i64 i),(38,.bool q)]∧U W w (aa cG 238 (cg x eI df)::Sl 238 5 (some ⟨b',dG,none⟩) T.l.length qs (rows c9 xs)::ah bY xs::Tree M.tq M.sq T::aa M.mb 177 (dU p M nk base front)::Z)) ?_ ?_
  ·
   refine BY 5 E I (λda a E=>?_) λda a E=>?_
   ·
    refine RN 11 E I λa E=>?_;exact⟨_,(λh=>by first | omega | cases h),E.ab [0,1,6,7,14,15,16,38],I.sub⟩
   refine BY 5 E I (λua a E=>?_) λua a E=>?_
   ·
    refine RN 6 E I λa E=>?_;exact⟨_,(λh=>by first | omega | cases h),E.ab [0,1,6,7,14,15,16,38],I.sub⟩
   refine RN 6 E I λa E=>?_;exact⟨_,(λh=>by first | omega | cases h),E.ab [0,1,6,7,14,15,16,38],I.sub⟩
  clear E;(try clear I);rintro a w ⟨q,hq,E,I⟩;refine IF 0 E I (λao a E=>?_) λao a E=>?_
  ·
   refine RN 2 E I λa E=>?_;exact⟨T.l.length-(i+1),by omega,i+1,⟨rfl,by omega⟩,E.ab [0,1,14,15,16],I.sub⟩
  have o6:=hq ao;refine RN 6 E I λa E=>?_;refine aP (λμ a w=>∃ (v:Nat) (Ar:Bool),(μ=x.ak.length-v∧v≤x.ak.length)∧Fr a 61 [(0,pt M.mb),(1,.slice ad P.length c),(6,pt cG),(7,.int .i64 x.ak.length),(8,.bool Ar),(14,.slice (some ⟨b',dG,none⟩) T.l.length qs),(15,.int .i64 T.l.length),(16,.int .i64 i),(39,.int .i64 x.ak.length),(40,.int .i64 v)]∧U W w (aa cG 238 (cg x eI df)::Sl 238 5 (some ⟨b',dG,none⟩) T.l.length qs (rows c9 xs)::ah bY xs::Tree M.tq M.sq T::aa M.mb 177 (dU p M nk base front)::Z)) (x.ak.length) (⟨0,true,⟨rfl,by omega⟩,E.ab [0,1,6,7,8,14,15,16,39,40],I⟩) ?_;clear E I;rintro μ a w ⟨v,Ar,⟨rfl,hv⟩,E,I⟩;refine IF 3 E I (λaz a E=>?_) λaz a E=>?_
  ·
   have Ba:v<x.ak.length:=by omega
   refine RN 4 E I λa E=>?_;obtain⟨qo,FM,DD,f9⟩:=(ah.oX (I.drew.pick (ah bY xs)) dY).1.2 (by omega);obtain⟨rB,my,mm,Mr⟩:=f9 v x.ak[v] (aF Ba);obtain⟨dv,FN,z,gR,kq,l8,FK⟩:=(hx _ I.drew.sub).at (i:=v) (by omega);clear f9;refine qJ 0 (λV=>(Rd V cG 0 (cg x eI df)∧V.cell? ⟨qo,FM+v,none⟩=some (.slice rB x.ak[v].length my)∧aQ V rB x.ak[v].length x.ak[v])∧(V.cell? ⟨dv,FN+v,none⟩=some (aL z)∧aQ V z.1 z.2.2.length z.2.2)) [11,12] [0,1,2,4,8,9,10,3003,5,3006,3007,1011,1012,13,14,15] E I λa E=>?_;replace I:=I.drew;generalize w.drew=w at I mm Mr l8 FK ⊢;have hC:(Rd w cG 0 (cg x eI df)∧w.cell? ⟨qo,FM+v,none⟩=some (.slice rB x.ak[v].length my)∧aQ w rB x.ak[v].length x.ak[v])∧(w.cell? ⟨dv,FN+v,none⟩=some (aL z)∧aQ w z.1 z.2.2.length z.2.2):=⟨⟨I.ai (b:=cG),mm,Mr⟩,l8,FK⟩;have hH:=Hd.any (λV=>(Rd V cG 0 (cg x eI df)∧V.cell? ⟨qo,FM+v,none⟩=some (.slice rB x.ak[v].length my)∧aQ V rB x.ak[v].length x.ak[v])∧(V.cell? ⟨dv,FN+v,none⟩=some (aL z)∧aQ V z.1 z.2.2.length z.2.2));refine RH 2 E I hH hC λa E=>?_;refine E.by (s:=44) (λmV E=>?_) (λmV E=>?_)
   ·
    refine RH 4 E I hH hC λa E=>?_;rw[gR]at E;refine RH 1 E I hH hC λa E=>?_;rw[← gR]at E;refine QH E (λw hc=>ae E (hc.1.1 2 _ rfl)) hC λa E=>?_;rw[DD]at E;refine RH 1 E I hH hC λa E=>?_;refine QH E (λw hc=>ae E (hc.1.2.1)) hC λa E=>?_;refine QH E (λw hc=>lg E underlying22 underlying5 underlying9 (hc.1.2.2)) hC λa E=>?_;refine RH 0 E I hH hC λa E=>?_;refine bC E (cI E rfl (s:=44)) (ae E (hC.2.1)) rfl λa E=>?_;rw[aL]at E;refine RH 0 E I hH hC λa E=>?_;refine bC E (cI E rfl (s:=44)) (lg E underlying22 underlying5 underlying9 (hC.2.2)) rfl λa E=>?_;refine RH 0 E I hH hC λa E=>?_;refine QP E (λw=>rS E) λa E=>?_;refine RH 2 E I hH hC λa E=>?_;refine RN 2 E I λa E=>?_;exact⟨x.ak.length-(v+1),by omega,v+1,_,⟨rfl,by omega⟩,E.ab [0,1,6,7,8,14,15,16,39,40],I.sub⟩
   refine RH 14 E I hH hC λa E=>?_;refine RN 2 E I λa E=>?_;exact⟨x.ak.length-(v+1),by omega,v+1,_,⟨rfl,by omega⟩,E.ab [0,1,6,7,8,14,15,16,39,40],I.sub⟩
  refine IF 2 E I (λbh a E=>?_) λbh a E=>?_
  ·
   refine RT 2 E I ?_;exact⟨_,rfl,λ_=>ZY,I.sub⟩
  refine RN 2 E I λa E=>?_;exact⟨T.l.length-(i+1),by omega,i+1,⟨rfl,by omega⟩,E.ab [0,1,14,15,16],I.sub⟩
 refine RT 2 E I ?_;exact⟨_,rfl,(λh=>by cases h),I.sub⟩
end
end
section
def uB (k:Ks)(T:Tr):Prop:=∀ y∈T.l,(∀ j∈y.ak,j.length=k.n)∧jo k.ls (aw k) y.ak=true
def pF (T:Tr)(J:Js)(i:Nat):Js:=(T.l.take i).foldl (λJ y=>if y.done<y.ak.length then lG J y.id T.epoch else J) J
def yx (T:Tr)(J:Js):Js:=pF T (kept (λj=>decide (j.2<T.epoch)) J) T.l.length
theorem ZZ {T:Tr}{J:Js}{i:Nat}{x:Br}(h:T.l[i]?=some x):pF T J (i+1)=if x.done<x.ak.length then lG (pF T J i) x.id T.epoch else pF T J i:=by
 obtain⟨hi,rfl⟩:=a8.1 h;rw[pF,iZ hi,foldl_append];rfl
theorem Ms {T:Tr}{J:Js}(h:J.length≤16)(i:Nat):(pF T J i).length≤16:=by
 unfold pF;generalize T.l.take i=l
 induction l generalizing J with
 | nil=>exact h
 | cons y l ih =>
  rw[foldl_cons];apply ih;split
  ·exact zI h
  ·exact h
theorem Mt {J:Js}(f:Int×Int→Bool)(h:J.length≤16):(kept f J).length≤16:=gF (length_filter_le _ _) h
theorem Z0 {ls X:List (List UInt8)}{fr to:Nat}(h:yp to ls X):(∀ j∈m9 X fr to,j.length=ls.length)∧jo ls fr (m9 X fr to)=true:=by
 refine⟨λj hj=>?_,Md λi hi=>Mc λq hq h1=>?_⟩
 ·rw[m9,c0]at hj;obtain⟨i,_,rfl⟩:=hj;rw[m4,h.len]
 ·rw[AS]at hi;have he:(m9 X fr to).getD i []=bL X (fr+i):=by
   rw[m9,bl,bn,getElem?_range hi];rfl
  rw[he,m4]at hq;rw[he];obtain⟨l,hl⟩:∃ l,ls[q]?=some l:=⟨_,aF (by rw[← h.len];exact hq)⟩;obtain⟨x,hx⟩:∃ x,X[q]?=some x:=⟨_,aF hq⟩;obtain⟨⟨t,rfl⟩,_⟩:=h.fit q l x hl hx;have e1:ls.getD q []=l:=by rw[bl,hl];rfl
  rw[e1]at h1 ⊢;rw[bL,bl,bl,bn,hx];show _=((l++t).getD (fr+i) 0);rw[bl,lX h1]
structure rC (p:Pr)(s:Pl)(t:Nat→Nat)(base:Nat)(A0:Sn)(T0:Tr)(r:Nat)(ws:List Wk)(A:Sn)(T:Tr):Prop where
 inv:Inv p (aw s.k:Int) s.g t base A T ws
 ga:uB s.k T
 room:A.room=A0.room
 n:A.n≤A0.n+r
 last:T.last≤T0.last+r
 most:T.most=T0.most
 rP:T.epoch=T0.epoch
 add:∃ l,T.l=T0.l++l∧∀ y∈l,y.done=0∧y.ak≠[]∧y.ak.length=aI s.k-aw s.k
 has:0<r→aw s.k<aI s.k→T.l≠[]
section
variable {p:Pr}{s:Pl}{t:Nat→Nat}{base r i:Nat}{A0 A:Sn}{T0 T:Tr}{ws:List Wk}{P:List (List UInt8)}{px:aD}
theorem rC.skip (h:rC p s t base A0 T0 r ws A T)(hT:aw s.k<aI s.k→T.l≠[]):rC p s t base A0 T0 (r+1) ws A T :=
 ⟨h.inv,h.ga,h.room,Nat.le_succ_of_le h.n,Nat.le_succ_of_le h.last,h.most,h.rP,h.add,λ_=>hT⟩
theorem rC.push (h:rC p s t base A0 T0 r ws A T)(hA:WF A)(hT:WT T)(hi:A.au[i]?=some px)(hb:px.id=base)(h0:P≠[])(sD:P.length=aI s.k-aw s.k)(hj:∀ j∈P,j.length=s.k.n)(hk:jo s.k.ls (aw s.k) P=true) :
   rC p s t base A0 T0 (r+1) ws (A.add px.g px.p) (T.add (aw s.k:Int) P (A.last+1)):=by
 refine⟨h.inv.Vn hA hT hi hb,λy hy=>?_,h.room,?_,?_,h.most,h.rP,?_,λ_ _ e=>?_⟩
 ·rcases eR.1 hy with hy | hy
  ·exact h.ga y hy
  ·rw[mem_singleton.1 hy];exact⟨hj,hk⟩
 ·have:=h.n;simp only[Sn.add];omega
 ·have:=h.last;simp only[Tr.add];omega
 ·obtain⟨l,h1,h2⟩:=h.add;refine⟨l++[⟨T.last+1,(aw s.k:Int),P,0,A.last+1⟩],by simp only[Tr.add];rw[h1,dA],λy hy=>?_⟩;rcases eR.1 hy with hy | hy
  ·exact h2 y hy
  ·rw[mem_singleton.1 hy];exact⟨rfl,h0,sD⟩
 ·simp[Tr.add]at e
end
section
variable {W w:World}{L Z:List SP}{n i tq sq r base front:Nat}{M:jm}{B:iT}{y:UInt8}{x:Br}{p:Pr}{s:Pl}{m:Mu}{A:Sn}{T:Tr}{g0:Nat→Int}{t:Nat→Nat}{px:aD}
theorem Z1 {frm:Int}{ad2:Option Addr}{c2 id:Nat}{zs:List ed}{P:List (List UInt8)}(I:U W w (Tree tq sq T::ax sq r A::L))(hr:∀ V,U W V L→ix V ad2 zs)(hz:zs.map (·.2.2)=P)(hc:P.length≤c2)(dt:nx P)(h0:P≠[])
   (hx:A.au[i]?=some px) (bT:px.id=id) (hb:A.n+1<1099511627776) (hl:T.last+1<1099511627776) :
   Calls prog 306 #[pt tq,.int .i64 frm,.int .i64 id,.slice ad2 P.length c2] w λe V=>∃ (z:Nat) (ok:Bool),e=.returned (.tuple #[.int .i64 z,.bool ok]) ∧
    (((T.most=0∨T.l≠[])∧U W V (Tree tq sq T::ax sq r A::L))∨U W V (Tree tq sq (T.add frm P (A.last+1))::ax sq r (A.add px.g px.p)::L)):=by
 by_cases hm:T.l.length<T.most
 ·refine (WS I hr hz hc dt hx bT hb hl hm).mono λe V ⟨z,ok,h1,h2⟩=>⟨z,ok,h1,?_⟩;rcases h2 with ⟨_,h3,h4⟩ | ⟨_,_,_,_,h4⟩
  ·refine .inl ⟨.inr λe=>?_,h4⟩;rcases h3 with h3 | ⟨y,hy,_⟩
   ·exact h0 h3
   ·rw[e]at hy;cases hy
  ·exact .inr h4
 ·refine (IS I (.inl (by omega))).mono λe V ⟨h1,I⟩=>⟨0,false,h1,.inl ⟨?_,I⟩⟩;rcases Nat.eq_zero_or_pos T.most with h | h
  ·exact .inl h
  ·exact .inr λe=>by rw[e]at hm;simp at hm;omega
theorem Z2 (I:U W w (aH W M p m::L))(hw:cv p m.s)(hI:Inv p (aw m.s.k:Int) m.s.g t m.base m.A m.T (m.ks.map (·.1)))(fq:m.front=aw m.s.k)(fA:cY M.B.gs)(hB:uB m.s.k m.T)(ko:m.J.length≤16)
   (pC:m.s.k.cm=(m.T.most:Int)) (hn:m.A.n+10<1099511627776) (hl:m.T.last+10<1099511627776) :
   Calls prog 289 #[pt M.mb] w λe V=>∃ (A':Sn) (T':Tr),e=.returned (.tuple #[])∧rC p m.s t m.base m.A m.T m.T.most (m.ks.map (·.1)) A' T'∧U W V (aH W M p { m with A:=A',T:=T',J:=yx T' m.J }::L):=by
 have bP:=hw.wc.k0;have e6:=hw.wc.ls;have wy:=hw.wc.n;have iE:m.s.k.ls.length≤8:=by rw[e6];exact wy.2
 have gL:=hw.wc.lr;have jz:aW m.s.k.ls≤aI m.s.k:=hw.wc.m7;obtain⟨mb,B,sq,r,tq,jq,dy,dF,aq,cO⟩:=M;obtain⟨s,A,T,J,ks,base,front⟩:=m;simp only at hw hI fq fA hB ko pC hn hl bP e6 wy iE gL jz;subst fq;have Mq:=(Tree.wt ((aH.open I).tree tq)).most.1;replace I:=aH.open I;dsimp only at I Mq;refine EN func289 ntmps289 rfl rfl λa E=>?_;refine CL 6 E I (nG (I.pick (aO W B p s))) λa w E I=>?_;replace I:=aO.open I;refine CL 0 E I (K4 (I.pick (aA B.core s.k))) λa w E I=>?_;refine RN 0 E I λa E=>?_;refine SS E (HT E underlying28 rfl underlying3 rfl rfl) λa E=>?_;rw[show (fg s.k).cm=(T.most:Int) from pC]at E;refine RN 1 E I λa E=>?_;replace I:=aO.fold I B p s;refine aP (λμ a w=>∃ (i:Nat) (A1:Sn) (T1:Tr),(μ=T.most-i∧i≤T.most∧rC p s t base A T i (ks.map (·.1)) A1 T1)∧Fr a 98 [(0,pt mb),(12,.int .i64 T.most),(13,.int .i64 i)]∧U W w (aa mb 177 (dU p ⟨mb,B,sq,r,tq,jq,dy,dF,aq,cO⟩ ks.length base (aw s.k))::aO W B p s::ay W p aq cO::Sl 179 1 dy ks.length dF (gK ks)::ah (e5 p aq cO tq jq sq) ks::Tree tq sq T1::ax sq r A1::bK jq J::L)) (T.most) (⟨0,A,T,⟨rfl,by omega,⟨hI,hB,rfl,bk _,bk _,rfl,rfl,⟨[],by simp,λy hy=>by cases hy⟩,λh=>absurd h (by omega)⟩⟩,E.ab [0,12,13],I.sub⟩) ?_;clear E I;rintro μ a w ⟨i,A1,T1,⟨rfl,hi,pG⟩,E,I⟩;refine IF 3 E I (λaj a E=>?_) λaj a E=>?_
 ·
  have hiT:i<T.most:=by omega
  have hAn:=pG.n;have FG:=pG.last;have A4:=(ax.facts (I.store sq)).1;have rA:=Tree.wt (I.tree tq);obtain⟨Z3,px,g9,kU⟩:=pG.inv.l9 (mem_cons_self ..);refine aY 5 (λw0 V=>Rd V mb 0 (dU p ⟨mb,B,sq,r,tq,jq,dy,dF,aq,cO⟩ ks.length base (aw s.k))) [4,5,9,10,15] [0,1,2,6,7,8,11,12,13,14,3003,3009,3015,1004,1005,1010,1016,1017,1018,19] E I λa w E I hH=>?_;have hC:=hH.at w (I.ai (b:=mb));refine RH 10 E I hH hC λa E=>?_;refine QH E (λw hc=>ae E (hc 0 _ rfl)) hC λa E=>?_;refine QH E (λw hc=>ae E (hc 0 _ rfl)) hC λa E=>?_;refine QH E (λw hc=>ae E (hc 0 _ rfl)) hC λa E=>?_;refine RH 0 E I hH hC λa E=>?_;refine CL 0 E I (nG (I.pick (aO W B p s))) λa w E I=>?_;replace hC:=hH.at w (I.ai (b:=mb));replace I:=aO.open I;refine RH 0 E I hH hC λa E=>?_;refine CL 0 E I (oy (I.pick (aA B.core s.k))) λa w E I=>?_;replace hC:=hH.at w (I.ai (b:=mb));replace I:=aO.fold I B p s;refine RH 0 E I hH hC λa E=>?_;refine CL 0 E I (Ma (I.pick (aO W B p s))) λa w E I=>?_;replace hC:=hH.at w (I.ai (b:=mb));refine RH 0 E I hH hC λa E=>?_;refine CL 0 E I (nG (I.pick (aO W B p s))) λa w E I=>?_;replace I:=aO.open I;refine CL 0 E I (sO (I.pick (aA B.core s.k)) hw.wc) λa w E I=>?_;obtain⟨D,I,hD⟩:=aA.qu I;refine jI 0 E I (FA (r:=i) (to:=aI s.k) (.inr Zx) (by omega) I fA bP iE hw.wc.m6 gL (λV cJ=>(cJ.pick (Sl 5 1 B.adT B.gs.table.length B.cT (bc B.gs.table))).cu B.adT _ rfl rfl)) λfT gd X a w E ⟨⟨sW,_⟩,I⟩=>?_;replace I:U W w (Qu B.core.qb B.core.aB s.k.ls::D::cd fT (aI s.k-aW s.k.ls) gd (m9 X (aW s.k.ls) (aI s.k))::_):=I.sub (M:=Qu B.core.qb B.core.aB s.k.ls::D::cd fT (aI s.k-aW s.k.ls) gd (m9 X (aW s.k.ls) (aI s.k))::aa B.pb 192 (gu p B s.g)::ay W p B.aq B.cO::Sl 5 1 B.adT B.gs.table.length B.cT (bc B.gs.table)::aa mb 177 (dU p ⟨mb,B,sq,r,tq,jq,dy,dF,aq,cO⟩ ks.length base (aw s.k))::ay W p aq cO::Sl 179 1 dy ks.length dF (gK ks)::ah (e5 p aq cO tq jq sq) ks::Tree tq sq T1::ax sq r A1::bK jq J::L);replace I:=aO.fold (hD _ _ I) B p s;have sD:=AS X (aW s.k.ls) (aI s.k);obtain⟨FO,Mv⟩:=Z0 (fr:=aW s.k.ls) sW;generalize hPe:m9 X (aW s.k.ls) (aI s.k)=P at I sD FO Mv;rw[← sD]at E I;obtain⟨zs,cW,eQ,I⟩:=cd.open (I.pick (cd fT P.length gd P));have Bd:=(I.sl fT).2;replace I:=I.sub (M:=aa mb 177 (dU p ⟨mb,B,sq,r,tq,jq,dy,dF,aq,cO⟩ ks.length base (aw s.k))::Tree tq sq T1::Sl 22 1 fT P.length gd (zs.map aL)::ah ba zs::aO W B p s::ay W p aq cO::Sl 179 1 dy ks.length dF (gK ks)::ah (e5 p aq cO tq jq sq) ks::ax sq r A1::bK jq J::L);refine RN 1 E I λa E=>?_;refine BY 6 E I (λbF a E=>?_) λbF a E=>?_
  ·
   have kr:¬ aw s.k<aI s.k:=by rw[aw];omega
   refine RN 7 E I λa E=>?_;exact⟨T.most-(i+1),by omega,i+1,A1,T1,⟨rfl,by omega,pG.skip λh=>absurd h kr⟩,E.ab [0,12,13],I.sub⟩
  have Mw:P≠[]:=λe=>by rw[e]at bF;exact bF rfl
  refine aR 2 E I (ZX (M:=⟨mb,B,sq,r,tq,jq,dy,dF,aq,cO⟩) (T:=T1) (P:=P) I ⟨zs,cW,λV h=>U.l6 (h.sub (M:=Sl 22 1 fT P.length gd (zs.map aL)::ah ba zs::[]))⟩ (by omega)) λq a w E ⟨hq,I⟩=>?_;refine IF 1 E I (λao a E=>?_) λao a E=>?_
  ·
   refine RN 2 E I λa E=>?_;exact⟨T.most-(i+1),by omega,i+1,A1,T1,⟨rfl,by omega,pG.skip λ_=>hq ao⟩,E.ab [0,12,13],I.sub⟩
  refine bS 0 [7,11] [0,1,2,4,5,6,8,9,10,12,3003,3007,1011,1013] E I λa w E I hH hC=>?_;refine RH 13 E I hH hC λa E=>?_;refine a6 0 E I (Z1 (i:=Z3) (px:=px) (id:=base) (P:=P) (zs:=zs) ((I.store sq).tree tq) (λV h=>U.l6 (h.sub (M:=Sl 22 1 fT P.length gd (zs.map aL)::ah ba zs::[]))) cW Bd ⟨by omega,λb hb=>by have:=FO b hb;omega⟩ Mw g9 kU (by omega) (by omega)) λz ok a w E Z4=>?_;obtain⟨A2,T2,Z5,I⟩:∃ (A2:Sn) (T2:Tr),rC p s t base A T (i+1) (ks.map (·.1)) A2 T2∧U W w (aa mb 177 (dU p ⟨mb,B,sq,r,tq,jq,dy,dF,aq,cO⟩ ks.length base (aw s.k))::aO W B p s::ay W p aq cO::Sl 179 1 dy ks.length dF (gK ks)::ah (e5 p aq cO tq jq sq) ks::Tree tq sq T2::ax sq r A2::bK jq J::L):=by
   rcases Z4 with ⟨rD,I⟩ | I
   ·exact⟨A1,T1,pG.skip λ_=>rD.resolve_left (by rw[pG.most];omega),I.sub⟩
   ·exact⟨_,_,pG.push A4 rA g9 kU Mw sD (λj hj=>by rw[FO j hj,e6]) Mv,I.sub⟩
  refine RN 2 E I λa E=>?_;exact⟨T.most-(i+1),by omega,i+1,A2,T2,⟨rfl,by omega,Z5⟩,E.ab [0,12,13],I.sub⟩
 refine aY 1 (λw0 V=>Rd V mb 0 (dU p ⟨mb,B,sq,r,tq,jq,dy,dF,aq,cO⟩ ks.length base (aw s.k))) [7,8] [0,1,2,4,5,6,3003,1007,1008,1009] E I λa w E I hH=>?_;have hC:=hH.at w (I.ai (b:=mb));refine RH 6 E I hH hC λa E=>?_;refine QH E (λw hc=>ae E (hc 5 _ rfl)) hC λa E=>?_;refine RH 0 E I hH hC λa E=>?_;refine SS E (ae E (hC 4 _ rfl)) λa E=>?_;refine RH 0 E I hH hC λa E=>?_;refine CL 0 E I (zA (I.tree tq)) λa w E I=>?_;replace hC:=hH.at w (I.ai (b:=mb));refine RH 0 E I hH hC λa E=>?_;refine CL 0 E I (Vd (I.tL jq) ko) λa w E I=>?_;change U W w (bK jq (pF T1 (kept (λj=>decide (j.2<(T1.epoch:Int))) J) 0)::_) at I;refine a6 5 E I (zB (I.tree tq)) λs6 qs a w E I=>?_;obtain⟨xs,h1,h2,I⟩:=kN.open I;have b0:xs.length=T1.l.length:=by rw[← h1,bg]
 have rA:=Tree.wt (I.tree tq);have hT8:=rA.most;obtain rfl:i=T.most:=by omega
 have Z6:=Mt (λj=>decide (j.2<(T1.epoch:Int))) ko;refine RN 2 E I λa E=>?_;refine aP (λμ a w=>∃ (v:Nat),(μ=T1.l.length-v∧v≤T1.l.length)∧Fr a 98 [(0,pt mb),(72,.slice s6 T1.l.length qs),(73,.int .i64 T1.l.length),(74,.int .i64 v)]∧U W w (bK jq (pF T1 (kept (λj=>decide (j.2<(T1.epoch:Int))) J) v)::Sl 238 5 s6 T1.l.length qs (rows c9 xs)::ah bY xs::aa mb 177 (dU p ⟨mb,B,sq,r,tq,jq,dy,dF,aq,cO⟩ ks.length base (aw s.k))::aO W B p s::ay W p aq cO::Sl 179 1 dy ks.length dF (gK ks)::ah (e5 p aq cO tq jq sq) ks::Tree tq sq T1::ax sq r A1::L)) (T1.l.length) (⟨0,⟨rfl,by omega⟩,E.ab [0,72,73,74],I.sub⟩) ?_;clear E I;rintro μ a w ⟨v,⟨xB,hv⟩,E,I⟩;refine IF 3 E I (λaz a E=>?_) λaz a E=>?_
 ·
  obtain⟨b',dG,rfl,dk⟩:=I.bW s6 (by omega);obtain⟨⟨x,eI,df⟩,dY⟩:∃ y,xs[v]?=some y:=⟨_,aF (by omega)⟩;have fQ:=nW dk dY;have jd:T1.l[v]?=some x:=by rw[← h1,bn,dY];rfl
  have sB:=ZZ (J:=kept (λj=>decide (j.2<(T1.epoch:Int))) J) jd;have Z7:=Ms Z6 (T:=T1) v;refine RN 3 E I λa E=>?_;refine SS E (bR E underlying238 rfl Ty.t238 (fQ)) λa E=>?_;refine AL 0 E I λb5 a w E I=>?_;refine SA 0 E I λa w E I=>?_;refine IF 7 E I (λbh a E=>?_) λbh a E=>?_
  ·
   rw[al (by omega)]at sB;refine aY 0 (λw0 V=>Rd V mb 0 (dU p ⟨mb,B,sq,r,tq,jq,dy,dF,aq,cO⟩ ks.length base (aw s.k))∧Rd V b5 0 (cg x eI df)) [5,9,10,11] [0,1,2,4,6,7,8,3003,3005,1009,1010,1011,1012] E I λa w E I hH=>?_;have hC:=hH.at w ⟨I.ai (b:=mb),I.ai (b:=b5)⟩;refine RH 7 E I hH hC λa E=>?_;refine QH E (λw hc=>ae E (hc.1 5 _ rfl)) hC λa E=>?_;refine QH E (λw hc=>ae E (hc.2 0 _ rfl)) hC λa E=>?_;refine RH 0 E I hH hC λa E=>?_;refine SS E (ae E (hC.1 4 _ rfl)) λa E=>?_;refine RH 0 E I hH hC λa E=>?_;refine CL 0 E I (zA (I.tree tq)) λa w E I=>?_;replace hC:=hH.at w ⟨I.ai (b:=mb),I.ai (b:=b5)⟩;refine RH 1 E I hH hC λa E=>?_;refine CL 0 E I (zF (I.tL jq) Z7) λa w E I=>?_;change U W w (bK jq (lG (pF T1 (kept (λj=>decide (j.2<(T1.epoch:Int))) J) v) x.id T1.epoch)::_) at I;refine RN 2 E I λa E=>?_;exact⟨T1.l.length-(v+1),by omega,v+1,⟨rfl,by omega⟩,E.ab [0,72,73,74],by rw[sB];exact I.sub⟩
  rw[ag (by omega)]at sB;refine RN 2 E I λa E=>?_;exact⟨T1.l.length-(v+1),by omega,v+1,⟨rfl,by omega⟩,E.ab [0,72,73,74],by rw[sB];exact I.sub⟩
 refine RT 0 E I ?_;obtain rfl:v=T1.l.length:=by omega
 rw[show pF T1 (kept (λj=>decide (j.2<(T1.epoch:Int))) J) T1.l.length=yx T1 J from rfl]at I;exact⟨A1,T1,rfl,pG,(aH.fold I ⟨mb,B,sq,r,tq,jq,dy,dF,aq,cO⟩ p ⟨s,A1,T1,yx T1 J,ks,base,aw s.k⟩).sub⟩
structure FP (p:Pr)(m m':Mu)(t':Nat→Nat):Prop where
 inv:Inv p (aw m.s.k:Int) m.s.g t' m'.base m'.A m'.T (m'.ks.map (·.1))
 s:m'.s=m.s
 front:m'.front=aw m.s.k
 ga:uB m.s.k m'.T
 J:m'.J.length≤16
 room:m'.A.room=m.A.room
 n:m'.A.n≤m.A.n+9
 last:m'.T.last≤m.T.last+8
 most:m'.T.most=m.T.most
 rP:m'.T.epoch≤m.T.epoch+3
 ks:m'.ks.length=m.ks.length
 has:0<m.T.most→aw m.s.k<aI m.s.k→m'.T.l≠[]
 tL:m'.J=yx m'.T m.J
 ab:m.front=aw m.s.k→(∀ y∈m.T.l,jo m.s.k.ls (aw m.s.k) y.ak=true)→m'.ks=m.ks∧m'.T.epoch=m.T.epoch∧∃ l,m'.T.l=m.T.l++l∧∀ y∈l,y.done=0∧y.ak≠[]∧y.ak.length=aI m.s.k-aw m.s.k
theorem Z8 (I:U W w (aH W M p m::L))(b9:m.s.k.cl=true) :
   Calls prog 271 #[pt M.mb] w λe V=>e=.returned (.tuple #[])∧U W V (aH W M p m::L):=by
 refine EN func271 ntmps271 rfl rfl λa E=>?_;refine RN 5 E I λa E=>?_;replace E:=E.aK 4;refine CL 1 E I (yw I) λa w E I=>?_;rw[b9]at E;refine RN 1 E I λa E=>?_;replace E:=E.dX 7;refine RT 1 E I ?_;exact⟨rfl,I⟩
theorem Z9 (I:U W w (aH W M p m::L))(hw:cv p m.s)(hg:dQ m.s.g)(b9:m.s.k.cl=false)(hI:Inv p (m.front:Int) g0 t m.base m.A m.T (m.ks.map (·.1)))(fq:m.front=aw m.s.k→g0=m.s.g)
   (fA:cY M.B.gs) (eH:∀ y∈m.T.l,∀ j∈y.ak,j.length=m.s.k.n) (ko:m.J.length≤16) (pC:m.s.k.cm=(m.T.most:Int))
   (he:m.T.epoch+10<1099511627776) (hn:m.A.n+20<1099511627776) (hl:m.T.last+20<1099511627776) (h4:m.ks.length≤4) (ry:12≤m.A.room) :
   Calls prog 271 #[pt M.mb] w λe V=>∃ (m':Mu) (t':Nat→Nat),e=.returned (.tuple #[])∧FP p m m' t'∧U W V (aH W M p m'::L):=by
 have gL:=hw.wc.lr;have jz:=hw.wc.m7;refine EN func271 ntmps271 rfl rfl λa E=>?_;refine RN 5 E I λa E=>?_;replace E:=E.aK 4;refine CL 1 E I (yw I) λa w E I=>?_;rw[b9]at E;refine RN 1 E I λa E=>?_;replace E:=E.aK 7;refine a6 3 E I (ZI I hw hg hI fq (by omega) (by omega) h4 ry) λMy t1 a w E ⟨hM,I⟩=>?_;refine RN 0 E I λa E=>?_;obtain⟨s1,A1,T1,ae7,k6,Mz,ae8⟩:=My;obtain⟨wv,e1,e2,e3,ep,lQ,kM,gH,gw,gS,MA,ku⟩:=hM;simp only at wv e1 e2 e3 ep lQ kM gH gw gS MA ku;subst e1 e2 e3;have MB:∀ y∈T1.l,∀ j∈y.ak,j.length=m.s.k.n:=by
  rcases MA with ⟨e,_⟩ | e
  ·rw[e];exact eH
  ·rw[e];intro y hy;cases hy
 have kV:=Tree.wt ((aH.open I).tree M.tq);have MC:=(ax.facts ((aH.open I).store M.sq)).1;dsimp only at kV MC;replace I:=aH.open I;dsimp only at I;refine jJ 7 E I (Me (kp:=λx=>jo m.s.k.ls (aw m.s.k) x.ak) (ws:=[pt M.mb]) ((I.store M.sq).tree M.tq) (by omega) (by kernel_rfl) (λN V x av c' AY h1 hN hx _ dt=>by
  have o9:=hN.h;obtain⟨K,hp⟩:=o9;have hR:=hp.trans List.perm_append_comm;have hof:=dt.1;have yq:=(wv.ga x AY).1;refine (ZW (M:=M) (Z:=ay W p M.aq M.cO::Sl 179 1 M.dy k6.length M.dF (gK k6)::ah (e5 p M.aq M.cO M.tq M.jq M.sq) k6::bK M.jq m.J::(L++K)) (h1.perm hR) hw (hx.imp λzs h=>⟨h.1,λny h2=>h.2 _ (h2.perm hR.symm)⟩) yq (MB x AY) (by omega)).mono λe ny ⟨h3,h4⟩=>⟨h3,h4.perm hR.symm⟩)) ?_
 clear E I;rintro e w ⟨⟨_,rfl⟩,I⟩;refine⟨_,rfl,λa E=>?_⟩;have oB:=wv.cut MC (λx=>!jo m.s.k.ls (aw m.s.k) x.ak);have s0:=AX (T1.l.filter λx=>!jo m.s.k.ls (aw m.s.k) x.ak) A1;have MD:uB m.s.k (T1.cut λx=>!jo m.s.k.ls (aw m.s.k) x.ak):=λy hy=>by
  obtain⟨h1,h2⟩:=List.mem_filter.1 hy;exact⟨MB y h1,by simpa using h2⟩
 have FH:(T1.cut λx=>!jo m.s.k.ls (aw m.s.k) x.ak).epoch≤T1.epoch+1:=by simp only[Tr.cut];split <;> omega
 have mo:(∀ y∈T1.l,jo m.s.k.ls (aw m.s.k) y.ak=true)→(T1.cut λx=>!jo m.s.k.ls (aw m.s.k) x.ak).l=T1.l∧(T1.cut λx=>!jo m.s.k.ls (aw m.s.k) x.ak).epoch=T1.epoch:=λh=>by
  have h1:T1.l.filter (λx=>!!jo m.s.k.ls (aw m.s.k) x.ak)=T1.l:=List.filter_eq_self.2 λy hy=>by rw[h y hy];rfl
  simp only[Tr.cut,h1];exact⟨trivial,by rw[ag (Nat.lt_irrefl _)];rfl⟩
 have A5:(T1.cut λx=>!jo m.s.k.ls (aw m.s.k) x.ak).most=T1.most∧(T1.cut λx=>!jo m.s.k.ls (aw m.s.k) x.ak).last=T1.last:=⟨rfl,rfl⟩;generalize (T1.cut λx=>!jo m.s.k.ls (aw m.s.k) x.ak)=T2 at I oB MD FH A5 mo;generalize A1.gJ (T1.l.filter λx=>!jo m.s.k.ls (aw m.s.k) x.ak)=A2 at I oB s0;replace I:=aH.fold I M p ⟨m.s,A2,T2,m.J,k6,Mz,aw m.s.k⟩;refine a6 1 E I (Z2 I hw oB rfl fA MD ko (by dsimp only;rw[A5.1,gH];exact pC) (by dsimp only;omega) (by dsimp only;omega)) λA3 T3 a w E ⟨pG,I⟩=>?_;refine RT 0 E I ?_;obtain⟨dj,dW,a3,a4,a5,ME,MF,rB,a9⟩:=pG;have h8:=kV.most.1;dsimp only at *;exact⟨⟨m.s,A3,T3,yx T3 m.J,k6,Mz,aw m.s.k⟩,t1,rfl,⟨dj,rfl,rfl,dW,Ms (Mt _ ko) _,by simp only;omega,by simp only;omega,by simp only;omega,by simp only;omega,by simp only;omega,gS,λh1 h2=>a9 (by omega) h2,rfl,λe h=>by
  obtain⟨q1,q2,xU⟩:=ku e;obtain⟨xV,Af⟩:=mo (by rw[q1];exact h);obtain⟨l,FQ,FR⟩:=rB;refine⟨xU,by rw[MF,Af,q1],l,by rw[FQ,xV,q1],FR⟩⟩,I⟩
end
end
section
structure lA (p:Pr)(s s':Pl):Prop where
 wf:cv p s'
 rq:aw s'.k=aw s.k→s'.g=s.g
 cf:fg s'.k=fg s.k
 ls:s'.k.cl=true→s'.k.ls=s.k.ls
section
variable {p:Pr}{s:Pl}{k:Ks}{x:UInt8}{bs:List UInt8}
theorem lA.mk' {k':Ks}(h:cv p s)(hw:WC k')(hh:held k')(hm:k'.mr=s.k.mr)(he:Ext s.k.ls k'.ls)(cw:fg k'=fg s.k)(hl:k'.cl=true→k'.ls=s.k.ls):lA p s (eC p ⟨k',s.g⟩):=by
 have h1:=h.toWP.more hw hh hm he;obtain⟨h2,h3,ps,ev,mr,h4⟩:=h1.eC;refine⟨h2,λhf=>?_,?_,λhc=>?_⟩
 ·have e1:(eC p ⟨k',s.g⟩).g=lv p k'.ls (aw s.k):=by rw[h2.rq,h2.full,hf,h3]
  have e2:s.g=lv p s.k.ls (aw s.k):=by have:=h.rq;rwa [h.full]at this
  exact e1.trans ((he.lv (bk _)).trans e2.symm)
 ·rw[h4];exact cw
 ·rw[h3];rw[h4]at hc;exact hl hc
theorem MG:fg (c3 x k).2=fg k∧((c3 x k).2.cl=true→(c3 x k).2.ls=k.ls):=by
 by_cases h0:(c3 x k).1=0
 ·obtain⟨h1,h2,h3,h4⟩:=uj h0;rw[h4];exact⟨rfl,λhc=>by rw[show k.cl=true from hc]at h1;cases h1⟩
 ·rw[uk h0];exact⟨rfl,λ_=>rfl⟩
theorem aaa {q:Pk}(h:k.cl=false):fg (fS k q)=fg k∧((fS k q).cl=true→(fS k q).ls=k.ls):=by
 unfold fS;split
 ·exact⟨rfl,λ_=>rfl⟩
 ·obtain⟨ps,ev,h1,_⟩:=vY { k with ls:=k.ls.set q.aZ.toNat (dw (k.ls.getD q.aZ.toNat []) q.first.toNat q.ak),ps:=k.ps.set q.aZ.toNat (fR k.now (aI k) q (ar k q.aZ.toNat)) };rw[h1];exact⟨rfl,λhc=>by rw[show k.cl=true from hc]at h;cases h⟩
theorem MH:fg (dD bs k).2=fg k∧((dD bs k).2.cl=true→(dD bs k).2.ls=k.ls):=by
 by_cases h0:(dD bs k).1=0
 ·obtain⟨q,h1,h2,h3,h4,h5,h6⟩:=AD h0;rw[h6];exact aaa h2
 ·rw[v7 h0];exact⟨rfl,λ_=>rfl⟩
theorem lA.ak (h:cv p s)(x:UInt8):lA p s (dH p x s).2:=lA.mk' h (h.wc.ak x) (h.held.ak x) (uo x s.k).1 (uo x s.k).2 MG.1 MG.2
theorem lA.recv (h:cv p s)(bs:List UInt8):lA p s (dI p bs s).2:=lA.mk' h (h.wc.recv bs).1 ((h.wc.recv bs).2 h.held) (rr bs s.k).1 (rr bs s.k).2 MH.1 MH.2
end
structure MI (p:Pr)(M:jm)(N:Nat)(m:Mu):Prop where
 wf:cv p m.s
 gs:cY M.B.gs
 front:m.front=aw m.s.k
 inv:∃ t,Inv p (aw m.s.k:Int) m.s.g t m.base m.A m.T (m.ks.map (·.1))
 ga:uB m.s.k m.T
 J:m.J.length≤16
 most:m.s.k.cm=(m.T.most:Int)
 workers:m.s.k.workers=(m.ks.length:Int)
 ks:m.ks.length≤4
 room:(m.A.room:Int)=4*m.s.k.room∧12≤m.A.room
 n:m.A.n≤N∧m.T.last≤N∧m.T.epoch≤N
section
variable {W w:World}{L:List SP}{n c N front:Nat}{ad:Option Addr}{M:jm}{B:iT}{x:UInt8}{p:Pr}{s s':Pl}{m:Mu}{bs:List UInt8}{cf:Cf}{g0:Nat→Int}{t:Nat→Nat}
theorem MI.more {N':Nat}(h:MI p M N m)(hN:N≤N'):MI p M N' m:={ h with n:=⟨gF h.n.1 hN,gF h.n.2.1 hN,gF h.n.2.2 hN⟩ }
theorem MI.same (h:MI p M N m)(hw:cv p s')(hg:s'.g=m.s.g)(hl:s'.k.ls=m.s.k.ls)(hc:fg s'.k=fg m.s.k):MI p M N { m with s:=s' }:=by
 have hf:aw s'.k=aw m.s.k:=by rw[aw,aw,hl]
 simp only[fg,Cf.mk.injEq]at hc;obtain⟨dN,c2,c7,fP,dg,kQ,l5,my,rE,zL⟩:=hc;have hn:s'.k.n=m.s.k.n:=by omega
 exact { wf:=hw,gs:=h.gs,front:=by rw[hf];exact h.front,inv:=by obtain⟨t,ht⟩:=h.inv;exact⟨t,by rw[hf,hg];exact ht⟩,ga:=λy hy=>by rw[hn,hl,hf];exact h.ga y hy,J:=h.J,most:=by rw[my];exact h.most,workers:=by rw[rE];exact h.workers,ks:=h.ks,room:=by rw[zL];exact h.room,n:=h.n }
theorem MJ (I:U W w (aH W M p { m with s:=s' }::L))(h:MI p M N m)(hx:lA p m.s s')(a7:db p)(hN:N≤1000000000000) :
   Calls prog 271 #[pt M.mb] w λe V=>∃ m':Mu,e=.returned (.tuple #[])∧(m'.s=s'∧MI p M (N+20) m'∧(s'.k.cl=false→∃ t',FP p { m with s:=s' } m' t'))∧U W V (aH W M p m'::L):=by
 obtain⟨lQ,o8,hn3⟩:=h.n;have hc:=hx.cf;cases b9:s'.k.cl with
 | true =>
  have hl:=hx.ls b9;refine (Z8 I b9).mono λe V ⟨he,I⟩=>⟨_,he,⟨rfl,(h.same hx.wf (hx.rq (by rw[aw,aw,hl])) hl hc).more (by omega),λe=>(by cases e)⟩,I⟩
 | false =>
  obtain⟨t,ht⟩:=h.inv;simp only[fg,Cf.mk.injEq]at hc;obtain⟨dN,c2,c7,fP,dg,kQ,l5,my,rE,zL⟩:=hc;have hn:s'.k.n=m.s.k.n:=by omega
  refine (Z9 (g0:=m.s.g) (t:=t) I hx.wf (hx.wf.py a7) b9 (by rw[← h.front]at ht;exact ht) (λe=>(hx.rq (by rw[← h.front];exact e.symm)).symm) h.gs (λy hy j hj=>by dsimp only;rw[hn];exact (h.ga y hy).1 j hj) h.J (by dsimp only;rw[my];exact h.most) (by dsimp only;omega) (by dsimp only;omega) (by dsimp only;omega) h.ks h.room.2).mono λe V ⟨m',t',he,hr,I⟩=>⟨m',he,⟨hr.s,?_,λ_=>⟨t',hr⟩⟩,I⟩;obtain⟨dj,dW,a3,a4,a5,ME,MF,rB,a9,b1,b2,b3,b4,b5⟩:=hr;dsimp only at *;exact { wf:=by rw[dW];exact hx.wf,gs:=h.gs,front:=by rw[dW];exact a3,inv:=⟨t',by rw[dW];exact dj⟩,ga:=by rw[dW];exact a4,J:=a5,most:=by rw[dW,my,a9];exact h.most,workers:=by rw[dW,rE,b2];exact h.workers,ks:=by rw[b2];exact h.ks,room:=by rw[dW,zL,ME];exact h.room,n:=⟨by omega,by omega,by omega⟩ }
theorem aab (I:U W w (aH W M p m::L))(h:MI p M N m)(a7:db p)(aC:p.title.size≤1000000000)(hN:N≤1000000000000) :
   Calls prog 267 #[pt M.mb,.int .u8 (x.toNat:Nat)] w λe V=>∃ m':Mu,e=.returned (.int .i64 (dH p x m.s).1)∧(m'.s=(dH p x m.s).2∧MI p M (N+20) m'∧((dH p x m.s).2.k.cl=false→∃ t',FP p { m with s:=(dH p x m.s).2 } m' t'))∧U W V (aH W M p m'::L):=by
 refine EN func267 ntmps267 rfl rfl λa E=>?_;refine CL 4 E I (sY I) λa w E I=>?_;refine RN 1 E I λa E=>?_;replace I:=aH.open I;refine CL 0 E I (LR (I.pick (aO W M.B p m.s)) h.wf a7 aC) λa w E I=>?_;replace I:=aH.fold I M p { m with s:=(dH p x m.s).2 };refine aR 3 E I (MJ I h (lA.ak h.wf x) a7 hN) λm' a w E ⟨hm,I⟩=>?_;refine RT 3 E I ?_;exact⟨m',rfl,hm,I⟩
theorem aac (I:U W w (aH W M p m::L))(h:MI p M N m)(a7:db p)(aC:p.title.size≤1000000000)(hN:N≤1000000000000)(hb:bs.length≤65536)(hc:bs.length≤c)(hp:∀ V,U W V L→aQ V ad bs.length bs) :
   Calls prog 269 #[pt M.mb,.slice ad bs.length c] w λe V=>∃ m':Mu,e=.returned (.int .i64 (dI p bs m.s).1)∧(m'.s=(dI p bs m.s).2∧MI p M (N+20) m')∧U W V (aH W M p m'::L):=by
 refine EN func269 ntmps269 rfl rfl λa E=>?_;refine CL 4 E I (sY I) λa w E I=>?_;refine RN 1 E I λa E=>?_;replace I:=aH.open I;refine CL 0 E I (LS (bs:=bs) (I.pick (aO W M.B p m.s)) h.wf a7 aC hb hc (λV hw=>hp V hw.sub)) λa w E I=>?_;replace I:=aH.fold I M p { m with s:=(dI p bs m.s).2 };refine aR 3 E I (MJ I h (lA.recv h.wf bs) a7 hN) λm' a w E ⟨⟨gH,j6,_⟩,I⟩=>?_;refine RT 3 E I ?_;exact⟨m',rfl,⟨gH,j6⟩,I⟩
end
end
section
theorem FT (k:Ks):fg (bo k).2=fg k:=by
 rcases v8 k with h1 | ⟨hc,h1 | ⟨i,hi,h1⟩⟩ <;> rw[h1] <;> rfl
theorem FU (k:Ks):fg (bG k).2=fg k:=by
 unfold bG;split <;> rfl
section
variable {W w:World}{L:List SP}{n c i N tq sq r base front:Nat}{ad:Option Addr}{M:jm}{B:iT}{p:Pr}{s:Pl}{m:Mu}{A:Sn}{T:Tr}{t:Nat→Nat}{px:aD}{y:Int}
theorem aad (I:U W w (aH W M p m::L))(h:MI p M N m)(oP:m.s.k.now≤1000000):Calls prog 270 #[pt M.mb] w λr V=>∃ ad c,r=.returned (.slice ad (bo m.s.k).1.length c)∧MI p M N { m with s:=⟨(bo m.s.k).2,m.s.g⟩ } ∧
   U W V (ct 124 ad (bo m.s.k).1.length c (bo m.s.k).1::aH W M p { m with s:=⟨(bo m.s.k).2,m.s.g⟩ }::L):=by
 refine EN func270 ntmps270 rfl rfl λa E=>?_;refine CL 4 E I (sY I) λa w E I=>?_;replace I:=aH.open I;refine a6 0 E I (LU (I.pick (aO W M.B p m.s)) h.wf oP) λad c a w E I=>?_;refine RT 1 E I ?_;exact⟨ad,c,rfl,h.same h.wf.tick rfl (AF _).2 (FT _),(aH.fold I M p { m with s:=⟨(bo m.s.k).2,m.s.g⟩ }).sub⟩
theorem aae (I:U W w (aH W M p m::L))(h:MI p M N m):Calls prog 268 #[pt M.mb] w λr V=>∃ ad c,r=.returned (.slice ad (bG m.s.k).1.length c)∧MI p M N { m with s:=⟨(bG m.s.k).2,m.s.g⟩ } ∧
   U W V (ct 124 ad (bG m.s.k).1.length c (bG m.s.k).1::aH W M p { m with s:=⟨(bG m.s.k).2,m.s.g⟩ }::L):=by
 refine EN func268 ntmps268 rfl rfl λa E=>?_;refine CL 4 E I (sY I) λa w E I=>?_;replace I:=aH.open I;refine a6 0 E I (LV (I.pick (aO W M.B p m.s)) h.wf) λad c a w E I=>?_;refine RT 1 E I ?_;exact⟨ad,c,rfl,h.same h.wf.lu rfl (AG _).2 (FU _),(aH.fold I M p { m with s:=⟨(bG m.s.k).2,m.s.g⟩ }).sub⟩
theorem aaf (I:U W w (aH W M p m::L))(h:MI p M N m):Calls prog 266 #[pt M.mb] w λr V=>∃ ad c,r=.returned (.slice ad m.s.k.ev.length c)∧MI p M N { m with s:=⟨{ m.s.k with ev:=[] },m.s.g⟩ } ∧
   U W V (Sl 135 1 ad m.s.k.ev.length c (m.s.k.ev.map cz)::aH W M p { m with s:=⟨{ m.s.k with ev:=[] },m.s.g⟩ }::L):=by
 refine EN func266 ntmps266 rfl rfl λa E=>?_;refine CL 4 E I (sY I) λa w E I=>?_;replace I:=aH.open I;refine a6 0 E I (LW (I.pick (aO W M.B p m.s))) λad c a w E I=>?_;refine RT 1 E I ?_;exact⟨ad,c,rfl,h.same h.wf.told rfl rfl rfl,(aH.fold I M p { m with s:=⟨{ m.s.k with ev:=[] },m.s.g⟩ }).sub⟩
theorem aag (I:U W w (aH W M p m::L))(h:MI p M N m):Calls prog 264 #[pt M.mb] w λr V=>∃ ad c,r=.returned (.tuple #[.slice ad 128 c,.int .i64 (lx m.s).2])∧U W V (Sl 5 1 ad 128 c (bc (lx m.s).1)::aH W M p m::L):=by
 have bP:=h.wf.wc.k0;have iE:m.s.k.ls.length≤8:=by rw[h.wf.wc.ls];exact h.wf.wc.n.2
 obtain⟨t,hI⟩:=h.inv;obtain⟨i,px,g9,kU⟩:=hI.l9 (mem_cons_self ..);have sx:=(hI.base px (bJ g9) kU).1;replace I:=aH.open I;rw[h.front]at I;refine EN func264 ntmps264 rfl rfl λa E=>?_;refine aY 5 (λw0 V=>Rd V M.mb 0 (dU p M m.ks.length m.base (aw m.s.k))) [8,9,10] [0,1,2,3,4,5,7,3006,1008,1009,1010,11,12] E I λa w E I hH=>?_;have hC:=hH.at w (I.ai (b:=M.mb));refine RH 3 E I hH hC λa E=>?_;replace E:=E.aK 6;refine RH 4 E I hH hC λa E=>?_;refine QH E (λw hc=>ae E (hc 8 _ rfl)) hC λa E=>?_;rw[← h.front]at I;replace I:=aH.fold I M p m;refine RH 0 E I hH hC λa E=>?_;refine CL 0 E I (AW I) λa w E I=>?_;replace hC:=hH.at w (by have h9:=(aH.open I).ai (b:=M.mb);rw[h.front]at h9;exact h9);replace I:=aO.open ((aH.open I).pick (aO W M.B p m.s));rw[h.front]at I;refine RH 0 E I hH hC λa E=>?_;refine CL 0 E I (oy (I.pick (aA M.B.core m.s.k))) λa w E I=>?_;replace hC:=hH.at w (I.ai (b:=M.mb));obtain⟨D,I,hD⟩:=aA.qu I;refine RH 0 E I hH hC λa E=>?_;refine CL 0 E I (rl I bP iE) λa w E I=>?_;replace hC:=hH.at w (I.ai (b:=M.mb));refine RH 1 E I hH hC λa E=>?_;rw[show decide (((aw m.s.k:Nat):Int)≠((aW m.s.k.ls:Nat):Int))=false from Ja]at E;refine RH 1 E I hH hC λa E=>?_;replace I:=aO.fold (hD _ _ I) M.B p m.s;rw[← h.front]at I;replace I:=aH.fold I M p m;replace E:=E.aK 16;refine RN 2 E I λa E=>?_;replace I:=aH.open I;refine aY 0 (λw0 V=>Rd V M.mb 0 (dU p M m.ks.length m.base m.front)) [5,6,10,11] [0,1,2,3,7,8,9,3004,3010,1005,1006,1011,12] E I λa w E I hH=>?_;have hC:=hH.at w (I.ai (b:=M.mb));refine RH 7 E I hH hC λa E=>?_;refine QH E (λw hc=>ae E (hc 7 _ rfl)) hC λa E=>?_;refine QH E (λw hc=>ae E (hc 8 _ rfl)) hC λa E=>?_;replace I:=aH.fold I M p m;refine RH 0 E I hH hC λa E=>?_;refine CL 0 E I (FF I g9 kU) λa w E I=>?_;replace hC:=hH.at w ((aH.open I).ai (b:=M.mb));refine RH 0 E I hH hC λa E=>?_;refine a6 0 E I (x8 I) λad c a w E I=>?_;replace hC:=hH.at w ((aH.open I.tail).ai (b:=M.mb));refine RH 2 E I hH hC λa E=>?_;refine RT 0 E I ?_;rw[sx]at I;exact⟨ad,c,by rw[h.front];rfl,I⟩
theorem aah (I:U W w (aH W M p m::L))(hc:m.s.k.cl=true∨y<0∨(m.ks.length:Int)≤y)(h4:m.ks.length≤4) :
   Calls prog 62 #[pt M.mb,.int .i64 y] w λe V=>e=.returned (.bool false)∧U W V (aH W M p m::L):=by
 refine EN func62 ntmps62 rfl rfl λa E=>?_;refine RN 7 E I λa E=>?_;replace E:=E.aK 7;refine CL 1 E I (yw I) λa w E I=>?_;replace I:=aH.open I;refine BY 2 E I (λjQ a E=>?_) λjQ a E=>?_
 ·
  refine RT 15 E I ?_;exact⟨rfl,aH.fold I M p m⟩
 refine BY 4 E I (λlF a E=>?_) λlF a E=>?_
 ·
  refine RT 11 E I ?_;exact⟨rfl,aH.fold I M p m⟩
 refine IF 8 E I (λaj a E=>?_) λaj a E=>?_
 ·
  refine RT 2 E I ?_;exact⟨rfl,aH.fold I M p m⟩
 exact absurd hc (by rintro (h | h | h) <;> first | omega | (rw[h]at jQ;cases jQ))
theorem zJ.brI {k:Ks}{J J':Js}{A A':Sn}{T T':Tr}(hn:zJ A T J A' T' J')(h:uB k T):uB k T':=by
 intro y hy;have h1:(y.id,y.ak)∈T'.l.map (λy=>(y.id,y.ak)):=c0.2 ⟨y,hy,rfl⟩;rw[hn.l]at h1;obtain⟨z,hz,he⟩:=c0.1 h1;have h2:=h z hz;rw[(Prod.mk.inj he).2]at h2;exact h2
theorem aai {k:Wk}{wb:Nat}(I:U W w (aH W M p m::L))(h:MI p M N m)(b9:m.s.k.cl=false)(hk:m.ks[i]?=some (k,wb))(a7:db p)(aC:p.title.size≤1000000000)(hN:N≤1000000000000) :
   Calls prog 62 #[pt M.mb,.int .i64 i] w λe V=>∃ (z:Bool) (A':Sn) (T':Tr) (J':Js) (k':Wk),e=.returned (.bool z)∧(lh p m.A m.T m.J k z A' T' J' k'∧MI p M (N+1) { m with A:=A',T:=T',J:=J',ks:=m.ks.set i (k',wb) }) ∧
    U W V (aH W M p { m with A:=A',T:=T',J:=J',ks:=m.ks.set i (k',wb) }::L):=by
 have aG:=(a8.1 hk).1;have h4:=h.ks;obtain⟨t,hI⟩:=h.inv;obtain⟨lQ,o8,hn3⟩:=h.n;have jz:=h.wf.wc.m7;have gL:=h.wf.wc.lr;refine EN func62 ntmps62 rfl rfl λa E=>?_;refine RN 7 E I λa E=>?_;replace E:=E.aK 7;refine CL 1 E I (yw I) λa w E I=>?_;rw[b9]at E;refine RN 2 E I λa E=>?_;replace E:=E.aK 11;refine RN 4 E I λa E=>?_;replace I:=aH.open I;replace E:=E.aK 15;refine RN 8 E I λa E=>?_;rw[bq (by omega)]at E;refine RN 2 E I λa E=>?_;obtain⟨b',o',gR,dk⟩:=I.bW M.dy (by omega);refine RN 5 E I λa E=>?_;rw[gR]at E;refine RN 1 E I λa E=>?_;refine SS E (ae E (dk i _ (JO hk))) λa E=>?_;refine jJ 0 E I (WN (I.sub (M:=ah (e5 p M.aq M.cO M.tq M.jq M.sq) m.ks::Tree M.tq M.sq m.T::ax M.sq M.r m.A::bK M.jq m.J::ay W p M.aq M.cO::aa M.mb 177 (dU p M m.ks.length m.base m.front)::aO W M.B p m.s::Sl 179 1 M.dy m.ks.length M.dF (gK m.ks)::L)) hk hI ⟨by omega,by omega⟩ a7 aC (by omega) h.J) ?_;clear E I;rintro e w ⟨z,A',T',J',k',rfl,⟨tT,oB,uC⟩,I⟩;refine⟨_,rfl,λa E=>?_⟩;refine RT 1 E I ?_;have pS:(m.ks.set i (k',wb)).length=m.ks.length:=bu ..;have ly:=uC.room;have hn4:=uC.n;have hn5:=uC.last;have hn6:=uC.epoch;refine⟨z,A',T',J',k',rfl,⟨tT,{ wf:=h.wf,gs:=h.gs,front:=h.front,inv:=⟨t,oB⟩,ga:=uC.brI h.ga,J:=uC.len h.J,most:=by dsimp only;rw[uC.most];exact h.most,workers:=by dsimp only;rw[pS];exact h.workers,ks:=by dsimp only;rw[pS];exact h4,room:=by dsimp only;rw[ly];exact h.room,n:=⟨by dsimp only;omega,by dsimp only;omega,by dsimp only;omega⟩ }⟩,?_⟩;rw[← JP (k':=k') hk,← pS]at I;exact aH.fold I M p { m with A:=A',T:=T',J:=J',ks:=m.ks.set i (k',wb) }
end
end
end Go.Proofs.YteoldcfapaiobaaGreat
