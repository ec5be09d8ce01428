/- Package multi: a player that plays ahead. -/
import Derived.Test.YteoldcfapaiobaaGreatC06Ref
import Derived.Test.YteoldcfapaiobaaGreatC11Rank
import Derived.Test.YteoldcfapaiobaaGreatC04Job
import Derived.Test.YteoldcfapaiobaaGreatC05Vm
import Derived.Test.YteoldcfapaiobaaGreatC01Row
import Derived.Laws.StructEq
import Derived.ChangeKeysEq
namespace Go.Proofs.YteoldcfapaiobaaGreat
open Tryz
open List (mem_cons_self all_eq_true getElem?_append_right foldl_cons nil_append map_cons length_nil mem_range getElem?_range getElem_map mem_singleton map_nil range_succ foldl_append length_filter_le map_singleton)
open Go.RowKit
set_option linter.unusedVariables false
set_option linter.unusedSimpArgs false
set_option maxRecDepth 10000
set_option synthInstance.maxSize 4000
set_option synthInstance.maxHeartbeats 400000
section
instance nR.fvB {P l x f ws args vs}[ex:Ev l (.tmp x) (.func (.func f) (List.toArray ws) #[])][ev:nd l args vs]:nR P l (.value (.tmp x)) args f (ws++vs):=⟨λhb a n w E _ _ _ _ _ _=>by
 simp[execOp,resolve,ex.ev a n E,Deferred.ofValue,invoke,ev.ev a n E,yU hb]⟩
structure ji where
 mb:Nat
 B:iR
 sq:Nat
 r:Nat
 tq:Nat
 jq:Nat
 du:Option Addr
 dA:Nat
 aq:Option Addr
 cO:Nat
structure Mu where
 s:Pl
 A:Sn
 T:Tr
 J:Js
 ks:List Kx
 base:Nat
 front:Nat
abbrev dR (p:Pr)(M:ji)(nk base front:Nat):List Value:=[pt M.B.pb,.string p.title,.slice M.aq p.ops.length M.cO,pt M.sq,pt M.tq,pt M.jq,.slice M.du nk M.dA,.int .i64 base,.int .i64 front]
abbrev yk (W:World)(M:ji)(p:Pr)(m:Mu):List SP:=[aa M.mb 177 (dR p M m.ks.length m.base m.front),aP W M.B p m.s,aA W p M.aq M.cO,Sl 179 1 M.du m.ks.length M.dA (gI m.ks),ah (eY p M.aq M.cO M.tq M.jq M.sq) m.ks,Tree M.tq M.sq m.T,aw M.sq M.r m.A,bI M.jq m.J]
def aD (W:World)(M:ji)(p:Pr)(m:Mu):SP:=λh=>cm (yk W M p m) h
section
variable {W w:World}{L R:List SP}{M:ji}{B:iR}{p:Pr}{s:Pl}{m:Mu}
theorem aD.open (I:U W w (aD W M p m::L)):U W w (aa M.mb 177 (dR p M m.ks.length m.base m.front)::aP W M.B p m.s::aA W p M.aq M.cO::Sl 179 1 M.du m.ks.length M.dA (gI m.ks)::ah (eY p M.aq M.cO M.tq M.jq M.sq) m.ks::Tree M.tq M.sq m.T::aw M.sq M.r m.A::bI M.jq m.J::L):=I.open (M:=yk W M p m) λ_ h=>h
theorem aD.close (I:U W w (yk W M p m++L)):U W w (aD W M p m::L):=U.shut (M:=yk W M p m) I λ_ h=>h
theorem aD.fold (I:U W w L)(M:ji)(p:Pr)(m:Mu)[kk:fD L (aa M.mb 177 (dR p M m.ks.length m.base m.front)::aP W M.B p m.s::aA W p M.aq M.cO::Sl 179 1 M.du m.ks.length M.dA (gI m.ks)::ah (eY p M.aq M.cO M.tq M.jq M.sq) m.ks::Tree M.tq M.sq m.T::aw M.sq M.r m.A::bI M.jq m.J::[]) R]:U W w (aD W M p m::R):=aD.close (I.perm kk.perm)
theorem LC (I:U W w (aP W B p s::L)):Calls prog 94 #[pt B.pb] w λe V=>e=.returned (.agg (ints .i32 32 s.g).toArray)∧U W V (aP W B p s::L):=by
 replace I:=aP.open I;refine EN func94 ntmps94 rfl rfl λa E=>?_;refine AL 1 E I λb2 a w E I=>?_;change U W w (aa b2 183 (ints .i32 32 (λ_=>0))::_) at I;refine RN 4 E I λa E=>?_;refine SS E (bT E underlying183 rfl Ty.t183 (yh (I.ai (b:=B.pb)))) λa E=>?_;refine SA 0 E I λa w E I=>?_;refine RT 0 E I ?_;exact⟨rfl,(aP.fold I B p s).sub⟩
theorem LD (I:U W w (aP W B p s::L)):Calls prog 278 #[pt B.pb] w λe V=>e=.returned (.agg (di B.gs B.adT B.cT).toArray)∧U W V (aP W B p s::L):=by
 replace I:=aP.open I;refine EN func278 ntmps278 rfl rfl λa E=>?_;refine AL 1 E I λb2 a w E I=>?_;refine RN 4 E I λa E=>?_;refine SS E (bT E underlying186 rfl Ty.t186 (Li (I.ai (b:=B.pb)))) λa E=>?_;refine SA 0 E I λa w E I=>?_;refine RT 0 E I ?_;exact⟨rfl,(aP.fold I B p s).sub⟩
theorem sW (I:U W w (aD W M p m::L)):Calls prog 140 #[pt M.mb] w λe V=>e=.returned (pt M.B.pb)∧U W V (aD W M p m::L):=by
 replace I:=aD.open I;refine EN func140 ntmps140 rfl rfl λa E=>?_;refine RN 6 E I λa E=>?_;replace E:=E.aN 4;refine RT 7 E I ?_;exact⟨rfl,aD.fold I M p m⟩
theorem AI (I:U W w (aD W M p m::L)):Calls prog 272 #[pt M.mb] w λe V=>e=.returned (pt M.B.core.cb)∧U W V (aD W M p m::L):=by
 refine EN func272 ntmps272 rfl rfl λa E=>?_;refine CL 4 E I (sW I) λa w E I=>?_;replace I:=aD.open I;refine CL 0 E I (nE (I.pick (aP W M.B p m.s))) λa w E I=>?_;refine RT 1 E I ?_;exact⟨rfl,aD.fold I M p m⟩
theorem yl (I:U W w (aD W M p m::L)):Calls prog 101 #[pt M.mb] w λe V=>e=.returned (.bool m.s.k.cl)∧U W V (aD W M p m::L):=by
 refine EN func101 ntmps101 rfl rfl λa E=>?_;refine CL 4 E I (sW I) λa w E I=>?_;replace I:=aD.open I;refine CL 0 E I (Lr (I.pick (aP W M.B p m.s))) λa w E I=>?_;refine RT 1 E I ?_;exact⟨rfl,aD.fold I M p m⟩
theorem Zs (I:U W w (aD W M p m::L)):Calls prog 81 #[pt M.mb] w λe V=>e=.returned (pt M.sq)∧U W V (aD W M p m::L):=by
 replace I:=aD.open I;refine EN func81 ntmps81 rfl rfl λa E=>?_;refine RN 6 E I λa E=>?_;replace E:=E.aN 4;refine RT 7 E I ?_;exact⟨rfl,aD.fold I M p m⟩
theorem Zt (I:U W w (aD W M p m::L)):Calls prog 87 #[pt M.mb] w λe V=>e=.returned (pt M.tq)∧U W V (aD W M p m::L):=by
 replace I:=aD.open I;refine EN func87 ntmps87 rfl rfl λa E=>?_;refine RN 6 E I λa E=>?_;replace E:=E.aN 4;refine RT 7 E I ?_;exact⟨rfl,aD.fold I M p m⟩
end
end
section
section
variable {p:Pr}{F F':Int}{g g0:Nat→Int}{t t':Nat→Nat}{base i:Nat}{A:Sn}{T:Tr}{ws:List Wk}{k:Wk}{P:List (List UInt8)}
theorem Inv.Zu (h:Inv p F g0 t base A T ws)(hA:WF A)(hn:A.n+1<1099511627776)(hT:T.l=[])(hg:dM g) :
   Inv p F' g t' (A.last+1) ((A.add g t').eu base) T ws:=by
 have vE:WF (A.add g t'):=hA.add hn g t';have hr:∀ x∈(A.add g t').au,x.refs=1:=by
  intro x hx;rcases eM.1 hx with hx | hx
  ·exact (h.au x hx).1
  ·rw[mem_singleton.1 hx]
 have tL:∀ z∈A.au,z.id≠A.last+1:=λz hz e=>by have:=(hA.lZ z hz).2.1;omega
 rw[zu vE hr];refine⟨?_,λx hx=>?_,λx hx he=>?_,λy hy=>?_,λk hk=>⟨(h.k6 k hk).1,λ_ y hy=>?_⟩⟩
 ·simp only;rw[CX];have h1:((A.add g t').au.map (·.id)).Perm (base::(A.last+1)::(T.l.map (·.snap)++ja ws)):=by
   simp only[Sn.add,cQ,map_cons,map_nil];exact ((List.perm_append_singleton _ _).trans (h.perm.cons _)).trans (List.Perm.swap _ _ _)
  exact CW (List.Perm.refl _) h1 vE.n0
 ·have hx:=jQ hx;rcases eM.1 hx with hx | hx
  ·exact h.au x hx
  ·rw[mem_singleton.1 hx];exact⟨rfl,hg⟩
 ·have hx:=jQ hx;rcases eM.1 hx with hx | hx
  ·exact absurd he (tL x hx)
  ·rw[mem_singleton.1 hx];exact⟨rfl,rfl⟩
 ·rw[hT]at hy;cases hy
 ·rw[hT]at hy;cases hy
theorem LF (h:∀ k∈ws,k.busy=false):ja ws=[]:=by
 rw[ja,List.filter_eq_nil_iff.2 (λk hk=>by rw[h k hk];decide)];rfl
theorem AJ:∀ (l:List Br) (A:Sn),(A.gH l).room=A.room∧(A.gH l).n=A.n∧(A.gH l).last=A.last
 | [],_=>⟨rfl,rfl,rfl⟩
 | y::l,A=>by
  have h1:=AJ l (A.eu y.snap);have h2:=n1 A y.snap;show ((A.eu y.snap).gH l).room=_∧((A.eu y.snap).gH l).n=_∧((A.eu y.snap).gH l).last=_;exact⟨h1.1.trans h2.1,h1.2.1.trans h2.2.1,h1.2.2.trans h2.2.2⟩
def sX (ls:List (List UInt8))(f:Nat)(j:List UInt8):Bool:=(List.range j.length).all λq=>!(decide (f<(ls.getD q []).length)&&(ls.getD q []).getD f 0 != j.getD q 0)
def jj (ls:List (List UInt8))(f:Nat)(P:List (List UInt8)):Bool:=(List.range P.length).all λi=>sX ls (f+i) (P.getD i [])
theorem Zv {ls:List (List UInt8)}{f q:Nat}{j:List UInt8}(hq:q<j.length)(h1:f<(ls.getD q []).length)(h2:(ls.getD q []).getD f 0≠j.getD q 0):sX ls f j=false:=by
 rw[sX,List.all_eq_false];exact⟨q,mem_range.2 hq,by rw[dk h1,Bool.true_and,bne_iff_ne.2 h2];decide⟩
theorem LG {ls:List (List UInt8)}{f:Nat}{j:List UInt8}(h:∀ q,q<j.length→f<(ls.getD q []).length→(ls.getD q []).getD f 0=j.getD q 0):sX ls f j=true:=by
 rw[sX,all_eq_true];intro q hq;have:=h q (mem_range.1 hq);by_cases h1:f<(ls.getD q []).length
 ·rw[dk h1,Bool.true_and,this h1,bne_self_eq_false];rfl
 ·rw[bn h1,Bool.false_and];rfl
theorem Zw {ls:List (List UInt8)}{f i:Nat}{P:List (List UInt8)}(hi:i<P.length)(h:sX ls (f+i) (P.getD i [])=false):jj ls f P=false:=by
 rw[jj,List.all_eq_false];exact⟨i,mem_range.2 hi,by rw[h];decide⟩
theorem LH {ls:List (List UInt8)}{f:Nat}{P:List (List UInt8)}(h:∀ i,i<P.length→sX ls (f+i) (P.getD i [])=true):jj ls f P=true:=by
 rw[jj,all_eq_true];intro i hi;exact h i (mem_range.1 hi)
end
end
section
section
variable {W w:World}{L:List SP}{q r:Nat}{A:Sn}
theorem Zx (l:List Nat):distinct l≤l.length:=by
 induction l with
 | nil=>exact bf _
 | cons x l ih=>rw[distinct,e7];split <;> omega
theorem Zy (l:List aC):(kJ l).length=4*l.length:=by
 induction l with
 | nil=>rfl
 | cons x l ih=>show (_++kJ l).length=_;rw[aL,ih,e7];simp;omega
theorem aw.vh (I:U W w (aw q r A::L)):A.used≤4*A.au.length:=by
 rw[aw.used I];have:=Zx (kJ A.au);rw[Zy]at this;exact this
end
end
section
theorem Tl.rest {N L:List SP}{A:SP}(t:Tl N (A::L)):Tl N L:=⟨let ⟨K,h⟩:=t.h;⟨K++[A],by simpa using h⟩⟩
section
variable {W w:World}{L:List SP}{n i tq sq r:Nat}{M:ji}{B:iR}{x:UInt8}{p:Pr}{s:Pl}{m:Mu}{A:Sn}{T:Tr}{F:Int}{g0:Nat→Int}{t:Nat→Nat}{px:aC}
theorem LI {kp:Br→Bool}{g:Nat}{ws:List Value}(I:U W w (Tree tq sq T::aw sq r A::L))(he:T.epoch+1<1099511627776)(cg:g4 prog g=true)
   (hg:∀ (N:List SP) (V:World) (x:Br) (av:Option Addr) (c':Nat),x∈T.l→U W V N→Tl N L→vq W N av x.al→x.al.length≤c'→nq x.al →
    Calls prog g (ws++[Value.agg (ca x av c').toArray]).toArray V λe nr=>e=.returned (.bool (kp x))∧U W nr N) :
   Calls prog 287 #[pt tq,.func (.func g) ws.toArray #[]] w λe V=>(∃ v:Int,e=.returned (.int .i64 v)) ∧
    U W V (Tree tq sq (T.cut λx=>!kp x)::aw sq r (A.gH (T.l.filter λx=>!kp x))::L):=by
 have hF : ∀ (b3 : Nat) (N : List SP) (V : World) (x : Br) (av : Option Addr) (c' : Nat), x ∈ T.l → U W V N → Tl N (aa b3 343 [.func (.func g) ws.toArray #[]] :: L) → vq W N av x.al → x.al.length ≤ c' → nq x.al →
     Calls prog 304 (List.toArray [.agg (ca x av c').toArray,pt b3]) V λe nr=>e=.returned (.bool (!kp x))∧U W nr N:=by
  intro b3 N w x av c' AK I hM hx Zz ke;refine EN func304 ntmps304 rfl rfl λa E=>?_;refine BX 1 E I λb2 a w E I=>?_;refine RN 2 E I λa E=>?_;have o8:=I.tail.Uq hM;refine SS E (ag E (o8.bB rfl)) λa E=>?_;refine CL 1 E I (hg (aa b2 238 (ca x av c')::N) _ x av c' AK I (@Tl.cons _ _ _ hM.rest) (hx.imp λzs h=>⟨h.1,λnr h2=>h.2 _ h2.tail⟩) Zz ke) (hf:=cg) λa w E I=>?_;refine RT 2 E I ?_;exact⟨rfl,I.tail⟩
 refine EN func287 ntmps287 rfl rfl λa E=>?_;refine BX 1 E I λb3 a w E I=>?_;refine CL 4 E I (Iy (tq:=tq) (sq:=sq) (r:=r) (A:=A) (T:=T) (wh:=λx=>!kp x) (us:=[pt b3]) (L:=aa b3 343 [.func (.func g) ws.toArray #[]]::L) I.sub he (by kernel_rfl) (hF b3)) λa w E I=>?_;refine RT 1 E I ?_;exact⟨⟨_,rfl⟩,I.sub⟩
theorem ZA (I:U W w (aD W M p m::L))(hI:Inv p F g0 t m.base m.A m.T (m.ks.map (·.1)))(he:m.T.epoch+1<1099511627776)(h4:m.ks.length≤4) :
   Calls prog 302 #[pt M.mb] w λe V=>∃ (A':Sn) (AM:List Kx),e=.returned (.tuple #[]) ∧
    (Inv p F g0 t m.base A' (m.T.cut λ_=>true) (AM.map (·.1))∧AM.length=m.ks.length∧(∀ k∈AM,k.1.busy=false)∧A'.room=m.A.room∧A'.n=m.A.n) ∧
    U W V (aD W M p { m with A:=A',ks:=AM,T:=m.T.cut λ_=>true }::L):=by
 obtain⟨mb,B,sq,r,tq,jq,du,dA,aq,cO⟩:=M;obtain⟨s,A,T,J,ks,base,front⟩:=m;replace I:=aD.open I;simp only at hI he h4;refine EN func302 ntmps302 rfl rfl λa E=>?_;refine RN 8 E I λa E=>?_;refine aR (λμ a w=>∃ (i:Nat) (A1:Sn) (kU:List Kx),(μ=ks.length-i∧i≤ks.length∧kU.length=ks.length∧(∀ (j:Nat) (k:Kx),j<i→kU[j]?=some k→k.1.busy=false)∧Inv p F g0 t base A1 T (kU.map (·.1))∧A1.room=A.room∧A1.n=A.n)∧Fr a 21 [(0,pt mb),(7,.slice du ks.length dA),(8,.int .i64 ks.length),(9,.int .i64 i)]∧U W w (aa mb 177 (dR p ⟨mb,B,sq,r,tq,jq,du,dA,aq,cO⟩ ks.length base front)::aP W B p s::aA W p aq cO::Sl 179 1 du ks.length dA (gI kU)::ah (eY p aq cO tq jq sq) kU::Tree tq sq T::aw sq r A1::bI jq J::L)) (ks.length) (⟨0,A,ks,⟨rfl,by omega,rfl,λj k h=>absurd h (by omega),hI,rfl,rfl⟩,E.ab [0,7,8,9],I.sub⟩) ?_;clear E I;rintro μ a w ⟨i,A1,kU,⟨rfl,hi,eH,LJ,wo,ll,qS⟩,E,I⟩;refine IF 3 E I (λaj a E=>?_) λaj a E=>?_
 ·
  have o5:i<kU.length:=by omega
  obtain⟨⟨k,wb⟩,hk⟩:∃ y,kU[i]?=some y:=⟨_,aI o5⟩;obtain⟨b',dB,rfl,de⟩:=I.bY du (by omega);refine RN 3 E I λa E=>?_;refine SS E (ag E (de i _ (Jl hk))) λa E=>?_;refine aY 2 E I (Wz ((I.store sq).pick (ah (eY p aq cO tq jq sq) kU)) hk wo) λA2 k2 a w E ⟨⟨ch,oA,eT,lD⟩,I⟩=>?_;rw[← Jm (k':=k2) hk]at I;refine RN 2 E I λa E=>?_;refine⟨ks.length-(i+1),by omega,i+1,A2,kU.set i (k2,wb),⟨rfl,by omega,by rw[br];exact eH,λj z hj hz=>?_,oA,eT.trans ll,lD.trans qS⟩,E.ab [0,7,8,9],I.sub⟩;rw[jF]at hz;split at hz
  ·cases hz;exact ch
  ·exact LJ j z (by omega) hz
 refine RN 0 E I λa E=>?_;have gx:=I;refine CL 4 E I (Us ((I.store sq).tree tq) he) λa w E I=>?_;refine RT 0 E I ?_;obtain rfl:i=ks.length:=by omega
 have AN:=wo.cut (aw.facts (gx.store sq)).1 (λ_=>true);rw[show T.l.filter (λ_=>true)=T.l from by simp]at AN;have hd:=AJ T.l A1;refine⟨A1.gH T.l,kU,rfl,⟨AN,eH,λk hk=>?_,hd.1.trans ll,hd.2.1.trans qS⟩,?_⟩
 ·obtain⟨j,hj⟩:=jN.1 hk;exact LJ j k (by have:=(a2.1 hj).1;omega) hj
 ·rw[← eH]at I;exact aD.fold I ⟨mb,B,sq,r,tq,jq,du,dA,aq,cO⟩ p ⟨s,A1.gH T.l,T.cut λ_=>true,J,kU,base,front⟩
theorem Fk {id:Nat}(I:U W w (aD W M p m::L))(hx:m.A.au[i]?=some px)(bO:px.id=id) :
   Calls prog 274 #[pt M.mb,.int .i64 id] w λe V=>e=.returned (.agg (ints .i32 32 px.g).toArray)∧U W V (aD W M p m::L):=by
 replace I:=aD.open I;refine EN func274 ntmps274 rfl rfl λa E=>?_;refine AL 1 E I λb4 a w E I=>?_;change U W w (aa b4 183 (ints .i32 32 (λ_=>0))::_) at I;refine CL 6 E I (WE (I.store M.sq) hx bO) λa w E I=>?_;refine AL 3 E I λb5 a w E I=>?_;change U W w (aa b5 183 (ints .i32 32 (λ_=>0))::_) at I;refine SA 0 E I λa w E I=>?_;refine SA 3 E I λa w E I=>?_;refine RT 0 E I ?_;exact⟨rfl,(aD.fold I M p m).sub⟩
structure ZB (p:Pr)(M:ji)(m m':Mu)(t':Nat→Nat):Prop where
 inv:Inv p (ax m.s.k:Int) m.s.g t' m'.base m'.A m'.T (m'.ks.map (·.1))
 s:m'.s=m.s
 J:m'.J=m.J
 front:m'.front=ax m.s.k
 room:m'.A.room=m.A.room
 n:m'.A.n≤m.A.n+1
 last:m'.T.last=m.T.last
 most:m'.T.most=m.T.most
 rI:m'.T.epoch≤m.T.epoch+2
 ks:m'.ks.length=m.ks.length
 aeO:(m'.T=m.T∧m'.A=m.A∧m'.ks=m.ks)∨m'.T.l=[]
 same:m.front=ax m.s.k→m'.T=m.T∧m'.A=m.A∧m'.ks=m.ks
theorem ZC (I:U W w (aD W M p m::L))(hw:cw p m.s)(hg:dM m.s.g)(hI:Inv p (m.front:Int) g0 t m.base m.A m.T (m.ks.map (·.1)))(fo:m.front=ax m.s.k→g0=m.s.g)
   (he:m.T.epoch+2<1099511627776) (hn:m.A.n+1<1099511627776) (h4:m.ks.length≤4) (rk:12≤m.A.room) :
   Calls prog 286 #[pt M.mb] w λe V=>∃ (m':Mu) (t':Nat→Nat),e=.returned (.tuple #[])∧ZB p M m m' t'∧U W V (aD W M p m'::L):=by
 have bN:=hw.wc.kR;have iB:m.s.k.ls.length≤8:=by rw[hw.wc.ls];exact hw.wc.n.2
 obtain⟨mb,B,sq,r,tq,jq,du,dA,aq,cO⟩:=M;obtain⟨s,A,T,J,ks,base,front⟩:=m;obtain⟨i,px,g9,kK⟩:=hI.lZ (mem_cons_self ..)
 have hF : ∀ (N : List SP) (V : World) (x : Br) (av : Option Addr) (c' : Nat), U W V N →
     Calls prog 301 ([]++[Value.agg (ca x av c').toArray]).toArray V λe nr=>e=.returned (.bool false)∧U W nr N:=by
  intro N w x av c' I;refine EN func301 ntmps301 rfl rfl λa E=>?_;refine BX 1 E I λb1 a w E I=>?_;refine RT 3 E I ?_;exact⟨rfl,I.tail⟩
 simp only at hw hg hI fo he hn h4 rk bN iB g9 kK;subst kK;replace I:=aD.open I;dsimp only at I;refine EN func286 ntmps286 rfl rfl λa E=>?_;refine CL 5 E I (nE (I.pick (aP W B p s))) λa w E I=>?_;replace I:=aP.open I;refine CL 0 E I (ow (I.pick (az B.core s.k))) λa w E I=>?_;obtain⟨D,I,hD⟩:=az.qu I;refine CL 0 E I (re I bN iB) λa w E I=>?_;refine RN 1 E I λa E=>?_;replace I:=(aP.fold (hD _ _ I) B p s);refine IF 8 E I (λaj a E=>?_) λaj a E=>?_
 ·
  have om:front=ax s.k:=by rw[ax];omega
  refine RT 0 E I ?_;exact⟨⟨s,A,T,J,ks,px.id,front⟩,t,rfl,⟨by rw[← om,← fo om];exact hI,rfl,rfl,om,rfl,by simp only;omega,rfl,rfl,by simp only;omega,rfl,.inl ⟨rfl,rfl,rfl⟩,λ_=>⟨rfl,rfl,rfl⟩⟩,aD.fold I ⟨mb,B,sq,r,tq,jq,du,dA,aq,cO⟩ p ⟨s,A,T,J,ks,px.id,front⟩⟩
 refine RN 5 E I λa E=>?_;have wq:=hI.cut (aw.facts (I.store sq)).1 (λ_=>true);have sY:=AJ (T.l.filter λ_=>true) A;have Fl:(T.cut λ_=>true).l=[]:=by simp[Tr.cut]
 have ZD:(T.cut λ_=>true).epoch≤T.epoch+1:=by simp only[Tr.cut];split <;> omega
 refine jJ 0 E I (LI (kp:=λ_=>false) (ws:=[]) ((I.store sq).tree tq) (by omega) (by kernel_rfl) (λN V x av c' _ h1 _ _ _ _=>hF N V x av c' h1)) ?_;clear E I;rintro e w ⟨⟨_,rfl⟩,I⟩;refine⟨_,rfl,λa E=>?_⟩;replace I:U W w (Tree tq sq (T.cut λ_=>true)::aw sq r (A.gH (T.l.filter λ_=>true))::_):=I;generalize A.gH (T.l.filter λ_=>true)=A1 at I wq sY;have rp:(T.cut λ_=>true).last=T.last∧(T.cut λ_=>true).most=T.most:=⟨rfl,rfl⟩;generalize (T.cut λ_=>true)=T1 at I wq Fl ZD rp;obtain⟨i1,qm,ZE,ZF⟩:=wq.lZ (mem_cons_self ..);rw[← ZF]at I wq;refine RN 0 E I λa E=>?_;refine b7 (M:=λa w=>∃ (A2:Sn) (T2:Tr) (qn:List Kx),(A2.used+4≤A2.room∧Inv p (front:Int) g0 t qm.id A2 T2 (qn.map (·.1))∧T2.l=[]∧T2.epoch≤T.epoch+2∧T2.last=T.last∧T2.most=T.most∧qn.length=ks.length∧A2.room=A.room∧A2.n=A.n)∧Fr a 73 [(0,pt mb),(2,.int .i64 (aU s.k.ls))]∧U W w (aD W ⟨mb,B,sq,r,tq,jq,du,dA,aq,cO⟩ p ⟨s,A2,T2,J,qn,qm.id,front⟩::L)) ?_ ?_
 ·
  refine aZ 1 (λw0 V=>Rd V mb 0 (dR p ⟨mb,B,sq,r,tq,jq,du,dA,aq,cO⟩ ks.length qm.id front)) [7,11,12,13] [0,1,2,4,5,6,8,9,10,3003,3007,1011,1012,1013,1014,15] E I λa w E I hH=>?_;have hC:=hH.at w (I.ai (b:=mb));refine RH 9 E I hH hC λa E=>?_;refine QH E (λw hc=>ag E (hc 3 _ rfl)) hC λa E=>?_;refine QH E (λw hc=>ag E (hc 3 _ rfl)) hC λa E=>?_;refine RH 0 E I hH hC λa E=>?_;refine SS E (ag E (hC 7 _ rfl)) λa E=>?_;refine RH 0 E I hH hC λa E=>?_;refine aY 0 E I (Ic (I.store sq) ZE) λcV dN a w E I=>?_;replace hC:=hH.at w (I.ai (b:=mb));refine RH 1 E I hH hC λa E=>?_;refine CL 0 E I (Ie (I.store sq)) λa w E I=>?_;refine RN 1 E I λa E=>?_;refine IF 0 E I (λao a E=>?_) λao a E=>?_
  ·
   replace I:=aD.fold I ⟨mb,B,sq,r,tq,jq,du,dA,aq,cO⟩ p ⟨s,A1,T1,J,ks,qm.id,front⟩;refine aY 1 E I (ZA I wq (by dsimp only;omega) h4) λA2 qn a w E ⟨⟨oA,ch,ZG,eT,lD⟩,I⟩=>?_;refine RN 0 E I λa E=>?_;have cg:(T1.cut λ_=>true).l=[]:=by simp[Tr.cut]
   have hce:(T1.cut λ_=>true).epoch≤T1.epoch+1:=by simp only[Tr.cut];split <;> omega
   have hu:=aw.vh ((aD.open I).store sq);have hG:=oA.len;rw[LF (λk hk=>by obtain⟨y,hy,rfl⟩:=c1.1 hk;exact ZG y hy)]at hG;simp only[cg,length_nil]at hG eT lD ch hu;exact⟨A2,T1.cut λ_=>true,qn,⟨by rw[eT,sY.1];omega,oA,cg,by omega,rp.1,rp.2,ch,by rw[eT,sY.1],by rw[lD,sY.2.1]⟩,E.ab [0,2],I.sub⟩
  refine RN 0 E I λa E=>?_;exact⟨A1,T1,ks,⟨by omega,wq,Fl,by omega,rp.1,rp.2,rfl,sY.1,sY.2.1⟩,E.ab [0,2],(aD.fold I ⟨mb,B,sq,r,tq,jq,du,dA,aq,cO⟩ p ⟨s,A1,T1,J,ks,qm.id,front⟩).sub⟩
 clear E;(try clear I);rintro a w ⟨A2,T2,qn,⟨ZH,oA,LK,Fm,ZI,AO,ch,eT,lD⟩,E,I⟩;refine RN 1 E I λa E=>?_;replace I:=aD.open I;dsimp only at I;refine aZ 0 (λw0 V=>Rd V mb 0 (dR p ⟨mb,B,sq,r,tq,jq,du,dA,aq,cO⟩ qn.length qm.id front)) [7,8] [0,1,2,4,5,6,3003,1007,1008,1009,10,11,12,13,14] E I λa w E I hH=>?_;have hC:=hH.at w (I.ai (b:=mb));refine RH 6 E I hH hC λa E=>?_;refine QH E (λw hc=>ag E (hc 3 _ rfl)) hC λa E=>?_;refine RH 0 E I hH hC λa E=>?_;refine SS E (ag E (hC 0 _ rfl)) λa E=>?_;refine RH 0 E I hH hC λa E=>?_;refine CL 0 E I (LC (I.pick (aP W B p s))) λa w E I=>?_;replace hC:=hH.at w (I.ai (b:=mb));have vE:=(aw.facts (I.store sq)).1;refine RH 0 E I hH hC λa E=>?_;refine bg 0 E I (Ig (g:=s.g) (I.store sq) ZH (by omega)) λt' a w E ⟨⟨ZJ,Fo⟩,I⟩=>?_;refine RN 5 E I λa E=>?_;refine RN 4 E I λa E=>?_;replace E:=E.aN 55;refine aZ 2 (λw0 V=>Rd V mb 0 (dR p ⟨mb,B,sq,r,tq,jq,du,dA,aq,cO⟩ qn.length qm.id front)) [7] [0,1,2,4,5,6,3003,1007,1008] E I λa w E I hH=>?_;have hC:=hH.at w (I.ai (b:=mb));refine RH 6 E I hH hC λa E=>?_;refine QH E (λw hc=>ag E (hc 3 _ rfl)) hC λa E=>?_;refine RH 0 E I hH hC λa E=>?_;refine SS E (ag E (hC 7 _ rfl)) λa E=>?_;refine RH 0 E I hH hC λa E=>?_;refine bg 0 E I (zq (I.store sq)) λ_ a w E I=>?_;refine ST 6 E I (λa w E I=>?_);refine ST 2 E I (λa w E I=>?_);refine RT 0 E I ?_;have hm:=oA.Zu (F':=(ax s.k:Int)) (g:=s.g) (t':=t') vE (by omega) LK hg;have hd:=n1 (A2.add s.g t') qm.id;exact⟨⟨s,(A2.add s.g t').eu qm.id,T2,J,qn,A2.last+1,aU s.k.ls⟩,t',rfl,⟨hm,rfl,rfl,rfl,hd.1.trans eT,by rw[hd.2.1];show A2.n+1≤A.n+1;omega,ZI,AO,Fm,ch,.inr LK,λe=>(by have e2:front=aU s.k.ls:=e;exfalso;omega)⟩,aD.fold I ⟨mb,B,sq,r,tq,jq,du,dA,aq,cO⟩ p ⟨s,(A2.add s.g t').eu qm.id,T2,J,qn,A2.last+1,aU s.k.ls⟩⟩
end
end
section
abbrev bj (xs:List ea):List (List UInt8):=xs.map (·.2.2)
theorem sZ {xs:List ea}{i:Nat}{x:ea}(h:xs[i]?=some x):(bj xs).getD i []=x.2.2:=by
 rw[bl,bm,h];rfl
theorem gK (xs:List ea):(bj xs).length=xs.length:=bd _
theorem iJ.at {w:World}{ad:Option Addr}{xs:List ea}(h:iJ w ad xs){i:Nat}(hi:i<xs.length):∃ b off x,ad=some ⟨b,off,none⟩∧xs[i]?=some x∧w.cell? ⟨b,off+i,none⟩=some (aM x)∧a6 w x.1 x.2.2.length x.2.2:=by
 obtain⟨b,off,hb,hr⟩:=h.1 (by omega);have hx:xs[i]?=some xs[i]:=aI hi;exact⟨b,off,xs[i],hb,hx,hr i _ (by rw[bm,hx];rfl),h.2 _ (bK hx)⟩
section
variable {W w:World}{L:List SP}{m cT to r f cl:Nat}{adT gY:Option Addr}{past:List UInt8}{b:Gs}{xs:List ea}
theorem Fp (I:U W w L)(h0:0<xs.length)(h8:xs.length≤8)(hp:∀ V,U W V L→iJ V gY xs) :
   Calls prog 41 #[.slice gY xs.length cl] w λe V=>e=.returned (.int .i64 (aU (bj xs)))∧U W V L:=by
 refine EN func41 ntmps41 rfl rfl λa E=>?_;refine RN 3 E I λa E=>?_;obtain⟨mE,ol,x0,rfl,ZK,o9,e9⟩:=(hp _ I).at h0;refine RN 3 E I λa E=>?_;refine SS E (ag E (o9)) λa E=>?_;rw[aM]at E;refine RN 5 E I λa E=>?_;rw[show ((x0.2.2.length:Nat):Int)=(iA (bj xs) 1:Nat) from by rw[XV,iA,List.headD_eq_getD,sZ ZK]]at E;refine aR (λμ a w=>∃ (i:Nat),(μ=xs.length-i∧i≤xs.length∧1≤i)∧Fr a 25 [(0,.slice (some ⟨mE,ol,none⟩) xs.length cl),(3,.int .i64 (iA (bj xs) i:Nat)),(4,.int .i64 i)]∧U W w L) (xs.length-1) (⟨1,⟨rfl,by omega,by omega⟩,E.ab [0,3,4],I⟩) ?_;clear E I;rintro μ a w ⟨i,⟨rfl,hi,kX⟩,E,I⟩;refine IF 6 E I (λaj a E=>?_) λaj a E=>?_
 ·
  obtain⟨_,_,x,gS,hx,o9,e9⟩:=(hp _ I).at (i:=i) (by omega);cases gS;refine RN 6 E I λa E=>?_;refine SS E (ag E (o9)) λa E=>?_;rw[aM]at E;refine RN 2 E I λa E=>?_;rw[show min ((iA (bj xs) i:Nat):Int) ((x.2.2.length:Nat):Int)=((iA (bj xs) (i+1):Nat):Int) from by rw[iA,sZ hx];omega]at E;refine RN 4 E I λa E=>?_;exact⟨xs.length-(i+1),by omega,i+1,⟨rfl,by omega,by omega⟩,E.ab [0,3,4],I⟩
 refine RT 3 E I ?_;obtain rfl:i=xs.length:=by omega
 exact⟨by rw[aU,gK],I⟩
theorem ZL (I:U W w L)(h0:0<xs.length)(h8:xs.length≤8)(hp:∀ V,U W V L→iJ V gY xs)(hf:f<aU (bj xs)) :
   Calls prog 40 #[.slice gY xs.length cl,.int .i64 f] w λe V=>∃ av c',e=.returned (.slice av (cr (bj xs) f).length c')∧U W V (Sl 5 1 av (cr (bj xs) f).length c' (bc (cr (bj xs) f))::L):=by
 refine EN func40 ntmps40 rfl rfl λa E=>?_;refine RN 7 E I λa E=>?_;replace I:=I.bM 5 1 none;refine aR (λμ a w=>∃ (i:Nat) (ad2:Option Addr) (c2:Nat),(μ=xs.length-i∧i≤xs.length)∧Fr a 25 [(0,.slice gY xs.length cl),(1,.int .i64 f),(5,.slice ad2 (fu (bj xs) f i).length c2),(6,.int .i64 i)]∧U W w (Sl 5 1 ad2 (fu (bj xs) f i).length c2 (bc (fu (bj xs) f i))::L)) (xs.length) (⟨0,none,0,⟨rfl,by omega⟩,E.ab [0,1,5,6],I⟩) ?_;clear E I;rintro μ a w ⟨i,ad2,c2,⟨rfl,hi⟩,E,I⟩;refine IF 6 E I (λaj a E=>?_) λaj a E=>?_
 ·
  obtain⟨mE,ol,x,rfl,hx,o9,e9⟩:=(hp _ I.tail).at (i:=i) (by omega);have gw:f<x.2.2.length:=by
   have h1:=vS (ls:=bj xs) (l:=x.2.2) (c1.2 ⟨x,bK hx,rfl⟩);omega
  obtain⟨mg,ox,gS,iM⟩:=e9.get (by omega);have dG:=sJ (ls:=bj xs) (f:=f) (i:=i) (by rw[gK];exact hi);refine RN 6 E I λa E=>?_;refine SS E (ag E (o9)) λa E=>?_;rw[aM,gS]at E;refine RN 2 E I λa E=>?_;refine SS E (ag E (iM f _ (kN gw))) λa E=>?_;refine RN 0 E I λa E=>?_;refine cn E rfl I underlying22 Ty.t5 rfl rfl rfl rfl (by decide) (by decide) λtT a w E I ho=>?_;clear ho;refine RN 0 E I λa E=>?_;refine cI E rfl I underlying22 Ty.t5 rfl rfl I.ai rfl (ep [x.2.2.getD f 0]) (by decide) (by decide) (by omega) λgm gn a w E I=>?_;rw[show bc (fu (bj xs) f i)++_=bc (fu (bj xs) f (i+1)) from by rw[Ak (by rw[gK];omega),getElem_map,fH,(a2.1 hx).2],show (fu (bj xs) f i).length+1=(fu (bj xs) f (i+1)).length from by rw[dG,sJ (by rw[gK];omega)]]at I;rw[show (fu (bj xs) f i).length+1=(fu (bj xs) f (i+1)).length from by rw[dG,sJ (by rw[gK];omega)]]at E;refine RN 4 E I λa E=>?_;exact⟨xs.length-(i+1),by omega,i+1,gm,gn,⟨rfl,by omega⟩,E.ab [0,1,5,6],I.sub⟩
 refine RT 3 E I ?_;obtain rfl:i=xs.length:=by omega
 have hj:fu (bj xs) f xs.length=cr (bj xs) f:=by
  conv=>lhs;rw[← gK xs]
  exact Aj _ _
 rw[hj]at I ⊢;exact⟨_,_,rfl,I⟩
set_option maxHeartbeats 1000000 in
theorem AP (hr:r≤100000)(I:U W w L)(hb:cR b)(h0:0<xs.length)(h8:xs.length≤8)(hl:∀ l∈bj xs,l.length≤1000)(sO:to≤1000)(hp:∀ V,U W V L→iJ V gY xs)(ht:∀ V,U W V L→a6 V adT b.table.length b.table) :
   Calls prog 117 #[.slice gY xs.length cl,.agg (di b adT cT).toArray,.int .i64 r,.int .i64 to] w λe V=>∃ (av:Option Addr) (c':Nat) (X:List (List UInt8)),e=.returned (.slice av (to-aU (bj xs)) c')∧(yf to (bj xs) X∧(r=0→X=iQ b (bj xs) to)) ∧
    U W V (b9 av (to-aU (bj xs)) c' (m7 X (aU (bj xs)) to)::L):=by
 have bN:bj xs≠[]:=λe=>by have h1:=gK xs;rw[e]at h1;simp at h1;omega
 have fo:aU (bj xs)≤1000:=by
  obtain⟨l,kD,l3⟩:=Ai bN;rw[l3];exact hl l kD
 refine EN func117 ntmps117 rfl rfl λa E=>?_;refine BX 1 E I λb5 a w E I=>?_;change U W w (aa b5 47 (di b adT cT)::_) at I;refine CL 3 E I (Fp (cl:=cl) I h0 h8 (λV hw=>hp V hw.tail)) λa w E I=>?_;refine bg 4 E I (E8 I) λrr a w E ⟨ju,I⟩=>?_;rw[ju.2 hb]at E;refine RN 2 E I λa E=>?_;replace E:=E.aN 23;refine RN 4 E I λa E=>?_;rw[bn (by omega)]at E;refine RN 4 E I λa E=>?_;rw[bn (by omega)]at E;refine IF 4 E I (λaj a E=>?_) λaj a E=>?_
 ·
  refine RT 2 E I ?_;have hz:to-aU (bj xs)=0:=by omega
  refine⟨none,0,iQ b (bj xs) to,by rw[hz],⟨⟨by rw[iQ,bd],λj l x hj hx=>?_⟩,λ_=>rfl⟩,?_⟩
  ·rw[iQ,bm,hj]at hx;obtain rfl:nz b l to=x:=by simpa using hx
   exact Y6 (hl l (bK hj)) sO
  ·rw[m7,hz];exact b9.nil I.tail
 refine RN 7 E I λa E=>?_;replace I:=I.bM 22 1 none;replace I:=U.iI (f:=a7) I;have aeP:aU (bj xs)<to:=by omega
 refine aR (λμ a w=>∃ (i:Nat) (LL:Bool) (ys:List ea) (m8:Option Addr) (m9:Nat),(μ=xs.length-i∧i≤xs.length∧ys.length=i∧(∀ (j:Nat) (l:List UInt8) (x:ea),(bj xs)[j]?=some l→ys[j]?=some x→wg to l x.2.2)∧(r=0→bj ys=(iQ b (bj xs) to).take i))∧Fr a 117 [(0,.slice gY xs.length cl),(2,.int .i64 r),(3,.int .i64 to),(5,pt b5),(9,.int .i64 (aU (bj xs))),(10,.slice m8 i m9),(11,.bool LL),(12,.int .i64 i)]∧U W w (Sl 22 1 m8 i m9 (ys.map aM)::ah a7 ys::aa b5 47 (di b adT cT)::L)) (xs.length) (⟨0,false,[],none,0,⟨rfl,by omega,rfl,λj l x _ h=>by simp at h,λ_=>rfl⟩,E.ab [0,2,3,5,9,10,11,12],(I.sub:U W w (Sl 22 1 none 0 0 []::ah a7 []::aa b5 47 (di b adT cT)::L))⟩) ?_;clear E I;rintro μ a w ⟨i,LL,ys,m8,m9,⟨rfl,hi,j3,nf,uw⟩,E,I⟩;refine IF 6 E I (λao a E=>?_) λao a E=>?_
 ·
  obtain⟨mE,ol,x,rfl,hx,o9,e9⟩:=(hp _ I.tail.tail.tail).at (i:=i) (by omega);have eC:(bj xs)[i]?=some x.2.2:=by rw[bm,hx];rfl
  have cj:=hl _ (bK eC);replace I:=I.bM 5 1 none;refine RN 6 E I λa E=>?_;refine SS E (ag E (o9)) λa E=>?_;rw[aM]at E;refine RN 0 E I λa E=>?_;refine gV E rfl I underlying22 Ty.t5 rfl rfl (by decide) (λh0=>e9.get h0) (by rw[dw];omega) (ep _) (by omega) λpo q7 a w E I=>?_;rw[nil_append,Nat.zero_add]at I;rw[Nat.zero_add]at E;refine RN 1 E I λa E=>?_;refine b7 (M:=λa w=>∃ (AQ:Bool) (cV:Option Addr) (dN:Nat) (y:List UInt8),((∃ t,y=x.2.2++t)∧y.length≤x.2.2.length+1∧(y=x.2.2∨x.2.2.length=aU (bj xs))∧(r=0→y=x.2.2))∧Fr a 117 [(0,.slice (some ⟨mE,ol,none⟩) xs.length cl),(2,.int .i64 r),(3,.int .i64 to),(5,pt b5),(9,.int .i64 (aU (bj xs))),(10,.slice m8 i m9),(11,.bool AQ),(12,.int .i64 i),(13,.slice cV y.length dN)]∧U W w (Sl 5 1 cV y.length dN (bc y)::Sl 22 1 m8 i m9 (ys.map aM)::ah a7 ys::aa b5 47 (di b adT cT)::L)) ?_ ?_
  ·
   refine BY 4 E I (λbA a E=>?_) λbA a E=>?_
   ·
    refine BY 4 E I (λjS a E=>?_) λjS a E=>?_
    ·
     refine IF 5 E I (λay a E=>?_) λay a E=>?_
     ·
      refine RN 2 E I λa E=>?_;have xS:r%256<256:=Nat.mod_lt _ (by decide);have ZM:=(I.sl po).2;refine SX 4 E I (by decide) λa E=>?_;rw[show ((r:Nat):Int).tmod 256=((r%256:Nat):Int) from nP _ 256]at E;generalize og:r%256=r6 at E xS;refine RN 1 E I λa E=>?_;rw[show ((r6:Nat):Int)+1=((r6+1:Nat):Int) from by omega]at E;refine jI 0 E I (K8 (past:=x.2.2) (k:=r6+1) I hb (by omega) (by omega) ZM (λV hw=>hw.cF po x.2.2 rfl rfl) (λV hw=>ht V hw.tail.tail.tail.tail)) λq0 oj out a w E ⟨⟨dW,_⟩,I⟩=>?_;obtain⟨gi,or',rfl,ju⟩:=I.bY q0 (by omega);refine SX 1 E I (by decide) λa E=>?_;rw[show ((r:Nat):Int).tmod 256=((r6:Nat):Int) from by rw[← og];exact nP _ 256]at E;refine RN 1 E I λa E=>?_;refine SS E (ag E (ju r6 _ (dO (by omega)))) λa E=>?_;refine RN 0 E I λa E=>?_;refine cn E rfl I underlying22 Ty.t5 rfl rfl rfl rfl (by decide) (by decide) λXi a w E I ho=>?_;clear ho;refine RN 0 E I λa E=>?_;refine cI E rfl I underlying22 Ty.t5 rfl rfl I.ai rfl (ep [out[r6]]) (by decide) (by decide) (by omega) λJM JN a w E I=>?_;rw[show bc x.2.2++_=bc (x.2.2++[out[r6]]) from (fH _ [_]).symm,show x.2.2.length+1=(x.2.2++[out[r6]]).length from by simp]at I;rw[show x.2.2.length+1=(x.2.2++[out[r6]]).length from by simp]at E;refine RN 1 E I λa E=>?_;exact⟨_,JM,JN,x.2.2++[out[r6]],⟨⟨_,rfl⟩,by simp,.inr (by omega),λh=>by omega⟩,E.ab [0,2,3,5,9,10,11,12,13],I.sub⟩
     refine RN 0 E I λa E=>?_;exact⟨_,po,q7,x.2.2,⟨⟨[],by simp⟩,by omega,.inl rfl,λ_=>rfl⟩,E.ab [0,2,3,5,9,10,11,12,13],I.sub⟩
    refine RN 6 E I λa E=>?_;exact⟨_,po,q7,x.2.2,⟨⟨[],by simp⟩,by omega,.inl rfl,λ_=>rfl⟩,E.ab [0,2,3,5,9,10,11,12,13],I.sub⟩
   refine RN 10 E I λa E=>?_;exact⟨_,po,q7,x.2.2,⟨⟨[],by simp⟩,by omega,.inl rfl,λ_=>rfl⟩,E.ab [0,2,3,5,9,10,11,12,13],I.sub⟩
  clear E;(try clear I);rintro a w ⟨AQ,cV,dN,y,⟨jO,l5,Za,rl⟩,E,I⟩;refine b7 (M:=λa w=>∃ (adq:Option Addr) (cq:Nat) (z:List UInt8),(wg to x.2.2 z∧(r=0→z=nz b x.2.2 to))∧Fr a 117 [(0,.slice (some ⟨mE,ol,none⟩) xs.length cl),(2,.int .i64 r),(3,.int .i64 to),(5,pt b5),(9,.int .i64 (aU (bj xs))),(10,.slice m8 i m9),(11,.bool AQ),(12,.int .i64 i),(13,.slice adq z.length cq)]∧U W w (Sl 5 1 adq z.length cq (bc z)::Sl 22 1 m8 i m9 (ys.map aM)::ah a7 ys::aa b5 47 (di b adT cT)::L)) ?_ ?_
  ·
   refine IF 5 E I (λbh a E=>?_) λbh a E=>?_
   ·
    have oz:=(I.sl cV).2;have Fe:=Es b y (to-y.length);refine RN 7 E I λa E=>?_;rw[show ((to:Nat):Int)-((y.length:Nat):Int)=((to-y.length:Nat):Int) from by omega]at E;refine aY 0 E I (Y1 (past:=y) (m:=to-y.length) I hb (by omega) oz (by omega) (λV hw=>hw.cF cV y rfl rfl) (λV hw=>ht V hw.tail.tail.tail.tail)) λadc Zb a w E I=>?_;refine RN 0 E I λa E=>?_;refine gV E rfl I underlying22 Ty.t5 rfl rfl (by decide) (λh0=>(I.cF adc (jZ b y (to-y.length)) rfl Fe).get h0) (by rw[dw];omega) (ep _) (by omega) λZN ZO a w E I=>?_;rw[← fH,ug,show y.length+(to-y.length)=(eh b y (to-y.length)).length from by rw[ig]]at I;rw[show y.length+(to-y.length)=(eh b y (to-y.length)).length from by rw[ig]]at E;refine RN 1 E I λa E=>?_;obtain⟨t,Ff⟩:=jO;refine⟨ZN,ZO,_,⟨⟨⟨t++jZ b y (to-y.length),?_⟩,by rw[ig];omega,by rw[ig];omega⟩,λh=>?_⟩,E.ab [0,2,3,5,9,10,11,12,13],I.sub⟩
    ·rw[← ug,Ff,dv]
    ·rw[rl h,nz]
   refine RN 0 E I λa E=>?_;exact⟨cV,dN,y,⟨⟨jO,by omega,by omega⟩,λh=>by rw[La (by rw[← rl h];omega)];exact rl h⟩,E.ab [0,2,3,5,9,10,11,12,13],I⟩
  clear E;(try clear I);rintro a w ⟨adq,cq,z,⟨c0,eL⟩,E,I⟩;refine RN 2 E I λa E=>?_;refine cn E rfl I underlying207 Ty.t22 rfl rfl rfl rfl (by decide) (by decide) λb88 a w E I ho=>?_;clear ho;refine RN 0 E I λa E=>?_;refine cI E rfl I underlying207 Ty.t22 rfl rfl I.ai rfl (by simp[Value.oneCell']) (by decide) (by decide) (by omega) λLM LN a w E I=>?_;rw[show List.map aM ys++_=List.map aM (ys++[(adq,cq,z)]) from by rw[cQ];rfl]at I;refine RN 4 E I λa E=>?_;have dx:=U.jG (f:=a7) (x:=(adq,cq,z)) (I.sub (M:=Sl 5 1 adq z.length cq (bc z)::ah a7 ys::Sl 22 1 LM (i+1) LN ((ys++[(adq,cq,z)]).map aM)::aa b5 47 (di b adT cT)::L));refine⟨xs.length-(i+1),by omega,i+1,AQ,ys++[(adq,cq,z)],LM,LN,⟨rfl,by omega,by rw[aL,j3];rfl,λj l y hj hy=>?_,λh=>?_⟩,E.ab [0,2,3,5,9,10,11,12],dx.sub⟩
  ·by_cases gG:j<i
   ·rw[lS (by omega)]at hy;exact nf j l y hj hy
   ·have dG:=(a2.1 hy).1;rw[aL,iP]at dG;obtain rfl:j=i:=by omega
    rw[getElem?_append_right (by omega),j3,Nat.sub_self]at hy;obtain rfl:(adq,cq,z)=y:=by simpa using hy
    rw[eC]at hj;obtain rfl:x.2.2=l:=by simpa using hj
    exact c0
  ·rw[bj,cQ,← bj,uw h,iX (by rw[iQ,bd,gK];omega)]
   congr 1
   rw[map_singleton,eL h];simp only[iQ,getElem_map];rw[(a2.1 hx).2]
 obtain rfl:i=xs.length:=by omega
 have ic:yf to (bj xs) (bj ys):=⟨by rw[gK,gK];exact j3,λj l x hj hx=>by
  rw[bm]at hx;obtain⟨y,hy,rfl⟩:=Option.map_eq_some_iff.1 hx;exact nf j l y hj hy⟩
 have mq:r=0→bj ys=iQ b (bj xs) to:=λh=>by rw[uw h,fX (by rw[iQ,bd,gK];exact bf _)]
 clear nf uw;refine RN 6 E I λa E=>?_;replace I:=I.bM 22 1 none;replace I:=U.iI (f:=a7) I;refine aR (λμ a w=>∃ (d:Nat) (zs:List ea) (mv:Option Addr) (mw:Nat),(μ=to-aU (bj xs)-d∧d≤to-aU (bj xs)∧bj zs=(List.range d).map λi=>cr (bj ys) (aU (bj xs)+i))∧Fr a 117 [(0,.slice gY xs.length cl),(3,.int .i64 to),(10,.slice m8 xs.length m9),(14,.slice mv d mw),(15,.int .i64 (aU (bj xs)+d:Nat))]∧U W w (Sl 22 1 mv d mw (zs.map aM)::ah a7 zs::Sl 22 1 m8 xs.length m9 (ys.map aM)::ah a7 ys::L)) (to-aU (bj xs)) (⟨0,[],none,0,⟨rfl,by omega,rfl⟩,by rw[Nat.add_zero];exact E.ab [0,3,10,14,15],(I.sub:U W w (Sl 22 1 none 0 0 []::ah a7 []::Sl 22 1 m8 xs.length m9 (ys.map aM)::ah a7 ys::L))⟩) ?_;clear E I;rintro μ a w ⟨d,zs,mv,mw,⟨rfl,hd,sT⟩,E,I⟩;refine IF 5 E I (λbR a E=>?_) λbR a E=>?_
 ·
  refine RN 6 E I λa E=>?_;replace I:=I.bM 5 1 none;refine aR (λμ a w=>∃ (i:Nat) (iD:Option Addr) (jh:Nat),(μ=xs.length-i∧i≤xs.length)∧Fr a 117 [(0,.slice gY xs.length cl),(3,.int .i64 to),(10,.slice m8 xs.length m9),(14,.slice mv d mw),(15,.int .i64 (aU (bj xs)+d:Nat)),(16,.slice iD i jh),(17,.int .i64 i)]∧U W w (Sl 5 1 iD i jh (bc (fu (bj ys) (aU (bj xs)+d) i))::Sl 22 1 mv d mw (zs.map aM)::ah a7 zs::Sl 22 1 m8 xs.length m9 (ys.map aM)::ah a7 ys::L)) (xs.length) (⟨0,none,0,⟨rfl,by omega⟩,E.ab [0,3,10,14,15,16,17],I⟩) ?_;clear E I;rintro μ a w ⟨i,iD,jh,⟨rfl,hi⟩,E,I⟩;refine IF 6 E I (λeE a E=>?_) λeE a E=>?_
  ·
   have aJ:i<xs.length:=by omega
   have AF:=U.lY (xs:=ys) (I.sub (M:=Sl 22 1 m8 xs.length m9 (ys.map aM)::ah a7 ys::[]));obtain⟨aX,aeQ,y,rfl,hy,oB,pC⟩:=AF.at (i:=i) (by omega);have Fq:=ic.fit i _ y.2.2 (aI (by rw[gK];exact aJ)) (by rw[bm,hy];rfl);obtain⟨bb,oo,ym,iM⟩:=pC.get (by have:=Fq.2.1;omega);refine RN 5 E I λa E=>?_;refine SS E (ag E (oB)) λa E=>?_;rw[aM,ym]at E;refine SX 1 E I (by have:=Fq.2.1;omega) λa E=>?_;refine RN 0 E I λa E=>?_;refine SS E (ag E (iM (aU (bj xs)+d) _ (kN (by have:=Fq.2.1;omega)))) λa E=>?_;refine RN 0 E I λa E=>?_;refine cn E rfl I underlying22 Ty.t5 rfl rfl rfl rfl (by decide) (by decide) λQx a w E I ho=>?_;clear ho;refine RN 0 E I λa E=>?_;refine cI E rfl I underlying22 Ty.t5 rfl rfl I.ai rfl (ep [y.2.2.getD (aU (bj xs)+d) 0]) (by decide) (by decide) (by omega) λZP ZQ a w E I=>?_;rw[show bc (fu (bj ys) (aU (bj xs)+d) i)++_=bc (fu (bj ys) (aU (bj xs)+d) (i+1)) from by rw[Ak (by rw[gK];omega),getElem_map,fH,(a2.1 hy).2]]at I;refine RN 4 E I λa E=>?_;exact⟨xs.length-(i+1),by omega,i+1,ZP,ZQ,⟨rfl,by omega⟩,E.ab [0,3,10,14,15,16,17],I.sub⟩
  obtain rfl:i=xs.length:=by omega
  have dG:fu (bj ys) (aU (bj xs)+d) xs.length=cr (bj ys) (aU (bj xs)+d):=by
   conv=>lhs;rw[← j3,← gK]
   exact Aj _ _
  rw[dG]at I;have pY:(cr (bj ys) (aU (bj xs)+d)).length=xs.length:=by rw[m3,gK];exact j3
  refine RN 2 E I λa E=>?_;refine cn E rfl I underlying207 Ty.t22 rfl rfl rfl rfl (by decide) (by decide) λQy a w E I ho=>?_;clear ho;refine RN 0 E I λa E=>?_;refine cI E rfl I underlying207 Ty.t22 rfl rfl I.ai rfl (by simp[Value.oneCell']) (by decide) (by decide) (by omega) λLO LP a w E I=>?_;rw[show List.map aM zs++_=List.map aM (zs++[(iD,jh,cr (bj ys) (aU (bj xs)+d))]) from by rw[cQ,map_singleton,aM,pY];rfl]at I;refine RN 4 E I λa E=>?_;have dx:=U.jG (f:=a7) (x:=(iD,jh,cr (bj ys) (aU (bj xs)+d))) (by
   rw[a7,pY];exact I.sub (M:=Sl 5 1 iD xs.length jh (bc (cr (bj ys) (aU (bj xs)+d)))::ah a7 zs::Sl 22 1 LO (d+1) LP ((zs++[(iD,jh,cr (bj ys) (aU (bj xs)+d))]).map aM)::Sl 22 1 m8 xs.length m9 (ys.map aM)::ah a7 ys::L))
  exact⟨to-aU (bj xs)-(d+1),by omega,d+1,zs++[(iD,jh,cr (bj ys) (aU (bj xs)+d))],LO,LP,⟨rfl,by omega,by rw[bj,cQ,← bj,sT,range_succ,cQ];rfl⟩,by rw[show ((aU (bj xs)+(d+1):Nat):Int)=((aU (bj xs)+d:Nat):Int)+1 from by omega];exact E.ab [0,3,10,14,15],dx.sub⟩
 obtain rfl:d=to-aU (bj xs):=by omega
 refine RT 3 E I ?_;exact⟨mv,mw,bj ys,rfl,⟨ic,mq⟩,b9.close (xs:=zs) (I.sub (M:=Sl 22 1 mv (to-aU (bj xs)) mw (zs.map aM)::ah a7 zs::L)) sT (AE _ _ _)⟩
end
end
section
section
variable {W w:World}{Z:List SP}{n c i tq sq r nk base front:Nat}{ad:Option Addr}{M:ji}{B:iR}{y:UInt8}{x:Br}{p:Pr}{s:Pl}{T:Tr}
theorem ZR (I:U W w (aa M.mb 177 (dR p M nk base front)::aP W M.B p s::Z))(hw:cw p s)(hx:vq W (aa M.mb 177 (dR p M nk base front)::aP W M.B p s::Z) ad x.al)
   (hf:x.frm=(front:Int)) (hj:∀ j∈x.al,j.length=s.k.n) (hb:front+x.al.length≤100000) :
   Calls prog 288 #[pt M.mb,.agg (ca x ad c).toArray] w λe V=>e=.returned (.bool (jj s.k.ls front x.al))∧U W V (aa M.mb 177 (dR p M nk base front)::aP W M.B p s::Z):=by
 obtain⟨zs,hz,hx⟩:=hx;have bN:=hw.wc.kR;have fe:=hw.wc.ls;have pD:=hw.wc.n;have iU:zs.length=x.al.length:=by rw[← hz,bd]
 refine EN func288 ntmps288 rfl rfl λa E=>?_;refine BX 1 E I λb3 a w E I=>?_;refine CL 6 E I (nE (I.pick (aP W M.B p s))) λa w E I=>?_;replace I:=aP.open I;refine CL 0 E I (ow (I.pick (az M.B.core s.k))) λa w E I=>?_;refine RN 1 E I λa E=>?_;obtain⟨D,I,hD⟩:=az.qu I;have LQ:∀ V,U W V (Qu M.B.core.qb M.B.core.aB s.k.ls::D::aa M.B.pb 192 (gp p M.B s.g)::aA W p M.B.aq M.B.cO::Sl 5 1 M.B.adT M.B.gs.table.length M.B.cT (bc M.B.gs.table)::aa M.mb 177 (dR p M nk base front)::Z)→iJ V ad zs :=
  λV h=>hx V ((aP.fold (hD _ _ h) M.B p s).sub)
 refine RN 6 E I λa E=>?_;refine aR (λμ a w=>∃ (i:Nat),(μ=x.al.length-i∧i≤x.al.length∧(∀ j,j<i→sX s.k.ls (front+j) (x.al.getD j [])=true))∧Fr a 59 [(0,pt M.mb),(3,pt b3),(5,pt M.B.core.qb),(19,.slice ad x.al.length c),(20,.int .i64 x.al.length),(21,.int .i64 i)]∧U W w (Qu M.B.core.qb M.B.core.aB s.k.ls::D::aa b3 238 (ca x ad c)::aa M.B.pb 192 (gp p M.B s.g)::aA W p M.B.aq M.B.cO::Sl 5 1 M.B.adT M.B.gs.table.length M.B.cT (bc M.B.gs.table)::aa M.mb 177 (dR p M nk base front)::Z)) (x.al.length) (⟨0,⟨rfl,by omega,λj h=>absurd h (by omega)⟩,E.ab [0,3,5,19,20,21],I.sub⟩) ?_;clear E I;rintro μ a w ⟨i,⟨rfl,hi,uz⟩,E,I⟩;refine IF 3 E I (λaj a E=>?_) λaj a E=>?_
 ·
  have aJ:i<zs.length:=by omega
  obtain⟨mg,ox,z,gT,kl,k0,Fs⟩:=(LQ _ I.sub).at aJ;have LR:x.al.getD i []=z.2.2:=by rw[bl,← hz,bm,kl];rfl
  have VY:z.2.2.length=s.k.n:=hj _ (by rw[← hz];exact c1.2 ⟨z,bK kl,rfl⟩);refine RN 3 E I λa E=>?_;rw[gT]at E;refine RN 1 E I λa E=>?_;refine SS E (ag E (k0)) λa E=>?_;rw[← gT]at E;rw[aM]at E;refine RN 6 E I λa E=>?_;refine aR (λμ a w=>∃ (v:Nat),(μ=z.2.2.length-v∧v≤z.2.2.length∧(∀ q,q<v→front+i<(s.k.ls.getD q []).length→(s.k.ls.getD q []).getD (front+i) 0=z.2.2.getD q 0))∧Fr a 59 [(0,pt M.mb),(3,pt b3),(5,pt M.B.core.qb),(6,.int .i64 i),(19,.slice ad x.al.length c),(20,.int .i64 x.al.length),(21,.int .i64 i),(26,.slice z.1 z.2.2.length z.2.1),(27,.int .i64 z.2.2.length),(28,.int .i64 v)]∧U W w (Qu M.B.core.qb M.B.core.aB s.k.ls::D::aa b3 238 (ca x ad c)::aa M.B.pb 192 (gp p M.B s.g)::aA W p M.B.aq M.B.cO::Sl 5 1 M.B.adT M.B.gs.table.length M.B.cT (bc M.B.gs.table)::aa M.mb 177 (dR p M nk base front)::Z)) (z.2.2.length) (⟨0,⟨rfl,by omega,λj h=>absurd h (by omega)⟩,E.ab [0,3,5,6,19,20,21,26,27,28],I⟩) ?_;clear E I;rintro μ a w ⟨v,⟨rfl,hv,Ft⟩,E,I⟩;refine IF 3 E I (λao a E=>?_) λao a E=>?_
  ·
   have AR:v<z.2.2.length:=by omega
   have LS:v<s.k.ls.length:=by omega
   obtain⟨aeR,aeS,c0,AS⟩:=((LQ _ I.sub).2 z (bK kl)).get (by omega);refine RN 3 E I λa E=>?_;rw[c0]at E;refine RN 1 E I λa E=>?_;refine SS E (ag E (AS v _ (kN AR))) λa E=>?_;rw[← c0]at E;refine aZ 3 (λw0 V=>Rd V b3 0 (ca x ad c)) [2] [0,1,3,5,3004,6,1002,1007,8,9,10,11,12] E I λa w E I hH=>?_;have hC:=hH.at w (I.ai (b:=b3));refine RH 4 E I hH hC λa E=>?_;refine QH E (λw hc=>ag E (hc 1 _ rfl)) hC λa E=>?_;refine RH 1 E I hH hC λa E=>?_;rw[hf,show ((front:Nat):Int)+(i:Int)=((front+i:Nat):Int) from rfl]at E;refine CL 0 E I (sK (I.pick (Qu M.B.core.qb M.B.core.aB s.k.ls)) LS) λa w E I=>?_;replace hC:=hH.at w (I.ai (b:=b3));refine RH 0 E I hH hC λa E=>?_;refine CL 0 E I (X3 I LS) λa w E I=>?_;refine RN 5 E I λa E=>?_;refine BY 3 E I (λmT a E=>?_) λmT a E=>?_
   ·
    refine IF 4 E I (λay a E=>?_) λay a E=>?_
    ·
     refine RT 2 E I ?_;exact⟨by rw[Zw (i:=i) (by omega) (by rw[LR];exact Zv AR mT (λe=>ay (by rw[e])))],((aP.fold (hD _ _ I) M.B p s).sub)⟩
    refine RN 2 E I λa E=>?_;refine⟨z.2.2.length-(v+1),by omega,v+1,⟨rfl,by omega,λq hq h1=>?_⟩,E.ab [0,3,5,6,19,20,21,26,27,28],I.sub⟩;rcases (by omega:q<v∨q=v) with h | rfl
    ·exact Ft q h h1
    ·exact UInt8.toNat.inj (by omega)
   refine RN 7 E I λa E=>?_;refine⟨z.2.2.length-(v+1),by omega,v+1,⟨rfl,by omega,λq hq h1=>?_⟩,E.ab [0,3,5,6,19,20,21,26,27,28],I.sub⟩;rcases (by omega:q<v∨q=v) with h | rfl
   ·exact Ft q h h1
   ·omega
  refine RN 2 E I λa E=>?_;refine⟨x.al.length-(i+1),by omega,i+1,⟨rfl,by omega,λj hj=>?_⟩,E.ab [0,3,5,19,20,21],I.sub⟩;rcases (by omega:j<i∨j=i) with h | rfl
  ·exact uz j h
  ·rw[LR];exact LG λq hq=>Ft q (by omega)
 refine bQ 1 [5] [0,2,3,4,3001,1005,6,7] E I λa w E I hH hC=>?_;refine RH 8 E I hH hC λa E=>?_;refine RT 0 E I ?_;exact⟨by rw[hf,dk rfl,LH λj hj=>uz j (by omega)],((aP.fold (hD _ _ I) M.B p s).sub)⟩
theorem ZS {P:List (List UInt8)}(I:U W w (aa M.mb 177 (dR p M nk base front)::Tree M.tq M.sq T::Z))(hx:vq W Z ad P)(sy:P.length≤65536) :
   Calls prog 305 #[pt M.mb,.slice ad P.length c] w λe V=>∃ r:Bool,e=.returned (.bool r)∧(r=true→T.l≠[])∧U W V (aa M.mb 177 (dR p M nk base front)::Tree M.tq M.sq T::Z):=by
 obtain⟨zs,hz,hx⟩:=hx;have iU:zs.length=P.length:=by rw[← hz,bd]
 have kL:=Tree.wt (I.tree M.tq);have LU:=kL.most;refine EN func305 ntmps305 rfl rfl λa E=>?_;refine aY 8 E I (zo (I.tree M.tq)) λs0 qo a w E I=>?_;obtain⟨xs,h1,h2,I⟩:=kE.open I;have cj:xs.length=T.l.length:=by rw[← h1,bd]
 refine RN 2 E I λa E=>?_;refine aR (λμ a w=>∃ (i:Nat),(μ=T.l.length-i∧i≤T.l.length)∧Fr a 61 [(0,pt M.mb),(1,.slice ad P.length c),(14,.slice s0 T.l.length qo),(15,.int .i64 T.l.length),(16,.int .i64 i)]∧U W w (Sl 238 5 s0 T.l.length qo (rows c7 xs)::ah bV xs::Tree M.tq M.sq T::aa M.mb 177 (dR p M nk base front)::Z)) (T.l.length) (⟨0,⟨rfl,by omega⟩,E.ab [0,1,14,15,16],I.sub⟩) ?_;clear E I;rintro μ a w ⟨i,⟨xt,hi⟩,E,I⟩;refine IF 3 E I (λaj a E=>?_) λaj a E=>?_
 ·
  obtain⟨b',dB,rfl,de⟩:=I.bY s0 (by omega);obtain⟨⟨x,eD,da⟩,dU⟩:∃ y,xs[i]?=some y:=⟨_,aI (by omega)⟩;have fP:=nV de dU;have iZ:T.l[i]?=some x:=by rw[← h1,bm,dU];rfl
  have ke:=kL.ok x (bK iZ);have hxP:=ke.1.1;have ZT:T.l≠[]:=λe=>by rw[e]at iZ;cases iZ
  refine RN 3 E I λa E=>?_;refine SS E (bT E underlying238 rfl Ty.t238 (fP)) λa E=>?_;refine AL 0 E I λcG a w E I=>?_;refine SA 0 E I λa w E I=>?_;refine RN 6 E I λa E=>?_;refine b7 (M:=λa w=>∃ q:Bool,(q=false→x.al.length≤P.length)∧Fr a 61 [(0,pt M.mb),(1,.slice ad P.length c),(6,pt cG),(7,.int .i64 x.al.length),(14,.slice (some ⟨b',dB,none⟩) T.l.length qo),(15,.int .i64 T.l.length),(16,.int .i64 i),(38,.bool q)]∧U W w (aa cG 238 (ca x eD da)::Sl 238 5 (some ⟨b',dB,none⟩) T.l.length qo (rows c7 xs)::ah bV xs::Tree M.tq M.sq T::aa M.mb 177 (dR p M nk base front)::Z)) ?_ ?_
  ·
   refine BY 5 E I (λdp a E=>?_) λdp a E=>?_
   ·
    refine RN 11 E I λa E=>?_;exact⟨_,(λh=>by first | omega | cases h),E.ab [0,1,6,7,14,15,16,38],I.sub⟩
   refine BY 5 E I (λtZ a E=>?_) λtZ a E=>?_
   ·
    refine RN 6 E I λa E=>?_;exact⟨_,(λh=>by first | omega | cases h),E.ab [0,1,6,7,14,15,16,38],I.sub⟩
   refine RN 6 E I λa E=>?_;exact⟨_,(λh=>by first | omega | cases h),E.ab [0,1,6,7,14,15,16,38],I.sub⟩
  clear E;(try clear I);rintro a w ⟨q,hq,E,I⟩;refine IF 0 E I (λao a E=>?_) λao a E=>?_
  ·
   refine RN 2 E I λa E=>?_;exact⟨T.l.length-(i+1),by omega,i+1,⟨rfl,by omega⟩,E.ab [0,1,14,15,16],I.sub⟩
  have o6:=hq ao;refine RN 6 E I λa E=>?_;refine aR (λμ a w=>∃ (v:Nat) (Ag:Bool),(μ=x.al.length-v∧v≤x.al.length)∧Fr a 61 [(0,pt M.mb),(1,.slice ad P.length c),(6,pt cG),(7,.int .i64 x.al.length),(8,.bool Ag),(14,.slice (some ⟨b',dB,none⟩) T.l.length qo),(15,.int .i64 T.l.length),(16,.int .i64 i),(39,.int .i64 x.al.length),(40,.int .i64 v)]∧U W w (aa cG 238 (ca x eD da)::Sl 238 5 (some ⟨b',dB,none⟩) T.l.length qo (rows c7 xs)::ah bV xs::Tree M.tq M.sq T::aa M.mb 177 (dR p M nk base front)::Z)) (x.al.length) (⟨0,true,⟨rfl,by omega⟩,E.ab [0,1,6,7,8,14,15,16,39,40],I⟩) ?_;clear E I;rintro μ a w ⟨v,Ag,⟨rfl,hv⟩,E,I⟩;refine IF 3 E I (λay a E=>?_) λay a E=>?_
  ·
   have AR:v<x.al.length:=by omega
   refine RN 4 E I λa E=>?_;obtain⟨ql,Fu,De,f9⟩:=(ah.oY (I.drew.pick (ah bV xs)) dU).1.2 (by omega);obtain⟨rq,q8,mc,LV⟩:=f9 v x.al[v] (aI AR);obtain⟨dr,Fv,z,gT,kl,k0,Fs⟩:=(hx _ I.drew.sub).at (i:=v) (by omega);clear f9;refine qF 0 (λV=>(Rd V cG 0 (ca x eD da)∧V.cell? ⟨ql,Fu+v,none⟩=some (.slice rq x.al[v].length q8)∧a6 V rq x.al[v].length x.al[v])∧(V.cell? ⟨dr,Fv+v,none⟩=some (aM z)∧a6 V z.1 z.2.2.length z.2.2)) [11,12] [0,1,2,4,8,9,10,3003,5,3006,3007,1011,1012,13,14,15] E I λa E=>?_;replace I:=I.drew;generalize w.drew=w at I mc LV k0 Fs ⊢;have hC:(Rd w cG 0 (ca x eD da)∧w.cell? ⟨ql,Fu+v,none⟩=some (.slice rq x.al[v].length q8)∧a6 w rq x.al[v].length x.al[v])∧(w.cell? ⟨dr,Fv+v,none⟩=some (aM z)∧a6 w z.1 z.2.2.length z.2.2):=⟨⟨I.ai (b:=cG),mc,LV⟩,k0,Fs⟩;have hH:=Hd.any (λV=>(Rd V cG 0 (ca x eD da)∧V.cell? ⟨ql,Fu+v,none⟩=some (.slice rq x.al[v].length q8)∧a6 V rq x.al[v].length x.al[v])∧(V.cell? ⟨dr,Fv+v,none⟩=some (aM z)∧a6 V z.1 z.2.2.length z.2.2));refine RH 2 E I hH hC λa E=>?_;refine E.by (s:=44) (λmT E=>?_) (λmT E=>?_)
   ·
    refine RH 4 E I hH hC λa E=>?_;rw[gT]at E;refine RH 1 E I hH hC λa E=>?_;rw[← gT]at E;refine QH E (λw hc=>ag E (hc.1.1 2 _ rfl)) hC λa E=>?_;rw[De]at E;refine RH 1 E I hH hC λa E=>?_;refine QH E (λw hc=>ag E (hc.1.2.1)) hC λa E=>?_;refine QH E (λw hc=>lV E underlying22 underlying5 underlying9 (hc.1.2.2)) hC λa E=>?_;refine RH 0 E I hH hC λa E=>?_;refine bE E (cS E rfl (s:=44)) (ag E (hC.2.1)) rfl λa E=>?_;rw[aM]at E;refine RH 0 E I hH hC λa E=>?_;refine bE E (cS E rfl (s:=44)) (lV E underlying22 underlying5 underlying9 (hC.2.2)) rfl λa E=>?_;refine RH 0 E I hH hC λa E=>?_;refine QP E (λw=>rL E) λa E=>?_;refine RH 2 E I hH hC λa E=>?_;refine RN 2 E I λa E=>?_;exact⟨x.al.length-(v+1),by omega,v+1,_,⟨rfl,by omega⟩,E.ab [0,1,6,7,8,14,15,16,39,40],I.sub⟩
   refine RH 14 E I hH hC λa E=>?_;refine RN 2 E I λa E=>?_;exact⟨x.al.length-(v+1),by omega,v+1,_,⟨rfl,by omega⟩,E.ab [0,1,6,7,8,14,15,16,39,40],I.sub⟩
  refine IF 2 E I (λbh a E=>?_) λbh a E=>?_
  ·
   refine RT 2 E I ?_;exact⟨_,rfl,λ_=>ZT,I.sub⟩
  refine RN 2 E I λa E=>?_;exact⟨T.l.length-(i+1),by omega,i+1,⟨rfl,by omega⟩,E.ab [0,1,14,15,16],I.sub⟩
 refine RT 2 E I ?_;exact⟨_,rfl,(λh=>by cases h),I.sub⟩
end
end
section
def uA (k:Ks)(T:Tr):Prop:=∀ y∈T.l,(∀ j∈y.al,j.length=k.n)∧jj k.ls (ax k) y.al=true
def pE (T:Tr)(J:Js)(i:Nat):Js:=(T.l.take i).foldl (λJ y=>if y.done<y.al.length then lA J y.id T.epoch else J) J
def yn (T:Tr)(J:Js):Js:=pE T (kept (λj=>decide (j.2<T.epoch)) J) T.l.length
theorem ZU {T:Tr}{J:Js}{i:Nat}{x:Br}(h:T.l[i]?=some x):pE T J (i+1)=if x.done<x.al.length then lA (pE T J i) x.id T.epoch else pE T J i:=by
 obtain⟨hi,rfl⟩:=a2.1 h;rw[pE,iX hi,foldl_append];rfl
theorem LW {T:Tr}{J:Js}(h:J.length≤16)(i:Nat):(pE T J i).length≤16:=by
 unfold pE;generalize T.l.take i=l
 induction l generalizing J with
 | nil=>exact h
 | cons y l ih =>
  rw[foldl_cons];apply ih;split
  ·exact zy h
  ·exact h
theorem LX {J:Js}(f:Int×Int→Bool)(h:J.length≤16):(kept f J).length≤16:=gN (length_filter_le _ _) h
theorem ZV {ls X:List (List UInt8)}{fr to:Nat}(h:yf to ls X):(∀ j∈m7 X fr to,j.length=ls.length)∧jj ls fr (m7 X fr to)=true:=by
 refine⟨λj hj=>?_,LH λi hi=>LG λq hq h1=>?_⟩
 ·rw[m7,c1]at hj;obtain⟨i,_,rfl⟩:=hj;rw[m3,h.len]
 ·rw[AE]at hi;have he:(m7 X fr to).getD i []=cr X (fr+i):=by
   rw[m7,bl,bm,getElem?_range hi];rfl
  rw[he,m3]at hq;rw[he];obtain⟨l,hl⟩:∃ l,ls[q]?=some l:=⟨_,aI (by rw[← h.len];exact hq)⟩;obtain⟨x,hx⟩:∃ x,X[q]?=some x:=⟨_,aI hq⟩;obtain⟨⟨t,rfl⟩,_⟩:=h.fit q l x hl hx;have e1:ls.getD q []=l:=by rw[bl,hl];rfl
  rw[e1]at h1 ⊢;rw[cr,bl,bl,bm,hx];show _=((l++t).getD (fr+i) 0);rw[bl,lS h1]
structure ru (p:Pr)(s:Pl)(t:Nat→Nat)(base:Nat)(A0:Sn)(T0:Tr)(r:Nat)(ws:List Wk)(A:Sn)(T:Tr):Prop where
 inv:Inv p (ax s.k:Int) s.g t base A T ws
 fY:uA s.k T
 room:A.room=A0.room
 n:A.n≤A0.n+r
 last:T.last≤T0.last+r
 most:T.most=T0.most
 rI:T.epoch=T0.epoch
 add:∃ l,T.l=T0.l++l∧∀ y∈l,y.done=0∧y.al≠[]∧y.al.length=aF s.k-ax s.k
 has:0<r→ax s.k<aF s.k→T.l≠[]
section
variable {p:Pr}{s:Pl}{t:Nat→Nat}{base r i:Nat}{A0 A:Sn}{T0 T:Tr}{ws:List Wk}{P:List (List UInt8)}{px:aC}
theorem ru.skip (h:ru p s t base A0 T0 r ws A T)(hT:ax s.k<aF s.k→T.l≠[]):ru p s t base A0 T0 (r+1) ws A T :=
 ⟨h.inv,h.fY,h.room,Nat.le_succ_of_le h.n,Nat.le_succ_of_le h.last,h.most,h.rI,h.add,λ_=>hT⟩
theorem ru.push (h:ru p s t base A0 T0 r ws A T)(hA:WF A)(hT:WT T)(hi:A.au[i]?=some px)(hb:px.id=base)(h0:P≠[])(sy:P.length=aF s.k-ax s.k)(hj:∀ j∈P,j.length=s.k.n)(hk:jj s.k.ls (ax s.k) P=true) :
   ru p s t base A0 T0 (r+1) ws (A.add px.g px.p) (T.add (ax s.k:Int) P (A.last+1)):=by
 refine⟨h.inv.UY hA hT hi hb,λy hy=>?_,h.room,?_,?_,h.most,h.rI,?_,λ_ _ e=>?_⟩
 ·rcases eM.1 hy with hy | hy
  ·exact h.fY y hy
  ·rw[mem_singleton.1 hy];exact⟨hj,hk⟩
 ·have:=h.n;simp only[Sn.add];omega
 ·have:=h.last;simp only[Tr.add];omega
 ·obtain⟨l,h1,h2⟩:=h.add;refine⟨l++[⟨T.last+1,(ax s.k:Int),P,0,A.last+1⟩],by simp only[Tr.add];rw[h1,dv],λy hy=>?_⟩;rcases eM.1 hy with hy | hy
  ·exact h2 y hy
  ·rw[mem_singleton.1 hy];exact⟨rfl,h0,sy⟩
 ·simp[Tr.add]at e
end
section
variable {W w:World}{L Z:List SP}{n i tq sq r base front:Nat}{M:ji}{B:iR}{y:UInt8}{x:Br}{p:Pr}{s:Pl}{m:Mu}{A:Sn}{T:Tr}{g0:Nat→Int}{t:Nat→Nat}{px:aC}
theorem ZW {frm:Int}{ad2:Option Addr}{c2 id:Nat}{zs:List ea}{P:List (List UInt8)}(I:U W w (Tree tq sq T::aw sq r A::L))(hr:∀ V,U W V L→iJ V ad2 zs)(hz:zs.map (·.2.2)=P)(hc:P.length≤c2)(dm:nq P)(h0:P≠[])
   (hx:A.au[i]?=some px) (bO:px.id=id) (hb:A.n+1<1099511627776) (hl:T.last+1<1099511627776) :
   Calls prog 306 #[pt tq,.int .i64 frm,.int .i64 id,.slice ad2 P.length c2] w λe V=>∃ (z:Nat) (ok:Bool),e=.returned (.tuple #[.int .i64 z,.bool ok]) ∧
    (((T.most=0∨T.l≠[])∧U W V (Tree tq sq T::aw sq r A::L))∨U W V (Tree tq sq (T.add frm P (A.last+1))::aw sq r (A.add px.g px.p)::L)):=by
 by_cases hm:T.l.length<T.most
 ·refine (WB I hr hz hc dm hx bO hb hl hm).mono λe V ⟨z,ok,h1,h2⟩=>⟨z,ok,h1,?_⟩;rcases h2 with ⟨_,h3,h4⟩ | ⟨_,_,_,_,h4⟩
  ·refine .inl ⟨.inr λe=>?_,h4⟩;rcases h3 with h3 | ⟨y,hy,_⟩
   ·exact h0 h3
   ·rw[e]at hy;cases hy
  ·exact .inr h4
 ·refine (It I (.inl (by omega))).mono λe V ⟨h1,I⟩=>⟨0,false,h1,.inl ⟨?_,I⟩⟩;rcases Nat.eq_zero_or_pos T.most with h | h
  ·exact .inl h
  ·exact .inr λe=>by rw[e]at hm;simp at hm;omega
theorem ZX (I:U W w (aD W M p m::L))(hw:cw p m.s)(hI:Inv p (ax m.s.k:Int) m.s.g t m.base m.A m.T (m.ks.map (·.1)))(fo:m.front=ax m.s.k)(fy:cR M.B.gs)(hB:uA m.s.k m.T)(kj:m.J.length≤16)
   (pA:m.s.k.ct=(m.T.most:Int)) (hn:m.A.n+10<1099511627776) (hl:m.T.last+10<1099511627776) :
   Calls prog 289 #[pt M.mb] w λe V=>∃ (A':Sn) (T':Tr),e=.returned (.tuple #[])∧ru p m.s t m.base m.A m.T m.T.most (m.ks.map (·.1)) A' T'∧U W V (aD W M p { m with A:=A',T:=T',J:=yn T' m.J }::L):=by
 have bN:=hw.wc.kR;have fe:=hw.wc.ls;have pD:=hw.wc.n;have iB:m.s.k.ls.length≤8:=by rw[fe];exact pD.2
 have gJ:=hw.wc.lM;have jx:aU m.s.k.ls≤aF m.s.k:=hw.wc.nA;obtain⟨mb,B,sq,r,tq,jq,du,dA,aq,cO⟩:=M;obtain⟨s,A,T,J,ks,base,front⟩:=m;simp only at hw hI fo fy hB kj pA hn hl bN fe pD iB gJ jx;subst fo;have LU:=(Tree.wt ((aD.open I).tree tq)).most.1;replace I:=aD.open I;dsimp only at I LU;refine EN func289 ntmps289 rfl rfl λa E=>?_;refine CL 6 E I (nE (I.pick (aP W B p s))) λa w E I=>?_;replace I:=aP.open I;refine CL 0 E I (KE (I.pick (az B.core s.k))) λa w E I=>?_;refine RN 0 E I λa E=>?_;refine SS E (Hx E underlying28 rfl underlying3 rfl rfl) λa E=>?_;rw[show (ff s.k).ct=(T.most:Int) from pA]at E;refine RN 1 E I λa E=>?_;replace I:=aP.fold I B p s;refine aR (λμ a w=>∃ (i:Nat) (A1:Sn) (T1:Tr),(μ=T.most-i∧i≤T.most∧ru p s t base A T i (ks.map (·.1)) A1 T1)∧Fr a 98 [(0,pt mb),(12,.int .i64 T.most),(13,.int .i64 i)]∧U W w (aa mb 177 (dR p ⟨mb,B,sq,r,tq,jq,du,dA,aq,cO⟩ ks.length base (ax s.k))::aP W B p s::aA W p aq cO::Sl 179 1 du ks.length dA (gI ks)::ah (eY p aq cO tq jq sq) ks::Tree tq sq T1::aw sq r A1::bI jq J::L)) (T.most) (⟨0,A,T,⟨rfl,by omega,⟨hI,hB,rfl,bf _,bf _,rfl,rfl,⟨[],by simp,λy hy=>by cases hy⟩,λh=>absurd h (by omega)⟩⟩,E.ab [0,12,13],I.sub⟩) ?_;clear E I;rintro μ a w ⟨i,A1,T1,⟨rfl,hi,pF⟩,E,I⟩;refine IF 3 E I (λaj a E=>?_) λaj a E=>?_
 ·
  have hiT:i<T.most:=by omega
  have hAn:=pF.n;have Fl:=pF.last;have AN:=(aw.facts (I.store sq)).1;have rp:=Tree.wt (I.tree tq);obtain⟨ZY,px,g9,kK⟩:=pF.inv.lZ (mem_cons_self ..);refine aZ 5 (λw0 V=>Rd V mb 0 (dR p ⟨mb,B,sq,r,tq,jq,du,dA,aq,cO⟩ ks.length base (ax s.k))) [4,5,9,10,15] [0,1,2,6,7,8,11,12,13,14,3003,3009,3015,1004,1005,1010,1016,1017,1018,19] E I λa w E I hH=>?_;have hC:=hH.at w (I.ai (b:=mb));refine RH 10 E I hH hC λa E=>?_;refine QH E (λw hc=>ag E (hc 0 _ rfl)) hC λa E=>?_;refine QH E (λw hc=>ag E (hc 0 _ rfl)) hC λa E=>?_;refine QH E (λw hc=>ag E (hc 0 _ rfl)) hC λa E=>?_;refine RH 0 E I hH hC λa E=>?_;refine CL 0 E I (nE (I.pick (aP W B p s))) λa w E I=>?_;replace hC:=hH.at w (I.ai (b:=mb));replace I:=aP.open I;refine RH 0 E I hH hC λa E=>?_;refine CL 0 E I (ow (I.pick (az B.core s.k))) λa w E I=>?_;replace hC:=hH.at w (I.ai (b:=mb));replace I:=aP.fold I B p s;refine RH 0 E I hH hC λa E=>?_;refine CL 0 E I (LD (I.pick (aP W B p s))) λa w E I=>?_;replace hC:=hH.at w (I.ai (b:=mb));refine RH 0 E I hH hC λa E=>?_;refine CL 0 E I (nE (I.pick (aP W B p s))) λa w E I=>?_;replace I:=aP.open I;refine CL 0 E I (sM (I.pick (az B.core s.k)) hw.wc) λa w E I=>?_;obtain⟨D,I,hD⟩:=az.qu I;refine jI 0 E I (Fg (r:=i) (to:=aF s.k) (.inr Zr) (by omega) I fy bN iB hw.wc.m5 gJ (λV dd=>(dd.pick (Sl 5 1 B.adT B.gs.table.length B.cT (bc B.gs.table))).cF B.adT _ rfl rfl)) λfS ga X a w E ⟨⟨sU,_⟩,I⟩=>?_;replace I:U W w (Qu B.core.qb B.core.aB s.k.ls::D::b9 fS (aF s.k-aU s.k.ls) ga (m7 X (aU s.k.ls) (aF s.k))::_):=I.sub (M:=Qu B.core.qb B.core.aB s.k.ls::D::b9 fS (aF s.k-aU s.k.ls) ga (m7 X (aU s.k.ls) (aF s.k))::aa B.pb 192 (gp p B s.g)::aA W p B.aq B.cO::Sl 5 1 B.adT B.gs.table.length B.cT (bc B.gs.table)::aa mb 177 (dR p ⟨mb,B,sq,r,tq,jq,du,dA,aq,cO⟩ ks.length base (ax s.k))::aA W p aq cO::Sl 179 1 du ks.length dA (gI ks)::ah (eY p aq cO tq jq sq) ks::Tree tq sq T1::aw sq r A1::bI jq J::L);replace I:=aP.fold (hD _ _ I) B p s;have sy:=AE X (aU s.k.ls) (aF s.k);obtain⟨Fw,LY⟩:=ZV (fr:=aU s.k.ls) sU;generalize hPe:m7 X (aU s.k.ls) (aF s.k)=P at I sy Fw LY;rw[← sy]at E I;obtain⟨zs,c0,eL,I⟩:=b9.open (I.pick (b9 fS P.length ga P));have AT:=(I.sl fS).2;replace I:=I.sub (M:=aa mb 177 (dR p ⟨mb,B,sq,r,tq,jq,du,dA,aq,cO⟩ ks.length base (ax s.k))::Tree tq sq T1::Sl 22 1 fS P.length ga (zs.map aM)::ah a7 zs::aP W B p s::aA W p aq cO::Sl 179 1 du ks.length dA (gI ks)::ah (eY p aq cO tq jq sq) ks::aw sq r A1::bI jq J::L);refine RN 1 E I λa E=>?_;refine BY 6 E I (λbS a E=>?_) λbS a E=>?_
  ·
   have km:¬ ax s.k<aF s.k:=by rw[ax];omega
   refine RN 7 E I λa E=>?_;exact⟨T.most-(i+1),by omega,i+1,A1,T1,⟨rfl,by omega,pF.skip λh=>absurd h km⟩,E.ab [0,12,13],I.sub⟩
  have LZ:P≠[]:=λe=>by rw[e]at bS;exact bS rfl
  refine bg 2 E I (ZS (M:=⟨mb,B,sq,r,tq,jq,du,dA,aq,cO⟩) (T:=T1) (P:=P) I ⟨zs,c0,λV h=>U.lY (h.sub (M:=Sl 22 1 fS P.length ga (zs.map aM)::ah a7 zs::[]))⟩ (by omega)) λq a w E ⟨hq,I⟩=>?_;refine IF 1 E I (λao a E=>?_) λao a E=>?_
  ·
   refine RN 2 E I λa E=>?_;exact⟨T.most-(i+1),by omega,i+1,A1,T1,⟨rfl,by omega,pF.skip λ_=>hq ao⟩,E.ab [0,12,13],I.sub⟩
  refine bQ 0 [7,11] [0,1,2,4,5,6,8,9,10,12,3003,3007,1011,1013] E I λa w E I hH hC=>?_;refine RH 13 E I hH hC λa E=>?_;refine aY 0 E I (ZW (i:=ZY) (px:=px) (id:=base) (P:=P) (zs:=zs) ((I.store sq).tree tq) (λV h=>U.lY (h.sub (M:=Sl 22 1 fS P.length ga (zs.map aM)::ah a7 zs::[]))) c0 AT ⟨by omega,λb hb=>by have:=Fw b hb;omega⟩ LZ g9 kK (by omega) (by omega)) λz ok a w E ZZ=>?_;obtain⟨A2,T2,Z0,I⟩:∃ (A2:Sn) (T2:Tr),ru p s t base A T (i+1) (ks.map (·.1)) A2 T2∧U W w (aa mb 177 (dR p ⟨mb,B,sq,r,tq,jq,du,dA,aq,cO⟩ ks.length base (ax s.k))::aP W B p s::aA W p aq cO::Sl 179 1 du ks.length dA (gI ks)::ah (eY p aq cO tq jq sq) ks::Tree tq sq T2::aw sq r A2::bI jq J::L):=by
   rcases ZZ with ⟨wu,I⟩ | I
   ·exact⟨A1,T1,pF.skip λ_=>wu.resolve_left (by rw[pF.most];omega),I.sub⟩
   ·exact⟨_,_,pF.push AN rp g9 kK LZ sy (λj hj=>by rw[Fw j hj,fe]) LY,I.sub⟩
  refine RN 2 E I λa E=>?_;exact⟨T.most-(i+1),by omega,i+1,A2,T2,⟨rfl,by omega,Z0⟩,E.ab [0,12,13],I.sub⟩
 refine aZ 1 (λw0 V=>Rd V mb 0 (dR p ⟨mb,B,sq,r,tq,jq,du,dA,aq,cO⟩ ks.length base (ax s.k))) [7,8] [0,1,2,4,5,6,3003,1007,1008,1009] E I λa w E I hH=>?_;have hC:=hH.at w (I.ai (b:=mb));refine RH 6 E I hH hC λa E=>?_;refine QH E (λw hc=>ag E (hc 5 _ rfl)) hC λa E=>?_;refine RH 0 E I hH hC λa E=>?_;refine SS E (ag E (hC 4 _ rfl)) λa E=>?_;refine RH 0 E I hH hC λa E=>?_;refine CL 0 E I (zn (I.tree tq)) λa w E I=>?_;replace hC:=hH.at w (I.ai (b:=mb));refine RH 0 E I hH hC λa E=>?_;refine CL 0 E I (UN (I.tK jq) kj) λa w E I=>?_;change U W w (bI jq (pE T1 (kept (λj=>decide (j.2<(T1.epoch:Int))) J) 0)::_) at I;refine aY 5 E I (zo (I.tree tq)) λs0 qo a w E I=>?_;obtain⟨xs,h1,h2,I⟩:=kE.open I;have cj:xs.length=T1.l.length:=by rw[← h1,bd]
 have rp:=Tree.wt (I.tree tq);have hT8:=rp.most;obtain rfl:i=T.most:=by omega
 have Z1:=LX (λj=>decide (j.2<(T1.epoch:Int))) kj;refine RN 2 E I λa E=>?_;refine aR (λμ a w=>∃ (v:Nat),(μ=T1.l.length-v∧v≤T1.l.length)∧Fr a 98 [(0,pt mb),(72,.slice s0 T1.l.length qo),(73,.int .i64 T1.l.length),(74,.int .i64 v)]∧U W w (bI jq (pE T1 (kept (λj=>decide (j.2<(T1.epoch:Int))) J) v)::Sl 238 5 s0 T1.l.length qo (rows c7 xs)::ah bV xs::aa mb 177 (dR p ⟨mb,B,sq,r,tq,jq,du,dA,aq,cO⟩ ks.length base (ax s.k))::aP W B p s::aA W p aq cO::Sl 179 1 du ks.length dA (gI ks)::ah (eY p aq cO tq jq sq) ks::Tree tq sq T1::aw sq r A1::L)) (T1.l.length) (⟨0,⟨rfl,by omega⟩,E.ab [0,72,73,74],I.sub⟩) ?_;clear E I;rintro μ a w ⟨v,⟨xt,hv⟩,E,I⟩;refine IF 3 E I (λay a E=>?_) λay a E=>?_
 ·
  obtain⟨b',dB,rfl,de⟩:=I.bY s0 (by omega);obtain⟨⟨x,eD,da⟩,dU⟩:∃ y,xs[v]?=some y:=⟨_,aI (by omega)⟩;have fP:=nV de dU;have iZ:T1.l[v]?=some x:=by rw[← h1,bm,dU];rfl
  have su:=ZU (J:=kept (λj=>decide (j.2<(T1.epoch:Int))) J) iZ;have Z2:=LW Z1 (T:=T1) v;refine RN 3 E I λa E=>?_;refine SS E (bT E underlying238 rfl Ty.t238 (fP)) λa E=>?_;refine AL 0 E I λb5 a w E I=>?_;refine SA 0 E I λa w E I=>?_;refine IF 7 E I (λbh a E=>?_) λbh a E=>?_
  ·
   rw[ak (by omega)]at su;refine aZ 0 (λw0 V=>Rd V mb 0 (dR p ⟨mb,B,sq,r,tq,jq,du,dA,aq,cO⟩ ks.length base (ax s.k))∧Rd V b5 0 (ca x eD da)) [5,9,10,11] [0,1,2,4,6,7,8,3003,3005,1009,1010,1011,1012] E I λa w E I hH=>?_;have hC:=hH.at w ⟨I.ai (b:=mb),I.ai (b:=b5)⟩;refine RH 7 E I hH hC λa E=>?_;refine QH E (λw hc=>ag E (hc.1 5 _ rfl)) hC λa E=>?_;refine QH E (λw hc=>ag E (hc.2 0 _ rfl)) hC λa E=>?_;refine RH 0 E I hH hC λa E=>?_;refine SS E (ag E (hC.1 4 _ rfl)) λa E=>?_;refine RH 0 E I hH hC λa E=>?_;refine CL 0 E I (zn (I.tree tq)) λa w E I=>?_;replace hC:=hH.at w ⟨I.ai (b:=mb),I.ai (b:=b5)⟩;refine RH 1 E I hH hC λa E=>?_;refine CL 0 E I (zt (I.tK jq) Z2) λa w E I=>?_;change U W w (bI jq (lA (pE T1 (kept (λj=>decide (j.2<(T1.epoch:Int))) J) v) x.id T1.epoch)::_) at I;refine RN 2 E I λa E=>?_;exact⟨T1.l.length-(v+1),by omega,v+1,⟨rfl,by omega⟩,E.ab [0,72,73,74],by rw[su];exact I.sub⟩
  rw[ae (by omega)]at su;refine RN 2 E I λa E=>?_;exact⟨T1.l.length-(v+1),by omega,v+1,⟨rfl,by omega⟩,E.ab [0,72,73,74],by rw[su];exact I.sub⟩
 refine RT 0 E I ?_;obtain rfl:v=T1.l.length:=by omega
 rw[show pE T1 (kept (λj=>decide (j.2<(T1.epoch:Int))) J) T1.l.length=yn T1 J from rfl]at I;exact⟨A1,T1,rfl,pF,(aD.fold I ⟨mb,B,sq,r,tq,jq,du,dA,aq,cO⟩ p ⟨s,A1,T1,yn T1 J,ks,base,ax s.k⟩).sub⟩
structure Fx (p:Pr)(m m':Mu)(t':Nat→Nat):Prop where
 inv:Inv p (ax m.s.k:Int) m.s.g t' m'.base m'.A m'.T (m'.ks.map (·.1))
 s:m'.s=m.s
 front:m'.front=ax m.s.k
 fY:uA m.s.k m'.T
 J:m'.J.length≤16
 room:m'.A.room=m.A.room
 n:m'.A.n≤m.A.n+9
 last:m'.T.last≤m.T.last+8
 most:m'.T.most=m.T.most
 rI:m'.T.epoch≤m.T.epoch+3
 ks:m'.ks.length=m.ks.length
 has:0<m.T.most→ax m.s.k<aF m.s.k→m'.T.l≠[]
 tK:m'.J=yn m'.T m.J
 ab:m.front=ax m.s.k→(∀ y∈m.T.l,jj m.s.k.ls (ax m.s.k) y.al=true)→m'.ks=m.ks∧m'.T.epoch=m.T.epoch∧∃ l,m'.T.l=m.T.l++l∧∀ y∈l,y.done=0∧y.al≠[]∧y.al.length=aF m.s.k-ax m.s.k
theorem Z3 (I:U W w (aD W M p m::L))(cg:m.s.k.cl=true) :
   Calls prog 271 #[pt M.mb] w λe V=>e=.returned (.tuple #[])∧U W V (aD W M p m::L):=by
 refine EN func271 ntmps271 rfl rfl λa E=>?_;refine RN 5 E I λa E=>?_;replace E:=E.aN 4;refine CL 1 E I (yl I) λa w E I=>?_;rw[cg]at E;refine RN 1 E I λa E=>?_;replace E:=E.ef 7;refine RT 1 E I ?_;exact⟨rfl,I⟩
theorem Z4 (I:U W w (aD W M p m::L))(hw:cw p m.s)(hg:dM m.s.g)(cg:m.s.k.cl=false)(hI:Inv p (m.front:Int) g0 t m.base m.A m.T (m.ks.map (·.1)))(fo:m.front=ax m.s.k→g0=m.s.g)
   (fy:cR M.B.gs) (dG:∀ y∈m.T.l,∀ j∈y.al,j.length=m.s.k.n) (kj:m.J.length≤16) (pA:m.s.k.ct=(m.T.most:Int))
   (he:m.T.epoch+10<1099511627776) (hn:m.A.n+20<1099511627776) (hl:m.T.last+20<1099511627776) (h4:m.ks.length≤4) (rk:12≤m.A.room) :
   Calls prog 271 #[pt M.mb] w λe V=>∃ (m':Mu) (t':Nat→Nat),e=.returned (.tuple #[])∧Fx p m m' t'∧U W V (aD W M p m'::L):=by
 have gJ:=hw.wc.lM;have jx:=hw.wc.nA;refine EN func271 ntmps271 rfl rfl λa E=>?_;refine RN 5 E I λa E=>?_;replace E:=E.aN 4;refine CL 1 E I (yl I) λa w E I=>?_;rw[cg]at E;refine RN 1 E I λa E=>?_;replace E:=E.aN 7;refine aY 3 E I (ZC I hw hg hI fo (by omega) (by omega) h4 rk) λZ5 t1 a w E ⟨hM,I⟩=>?_;refine RN 0 E I λa E=>?_;obtain⟨s1,A1,T1,aeT,kU,L1,aeU⟩:=Z5;obtain⟨wo,e1,e2,e3,e8,m2,kD,gF,gv,gU,L2,kn⟩:=hM;simp only at wo e1 e2 e3 e8 m2 kD gF gv gU L2 kn;subst e1 e2 e3;have L3:∀ y∈T1.l,∀ j∈y.al,j.length=m.s.k.n:=by
  rcases L2 with ⟨e,_⟩ | e
  ·rw[e];exact dG
  ·rw[e];intro y hy;cases hy
 have kL:=Tree.wt ((aD.open I).tree M.tq);have L5:=(aw.facts ((aD.open I).store M.sq)).1;dsimp only at kL L5;replace I:=aD.open I;dsimp only at I;refine jJ 7 E I (LI (kp:=λx=>jj m.s.k.ls (ax m.s.k) x.al) (ws:=[pt M.mb]) ((I.store M.sq).tree M.tq) (by omega) (by kernel_rfl) (λN V x av c' AK h1 hN hx _ dm=>by
  have o8:=hN.h;obtain⟨K,hp⟩:=o8;have hR:=hp.trans List.perm_append_comm;have hof:=dm.1;have yg:=(wo.fY x AK).1;refine (ZR (M:=M) (Z:=aA W p M.aq M.cO::Sl 179 1 M.du kU.length M.dA (gI kU)::ah (eY p M.aq M.cO M.tq M.jq M.sq) kU::bI M.jq m.J::(L++K)) (h1.perm hR) hw (hx.imp λzs h=>⟨h.1,λnr h2=>h.2 _ (h2.perm hR.symm)⟩) yg (L3 x AK) (by omega)).mono λe nr ⟨h3,h4⟩=>⟨h3,h4.perm hR.symm⟩)) ?_
 clear E I;rintro e w ⟨⟨_,rfl⟩,I⟩;refine⟨_,rfl,λa E=>?_⟩;have oA:=wo.cut L5 (λx=>!jj m.s.k.ls (ax m.s.k) x.al);have sY:=AJ (T1.l.filter λx=>!jj m.s.k.ls (ax m.s.k) x.al) A1;have L6:uA m.s.k (T1.cut λx=>!jj m.s.k.ls (ax m.s.k) x.al):=λy hy=>by
  obtain⟨h1,h2⟩:=List.mem_filter.1 hy;exact⟨L3 y h1,by simpa using h2⟩
 have Fm:(T1.cut λx=>!jj m.s.k.ls (ax m.s.k) x.al).epoch≤T1.epoch+1:=by simp only[Tr.cut];split <;> omega
 have mh:(∀ y∈T1.l,jj m.s.k.ls (ax m.s.k) y.al=true)→(T1.cut λx=>!jj m.s.k.ls (ax m.s.k) x.al).l=T1.l∧(T1.cut λx=>!jj m.s.k.ls (ax m.s.k) x.al).epoch=T1.epoch:=λh=>by
  have h1:T1.l.filter (λx=>!!jj m.s.k.ls (ax m.s.k) x.al)=T1.l:=List.filter_eq_self.2 λy hy=>by rw[h y hy];rfl
  simp only[Tr.cut,h1];exact⟨trivial,by rw[ae (Nat.lt_irrefl _)];rfl⟩
 have AO:(T1.cut λx=>!jj m.s.k.ls (ax m.s.k) x.al).most=T1.most∧(T1.cut λx=>!jj m.s.k.ls (ax m.s.k) x.al).last=T1.last:=⟨rfl,rfl⟩;generalize (T1.cut λx=>!jj m.s.k.ls (ax m.s.k) x.al)=T2 at I oA L6 Fm AO mh;generalize A1.gH (T1.l.filter λx=>!jj m.s.k.ls (ax m.s.k) x.al)=A2 at I oA sY;replace I:=aD.fold I M p ⟨m.s,A2,T2,m.J,kU,L1,ax m.s.k⟩;refine aY 1 E I (ZX I hw oA rfl fy L6 kj (by dsimp only;rw[AO.1,gF];exact pA) (by dsimp only;omega) (by dsimp only;omega)) λA3 T3 a w E ⟨pF,I⟩=>?_;refine RT 0 E I ?_;obtain⟨cZ,dT,a3,a4,a5,L7,L8,rq,a9⟩:=pF;have h8:=kL.most.1;dsimp only at *;exact⟨⟨m.s,A3,T3,yn T3 m.J,kU,L1,ax m.s.k⟩,t1,rfl,⟨cZ,rfl,rfl,dT,LW (LX _ kj) _,by simp only;omega,by simp only;omega,by simp only;omega,by simp only;omega,by simp only;omega,gU,λh1 h2=>a9 (by omega) h2,rfl,λe h=>by
  obtain⟨q1,q2,DU⟩:=kn e;obtain⟨DV,JC⟩:=mh (by rw[q1];exact h);obtain⟨l,Z6,Z7⟩:=rq;refine⟨DU,by rw[L8,JC,q1],l,by rw[Z6,DV,q1],Z7⟩⟩,I⟩
end
end
section
structure lp (p:Pr)(s s':Pl):Prop where
 wf:cw p s'
 rh:ax s'.k=ax s.k→s'.g=s.g
 cf:ff s'.k=ff s.k
 ls:s'.k.cl=true→s'.k.ls=s.k.ls
section
variable {p:Pr}{s:Pl}{k:Ks}{x:UInt8}{bs:List UInt8}
theorem lp.mk' {k':Ks}(h:cw p s)(hw:WC k')(hh:held k')(hm:k'.mr=s.k.mr)(he:Ext s.k.ls k'.ls)(c5:ff k'=ff s.k)(hl:k'.cl=true→k'.ls=s.k.ls):lp p s (ey p ⟨k',s.g⟩):=by
 have h1:=h.toWP.more hw hh hm he;obtain⟨h2,h3,ps,ev,mr,h4⟩:=h1.ey;refine⟨h2,λhf=>?_,?_,λhc=>?_⟩
 ·have e1:(ey p ⟨k',s.g⟩).g=lh p k'.ls (ax s.k):=by rw[h2.rh,h2.full,hf,h3]
  have e2:s.g=lh p s.k.ls (ax s.k):=by have:=h.rh;rwa [h.full]at this
  exact e1.trans ((he.lh (bf _)).trans e2.symm)
 ·rw[h4];exact c5
 ·rw[h3];rw[h4]at hc;exact hl hc
theorem L9:ff (cW x k).2=ff k∧((cW x k).2.cl=true→(cW x k).2.ls=k.ls):=by
 by_cases h0:(cW x k).1=0
 ·obtain⟨h1,h2,h3,h4⟩:=uj h0;rw[h4];exact⟨rfl,λhc=>by rw[show k.cl=true from hc]at h1;cases h1⟩
 ·rw[uk h0];exact⟨rfl,λ_=>rfl⟩
theorem Z8 {q:Pk}(h:k.cl=false):ff (fR k q)=ff k∧((fR k q).cl=true→(fR k q).ls=k.ls):=by
 unfold fR;split
 ·exact⟨rfl,λ_=>rfl⟩
 ·obtain⟨ps,ev,h1,_⟩:=vV { k with ls:=k.ls.set q.aV.toNat (ds (k.ls.getD q.aV.toNat []) q.first.toNat q.al),ps:=k.ps.set q.aV.toNat (fQ k.now (aF k) q (ar k q.aV.toNat)) };rw[h1];exact⟨rfl,λhc=>by rw[show k.cl=true from hc]at h;cases h⟩
theorem Ma:ff (dh bs k).2=ff k∧((dh bs k).2.cl=true→(dh bs k).2.ls=k.ls):=by
 by_cases h0:(dh bs k).1=0
 ·obtain⟨q,h1,h2,h3,h4,h5,h6⟩:=Aq h0;rw[h6];exact Z8 h2
 ·rw[vX h0];exact⟨rfl,λ_=>rfl⟩
theorem lp.al (h:cw p s)(x:UInt8):lp p s (dE p x s).2:=lp.mk' h (h.wc.al x) (h.held.al x) (uo x s.k).1 (uo x s.k).2 L9.1 L9.2
theorem lp.recv (h:cw p s)(bs:List UInt8):lp p s (dz p bs s).2:=lp.mk' h (h.wc.recv bs).1 ((h.wc.recv bs).2 h.held) (ri bs s.k).1 (ri bs s.k).2 Ma.1 Ma.2
end
structure MI (p:Pr)(M:ji)(N:Nat)(m:Mu):Prop where
 wf:cw p m.s
 gs:cR M.B.gs
 front:m.front=ax m.s.k
 inv:∃ t,Inv p (ax m.s.k:Int) m.s.g t m.base m.A m.T (m.ks.map (·.1))
 fY:uA m.s.k m.T
 J:m.J.length≤16
 most:m.s.k.ct=(m.T.most:Int)
 workers:m.s.k.workers=(m.ks.length:Int)
 ks:m.ks.length≤4
 room:(m.A.room:Int)=4*m.s.k.room∧12≤m.A.room
 n:m.A.n≤N∧m.T.last≤N∧m.T.epoch≤N
section
variable {W w:World}{L:List SP}{n c N front:Nat}{ad:Option Addr}{M:ji}{B:iR}{x:UInt8}{p:Pr}{s s':Pl}{m:Mu}{bs:List UInt8}{cf:Cf}{g0:Nat→Int}{t:Nat→Nat}
theorem MI.more {N':Nat}(h:MI p M N m)(hN:N≤N'):MI p M N' m:={ h with n:=⟨gN h.n.1 hN,gN h.n.2.1 hN,gN h.n.2.2 hN⟩ }
theorem MI.same (h:MI p M N m)(hw:cw p s')(hg:s'.g=m.s.g)(hl:s'.k.ls=m.s.k.ls)(hc:ff s'.k=ff m.s.k):MI p M N { m with s:=s' }:=by
 have hf:ax s'.k=ax m.s.k:=by rw[ax,ax,hl]
 simp only[ff,Cf.mk.injEq]at hc;obtain⟨dK,c2,dC,g8,dD,nX,qH,q8,yo,zC⟩:=hc;have hn:s'.k.n=m.s.k.n:=by omega
 exact { wf:=hw,gs:=h.gs,front:=by rw[hf];exact h.front,inv:=by obtain⟨t,ht⟩:=h.inv;exact⟨t,by rw[hf,hg];exact ht⟩,fY:=λy hy=>by rw[hn,hl,hf];exact h.fY y hy,J:=h.J,most:=by rw[q8];exact h.most,workers:=by rw[yo];exact h.workers,ks:=h.ks,room:=by rw[zC];exact h.room,n:=h.n }
theorem Mb (I:U W w (aD W M p { m with s:=s' }::L))(h:MI p M N m)(hx:lp p m.s s')(a1:dg p)(hN:N≤1000000000000) :
   Calls prog 271 #[pt M.mb] w λe V=>∃ m':Mu,e=.returned (.tuple #[])∧(m'.s=s'∧MI p M (N+20) m'∧(s'.k.cl=false→∃ t',Fx p { m with s:=s' } m' t'))∧U W V (aD W M p m'::L):=by
 obtain⟨m2,lD,Z9⟩:=h.n;have hc:=hx.cf;cases cg:s'.k.cl with
 | true =>
  have hl:=hx.ls cg;refine (Z3 I cg).mono λe V ⟨he,I⟩=>⟨_,he,⟨rfl,(h.same hx.wf (hx.rh (by rw[ax,ax,hl])) hl hc).more (by omega),λe=>(by cases e)⟩,I⟩
 | false =>
  obtain⟨t,ht⟩:=h.inv;simp only[ff,Cf.mk.injEq]at hc;obtain⟨dK,c2,dC,g8,dD,nX,qH,q8,yo,zC⟩:=hc;have hn:s'.k.n=m.s.k.n:=by omega
  refine (Z4 (g0:=m.s.g) (t:=t) I hx.wf (hx.wf.pv a1) cg (by rw[← h.front]at ht;exact ht) (λe=>(hx.rh (by rw[← h.front];exact e.symm)).symm) h.gs (λy hy j hj=>by dsimp only;rw[hn];exact (h.fY y hy).1 j hj) h.J (by dsimp only;rw[q8];exact h.most) (by dsimp only;omega) (by dsimp only;omega) (by dsimp only;omega) h.ks h.room.2).mono λe V ⟨m',t',he,hr,I⟩=>⟨m',he,⟨hr.s,?_,λ_=>⟨t',hr⟩⟩,I⟩;obtain⟨cZ,dT,a3,a4,a5,L7,L8,rq,a9,b1,b2,b3,b4,b5⟩:=hr;dsimp only at *;exact { wf:=by rw[dT];exact hx.wf,gs:=h.gs,front:=by rw[dT];exact a3,inv:=⟨t',by rw[dT];exact cZ⟩,fY:=by rw[dT];exact a4,J:=a5,most:=by rw[dT,q8,a9];exact h.most,workers:=by rw[dT,yo,b2];exact h.workers,ks:=by rw[b2];exact h.ks,room:=by rw[dT,zC,L7];exact h.room,n:=⟨by omega,by omega,by omega⟩ }
theorem aaa (I:U W w (aD W M p m::L))(h:MI p M N m)(a1:dg p)(aE:p.title.size≤1000000000)(hN:N≤1000000000000) :
   Calls prog 267 #[pt M.mb,.int .u8 (x.toNat:Nat)] w λe V=>∃ m':Mu,e=.returned (.int .i64 (dE p x m.s).1)∧(m'.s=(dE p x m.s).2∧MI p M (N+20) m'∧((dE p x m.s).2.k.cl=false→∃ t',Fx p { m with s:=(dE p x m.s).2 } m' t'))∧U W V (aD W M p m'::L):=by
 refine EN func267 ntmps267 rfl rfl λa E=>?_;refine CL 4 E I (sW I) λa w E I=>?_;refine RN 1 E I λa E=>?_;replace I:=aD.open I;refine CL 0 E I (Ll (I.pick (aP W M.B p m.s)) h.wf a1 aE) λa w E I=>?_;replace I:=aD.fold I M p { m with s:=(dE p x m.s).2 };refine bg 3 E I (Mb I h (lp.al h.wf x) a1 hN) λm' a w E ⟨hm,I⟩=>?_;refine RT 3 E I ?_;exact⟨m',rfl,hm,I⟩
theorem aab (I:U W w (aD W M p m::L))(h:MI p M N m)(a1:dg p)(aE:p.title.size≤1000000000)(hN:N≤1000000000000)(hb:bs.length≤65536)(hc:bs.length≤c)(hp:∀ V,U W V L→a6 V ad bs.length bs) :
   Calls prog 269 #[pt M.mb,.slice ad bs.length c] w λe V=>∃ m':Mu,e=.returned (.int .i64 (dz p bs m.s).1)∧(m'.s=(dz p bs m.s).2∧MI p M (N+20) m')∧U W V (aD W M p m'::L):=by
 refine EN func269 ntmps269 rfl rfl λa E=>?_;refine CL 4 E I (sW I) λa w E I=>?_;refine RN 1 E I λa E=>?_;replace I:=aD.open I;refine CL 0 E I (Lm (bs:=bs) (I.pick (aP W M.B p m.s)) h.wf a1 aE hb hc (λV hw=>hp V hw.sub)) λa w E I=>?_;replace I:=aD.fold I M p { m with s:=(dz p bs m.s).2 };refine bg 3 E I (Mb I h (lp.recv h.wf bs) a1 hN) λm' a w E ⟨⟨gF,j5,_⟩,I⟩=>?_;refine RT 3 E I ?_;exact⟨m',rfl,⟨gF,j5⟩,I⟩
end
end
section
theorem Fy (k:Ks):ff (bo k).2=ff k:=by
 rcases vY k with h1 | ⟨hc,h1 | ⟨i,hi,h1⟩⟩ <;> rw[h1] <;> rfl
theorem Fz (k:Ks):ff (bu k).2=ff k:=by
 unfold bu;split <;> rfl
section
variable {W w:World}{L:List SP}{n c i N tq sq r base front:Nat}{ad:Option Addr}{M:ji}{B:iR}{p:Pr}{s:Pl}{m:Mu}{A:Sn}{T:Tr}{t:Nat→Nat}{px:aC}{y:Int}
theorem aac (I:U W w (aD W M p m::L))(h:MI p M N m)(oQ:m.s.k.now≤1000000):Calls prog 270 #[pt M.mb] w λr V=>∃ ad c,r=.returned (.slice ad (bo m.s.k).1.length c)∧MI p M N { m with s:=⟨(bo m.s.k).2,m.s.g⟩ } ∧
   U W V (cu 124 ad (bo m.s.k).1.length c (bo m.s.k).1::aD W M p { m with s:=⟨(bo m.s.k).2,m.s.g⟩ }::L):=by
 refine EN func270 ntmps270 rfl rfl λa E=>?_;refine CL 4 E I (sW I) λa w E I=>?_;replace I:=aD.open I;refine aY 0 E I (Lo (I.pick (aP W M.B p m.s)) h.wf oQ) λad c a w E I=>?_;refine RT 1 E I ?_;exact⟨ad,c,rfl,h.same h.wf.tick rfl (As _).2 (Fy _),(aD.fold I M p { m with s:=⟨(bo m.s.k).2,m.s.g⟩ }).sub⟩
theorem aad (I:U W w (aD W M p m::L))(h:MI p M N m):Calls prog 268 #[pt M.mb] w λr V=>∃ ad c,r=.returned (.slice ad (bu m.s.k).1.length c)∧MI p M N { m with s:=⟨(bu m.s.k).2,m.s.g⟩ } ∧
   U W V (cu 124 ad (bu m.s.k).1.length c (bu m.s.k).1::aD W M p { m with s:=⟨(bu m.s.k).2,m.s.g⟩ }::L):=by
 refine EN func268 ntmps268 rfl rfl λa E=>?_;refine CL 4 E I (sW I) λa w E I=>?_;replace I:=aD.open I;refine aY 0 E I (Lp (I.pick (aP W M.B p m.s)) h.wf) λad c a w E I=>?_;refine RT 1 E I ?_;exact⟨ad,c,rfl,h.same h.wf.ko rfl (Au _).2 (Fz _),(aD.fold I M p { m with s:=⟨(bu m.s.k).2,m.s.g⟩ }).sub⟩
theorem aae (I:U W w (aD W M p m::L))(h:MI p M N m):Calls prog 266 #[pt M.mb] w λr V=>∃ ad c,r=.returned (.slice ad m.s.k.ev.length c)∧MI p M N { m with s:=⟨{ m.s.k with ev:=[] },m.s.g⟩ } ∧
   U W V (Sl 135 1 ad m.s.k.ev.length c (m.s.k.ev.map cx)::aD W M p { m with s:=⟨{ m.s.k with ev:=[] },m.s.g⟩ }::L):=by
 refine EN func266 ntmps266 rfl rfl λa E=>?_;refine CL 4 E I (sW I) λa w E I=>?_;replace I:=aD.open I;refine aY 0 E I (Lq (I.pick (aP W M.B p m.s))) λad c a w E I=>?_;refine RT 1 E I ?_;exact⟨ad,c,rfl,h.same h.wf.told rfl rfl rfl,(aD.fold I M p { m with s:=⟨{ m.s.k with ev:=[] },m.s.g⟩ }).sub⟩
theorem aaf (I:U W w (aD W M p m::L))(h:MI p M N m):Calls prog 264 #[pt M.mb] w λr V=>∃ ad c,r=.returned (.tuple #[.slice ad 128 c,.int .i64 (lk m.s).2])∧U W V (Sl 5 1 ad 128 c (bc (lk m.s).1)::aD W M p m::L):=by
 have bN:=h.wf.wc.kR;have iB:m.s.k.ls.length≤8:=by rw[h.wf.wc.ls];exact h.wf.wc.n.2
 obtain⟨t,hI⟩:=h.inv;obtain⟨i,px,g9,kK⟩:=hI.lZ (mem_cons_self ..);have sm:=(hI.base px (bK g9) kK).1;replace I:=aD.open I;rw[h.front]at I;refine EN func264 ntmps264 rfl rfl λa E=>?_;refine aZ 5 (λw0 V=>Rd V M.mb 0 (dR p M m.ks.length m.base (ax m.s.k))) [8,9,10] [0,1,2,3,4,5,7,3006,1008,1009,1010,11,12] E I λa w E I hH=>?_;have hC:=hH.at w (I.ai (b:=M.mb));refine RH 3 E I hH hC λa E=>?_;replace E:=E.aN 6;refine RH 4 E I hH hC λa E=>?_;refine QH E (λw hc=>ag E (hc 8 _ rfl)) hC λa E=>?_;rw[← h.front]at I;replace I:=aD.fold I M p m;refine RH 0 E I hH hC λa E=>?_;refine CL 0 E I (AI I) λa w E I=>?_;replace hC:=hH.at w (by have h9:=(aD.open I).ai (b:=M.mb);rw[h.front]at h9;exact h9);replace I:=aP.open ((aD.open I).pick (aP W M.B p m.s));rw[h.front]at I;refine RH 0 E I hH hC λa E=>?_;refine CL 0 E I (ow (I.pick (az M.B.core m.s.k))) λa w E I=>?_;replace hC:=hH.at w (I.ai (b:=M.mb));obtain⟨D,I,hD⟩:=az.qu I;refine RH 0 E I hH hC λa E=>?_;refine CL 0 E I (re I bN iB) λa w E I=>?_;replace hC:=hH.at w (I.ai (b:=M.mb));refine RH 1 E I hH hC λa E=>?_;rw[show decide (((ax m.s.k:Nat):Int)≠((aU m.s.k.ls:Nat):Int))=false from IM]at E;refine RH 1 E I hH hC λa E=>?_;replace I:=aP.fold (hD _ _ I) M.B p m.s;rw[← h.front]at I;replace I:=aD.fold I M p m;replace E:=E.aN 16;refine RN 2 E I λa E=>?_;replace I:=aD.open I;refine aZ 0 (λw0 V=>Rd V M.mb 0 (dR p M m.ks.length m.base m.front)) [5,6,10,11] [0,1,2,3,7,8,9,3004,3010,1005,1006,1011,12] E I λa w E I hH=>?_;have hC:=hH.at w (I.ai (b:=M.mb));refine RH 7 E I hH hC λa E=>?_;refine QH E (λw hc=>ag E (hc 7 _ rfl)) hC λa E=>?_;refine QH E (λw hc=>ag E (hc 8 _ rfl)) hC λa E=>?_;replace I:=aD.fold I M p m;refine RH 0 E I hH hC λa E=>?_;refine CL 0 E I (Fk I g9 kK) λa w E I=>?_;replace hC:=hH.at w ((aD.open I).ai (b:=M.mb));refine RH 0 E I hH hC λa E=>?_;refine aY 0 E I (xV I) λad c a w E I=>?_;replace hC:=hH.at w ((aD.open I.tail).ai (b:=M.mb));refine RH 2 E I hH hC λa E=>?_;refine RT 0 E I ?_;rw[sm]at I;exact⟨ad,c,by rw[h.front];rfl,I⟩
theorem aag (I:U W w (aD W M p m::L))(hc:m.s.k.cl=true∨y<0∨(m.ks.length:Int)≤y)(h4:m.ks.length≤4) :
   Calls prog 62 #[pt M.mb,.int .i64 y] w λe V=>e=.returned (.bool false)∧U W V (aD W M p m::L):=by
 refine EN func62 ntmps62 rfl rfl λa E=>?_;refine RN 7 E I λa E=>?_;replace E:=E.aN 7;refine CL 1 E I (yl I) λa w E I=>?_;replace I:=aD.open I;refine BY 2 E I (λjS a E=>?_) λjS a E=>?_
 ·
  refine RT 15 E I ?_;exact⟨rfl,aD.fold I M p m⟩
 refine BY 4 E I (λlz a E=>?_) λlz a E=>?_
 ·
  refine RT 11 E I ?_;exact⟨rfl,aD.fold I M p m⟩
 refine IF 8 E I (λaj a E=>?_) λaj a E=>?_
 ·
  refine RT 2 E I ?_;exact⟨rfl,aD.fold I M p m⟩
 exact absurd hc (by rintro (h | h | h) <;> first | omega | (rw[h]at jS;cases jS))
theorem zA.brI {k:Ks}{J J':Js}{A A':Sn}{T T':Tr}(hn:zA A T J A' T' J')(h:uA k T):uA k T':=by
 intro y hy;have h1:(y.id,y.al)∈T'.l.map (λy=>(y.id,y.al)):=c1.2 ⟨y,hy,rfl⟩;rw[hn.l]at h1;obtain⟨z,hz,he⟩:=c1.1 h1;have h2:=h z hz;rw[(Prod.mk.inj he).2]at h2;exact h2
theorem aah {k:Wk}{wb:Nat}(I:U W w (aD W M p m::L))(h:MI p M N m)(cg:m.s.k.cl=false)(hk:m.ks[i]?=some (k,wb))(a1:dg p)(aE:p.title.size≤1000000000)(hN:N≤1000000000000) :
   Calls prog 62 #[pt M.mb,.int .i64 i] w λe V=>∃ (z:Bool) (A':Sn) (T':Tr) (J':Js) (k':Wk),e=.returned (.bool z)∧(k5 p m.A m.T m.J k z A' T' J' k'∧MI p M (N+1) { m with A:=A',T:=T',J:=J',ks:=m.ks.set i (k',wb) }) ∧
    U W V (aD W M p { m with A:=A',T:=T',J:=J',ks:=m.ks.set i (k',wb) }::L):=by
 have aJ:=(a2.1 hk).1;have h4:=h.ks;obtain⟨t,hI⟩:=h.inv;obtain⟨m2,lD,Z9⟩:=h.n;have jx:=h.wf.wc.nA;have gJ:=h.wf.wc.lM;refine EN func62 ntmps62 rfl rfl λa E=>?_;refine RN 7 E I λa E=>?_;replace E:=E.aN 7;refine CL 1 E I (yl I) λa w E I=>?_;rw[cg]at E;refine RN 2 E I λa E=>?_;replace E:=E.aN 11;refine RN 4 E I λa E=>?_;replace I:=aD.open I;replace E:=E.aN 15;refine RN 8 E I λa E=>?_;rw[bn (by omega)]at E;refine RN 2 E I λa E=>?_;obtain⟨b',o',gT,de⟩:=I.bY M.du (by omega);refine RN 5 E I λa E=>?_;rw[gT]at E;refine RN 1 E I λa E=>?_;refine SS E (ag E (de i _ (Jl hk))) λa E=>?_;refine jJ 0 E I (Wx (I.sub (M:=ah (eY p M.aq M.cO M.tq M.jq M.sq) m.ks::Tree M.tq M.sq m.T::aw M.sq M.r m.A::bI M.jq m.J::aA W p M.aq M.cO::aa M.mb 177 (dR p M m.ks.length m.base m.front)::aP W M.B p m.s::Sl 179 1 M.du m.ks.length M.dA (gI m.ks)::L)) hk hI ⟨by omega,by omega⟩ a1 aE (by omega) h.J) ?_;clear E I;rintro e w ⟨z,A',T',J',k',rfl,⟨tR,oA,uB⟩,I⟩;refine⟨_,rfl,λa E=>?_⟩;refine RT 1 E I ?_;have pS:(m.ks.set i (k',wb)).length=m.ks.length:=br ..;have ll:=uB.room;have hn4:=uB.n;have hn5:=uB.last;have hn6:=uB.epoch;refine⟨z,A',T',J',k',rfl,⟨tR,{ wf:=h.wf,gs:=h.gs,front:=h.front,inv:=⟨t,oA⟩,fY:=uB.brI h.fY,J:=uB.len h.J,most:=by dsimp only;rw[uB.most];exact h.most,workers:=by dsimp only;rw[pS];exact h.workers,ks:=by dsimp only;rw[pS];exact h4,room:=by dsimp only;rw[ll];exact h.room,n:=⟨by dsimp only;omega,by dsimp only;omega,by dsimp only;omega⟩ }⟩,?_⟩;rw[← Jm (k':=k') hk,← pS]at I;exact aD.fold I M p { m with A:=A',T:=T',J:=J',ks:=m.ks.set i (k',wb) }
end
end
end Go.Proofs.YteoldcfapaiobaaGreat
