/- Package multi: a player that plays ahead. -/
import Derived.Test.YteoldcfapaiobaaGreatA06Ref
import Derived.Test.YteoldcfapaiobaaGreatA11Rank
import Derived.Test.YteoldcfapaiobaaGreatA04Job
import Derived.Test.YteoldcfapaiobaaGreatA05Vm
import Derived.Test.YteoldcfapaiobaaGreatA01Row
import Derived.Laws.StructEq
import Derived.ChangeKeysEq
import Derived.ProofKit
import Derived.Deep.Slices
import Derived.Deep.Strs
namespace Go.Proofs.YteoldcfapaiobaaGreat
open Tryz
open List (mem_cons_self all_eq_true getElem?_append_right foldl_cons nil_append map_cons length_nil mem_range getElem?_range getElem_map mem_singleton map_nil range_succ foldl_append length_filter_le map_singleton)
open Go.RowKit
set_option linter.unusedVariables false
set_option linter.unusedSimpArgs false
set_option maxRecDepth 10000
set_option synthInstance.maxSize 4000
set_option synthInstance.maxHeartbeats 400000
section
instance nJ.fvB {P l x f ws args vs}[ex:Ev l (.tmp x) (.func (.func f) (List.toArray ws) #[])][ev:m5 l args vs]:nJ P l (.value (.tmp x)) args f (ws++vs):=⟨λhb a n w E _ _ _ _ _ _=>by
 simp[execOp,resolve,ex.ev a n E,Deferred.ofValue,invoke,ev.ev a n E,yF hb]⟩
structure jg where
 mb:Nat
 B:iO
 sq:Nat
 r:Nat
 tq:Nat
 jq:Nat
 dt:Option Addr
 dF:Nat
 ao:Option Addr
 cO:Nat
structure Mu where
 s:Pl
 A:Sn
 T:Tr
 J:Js
 ks:List Kx
 base:Nat
 front:Nat
abbrev dT (p:Pr)(M:jg)(nk base front:Nat):List Value:=[pt M.B.pb,.string p.title,.slice M.ao p.ops.length M.cO,pt M.sq,pt M.tq,pt M.jq,.slice M.dt nk M.dF,.int .i64 base,.int .i64 front]
abbrev x6 (W:World)(M:jg)(p:Pr)(m:Mu):List SP:=[aa M.mb 177 (dT p M m.ks.length m.base m.front),aM W M.B p m.s,aA W p M.ao M.cO,Sl 179 1 M.dt m.ks.length M.dF (gK m.ks),ah (e0 p M.ao M.cO M.tq M.jq M.sq) m.ks,Tree M.tq M.sq m.T,aw M.sq M.r m.A,bC M.jq m.J]
def aD (W:World)(M:jg)(p:Pr)(m:Mu):SP:=λh=>ck (x6 W M p m) h
section
variable {W w:World}{L R:List SP}{M:jg}{B:iO}{p:Pr}{s:Pl}{m:Mu}
theorem aD.open (I:V W w (aD W M p m::L)):V W w (aa M.mb 177 (dT p M m.ks.length m.base m.front)::aM W M.B p m.s::aA W p M.ao M.cO::Sl 179 1 M.dt m.ks.length M.dF (gK m.ks)::ah (e0 p M.ao M.cO M.tq M.jq M.sq) m.ks::Tree M.tq M.sq m.T::aw M.sq M.r m.A::bC M.jq m.J::L):=I.open (M:=x6 W M p m) λ_ h=>h
theorem aD.close (I:V W w (x6 W M p m++L)):V W w (aD W M p m::L):=V.shut (M:=x6 W M p m) I λ_ h=>h
theorem aD.fold (I:V W w L)(M:jg)(p:Pr)(m:Mu)[kk:fD L (aa M.mb 177 (dT p M m.ks.length m.base m.front)::aM W M.B p m.s::aA W p M.ao M.cO::Sl 179 1 M.dt m.ks.length M.dF (gK m.ks)::ah (e0 p M.ao M.cO M.tq M.jq M.sq) m.ks::Tree M.tq M.sq m.T::aw M.sq M.r m.A::bC M.jq m.J::[]) R]:V W w (aD W M p m::R):=aD.close (I.perm kk.perm)
theorem Lm (I:V W w (aM W B p s::L)):Calls prog 94 #[pt B.pb] w λe w'=>e=.returned (.agg (ints .i32 32 s.g).toArray)∧V W w' (aM W B p s::L):=by
 replace I:=aM.open I;refine EN func94 ntmps94 rfl rfl λa E=>?_;refine AL 1 E I λb2 a w E I=>?_;change V W w (aa b2 183 (ints .i32 32 (λ_=>0))::_) at I;refine RN 4 E I λa E=>?_;refine SS E (bO E underlying183 rfl Ty.t183 (xZ (I.ai (b:=B.pb)))) λa E=>?_;refine SA 0 E I λa w E I=>?_;refine RT 0 E I ?_;exact⟨rfl,(aM.fold I B p s).sub⟩
theorem Lo (I:V W w (aM W B p s::L)):Calls prog 278 #[pt B.pb] w λe w'=>e=.returned (.agg (dk B.gs B.adT B.cT).toArray)∧V W w' (aM W B p s::L):=by
 replace I:=aM.open I;refine EN func278 ntmps278 rfl rfl λa E=>?_;refine AL 1 E I λb2 a w E I=>?_;refine RN 4 E I λa E=>?_;refine SS E (bO E underlying186 rfl Ty.t186 (K5 (I.ai (b:=B.pb)))) λa E=>?_;refine SA 0 E I λa w E I=>?_;refine RT 0 E I ?_;exact⟨rfl,(aM.fold I B p s).sub⟩
theorem sQ (I:V W w (aD W M p m::L)):Calls prog 140 #[pt M.mb] w λe w'=>e=.returned (pt M.B.pb)∧V W w' (aD W M p m::L):=by
 replace I:=aD.open I;refine EN func140 ntmps140 rfl rfl λa E=>?_;refine RN 6 E I λa E=>?_;replace E:=E.aN 4;refine RT 7 E I ?_;exact⟨rfl,aD.fold I M p m⟩
theorem Ap (I:V W w (aD W M p m::L)):Calls prog 272 #[pt M.mb] w λe w'=>e=.returned (pt M.B.core.cb)∧V W w' (aD W M p m::L):=by
 refine EN func272 ntmps272 rfl rfl λa E=>?_;refine CL 4 E I (sQ I) λa w E I=>?_;replace I:=aD.open I;refine CL 0 E I (nu (I.pick (aM W M.B p m.s))) λa w E I=>?_;refine RT 1 E I ?_;exact⟨rfl,aD.fold I M p m⟩
theorem x7 (I:V W w (aD W M p m::L)):Calls prog 101 #[pt M.mb] w λe w'=>e=.returned (.bool m.s.k.cl)∧V W w' (aD W M p m::L):=by
 refine EN func101 ntmps101 rfl rfl λa E=>?_;refine CL 4 E I (sQ I) λa w E I=>?_;replace I:=aD.open I;refine CL 0 E I (Lc (I.pick (aM W M.B p m.s))) λa w E I=>?_;refine RT 1 E I ?_;exact⟨rfl,aD.fold I M p m⟩
theorem YT (I:V W w (aD W M p m::L)):Calls prog 81 #[pt M.mb] w λe w'=>e=.returned (pt M.sq)∧V W w' (aD W M p m::L):=by
 replace I:=aD.open I;refine EN func81 ntmps81 rfl rfl λa E=>?_;refine RN 6 E I λa E=>?_;replace E:=E.aN 4;refine RT 7 E I ?_;exact⟨rfl,aD.fold I M p m⟩
theorem YU (I:V W w (aD W M p m::L)):Calls prog 87 #[pt M.mb] w λe w'=>e=.returned (pt M.tq)∧V W w' (aD W M p m::L):=by
 replace I:=aD.open I;refine EN func87 ntmps87 rfl rfl λa E=>?_;refine RN 6 E I λa E=>?_;replace E:=E.aN 4;refine RT 7 E I ?_;exact⟨rfl,aD.fold I M p m⟩
end
end
section
section
variable {p:Pr}{F F':Int}{g g0:Nat→Int}{t t':Nat→Nat}{base i:Nat}{A:Sn}{T:Tr}{ws:List Wk}{k:Wk}{P:List (List UInt8)}
theorem Inv.YV (h:Inv p F g0 t base A T ws)(hA:WF A)(hn:A.n+1<1099511627776)(hT:T.l=[])(hg:dP g) :
   Inv p F' g t' (A.last+1) ((A.add g t').et base) T ws:=by
 have vp:WF (A.add g t'):=hA.add hn g t';have hr:∀ x∈(A.add g t').ar,x.refs=1:=by
  intro x hx;rcases eV.1 hx with hx | hx
  ·exact (h.ar x hx).1
  ·rw[mem_singleton.1 hx]
 have tx:∀ z∈A.ar,z.id≠A.last+1:=λz hz e=>by have:=(hA.lU z hz).2.1;omega
 rw[zf vp hr];refine⟨?_,λx hx=>?_,λx hx he=>?_,λy hy=>?_,λk hk=>⟨(h.kX k hk).1,λ_ y hy=>?_⟩⟩
 ·simp only;rw[CE];have h1:((A.add g t').ar.map (·.id)).Perm (base::(A.last+1)::(T.l.map (·.snap)++iX ws)):=by
   simp only[Sn.add,cU,map_cons,map_nil];exact ((List.perm_append_singleton _ _).trans (h.perm.cons _)).trans (List.Perm.swap _ _ _)
  exact CD (List.Perm.refl _) h1 vp.nR
 ·have hx:=jK hx;rcases eV.1 hx with hx | hx
  ·exact h.ar x hx
  ·rw[mem_singleton.1 hx];exact⟨rfl,hg⟩
 ·have hx:=jK hx;rcases eV.1 hx with hx | hx
  ·exact absurd he (tx x hx)
  ·rw[mem_singleton.1 hx];exact⟨rfl,rfl⟩
 ·rw[hT]at hy;cases hy
 ·rw[hT]at hy;cases hy
theorem Lp (h:∀ k∈ws,k.busy=false):iX ws=[]:=by
 rw[iX,List.filter_eq_nil_iff.2 (λk hk=>by rw[h k hk];decide)];rfl
theorem Aq:∀ (l:List Br) (A:Sn),(A.gJ l).room=A.room∧(A.gJ l).n=A.n∧(A.gJ l).last=A.last
 | [],_=>⟨rfl,rfl,rfl⟩
 | y::l,A=>by
  have h1:=Aq l (A.et y.snap);have h2:=nS A y.snap;show ((A.et y.snap).gJ l).room=_∧((A.et y.snap).gJ l).n=_∧((A.et y.snap).gJ l).last=_;exact⟨h1.1.trans h2.1,h1.2.1.trans h2.2.1,h1.2.2.trans h2.2.2⟩
def sR (ls:List (List UInt8))(f:Nat)(j:List UInt8):Bool:=(List.range j.length).all λq=>!(decide (f<(ls.getD q []).length)&&(ls.getD q []).getD f 0 != j.getD q 0)
def jh (ls:List (List UInt8))(f:Nat)(P:List (List UInt8)):Bool:=(List.range P.length).all λi=>sR ls (f+i) (P.getD i [])
theorem YW {ls:List (List UInt8)}{f q:Nat}{j:List UInt8}(hq:q<j.length)(h1:f<(ls.getD q []).length)(h2:(ls.getD q []).getD f 0≠j.getD q 0):sR ls f j=false:=by
 rw[sR,List.all_eq_false];exact⟨q,mem_range.2 hq,by rw[dd h1,Bool.true_and,bne_iff_ne.2 h2];decide⟩
theorem Lq {ls:List (List UInt8)}{f:Nat}{j:List UInt8}(h:∀ q,q<j.length→f<(ls.getD q []).length→(ls.getD q []).getD f 0=j.getD q 0):sR ls f j=true:=by
 rw[sR,all_eq_true];intro q hq;have:=h q (mem_range.1 hq);by_cases h1:f<(ls.getD q []).length
 ·rw[dd h1,Bool.true_and,this h1,bne_self_eq_false];rfl
 ·rw[bq h1,Bool.false_and];rfl
theorem YX {ls:List (List UInt8)}{f i:Nat}{P:List (List UInt8)}(hi:i<P.length)(h:sR ls (f+i) (P.getD i [])=false):jh ls f P=false:=by
 rw[jh,List.all_eq_false];exact⟨i,mem_range.2 hi,by rw[h];decide⟩
theorem Lr {ls:List (List UInt8)}{f:Nat}{P:List (List UInt8)}(h:∀ i,i<P.length→sR ls (f+i) (P.getD i [])=true):jh ls f P=true:=by
 rw[jh,all_eq_true];intro i hi;exact h i (mem_range.1 hi)
end
end
section
section
variable {W w:World}{L:List SP}{q r:Nat}{A:Sn}
theorem YY (l:List Nat):distinct l≤l.length:=by
 induction l with
 | nil=>exact bh _
 | cons x l ih=>rw[distinct,e9];split <;> omega
theorem YZ (l:List aC):(kD l).length=4*l.length:=by
 induction l with
 | nil=>rfl
 | cons x l ih=>show (_++kD l).length=_;rw[aK,ih,e9];simp;omega
theorem aw.u0 (I:V W w (aw q r A::L)):A.used≤4*A.ar.length:=by
 rw[aw.used I];have:=YY (kD A.ar);rw[YZ]at this;exact this
end
end
section
theorem Tl.rest {N L:List SP}{A:SP}(t:Tl N (A::L)):Tl N L:=⟨let ⟨K,h⟩:=t.h;⟨K++[A],by simpa using h⟩⟩
section
variable {W w:World}{L:List SP}{n i tq sq r:Nat}{M:jg}{B:iO}{x:UInt8}{p:Pr}{s:Pl}{m:Mu}{A:Sn}{T:Tr}{F:Int}{g0:Nat→Int}{t:Nat→Nat}{px:aC}
theorem Ls {kp:Br→Bool}{g:Nat}{ws:List Value}(I:V W w (Tree tq sq T::aw sq r A::L))(he:T.epoch+1<1099511627776)(cd:g5 prog g=true)
   (hg:∀ (N:List SP) (w':World) (x:Br) (av:Option Addr) (c':Nat),x∈T.l→V W w' N→Tl N L→va W N av x.ak→x.ak.length≤c'→nf x.ak →
    Calls prog g (ws++[Value.agg (b6 x av c').toArray]).toArray w' λe ng=>e=.returned (.bool (kp x))∧V W ng N) :
   Calls prog 287 #[pt tq,.func (.func g) ws.toArray #[]] w λe w'=>(∃ v:Int,e=.returned (.int .i64 v)) ∧
    V W w' (Tree tq sq (T.cut λx=>!kp x)::aw sq r (A.gJ (T.l.filter λx=>!kp x))::L):=by
 have hF : ∀ (b3 : Nat) (N : List SP) (w' : World) (x : Br) (av : Option Addr) (c' : Nat), x ∈ T.l → V W w' N → Tl N (aa b3 343 [.func (.func g) ws.toArray #[]] :: L) → va W N av x.ak → x.ak.length ≤ c' → nf x.ak →
     Calls prog 304 (List.toArray [.agg (b6 x av c').toArray,pt b3]) w' λe ng=>e=.returned (.bool (!kp x))∧V W ng N:=by
  intro b3 N w x av c' Ar I hM hx Y0 ka;refine EN func304 ntmps304 rfl rfl λa E=>?_;refine BX 1 E I λb2 a w E I=>?_;refine RN 2 E I λa E=>?_;have o2:=I.tail.TS hM;refine SS E (ag E (o2.bu rfl)) λa E=>?_;refine CL 1 E I (hg (aa b2 238 (b6 x av c')::N) _ x av c' Ar I (@Tl.cons _ _ _ hM.rest) (hx.imp λzs h=>⟨h.1,λng h2=>h.2 _ h2.tail⟩) Y0 ka) (hf:=cd) λa w E I=>?_;refine RT 2 E I ?_;exact⟨rfl,I.tail⟩
 refine EN func287 ntmps287 rfl rfl λa E=>?_;refine BX 1 E I λb3 a w E I=>?_;refine CL 4 E I (Il (tq:=tq) (sq:=sq) (r:=r) (A:=A) (T:=T) (wh:=λx=>!kp x) (us:=[pt b3]) (L:=aa b3 343 [.func (.func g) ws.toArray #[]]::L) I.sub he (by kernel_rfl) (hF b3)) λa w E I=>?_;refine RT 1 E I ?_;exact⟨⟨_,rfl⟩,I.sub⟩
theorem Y1 (I:V W w (aD W M p m::L))(hI:Inv p F g0 t m.base m.A m.T (m.ks.map (·.1)))(he:m.T.epoch+1<1099511627776)(h4:m.ks.length≤4) :
   Calls prog 302 #[pt M.mb] w λe w'=>∃ (A':Sn) (As:List Kx),e=.returned (.tuple #[]) ∧
    (Inv p F g0 t m.base A' (m.T.cut λ_=>true) (As.map (·.1))∧As.length=m.ks.length∧(∀ k∈As,k.1.busy=false)∧A'.room=m.A.room∧A'.n=m.A.n) ∧
    V W w' (aD W M p { m with A:=A',ks:=As,T:=m.T.cut λ_=>true }::L):=by
 obtain⟨mb,B,sq,r,tq,jq,dt,dF,ao,cO⟩:=M;obtain⟨s,A,T,J,ks,base,front⟩:=m;replace I:=aD.open I;simp only at hI he h4;refine EN func302 ntmps302 rfl rfl λa E=>?_;refine RN 8 E I λa E=>?_;refine aS (λμ a w=>∃ (i:Nat) (A1:Sn) (kO:List Kx),(μ=ks.length-i∧i≤ks.length∧kO.length=ks.length∧(∀ (j:Nat) (k:Kx),j<i→kO[j]?=some k→k.1.busy=false)∧Inv p F g0 t base A1 T (kO.map (·.1))∧A1.room=A.room∧A1.n=A.n)∧Fr a 21 [(0,pt mb),(7,.slice dt ks.length dF),(8,.int .i64 ks.length),(9,.int .i64 i)]∧V W w (aa mb 177 (dT p ⟨mb,B,sq,r,tq,jq,dt,dF,ao,cO⟩ ks.length base front)::aM W B p s::aA W p ao cO::Sl 179 1 dt ks.length dF (gK kO)::ah (e0 p ao cO tq jq sq) kO::Tree tq sq T::aw sq r A1::bC jq J::L)) (ks.length) (⟨0,A,ks,⟨rfl,by omega,rfl,λj k h=>absurd h (by omega),hI,rfl,rfl⟩,E.ab [0,7,8,9],I.sub⟩) ?_;clear E I;rintro μ a w ⟨i,A1,kO,⟨rfl,hi,eK,Lt,vW,ld,qK⟩,E,I⟩;refine IF 3 E I (λaj a E=>?_) λaj a E=>?_
 ·
  have oW:i<kO.length:=by omega
  obtain⟨⟨k,wb⟩,hk⟩:∃ y,kO[i]?=some y:=⟨_,aO oW⟩;obtain⟨b',dG,rfl,cK⟩:=I.bY dt (by omega);refine RN 3 E I λa E=>?_;refine SS E (ag E (cK i _ (I9 hk))) λa E=>?_;refine a2 2 E I (VX ((I.store sq).pick (ah (e0 p ao cO tq jq sq) kO)) hk vW) λA2 k2 a w E ⟨⟨cc,oq,eU,o0⟩,I⟩=>?_;rw[← Ja (k':=k2) hk]at I;refine RN 2 E I λa E=>?_;refine⟨ks.length-(i+1),by omega,i+1,A2,kO.set i (k2,wb),⟨rfl,by omega,by rw[br];exact eK,λj z hj hz=>?_,oq,eU.trans ld,o0.trans qK⟩,E.ab [0,7,8,9],I.sub⟩;rw[jA]at hz;split at hz
  ·cases hz;exact cc
  ·exact Lt j z (by omega) hz
 refine RN 0 E I λa E=>?_;have gx:=I;refine CL 4 E I (TU ((I.store sq).tree tq) he) λa w E I=>?_;refine RT 0 E I ?_;obtain rfl:i=ks.length:=by omega
 have Au:=vW.cut (aw.facts (gx.store sq)).1 (λ_=>true);rw[show T.l.filter (λ_=>true)=T.l from by simp]at Au;have hd:=Aq T.l A1;refine⟨A1.gJ T.l,kO,rfl,⟨Au,eK,λk hk=>?_,hd.1.trans ld,hd.2.1.trans qK⟩,?_⟩
 ·obtain⟨j,hj⟩:=jH.1 hk;exact Lt j k (by have:=(a1.1 hj).1;omega) hj
 ·rw[← eK]at I;exact aD.fold I ⟨mb,B,sq,r,tq,jq,dt,dF,ao,cO⟩ p ⟨s,A1.gJ T.l,T.cut λ_=>true,J,kO,base,front⟩
theorem E2 {id:Nat}(I:V W w (aD W M p m::L))(hx:m.A.ar[i]?=some px)(bU:px.id=id) :
   Calls prog 274 #[pt M.mb,.int .i64 id] w λe w'=>e=.returned (.agg (ints .i32 32 px.g).toArray)∧V W w' (aD W M p m::L):=by
 replace I:=aD.open I;refine EN func274 ntmps274 rfl rfl λa E=>?_;refine AL 1 E I λb4 a w E I=>?_;change V W w (aa b4 183 (ints .i32 32 (λ_=>0))::_) at I;refine CL 6 E I (V1 (I.store M.sq) hx bU) λa w E I=>?_;refine AL 3 E I λb5 a w E I=>?_;change V W w (aa b5 183 (ints .i32 32 (λ_=>0))::_) at I;refine SA 0 E I λa w E I=>?_;refine SA 3 E I λa w E I=>?_;refine RT 0 E I ?_;exact⟨rfl,(aD.fold I M p m).sub⟩
structure Y2 (p:Pr)(M:jg)(m m':Mu)(t':Nat→Nat):Prop where
 inv:Inv p (ax m.s.k:Int) m.s.g t' m'.base m'.A m'.T (m'.ks.map (·.1))
 s:m'.s=m.s
 J:m'.J=m.J
 front:m'.front=ax m.s.k
 room:m'.A.room=m.A.room
 n:m'.A.n≤m.A.n+1
 last:m'.T.last=m.T.last
 most:m'.T.most=m.T.most
 rE:m'.T.epoch≤m.T.epoch+2
 ks:m'.ks.length=m.ks.length
 aei:(m'.T=m.T∧m'.A=m.A∧m'.ks=m.ks)∨m'.T.l=[]
 same:m.front=ax m.s.k→m'.T=m.T∧m'.A=m.A∧m'.ks=m.ks
theorem Y3 (I:V W w (aD W M p m::L))(hw:cx p m.s)(hg:dP m.s.g)(hI:Inv p (m.front:Int) g0 t m.base m.A m.T (m.ks.map (·.1)))(fq:m.front=ax m.s.k→g0=m.s.g)
   (he:m.T.epoch+2<1099511627776) (hn:m.A.n+1<1099511627776) (h4:m.ks.length≤4) (q9:12≤m.A.room) :
   Calls prog 286 #[pt M.mb] w λe w'=>∃ (m':Mu) (t':Nat→Nat),e=.returned (.tuple #[])∧Y2 p M m m' t'∧V W w' (aD W M p m'::L):=by
 have bN:=hw.wc.kL;have iz:m.s.k.ls.length≤8:=by rw[hw.wc.ls];exact hw.wc.n.2
 obtain⟨mb,B,sq,r,tq,jq,dt,dF,ao,cO⟩:=M;obtain⟨s,A,T,J,ks,base,front⟩:=m;obtain⟨i,px,ha,kE⟩:=hI.lU (mem_cons_self ..)
 have hF : ∀ (N : List SP) (w' : World) (x : Br) (av : Option Addr) (c' : Nat), V W w' N →
     Calls prog 301 ([]++[Value.agg (b6 x av c').toArray]).toArray w' λe ng=>e=.returned (.bool false)∧V W ng N:=by
  intro N w x av c' I;refine EN func301 ntmps301 rfl rfl λa E=>?_;refine BX 1 E I λb1 a w E I=>?_;refine RT 3 E I ?_;exact⟨rfl,I.tail⟩
 simp only at hw hg hI fq he hn h4 q9 bN iz ha kE;subst kE;replace I:=aD.open I;dsimp only at I;refine EN func286 ntmps286 rfl rfl λa E=>?_;refine CL 5 E I (nu (I.pick (aM W B p s))) λa w E I=>?_;replace I:=aM.open I;refine CL 0 E I (oh (I.pick (az B.core s.k))) λa w E I=>?_;obtain⟨D,I,hD⟩:=az.qu I;refine CL 0 E I (q3 I bN iz) λa w E I=>?_;refine RN 1 E I λa E=>?_;replace I:=(aM.fold (hD _ _ I) B p s);refine IF 8 E I (λaj a E=>?_) λaj a E=>?_
 ·
  have n4:front=ax s.k:=by rw[ax];omega
  refine RT 0 E I ?_;exact⟨⟨s,A,T,J,ks,px.id,front⟩,t,rfl,⟨by rw[← n4,← fq n4];exact hI,rfl,rfl,n4,rfl,by simp only;omega,rfl,rfl,by simp only;omega,rfl,.inl ⟨rfl,rfl,rfl⟩,λ_=>⟨rfl,rfl,rfl⟩⟩,aD.fold I ⟨mb,B,sq,r,tq,jq,dt,dF,ao,cO⟩ p ⟨s,A,T,J,ks,px.id,front⟩⟩
 refine RN 5 E I λa E=>?_;have vX:=hI.cut (aw.facts (I.store sq)).1 (λ_=>true);have sS:=Aq (T.l.filter λ_=>true) A;have E3:(T.cut λ_=>true).l=[]:=by simp[Tr.cut]
 have Y4:(T.cut λ_=>true).epoch≤T.epoch+1:=by simp only[Tr.cut];split <;> omega
 refine jE 0 E I (Ls (kp:=λ_=>false) (ws:=[]) ((I.store sq).tree tq) (by omega) (by kernel_rfl) (λN w' x av c' _ h1 _ _ _ _=>hF N w' x av c' h1)) ?_;clear E I;rintro e w ⟨⟨_,rfl⟩,I⟩;refine⟨_,rfl,λa E=>?_⟩;replace I:V W w (Tree tq sq (T.cut λ_=>true)::aw sq r (A.gJ (T.l.filter λ_=>true))::_):=I;generalize A.gJ (T.l.filter λ_=>true)=A1 at I vX sS;have re:(T.cut λ_=>true).last=T.last∧(T.cut λ_=>true).most=T.most:=⟨rfl,rfl⟩;generalize (T.cut λ_=>true)=T1 at I vX E3 Y4 re;obtain⟨i1,qa,Y5,Y6⟩:=vX.lU (mem_cons_self ..);rw[← Y6]at I vX;refine RN 0 E I λa E=>?_;refine bZ (M:=λa w=>∃ (A2:Sn) (T2:Tr) (qc:List Kx),(A2.used+4≤A2.room∧Inv p (front:Int) g0 t qa.id A2 T2 (qc.map (·.1))∧T2.l=[]∧T2.epoch≤T.epoch+2∧T2.last=T.last∧T2.most=T.most∧qc.length=ks.length∧A2.room=A.room∧A2.n=A.n)∧Fr a 73 [(0,pt mb),(2,.int .i64 (aU s.k.ls))]∧V W w (aD W ⟨mb,B,sq,r,tq,jq,dt,dF,ao,cO⟩ p ⟨s,A2,T2,J,qc,qa.id,front⟩::L)) ?_ ?_
 ·
  refine aY 1 (λw0 w'=>Rd w' mb 0 (dT p ⟨mb,B,sq,r,tq,jq,dt,dF,ao,cO⟩ ks.length qa.id front)) [7,11,12,13] [0,1,2,4,5,6,8,9,10,3003,3007,1011,1012,1013,1014,15] E I λa w E I hH=>?_;have U:=hH.at w (I.ai (b:=mb));refine RH 9 E I hH U λa E=>?_;refine QH E (λw hc=>ag E (hc 3 _ rfl)) U λa E=>?_;refine QH E (λw hc=>ag E (hc 3 _ rfl)) U λa E=>?_;refine RH 0 E I hH U λa E=>?_;refine SS E (ag E (U 7 _ rfl)) λa E=>?_;refine RH 0 E I hH U λa E=>?_;refine a2 0 E I (HZ (I.store sq) Y5) λc0 dQ a w E I=>?_;replace U:=hH.at w (I.ai (b:=mb));refine RH 1 E I hH U λa E=>?_;refine CL 0 E I (H0 (I.store sq)) λa w E I=>?_;refine RN 1 E I λa E=>?_;refine IF 0 E I (λan a E=>?_) λan a E=>?_
  ·
   replace I:=aD.fold I ⟨mb,B,sq,r,tq,jq,dt,dF,ao,cO⟩ p ⟨s,A1,T1,J,ks,qa.id,front⟩;refine a2 1 E I (Y1 I vX (by dsimp only;omega) h4) λA2 qc a w E ⟨⟨oq,cc,Y7,eU,o0⟩,I⟩=>?_;refine RN 0 E I λa E=>?_;have cd:(T1.cut λ_=>true).l=[]:=by simp[Tr.cut]
   have hce:(T1.cut λ_=>true).epoch≤T1.epoch+1:=by simp only[Tr.cut];split <;> omega
   have hu:=aw.u0 ((aD.open I).store sq);have hG:=oq.len;rw[Lp (λk hk=>by obtain⟨y,hy,rfl⟩:=c8.1 hk;exact Y7 y hy)]at hG;simp only[cd,length_nil]at hG eU o0 cc hu;exact⟨A2,T1.cut λ_=>true,qc,⟨by rw[eU,sS.1];omega,oq,cd,by omega,re.1,re.2,cc,by rw[eU,sS.1],by rw[o0,sS.2.1]⟩,E.ab [0,2],I.sub⟩
  refine RN 0 E I λa E=>?_;exact⟨A1,T1,ks,⟨by omega,vX,E3,by omega,re.1,re.2,rfl,sS.1,sS.2.1⟩,E.ab [0,2],(aD.fold I ⟨mb,B,sq,r,tq,jq,dt,dF,ao,cO⟩ p ⟨s,A1,T1,J,ks,qa.id,front⟩).sub⟩
 clear E;(try clear I);rintro a w ⟨A2,T2,qc,⟨Y8,oq,Lu,E4,Y9,Av,cc,eU,o0⟩,E,I⟩;refine RN 1 E I λa E=>?_;replace I:=aD.open I;dsimp only at I;refine aY 0 (λw0 w'=>Rd w' mb 0 (dT p ⟨mb,B,sq,r,tq,jq,dt,dF,ao,cO⟩ qc.length qa.id front)) [7,8] [0,1,2,4,5,6,3003,1007,1008,1009,10,11,12,13,14] E I λa w E I hH=>?_;have U:=hH.at w (I.ai (b:=mb));refine RH 6 E I hH U λa E=>?_;refine QH E (λw hc=>ag E (hc 3 _ rfl)) U λa E=>?_;refine RH 0 E I hH U λa E=>?_;refine SS E (ag E (U 0 _ rfl)) λa E=>?_;refine RH 0 E I hH U λa E=>?_;refine CL 0 E I (Lm (I.pick (aM W B p s))) λa w E I=>?_;replace U:=hH.at w (I.ai (b:=mb));have vp:=(aw.facts (I.store sq)).1;refine RH 0 E I hH U λa E=>?_;refine bd 0 E I (H2 (g:=s.g) (I.store sq) Y8 (by omega)) λt' a w E ⟨⟨Za,E5⟩,I⟩=>?_;refine RN 5 E I λa E=>?_;refine RN 4 E I λa E=>?_;replace E:=E.aN 55;refine aY 2 (λw0 w'=>Rd w' mb 0 (dT p ⟨mb,B,sq,r,tq,jq,dt,dF,ao,cO⟩ qc.length qa.id front)) [7] [0,1,2,4,5,6,3003,1007,1008] E I λa w E I hH=>?_;have U:=hH.at w (I.ai (b:=mb));refine RH 6 E I hH U λa E=>?_;refine QH E (λw hc=>ag E (hc 3 _ rfl)) U λa E=>?_;refine RH 0 E I hH U λa E=>?_;refine SS E (ag E (U 7 _ rfl)) λa E=>?_;refine RH 0 E I hH U λa E=>?_;refine bd 0 E I (zc (I.store sq)) λ_ a w E I=>?_;refine ST 6 E I (λa w E I=>?_);refine ST 2 E I (λa w E I=>?_);refine RT 0 E I ?_;have hm:=oq.YV (F':=(ax s.k:Int)) (g:=s.g) (t':=t') vp (by omega) Lu hg;have hd:=nS (A2.add s.g t') qa.id;exact⟨⟨s,(A2.add s.g t').et qa.id,T2,J,qc,A2.last+1,aU s.k.ls⟩,t',rfl,⟨hm,rfl,rfl,rfl,hd.1.trans eU,by rw[hd.2.1];show A2.n+1≤A.n+1;omega,Y9,Av,E4,cc,.inr Lu,λe=>(by have e2:front=aU s.k.ls:=e;exfalso;omega)⟩,aD.fold I ⟨mb,B,sq,r,tq,jq,dt,dF,ao,cO⟩ p ⟨s,(A2.add s.g t').et qa.id,T2,J,qc,A2.last+1,aU s.k.ls⟩⟩
end
end
section
abbrev bj (xs:List ea):List (List UInt8):=xs.map (·.2.2)
theorem sT {xs:List ea}{i:Nat}{x:ea}(h:xs[i]?=some x):(bj xs).getD i []=x.2.2:=by
 rw[bl,bn,h];rfl
theorem gM (xs:List ea):(bj xs).length=xs.length:=bf _
theorem iH.at {w:World}{ad:Option Addr}{xs:List ea}(h:iH w ad xs){i:Nat}(hi:i<xs.length):∃ b off x,ad=some ⟨b,off,none⟩∧xs[i]?=some x∧w.cell? ⟨b,off+i,none⟩=some (aI x)∧a6 w x.1 x.2.2.length x.2.2:=by
 obtain⟨b,off,hb,hr⟩:=h.1 (by omega);have hx:xs[i]?=some xs[i]:=aO hi;exact⟨b,off,xs[i],hb,hx,hr i _ (by rw[bn,hx];rfl),h.2 _ (bE hx)⟩
section
variable {W w:World}{L:List SP}{m cT to r f cl:Nat}{adT gZ:Option Addr}{past:List UInt8}{b:Gs}{xs:List ea}
theorem E6 (I:V W w L)(h0:0<xs.length)(h8:xs.length≤8)(hp:∀ w',V W w' L→iH w' gZ xs) :
   Calls prog 41 #[.slice gZ xs.length cl] w λe w'=>e=.returned (.int .i64 (aU (bj xs)))∧V W w' L:=by
 refine EN func41 ntmps41 rfl rfl λa E=>?_;refine RN 3 E I λa E=>?_;obtain⟨mx,ol,x0,rfl,Zb,o3,fG⟩:=(hp _ I).at h0;refine RN 3 E I λa E=>?_;refine SS E (ag E (o3)) λa E=>?_;rw[aI]at E;refine RN 5 E I λa E=>?_;rw[show ((x0.2.2.length:Nat):Int)=(iy (bj xs) 1:Nat) from by rw[Xn,iy,List.headD_eq_getD,sT Zb]]at E;refine aS (λμ a w=>∃ (i:Nat),(μ=xs.length-i∧i≤xs.length∧1≤i)∧Fr a 25 [(0,.slice (some ⟨mx,ol,none⟩) xs.length cl),(3,.int .i64 (iy (bj xs) i:Nat)),(4,.int .i64 i)]∧V W w L) (xs.length-1) (⟨1,⟨rfl,by omega,by omega⟩,E.ab [0,3,4],I⟩) ?_;clear E I;rintro μ a w ⟨i,⟨rfl,hi,kS⟩,E,I⟩;refine IF 6 E I (λaj a E=>?_) λaj a E=>?_
 ·
  obtain⟨_,_,x,gT,hx,o3,fG⟩:=(hp _ I).at (i:=i) (by omega);cases gT;refine RN 6 E I λa E=>?_;refine SS E (ag E (o3)) λa E=>?_;rw[aI]at E;refine RN 2 E I λa E=>?_;rw[show min ((iy (bj xs) i:Nat):Int) ((x.2.2.length:Nat):Int)=((iy (bj xs) (i+1):Nat):Int) from by rw[iy,sT hx];omega]at E;refine RN 4 E I λa E=>?_;exact⟨xs.length-(i+1),by omega,i+1,⟨rfl,by omega,by omega⟩,E.ab [0,3,4],I⟩
 refine RT 3 E I ?_;obtain rfl:i=xs.length:=by omega
 exact⟨by rw[aU,gM],I⟩
theorem Zc (I:V W w L)(h0:0<xs.length)(h8:xs.length≤8)(hp:∀ w',V W w' L→iH w' gZ xs)(hf:f<aU (bj xs)) :
   Calls prog 40 #[.slice gZ xs.length cl,.int .i64 f] w λe w'=>∃ av c',e=.returned (.slice av (cp (bj xs) f).length c')∧V W w' (Sl 5 1 av (cp (bj xs) f).length c' (bc (cp (bj xs) f))::L):=by
 refine EN func40 ntmps40 rfl rfl λa E=>?_;refine RN 7 E I λa E=>?_;replace I:=I.bH 5 1 none;refine aS (λμ a w=>∃ (i:Nat) (ad2:Option Addr) (c2:Nat),(μ=xs.length-i∧i≤xs.length)∧Fr a 25 [(0,.slice gZ xs.length cl),(1,.int .i64 f),(5,.slice ad2 (fu (bj xs) f i).length c2),(6,.int .i64 i)]∧V W w (Sl 5 1 ad2 (fu (bj xs) f i).length c2 (bc (fu (bj xs) f i))::L)) (xs.length) (⟨0,none,0,⟨rfl,by omega⟩,E.ab [0,1,5,6],I⟩) ?_;clear E I;rintro μ a w ⟨i,ad2,c2,⟨rfl,hi⟩,E,I⟩;refine IF 6 E I (λaj a E=>?_) λaj a E=>?_
 ·
  obtain⟨mx,ol,x,rfl,hx,o3,fG⟩:=(hp _ I.tail).at (i:=i) (by omega);have gw:f<x.2.2.length:=by
   have h1:=vE (ls:=bj xs) (l:=x.2.2) (c8.2 ⟨x,bE hx,rfl⟩);omega
  obtain⟨l9,ox,gT,iK⟩:=fG.get (by omega);have eO:=sD (ls:=bj xs) (f:=f) (i:=i) (by rw[gM];exact hi);refine RN 6 E I λa E=>?_;refine SS E (ag E (o3)) λa E=>?_;rw[aI,gT]at E;refine RN 2 E I λa E=>?_;refine SS E (ag E (iK f _ (kH gw))) λa E=>?_;refine RN 0 E I λa E=>?_;refine cm E rfl I underlying22 Ty.t5 rfl rfl rfl rfl (by decide) (by decide) λtE a w E I ho=>?_;clear ho;refine RN 0 E I λa E=>?_;refine cJ E rfl I underlying22 Ty.t5 rfl rfl I.ai rfl (ek [x.2.2.getD f 0]) (by decide) (by decide) (by omega) λgj gk a w E I=>?_;rw[show bc (fu (bj xs) f i)++_=bc (fu (bj xs) f (i+1)) from by rw[zY (by rw[gM];omega),getElem_map,fI,(a1.1 hx).2],show (fu (bj xs) f i).length+1=(fu (bj xs) f (i+1)).length from by rw[eO,sD (by rw[gM];omega)]]at I;rw[show (fu (bj xs) f i).length+1=(fu (bj xs) f (i+1)).length from by rw[eO,sD (by rw[gM];omega)]]at E;refine RN 4 E I λa E=>?_;exact⟨xs.length-(i+1),by omega,i+1,gj,gk,⟨rfl,by omega⟩,E.ab [0,1,5,6],I.sub⟩
 refine RT 3 E I ?_;obtain rfl:i=xs.length:=by omega
 have hj:fu (bj xs) f xs.length=cp (bj xs) f:=by
  conv=>lhs;rw[← gM xs]
  exact zX _ _
 rw[hj]at I ⊢;exact⟨_,_,rfl,I⟩
set_option maxHeartbeats 1000000 in
theorem Aw (hr:r≤100000)(I:V W w L)(hb:c1 b)(h0:0<xs.length)(h8:xs.length≤8)(hl:∀ l∈bj xs,l.length≤1000)(sI:to≤1000)(hp:∀ w',V W w' L→iH w' gZ xs)(ht:∀ w',V W w' L→a6 w' adT b.table.length b.table) :
   Calls prog 117 #[.slice gZ xs.length cl,.agg (dk b adT cT).toArray,.int .i64 r,.int .i64 to] w λe w'=>∃ (av:Option Addr) (c':Nat) (X:List (List UInt8)),e=.returned (.slice av (to-aU (bj xs)) c')∧(xX to (bj xs) X∧(r=0→X=iN b (bj xs) to)) ∧
    V W w' (b0 av (to-aU (bj xs)) c' (m0 X (aU (bj xs)) to)::L):=by
 have bN:bj xs≠[]:=λe=>by have h1:=gM xs;rw[e]at h1;simp at h1;omega
 have fq:aU (bj xs)≤1000:=by
  obtain⟨l,kx,lV⟩:=zW bN;rw[lV];exact hl l kx
 refine EN func117 ntmps117 rfl rfl λa E=>?_;refine BX 1 E I λb5 a w E I=>?_;change V W w (aa b5 47 (dk b adT cT)::_) at I;refine CL 3 E I (E6 (cl:=cl) I h0 h8 (λw' hw=>hp w' hw.tail)) λa w E I=>?_;refine bd 4 E I (ER I) λrr a w E ⟨jo,I⟩=>?_;rw[jo.2 hb]at E;refine RN 2 E I λa E=>?_;replace E:=E.aN 23;refine RN 4 E I λa E=>?_;rw[bq (by omega)]at E;refine RN 4 E I λa E=>?_;rw[bq (by omega)]at E;refine IF 4 E I (λaj a E=>?_) λaj a E=>?_
 ·
  refine RT 2 E I ?_;have hz:to-aU (bj xs)=0:=by omega
  refine⟨none,0,iN b (bj xs) to,by rw[hz],⟨⟨by rw[iN,bf],λj l x hj hx=>?_⟩,λ_=>rfl⟩,?_⟩
  ·rw[iN,bn,hj]at hx;obtain rfl:np b l to=x:=by simpa using hx
   exact Yy (hl l (bE hj)) sI
  ·rw[m0,hz];exact b0.nil I.tail
 refine RN 7 E I λa E=>?_;replace I:=I.bH 22 1 none;replace I:=V.iG (f:=a7) I;have aej:aU (bj xs)<to:=by omega
 refine aS (λμ a w=>∃ (i:Nat) (Lw:Bool) (ys:List ea) (m1:Option Addr) (m2:Nat),(μ=xs.length-i∧i≤xs.length∧ys.length=i∧(∀ (j:Nat) (l:List UInt8) (x:ea),(bj xs)[j]?=some l→ys[j]?=some x→vR to l x.2.2)∧(r=0→bj ys=(iN b (bj xs) to).take i))∧Fr a 117 [(0,.slice gZ xs.length cl),(2,.int .i64 r),(3,.int .i64 to),(5,pt b5),(9,.int .i64 (aU (bj xs))),(10,.slice m1 i m2),(11,.bool Lw),(12,.int .i64 i)]∧V W w (Sl 22 1 m1 i m2 (ys.map aI)::ah a7 ys::aa b5 47 (dk b adT cT)::L)) (xs.length) (⟨0,false,[],none,0,⟨rfl,by omega,rfl,λj l x _ h=>by simp at h,λ_=>rfl⟩,E.ab [0,2,3,5,9,10,11,12],(I.sub:V W w (Sl 22 1 none 0 0 []::ah a7 []::aa b5 47 (dk b adT cT)::L))⟩) ?_;clear E I;rintro μ a w ⟨i,Lw,ys,m1,m2,⟨rfl,hi,jY,m6,ud⟩,E,I⟩;refine IF 6 E I (λan a E=>?_) λan a E=>?_
 ·
  obtain⟨mx,ol,x,rfl,hx,o3,fG⟩:=(hp _ I.tail.tail.tail).at (i:=i) (by omega);have eG:(bj xs)[i]?=some x.2.2:=by rw[bn,hx];rfl
  have ch:=hl _ (bE eG);replace I:=I.bH 5 1 none;refine RN 6 E I λa E=>?_;refine SS E (ag E (o3)) λa E=>?_;rw[aI]at E;refine RN 0 E I λa E=>?_;refine gW E rfl I underlying22 Ty.t5 rfl rfl (by decide) (λh0=>fG.get h0) (by rw[dx];omega) (ek _) (by omega) λpd qX a w E I=>?_;rw[nil_append,Nat.zero_add]at I;rw[Nat.zero_add]at E;refine RN 1 E I λa E=>?_;refine bZ (M:=λa w=>∃ (Ax:Bool) (c0:Option Addr) (dQ:Nat) (y:List UInt8),((∃ t,y=x.2.2++t)∧y.length≤x.2.2.length+1∧(y=x.2.2∨x.2.2.length=aU (bj xs))∧(r=0→y=x.2.2))∧Fr a 117 [(0,.slice (some ⟨mx,ol,none⟩) xs.length cl),(2,.int .i64 r),(3,.int .i64 to),(5,pt b5),(9,.int .i64 (aU (bj xs))),(10,.slice m1 i m2),(11,.bool Ax),(12,.int .i64 i),(13,.slice c0 y.length dQ)]∧V W w (Sl 5 1 c0 y.length dQ (bc y)::Sl 22 1 m1 i m2 (ys.map aI)::ah a7 ys::aa b5 47 (dk b adT cT)::L)) ?_ ?_
  ·
   refine BY 4 E I (λbw a E=>?_) λbw a E=>?_
   ·
    refine BY 4 E I (λjM a E=>?_) λjM a E=>?_
    ·
     refine IF 5 E I (λay a E=>?_) λay a E=>?_
     ·
      refine RN 2 E I λa E=>?_;have xE:r%256<256:=Nat.mod_lt _ (by decide);have Zd:=(I.sl pd).2;refine SX 4 E I (by decide) λa E=>?_;rw[show ((r:Nat):Int).tmod 256=((r%256:Nat):Int) from nH _ 256]at E;generalize n1:r%256=r6 at E xE;refine RN 1 E I λa E=>?_;rw[show ((r6:Nat):Int)+1=((r6+1:Nat):Int) from by omega]at E;refine jD 0 E I (KV (past:=x.2.2) (k:=r6+1) I hb (by omega) (by omega) Zd (λw' hw=>hw.cF pd x.2.2 rfl rfl) (λw' hw=>ht w' hw.tail.tail.tail.tail)) λqS n3 out a w E ⟨⟨dX,_⟩,I⟩=>?_;obtain⟨gg,or',rfl,jo⟩:=I.bY qS (by omega);refine SX 1 E I (by decide) λa E=>?_;rw[show ((r:Nat):Int).tmod 256=((r6:Nat):Int) from by rw[← n1];exact nH _ 256]at E;refine RN 1 E I λa E=>?_;refine SS E (ag E (jo r6 _ (dR (by omega)))) λa E=>?_;refine RN 0 E I λa E=>?_;refine cm E rfl I underlying22 Ty.t5 rfl rfl rfl rfl (by decide) (by decide) λWH a w E I ho=>?_;clear ho;refine RN 0 E I λa E=>?_;refine cJ E rfl I underlying22 Ty.t5 rfl rfl I.ai rfl (ek [out[r6]]) (by decide) (by decide) (by omega) λJz JA a w E I=>?_;rw[show bc x.2.2++_=bc (x.2.2++[out[r6]]) from (fI _ [_]).symm,show x.2.2.length+1=(x.2.2++[out[r6]]).length from by simp]at I;rw[show x.2.2.length+1=(x.2.2++[out[r6]]).length from by simp]at E;refine RN 1 E I λa E=>?_;exact⟨_,Jz,JA,x.2.2++[out[r6]],⟨⟨_,rfl⟩,by simp,.inr (by omega),λh=>by omega⟩,E.ab [0,2,3,5,9,10,11,12,13],I.sub⟩
     refine RN 0 E I λa E=>?_;exact⟨_,pd,qX,x.2.2,⟨⟨[],by simp⟩,by omega,.inl rfl,λ_=>rfl⟩,E.ab [0,2,3,5,9,10,11,12,13],I.sub⟩
    refine RN 6 E I λa E=>?_;exact⟨_,pd,qX,x.2.2,⟨⟨[],by simp⟩,by omega,.inl rfl,λ_=>rfl⟩,E.ab [0,2,3,5,9,10,11,12,13],I.sub⟩
   refine RN 10 E I λa E=>?_;exact⟨_,pd,qX,x.2.2,⟨⟨[],by simp⟩,by omega,.inl rfl,λ_=>rfl⟩,E.ab [0,2,3,5,9,10,11,12,13],I.sub⟩
  clear E;(try clear I);rintro a w ⟨Ax,c0,dQ,y,⟨jI,lX,YC,ra⟩,E,I⟩;refine bZ (M:=λa w=>∃ (adq:Option Addr) (cq:Nat) (z:List UInt8),(vR to x.2.2 z∧(r=0→z=np b x.2.2 to))∧Fr a 117 [(0,.slice (some ⟨mx,ol,none⟩) xs.length cl),(2,.int .i64 r),(3,.int .i64 to),(5,pt b5),(9,.int .i64 (aU (bj xs))),(10,.slice m1 i m2),(11,.bool Ax),(12,.int .i64 i),(13,.slice adq z.length cq)]∧V W w (Sl 5 1 adq z.length cq (bc z)::Sl 22 1 m1 i m2 (ys.map aI)::ah a7 ys::aa b5 47 (dk b adT cT)::L)) ?_ ?_
  ·
   refine IF 5 E I (λbg a E=>?_) λbg a E=>?_
   ·
    have om:=(I.sl c0).2;have EW:=D9 b y (to-y.length);refine RN 7 E I λa E=>?_;rw[show ((to:Nat):Int)-((y.length:Nat):Int)=((to-y.length:Nat):Int) from by omega]at E;refine a2 0 E I (Yt (past:=y) (m:=to-y.length) I hb (by omega) om (by omega) (λw' hw=>hw.cF c0 y rfl rfl) (λw' hw=>ht w' hw.tail.tail.tail.tail)) λadc YD a w E I=>?_;refine RN 0 E I λa E=>?_;refine gW E rfl I underlying22 Ty.t5 rfl rfl (by decide) (λh0=>(I.cF adc (jT b y (to-y.length)) rfl EW).get h0) (by rw[dx];omega) (ek _) (by omega) λZe Zf a w E I=>?_;rw[← fI,tS,show y.length+(to-y.length)=(eg b y (to-y.length)).length from by rw[ie]]at I;rw[show y.length+(to-y.length)=(eg b y (to-y.length)).length from by rw[ie]]at E;refine RN 1 E I λa E=>?_;obtain⟨t,EX⟩:=jI;refine⟨Ze,Zf,_,⟨⟨⟨t++jT b y (to-y.length),?_⟩,by rw[ie];omega,by rw[ie];omega⟩,λh=>?_⟩,E.ab [0,2,3,5,9,10,11,12,13],I.sub⟩
    ·rw[← tS,EX,dw]
    ·rw[ra h,np]
   refine RN 0 E I λa E=>?_;exact⟨c0,dQ,y,⟨⟨jI,by omega,by omega⟩,λh=>by rw[KX (by rw[← ra h];omega)];exact ra h⟩,E.ab [0,2,3,5,9,10,11,12,13],I⟩
  clear E;(try clear I);rintro a w ⟨adq,cq,z,⟨c5,eN⟩,E,I⟩;refine RN 2 E I λa E=>?_;refine cm E rfl I underlying207 Ty.t22 rfl rfl rfl rfl (by decide) (by decide) λb88 a w E I ho=>?_;clear ho;refine RN 0 E I λa E=>?_;refine cJ E rfl I underlying207 Ty.t22 rfl rfl I.ai rfl (by simp[Value.oneCell']) (by decide) (by decide) (by omega) λLy Lz a w E I=>?_;rw[show List.map aI ys++_=List.map aI (ys++[(adq,cq,z)]) from by rw[cU];rfl]at I;refine RN 4 E I λa E=>?_;have dy:=V.jB (f:=a7) (x:=(adq,cq,z)) (I.sub (M:=Sl 5 1 adq z.length cq (bc z)::ah a7 ys::Sl 22 1 Ly (i+1) Lz ((ys++[(adq,cq,z)]).map aI)::aa b5 47 (dk b adT cT)::L));refine⟨xs.length-(i+1),by omega,i+1,Ax,ys++[(adq,cq,z)],Ly,Lz,⟨rfl,by omega,by rw[aK,jY];rfl,λj l y hj hy=>?_,λh=>?_⟩,E.ab [0,2,3,5,9,10,11,12],dy.sub⟩
  ·by_cases gI:j<i
   ·rw[lM (by omega)]at hy;exact m6 j l y hj hy
   ·have eO:=(a1.1 hy).1;rw[aK,ja]at eO;obtain rfl:j=i:=by omega
    rw[getElem?_append_right (by omega),jY,Nat.sub_self]at hy;obtain rfl:(adq,cq,z)=y:=by simpa using hy
    rw[eG]at hj;obtain rfl:x.2.2=l:=by simpa using hj
    exact c5
  ·rw[bj,cU,← bj,ud h,iU (by rw[iN,bf,gM];omega)]
   congr 1
   rw[map_singleton,eN h];simp only[iN,getElem_map];rw[(a1.1 hx).2]
 obtain rfl:i=xs.length:=by omega
 have ib:xX to (bj xs) (bj ys):=⟨by rw[gM,gM];exact jY,λj l x hj hx=>by
  rw[bn]at hx;obtain⟨y,hy,rfl⟩:=Option.map_eq_some_iff.1 hx;exact m6 j l y hj hy⟩
 have mj:r=0→bj ys=iN b (bj xs) to:=λh=>by rw[ud h,fX (by rw[iN,bf,gM];exact bh _)]
 clear m6 ud;refine RN 6 E I λa E=>?_;replace I:=I.bH 22 1 none;replace I:=V.iG (f:=a7) I;refine aS (λμ a w=>∃ (d:Nat) (zs:List ea) (ml:Option Addr) (mm:Nat),(μ=to-aU (bj xs)-d∧d≤to-aU (bj xs)∧bj zs=(List.range d).map λi=>cp (bj ys) (aU (bj xs)+i))∧Fr a 117 [(0,.slice gZ xs.length cl),(3,.int .i64 to),(10,.slice m1 xs.length m2),(14,.slice ml d mm),(15,.int .i64 (aU (bj xs)+d:Nat))]∧V W w (Sl 22 1 ml d mm (zs.map aI)::ah a7 zs::Sl 22 1 m1 xs.length m2 (ys.map aI)::ah a7 ys::L)) (to-aU (bj xs)) (⟨0,[],none,0,⟨rfl,by omega,rfl⟩,by rw[Nat.add_zero];exact E.ab [0,3,10,14,15],(I.sub:V W w (Sl 22 1 none 0 0 []::ah a7 []::Sl 22 1 m1 xs.length m2 (ys.map aI)::ah a7 ys::L))⟩) ?_;clear E I;rintro μ a w ⟨d,zs,ml,mm,⟨rfl,hd,sN⟩,E,I⟩;refine IF 5 E I (λbM a E=>?_) λbM a E=>?_
 ·
  refine RN 6 E I λa E=>?_;replace I:=I.bH 5 1 none;refine aS (λμ a w=>∃ (i:Nat) (iB:Option Addr) (jf:Nat),(μ=xs.length-i∧i≤xs.length)∧Fr a 117 [(0,.slice gZ xs.length cl),(3,.int .i64 to),(10,.slice m1 xs.length m2),(14,.slice ml d mm),(15,.int .i64 (aU (bj xs)+d:Nat)),(16,.slice iB i jf),(17,.int .i64 i)]∧V W w (Sl 5 1 iB i jf (bc (fu (bj ys) (aU (bj xs)+d) i))::Sl 22 1 ml d mm (zs.map aI)::ah a7 zs::Sl 22 1 m1 xs.length m2 (ys.map aI)::ah a7 ys::L)) (xs.length) (⟨0,none,0,⟨rfl,by omega⟩,E.ab [0,3,10,14,15,16,17],I⟩) ?_;clear E I;rintro μ a w ⟨i,iB,jf,⟨rfl,hi⟩,E,I⟩;refine IF 6 E I (λeP a E=>?_) λeP a E=>?_
  ·
   have aJ:i<xs.length:=by omega
   have Am:=V.lS (xs:=ys) (I.sub (M:=Sl 22 1 m1 xs.length m2 (ys.map aI)::ah a7 ys::[]));obtain⟨aX,aek,y,rfl,hy,ot,pw⟩:=Am.at (i:=i) (by omega);have E7:=ib.fit i _ y.2.2 (aO (by rw[gM];exact aJ)) (by rw[bn,hy];rfl);obtain⟨bb,oo,x8,iK⟩:=pw.get (by have:=E7.2.1;omega);refine RN 5 E I λa E=>?_;refine SS E (ag E (ot)) λa E=>?_;rw[aI,x8]at E;refine SX 1 E I (by have:=E7.2.1;omega) λa E=>?_;refine RN 0 E I λa E=>?_;refine SS E (ag E (iK (aU (bj xs)+d) _ (kH (by have:=E7.2.1;omega)))) λa E=>?_;refine RN 0 E I λa E=>?_;refine cm E rfl I underlying22 Ty.t5 rfl rfl rfl rfl (by decide) (by decide) λP2 a w E I ho=>?_;clear ho;refine RN 0 E I λa E=>?_;refine cJ E rfl I underlying22 Ty.t5 rfl rfl I.ai rfl (ek [y.2.2.getD (aU (bj xs)+d) 0]) (by decide) (by decide) (by omega) λZg Zh a w E I=>?_;rw[show bc (fu (bj ys) (aU (bj xs)+d) i)++_=bc (fu (bj ys) (aU (bj xs)+d) (i+1)) from by rw[zY (by rw[gM];omega),getElem_map,fI,(a1.1 hy).2]]at I;refine RN 4 E I λa E=>?_;exact⟨xs.length-(i+1),by omega,i+1,Zg,Zh,⟨rfl,by omega⟩,E.ab [0,3,10,14,15,16,17],I.sub⟩
  obtain rfl:i=xs.length:=by omega
  have eO:fu (bj ys) (aU (bj xs)+d) xs.length=cp (bj ys) (aU (bj xs)+d):=by
   conv=>lhs;rw[← jY,← gM]
   exact zX _ _
  rw[eO]at I;have pN:(cp (bj ys) (aU (bj xs)+d)).length=xs.length:=by rw[mW,gM];exact jY
  refine RN 2 E I λa E=>?_;refine cm E rfl I underlying207 Ty.t22 rfl rfl rfl rfl (by decide) (by decide) λP3 a w E I ho=>?_;clear ho;refine RN 0 E I λa E=>?_;refine cJ E rfl I underlying207 Ty.t22 rfl rfl I.ai rfl (by simp[Value.oneCell']) (by decide) (by decide) (by omega) λLA LB a w E I=>?_;rw[show List.map aI zs++_=List.map aI (zs++[(iB,jf,cp (bj ys) (aU (bj xs)+d))]) from by rw[cU,map_singleton,aI,pN];rfl]at I;refine RN 4 E I λa E=>?_;have dy:=V.jB (f:=a7) (x:=(iB,jf,cp (bj ys) (aU (bj xs)+d))) (by
   rw[a7,pN];exact I.sub (M:=Sl 5 1 iB xs.length jf (bc (cp (bj ys) (aU (bj xs)+d)))::ah a7 zs::Sl 22 1 LA (d+1) LB ((zs++[(iB,jf,cp (bj ys) (aU (bj xs)+d))]).map aI)::Sl 22 1 m1 xs.length m2 (ys.map aI)::ah a7 ys::L))
  exact⟨to-aU (bj xs)-(d+1),by omega,d+1,zs++[(iB,jf,cp (bj ys) (aU (bj xs)+d))],LA,LB,⟨rfl,by omega,by rw[bj,cU,← bj,sN,range_succ,cU];rfl⟩,by rw[show ((aU (bj xs)+(d+1):Nat):Int)=((aU (bj xs)+d:Nat):Int)+1 from by omega];exact E.ab [0,3,10,14,15],dy.sub⟩
 obtain rfl:d=to-aU (bj xs):=by omega
 refine RT 3 E I ?_;exact⟨ml,mm,bj ys,rfl,⟨ib,mj⟩,b0.close (xs:=zs) (I.sub (M:=Sl 22 1 ml (to-aU (bj xs)) mm (zs.map aI)::ah a7 zs::L)) sN (Al _ _ _)⟩
end
end
section
section
variable {W w:World}{Z:List SP}{n c i tq sq r nk base front:Nat}{ad:Option Addr}{M:jg}{B:iO}{y:UInt8}{x:Br}{p:Pr}{s:Pl}{T:Tr}
theorem Zi (I:V W w (aa M.mb 177 (dT p M nk base front)::aM W M.B p s::Z))(hw:cx p s)(hx:va W (aa M.mb 177 (dT p M nk base front)::aM W M.B p s::Z) ad x.ak)
   (hf:x.frm=(front:Int)) (hj:∀ j∈x.ak,j.length=s.k.n) (hb:front+x.ak.length≤100000) :
   Calls prog 288 #[pt M.mb,.agg (b6 x ad c).toArray] w λe w'=>e=.returned (.bool (jh s.k.ls front x.ak))∧V W w' (aa M.mb 177 (dT p M nk base front)::aM W M.B p s::Z):=by
 obtain⟨zs,hz,hx⟩:=hx;have bN:=hw.wc.kL;have ff:=hw.wc.ls;have vY:=hw.wc.n;have iR:zs.length=x.ak.length:=by rw[← hz,bf]
 refine EN func288 ntmps288 rfl rfl λa E=>?_;refine BX 1 E I λb3 a w E I=>?_;refine CL 6 E I (nu (I.pick (aM W M.B p s))) λa w E I=>?_;replace I:=aM.open I;refine CL 0 E I (oh (I.pick (az M.B.core s.k))) λa w E I=>?_;refine RN 1 E I λa E=>?_;obtain⟨D,I,hD⟩:=az.qu I;have LC:∀ w',V W w' (Qu M.B.core.qb M.B.core.aB s.k.ls::D::aa M.B.pb 192 (gl p M.B s.g)::aA W p M.B.ao M.B.cO::Sl 5 1 M.B.adT M.B.gs.table.length M.B.cT (bc M.B.gs.table)::aa M.mb 177 (dT p M nk base front)::Z)→iH w' ad zs :=
  λw' h=>hx w' ((aM.fold (hD _ _ h) M.B p s).sub)
 refine RN 6 E I λa E=>?_;refine aS (λμ a w=>∃ (i:Nat),(μ=x.ak.length-i∧i≤x.ak.length∧(∀ j,j<i→sR s.k.ls (front+j) (x.ak.getD j [])=true))∧Fr a 59 [(0,pt M.mb),(3,pt b3),(5,pt M.B.core.qb),(19,.slice ad x.ak.length c),(20,.int .i64 x.ak.length),(21,.int .i64 i)]∧V W w (Qu M.B.core.qb M.B.core.aB s.k.ls::D::aa b3 238 (b6 x ad c)::aa M.B.pb 192 (gl p M.B s.g)::aA W p M.B.ao M.B.cO::Sl 5 1 M.B.adT M.B.gs.table.length M.B.cT (bc M.B.gs.table)::aa M.mb 177 (dT p M nk base front)::Z)) (x.ak.length) (⟨0,⟨rfl,by omega,λj h=>absurd h (by omega)⟩,E.ab [0,3,5,19,20,21],I.sub⟩) ?_;clear E I;rintro μ a w ⟨i,⟨rfl,hi,ug⟩,E,I⟩;refine IF 3 E I (λaj a E=>?_) λaj a E=>?_
 ·
  have aJ:i<zs.length:=by omega
  obtain⟨l9,ox,z,gU,kg,lT,E8⟩:=(LC _ I.sub).at aJ;have LD:x.ak.getD i []=z.2.2:=by rw[bl,← hz,bn,kg];rfl
  have Vs:z.2.2.length=s.k.n:=hj _ (by rw[← hz];exact c8.2 ⟨z,bE kg,rfl⟩);refine RN 3 E I λa E=>?_;rw[gU]at E;refine RN 1 E I λa E=>?_;refine SS E (ag E (lT)) λa E=>?_;rw[← gU]at E;rw[aI]at E;refine RN 6 E I λa E=>?_;refine aS (λμ a w=>∃ (v:Nat),(μ=z.2.2.length-v∧v≤z.2.2.length∧(∀ q,q<v→front+i<(s.k.ls.getD q []).length→(s.k.ls.getD q []).getD (front+i) 0=z.2.2.getD q 0))∧Fr a 59 [(0,pt M.mb),(3,pt b3),(5,pt M.B.core.qb),(6,.int .i64 i),(19,.slice ad x.ak.length c),(20,.int .i64 x.ak.length),(21,.int .i64 i),(26,.slice z.1 z.2.2.length z.2.1),(27,.int .i64 z.2.2.length),(28,.int .i64 v)]∧V W w (Qu M.B.core.qb M.B.core.aB s.k.ls::D::aa b3 238 (b6 x ad c)::aa M.B.pb 192 (gl p M.B s.g)::aA W p M.B.ao M.B.cO::Sl 5 1 M.B.adT M.B.gs.table.length M.B.cT (bc M.B.gs.table)::aa M.mb 177 (dT p M nk base front)::Z)) (z.2.2.length) (⟨0,⟨rfl,by omega,λj h=>absurd h (by omega)⟩,E.ab [0,3,5,6,19,20,21,26,27,28],I⟩) ?_;clear E I;rintro μ a w ⟨v,⟨rfl,hv,E9⟩,E,I⟩;refine IF 3 E I (λan a E=>?_) λan a E=>?_
  ·
   have Ay:v<z.2.2.length:=by omega
   have LF:v<s.k.ls.length:=by omega
   obtain⟨ael,aem,c5,Az⟩:=((LC _ I.sub).2 z (bE kg)).get (by omega);refine RN 3 E I λa E=>?_;rw[c5]at E;refine RN 1 E I λa E=>?_;refine SS E (ag E (Az v _ (kH Ay))) λa E=>?_;rw[← c5]at E;refine aY 3 (λw0 w'=>Rd w' b3 0 (b6 x ad c)) [2] [0,1,3,5,3004,6,1002,1007,8,9,10,11,12] E I λa w E I hH=>?_;have U:=hH.at w (I.ai (b:=b3));refine RH 4 E I hH U λa E=>?_;refine QH E (λw hc=>ag E (hc 1 _ rfl)) U λa E=>?_;refine RH 1 E I hH U λa E=>?_;rw[hf,show ((front:Nat):Int)+(i:Int)=((front+i:Nat):Int) from rfl]at E;refine CL 0 E I (sE (I.pick (Qu M.B.core.qb M.B.core.aB s.k.ls)) LF) λa w E I=>?_;replace U:=hH.at w (I.ai (b:=b3));refine RH 0 E I hH U λa E=>?_;refine CL 0 E I (Xv I LF) λa w E I=>?_;refine RN 5 E I λa E=>?_;refine BY 3 E I (λmM a E=>?_) λmM a E=>?_
   ·
    refine IF 4 E I (λay a E=>?_) λay a E=>?_
    ·
     refine RT 2 E I ?_;exact⟨by rw[YX (i:=i) (by omega) (by rw[LD];exact YW Ay mM (λe=>ay (by rw[e])))],((aM.fold (hD _ _ I) M.B p s).sub)⟩
    refine RN 2 E I λa E=>?_;refine⟨z.2.2.length-(v+1),by omega,v+1,⟨rfl,by omega,λq hq h1=>?_⟩,E.ab [0,3,5,6,19,20,21,26,27,28],I.sub⟩;rcases (by omega:q<v∨q=v) with h | rfl
    ·exact E9 q h h1
    ·exact UInt8.toNat.inj (by omega)
   refine RN 7 E I λa E=>?_;refine⟨z.2.2.length-(v+1),by omega,v+1,⟨rfl,by omega,λq hq h1=>?_⟩,E.ab [0,3,5,6,19,20,21,26,27,28],I.sub⟩;rcases (by omega:q<v∨q=v) with h | rfl
   ·exact E9 q h h1
   ·omega
  refine RN 2 E I λa E=>?_;refine⟨x.ak.length-(i+1),by omega,i+1,⟨rfl,by omega,λj hj=>?_⟩,E.ab [0,3,5,19,20,21],I.sub⟩;rcases (by omega:j<i∨j=i) with h | rfl
  ·exact ug j h
  ·rw[LD];exact Lq λq hq=>E9 q (by omega)
 refine bL 1 [5] [0,2,3,4,3001,1005,6,7] E I λa w E I hH U=>?_;refine RH 8 E I hH U λa E=>?_;refine RT 0 E I ?_;exact⟨by rw[hf,dd rfl,Lr λj hj=>ug j (by omega)],((aM.fold (hD _ _ I) M.B p s).sub)⟩
theorem Zj {P:List (List UInt8)}(I:V W w (aa M.mb 177 (dT p M nk base front)::Tree M.tq M.sq T::Z))(hx:va W Z ad P)(so:P.length≤65536) :
   Calls prog 305 #[pt M.mb,.slice ad P.length c] w λe w'=>∃ r:Bool,e=.returned (.bool r)∧(r=true→T.l≠[])∧V W w' (aa M.mb 177 (dT p M nk base front)::Tree M.tq M.sq T::Z):=by
 obtain⟨zs,hz,hx⟩:=hx;have iR:zs.length=P.length:=by rw[← hz,bf]
 have kF:=Tree.wt (I.tree M.tq);have LG:=kF.most;refine EN func305 ntmps305 rfl rfl λa E=>?_;refine a2 8 E I (za (I.tree M.tq)) λsU qd a w E I=>?_;obtain⟨xs,h1,h2,I⟩:=ky.open I;have ch:xs.length=T.l.length:=by rw[← h1,bf]
 refine RN 2 E I λa E=>?_;refine aS (λμ a w=>∃ (i:Nat),(μ=T.l.length-i∧i≤T.l.length)∧Fr a 61 [(0,pt M.mb),(1,.slice ad P.length c),(14,.slice sU T.l.length qd),(15,.int .i64 T.l.length),(16,.int .i64 i)]∧V W w (Sl 238 5 sU T.l.length qd (rows c9 xs)::ah bR xs::Tree M.tq M.sq T::aa M.mb 177 (dT p M nk base front)::Z)) (T.l.length) (⟨0,⟨rfl,by omega⟩,E.ab [0,1,14,15,16],I.sub⟩) ?_;clear E I;rintro μ a w ⟨i,⟨xd,hi⟩,E,I⟩;refine IF 3 E I (λaj a E=>?_) λaj a E=>?_
 ·
  obtain⟨b',dG,rfl,cK⟩:=I.bY sU (by omega);obtain⟨⟨x,eH,de⟩,dV⟩:∃ y,xs[i]?=some y:=⟨_,aO (by omega)⟩;have fP:=nM cK dV;have iW:T.l[i]?=some x:=by rw[← h1,bn,dV];rfl
  have ka:=kF.ok x (bE iW);have hxP:=ka.1.1;have Zk:T.l≠[]:=λe=>by rw[e]at iW;cases iW
  refine RN 3 E I λa E=>?_;refine SS E (bO E underlying238 rfl Ty.t238 (fP)) λa E=>?_;refine AL 0 E I λcG a w E I=>?_;refine SA 0 E I λa w E I=>?_;refine RN 6 E I λa E=>?_;refine bZ (M:=λa w=>∃ q:Bool,(q=false→x.ak.length≤P.length)∧Fr a 61 [(0,pt M.mb),(1,.slice ad P.length c),(6,pt cG),(7,.int .i64 x.ak.length),(14,.slice (some ⟨b',dG,none⟩) T.l.length qd),(15,.int .i64 T.l.length),(16,.int .i64 i),(38,.bool q)]∧V W w (aa cG 238 (b6 x eH de)::Sl 238 5 (some ⟨b',dG,none⟩) T.l.length qd (rows c9 xs)::ah bR xs::Tree M.tq M.sq T::aa M.mb 177 (dT p M nk base front)::Z)) ?_ ?_
  ·
   refine BY 5 E I (λdE a E=>?_) λdE a E=>?_
   ·
    refine RN 11 E I λa E=>?_;exact⟨_,(λh=>by first | omega | cases h),E.ab [0,1,6,7,14,15,16,38],I.sub⟩
   refine BY 5 E I (λtK a E=>?_) λtK a E=>?_
   ·
    refine RN 6 E I λa E=>?_;exact⟨_,(λh=>by first | omega | cases h),E.ab [0,1,6,7,14,15,16,38],I.sub⟩
   refine RN 6 E I λa E=>?_;exact⟨_,(λh=>by first | omega | cases h),E.ab [0,1,6,7,14,15,16,38],I.sub⟩
  clear E;(try clear I);rintro a w ⟨q,hq,E,I⟩;refine IF 0 E I (λan a E=>?_) λan a E=>?_
  ·
   refine RN 2 E I λa E=>?_;exact⟨T.l.length-(i+1),by omega,i+1,⟨rfl,by omega⟩,E.ab [0,1,14,15,16],I.sub⟩
  have oY:=hq an;refine RN 6 E I λa E=>?_;refine aS (λμ a w=>∃ (v:Nat) (zU:Bool),(μ=x.ak.length-v∧v≤x.ak.length)∧Fr a 61 [(0,pt M.mb),(1,.slice ad P.length c),(6,pt cG),(7,.int .i64 x.ak.length),(8,.bool zU),(14,.slice (some ⟨b',dG,none⟩) T.l.length qd),(15,.int .i64 T.l.length),(16,.int .i64 i),(39,.int .i64 x.ak.length),(40,.int .i64 v)]∧V W w (aa cG 238 (b6 x eH de)::Sl 238 5 (some ⟨b',dG,none⟩) T.l.length qd (rows c9 xs)::ah bR xs::Tree M.tq M.sq T::aa M.mb 177 (dT p M nk base front)::Z)) (x.ak.length) (⟨0,true,⟨rfl,by omega⟩,E.ab [0,1,6,7,8,14,15,16,39,40],I⟩) ?_;clear E I;rintro μ a w ⟨v,zU,⟨rfl,hv⟩,E,I⟩;refine IF 3 E I (λay a E=>?_) λay a E=>?_
  ·
   have Ay:v<x.ak.length:=by omega
   refine RN 4 E I λa E=>?_;obtain⟨p9,Fa,CW,f9⟩:=(ah.oQ (I.drew.pick (ah bR xs)) dV).1.2 (by omega);obtain⟨rf,qY,l7,LH⟩:=f9 v x.ak[v] (aO Ay);obtain⟨dq,Fb,z,gU,kg,lT,E8⟩:=(hx _ I.drew.sub).at (i:=v) (by omega);clear f9;refine qv 0 (λw'=>(Rd w' cG 0 (b6 x eH de)∧w'.cell? ⟨p9,Fa+v,none⟩=some (.slice rf x.ak[v].length qY)∧a6 w' rf x.ak[v].length x.ak[v])∧(w'.cell? ⟨dq,Fb+v,none⟩=some (aI z)∧a6 w' z.1 z.2.2.length z.2.2)) [11,12] [0,1,2,4,8,9,10,3003,5,3006,3007,1011,1012,13,14,15] E I λa E=>?_;replace I:=I.drew;generalize w.drew=w at I l7 LH lT E8 ⊢;have U:(Rd w cG 0 (b6 x eH de)∧w.cell? ⟨p9,Fa+v,none⟩=some (.slice rf x.ak[v].length qY)∧a6 w rf x.ak[v].length x.ak[v])∧(w.cell? ⟨dq,Fb+v,none⟩=some (aI z)∧a6 w z.1 z.2.2.length z.2.2):=⟨⟨I.ai (b:=cG),l7,LH⟩,lT,E8⟩;have hH:=Hd.any (λw'=>(Rd w' cG 0 (b6 x eH de)∧w'.cell? ⟨p9,Fa+v,none⟩=some (.slice rf x.ak[v].length qY)∧a6 w' rf x.ak[v].length x.ak[v])∧(w'.cell? ⟨dq,Fb+v,none⟩=some (aI z)∧a6 w' z.1 z.2.2.length z.2.2));refine RH 2 E I hH U λa E=>?_;refine E.by (s:=44) (λmM E=>?_) (λmM E=>?_)
   ·
    refine RH 4 E I hH U λa E=>?_;rw[gU]at E;refine RH 1 E I hH U λa E=>?_;rw[← gU]at E;refine QH E (λw hc=>ag E (hc.1.1 2 _ rfl)) U λa E=>?_;rw[CW]at E;refine RH 1 E I hH U λa E=>?_;refine QH E (λw hc=>ag E (hc.1.2.1)) U λa E=>?_;refine QH E (λw hc=>lP E underlying22 underlying5 underlying9 (hc.1.2.2)) U λa E=>?_;refine RH 0 E I hH U λa E=>?_;refine bz E (cW E rfl (s:=44)) (ag E (U.2.1)) rfl λa E=>?_;rw[aI]at E;refine RH 0 E I hH U λa E=>?_;refine bz E (cW E rfl (s:=44)) (lP E underlying22 underlying5 underlying9 (U.2.2)) rfl λa E=>?_;refine RH 0 E I hH U λa E=>?_;refine QP E (λw=>rH E) λa E=>?_;refine RH 2 E I hH U λa E=>?_;refine RN 2 E I λa E=>?_;exact⟨x.ak.length-(v+1),by omega,v+1,_,⟨rfl,by omega⟩,E.ab [0,1,6,7,8,14,15,16,39,40],I.sub⟩
   refine RH 14 E I hH U λa E=>?_;refine RN 2 E I λa E=>?_;exact⟨x.ak.length-(v+1),by omega,v+1,_,⟨rfl,by omega⟩,E.ab [0,1,6,7,8,14,15,16,39,40],I.sub⟩
  refine IF 2 E I (λbg a E=>?_) λbg a E=>?_
  ·
   refine RT 2 E I ?_;exact⟨_,rfl,λ_=>Zk,I.sub⟩
  refine RN 2 E I λa E=>?_;exact⟨T.l.length-(i+1),by omega,i+1,⟨rfl,by omega⟩,E.ab [0,1,14,15,16],I.sub⟩
 refine RT 2 E I ?_;exact⟨_,rfl,(λh=>by cases h),I.sub⟩
end
end
section
def uh (k:Ks)(T:Tr):Prop:=∀ y∈T.l,(∀ j∈y.ak,j.length=k.n)∧jh k.ls (ax k) y.ak=true
def py (T:Tr)(J:Js)(i:Nat):Js:=(T.l.take i).foldl (λJ y=>if y.done<y.ak.length then lu J y.id T.epoch else J) J
def x9 (T:Tr)(J:Js):Js:=py T (kept (λj=>decide (j.2<T.epoch)) J) T.l.length
theorem Zl {T:Tr}{J:Js}{i:Nat}{x:Br}(h:T.l[i]?=some x):py T J (i+1)=if x.done<x.ak.length then lu (py T J i) x.id T.epoch else py T J i:=by
 obtain⟨hi,rfl⟩:=a1.1 h;rw[py,iU hi,foldl_append];rfl
theorem LI {T:Tr}{J:Js}(h:J.length≤16)(i:Nat):(py T J i).length≤16:=by
 unfold py;generalize T.l.take i=l
 induction l generalizing J with
 | nil=>exact h
 | cons y l ih =>
  rw[foldl_cons];apply ih;split
  ·exact zh h
  ·exact h
theorem LJ {J:Js}(f:Int×Int→Bool)(h:J.length≤16):(kept f J).length≤16:=gO (length_filter_le _ _) h
theorem Zm {ls X:List (List UInt8)}{fr to:Nat}(h:xX to ls X):(∀ j∈m0 X fr to,j.length=ls.length)∧jh ls fr (m0 X fr to)=true:=by
 refine⟨λj hj=>?_,Lr λi hi=>Lq λq hq h1=>?_⟩
 ·rw[m0,c8]at hj;obtain⟨i,_,rfl⟩:=hj;rw[mW,h.len]
 ·rw[Al]at hi;have he:(m0 X fr to).getD i []=cp X (fr+i):=by
   rw[m0,bl,bn,getElem?_range hi];rfl
  rw[he,mW]at hq;rw[he];obtain⟨l,hl⟩:∃ l,ls[q]?=some l:=⟨_,aO (by rw[← h.len];exact hq)⟩;obtain⟨x,hx⟩:∃ x,X[q]?=some x:=⟨_,aO hq⟩;obtain⟨⟨t,rfl⟩,_⟩:=h.fit q l x hl hx;have e1:ls.getD q []=l:=by rw[bl,hl];rfl
  rw[e1]at h1 ⊢;rw[cp,bl,bl,bn,hx];show _=((l++t).getD (fr+i) 0);rw[bl,lM h1]
structure rh (p:Pr)(s:Pl)(t:Nat→Nat)(base:Nat)(A0:Sn)(T0:Tr)(r:Nat)(ws:List Wk)(A:Sn)(T:Tr):Prop where
 inv:Inv p (ax s.k:Int) s.g t base A T ws
 fY:uh s.k T
 room:A.room=A0.room
 n:A.n≤A0.n+r
 last:T.last≤T0.last+r
 most:T.most=T0.most
 rE:T.epoch=T0.epoch
 add:∃ l,T.l=T0.l++l∧∀ y∈l,y.done=0∧y.ak≠[]∧y.ak.length=aF s.k-ax s.k
 has:0<r→ax s.k<aF s.k→T.l≠[]
section
variable {p:Pr}{s:Pl}{t:Nat→Nat}{base r i:Nat}{A0 A:Sn}{T0 T:Tr}{ws:List Wk}{P:List (List UInt8)}{px:aC}
theorem rh.skip (h:rh p s t base A0 T0 r ws A T)(hT:ax s.k<aF s.k→T.l≠[]):rh p s t base A0 T0 (r+1) ws A T :=
 ⟨h.inv,h.fY,h.room,Nat.le_succ_of_le h.n,Nat.le_succ_of_le h.last,h.most,h.rE,h.add,λ_=>hT⟩
theorem rh.push (h:rh p s t base A0 T0 r ws A T)(hA:WF A)(hT:WT T)(hi:A.ar[i]?=some px)(hb:px.id=base)(h0:P≠[])(so:P.length=aF s.k-ax s.k)(hj:∀ j∈P,j.length=s.k.n)(hk:jh s.k.ls (ax s.k) P=true) :
   rh p s t base A0 T0 (r+1) ws (A.add px.g px.p) (T.add (ax s.k:Int) P (A.last+1)):=by
 refine⟨h.inv.Ur hA hT hi hb,λy hy=>?_,h.room,?_,?_,h.most,h.rE,?_,λ_ _ e=>?_⟩
 ·rcases eV.1 hy with hy | hy
  ·exact h.fY y hy
  ·rw[mem_singleton.1 hy];exact⟨hj,hk⟩
 ·have:=h.n;simp only[Sn.add];omega
 ·have:=h.last;simp only[Tr.add];omega
 ·obtain⟨l,h1,h2⟩:=h.add;refine⟨l++[⟨T.last+1,(ax s.k:Int),P,0,A.last+1⟩],by simp only[Tr.add];rw[h1,dw],λy hy=>?_⟩;rcases eV.1 hy with hy | hy
  ·exact h2 y hy
  ·rw[mem_singleton.1 hy];exact⟨rfl,h0,so⟩
 ·simp[Tr.add]at e
end
section
variable {W w:World}{L Z:List SP}{n i tq sq r base front:Nat}{M:jg}{B:iO}{y:UInt8}{x:Br}{p:Pr}{s:Pl}{m:Mu}{A:Sn}{T:Tr}{g0:Nat→Int}{t:Nat→Nat}{px:aC}
theorem Zn {frm:Int}{ad2:Option Addr}{c2 id:Nat}{zs:List ea}{P:List (List UInt8)}(I:V W w (Tree tq sq T::aw sq r A::L))(hr:∀ w',V W w' L→iH w' ad2 zs)(hz:zs.map (·.2.2)=P)(hc:P.length≤c2)(dm:nf P)(h0:P≠[])
   (hx:A.ar[i]?=some px) (bU:px.id=id) (hb:A.n+1<1099511627776) (hl:T.last+1<1099511627776) :
   Calls prog 306 #[pt tq,.int .i64 frm,.int .i64 id,.slice ad2 P.length c2] w λe w'=>∃ (z:Nat) (ok:Bool),e=.returned (.tuple #[.int .i64 z,.bool ok]) ∧
    (((T.most=0∨T.l≠[])∧V W w' (Tree tq sq T::aw sq r A::L))∨V W w' (Tree tq sq (T.add frm P (A.last+1))::aw sq r (A.add px.g px.p)::L)):=by
 by_cases hm:T.l.length<T.most
 ·refine (VZ I hr hz hc dm hx bU hb hl hm).mono λe w' ⟨z,ok,h1,h2⟩=>⟨z,ok,h1,?_⟩;rcases h2 with ⟨_,h3,h4⟩ | ⟨_,_,_,_,h4⟩
  ·refine .inl ⟨.inr λe=>?_,h4⟩;rcases h3 with h3 | ⟨y,hy,_⟩
   ·exact h0 h3
   ·rw[e]at hy;cases hy
  ·exact .inr h4
 ·refine (Ig I (.inl (by omega))).mono λe w' ⟨h1,I⟩=>⟨0,false,h1,.inl ⟨?_,I⟩⟩;rcases Nat.eq_zero_or_pos T.most with h | h
  ·exact .inl h
  ·exact .inr λe=>by rw[e]at hm;simp at hm;omega
theorem Zo (I:V W w (aD W M p m::L))(hw:cx p m.s)(hI:Inv p (ax m.s.k:Int) m.s.g t m.base m.A m.T (m.ks.map (·.1)))(fq:m.front=ax m.s.k)(fy:c1 M.B.gs)(hB:uh m.s.k m.T)(kf:m.J.length≤16)
   (pq:m.s.k.cr=(m.T.most:Int)) (hn:m.A.n+10<1099511627776) (hl:m.T.last+10<1099511627776) :
   Calls prog 289 #[pt M.mb] w λe w'=>∃ (A':Sn) (T':Tr),e=.returned (.tuple #[])∧rh p m.s t m.base m.A m.T m.T.most (m.ks.map (·.1)) A' T'∧V W w' (aD W M p { m with A:=A',T:=T',J:=x9 T' m.J }::L):=by
 have bN:=hw.wc.kL;have ff:=hw.wc.ls;have vY:=hw.wc.n;have iz:m.s.k.ls.length≤8:=by rw[ff];exact vY.2
 have gL:=hw.wc.lG;have jt:aU m.s.k.ls≤aF m.s.k:=hw.wc.nq;obtain⟨mb,B,sq,r,tq,jq,dt,dF,ao,cO⟩:=M;obtain⟨s,A,T,J,ks,base,front⟩:=m;simp only at hw hI fq fy hB kf pq hn hl bN ff vY iz gL jt;subst fq;have LG:=(Tree.wt ((aD.open I).tree tq)).most.1;replace I:=aD.open I;dsimp only at I LG;refine EN func289 ntmps289 rfl rfl λa E=>?_;refine CL 6 E I (nu (I.pick (aM W B p s))) λa w E I=>?_;replace I:=aM.open I;refine CL 0 E I (Kp (I.pick (az B.core s.k))) λa w E I=>?_;refine RN 0 E I λa E=>?_;refine SS E (Hk E underlying28 rfl underlying3 rfl rfl) λa E=>?_;rw[show (e4 s.k).cr=(T.most:Int) from pq]at E;refine RN 1 E I λa E=>?_;replace I:=aM.fold I B p s;refine aS (λμ a w=>∃ (i:Nat) (A1:Sn) (T1:Tr),(μ=T.most-i∧i≤T.most∧rh p s t base A T i (ks.map (·.1)) A1 T1)∧Fr a 98 [(0,pt mb),(12,.int .i64 T.most),(13,.int .i64 i)]∧V W w (aa mb 177 (dT p ⟨mb,B,sq,r,tq,jq,dt,dF,ao,cO⟩ ks.length base (ax s.k))::aM W B p s::aA W p ao cO::Sl 179 1 dt ks.length dF (gK ks)::ah (e0 p ao cO tq jq sq) ks::Tree tq sq T1::aw sq r A1::bC jq J::L)) (T.most) (⟨0,A,T,⟨rfl,by omega,⟨hI,hB,rfl,bh _,bh _,rfl,rfl,⟨[],by simp,λy hy=>by cases hy⟩,λh=>absurd h (by omega)⟩⟩,E.ab [0,12,13],I.sub⟩) ?_;clear E I;rintro μ a w ⟨i,A1,T1,⟨rfl,hi,nv⟩,E,I⟩;refine IF 3 E I (λaj a E=>?_) λaj a E=>?_
 ·
  have hiT:i<T.most:=by omega
  have hAn:=nv.n;have E3:=nv.last;have Au:=(aw.facts (I.store sq)).1;have re:=Tree.wt (I.tree tq);obtain⟨Zq,px,ha,kE⟩:=nv.inv.lU (mem_cons_self ..);refine aY 5 (λw0 w'=>Rd w' mb 0 (dT p ⟨mb,B,sq,r,tq,jq,dt,dF,ao,cO⟩ ks.length base (ax s.k))) [4,5,9,10,15] [0,1,2,6,7,8,11,12,13,14,3003,3009,3015,1004,1005,1010,1016,1017,1018,19] E I λa w E I hH=>?_;have U:=hH.at w (I.ai (b:=mb));refine RH 10 E I hH U λa E=>?_;refine QH E (λw hc=>ag E (hc 0 _ rfl)) U λa E=>?_;refine QH E (λw hc=>ag E (hc 0 _ rfl)) U λa E=>?_;refine QH E (λw hc=>ag E (hc 0 _ rfl)) U λa E=>?_;refine RH 0 E I hH U λa E=>?_;refine CL 0 E I (nu (I.pick (aM W B p s))) λa w E I=>?_;replace U:=hH.at w (I.ai (b:=mb));replace I:=aM.open I;refine RH 0 E I hH U λa E=>?_;refine CL 0 E I (oh (I.pick (az B.core s.k))) λa w E I=>?_;replace U:=hH.at w (I.ai (b:=mb));replace I:=aM.fold I B p s;refine RH 0 E I hH U λa E=>?_;refine CL 0 E I (Lo (I.pick (aM W B p s))) λa w E I=>?_;replace U:=hH.at w (I.ai (b:=mb));refine RH 0 E I hH U λa E=>?_;refine CL 0 E I (nu (I.pick (aM W B p s))) λa w E I=>?_;replace I:=aM.open I;refine CL 0 E I (sG (I.pick (az B.core s.k)) hw.wc) λa w E I=>?_;obtain⟨D,I,hD⟩:=az.qu I;refine jD 0 E I (EY (r:=i) (to:=aF s.k) (.inr YS) (by omega) I fy bN iz hw.wc.mY gL (λw' dh=>(dh.pick (Sl 5 1 B.adT B.gs.table.length B.cT (bc B.gs.table))).cF B.adT _ rfl rfl)) λfS ga X a w E ⟨⟨sO,_⟩,I⟩=>?_;replace I:V W w (Qu B.core.qb B.core.aB s.k.ls::D::b0 fS (aF s.k-aU s.k.ls) ga (m0 X (aU s.k.ls) (aF s.k))::_):=I.sub (M:=Qu B.core.qb B.core.aB s.k.ls::D::b0 fS (aF s.k-aU s.k.ls) ga (m0 X (aU s.k.ls) (aF s.k))::aa B.pb 192 (gl p B s.g)::aA W p B.ao B.cO::Sl 5 1 B.adT B.gs.table.length B.cT (bc B.gs.table)::aa mb 177 (dT p ⟨mb,B,sq,r,tq,jq,dt,dF,ao,cO⟩ ks.length base (ax s.k))::aA W p ao cO::Sl 179 1 dt ks.length dF (gK ks)::ah (e0 p ao cO tq jq sq) ks::Tree tq sq T1::aw sq r A1::bC jq J::L);replace I:=aM.fold (hD _ _ I) B p s;have so:=Al X (aU s.k.ls) (aF s.k);obtain⟨Fc,LK⟩:=Zm (fr:=aU s.k.ls) sO;generalize hPe:m0 X (aU s.k.ls) (aF s.k)=P at I so Fc LK;rw[← so]at E I;obtain⟨zs,c5,eN,I⟩:=b0.open (I.pick (b0 fS P.length ga P));have AA:=(I.sl fS).2;replace I:=I.sub (M:=aa mb 177 (dT p ⟨mb,B,sq,r,tq,jq,dt,dF,ao,cO⟩ ks.length base (ax s.k))::Tree tq sq T1::Sl 22 1 fS P.length ga (zs.map aI)::ah a7 zs::aM W B p s::aA W p ao cO::Sl 179 1 dt ks.length dF (gK ks)::ah (e0 p ao cO tq jq sq) ks::aw sq r A1::bC jq J::L);refine RN 1 E I λa E=>?_;refine BY 6 E I (λbP a E=>?_) λbP a E=>?_
  ·
   have kh:¬ ax s.k<aF s.k:=by rw[ax];omega
   refine RN 7 E I λa E=>?_;exact⟨T.most-(i+1),by omega,i+1,A1,T1,⟨rfl,by omega,nv.skip λh=>absurd h kh⟩,E.ab [0,12,13],I.sub⟩
  have LL:P≠[]:=λe=>by rw[e]at bP;exact bP rfl
  refine bd 2 E I (Zj (M:=⟨mb,B,sq,r,tq,jq,dt,dF,ao,cO⟩) (T:=T1) (P:=P) I ⟨zs,c5,λw' h=>V.lS (h.sub (M:=Sl 22 1 fS P.length ga (zs.map aI)::ah a7 zs::[]))⟩ (by omega)) λq a w E ⟨hq,I⟩=>?_;refine IF 1 E I (λan a E=>?_) λan a E=>?_
  ·
   refine RN 2 E I λa E=>?_;exact⟨T.most-(i+1),by omega,i+1,A1,T1,⟨rfl,by omega,nv.skip λ_=>hq an⟩,E.ab [0,12,13],I.sub⟩
  refine bL 0 [7,11] [0,1,2,4,5,6,8,9,10,12,3003,3007,1011,1013] E I λa w E I hH U=>?_;refine RH 13 E I hH U λa E=>?_;refine a2 0 E I (Zn (i:=Zq) (px:=px) (id:=base) (P:=P) (zs:=zs) ((I.store sq).tree tq) (λw' h=>V.lS (h.sub (M:=Sl 22 1 fS P.length ga (zs.map aI)::ah a7 zs::[]))) c5 AA ⟨by omega,λb hb=>by have:=Fc b hb;omega⟩ LL ha kE (by omega) (by omega)) λz ok a w E Zr=>?_;obtain⟨A2,T2,Zs,I⟩:∃ (A2:Sn) (T2:Tr),rh p s t base A T (i+1) (ks.map (·.1)) A2 T2∧V W w (aa mb 177 (dT p ⟨mb,B,sq,r,tq,jq,dt,dF,ao,cO⟩ ks.length base (ax s.k))::aM W B p s::aA W p ao cO::Sl 179 1 dt ks.length dF (gK ks)::ah (e0 p ao cO tq jq sq) ks::Tree tq sq T2::aw sq r A2::bC jq J::L):=by
   rcases Zr with ⟨ri,I⟩ | I
   ·exact⟨A1,T1,nv.skip λ_=>ri.resolve_left (by rw[nv.most];omega),I.sub⟩
   ·exact⟨_,_,nv.push Au re ha kE LL so (λj hj=>by rw[Fc j hj,ff]) LK,I.sub⟩
  refine RN 2 E I λa E=>?_;exact⟨T.most-(i+1),by omega,i+1,A2,T2,⟨rfl,by omega,Zs⟩,E.ab [0,12,13],I.sub⟩
 refine aY 1 (λw0 w'=>Rd w' mb 0 (dT p ⟨mb,B,sq,r,tq,jq,dt,dF,ao,cO⟩ ks.length base (ax s.k))) [7,8] [0,1,2,4,5,6,3003,1007,1008,1009] E I λa w E I hH=>?_;have U:=hH.at w (I.ai (b:=mb));refine RH 6 E I hH U λa E=>?_;refine QH E (λw hc=>ag E (hc 5 _ rfl)) U λa E=>?_;refine RH 0 E I hH U λa E=>?_;refine SS E (ag E (U 4 _ rfl)) λa E=>?_;refine RH 0 E I hH U λa E=>?_;refine CL 0 E I (y9 (I.tree tq)) λa w E I=>?_;replace U:=hH.at w (I.ai (b:=mb));refine RH 0 E I hH U λa E=>?_;refine CL 0 E I (Uh (I.tw jq) kf) λa w E I=>?_;change V W w (bC jq (py T1 (kept (λj=>decide (j.2<(T1.epoch:Int))) J) 0)::_) at I;refine a2 5 E I (za (I.tree tq)) λsU qd a w E I=>?_;obtain⟨xs,h1,h2,I⟩:=ky.open I;have ch:xs.length=T1.l.length:=by rw[← h1,bf]
 have re:=Tree.wt (I.tree tq);have hT8:=re.most;obtain rfl:i=T.most:=by omega
 have Zt:=LJ (λj=>decide (j.2<(T1.epoch:Int))) kf;refine RN 2 E I λa E=>?_;refine aS (λμ a w=>∃ (v:Nat),(μ=T1.l.length-v∧v≤T1.l.length)∧Fr a 98 [(0,pt mb),(72,.slice sU T1.l.length qd),(73,.int .i64 T1.l.length),(74,.int .i64 v)]∧V W w (bC jq (py T1 (kept (λj=>decide (j.2<(T1.epoch:Int))) J) v)::Sl 238 5 sU T1.l.length qd (rows c9 xs)::ah bR xs::aa mb 177 (dT p ⟨mb,B,sq,r,tq,jq,dt,dF,ao,cO⟩ ks.length base (ax s.k))::aM W B p s::aA W p ao cO::Sl 179 1 dt ks.length dF (gK ks)::ah (e0 p ao cO tq jq sq) ks::Tree tq sq T1::aw sq r A1::L)) (T1.l.length) (⟨0,⟨rfl,by omega⟩,E.ab [0,72,73,74],I.sub⟩) ?_;clear E I;rintro μ a w ⟨v,⟨xd,hv⟩,E,I⟩;refine IF 3 E I (λay a E=>?_) λay a E=>?_
 ·
  obtain⟨b',dG,rfl,cK⟩:=I.bY sU (by omega);obtain⟨⟨x,eH,de⟩,dV⟩:∃ y,xs[v]?=some y:=⟨_,aO (by omega)⟩;have fP:=nM cK dV;have iW:T1.l[v]?=some x:=by rw[← h1,bn,dV];rfl
  have sj:=Zl (J:=kept (λj=>decide (j.2<(T1.epoch:Int))) J) iW;have Zu:=LI Zt (T:=T1) v;refine RN 3 E I λa E=>?_;refine SS E (bO E underlying238 rfl Ty.t238 (fP)) λa E=>?_;refine AL 0 E I λb5 a w E I=>?_;refine SA 0 E I λa w E I=>?_;refine IF 7 E I (λbg a E=>?_) λbg a E=>?_
  ·
   rw[al (by omega)]at sj;refine aY 0 (λw0 w'=>Rd w' mb 0 (dT p ⟨mb,B,sq,r,tq,jq,dt,dF,ao,cO⟩ ks.length base (ax s.k))∧Rd w' b5 0 (b6 x eH de)) [5,9,10,11] [0,1,2,4,6,7,8,3003,3005,1009,1010,1011,1012] E I λa w E I hH=>?_;have U:=hH.at w ⟨I.ai (b:=mb),I.ai (b:=b5)⟩;refine RH 7 E I hH U λa E=>?_;refine QH E (λw hc=>ag E (hc.1 5 _ rfl)) U λa E=>?_;refine QH E (λw hc=>ag E (hc.2 0 _ rfl)) U λa E=>?_;refine RH 0 E I hH U λa E=>?_;refine SS E (ag E (U.1 4 _ rfl)) λa E=>?_;refine RH 0 E I hH U λa E=>?_;refine CL 0 E I (y9 (I.tree tq)) λa w E I=>?_;replace U:=hH.at w ⟨I.ai (b:=mb),I.ai (b:=b5)⟩;refine RH 1 E I hH U λa E=>?_;refine CL 0 E I (ze (I.tw jq) Zu) λa w E I=>?_;change V W w (bC jq (lu (py T1 (kept (λj=>decide (j.2<(T1.epoch:Int))) J) v) x.id T1.epoch)::_) at I;refine RN 2 E I λa E=>?_;exact⟨T1.l.length-(v+1),by omega,v+1,⟨rfl,by omega⟩,E.ab [0,72,73,74],by rw[sj];exact I.sub⟩
  rw[ae (by omega)]at sj;refine RN 2 E I λa E=>?_;exact⟨T1.l.length-(v+1),by omega,v+1,⟨rfl,by omega⟩,E.ab [0,72,73,74],by rw[sj];exact I.sub⟩
 refine RT 0 E I ?_;obtain rfl:v=T1.l.length:=by omega
 rw[show py T1 (kept (λj=>decide (j.2<(T1.epoch:Int))) J) T1.l.length=x9 T1 J from rfl]at I;exact⟨A1,T1,rfl,nv,(aD.fold I ⟨mb,B,sq,r,tq,jq,dt,dF,ao,cO⟩ p ⟨s,A1,T1,x9 T1 J,ks,base,ax s.k⟩).sub⟩
structure Fe (p:Pr)(m m':Mu)(t':Nat→Nat):Prop where
 inv:Inv p (ax m.s.k:Int) m.s.g t' m'.base m'.A m'.T (m'.ks.map (·.1))
 s:m'.s=m.s
 front:m'.front=ax m.s.k
 fY:uh m.s.k m'.T
 J:m'.J.length≤16
 room:m'.A.room=m.A.room
 n:m'.A.n≤m.A.n+9
 last:m'.T.last≤m.T.last+8
 most:m'.T.most=m.T.most
 rE:m'.T.epoch≤m.T.epoch+3
 ks:m'.ks.length=m.ks.length
 has:0<m.T.most→ax m.s.k<aF m.s.k→m'.T.l≠[]
 tw:m'.J=x9 m'.T m.J
 ab:m.front=ax m.s.k→(∀ y∈m.T.l,jh m.s.k.ls (ax m.s.k) y.ak=true)→m'.ks=m.ks∧m'.T.epoch=m.T.epoch∧∃ l,m'.T.l=m.T.l++l∧∀ y∈l,y.done=0∧y.ak≠[]∧y.ak.length=aF m.s.k-ax m.s.k
theorem Zv (I:V W w (aD W M p m::L))(cd:m.s.k.cl=true) :
   Calls prog 271 #[pt M.mb] w λe w'=>e=.returned (.tuple #[])∧V W w' (aD W M p m::L):=by
 refine EN func271 ntmps271 rfl rfl λa E=>?_;refine RN 5 E I λa E=>?_;replace E:=E.aN 4;refine CL 1 E I (x7 I) λa w E I=>?_;rw[cd]at E;refine RN 1 E I λa E=>?_;replace E:=E.eo 7;refine RT 1 E I ?_;exact⟨rfl,I⟩
theorem Zw (I:V W w (aD W M p m::L))(hw:cx p m.s)(hg:dP m.s.g)(cd:m.s.k.cl=false)(hI:Inv p (m.front:Int) g0 t m.base m.A m.T (m.ks.map (·.1)))(fq:m.front=ax m.s.k→g0=m.s.g)
   (fy:c1 M.B.gs) (eO:∀ y∈m.T.l,∀ j∈y.ak,j.length=m.s.k.n) (kf:m.J.length≤16) (pq:m.s.k.cr=(m.T.most:Int))
   (he:m.T.epoch+10<1099511627776) (hn:m.A.n+20<1099511627776) (hl:m.T.last+20<1099511627776) (h4:m.ks.length≤4) (q9:12≤m.A.room) :
   Calls prog 271 #[pt M.mb] w λe w'=>∃ (m':Mu) (t':Nat→Nat),e=.returned (.tuple #[])∧Fe p m m' t'∧V W w' (aD W M p m'::L):=by
 have gL:=hw.wc.lG;have jt:=hw.wc.nq;refine EN func271 ntmps271 rfl rfl λa E=>?_;refine RN 5 E I λa E=>?_;replace E:=E.aN 4;refine CL 1 E I (x7 I) λa w E I=>?_;rw[cd]at E;refine RN 1 E I λa E=>?_;replace E:=E.aN 7;refine a2 3 E I (Y3 I hw hg hI fq (by omega) (by omega) h4 q9) λZx t1 a w E ⟨hM,I⟩=>?_;refine RN 0 E I λa E=>?_;obtain⟨s1,A1,T1,aen,kO,LM,aeo⟩:=Zx;obtain⟨vW,e1,e2,e3,fa,mV,kx,gH,gv,gV,LN,ki⟩:=hM;simp only at vW e1 e2 e3 fa mV kx gH gv gV LN ki;subst e1 e2 e3;have LO:∀ y∈T1.l,∀ j∈y.ak,j.length=m.s.k.n:=by
  rcases LN with ⟨e,_⟩ | e
  ·rw[e];exact eO
  ·rw[e];intro y hy;cases hy
 have kF:=Tree.wt ((aD.open I).tree M.tq);have LP:=(aw.facts ((aD.open I).store M.sq)).1;dsimp only at kF LP;replace I:=aD.open I;dsimp only at I;refine jE 7 E I (Ls (kp:=λx=>jh m.s.k.ls (ax m.s.k) x.ak) (ws:=[pt M.mb]) ((I.store M.sq).tree M.tq) (by omega) (by kernel_rfl) (λN w' x av c' Ar h1 hN hx _ dm=>by
  have o2:=hN.h;obtain⟨K,hp⟩:=o2;have hR:=hp.trans List.perm_append_comm;have hof:=dm.1;have xY:=(vW.fY x Ar).1;refine (Zi (M:=M) (Z:=aA W p M.ao M.cO::Sl 179 1 M.dt kO.length M.dF (gK kO)::ah (e0 p M.ao M.cO M.tq M.jq M.sq) kO::bC M.jq m.J::(L++K)) (h1.perm hR) hw (hx.imp λzs h=>⟨h.1,λng h2=>h.2 _ (h2.perm hR.symm)⟩) xY (LO x Ar) (by omega)).mono λe ng ⟨h3,h4⟩=>⟨h3,h4.perm hR.symm⟩)) ?_
 clear E I;rintro e w ⟨⟨_,rfl⟩,I⟩;refine⟨_,rfl,λa E=>?_⟩;have oq:=vW.cut LP (λx=>!jh m.s.k.ls (ax m.s.k) x.ak);have sS:=Aq (T1.l.filter λx=>!jh m.s.k.ls (ax m.s.k) x.ak) A1;have LQ:uh m.s.k (T1.cut λx=>!jh m.s.k.ls (ax m.s.k) x.ak):=λy hy=>by
  obtain⟨h1,h2⟩:=List.mem_filter.1 hy;exact⟨LO y h1,by simpa using h2⟩
 have E4:(T1.cut λx=>!jh m.s.k.ls (ax m.s.k) x.ak).epoch≤T1.epoch+1:=by simp only[Tr.cut];split <;> omega
 have mL:(∀ y∈T1.l,jh m.s.k.ls (ax m.s.k) y.ak=true)→(T1.cut λx=>!jh m.s.k.ls (ax m.s.k) x.ak).l=T1.l∧(T1.cut λx=>!jh m.s.k.ls (ax m.s.k) x.ak).epoch=T1.epoch:=λh=>by
  have h1:T1.l.filter (λx=>!!jh m.s.k.ls (ax m.s.k) x.ak)=T1.l:=List.filter_eq_self.2 λy hy=>by rw[h y hy];rfl
  simp only[Tr.cut,h1];exact⟨trivial,by rw[ae (Nat.lt_irrefl _)];rfl⟩
 have Av:(T1.cut λx=>!jh m.s.k.ls (ax m.s.k) x.ak).most=T1.most∧(T1.cut λx=>!jh m.s.k.ls (ax m.s.k) x.ak).last=T1.last:=⟨rfl,rfl⟩;generalize (T1.cut λx=>!jh m.s.k.ls (ax m.s.k) x.ak)=T2 at I oq LQ E4 Av mL;generalize A1.gJ (T1.l.filter λx=>!jh m.s.k.ls (ax m.s.k) x.ak)=A2 at I oq sS;replace I:=aD.fold I M p ⟨m.s,A2,T2,m.J,kO,LM,ax m.s.k⟩;refine a2 1 E I (Zo I hw oq rfl fy LQ kf (by dsimp only;rw[Av.1,gH];exact pq) (by dsimp only;omega) (by dsimp only;omega)) λA3 T3 a w E ⟨nv,I⟩=>?_;refine RT 0 E I ?_;obtain⟨dD,dU,a3,a4,a5,LR,LS,rf,a9⟩:=nv;have h8:=kF.most.1;dsimp only at *;exact⟨⟨m.s,A3,T3,x9 T3 m.J,kO,LM,ax m.s.k⟩,t1,rfl,⟨dD,rfl,rfl,dU,LI (LJ _ kf) _,by simp only;omega,by simp only;omega,by simp only;omega,by simp only;omega,by simp only;omega,gV,λh1 h2=>a9 (by omega) h2,rfl,λe h=>by
  obtain⟨q1,q2,DA⟩:=ki e;obtain⟨DB,Jm⟩:=mL (by rw[q1];exact h);obtain⟨l,Zy,Zz⟩:=rf;refine⟨DA,by rw[LS,Jm,q1],l,by rw[Zy,DB,q1],Zz⟩⟩,I⟩
end
end
section
structure lg (p:Pr)(s s':Pl):Prop where
 wf:cx p s'
 q5:ax s'.k=ax s.k→s'.g=s.g
 cf:e4 s'.k=e4 s.k
 ls:s'.k.cl=true→s'.k.ls=s.k.ls
section
variable {p:Pr}{s:Pl}{k:Ks}{x:UInt8}{bs:List UInt8}
theorem lg.mk' {k':Ks}(h:cx p s)(hw:WC k')(hh:held k')(hm:k'.mr=s.k.mr)(he:Ext s.k.ls k'.ls)(df:e4 k'=e4 s.k)(hl:k'.cl=true→k'.ls=s.k.ls):lg p s (ey p ⟨k',s.g⟩):=by
 have h1:=h.toWP.more hw hh hm he;obtain⟨h2,h3,ps,ev,mr,h4⟩:=h1.ey;refine⟨h2,λhf=>?_,?_,λhc=>?_⟩
 ·have e1:(ey p ⟨k',s.g⟩).g=k8 p k'.ls (ax s.k):=by rw[h2.q5,h2.full,hf,h3]
  have e2:s.g=k8 p s.k.ls (ax s.k):=by have:=h.q5;rwa [h.full]at this
  exact e1.trans ((he.k8 (bh _)).trans e2.symm)
 ·rw[h4];exact df
 ·rw[h3];rw[h4]at hc;exact hl hc
theorem LU:e4 (c3 x k).2=e4 k∧((c3 x k).2.cl=true→(c3 x k).2.ls=k.ls):=by
 by_cases h0:(c3 x k).1=0
 ·obtain⟨h1,h2,h3,h4⟩:=tV h0;rw[h4];exact⟨rfl,λhc=>by rw[show k.cl=true from hc]at h1;cases h1⟩
 ·rw[tW h0];exact⟨rfl,λ_=>rfl⟩
theorem ZA {q:Pk}(h:k.cl=false):e4 (fR k q)=e4 k∧((fR k q).cl=true→(fR k q).ls=k.ls):=by
 unfold fR;split
 ·exact⟨rfl,λ_=>rfl⟩
 ·obtain⟨ps,ev,h1,_⟩:=vH { k with ls:=k.ls.set q.aV.toNat (dr (k.ls.getD q.aV.toNat []) q.first.toNat q.ak),ps:=k.ps.set q.aV.toNat (fQ k.now (aF k) q (au k q.aV.toNat)) };rw[h1];exact⟨rfl,λhc=>by rw[show k.cl=true from hc]at h;cases h⟩
theorem LV:e4 (dB bs k).2=e4 k∧((dB bs k).2.cl=true→(dB bs k).2.ls=k.ls):=by
 by_cases h0:(dB bs k).1=0
 ·obtain⟨q,h1,h2,h3,h4,h5,h6⟩:=Ab h0;rw[h6];exact ZA h2
 ·rw[vJ h0];exact⟨rfl,λ_=>rfl⟩
theorem lg.ak (h:cx p s)(x:UInt8):lg p s (dI p x s).2:=lg.mk' h (h.wc.ak x) (h.held.ak x) (tX x s.k).1 (tX x s.k).2 LU.1 LU.2
theorem lg.recv (h:cx p s)(bs:List UInt8):lg p s (dJ p bs s).2:=lg.mk' h (h.wc.recv bs).1 ((h.wc.recv bs).2 h.held) (q6 bs s.k).1 (q6 bs s.k).2 LV.1 LV.2
end
structure MI (p:Pr)(M:jg)(N:Nat)(m:Mu):Prop where
 wf:cx p m.s
 gs:c1 M.B.gs
 front:m.front=ax m.s.k
 inv:∃ t,Inv p (ax m.s.k:Int) m.s.g t m.base m.A m.T (m.ks.map (·.1))
 fY:uh m.s.k m.T
 J:m.J.length≤16
 most:m.s.k.cr=(m.T.most:Int)
 workers:m.s.k.workers=(m.ks.length:Int)
 ks:m.ks.length≤4
 room:(m.A.room:Int)=4*m.s.k.room∧12≤m.A.room
 n:m.A.n≤N∧m.T.last≤N∧m.T.epoch≤N
section
variable {W w:World}{L:List SP}{n c N front:Nat}{ad:Option Addr}{M:jg}{B:iO}{x:UInt8}{p:Pr}{s s':Pl}{m:Mu}{bs:List UInt8}{cf:Cf}{g0:Nat→Int}{t:Nat→Nat}
theorem MI.more {N':Nat}(h:MI p M N m)(hN:N≤N'):MI p M N' m:={ h with n:=⟨gO h.n.1 hN,gO h.n.2.1 hN,gO h.n.2.2 hN⟩ }
theorem MI.same (h:MI p M N m)(hw:cx p s')(hg:s'.g=m.s.g)(hl:s'.k.ls=m.s.k.ls)(hc:e4 s'.k=e4 m.s.k):MI p M N { m with s:=s' }:=by
 have hf:ax s'.k=ax m.s.k:=by rw[ax,ax,hl]
 simp only[e4,Cf.mk.injEq]at hc;obtain⟨eF,c2,dz,g9,dH,nO,qx,qY,Ff,zk⟩:=hc;have hn:s'.k.n=m.s.k.n:=by omega
 exact { wf:=hw,gs:=h.gs,front:=by rw[hf];exact h.front,inv:=by obtain⟨t,ht⟩:=h.inv;exact⟨t,by rw[hf,hg];exact ht⟩,fY:=λy hy=>by rw[hn,hl,hf];exact h.fY y hy,J:=h.J,most:=by rw[qY];exact h.most,workers:=by rw[Ff];exact h.workers,ks:=h.ks,room:=by rw[zk];exact h.room,n:=h.n }
theorem LW (I:V W w (aD W M p { m with s:=s' }::L))(h:MI p M N m)(hx:lg p m.s s')(aZ:dj p)(hN:N≤1000000000000) :
   Calls prog 271 #[pt M.mb] w λe w'=>∃ m':Mu,e=.returned (.tuple #[])∧(m'.s=s'∧MI p M (N+20) m'∧(s'.k.cl=false→∃ t',Fe p { m with s:=s' } m' t'))∧V W w' (aD W M p m'::L):=by
 obtain⟨mV,o0,ZB⟩:=h.n;have hc:=hx.cf;cases cd:s'.k.cl with
 | true =>
  have hl:=hx.ls cd;refine (Zv I cd).mono λe w' ⟨he,I⟩=>⟨_,he,⟨rfl,(h.same hx.wf (hx.q5 (by rw[ax,ax,hl])) hl hc).more (by omega),λe=>(by cases e)⟩,I⟩
 | false =>
  obtain⟨t,ht⟩:=h.inv;simp only[e4,Cf.mk.injEq]at hc;obtain⟨eF,c2,dz,g9,dH,nO,qx,qY,Ff,zk⟩:=hc;have hn:s'.k.n=m.s.k.n:=by omega
  refine (Zw (g0:=m.s.g) (t:=t) I hx.wf (hx.wf.ph aZ) cd (by rw[← h.front]at ht;exact ht) (λe=>(hx.q5 (by rw[← h.front];exact e.symm)).symm) h.gs (λy hy j hj=>by dsimp only;rw[hn];exact (h.fY y hy).1 j hj) h.J (by dsimp only;rw[qY];exact h.most) (by dsimp only;omega) (by dsimp only;omega) (by dsimp only;omega) h.ks h.room.2).mono λe w' ⟨m',t',he,hr,I⟩=>⟨m',he,⟨hr.s,?_,λ_=>⟨t',hr⟩⟩,I⟩;obtain⟨dD,dU,a3,a4,a5,LR,LS,rf,a9,b1,b2,b3,b4,b5⟩:=hr;dsimp only at *;exact { wf:=by rw[dU];exact hx.wf,gs:=h.gs,front:=by rw[dU];exact a3,inv:=⟨t',by rw[dU];exact dD⟩,fY:=by rw[dU];exact a4,J:=a5,most:=by rw[dU,qY,a9];exact h.most,workers:=by rw[dU,Ff,b2];exact h.workers,ks:=by rw[b2];exact h.ks,room:=by rw[dU,zk,LR];exact h.room,n:=⟨by omega,by omega,by omega⟩ }
theorem ZC (I:V W w (aD W M p m::L))(h:MI p M N m)(aZ:dj p)(aE:p.title.size≤1000000000)(hN:N≤1000000000000) :
   Calls prog 267 #[pt M.mb,.int .u8 (x.toNat:Nat)] w λe w'=>∃ m':Mu,e=.returned (.int .i64 (dI p x m.s).1)∧(m'.s=(dI p x m.s).2∧MI p M (N+20) m'∧((dI p x m.s).2.k.cl=false→∃ t',Fe p { m with s:=(dI p x m.s).2 } m' t'))∧V W w' (aD W M p m'::L):=by
 refine EN func267 ntmps267 rfl rfl λa E=>?_;refine CL 4 E I (sQ I) λa w E I=>?_;refine RN 1 E I λa E=>?_;replace I:=aD.open I;refine CL 0 E I (K7 (I.pick (aM W M.B p m.s)) h.wf aZ aE) λa w E I=>?_;replace I:=aD.fold I M p { m with s:=(dI p x m.s).2 };refine bd 3 E I (LW I h (lg.ak h.wf x) aZ hN) λm' a w E ⟨hm,I⟩=>?_;refine RT 3 E I ?_;exact⟨m',rfl,hm,I⟩
theorem ZD (I:V W w (aD W M p m::L))(h:MI p M N m)(aZ:dj p)(aE:p.title.size≤1000000000)(hN:N≤1000000000000)(hb:bs.length≤65536)(hc:bs.length≤c)(hp:∀ w',V W w' L→a6 w' ad bs.length bs) :
   Calls prog 269 #[pt M.mb,.slice ad bs.length c] w λe w'=>∃ m':Mu,e=.returned (.int .i64 (dJ p bs m.s).1)∧(m'.s=(dJ p bs m.s).2∧MI p M (N+20) m')∧V W w' (aD W M p m'::L):=by
 refine EN func269 ntmps269 rfl rfl λa E=>?_;refine CL 4 E I (sQ I) λa w E I=>?_;refine RN 1 E I λa E=>?_;replace I:=aD.open I;refine CL 0 E I (K8 (bs:=bs) (I.pick (aM W M.B p m.s)) h.wf aZ aE hb hc (λw' hw=>hp w' hw.sub)) λa w E I=>?_;replace I:=aD.fold I M p { m with s:=(dJ p bs m.s).2 };refine bd 3 E I (LW I h (lg.recv h.wf bs) aZ hN) λm' a w E ⟨⟨gH,j1,_⟩,I⟩=>?_;refine RT 3 E I ?_;exact⟨m',rfl,⟨gH,j1⟩,I⟩
end
end
section
theorem Fg (k:Ks):e4 (bm k).2=e4 k:=by
 rcases vL k with h1 | ⟨hc,h1 | ⟨i,hi,h1⟩⟩ <;> rw[h1] <;> rfl
theorem Fh (k:Ks):e4 (cu k).2=e4 k:=by
 unfold cu;split <;> rfl
section
variable {W w:World}{L:List SP}{n c i N tq sq r base front:Nat}{ad:Option Addr}{M:jg}{B:iO}{p:Pr}{s:Pl}{m:Mu}{A:Sn}{T:Tr}{t:Nat→Nat}{px:aC}{y:Int}
theorem ZE (I:V W w (aD W M p m::L))(h:MI p M N m)(oI:m.s.k.now≤1000000):Calls prog 270 #[pt M.mb] w λr w'=>∃ ad c,r=.returned (.slice ad (bm m.s.k).1.length c)∧MI p M N { m with s:=⟨(bm m.s.k).2,m.s.g⟩ } ∧
   V W w' (cv 124 ad (bm m.s.k).1.length c (bm m.s.k).1::aD W M p { m with s:=⟨(bm m.s.k).2,m.s.g⟩ }::L):=by
 refine EN func270 ntmps270 rfl rfl λa E=>?_;refine CL 4 E I (sQ I) λa w E I=>?_;replace I:=aD.open I;refine a2 0 E I (K9 (I.pick (aM W M.B p m.s)) h.wf oI) λad c a w E I=>?_;refine RT 1 E I ?_;exact⟨ad,c,rfl,h.same h.wf.tick rfl (Ad _).2 (Fg _),(aD.fold I M p { m with s:=⟨(bm m.s.k).2,m.s.g⟩ }).sub⟩
theorem ZF (I:V W w (aD W M p m::L))(h:MI p M N m):Calls prog 268 #[pt M.mb] w λr w'=>∃ ad c,r=.returned (.slice ad (cu m.s.k).1.length c)∧MI p M N { m with s:=⟨(cu m.s.k).2,m.s.g⟩ } ∧
   V W w' (cv 124 ad (cu m.s.k).1.length c (cu m.s.k).1::aD W M p { m with s:=⟨(cu m.s.k).2,m.s.g⟩ }::L):=by
 refine EN func268 ntmps268 rfl rfl λa E=>?_;refine CL 4 E I (sQ I) λa w E I=>?_;replace I:=aD.open I;refine a2 0 E I (La (I.pick (aM W M.B p m.s)) h.wf) λad c a w E I=>?_;refine RT 1 E I ?_;exact⟨ad,c,rfl,h.same h.wf.ob rfl (Eg _).2 (Fh _),(aD.fold I M p { m with s:=⟨(cu m.s.k).2,m.s.g⟩ }).sub⟩
theorem ZG (I:V W w (aD W M p m::L))(h:MI p M N m):Calls prog 266 #[pt M.mb] w λr w'=>∃ ad c,r=.returned (.slice ad m.s.k.ev.length c)∧MI p M N { m with s:=⟨{ m.s.k with ev:=[] },m.s.g⟩ } ∧
   V W w' (Sl 135 1 ad m.s.k.ev.length c (m.s.k.ev.map cy)::aD W M p { m with s:=⟨{ m.s.k with ev:=[] },m.s.g⟩ }::L):=by
 refine EN func266 ntmps266 rfl rfl λa E=>?_;refine CL 4 E I (sQ I) λa w E I=>?_;replace I:=aD.open I;refine a2 0 E I (Lb (I.pick (aM W M.B p m.s))) λad c a w E I=>?_;refine RT 1 E I ?_;exact⟨ad,c,rfl,h.same h.wf.told rfl rfl rfl,(aD.fold I M p { m with s:=⟨{ m.s.k with ev:=[] },m.s.g⟩ }).sub⟩
theorem ZH (I:V W w (aD W M p m::L))(h:MI p M N m):Calls prog 264 #[pt M.mb] w λr w'=>∃ ad c,r=.returned (.tuple #[.slice ad 128 c,.int .i64 (la m.s).2])∧V W w' (Sl 5 1 ad 128 c (bc (la m.s).1)::aD W M p m::L):=by
 have bN:=h.wf.wc.kL;have iz:m.s.k.ls.length≤8:=by rw[h.wf.wc.ls];exact h.wf.wc.n.2
 obtain⟨t,hI⟩:=h.inv;obtain⟨i,px,ha,kE⟩:=hI.lU (mem_cons_self ..);have sf:=(hI.base px (bE ha) kE).1;replace I:=aD.open I;rw[h.front]at I;refine EN func264 ntmps264 rfl rfl λa E=>?_;refine aY 5 (λw0 w'=>Rd w' M.mb 0 (dT p M m.ks.length m.base (ax m.s.k))) [8,9,10] [0,1,2,3,4,5,7,3006,1008,1009,1010,11,12] E I λa w E I hH=>?_;have U:=hH.at w (I.ai (b:=M.mb));refine RH 3 E I hH U λa E=>?_;replace E:=E.aN 6;refine RH 4 E I hH U λa E=>?_;refine QH E (λw hc=>ag E (hc 8 _ rfl)) U λa E=>?_;rw[← h.front]at I;replace I:=aD.fold I M p m;refine RH 0 E I hH U λa E=>?_;refine CL 0 E I (Ap I) λa w E I=>?_;replace U:=hH.at w (by have h9:=(aD.open I).ai (b:=M.mb);rw[h.front]at h9;exact h9);replace I:=aM.open ((aD.open I).pick (aM W M.B p m.s));rw[h.front]at I;refine RH 0 E I hH U λa E=>?_;refine CL 0 E I (oh (I.pick (az M.B.core m.s.k))) λa w E I=>?_;replace U:=hH.at w (I.ai (b:=M.mb));obtain⟨D,I,hD⟩:=az.qu I;refine RH 0 E I hH U λa E=>?_;refine CL 0 E I (q3 I bN iz) λa w E I=>?_;replace U:=hH.at w (I.ai (b:=M.mb));refine RH 1 E I hH U λa E=>?_;rw[show decide (((ax m.s.k:Nat):Int)≠((aU m.s.k.ls:Nat):Int))=false from Iz]at E;refine RH 1 E I hH U λa E=>?_;replace I:=aM.fold (hD _ _ I) M.B p m.s;rw[← h.front]at I;replace I:=aD.fold I M p m;replace E:=E.aN 16;refine RN 2 E I λa E=>?_;replace I:=aD.open I;refine aY 0 (λw0 w'=>Rd w' M.mb 0 (dT p M m.ks.length m.base m.front)) [5,6,10,11] [0,1,2,3,7,8,9,3004,3010,1005,1006,1011,12] E I λa w E I hH=>?_;have U:=hH.at w (I.ai (b:=M.mb));refine RH 7 E I hH U λa E=>?_;refine QH E (λw hc=>ag E (hc 7 _ rfl)) U λa E=>?_;refine QH E (λw hc=>ag E (hc 8 _ rfl)) U λa E=>?_;replace I:=aD.fold I M p m;refine RH 0 E I hH U λa E=>?_;refine CL 0 E I (E2 I ha kE) λa w E I=>?_;replace U:=hH.at w ((aD.open I).ai (b:=M.mb));refine RH 0 E I hH U λa E=>?_;refine a2 0 E I (xH I) λad c a w E I=>?_;replace U:=hH.at w ((aD.open I.tail).ai (b:=M.mb));refine RH 2 E I hH U λa E=>?_;refine RT 0 E I ?_;rw[sf]at I;exact⟨ad,c,by rw[h.front];rfl,I⟩
theorem ZI (I:V W w (aD W M p m::L))(hc:m.s.k.cl=true∨y<0∨(m.ks.length:Int)≤y)(h4:m.ks.length≤4) :
   Calls prog 62 #[pt M.mb,.int .i64 y] w λe w'=>e=.returned (.bool false)∧V W w' (aD W M p m::L):=by
 refine EN func62 ntmps62 rfl rfl λa E=>?_;refine RN 7 E I λa E=>?_;replace E:=E.aN 7;refine CL 1 E I (x7 I) λa w E I=>?_;replace I:=aD.open I;refine BY 2 E I (λjM a E=>?_) λjM a E=>?_
 ·
  refine RT 15 E I ?_;exact⟨rfl,aD.fold I M p m⟩
 refine BY 4 E I (λlr a E=>?_) λlr a E=>?_
 ·
  refine RT 11 E I ?_;exact⟨rfl,aD.fold I M p m⟩
 refine IF 8 E I (λaj a E=>?_) λaj a E=>?_
 ·
  refine RT 2 E I ?_;exact⟨rfl,aD.fold I M p m⟩
 exact absurd hc (by rintro (h | h | h) <;> first | omega | (rw[h]at jM;cases jM))
theorem zi.ZJ {k:Ks}{J J':Js}{A A':Sn}{T T':Tr}(hn:zi A T J A' T' J')(h:uh k T):uh k T':=by
 intro y hy;have h1:(y.id,y.ak)∈T'.l.map (λy=>(y.id,y.ak)):=c8.2 ⟨y,hy,rfl⟩;rw[hn.l]at h1;obtain⟨z,hz,he⟩:=c8.1 h1;have h2:=h z hz;rw[(Prod.mk.inj he).2]at h2;exact h2
theorem ZK {k:Wk}{wb:Nat}(I:V W w (aD W M p m::L))(h:MI p M N m)(cd:m.s.k.cl=false)(hk:m.ks[i]?=some (k,wb))(aZ:dj p)(aE:p.title.size≤1000000000)(hN:N≤1000000000000) :
   Calls prog 62 #[pt M.mb,.int .i64 i] w λe w'=>∃ (z:Bool) (A':Sn) (T':Tr) (J':Js) (k':Wk),e=.returned (.bool z)∧(kW p m.A m.T m.J k z A' T' J' k'∧MI p M (N+1) { m with A:=A',T:=T',J:=J',ks:=m.ks.set i (k',wb) }) ∧
    V W w' (aD W M p { m with A:=A',T:=T',J:=J',ks:=m.ks.set i (k',wb) }::L):=by
 have aJ:=(a1.1 hk).1;have h4:=h.ks;obtain⟨t,hI⟩:=h.inv;obtain⟨mV,o0,ZB⟩:=h.n;have jt:=h.wf.wc.nq;have gL:=h.wf.wc.lG;refine EN func62 ntmps62 rfl rfl λa E=>?_;refine RN 7 E I λa E=>?_;replace E:=E.aN 7;refine CL 1 E I (x7 I) λa w E I=>?_;rw[cd]at E;refine RN 2 E I λa E=>?_;replace E:=E.aN 11;refine RN 4 E I λa E=>?_;replace I:=aD.open I;replace E:=E.aN 15;refine RN 8 E I λa E=>?_;rw[bq (by omega)]at E;refine RN 2 E I λa E=>?_;obtain⟨b',o',gU,cK⟩:=I.bY M.dt (by omega);refine RN 5 E I λa E=>?_;rw[gU]at E;refine RN 1 E I λa E=>?_;refine SS E (ag E (cK i _ (I9 hk))) λa E=>?_;refine jE 0 E I (VV (I.sub (M:=ah (e0 p M.ao M.cO M.tq M.jq M.sq) m.ks::Tree M.tq M.sq m.T::aw M.sq M.r m.A::bC M.jq m.J::aA W p M.ao M.cO::aa M.mb 177 (dT p M m.ks.length m.base m.front)::aM W M.B p m.s::Sl 179 1 M.dt m.ks.length M.dF (gK m.ks)::L)) hk hI ⟨by omega,by omega⟩ aZ aE (by omega) h.J) ?_;clear E I;rintro e w ⟨z,A',T',J',k',rfl,⟨tC,oq,ui⟩,I⟩;refine⟨_,rfl,λa E=>?_⟩;refine RT 1 E I ?_;have pH:(m.ks.set i (k',wb)).length=m.ks.length:=br ..;have ld:=ui.room;have hn4:=ui.n;have hn5:=ui.last;have hn6:=ui.epoch;refine⟨z,A',T',J',k',rfl,⟨tC,{ wf:=h.wf,gs:=h.gs,front:=h.front,inv:=⟨t,oq⟩,fY:=ui.ZJ h.fY,J:=ui.len h.J,most:=by dsimp only;rw[ui.most];exact h.most,workers:=by dsimp only;rw[pH];exact h.workers,ks:=by dsimp only;rw[pH];exact h4,room:=by dsimp only;rw[ld];exact h.room,n:=⟨by dsimp only;omega,by dsimp only;omega,by dsimp only;omega⟩ }⟩,?_⟩;rw[← Ja (k':=k') hk,← pH]at I;exact aD.fold I M p { m with A:=A',T:=T',J:=J',ks:=m.ks.set i (k',wb) }
end
end
end Go.Proofs.YteoldcfapaiobaaGreat
