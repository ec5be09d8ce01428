/- Package multi: a player that plays ahead. -/
import Derived.Test.YteoldcfapaiobaaGreatH06Ref
import Derived.Test.YteoldcfapaiobaaGreatH11Rank
import Derived.Test.YteoldcfapaiobaaGreatH04Job
import Derived.Test.YteoldcfapaiobaaGreatH05Vm
import Derived.Test.YteoldcfapaiobaaGreatH01Row
import Derived.Laws.StructEq
import Derived.ChangeKeysEq
namespace Go.Proofs.YteoldcfapaiobaaGreat
open Tryz
open List (all_eq_true foldl_cons nil_append map_cons length_nil mem_range getElem?_range getElem_map map_nil range_succ foldl_append map_singleton)
open Go.RowKit
set_option linter.unusedVariables false
set_option linter.unusedSimpArgs false
set_option maxRecDepth 10000
set_option synthInstance.maxSize 4000
set_option synthInstance.maxHeartbeats 400000
section
instance oy.fvB {P l x f ws args vs}[ex:Ev l (.tmp x) (.func (.func f) (List.toArray ws) #[])][ev:nG l args vs]:oy P l (.value (.tmp x)) args f (ws++vs):=⟨λhb a n w E _ _ _ _ _ _=>by
 simp[execOp,resolve,ex.ev a n E,Deferred.ofValue,invoke,ev.ev a n E,Aj hb]⟩
structure jF where
 mb:Nat
 B:jk
 sq:Nat
 r:Nat
 tq:Nat
 jq:Nat
 dy:Option Addr
 dF:Nat
 an:Option Addr
 cO:Nat
structure Mu where
 s:Pl
 A:Sn
 T:Tr
 J:Js
 ks:List Kx
 base:Nat
 front:Nat
abbrev dW (p:Pr)(M:jF)(nk base front:Nat):List Value:=[pt M.B.pb,.string p.title,.slice M.an p.ops.length M.cO,pt M.sq,pt M.tq,pt M.jq,.slice M.dy nk M.dF,.int .i64 base,.int .i64 front]
abbrev zy (W:World)(M:jF)(p:Pr)(m:Mu):List SP:=[aa M.mb 177 (dW p M m.ks.length m.base m.front),aP W M.B p m.s,az W p M.an M.cO,Sl 179 1 M.dy m.ks.length M.dF (gR m.ks),ah (fc p M.an M.cO M.tq M.jq M.sq) m.ks,Tree M.tq M.sq m.T,ax M.sq M.r m.A,bL M.jq m.J]
def aG (W:World)(M:jF)(p:Pr)(m:Mu):SP:=λh=>cp (zy W M p m) h
section
variable {W w:World}{L R:List SP}{M:jF}{B:jk}{p:Pr}{s:Pl}{m:Mu}
theorem aG.open (I:U W w (aG W M p m::L)):U W w (aa M.mb 177 (dW p M m.ks.length m.base m.front)::aP W M.B p m.s::az W p M.an M.cO::Sl 179 1 M.dy m.ks.length M.dF (gR m.ks)::ah (fc p M.an M.cO M.tq M.jq M.sq) m.ks::Tree M.tq M.sq m.T::ax M.sq M.r m.A::bL M.jq m.J::L):=I.open (M:=zy W M p m) λ_ h=>h
theorem aG.close (I:U W w (zy W M p m++L)):U W w (aG W M p m::L):=U.shut (M:=zy W M p m) I λ_ h=>h
theorem aG.fold (I:U W w L)(M:jF)(p:Pr)(m:Mu)[kk:fN L (aa M.mb 177 (dW p M m.ks.length m.base m.front)::aP W M.B p m.s::az W p M.an M.cO::Sl 179 1 M.dy m.ks.length M.dF (gR m.ks)::ah (fc p M.an M.cO M.tq M.jq M.sq) m.ks::Tree M.tq M.sq m.T::ax M.sq M.r m.A::bL M.jq m.J::[]) R]:U W w (aG W M p m::R):=aG.close (I.perm kk.perm)
theorem Nk (I:U W w (aP W B p s::L)):Calls prog 94 #[pt B.pb] w λe V=>e=.returned (.agg (ints .i32 32 s.g).toArray)∧U W V (aP W B p s::L):=by
 replace I:=aP.open I;refine EN func94 ntmps94 rfl rfl λa E=>?_;refine AL 1 E I λb2 a w E I=>?_;change U W w (aa b2 183 (ints .i32 32 (λ_=>0))::_) at I;refine RN 4 E I λa E=>?_;refine SS E (bQ E underlying183 rfl Ty.t183 (zu (I.ai (b:=B.pb)))) λa E=>?_;refine SA 0 E I λa w E I=>?_;refine RT 0 E I ?_;exact⟨rfl,(aP.fold I B p s).sub⟩
theorem Nl (I:U W w (aP W B p s::L)):Calls prog 278 #[pt B.pb] w λe V=>e=.returned (.agg (dr B.gs B.adT B.cT).toArray)∧U W V (aP W B p s::L):=by
 replace I:=aP.open I;refine EN func278 ntmps278 rfl rfl λa E=>?_;refine AL 1 E I λb2 a w E I=>?_;refine RN 4 E I λa E=>?_;refine SS E (bQ E underlying186 rfl Ty.t186 (M3 (I.ai (b:=B.pb)))) λa E=>?_;refine SA 0 E I λa w E I=>?_;refine RT 0 E I ?_;exact⟨rfl,(aP.fold I B p s).sub⟩
theorem tO (I:U W w (aG W M p m::L)):Calls prog 140 #[pt M.mb] w λe V=>e=.returned (pt M.B.pb)∧U W V (aG W M p m::L):=by
 replace I:=aG.open I;refine EN func140 ntmps140 rfl rfl λa E=>?_;refine RN 6 E I λa E=>?_;replace E:=E.aK 4;refine RT 7 E I ?_;exact⟨rfl,aG.fold I M p m⟩
theorem Cg (I:U W w (aG W M p m::L)):Calls prog 272 #[pt M.mb] w λe V=>e=.returned (pt M.B.core.cb)∧U W V (aG W M p m::L):=by
 refine EN func272 ntmps272 rfl rfl λa E=>?_;refine CL 4 E I (tO I) λa w E I=>?_;replace I:=aG.open I;refine CL 0 E I (n3 (I.pick (aP W M.B p m.s))) λa w E I=>?_;refine RT 1 E I ?_;exact⟨rfl,aG.fold I M p m⟩
theorem zA (I:U W w (aG W M p m::L)):Calls prog 101 #[pt M.mb] w λe V=>e=.returned (.bool m.s.k.cl)∧U W V (aG W M p m::L):=by
 refine EN func101 ntmps101 rfl rfl λa E=>?_;refine CL 4 E I (tO I) λa w E I=>?_;replace I:=aG.open I;refine CL 0 E I (Na (I.pick (aP W M.B p m.s))) λa w E I=>?_;refine RT 1 E I ?_;exact⟨rfl,aG.fold I M p m⟩
theorem aaE (I:U W w (aG W M p m::L)):Calls prog 81 #[pt M.mb] w λe V=>e=.returned (pt M.sq)∧U W V (aG W M p m::L):=by
 replace I:=aG.open I;refine EN func81 ntmps81 rfl rfl λa E=>?_;refine RN 6 E I λa E=>?_;replace E:=E.aK 4;refine RT 7 E I ?_;exact⟨rfl,aG.fold I M p m⟩
theorem aaF (I:U W w (aG W M p m::L)):Calls prog 87 #[pt M.mb] w λe V=>e=.returned (pt M.tq)∧U W V (aG W M p m::L):=by
 replace I:=aG.open I;refine EN func87 ntmps87 rfl rfl λa E=>?_;refine RN 6 E I λa E=>?_;replace E:=E.aK 4;refine RT 7 E I ?_;exact⟨rfl,aG.fold I M p m⟩
end
end
section
section
variable {p:Pr}{F F':Int}{g g0:Nat→Int}{t t':Nat→Nat}{base i:Nat}{A:Sn}{T:Tr}{ws:List Wk}{k:Wk}{P:List (List UInt8)}
theorem Inv.aaG (h:Inv p F g0 t base A T ws)(hA:WF A)(hn:A.n+1<1099511627776)(hT:T.l=[])(hg:dT g) :
   Inv p F' g t' (A.last+1) ((A.add g t').eI base) T ws:=by
 have wP:WF (A.add g t'):=hA.add hn g t';have hr:∀ x∈(A.add g t').av,x.refs=1:=by
  intro x hx;rcases eX.1 hx with hx | hx
  ·exact (h.av x hx).1
  ·rw[iF.1 hx]
 have uO:∀ z∈A.av,z.id≠A.last+1:=λz hz e=>by have:=(hA.mD z hz).2.1;omega
 rw[AY wP hr];refine⟨?_,λx hx=>?_,λx hx he=>?_,λy hy=>?_,λk hk=>⟨(h.lH k hk).1,λ_ y hy=>?_⟩⟩
 ·simp only;rw[EB];have h1:((A.add g t').av.map (·.id)).Perm (base::(A.last+1)::(T.l.map (·.snap)++jz ws)):=by
   simp only[Sn.add,cS,map_cons,map_nil];exact ((List.perm_append_singleton _ _).trans (h.perm.cons _)).trans (cW _ _ _)
  exact EA (lA _) h1 wP.oI
 ·have hx:=j7 hx;rcases eX.1 hx with hx | hx
  ·exact h.av x hx
  ·rw[iF.1 hx];exact⟨rfl,hg⟩
 ·have hx:=j7 hx;rcases eX.1 hx with hx | hx
  ·exact absurd he (uO x hx)
  ·rw[iF.1 hx];exact⟨rfl,rfl⟩
 ·rw[hT]at hy;cases hy
 ·rw[hT]at hy;cases hy
theorem Nm (h:∀ k∈ws,k.busy=false):jz ws=[]:=by
 rw[jz,List.filter_eq_nil_iff.2 (λk hk=>by rw[h k hk];decide)];rfl
theorem Ch:∀ (l:List Br) (A:Sn),(A.gQ l).room=A.room∧(A.gQ l).n=A.n∧(A.gQ l).last=A.last
 | [],_=>⟨rfl,rfl,rfl⟩
 | y::l,A=>by
  have h1:=Ch l (A.eI y.snap);have h2:=oJ A y.snap;show ((A.eI y.snap).gQ l).room=_∧((A.eI y.snap).gQ l).n=_∧((A.eI y.snap).gQ l).last=_;exact⟨h1.1.trans h2.1,h1.2.1.trans h2.2.1,h1.2.2.trans h2.2.2⟩
def tQ (ls:List (List UInt8))(f:Nat)(j:List UInt8):Bool:=(List.range j.length).all λq=>!(decide (f<(ls.getD q []).length)&&(ls.getD q []).getD f 0 != j.getD q 0)
def jG (ls:List (List UInt8))(f:Nat)(P:List (List UInt8)):Bool:=(List.range P.length).all λi=>tQ ls (f+i) (P.getD i [])
theorem aaH {ls:List (List UInt8)}{f q:Nat}{j:List UInt8}(hq:q<j.length)(h1:f<(ls.getD q []).length)(h2:(ls.getD q []).getD f 0≠j.getD q 0):tQ ls f j=false:=by
 rw[tQ,List.all_eq_false];exact⟨q,mem_range.2 hq,by rw[dp h1,Bool.true_and,bne_iff_ne.2 h2];decide⟩
theorem Nn {ls:List (List UInt8)}{f:Nat}{j:List UInt8}(h:∀ q,q<j.length→f<(ls.getD q []).length→(ls.getD q []).getD f 0=j.getD q 0):tQ ls f j=true:=by
 rw[tQ,all_eq_true];intro q hq;have:=h q (mem_range.1 hq);by_cases h1:f<(ls.getD q []).length
 ·rw[dp h1,Bool.true_and,this h1,bne_self_eq_false];rfl
 ·rw[bn h1,Bool.false_and];rfl
theorem aaI {ls:List (List UInt8)}{f i:Nat}{P:List (List UInt8)}(hi:i<P.length)(h:tQ ls (f+i) (P.getD i [])=false):jG ls f P=false:=by
 rw[jG,List.all_eq_false];exact⟨i,mem_range.2 hi,by rw[h];decide⟩
theorem No {ls:List (List UInt8)}{f:Nat}{P:List (List UInt8)}(h:∀ i,i<P.length→tQ ls (f+i) (P.getD i [])=true):jG ls f P=true:=by
 rw[jG,all_eq_true];intro i hi;exact h i (mem_range.1 hi)
end
end
section
section
variable {W w:World}{L:List SP}{q r:Nat}{A:Sn}
theorem aaJ (l:List Nat):distinct l≤l.length:=by
 induction l with
 | nil=>exact bh _
 | cons x l ih=>rw[distinct,fm];split <;> omega
theorem aaK (l:List aC):(lf l).length=4*l.length:=by
 induction l with
 | nil=>rfl
 | cons x l ih=>show (_++lf l).length=_;rw[aN,ih,fm];simp;omega
theorem ax.wk (I:U W w (ax q r A::L)):A.used≤4*A.av.length:=by
 rw[ax.used I];have:=aaJ (lf A.av);rw[aaK]at this;exact this
end
end
section
theorem Tl.rest {N L:List SP}{A:SP}(t:Tl N (A::L)):Tl N L:=⟨let ⟨K,h⟩:=t.h;⟨K++[A],by simpa using h⟩⟩
section
variable {W w:World}{L:List SP}{n i tq sq r:Nat}{M:jF}{B:jk}{x:UInt8}{p:Pr}{s:Pl}{m:Mu}{A:Sn}{T:Tr}{F:Int}{g0:Nat→Int}{t:Nat→Nat}{px:aC}
theorem Np {kp:Br→Bool}{g:Nat}{ws:List Value}(I:U W w (Tree tq sq T::ax sq r A::L))(he:T.epoch+1<1099511627776)(cm:hE prog g=true)
   (hg:∀ (N:List SP) (V:World) (x:Br) (au:Option Addr) (c':Nat),x∈T.l→U W V N→Tl N L→wB W N au x.al→x.al.length≤c'→nS x.al →
    Calls prog g (ws++[Value.agg (cg x au c').toArray]).toArray V λe nT=>e=.returned (.bool (kp x))∧U W nT N) :
   Calls prog 287 #[pt tq,.func (.func g) ws.toArray #[]] w λe V=>(∃ v:Int,e=.returned (.int .i64 v)) ∧
    U W V (Tree tq sq (T.cut λx=>!kp x)::ax sq r (A.gQ (T.l.filter λx=>!kp x))::L):=by
 have hF : ∀ (b3 : Nat) (N : List SP) (V : World) (x : Br) (au : Option Addr) (c' : Nat), x ∈ T.l → U W V N → Tl N (aa b3 343 [.func (.func g) ws.toArray #[]] :: L) → wB W N au x.al → x.al.length ≤ c' → nS x.al →
     Calls prog 304 (List.toArray [.agg (cg x au c').toArray,pt b3]) V λe nT=>e=.returned (.bool (!kp x))∧U W nT N:=by
  intro b3 N w x au c' Ci I hM hx hxc kF;refine EN func304 ntmps304 rfl rfl λa E=>?_;refine BX 1 E I λb2 a w E I=>?_;refine RN 2 E I λa E=>?_;have pQ:=I.tail.VX hM;refine SS E (ae E (pQ.bz rfl)) λa E=>?_;refine CL 1 E I (hg (aa b2 238 (cg x au c')::N) _ x au c' Ci I (@Tl.cons _ _ _ hM.rest) (hx.imp λzs h=>⟨h.1,λnT h2=>h.2 _ h2.tail⟩) hxc kF) (hf:=cm) λa w E I=>?_;refine RT 2 E I ?_;exact⟨rfl,I.tail⟩
 refine EN func287 ntmps287 rfl rfl λa E=>?_;refine BX 1 E I λb3 a w E I=>?_;refine CL 4 E I (J2 (tq:=tq) (sq:=sq) (r:=r) (A:=A) (T:=T) (wh:=λx=>!kp x) (us:=[pt b3]) (L:=aa b3 343 [.func (.func g) ws.toArray #[]]::L) I.sub he (by kernel_rfl) (hF b3)) λa w E I=>?_;refine RT 1 E I ?_;exact⟨⟨_,rfl⟩,I.sub⟩
theorem aaL (I:U W w (aG W M p m::L))(hI:Inv p F g0 t m.base m.A m.T (m.ks.map (·.1)))(he:m.T.epoch+1<1099511627776)(h4:m.ks.length≤4) :
   Calls prog 302 #[pt M.mb] w λe V=>∃ (A':Sn) (Cj:List Kx),e=.returned (.tuple #[]) ∧
    (Inv p F g0 t m.base A' (m.T.cut λ_=>true) (Cj.map (·.1))∧Cj.length=m.ks.length∧(∀ k∈Cj,k.1.busy=false)∧A'.room=m.A.room∧A'.n=m.A.n) ∧
    U W V (aG W M p { m with A:=A',ks:=Cj,T:=m.T.cut λ_=>true }::L):=by
 obtain⟨mb,B,sq,r,tq,jq,dy,dF,an,cO⟩:=M;obtain⟨s,A,T,J,ks,base,front⟩:=m;replace I:=aG.open I;simp only at hI he h4;refine EN func302 ntmps302 rfl rfl λa E=>?_;refine RN 8 E I λa E=>?_;refine aQ (λμ a w=>∃ (i:Nat) (A1:Sn) (lv:List Kx),(μ=ks.length-i∧i≤ks.length∧lv.length=ks.length∧(∀ (j:Nat) (k:Kx),j<i→lv[j]?=some k→k.1.busy=false)∧Inv p F g0 t base A1 T (lv.map (·.1))∧A1.room=A.room∧A1.n=A.n)∧Fr a 21 [(0,pt mb),(7,.slice dy ks.length dF),(8,.int .i64 ks.length),(9,.int .i64 i)]∧U W w (aa mb 177 (dW p ⟨mb,B,sq,r,tq,jq,dy,dF,an,cO⟩ ks.length base front)::aP W B p s::az W p an cO::Sl 179 1 dy ks.length dF (gR lv)::ah (fc p an cO tq jq sq) lv::Tree tq sq T::ax sq r A1::bL jq J::L)) (ks.length) (⟨0,A,ks,⟨rfl,by omega,rfl,λj k h=>absurd h (by omega),hI,rfl,rfl⟩,E.ab [0,7,8,9],I.sub⟩) ?_;clear E I;rintro μ a w ⟨i,A1,lv,⟨rfl,hi,dS,Nq,xx,lS,rQ⟩,E,I⟩;refine IF 3 E I (λaj a E=>?_) λaj a E=>?_
 ·
  have pN:i<lv.length:=by omega
  obtain⟨⟨k,wb⟩,hk⟩:∃ y,lv[i]?=some y:=⟨_,aD pN⟩;obtain⟨b',dI,rfl,dh⟩:=I.bY dy (by omega);refine RN 3 E I λa E=>?_;refine SS E (ae E (dh i _ (KW hk))) λa E=>?_;refine aX 2 E I (X5 ((I.store sq).pick (ah (fc p an cO tq jq sq) lv)) hk xx) λA2 k2 a w E ⟨⟨ca,o7,eg,pP⟩,I⟩=>?_;rw[← KX (k':=k2) hk]at I;refine RN 2 E I λa E=>?_;refine⟨ks.length-(i+1),by omega,i+1,A2,lv.set i (k2,wb),⟨rfl,by omega,by rw[bt];exact dS,λj z hj hz=>?_,o7,eg.trans lS,pP.trans rQ⟩,E.ab [0,7,8,9],I.sub⟩;rw[jX]at hz;split at hz
  ·cases hz;exact ca
  ·exact Nq j z (by omega) hz
 refine RN 0 E I λa E=>?_;have gG:=I;refine CL 4 E I (VZ ((I.store sq).tree tq) he) λa w E I=>?_;refine RT 0 E I ?_;obtain rfl:i=ks.length:=by omega
 have Ck:=xx.cut (ax.facts (gG.store sq)).1 (λ_=>true);rw[show T.l.filter (λ_=>true)=T.l from by simp]at Ck;have hd:=Ch T.l A1;refine⟨A1.gQ T.l,lv,rfl,⟨Ck,dS,λk hk=>?_,hd.1.trans lS,hd.2.1.trans rQ⟩,?_⟩
 ·obtain⟨j,hj⟩:=j5.1 hk;exact Nq j k (by have:=(aZ.1 hj).1;omega) hj
 ·rw[← dS]at I;exact aG.fold I ⟨mb,B,sq,r,tq,jq,dy,dF,an,cO⟩ p ⟨s,A1.gQ T.l,T.cut λ_=>true,J,lv,base,front⟩
theorem GR {id:Nat}(I:U W w (aG W M p m::L))(hx:m.A.av[i]?=some px)(bX:px.id=id) :
   Calls prog 274 #[pt M.mb,.int .i64 id] w λe V=>e=.returned (.agg (ints .i32 32 px.g).toArray)∧U W V (aG W M p m::L):=by
 replace I:=aG.open I;refine EN func274 ntmps274 rfl rfl λa E=>?_;refine AL 1 E I λb4 a w E I=>?_;change U W w (aa b4 183 (ints .i32 32 (λ_=>0))::_) at I;refine CL 6 E I (Yc (I.store M.sq) hx bX) λa w E I=>?_;refine AL 3 E I λb5 a w E I=>?_;change U W w (aa b5 183 (ints .i32 32 (λ_=>0))::_) at I;refine SA 0 E I λa w E I=>?_;refine SA 3 E I λa w E I=>?_;refine RT 0 E I ?_;exact⟨rfl,(aG.fold I M p m).sub⟩
structure aaM (p:Pr)(M:jF)(m m':Mu)(t':Nat→Nat):Prop where
 inv:Inv p (aw m.s.k:Int) m.s.g t' m'.base m'.A m'.T (m'.ks.map (·.1))
 s:m'.s=m.s
 J:m'.J=m.J
 front:m'.front=aw m.s.k
 room:m'.A.room=m.A.room
 n:m'.A.n≤m.A.n+1
 last:m'.T.last=m.T.last
 most:m'.T.most=m.T.most
 sL:m'.T.epoch≤m.T.epoch+2
 ks:m'.ks.length=m.ks.length
 age:(m'.T=m.T∧m'.A=m.A∧m'.ks=m.ks)∨m'.T.l=[]
 same:m.front=aw m.s.k→m'.T=m.T∧m'.A=m.A∧m'.ks=m.ks
theorem aaN (I:U W w (aG W M p m::L))(hw:cx p m.s)(hg:dT m.s.g)(hI:Inv p (m.front:Int) g0 t m.base m.A m.T (m.ks.map (·.1)))(fA:m.front=aw m.s.k→g0=m.s.g)
   (he:m.T.epoch+2<1099511627776) (hn:m.A.n+1<1099511627776) (h4:m.ks.length≤4) (sr:12≤m.A.room) :
   Calls prog 286 #[pt M.mb] w λe V=>∃ (m':Mu) (t':Nat→Nat),e=.returned (.tuple #[])∧aaM p M m m' t'∧U W V (aG W M p m'::L):=by
 have bT:=hw.wc.lr;have iQ:m.s.k.ls.length≤8:=by rw[hw.wc.ls];exact hw.wc.n.2
 obtain⟨mb,B,sq,r,tq,jq,dy,dF,an,cO⟩:=M;obtain⟨s,A,T,J,ks,base,front⟩:=m;obtain⟨i,px,hQ,lg⟩:=hI.mD (jo ..)
 have hF : ∀ (N : List SP) (V : World) (x : Br) (au : Option Addr) (c' : Nat), U W V N →
     Calls prog 301 ([]++[Value.agg (cg x au c').toArray]).toArray V λe nT=>e=.returned (.bool false)∧U W nT N:=by
  intro N w x au c' I;refine EN func301 ntmps301 rfl rfl λa E=>?_;refine BX 1 E I λb1 a w E I=>?_;refine RT 3 E I ?_;exact⟨rfl,I.tail⟩
 simp only at hw hg hI fA he hn h4 sr bT iQ hQ lg;subst lg;replace I:=aG.open I;dsimp only at I;refine EN func286 ntmps286 rfl rfl λa E=>?_;refine CL 5 E I (n3 (I.pick (aP W B p s))) λa w E I=>?_;replace I:=aP.open I;refine CL 0 E I (o5 (I.pick (aA B.core s.k))) λa w E I=>?_;obtain⟨D,I,hD⟩:=aA.qu I;refine CL 0 E I (sf I bT iQ) λa w E I=>?_;refine RN 1 E I λa E=>?_;replace I:=(aP.fold (hD _ _ I) B p s);refine IF 8 E I (λaj a E=>?_) λaj a E=>?_
 ·
  have oY:front=aw s.k:=by rw[aw];omega
  refine RT 0 E I ?_;exact⟨⟨s,A,T,J,ks,px.id,front⟩,t,rfl,⟨by rw[← oY,← fA oY];exact hI,rfl,rfl,oY,rfl,by simp only;omega,rfl,rfl,by simp only;omega,rfl,.inl ⟨rfl,rfl,rfl⟩,λ_=>⟨rfl,rfl,rfl⟩⟩,aG.fold I ⟨mb,B,sq,r,tq,jq,dy,dF,an,cO⟩ p ⟨s,A,T,J,ks,px.id,front⟩⟩
 refine RN 5 E I λa E=>?_;have xy:=hI.cut (ax.facts (I.store sq)).1 (λ_=>true);have tR:=Ch (T.l.filter λ_=>true) A;have zB:(T.cut λ_=>true).l=[]:=by simp[Tr.cut]
 have hTe:(T.cut λ_=>true).epoch≤T.epoch+1:=by simp only[Tr.cut];split <;> omega
 refine j2 0 E I (Np (kp:=λ_=>false) (ws:=[]) ((I.store sq).tree tq) (by omega) (by kernel_rfl) (λN V x au c' _ h1 _ _ _ _=>hF N V x au c' h1)) ?_;clear E I;rintro e w ⟨⟨_,rfl⟩,I⟩;refine⟨_,rfl,λa E=>?_⟩;replace I:U W w (Tree tq sq (T.cut λ_=>true)::ax sq r (A.gQ (T.l.filter λ_=>true))::_):=I;generalize A.gQ (T.l.filter λ_=>true)=A1 at I xy tR;have su:(T.cut λ_=>true).last=T.last∧(T.cut λ_=>true).most=T.most:=⟨rfl,rfl⟩;generalize (T.cut λ_=>true)=T1 at I xy zB hTe su;obtain⟨i1,qY,aaO,aaP⟩:=xy.mD (jo ..);rw[← aaP]at I xy;refine RN 0 E I λa E=>?_;refine cc (M:=λa w=>∃ (A2:Sn) (T2:Tr) (qZ:List Kx),(A2.used+4≤A2.room∧Inv p (front:Int) g0 t qY.id A2 T2 (qZ.map (·.1))∧T2.l=[]∧T2.epoch≤T.epoch+2∧T2.last=T.last∧T2.most=T.most∧qZ.length=ks.length∧A2.room=A.room∧A2.n=A.n)∧Fr a 73 [(0,pt mb),(2,.int .i64 (aV s.k.ls))]∧U W w (aG W ⟨mb,B,sq,r,tq,jq,dy,dF,an,cO⟩ p ⟨s,A2,T2,J,qZ,qY.id,front⟩::L)) ?_ ?_
 ·
  refine a1 1 (λw0 V=>Rd V mb 0 (dW p ⟨mb,B,sq,r,tq,jq,dy,dF,an,cO⟩ ks.length qY.id front)) [7,11,12,13] [0,1,2,4,5,6,8,9,10,3003,3007,1011,1012,1013,1014,15] E I λa w E I hH=>?_;have hC:=hH.at w (I.ai (b:=mb));refine RH 9 E I hH hC λa E=>?_;refine QH E (λw hc=>ae E (hc 3 _ rfl)) hC λa E=>?_;refine QH E (λw hc=>ae E (hc 3 _ rfl)) hC λa E=>?_;refine RH 0 E I hH hC λa E=>?_;refine SS E (ae E (hC 7 _ rfl)) λa E=>?_;refine RH 0 E I hH hC λa E=>?_;refine aX 0 E I (JL (I.store sq) aaO) λcX dU a w E I=>?_;replace hC:=hH.at w (I.ai (b:=mb));refine RH 1 E I hH hC λa E=>?_;refine CL 0 E I (JM (I.store sq)) λa w E I=>?_;refine RN 1 E I λa E=>?_;refine IF 0 E I (λao a E=>?_) λao a E=>?_
  ·
   replace I:=aG.fold I ⟨mb,B,sq,r,tq,jq,dy,dF,an,cO⟩ p ⟨s,A1,T1,J,ks,qY.id,front⟩;refine aX 1 E I (aaL I xy (by dsimp only;omega) h4) λA2 qZ a w E ⟨⟨o7,ca,aaQ,eg,pP⟩,I⟩=>?_;refine RN 0 E I λa E=>?_;have cm:(T1.cut λ_=>true).l=[]:=by simp[Tr.cut]
   have hce:(T1.cut λ_=>true).epoch≤T1.epoch+1:=by simp only[Tr.cut];split <;> omega
   have hu:=ax.wk ((aG.open I).store sq);have hV:=o7.len;rw[Nm (λk hk=>by obtain⟨y,hy,rfl⟩:=cV.1 hk;exact aaQ y hy)]at hV;simp only[cm,length_nil]at hV eg pP ca hu;exact⟨A2,T1.cut λ_=>true,qZ,⟨by rw[eg,tR.1];omega,o7,cm,by omega,su.1,su.2,ca,by rw[eg,tR.1],by rw[pP,tR.2.1]⟩,E.ab [0,2],I.sub⟩
  refine RN 0 E I λa E=>?_;exact⟨A1,T1,ks,⟨by omega,xy,zB,by omega,su.1,su.2,rfl,tR.1,tR.2.1⟩,E.ab [0,2],(aG.fold I ⟨mb,B,sq,r,tq,jq,dy,dF,an,cO⟩ p ⟨s,A1,T1,J,ks,qY.id,front⟩).sub⟩
 clear E;(try clear I);rintro a w ⟨A2,T2,qZ,⟨hus,o7,Nr,GS,hL2,Cl,ca,eg,pP⟩,E,I⟩;refine RN 1 E I λa E=>?_;replace I:=aG.open I;dsimp only at I;refine a1 0 (λw0 V=>Rd V mb 0 (dW p ⟨mb,B,sq,r,tq,jq,dy,dF,an,cO⟩ qZ.length qY.id front)) [7,8] [0,1,2,4,5,6,3003,1007,1008,1009,10,11,12,13,14] E I λa w E I hH=>?_;have hC:=hH.at w (I.ai (b:=mb));refine RH 6 E I hH hC λa E=>?_;refine QH E (λw hc=>ae E (hc 3 _ rfl)) hC λa E=>?_;refine RH 0 E I hH hC λa E=>?_;refine SS E (ae E (hC 0 _ rfl)) λa E=>?_;refine RH 0 E I hH hC λa E=>?_;refine CL 0 E I (Nk (I.pick (aP W B p s))) λa w E I=>?_;replace hC:=hH.at w (I.ai (b:=mb));have wP:=(ax.facts (I.store sq)).1;refine RH 0 E I hH hC λa E=>?_;refine aW 0 E I (JN (g:=s.g) (I.store sq) hus (by omega)) λt' a w E ⟨⟨ht1,GU⟩,I⟩=>?_;refine RN 5 E I λa E=>?_;refine RN 4 E I λa E=>?_;replace E:=E.aK 55;refine a1 2 (λw0 V=>Rd V mb 0 (dW p ⟨mb,B,sq,r,tq,jq,dy,dF,an,cO⟩ qZ.length qY.id front)) [7] [0,1,2,4,5,6,3003,1007,1008] E I λa w E I hH=>?_;have hC:=hH.at w (I.ai (b:=mb));refine RH 6 E I hH hC λa E=>?_;refine QH E (λw hc=>ae E (hc 3 _ rfl)) hC λa E=>?_;refine RH 0 E I hH hC λa E=>?_;refine SS E (ae E (hC 7 _ rfl)) λa E=>?_;refine RH 0 E I hH hC λa E=>?_;refine aW 0 E I (AU (I.store sq)) λ_ a w E I=>?_;refine ST 6 E I (λa w E I=>?_);refine ST 2 E I (λa w E I=>?_);refine RT 0 E I ?_;have hm:=o7.aaG (F':=(aw s.k:Int)) (g:=s.g) (t':=t') wP (by omega) Nr hg;have hd:=oJ (A2.add s.g t') qY.id;exact⟨⟨s,(A2.add s.g t').eI qY.id,T2,J,qZ,A2.last+1,aV s.k.ls⟩,t',rfl,⟨hm,rfl,rfl,rfl,hd.1.trans eg,by rw[hd.2.1];show A2.n+1≤A.n+1;omega,hL2,Cl,GS,ca,.inr Nr,λe=>(by have e2:front=aV s.k.ls:=e;exfalso;omega)⟩,aG.fold I ⟨mb,B,sq,r,tq,jq,dy,dF,an,cO⟩ p ⟨s,(A2.add s.g t').eI qY.id,T2,J,qZ,A2.last+1,aV s.k.ls⟩⟩
end
end
section
abbrev bk (xs:List ef):List (List UInt8):=xs.map (·.2.2)
theorem tS {xs:List ef}{i:Nat}{x:ef}(h:xs[i]?=some x):(bk xs).getD i []=x.2.2:=by
 rw[bl,bm,h];rfl
theorem gn (xs:List ef):(bk xs).length=xs.length:=bf _
theorem iH.at {w:World}{ad:Option Addr}{xs:List ef}(h:iH w ad xs){i:Nat}(hi:i<xs.length):∃ b off x,ad=some ⟨b,off,none⟩∧xs[i]?=some x∧w.cell? ⟨b,off+i,none⟩=some (aM x)∧aL w x.1 x.2.2.length x.2.2:=by
 obtain⟨b,off,hb,hr⟩:=h.1 (by omega);have hx:xs[i]?=some xs[i]:=aD hi;exact⟨b,off,xs[i],hb,hx,hr i _ (by rw[bm,hx];rfl),h.2 _ (bH hx)⟩
section
variable {W w:World}{L:List SP}{m cT to r f cl:Nat}{adT g7:Option Addr}{past:List UInt8}{b:Gs}{xs:List ef}
theorem Cm (I:U W w L)(h0:0<xs.length)(h8:xs.length≤8)(hp:∀ V,U W V L→iH V g7 xs) :
   Calls prog 41 #[.slice g7 xs.length cl] w λe V=>e=.returned (.int .i64 (aV (bk xs)))∧U W V L:=by
 refine EN func41 ntmps41 rfl rfl λa E=>?_;refine RN 3 E I λa E=>?_;obtain⟨lz,ol,x0,rfl,hx0,pR,eS⟩:=(hp _ I).at h0;refine RN 3 E I λa E=>?_;refine SS E (ae E (pR)) λa E=>?_;rw[aM]at E;refine RN 5 E I λa E=>?_;rw[show ((x0.2.2.length:Nat):Int)=(iP (bk xs) 1:Nat) from by rw[Zn,iP,List.headD_eq_getD,tS hx0]]at E;refine aQ (λμ a w=>∃ (i:Nat),(μ=xs.length-i∧i≤xs.length∧1≤i)∧Fr a 25 [(0,.slice (some ⟨lz,ol,none⟩) xs.length cl),(3,.int .i64 (iP (bk xs) i:Nat)),(4,.int .i64 i)]∧U W w L) (xs.length-1) (⟨1,⟨rfl,by omega,by omega⟩,E.ab [0,3,4],I⟩) ?_;clear E I;rintro μ a w ⟨i,⟨rfl,hi,lB⟩,E,I⟩;refine IF 6 E I (λaj a E=>?_) λaj a E=>?_
 ·
  obtain⟨_,_,x,gX,hx,pR,eS⟩:=(hp _ I).at (i:=i) (by omega);cases gX;refine RN 6 E I λa E=>?_;refine SS E (ae E (pR)) λa E=>?_;rw[aM]at E;refine RN 2 E I λa E=>?_;rw[show min ((iP (bk xs) i:Nat):Int) ((x.2.2.length:Nat):Int)=((iP (bk xs) (i+1):Nat):Int) from by rw[iP,tS hx];omega]at E;refine RN 4 E I λa E=>?_;exact⟨xs.length-(i+1),by omega,i+1,⟨rfl,by omega,by omega⟩,E.ab [0,3,4],I⟩
 refine RT 3 E I ?_;obtain rfl:i=xs.length:=by omega
 exact⟨by rw[aV,gn],I⟩
theorem GV (I:U W w L)(h0:0<xs.length)(h8:xs.length≤8)(hp:∀ V,U W V L→iH V g7 xs)(hf:f<aV (bk xs)) :
   Calls prog 40 #[.slice g7 xs.length cl,.int .i64 f] w λe V=>∃ au c',e=.returned (.slice au (bM (bk xs) f).length c')∧U W V (Sl 5 1 au (bM (bk xs) f).length c' (bc (bM (bk xs) f))::L):=by
 refine EN func40 ntmps40 rfl rfl λa E=>?_;refine RN 7 E I λa E=>?_;replace I:=I.bR 5 1 none;refine aQ (λμ a w=>∃ (i:Nat) (ad2:Option Addr) (c2:Nat),(μ=xs.length-i∧i≤xs.length)∧Fr a 25 [(0,.slice g7 xs.length cl),(1,.int .i64 f),(5,.slice ad2 (fF (bk xs) f i).length c2),(6,.int .i64 i)]∧U W w (Sl 5 1 ad2 (fF (bk xs) f i).length c2 (bc (fF (bk xs) f i))::L)) (xs.length) (⟨0,none,0,⟨rfl,by omega⟩,E.ab [0,1,5,6],I⟩) ?_;clear E I;rintro μ a w ⟨i,ad2,c2,⟨rfl,hi⟩,E,I⟩;refine IF 6 E I (λaj a E=>?_) λaj a E=>?_
 ·
  obtain⟨lz,ol,x,rfl,hx,pR,eS⟩:=(hp _ I.tail).at (i:=i) (by omega);have eY:f<x.2.2.length:=by
   have h1:=xd (ls:=bk xs) (l:=x.2.2) (cV.2 ⟨x,bH hx,rfl⟩);omega
  obtain⟨kK,ox,gX,ia⟩:=eS.get (by omega);have ea:=tB (ls:=bk xs) (f:=f) (i:=i) (by rw[gn];exact hi);refine RN 6 E I λa E=>?_;refine SS E (ae E (pR)) λa E=>?_;rw[aM,gX]at E;refine RN 2 E I λa E=>?_;refine SS E (ae E (ia f _ (ll eY))) λa E=>?_;refine RN 0 E I λa E=>?_;refine cn E rfl I underlying22 Ty.t5 rfl rfl rfl rfl (by decide) (by decide) λuW a w E I ho=>?_;clear ho;refine RN 0 E I λa E=>?_;refine cK E rfl I underlying22 Ty.t5 rfl rfl I.ai rfl (eF [x.2.2.getD f 0]) (by decide) (by decide) (by omega) λgz gA a w E I=>?_;rw[show bc (fF (bk xs) f i)++_=bc (fF (bk xs) f (i+1)) from by rw[BO (by rw[gn];omega),getElem_map,fR,(aZ.1 hx).2],show (fF (bk xs) f i).length+1=(fF (bk xs) f (i+1)).length from by rw[ea,tB (by rw[gn];omega)]]at I;rw[show (fF (bk xs) f i).length+1=(fF (bk xs) f (i+1)).length from by rw[ea,tB (by rw[gn];omega)]]at E;refine RN 4 E I λa E=>?_;exact⟨xs.length-(i+1),by omega,i+1,gz,gA,⟨rfl,by omega⟩,E.ab [0,1,5,6],I.sub⟩
 refine RT 3 E I ?_;obtain rfl:i=xs.length:=by omega
 have hj:fF (bk xs) f xs.length=bM (bk xs) f:=by
  conv=>lhs;rw[← gn xs]
  exact BN _ _
 rw[hj]at I ⊢;exact⟨_,_,rfl,I⟩
set_option maxHeartbeats 1000000 in
theorem Cn (hr:r≤100000)(I:U W w L)(hb:cY b)(h0:0<xs.length)(h8:xs.length≤8)(hl:∀ l∈bk xs,l.length≤1000)(tG:to≤1000)(hp:∀ V,U W V L→iH V g7 xs)(ht:∀ V,U W V L→aL V adT b.table.length b.table) :
   Calls prog 117 #[.slice g7 xs.length cl,.agg (dr b adT cT).toArray,.int .i64 r,.int .i64 to] w λe V=>∃ (au:Option Addr) (c':Nat) (X:List (List UInt8)),e=.returned (.slice au (to-aV (bk xs)) c')∧(zr to (bk xs) X∧(r=0→X=ji b (bk xs) to)) ∧
    U W V (cd au (to-aV (bk xs)) c' (nB X (aV (bk xs)) to)::L):=by
 have bT:bk xs≠[]:=λe=>by have h1:=gn xs;rw[e]at h1;simp at h1;omega
 have fA:aV (bk xs)≤1000:=by
  obtain⟨l,k7,mF⟩:=BM bT;rw[mF];exact hl l k7
 refine EN func117 ntmps117 rfl rfl λa E=>?_;refine BX 1 E I λb5 a w E I=>?_;change U W w (aa b5 47 (dr b adT cT)::_) at I;refine CL 3 E I (Cm (cl:=cl) I h0 h8 (λV hw=>hp V hw.tail)) λa w E I=>?_;refine aW 4 E I (B9 I) λrr a w E ⟨jh,I⟩=>?_;rw[jh.2 hb]at E;refine RN 2 E I λa E=>?_;replace E:=E.aK 23;refine RN 4 E I λa E=>?_;rw[bn (by omega)]at E;refine RN 4 E I λa E=>?_;rw[bn (by omega)]at E;refine IF 4 E I (λaj a E=>?_) λaj a E=>?_
 ·
  refine RT 2 E I ?_;have hz:to-aV (bk xs)=0:=by omega
  refine⟨none,0,ji b (bk xs) to,by rw[hz],⟨⟨by rw[ji,bf],λj l x hj hx=>?_⟩,λ_=>rfl⟩,?_⟩
  ·rw[ji,bm,hj]at hx;obtain rfl:n0 b l to=x:=by simpa using hx
   exact aap (hl l (bH hj)) tG
  ·rw[nB,hz];exact cd.nil I.tail
 refine RN 7 E I λa E=>?_;replace I:=I.bR 22 1 none;replace I:=U.iZ (f:=ba) I;have agf:aV (bk xs)<to:=by omega
 refine aQ (λμ a w=>∃ (i:Nat) (Ns:Bool) (ys:List ef) (nD:Option Addr) (nE:Nat),(μ=xs.length-i∧i≤xs.length∧ys.length=i∧(∀ (j:Nat) (l:List UInt8) (x:ef),(bk xs)[j]?=some l→ys[j]?=some x→xr to l x.2.2)∧(r=0→bk ys=(ji b (bk xs) to).take i))∧Fr a 117 [(0,.slice g7 xs.length cl),(2,.int .i64 r),(3,.int .i64 to),(5,pt b5),(9,.int .i64 (aV (bk xs))),(10,.slice nD i nE),(11,.bool Ns),(12,.int .i64 i)]∧U W w (Sl 22 1 nD i nE (ys.map aM)::ah ba ys::aa b5 47 (dr b adT cT)::L)) (xs.length) (⟨0,false,[],none,0,⟨rfl,by omega,rfl,λj l x _ h=>by simp at h,λ_=>rfl⟩,E.ab [0,2,3,5,9,10,11,12],(I.sub:U W w (Sl 22 1 none 0 0 []::ah ba []::aa b5 47 (dr b adT cT)::L))⟩) ?_;clear E I;rintro μ a w ⟨i,Ns,ys,nD,nE,⟨rfl,hi,iS,nI,vl⟩,E,I⟩;refine IF 6 E I (λao a E=>?_) λao a E=>?_
 ·
  obtain⟨lz,ol,x,rfl,hx,pR,eS⟩:=(hp _ I.tail.tail.tail).at (i:=i) (by omega);have eh:(bk xs)[i]?=some x.2.2:=by rw[bm,hx];rfl
  have b0:=hl _ (bH eh);replace I:=I.bR 5 1 none;refine RN 6 E I λa E=>?_;refine SS E (ae E (pR)) λa E=>?_;rw[aM]at E;refine RN 0 E I λa E=>?_;refine g3 E rfl I underlying22 Ty.t5 rfl rfl (by decide) (λh0=>eS.get h0) (by rw[dt];omega) (eF _) (by omega) λp1 r9 a w E I=>?_;rw[nil_append,ep]at I;rw[ep]at E;refine RN 1 E I λa E=>?_;refine cc (M:=λa w=>∃ (Co:Bool) (cX:Option Addr) (dU:Nat) (y:List UInt8),((∃ t,y=x.2.2++t)∧y.length≤x.2.2.length+1∧(y=x.2.2∨x.2.2.length=aV (bk xs))∧(r=0→y=x.2.2))∧Fr a 117 [(0,.slice (some ⟨lz,ol,none⟩) xs.length cl),(2,.int .i64 r),(3,.int .i64 to),(5,pt b5),(9,.int .i64 (aV (bk xs))),(10,.slice nD i nE),(11,.bool Co),(12,.int .i64 i),(13,.slice cX y.length dU)]∧U W w (Sl 5 1 cX y.length dU (bc y)::Sl 22 1 nD i nE (ys.map aM)::ah ba ys::aa b5 47 (dr b adT cT)::L)) ?_ ?_
  ·
   refine BY 4 E I (λbA a E=>?_) λbA a E=>?_
   ·
    refine BY 4 E I (λj9 a E=>?_) λj9 a E=>?_
    ·
     refine IF 5 E I (λay a E=>?_) λay a E=>?_
     ·
      refine RN 2 E I λa E=>?_;have sa:r%256<256:=Nat.mod_lt _ (by decide);have aaR:=(I.sl p1).2;refine SX 4 E I (by decide) λa E=>?_;rw[show ((r:Nat):Int).tmod 256=((r%256:Nat):Int) from ot _ 256]at E;generalize l9:r%256=r6 at E sa;refine RN 1 E I λa E=>?_;rw[show ((r6:Nat):Int)+1=((r6+1:Nat):Int) from by omega]at E;refine j1 0 E I (MS (past:=x.2.2) (k:=r6+1) I hb (by omega) (by omega) aaR (λV hw=>hw.cr p1 x.2.2 rfl rfl) (λV hw=>ht V hw.tail.tail.tail.tail)) λr0 oW out a w E ⟨⟨dO,_⟩,I⟩=>?_;obtain⟨gv,or',rfl,jh⟩:=I.bY r0 (by omega);refine SX 1 E I (by decide) λa E=>?_;rw[show ((r:Nat):Int).tmod 256=((r6:Nat):Int) from by rw[← l9];exact ot _ 256]at E;refine RN 1 E I λa E=>?_;refine SS E (ae E (jh r6 _ (dQ (by omega)))) λa E=>?_;refine RN 0 E I λa E=>?_;refine cn E rfl I underlying22 Ty.t5 rfl rfl rfl rfl (by decide) (by decide) λYM a w E I ho=>?_;clear ho;refine RN 0 E I λa E=>?_;refine cK E rfl I underlying22 Ty.t5 rfl rfl I.ai rfl (eF [out[r6]]) (by decide) (by decide) (by omega) λLm Lo a w E I=>?_;rw[show bc x.2.2++_=bc (x.2.2++[out[r6]]) from (fR _ [_]).symm,show x.2.2.length+1=(x.2.2++[out[r6]]).length from by simp]at I;rw[show x.2.2.length+1=(x.2.2++[out[r6]]).length from by simp]at E;refine RN 1 E I λa E=>?_;exact⟨_,Lm,Lo,x.2.2++[out[r6]],⟨⟨_,rfl⟩,by simp,.inr (by omega),λh=>by omega⟩,E.ab [0,2,3,5,9,10,11,12,13],I.sub⟩
     refine RN 0 E I λa E=>?_;exact⟨_,p1,r9,x.2.2,⟨⟨[],by simp⟩,by omega,.inl rfl,λ_=>rfl⟩,E.ab [0,2,3,5,9,10,11,12,13],I.sub⟩
    refine RN 6 E I λa E=>?_;exact⟨_,p1,r9,x.2.2,⟨⟨[],by simp⟩,by omega,.inl rfl,λ_=>rfl⟩,E.ab [0,2,3,5,9,10,11,12,13],I.sub⟩
   refine RN 10 E I λa E=>?_;exact⟨_,p1,r9,x.2.2,⟨⟨[],by simp⟩,by omega,.inl rfl,λ_=>rfl⟩,E.ab [0,2,3,5,9,10,11,12,13],I.sub⟩
  clear E;(try clear I);rintro a w ⟨Co,cX,dU,y,⟨ib,kE,hy4,nC⟩,E,I⟩;refine cc (M:=λa w=>∃ (adq:Option Addr) (cq:Nat) (z:List UInt8),(xr to x.2.2 z∧(r=0→z=n0 b x.2.2 to))∧Fr a 117 [(0,.slice (some ⟨lz,ol,none⟩) xs.length cl),(2,.int .i64 r),(3,.int .i64 to),(5,pt b5),(9,.int .i64 (aV (bk xs))),(10,.slice nD i nE),(11,.bool Co),(12,.int .i64 i),(13,.slice adq z.length cq)]∧U W w (Sl 5 1 adq z.length cq (bc z)::Sl 22 1 nD i nE (ys.map aM)::ah ba ys::aa b5 47 (dr b adT cT)::L)) ?_ ?_
  ·
   refine IF 5 E I (λbj a E=>?_) λbj a E=>?_
   ·
    have o6:=(I.sl cX).2;have GL:=F3 b y (to-y.length);refine RN 7 E I λa E=>?_;rw[show ((to:Nat):Int)-((y.length:Nat):Int)=((to-y.length:Nat):Int) from by omega]at E;refine aX 0 E I (aan (past:=y) (m:=to-y.length) I hb (by omega) o6 (by omega) (λV hw=>hw.cr cX y rfl rfl) (λV hw=>ht V hw.tail.tail.tail.tail)) λadc aas a w E I=>?_;refine RN 0 E I λa E=>?_;refine g3 E rfl I underlying22 Ty.t5 rfl rfl (by decide) (λh0=>(I.cr adc (kh b y (to-y.length)) rfl GL).get h0) (by rw[dt];omega) (eF _) (by omega) λaaS c85 a w E I=>?_;rw[← fR,u9,show y.length+(to-y.length)=(ey b y (to-y.length)).length from by rw[iw]]at I;rw[show y.length+(to-y.length)=(ey b y (to-y.length)).length from by rw[iw]]at E;refine RN 1 E I λa E=>?_;obtain⟨t,GM⟩:=ib;refine⟨aaS,c85,_,⟨⟨⟨t++kh b y (to-y.length),?_⟩,by rw[iw];omega,by rw[iw];omega⟩,λh=>?_⟩,E.ab [0,2,3,5,9,10,11,12,13],I.sub⟩
    ·rw[← u9,GM,dA]
    ·rw[nC h,n0]
   refine RN 0 E I λa E=>?_;exact⟨cX,dU,y,⟨⟨ib,by omega,by omega⟩,λh=>by rw[MU (by rw[← nC h];omega)];exact nC h⟩,E.ab [0,2,3,5,9,10,11,12,13],I⟩
  clear E;(try clear I);rintro a w ⟨adq,cq,z,⟨cv,ew⟩,E,I⟩;refine RN 2 E I λa E=>?_;refine cn E rfl I underlying207 Ty.t22 rfl rfl rfl rfl (by decide) (by decide) λb88 a w E I ho=>?_;clear ho;refine RN 0 E I λa E=>?_;refine cK E rfl I underlying207 Ty.t22 rfl rfl I.ai rfl (by simp[Value.oneCell']) (by decide) (by decide) (by omega) λNt Nu a w E I=>?_;rw[show List.map aM ys++_=List.map aM (ys++[(adq,cq,z)]) from by rw[cS];rfl]at I;refine RN 4 E I λa E=>?_;have cI:=U.jY (f:=ba) (x:=(adq,cq,z)) (I.sub (M:=Sl 5 1 adq z.length cq (bc z)::ah ba ys::Sl 22 1 Nt (i+1) Nu ((ys++[(adq,cq,z)]).map aM)::aa b5 47 (dr b adT cT)::L));refine⟨xs.length-(i+1),by omega,i+1,Co,ys++[(adq,cq,z)],Nt,Nu,⟨rfl,by omega,by rw[aN,iS];rfl,λj l y hj hy=>?_,λh=>?_⟩,E.ab [0,2,3,5,9,10,11,12],cI.sub⟩
  ·by_cases gP:j<i
   ·rw[mv (by omega)]at hy;exact nI j l y hj hy
   ·have ea:=(aZ.1 hy).1;rw[aN,jC]at ea;obtain rfl:j=i:=by omega
    rw[pn (by omega),iS,Nat.sub_self]at hy;obtain rfl:(adq,cq,z)=y:=by simpa using hy
    rw[eh]at hj;obtain rfl:x.2.2=l:=by simpa using hj
    exact cv
  ·rw[bk,cS,← bk,vl h,jv (by rw[ji,bf,gn];omega)]
   congr 1
   rw[map_singleton,ew h];simp only[ji,getElem_map];rw[(aZ.1 hx).2]
 obtain rfl:i=xs.length:=by omega
 have iu:zr to (bk xs) (bk ys):=⟨by rw[gn,gn];exact iS,λj l x hj hx=>by
  rw[bm]at hx;obtain⟨y,hy,rfl⟩:=rC.1 hx;exact nI j l y hj hy⟩
 have mU:r=0→bk ys=ji b (bk xs) to:=λh=>by rw[vl h,fO (by rw[ji,bf,gn];exact bh _)]
 clear nI vl;refine RN 6 E I λa E=>?_;replace I:=I.bR 22 1 none;replace I:=U.iZ (f:=ba) I;refine aQ (λμ a w=>∃ (d:Nat) (zs:List ef) (mV:Option Addr) (mW:Nat),(μ=to-aV (bk xs)-d∧d≤to-aV (bk xs)∧bk zs=(List.range d).map λi=>bM (bk ys) (aV (bk xs)+i))∧Fr a 117 [(0,.slice g7 xs.length cl),(3,.int .i64 to),(10,.slice nD xs.length nE),(14,.slice mV d mW),(15,.int .i64 (aV (bk xs)+d:Nat))]∧U W w (Sl 22 1 mV d mW (zs.map aM)::ah ba zs::Sl 22 1 nD xs.length nE (ys.map aM)::ah ba ys::L)) (to-aV (bk xs)) (⟨0,[],none,0,⟨rfl,by omega,rfl⟩,by rw[Nat.add_zero];exact E.ab [0,3,10,14,15],(I.sub:U W w (Sl 22 1 none 0 0 []::ah ba []::Sl 22 1 nD xs.length nE (ys.map aM)::ah ba ys::L))⟩) ?_;clear E I;rintro μ a w ⟨d,zs,mV,mW,⟨rfl,hd,tL⟩,E,I⟩;refine IF 5 E I (λbO a E=>?_) λbO a E=>?_
 ·
  refine RN 6 E I λa E=>?_;replace I:=I.bR 5 1 none;refine aQ (λμ a w=>∃ (i:Nat) (iT:Option Addr) (jj:Nat),(μ=xs.length-i∧i≤xs.length)∧Fr a 117 [(0,.slice g7 xs.length cl),(3,.int .i64 to),(10,.slice nD xs.length nE),(14,.slice mV d mW),(15,.int .i64 (aV (bk xs)+d:Nat)),(16,.slice iT i jj),(17,.int .i64 i)]∧U W w (Sl 5 1 iT i jj (bc (fF (bk ys) (aV (bk xs)+d) i))::Sl 22 1 mV d mW (zs.map aM)::ah ba zs::Sl 22 1 nD xs.length nE (ys.map aM)::ah ba ys::L)) (xs.length) (⟨0,none,0,⟨rfl,by omega⟩,E.ab [0,3,10,14,15,16,17],I⟩) ?_;clear E I;rintro μ a w ⟨i,iT,jj,⟨rfl,hi⟩,E,I⟩;refine IF 6 E I (λeZ a E=>?_) λeZ a E=>?_
  ·
   have aF:i<xs.length:=by omega
   have Cc:=U.mB (xs:=ys) (I.sub (M:=Sl 22 1 nD xs.length nE (ys.map aM)::ah ba ys::[]));obtain⟨a6,agh,y,rfl,hy,o8,lU⟩:=Cc.at (i:=i) (by omega);have Cp:=iu.fit i _ y.2.2 (aD (by rw[gn];exact aF)) (by rw[bm,hy];rfl);obtain⟨bb,oo,tT,ia⟩:=lU.get (by have:=Cp.2.1;omega);refine RN 5 E I λa E=>?_;refine SS E (ae E (o8)) λa E=>?_;rw[aM,tT]at E;refine SX 1 E I (by have:=Cp.2.1;omega) λa E=>?_;refine RN 0 E I λa E=>?_;refine SS E (ae E (ia (aV (bk xs)+d) _ (ll (by have:=Cp.2.1;omega)))) λa E=>?_;refine RN 0 E I λa E=>?_;refine cn E rfl I underlying22 Ty.t5 rfl rfl rfl rfl (by decide) (by decide) λSb a w E I ho=>?_;clear ho;refine RN 0 E I λa E=>?_;refine cK E rfl I underlying22 Ty.t5 rfl rfl I.ai rfl (eF [y.2.2.getD (aV (bk xs)+d) 0]) (by decide) (by decide) (by omega) λaaT aaU a w E I=>?_;rw[show bc (fF (bk ys) (aV (bk xs)+d) i)++_=bc (fF (bk ys) (aV (bk xs)+d) (i+1)) from by rw[BO (by rw[gn];omega),getElem_map,fR,(aZ.1 hy).2]]at I;refine RN 4 E I λa E=>?_;exact⟨xs.length-(i+1),by omega,i+1,aaT,aaU,⟨rfl,by omega⟩,E.ab [0,3,10,14,15,16,17],I.sub⟩
  obtain rfl:i=xs.length:=by omega
  have ea:fF (bk ys) (aV (bk xs)+d) xs.length=bM (bk ys) (aV (bk xs)+d):=by
   conv=>lhs;rw[← iS,← gn]
   exact BN _ _
  rw[ea]at I;have qz:(bM (bk ys) (aV (bk xs)+d)).length=xs.length:=by rw[nu,gn];exact iS
  refine RN 2 E I λa E=>?_;refine cn E rfl I underlying207 Ty.t22 rfl rfl rfl rfl (by decide) (by decide) λSc a w E I ho=>?_;clear ho;refine RN 0 E I λa E=>?_;refine cK E rfl I underlying207 Ty.t22 rfl rfl I.ai rfl (by simp[Value.oneCell']) (by decide) (by decide) (by omega) λNv Nw a w E I=>?_;rw[show List.map aM zs++_=List.map aM (zs++[(iT,jj,bM (bk ys) (aV (bk xs)+d))]) from by rw[cS,map_singleton,aM,qz];rfl]at I;refine RN 4 E I λa E=>?_;have cI:=U.jY (f:=ba) (x:=(iT,jj,bM (bk ys) (aV (bk xs)+d))) (by
   rw[ba,qz];exact I.sub (M:=Sl 5 1 iT xs.length jj (bc (bM (bk ys) (aV (bk xs)+d)))::ah ba zs::Sl 22 1 Nv (d+1) Nw ((zs++[(iT,jj,bM (bk ys) (aV (bk xs)+d))]).map aM)::Sl 22 1 nD xs.length nE (ys.map aM)::ah ba ys::L))
  exact⟨to-aV (bk xs)-(d+1),by omega,d+1,zs++[(iT,jj,bM (bk ys) (aV (bk xs)+d))],Nv,Nw,⟨rfl,by omega,by rw[bk,cS,← bk,tL,range_succ,cS];rfl⟩,by rw[show ((aV (bk xs)+(d+1):Nat):Int)=((aV (bk xs)+d:Nat):Int)+1 from by omega];exact E.ab [0,3,10,14,15],cI.sub⟩
 obtain rfl:d=to-aV (bk xs):=by omega
 refine RT 3 E I ?_;exact⟨mV,mW,bk ys,rfl,⟨iu,mU⟩,cd.close (xs:=zs) (I.sub (M:=Sl 22 1 mV (to-aV (bk xs)) mW (zs.map aM)::ah ba zs::L)) tL (Cb _ _ _)⟩
end
end
section
section
variable {W w:World}{Z:List SP}{n c i tq sq r nk base front:Nat}{ad:Option Addr}{M:jF}{B:jk}{y:UInt8}{x:Br}{p:Pr}{s:Pl}{T:Tr}
theorem aaV (I:U W w (aa M.mb 177 (dW p M nk base front)::aP W M.B p s::Z))(hw:cx p s)(hx:wB W (aa M.mb 177 (dW p M nk base front)::aP W M.B p s::Z) ad x.al)
   (hf:x.frm=(front:Int)) (hj:∀ j∈x.al,j.length=s.k.n) (hb:front+x.al.length≤100000) :
   Calls prog 288 #[pt M.mb,.agg (cg x ad c).toArray] w λe V=>e=.returned (.bool (jG s.k.ls front x.al))∧U W V (aa M.mb 177 (dW p M nk base front)::aP W M.B p s::Z):=by
 obtain⟨zs,hz,hx⟩:=hx;have bT:=hw.wc.lr;have eD:=hw.wc.ls;have xz:=hw.wc.n;have jt:zs.length=x.al.length:=by rw[← hz,bf]
 refine EN func288 ntmps288 rfl rfl λa E=>?_;refine BX 1 E I λb3 a w E I=>?_;refine CL 6 E I (n3 (I.pick (aP W M.B p s))) λa w E I=>?_;replace I:=aP.open I;refine CL 0 E I (o5 (I.pick (aA M.B.core s.k))) λa w E I=>?_;refine RN 1 E I λa E=>?_;obtain⟨D,I,hD⟩:=aA.qu I;have Nx:∀ V,U W V (Qu M.B.core.qb M.B.core.aB s.k.ls::D::aa M.B.pb 192 (gB p M.B s.g)::az W p M.B.an M.B.cO::Sl 5 1 M.B.adT M.B.gs.table.length M.B.cT (bc M.B.gs.table)::aa M.mb 177 (dW p M nk base front)::Z)→iH V ad zs :=
  λV h=>hx V ((aP.fold (hD _ _ h) M.B p s).sub)
 refine RN 6 E I λa E=>?_;refine aQ (λμ a w=>∃ (i:Nat),(μ=x.al.length-i∧i≤x.al.length∧(∀ j,j<i→tQ s.k.ls (front+j) (x.al.getD j [])=true))∧Fr a 59 [(0,pt M.mb),(3,pt b3),(5,pt M.B.core.qb),(19,.slice ad x.al.length c),(20,.int .i64 x.al.length),(21,.int .i64 i)]∧U W w (Qu M.B.core.qb M.B.core.aB s.k.ls::D::aa b3 238 (cg x ad c)::aa M.B.pb 192 (gB p M.B s.g)::az W p M.B.an M.B.cO::Sl 5 1 M.B.adT M.B.gs.table.length M.B.cT (bc M.B.gs.table)::aa M.mb 177 (dW p M nk base front)::Z)) (x.al.length) (⟨0,⟨rfl,by omega,λj h=>absurd h (by omega)⟩,E.ab [0,3,5,19,20,21],I.sub⟩) ?_;clear E I;rintro μ a w ⟨i,⟨rfl,hi,vo⟩,E,I⟩;refine IF 3 E I (λaj a E=>?_) λaj a E=>?_
 ·
  have aF:i<zs.length:=by omega
  obtain⟨kK,ox,z,gY,kM,kD,GW⟩:=(Nx _ I.sub).at aF;have Ny:x.al.getD i []=z.2.2:=by rw[bl,← hz,bm,kM];rfl
  have KE:z.2.2.length=s.k.n:=hj _ (by rw[← hz];exact cV.2 ⟨z,bH kM,rfl⟩);refine RN 3 E I λa E=>?_;rw[gY]at E;refine RN 1 E I λa E=>?_;refine SS E (ae E (kD)) λa E=>?_;rw[← gY]at E;rw[aM]at E;refine RN 6 E I λa E=>?_;refine aQ (λμ a w=>∃ (v:Nat),(μ=z.2.2.length-v∧v≤z.2.2.length∧(∀ q,q<v→front+i<(s.k.ls.getD q []).length→(s.k.ls.getD q []).getD (front+i) 0=z.2.2.getD q 0))∧Fr a 59 [(0,pt M.mb),(3,pt b3),(5,pt M.B.core.qb),(6,.int .i64 i),(19,.slice ad x.al.length c),(20,.int .i64 x.al.length),(21,.int .i64 i),(26,.slice z.1 z.2.2.length z.2.1),(27,.int .i64 z.2.2.length),(28,.int .i64 v)]∧U W w (Qu M.B.core.qb M.B.core.aB s.k.ls::D::aa b3 238 (cg x ad c)::aa M.B.pb 192 (gB p M.B s.g)::az W p M.B.an M.B.cO::Sl 5 1 M.B.adT M.B.gs.table.length M.B.cT (bc M.B.gs.table)::aa M.mb 177 (dW p M nk base front)::Z)) (z.2.2.length) (⟨0,⟨rfl,by omega,λj h=>absurd h (by omega)⟩,E.ab [0,3,5,6,19,20,21,26,27,28],I⟩) ?_;clear E I;rintro μ a w ⟨v,⟨rfl,hv,GX⟩,E,I⟩;refine IF 3 E I (λao a E=>?_) λao a E=>?_
  ·
   have Cq:v<z.2.2.length:=by omega
   have Nz:v<s.k.ls.length:=by omega
   obtain⟨agi,agj,cv,Cr⟩:=((Nx _ I.sub).2 z (bH kM)).get (by omega);refine RN 3 E I λa E=>?_;rw[cv]at E;refine RN 1 E I λa E=>?_;refine SS E (ae E (Cr v _ (ll Cq))) λa E=>?_;rw[← cv]at E;refine a1 3 (λw0 V=>Rd V b3 0 (cg x ad c)) [2] [0,1,3,5,3004,6,1002,1007,8,9,10,11,12] E I λa w E I hH=>?_;have hC:=hH.at w (I.ai (b:=b3));refine RH 4 E I hH hC λa E=>?_;refine QH E (λw hc=>ae E (hc 1 _ rfl)) hC λa E=>?_;refine RH 1 E I hH hC λa E=>?_;rw[hf,show ((front:Nat):Int)+(i:Int)=((front+i:Nat):Int) from rfl]at E;refine CL 0 E I (tC (I.pick (Qu M.B.core.qb M.B.core.aB s.k.ls)) Nz) λa w E I=>?_;replace hC:=hH.at w (I.ai (b:=b3));refine RH 0 E I hH hC λa E=>?_;refine CL 0 E I (Zw I Nz) λa w E I=>?_;refine RN 5 E I λa E=>?_;refine BY 3 E I (λnh a E=>?_) λnh a E=>?_
   ·
    refine IF 4 E I (λay a E=>?_) λay a E=>?_
    ·
     refine RT 2 E I ?_;exact⟨by rw[aaI (i:=i) (by omega) (by rw[Ny];exact aaH Cq nh (λe=>ay (by rw[e])))],((aP.fold (hD _ _ I) M.B p s).sub)⟩
    refine RN 2 E I λa E=>?_;refine⟨z.2.2.length-(v+1),by omega,v+1,⟨rfl,by omega,λq hq h1=>?_⟩,E.ab [0,3,5,6,19,20,21,26,27,28],I.sub⟩;rcases (by omega:q<v∨q=v) with h | rfl
    ·exact GX q h h1
    ·exact UInt8.toNat.inj (by omega)
   refine RN 7 E I λa E=>?_;refine⟨z.2.2.length-(v+1),by omega,v+1,⟨rfl,by omega,λq hq h1=>?_⟩,E.ab [0,3,5,6,19,20,21,26,27,28],I.sub⟩;rcases (by omega:q<v∨q=v) with h | rfl
   ·exact GX q h h1
   ·omega
  refine RN 2 E I λa E=>?_;refine⟨x.al.length-(i+1),by omega,i+1,⟨rfl,by omega,λj hj=>?_⟩,E.ab [0,3,5,19,20,21],I.sub⟩;rcases (by omega:j<i∨j=i) with h | rfl
  ·exact vo j h
  ·rw[Ny];exact Nn λq hq=>GX q (by omega)
 refine bW 1 [5] [0,2,3,4,3001,1005,6,7] E I λa w E I hH hC=>?_;refine RH 8 E I hH hC λa E=>?_;refine RT 0 E I ?_;exact⟨by rw[hf,dp rfl,No λj hj=>vo j (by omega)],((aP.fold (hD _ _ I) M.B p s).sub)⟩
theorem aaW {P:List (List UInt8)}(I:U W w (aa M.mb 177 (dW p M nk base front)::Tree M.tq M.sq T::Z))(hx:wB W Z ad P)(qN:P.length≤65536) :
   Calls prog 305 #[pt M.mb,.slice ad P.length c] w λe V=>∃ r:Bool,e=.returned (.bool r)∧(r=true→T.l≠[])∧U W V (aa M.mb 177 (dW p M nk base front)::Tree M.tq M.sq T::Z):=by
 obtain⟨zs,hz,hx⟩:=hx;have jt:zs.length=P.length:=by rw[← hz,bf]
 have lh:=Tree.wt (I.tree M.tq);have NA:=lh.most;refine EN func305 ntmps305 rfl rfl λa E=>?_;refine aX 8 E I (AS (I.tree M.tq)) λtU q3 a w E I=>?_;obtain⟨xs,h1,h2,I⟩:=k8.open I;have b0:xs.length=T.l.length:=by rw[← h1,bf]
 refine RN 2 E I λa E=>?_;refine aQ (λμ a w=>∃ (i:Nat),(μ=T.l.length-i∧i≤T.l.length)∧Fr a 61 [(0,pt M.mb),(1,.slice ad P.length c),(14,.slice tU T.l.length q3),(15,.int .i64 T.l.length),(16,.int .i64 i)]∧U W w (Sl 238 5 tU T.l.length q3 (rows c5 xs)::ah b7 xs::Tree M.tq M.sq T::aa M.mb 177 (dW p M nk base front)::Z)) (T.l.length) (⟨0,⟨rfl,by omega⟩,E.ab [0,1,14,15,16],I.sub⟩) ?_;clear E I;rintro μ a w ⟨i,⟨yG,hi⟩,E,I⟩;refine IF 3 E I (λaj a E=>?_) λaj a E=>?_
 ·
  obtain⟨b',dI,rfl,dh⟩:=I.bY tU (by omega);obtain⟨⟨x,eP,dc⟩,eb⟩:∃ y,xs[i]?=some y:=⟨_,aD (by omega)⟩;have fY:=oB dh eb;have jy:T.l[i]?=some x:=by rw[← h1,bm,eb];rfl
  have kF:=lh.ok x (bH jy);have hxP:=kF.1.1;have aaX:T.l≠[]:=λe=>by rw[e]at jy;cases jy
  refine RN 3 E I λa E=>?_;refine SS E (bQ E underlying238 rfl Ty.t238 (fY)) λa E=>?_;refine AL 0 E I λcG a w E I=>?_;refine SA 0 E I λa w E I=>?_;refine RN 6 E I λa E=>?_;refine cc (M:=λa w=>∃ q:Bool,(q=false→x.al.length≤P.length)∧Fr a 61 [(0,pt M.mb),(1,.slice ad P.length c),(6,pt cG),(7,.int .i64 x.al.length),(14,.slice (some ⟨b',dI,none⟩) T.l.length q3),(15,.int .i64 T.l.length),(16,.int .i64 i),(38,.bool q)]∧U W w (aa cG 238 (cg x eP dc)::Sl 238 5 (some ⟨b',dI,none⟩) T.l.length q3 (rows c5 xs)::ah b7 xs::Tree M.tq M.sq T::aa M.mb 177 (dW p M nk base front)::Z)) ?_ ?_
  ·
   refine BY 5 E I (λdk a E=>?_) λdk a E=>?_
   ·
    refine RN 11 E I λa E=>?_;exact⟨_,(λh=>by first | omega | cases h),E.ab [0,1,6,7,14,15,16,38],I.sub⟩
   refine BY 5 E I (λu1 a E=>?_) λu1 a E=>?_
   ·
    refine RN 6 E I λa E=>?_;exact⟨_,(λh=>by first | omega | cases h),E.ab [0,1,6,7,14,15,16,38],I.sub⟩
   refine RN 6 E I λa E=>?_;exact⟨_,(λh=>by first | omega | cases h),E.ab [0,1,6,7,14,15,16,38],I.sub⟩
  clear E;(try clear I);rintro a w ⟨q,hq,E,I⟩;refine IF 0 E I (λao a E=>?_) λao a E=>?_
  ·
   refine RN 2 E I λa E=>?_;exact⟨T.l.length-(i+1),by omega,i+1,⟨rfl,by omega⟩,E.ab [0,1,14,15,16],I.sub⟩
  have oM:=hq ao;refine RN 6 E I λa E=>?_;refine aQ (λμ a w=>∃ (v:Nat) (BK:Bool),(μ=x.al.length-v∧v≤x.al.length)∧Fr a 61 [(0,pt M.mb),(1,.slice ad P.length c),(6,pt cG),(7,.int .i64 x.al.length),(8,.bool BK),(14,.slice (some ⟨b',dI,none⟩) T.l.length q3),(15,.int .i64 T.l.length),(16,.int .i64 i),(39,.int .i64 x.al.length),(40,.int .i64 v)]∧U W w (aa cG 238 (cg x eP dc)::Sl 238 5 (some ⟨b',dI,none⟩) T.l.length q3 (rows c5 xs)::ah b7 xs::Tree M.tq M.sq T::aa M.mb 177 (dW p M nk base front)::Z)) (x.al.length) (⟨0,true,⟨rfl,by omega⟩,E.ab [0,1,6,7,8,14,15,16,39,40],I⟩) ?_;clear E I;rintro μ a w ⟨v,BK,⟨rfl,hv⟩,E,I⟩;refine IF 3 E I (λay a E=>?_) λay a E=>?_
  ·
   have Cq:v<x.al.length:=by omega
   refine RN 4 E I λa E=>?_;obtain⟨qX,GY,ET,f9⟩:=(ah.pG (I.drew.pick (ah b7 xs)) eb).1.2 (by omega);obtain⟨sw,sb,mN,NB⟩:=f9 v x.al[v] (aD Cq);obtain⟨dv,GZ,z,gY,kM,kD,GW⟩:=(hx _ I.drew.sub).at (i:=v) (by omega);clear f9;refine qy 0 (λV=>(Rd V cG 0 (cg x eP dc)∧V.cell? ⟨qX,GY+v,none⟩=some (.slice sw x.al[v].length sb)∧aL V sw x.al[v].length x.al[v])∧(V.cell? ⟨dv,GZ+v,none⟩=some (aM z)∧aL V z.1 z.2.2.length z.2.2)) [11,12] [0,1,2,4,8,9,10,3003,5,3006,3007,1011,1012,13,14,15] E I λa E=>?_;replace I:=I.drew;generalize w.drew=w at I mN NB kD GW ⊢;have hC:(Rd w cG 0 (cg x eP dc)∧w.cell? ⟨qX,GY+v,none⟩=some (.slice sw x.al[v].length sb)∧aL w sw x.al[v].length x.al[v])∧(w.cell? ⟨dv,GZ+v,none⟩=some (aM z)∧aL w z.1 z.2.2.length z.2.2):=⟨⟨I.ai (b:=cG),mN,NB⟩,kD,GW⟩;have hH:=Hd.any (λV=>(Rd V cG 0 (cg x eP dc)∧V.cell? ⟨qX,GY+v,none⟩=some (.slice sw x.al[v].length sb)∧aL V sw x.al[v].length x.al[v])∧(V.cell? ⟨dv,GZ+v,none⟩=some (aM z)∧aL V z.1 z.2.2.length z.2.2));refine RH 2 E I hH hC λa E=>?_;refine E.by (s:=44) (λnh E=>?_) (λnh E=>?_)
   ·
    refine RH 4 E I hH hC λa E=>?_;rw[gY]at E;refine RH 1 E I hH hC λa E=>?_;rw[← gY]at E;refine QH E (λw hc=>ae E (hc.1.1 2 _ rfl)) hC λa E=>?_;rw[ET]at E;refine RH 1 E I hH hC λa E=>?_;refine QH E (λw hc=>ae E (hc.1.2.1)) hC λa E=>?_;refine QH E (λw hc=>ky E underlying22 underlying5 underlying9 (hc.1.2.2)) hC λa E=>?_;refine RH 0 E I hH hC λa E=>?_;refine bu E (cu E rfl (s:=44)) (ae E (hC.2.1)) rfl λa E=>?_;rw[aM]at E;refine RH 0 E I hH hC λa E=>?_;refine bu E (cu E rfl (s:=44)) (ky E underlying22 underlying5 underlying9 (hC.2.2)) rfl λa E=>?_;refine RH 0 E I hH hC λa E=>?_;refine QP E (λw=>sO E) λa E=>?_;refine RH 2 E I hH hC λa E=>?_;refine RN 2 E I λa E=>?_;exact⟨x.al.length-(v+1),by omega,v+1,_,⟨rfl,by omega⟩,E.ab [0,1,6,7,8,14,15,16,39,40],I.sub⟩
   refine RH 14 E I hH hC λa E=>?_;refine RN 2 E I λa E=>?_;exact⟨x.al.length-(v+1),by omega,v+1,_,⟨rfl,by omega⟩,E.ab [0,1,6,7,8,14,15,16,39,40],I.sub⟩
  refine IF 2 E I (λbj a E=>?_) λbj a E=>?_
  ·
   refine RT 2 E I ?_;exact⟨_,rfl,λ_=>aaX,I.sub⟩
  refine RN 2 E I λa E=>?_;exact⟨T.l.length-(i+1),by omega,i+1,⟨rfl,by omega⟩,E.ab [0,1,14,15,16],I.sub⟩
 refine RT 2 E I ?_;exact⟨_,rfl,(λh=>by cases h),I.sub⟩
end
end
section
def vp (k:Ks)(T:Tr):Prop:=∀ y∈T.l,(∀ j∈y.al,j.length=k.n)∧jG k.ls (aw k) y.al=true
def qd (T:Tr)(J:Js)(i:Nat):Js:=(T.l.take i).foldl (λJ y=>if y.done<y.al.length then l6 J y.id T.epoch else J) J
def zC (T:Tr)(J:Js):Js:=qd T (kept (λj=>decide (j.2<T.epoch)) J) T.l.length
theorem aaY {T:Tr}{J:Js}{i:Nat}{x:Br}(h:T.l[i]?=some x):qd T J (i+1)=if x.done<x.al.length then l6 (qd T J i) x.id T.epoch else qd T J i:=by
 obtain⟨hi,rfl⟩:=aZ.1 h;rw[qd,jv hi,foldl_append];rfl
theorem NC {T:Tr}{J:Js}(h:J.length≤16)(i:Nat):(qd T J i).length≤16:=by
 unfold qd;generalize T.l.take i=l
 induction l generalizing J with
 | nil=>exact h
 | cons y l ih =>
  rw[foldl_cons];apply ih;split
  ·exact A4 h
  ·exact h
theorem ND {J:Js}(f:Int×Int→Bool)(h:J.length≤16):(kept f J).length≤16:=gC (qE _ _) h
theorem aaZ {ls X:List (List UInt8)}{fr to:Nat}(h:zr to ls X):(∀ j∈nB X fr to,j.length=ls.length)∧jG ls fr (nB X fr to)=true:=by
 refine⟨λj hj=>?_,No λi hi=>Nn λq hq h1=>?_⟩
 ·rw[nB,cV]at hj;obtain⟨i,_,rfl⟩:=hj;rw[nu,h.len]
 ·rw[Cb]at hi;have he:(nB X fr to).getD i []=bM X (fr+i):=by
   rw[nB,bl,bm,getElem?_range hi];rfl
  rw[he,nu]at hq;rw[he];obtain⟨l,hl⟩:∃ l,ls[q]?=some l:=⟨_,aD (by rw[← h.len];exact hq)⟩;obtain⟨x,hx⟩:∃ x,X[q]?=some x:=⟨_,aD hq⟩;obtain⟨⟨t,rfl⟩,_⟩:=h.fit q l x hl hx;have e1:ls.getD q []=l:=by rw[bl,hl];rfl
  rw[e1]at h1 ⊢;rw[bM,bl,bl,bm,hx];show _=((l++t).getD (fr+i) 0);rw[bl,mv h1]
structure sx (p:Pr)(s:Pl)(t:Nat→Nat)(base:Nat)(A0:Sn)(T0:Tr)(r:Nat)(ws:List Wk)(A:Sn)(T:Tr):Prop where
 inv:Inv p (aw s.k:Int) s.g t base A T ws
 gk:vp s.k T
 room:A.room=A0.room
 n:A.n≤A0.n+r
 last:T.last≤T0.last+r
 most:T.most=T0.most
 sL:T.epoch=T0.epoch
 add:∃ l,T.l=T0.l++l∧∀ y∈l,y.done=0∧y.al≠[]∧y.al.length=aH s.k-aw s.k
 has:0<r→aw s.k<aH s.k→T.l≠[]
section
variable {p:Pr}{s:Pl}{t:Nat→Nat}{base r i:Nat}{A0 A:Sn}{T0 T:Tr}{ws:List Wk}{P:List (List UInt8)}{px:aC}
theorem sx.skip (h:sx p s t base A0 T0 r ws A T)(hT:aw s.k<aH s.k→T.l≠[]):sx p s t base A0 T0 (r+1) ws A T :=
 ⟨h.inv,h.gk,h.room,Nat.le_succ_of_le h.n,Nat.le_succ_of_le h.last,h.most,h.sL,h.add,λ_=>hT⟩
theorem sx.push (h:sx p s t base A0 T0 r ws A T)(hA:WF A)(hT:WT T)(hi:A.av[i]?=some px)(hb:px.id=base)(h0:P≠[])(qN:P.length=aH s.k-aw s.k)(hj:∀ j∈P,j.length=s.k.n)(hk:jG s.k.ls (aw s.k) P=true) :
   sx p s t base A0 T0 (r+1) ws (A.add px.g px.p) (T.add (aw s.k:Int) P (A.last+1)):=by
 refine⟨h.inv.Ww hA hT hi hb,λy hy=>?_,h.room,?_,?_,h.most,h.sL,?_,λ_ _ e=>?_⟩
 ·rcases eX.1 hy with hy | hy
  ·exact h.gk y hy
  ·rw[iF.1 hy];exact⟨hj,hk⟩
 ·have:=h.n;simp only[Sn.add];omega
 ·have:=h.last;simp only[Tr.add];omega
 ·obtain⟨l,h1,h2⟩:=h.add;refine⟨l++[⟨T.last+1,(aw s.k:Int),P,0,A.last+1⟩],by simp only[Tr.add];rw[h1,dA],λy hy=>?_⟩;rcases eX.1 hy with hy | hy
  ·exact h2 y hy
  ·rw[iF.1 hy];exact⟨rfl,h0,qN⟩
 ·simp[Tr.add]at e
end
section
variable {W w:World}{L Z:List SP}{n i tq sq r base front:Nat}{M:jF}{B:jk}{y:UInt8}{x:Br}{p:Pr}{s:Pl}{m:Mu}{A:Sn}{T:Tr}{g0:Nat→Int}{t:Nat→Nat}{px:aC}
theorem aa0 {frm:Int}{ad2:Option Addr}{c2 id:Nat}{zs:List ef}{P:List (List UInt8)}(I:U W w (Tree tq sq T::ax sq r A::L))(hr:∀ V,U W V L→iH V ad2 zs)(hz:zs.map (·.2.2)=P)(hc:P.length≤c2)(dj:nS P)(h0:P≠[])
   (hx:A.av[i]?=some px) (bX:px.id=id) (hb:A.n+1<1099511627776) (hl:T.last+1<1099511627776) :
   Calls prog 306 #[pt tq,.int .i64 frm,.int .i64 id,.slice ad2 P.length c2] w λe V=>∃ (z:Nat) (ok:Bool),e=.returned (.tuple #[.int .i64 z,.bool ok]) ∧
    (((T.most=0∨T.l≠[])∧U W V (Tree tq sq T::ax sq r A::L))∨U W V (Tree tq sq (T.add frm P (A.last+1))::ax sq r (A.add px.g px.p)::L)):=by
 by_cases hm:T.l.length<T.most
 ·refine (X7 I hr hz hc dj hx bX hb hl hm).mono λe V ⟨z,ok,h1,h2⟩=>⟨z,ok,h1,?_⟩;rcases h2 with ⟨_,h3,h4⟩ | ⟨_,_,_,_,h4⟩
  ·refine .inl ⟨.inr λe=>?_,h4⟩;rcases h3 with h3 | ⟨y,hy,_⟩
   ·exact h0 h3
   ·rw[e]at hy;cases hy
  ·exact .inr h4
 ·refine (JX I (.inl (by omega))).mono λe V ⟨h1,I⟩=>⟨0,false,h1,.inl ⟨?_,I⟩⟩;rcases lD T.most with h | h
  ·exact .inl h
  ·exact .inr λe=>by rw[e]at hm;simp at hm;omega
theorem aa1 (I:U W w (aG W M p m::L))(hw:cx p m.s)(hI:Inv p (aw m.s.k:Int) m.s.g t m.base m.A m.T (m.ks.map (·.1)))(fA:m.front=aw m.s.k)(fI:cY M.B.gs)(hB:vp m.s.k m.T)(kL:m.J.length≤16)
   (qa:m.s.k.cw=(m.T.most:Int)) (hn:m.A.n+10<1099511627776) (hl:m.T.last+10<1099511627776) :
   Calls prog 289 #[pt M.mb] w λe V=>∃ (A':Sn) (T':Tr),e=.returned (.tuple #[])∧sx p m.s t m.base m.A m.T m.T.most (m.ks.map (·.1)) A' T'∧U W V (aG W M p { m with A:=A',T:=T',J:=zC T' m.J }::L):=by
 have bT:=hw.wc.lr;have eD:=hw.wc.ls;have xz:=hw.wc.n;have iQ:m.s.k.ls.length≤8:=by rw[eD];exact xz.2
 have gS:=hw.wc.lO;have jR:aV m.s.k.ls≤aH m.s.k:=hw.wc.ny;obtain⟨mb,B,sq,r,tq,jq,dy,dF,an,cO⟩:=M;obtain⟨s,A,T,J,ks,base,front⟩:=m;simp only at hw hI fA fI hB kL qa hn hl bT eD xz iQ gS jR;subst fA;have NA:=(Tree.wt ((aG.open I).tree tq)).most.1;replace I:=aG.open I;dsimp only at I NA;refine EN func289 ntmps289 rfl rfl λa E=>?_;refine CL 6 E I (n3 (I.pick (aP W B p s))) λa w E I=>?_;replace I:=aP.open I;refine CL 0 E I (Mk (I.pick (aA B.core s.k))) λa w E I=>?_;refine RN 0 E I λa E=>?_;refine SS E (I6 E underlying28 rfl underlying3 rfl rfl) λa E=>?_;rw[show (fu s.k).cw=(T.most:Int) from qa]at E;refine RN 1 E I λa E=>?_;replace I:=aP.fold I B p s;refine aQ (λμ a w=>∃ (i:Nat) (A1:Sn) (T1:Tr),(μ=T.most-i∧i≤T.most∧sx p s t base A T i (ks.map (·.1)) A1 T1)∧Fr a 98 [(0,pt mb),(12,.int .i64 T.most),(13,.int .i64 i)]∧U W w (aa mb 177 (dW p ⟨mb,B,sq,r,tq,jq,dy,dF,an,cO⟩ ks.length base (aw s.k))::aP W B p s::az W p an cO::Sl 179 1 dy ks.length dF (gR ks)::ah (fc p an cO tq jq sq) ks::Tree tq sq T1::ax sq r A1::bL jq J::L)) (T.most) (⟨0,A,T,⟨rfl,by omega,⟨hI,hB,rfl,bh _,bh _,rfl,rfl,⟨[],by simp,λy hy=>by cases hy⟩,λh=>absurd h (by omega)⟩⟩,E.ab [0,12,13],I.sub⟩) ?_;clear E I;rintro μ a w ⟨i,A1,T1,⟨rfl,hi,qe⟩,E,I⟩;refine IF 3 E I (λaj a E=>?_) λaj a E=>?_
 ·
  have hiT:i<T.most:=by omega
  have hAn:=qe.n;have zB:=qe.last;have Ck:=(ax.facts (I.store sq)).1;have su:=Tree.wt (I.tree tq);obtain⟨aa2,px,hQ,lg⟩:=qe.inv.mD (jo ..);refine a1 5 (λw0 V=>Rd V mb 0 (dW p ⟨mb,B,sq,r,tq,jq,dy,dF,an,cO⟩ ks.length base (aw s.k))) [4,5,9,10,15] [0,1,2,6,7,8,11,12,13,14,3003,3009,3015,1004,1005,1010,1016,1017,1018,19] E I λa w E I hH=>?_;have hC:=hH.at w (I.ai (b:=mb));refine RH 10 E I hH hC λa E=>?_;refine QH E (λw hc=>ae E (hc 0 _ rfl)) hC λa E=>?_;refine QH E (λw hc=>ae E (hc 0 _ rfl)) hC λa E=>?_;refine QH E (λw hc=>ae E (hc 0 _ rfl)) hC λa E=>?_;refine RH 0 E I hH hC λa E=>?_;refine CL 0 E I (n3 (I.pick (aP W B p s))) λa w E I=>?_;replace hC:=hH.at w (I.ai (b:=mb));replace I:=aP.open I;refine RH 0 E I hH hC λa E=>?_;refine CL 0 E I (o5 (I.pick (aA B.core s.k))) λa w E I=>?_;replace hC:=hH.at w (I.ai (b:=mb));replace I:=aP.fold I B p s;refine RH 0 E I hH hC λa E=>?_;refine CL 0 E I (Nl (I.pick (aP W B p s))) λa w E I=>?_;replace hC:=hH.at w (I.ai (b:=mb));refine RH 0 E I hH hC λa E=>?_;refine CL 0 E I (n3 (I.pick (aP W B p s))) λa w E I=>?_;replace I:=aP.open I;refine CL 0 E I (tE (I.pick (aA B.core s.k)) hw.wc) λa w E I=>?_;obtain⟨D,I,hD⟩:=aA.qu I;refine j1 0 E I (GN (r:=i) (to:=aH s.k) (.inr aaD) (by omega) I fI bT iQ hw.wc.nx gS (λV dg=>(dg.pick (Sl 5 1 B.adT B.gs.table.length B.cT (bc B.gs.table))).cr B.adT _ rfl rfl)) λgd gm X a w E ⟨⟨tM,_⟩,I⟩=>?_;replace I:U W w (Qu B.core.qb B.core.aB s.k.ls::D::cd gd (aH s.k-aV s.k.ls) gm (nB X (aV s.k.ls) (aH s.k))::_):=I.sub (M:=Qu B.core.qb B.core.aB s.k.ls::D::cd gd (aH s.k-aV s.k.ls) gm (nB X (aV s.k.ls) (aH s.k))::aa B.pb 192 (gB p B s.g)::az W p B.an B.cO::Sl 5 1 B.adT B.gs.table.length B.cT (bc B.gs.table)::aa mb 177 (dW p ⟨mb,B,sq,r,tq,jq,dy,dF,an,cO⟩ ks.length base (aw s.k))::az W p an cO::Sl 179 1 dy ks.length dF (gR ks)::ah (fc p an cO tq jq sq) ks::Tree tq sq T1::ax sq r A1::bL jq J::L);replace I:=aP.fold (hD _ _ I) B p s;have qN:=Cb X (aV s.k.ls) (aH s.k);obtain⟨G0,NF⟩:=aaZ (fr:=aV s.k.ls) tM;generalize hPe:nB X (aV s.k.ls) (aH s.k)=P at I qN G0 NF;rw[← qN]at E I;obtain⟨zs,cv,ew,I⟩:=cd.open (I.pick (cd gd P.length gm P));have Cs:=(I.sl gd).2;replace I:=I.sub (M:=aa mb 177 (dW p ⟨mb,B,sq,r,tq,jq,dy,dF,an,cO⟩ ks.length base (aw s.k))::Tree tq sq T1::Sl 22 1 gd P.length gm (zs.map aM)::ah ba zs::aP W B p s::az W p an cO::Sl 179 1 dy ks.length dF (gR ks)::ah (fc p an cO tq jq sq) ks::ax sq r A1::bL jq J::L);refine RN 1 E I λa E=>?_;refine BY 6 E I (λbE a E=>?_) λbE a E=>?_
  ·
   have kN:¬ aw s.k<aH s.k:=by rw[aw];omega
   refine RN 7 E I λa E=>?_;exact⟨T.most-(i+1),by omega,i+1,A1,T1,⟨rfl,by omega,qe.skip λh=>absurd h kN⟩,E.ab [0,12,13],I.sub⟩
  have G1:P≠[]:=λe=>by rw[e]at bE;exact bE rfl
  refine aW 2 E I (aaW (M:=⟨mb,B,sq,r,tq,jq,dy,dF,an,cO⟩) (T:=T1) (P:=P) I ⟨zs,cv,λV h=>U.mB (h.sub (M:=Sl 22 1 gd P.length gm (zs.map aM)::ah ba zs::[]))⟩ (by omega)) λq a w E ⟨hq,I⟩=>?_;refine IF 1 E I (λao a E=>?_) λao a E=>?_
  ·
   refine RN 2 E I λa E=>?_;exact⟨T.most-(i+1),by omega,i+1,A1,T1,⟨rfl,by omega,qe.skip λ_=>hq ao⟩,E.ab [0,12,13],I.sub⟩
  refine bW 0 [7,11] [0,1,2,4,5,6,8,9,10,12,3003,3007,1011,1013] E I λa w E I hH hC=>?_;refine RH 13 E I hH hC λa E=>?_;refine aX 0 E I (aa0 (i:=aa2) (px:=px) (id:=base) (P:=P) (zs:=zs) ((I.store sq).tree tq) (λV h=>U.mB (h.sub (M:=Sl 22 1 gd P.length gm (zs.map aM)::ah ba zs::[]))) cv Cs ⟨by omega,λb hb=>by have:=G0 b hb;omega⟩ G1 hQ lg (by omega) (by omega)) λz ok a w E aa3=>?_;obtain⟨A2,T2,aa4,I⟩:∃ (A2:Sn) (T2:Tr),sx p s t base A T (i+1) (ks.map (·.1)) A2 T2∧U W w (aa mb 177 (dW p ⟨mb,B,sq,r,tq,jq,dy,dF,an,cO⟩ ks.length base (aw s.k))::aP W B p s::az W p an cO::Sl 179 1 dy ks.length dF (gR ks)::ah (fc p an cO tq jq sq) ks::Tree tq sq T2::ax sq r A2::bL jq J::L):=by
   rcases aa3 with ⟨xA,I⟩ | I
   ·exact⟨A1,T1,qe.skip λ_=>xA.resolve_left (by rw[qe.most];omega),I.sub⟩
   ·exact⟨_,_,qe.push Ck su hQ lg G1 qN (λj hj=>by rw[G0 j hj,eD]) NF,I.sub⟩
  refine RN 2 E I λa E=>?_;exact⟨T.most-(i+1),by omega,i+1,A2,T2,⟨rfl,by omega,aa4⟩,E.ab [0,12,13],I.sub⟩
 refine a1 1 (λw0 V=>Rd V mb 0 (dW p ⟨mb,B,sq,r,tq,jq,dy,dF,an,cO⟩ ks.length base (aw s.k))) [7,8] [0,1,2,4,5,6,3003,1007,1008,1009] E I λa w E I hH=>?_;have hC:=hH.at w (I.ai (b:=mb));refine RH 6 E I hH hC λa E=>?_;refine QH E (λw hc=>ae E (hc 5 _ rfl)) hC λa E=>?_;refine RH 0 E I hH hC λa E=>?_;refine SS E (ae E (hC 4 _ rfl)) λa E=>?_;refine RH 0 E I hH hC λa E=>?_;refine CL 0 E I (AR (I.tree tq)) λa w E I=>?_;replace hC:=hH.at w (I.ai (b:=mb));refine RH 0 E I hH hC λa E=>?_;refine CL 0 E I (Wm (I.uN jq) kL) λa w E I=>?_;change U W w (bL jq (qd T1 (kept (λj=>decide (j.2<(T1.epoch:Int))) J) 0)::_) at I;refine aX 5 E I (AS (I.tree tq)) λtU q3 a w E I=>?_;obtain⟨xs,h1,h2,I⟩:=k8.open I;have b0:xs.length=T1.l.length:=by rw[← h1,bf]
 have su:=Tree.wt (I.tree tq);have hT8:=su.most;obtain rfl:i=T.most:=by omega
 have hJ0:=ND (λj=>decide (j.2<(T1.epoch:Int))) kL;refine RN 2 E I λa E=>?_;refine aQ (λμ a w=>∃ (v:Nat),(μ=T1.l.length-v∧v≤T1.l.length)∧Fr a 98 [(0,pt mb),(72,.slice tU T1.l.length q3),(73,.int .i64 T1.l.length),(74,.int .i64 v)]∧U W w (bL jq (qd T1 (kept (λj=>decide (j.2<(T1.epoch:Int))) J) v)::Sl 238 5 tU T1.l.length q3 (rows c5 xs)::ah b7 xs::aa mb 177 (dW p ⟨mb,B,sq,r,tq,jq,dy,dF,an,cO⟩ ks.length base (aw s.k))::aP W B p s::az W p an cO::Sl 179 1 dy ks.length dF (gR ks)::ah (fc p an cO tq jq sq) ks::Tree tq sq T1::ax sq r A1::L)) (T1.l.length) (⟨0,⟨rfl,by omega⟩,E.ab [0,72,73,74],I.sub⟩) ?_;clear E I;rintro μ a w ⟨v,⟨yG,hv⟩,E,I⟩;refine IF 3 E I (λay a E=>?_) λay a E=>?_
 ·
  obtain⟨b',dI,rfl,dh⟩:=I.bY tU (by omega);obtain⟨⟨x,eP,dc⟩,eb⟩:∃ y,xs[v]?=some y:=⟨_,aD (by omega)⟩;have fY:=oB dh eb;have jy:T1.l[v]?=some x:=by rw[← h1,bm,eb];rfl
  have tn:=aaY (J:=kept (λj=>decide (j.2<(T1.epoch:Int))) J) jy;have hj6:=NC hJ0 (T:=T1) v;refine RN 3 E I λa E=>?_;refine SS E (bQ E underlying238 rfl Ty.t238 (fY)) λa E=>?_;refine AL 0 E I λb5 a w E I=>?_;refine SA 0 E I λa w E I=>?_;refine IF 7 E I (λbj a E=>?_) λbj a E=>?_
  ·
   rw[ak (by omega)]at tn;refine a1 0 (λw0 V=>Rd V mb 0 (dW p ⟨mb,B,sq,r,tq,jq,dy,dF,an,cO⟩ ks.length base (aw s.k))∧Rd V b5 0 (cg x eP dc)) [5,9,10,11] [0,1,2,4,6,7,8,3003,3005,1009,1010,1011,1012] E I λa w E I hH=>?_;have hC:=hH.at w ⟨I.ai (b:=mb),I.ai (b:=b5)⟩;refine RH 7 E I hH hC λa E=>?_;refine QH E (λw hc=>ae E (hc.1 5 _ rfl)) hC λa E=>?_;refine QH E (λw hc=>ae E (hc.2 0 _ rfl)) hC λa E=>?_;refine RH 0 E I hH hC λa E=>?_;refine SS E (ae E (hC.1 4 _ rfl)) λa E=>?_;refine RH 0 E I hH hC λa E=>?_;refine CL 0 E I (AR (I.tree tq)) λa w E I=>?_;replace hC:=hH.at w ⟨I.ai (b:=mb),I.ai (b:=b5)⟩;refine RH 1 E I hH hC λa E=>?_;refine CL 0 E I (AX (I.uN jq) hj6) λa w E I=>?_;change U W w (bL jq (l6 (qd T1 (kept (λj=>decide (j.2<(T1.epoch:Int))) J) v) x.id T1.epoch)::_) at I;refine RN 2 E I λa E=>?_;exact⟨T1.l.length-(v+1),by omega,v+1,⟨rfl,by omega⟩,E.ab [0,72,73,74],by rw[tn];exact I.sub⟩
  rw[ag (by omega)]at tn;refine RN 2 E I λa E=>?_;exact⟨T1.l.length-(v+1),by omega,v+1,⟨rfl,by omega⟩,E.ab [0,72,73,74],by rw[tn];exact I.sub⟩
 refine RT 0 E I ?_;obtain rfl:v=T1.l.length:=by omega
 rw[show qd T1 (kept (λj=>decide (j.2<(T1.epoch:Int))) J) T1.l.length=zC T1 J from rfl]at I;exact⟨A1,T1,rfl,qe,(aG.fold I ⟨mb,B,sq,r,tq,jq,dy,dF,an,cO⟩ p ⟨s,A1,T1,zC T1 J,ks,base,aw s.k⟩).sub⟩
structure G2 (p:Pr)(m m':Mu)(t':Nat→Nat):Prop where
 inv:Inv p (aw m.s.k:Int) m.s.g t' m'.base m'.A m'.T (m'.ks.map (·.1))
 s:m'.s=m.s
 front:m'.front=aw m.s.k
 gk:vp m.s.k m'.T
 J:m'.J.length≤16
 room:m'.A.room=m.A.room
 n:m'.A.n≤m.A.n+9
 last:m'.T.last≤m.T.last+8
 most:m'.T.most=m.T.most
 sL:m'.T.epoch≤m.T.epoch+3
 ks:m'.ks.length=m.ks.length
 has:0<m.T.most→aw m.s.k<aH m.s.k→m'.T.l≠[]
 uN:m'.J=zC m'.T m.J
 ab:m.front=aw m.s.k→(∀ y∈m.T.l,jG m.s.k.ls (aw m.s.k) y.al=true)→m'.ks=m.ks∧m'.T.epoch=m.T.epoch∧∃ l,m'.T.l=m.T.l++l∧∀ y∈l,y.done=0∧y.al≠[]∧y.al.length=aH m.s.k-aw m.s.k
theorem aa5 (I:U W w (aG W M p m::L))(cm:m.s.k.cl=true) :
   Calls prog 271 #[pt M.mb] w λe V=>e=.returned (.tuple #[])∧U W V (aG W M p m::L):=by
 refine EN func271 ntmps271 rfl rfl λa E=>?_;refine RN 5 E I λa E=>?_;replace E:=E.aK 4;refine CL 1 E I (zA I) λa w E I=>?_;rw[cm]at E;refine RN 1 E I λa E=>?_;replace E:=E.eG 7;refine RT 1 E I ?_;exact⟨rfl,I⟩
theorem aa6 (I:U W w (aG W M p m::L))(hw:cx p m.s)(hg:dT m.s.g)(cm:m.s.k.cl=false)(hI:Inv p (m.front:Int) g0 t m.base m.A m.T (m.ks.map (·.1)))(fA:m.front=aw m.s.k→g0=m.s.g)
   (fI:cY M.B.gs) (ea:∀ y∈m.T.l,∀ j∈y.al,j.length=m.s.k.n) (kL:m.J.length≤16) (qa:m.s.k.cw=(m.T.most:Int))
   (he:m.T.epoch+10<1099511627776) (hn:m.A.n+20<1099511627776) (hl:m.T.last+20<1099511627776) (h4:m.ks.length≤4) (sr:12≤m.A.room) :
   Calls prog 271 #[pt M.mb] w λe V=>∃ (m':Mu) (t':Nat→Nat),e=.returned (.tuple #[])∧G2 p m m' t'∧U W V (aG W M p m'::L):=by
 have gS:=hw.wc.lO;have jR:=hw.wc.ny;refine EN func271 ntmps271 rfl rfl λa E=>?_;refine RN 5 E I λa E=>?_;replace E:=E.aK 4;refine CL 1 E I (zA I) λa w E I=>?_;rw[cm]at E;refine RN 1 E I λa E=>?_;replace E:=E.aK 7;refine aX 3 E I (aaN I hw hg hI fA (by omega) (by omega) h4 sr) λNG t1 a w E ⟨hM,I⟩=>?_;refine RN 0 E I λa E=>?_;obtain⟨s1,A1,T1,agk,lv,NH,agl⟩:=NG;obtain⟨xx,e1,e2,e3,eB,mi,k7,gO,gF,gZ,NI,kO⟩:=hM;simp only at xx e1 e2 e3 eB mi k7 gO gF gZ NI kO;subst e1 e2 e3;have NJ:∀ y∈T1.l,∀ j∈y.al,j.length=m.s.k.n:=by
  rcases NI with ⟨e,_⟩ | e
  ·rw[e];exact ea
  ·rw[e];intro y hy;cases hy
 have lh:=Tree.wt ((aG.open I).tree M.tq);have NK:=(ax.facts ((aG.open I).store M.sq)).1;dsimp only at lh NK;replace I:=aG.open I;dsimp only at I;refine j2 7 E I (Np (kp:=λx=>jG m.s.k.ls (aw m.s.k) x.al) (ws:=[pt M.mb]) ((I.store M.sq).tree M.tq) (by omega) (by kernel_rfl) (λN V x au c' Ci h1 hN hx _ dj=>by
  have pQ:=hN.h;obtain⟨K,hp⟩:=pQ;have hZ:=hp.trans List.perm_append_comm;have hof:=dj.1;have zt:=(xx.gk x Ci).1;refine (aaV (M:=M) (Z:=az W p M.an M.cO::Sl 179 1 M.dy lv.length M.dF (gR lv)::ah (fc p M.an M.cO M.tq M.jq M.sq) lv::bL M.jq m.J::(L++K)) (h1.perm hZ) hw (hx.imp λzs h=>⟨h.1,λnT h2=>h.2 _ (h2.perm hZ.symm)⟩) zt (NJ x Ci) (by omega)).mono λe nT ⟨h3,h4⟩=>⟨h3,h4.perm hZ.symm⟩)) ?_
 clear E I;rintro e w ⟨⟨_,rfl⟩,I⟩;refine⟨_,rfl,λa E=>?_⟩;have o7:=xx.cut NK (λx=>!jG m.s.k.ls (aw m.s.k) x.al);have tR:=Ch (T1.l.filter λx=>!jG m.s.k.ls (aw m.s.k) x.al) A1;have NL:vp m.s.k (T1.cut λx=>!jG m.s.k.ls (aw m.s.k) x.al):=λy hy=>by
  obtain⟨h1,h2⟩:=List.mem_filter.1 hy;exact⟨NJ y h1,by simpa using h2⟩
 have GS:(T1.cut λx=>!jG m.s.k.ls (aw m.s.k) x.al).epoch≤T1.epoch+1:=by simp only[Tr.cut];split <;> omega
 have ng:(∀ y∈T1.l,jG m.s.k.ls (aw m.s.k) y.al=true)→(T1.cut λx=>!jG m.s.k.ls (aw m.s.k) x.al).l=T1.l∧(T1.cut λx=>!jG m.s.k.ls (aw m.s.k) x.al).epoch=T1.epoch:=λh=>by
  have h1:T1.l.filter (λx=>!!jG m.s.k.ls (aw m.s.k) x.al)=T1.l:=List.filter_eq_self.2 λy hy=>by rw[h y hy];rfl
  simp only[Tr.cut,h1];exact⟨trivial,by rw[ag (Ct _)];rfl⟩
 have Cl:(T1.cut λx=>!jG m.s.k.ls (aw m.s.k) x.al).most=T1.most∧(T1.cut λx=>!jG m.s.k.ls (aw m.s.k) x.al).last=T1.last:=⟨rfl,rfl⟩;generalize (T1.cut λx=>!jG m.s.k.ls (aw m.s.k) x.al)=T2 at I o7 NL GS Cl ng;generalize A1.gQ (T1.l.filter λx=>!jG m.s.k.ls (aw m.s.k) x.al)=A2 at I o7 tR;replace I:=aG.fold I M p ⟨m.s,A2,T2,m.J,lv,NH,aw m.s.k⟩;refine aX 1 E I (aa1 I hw o7 rfl fI NL kL (by dsimp only;rw[Cl.1,gO];exact qa) (by dsimp only;omega) (by dsimp only;omega)) λA3 T3 a w E ⟨qe,I⟩=>?_;refine RT 0 E I ?_;obtain⟨df,dz,a3,a4,a5,NM,NN,sw,a9⟩:=qe;have h8:=lh.most.1;dsimp only at *;exact⟨⟨m.s,A3,T3,zC T3 m.J,lv,NH,aw m.s.k⟩,t1,rfl,⟨df,rfl,rfl,dz,NC (ND _ kL) _,by simp only;omega,by simp only;omega,by simp only;omega,by simp only;omega,by simp only;omega,gZ,λh1 h2=>a9 (by omega) h2,rfl,λe h=>by
  obtain⟨q1,q2,wV⟩:=kO e;obtain⟨Fw,Lb⟩:=ng (by rw[q1];exact h);obtain⟨l,aa7,aa8⟩:=sw;refine⟨wV,by rw[NN,Lb,q1],l,by rw[aa7,Fw,q1],aa8⟩⟩,I⟩
end
end
section
structure lV (p:Pr)(s s':Pl):Prop where
 wf:cx p s'
 sh:aw s'.k=aw s.k→s'.g=s.g
 cf:fu s'.k=fu s.k
 ls:s'.k.cl=true→s'.k.ls=s.k.ls
section
variable {p:Pr}{s:Pl}{k:Ks}{x:UInt8}{bs:List UInt8}
theorem lV.mk' {k':Ks}(h:cx p s)(hw:WC k')(hh:held k')(hm:k'.mr=s.k.mr)(he:Ext s.k.ls k'.ls)(dd:fu k'=fu s.k)(hl:k'.cl=true→k'.ls=s.k.ls):lV p s (eL p ⟨k',s.g⟩):=by
 have h1:=h.toWP.more hw hh hm he;obtain⟨h2,h3,ps,ev,mr,h4⟩:=h1.eL;refine⟨h2,λhf=>?_,?_,λhc=>?_⟩
 ·have e1:(eL p ⟨k',s.g⟩).g=lQ p k'.ls (aw s.k):=by rw[h2.sh,h2.full,hf,h3]
  have e2:s.g=lQ p s.k.ls (aw s.k):=by have:=h.sh;rwa [h.full]at this
  exact e1.trans ((he.lQ (bh _)).trans e2.symm)
 ·rw[h4];exact dd
 ·rw[h3];rw[h4]at hc;exact hl hc
theorem NO:fu (cZ x k).2=fu k∧((cZ x k).2.cl=true→(cZ x k).2.ls=k.ls):=by
 by_cases h0:(cZ x k).1=0
 ·obtain⟨h1,h2,h3,h4⟩:=vc h0;rw[h4];exact⟨rfl,λhc=>by rw[show k.cl=true from hc]at h1;cases h1⟩
 ·rw[vd h0];exact⟨rfl,λ_=>rfl⟩
theorem aa9 {q:Pk}(h:k.cl=false):fu (gb k q)=fu k∧((gb k q).cl=true→(gb k q).ls=k.ls):=by
 unfold gb;split
 ·exact⟨rfl,λ_=>rfl⟩
 ·obtain⟨ps,ev,h1,_⟩:=xg { k with ls:=k.ls.set q.aY.toNat (dw (k.ls.getD q.aY.toNat []) q.first.toNat q.al),ps:=k.ps.set q.aY.toNat (ga k.now (aH k) q (ar k q.aY.toNat)) };rw[h1];exact⟨rfl,λhc=>by rw[show k.cl=true from hc]at h;cases h⟩
theorem NP:fu (dC bs k).2=fu k∧((dC bs k).2.cl=true→(dC bs k).2.ls=k.ls):=by
 by_cases h0:(dC bs k).1=0
 ·obtain⟨q,h1,h2,h3,h4,h5,h6⟩:=BV h0;rw[h6];exact aa9 h2
 ·rw[xi h0];exact⟨rfl,λ_=>rfl⟩
theorem lV.al (h:cx p s)(x:UInt8):lV p s (dK p x s).2:=lV.mk' h (h.wc.al x) (h.held.al x) (vf x s.k).1 (vf x s.k).2 NO.1 NO.2
theorem lV.recv (h:cx p s)(bs:List UInt8):lV p s (dL p bs s).2:=lV.mk' h (h.wc.recv bs).1 ((h.wc.recv bs).2 h.held) (sj bs s.k).1 (sj bs s.k).2 NP.1 NP.2
end
structure MI (p:Pr)(M:jF)(N:Nat)(m:Mu):Prop where
 wf:cx p m.s
 gs:cY M.B.gs
 front:m.front=aw m.s.k
 inv:∃ t,Inv p (aw m.s.k:Int) m.s.g t m.base m.A m.T (m.ks.map (·.1))
 gk:vp m.s.k m.T
 J:m.J.length≤16
 most:m.s.k.cw=(m.T.most:Int)
 workers:m.s.k.workers=(m.ks.length:Int)
 ks:m.ks.length≤4
 room:(m.A.room:Int)=4*m.s.k.room∧12≤m.A.room
 n:m.A.n≤N∧m.T.last≤N∧m.T.epoch≤N
section
variable {W w:World}{L:List SP}{n c N front:Nat}{ad:Option Addr}{M:jF}{B:jk}{x:UInt8}{p:Pr}{s s':Pl}{m:Mu}{bs:List UInt8}{cf:Cf}{g0:Nat→Int}{t:Nat→Nat}
theorem MI.more {N':Nat}(h:MI p M N m)(hN:N≤N'):MI p M N' m:={ h with n:=⟨gC h.n.1 hN,gC h.n.2.1 hN,gC h.n.2.2 hN⟩ }
theorem MI.same (h:MI p M N m)(hw:cx p s')(hg:s'.g=m.s.g)(hl:s'.k.ls=m.s.k.ls)(hc:fu s'.k=fu m.s.k):MI p M N { m with s:=s' }:=by
 have hf:aw s'.k=aw m.s.k:=by rw[aw,aw,hl]
 simp only[fu,Cf.mk.injEq]at hc;obtain⟨dD,c2,db,hO,dJ,oD,rD,sb,G3,A7⟩:=hc;have hn:s'.k.n=m.s.k.n:=by omega
 exact { wf:=hw,gs:=h.gs,front:=by rw[hf];exact h.front,inv:=by obtain⟨t,ht⟩:=h.inv;exact⟨t,by rw[hf,hg];exact ht⟩,gk:=λy hy=>by rw[hn,hl,hf];exact h.gk y hy,J:=h.J,most:=by rw[sb];exact h.most,workers:=by rw[G3];exact h.workers,ks:=h.ks,room:=by rw[A7];exact h.room,n:=h.n }
theorem NQ (I:U W w (aG W M p { m with s:=s' }::L))(h:MI p M N m)(hx:lV p m.s s')(a7:dq p)(hN:N≤1000000000000) :
   Calls prog 271 #[pt M.mb] w λe V=>∃ m':Mu,e=.returned (.tuple #[])∧(m'.s=s'∧MI p M (N+20) m'∧(s'.k.cl=false→∃ t',G2 p { m with s:=s' } m' t'))∧U W V (aG W M p m'::L):=by
 obtain⟨mi,pP,hn3⟩:=h.n;have hc:=hx.cf;cases cm:s'.k.cl with
 | true =>
  have hl:=hx.ls cm;refine (aa5 I cm).mono λe V ⟨he,I⟩=>⟨_,he,⟨rfl,(h.same hx.wf (hx.sh (by rw[aw,aw,hl])) hl hc).more (by omega),λe=>(by cases e)⟩,I⟩
 | false =>
  obtain⟨t,ht⟩:=h.inv;simp only[fu,Cf.mk.injEq]at hc;obtain⟨dD,c2,db,hO,dJ,oD,rD,sb,G3,A7⟩:=hc;have hn:s'.k.n=m.s.k.n:=by omega
  refine (aa6 (g0:=m.s.g) (t:=t) I hx.wf (hx.wf.p5 a7) cm (by rw[← h.front]at ht;exact ht) (λe=>(hx.sh (by rw[← h.front];exact e.symm)).symm) h.gs (λy hy j hj=>by dsimp only;rw[hn];exact (h.gk y hy).1 j hj) h.J (by dsimp only;rw[sb];exact h.most) (by dsimp only;omega) (by dsimp only;omega) (by dsimp only;omega) h.ks h.room.2).mono λe V ⟨m',t',he,hr,I⟩=>⟨m',he,⟨hr.s,?_,λ_=>⟨t',hr⟩⟩,I⟩;obtain⟨df,dz,a3,a4,a5,NM,NN,sw,a9,b1,b2,b3,b4,b5⟩:=hr;dsimp only at *;exact { wf:=by rw[dz];exact hx.wf,gs:=h.gs,front:=by rw[dz];exact a3,inv:=⟨t',by rw[dz];exact df⟩,gk:=by rw[dz];exact a4,J:=a5,most:=by rw[dz,sb,a9];exact h.most,workers:=by rw[dz,G3,b2];exact h.workers,ks:=by rw[b2];exact h.ks,room:=by rw[dz,A7,NM];exact h.room,n:=⟨by omega,by omega,by omega⟩ }
theorem aba (I:U W w (aG W M p m::L))(h:MI p M N m)(a7:dq p)(aE:p.title.size≤1000000000)(hN:N≤1000000000000) :
   Calls prog 267 #[pt M.mb,.int .u8 (x.toNat:Nat)] w λe V=>∃ m':Mu,e=.returned (.int .i64 (dK p x m.s).1)∧(m'.s=(dK p x m.s).2∧MI p M (N+20) m'∧((dK p x m.s).2.k.cl=false→∃ t',G2 p { m with s:=(dK p x m.s).2 } m' t'))∧U W V (aG W M p m'::L):=by
 refine EN func267 ntmps267 rfl rfl λa E=>?_;refine CL 4 E I (tO I) λa w E I=>?_;refine RN 1 E I λa E=>?_;replace I:=aG.open I;refine CL 0 E I (M5 (I.pick (aP W M.B p m.s)) h.wf a7 aE) λa w E I=>?_;replace I:=aG.fold I M p { m with s:=(dK p x m.s).2 };refine aW 3 E I (NQ I h (lV.al h.wf x) a7 hN) λm' a w E ⟨hm,I⟩=>?_;refine RT 3 E I ?_;exact⟨m',rfl,hm,I⟩
theorem abb (I:U W w (aG W M p m::L))(h:MI p M N m)(a7:dq p)(aE:p.title.size≤1000000000)(hN:N≤1000000000000)(hb:bs.length≤65536)(hc:bs.length≤c)(hp:∀ V,U W V L→aL V ad bs.length bs) :
   Calls prog 269 #[pt M.mb,.slice ad bs.length c] w λe V=>∃ m':Mu,e=.returned (.int .i64 (dL p bs m.s).1)∧(m'.s=(dL p bs m.s).2∧MI p M (N+20) m')∧U W V (aG W M p m'::L):=by
 refine EN func269 ntmps269 rfl rfl λa E=>?_;refine CL 4 E I (tO I) λa w E I=>?_;refine RN 1 E I λa E=>?_;replace I:=aG.open I;refine CL 0 E I (M6 (bs:=bs) (I.pick (aP W M.B p m.s)) h.wf a7 aE hb hc (λV hw=>hp V hw.sub)) λa w E I=>?_;replace I:=aG.fold I M p { m with s:=(dL p bs m.s).2 };refine aW 3 E I (NQ I h (lV.recv h.wf bs) a7 hN) λm' a w E ⟨⟨gO,iE,_⟩,I⟩=>?_;refine RT 3 E I ?_;exact⟨m',rfl,⟨gO,iE⟩,I⟩
end
end
section
theorem G4 (k:Ks):fu (bq k).2=fu k:=by
 rcases xj k with h1 | ⟨hc,h1 | ⟨i,hi,h1⟩⟩ <;> rw[h1] <;> rfl
theorem G5 (k:Ks):fu (bF k).2=fu k:=by
 unfold bF;split <;> rfl
section
variable {W w:World}{L:List SP}{n c i N tq sq r base front:Nat}{ad:Option Addr}{M:jF}{B:jk}{p:Pr}{s:Pl}{m:Mu}{A:Sn}{T:Tr}{t:Nat→Nat}{px:aC}{y:Int}
theorem abc (I:U W w (aG W M p m::L))(h:MI p M N m)(pv:m.s.k.now≤1000000):Calls prog 270 #[pt M.mb] w λr V=>∃ ad c,r=.returned (.slice ad (bq m.s.k).1.length c)∧MI p M N { m with s:=⟨(bq m.s.k).2,m.s.g⟩ } ∧
   U W V (bU 124 ad (bq m.s.k).1.length c (bq m.s.k).1::aG W M p { m with s:=⟨(bq m.s.k).2,m.s.g⟩ }::L):=by
 refine EN func270 ntmps270 rfl rfl λa E=>?_;refine CL 4 E I (tO I) λa w E I=>?_;replace I:=aG.open I;refine aX 0 E I (M7 (I.pick (aP W M.B p m.s)) h.wf pv) λad c a w E I=>?_;refine RT 1 E I ?_;exact⟨ad,c,rfl,h.same h.wf.tick rfl (BZ _).2 (G4 _),(aG.fold I M p { m with s:=⟨(bq m.s.k).2,m.s.g⟩ }).sub⟩
theorem abd (I:U W w (aG W M p m::L))(h:MI p M N m):Calls prog 268 #[pt M.mb] w λr V=>∃ ad c,r=.returned (.slice ad (bF m.s.k).1.length c)∧MI p M N { m with s:=⟨(bF m.s.k).2,m.s.g⟩ } ∧
   U W V (bU 124 ad (bF m.s.k).1.length c (bF m.s.k).1::aG W M p { m with s:=⟨(bF m.s.k).2,m.s.g⟩ }::L):=by
 refine EN func268 ntmps268 rfl rfl λa E=>?_;refine CL 4 E I (tO I) λa w E I=>?_;replace I:=aG.open I;refine aX 0 E I (M8 (I.pick (aP W M.B p m.s)) h.wf) λad c a w E I=>?_;refine RT 1 E I ?_;exact⟨ad,c,rfl,h.same h.wf.lP rfl (B0 _).2 (G5 _),(aG.fold I M p { m with s:=⟨(bF m.s.k).2,m.s.g⟩ }).sub⟩
theorem abe (I:U W w (aG W M p m::L))(h:MI p M N m):Calls prog 266 #[pt M.mb] w λr V=>∃ ad c,r=.returned (.slice ad m.s.k.ev.length c)∧MI p M N { m with s:=⟨{ m.s.k with ev:=[] },m.s.g⟩ } ∧
   U W V (Sl 135 1 ad m.s.k.ev.length c (m.s.k.ev.map cz)::aG W M p { m with s:=⟨{ m.s.k with ev:=[] },m.s.g⟩ }::L):=by
 refine EN func266 ntmps266 rfl rfl λa E=>?_;refine CL 4 E I (tO I) λa w E I=>?_;replace I:=aG.open I;refine aX 0 E I (M9 (I.pick (aP W M.B p m.s))) λad c a w E I=>?_;refine RT 1 E I ?_;exact⟨ad,c,rfl,h.same h.wf.told rfl rfl rfl,(aG.fold I M p { m with s:=⟨{ m.s.k with ev:=[] },m.s.g⟩ }).sub⟩
theorem abf (I:U W w (aG W M p m::L))(h:MI p M N m):Calls prog 264 #[pt M.mb] w λr V=>∃ ad c,r=.returned (.tuple #[.slice ad 128 c,.int .i64 (lR m.s).2])∧U W V (Sl 5 1 ad 128 c (bc (lR m.s).1)::aG W M p m::L):=by
 have bT:=h.wf.wc.lr;have iQ:m.s.k.ls.length≤8:=by rw[h.wf.wc.ls];exact h.wf.wc.n.2
 obtain⟨t,hI⟩:=h.inv;obtain⟨i,px,hQ,lg⟩:=hI.mD (jo ..);have tk:=(hI.base px (bH hQ) lg).1;replace I:=aG.open I;rw[h.front]at I;refine EN func264 ntmps264 rfl rfl λa E=>?_;refine a1 5 (λw0 V=>Rd V M.mb 0 (dW p M m.ks.length m.base (aw m.s.k))) [8,9,10] [0,1,2,3,4,5,7,3006,1008,1009,1010,11,12] E I λa w E I hH=>?_;have hC:=hH.at w (I.ai (b:=M.mb));refine RH 3 E I hH hC λa E=>?_;replace E:=E.aK 6;refine RH 4 E I hH hC λa E=>?_;refine QH E (λw hc=>ae E (hc 8 _ rfl)) hC λa E=>?_;rw[← h.front]at I;replace I:=aG.fold I M p m;refine RH 0 E I hH hC λa E=>?_;refine CL 0 E I (Cg I) λa w E I=>?_;replace hC:=hH.at w (by have h9:=(aG.open I).ai (b:=M.mb);rw[h.front]at h9;exact h9);replace I:=aP.open ((aG.open I).pick (aP W M.B p m.s));rw[h.front]at I;refine RH 0 E I hH hC λa E=>?_;refine CL 0 E I (o5 (I.pick (aA M.B.core m.s.k))) λa w E I=>?_;replace hC:=hH.at w (I.ai (b:=M.mb));obtain⟨D,I,hD⟩:=aA.qu I;refine RH 0 E I hH hC λa E=>?_;refine CL 0 E I (sf I bT iQ) λa w E I=>?_;replace hC:=hH.at w (I.ai (b:=M.mb));refine RH 1 E I hH hC λa E=>?_;rw[show decide (((aw m.s.k:Nat):Int)≠((aV m.s.k.ls:Nat):Int))=false from Kh]at E;refine RH 1 E I hH hC λa E=>?_;replace I:=aP.fold (hD _ _ I) M.B p m.s;rw[← h.front]at I;replace I:=aG.fold I M p m;replace E:=E.aK 16;refine RN 2 E I λa E=>?_;replace I:=aG.open I;refine a1 0 (λw0 V=>Rd V M.mb 0 (dW p M m.ks.length m.base m.front)) [5,6,10,11] [0,1,2,3,7,8,9,3004,3010,1005,1006,1011,12] E I λa w E I hH=>?_;have hC:=hH.at w (I.ai (b:=M.mb));refine RH 7 E I hH hC λa E=>?_;refine QH E (λw hc=>ae E (hc 7 _ rfl)) hC λa E=>?_;refine QH E (λw hc=>ae E (hc 8 _ rfl)) hC λa E=>?_;replace I:=aG.fold I M p m;refine RH 0 E I hH hC λa E=>?_;refine CL 0 E I (GR I hQ lg) λa w E I=>?_;replace hC:=hH.at w ((aG.open I).ai (b:=M.mb));refine RH 0 E I hH hC λa E=>?_;refine aX 0 E I (y9 I) λad c a w E I=>?_;replace hC:=hH.at w ((aG.open I.tail).ai (b:=M.mb));refine RH 2 E I hH hC λa E=>?_;refine RT 0 E I ?_;rw[tk]at I;exact⟨ad,c,by rw[h.front];rfl,I⟩
theorem abg (I:U W w (aG W M p m::L))(hc:m.s.k.cl=true∨y<0∨(m.ks.length:Int)≤y)(h4:m.ks.length≤4) :
   Calls prog 62 #[pt M.mb,.int .i64 y] w λe V=>e=.returned (.bool false)∧U W V (aG W M p m::L):=by
 refine EN func62 ntmps62 rfl rfl λa E=>?_;refine RN 7 E I λa E=>?_;replace E:=E.aK 7;refine CL 1 E I (zA I) λa w E I=>?_;replace I:=aG.open I;refine BY 2 E I (λj9 a E=>?_) λj9 a E=>?_
 ·
  refine RT 15 E I ?_;exact⟨rfl,aG.fold I M p m⟩
 refine BY 4 E I (λl5 a E=>?_) λl5 a E=>?_
 ·
  refine RT 11 E I ?_;exact⟨rfl,aG.fold I M p m⟩
 refine IF 8 E I (λaj a E=>?_) λaj a E=>?_
 ·
  refine RT 2 E I ?_;exact⟨rfl,aG.fold I M p m⟩
 exact absurd hc (by rintro (h | h | h) <;> first | omega | (rw[h]at j9;cases j9))
theorem A5.brI {k:Ks}{J J':Js}{A A':Sn}{T T':Tr}(hn:A5 A T J A' T' J')(h:vp k T):vp k T':=by
 intro y hy;have h1:(y.id,y.al)∈T'.l.map (λy=>(y.id,y.al)):=cV.2 ⟨y,hy,rfl⟩;rw[hn.l]at h1;obtain⟨z,hz,he⟩:=cV.1 h1;have h2:=h z hz;rw[(Prod.mk.inj he).2]at h2;exact h2
theorem abh {k:Wk}{wb:Nat}(I:U W w (aG W M p m::L))(h:MI p M N m)(cm:m.s.k.cl=false)(hk:m.ks[i]?=some (k,wb))(a7:dq p)(aE:p.title.size≤1000000000)(hN:N≤1000000000000) :
   Calls prog 62 #[pt M.mb,.int .i64 i] w λe V=>∃ (z:Bool) (A':Sn) (T':Tr) (J':Js) (k':Wk),e=.returned (.bool z)∧(lG p m.A m.T m.J k z A' T' J' k'∧MI p M (N+1) { m with A:=A',T:=T',J:=J',ks:=m.ks.set i (k',wb) }) ∧
    U W V (aG W M p { m with A:=A',T:=T',J:=J',ks:=m.ks.set i (k',wb) }::L):=by
 have aF:=(aZ.1 hk).1;have h4:=h.ks;obtain⟨t,hI⟩:=h.inv;obtain⟨mi,pP,hn3⟩:=h.n;have jR:=h.wf.wc.ny;have gS:=h.wf.wc.lO;refine EN func62 ntmps62 rfl rfl λa E=>?_;refine RN 7 E I λa E=>?_;replace E:=E.aK 7;refine CL 1 E I (zA I) λa w E I=>?_;rw[cm]at E;refine RN 2 E I λa E=>?_;replace E:=E.aK 11;refine RN 4 E I λa E=>?_;replace I:=aG.open I;replace E:=E.aK 15;refine RN 8 E I λa E=>?_;rw[bn (by omega)]at E;refine RN 2 E I λa E=>?_;obtain⟨b',o',gY,dh⟩:=I.bY M.dy (by omega);refine RN 5 E I λa E=>?_;rw[gY]at E;refine RN 1 E I λa E=>?_;refine SS E (ae E (dh i _ (KW hk))) λa E=>?_;refine j2 0 E I (X3 (I.sub (M:=ah (fc p M.an M.cO M.tq M.jq M.sq) m.ks::Tree M.tq M.sq m.T::ax M.sq M.r m.A::bL M.jq m.J::az W p M.an M.cO::aa M.mb 177 (dW p M m.ks.length m.base m.front)::aP W M.B p m.s::Sl 179 1 M.dy m.ks.length M.dF (gR m.ks)::L)) hk hI ⟨by omega,by omega⟩ a7 aE (by omega) h.J) ?_;clear E I;rintro e w ⟨z,A',T',J',k',rfl,⟨uU,o7,vq⟩,I⟩;refine⟨_,rfl,λa E=>?_⟩;refine RT 1 E I ?_;have qp:(m.ks.set i (k',wb)).length=m.ks.length:=bt ..;have lS:=vq.room;have hn4:=vq.n;have hn5:=vq.last;have hn6:=vq.epoch;refine⟨z,A',T',J',k',rfl,⟨uU,{ wf:=h.wf,gs:=h.gs,front:=h.front,inv:=⟨t,o7⟩,gk:=vq.brI h.gk,J:=vq.len h.J,most:=by dsimp only;rw[vq.most];exact h.most,workers:=by dsimp only;rw[qp];exact h.workers,ks:=by dsimp only;rw[qp];exact h4,room:=by dsimp only;rw[lS];exact h.room,n:=⟨by dsimp only;omega,by dsimp only;omega,by dsimp only;omega⟩ }⟩,?_⟩;rw[← KX (k':=k') hk,← qp]at I;exact aG.fold I M p { m with A:=A',T:=T',J:=J',ks:=m.ks.set i (k',wb) }
end
end
end Go.Proofs.YteoldcfapaiobaaGreat
