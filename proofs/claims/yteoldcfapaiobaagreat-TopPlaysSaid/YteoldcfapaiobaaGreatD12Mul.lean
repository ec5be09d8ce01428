/- Package multi: a player that plays ahead. -/
import Derived.Test.YteoldcfapaiobaaGreatD06Ref
import Derived.Test.YteoldcfapaiobaaGreatD11Rank
import Derived.Test.YteoldcfapaiobaaGreatD04Job
import Derived.Test.YteoldcfapaiobaaGreatD05Vm
import Derived.Test.YteoldcfapaiobaaGreatD01Row
import Derived.Laws.StructEq
import Derived.ChangeKeysEq
namespace Go.Proofs.YteoldcfapaiobaaGreat
open Tryz
open List (mem_cons_self all_eq_true getElem?_append_right foldl_cons nil_append map_cons length_nil mem_range getElem?_range getElem_map mem_singleton map_nil range_succ foldl_append length_filter_le map_singleton)
open Go.RowKit
set_option linter.unusedVariables false
set_option linter.unusedSimpArgs false
set_option maxRecDepth 10000
set_option synthInstance.maxSize 4000
set_option synthInstance.maxHeartbeats 400000
section
instance nU.fvB {P l x f ws args vs}[ex:Ev l (.tmp x) (.func (.func f) (List.toArray ws) #[])][ev:ng l args vs]:nU P l (.value (.tmp x)) args f (ws++vs):=⟨λhb a n w E _ _ _ _ _ _=>by
 simp[execOp,resolve,ex.ev a n E,Deferred.ofValue,invoke,ev.ev a n E,zc hb]⟩
structure jo where
 mb:Nat
 B:iS
 sq:Nat
 r:Nat
 tq:Nat
 jq:Nat
 dt:Option Addr
 dB:Nat
 aq:Option Addr
 cO:Nat
structure Mu where
 s:Pl
 A:Sn
 T:Tr
 J:Js
 ks:List Kx
 base:Nat
 front:Nat
abbrev dQ (p:Pr)(M:jo)(nk base front:Nat):List Value:=[pt M.B.pb,.string p.title,.slice M.aq p.ops.length M.cO,pt M.sq,pt M.tq,pt M.jq,.slice M.dt nk M.dB,.int .i64 base,.int .i64 front]
abbrev yE (W:World)(M:jo)(p:Pr)(m:Mu):List SP:=[aa M.mb 177 (dQ p M m.ks.length m.base m.front),aQ W M.B p m.s,aA W p M.aq M.cO,Sl 179 1 M.dt m.ks.length M.dB (gO m.ks),ah (e4 p M.aq M.cO M.tq M.jq M.sq) m.ks,Tree M.tq M.sq m.T,ax M.sq M.r m.A,bH M.jq m.J]
def aF (W:World)(M:jo)(p:Pr)(m:Mu):SP:=λh=>cj (yE W M p m) h
section
variable {W w:World}{L R:List SP}{M:jo}{B:iS}{p:Pr}{s:Pl}{m:Mu}
theorem aF.open (I:U W w (aF W M p m::L)):U W w (aa M.mb 177 (dQ p M m.ks.length m.base m.front)::aQ W M.B p m.s::aA W p M.aq M.cO::Sl 179 1 M.dt m.ks.length M.dB (gO m.ks)::ah (e4 p M.aq M.cO M.tq M.jq M.sq) m.ks::Tree M.tq M.sq m.T::ax M.sq M.r m.A::bH M.jq m.J::L):=I.open (M:=yE W M p m) λ_ h=>h
theorem aF.close (I:U W w (yE W M p m++L)):U W w (aF W M p m::L):=U.shut (M:=yE W M p m) I λ_ h=>h
theorem aF.fold (I:U W w L)(M:jo)(p:Pr)(m:Mu)[kk:fC L (aa M.mb 177 (dQ p M m.ks.length m.base m.front)::aQ W M.B p m.s::aA W p M.aq M.cO::Sl 179 1 M.dt m.ks.length M.dB (gO m.ks)::ah (e4 p M.aq M.cO M.tq M.jq M.sq) m.ks::Tree M.tq M.sq m.T::ax M.sq M.r m.A::bH M.jq m.J::[]) R]:U W w (aF W M p m::R):=aF.close (I.perm kk.perm)
theorem L9 (I:U W w (aQ W B p s::L)):Calls prog 94 #[pt B.pb] w λe w'=>e=.returned (.agg (ints .i32 32 s.g).toArray)∧U W w' (aQ W B p s::L):=by
 replace I:=aQ.open I;refine EN func94 ntmps94 rfl rfl λa E=>?_;refine AL 1 E I λb2 a w E I=>?_;change U W w (aa b2 183 (ints .i32 32 (λ_=>0))::_) at I;refine RN 4 E I λa E=>?_;refine SS E (bR E underlying183 rfl Ty.t183 (yB (I.ai (b:=B.pb)))) λa E=>?_;refine SA 0 E I λa w E I=>?_;refine RT 0 E I ?_;exact⟨rfl,(aQ.fold I B p s).sub⟩
theorem Ma (I:U W w (aQ W B p s::L)):Calls prog 278 #[pt B.pb] w λe w'=>e=.returned (.agg (dj B.gs B.adT B.cT).toArray)∧U W w' (aQ W B p s::L):=by
 replace I:=aQ.open I;refine EN func278 ntmps278 rfl rfl λa E=>?_;refine AL 1 E I λb2 a w E I=>?_;refine RN 4 E I λa E=>?_;refine SS E (bR E underlying186 rfl Ty.t186 (LQ (I.ai (b:=B.pb)))) λa E=>?_;refine SA 0 E I λa w E I=>?_;refine RT 0 E I ?_;exact⟨rfl,(aQ.fold I B p s).sub⟩
theorem td (I:U W w (aF W M p m::L)):Calls prog 140 #[pt M.mb] w λe w'=>e=.returned (pt M.B.pb)∧U W w' (aF W M p m::L):=by
 replace I:=aF.open I;refine EN func140 ntmps140 rfl rfl λa E=>?_;refine RN 6 E I λa E=>?_;replace E:=E.aM 4;refine RT 7 E I ?_;exact⟨rfl,aF.fold I M p m⟩
theorem A6 (I:U W w (aF W M p m::L)):Calls prog 272 #[pt M.mb] w λe w'=>e=.returned (pt M.B.core.cb)∧U W w' (aF W M p m::L):=by
 refine EN func272 ntmps272 rfl rfl λa E=>?_;refine CL 4 E I (td I) λa w E I=>?_;replace I:=aF.open I;refine CL 0 E I (nG (I.pick (aQ W M.B p m.s))) λa w E I=>?_;refine RT 1 E I ?_;exact⟨rfl,aF.fold I M p m⟩
theorem yF (I:U W w (aF W M p m::L)):Calls prog 101 #[pt M.mb] w λe w'=>e=.returned (.bool m.s.k.cl)∧U W w' (aF W M p m::L):=by
 refine EN func101 ntmps101 rfl rfl λa E=>?_;refine CL 4 E I (td I) λa w E I=>?_;replace I:=aF.open I;refine CL 0 E I (LY (I.pick (aQ W M.B p m.s))) λa w E I=>?_;refine RT 1 E I ?_;exact⟨rfl,aF.fold I M p m⟩
theorem ZO (I:U W w (aF W M p m::L)):Calls prog 81 #[pt M.mb] w λe w'=>e=.returned (pt M.sq)∧U W w' (aF W M p m::L):=by
 replace I:=aF.open I;refine EN func81 ntmps81 rfl rfl λa E=>?_;refine RN 6 E I λa E=>?_;replace E:=E.aM 4;refine RT 7 E I ?_;exact⟨rfl,aF.fold I M p m⟩
theorem ZP (I:U W w (aF W M p m::L)):Calls prog 87 #[pt M.mb] w λe w'=>e=.returned (pt M.tq)∧U W w' (aF W M p m::L):=by
 replace I:=aF.open I;refine EN func87 ntmps87 rfl rfl λa E=>?_;refine RN 6 E I λa E=>?_;replace E:=E.aM 4;refine RT 7 E I ?_;exact⟨rfl,aF.fold I M p m⟩
end
end
section
section
variable {p:Pr}{F F':Int}{g g0:Nat→Int}{t t':Nat→Nat}{base i:Nat}{A:Sn}{T:Tr}{ws:List Wk}{k:Wk}{P:List (List UInt8)}
theorem Inv.ZQ (h:Inv p F g0 t base A T ws)(hA:WF A)(hn:A.n+1<1099511627776)(hT:T.l=[])(hg:dO g) :
   Inv p F' g t' (A.last+1) ((A.add g t').eo base) T ws:=by
 have vV:WF (A.add g t'):=hA.add hn g t';have hr:∀ x∈(A.add g t').ar,x.refs=1:=by
  intro x hx;rcases eN.1 hx with hx | hx
  ·exact (h.ar x hx).1
  ·rw[mem_singleton.1 hx]
 have tY:∀ z∈A.ar,z.id≠A.last+1:=λz hz e=>by have:=(hA.l9 z hz).2.1;omega
 rw[zP vV hr];refine⟨?_,λx hx=>?_,λx hx he=>?_,λy hy=>?_,λk hk=>⟨(h.lj k hk).1,λ_ y hy=>?_⟩⟩
 ·simp only;rw[Dp];have h1:((A.add g t').ar.map (·.id)).Perm (base::(A.last+1)::(T.l.map (·.snap)++jf ws)):=by
   simp only[Sn.add,cW,map_cons,map_nil];exact ((List.perm_append_singleton _ _).trans (h.perm.cons _)).trans (List.Perm.swap _ _ _)
  exact Dn (List.Perm.refl _) h1 vV.n2
 ·have hx:=jT hx;rcases eN.1 hx with hx | hx
  ·exact h.ar x hx
  ·rw[mem_singleton.1 hx];exact⟨rfl,hg⟩
 ·have hx:=jT hx;rcases eN.1 hx with hx | hx
  ·exact absurd he (tY x hx)
  ·rw[mem_singleton.1 hx];exact⟨rfl,rfl⟩
 ·rw[hT]at hy;cases hy
 ·rw[hT]at hy;cases hy
theorem Mb (h:∀ k∈ws,k.busy=false):jf ws=[]:=by
 rw[jf,List.filter_eq_nil_iff.2 (λk hk=>by rw[h k hk];decide)];rfl
theorem A7:∀ (l:List Br) (A:Sn),(A.gN l).room=A.room∧(A.gN l).n=A.n∧(A.gN l).last=A.last
 | [],_=>⟨rfl,rfl,rfl⟩
 | y::l,A=>by
  have h1:=A7 l (A.eo y.snap);have h2:=n3 A y.snap;show ((A.eo y.snap).gN l).room=_∧((A.eo y.snap).gN l).n=_∧((A.eo y.snap).gN l).last=_;exact⟨h1.1.trans h2.1,h1.2.1.trans h2.2.1,h1.2.2.trans h2.2.2⟩
def te (ls:List (List UInt8))(f:Nat)(j:List UInt8):Bool:=(List.range j.length).all λq=>!(decide (f<(ls.getD q []).length)&&(ls.getD q []).getD f 0 != j.getD q 0)
def jr (ls:List (List UInt8))(f:Nat)(P:List (List UInt8)):Bool:=(List.range P.length).all λi=>te ls (f+i) (P.getD i [])
theorem ZR {ls:List (List UInt8)}{f q:Nat}{j:List UInt8}(hq:q<j.length)(h1:f<(ls.getD q []).length)(h2:(ls.getD q []).getD f 0≠j.getD q 0):te ls f j=false:=by
 rw[te,List.all_eq_false];exact⟨q,mem_range.2 hq,by rw[dh h1,Bool.true_and,bne_iff_ne.2 h2];decide⟩
theorem Mc {ls:List (List UInt8)}{f:Nat}{j:List UInt8}(h:∀ q,q<j.length→f<(ls.getD q []).length→(ls.getD q []).getD f 0=j.getD q 0):te ls f j=true:=by
 rw[te,all_eq_true];intro q hq;have:=h q (mem_range.1 hq);by_cases h1:f<(ls.getD q []).length
 ·rw[dh h1,Bool.true_and,this h1,bne_self_eq_false];rfl
 ·rw[bn h1,Bool.false_and];rfl
theorem ZS {ls:List (List UInt8)}{f i:Nat}{P:List (List UInt8)}(hi:i<P.length)(h:te ls (f+i) (P.getD i [])=false):jr ls f P=false:=by
 rw[jr,List.all_eq_false];exact⟨i,mem_range.2 hi,by rw[h];decide⟩
theorem Md {ls:List (List UInt8)}{f:Nat}{P:List (List UInt8)}(h:∀ i,i<P.length→te ls (f+i) (P.getD i [])=true):jr ls f P=true:=by
 rw[jr,all_eq_true];intro i hi;exact h i (mem_range.1 hi)
end
end
section
section
variable {W w:World}{L:List SP}{q r:Nat}{A:Sn}
theorem ZT (l:List Nat):distinct l≤l.length:=by
 induction l with
 | nil=>exact bd _
 | cons x l ih=>rw[distinct,eL];split <;> omega
theorem ZU (l:List aC):(kR l).length=4*l.length:=by
 induction l with
 | nil=>rfl
 | cons x l ih=>show (_++kR l).length=_;rw[aL,ih,eL];simp;omega
theorem ax.vy (I:U W w (ax q r A::L)):A.used≤4*A.ar.length:=by
 rw[ax.used I];have:=ZT (kR A.ar);rw[ZU]at this;exact this
end
end
section
theorem Tl.rest {N L:List SP}{A:SP}(t:Tl N (A::L)):Tl N L:=⟨let ⟨K,h⟩:=t.h;⟨K++[A],by simpa using h⟩⟩
section
variable {W w:World}{L:List SP}{n i tq sq r:Nat}{M:jo}{B:iS}{x:UInt8}{p:Pr}{s:Pl}{m:Mu}{A:Sn}{T:Tr}{F:Int}{g0:Nat→Int}{t:Nat→Nat}{px:aC}
theorem Me {kp:Br→Bool}{g:Nat}{ws:List Value}(I:U W w (Tree tq sq T::ax sq r A::L))(he:T.epoch+1<1099511627776)(ck:g7 prog g=true)
   (hg:∀ (N:List SP) (w':World) (x:Br) (av:Option Addr) (c':Nat),x∈T.l→U W w' N→Tl N L→vI W N av x.al→x.al.length≤c'→nv x.al →
    Calls prog g (ws++[Value.agg (cc x av c').toArray]).toArray w' λe nx=>e=.returned (.bool (kp x))∧U W nx N) :
   Calls prog 287 #[pt tq,.func (.func g) ws.toArray #[]] w λe w'=>(∃ v:Int,e=.returned (.int .i64 v)) ∧
    U W w' (Tree tq sq (T.cut λx=>!kp x)::ax sq r (A.gN (T.l.filter λx=>!kp x))::L):=by
 have hF : ∀ (b3 : Nat) (N : List SP) (w' : World) (x : Br) (av : Option Addr) (c' : Nat), x ∈ T.l → U W w' N → Tl N (aa b3 343 [.func (.func g) ws.toArray #[]] :: L) → vI W N av x.al → x.al.length ≤ c' → nv x.al →
     Calls prog 304 (List.toArray [.agg (cc x av c').toArray,pt b3]) w' λe nx=>e=.returned (.bool (!kp x))∧U W nx N:=by
  intro b3 N w x av c' A8 I hM hx ZV ko;refine EN func304 ntmps304 rfl rfl λa E=>?_;refine BX 1 E I λb2 a w E I=>?_;refine RN 2 E I λa E=>?_;have ph:=I.tail.UO hM;refine SS E (ae E (ph.bz rfl)) λa E=>?_;refine CL 1 E I (hg (aa b2 238 (cc x av c')::N) _ x av c' A8 I (@Tl.cons _ _ _ hM.rest) (hx.imp λzs h=>⟨h.1,λnx h2=>h.2 _ h2.tail⟩) ZV ko) (hf:=ck) λa w E I=>?_;refine RT 2 E I ?_;exact⟨rfl,I.tail⟩
 refine EN func287 ntmps287 rfl rfl λa E=>?_;refine BX 1 E I λb3 a w E I=>?_;refine CL 4 E I (I2 (tq:=tq) (sq:=sq) (r:=r) (A:=A) (T:=T) (wh:=λx=>!kp x) (us:=[pt b3]) (L:=aa b3 343 [.func (.func g) ws.toArray #[]]::L) I.sub he (by kernel_rfl) (hF b3)) λa w E I=>?_;refine RT 1 E I ?_;exact⟨⟨_,rfl⟩,I.sub⟩
theorem ZW (I:U W w (aF W M p m::L))(hI:Inv p F g0 t m.base m.A m.T (m.ks.map (·.1)))(he:m.T.epoch+1<1099511627776)(h4:m.ks.length≤4) :
   Calls prog 302 #[pt M.mb] w λe w'=>∃ (A':Sn) (A9:List Kx),e=.returned (.tuple #[]) ∧
    (Inv p F g0 t m.base A' (m.T.cut λ_=>true) (A9.map (·.1))∧A9.length=m.ks.length∧(∀ k∈A9,k.1.busy=false)∧A'.room=m.A.room∧A'.n=m.A.n) ∧
    U W w' (aF W M p { m with A:=A',ks:=A9,T:=m.T.cut λ_=>true }::L):=by
 obtain⟨mb,B,sq,r,tq,jq,dt,dB,aq,cO⟩:=M;obtain⟨s,A,T,J,ks,base,front⟩:=m;replace I:=aF.open I;simp only at hI he h4;refine EN func302 ntmps302 rfl rfl λa E=>?_;refine RN 8 E I λa E=>?_;refine aO (λμ a w=>∃ (i:Nat) (A1:Sn) (k0:List Kx),(μ=ks.length-i∧i≤ks.length∧k0.length=ks.length∧(∀ (j:Nat) (k:Kx),j<i→k0[j]?=some k→k.1.busy=false)∧Inv p F g0 t base A1 T (k0.map (·.1))∧A1.room=A.room∧A1.n=A.n)∧Fr a 21 [(0,pt mb),(7,.slice dt ks.length dB),(8,.int .i64 ks.length),(9,.int .i64 i)]∧U W w (aa mb 177 (dQ p ⟨mb,B,sq,r,tq,jq,dt,dB,aq,cO⟩ ks.length base front)::aQ W B p s::aA W p aq cO::Sl 179 1 dt ks.length dB (gO k0)::ah (e4 p aq cO tq jq sq) k0::Tree tq sq T::ax sq r A1::bH jq J::L)) (ks.length) (⟨0,A,ks,⟨rfl,by omega,rfl,λj k h=>absurd h (by omega),hI,rfl,rfl⟩,E.ab [0,7,8,9],I.sub⟩) ?_;clear E I;rintro μ a w ⟨i,A1,k0,⟨rfl,hi,dM,Mf,wL,lz,nz⟩,E,I⟩;refine IF 3 E I (λaj a E=>?_) λaj a E=>?_
 ·
  have pc:i<k0.length:=by omega
  obtain⟨⟨k,wb⟩,hk⟩:∃ y,k0[i]?=some y:=⟨_,aD pc⟩;obtain⟨b',dC,rfl,c4⟩:=I.bU dt (by omega);refine RN 3 E I λa E=>?_;refine SS E (ae E (c4 i _ (JR hk))) λa E=>?_;refine aY 2 E I (WZ ((I.store sq).pick (ah (e4 p aq cO tq jq sq) k0)) hk wL) λA2 k2 a w E ⟨⟨b9,oG,eW,pg⟩,I⟩=>?_;rw[← JS (k':=k2) hk]at I;refine RN 2 E I λa E=>?_;refine⟨ks.length-(i+1),by omega,i+1,A2,k0.set i (k2,wb),⟨rfl,by omega,by rw[bu];exact dM,λj z hj hz=>?_,oG,eW.trans lz,pg.trans nz⟩,E.ab [0,7,8,9],I.sub⟩;rw[jK]at hz;split at hz
  ·cases hz;exact b9
  ·exact Mf j z (by omega) hz
 refine RN 0 E I λa E=>?_;have gz:=I;refine CL 4 E I (UQ ((I.store sq).tree tq) he) λa w E I=>?_;refine RT 0 E I ?_;obtain rfl:i=ks.length:=by omega
 have Ba:=wL.cut (ax.facts (gz.store sq)).1 (λ_=>true);rw[show T.l.filter (λ_=>true)=T.l from by simp]at Ba;have hd:=A7 T.l A1;refine⟨A1.gN T.l,k0,rfl,⟨Ba,dM,λk hk=>?_,hd.1.trans lz,hd.2.1.trans nz⟩,?_⟩
 ·obtain⟨j,hj⟩:=jR.1 hk;exact Mf j k (by have:=(a2.1 hj).1;omega) hj
 ·rw[← dM]at I;exact aF.fold I ⟨mb,B,sq,r,tq,jq,dt,dB,aq,cO⟩ p ⟨s,A1.gN T.l,T.cut λ_=>true,J,k0,base,front⟩
theorem FJ {id:Nat}(I:U W w (aF W M p m::L))(hx:m.A.ar[i]?=some px)(bZ:px.id=id) :
   Calls prog 274 #[pt M.mb,.int .i64 id] w λe w'=>e=.returned (.agg (ints .i32 32 px.g).toArray)∧U W w' (aF W M p m::L):=by
 replace I:=aF.open I;refine EN func274 ntmps274 rfl rfl λa E=>?_;refine AL 1 E I λb4 a w E I=>?_;change U W w (aa b4 183 (ints .i32 32 (λ_=>0))::_) at I;refine CL 6 E I (W4 (I.store M.sq) hx bZ) λa w E I=>?_;refine AL 3 E I λb5 a w E I=>?_;change U W w (aa b5 183 (ints .i32 32 (λ_=>0))::_) at I;refine SA 0 E I λa w E I=>?_;refine SA 3 E I λa w E I=>?_;refine RT 0 E I ?_;exact⟨rfl,(aF.fold I M p m).sub⟩
structure ZX (p:Pr)(M:jo)(m m':Mu)(t':Nat→Nat):Prop where
 inv:Inv p (aw m.s.k:Int) m.s.g t' m'.base m'.A m'.T (m'.ks.map (·.1))
 s:m'.s=m.s
 J:m'.J=m.J
 front:m'.front=aw m.s.k
 room:m'.A.room=m.A.room
 n:m'.A.n≤m.A.n+1
 last:m'.T.last=m.T.last
 most:m'.T.most=m.T.most
 rZ:m'.T.epoch≤m.T.epoch+2
 ks:m'.ks.length=m.ks.length
 afl:(m'.T=m.T∧m'.A=m.A∧m'.ks=m.ks)∨m'.T.l=[]
 same:m.front=aw m.s.k→m'.T=m.T∧m'.A=m.A∧m'.ks=m.ks
theorem ZY (I:U W w (aF W M p m::L))(hw:cu p m.s)(hg:dO m.s.g)(hI:Inv p (m.front:Int) g0 t m.base m.A m.T (m.ks.map (·.1)))(fo:m.front=aw m.s.k→g0=m.s.g)
   (he:m.T.epoch+2<1099511627776) (hn:m.A.n+1<1099511627776) (h4:m.ks.length≤4) (qx:12≤m.A.room) :
   Calls prog 286 #[pt M.mb] w λe w'=>∃ (m':Mu) (t':Nat→Nat),e=.returned (.tuple #[])∧ZX p M m m' t'∧U W w' (aF W M p m'::L):=by
 have bB:=hw.wc.kY;have hL:m.s.k.ls.length≤8:=by rw[hw.wc.ls];exact hw.wc.n.2
 obtain⟨mb,B,sq,r,tq,jq,dt,dB,aq,cO⟩:=M;obtain⟨s,A,T,J,ks,base,front⟩:=m;obtain⟨i,px,hE,kS⟩:=hI.l9 (mem_cons_self ..)
 have hF : ∀ (N : List SP) (w' : World) (x : Br) (av : Option Addr) (c' : Nat), U W w' N →
     Calls prog 301 ([]++[Value.agg (cc x av c').toArray]).toArray w' λe nx=>e=.returned (.bool false)∧U W nx N:=by
  intro N w x av c' I;refine EN func301 ntmps301 rfl rfl λa E=>?_;refine BX 1 E I λb1 a w E I=>?_;refine RT 3 E I ?_;exact⟨rfl,I.tail⟩
 simp only at hw hg hI fo he hn h4 qx bB hL hE kS;subst kS;replace I:=aF.open I;dsimp only at I;refine EN func286 ntmps286 rfl rfl λa E=>?_;refine CL 5 E I (nG (I.pick (aQ W B p s))) λa w E I=>?_;replace I:=aQ.open I;refine CL 0 E I (oB (I.pick (az B.core s.k))) λa w E I=>?_;obtain⟨D,I,hD⟩:=az.qu I;refine CL 0 E I (rA I bB hL) λa w E I=>?_;refine RN 1 E I λa E=>?_;replace I:=(aQ.fold (hD _ _ I) B p s);refine IF 8 E I (λaj a E=>?_) λaj a E=>?_
 ·
  have ou:front=aw s.k:=by rw[aw];omega
  refine RT 0 E I ?_;exact⟨⟨s,A,T,J,ks,px.id,front⟩,t,rfl,⟨by rw[← ou,← fo ou];exact hI,rfl,rfl,ou,rfl,by simp only;omega,rfl,rfl,by simp only;omega,rfl,.inl ⟨rfl,rfl,rfl⟩,λ_=>⟨rfl,rfl,rfl⟩⟩,aF.fold I ⟨mb,B,sq,r,tq,jq,dt,dB,aq,cO⟩ p ⟨s,A,T,J,ks,px.id,front⟩⟩
 refine RN 5 E I λa E=>?_;have wM:=hI.cut (ax.facts (I.store sq)).1 (λ_=>true);have tf:=A7 (T.l.filter λ_=>true) A;have FK:(T.cut λ_=>true).l=[]:=by simp[Tr.cut]
 have ZZ:(T.cut λ_=>true).epoch≤T.epoch+1:=by simp only[Tr.cut];split <;> omega
 refine jO 0 E I (Me (kp:=λ_=>false) (ws:=[]) ((I.store sq).tree tq) (by omega) (by kernel_rfl) (λN w' x av c' _ h1 _ _ _ _=>hF N w' x av c' h1)) ?_;clear E I;rintro e w ⟨⟨_,rfl⟩,I⟩;refine⟨_,rfl,λa E=>?_⟩;replace I:U W w (Tree tq sq (T.cut λ_=>true)::ax sq r (A.gN (T.l.filter λ_=>true))::_):=I;generalize A.gN (T.l.filter λ_=>true)=A1 at I wM tf;have rH:(T.cut λ_=>true).last=T.last∧(T.cut λ_=>true).most=T.most:=⟨rfl,rfl⟩;generalize (T.cut λ_=>true)=T1 at I wM FK ZZ rH;obtain⟨i1,qz,Z0,Z1⟩:=wM.l9 (mem_cons_self ..);rw[← Z1]at I wM;refine RN 0 E I λa E=>?_;refine b7 (M:=λa w=>∃ (A2:Sn) (T2:Tr) (qA:List Kx),(A2.used+4≤A2.room∧Inv p (front:Int) g0 t qz.id A2 T2 (qA.map (·.1))∧T2.l=[]∧T2.epoch≤T.epoch+2∧T2.last=T.last∧T2.most=T.most∧qA.length=ks.length∧A2.room=A.room∧A2.n=A.n)∧Fr a 73 [(0,pt mb),(2,.int .i64 (aV s.k.ls))]∧U W w (aF W ⟨mb,B,sq,r,tq,jq,dt,dB,aq,cO⟩ p ⟨s,A2,T2,J,qA,qz.id,front⟩::L)) ?_ ?_
 ·
  refine aX 1 (λw0 w'=>Rd w' mb 0 (dQ p ⟨mb,B,sq,r,tq,jq,dt,dB,aq,cO⟩ ks.length qz.id front)) [7,11,12,13] [0,1,2,4,5,6,8,9,10,3003,3007,1011,1012,1013,1014,15] E I λa w E I hH=>?_;have hC:=hH.at w (I.ai (b:=mb));refine RH 9 E I hH hC λa E=>?_;refine QH E (λw hc=>ae E (hc 3 _ rfl)) hC λa E=>?_;refine QH E (λw hc=>ae E (hc 3 _ rfl)) hC λa E=>?_;refine RH 0 E I hH hC λa E=>?_;refine SS E (ae E (hC 7 _ rfl)) λa E=>?_;refine RH 0 E I hH hC λa E=>?_;refine aY 0 E I (IH (I.store sq) Z0) λcY dP a w E I=>?_;replace hC:=hH.at w (I.ai (b:=mb));refine RH 1 E I hH hC λa E=>?_;refine CL 0 E I (II (I.store sq)) λa w E I=>?_;refine RN 1 E I λa E=>?_;refine IF 0 E I (λao a E=>?_) λao a E=>?_
  ·
   replace I:=aF.fold I ⟨mb,B,sq,r,tq,jq,dt,dB,aq,cO⟩ p ⟨s,A1,T1,J,ks,qz.id,front⟩;refine aY 1 E I (ZW I wM (by dsimp only;omega) h4) λA2 qA a w E ⟨⟨oG,b9,Z2,eW,pg⟩,I⟩=>?_;refine RN 0 E I λa E=>?_;have ck:(T1.cut λ_=>true).l=[]:=by simp[Tr.cut]
   have hce:(T1.cut λ_=>true).epoch≤T1.epoch+1:=by simp only[Tr.cut];split <;> omega
   have hu:=ax.vy ((aF.open I).store sq);have hO:=oG.len;rw[Mb (λk hk=>by obtain⟨y,hy,rfl⟩:=cV.1 hk;exact Z2 y hy)]at hO;simp only[ck,length_nil]at hO eW pg b9 hu;exact⟨A2,T1.cut λ_=>true,qA,⟨by rw[eW,tf.1];omega,oG,ck,by omega,rH.1,rH.2,b9,by rw[eW,tf.1],by rw[pg,tf.2.1]⟩,E.ab [0,2],I.sub⟩
  refine RN 0 E I λa E=>?_;exact⟨A1,T1,ks,⟨by omega,wM,FK,by omega,rH.1,rH.2,rfl,tf.1,tf.2.1⟩,E.ab [0,2],(aF.fold I ⟨mb,B,sq,r,tq,jq,dt,dB,aq,cO⟩ p ⟨s,A1,T1,J,ks,qz.id,front⟩).sub⟩
 clear E;(try clear I);rintro a w ⟨A2,T2,qA,⟨Z3,oG,Mg,yG,Z4,Bb,b9,eW,pg⟩,E,I⟩;refine RN 1 E I λa E=>?_;replace I:=aF.open I;dsimp only at I;refine aX 0 (λw0 w'=>Rd w' mb 0 (dQ p ⟨mb,B,sq,r,tq,jq,dt,dB,aq,cO⟩ qA.length qz.id front)) [7,8] [0,1,2,4,5,6,3003,1007,1008,1009,10,11,12,13,14] E I λa w E I hH=>?_;have hC:=hH.at w (I.ai (b:=mb));refine RH 6 E I hH hC λa E=>?_;refine QH E (λw hc=>ae E (hc 3 _ rfl)) hC λa E=>?_;refine RH 0 E I hH hC λa E=>?_;refine SS E (ae E (hC 0 _ rfl)) λa E=>?_;refine RH 0 E I hH hC λa E=>?_;refine CL 0 E I (L9 (I.pick (aQ W B p s))) λa w E I=>?_;replace hC:=hH.at w (I.ai (b:=mb));have vV:=(ax.facts (I.store sq)).1;refine RH 0 E I hH hC λa E=>?_;refine bh 0 E I (IJ (g:=s.g) (I.store sq) Z3 (by omega)) λt' a w E ⟨⟨Z5,FL⟩,I⟩=>?_;refine RN 5 E I λa E=>?_;refine RN 4 E I λa E=>?_;replace E:=E.aM 55;refine aX 2 (λw0 w'=>Rd w' mb 0 (dQ p ⟨mb,B,sq,r,tq,jq,dt,dB,aq,cO⟩ qA.length qz.id front)) [7] [0,1,2,4,5,6,3003,1007,1008] E I λa w E I hH=>?_;have hC:=hH.at w (I.ai (b:=mb));refine RH 6 E I hH hC λa E=>?_;refine QH E (λw hc=>ae E (hc 3 _ rfl)) hC λa E=>?_;refine RH 0 E I hH hC λa E=>?_;refine SS E (ae E (hC 7 _ rfl)) λa E=>?_;refine RH 0 E I hH hC λa E=>?_;refine bh 0 E I (zM (I.store sq)) λ_ a w E I=>?_;refine ST 6 E I (λa w E I=>?_);refine ST 2 E I (λa w E I=>?_);refine RT 0 E I ?_;have hm:=oG.ZQ (F':=(aw s.k:Int)) (g:=s.g) (t':=t') vV (by omega) Mg hg;have hd:=n3 (A2.add s.g t') qz.id;exact⟨⟨s,(A2.add s.g t').eo qz.id,T2,J,qA,A2.last+1,aV s.k.ls⟩,t',rfl,⟨hm,rfl,rfl,rfl,hd.1.trans eW,by rw[hd.2.1];show A2.n+1≤A.n+1;omega,Z4,Bb,yG,b9,.inr Mg,λe=>(by have e2:front=aV s.k.ls:=e;exfalso;omega)⟩,aF.fold I ⟨mb,B,sq,r,tq,jq,dt,dB,aq,cO⟩ p ⟨s,(A2.add s.g t').eo qz.id,T2,J,qA,A2.last+1,aV s.k.ls⟩⟩
end
end
section
abbrev bj (xs:List dX):List (List UInt8):=xs.map (·.2.2)
theorem rI {xs:List dX}{i:Nat}{x:dX}(h:xs[i]?=some x):(bj xs).getD i []=x.2.2:=by
 rw[bl,bm,h];rfl
theorem fR (xs:List dX):(bj xs).length=xs.length:=a8 _
theorem hU.at {w:World}{ad:Option Addr}{xs:List dX}(h:hU w ad xs){i:Nat}(hi:i<xs.length):∃ b off x,ad=some ⟨b,off,none⟩∧xs[i]?=some x∧w.cell? ⟨b,off+i,none⟩=some (aK x)∧aT w x.1 x.2.2.length x.2.2:=by
 obtain⟨b,off,hb,hr⟩:=h.1 (by omega);have hx:xs[i]?=some xs[i]:=aD hi;exact⟨b,off,xs[i],hb,hx,hr i _ (by rw[bm,hx];rfl),h.2 _ (bG hx)⟩
section
variable {W w:World}{L:List SP}{m cT to r f cl:Nat}{adT g3:Option Addr}{past:List UInt8}{b:Gs}{xs:List dX}
theorem Bd (I:U W w L)(h0:0<xs.length)(h8:xs.length≤8)(hp:∀ w',U W w' L→hU w' g3 xs) :
   Calls prog 41 #[.slice g3 xs.length cl] w λe w'=>e=.returned (.int .i64 (aV (bj xs)))∧U W w' L:=by
 refine EN func41 ntmps41 rfl rfl λa E=>?_;refine RN 3 E I λa E=>?_;obtain⟨lV,ol,x0,rfl,Z6,pj,fD⟩:=(hp _ I).at h0;refine RN 3 E I λa E=>?_;refine SS E (ae E (pj)) λa E=>?_;rw[aK]at E;refine RN 5 E I λa E=>?_;rw[show ((x0.2.2.length:Nat):Int)=(iC (bj xs) 1:Nat) from by rw[Yi,iC,List.headD_eq_getD,rI Z6]]at E;refine aO (λμ a w=>∃ (i:Nat),(μ=xs.length-i∧i≤xs.length∧1≤i)∧Fr a 25 [(0,.slice (some ⟨lV,ol,none⟩) xs.length cl),(3,.int .i64 (iC (bj xs) i:Nat)),(4,.int .i64 i)]∧U W w L) (xs.length-1) (⟨1,⟨rfl,by omega,by omega⟩,E.ab [0,3,4],I⟩) ?_;clear E I;rintro μ a w ⟨i,⟨rfl,hi,k7⟩,E,I⟩;refine IF 6 E I (λaj a E=>?_) λaj a E=>?_
 ·
  obtain⟨_,_,x,gU,hx,pj,fD⟩:=(hp _ I).at (i:=i) (by omega);cases gU;refine RN 6 E I λa E=>?_;refine SS E (ae E (pj)) λa E=>?_;rw[aK]at E;refine RN 2 E I λa E=>?_;rw[show min ((iC (bj xs) i:Nat):Int) ((x.2.2.length:Nat):Int)=((iC (bj xs) (i+1):Nat):Int) from by rw[iC,rI hx];omega]at E;refine RN 4 E I λa E=>?_;exact⟨xs.length-(i+1),by omega,i+1,⟨rfl,by omega,by omega⟩,E.ab [0,3,4],I⟩
 refine RT 3 E I ?_;obtain rfl:i=xs.length:=by omega
 exact⟨by rw[aV,fR],I⟩
theorem FM (I:U W w L)(h0:0<xs.length)(h8:xs.length≤8)(hp:∀ w',U W w' L→hU w' g3 xs)(hf:f<aV (bj xs)) :
   Calls prog 40 #[.slice g3 xs.length cl,.int .i64 f] w λe w'=>∃ av c',e=.returned (.slice av (bI (bj xs) f).length c')∧U W w' (Sl 5 1 av (bI (bj xs) f).length c' (bc (bI (bj xs) f))::L):=by
 refine EN func40 ntmps40 rfl rfl λa E=>?_;refine RN 7 E I λa E=>?_;replace I:=I.bN 5 1 none;refine aO (λμ a w=>∃ (i:Nat) (ad2:Option Addr) (c2:Nat),(μ=xs.length-i∧i≤xs.length)∧Fr a 25 [(0,.slice g3 xs.length cl),(1,.int .i64 f),(5,.slice ad2 (fu (bj xs) f i).length c2),(6,.int .i64 i)]∧U W w (Sl 5 1 ad2 (fu (bj xs) f i).length c2 (bc (fu (bj xs) f i))::L)) (xs.length) (⟨0,none,0,⟨rfl,by omega⟩,E.ab [0,1,5,6],I⟩) ?_;clear E I;rintro μ a w ⟨i,ad2,c2,⟨rfl,hi⟩,E,I⟩;refine IF 6 E I (λaj a E=>?_) λaj a E=>?_
 ·
  obtain⟨lV,ol,x,rfl,hx,pj,fD⟩:=(hp _ I.tail).at (i:=i) (by omega);have dY:f<x.2.2.length:=by
   have h1:=wm (ls:=bj xs) (l:=x.2.2) (cV.2 ⟨x,bG hx,rfl⟩);omega
  obtain⟨mn,ox,gU,gk⟩:=fD.get (by omega);have eh:=sY (ls:=bj xs) (f:=f) (i:=i) (by rw[fR];exact hi);refine RN 6 E I λa E=>?_;refine SS E (ae E (pj)) λa E=>?_;rw[aK,gU]at E;refine RN 2 E I λa E=>?_;refine SS E (ae E (gk f _ (kV dY))) λa E=>?_;refine RN 0 E I λa E=>?_;refine cn E rfl I underlying22 Ty.t5 rfl rfl rfl rfl (by decide) (by decide) λuf a w E I ho=>?_;clear ho;refine RN 0 E I λa E=>?_;refine cK E rfl I underlying22 Ty.t5 rfl rfl I.ai rfl (en [x.2.2.getD f 0]) (by decide) (by decide) (by omega) λgp gq a w E I=>?_;rw[show bc (fu (bj xs) f i)++_=bc (fu (bj xs) f (i+1)) from by rw[AG (by rw[fR];omega),getElem_map,fF,(a2.1 hx).2],show (fu (bj xs) f i).length+1=(fu (bj xs) f (i+1)).length from by rw[eh,sY (by rw[fR];omega)]]at I;rw[show (fu (bj xs) f i).length+1=(fu (bj xs) f (i+1)).length from by rw[eh,sY (by rw[fR];omega)]]at E;refine RN 4 E I λa E=>?_;exact⟨xs.length-(i+1),by omega,i+1,gp,gq,⟨rfl,by omega⟩,E.ab [0,1,5,6],I.sub⟩
 refine RT 3 E I ?_;obtain rfl:i=xs.length:=by omega
 have hj:fu (bj xs) f xs.length=bI (bj xs) f:=by
  conv=>lhs;rw[← fR xs]
  exact AF _ _
 rw[hj]at I ⊢;exact⟨_,_,rfl,I⟩
set_option maxHeartbeats 1000000 in
theorem Be (hr:r≤100000)(I:U W w L)(hb:cX b)(h0:0<xs.length)(h8:xs.length≤8)(hl:∀ l∈bj xs,l.length≤1000)(s5:to≤1000)(hp:∀ w',U W w' L→hU w' g3 xs)(ht:∀ w',U W w' L→aT w' adT b.table.length b.table) :
   Calls prog 117 #[.slice g3 xs.length cl,.agg (dj b adT cT).toArray,.int .i64 r,.int .i64 to] w λe w'=>∃ (av:Option Addr) (c':Nat) (X:List (List UInt8)),e=.returned (.slice av (to-aV (bj xs)) c')∧(yz to (bj xs) X∧(r=0→X=iQ b (bj xs) to)) ∧
    U W w' (ca av (to-aV (bj xs)) c' (m8 X (aV (bj xs)) to)::L):=by
 have bB:bj xs≠[]:=λe=>by have h1:=fR xs;rw[e]at h1;simp at h1;omega
 have fo:aV (bj xs)≤1000:=by
  obtain⟨l,kL,lg⟩:=AE bB;rw[lg];exact hl l kL
 refine EN func117 ntmps117 rfl rfl λa E=>?_;refine BX 1 E I λb5 a w E I=>?_;change U W w (aa b5 47 (dj b adT cT)::_) at I;refine CL 3 E I (Bd (cl:=cl) I h0 h8 (λw' hw=>hp w' hw.tail)) λa w E I=>?_;refine bh 4 E I (Fz I) λrG a w E ⟨jB,I⟩=>?_;rw[jB.2 hb]at E;refine RN 2 E I λa E=>?_;replace E:=E.aM 23;refine RN 4 E I λa E=>?_;rw[bn (by omega)]at E;refine RN 4 E I λa E=>?_;rw[bn (by omega)]at E;refine IF 4 E I (λaj a E=>?_) λaj a E=>?_
 ·
  refine RT 2 E I ?_;have hz:to-aV (bj xs)=0:=by omega
  refine⟨none,0,iQ b (bj xs) to,by rw[hz],⟨⟨by rw[iQ,a8],λj l x hj hx=>?_⟩,λ_=>rfl⟩,?_⟩
  ·rw[iQ,bm,hj]at hx;obtain rfl:nD b l to=x:=by simpa using hx
   exact Zt (hl l (bG hj)) s5
  ·rw[m8,hz];exact ca.nil I.tail
 refine RN 7 E I λa E=>?_;replace I:=I.bN 22 1 none;replace I:=U.iK (f:=a7) I;have afm:aV (bj xs)<to:=by omega
 refine aO (λμ a w=>∃ (i:Nat) (Mh:Bool) (ys:List dX) (m9:Option Addr) (na:Nat),(μ=xs.length-i∧i≤xs.length∧ys.length=i∧(∀ (j:Nat) (l:List UInt8) (x:dX),(bj xs)[j]?=some l→ys[j]?=some x→wG to l x.2.2)∧(r=0→bj ys=(iQ b (bj xs) to).take i))∧Fr a 117 [(0,.slice g3 xs.length cl),(2,.int .i64 r),(3,.int .i64 to),(5,pt b5),(9,.int .i64 (aV (bj xs))),(10,.slice m9 i na),(11,.bool Mh),(12,.int .i64 i)]∧U W w (Sl 22 1 m9 i na (ys.map aK)::ah a7 ys::aa b5 47 (dj b adT cT)::L)) (xs.length) (⟨0,false,[],none,0,⟨rfl,by omega,rfl,λj l x _ h=>by simp at h,λ_=>rfl⟩,E.ab [0,2,3,5,9,10,11,12],(I.sub:U W w (Sl 22 1 none 0 0 []::ah a7 []::aa b5 47 (dj b adT cT)::L))⟩) ?_;clear E I;rintro μ a w ⟨i,Mh,ys,m9,na,⟨rfl,hi,iE,nh,uG⟩,E,I⟩;refine IF 6 E I (λao a E=>?_) λao a E=>?_
 ·
  obtain⟨lV,ol,x,rfl,hx,pj,fD⟩:=(hp _ I.tail.tail.tail).at (i:=i) (by omega);have eA:(bj xs)[i]?=some x.2.2:=by rw[bm,hx];rfl
  have bV:=hl _ (bG eA);replace I:=I.bN 5 1 none;refine RN 6 E I λa E=>?_;refine SS E (ae E (pj)) λa E=>?_;rw[aK]at E;refine RN 0 E I λa E=>?_;refine gY E rfl I underlying22 Ty.t5 rfl rfl (by decide) (λh0=>fD.get h0) (by rw[dk];omega) (en _) (by omega) λpB ru a w E I=>?_;rw[nil_append,Nat.zero_add]at I;rw[Nat.zero_add]at E;refine RN 1 E I λa E=>?_;refine b7 (M:=λa w=>∃ (Bf:Bool) (cY:Option Addr) (dP:Nat) (y:List UInt8),((∃ t,y=x.2.2++t)∧y.length≤x.2.2.length+1∧(y=x.2.2∨x.2.2.length=aV (bj xs))∧(r=0→y=x.2.2))∧Fr a 117 [(0,.slice (some ⟨lV,ol,none⟩) xs.length cl),(2,.int .i64 r),(3,.int .i64 to),(5,pt b5),(9,.int .i64 (aV (bj xs))),(10,.slice m9 i na),(11,.bool Bf),(12,.int .i64 i),(13,.slice cY y.length dP)]∧U W w (Sl 5 1 cY y.length dP (bc y)::Sl 22 1 m9 i na (ys.map aK)::ah a7 ys::aa b5 47 (dj b adT cT)::L)) ?_ ?_
  ·
   refine BY 4 E I (λbD a E=>?_) λbD a E=>?_
   ·
    refine BY 4 E I (λjV a E=>?_) λjV a E=>?_
    ·
     refine IF 5 E I (λay a E=>?_) λay a E=>?_
     ·
      refine RN 2 E I λa E=>?_;have ye:r%256<256:=Nat.mod_lt _ (by decide);have Z7:=(I.sl pB).2;refine SX 4 E I (by decide) λa E=>?_;rw[show ((r:Nat):Int).tmod 256=((r%256:Nat):Int) from nS _ 256]at E;generalize lM:r%256=r6 at E ye;refine RN 1 E I λa E=>?_;rw[show ((r6:Nat):Int)+1=((r6+1:Nat):Int) from by omega]at E;refine jN 0 E I (LG (past:=x.2.2) (k:=r6+1) I hb (by omega) (by omega) Z7 (λw' hw=>hw.cr pB x.2.2 rfl rfl) (λw' hw=>ht w' hw.tail.tail.tail.tail)) λrk ot out a w E ⟨⟨dU,_⟩,I⟩=>?_;obtain⟨gl,or',rfl,jB⟩:=I.bU rk (by omega);refine SX 1 E I (by decide) λa E=>?_;rw[show ((r:Nat):Int).tmod 256=((r6:Nat):Int) from by rw[← lM];exact nS _ 256]at E;refine RN 1 E I λa E=>?_;refine SS E (ae E (jB r6 _ (dJ (by omega)))) λa E=>?_;refine RN 0 E I λa E=>?_;refine cn E rfl I underlying22 Ty.t5 rfl rfl rfl rfl (by decide) (by decide) λXG a w E I ho=>?_;clear ho;refine RN 0 E I λa E=>?_;refine cK E rfl I underlying22 Ty.t5 rfl rfl I.ai rfl (en [out[r6]]) (by decide) (by decide) (by omega) λKe Kf a w E I=>?_;rw[show bc x.2.2++_=bc (x.2.2++[out[r6]]) from (fF _ [_]).symm,show x.2.2.length+1=(x.2.2++[out[r6]]).length from by simp]at I;rw[show x.2.2.length+1=(x.2.2++[out[r6]]).length from by simp]at E;refine RN 1 E I λa E=>?_;exact⟨_,Ke,Kf,x.2.2++[out[r6]],⟨⟨_,rfl⟩,by simp,.inr (by omega),λh=>by omega⟩,E.ab [0,2,3,5,9,10,11,12,13],I.sub⟩
     refine RN 0 E I λa E=>?_;exact⟨_,pB,ru,x.2.2,⟨⟨[],by simp⟩,by omega,.inl rfl,λ_=>rfl⟩,E.ab [0,2,3,5,9,10,11,12,13],I.sub⟩
    refine RN 6 E I λa E=>?_;exact⟨_,pB,ru,x.2.2,⟨⟨[],by simp⟩,by omega,.inl rfl,λ_=>rfl⟩,E.ab [0,2,3,5,9,10,11,12,13],I.sub⟩
   refine RN 10 E I λa E=>?_;exact⟨_,pB,ru,x.2.2,⟨⟨[],by simp⟩,by omega,.inl rfl,λ_=>rfl⟩,E.ab [0,2,3,5,9,10,11,12,13],I.sub⟩
  clear E;(try clear I);rintro a w ⟨Bf,cY,dP,y,⟨gV,iN,Zx,lU⟩,E,I⟩;refine b7 (M:=λa w=>∃ (adq:Option Addr) (cq:Nat) (z:List UInt8),(wG to x.2.2 z∧(r=0→z=nD b x.2.2 to))∧Fr a 117 [(0,.slice (some ⟨lV,ol,none⟩) xs.length cl),(2,.int .i64 r),(3,.int .i64 to),(5,pt b5),(9,.int .i64 (aV (bj xs))),(10,.slice m9 i na),(11,.bool Bf),(12,.int .i64 i),(13,.slice adq z.length cq)]∧U W w (Sl 5 1 adq z.length cq (bc z)::Sl 22 1 m9 i na (ys.map aK)::ah a7 ys::aa b5 47 (dj b adT cT)::L)) ?_ ?_
  ·
   refine IF 5 E I (λbk a E=>?_) λbk a E=>?_
   ·
    have oD:=(I.sl cY).2;have FD:=EU b y (to-y.length);refine RN 7 E I λa E=>?_;rw[show ((to:Nat):Int)-((y.length:Nat):Int)=((to-y.length:Nat):Int) from by omega]at E;refine aY 0 E I (Zn (past:=y) (m:=to-y.length) I hb (by omega) oD (by omega) (λw' hw=>hw.cr cY y rfl rfl) (λw' hw=>ht w' hw.tail.tail.tail.tail)) λadc Zy a w E I=>?_;refine RN 0 E I λa E=>?_;refine gY E rfl I underlying22 Ty.t5 rfl rfl (by decide) (λh0=>(I.cr adc (j3 b y (to-y.length)) rfl FD).get h0) (by rw[dk];omega) (en _) (by omega) λZ8 Z9 a w E I=>?_;rw[← fF,uv,show y.length+(to-y.length)=(ed b y (to-y.length)).length from by rw[il]]at I;rw[show y.length+(to-y.length)=(ed b y (to-y.length)).length from by rw[il]]at E;refine RN 1 E I λa E=>?_;obtain⟨t,FE⟩:=gV;refine⟨Z8,Z9,_,⟨⟨⟨t++j3 b y (to-y.length),?_⟩,by rw[il];omega,by rw[il];omega⟩,λh=>?_⟩,E.ab [0,2,3,5,9,10,11,12,13],I.sub⟩
    ·rw[← uv,FE,du]
    ·rw[lU h,nD]
   refine RN 0 E I λa E=>?_;exact⟨cY,dP,y,⟨⟨gV,by omega,by omega⟩,λh=>by rw[LI (by rw[← lU h];omega)];exact lU h⟩,E.ab [0,2,3,5,9,10,11,12,13],I⟩
  clear E;(try clear I);rintro a w ⟨adq,cq,z,⟨cU,eK⟩,E,I⟩;refine RN 2 E I λa E=>?_;refine cn E rfl I underlying207 Ty.t22 rfl rfl rfl rfl (by decide) (by decide) λb88 a w E I ho=>?_;clear ho;refine RN 0 E I λa E=>?_;refine cK E rfl I underlying207 Ty.t22 rfl rfl I.ai rfl (by simp[Value.oneCell']) (by decide) (by decide) (by omega) λMi Mj a w E I=>?_;rw[show List.map aK ys++_=List.map aK (ys++[(adq,cq,z)]) from by rw[cW];rfl]at I;refine RN 4 E I λa E=>?_;have dv:=U.jL (f:=a7) (x:=(adq,cq,z)) (I.sub (M:=Sl 5 1 adq z.length cq (bc z)::ah a7 ys::Sl 22 1 Mi (i+1) Mj ((ys++[(adq,cq,z)]).map aK)::aa b5 47 (dj b adT cT)::L));refine⟨xs.length-(i+1),by omega,i+1,Bf,ys++[(adq,cq,z)],Mi,Mj,⟨rfl,by omega,by rw[aL,iE];rfl,λj l y hj hy=>?_,λh=>?_⟩,E.ab [0,2,3,5,9,10,11,12],dv.sub⟩
  ·by_cases gM:j<i
   ·rw[lZ (by omega)]at hy;exact nh j l y hj hy
   ·have eh:=(a2.1 hy).1;rw[aL,jj]at eh;obtain rfl:j=i:=by omega
    rw[getElem?_append_right (by omega),iE,Nat.sub_self]at hy;obtain rfl:(adq,cq,z)=y:=by simpa using hy
    rw[eA]at hj;obtain rfl:x.2.2=l:=by simpa using hj
    exact cU
  ·rw[bj,cW,← bj,uG h,iZ (by rw[iQ,a8,fR];omega)]
   congr 1
   rw[map_singleton,eK h];simp only[iQ,getElem_map];rw[(a2.1 hx).2]
 obtain rfl:i=xs.length:=by omega
 have ij:yz to (bj xs) (bj ys):=⟨by rw[fR,fR];exact iE,λj l x hj hx=>by
  rw[bm]at hx;obtain⟨y,hy,rfl⟩:=Option.map_eq_some_iff.1 hx;exact nh j l y hj hy⟩
 have mz:r=0→bj ys=iQ b (bj xs) to:=λh=>by rw[uG h,fZ (by rw[iQ,a8,fR];exact bd _)]
 clear nh uG;refine RN 6 E I λa E=>?_;replace I:=I.bN 22 1 none;replace I:=U.iK (f:=a7) I;refine aO (λμ a w=>∃ (d:Nat) (zs:List dX) (mA:Option Addr) (mB:Nat),(μ=to-aV (bj xs)-d∧d≤to-aV (bj xs)∧bj zs=(List.range d).map λi=>bI (bj ys) (aV (bj xs)+i))∧Fr a 117 [(0,.slice g3 xs.length cl),(3,.int .i64 to),(10,.slice m9 xs.length na),(14,.slice mA d mB),(15,.int .i64 (aV (bj xs)+d:Nat))]∧U W w (Sl 22 1 mA d mB (zs.map aK)::ah a7 zs::Sl 22 1 m9 xs.length na (ys.map aK)::ah a7 ys::L)) (to-aV (bj xs)) (⟨0,[],none,0,⟨rfl,by omega,rfl⟩,by rw[Nat.add_zero];exact E.ab [0,3,10,14,15],(I.sub:U W w (Sl 22 1 none 0 0 []::ah a7 []::Sl 22 1 m9 xs.length na (ys.map aK)::ah a7 ys::L))⟩) ?_;clear E I;rintro μ a w ⟨d,zs,mA,mB,⟨rfl,hd,s9⟩,E,I⟩;refine IF 5 E I (λbL a E=>?_) λbL a E=>?_
 ·
  refine RN 6 E I λa E=>?_;replace I:=I.bN 5 1 none;refine aO (λμ a w=>∃ (i:Nat) (iF:Option Addr) (iR:Nat),(μ=xs.length-i∧i≤xs.length)∧Fr a 117 [(0,.slice g3 xs.length cl),(3,.int .i64 to),(10,.slice m9 xs.length na),(14,.slice mA d mB),(15,.int .i64 (aV (bj xs)+d:Nat)),(16,.slice iF i iR),(17,.int .i64 i)]∧U W w (Sl 5 1 iF i iR (bc (fu (bj ys) (aV (bj xs)+d) i))::Sl 22 1 mA d mB (zs.map aK)::ah a7 zs::Sl 22 1 m9 xs.length na (ys.map aK)::ah a7 ys::L)) (xs.length) (⟨0,none,0,⟨rfl,by omega⟩,E.ab [0,3,10,14,15,16,17],I⟩) ?_;clear E I;rintro μ a w ⟨i,iF,iR,⟨rfl,hi⟩,E,I⟩;refine IF 6 E I (λeO a E=>?_) λeO a E=>?_
  ·
   have aH:i<xs.length:=by omega
   have AZ:=U.l7 (xs:=ys) (I.sub (M:=Sl 22 1 m9 xs.length na (ys.map aK)::ah a7 ys::[]));obtain⟨a1,afn,y,rfl,hy,nc,oH⟩:=AZ.at (i:=i) (by omega);have Bg:=ij.fit i _ y.2.2 (aD (by rw[fR];exact aH)) (by rw[bm,hy];rfl);obtain⟨bb,oo,pJ,gk⟩:=oH.get (by have:=Bg.2.1;omega);refine RN 5 E I λa E=>?_;refine SS E (ae E (nc)) λa E=>?_;rw[aK,pJ]at E;refine SX 1 E I (by have:=Bg.2.1;omega) λa E=>?_;refine RN 0 E I λa E=>?_;refine SS E (ae E (gk (aV (bj xs)+d) _ (kV (by have:=Bg.2.1;omega)))) λa E=>?_;refine RN 0 E I λa E=>?_;refine cn E rfl I underlying22 Ty.t5 rfl rfl rfl rfl (by decide) (by decide) λQU a w E I ho=>?_;clear ho;refine RN 0 E I λa E=>?_;refine cK E rfl I underlying22 Ty.t5 rfl rfl I.ai rfl (en [y.2.2.getD (aV (bj xs)+d) 0]) (by decide) (by decide) (by omega) λaaa aab a w E I=>?_;rw[show bc (fu (bj ys) (aV (bj xs)+d) i)++_=bc (fu (bj ys) (aV (bj xs)+d) (i+1)) from by rw[AG (by rw[fR];omega),getElem_map,fF,(a2.1 hy).2]]at I;refine RN 4 E I λa E=>?_;exact⟨xs.length-(i+1),by omega,i+1,aaa,aab,⟨rfl,by omega⟩,E.ab [0,3,10,14,15,16,17],I.sub⟩
  obtain rfl:i=xs.length:=by omega
  have eh:fu (bj ys) (aV (bj xs)+d) xs.length=bI (bj ys) (aV (bj xs)+d):=by
   conv=>lhs;rw[← iE,← fR]
   exact AF _ _
  rw[eh]at I;have p4:(bI (bj ys) (aV (bj xs)+d)).length=xs.length:=by rw[m3,fR];exact iE
  refine RN 2 E I λa E=>?_;refine cn E rfl I underlying207 Ty.t22 rfl rfl rfl rfl (by decide) (by decide) λQV a w E I ho=>?_;clear ho;refine RN 0 E I λa E=>?_;refine cK E rfl I underlying207 Ty.t22 rfl rfl I.ai rfl (by simp[Value.oneCell']) (by decide) (by decide) (by omega) λMk Mm a w E I=>?_;rw[show List.map aK zs++_=List.map aK (zs++[(iF,iR,bI (bj ys) (aV (bj xs)+d))]) from by rw[cW,map_singleton,aK,p4];rfl]at I;refine RN 4 E I λa E=>?_;have dv:=U.jL (f:=a7) (x:=(iF,iR,bI (bj ys) (aV (bj xs)+d))) (by
   rw[a7,p4];exact I.sub (M:=Sl 5 1 iF xs.length iR (bc (bI (bj ys) (aV (bj xs)+d)))::ah a7 zs::Sl 22 1 Mk (d+1) Mm ((zs++[(iF,iR,bI (bj ys) (aV (bj xs)+d))]).map aK)::Sl 22 1 m9 xs.length na (ys.map aK)::ah a7 ys::L))
  exact⟨to-aV (bj xs)-(d+1),by omega,d+1,zs++[(iF,iR,bI (bj ys) (aV (bj xs)+d))],Mk,Mm,⟨rfl,by omega,by rw[bj,cW,← bj,s9,range_succ,cW];rfl⟩,by rw[show ((aV (bj xs)+(d+1):Nat):Int)=((aV (bj xs)+d:Nat):Int)+1 from by omega];exact E.ab [0,3,10,14,15],dv.sub⟩
 obtain rfl:d=to-aV (bj xs):=by omega
 refine RT 3 E I ?_;exact⟨mA,mB,bj ys,rfl,⟨ij,mz⟩,ca.close (xs:=zs) (I.sub (M:=Sl 22 1 mA (to-aV (bj xs)) mB (zs.map aK)::ah a7 zs::L)) s9 (AY _ _ _)⟩
end
end
section
section
variable {W w:World}{Z:List SP}{n c i tq sq r nk base front:Nat}{ad:Option Addr}{M:jo}{B:iS}{y:UInt8}{x:Br}{p:Pr}{s:Pl}{T:Tr}
theorem aac (I:U W w (aa M.mb 177 (dQ p M nk base front)::aQ W M.B p s::Z))(hw:cu p s)(hx:vI W (aa M.mb 177 (dQ p M nk base front)::aQ W M.B p s::Z) ad x.al)
   (hf:x.frm=(front:Int)) (hj:∀ j∈x.al,j.length=s.k.n) (hb:front+x.al.length≤100000) :
   Calls prog 288 #[pt M.mb,.agg (cc x ad c).toArray] w λe w'=>e=.returned (.bool (jr s.k.ls front x.al))∧U W w' (aa M.mb 177 (dQ p M nk base front)::aQ W M.B p s::Z):=by
 obtain⟨zs,hz,hx⟩:=hx;have bB:=hw.wc.kY;have eP:=hw.wc.ls;have wN:=hw.wc.n;have iW:zs.length=x.al.length:=by rw[← hz,a8]
 refine EN func288 ntmps288 rfl rfl λa E=>?_;refine BX 1 E I λb3 a w E I=>?_;refine CL 6 E I (nG (I.pick (aQ W M.B p s))) λa w E I=>?_;replace I:=aQ.open I;refine CL 0 E I (oB (I.pick (az M.B.core s.k))) λa w E I=>?_;refine RN 1 E I λa E=>?_;obtain⟨D,I,hD⟩:=az.qu I;have Mn:∀ w',U W w' (Qu M.B.core.qb M.B.core.aB s.k.ls::D::aa M.B.pb 192 (gr p M.B s.g)::aA W p M.B.aq M.B.cO::Sl 5 1 M.B.adT M.B.gs.table.length M.B.cT (bc M.B.gs.table)::aa M.mb 177 (dQ p M nk base front)::Z)→hU w' ad zs :=
  λw' h=>hx w' ((aQ.fold (hD _ _ h) M.B p s).sub)
 refine RN 6 E I λa E=>?_;refine aO (λμ a w=>∃ (i:Nat),(μ=x.al.length-i∧i≤x.al.length∧(∀ j,j<i→te s.k.ls (front+j) (x.al.getD j [])=true))∧Fr a 59 [(0,pt M.mb),(3,pt b3),(5,pt M.B.core.qb),(19,.slice ad x.al.length c),(20,.int .i64 x.al.length),(21,.int .i64 i)]∧U W w (Qu M.B.core.qb M.B.core.aB s.k.ls::D::aa b3 238 (cc x ad c)::aa M.B.pb 192 (gr p M.B s.g)::aA W p M.B.aq M.B.cO::Sl 5 1 M.B.adT M.B.gs.table.length M.B.cT (bc M.B.gs.table)::aa M.mb 177 (dQ p M nk base front)::Z)) (x.al.length) (⟨0,⟨rfl,by omega,λj h=>absurd h (by omega)⟩,E.ab [0,3,5,19,20,21],I.sub⟩) ?_;clear E I;rintro μ a w ⟨i,⟨rfl,hi,uJ⟩,E,I⟩;refine IF 3 E I (λaj a E=>?_) λaj a E=>?_
 ·
  have aH:i<zs.length:=by omega
  obtain⟨mn,ox,z,gW,kx,lf,FN⟩:=(Mn _ I.sub).at aH;have Mo:x.al.getD i []=z.2.2:=by rw[bl,← hz,bm,kx];rfl
  have JD:z.2.2.length=s.k.n:=hj _ (by rw[← hz];exact cV.2 ⟨z,bG kx,rfl⟩);refine RN 3 E I λa E=>?_;rw[gW]at E;refine RN 1 E I λa E=>?_;refine SS E (ae E (lf)) λa E=>?_;rw[← gW]at E;rw[aK]at E;refine RN 6 E I λa E=>?_;refine aO (λμ a w=>∃ (v:Nat),(μ=z.2.2.length-v∧v≤z.2.2.length∧(∀ q,q<v→front+i<(s.k.ls.getD q []).length→(s.k.ls.getD q []).getD (front+i) 0=z.2.2.getD q 0))∧Fr a 59 [(0,pt M.mb),(3,pt b3),(5,pt M.B.core.qb),(6,.int .i64 i),(19,.slice ad x.al.length c),(20,.int .i64 x.al.length),(21,.int .i64 i),(26,.slice z.1 z.2.2.length z.2.1),(27,.int .i64 z.2.2.length),(28,.int .i64 v)]∧U W w (Qu M.B.core.qb M.B.core.aB s.k.ls::D::aa b3 238 (cc x ad c)::aa M.B.pb 192 (gr p M.B s.g)::aA W p M.B.aq M.B.cO::Sl 5 1 M.B.adT M.B.gs.table.length M.B.cT (bc M.B.gs.table)::aa M.mb 177 (dQ p M nk base front)::Z)) (z.2.2.length) (⟨0,⟨rfl,by omega,λj h=>absurd h (by omega)⟩,E.ab [0,3,5,6,19,20,21,26,27,28],I⟩) ?_;clear E I;rintro μ a w ⟨v,⟨rfl,hv,FO⟩,E,I⟩;refine IF 3 E I (λao a E=>?_) λao a E=>?_
  ·
   have Bh:v<z.2.2.length:=by omega
   have Mp:v<s.k.ls.length:=by omega
   obtain⟨afo,afp,cU,Bi⟩:=((Mn _ I.sub).2 z (bG kx)).get (by omega);refine RN 3 E I λa E=>?_;rw[cU]at E;refine RN 1 E I λa E=>?_;refine SS E (ae E (Bi v _ (kV Bh))) λa E=>?_;rw[← cU]at E;refine aX 3 (λw0 w'=>Rd w' b3 0 (cc x ad c)) [2] [0,1,3,5,3004,6,1002,1007,8,9,10,11,12] E I λa w E I hH=>?_;have hC:=hH.at w (I.ai (b:=b3));refine RH 4 E I hH hC λa E=>?_;refine QH E (λw hc=>ae E (hc 1 _ rfl)) hC λa E=>?_;refine RH 1 E I hH hC λa E=>?_;rw[hf,show ((front:Nat):Int)+(i:Int)=((front+i:Nat):Int) from rfl]at E;refine CL 0 E I (sZ (I.pick (Qu M.B.core.qb M.B.core.aB s.k.ls)) Mp) λa w E I=>?_;replace hC:=hH.at w (I.ai (b:=b3));refine RH 0 E I hH hC λa E=>?_;refine CL 0 E I (Yq I Mp) λa w E I=>?_;refine RN 5 E I λa E=>?_;refine BY 3 E I (λmT a E=>?_) λmT a E=>?_
   ·
    refine IF 4 E I (λay a E=>?_) λay a E=>?_
    ·
     refine RT 2 E I ?_;exact⟨by rw[ZS (i:=i) (by omega) (by rw[Mo];exact ZR Bh mT (λe=>ay (by rw[e])))],((aQ.fold (hD _ _ I) M.B p s).sub)⟩
    refine RN 2 E I λa E=>?_;refine⟨z.2.2.length-(v+1),by omega,v+1,⟨rfl,by omega,λq hq h1=>?_⟩,E.ab [0,3,5,6,19,20,21,26,27,28],I.sub⟩;rcases (by omega:q<v∨q=v) with h | rfl
    ·exact FO q h h1
    ·exact UInt8.toNat.inj (by omega)
   refine RN 7 E I λa E=>?_;refine⟨z.2.2.length-(v+1),by omega,v+1,⟨rfl,by omega,λq hq h1=>?_⟩,E.ab [0,3,5,6,19,20,21,26,27,28],I.sub⟩;rcases (by omega:q<v∨q=v) with h | rfl
   ·exact FO q h h1
   ·omega
  refine RN 2 E I λa E=>?_;refine⟨x.al.length-(i+1),by omega,i+1,⟨rfl,by omega,λj hj=>?_⟩,E.ab [0,3,5,19,20,21],I.sub⟩;rcases (by omega:j<i∨j=i) with h | rfl
  ·exact uJ j h
  ·rw[Mo];exact Mc λq hq=>FO q (by omega)
 refine bP 1 [5] [0,2,3,4,3001,1005,6,7] E I λa w E I hH hC=>?_;refine RH 8 E I hH hC λa E=>?_;refine RT 0 E I ?_;exact⟨by rw[hf,dh rfl,Md λj hj=>uJ j (by omega)],((aQ.fold (hD _ _ I) M.B p s).sub)⟩
theorem aad {P:List (List UInt8)}(I:U W w (aa M.mb 177 (dQ p M nk base front)::Tree M.tq M.sq T::Z))(hx:vI W Z ad P)(re:P.length≤65536) :
   Calls prog 305 #[pt M.mb,.slice ad P.length c] w λe w'=>∃ r:Bool,e=.returned (.bool r)∧(r=true→T.l≠[])∧U W w' (aa M.mb 177 (dQ p M nk base front)::Tree M.tq M.sq T::Z):=by
 obtain⟨zs,hz,hx⟩:=hx;have iW:zs.length=P.length:=by rw[← hz,a8]
 have kT:=Tree.wt (I.tree M.tq);have Mq:=kT.most;refine EN func305 ntmps305 rfl rfl λa E=>?_;refine aY 8 E I (zK (I.tree M.tq)) λtg qB a w E I=>?_;obtain⟨xs,h1,h2,I⟩:=kM.open I;have bV:xs.length=T.l.length:=by rw[← h1,a8]
 refine RN 2 E I λa E=>?_;refine aO (λμ a w=>∃ (i:Nat),(μ=T.l.length-i∧i≤T.l.length)∧Fr a 61 [(0,pt M.mb),(1,.slice ad P.length c),(14,.slice tg T.l.length qB),(15,.int .i64 T.l.length),(16,.int .i64 i)]∧U W w (Sl 238 5 tg T.l.length qB (rows c5 xs)::ah bX xs::Tree M.tq M.sq T::aa M.mb 177 (dQ p M nk base front)::Z)) (T.l.length) (⟨0,⟨rfl,by omega⟩,E.ab [0,1,14,15,16],I.sub⟩) ?_;clear E I;rintro μ a w ⟨i,⟨xL,hi⟩,E,I⟩;refine IF 3 E I (λaj a E=>?_) λaj a E=>?_
 ·
  obtain⟨b',dC,rfl,c4⟩:=I.bU tg (by omega);obtain⟨⟨x,eB,c8⟩,dS⟩:∃ y,xs[i]?=some y:=⟨_,aD (by omega)⟩;have fN:=nX c4 dS;have jd:T.l[i]?=some x:=by rw[← h1,bm,dS];rfl
  have ko:=kT.ok x (bG jd);have hxP:=ko.1.1;have aae:T.l≠[]:=λe=>by rw[e]at jd;cases jd
  refine RN 3 E I λa E=>?_;refine SS E (bR E underlying238 rfl Ty.t238 (fN)) λa E=>?_;refine AL 0 E I λcH a w E I=>?_;refine SA 0 E I λa w E I=>?_;refine RN 6 E I λa E=>?_;refine b7 (M:=λa w=>∃ q:Bool,(q=false→x.al.length≤P.length)∧Fr a 61 [(0,pt M.mb),(1,.slice ad P.length c),(6,pt cH),(7,.int .i64 x.al.length),(14,.slice (some ⟨b',dC,none⟩) T.l.length qB),(15,.int .i64 T.l.length),(16,.int .i64 i),(38,.bool q)]∧U W w (aa cH 238 (cc x eB c8)::Sl 238 5 (some ⟨b',dC,none⟩) T.l.length qB (rows c5 xs)::ah bX xs::Tree M.tq M.sq T::aa M.mb 177 (dQ p M nk base front)::Z)) ?_ ?_
  ·
   refine BY 5 E I (λdA a E=>?_) λdA a E=>?_
   ·
    refine RN 11 E I λa E=>?_;exact⟨_,(λh=>by first | omega | cases h),E.ab [0,1,6,7,14,15,16,38],I.sub⟩
   refine BY 5 E I (λuk a E=>?_) λuk a E=>?_
   ·
    refine RN 6 E I λa E=>?_;exact⟨_,(λh=>by first | omega | cases h),E.ab [0,1,6,7,14,15,16,38],I.sub⟩
   refine RN 6 E I λa E=>?_;exact⟨_,(λh=>by first | omega | cases h),E.ab [0,1,6,7,14,15,16,38],I.sub⟩
  clear E;(try clear I);rintro a w ⟨q,hq,E,I⟩;refine IF 0 E I (λao a E=>?_) λao a E=>?_
  ·
   refine RN 2 E I λa E=>?_;exact⟨T.l.length-(i+1),by omega,i+1,⟨rfl,by omega⟩,E.ab [0,1,14,15,16],I.sub⟩
  have oa:=hq ao;refine RN 6 E I λa E=>?_;refine aO (λμ a w=>∃ (v:Nat) (AB:Bool),(μ=x.al.length-v∧v≤x.al.length)∧Fr a 61 [(0,pt M.mb),(1,.slice ad P.length c),(6,pt cH),(7,.int .i64 x.al.length),(8,.bool AB),(14,.slice (some ⟨b',dC,none⟩) T.l.length qB),(15,.int .i64 T.l.length),(16,.int .i64 i),(39,.int .i64 x.al.length),(40,.int .i64 v)]∧U W w (aa cH 238 (cc x eB c8)::Sl 238 5 (some ⟨b',dC,none⟩) T.l.length qB (rows c5 xs)::ah bX xs::Tree M.tq M.sq T::aa M.mb 177 (dQ p M nk base front)::Z)) (x.al.length) (⟨0,true,⟨rfl,by omega⟩,E.ab [0,1,6,7,8,14,15,16,39,40],I⟩) ?_;clear E I;rintro μ a w ⟨v,AB,⟨rfl,hv⟩,E,I⟩;refine IF 3 E I (λay a E=>?_) λay a E=>?_
  ·
   have Bh:v<x.al.length:=by omega
   refine RN 4 E I λa E=>?_;obtain⟨qy,FP,DG,f9⟩:=(ah.o5 (I.drew.pick (ah bX xs)) dS).1.2 (by omega);obtain⟨rJ,rv,ml,Mr⟩:=f9 v x.al[v] (aD Bh);obtain⟨dq,FQ,z,gW,kx,lf,FN⟩:=(hx _ I.drew.sub).at (i:=v) (by omega);clear f9;refine qT 0 (λw'=>(Rd w' cH 0 (cc x eB c8)∧w'.cell? ⟨qy,FP+v,none⟩=some (.slice rJ x.al[v].length rv)∧aT w' rJ x.al[v].length x.al[v])∧(w'.cell? ⟨dq,FQ+v,none⟩=some (aK z)∧aT w' z.1 z.2.2.length z.2.2)) [11,12] [0,1,2,4,8,9,10,3003,5,3006,3007,1011,1012,13,14,15] E I λa E=>?_;replace I:=I.drew;generalize w.drew=w at I ml Mr lf FN ⊢;have hC:(Rd w cH 0 (cc x eB c8)∧w.cell? ⟨qy,FP+v,none⟩=some (.slice rJ x.al[v].length rv)∧aT w rJ x.al[v].length x.al[v])∧(w.cell? ⟨dq,FQ+v,none⟩=some (aK z)∧aT w z.1 z.2.2.length z.2.2):=⟨⟨I.ai (b:=cH),ml,Mr⟩,lf,FN⟩;have hH:=Hd.any (λw'=>(Rd w' cH 0 (cc x eB c8)∧w'.cell? ⟨qy,FP+v,none⟩=some (.slice rJ x.al[v].length rv)∧aT w' rJ x.al[v].length x.al[v])∧(w'.cell? ⟨dq,FQ+v,none⟩=some (aK z)∧aT w' z.1 z.2.2.length z.2.2));refine RH 2 E I hH hC λa E=>?_;refine E.by (s:=44) (λmT E=>?_) (λmT E=>?_)
   ·
    refine RH 4 E I hH hC λa E=>?_;rw[gW]at E;refine RH 1 E I hH hC λa E=>?_;rw[← gW]at E;refine QH E (λw hc=>ae E (hc.1.1 2 _ rfl)) hC λa E=>?_;rw[DG]at E;refine RH 1 E I hH hC λa E=>?_;refine QH E (λw hc=>ae E (hc.1.2.1)) hC λa E=>?_;refine QH E (λw hc=>ld E underlying22 underlying5 underlying9 (hc.1.2.2)) hC λa E=>?_;refine RH 0 E I hH hC λa E=>?_;refine bt E (cm E rfl (s:=44)) (ae E (hC.2.1)) rfl λa E=>?_;rw[aK]at E;refine RH 0 E I hH hC λa E=>?_;refine bt E (cm E rfl (s:=44)) (ld E underlying22 underlying5 underlying9 (hC.2.2)) rfl λa E=>?_;refine RH 0 E I hH hC λa E=>?_;refine QP E (λw=>r5 E) λa E=>?_;refine RH 2 E I hH hC λa E=>?_;refine RN 2 E I λa E=>?_;exact⟨x.al.length-(v+1),by omega,v+1,_,⟨rfl,by omega⟩,E.ab [0,1,6,7,8,14,15,16,39,40],I.sub⟩
   refine RH 14 E I hH hC λa E=>?_;refine RN 2 E I λa E=>?_;exact⟨x.al.length-(v+1),by omega,v+1,_,⟨rfl,by omega⟩,E.ab [0,1,6,7,8,14,15,16,39,40],I.sub⟩
  refine IF 2 E I (λbk a E=>?_) λbk a E=>?_
  ·
   refine RT 2 E I ?_;exact⟨_,rfl,λ_=>aae,I.sub⟩
  refine RN 2 E I λa E=>?_;exact⟨T.l.length-(i+1),by omega,i+1,⟨rfl,by omega⟩,E.ab [0,1,14,15,16],I.sub⟩
 refine RT 2 E I ?_;exact⟨_,rfl,(λh=>by cases h),I.sub⟩
end
end
section
def uK (k:Ks)(T:Tr):Prop:=∀ y∈T.l,(∀ j∈y.al,j.length=k.n)∧jr k.ls (aw k) y.al=true
def pK (T:Tr)(J:Js)(i:Nat):Js:=(T.l.take i).foldl (λJ y=>if y.done<y.al.length then lJ J y.id T.epoch else J) J
def yH (T:Tr)(J:Js):Js:=pK T (kept (λj=>decide (j.2<T.epoch)) J) T.l.length
theorem aaf {T:Tr}{J:Js}{i:Nat}{x:Br}(h:T.l[i]?=some x):pK T J (i+1)=if x.done<x.al.length then lJ (pK T J i) x.id T.epoch else pK T J i:=by
 obtain⟨hi,rfl⟩:=a2.1 h;rw[pK,iZ hi,foldl_append];rfl
theorem Ms {T:Tr}{J:Js}(h:J.length≤16)(i:Nat):(pK T J i).length≤16:=by
 unfold pK;generalize T.l.take i=l
 induction l generalizing J with
 | nil=>exact h
 | cons y l ih =>
  rw[foldl_cons];apply ih;split
  ·exact zS h
  ·exact h
theorem Mt {J:Js}(f:Int×Int→Bool)(h:J.length≤16):(kept f J).length≤16:=fA (length_filter_le _ _) h
theorem aag {ls X:List (List UInt8)}{fr to:Nat}(h:yz to ls X):(∀ j∈m8 X fr to,j.length=ls.length)∧jr ls fr (m8 X fr to)=true:=by
 refine⟨λj hj=>?_,Md λi hi=>Mc λq hq h1=>?_⟩
 ·rw[m8,cV]at hj;obtain⟨i,_,rfl⟩:=hj;rw[m3,h.len]
 ·rw[AY]at hi;have he:(m8 X fr to).getD i []=bI X (fr+i):=by
   rw[m8,bl,bm,getElem?_range hi];rfl
  rw[he,m3]at hq;rw[he];obtain⟨l,hl⟩:∃ l,ls[q]?=some l:=⟨_,aD (by rw[← h.len];exact hq)⟩;obtain⟨x,hx⟩:∃ x,X[q]?=some x:=⟨_,aD hq⟩;obtain⟨⟨t,rfl⟩,_⟩:=h.fit q l x hl hx;have e1:ls.getD q []=l:=by rw[bl,hl];rfl
  rw[e1]at h1 ⊢;rw[bI,bl,bl,bm,hx];show _=((l++t).getD (fr+i) 0);rw[bl,lZ h1]
structure rK (p:Pr)(s:Pl)(t:Nat→Nat)(base:Nat)(A0:Sn)(T0:Tr)(r:Nat)(ws:List Wk)(A:Sn)(T:Tr):Prop where
 inv:Inv p (aw s.k:Int) s.g t base A T ws
 gd:uK s.k T
 room:A.room=A0.room
 n:A.n≤A0.n+r
 last:T.last≤T0.last+r
 most:T.most=T0.most
 rZ:T.epoch=T0.epoch
 add:∃ l,T.l=T0.l++l∧∀ y∈l,y.done=0∧y.al≠[]∧y.al.length=aE s.k-aw s.k
 has:0<r→aw s.k<aE s.k→T.l≠[]
section
variable {p:Pr}{s:Pl}{t:Nat→Nat}{base r i:Nat}{A0 A:Sn}{T0 T:Tr}{ws:List Wk}{P:List (List UInt8)}{px:aC}
theorem rK.skip (h:rK p s t base A0 T0 r ws A T)(hT:aw s.k<aE s.k→T.l≠[]):rK p s t base A0 T0 (r+1) ws A T :=
 ⟨h.inv,h.gd,h.room,Nat.le_succ_of_le h.n,Nat.le_succ_of_le h.last,h.most,h.rZ,h.add,λ_=>hT⟩
theorem rK.push (h:rK p s t base A0 T0 r ws A T)(hA:WF A)(hT:WT T)(hi:A.ar[i]?=some px)(hb:px.id=base)(h0:P≠[])(re:P.length=aE s.k-aw s.k)(hj:∀ j∈P,j.length=s.k.n)(hk:jr s.k.ls (aw s.k) P=true) :
   rK p s t base A0 T0 (r+1) ws (A.add px.g px.p) (T.add (aw s.k:Int) P (A.last+1)):=by
 refine⟨h.inv.Vs hA hT hi hb,λy hy=>?_,h.room,?_,?_,h.most,h.rZ,?_,λ_ _ e=>?_⟩
 ·rcases eN.1 hy with hy | hy
  ·exact h.gd y hy
  ·rw[mem_singleton.1 hy];exact⟨hj,hk⟩
 ·have:=h.n;simp only[Sn.add];omega
 ·have:=h.last;simp only[Tr.add];omega
 ·obtain⟨l,h1,h2⟩:=h.add;refine⟨l++[⟨T.last+1,(aw s.k:Int),P,0,A.last+1⟩],by simp only[Tr.add];rw[h1,du],λy hy=>?_⟩;rcases eN.1 hy with hy | hy
  ·exact h2 y hy
  ·rw[mem_singleton.1 hy];exact⟨rfl,h0,re⟩
 ·simp[Tr.add]at e
end
section
variable {W w:World}{L Z:List SP}{n i tq sq r base front:Nat}{M:jo}{B:iS}{y:UInt8}{x:Br}{p:Pr}{s:Pl}{m:Mu}{A:Sn}{T:Tr}{g0:Nat→Int}{t:Nat→Nat}{px:aC}
theorem aah {frm:Int}{ad2:Option Addr}{c2 id:Nat}{zs:List dX}{P:List (List UInt8)}(I:U W w (Tree tq sq T::ax sq r A::L))(hr:∀ w',U W w' L→hU w' ad2 zs)(hz:zs.map (·.2.2)=P)(hc:P.length≤c2)(dm:nv P)(h0:P≠[])
   (hx:A.ar[i]?=some px) (bZ:px.id=id) (hb:A.n+1<1099511627776) (hl:T.last+1<1099511627776) :
   Calls prog 306 #[pt tq,.int .i64 frm,.int .i64 id,.slice ad2 P.length c2] w λe w'=>∃ (z:Nat) (ok:Bool),e=.returned (.tuple #[.int .i64 z,.bool ok]) ∧
    (((T.most=0∨T.l≠[])∧U W w' (Tree tq sq T::ax sq r A::L))∨U W w' (Tree tq sq (T.add frm P (A.last+1))::ax sq r (A.add px.g px.p)::L)):=by
 by_cases hm:T.l.length<T.most
 ·refine (W1 I hr hz hc dm hx bZ hb hl hm).mono λe w' ⟨z,ok,h1,h2⟩=>⟨z,ok,h1,?_⟩;rcases h2 with ⟨_,h3,h4⟩ | ⟨_,_,_,_,h4⟩
  ·refine .inl ⟨.inr λe=>?_,h4⟩;rcases h3 with h3 | ⟨y,hy,_⟩
   ·exact h0 h3
   ·rw[e]at hy;cases hy
  ·exact .inr h4
 ·refine (IX I (.inl (by omega))).mono λe w' ⟨h1,I⟩=>⟨0,false,h1,.inl ⟨?_,I⟩⟩;rcases Nat.eq_zero_or_pos T.most with h | h
  ·exact .inl h
  ·exact .inr λe=>by rw[e]at hm;simp at hm;omega
theorem aai (I:U W w (aF W M p m::L))(hw:cu p m.s)(hI:Inv p (aw m.s.k:Int) m.s.g t m.base m.A m.T (m.ks.map (·.1)))(fo:m.front=aw m.s.k)(fy:cX M.B.gs)(hB:uK m.s.k m.T)(kv:m.J.length≤16)
   (pH:m.s.k.ct=(m.T.most:Int)) (hn:m.A.n+10<1099511627776) (hl:m.T.last+10<1099511627776) :
   Calls prog 289 #[pt M.mb] w λe w'=>∃ (A':Sn) (T':Tr),e=.returned (.tuple #[])∧rK p m.s t m.base m.A m.T m.T.most (m.ks.map (·.1)) A' T'∧U W w' (aF W M p { m with A:=A',T:=T',J:=yH T' m.J }::L):=by
 have bB:=hw.wc.kY;have eP:=hw.wc.ls;have wN:=hw.wc.n;have hL:m.s.k.ls.length≤8:=by rw[eP];exact wN.2
 have gP:=hw.wc.lv;have jE:aV m.s.k.ls≤aE m.s.k:=hw.wc.m6;obtain⟨mb,B,sq,r,tq,jq,dt,dB,aq,cO⟩:=M;obtain⟨s,A,T,J,ks,base,front⟩:=m;simp only at hw hI fo fy hB kv pH hn hl bB eP wN hL gP jE;subst fo;have Mq:=(Tree.wt ((aF.open I).tree tq)).most.1;replace I:=aF.open I;dsimp only at I Mq;refine EN func289 ntmps289 rfl rfl λa E=>?_;refine CL 6 E I (nG (I.pick (aQ W B p s))) λa w E I=>?_;replace I:=aQ.open I;refine CL 0 E I (K7 (I.pick (az B.core s.k))) λa w E I=>?_;refine RN 0 E I λa E=>?_;refine SS E (HZ E underlying28 rfl underlying3 rfl rfl) λa E=>?_;rw[show (fe s.k).ct=(T.most:Int) from pH]at E;refine RN 1 E I λa E=>?_;replace I:=aQ.fold I B p s;refine aO (λμ a w=>∃ (i:Nat) (A1:Sn) (T1:Tr),(μ=T.most-i∧i≤T.most∧rK p s t base A T i (ks.map (·.1)) A1 T1)∧Fr a 98 [(0,pt mb),(12,.int .i64 T.most),(13,.int .i64 i)]∧U W w (aa mb 177 (dQ p ⟨mb,B,sq,r,tq,jq,dt,dB,aq,cO⟩ ks.length base (aw s.k))::aQ W B p s::aA W p aq cO::Sl 179 1 dt ks.length dB (gO ks)::ah (e4 p aq cO tq jq sq) ks::Tree tq sq T1::ax sq r A1::bH jq J::L)) (T.most) (⟨0,A,T,⟨rfl,by omega,⟨hI,hB,rfl,bd _,bd _,rfl,rfl,⟨[],by simp,λy hy=>by cases hy⟩,λh=>absurd h (by omega)⟩⟩,E.ab [0,12,13],I.sub⟩) ?_;clear E I;rintro μ a w ⟨i,A1,T1,⟨rfl,hi,pL⟩,E,I⟩;refine IF 3 E I (λaj a E=>?_) λaj a E=>?_
 ·
  have hiT:i<T.most:=by omega
  have hAn:=pL.n;have FK:=pL.last;have Ba:=(ax.facts (I.store sq)).1;have rH:=Tree.wt (I.tree tq);obtain⟨aaj,px,hE,kS⟩:=pL.inv.l9 (mem_cons_self ..);refine aX 5 (λw0 w'=>Rd w' mb 0 (dQ p ⟨mb,B,sq,r,tq,jq,dt,dB,aq,cO⟩ ks.length base (aw s.k))) [4,5,9,10,15] [0,1,2,6,7,8,11,12,13,14,3003,3009,3015,1004,1005,1010,1016,1017,1018,19] E I λa w E I hH=>?_;have hC:=hH.at w (I.ai (b:=mb));refine RH 10 E I hH hC λa E=>?_;refine QH E (λw hc=>ae E (hc 0 _ rfl)) hC λa E=>?_;refine QH E (λw hc=>ae E (hc 0 _ rfl)) hC λa E=>?_;refine QH E (λw hc=>ae E (hc 0 _ rfl)) hC λa E=>?_;refine RH 0 E I hH hC λa E=>?_;refine CL 0 E I (nG (I.pick (aQ W B p s))) λa w E I=>?_;replace hC:=hH.at w (I.ai (b:=mb));replace I:=aQ.open I;refine RH 0 E I hH hC λa E=>?_;refine CL 0 E I (oB (I.pick (az B.core s.k))) λa w E I=>?_;replace hC:=hH.at w (I.ai (b:=mb));replace I:=aQ.fold I B p s;refine RH 0 E I hH hC λa E=>?_;refine CL 0 E I (Ma (I.pick (aQ W B p s))) λa w E I=>?_;replace hC:=hH.at w (I.ai (b:=mb));refine RH 0 E I hH hC λa E=>?_;refine CL 0 E I (nG (I.pick (aQ W B p s))) λa w E I=>?_;replace I:=aQ.open I;refine CL 0 E I (s3 (I.pick (az B.core s.k)) hw.wc) λa w E I=>?_;obtain⟨D,I,hD⟩:=az.qu I;refine jN 0 E I (FF (r:=i) (to:=aE s.k) (.inr ZN) (by omega) I fy bB hL hw.wc.m5 gP (λw' dd=>(dd.pick (Sl 5 1 B.adT B.gs.table.length B.cT (bc B.gs.table))).cr B.adT _ rfl rfl)) λfQ gg X a w E ⟨⟨ta,_⟩,I⟩=>?_;replace I:U W w (Qu B.core.qb B.core.aB s.k.ls::D::ca fQ (aE s.k-aV s.k.ls) gg (m8 X (aV s.k.ls) (aE s.k))::_):=I.sub (M:=Qu B.core.qb B.core.aB s.k.ls::D::ca fQ (aE s.k-aV s.k.ls) gg (m8 X (aV s.k.ls) (aE s.k))::aa B.pb 192 (gr p B s.g)::aA W p B.aq B.cO::Sl 5 1 B.adT B.gs.table.length B.cT (bc B.gs.table)::aa mb 177 (dQ p ⟨mb,B,sq,r,tq,jq,dt,dB,aq,cO⟩ ks.length base (aw s.k))::aA W p aq cO::Sl 179 1 dt ks.length dB (gO ks)::ah (e4 p aq cO tq jq sq) ks::Tree tq sq T1::ax sq r A1::bH jq J::L);replace I:=aQ.fold (hD _ _ I) B p s;have re:=AY X (aV s.k.ls) (aE s.k);obtain⟨FR,Mv⟩:=aag (fr:=aV s.k.ls) ta;generalize hPe:m8 X (aV s.k.ls) (aE s.k)=P at I re FR Mv;rw[← re]at E I;obtain⟨zs,cU,eK,I⟩:=ca.open (I.pick (ca fQ P.length gg P));have Bj:=(I.sl fQ).2;replace I:=I.sub (M:=aa mb 177 (dQ p ⟨mb,B,sq,r,tq,jq,dt,dB,aq,cO⟩ ks.length base (aw s.k))::Tree tq sq T1::Sl 22 1 fQ P.length gg (zs.map aK)::ah a7 zs::aQ W B p s::aA W p aq cO::Sl 179 1 dt ks.length dB (gO ks)::ah (e4 p aq cO tq jq sq) ks::ax sq r A1::bH jq J::L);refine RN 1 E I λa E=>?_;refine BY 6 E I (λbW a E=>?_) λbW a E=>?_
  ·
   have ky:¬ aw s.k<aE s.k:=by rw[aw];omega
   refine RN 7 E I λa E=>?_;exact⟨T.most-(i+1),by omega,i+1,A1,T1,⟨rfl,by omega,pL.skip λh=>absurd h ky⟩,E.ab [0,12,13],I.sub⟩
  have Mw:P≠[]:=λe=>by rw[e]at bW;exact bW rfl
  refine bh 2 E I (aad (M:=⟨mb,B,sq,r,tq,jq,dt,dB,aq,cO⟩) (T:=T1) (P:=P) I ⟨zs,cU,λw' h=>U.l7 (h.sub (M:=Sl 22 1 fQ P.length gg (zs.map aK)::ah a7 zs::[]))⟩ (by omega)) λq a w E ⟨hq,I⟩=>?_;refine IF 1 E I (λao a E=>?_) λao a E=>?_
  ·
   refine RN 2 E I λa E=>?_;exact⟨T.most-(i+1),by omega,i+1,A1,T1,⟨rfl,by omega,pL.skip λ_=>hq ao⟩,E.ab [0,12,13],I.sub⟩
  refine bP 0 [7,11] [0,1,2,4,5,6,8,9,10,12,3003,3007,1011,1013] E I λa w E I hH hC=>?_;refine RH 13 E I hH hC λa E=>?_;refine aY 0 E I (aah (i:=aaj) (px:=px) (id:=base) (P:=P) (zs:=zs) ((I.store sq).tree tq) (λw' h=>U.l7 (h.sub (M:=Sl 22 1 fQ P.length gg (zs.map aK)::ah a7 zs::[]))) cU Bj ⟨by omega,λb hb=>by have:=FR b hb;omega⟩ Mw hE kS (by omega) (by omega)) λz ok a w E aak=>?_;obtain⟨A2,T2,aal,I⟩:∃ (A2:Sn) (T2:Tr),rK p s t base A T (i+1) (ks.map (·.1)) A2 T2∧U W w (aa mb 177 (dQ p ⟨mb,B,sq,r,tq,jq,dt,dB,aq,cO⟩ ks.length base (aw s.k))::aQ W B p s::aA W p aq cO::Sl 179 1 dt ks.length dB (gO ks)::ah (e4 p aq cO tq jq sq) ks::Tree tq sq T2::ax sq r A2::bH jq J::L):=by
   rcases aak with ⟨th,I⟩ | I
   ·exact⟨A1,T1,pL.skip λ_=>th.resolve_left (by rw[pL.most];omega),I.sub⟩
   ·exact⟨_,_,pL.push Ba rH hE kS Mw re (λj hj=>by rw[FR j hj,eP]) Mv,I.sub⟩
  refine RN 2 E I λa E=>?_;exact⟨T.most-(i+1),by omega,i+1,A2,T2,⟨rfl,by omega,aal⟩,E.ab [0,12,13],I.sub⟩
 refine aX 1 (λw0 w'=>Rd w' mb 0 (dQ p ⟨mb,B,sq,r,tq,jq,dt,dB,aq,cO⟩ ks.length base (aw s.k))) [7,8] [0,1,2,4,5,6,3003,1007,1008,1009] E I λa w E I hH=>?_;have hC:=hH.at w (I.ai (b:=mb));refine RH 6 E I hH hC λa E=>?_;refine QH E (λw hc=>ae E (hc 5 _ rfl)) hC λa E=>?_;refine RH 0 E I hH hC λa E=>?_;refine SS E (ae E (hC 4 _ rfl)) λa E=>?_;refine RH 0 E I hH hC λa E=>?_;refine CL 0 E I (zJ (I.tree tq)) λa w E I=>?_;replace hC:=hH.at w (I.ai (b:=mb));refine RH 0 E I hH hC λa E=>?_;refine CL 0 E I (Vi (I.tX jq) kv) λa w E I=>?_;change U W w (bH jq (pK T1 (kept (λj=>decide (j.2<(T1.epoch:Int))) J) 0)::_) at I;refine aY 5 E I (zK (I.tree tq)) λtg qB a w E I=>?_;obtain⟨xs,h1,h2,I⟩:=kM.open I;have bV:xs.length=T1.l.length:=by rw[← h1,a8]
 have rH:=Tree.wt (I.tree tq);have hT8:=rH.most;obtain rfl:i=T.most:=by omega
 have hJ0:=Mt (λj=>decide (j.2<(T1.epoch:Int))) kv;refine RN 2 E I λa E=>?_;refine aO (λμ a w=>∃ (v:Nat),(μ=T1.l.length-v∧v≤T1.l.length)∧Fr a 98 [(0,pt mb),(72,.slice tg T1.l.length qB),(73,.int .i64 T1.l.length),(74,.int .i64 v)]∧U W w (bH jq (pK T1 (kept (λj=>decide (j.2<(T1.epoch:Int))) J) v)::Sl 238 5 tg T1.l.length qB (rows c5 xs)::ah bX xs::aa mb 177 (dQ p ⟨mb,B,sq,r,tq,jq,dt,dB,aq,cO⟩ ks.length base (aw s.k))::aQ W B p s::aA W p aq cO::Sl 179 1 dt ks.length dB (gO ks)::ah (e4 p aq cO tq jq sq) ks::Tree tq sq T1::ax sq r A1::L)) (T1.l.length) (⟨0,⟨rfl,by omega⟩,E.ab [0,72,73,74],I.sub⟩) ?_;clear E I;rintro μ a w ⟨v,⟨xL,hv⟩,E,I⟩;refine IF 3 E I (λay a E=>?_) λay a E=>?_
 ·
  obtain⟨b',dC,rfl,c4⟩:=I.bU tg (by omega);obtain⟨⟨x,eB,c8⟩,dS⟩:∃ y,xs[v]?=some y:=⟨_,aD (by omega)⟩;have fN:=nX c4 dS;have jd:T1.l[v]?=some x:=by rw[← h1,bm,dS];rfl
  have sM:=aaf (J:=kept (λj=>decide (j.2<(T1.epoch:Int))) J) jd;have hj6:=Ms hJ0 (T:=T1) v;refine RN 3 E I λa E=>?_;refine SS E (bR E underlying238 rfl Ty.t238 (fN)) λa E=>?_;refine AL 0 E I λb5 a w E I=>?_;refine SA 0 E I λa w E I=>?_;refine IF 7 E I (λbk a E=>?_) λbk a E=>?_
  ·
   rw[ak (by omega)]at sM;refine aX 0 (λw0 w'=>Rd w' mb 0 (dQ p ⟨mb,B,sq,r,tq,jq,dt,dB,aq,cO⟩ ks.length base (aw s.k))∧Rd w' b5 0 (cc x eB c8)) [5,9,10,11] [0,1,2,4,6,7,8,3003,3005,1009,1010,1011,1012] E I λa w E I hH=>?_;have hC:=hH.at w ⟨I.ai (b:=mb),I.ai (b:=b5)⟩;refine RH 7 E I hH hC λa E=>?_;refine QH E (λw hc=>ae E (hc.1 5 _ rfl)) hC λa E=>?_;refine QH E (λw hc=>ae E (hc.2 0 _ rfl)) hC λa E=>?_;refine RH 0 E I hH hC λa E=>?_;refine SS E (ae E (hC.1 4 _ rfl)) λa E=>?_;refine RH 0 E I hH hC λa E=>?_;refine CL 0 E I (zJ (I.tree tq)) λa w E I=>?_;replace hC:=hH.at w ⟨I.ai (b:=mb),I.ai (b:=b5)⟩;refine RH 1 E I hH hC λa E=>?_;refine CL 0 E I (zO (I.tX jq) hj6) λa w E I=>?_;change U W w (bH jq (lJ (pK T1 (kept (λj=>decide (j.2<(T1.epoch:Int))) J) v) x.id T1.epoch)::_) at I;refine RN 2 E I λa E=>?_;exact⟨T1.l.length-(v+1),by omega,v+1,⟨rfl,by omega⟩,E.ab [0,72,73,74],by rw[sM];exact I.sub⟩
  rw[ag (by omega)]at sM;refine RN 2 E I λa E=>?_;exact⟨T1.l.length-(v+1),by omega,v+1,⟨rfl,by omega⟩,E.ab [0,72,73,74],by rw[sM];exact I.sub⟩
 refine RT 0 E I ?_;obtain rfl:v=T1.l.length:=by omega
 rw[show pK T1 (kept (λj=>decide (j.2<(T1.epoch:Int))) J) T1.l.length=yH T1 J from rfl]at I;exact⟨A1,T1,rfl,pL,(aF.fold I ⟨mb,B,sq,r,tq,jq,dt,dB,aq,cO⟩ p ⟨s,A1,T1,yH T1 J,ks,base,aw s.k⟩).sub⟩
structure FT (p:Pr)(m m':Mu)(t':Nat→Nat):Prop where
 inv:Inv p (aw m.s.k:Int) m.s.g t' m'.base m'.A m'.T (m'.ks.map (·.1))
 s:m'.s=m.s
 front:m'.front=aw m.s.k
 gd:uK m.s.k m'.T
 J:m'.J.length≤16
 room:m'.A.room=m.A.room
 n:m'.A.n≤m.A.n+9
 last:m'.T.last≤m.T.last+8
 most:m'.T.most=m.T.most
 rZ:m'.T.epoch≤m.T.epoch+3
 ks:m'.ks.length=m.ks.length
 has:0<m.T.most→aw m.s.k<aE m.s.k→m'.T.l≠[]
 tX:m'.J=yH m'.T m.J
 ab:m.front=aw m.s.k→(∀ y∈m.T.l,jr m.s.k.ls (aw m.s.k) y.al=true)→m'.ks=m.ks∧m'.T.epoch=m.T.epoch∧∃ l,m'.T.l=m.T.l++l∧∀ y∈l,y.done=0∧y.al≠[]∧y.al.length=aE m.s.k-aw m.s.k
theorem aam (I:U W w (aF W M p m::L))(ck:m.s.k.cl=true) :
   Calls prog 271 #[pt M.mb] w λe w'=>e=.returned (.tuple #[])∧U W w' (aF W M p m::L):=by
 refine EN func271 ntmps271 rfl rfl λa E=>?_;refine RN 5 E I λa E=>?_;replace E:=E.aM 4;refine CL 1 E I (yF I) λa w E I=>?_;rw[ck]at E;refine RN 1 E I λa E=>?_;replace E:=E.eg 7;refine RT 1 E I ?_;exact⟨rfl,I⟩
theorem aan (I:U W w (aF W M p m::L))(hw:cu p m.s)(hg:dO m.s.g)(ck:m.s.k.cl=false)(hI:Inv p (m.front:Int) g0 t m.base m.A m.T (m.ks.map (·.1)))(fo:m.front=aw m.s.k→g0=m.s.g)
   (fy:cX M.B.gs) (eh:∀ y∈m.T.l,∀ j∈y.al,j.length=m.s.k.n) (kv:m.J.length≤16) (pH:m.s.k.ct=(m.T.most:Int))
   (he:m.T.epoch+10<1099511627776) (hn:m.A.n+20<1099511627776) (hl:m.T.last+20<1099511627776) (h4:m.ks.length≤4) (qx:12≤m.A.room) :
   Calls prog 271 #[pt M.mb] w λe w'=>∃ (m':Mu) (t':Nat→Nat),e=.returned (.tuple #[])∧FT p m m' t'∧U W w' (aF W M p m'::L):=by
 have gP:=hw.wc.lv;have jE:=hw.wc.m6;refine EN func271 ntmps271 rfl rfl λa E=>?_;refine RN 5 E I λa E=>?_;replace E:=E.aM 4;refine CL 1 E I (yF I) λa w E I=>?_;rw[ck]at E;refine RN 1 E I λa E=>?_;replace E:=E.aM 7;refine aY 3 E I (ZY I hw hg hI fo (by omega) (by omega) h4 qx) λMy t1 a w E ⟨hM,I⟩=>?_;refine RN 0 E I λa E=>?_;obtain⟨s1,A1,T1,afq,k0,Mz,afr⟩:=My;obtain⟨wL,e1,e2,e3,e8,m2,kL,gL,gy,gX,MA,kz⟩:=hM;simp only at wL e1 e2 e3 e8 m2 kL gL gy gX MA kz;subst e1 e2 e3;have MB:∀ y∈T1.l,∀ j∈y.al,j.length=m.s.k.n:=by
  rcases MA with ⟨e,_⟩ | e
  ·rw[e];exact eh
  ·rw[e];intro y hy;cases hy
 have kT:=Tree.wt ((aF.open I).tree M.tq);have MC:=(ax.facts ((aF.open I).store M.sq)).1;dsimp only at kT MC;replace I:=aF.open I;dsimp only at I;refine jO 7 E I (Me (kp:=λx=>jr m.s.k.ls (aw m.s.k) x.al) (ws:=[pt M.mb]) ((I.store M.sq).tree M.tq) (by omega) (by kernel_rfl) (λN w' x av c' A8 h1 hN hx _ dm=>by
  have ph:=hN.h;obtain⟨K,hp⟩:=ph;have hW:=hp.trans List.perm_append_comm;have hof:=dm.1;have yA:=(wL.gd x A8).1;refine (aac (M:=M) (Z:=aA W p M.aq M.cO::Sl 179 1 M.dt k0.length M.dB (gO k0)::ah (e4 p M.aq M.cO M.tq M.jq M.sq) k0::bH M.jq m.J::(L++K)) (h1.perm hW) hw (hx.imp λzs h=>⟨h.1,λnx h2=>h.2 _ (h2.perm hW.symm)⟩) yA (MB x A8) (by omega)).mono λe nx ⟨h3,h4⟩=>⟨h3,h4.perm hW.symm⟩)) ?_
 clear E I;rintro e w ⟨⟨_,rfl⟩,I⟩;refine⟨_,rfl,λa E=>?_⟩;have oG:=wL.cut MC (λx=>!jr m.s.k.ls (aw m.s.k) x.al);have tf:=A7 (T1.l.filter λx=>!jr m.s.k.ls (aw m.s.k) x.al) A1;have MD:uK m.s.k (T1.cut λx=>!jr m.s.k.ls (aw m.s.k) x.al):=λy hy=>by
  obtain⟨h1,h2⟩:=List.mem_filter.1 hy;exact⟨MB y h1,by simpa using h2⟩
 have yG:(T1.cut λx=>!jr m.s.k.ls (aw m.s.k) x.al).epoch≤T1.epoch+1:=by simp only[Tr.cut];split <;> omega
 have jX:(∀ y∈T1.l,jr m.s.k.ls (aw m.s.k) y.al=true)→(T1.cut λx=>!jr m.s.k.ls (aw m.s.k) x.al).l=T1.l∧(T1.cut λx=>!jr m.s.k.ls (aw m.s.k) x.al).epoch=T1.epoch:=λh=>by
  have h1:T1.l.filter (λx=>!!jr m.s.k.ls (aw m.s.k) x.al)=T1.l:=List.filter_eq_self.2 λy hy=>by rw[h y hy];rfl
  simp only[Tr.cut,h1];exact⟨trivial,by rw[ag (Nat.lt_irrefl _)];rfl⟩
 have Bb:(T1.cut λx=>!jr m.s.k.ls (aw m.s.k) x.al).most=T1.most∧(T1.cut λx=>!jr m.s.k.ls (aw m.s.k) x.al).last=T1.last:=⟨rfl,rfl⟩;generalize (T1.cut λx=>!jr m.s.k.ls (aw m.s.k) x.al)=T2 at I oG MD yG Bb jX;generalize A1.gN (T1.l.filter λx=>!jr m.s.k.ls (aw m.s.k) x.al)=A2 at I oG tf;replace I:=aF.fold I M p ⟨m.s,A2,T2,m.J,k0,Mz,aw m.s.k⟩;refine aY 1 E I (aai I hw oG rfl fy MD kv (by dsimp only;rw[Bb.1,gL];exact pH) (by dsimp only;omega) (by dsimp only;omega)) λA3 T3 a w E ⟨pL,I⟩=>?_;refine RT 0 E I ?_;obtain⟨df,dc,a3,a4,a5,ME,MF,rJ,a9⟩:=pL;have h8:=kT.most.1;dsimp only at *;exact⟨⟨m.s,A3,T3,yH T3 m.J,k0,Mz,aw m.s.k⟩,t1,rfl,⟨df,rfl,rfl,dc,Ms (Mt _ kv) _,by simp only;omega,by simp only;omega,by simp only;omega,by simp only;omega,by simp only;omega,gX,λh1 h2=>a9 (by omega) h2,rfl,λe h=>by
  obtain⟨q1,q2,Ap⟩:=kz e;obtain⟨Ek,J4⟩:=jX (by rw[q1];exact h);obtain⟨l,aao,aap⟩:=rJ;refine⟨Ap,by rw[MF,J4,q1],l,by rw[aao,Ek,q1],aap⟩⟩,I⟩
end
end
section
structure lB (p:Pr)(s s':Pl):Prop where
 wf:cu p s'
 rC:aw s'.k=aw s.k→s'.g=s.g
 cf:fe s'.k=fe s.k
 ls:s'.k.cl=true→s'.k.ls=s.k.ls
section
variable {p:Pr}{s:Pl}{k:Ks}{x:UInt8}{bs:List UInt8}
theorem lB.mk' {k':Ks}(h:cu p s)(hw:WC k')(hh:held k')(hm:k'.mr=s.k.mr)(he:Ext s.k.ls k'.ls)(c9:fe k'=fe s.k)(hl:k'.cl=true→k'.ls=s.k.ls):lB p s (et p ⟨k',s.g⟩):=by
 have h1:=h.toWP.more hw hh hm he;obtain⟨h2,h3,ps,ev,mr,h4⟩:=h1.et;refine⟨h2,λhf=>?_,?_,λhc=>?_⟩
 ·have e1:(et p ⟨k',s.g⟩).g=lx p k'.ls (aw s.k):=by rw[h2.rC,h2.full,hf,h3]
  have e2:s.g=lx p s.k.ls (aw s.k):=by have:=h.rC;rwa [h.full]at this
  exact e1.trans ((he.lx (bd _)).trans e2.symm)
 ·rw[h4];exact c9
 ·rw[h3];rw[h4]at hc;exact hl hc
theorem MG:fe (cZ x k).2=fe k∧((cZ x k).2.cl=true→(cZ x k).2.ls=k.ls):=by
 by_cases h0:(cZ x k).1=0
 ·obtain⟨h1,h2,h3,h4⟩:=uy h0;rw[h4];exact⟨rfl,λhc=>by rw[show k.cl=true from hc]at h1;cases h1⟩
 ·rw[uz h0];exact⟨rfl,λ_=>rfl⟩
theorem aaq {q:Pk}(h:k.cl=false):fe (fP k q)=fe k∧((fP k q).cl=true→(fP k q).ls=k.ls):=by
 unfold fP;split
 ·exact⟨rfl,λ_=>rfl⟩
 ·obtain⟨ps,ev,h1,_⟩:=wu { k with ls:=k.ls.set q.aW.toNat (dr (k.ls.getD q.aW.toNat []) q.first.toNat q.al),ps:=k.ps.set q.aW.toNat (fO k.now (aE k) q (au k q.aW.toNat)) };rw[h1];exact⟨rfl,λhc=>by rw[show k.cl=true from hc]at h;cases h⟩
theorem MH:fe (dx bs k).2=fe k∧((dx bs k).2.cl=true→(dx bs k).2.ls=k.ls):=by
 by_cases h0:(dx bs k).1=0
 ·obtain⟨q,h1,h2,h3,h4,h5,h6⟩:=AN h0;rw[h6];exact aaq h2
 ·rw[wx h0];exact⟨rfl,λ_=>rfl⟩
theorem lB.al (h:cu p s)(x:UInt8):lB p s (dF p x s).2:=lB.mk' h (h.wc.al x) (h.held.al x) (uA x s.k).1 (uA x s.k).2 MG.1 MG.2
theorem lB.recv (h:cu p s)(bs:List UInt8):lB p s (dG p bs s).2:=lB.mk' h (h.wc.recv bs).1 ((h.wc.recv bs).2 h.held) (rD bs s.k).1 (rD bs s.k).2 MH.1 MH.2
end
structure MI (p:Pr)(M:jo)(N:Nat)(m:Mu):Prop where
 wf:cu p m.s
 gs:cX M.B.gs
 front:m.front=aw m.s.k
 inv:∃ t,Inv p (aw m.s.k:Int) m.s.g t m.base m.A m.T (m.ks.map (·.1))
 gd:uK m.s.k m.T
 J:m.J.length≤16
 most:m.s.k.ct=(m.T.most:Int)
 workers:m.s.k.workers=(m.ks.length:Int)
 ks:m.ks.length≤4
 room:(m.A.room:Int)=4*m.s.k.room∧12≤m.A.room
 n:m.A.n≤N∧m.T.last≤N∧m.T.epoch≤N
section
variable {W w:World}{L:List SP}{n c N front:Nat}{ad:Option Addr}{M:jo}{B:iS}{x:UInt8}{p:Pr}{s s':Pl}{m:Mu}{bs:List UInt8}{cf:Cf}{g0:Nat→Int}{t:Nat→Nat}
theorem MI.more {N':Nat}(h:MI p M N m)(hN:N≤N'):MI p M N' m:={ h with n:=⟨fA h.n.1 hN,fA h.n.2.1 hN,fA h.n.2.2 hN⟩ }
theorem MI.same (h:MI p M N m)(hw:cu p s')(hg:s'.g=m.s.g)(hl:s'.k.ls=m.s.k.ls)(hc:fe s'.k=fe m.s.k):MI p M N { m with s:=s' }:=by
 have hf:aw s'.k=aw m.s.k:=by rw[aw,aw,hl]
 simp only[fe,Cf.mk.injEq]at hc;obtain⟨eM,c2,dD,hs,dE,nZ,qV,rv,FU,zV⟩:=hc;have hn:s'.k.n=m.s.k.n:=by omega
 exact { wf:=hw,gs:=h.gs,front:=by rw[hf];exact h.front,inv:=by obtain⟨t,ht⟩:=h.inv;exact⟨t,by rw[hf,hg];exact ht⟩,gd:=λy hy=>by rw[hn,hl,hf];exact h.gd y hy,J:=h.J,most:=by rw[rv];exact h.most,workers:=by rw[FU];exact h.workers,ks:=h.ks,room:=by rw[zV];exact h.room,n:=h.n }
theorem MJ (I:U W w (aF W M p { m with s:=s' }::L))(h:MI p M N m)(hx:lB p m.s s')(a6:di p)(hN:N≤1000000000000) :
   Calls prog 271 #[pt M.mb] w λe w'=>∃ m':Mu,e=.returned (.tuple #[])∧(m'.s=s'∧MI p M (N+20) m'∧(s'.k.cl=false→∃ t',FT p { m with s:=s' } m' t'))∧U W w' (aF W M p m'::L):=by
 obtain⟨m2,pg,hn3⟩:=h.n;have hc:=hx.cf;cases ck:s'.k.cl with
 | true =>
  have hl:=hx.ls ck;refine (aam I ck).mono λe w' ⟨he,I⟩=>⟨_,he,⟨rfl,(h.same hx.wf (hx.rC (by rw[aw,aw,hl])) hl hc).more (by omega),λe=>(by cases e)⟩,I⟩
 | false =>
  obtain⟨t,ht⟩:=h.inv;simp only[fe,Cf.mk.injEq]at hc;obtain⟨eM,c2,dD,hs,dE,nZ,qV,rv,FU,zV⟩:=hc;have hn:s'.k.n=m.s.k.n:=by omega
  refine (aan (g0:=m.s.g) (t:=t) I hx.wf (hx.wf.pD a6) ck (by rw[← h.front]at ht;exact ht) (λe=>(hx.rC (by rw[← h.front];exact e.symm)).symm) h.gs (λy hy j hj=>by dsimp only;rw[hn];exact (h.gd y hy).1 j hj) h.J (by dsimp only;rw[rv];exact h.most) (by dsimp only;omega) (by dsimp only;omega) (by dsimp only;omega) h.ks h.room.2).mono λe w' ⟨m',t',he,hr,I⟩=>⟨m',he,⟨hr.s,?_,λ_=>⟨t',hr⟩⟩,I⟩;obtain⟨df,dc,a3,a4,a5,ME,MF,rJ,a9,b1,b2,b3,b4,b5⟩:=hr;dsimp only at *;exact { wf:=by rw[dc];exact hx.wf,gs:=h.gs,front:=by rw[dc];exact a3,inv:=⟨t',by rw[dc];exact df⟩,gd:=by rw[dc];exact a4,J:=a5,most:=by rw[dc,rv,a9];exact h.most,workers:=by rw[dc,FU,b2];exact h.workers,ks:=by rw[b2];exact h.ks,room:=by rw[dc,zV,ME];exact h.room,n:=⟨by omega,by omega,by omega⟩ }
theorem aar (I:U W w (aF W M p m::L))(h:MI p M N m)(a6:di p)(aG:p.title.size≤1000000000)(hN:N≤1000000000000) :
   Calls prog 267 #[pt M.mb,.int .u8 (x.toNat:Nat)] w λe w'=>∃ m':Mu,e=.returned (.int .i64 (dF p x m.s).1)∧(m'.s=(dF p x m.s).2∧MI p M (N+20) m'∧((dF p x m.s).2.k.cl=false→∃ t',FT p { m with s:=(dF p x m.s).2 } m' t'))∧U W w' (aF W M p m'::L):=by
 refine EN func267 ntmps267 rfl rfl λa E=>?_;refine CL 4 E I (td I) λa w E I=>?_;refine RN 1 E I λa E=>?_;replace I:=aF.open I;refine CL 0 E I (LS (I.pick (aQ W M.B p m.s)) h.wf a6 aG) λa w E I=>?_;replace I:=aF.fold I M p { m with s:=(dF p x m.s).2 };refine bh 3 E I (MJ I h (lB.al h.wf x) a6 hN) λm' a w E ⟨hm,I⟩=>?_;refine RT 3 E I ?_;exact⟨m',rfl,hm,I⟩
theorem aas (I:U W w (aF W M p m::L))(h:MI p M N m)(a6:di p)(aG:p.title.size≤1000000000)(hN:N≤1000000000000)(hb:bs.length≤65536)(hc:bs.length≤c)(hp:∀ w',U W w' L→aT w' ad bs.length bs) :
   Calls prog 269 #[pt M.mb,.slice ad bs.length c] w λe w'=>∃ m':Mu,e=.returned (.int .i64 (dG p bs m.s).1)∧(m'.s=(dG p bs m.s).2∧MI p M (N+20) m')∧U W w' (aF W M p m'::L):=by
 refine EN func269 ntmps269 rfl rfl λa E=>?_;refine CL 4 E I (td I) λa w E I=>?_;refine RN 1 E I λa E=>?_;replace I:=aF.open I;refine CL 0 E I (LU (bs:=bs) (I.pick (aQ W M.B p m.s)) h.wf a6 aG hb hc (λw' hw=>hp w' hw.sub)) λa w E I=>?_;replace I:=aF.fold I M p { m with s:=(dG p bs m.s).2 };refine bh 3 E I (MJ I h (lB.recv h.wf bs) a6 hN) λm' a w E ⟨⟨gL,kc,_⟩,I⟩=>?_;refine RT 3 E I ?_;exact⟨m',rfl,⟨gL,kc⟩,I⟩
end
end
section
theorem FV (k:Ks):fe (bo k).2=fe k:=by
 rcases wz k with h1 | ⟨hc,h1 | ⟨i,hi,h1⟩⟩ <;> rw[h1] <;> rfl
theorem FW (k:Ks):fe (cx k).2=fe k:=by
 unfold cx;split <;> rfl
section
variable {W w:World}{L:List SP}{n c i N tq sq r base front:Nat}{ad:Option Addr}{M:jo}{B:iS}{p:Pr}{s:Pl}{m:Mu}{A:Sn}{T:Tr}{t:Nat→Nat}{px:aC}{y:Int}
theorem aat (I:U W w (aF W M p m::L))(h:MI p M N m)(oV:m.s.k.now≤1000000):Calls prog 270 #[pt M.mb] w λr w'=>∃ ad c,r=.returned (.slice ad (bo m.s.k).1.length c)∧MI p M N { m with s:=⟨(bo m.s.k).2,m.s.g⟩ } ∧
   U W w' (ch 124 ad (bo m.s.k).1.length c (bo m.s.k).1::aF W M p { m with s:=⟨(bo m.s.k).2,m.s.g⟩ }::L):=by
 refine EN func270 ntmps270 rfl rfl λa E=>?_;refine CL 4 E I (td I) λa w E I=>?_;replace I:=aF.open I;refine aY 0 E I (LV (I.pick (aQ W M.B p m.s)) h.wf oV) λad c a w E I=>?_;refine RT 1 E I ?_;exact⟨ad,c,rfl,h.same h.wf.tick rfl (AP _).2 (FV _),(aF.fold I M p { m with s:=⟨(bo m.s.k).2,m.s.g⟩ }).sub⟩
theorem aau (I:U W w (aF W M p m::L))(h:MI p M N m):Calls prog 268 #[pt M.mb] w λr w'=>∃ ad c,r=.returned (.slice ad (cx m.s.k).1.length c)∧MI p M N { m with s:=⟨(cx m.s.k).2,m.s.g⟩ } ∧
   U W w' (ch 124 ad (cx m.s.k).1.length c (cx m.s.k).1::aF W M p { m with s:=⟨(cx m.s.k).2,m.s.g⟩ }::L):=by
 refine EN func268 ntmps268 rfl rfl λa E=>?_;refine CL 4 E I (td I) λa w E I=>?_;replace I:=aF.open I;refine aY 0 E I (LW (I.pick (aQ W M.B p m.s)) h.wf) λad c a w E I=>?_;refine RT 1 E I ?_;exact⟨ad,c,rfl,h.same h.wf.ow rfl (E2 _).2 (FW _),(aF.fold I M p { m with s:=⟨(cx m.s.k).2,m.s.g⟩ }).sub⟩
theorem aav (I:U W w (aF W M p m::L))(h:MI p M N m):Calls prog 266 #[pt M.mb] w λr w'=>∃ ad c,r=.returned (.slice ad m.s.k.ev.length c)∧MI p M N { m with s:=⟨{ m.s.k with ev:=[] },m.s.g⟩ } ∧
   U W w' (Sl 135 1 ad m.s.k.ev.length c (m.s.k.ev.map cA)::aF W M p { m with s:=⟨{ m.s.k with ev:=[] },m.s.g⟩ }::L):=by
 refine EN func266 ntmps266 rfl rfl λa E=>?_;refine CL 4 E I (td I) λa w E I=>?_;replace I:=aF.open I;refine aY 0 E I (LX (I.pick (aQ W M.B p m.s))) λad c a w E I=>?_;refine RT 1 E I ?_;exact⟨ad,c,rfl,h.same h.wf.told rfl rfl rfl,(aF.fold I M p { m with s:=⟨{ m.s.k with ev:=[] },m.s.g⟩ }).sub⟩
theorem aaw (I:U W w (aF W M p m::L))(h:MI p M N m):Calls prog 264 #[pt M.mb] w λr w'=>∃ ad c,r=.returned (.tuple #[.slice ad 128 c,.int .i64 (ly m.s).2])∧U W w' (Sl 5 1 ad 128 c (bc (ly m.s).1)::aF W M p m::L):=by
 have bB:=h.wf.wc.kY;have hL:m.s.k.ls.length≤8:=by rw[h.wf.wc.ls];exact h.wf.wc.n.2
 obtain⟨t,hI⟩:=h.inv;obtain⟨i,px,hE,kS⟩:=hI.l9 (mem_cons_self ..);have sJ:=(hI.base px (bG hE) kS).1;replace I:=aF.open I;rw[h.front]at I;refine EN func264 ntmps264 rfl rfl λa E=>?_;refine aX 5 (λw0 w'=>Rd w' M.mb 0 (dQ p M m.ks.length m.base (aw m.s.k))) [8,9,10] [0,1,2,3,4,5,7,3006,1008,1009,1010,11,12] E I λa w E I hH=>?_;have hC:=hH.at w (I.ai (b:=M.mb));refine RH 3 E I hH hC λa E=>?_;replace E:=E.aM 6;refine RH 4 E I hH hC λa E=>?_;refine QH E (λw hc=>ae E (hc 8 _ rfl)) hC λa E=>?_;rw[← h.front]at I;replace I:=aF.fold I M p m;refine RH 0 E I hH hC λa E=>?_;refine CL 0 E I (A6 I) λa w E I=>?_;replace hC:=hH.at w (by have h9:=(aF.open I).ai (b:=M.mb);rw[h.front]at h9;exact h9);replace I:=aQ.open ((aF.open I).pick (aQ W M.B p m.s));rw[h.front]at I;refine RH 0 E I hH hC λa E=>?_;refine CL 0 E I (oB (I.pick (az M.B.core m.s.k))) λa w E I=>?_;replace hC:=hH.at w (I.ai (b:=M.mb));obtain⟨D,I,hD⟩:=az.qu I;refine RH 0 E I hH hC λa E=>?_;refine CL 0 E I (rA I bB hL) λa w E I=>?_;replace hC:=hH.at w (I.ai (b:=M.mb));refine RH 1 E I hH hC λa E=>?_;rw[show decide (((aw m.s.k:Nat):Int)≠((aV m.s.k.ls:Nat):Int))=false from Jf]at E;refine RH 1 E I hH hC λa E=>?_;replace I:=aQ.fold (hD _ _ I) M.B p m.s;rw[← h.front]at I;replace I:=aF.fold I M p m;replace E:=E.aM 16;refine RN 2 E I λa E=>?_;replace I:=aF.open I;refine aX 0 (λw0 w'=>Rd w' M.mb 0 (dQ p M m.ks.length m.base m.front)) [5,6,10,11] [0,1,2,3,7,8,9,3004,3010,1005,1006,1011,12] E I λa w E I hH=>?_;have hC:=hH.at w (I.ai (b:=M.mb));refine RH 7 E I hH hC λa E=>?_;refine QH E (λw hc=>ae E (hc 7 _ rfl)) hC λa E=>?_;refine QH E (λw hc=>ae E (hc 8 _ rfl)) hC λa E=>?_;replace I:=aF.fold I M p m;refine RH 0 E I hH hC λa E=>?_;refine CL 0 E I (FJ I hE kS) λa w E I=>?_;replace hC:=hH.at w ((aF.open I).ai (b:=M.mb));refine RH 0 E I hH hC λa E=>?_;refine aY 0 E I (yh I) λad c a w E I=>?_;replace hC:=hH.at w ((aF.open I.tail).ai (b:=M.mb));refine RH 2 E I hH hC λa E=>?_;refine RT 0 E I ?_;rw[sJ]at I;exact⟨ad,c,by rw[h.front];rfl,I⟩
theorem aax (I:U W w (aF W M p m::L))(hc:m.s.k.cl=true∨y<0∨(m.ks.length:Int)≤y)(h4:m.ks.length≤4) :
   Calls prog 62 #[pt M.mb,.int .i64 y] w λe w'=>e=.returned (.bool false)∧U W w' (aF W M p m::L):=by
 refine EN func62 ntmps62 rfl rfl λa E=>?_;refine RN 7 E I λa E=>?_;replace E:=E.aM 7;refine CL 1 E I (yF I) λa w E I=>?_;replace I:=aF.open I;refine BY 2 E I (λjV a E=>?_) λjV a E=>?_
 ·
  refine RT 15 E I ?_;exact⟨rfl,aF.fold I M p m⟩
 refine BY 4 E I (λlI a E=>?_) λlI a E=>?_
 ·
  refine RT 11 E I ?_;exact⟨rfl,aF.fold I M p m⟩
 refine IF 8 E I (λaj a E=>?_) λaj a E=>?_
 ·
  refine RT 2 E I ?_;exact⟨rfl,aF.fold I M p m⟩
 exact absurd hc (by rintro (h | h | h) <;> first | omega | (rw[h]at jV;cases jV))
theorem zT.brI {k:Ks}{J J':Js}{A A':Sn}{T T':Tr}(hn:zT A T J A' T' J')(h:uK k T):uK k T':=by
 intro y hy;have h1:(y.id,y.al)∈T'.l.map (λy=>(y.id,y.al)):=cV.2 ⟨y,hy,rfl⟩;rw[hn.l]at h1;obtain⟨z,hz,he⟩:=cV.1 h1;have h2:=h z hz;rw[(Prod.mk.inj he).2]at h2;exact h2
theorem aay {k:Wk}{wb:Nat}(I:U W w (aF W M p m::L))(h:MI p M N m)(ck:m.s.k.cl=false)(hk:m.ks[i]?=some (k,wb))(a6:di p)(aG:p.title.size≤1000000000)(hN:N≤1000000000000) :
   Calls prog 62 #[pt M.mb,.int .i64 i] w λe w'=>∃ (z:Bool) (A':Sn) (T':Tr) (J':Js) (k':Wk),e=.returned (.bool z)∧(lh p m.A m.T m.J k z A' T' J' k'∧MI p M (N+1) { m with A:=A',T:=T',J:=J',ks:=m.ks.set i (k',wb) }) ∧
    U W w' (aF W M p { m with A:=A',T:=T',J:=J',ks:=m.ks.set i (k',wb) }::L):=by
 have aH:=(a2.1 hk).1;have h4:=h.ks;obtain⟨t,hI⟩:=h.inv;obtain⟨m2,pg,hn3⟩:=h.n;have jE:=h.wf.wc.m6;have gP:=h.wf.wc.lv;refine EN func62 ntmps62 rfl rfl λa E=>?_;refine RN 7 E I λa E=>?_;replace E:=E.aM 7;refine CL 1 E I (yF I) λa w E I=>?_;rw[ck]at E;refine RN 2 E I λa E=>?_;replace E:=E.aM 11;refine RN 4 E I λa E=>?_;replace I:=aF.open I;replace E:=E.aM 15;refine RN 8 E I λa E=>?_;rw[bn (by omega)]at E;refine RN 2 E I λa E=>?_;obtain⟨b',o',gW,c4⟩:=I.bU M.dt (by omega);refine RN 5 E I λa E=>?_;rw[gW]at E;refine RN 1 E I λa E=>?_;refine SS E (ae E (c4 i _ (JR hk))) λa E=>?_;refine jO 0 E I (WX (I.sub (M:=ah (e4 p M.aq M.cO M.tq M.jq M.sq) m.ks::Tree M.tq M.sq m.T::ax M.sq M.r m.A::bH M.jq m.J::aA W p M.aq M.cO::aa M.mb 177 (dQ p M m.ks.length m.base m.front)::aQ W M.B p m.s::Sl 179 1 M.dt m.ks.length M.dB (gO m.ks)::L)) hk hI ⟨by omega,by omega⟩ a6 aG (by omega) h.J) ?_;clear E I;rintro e w ⟨z,A',T',J',k',rfl,⟨ud,oG,uL⟩,I⟩;refine⟨_,rfl,λa E=>?_⟩;refine RT 1 E I ?_;have pX:(m.ks.set i (k',wb)).length=m.ks.length:=bu ..;have lz:=uL.room;have hn4:=uL.n;have hn5:=uL.last;have hn6:=uL.epoch;refine⟨z,A',T',J',k',rfl,⟨ud,{ wf:=h.wf,gs:=h.gs,front:=h.front,inv:=⟨t,oG⟩,gd:=uL.brI h.gd,J:=uL.len h.J,most:=by dsimp only;rw[uL.most];exact h.most,workers:=by dsimp only;rw[pX];exact h.workers,ks:=by dsimp only;rw[pX];exact h4,room:=by dsimp only;rw[lz];exact h.room,n:=⟨by dsimp only;omega,by dsimp only;omega,by dsimp only;omega⟩ }⟩,?_⟩;rw[← JS (k':=k') hk,← pX]at I;exact aF.fold I M p { m with A:=A',T:=T',J:=J',ks:=m.ks.set i (k',wb) }
end
end
end Go.Proofs.YteoldcfapaiobaaGreat
