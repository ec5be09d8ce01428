/- The walks of package snap, further. -/
import Derived.Test.YteoldcfapaiobaaGreatC02Page
import Derived.Test.YteoldcfapaiobaaGreatC01Row
namespace Go.Proofs.YteoldcfapaiobaaGreat
open Tryz
open List (perm_middle nil_append map_cons set_append_right set_append_left cons_append getElem_set_self take_length append_nil ext_getElem? mem_or_eq_of_mem_set getElem_mem set_set map_nil getElem?_set_ne set_getElem_self foldl_append length_filter_le)
open Go.RowKit
set_option linter.unusedVariables false
set_option linter.unusedSimpArgs false
set_option maxRecDepth 10000
set_option synthInstance.maxSize 4000
set_option synthInstance.maxHeartbeats 400000
section
section
variable {W w:World}{L L':List SP}{q r b m i pb:Nat}{A:Sn}{ps:List Pg}{xs:List (aC×Nat)}{x y:aC}
theorem TO {off n c:Nat}{vs:List Value}(I:U W w L)(hr:∀ V,U W V L→Rd V b off vs)(hl:vs.length=n)(hn:0<n)(h1:∀ v∈vs,v.oneCell'=true)(hb:n≤1048576) :
   Calls prog 121 #[.slice (some ⟨b,off,none⟩) n c] w λe V=>∃ ad c',e=.returned (.slice ad n c')∧U W V (Sl 3 1 ad n c' vs::L):=by
 refine EN func121 ntmps121 rfl rfl λa E=>?_;refine RN 6 E I λa E=>?_;replace E:=E.aN 4;refine RN 2 E I λa E=>?_;refine tp E rfl I underlying53 Ty.t3 rfl λb5 a w E I ho=>?_;clear ho;refine RN 1 E I λa E=>?_;refine cI E rfl I underlying53 Ty.t3 rfl rfl (hr _ I.tail) (by omega) h1 hn (by decide) (by omega) λrU qH a w E I=>?_;rw[Nat.zero_add,nil_append] at *;refine RT 1 E I ?_;exact⟨_,_,rfl,I⟩
theorem Ic (I:U W w (aw q r A::L))(hx:A.au[i]?=some x) :
   Calls prog 85 #[pt q,.int .i64 x.id] w λe V=>∃ ad c,e=.returned (.slice ad 4 c)∧U W V (Sl 3 1 ad 4 c (ints .i64 4 (λk=>(x.p k:Int)+1))::aw q r A::L):=by
 obtain⟨b,m,ps,xs,h1,hw,hr,I⟩:=aw.open I;obtain⟨pb,a8⟩:=p0 h1 hx;refine EN func85 ntmps85 rfl rfl λa E=>?_;refine CL 5 E I (p1 I h1 hw a8) λa w E I=>?_;refine RN 5 E I λa E=>?_;replace E:=E.aN 10;refine RN 2 E I λa E=>?_;replace I:=I.qJ a8;refine aY 4 E I (TO (off:=0) (c:=4) I (λV h=>h.CB pb) (df _ _ _) (by decide) tr (by decide)) λad c a w E I=>?_;refine RT 1 E I ?_;refine⟨ad,c,rfl,?_⟩;have h4:=aw.tB (A:=A) (B:=A) (q:=q) (r:=r) (last:=A.last) (L':=Sl 3 1 ad 4 c (ints .i64 4 (λk=>(x.p k:Int)+1))::L) (b:=b) (m:=m) (ps:=ps) (pb:=pb) (y:=x) I a8 h1 rfl (xc hx) hw hr;exact h4.perm (List.Perm.swap _ _ _)
theorem zm (I:U W w (aw q r A::L)) :
   Calls prog 83 #[pt q] w λe V=>e=.returned (pt r)∧U W V (aw q r A::L):=by
 obtain⟨b,m,ps,xs,h1,hw,hr,I⟩:=aw.open I;refine EN func83 ntmps83 rfl rfl λa E=>?_;refine RN 6 E I λa E=>?_;replace E:=E.aN 4;refine RT 7 E I ?_;exact⟨rfl,aw.close (b:=b) (m:=m) I h1 hw hr⟩
theorem CE (I:U W w (aw q r A::L)) :
   Calls prog 84 #[pt r] w λe V=>e=.returned (.int .i64 A.used)∧U W V (aw q r A::L):=by
 obtain⟨b,m,ps,xs,h1,hw,hr,I⟩:=aw.open I;refine (HN (I.pick (Room r b ps))).mono λe V ⟨h2,I⟩=>?_;rw[hr.used]at h2;exact⟨h2,aw.close (b:=b) (m:=m) (ps:=ps) I h1 hw hr⟩
theorem Ie {n:Int}(I:U W w (aw q r A::L)) :
   Calls prog 125 #[pt q,.int .i64 n] w λe V=>e=.returned (.bool (decide (n≤((A.room-A.used:Nat):Int))))∧U W V (aw q r A::L):=by
 obtain⟨b,m,ps,xs,h1,hw,hr,I⟩:=aw.open I;refine EN func125 ntmps125 rfl rfl λa E=>?_;refine RN 6 E I λa E=>?_;replace E:=E.ef 7;refine CL 5 E I (S7 (I.pick (Room r b ps))) λa w E I=>?_;refine RT 3 E I ?_;exact⟨by rw[hr.used,hr.len],aw.close (b:=b) (m:=m) (ps:=ps) I h1 hw hr⟩
theorem TP (I:U W w (aw q r A::L)) :
   Calls prog 82 #[pt q] w λe V=>∃ ad c,e=.returned (.slice ad A.au.length c)∧U W V (Sl 166 1 ad A.au.length c (A.au.map λx=>.int .i64 x.id)::aw q r A::L):=by
 obtain⟨b,m,ps,xs,h1,hw,hr,I⟩:=aw.open I;have hlen:(kvs xs).length=A.au.length:=by rw[← h1];simp[kvs]
 have tD:((kvs xs).map (·.1)).Pairwise (· < ·):=by
  have:(kvs xs).map (·.1)=(A.au.map (·.id)).map (λn:Nat=>(n:Int)):=by rw[← h1];simp[kvs]
  rw[this,List.pairwise_map];exact hw.sorted.imp λh=>by omega
 have tE:((kvs xs).map λp=>Value.int .i64 p.1)=A.au.map λx=>Value.int .i64 x.id:=by rw[← h1];simp[kvs]
 refine EN func82 ntmps82 rfl rfl λa E=>?_;refine RN 6 E I λa E=>?_;replace E:=E.aN 4;refine bg 6 E I (Ti (m:=m) I) λb8 a w E I=>?_;refine aY 0 E I (Tk (m:=m) (kvs:=kvs xs) ((I.pick (mp m (kvs xs))).pick (aa b8 218 [.map (some m)])) tD (by rw[hlen];have:=hw.many;have:=hw.bound;omega)) λad c a w E I=>?_;rw[hlen,tE] at *;refine RT 1 E I ?_;refine⟨ad,c,rfl,?_⟩;have h4:=aw.close (A:=A) (q:=q) (r:=r) (last:=A.last) (xs:=xs) (L':=Sl 166 1 ad A.au.length c (A.au.map λx=>.int .i64 x.id)::L) (b:=b) (m:=m) (ps:=ps) I h1 hw hr;exact h4.perm (List.Perm.swap _ _ _)
theorem TQ (I:U W w (aw q r A::L))(hx:A.au[i]?=some x) :
   Calls prog 290 #[pt q,.int .i64 x.id] w λe V=>e=.returned (.tuple #[.agg (ints .i32 32 x.g).toArray,.bool true])∧U W V (aw q r A::L):=by
 refine EN func290 ntmps290 rfl rfl λa E=>?_;refine AL 1 E I λb4 a w E I=>?_;change U W w (aa b4 183 (ints .i32 32 (λ_=>0))::_) at I;refine AL 2 E I λcG a w E I=>?_;change U W w (aa cG 183 (ints .i32 32 (λj=>if j<0 then x.g j else 0))::_) at I;refine RN 2 E I λa E=>?_;obtain⟨b,m,ps,xs,h1,hw,hr,I⟩:=aw.open (I.pick (aw q r A));obtain⟨pb,a8⟩:=p0 h1 hx;refine CL 2 E I (p1 I h1 hw a8) λa w E I=>?_;refine RN 1 E I λa E=>?_;replace E:=E.aN 11;refine RN 3 E I λa E=>?_;replace I:=aw.close (A:=A) (q:=q) (r:=r) (last:=A.last) (xs:=xs) (L':=aa cG 183 (ints .i32 32 (λj=>if j<0 then x.g j else 0))::aa b4 183 (ints .i32 32 (λ_=>0))::L) (b:=b) (m:=m) (ps:=ps) I h1 hw hr;refine RN 1 E I λa E=>?_;refine aR (λμ a w=>∃ k:Nat,(μ=32-k∧k≤32)∧Fr a 27 [(0,pt q),(1,.int .i64 x.id),(4,pt b4),(6,pt cG),(13,.int .i64 k)]∧U W w (aa cG 183 (ints .i32 32 (λj=>if j<k then x.g j else 0))::aw q r A::aa b4 183 (ints .i32 32 (λ_=>0))::L)) (32) (⟨0,⟨by simp,by simp⟩,E.ab [0,1,4,6,13],I.sub⟩) ?_;clear E I;rintro μ a w ⟨k,⟨rfl,hk⟩,E,I⟩;refine IF 3 E I (λao a E=>?_) λao a E=>?_
 ·
  refine CL 8 E I (H7 (I.pick (aw q r A)) hx (by omega)) λa w E I=>?_;refine ST 4 E I (λa w E I=>?_) (hlt:=(by rw[df];omega))
  rw [ints_set, show (fun i => if i = k then x.g k else if i < k then x.g i else 0) = (fun i => if i < k + 1 then x.g i else 0) from by
      funext i
      by_cases h:i=k
      ·subst h;simp
      ·rw[ae h];by_cases h2:i<k
       ·rw[ak h2,ak (by omega)]
       ·rw[ae h2,ae (by omega)]]at I
  refine RN 2 E I λa E=>?_;exact⟨32-(k+1),by omega,k+1,⟨rfl,by omega⟩,E.ab [0,1,4,6,13],I.sub⟩
 obtain rfl:k=32:=by omega
 rw[wW (g':=x.g) (λj hj=>ak hj)]at I;refine SA 2 E I λa w E I=>?_;refine RT 1 E I ?_;exact⟨rfl,I.sub⟩
theorem TS (p:Nat):cJ [] p=0:=rfl
theorem TT {n:Nat}(I:U W w L)(hn:n≤50) :
   Calls prog 89 #[.int .i64 n] w λe V=>∃ q r,e=.returned (pt q)∧U W V (aw q r ⟨0,4*n,0,[]⟩::L):=by
 refine EN func89 ntmps89 rfl rfl λa E=>?_;refine RN 6 E I λa E=>?_;rw[show min (max (n:Int) 0) 50=(n:Int) from by omega]at E;refine RN 1 E I λa E=>?_;rw[show (4:Int)*(n:Int)=((4*n:Nat):Int) from by omega]at E;refine aY 0 E I (SU I (by omega)) λr b a w E I=>?_;refine RN 0 E I λa E=>?_;refine Ta E rfl I rfl λb8 a w E I ho=>?_;clear ho;refine BX 1 E I λkc a w E I=>?_;refine RT 1 E I ?_;have h7:U W w (ah iL []::aa kc 221 [pt r,.map (some b8),.int .i64 ((0:Nat):Int)]::mp b8 (kvs [])::Room r b (List.replicate (4*n) rV)::L):=U.iI I;refine⟨kc,r,rfl,aw.close (A:=⟨0,4*n,0,[]⟩) (last:=0) (b:=b) (m:=b8) (xs:=[]) (ps:=List.replicate (4*n) rV) h7 rfl ⟨by simp only;omega,by simp,bf _,by simp,by simp,by simp⟩ ⟨by simp,λp q hq=>?_,by simp⟩⟩;obtain⟨_,rfl⟩:=a2.1 hq;rw[List.getElem_replicate];rfl
theorem TU {g:Nat→Int}{k:Nat}(I:U W w L)(hk:k<4) :
   Calls prog 127 #[.agg (ints .i32 32 g).toArray,.int .i64 k] w λe V=>e=.returned (.agg (ints .i32 8 (λj=>g (8*k+j))).toArray)∧U W V L:=by
 refine EN func127 ntmps127 rfl rfl λa E=>?_;refine BX 1 E I λb2 a w E I=>?_;refine AL 0 E I λb4 a w E I=>?_;change U W w (aa b4 225 (ints .i32 8 (λ_=>0))::_) at I;refine AL 1 E I λb5 a w E I=>?_;change U W w (aa b5 225 (ints .i32 8 (λ_=>0))::_) at I;refine RN 5 E I λa E=>?_;rw[dk (by omega)]at E;refine RN 3 E I λa E=>?_;rw[dk (by omega)]at E;refine RN 1 E I λa E=>?_;have TV:((ints .i32 32 g).drop (k*8)).take 8=ints .i32 8 (λj=>g (8*k+j)):=by rw[Nat.mul_comm k 8];exact P4 g (by omega)
 refine bQ 0 [] [0,1,2,3,1004] E I λa w E I hH hC=>?_;refine RH 3 E I hH hC λa E=>?_;rw[show ((k:Int)*8)=((k*8:Nat):Int) from by omega]at E;refine QP E (λw=>P7 E underlying183 Ty.t21 (by omega)) λa E=>?_;rw[Nat.zero_add,Nat.mul_one]at E;refine RH 0 E I hH hC λa E=>?_;refine P8 E rfl I underlying270 Ty.t21 rfl (k:=8) (vs:=ints .i32 8 (λj=>g (8*k+j))) (by omega) (by rw[← TV];exact I.pO 8) (df _ _ _) tr (by rw[df,df];decide) λa w E I=>?_;rw[show cB (ints .i32 8 (λ_=>0)) 0 (ints .i32 8 (λj=>g (8*k+j)))=ints .i32 8 (λj=>g (8*k+j)) from by simp[cB,df]]at I;refine SA 2 E I λa w E I=>?_;refine RT 0 E I ?_;exact⟨rfl,I.sub⟩
structure Made (ps:List Pg)(g:Nat→Int)(t:Nat→Nat)(k:Nat)(gh:List Pg):Prop where
 len:gh.length=ps.length
 new:∀ j,j<k→∃ q,gh[t j]?=some q∧q.refs=1∧∀ l,l<8→q.g l=g (8*j+l)
 CF:∀ j,j<k→∃ q,ps[t j]?=some q∧q.refs=0
 apart:∀ j l,j<k→l<k→t j=t l→j=l
 gf:∀ p,(∀ j,j<k→t j≠p)→gh[p]?=ps[p]?
 used:jL gh=jL ps+k
theorem Made.zero (ps:List Pg)(g:Nat→Int)(t:Nat→Nat):Made ps g t 0 ps:=⟨rfl,λ_ h=>by omega,λ_ h=>by omega,λ_ _ h=>by omega,λ_ _=>rfl,rfl⟩
theorem Made.free {ps gh:List Pg}{g:Nat→Int}{t:Nat→Nat}{k:Nat}(h:Made ps g t k gh)(hu:jL ps+k<ps.length):∃ f,tv gh f:=by
 rcases Co gh with bU | hf
 ·have:=Ib bU;rw[h.used,h.len]at this;omega
 ·exact hf
theorem Made.step {ps gh:List Pg}{g:Nat→Int}{t:Nat→Nat}{k f:Nat}(h:Made ps g t k gh)(hf:tv gh f){g1:Nat→Int}(hg:∀ l,l<8→g1 l=g (8*k+l)) :
   Made ps g (λj=>if j=k then f else t j) (k+1) (gh.set f ⟨g1,1⟩):=by
 obtain⟨iV,jr,_⟩:=hf;have bN:∀ j,j<k→t j≠f:=λj hj e=>by
  obtain⟨q,h1,h2,_⟩:=h.new j hj;rw[e,aI iV]at h1;cases h1;omega
 have zi:ps[f]?=some gh[f]:=by rw[← h.gf f bN,aI iV]
 refine⟨by rw[br];exact h.len,λj hj=>?_,λj hj=>?_,λj l hj hl e=>?_,λp hp=>?_,?_⟩
 ·by_cases pU:j=k
  ·subst pU;exact⟨⟨g1,1⟩,by simp[iV],rfl,hg⟩
  ·obtain⟨q,h1,h2,h3⟩:=h.new j (by omega);exact⟨q,by simp only[ae pU];rw[getElem?_set_ne (Ne.symm (bN j (by omega)))];exact h1,h2,h3⟩
 ·by_cases pU:j=k
  ·subst pU;exact⟨_,by simp only[if_true];exact zi,jr⟩
  ·simp only[ae pU];exact h.CF j (by omega)
 ·by_cases h1:j=k <;> by_cases h2:l=k
  ·omega
  ·rw[ak h1,ae h2]at e;exact absurd e.symm (bN l (by omega))
  ·rw[ae h1,ak h2]at e;exact absurd e (bN j (by omega))
  ·rw[ae h1,ae h2]at e;exact h.apart j l (by omega) (by omega) e
 ·have h1:=hp k (by omega);simp only[if_true]at h1;rw[getElem?_set_ne h1];refine h.gf p λj hj e=>?_;have:=hp j (by omega);rw[ae (by omega)]at this;exact this e
 ·have:=List.countP_set (p:=λp:Pg=>decide (0<p.refs)) (a:=⟨g1,1⟩) iV;have hu:=h.used;simp only[jL]at hu ⊢;rw[this,hu];simp[jr,Nat.add_assoc]
theorem Made.rel {ps gh:List Pg}{g:Nat→Int}{t:Nat→Nat}(h:Made ps g t 4 gh)(hr:Rel A ps):Rel (A.add g t) gh:=by
 have hz:∀ j,j<4→cJ A.au (t j)=0:=λj hj=>by
  obtain⟨q,h1,h2⟩:=h.CF j hj;rw[← hr.refs _ _ h1];exact h2
 refine⟨h.len.trans hr.len,λp q hq=>?_,λy hy k hk=>?_⟩
 ·simp only[Sn.add,w5,r5,Cw,Nat.add_zero];by_cases hp:∃ j,j<4∧t j=p
  ·obtain⟨j,hj,rfl⟩:=hp;obtain⟨q',h1,h2,_⟩:=h.new j hj;rw[h1]at hq;cases hq;rw[hz j hj,h2,tx];have E:=λl (hl:l<4) (e:t l=t j)=>h.apart l j hl hj e;simp only;rcases (by omega:j=0∨j=1∨j=2∨j=3) with rfl | rfl | rfl | rfl
   ·rw[ak rfl,ae (λe=>by have:=E 1 (by omega) e;omega),ae (λe=>by have:=E 2 (by omega) e;omega),ae (λe=>by have:=E 3 (by omega) e;omega)]
   ·rw[ak rfl,ae (λe=>by have:=E 0 (by omega) e;omega),ae (λe=>by have:=E 2 (by omega) e;omega),ae (λe=>by have:=E 3 (by omega) e;omega)]
   ·rw[ak rfl,ae (λe=>by have:=E 0 (by omega) e;omega),ae (λe=>by have:=E 1 (by omega) e;omega),ae (λe=>by have:=E 3 (by omega) e;omega)]
   ·rw[ak rfl,ae (λe=>by have:=E 0 (by omega) e;omega),ae (λe=>by have:=E 1 (by omega) e;omega),ae (λe=>by have:=E 2 (by omega) e;omega)]
  ·have hn:∀ j,j<4→t j≠p:=λj hj e=>hp ⟨j,hj,e⟩;rw[h.gf p hn]at hq;rw[hr.refs p q hq,Cv (x:=⟨A.last+1,1,g,t⟩) hn];rfl
 ·simp only[Sn.add]at hy;rcases eM.1 hy with hy | hy
  ·obtain⟨q,h1,h2⟩:=hr.oX y hy k hk;refine⟨q,?_,h2⟩;rw[h.gf _ λj hj e=>?_]
   ·exact h1
   ·have h3:=hz j hj;have h4:=tz hy (t j);rw[e]at h3 h4;have:=r4 (x:=y) hk;omega
  ·simp at hy;subst hy;obtain⟨q,h1,h2,h3⟩:=h.new k hk;exact⟨q,h1,h3⟩
abbrev np (P:Nat→Int):List Value:=ints .i64 4 P++[.int .i64 0]
theorem TW (P:Nat→Int):(np P).length=5:=by simp[np,df]
theorem TX {P:Nat→Int}{k:Nat}(h:k<4):(np P)[k]?=some (.int .i64 (P k)):=by
 rw[np,lS (by rw[df];exact h),fO _ h]
theorem TY {P:Nat→Int}{k:Nat}(v:Int)(h:k<4):(np P).set k (.int .i64 v)=np (λj=>if j=k then v else P j):=by
 rw[np,set_append_left _ _ (by rw[df];exact h),ints_set,np]
def tP (t:Nat→Nat)(k:Nat):Nat→Int:=λj=>if j<k then (t j:Int)+1 else 0
theorem TZ (t:Nat→Nat)(k f:Nat):(λj=>if j=k then ((f:Int)+1) else tP t k j)=tP (λj=>if j=k then f else t j) (k+1):=by
 funext j
 simp only[tP];by_cases h:j=k
 ·subst h;simp
 ·rw[ae h,ae h];by_cases h2:j<k
  ·rw[ak h2,ak (by omega)]
  ·rw[ae h2,ae (by omega)]
def nU (g:Nat→Int)(k j:Nat):Nat→Int:=λl=>if l<j then g (8*k+l) else 0
theorem T4 (g:Nat→Int)(k:Nat):nU g k 0=λ_=>0:=by funext l;simp[nU]
theorem T5 (g:Nat→Int)(k j:Nat):(λl=>if l=j then g (8*k+j) else nU g k j l)=nU g k (j+1):=by
 funext l
 simp only[nU];by_cases h:l=j
 ·subst h;simp
 ·rw[ae h];by_cases h2:l<j
  ·rw[ak h2,ak (by omega)]
  ·rw[ae h2,ae (by omega)]
theorem Ig {g:Nat→Int}(I:U W w (aw q r A::L))(hu:A.used+4≤A.room)(hb:A.n+1<1099511627776) :
   Calls prog 93 #[pt q,.agg (ints .i32 32 g).toArray] w λe V=>∃ t:Nat→Nat,e=.returned (.tuple #[.int .i64 ((A.last+1:Nat):Int),.bool true]) ∧
    ((∀ j,j<4→t j<A.room∧cJ A.au (t j)=0)∧∀ j l,j<4→l<4→t j=t l→j=l)∧U W V (aw q r (A.add g t)::L):=by
 refine EN func93 ntmps93 rfl rfl λa E=>?_;refine BX 1 E I λb3 a w E I=>?_;refine CL 5 E I (Ie (I.pick (aw q r A))) λa w E I=>?_;rw[dk (by omega)]at E;refine RN 1 E I λa E=>?_;replace E:=E.aN 12;refine RN 2 E I λa E=>?_;obtain⟨b,m,ps,xs,h1,hw,hr,I⟩:=aw.open I;have ni:=hr.used;have iM:=hr.len;refine AL 0 E I λcG a w E I=>?_;change U W w (aa cG 232 (np (tP (λ_=>0) 0))::_) at I;refine RN 3 E I λa E=>?_;refine aR (λμ a w=>∃ (k:Nat) (t:Nat→Nat) (gh:List Pg),(μ=4-k∧k≤4∧Made ps g t k gh)∧Fr a 50 [(0,pt q),(3,pt b3),(6,pt cG),(13,.int .i64 k)]∧U W w (Room r b gh::aa cG 232 (np (tP t k))::aa b3 183 (ints .i32 32 g)::aa q 221 [pt r,.map (some m),.int .i64 A.last]::mp m (kvs xs)::ah iL xs::L)) (4) (⟨0,λ_=>0,ps,⟨by simp,by simp,Made.zero _ _ _⟩,E.ab [0,3,6,13],I.sub⟩) ?_;clear E I;rintro μ a w ⟨k,t,gh,⟨rfl,hk,hm⟩,E,I⟩;refine IF 3 E I (λao a E=>?_) λao a E=>?_
 ·
  refine RN 5 E I λa E=>?_;have Ih:=hm.used;obtain⟨f,hf⟩:=hm.free (by omega);have aQ:=λ(g1:Nat→Int) h=>hm.step (g1:=g1) hf h;have iV:=hf.1;refine CL 5 E I (HM (I.pick (Room r b gh)) hf) λa w E I=>?_;refine ST 5 E I (λa w E I=>?_) (hlt:=(by rw[TW];omega));rw[TY _ (by omega),TZ]at I;refine CL 3 E I (TU I (by omega)) λa w E I=>?_;refine RN 1 E I λa E=>?_;refine aR (λμ a w=>∃ j:Nat,(μ=8-j∧j≤8)∧Fr a 50 [(0,pt q),(3,pt b3),(6,pt cG),(7,.int .i64 k),(13,.int .i64 k),(29,.agg (ints .i32 8 (λj=>g (8*k+j))).toArray),(30,.int .i64 j)]∧U W w (Room r b (gh.set f ⟨nU g k j,1⟩)::aa cG 232 (np (tP (λj=>if j=k then f else t j) (k+1)))::aa b3 183 (ints .i32 32 g)::aa q 221 [pt r,.map (some m),.int .i64 A.last]::mp m (kvs xs)::ah iL xs::L)) (8) (⟨0,⟨by simp,by simp⟩,E.ab [0,3,6,7,13,29,30],by rw[T4];rw[show oV=(⟨λ_=>0,1⟩:Pg) from rfl]at I;exact I.sub⟩) ?_;clear E I;rintro μ a w ⟨j,⟨rfl,hj⟩,E,I⟩;refine IF 3 E I (λay a E=>?_) λay a E=>?_
  ·
   refine RN 3 E I λa E=>?_;refine SS E (rM E underlying225 underlying21 rfl Ty.t21 (by omega) (fO _ (by omega))) λa E=>?_;refine bQ 2 [7] [0,1,2,4,5,6,8,9,3003,1007,1010] E I λa w E I hH hC=>?_;refine RH 9 E I hH hC λa E=>?_;refine SS E (ag E (I.bB (TX (by omega)))) λa E=>?_;rw[show tP (λj=>if j=k then f else t j) (k+1) k=(f:Int)+1 from by simp[tP]]at E;have gw:f<(gh.set f ⟨nU g k j,1⟩).length:=by rw[br];exact iV
   have vn:(gh.set f ⟨nU g k j,1⟩)[f]=⟨nU g k j,1⟩:=by rw[getElem_set_self]
   refine RH 0 E I hH hC λa E=>?_;refine CL 0 E I (Cn (I.pick (Room r b (gh.set f ⟨nU g k j,1⟩))) gw (by rw[vn]) (show j<8 by omega)) λa w E I=>?_;rw[vn,set_set,T5]at I;refine RN 2 E I λa E=>?_;exact⟨8-(j+1),by omega,j+1,⟨rfl,by omega⟩,E.ab [0,3,6,7,13,29,30],I.sub⟩
  obtain rfl:j=8:=by omega
  have T6:=aQ (nU g k 8) (λl hl=>by simp[nU,hl]);refine RN 2 E I λa E=>?_;exact⟨4-(k+1),by omega,k+1,_,_,⟨rfl,by omega,T6⟩,E.ab [0,3,6,13],I.sub⟩
 obtain rfl:k=4:=by omega
 have hL:np (tP t 4)=aC.cells ⟨A.last+1,0,g,t⟩:=by
  rw[np,aC.cells];rw[wW (g:=tP t 4) (g':=λk=>(t k:Int)+1) (λj hj=>ak hj)];rfl
 rw[hL]at I;have zl:=hw.add hb g t;have zk:=hm.rel hr;refine bg 3 E I (H9 (x:=⟨A.last+1,0,g,t⟩) (q:=q) (r:=r) (m:=m) (last:=A.last) (xs:=xs) (L:=Room r b gh::ah iL xs::L) I.sub (by have:=hw.bound;have:=hw.last;omega) (H8 h1 hw)) λpb a w E I=>?_;refine RT 2 E I ?_;refine⟨t,rfl,⟨λj hj=>?_,λj l hj hl e=>hm.apart j l hj hl e⟩,?_⟩
 ·obtain⟨q',h5,h6⟩:=hm.CF j hj;have h7:=(a2.1 h5).1;exact⟨by omega,by rw[← hr.refs _ _ h5];exact h6⟩
 ·have h6:=U.jG (f:=iL) (l:=xs) (x:=(⟨A.last+1,1,g,t⟩,pb)) (I.sub (M:=aa pb 232 (aC.cells ⟨A.last+1,1,g,t⟩)::ah iL xs::aa q 221 [pt r,.map (some m),.int .i64 ((A.last+1:Nat):Int)]::mp m (kvs xs++[(((A.last+1:Nat):Int),pt pb)])::Room r b gh::L));rw[show kvs xs++[(((A.last+1:Nat):Int),Value.pointer (some ⟨pb,0,none⟩))]=kvs (xs++[(⟨A.last+1,1,g,t⟩,pb)]) from by simp[kvs]]at h6;exact aw.close (last:=A.last+1) (b:=b) (m:=m) (xs:=xs++[(⟨A.last+1,1,g,t⟩,pb)]) h6 (by simp[Sn.add,h1]) zl zk
end
end
section
structure Br where
 id:Nat
 frm:Int
 al:List (List UInt8)
 done:Nat
 snap:Nat
structure Tr where
 most:Nat
 l:List Br
 last:Nat
 epoch:Nat
def nq (p:List (List UInt8)):Prop:=p.length≤65536∧∀ b∈p,b.length≤1099511627776
abbrev ca (x:Br)(ad:Option Addr)(c:Nat):List Value:=[.int .i64 x.id,.int .i64 x.frm,.slice ad x.al.length c,.int .i64 x.done,.int .i64 x.snap]
abbrev Bx:=Br×Option Addr×Nat
abbrev c7 (x:Bx):List Value:=ca x.1 x.2.1 x.2.2
def bV (x:Bx):SP:=b9 x.2.1 x.1.al.length x.2.2 x.1.al
theorem r9 (x:Bx):(c7 x).length=5:=rfl
structure WT (T:Tr):Prop where
 most:T.most≤8∧T.l.length≤T.most
 last:T.last<1099511627776
 epoch:T.epoch<1099511627776
 ids:(T.l.map (·.id)).Pairwise (· < ·)
 ok:∀ x∈T.l,nq x.al∧x.done≤x.al.length∧1≤x.id∧x.id≤T.last
def Tree (tq sq:Nat)(T:Tr):SP:=λh=>∃ ad c xs,(xs.map (·.1)=T.l∧WT T) ∧
 cm [aa tq 236 [pt sq,.int .i64 T.most,.slice ad T.l.length c,.int .i64 T.last,.int .i64 T.epoch],Sl 238 5 ad T.l.length c (rows c7 xs),ah bV xs] h
section
variable {W w:World}{L L' R:List SP}{tq sq q r n c k:Nat}{ad:Option Addr}{A:Sn}{T:Tr}{x y:Br}{xs:List Bx}{p:List (List UInt8)}
theorem Tree.open (I:U W w (Tree tq sq T::L)):∃ ad c xs,xs.map (·.1)=T.l∧WT T ∧
   U W w (aa tq 236 [pt sq,.int .i64 T.most,.slice ad T.l.length c,.int .i64 T.last,.int .i64 T.epoch]::Sl 238 5 ad T.l.length c (rows c7 xs)::ah bV xs::L):=by
 obtain⟨⟨ad,c,xs⟩,⟨h1,h2⟩,h4⟩:=I.jo (ι:=Option Addr×Nat×List Bx) (p:=λi=>i.2.2.map (·.1)=T.l∧WT T)
  (B:=λi h=>cm [aa tq 236 [pt sq,.int .i64 T.most,.slice i.1 T.l.length i.2.1,.int .i64 T.last,.int .i64 T.epoch],Sl 238 5 i.1 T.l.length i.2.1 (rows c7 i.2.2),ah bV i.2.2] h)
  (λh ⟨ad,c,xs,h1,h2⟩=>⟨(ad,c,xs),h1,h2⟩)
 exact⟨ad,c,xs,h1,h2,h4.open λ_ h=>h⟩
theorem Tree.close {most last epoch:Nat}(I:U W w L)[k:fD L (aa tq 236 [pt sq,.int .i64 most,.slice ad n c,.int .i64 last,.int .i64 epoch]::Sl 238 5 ad n c (rows c7 xs)::ah bV xs::L') R]
   (h1:xs.map (·.1)=T.l) (h2:WT T) (e1:T.most=most:=by rfl) (e2:T.l.length=n:=by rfl) (e3:T.last=last:=by rfl) (iT:T.epoch=epoch:=by rfl):U W w (Tree tq sq T::L'):=by
 subst e1 e2 e3 iT;exact U.shut (M:=[_,_,_]) (I.sub (M:=aa tq 236 [pt sq,.int .i64 T.most,.slice ad T.l.length c,.int .i64 T.last,.int .i64 T.epoch]::Sl 238 5 ad T.l.length c (rows c7 xs)::ah bV xs::L')) (λ_ x=>⟨ad,c,xs,⟨h1,h2⟩,x⟩)
theorem Tree.same (ad:Option Addr)(c:Nat)(xs:List Bx)(I:U W w L)[k:fD L (aa tq 236 [pt sq,.int .i64 T.most,.slice ad T.l.length c,.int .i64 T.last,.int .i64 T.epoch]::Sl 238 5 ad T.l.length c (rows c7 xs)::ah bV xs::L') R]
   (h1:xs.map (·.1)=T.l) (h2:WT T):U W w (Tree tq sq T::L') :=
 U.shut (M:=[_,_,_]) (I.sub (M:=aa tq 236 [pt sq,.int .i64 T.most,.slice ad T.l.length c,.int .i64 T.last,.int .i64 T.epoch]::Sl 238 5 ad T.l.length c (rows c7 xs)::ah bV xs::L')) (λ_ x=>⟨ad,c,xs,⟨h1,h2⟩,x⟩)
class vo (L:List SP)(tq:Nat)(sq:outParam Nat)(T:outParam Tr)(R:outParam (List SP)):Prop where perm:L.Perm (Tree tq sq T::R)
instance vo.head {L tq sq T}:vo (Tree tq sq T::L) tq sq T L:=⟨List.Perm.refl _⟩
instance (priority:=low) vo.tail {B L tq sq T R}[h:vo L tq sq T R]:vo (B::L) tq sq T (B::R):=⟨(List.Perm.cons B h.perm).trans (List.Perm.swap _ _ _)⟩
theorem U.tree (I:U W w L)(tq:Nat)[k:vo L tq sq T R]:U W w (Tree tq sq T::R):=I.perm k.perm
theorem Tree.wt (I:U W w (Tree tq sq T::L)):WT T:=by obtain⟨_,_,_,_,h,_⟩:=Tree.open I;exact h
theorem CG (h1:xs.map (·.1)=T.l)(hx:T.l[k]?=some x):∃ ad c,xs[k]?=some (x,ad,c):=by
 rw[← h1,bm]at hx;obtain⟨⟨y,ad,c⟩,h2,rfl⟩:=Option.map_eq_some_iff.1 hx;exact⟨ad,c,h2⟩
theorem nV {b off:Nat}(hr:Rd w b off (rows c7 xs)){av:Option Addr}{c':Nat}(hx:xs[k]?=some (x,av,c')):Rd w b (off+k*5) (ca x av c'):=by
 obtain⟨hi,he⟩:=a2.1 hx;have:=hr.part (k*5) 5;rw[u9 r9 xs k hi,he]at this;exact this
theorem ah.oY (I:U W w (ah bV xs::L)){av:Option Addr}{c':Nat}(hx:xs[k]?=some (x,av,c')):kB w av x.al.length x.al∧x.al.length≤c':=by
 obtain⟨hi,he⟩:=a2.1 hx;have h:=I.fE hi;rw[he]at h;have h2:U W w (b9 av x.al.length c' x.al::_):=h;exact⟨b9.rd h2,(b9.le h2).2⟩
theorem T7 {s:Nat}{m:Int}(I:U W w L):Calls prog 91 #[pt s,.int .i64 m] w λe V=>∃ tq,e=.returned (pt tq)∧U W V (Tree tq s ⟨(min (max m 0) 8).toNat,[],0,0⟩::L):=by
 refine EN func91 ntmps91 rfl rfl λa E=>?_;refine BX 8 E I λkc a w E I=>?_;refine RT 1 E I ?_;rw[show min (max m 0) 8=(((min (max m 0) 8).toNat:Nat):Int) from by omega]at I;have h:U W w (Sl 238 5 none 0 0 (rows c7 [])::ah bV []::aa kc 236 [pt s,.int .i64 (((min (max m 0) 8).toNat:Nat):Int),.slice none 0 0,.int .i64 ((0:Nat):Int),.int .i64 ((0:Nat):Int)]::L):=(I.iI (f:=bV)).bM 238 5 none;exact⟨kc,rfl,Tree.close (T:=⟨(min (max m 0) 8).toNat,[],0,0⟩) (most:=(min (max m 0) 8).toNat) (ad:=none) (c:=0) (n:=0) (last:=0) (epoch:=0) (xs:=[]) h rfl ⟨⟨by simp only;omega,Nat.zero_le _⟩,by simp,by simp,by simp,by simp⟩⟩
def oZ (a b:List (List UInt8)):Bool:=a.take (min a.length b.length)==b.take (min a.length b.length)
theorem T8 {u v:List (List UInt8)}{ad2:Option Addr}{c2:Nat}(dc:kB w ad u.length u)(kZ:kB w ad2 v.length v)(ao:u.length≤c)(ay:v.length≤c2)(hb:u.length≤1099511627776) :
   Calls prog 295 #[.slice ad u.length c,.slice ad2 v.length c2] w λe V=>e=.returned (.bool (oZ u v))∧V=w.drew:=by
 obtain⟨W,w2⟩:∃ W,w=W:=⟨w,rfl⟩;have I:U W w []:=w2 ▸ U.start w;refine EN func295 ntmps295 rfl rfl λa E=>?_;refine RN 8 E I λa E=>?_;rw[show min (u.length:Int) (v.length:Int)=((min u.length v.length:Nat):Int) from by omega]at E;refine RN 2 E I λa E=>?_;have Ii:kB w.drew ad u.length u:=dc;have nM:kB w.drew ad2 v.length v:=kZ;refine qF 0 (λ_=>True) [] [0,1,2,3,4,5,1006,7] E I λa E=>?_;replace I:=I.drew;generalize w.drew=w at I Ii nM ⊢;have hC:=trivial;have hH:=Hd.any (λ_=>True);refine RH 6 E I hH hC λa E=>?_;rw[qG,qG,Nat.sub_zero,Nat.sub_zero,Nat.sub_zero]at E;refine CL 0 E I (SG (p:=u.take (min u.length v.length)) (q:=v.take (min u.length v.length)) (Ii.take (by omega)) (nM.take (by omega)) (by omega)) λa w E hx=>?_;obtain rfl:=hx;refine RN 1 E (U.start _) λa E=>?_;refine RT 0 E (U.start _) ?_;exact⟨rfl,rfl⟩
theorem CH {u v:List (List UInt8)}{ad2:Option Addr}{c2:Nat}(I:U W w L)(dc:kB w ad u.length u)(kZ:kB w ad2 v.length v)(ao:u.length≤c)(ay:v.length≤c2)(hb:u.length≤1099511627776) :
   Calls prog 295 #[.slice ad u.length c,.slice ad2 v.length c2] w λe V=>e=.returned (.bool (oZ u v))∧U W V L :=
 (T8 dc kZ ao ay hb).mono λe V ⟨h1,h2⟩=>⟨h1,by subst h2;exact I.drew⟩
theorem Ij {m:Nat}{zs:List ea}(I:U W w L)(hr:∀ V,U W V L→iJ V ad zs)(hm:zs.length=m)(dm:nq (zs.map (·.2.2))) :
   Calls prog 165 #[.slice ad m c] w λe V=>∃ av c',e=.returned (.slice av m c')∧U W V (b9 av m c' (zs.map (·.2.2))::L):=by
 obtain⟨Ik,T9⟩:=dm;rw[bd]at Ik;refine EN func165 ntmps165 rfl rfl λa E=>?_;refine RN 6 E I λa E=>?_;replace I:=b9.nil I;refine RN 3 E I λa E=>?_;refine aR (λμ a w=>∃ (k:Nat) (fl:Option Addr) (dC:Nat),(μ=m-k∧k≤m)∧Fr a 19 [(3,.slice fl k dC),(6,.slice ad m c),(7,.int .i64 m),(8,.int .i64 k)]∧U W w (b9 fl k dC ((zs.map (·.2.2)).take k)::L)) (m) (⟨0,none,0,⟨by simp,by simp⟩,E.ab [3,6,7,8],I⟩) ?_;clear E I;rintro μ a w ⟨k,fl,dC,⟨rfl,hk⟩,E,I⟩;refine IF 3 E I (λaj a E=>?_) λaj a E=>?_
 ·
  refine RN 2 E I λa E=>?_;obtain⟨b1,o1,rfl,h1⟩:=(hr _ I.tail).1 (by omega);have eg:zs[k]?=some zs[k]:=aI (by omega);have nW:=T9 zs[k].2.2 (c1.2 ⟨zs[k],getElem_mem _,rfl⟩);have k0:=h1 k _ (by rw[bm,eg];rfl);refine RN 1 E I λa E=>?_;refine SS E (ag E (k0)) λa E=>?_;refine aY 3 E I (rT (bs:=zs[k].2.2) I (λV h=>(hr _ h.tail).2 _ (getElem_mem _)) nW) λl4 g8 a w E I=>?_;refine RN 0 E I λa E=>?_;refine cn E rfl I underlying207 Ty.t22 rfl rfl rfl rfl (by decide) (by decide) λUa a w E I ho=>?_;clear ho;obtain⟨ys,jO,l5,I⟩:=b9.open (I.pick (b9 fl k dC ((zs.map (·.2.2)).take k)));refine RN 0 E I λa E=>?_;refine cI E rfl I underlying207 Ty.t22 rfl rfl I.ai rfl (by simp[Value.oneCell']) (by decide) (by decide) (by omega) λCI CJ a w E I=>?_;have h8:=U.jG (f:=a7) (l:=ys) (x:=(l4,g8,zs[k].2.2)) (I.sub (M:=Sl 5 1 l4 zs[k].2.2.length g8 (bc zs[k].2.2)::ah a7 ys::Sl 22 1 CI (k+1) CJ (ys.map aM++[[.slice l4 zs[k].2.2.length g8]].flatten)::L));have h9:U W w (ah a7 (ys++[(l4,g8,zs[k].2.2)])::Sl 22 1 CI (k+1) CJ ((ys++[(l4,g8,zs[k].2.2)]).map aM)::L):=by
   rw[cQ];exact h8
  have eH:k<(zs.map (·.2.2)).length:=by rw[bd];omega
  have fF:=b9.close (p:=(zs.map (·.2.2)).take (k+1)) (ad:=CI) (n:=k+1) (c:=CJ) (xs:=ys++[(l4,g8,zs[k].2.2)]) (L':=L) h9 (by rw[cQ,jO,iX eH];simp) (by rw[et];omega);replace I:=fF;clear h8 h9 fF;refine RN 3 E I λa E=>?_;exact⟨m-(k+1),by omega,k+1,_,_,⟨rfl,by omega⟩,E.ab [3,6,7,8],I⟩
 refine RT 3 E I ?_;obtain rfl:k=m:=by omega
 rw[fX (by rw[bd];omega)]at I;exact⟨_,_,rfl,I⟩
theorem Il {zs:List ea}{av:Option Addr}{c':Nat}(I:U W w L)(hr:∀ V,U W V L→iJ V av zs)(hz:zs.map (·.2.2)=x.al)(dm:nq x.al) :
   Calls prog 123 #[.agg (ca x av c').toArray] w λe V=>∃ ad2 c2,e=.returned (.agg (ca x ad2 c2).toArray)∧U W V (b9 ad2 x.al.length c2 x.al::L):=by
 have iU:zs.length=x.al.length:=by rw[← hz,bd]
 refine EN func123 ntmps123 rfl rfl λa E=>?_;refine BX 1 E I λb1 a w E I=>?_;refine AL 0 E I λb2 a w E I=>?_;refine aY 3 E I (Ij I (λV h=>hr V h.tail.tail) iU (by rw[hz];exact dm)) λad2 c2 a w E I=>?_;rw[hz]at I;refine ST 1 E I (λa w E I=>?_) (hlt:=(by simp[ca]));refine SA 2 E I λa w E I=>?_;refine RT 0 E I ?_;exact⟨ad2,c2,rfl,I.sub⟩
theorem Ub {b:Nat}{id:Int}{av:Option Addr}{c':Nat}(I:U W w (aa b 2 [.int .i64 id]::L)) :
   Calls prog 212 #[.agg (ca x av c').toArray,pt b] w λe V=>e=.returned (.bool (decide ((x.id:Int)=id)))∧U W V (aa b 2 [.int .i64 id]::L):=by
 refine EN func212 ntmps212 rfl rfl λa E=>?_;refine BX 1 E I λb2 a w E I=>?_;refine RT 7 E I ?_;exact⟨rfl,I.sub⟩
theorem Uc {b:Nat}{id:Int}{av:Option Addr}{c':Nat}(I:U W w (aa b 2 [.int .i64 id]::Sl 238 5 av n c' (rows c7 xs)::L))(hb:n≤1048576) :
   Calls prog 211 #[.slice av n c',.func (.func 212) #[] #[pt b]] w λe V =>
    ∃ r:Int,e=.returned (.int .i64 r)∧((r = -1∧∀ y∈xs,(y.1.id:Int)≠id)∨∃ k y,r=(k:Nat)∧xs[k]?=some y∧(y.1.id:Int)=id)∧U W V (Sl 238 5 av n c' (rows c7 xs)::L):=by
 have cj:xs.length=n:=by
  have:=(I.tail.sl av).1;rw[iW r9]at this;omega
 refine EN func211 ntmps211 rfl rfl λa E=>?_;refine RN 7 E I λa E=>?_;refine aR (λμ a w=>∃ k:Nat,(μ=n-k∧k≤n∧∀ j y,j<k→xs[j]?=some y→(y.1.id:Int)≠id)∧Fr a 19 [(0,.slice av n c'),(1,.func (.func 212) #[] #[pt b]),(7,.int .i64 n),(8,.int .i64 k)]∧U W w (aa b 2 [.int .i64 id]::Sl 238 5 av n c' (rows c7 xs)::L)) (n) (⟨0,⟨by simp,by simp,by omega⟩,E.ab [0,1,7,8],I⟩) ?_;clear E I;rintro μ a w ⟨k,⟨rfl,hk,bU⟩,E,I⟩;refine IF 3 E I (λaj a E=>?_) λaj a E=>?_
 ·
  refine RN 5 E I λa E=>?_;obtain⟨b',dB,rfl,de⟩:=I.tail.bY av (by omega);obtain⟨⟨y,Im,Io⟩,hy⟩:∃ y,xs[k]?=some y:=⟨_,aI (by omega)⟩;have fP:=nV de hy;refine RN 4 E I λa E=>?_;refine SS E (bT E underlying238 rfl Ty.t238 (fP)) λa E=>?_;refine CL 0 E I (Ub (x:=y) (av:=Im) (c':=Io) I) λa w E I=>?_;refine IF 0 E I (λao a E=>?_) λao a E=>?_
  ·
   skip
   refine RT 3 E I ?_;exact⟨_,rfl,.inr ⟨k,(y,Im,Io),rfl,hy,ao⟩,I.tail⟩
  refine RN 2 E I λa E=>?_;refine⟨n-(k+1),by omega,k+1,⟨rfl,by omega,λj z hj hz=>?_⟩,E.ab [0,1,7,8],I⟩;by_cases pU:j=k
  ·subst pU;rw[hy]at hz;cases hz;exact ao
  ·exact bU j z (by omega) hz
 refine RT 2 E I ?_;refine⟨-1,rfl,.inl ⟨rfl,λz hz=>?_⟩,I.tail⟩;obtain⟨j,hj⟩:=jN.1 hz;have dG:=(a2.1 hj).1;exact bU j z (by omega) hj
theorem CK {id:Int}(I:U W w (Tree tq sq T::L)) :
   Calls prog 183 #[pt tq,.int .i64 id] w λe V =>
    ∃ r:Int,e=.returned (.int .i64 r)∧((r = -1∧∀ y∈T.l,(y.id:Int)≠id)∨∃ k y,r=(k:Nat)∧T.l[k]?=some y∧(y.id:Int)=id)∧U W V (Tree tq sq T::L):=by
 refine EN func183 ntmps183 rfl rfl λa E=>?_;refine BX 1 E I λb3 a w E I=>?_;refine RN 5 E I λa E=>?_;replace E:=E.aN 6;refine RN 2 E I λa E=>?_;obtain⟨ad,c,xs,h1,hw,I⟩:=Tree.open (I.tree tq);have hT:=hw.most;refine bg 5 E I (Uc (xs:=xs) (b:=b3) (id:=id) (av:=ad) (c':=c) (n:=T.l.length) (L:=aa tq 236 [pt sq,.int .i64 T.most,.slice ad T.l.length c,.int .i64 T.last,.int .i64 T.epoch]::ah bV xs::L) I.sub (by omega)) λr a w E ⟨hr,I⟩=>?_;refine RT 1 E I ?_;refine⟨r,rfl,?_,Tree.same ad c xs I h1 hw⟩;rcases hr with ⟨h2,h3⟩ | ⟨k,y,h2,h3,h4⟩
 ·refine .inl ⟨h2,λy hy=>?_⟩;rw[← h1]at hy;obtain⟨z,hz,rfl⟩:=c1.1 hy;exact h3 z hz
 ·exact .inr ⟨k,y.1,h2,by rw[← h1,bm,h3];rfl,h4⟩
theorem U.Ip (I:U W w (ah bV xs::L)){av:Option Addr}{c':Nat}(hx:xs[k]?=some (x,av,c')):∃ zs:List ea,zs.map (·.2.2)=x.al∧x.al.length≤c' ∧
   U W w (Sl 22 1 av x.al.length c' (zs.map aM)::ah a7 zs::ah bV (xs.eraseIdx k)::L):=by
 obtain⟨hi,he⟩:=a2.1 hx;have h:=I.fE hi;rw[he]at h;have h2:U W w (b9 av x.al.length c' x.al::ah bV (xs.eraseIdx k)::L):=h;obtain⟨zs,h3,h4,h5⟩:=b9.open h2;exact⟨zs,h3,(b9.le h2).2,h5⟩
theorem U.Iq {zs:List ea}{av:Option Addr}{c':Nat}(I:U W w L)[kk:fD L (Sl 22 1 av n c' (zs.map aM)::ah a7 zs::ah bV (xs.eraseIdx k)::L') R](hx:xs[k]?=some (x,av,c'))(hz:zs.map (·.2.2)=x.al)(hn:x.al.length=n):U W w (ah bV xs::L'):=by
 subst hn;obtain⟨hi,he⟩:=a2.1 hx;have h1:=I.sub (M:=Sl 22 1 av x.al.length c' (zs.map aM)::ah a7 zs::ah bV (xs.eraseIdx k)::L');have h2:=b9.close (L':=ah bV (xs.eraseIdx k)::L') (p:=x.al) (ad:=av) (n:=x.al.length) (c:=c') (xs:=zs) h1 hz rfl;have h3:U W w (bV (x,av,c')::ah bV (xs.eraseIdx k)::L'):=h2;have h4:=U.ky hi h3;rw[← he,set_getElem_self]at h4;exact h4
theorem xe (I:U W w (Tree tq sq T::L))(hx:T.l[k]?=some x) :
   Calls prog 143 #[pt tq,.int .i64 x.id] w λe V=>∃ ad c,e=.returned (.tuple #[.agg (ca x ad c).toArray,.bool true])∧U W V (b9 ad x.al.length c x.al::Tree tq sq T::L):=by
 refine EN func143 ntmps143 rfl rfl λa E=>?_;refine AL 1 E I λb4 a w E I=>?_;refine bg 4 E I (CK (id:=(x.id:Int)) (I.tree tq)) λr a w E ⟨hr,I⟩=>?_;obtain⟨hw,fP⟩:WT T∧r=(k:Nat):=by
  have hw:=Tree.wt I;refine⟨hw,?_⟩;rcases hr with ⟨_,h3⟩ | ⟨j,y,h2,h3,h4⟩
  ·exact absurd rfl (h3 x (bK hx))
  ·have hp:=List.pairwise_iff_getElem.1 hw.ids;obtain⟨hj,rfl⟩:=a2.1 h3;obtain⟨hk,rfl⟩:=a2.1 hx;rcases Nat.lt_trichotomy j k with hl | hl | hl
   ·have:=hp j k (by simpa using hj) (by simpa using hk) hl;simp at this;omega
   ·rw[h2,hl]
   ·have:=hp k j (by simpa using hk) (by simpa using hj) hl;simp at this;omega
 subst fP;have eH:=(a2.1 hx).1;have ke:=(hw.ok x (bK hx)).1;clear hr;refine RN 5 E I λa E=>?_;rw[bn (by omega)]at E;refine RN 2 E I λa E=>?_;obtain⟨ad,c,xs,h1,hw,I⟩:=Tree.open (I.tree tq);obtain⟨eD,da,dU⟩:=CG h1 hx;obtain⟨b',dB,rfl,de⟩:=I.tail.bY ad (by omega);have fP:=nV de dU;refine RN 6 E I λa E=>?_;refine SS E (bT E underlying238 rfl Ty.t238 (fP)) λa E=>?_;obtain⟨zs,c0,eL,I⟩:=U.Ip (I.pick (ah bV xs)) dU;refine aY 0 E I (Il (x:=x) (av:=eD) (c':=da) I (λV h=>U.lY h) c0 ke) λad2 c2 a w E I=>?_;refine SA 0 E I λa w E I=>?_;refine RT 1 E I ?_;have h5:=U.Iq (L':=b9 ad2 x.al.length c2 x.al::aa tq 236 [pt sq,.int .i64 T.most,.slice (some ⟨b',dB,none⟩) T.l.length c,.int .i64 T.last,.int .i64 T.epoch]::Sl 238 5 (some ⟨b',dB,none⟩) T.l.length c (rows c7 xs)::L) I dU c0 rfl;refine⟨ad2,c2,rfl,?_⟩;have h6:=Tree.same (tq:=tq) (sq:=sq) (T:=T) (L':=b9 ad2 x.al.length c2 x.al::L) (some ⟨b',dB,none⟩) c xs h5 h1 hw;exact h6.perm (List.Perm.swap _ _ _)
theorem Ud {id:Int}(I:U W w (Tree tq sq T::L))(hn:∀ y∈T.l,(y.id:Int)≠id) :
   Calls prog 143 #[pt tq,.int .i64 id] w λe V=>e=.returned (.tuple #[.agg (ca ⟨0,0,[],0,0⟩ none 0).toArray,.bool false])∧U W V (Tree tq sq T::L):=by
 refine EN func143 ntmps143 rfl rfl λa E=>?_;refine AL 1 E I λb4 a w E I=>?_;refine bg 4 E I (CK (id:=id) (I.tree tq)) λr a w E ⟨hr,I⟩=>?_;obtain rfl:r = -1:=by
  rcases hr with ⟨h,_⟩ | ⟨j,y,_,h3,h4⟩
  ·exact h
  ·exact absurd h4 (hn y (bK h3))
 clear hr;refine RN 5 E I λa E=>?_;replace E:=E.ef 11;refine SA 3 E I λa w E I=>?_;refine RT 1 E I ?_;exact⟨rfl,I.sub⟩
theorem zn (I:U W w (Tree tq sq T::L)) :
   Calls prog 144 #[pt tq] w λe V=>e=.returned (.int .i64 T.epoch)∧U W V (Tree tq sq T::L):=by
 obtain⟨ad,c,xs,h1,hw,I⟩:=Tree.open I;refine EN func144 ntmps144 rfl rfl λa E=>?_;refine RN 6 E I λa E=>?_;replace E:=E.aN 4;refine RT 7 E I ?_;exact⟨rfl,Tree.same ad c xs I h1 hw⟩
def kE (ad:Option Addr)(n c:Nat)(l:List Br):SP:=λh=>∃ ys:List Bx,(ys.map (·.1)=l∧l.length=n)∧cm [Sl 238 5 ad n c (rows c7 ys),ah bV ys] h
theorem kE.open {l:List Br}(I:U W w (kE ad n c l::L)):∃ ys:List Bx,ys.map (·.1)=l∧l.length=n∧U W w (Sl 238 5 ad n c (rows c7 ys)::ah bV ys::L):=by
 obtain⟨xs,⟨h1,h2⟩,h3⟩:=I.jo (ι:=List Bx) (p:=λxs=>xs.map (·.1)=l∧l.length=n) (B:=λxs h=>cm [Sl 238 5 ad n c (rows c7 xs),ah bV xs] h) (λh ⟨xs,h1,h2⟩=>⟨xs,h1,h2⟩);exact⟨xs,h1,h2,h3.open λ_ h=>h⟩
theorem kE.close {l:List Br}(ys:List Bx)(I:U W w L)[k:fD L (Sl 238 5 ad n c (rows c7 ys)::ah bV ys::L') R](h1:ys.map (·.1)=l)(h2:l.length=n):U W w (kE ad n c l::L') :=
 U.shut (M:=[_,_]) (I.sub (M:=Sl 238 5 ad n c (rows c7 ys)::ah bV ys::L')) (λ_ x=>⟨ys,⟨h1,h2⟩,x⟩)
theorem kE.nil (I:U W w L):U W w (kE none 0 0 []::L):=by
 have h:U W w (Sl 238 5 none 0 0 (rows c7 [])::ah bV []::L):=(I.iI (f:=bV)).bM 238 5 none;exact kE.close [] h rfl rfl
theorem Ue (ys:List Bx)(y:Bx):rows c7 ys++[c7 y].flatten=rows c7 (ys++[y]):=by rw[j9];simp[rows]
theorem CM (ys:List Bx)(x:Br)(ad:Option Addr)(c:Nat):rows c7 ys++[ca x ad c].flatten=rows c7 (ys++[(x,ad,c)]):=Ue ys (x,ad,c)
theorem zo (I:U W w (Tree tq sq T::L)) :
   Calls prog 88 #[pt tq] w λe V=>∃ ad c,e=.returned (.slice ad T.l.length c)∧U W V (kE ad T.l.length c T.l::Tree tq sq T::L):=by
 obtain⟨ad,c,xs,h1,hw,I⟩:=Tree.open I;have cj:xs.length=T.l.length:=by rw[← h1,bd]
 have hT:=hw.most;refine EN func88 ntmps88 rfl rfl λa E=>?_;refine RN 6 E I λa E=>?_;replace E:=E.aN 7;refine RN 5 E I λa E=>?_;replace I:=kE.nil I;refine RN 6 E I λa E=>?_;refine aR (λμ a w=>∃ (k:Nat) (fl:Option Addr) (dC:Nat),(μ=T.l.length-k∧k≤T.l.length)∧Fr a 24 [(3,.slice fl k dC),(11,.slice ad T.l.length c),(12,.int .i64 T.l.length),(13,.int .i64 k)]∧U W w (kE fl k dC (T.l.take k)::aa tq 236 [pt sq,.int .i64 T.most,.slice ad T.l.length c,.int .i64 T.last,.int .i64 T.epoch]::Sl 238 5 ad T.l.length c (rows c7 xs)::ah bV xs::L)) (T.l.length) (⟨0,none,0,⟨by simp,by simp⟩,E.ab [3,11,12,13],I⟩) ?_;clear E I;rintro μ a w ⟨k,fl,dC,⟨rfl,hk⟩,E,I⟩;refine IF 3 E I (λao a E=>?_) λao a E=>?_
 ·
  refine RN 2 E I λa E=>?_;obtain⟨b',dB,rfl,de⟩:=I.bY ad (by omega);obtain⟨⟨x,eD,da⟩,dU⟩:∃ y,xs[k]?=some y:=⟨_,aI (by omega)⟩;have fP:=nV de dU;have iZ:T.l[k]?=some x:=by rw[← h1,bm,dU];rfl
  have ke:=(hw.ok x (bK iZ)).1;refine RN 1 E I λa E=>?_;refine SS E (bT E underlying238 rfl Ty.t238 (fP)) λa E=>?_;refine AL 0 E I λb5 a w E I=>?_;refine SA 0 E I λa w E I=>?_;refine RN 2 E I λa E=>?_;obtain⟨zs,c0,eL,I⟩:=U.Ip (I.pick (ah bV xs)) dU;refine aY 0 E I (Il (x:=x) (av:=eD) (c':=da) I (λV h=>U.lY h) c0 ke) λad2 c2 a w E I=>?_;refine RN 0 E I λa E=>?_;refine cn E rfl I underlying168 Ty.t238 rfl rfl rfl rfl (by decide) (by decide) λIr a w E I ho=>?_;clear ho;obtain⟨ys,jO,l5,I⟩:=kE.open (I.pick (kE fl k dC (T.l.take k)));refine RN 0 E I λa E=>?_;refine cI E rfl I underlying168 Ty.t238 rfl rfl I.ai rfl (by simp[Value.oneCell',ca]) (by decide) (by decide) (by omega) λqK qL a w E I=>?_;have h8:=U.jG (f:=bV) (l:=ys) (x:=(x,ad2,c2)) (I.sub (M:=b9 ad2 x.al.length c2 x.al::ah bV ys::Sl 238 5 qK (k+1) qL (rows c7 ys++[ca x ad2 c2].flatten)::Sl 22 1 eD x.al.length da (zs.map aM)::ah a7 zs::ah bV (xs.eraseIdx k)::aa tq 236 [pt sq,.int .i64 T.most,.slice (some ⟨b',dB,none⟩) T.l.length c,.int .i64 T.last,.int .i64 T.epoch]::Sl 238 5 (some ⟨b',dB,none⟩) T.l.length c (rows c7 xs)::L));rw[CM]at h8;have h9:=kE.close (l:=T.l.take (k+1)) (n:=k+1) (ad:=qK) (c:=qL) (L':=Sl 22 1 eD x.al.length da (zs.map aM)::ah a7 zs::ah bV (xs.eraseIdx k)::aa tq 236 [pt sq,.int .i64 T.most,.slice (some ⟨b',dB,none⟩) T.l.length c,.int .i64 T.last,.int .i64 T.epoch]::Sl 238 5 (some ⟨b',dB,none⟩) T.l.length c (rows c7 xs)::L) (ys++[(x,ad2,c2)]) h8 (by
   have eH:k<T.l.length:=by omega
   rw[cQ,jO,iX eH];rw[aI eH]at iZ;cases iZ;rfl) (by rw[et];omega)
  have fF:=U.Iq (L':=kE qK (k+1) qL (T.l.take (k+1))::aa tq 236 [pt sq,.int .i64 T.most,.slice (some ⟨b',dB,none⟩) T.l.length c,.int .i64 T.last,.int .i64 T.epoch]::Sl 238 5 (some ⟨b',dB,none⟩) T.l.length c (rows c7 xs)::L) h9 dU c0 rfl;replace I:=fF;clear h8 h9 fF;refine RN 3 E I λa E=>?_;exact⟨T.l.length-(k+1),by omega,k+1,_,_,⟨rfl,by omega⟩,E.ab [3,11,12,13],I.sub⟩
 refine RT 3 E I ?_;obtain rfl:k=T.l.length:=by omega
 rw[take_length]at I;refine⟨_,_,rfl,?_⟩;have h6:=Tree.same (tq:=tq) (sq:=sq) (T:=T) (L':=kE fl T.l.length dC T.l::L) ad c xs I h1 hw;exact h6.perm (List.Perm.swap _ _ _)
def Tr.add (T:Tr)(frm:Int)(p:List (List UInt8))(snap:Nat):Tr:={ T with l:=T.l++[⟨T.last+1,frm,p,0,snap⟩],last:=T.last+1 }
def Br.is (y:Br)(frm:Int)(p:List (List UInt8)):Prop:=y.frm=frm∧y.al=p
theorem Is {u v:List (List UInt8)}(h:u.length=v.length):(oZ u v=true)↔u=v:=by
 rw[oZ,← h,Nat.min_self,take_length,h,take_length];simp
theorem It {frm sn:Int}{ad2:Option Addr}{m c2:Nat}(I:U W w (Tree tq sq T::L))(h:T.most≤T.l.length∨m=0) :
   Calls prog 306 #[pt tq,.int .i64 frm,.int .i64 sn,.slice ad2 m c2] w λe V=>e=.returned (.tuple #[.int .i64 0,.bool false])∧U W V (Tree tq sq T::L):=by
 obtain⟨ad,c,xs,h1,hw,I⟩:=Tree.open I;refine EN func306 ntmps306 rfl rfl λa E=>?_;refine bQ 5 [11] [0,1,2,3,4,5,8,9,10,3006,7,1011,12,13,14,15,16,17,18] E I λa w E I hH hC=>?_;refine RH 3 E I hH hC λa E=>?_;replace E:=E.aN 16;refine RH 12 E I hH hC λa E=>?_;refine E.by (s:=28) (λkF E=>?_) (λkF E=>?_)
 ·
  refine RH 4 E I hH hC λa E=>?_;refine RT 4 E I ?_;exact⟨rfl,Tree.same ad c xs I h1 hw⟩
 refine RH 4 E I hH hC λa E=>?_;rw[dk (by omega)]at E;refine RT 4 E I ?_;exact⟨rfl,Tree.same ad c xs I h1 hw⟩
theorem Uf {frm sn:Int}{ad2:Option Addr}{c2 j:Nat}{y:Br}(I:U W w (Tree tq sq T::L))(hp:∀ V,U W V L→kB V ad2 p.length p)(hc:p.length≤c2)(dm:nq p)(hy:T.l[j]?=some y)(vp:y.is frm p) :
   Calls prog 306 #[pt tq,.int .i64 frm,.int .i64 sn,.slice ad2 p.length c2] w λe V=>e=.returned (.tuple #[.int .i64 0,.bool false])∧U W V (Tree tq sq T::L):=by
 obtain⟨ad,c,xs,h1,hw,I⟩:=Tree.open I;have cj:xs.length=T.l.length:=by rw[← h1,bd]
 have hT:=hw.most;have dG:=(a2.1 hy).1;refine EN func306 ntmps306 rfl rfl λa E=>?_;refine bQ 5 [11] [0,1,2,3,4,5,8,9,10,3006,7,1011,12,13,14,15,16,17,18] E I λa w E I hH hC=>?_;refine RH 3 E I hH hC λa E=>?_;replace E:=E.aN 16;refine RH 12 E I hH hC λa E=>?_;refine E.by (s:=28) (λkF E=>?_) (λkF E=>?_)
 ·
  refine RH 4 E I hH hC λa E=>?_;refine RT 4 E I ?_;exact⟨rfl,Tree.same ad c xs I h1 hw⟩
 refine RH 4 E I hH hC λa E=>?_;refine IF 0 E I (λaj a E=>?_) λaj a E=>?_
 ·
  refine RT 3 E I ?_;exact⟨rfl,Tree.same ad c xs I h1 hw⟩
 refine RN 8 E I λa E=>?_;refine aR (λμ a w=>∃ k:Nat,(μ=j-k∧k≤j)∧Fr a 101 [(1,.int .i64 frm),(3,.slice ad2 p.length c2),(36,.slice ad T.l.length c),(37,.int .i64 T.l.length),(38,.int .i64 k)]∧U W w (aa tq 236 [pt sq,.int .i64 T.most,.slice ad T.l.length c,.int .i64 T.last,.int .i64 T.epoch]::Sl 238 5 ad T.l.length c (rows c7 xs)::ah bV xs::L)) (j) (⟨0,⟨by simp,by simp⟩,E.ab [1,3,36,37,38],I.sub⟩) ?_;clear E I;rintro μ a w ⟨k,⟨rfl,hk⟩,E,I⟩;refine RN 3 E I λa E=>?_;rw[dk (by omega)]at E;refine RN 3 E I λa E=>?_;obtain⟨b',dB,rfl,de⟩:=I.bY ad (by omega);obtain⟨⟨x,eD,da⟩,dU⟩:∃ y,xs[k]?=some y:=⟨_,aI (by omega)⟩;have fP:=nV de dU;have iZ:T.l[k]?=some x:=by rw[← h1,bm,dU];rfl
 have ke:=(hw.ok x (bK iZ)).1;have xf:k=j→x=y:=λe=>by rw[e,hy]at iZ;cases iZ;rfl
 refine RN 1 E I λa E=>?_;refine SS E (bT E underlying238 rfl Ty.t238 (fP)) λa E=>?_;refine AL 0 E I λiw a w E I=>?_;refine SA 0 E I λa w E I=>?_;refine BY 6 E I (λdp a E=>?_) λdp a E=>?_
 ·
  refine BY 8 E I (λhS a E=>?_) λhS a E=>?_
  ·
   refine RN 3 E I λa E=>?_;have e9:=ah.oY (I.pick (ah bV xs)) dU;refine CL 0 E I (CH (u:=x.al) (v:=p) I e9.1 (hp _ I.sub) e9.2 hc (by have:=ke.1;omega)) λa w E I=>?_;refine IF 1 E I (λay a E=>?_) λay a E=>?_
   ·
    refine RT 3 E I ?_;exact⟨rfl,Tree.same (some ⟨b',dB,none⟩) c xs I h1 hw⟩
   have bN : k ≠ j := fun e => by
       have zp:x.al=p:=by rw[xf e];exact vp.2
       rw[(Is (by rw[zp])).2 zp]at ay;cases ay
   refine RN 2 E I λa E=>?_;exact⟨j-(k+1),by omega,k+1,⟨rfl,by omega⟩,E.ab [1,3,36,37,38],I.sub⟩
  have bN:k≠j:=λe=>hS (by rw[xf e,vp.2]);refine RN 3 E I λa E=>?_;have e9:=ah.oY (I.pick (ah bV xs)) dU;refine RN 5 E I λa E=>?_;exact⟨j-(k+1),by omega,k+1,⟨rfl,by omega⟩,E.ab [1,3,36,37,38],I.sub⟩
 have bN:k≠j:=λe=>dp (by rw[xf e];exact vp.1);refine RN 11 E I λa E=>?_;have e9:=ah.oY (I.pick (ah bV xs)) dU;refine RN 5 E I λa E=>?_;exact⟨j-(k+1),by omega,k+1,⟨rfl,by omega⟩,E.ab [1,3,36,37,38],I.sub⟩
theorem WT.add {frm:Int}{sn:Nat}(h:WT T)(h1:T.l.length<T.most)(h2:T.last+1<1099511627776)(dm:nq p):WT (T.add frm p sn):=by
 obtain⟨cZ,dT,a3,a4,a5⟩:=h;refine⟨⟨cZ.1,by simp[Tr.add];omega⟩,h2,a3,?_,λx hx=>?_⟩
 ·simp only[Tr.add,cQ,map_cons,map_nil];refine List.pairwise_append.2 ⟨a4,by simp,λu hu v hv=>?_⟩;obtain⟨x,hx,rfl⟩:=c1.1 hu;have:=(a5 x hx).2.2.2;simp at hv;omega
 ·simp only[Tr.add]at hx ⊢;rcases eM.1 hx with hx | hx
  ·obtain⟨b1,b2,b3,b4⟩:=a5 x hx;exact⟨b1,b2,b3,by omega⟩
  ·simp at hx;subst hx;exact⟨dm,Nat.zero_le _,by simp,bf _⟩
theorem Ug {frm:Int}{ad2:Option Addr}{c2 i:Nat}{zs:List ea}{px:aC}(I:U W w (Tree tq sq T::aw sq r A::L))(hr:∀ V,U W V L→iJ V ad2 zs)(hz:zs.map (·.2.2)=p)(hc:p.length≤c2)(dm:nq p)
   (hx:A.au[i]?=some px) (hb:A.n+1<1099511627776) (hl:T.last+1<1099511627776) (bU:∀ y∈T.l,¬ y.is frm p) (hm:T.l.length<T.most) (h0:0<p.length) :
   Calls prog 306 #[pt tq,.int .i64 frm,.int .i64 px.id,.slice ad2 p.length c2] w λe V=>e=.returned (.tuple #[.int .i64 ((T.last+1:Nat):Int),.bool true])∧U W V (Tree tq sq (T.add frm p (A.last+1))::aw sq r (A.add px.g px.p)::L):=by
 obtain⟨ad,c,xs,h1,hw,I⟩:=Tree.open I;have cj:xs.length=T.l.length:=by rw[← h1,bd]
 have hT:=hw.most;have hp:∀ V,U W V L→kB V ad2 p.length p:=λV h=>by
  have:=(hr V h).bb;rw[hz]at this
  rwa [show zs.length=p.length from by rw[← hz,bd]]at this
 refine EN func306 ntmps306 rfl rfl λa E=>?_;refine bQ 5 [11] [0,1,2,3,4,5,8,9,10,3006,7,1011,12,13,14,15,16,17,18] E I λa w E I hH hC=>?_;refine RH 3 E I hH hC λa E=>?_;replace E:=E.aN 16;refine RH 12 E I hH hC λa E=>?_;rw[bn (by omega)]at E;refine RH 4 E I hH hC λa E=>?_;rw[bn (by omega)]at E;refine RN 9 E I λa E=>?_;refine aR (λμ a w=>∃ k:Nat,(μ=T.l.length-k∧k≤T.l.length)∧Fr a 101 [(0,pt tq),(1,.int .i64 frm),(2,.int .i64 px.id),(3,.slice ad2 p.length c2),(36,.slice ad T.l.length c),(37,.int .i64 T.l.length),(38,.int .i64 k)]∧U W w (aa tq 236 [pt sq,.int .i64 T.most,.slice ad T.l.length c,.int .i64 T.last,.int .i64 T.epoch]::Sl 238 5 ad T.l.length c (rows c7 xs)::ah bV xs::aw sq r A::L)) (T.l.length) (⟨0,⟨by simp,by simp⟩,E.ab [0,1,2,3,36,37,38],I.sub⟩) ?_;clear E I;rintro μ a w ⟨k,⟨rfl,hk⟩,E,I⟩;refine IF 3 E I (λao a E=>?_) λao a E=>?_
 ·
  refine RN 2 E I λa E=>?_;obtain⟨b',dB,rfl,de⟩:=I.bY ad (by omega);obtain⟨⟨x,eD,da⟩,dU⟩:∃ y,xs[k]?=some y:=⟨_,aI (by omega)⟩;have fP:=nV de dU;have iZ:T.l[k]?=some x:=by rw[← h1,bm,dU];rfl
  have eC:=bK iZ;have ke:=(hw.ok x eC).1;have Uh:=bU x eC;refine RN 1 E I λa E=>?_;refine SS E (bT E underlying238 rfl Ty.t238 (fP)) λa E=>?_;refine AL 0 E I λiw a w E I=>?_;refine SA 0 E I λa w E I=>?_;refine BY 6 E I (λdp a E=>?_) λdp a E=>?_
  ·
   refine BY 8 E I (λhS a E=>?_) λhS a E=>?_
   ·
    refine RN 3 E I λa E=>?_;have e9:=ah.oY (I.pick (ah bV xs)) dU;refine CL 0 E I (CH (u:=x.al) (v:=p) I e9.1 (hp _ I.sub) e9.2 hc (by have:=ke.1;omega)) λa w E I=>?_;refine IF 1 E I (λay a E=>?_) λay a E=>?_
    ·
     (try simp only at hS);exact absurd ⟨by omega,(Is (by omega)).1 ay⟩ Uh
    refine RN 2 E I λa E=>?_;exact⟨T.l.length-(k+1),by omega,k+1,⟨rfl,by omega⟩,E.ab [0,1,2,3,36,37,38],I.sub⟩
   refine RN 3 E I λa E=>?_;have e9:=ah.oY (I.pick (ah bV xs)) dU;refine RN 5 E I λa E=>?_;exact⟨T.l.length-(k+1),by omega,k+1,⟨rfl,by omega⟩,E.ab [0,1,2,3,36,37,38],I.sub⟩
  refine RN 11 E I λa E=>?_;have e9:=ah.oY (I.pick (ah bV xs)) dU;refine RN 5 E I λa E=>?_;exact⟨T.l.length-(k+1),by omega,k+1,⟨rfl,by omega⟩,E.ab [0,1,2,3,36,37,38],I.sub⟩
 refine CL 6 E I (Ia (I.pick (aw sq r A)) hx hb) λa w E I=>?_;refine RN 9 E I λa E=>?_;replace E:=E.aN 71;refine ST 9 E I (λa w E I=>?_);rw[show ((T.last:Int)+1)=((T.last+1:Nat):Int) from rfl]at I;refine aZ 1 (λw0 V=>V.cell? ⟨tq,2,none⟩=some (.slice ad T.l.length c)∧V.cell? ⟨tq,3,none⟩=some (.int .i64 ((T.last+1:Nat):Int))) [8,11,13,14] [0,1,2,3,5,6,7,9,10,12,3004,3008,1011,1013,1014,1015,16,17,1018] E I λa w E I hH=>?_;have hC:=hH.at w ⟨I.bB rfl,I.bB rfl⟩;refine RH 10 E I hH hC λa E=>?_;refine QH E (λw hc=>ag E (hc.1)) hC λa E=>?_;refine QH E (λw hc=>ag E (hc.2)) hC λa E=>?_;refine RH 0 E I hH hC λa E=>?_;refine aY 0 E I (Ij I (λV h=>hr V h.sub) (by rw[← hz,bd]) (by rw[hz];exact dm)) λl4 g8 a w E I=>?_;replace hC:=hH.at w ⟨I.bB rfl,I.bB rfl⟩;refine RH 1 E I hH hC λa E=>?_;refine cn E rfl I underlying168 Ty.t238 rfl rfl rfl rfl (by decide) (by decide) λb93 a w E I ho=>?_;clear ho;replace hC:=hH.at w ⟨I.bB rfl,I.bB rfl⟩;refine RH 0 E I hH hC λa E=>?_;refine cI E rfl I underlying168 Ty.t238 rfl rfl I.ai rfl (by simp[Value.oneCell']) (by decide) (by decide) (by omega) λxg xh a w E I=>?_;refine ST 2 E I (λa w E I=>?_);refine RT 7 E I ?_;refine⟨rfl,?_⟩;rw[hz]at I;have h8:=U.jG (f:=bV) (l:=xs) (x:=(⟨T.last+1,frm,p,0,A.last+1⟩,l4,g8)) (I.sub (M:=b9 l4 p.length g8 p::ah bV xs::aa tq 236 [pt sq,.int .i64 T.most,.slice xg (T.l.length+1) xh,.int .i64 ((T.last+1:Nat):Int),.int .i64 T.epoch]::Sl 238 5 xg (T.l.length+1) xh (rows c7 xs++[[.int .i64 ((T.last+1:Nat):Int),.int .i64 frm,.slice l4 p.length g8,.int .i64 0,.int .i64 ((A.last+1:Nat):Int)]].flatten)::aw sq r (A.add px.g px.p)::L));have h9:U W w (ah bV (xs++[(⟨T.last+1,frm,p,0,A.last+1⟩,l4,g8)])::aa tq 236 [pt sq,.int .i64 T.most,.slice xg (T.l.length+1) xh,.int .i64 ((T.last+1:Nat):Int),.int .i64 T.epoch]::Sl 238 5 xg (T.l.length+1) xh (rows c7 (xs++[(⟨T.last+1,frm,p,0,A.last+1⟩,l4,g8)]))::aw sq r (A.add px.g px.p)::L):=by
  rw[← CM];exact h8
 exact Tree.close (T:=T.add frm p (A.last+1)) (ad:=xg) (c:=xh) (xs:=xs++[(⟨T.last+1,frm,p,0,A.last+1⟩,l4,g8)]) (n:=T.l.length+1) (most:=T.most) (last:=T.last+1) (epoch:=T.epoch) h9 (by simp[Tr.add,h1]) (hw.add hm hl dm) rfl (by simp[Tr.add]) rfl rfl
def Tr.ix (T:Tr)(k:Nat)(x:Br)(done snap:Nat):Tr:={ T with l:=T.l.set k { x with done:=done,snap:=snap } }
theorem WT.ix {d sn:Nat}(h:WT T)(hx:T.l[k]?=some x)(hd:d≤x.al.length):WT (T.ix k x d sn):=by
 obtain⟨cZ,dT,a3,a4,a5⟩:=h;obtain⟨hi,rfl⟩:=a2.1 hx;refine⟨⟨cZ.1,by simp[Tr.ix];exact cZ.2⟩,dT,a3,?_,λy hy=>?_⟩
 ·have : (T.l.set k { T.l[k] with done := d, snap := sn }).map (·.id) = T.l.map (·.id) := by
   apply ext_getElem?;intro j;simp only[bm,jF];by_cases hj:k=j
   ·subst hj;simp[hi]
   ·rw[ae hj]
  simp only[Tr.ix];rw[this];exact a4
 ·simp only[Tr.ix]at hy ⊢;rcases mem_or_eq_of_mem_set hy with hy | rfl
  ·exact a5 y hy
  ·obtain⟨b1,b2,b3,b4⟩:=a5 _ (getElem_mem hi);exact⟨b1,hd,b3,b4⟩
theorem WT.unique (hw:WT T){j:Nat}{y:Br}(hx:T.l[k]?=some x)(hy:T.l[j]?=some y)(he:y.id=x.id):j=k:=by
 have hp:=List.pairwise_iff_getElem.1 hw.ids;obtain⟨hj,rfl⟩:=a2.1 hy;obtain⟨hk,rfl⟩:=a2.1 hx;rcases Nat.lt_trichotomy j k with hl | hl | hl
 ·have:=hp j k (by simpa using hj) (by simpa using hk) hl;simp at this;omega
 ·exact hl
 ·have:=hp k j (by simpa using hk) (by simpa using hj) hl;simp at this;omega
theorem Iu (I:U W w (Tree tq sq T::L))(hx:T.l[k]?=some x) :
   Calls prog 183 #[pt tq,.int .i64 x.id] w λe V=>e=.returned (.int .i64 k)∧U W V (Tree tq sq T::L):=by
 refine (CK (id:=(x.id:Int)) I).mono λe V ⟨r,h1,h2,h3⟩=>⟨?_,h3⟩;rcases h2 with ⟨_,h4⟩ | ⟨j,y,h4,h5,h6⟩
 ·exact absurd rfl (h4 x (bK hx))
 ·rw[h1,h4,(Tree.wt h3).unique hx h5 (by omega)]
theorem Ui {i:Nat}{px:aC}{d sn:Int}(I:U W w (Tree tq sq T::aw sq r A::L))(hx:T.l[k]?=some x)(bU:d≤x.done∨(x.al.length:Int)<d∨∀ y∈A.au,(y.id:Int)≠sn) :
   Calls prog 186 #[pt tq,.int .i64 x.id,.int .i64 d,.int .i64 sn] w λe V=>e=.returned (.bool false)∧U W V (Tree tq sq T::aw sq r A::L):=by
 have eH:=(a2.1 hx).1;refine EN func186 ntmps186 rfl rfl λa E=>?_;refine CL 5 E I (Iu I hx) λa w E I=>?_;refine RN 3 E I λa E=>?_;obtain⟨ad,c,xs,h1,hw,I⟩:=Tree.open (I.tree tq);obtain⟨eD,da,dU⟩:=CG h1 hx;obtain⟨b',dB,rfl,de⟩:=I.tail.bY ad (by omega);have fP:=nV de dU;have u4:=fP 3 _ rfl;have jP:=fP 2 _ rfl;refine RN 3 E I λa E=>?_;rw[bn (by omega)]at E;refine RN 8 E I λa E=>?_;refine bE E (cS E rfl (s:=15)) (ag E (u4)) rfl λa E=>?_;refine BY 3 E I (λkF a E=>?_) λkF a E=>?_
 ·
  skip
  refine RT 24 E I ?_;exact⟨rfl,Tree.same (L':=aw sq r A::L) (some ⟨b',dB,none⟩) c xs I h1 hw⟩
 refine RN 8 E I λa E=>?_;refine bE E (cS E rfl (s:=27)) (ag E (jP)) rfl λa E=>?_;refine BY 4 E I (λUj a E=>?_) λUj a E=>?_
 ·
  refine RT 11 E I ?_;exact⟨rfl,Tree.same (L':=aw sq r A::L) (some ⟨b',dB,none⟩) c xs I h1 hw⟩
 refine CL 5 E I (Tz (I.pick (aw sq r A)) (by rcases bU with h | h | h;omega;omega;exact h)) λa w E I=>?_;refine RN 2 E I λa E=>?_;replace E:=E.ef 48;refine RT 3 E I ?_;exact⟨rfl,Tree.same (L':=aw sq r A::L) (some ⟨b',dB,none⟩) c xs I h1 hw⟩
end
end
section
def Sn.eu (A:Sn)(id:Nat):Sn:=match A.au.findIdx? (λx=>x.id==id) with
 | some i=>match A.au[i]? with
  | some x=>A.drop i x
  | none=>A
 | none=>A
section
variable {W w:World}{L R:List SP}{tq sq q r n c k:Nat}{ad:Option Addr}{A:Sn}{T:Tr}{x y:Br}{xs:List Bx}{p:List (List UInt8)}
theorem CO {id:Nat}(h:∀ y∈A.au,y.id≠id):A.eu id=A:=by
 have:A.au.findIdx? (λx=>x.id==id)=none:=by rw[List.findIdx?_eq_none_iff];intro y hy;simpa using h y hy
 rw[Sn.eu,this]
theorem xi {i:Nat}{px:aC}(hw:WF A)(hx:A.au[i]?=some px):A.eu px.id=A.drop i px:=by
 obtain⟨hi,he⟩:=a2.1 hx;have:A.au.findIdx? (λx=>x.id==px.id)=some i:=by
  rw[List.findIdx?_eq_some_iff_getElem];refine⟨hi,by simp[he],λj hj=>?_⟩;have dG:j<A.au.length:=by omega
  simp only[Bool.not_eq_true,lx,ne_eq];intro e;have:=hw.ids (aI dG) hx e;omega
 rw[Sn.eu,this];simp only[hx]
theorem zq {id:Nat}(I:U W w (aw q r A::L)) :
   Calls prog 185 #[pt q,.int .i64 id] w λe V=>∃ v,e=.returned (.bool v)∧U W V (aw q r (A.eu id)::L):=by
 by_cases h:∃ px∈A.au,px.id=id
 ·obtain⟨px,h1,rfl⟩:=h;obtain⟨i,hi⟩:=jN.1 h1;have hw:=(aw.open I);obtain⟨_,_,_,_,_,hw,_,_⟩:=hw;refine (TG I hi).mono λe V ⟨h2,h3⟩=>⟨_,h2,?_⟩;rw[xi hw hi];exact h3
 ·have hn:∀ y∈A.au,y.id≠id:=λy hy e=>h ⟨y,hy,e⟩;refine (TH (X:=(id:Int)) I (λy hy e=>hn y hy (by omega))).mono λe V ⟨h2,h3⟩=>⟨_,h2,?_⟩;rw[CO hn];exact h3
theorem Iv {p q r:List Value}{i:Nat}{v:Value}(h:i<q.length):(p++q++r).set (p.length+i) v=p++q.set i v++r:=by
 rw[dv,set_append_right _ _ (by omega),show p.length+i-p.length=i from by omega,set_append_left _ _ h,dv]
theorem Uk {i d:Nat}{px:aC}(I:U W w (Tree tq sq T::aw sq r A::L))(hx:T.l[k]?=some x)(hd:x.done<d)(kf:d≤x.al.length)(hp:A.au[i]?=some px) :
   Calls prog 186 #[pt tq,.int .i64 x.id,.int .i64 d,.int .i64 px.id] w λe V=>e=.returned (.bool true)∧U W V (Tree tq sq (T.ix k x d px.id)::aw sq r (A.eu x.snap)::L):=by
 have eH:=(a2.1 hx).1;have a1:1≤px.refs:=by
  obtain⟨_,_,_,_,_,hw,_,_⟩:=aw.open (I.pick (aw sq r A));exact (hw.lZ px (bK hp)).2.2.1
 refine EN func186 ntmps186 rfl rfl λa E=>?_;refine CL 5 E I (Iu I hx) λa w E I=>?_;refine RN 3 E I λa E=>?_;obtain⟨ad,c,xs,h1,hw,I⟩:=Tree.open (I.tree tq);obtain⟨eD,da,dU⟩:=CG h1 hx;obtain⟨b',dB,rfl,de⟩:=I.tail.bY ad (by omega);have fP:=nV de dU;have u4:=fP 3 _ rfl;have jP:=fP 2 _ rfl;refine RN 3 E I λa E=>?_;rw[bn (by omega)]at E;refine RN 8 E I λa E=>?_;refine bE E (cS E rfl (s:=15)) (ag E (u4)) rfl λa E=>?_;refine RN 3 E I λa E=>?_;rw[bn (by omega)]at E;refine RN 8 E I λa E=>?_;refine bE E (cS E rfl (s:=27)) (ag E (jP)) rfl λa E=>?_;refine RN 4 E I λa E=>?_;rw[bn (by omega)]at E;refine CL 5 E I (Tx (I.pick (aw sq r A)) hp) λa w E I=>?_;refine RN 2 E I λa E=>?_;rw[bn (by omega)]at E;refine RN 2 E I λa E=>?_;have Ul:=I.cC (n:=T.l.length) b' dB (by omega);have Iw:w.drew.cell? ⟨b',dB+k*5+4,none⟩=some (.int .i64 x.snap):=nV Ul dU 4 _ rfl;refine qF 0 (Old w.drew) [7,9,10,11] [0,1,2,4,5,6,8,3003,1007,1009,1010,1011,1012] E I λa E=>?_;replace I:=I.drew;have hH:=Hd.gf I;have hC:=Old.refl w.drew;generalize w.drew=w at I hH hC Iw ⊢;refine RH 11 E I hH hC λa E=>?_;refine SS E (ag E (Iw)) λa E=>?_;refine RH 0 E I hH hC λa E=>?_;refine bg 0 E I (zq (id:=x.snap) (I.pick (aw sq r A))) λ_ a w E I=>?_;refine RN 1 E I λa E=>?_;obtain⟨bb,pre,post,⟨h3,h4,h5,h6⟩,gx⟩:=(I.pick (Sl 238 5 (some ⟨b',dB,none⟩) T.l.length c (rows c7 xs))).lv (by have:=(I.sl (some ⟨b',dB,none⟩)).2;omega);cases h5;replace I:=gx;clear gx;have cj:xs.length=T.l.length:=by rw[← h1,bd]
 have tF:k<xs.length:=by omega
 have gS:xs[k]=(x,eD,da):=(a2.1 dU).2;have iM:(rows c7 xs).length=xs.length*5:=iW r9 xs;refine bQ 0 [8] [0,1,2,4,5,6,7,9,10,11,3003,1008,12,13,1014,15,16,1017] E I λa w E I hH hC=>?_;refine RH 14 E I hH hC λa E=>?_;refine ST 0 E I (λa w E I=>?_) (hlt:=(by simp only[aL];omega));rw[show pre.length+k*5+3=pre.length+(k*5+3) from by omega,Iv (by omega),pX r9 xs ({ x with done:=d },eD,da) tF (by decide) (by rw[gS];rfl)]at I;refine ST 2 E I (λa w E I=>?_) (hlt:=(by simp only[aL,iW r9,br];omega));rw[show pre.length+k*5+4=pre.length+(k*5+4) from by omega,Iv (by simp only[iW r9,br];omega),pX r9 _ ({ x with done:=d,snap:=px.id },eD,da) (by rw[br];exact tF) (by decide) (by rw[getElem_set_self];rfl),set_set]at I;refine RT 2 E I ?_;refine⟨rfl,?_⟩;have h7:=U.iG (n:=T.l.length) (c:=c) (sz:=5) (cs:=rows c7 (xs.set k ({ x with done:=d,snap:=px.id },eD,da))) (I.jD b') (by rw[iW r9,br,cj]) h4 h6;have h8:=(h7.pick (ah bV xs)).fE tF;rw[gS]at h8;have h9:U W w (bV ({ x with done:=d,snap:=px.id },eD,da)::ah bV (xs.eraseIdx k)::_):=h8;have fF:=U.ky tF h9;exact Tree.close (T:=T.ix k x d px.id) (ad:=some ⟨b',pre.length,none⟩) (c:=c) (xs:=xs.set k ({ x with done:=d,snap:=px.id },eD,da)) (n:=T.l.length) (most:=T.most) (last:=T.last) (epoch:=T.epoch) fF (by rw[List.map_set,h1];rfl) (hw.ix hx kf) rfl (by simp[Tr.ix]) rfl rfl
def hU (frm:Int)(p:List (List UInt8))(b:Br)(x:Br):Br:=if x.frm=frm∧b.done<x.done∧x.done≤p.length∧oZ (x.al.take x.done) p=true then x else b
def l6:Br:=⟨0,0,[],0,0⟩
def Tr.fG (T:Tr)(frm:Int)(p:List (List UInt8)):Br:=T.l.foldl (hU frm p) l6
theorem Um {l:List Br}{frm:Int}(h:l[k]?=some x):(l.take (k+1)).foldl (hU frm p) l6=hU frm p ((l.take k).foldl (hU frm p) l6) x:=by
 obtain⟨hk,rfl⟩:=a2.1 h;rw[iX hk,foldl_append];rfl
theorem Ix {frm:Int}{ad2:Option Addr}{c2:Nat}(I:U W w (Tree tq sq T::L))(hp:∀ V,U W V L→kB V ad2 p.length p)(hc:p.length≤c2)(dm:nq p) :
   Calls prog 279 #[pt tq,.int .i64 frm,.slice ad2 p.length c2] w λe V=>∃ ad c,e=.returned (.tuple #[.agg (ca (T.fG frm p) ad c).toArray,.bool (decide (0<(T.fG frm p).done))])∧U W V (Tree tq sq T::L):=by
 have hw:=Tree.wt I;have hT:=hw.most;refine EN func279 ntmps279 rfl rfl λa E=>?_;refine AL 1 E I λcG a w E I=>?_;change U W w (aa cG 238 (ca l6 none 0)::_) at I;refine AL 3 E I λb8 a w E I=>?_;refine SA 0 E I λa w E I=>?_;change U W w (aa b8 238 (ca ((T.l.take 0).foldl (hU frm p) l6) none 0)::_) at I;refine aY 3 E I (zo (I.tree tq)) λad c a w E I=>?_;obtain⟨xs,h1,h2,I⟩:=kE.open I;have cj:xs.length=T.l.length:=by rw[← h1,bd]
 refine RN 2 E I λa E=>?_;refine aR (λμ a w=>∃ (k:Nat) (dV:Option Addr) (cb:Nat),(μ=T.l.length-k∧k≤T.l.length)∧Fr a 52 [(1,.int .i64 frm),(2,.slice ad2 p.length c2),(6,pt cG),(8,pt b8),(13,.slice ad T.l.length c),(14,.int .i64 T.l.length),(15,.int .i64 k)]∧U W w (aa b8 238 (ca ((T.l.take k).foldl (hU frm p) l6) dV cb)::Sl 238 5 ad T.l.length c (rows c7 xs)::ah bV xs::Tree tq sq T::aa cG 238 (ca l6 none 0)::L)) (T.l.length) (⟨0,none,0,⟨by simp,by simp⟩,E.ab [1,2,6,8,13,14,15],I.sub⟩) ?_;clear E I;rintro μ a w ⟨k,dV,cb,⟨rfl,hk⟩,E,I⟩;refine IF 3 E I (λaj a E=>?_) λaj a E=>?_
 ·
  refine RN 2 E I λa E=>?_;obtain⟨b',dB,rfl,de⟩:=I.bY ad (by omega);obtain⟨⟨x,eD,da⟩,dU⟩:∃ y,xs[k]?=some y:=⟨_,aI (by omega)⟩;have fP:=nV de dU;have iZ:T.l[k]?=some x:=by rw[← h1,bm,dU];rfl
  have ke:=hw.ok x (bK iZ);have p3:=Um (frm:=frm) (p:=p) iZ;obtain⟨B,hB⟩:∃ B,(T.l.take k).foldl (hU frm p) l6=B:=⟨_,rfl⟩;rw[hB]at I p3;refine RN 1 E I λa E=>?_;refine SS E (bT E underlying238 rfl Ty.t238 (fP)) λa E=>?_;refine AL 0 E I λkc a w E I=>?_;refine SA 0 E I λa w E I=>?_;refine BY 6 E I (λdp a E=>?_) λdp a E=>?_
  ·
   refine BY 7 E I (λkG a E=>?_) λkG a E=>?_
   ·
    refine BY 7 E I (λtG a E=>?_) λtG a E=>?_
    ·
     refine RN 4 E I λa E=>?_;have e9:=ah.oY (I.pick (ah bV xs)) dU;have xj:=ke.2.1;refine RN 1 E I λa E=>?_;rw[qG,Nat.sub_zero,Nat.sub_zero]at E;rw[show Value.slice eD x.done da=Value.slice eD (x.al.take x.done).length da from by rw[et,Nat.min_eq_left xj]]at E;refine CL 1 E I (CH (u:=x.al.take x.done) (v:=p) (ad:=eD) (c:=da) I (by
      have:=e9.1.take xj
      rwa [show (x.al.take x.done).length=x.done from by rw[et];omega]) (hp _ I.sub) (by rw[et];omega) hc (by rw[et];have:=ke.1.1;omega)) λa w E I=>?_
     refine IF 1 E I (λao a E=>?_) λao a E=>?_
     ·
      have qM:hU frm p B x=x:=ak ⟨by omega,by omega,by omega,ao⟩;refine SA 1 E I λa w E I=>?_;refine RN 2 E I λa E=>?_;exact⟨T.l.length-(k+1),by omega,k+1,_,_,⟨rfl,by omega⟩,E.ab [1,2,6,8,13,14,15],by rw[p3,qM];exact I.sub (M:=aa b8 238 (ca x eD da)::Sl 238 5 (some ⟨b',dB,none⟩) T.l.length c (rows c7 xs)::ah bV xs::Tree tq sq T::aa cG 238 (ca l6 none 0)::L)⟩
     have qM:hU frm p B x=B:=ae (λh=>by rw[h.2.2.2]at ao;cases ao);refine RN 2 E I λa E=>?_;exact⟨T.l.length-(k+1),by omega,k+1,_,_,⟨rfl,by omega⟩,E.ab [1,2,6,8,13,14,15],by rw[p3,qM];exact I.sub (M:=aa b8 238 (ca B dV cb)::Sl 238 5 (some ⟨b',dB,none⟩) T.l.length c (rows c7 xs)::ah bV xs::Tree tq sq T::aa cG 238 (ca l6 none 0)::L)⟩
    have qM:hU frm p B x=B:=ae (by omega);refine RN 4 E I λa E=>?_;have e9:=ah.oY (I.pick (ah bV xs)) dU;have xj:=ke.2.1;refine RN 7 E I λa E=>?_;exact⟨T.l.length-(k+1),by omega,k+1,_,_,⟨rfl,by omega⟩,E.ab [1,2,6,8,13,14,15],by rw[p3,qM];exact I.sub (M:=aa b8 238 (ca B dV cb)::Sl 238 5 (some ⟨b',dB,none⟩) T.l.length c (rows c7 xs)::ah bV xs::Tree tq sq T::aa cG 238 (ca l6 none 0)::L)⟩
   have qM:hU frm p B x=B:=ae (by omega);refine RN 11 E I λa E=>?_;have e9:=ah.oY (I.pick (ah bV xs)) dU;have xj:=ke.2.1;refine RN 7 E I λa E=>?_;exact⟨T.l.length-(k+1),by omega,k+1,_,_,⟨rfl,by omega⟩,E.ab [1,2,6,8,13,14,15],by rw[p3,qM];exact I.sub (M:=aa b8 238 (ca B dV cb)::Sl 238 5 (some ⟨b',dB,none⟩) T.l.length c (rows c7 xs)::ah bV xs::Tree tq sq T::aa cG 238 (ca l6 none 0)::L)⟩
  have qM:hU frm p B x=B:=ae (by omega);refine RN 18 E I λa E=>?_;have e9:=ah.oY (I.pick (ah bV xs)) dU;have xj:=ke.2.1;refine RN 7 E I λa E=>?_;exact⟨T.l.length-(k+1),by omega,k+1,_,_,⟨rfl,by omega⟩,E.ab [1,2,6,8,13,14,15],by rw[p3,qM];exact I.sub (M:=aa b8 238 (ca B dV cb)::Sl 238 5 (some ⟨b',dB,none⟩) T.l.length c (rows c7 xs)::ah bV xs::Tree tq sq T::aa cG 238 (ca l6 none 0)::L)⟩
 refine RN 1 E I λa E=>?_;obtain rfl:k=T.l.length:=by omega
 rw[take_length]at I;rw[show T.l.foldl (hU frm p) l6=T.fG frm p from rfl]at I;refine aZ 0 (λw0 V=>Rd V b8 0 (ca (T.fG frm p) dV cb)) [2,3,4] [1,3000,3002,3003,1004,5] E I λa w E I hH=>?_;have hC:=hH.at w I.ai;refine RH 1 E I hH hC λa E=>?_;refine QH E (λw hc=>bT E underlying238 rfl Ty.t238 (hc)) hC λa E=>?_;refine QH E (λw hc=>ag E (hc 3 _ rfl)) hC λa E=>?_;refine RH 1 E I hH hC λa E=>?_;refine SA 0 E I λa w E I=>?_;replace hC:=hH.at w I.ai;refine RH 1 E I hH hC λa E=>?_;refine RT 0 E I ?_;refine⟨dV,cb,?_,I.sub⟩;rw[show decide ((0:Int)<((T.fG frm p).done:Int))=decide (0<(T.fG frm p).done) from by rw[decide_eq_decide];omega]
def Tr.cut (T:Tr)(wh:Br→Bool):Tr:={ T with l:=T.l.filter (λx=>!wh x),epoch:=T.epoch+if (T.l.filter (λx=>!wh x)).length<T.l.length then 1 else 0 }
def Sn.gH (A:Sn)(l:List Br):Sn:=l.foldl (λA x=>A.eu x.snap) A
theorem Un {A:Sn}{l:List Br}{wh:Br→Bool}(h:l[k]?=some x):A.gH ((l.take (k+1)).filter wh)=if wh x=true then (A.gH ((l.take k).filter wh)).eu x.snap else A.gH ((l.take k).filter wh):=by
 obtain⟨hk,rfl⟩:=a2.1 h;rw[iX hk,List.filter_append];by_cases hw:wh l[k]=true
 ·rw[ak hw,Sn.gH,foldl_append];simp[hw,Sn.gH]
 ·rw[ae hw];simp[hw]
theorem Uo {α:Type}{l:List α}{f:α→Bool}{z:α}(h:l[k]?=some z):(l.take (k+1)).filter f=(l.take k).filter f++if f z=true then [z] else []:=by
 obtain⟨hk,rfl⟩:=a2.1 h;rw[iX hk,List.filter_append];by_cases hw:f l[k]=true <;> simp[hw]
theorem Up (xs:List Bx)(f:Br→Bool):(xs.filter (λz=>f z.1)).map (·.1)=(xs.map (·.1)).filter f:=by
 induction xs with
 | nil=>rfl
 | cons z xs ih =>
  by_cases h:f z.1=true <;> simp[h]at ih ⊢ <;> exact ih
theorem WT.cut (h:WT T)(he:T.epoch+1<1099511627776)(wh:Br→Bool):WT (T.cut wh):=by
 obtain⟨cZ,dT,a3,a4,a5⟩:=h;refine⟨⟨cZ.1,?_⟩,dT,?_,?_,λy hy=>?_⟩
 ·simp only[Tr.cut];exact gN (length_filter_le _ _) cZ.2
 ·simp only[Tr.cut];split <;> omega
 ·simp only[Tr.cut];exact a4.sublist (List.Sublist.map _ List.filter_sublist)
 ·simp only[Tr.cut]at hy ⊢;exact a5 y (List.mem_filter.1 hy).1
class Tl (M L:List SP):Prop where h:∃ K,M.Perm (K++L)
instance Tl.self {L:List SP}:Tl L L:=⟨[],List.Perm.refl _⟩
instance (priority:=low) Tl.cons {A:SP}{M L:List SP}[t:Tl M L]:Tl (A::M) L:=⟨let ⟨K,h⟩:=t.h;⟨A::K,h.cons A⟩⟩
theorem U.Uq {M:List SP}(I:U W w M)(t:Tl M L):U W w L:=let ⟨_,h⟩:=t.h;(I.perm h).drop
def vq (W:World)(N:List SP)(ad:Option Addr)(P:List (List UInt8)):Prop:=∃ zs:List ea,zs.map (·.2.2)=P∧∀ V,U W V N→iJ V ad zs
set_option maxHeartbeats 1000000 in
theorem Iy {wh:Br→Bool}{f:Nat}{us:List Value}(I:U W w (Tree tq sq T::aw sq r A::L))(he:T.epoch+1<1099511627776)(cg:g4 prog f=true)
   (hf:∀ (M:List SP) (V:World) (x:Br) (av:Option Addr) (c':Nat),x∈T.l→U W V M→Tl M L→vq W M av x.al→x.al.length≤c'→nq x.al →
    Calls prog f (List.toArray (.agg (ca x av c').toArray::us)) V λe nr=>e=.returned (.bool (wh x))∧U W nr M) :
   Calls prog 303 #[pt tq,.func (.func f) #[] (List.toArray us)] w λe V=>e=.returned (.int .i64 ((T.l.length-(T.l.filter (λx=>!wh x)).length:Nat):Int)) ∧
    U W V (Tree tq sq (T.cut wh)::aw sq r (A.gH (T.l.filter wh))::L):=by
 obtain⟨ad,c,xs,h1,hw,I⟩:=Tree.open I;have cj:xs.length=T.l.length:=by rw[← h1,bd]
 have hT:=hw.most;have gw:=length_filter_le (λx=>!wh x) T.l;refine EN func303 ntmps303 rfl rfl λa E=>?_;refine RN 6 E I λa E=>?_;replace E:=E.aN 10;refine RN 10 E I λa E=>?_;replace I:U W w (Sl 238 5 none 0 0 (rows c7 ((xs.take 0).filter (λz:Bx=>!wh z.1)))::ah bV ((xs.take 0).filter (λz:Bx=>!wh z.1))::aa tq 236 [pt sq,.int .i64 T.most,.slice ad T.l.length c,.int .i64 T.last,.int .i64 T.epoch]::Sl 238 5 ad T.l.length c (rows c7 xs)::ah bV (xs.drop 0)::aw sq r (A.gH ((T.l.take 0).filter wh))::L):=(I.iI (f:=bV)).bM 238 5 none;refine RN 8 E I λa E=>?_;refine aR (λμ a w=>∃ (k m:Nat) (sa:Option Addr) (nX:Nat),(μ=T.l.length-k∧k≤T.l.length∧m=((xs.take k).filter (λz=>!wh z.1)).length)∧Fr a 59 [(0,pt tq),(1,.func (.func f) #[] (List.toArray us)),(5,.int .i64 T.l.length),(6,.slice sa m nX),(19,.slice ad T.l.length c),(20,.int .i64 T.l.length),(21,.int .i64 k)]∧U W w (Sl 238 5 sa m nX (rows c7 ((xs.take k).filter (λz=>!wh z.1)))::ah bV ((xs.take k).filter (λz=>!wh z.1))::aa tq 236 [pt sq,.int .i64 T.most,.slice ad T.l.length c,.int .i64 T.last,.int .i64 T.epoch]::Sl 238 5 ad T.l.length c (rows c7 xs)::ah bV (xs.drop k)::aw sq r (A.gH ((T.l.take k).filter wh))::L)) (T.l.length) (⟨0,0,none,0,⟨by simp,by simp,by simp⟩,E.ab [0,1,5,6,19,20,21],I.sub⟩) ?_;clear E I;rintro μ a w ⟨k,m,sa,nX,⟨rfl,hk,hm⟩,E,I⟩;refine IF 3 E I (λao a E=>?_) λao a E=>?_
 ·
  refine RN 2 E I λa E=>?_
  obtain ⟨b', dB, gT, de⟩ := I.bY (n := T.l.length) (cs := rows c7 xs) (R := Sl 238 5 sa m nX (rows c7 ((xs.take k).filter (fun z => !wh z.1))) :: ah bV ((xs.take k).filter (fun z => !wh z.1)) :: aa tq 236 [.pointer (some ⟨sq, 0, none⟩), .int .i64 T.most, .slice ad T.l.length c, .int .i64 T.last, .int .i64 T.epoch] :: ah bV (xs.drop k) :: aw sq r (A.gH ((T.l.take k).filter wh)) :: L) (k := ⟨by
      refine List.Perm.trans ?_ (perm_middle (l₁:=[_,_,_]));exact List.Perm.refl _⟩) ad (by omega)
  subst gT;have tF:k<xs.length:=by omega
  obtain⟨⟨x,eD,da⟩,dU⟩:∃ y,xs[k]?=some y:=⟨_,aI tF⟩;have gS:xs[k]=(x,eD,da):=(a2.1 dU).2;have fP:=nV de dU;have iZ:T.l[k]?=some x:=by rw[← h1,bm,dU];rfl
  have ke:=(hw.ok x (bK iZ)).1;have o0:=Un (A:=A) (wh:=wh) iZ;have sb:=Uo (f:=λz:Bx=>!wh z.1) dU;replace I:=(I.pick (ah bV (xs.drop k)));rw[ka tF,gS]at I;replace I:=I.fE (i:=0) (by simp);change U W w (b9 eD x.al.length da x.al::ah bV (xs.drop (k+1))::_) at I;have dW:=(b9.le I).2;refine RN 1 E I λa E=>?_;refine SS E (bT E underlying238 rfl Ty.t238 (fP)) λa E=>?_;refine AL 0 E I λb8 a w E I=>?_;refine SA 0 E I λa w E I=>?_;refine RN 4 E I λa E=>?_;obtain⟨zs,c0,eL,I⟩:=b9.open (I.pick (b9 eD x.al.length da x.al));refine CL 0 E I (hf _ _ x eD da (bK iZ) I inferInstance ⟨zs,c0,λnr h=>U.lY (h.sub (M:=Sl 22 1 eD x.al.length da (zs.map aM)::ah a7 zs::[]))⟩ dW ke) (hf:=cg) λa w E I=>?_;replace I:U W w (b9 eD x.al.length da x.al::_):=U.shut (M:=[_,_]) I (λ_ x=>⟨zs,⟨c0,eL⟩,x⟩);refine IF 0 E I (λay a E=>?_) λay a E=>?_
  ·
   rw[ak ay]at o0;rw[show (!wh (x,eD,da).1)=false from by simp[ay]]at sb;rw[ae (by decide),append_nil]at sb;refine bQ 1 [5] [0,1,2,4,3003,1005,1006] E I λa w E I hH hC=>?_;refine RH 6 E I hH hC λa E=>?_;refine bg 0 E I (zq (id:=x.snap) (I.pick (aw sq r (A.gH ((T.l.take k).filter wh))))) λ_ a w E I=>?_;rw[← o0]at I;refine RN 2 E I λa E=>?_;rw[← sb]at hm I;exact⟨T.l.length-(k+1),by omega,k+1,_,_,_,⟨rfl,by omega,hm⟩,E.ab [0,1,5,6,19,20,21],I.sub⟩
  rw[ae (by rw[ay];decide)]at o0;rw[show (!wh (x,eD,da).1)=true from by simp[ay]]at sb;rw[ak rfl]at sb;refine RN 2 E I λa E=>?_;refine cn E rfl I underlying168 Ty.t238 rfl rfl rfl rfl (by decide) (by decide) λUr a w E I ho=>?_;clear ho;obtain⟨Y,vr⟩:∃ Y,(xs.take k).filter (λz=>!wh z.1)=Y:=⟨_,rfl⟩;rw[vr]at I sb hm;refine RN 0 E I λa E=>?_;refine cI E rfl I underlying168 Ty.t238 rfl rfl I.ai rfl (by simp[Value.oneCell',ca]) (by decide) (by decide) (by have:=length_filter_le (λz:Bx=>!wh z.1) (xs.take k);rw[vr,et]at this;omega) λnY nZ a w E I=>?_;have h8:=U.jG (f:=bV) (l:=Y) (x:=(x,eD,da)) (I.sub (M:=b9 eD x.al.length da x.al::ah bV Y::Sl 238 5 nY (m+1) nZ (rows c7 Y++[ca x eD da].flatten)::aa tq 236 [pt sq,.int .i64 T.most,.slice (some ⟨b',dB,none⟩) T.l.length c,.int .i64 T.last,.int .i64 T.epoch]::Sl 238 5 (some ⟨b',dB,none⟩) T.l.length c (rows c7 xs)::ah bV (xs.drop (k+1))::aw sq r (A.gH ((T.l.take k).filter wh))::L));rw[CM,← sb,← o0]at h8;replace I:=h8;clear h8;refine RN 3 E I λa E=>?_;exact⟨T.l.length-(k+1),by omega,k+1,_,_,_,⟨rfl,by omega,by rw[sb,aL,← hm];rfl⟩,E.ab [0,1,5,6,19,20,21],I.sub⟩
 refine RN 1 E I λa E=>?_;obtain rfl:k=T.l.length:=by omega
 rw[take_length,fX (by omega)]at I;rw[fX (by omega)]at hm;have p4:=Up xs (λx=>!wh x);rw[h1]at p4;have vt:m=(T.l.filter (λx=>!wh x)).length:=by rw[hm,← p4,bd]
 subst vt;refine ST 4 E I (λa w E I=>?_);refine IF 6 E I (λbh a E=>?_) λbh a E=>?_
 ·
  have hlt:(T.l.filter (λx=>!wh x)).length<T.l.length:=by omega
  refine ST 7 E I (λa w E I=>?_);rw[show ((T.epoch:Int)+1)=((T.epoch+1:Nat):Int) from rfl]at I;refine RT 6 E I ?_;refine⟨by rw[show ((T.l.length-(T.l.filter (λx=>!wh x)).length:Nat):Int)=(T.l.length:Int)-((T.l.filter (λx=>!wh x)).length:Int) from by omega],?_⟩;exact Tree.close (T:=T.cut wh) (ad:=sa) (c:=nX) (xs:=xs.filter (λz=>!wh z.1)) (n:=(T.l.filter (λx=>!wh x)).length) (most:=T.most) (last:=T.last) (epoch:=T.epoch+1) I p4 (hw.cut he wh) rfl rfl rfl (by simp only[Tr.cut];rw[ak hlt])
 have hlt:¬ (T.l.filter (λx=>!wh x)).length<T.l.length:=by omega
 refine RT 6 E I ?_;refine⟨by rw[show ((T.l.length-(T.l.filter (λx=>!wh x)).length:Nat):Int)=(T.l.length:Int)-((T.l.filter (λx=>!wh x)).length:Int) from by omega],?_⟩;exact Tree.close (T:=T.cut wh) (ad:=sa) (c:=nX) (xs:=xs.filter (λz=>!wh z.1)) (n:=(T.l.filter (λx=>!wh x)).length) (most:=T.most) (last:=T.last) (epoch:=T.epoch) I p4 (hw.cut he wh) rfl rfl rfl (by simp only[Tr.cut];rw[ae hlt];rfl)
theorem Us (I:U W w (Tree tq sq T::aw sq r A::L))(he:T.epoch+1<1099511627776) :
   Calls prog 320 #[pt tq] w λe V=>e=.returned (.int .i64 T.l.length)∧U W V (Tree tq sq (T.cut λ_=>true)::aw sq r (A.gH T.l)::L):=by
 have hF : ∀ (M : List SP) (V : World) (x : Br) (av : Option Addr) (c' : Nat), x ∈ T.l → U W V M → Tl M L → vq W M av x.al → x.al.length ≤ c' → nq x.al →
     Calls prog 334 (List.toArray [.agg (ca x av c').toArray]) V λe nr=>e=.returned (.bool true)∧U W nr M:=by
  intro L w x av c' _ I _ _ _ _;refine EN func334 ntmps334 rfl rfl λa E=>?_;refine BX 1 E I λb1 a w E I=>?_;refine RT 3 E I ?_;exact⟨rfl,I.sub⟩
 refine EN func320 ntmps320 rfl rfl λa E=>?_;refine CL 4 E I (Iy (wh:=λ_=>true) (us:=[]) I he (by kernel_rfl) hF) λa w E I=>?_;refine RT 1 E I ?_;have e1:T.l.filter (λx=>!(λ_:Br=>true) x)=[]:=by simp
 have e2:T.l.filter (λ_=>true)=T.l:=by simp
 rw[e2]at I;exact⟨by rw[e1];rfl,I⟩
end
end
section
theorem tH (s:ByteArray)(i:Nat):1≤(Utf8.decode s i).2∧(Utf8.decode s i).2≤4:=by
 simp only[Utf8.decode]
 repeat' split
 all_goals simp
def nt (r:Nat):Nat:=if r<0x80 then 1 else if r<0x800 then 2 else if r<0x10000 then 3 else 4
theorem sd (s:ByteArray)(i:Nat):(s.get! i).toNat<256:=(s.get! i).toNat_lt
theorem Iz (s:ByteArray)(i:Nat):nt (Utf8.decode s i).1=(Utf8.decode s i).2∨Utf8.decode s i=(0xFFFD,1):=by
 have h0:=sd s (i+0);have h1:=sd s (i+1);have h2:=sd s (i+2);have h3:=sd s (i+3);simp only[Utf8.decode,Utf8.runeError]
 repeat' split
 all_goals first | (right;rfl) | (left;simp_all [nt];done) | (left;simp_all [nt];(repeat' split) <;> omega)
theorem IA (s:ByteArray)(i:Nat)(h:i<s.size):i+(Utf8.decode s i).2≤s.size:=by
 simp only[Utf8.decode,Utf8.runeError]
 repeat' split
 all_goals simp_all
 all_goals omega
theorem Ut (s:ByteArray)(i:Nat):(Utf8.decode s i).1<1114112:=by
 have h0:=sd s (i+0);have h1:=sd s (i+1);have h2:=sd s (i+2);have h3:=sd s (i+3);simp only[Utf8.decode,Utf8.runeError]
 repeat' split
 all_goals simp_all [Utf8.valid]
 all_goals omega
def eb (s:ByteArray)(pos:Nat):List (Nat×Nat):=if h:pos<s.size then Utf8.decode s pos::eb s (pos+(Utf8.decode s pos).2) else []
termination_by s.size-pos
decreasing_by have:=(tH s pos).1;omega
theorem qN {s:ByteArray}{pos:Nat}(h:pos<s.size):eb s pos=Utf8.decode s pos::eb s (dZ s pos):=by
 rw[eb,dif_pos h,dZ,ak h]
theorem qO {s:ByteArray}{pos:Nat}(h:¬ pos<s.size):eb s pos=[]:=by
 rw[eb,dif_neg h]
theorem Uu (s:ByteArray):∀ n pos,s.size-pos≤n→(eb s pos).length≤n:=by
 intro n
 induction n with
 | zero=>intro pos h;rw[qO (by omega)];simp
 | succ n ih =>
  intro pos h;by_cases hp:pos<s.size
  ·rw[qN hp,e7];have:=(tH s pos).1;have:=ih (dZ s pos) (by rw[dZ,ak hp];omega);omega
  ·rw[qO hp];simp
theorem CP {s:ByteArray}{pos:Nat}(h:pos≤s.size):dZ s pos≤s.size:=by
 by_cases hp:pos<s.size
 ·rw[dZ,ak hp];exact IA s pos hp
 ·rw[dZ,ae hp];exact h
def kg (x:Nat×Nat):Bool:=decide (32≤x.1)&&decide (x.1≠127)
def l7 (x:Nat×Nat):Bool:=!decide (x=(0xFFFD,1))
def o2 (s:ByteArray):Bool:=decide (1≤(eb s 0).length)&&decide ((eb s 0).length≤20)&&(eb s 0).all kg&&(eb s 0).all l7
def mN (s:ByteArray)(n:Int):Int:=if 0≤n then (((eb s 0)[n.toNat]?).map (λx=>(x.1:Int))).getD 0 else 0
structure gy where
 code:Int
 a:Int
 b:Int
 c:Int
structure Pr where
 title:ByteArray
 ops:List gy
abbrev dL (o:gy):List Value:=[.int .i64 o.code,.int .i64 o.a,.int .i64 o.b,.int .i64 o.c]
theorem CQ (o:gy):(dL o).length=4:=rfl
theorem IB (o:gy):∀ v∈dL o,v.oneCell'=true:=by
 intro v hv;simp[dL]at hv;rcases hv with rfl | rfl | rfl | rfl <;> rfl
def eU (x:Int):Prop:=0≤x∧x<32
def dq (x:Int):Prop := -2147483648≤x∧x≤2147483647
def eV (n:Int)(o:gy):Prop :=
 (o.code=0∧o.a=0∧o.b=0∧o.c=0)∨(o.code=1∧eU o.a∧o.c=0)∨(o.code=9∧0≤o.a∧o.a≤n∧o.b=0∧o.c=0)∨(o.code=15∧eU o.a∧o.b=0∧o.c=0) ∨
 (o.code=10∧eU o.a∧0≤o.b∧o.b≤n∧o.c=0)∨((o.code=2∨(11≤o.code∧o.code≤14))∧eU o.a∧eU o.b∧o.c=0)∨(3≤o.code∧o.code≤8∧eU o.a∧eU o.b∧eU o.c)
def qP (o:gy):Prop:=dq o.code∧dq o.a∧dq o.b∧dq o.c
def vu (p:Pr):Prop:=o2 p.title=true∧1≤p.ops.length∧p.ops.length≤64∧∀ o∈p.ops,qP o
def dg (p:Pr):Prop:=vu p∧∀ o∈p.ops,eV p.ops.length o
def hV (x:Int):Int:=IntKind.i32.wrap x
def kh (x:Int):Nat:=(x.emod 32).toNat
theorem xk (x:Int):kh x<32:=by
 have h1:=Int.emod_nonneg x (show (32:Int)≠0 by decide);have h2:=Int.emod_lt_of_pos x (show (0:Int)<32 by decide);show (x%32).toNat<32;omega
def l8 (b:List UInt8)(x:Int):Int:=if 0≤x∧x<b.length then ((b.getD x.toNat 0).toNat:Int) else 0
def iN (k a b:Int):Int:=if k=3 then hV (a+b) else if k=4 then hV (a-b) else if k=5 then hV (a*b) else if k=6 then (if b=0 then 0 else hV (a.tdiv b)) else if k=7 then (if a<b then 1 else 0) else if a=b then 1 else 0
def jt (p:Pr)(fr:Int)(b:List UInt8)(g:Nat→Int)(o:gy):Int :=
 if o.code=1 then hV o.b else if o.code=2 then g o.b.toNat else if o.code=11 then l8 b (g o.b.toNat) else if o.code=12 then g (kh (g o.b.toNat)) else if o.code=14 then mN p.title (g o.b.toNat) else if o.code=15 then hV fr else iN o.code (g o.b.toNat) (g o.c.toNat)
def ej (p:Pr)(fr:Int)(b:List UInt8)(g:Nat→Int)(aT:Nat)(o:gy):(Nat→Int)×Nat×Bool :=
 if o.code=0 then (g,aT+1,false) else if o.code=9 then (g,o.a.toNat,true) else if o.code=10 then (g,if g o.a.toNat=0 then o.b.toNat else aT+1,true) else if o.code=13 then (cd g (kh (g o.a.toNat)) (g o.b.toNat),aT+1,true)
 else (cd g o.a.toNat (jt p fr b g o),aT+1,true)
def p5 (p:Pr)(fr:Int)(b:List UInt8):Nat→(Nat→Int)→Nat→(Nat→Int)
 | 0,g,_=>g
 | n+1,g,aT=>match p.ops[aT]? with
  | none=>g
  | some o=>let r:=ej p fr b g aT o
   if r.2.2 then p5 p fr b n r.1 r.2.1 else r.1
def eW (p:Pr)(fr:Int)(b:List UInt8)(g:Nat→Int):Nat→Int:=p5 p fr b 200 g 0
def foldI (p:Pr)(fr:Int):(Nat→Int)→List (List UInt8)→(Nat→Int)
 | g,[]=>g
 | g,b::l=>foldI p (fr+1) (eW p fr b g) l
theorem CR (p:Pr)(b:List UInt8):∀ (l:List (List UInt8)) (fr:Int) (g:Nat→Int),foldI p fr g (l++[b])=eW p (fr+l.length) b (foldI p fr g l)
 | [],fr,g=>by simp[foldI]
 | x::l,fr,g=>by
  rw[cons_append,foldI,CR p b l,foldI,e7]
  congr 1;omega
def dM (g:Nat→Int):Prop:=∀ c,c<32→dq (g c)
theorem hW {i:Int}(h1:-2147483648≤i)(h2:i≤2147483647):IntKind.i32.wrap i=i:=IntWalk.i32_in _ ⟨h1,h2⟩
theorem xl (x:Int):dq (hV x):=by
 simp only[hV,dq,IntKind.wrap];split <;> simp_all [IntKind.signed,IntKind.bits] <;> omega
def Ro (W:World)(e sz:Nat)(ad:Option Addr)(n c:Nat)(cs:List Value):SP:=λh =>
 (cs.length=n*sz∧n≤c∧(0<n→∃ b off,ad=some ⟨b,off,none⟩∧b<W.heap.size∧Rd W b off cs))∨Sl e sz ad n c cs h
class tI (L:List SP)(W:World)(ad:Option Addr)(n c e sz:outParam Nat)(cs:outParam (List Value))(R:outParam (List SP)):Prop where perm:L.Perm (Ro W e sz ad n c cs::R)
instance tI.head {L W ad n c e sz cs}:tI (Ro W e sz ad n c cs::L) W ad n c e sz cs L:=⟨List.Perm.refl _⟩
instance (priority:=low) tI.tail {A L W ad n c e sz cs R}[h:tI L W ad n c e sz cs R]:tI (A::L) W ad n c e sz cs (A::R) :=
 ⟨(List.Perm.cons A h.perm).trans (List.Perm.swap _ _ _)⟩
section
variable {W w:World}{L R:List SP}{e sz n c:Nat}{ad:Option Addr}{cs:List Value}
theorem U.ro (s:U W w L)(ad:Option Addr)[k:tI L W ad n c e sz cs R]:cs.length=n*sz∧n≤c:=(s.perm k.perm).tell λ_ h=>by
 rcases h with ⟨h1,h2,_⟩ | h
 ·exact⟨h1,h2⟩
 ·exact⟨h.1,h.2.1⟩
theorem U.qQ (s:U W w L)(ad:Option Addr)[k:tI L W ad n c e sz cs R](h0:0<n):∃ b off,ad=some ⟨b,off,none⟩∧Rd w b off cs:=by
 have s':=s.perm k.perm;obtain⟨mE,h,p,h1,h2,d,a,kk,x,q⟩:=s';rcases x with ⟨x1,x2,x3⟩ | x
 ·obtain⟨b,off,rfl,hb,hr⟩:=x3 h0;exact⟨b,off,rfl,λj v hj=>(s.gf (a:=⟨b,off+j,none⟩) hb).trans (hr j v hj)⟩
 ·have s2:U W w (Sl e sz ad n c cs::R):=⟨mE,h,p,h1,h2,d,a,kk,x,q⟩;exact s2.bY ad h0
theorem U.Uv (s:U W w L)(h1:cs.length=n*sz)(h2:n≤c)(h3:0<n→∃ b off,ad=some ⟨b,off,none⟩∧b<W.heap.size∧Rd W b off cs):U W w (Ro W e sz ad n c cs::L) :=
 ⟨s.below,let ⟨h,p,q⟩:=s.sat;⟨h,p,λ_=>none,h,λ_=>.inl rfl,λ_ _ e=>(by cases e),Hp.Sub.refl _,.inl ⟨h1,h2,h3⟩,q⟩⟩
theorem U.CS (s:U W w (Sl e sz ad n c cs::L)):U W w (Ro W e sz ad n c cs::L):=s.imp λ_ ⟨h1,h2,d,a,b,x,q⟩=>⟨h1,h2,d,a,b,.inr x,q⟩
end
theorem vv {w:World}{b off k:Nat}{ops:List gy}{o:gy}(hr:Rd w b off (rows dL ops))(ho:ops[k]?=some o):Rd w b (off+k*4) (dL o):=by
 obtain⟨hi,he⟩:=a2.1 ho;have:=hr.part (k*4) 4;rw[u9 CQ ops k hi,he]at this;exact this
end
end Go.Proofs.YteoldcfapaiobaaGreat
