/- The walks of package snap, further. -/
import Derived.Test.YteoldcfapaiobaaGreatA02Page
import Derived.Test.YteoldcfapaiobaaGreatA01Row
namespace Go.Proofs.YteoldcfapaiobaaGreat
open Tryz
open List (perm_middle nil_append map_cons set_append_right set_append_left cons_append getElem_set_self take_length append_nil ext_getElem? mem_or_eq_of_mem_set getElem_mem set_set map_nil getElem?_set_ne set_getElem_self foldl_append length_filter_le)
open Go.RowKit
set_option linter.unusedVariables false
set_option linter.unusedSimpArgs false
set_option maxRecDepth 10000
set_option synthInstance.maxSize 4000
set_option synthInstance.maxHeartbeats 400000
section
section
variable {W w:World}{L L':List SP}{q r b m i pb:Nat}{A:Sn}{ps:List Pg}{xs:List (aC×Nat)}{x y:aC}
theorem Te {off n c:Nat}{vs:List Value}(I:V W w L)(hr:∀ w',V W w' L→Rd w' b off vs)(hl:vs.length=n)(hn:0<n)(h1:∀ v∈vs,v.oneCell'=true)(hb:n≤1048576) :
   Calls prog 121 #[.slice (some ⟨b,off,none⟩) n c] w λe w'=>∃ ad c',e=.returned (.slice ad n c')∧V W w' (Sl 3 1 ad n c' vs::L):=by
 refine EN func121 ntmps121 rfl rfl λa E=>?_;refine RN 6 E I λa E=>?_;replace E:=E.aN 4;refine RN 2 E I λa E=>?_;refine tc E rfl I underlying53 Ty.t3 rfl λb5 a w E I ho=>?_;clear ho;refine RN 1 E I λa E=>?_;refine cJ E rfl I underlying53 Ty.t3 rfl rfl (hr _ I.tail) (by omega) h1 hn (by decide) (by omega) λrQ qx a w E I=>?_;rw[Nat.zero_add,nil_append] at *;refine RT 1 E I ?_;exact⟨_,_,rfl,I⟩
theorem HZ (I:V W w (aw q r A::L))(hx:A.ar[i]?=some x) :
   Calls prog 85 #[pt q,.int .i64 x.id] w λe w'=>∃ ad c,e=.returned (.slice ad 4 c)∧V W w' (Sl 3 1 ad 4 c (ints .i64 4 (λk=>(x.p k:Int)+1))::aw q r A::L):=by
 obtain⟨b,m,ps,xs,h1,hw,hr,I⟩:=aw.open I;obtain⟨pb,a8⟩:=pP h1 hx;refine EN func85 ntmps85 rfl rfl λa E=>?_;refine CL 5 E I (pQ I h1 hw a8) λa w E I=>?_;refine RN 5 E I λa E=>?_;replace E:=E.aN 10;refine RN 2 E I λa E=>?_;replace I:=I.qA a8;refine a2 4 E I (Te (off:=0) (c:=4) I (λw' h=>h.Ch pb) (di _ _ _) (by decide) td (by decide)) λad c a w E I=>?_;refine RT 1 E I ?_;refine⟨ad,c,rfl,?_⟩;have h4:=aw.tm (A:=A) (B:=A) (q:=q) (r:=r) (last:=A.last) (L':=Sl 3 1 ad 4 c (ints .i64 4 (λk=>(x.p k:Int)+1))::L) (b:=b) (m:=m) (ps:=ps) (pb:=pb) (y:=x) I a8 h1 rfl (wW hx) hw hr;exact h4.perm (List.Perm.swap _ _ _)
theorem y8 (I:V W w (aw q r A::L)) :
   Calls prog 83 #[pt q] w λe w'=>e=.returned (pt r)∧V W w' (aw q r A::L):=by
 obtain⟨b,m,ps,xs,h1,hw,hr,I⟩:=aw.open I;refine EN func83 ntmps83 rfl rfl λa E=>?_;refine RN 6 E I λa E=>?_;replace E:=E.aN 4;refine RT 7 E I ?_;exact⟨rfl,aw.close (b:=b) (m:=m) I h1 hw hr⟩
theorem Cl (I:V W w (aw q r A::L)) :
   Calls prog 84 #[pt r] w λe w'=>e=.returned (.int .i64 A.used)∧V W w' (aw q r A::L):=by
 obtain⟨b,m,ps,xs,h1,hw,hr,I⟩:=aw.open I;refine (HB (I.pick (Room r b ps))).mono λe w' ⟨h2,I⟩=>?_;rw[hr.used]at h2;exact⟨h2,aw.close (b:=b) (m:=m) (ps:=ps) I h1 hw hr⟩
theorem H0 {n:Int}(I:V W w (aw q r A::L)) :
   Calls prog 125 #[pt q,.int .i64 n] w λe w'=>e=.returned (.bool (decide (n≤((A.room-A.used:Nat):Int))))∧V W w' (aw q r A::L):=by
 obtain⟨b,m,ps,xs,h1,hw,hr,I⟩:=aw.open I;refine EN func125 ntmps125 rfl rfl λa E=>?_;refine RN 6 E I λa E=>?_;replace E:=E.eo 7;refine CL 5 E I (Ss (I.pick (Room r b ps))) λa w E I=>?_;refine RT 3 E I ?_;exact⟨by rw[hr.used,hr.len],aw.close (b:=b) (m:=m) (ps:=ps) I h1 hw hr⟩
theorem Tf (I:V W w (aw q r A::L)) :
   Calls prog 82 #[pt q] w λe w'=>∃ ad c,e=.returned (.slice ad A.ar.length c)∧V W w' (Sl 166 1 ad A.ar.length c (A.ar.map λx=>.int .i64 x.id)::aw q r A::L):=by
 obtain⟨b,m,ps,xs,h1,hw,hr,I⟩:=aw.open I;have hlen:(kvs xs).length=A.ar.length:=by rw[← h1];simp[kvs]
 have tp:((kvs xs).map (·.1)).Pairwise (· < ·):=by
  have:(kvs xs).map (·.1)=(A.ar.map (·.id)).map (λn:Nat=>(n:Int)):=by rw[← h1];simp[kvs]
  rw[this,List.pairwise_map];exact hw.sorted.imp λh=>by omega
 have tr:((kvs xs).map λp=>Value.int .i64 p.1)=A.ar.map λx=>Value.int .i64 x.id:=by rw[← h1];simp[kvs]
 refine EN func82 ntmps82 rfl rfl λa E=>?_;refine RN 6 E I λa E=>?_;replace E:=E.aN 4;refine bd 6 E I (SF (m:=m) I) λb8 a w E I=>?_;refine a2 0 E I (SH (m:=m) (kvs:=kvs xs) ((I.pick (mp m (kvs xs))).pick (aa b8 218 [.map (some m)])) tp (by rw[hlen];have:=hw.many;have:=hw.bound;omega)) λad c a w E I=>?_;rw[hlen,tr] at *;refine RT 1 E I ?_;refine⟨ad,c,rfl,?_⟩;have h4:=aw.close (A:=A) (q:=q) (r:=r) (last:=A.last) (xs:=xs) (L':=Sl 166 1 ad A.ar.length c (A.ar.map λx=>.int .i64 x.id)::L) (b:=b) (m:=m) (ps:=ps) I h1 hw hr;exact h4.perm (List.Perm.swap _ _ _)
theorem Tg (I:V W w (aw q r A::L))(hx:A.ar[i]?=some x) :
   Calls prog 290 #[pt q,.int .i64 x.id] w λe w'=>e=.returned (.tuple #[.agg (ints .i32 32 x.g).toArray,.bool true])∧V W w' (aw q r A::L):=by
 refine EN func290 ntmps290 rfl rfl λa E=>?_;refine AL 1 E I λb4 a w E I=>?_;change V W w (aa b4 183 (ints .i32 32 (λ_=>0))::_) at I;refine AL 2 E I λcG a w E I=>?_;change V W w (aa cG 183 (ints .i32 32 (λj=>if j<0 then x.g j else 0))::_) at I;refine RN 2 E I λa E=>?_;obtain⟨b,m,ps,xs,h1,hw,hr,I⟩:=aw.open (I.pick (aw q r A));obtain⟨pb,a8⟩:=pP h1 hx;refine CL 2 E I (pQ I h1 hw a8) λa w E I=>?_;refine RN 1 E I λa E=>?_;replace E:=E.aN 11;refine RN 3 E I λa E=>?_;replace I:=aw.close (A:=A) (q:=q) (r:=r) (last:=A.last) (xs:=xs) (L':=aa cG 183 (ints .i32 32 (λj=>if j<0 then x.g j else 0))::aa b4 183 (ints .i32 32 (λ_=>0))::L) (b:=b) (m:=m) (ps:=ps) I h1 hw hr;refine RN 1 E I λa E=>?_;refine aS (λμ a w=>∃ k:Nat,(μ=32-k∧k≤32)∧Fr a 27 [(0,pt q),(1,.int .i64 x.id),(4,pt b4),(6,pt cG),(13,.int .i64 k)]∧V W w (aa cG 183 (ints .i32 32 (λj=>if j<k then x.g j else 0))::aw q r A::aa b4 183 (ints .i32 32 (λ_=>0))::L)) (32) (⟨0,⟨by simp,by simp⟩,E.ab [0,1,4,6,13],I.sub⟩) ?_;clear E I;rintro μ a w ⟨k,⟨rfl,hk⟩,E,I⟩;refine IF 3 E I (λan a E=>?_) λan a E=>?_
 ·
  refine CL 8 E I (HU (I.pick (aw q r A)) hx (by omega)) λa w E I=>?_;refine ST 4 E I (λa w E I=>?_) (hlt:=(by rw[di];omega))
  rw [ints_set, show (fun i => if i = k then x.g k else if i < k then x.g i else 0) = (fun i => if i < k + 1 then x.g i else 0) from by
      funext i
      by_cases h:i=k
      ·subst h;simp
      ·rw[ae h];by_cases h2:i<k
       ·rw[al h2,al (by omega)]
       ·rw[ae h2,ae (by omega)]]at I
  refine RN 2 E I λa E=>?_;exact⟨32-(k+1),by omega,k+1,⟨rfl,by omega⟩,E.ab [0,1,4,6,13],I.sub⟩
 obtain rfl:k=32:=by omega
 rw[wJ (g':=x.g) (λj hj=>al hj)]at I;refine SA 2 E I λa w E I=>?_;refine RT 1 E I ?_;exact⟨rfl,I.sub⟩
theorem Th (p:Nat):cQ [] p=0:=rfl
theorem Ti {n:Nat}(I:V W w L)(hn:n≤50) :
   Calls prog 89 #[.int .i64 n] w λe w'=>∃ q r,e=.returned (pt q)∧V W w' (aw q r ⟨0,4*n,0,[]⟩::L):=by
 refine EN func89 ntmps89 rfl rfl λa E=>?_;refine RN 6 E I λa E=>?_;rw[show min (max (n:Int) 0) 50=(n:Int) from by omega]at E;refine RN 1 E I λa E=>?_;rw[show (4:Int)*(n:Int)=((4*n:Nat):Int) from by omega]at E;refine a2 0 E I (Sh I (by omega)) λr b a w E I=>?_;refine RN 0 E I λa E=>?_;refine Sv E rfl I rfl λb8 a w E I ho=>?_;clear ho;refine BX 1 E I λj9 a w E I=>?_;refine RT 1 E I ?_;have h7:V W w (ah iJ []::aa j9 221 [pt r,.map (some b8),.int .i64 ((0:Nat):Int)]::mp b8 (kvs [])::Room r b (List.replicate (4*n) rR)::L):=V.iG I;refine⟨j9,r,rfl,aw.close (A:=⟨0,4*n,0,[]⟩) (last:=0) (b:=b) (m:=b8) (xs:=[]) (ps:=List.replicate (4*n) rR) h7 rfl ⟨by simp only;omega,by simp,bh _,by simp,by simp,by simp⟩ ⟨by simp,λp q hq=>?_,by simp⟩⟩;obtain⟨_,rfl⟩:=a1.1 hq;rw[List.getElem_replicate];rfl
theorem Tj {g:Nat→Int}{k:Nat}(I:V W w L)(hk:k<4) :
   Calls prog 127 #[.agg (ints .i32 32 g).toArray,.int .i64 k] w λe w'=>e=.returned (.agg (ints .i32 8 (λj=>g (8*k+j))).toArray)∧V W w' L:=by
 refine EN func127 ntmps127 rfl rfl λa E=>?_;refine BX 1 E I λb2 a w E I=>?_;refine AL 0 E I λb4 a w E I=>?_;change V W w (aa b4 225 (ints .i32 8 (λ_=>0))::_) at I;refine AL 1 E I λb5 a w E I=>?_;change V W w (aa b5 225 (ints .i32 8 (λ_=>0))::_) at I;refine RN 5 E I λa E=>?_;rw[dd (by omega)]at E;refine RN 3 E I λa E=>?_;rw[dd (by omega)]at E;refine RN 1 E I λa E=>?_;have Tk:((ints .i32 32 g).drop (k*8)).take 8=ints .i32 8 (λj=>g (8*k+j)):=by rw[Nat.mul_comm k 8];exact Pz g (by omega)
 refine bL 0 [] [0,1,2,3,1004] E I λa w E I hH U=>?_;refine RH 3 E I hH U λa E=>?_;rw[show ((k:Int)*8)=((k*8:Nat):Int) from by omega]at E;refine QP E (λw=>PC E underlying183 Ty.t21 (by omega)) λa E=>?_;rw[Nat.zero_add,Nat.mul_one]at E;refine RH 0 E I hH U λa E=>?_;refine PD E rfl I underlying270 Ty.t21 rfl (k:=8) (vs:=ints .i32 8 (λj=>g (8*k+j))) (by omega) (by rw[← Tk];exact I.pD 8) (di _ _ _) td (by rw[di,di];decide) λa w E I=>?_;rw[show cC (ints .i32 8 (λ_=>0)) 0 (ints .i32 8 (λj=>g (8*k+j)))=ints .i32 8 (λj=>g (8*k+j)) from by simp[cC,di]]at I;refine SA 2 E I λa w E I=>?_;refine RT 0 E I ?_;exact⟨rfl,I.sub⟩
structure Made (ps:List Pg)(g:Nat→Int)(t:Nat→Nat)(k:Nat)(gf:List Pg):Prop where
 len:gf.length=ps.length
 new:∀ j,j<k→∃ q,gf[t j]?=some q∧q.refs=1∧∀ l,l<8→q.g l=g (8*j+l)
 Cm:∀ j,j<k→∃ q,ps[t j]?=some q∧q.refs=0
 apart:∀ j l,j<k→l<k→t j=t l→j=l
 gq:∀ p,(∀ j,j<k→t j≠p)→gf[p]?=ps[p]?
 used:jF gf=jF ps+k
theorem Made.zero (ps:List Pg)(g:Nat→Int)(t:Nat→Nat):Made ps g t 0 ps:=⟨rfl,λ_ h=>by omega,λ_ h=>by omega,λ_ _ h=>by omega,λ_ _=>rfl,rfl⟩
theorem Made.free {ps gf:List Pg}{g:Nat→Int}{t:Nat→Nat}{k:Nat}(h:Made ps g t k gf)(hu:jF ps+k<ps.length):∃ f,th gf f:=by
 rcases B3 gf with bQ | hf
 ·have:=HY bQ;rw[h.used,h.len]at this;omega
 ·exact hf
theorem Made.step {ps gf:List Pg}{g:Nat→Int}{t:Nat→Nat}{k f:Nat}(h:Made ps g t k gf)(hf:th gf f){g1:Nat→Int}(hg:∀ l,l<8→g1 l=g (8*k+l)) :
   Made ps g (λj=>if j=k then f else t j) (k+1) (gf.set f ⟨g1,1⟩):=by
 obtain⟨iS,jk,_⟩:=hf;have bN:∀ j,j<k→t j≠f:=λj hj e=>by
  obtain⟨q,h1,h2,_⟩:=h.new j hj;rw[e,aO iS]at h1;cases h1;omega
 have y4:ps[f]?=some gf[f]:=by rw[← h.gq f bN,aO iS]
 refine⟨by rw[br];exact h.len,λj hj=>?_,λj hj=>?_,λj l hj hl e=>?_,λp hp=>?_,?_⟩
 ·by_cases pJ:j=k
  ·subst pJ;exact⟨⟨g1,1⟩,by simp[iS],rfl,hg⟩
  ·obtain⟨q,h1,h2,h3⟩:=h.new j (by omega);exact⟨q,by simp only[ae pJ];rw[getElem?_set_ne (Ne.symm (bN j (by omega)))];exact h1,h2,h3⟩
 ·by_cases pJ:j=k
  ·subst pJ;exact⟨_,by simp only[if_true];exact y4,jk⟩
  ·simp only[ae pJ];exact h.Cm j (by omega)
 ·by_cases h1:j=k <;> by_cases h2:l=k
  ·omega
  ·rw[al h1,ae h2]at e;exact absurd e.symm (bN l (by omega))
  ·rw[ae h1,al h2]at e;exact absurd e (bN j (by omega))
  ·rw[ae h1,ae h2]at e;exact h.apart j l (by omega) (by omega) e
 ·have h1:=hp k (by omega);simp only[if_true]at h1;rw[getElem?_set_ne h1];refine h.gq p λj hj e=>?_;have:=hp j (by omega);rw[ae (by omega)]at this;exact this e
 ·have:=List.countP_set (p:=λp:Pg=>decide (0<p.refs)) (a:=⟨g1,1⟩) iS;have hu:=h.used;simp only[jF]at hu ⊢;rw[this,hu];simp[jk,Nat.add_assoc]
theorem Made.rel {ps gf:List Pg}{g:Nat→Int}{t:Nat→Nat}(h:Made ps g t 4 gf)(hr:Rel A ps):Rel (A.add g t) gf:=by
 have hz:∀ j,j<4→cQ A.ar (t j)=0:=λj hj=>by
  obtain⟨q,h1,h2⟩:=h.Cm j hj;rw[← hr.refs _ _ h1];exact h2
 refine⟨h.len.trans hr.len,λp q hq=>?_,λy hy k hk=>?_⟩
 ·simp only[Sn.add,wR,rY,Cb,Nat.add_zero];by_cases hp:∃ j,j<4∧t j=p
  ·obtain⟨j,hj,rfl⟩:=hp;obtain⟨q',h1,h2,_⟩:=h.new j hj;rw[h1]at hq;cases hq;rw[hz j hj,h2,tj];have E:=λl (hl:l<4) (e:t l=t j)=>h.apart l j hl hj e;simp only;rcases (by omega:j=0∨j=1∨j=2∨j=3) with rfl | rfl | rfl | rfl
   ·rw[al rfl,ae (λe=>by have:=E 1 (by omega) e;omega),ae (λe=>by have:=E 2 (by omega) e;omega),ae (λe=>by have:=E 3 (by omega) e;omega)]
   ·rw[al rfl,ae (λe=>by have:=E 0 (by omega) e;omega),ae (λe=>by have:=E 2 (by omega) e;omega),ae (λe=>by have:=E 3 (by omega) e;omega)]
   ·rw[al rfl,ae (λe=>by have:=E 0 (by omega) e;omega),ae (λe=>by have:=E 1 (by omega) e;omega),ae (λe=>by have:=E 3 (by omega) e;omega)]
   ·rw[al rfl,ae (λe=>by have:=E 0 (by omega) e;omega),ae (λe=>by have:=E 1 (by omega) e;omega),ae (λe=>by have:=E 2 (by omega) e;omega)]
  ·have hn:∀ j,j<4→t j≠p:=λj hj e=>hp ⟨j,hj,e⟩;rw[h.gq p hn]at hq;rw[hr.refs p q hq,Ca (x:=⟨A.last+1,1,g,t⟩) hn];rfl
 ·simp only[Sn.add]at hy;rcases eV.1 hy with hy | hy
  ·obtain⟨q,h1,h2⟩:=hr.oP y hy k hk;refine⟨q,?_,h2⟩;rw[h.gq _ λj hj e=>?_]
   ·exact h1
   ·have h3:=hz j hj;have h4:=tk hy (t j);rw[e]at h3 h4;have:=rX (x:=y) hk;omega
  ·simp at hy;subst hy;obtain⟨q,h1,h2,h3⟩:=h.new k hk;exact⟨q,h1,h3⟩
abbrev nd (P:Nat→Int):List Value:=ints .i64 4 P++[.int .i64 0]
theorem Tm (P:Nat→Int):(nd P).length=5:=by simp[nd,di]
theorem Tn {P:Nat→Int}{k:Nat}(h:k<4):(nd P)[k]?=some (.int .i64 (P k)):=by
 rw[nd,lM (by rw[di];exact h),fO _ h]
theorem To {P:Nat→Int}{k:Nat}(v:Int)(h:k<4):(nd P).set k (.int .i64 v)=nd (λj=>if j=k then v else P j):=by
 rw[nd,set_append_left _ _ (by rw[di];exact h),ints_set,nd]
def tP (t:Nat→Nat)(k:Nat):Nat→Int:=λj=>if j<k then (t j:Int)+1 else 0
theorem Tp (t:Nat→Nat)(k f:Nat):(λj=>if j=k then ((f:Int)+1) else tP t k j)=tP (λj=>if j=k then f else t j) (k+1):=by
 funext j
 simp only[tP];by_cases h:j=k
 ·subst h;simp
 ·rw[ae h,ae h];by_cases h2:j<k
  ·rw[al h2,al (by omega)]
  ·rw[ae h2,ae (by omega)]
def nL (g:Nat→Int)(k j:Nat):Nat→Int:=λl=>if l<j then g (8*k+l) else 0
theorem Tq (g:Nat→Int)(k:Nat):nL g k 0=λ_=>0:=by funext l;simp[nL]
theorem Ts (g:Nat→Int)(k j:Nat):(λl=>if l=j then g (8*k+j) else nL g k j l)=nL g k (j+1):=by
 funext l
 simp only[nL];by_cases h:l=j
 ·subst h;simp
 ·rw[ae h];by_cases h2:l<j
  ·rw[al h2,al (by omega)]
  ·rw[ae h2,ae (by omega)]
theorem H2 {g:Nat→Int}(I:V W w (aw q r A::L))(hu:A.used+4≤A.room)(hb:A.n+1<1099511627776) :
   Calls prog 93 #[pt q,.agg (ints .i32 32 g).toArray] w λe w'=>∃ t:Nat→Nat,e=.returned (.tuple #[.int .i64 ((A.last+1:Nat):Int),.bool true]) ∧
    ((∀ j,j<4→t j<A.room∧cQ A.ar (t j)=0)∧∀ j l,j<4→l<4→t j=t l→j=l)∧V W w' (aw q r (A.add g t)::L):=by
 refine EN func93 ntmps93 rfl rfl λa E=>?_;refine BX 1 E I λb3 a w E I=>?_;refine CL 5 E I (H0 (I.pick (aw q r A))) λa w E I=>?_;rw[dd (by omega)]at E;refine RN 1 E I λa E=>?_;replace E:=E.aN 12;refine RN 2 E I λa E=>?_;obtain⟨b,m,ps,xs,h1,hw,hr,I⟩:=aw.open I;have m9:=hr.used;have iK:=hr.len;refine AL 0 E I λcG a w E I=>?_;change V W w (aa cG 232 (nd (tP (λ_=>0) 0))::_) at I;refine RN 3 E I λa E=>?_;refine aS (λμ a w=>∃ (k:Nat) (t:Nat→Nat) (gf:List Pg),(μ=4-k∧k≤4∧Made ps g t k gf)∧Fr a 50 [(0,pt q),(3,pt b3),(6,pt cG),(13,.int .i64 k)]∧V W w (Room r b gf::aa cG 232 (nd (tP t k))::aa b3 183 (ints .i32 32 g)::aa q 221 [pt r,.map (some m),.int .i64 A.last]::mp m (kvs xs)::ah iJ xs::L)) (4) (⟨0,λ_=>0,ps,⟨by simp,by simp,Made.zero _ _ _⟩,E.ab [0,3,6,13],I.sub⟩) ?_;clear E I;rintro μ a w ⟨k,t,gf,⟨rfl,hk,hm⟩,E,I⟩;refine IF 3 E I (λan a E=>?_) λan a E=>?_
 ·
  refine RN 5 E I λa E=>?_;have H3:=hm.used;obtain⟨f,hf⟩:=hm.free (by omega);have aQ:=λ(g1:Nat→Int) h=>hm.step (g1:=g1) hf h;have iS:=hf.1;refine CL 5 E I (HA (I.pick (Room r b gf)) hf) λa w E I=>?_;refine ST 5 E I (λa w E I=>?_) (hlt:=(by rw[Tm];omega));rw[To _ (by omega),Tp]at I;refine CL 3 E I (Tj I (by omega)) λa w E I=>?_;refine RN 1 E I λa E=>?_;refine aS (λμ a w=>∃ j:Nat,(μ=8-j∧j≤8)∧Fr a 50 [(0,pt q),(3,pt b3),(6,pt cG),(7,.int .i64 k),(13,.int .i64 k),(29,.agg (ints .i32 8 (λj=>g (8*k+j))).toArray),(30,.int .i64 j)]∧V W w (Room r b (gf.set f ⟨nL g k j,1⟩)::aa cG 232 (nd (tP (λj=>if j=k then f else t j) (k+1)))::aa b3 183 (ints .i32 32 g)::aa q 221 [pt r,.map (some m),.int .i64 A.last]::mp m (kvs xs)::ah iJ xs::L)) (8) (⟨0,⟨by simp,by simp⟩,E.ab [0,3,6,7,13,29,30],by rw[Tq];rw[show oN=(⟨λ_=>0,1⟩:Pg) from rfl]at I;exact I.sub⟩) ?_;clear E I;rintro μ a w ⟨j,⟨rfl,hj⟩,E,I⟩;refine IF 3 E I (λay a E=>?_) λay a E=>?_
  ·
   refine RN 3 E I λa E=>?_;refine SS E (rI E underlying225 underlying21 rfl Ty.t21 (by omega) (fO _ (by omega))) λa E=>?_;refine bL 2 [7] [0,1,2,4,5,6,8,9,3003,1007,1010] E I λa w E I hH U=>?_;refine RH 9 E I hH U λa E=>?_;refine SS E (ag E (I.bu (Tn (by omega)))) λa E=>?_;rw[show tP (λj=>if j=k then f else t j) (k+1) k=(f:Int)+1 from by simp[tP]]at E;have gw:f<(gf.set f ⟨nL g k j,1⟩).length:=by rw[br];exact iS
   have u6:(gf.set f ⟨nL g k j,1⟩)[f]=⟨nL g k j,1⟩:=by rw[getElem_set_self]
   refine RH 0 E I hH U λa E=>?_;refine CL 0 E I (B2 (I.pick (Room r b (gf.set f ⟨nL g k j,1⟩))) gw (by rw[u6]) (show j<8 by omega)) λa w E I=>?_;rw[u6,set_set,Ts]at I;refine RN 2 E I λa E=>?_;exact⟨8-(j+1),by omega,j+1,⟨rfl,by omega⟩,E.ab [0,3,6,7,13,29,30],I.sub⟩
  obtain rfl:j=8:=by omega
  have Tt:=aQ (nL g k 8) (λl hl=>by simp[nL,hl]);refine RN 2 E I λa E=>?_;exact⟨4-(k+1),by omega,k+1,_,_,⟨rfl,by omega,Tt⟩,E.ab [0,3,6,13],I.sub⟩
 obtain rfl:k=4:=by omega
 have j0:nd (tP t 4)=aC.cells ⟨A.last+1,0,g,t⟩:=by
  rw[nd,aC.cells];rw[wJ (g:=tP t 4) (g':=λk=>(t k:Int)+1) (λj hj=>al hj)];rfl
 rw[j0]at I;have y7:=hw.add hb g t;have y6:=hm.rel hr;refine bd 3 E I (HW (x:=⟨A.last+1,0,g,t⟩) (q:=q) (r:=r) (m:=m) (last:=A.last) (xs:=xs) (L:=Room r b gf::ah iJ xs::L) I.sub (by have:=hw.bound;have:=hw.last;omega) (HV h1 hw)) λpb a w E I=>?_;refine RT 2 E I ?_;refine⟨t,rfl,⟨λj hj=>?_,λj l hj hl e=>hm.apart j l hj hl e⟩,?_⟩
 ·obtain⟨q',h5,h6⟩:=hm.Cm j hj;have h7:=(a1.1 h5).1;exact⟨by omega,by rw[← hr.refs _ _ h5];exact h6⟩
 ·have h6:=V.jB (f:=iJ) (l:=xs) (x:=(⟨A.last+1,1,g,t⟩,pb)) (I.sub (M:=aa pb 232 (aC.cells ⟨A.last+1,1,g,t⟩)::ah iJ xs::aa q 221 [pt r,.map (some m),.int .i64 ((A.last+1:Nat):Int)]::mp m (kvs xs++[(((A.last+1:Nat):Int),pt pb)])::Room r b gf::L));rw[show kvs xs++[(((A.last+1:Nat):Int),Value.pointer (some ⟨pb,0,none⟩))]=kvs (xs++[(⟨A.last+1,1,g,t⟩,pb)]) from by simp[kvs]]at h6;exact aw.close (last:=A.last+1) (b:=b) (m:=m) (xs:=xs++[(⟨A.last+1,1,g,t⟩,pb)]) h6 (by simp[Sn.add,h1]) y7 y6
end
end
section
structure Br where
 id:Nat
 frm:Int
 ak:List (List UInt8)
 done:Nat
 snap:Nat
structure Tr where
 most:Nat
 l:List Br
 last:Nat
 epoch:Nat
def nf (p:List (List UInt8)):Prop:=p.length≤65536∧∀ b∈p,b.length≤1099511627776
abbrev b6 (x:Br)(ad:Option Addr)(c:Nat):List Value:=[.int .i64 x.id,.int .i64 x.frm,.slice ad x.ak.length c,.int .i64 x.done,.int .i64 x.snap]
abbrev Bx:=Br×Option Addr×Nat
abbrev c9 (x:Bx):List Value:=b6 x.1 x.2.1 x.2.2
def bR (x:Bx):SP:=b0 x.2.1 x.1.ak.length x.2.2 x.1.ak
theorem r4 (x:Bx):(c9 x).length=5:=rfl
structure WT (T:Tr):Prop where
 most:T.most≤8∧T.l.length≤T.most
 last:T.last<1099511627776
 epoch:T.epoch<1099511627776
 ids:(T.l.map (·.id)).Pairwise (· < ·)
 ok:∀ x∈T.l,nf x.ak∧x.done≤x.ak.length∧1≤x.id∧x.id≤T.last
def Tree (tq sq:Nat)(T:Tr):SP:=λh=>∃ ad c xs,(xs.map (·.1)=T.l∧WT T) ∧
 ck [aa tq 236 [pt sq,.int .i64 T.most,.slice ad T.l.length c,.int .i64 T.last,.int .i64 T.epoch],Sl 238 5 ad T.l.length c (rows c9 xs),ah bR xs] h
section
variable {W w:World}{L L' R:List SP}{tq sq q r n c k:Nat}{ad:Option Addr}{A:Sn}{T:Tr}{x y:Br}{xs:List Bx}{p:List (List UInt8)}
theorem Tree.open (I:V W w (Tree tq sq T::L)):∃ ad c xs,xs.map (·.1)=T.l∧WT T ∧
   V W w (aa tq 236 [pt sq,.int .i64 T.most,.slice ad T.l.length c,.int .i64 T.last,.int .i64 T.epoch]::Sl 238 5 ad T.l.length c (rows c9 xs)::ah bR xs::L):=by
 obtain⟨⟨ad,c,xs⟩,⟨h1,h2⟩,h4⟩:=I.jj (ι:=Option Addr×Nat×List Bx) (p:=λi=>i.2.2.map (·.1)=T.l∧WT T)
  (B:=λi h=>ck [aa tq 236 [pt sq,.int .i64 T.most,.slice i.1 T.l.length i.2.1,.int .i64 T.last,.int .i64 T.epoch],Sl 238 5 i.1 T.l.length i.2.1 (rows c9 i.2.2),ah bR i.2.2] h)
  (λh ⟨ad,c,xs,h1,h2⟩=>⟨(ad,c,xs),h1,h2⟩)
 exact⟨ad,c,xs,h1,h2,h4.open λ_ h=>h⟩
theorem Tree.close {most last epoch:Nat}(I:V W w L)[k:fD L (aa tq 236 [pt sq,.int .i64 most,.slice ad n c,.int .i64 last,.int .i64 epoch]::Sl 238 5 ad n c (rows c9 xs)::ah bR xs::L') R]
   (h1:xs.map (·.1)=T.l) (h2:WT T) (e1:T.most=most:=by rfl) (e2:T.l.length=n:=by rfl) (e3:T.last=last:=by rfl) (iQ:T.epoch=epoch:=by rfl):V W w (Tree tq sq T::L'):=by
 subst e1 e2 e3 iQ;exact V.shut (M:=[_,_,_]) (I.sub (M:=aa tq 236 [pt sq,.int .i64 T.most,.slice ad T.l.length c,.int .i64 T.last,.int .i64 T.epoch]::Sl 238 5 ad T.l.length c (rows c9 xs)::ah bR xs::L')) (λ_ x=>⟨ad,c,xs,⟨h1,h2⟩,x⟩)
theorem Tree.same (ad:Option Addr)(c:Nat)(xs:List Bx)(I:V W w L)[k:fD L (aa tq 236 [pt sq,.int .i64 T.most,.slice ad T.l.length c,.int .i64 T.last,.int .i64 T.epoch]::Sl 238 5 ad T.l.length c (rows c9 xs)::ah bR xs::L') R]
   (h1:xs.map (·.1)=T.l) (h2:WT T):V W w (Tree tq sq T::L') :=
 V.shut (M:=[_,_,_]) (I.sub (M:=aa tq 236 [pt sq,.int .i64 T.most,.slice ad T.l.length c,.int .i64 T.last,.int .i64 T.epoch]::Sl 238 5 ad T.l.length c (rows c9 xs)::ah bR xs::L')) (λ_ x=>⟨ad,c,xs,⟨h1,h2⟩,x⟩)
class u7 (L:List SP)(tq:Nat)(sq:outParam Nat)(T:outParam Tr)(R:outParam (List SP)):Prop where perm:L.Perm (Tree tq sq T::R)
instance u7.head {L tq sq T}:u7 (Tree tq sq T::L) tq sq T L:=⟨List.Perm.refl _⟩
instance (priority:=low) u7.tail {B L tq sq T R}[h:u7 L tq sq T R]:u7 (B::L) tq sq T (B::R):=⟨(List.Perm.cons B h.perm).trans (List.Perm.swap _ _ _)⟩
theorem V.tree (I:V W w L)(tq:Nat)[k:u7 L tq sq T R]:V W w (Tree tq sq T::R):=I.perm k.perm
theorem Tree.wt (I:V W w (Tree tq sq T::L)):WT T:=by obtain⟨_,_,_,_,h,_⟩:=Tree.open I;exact h
theorem Cn (h1:xs.map (·.1)=T.l)(hx:T.l[k]?=some x):∃ ad c,xs[k]?=some (x,ad,c):=by
 rw[← h1,bn]at hx;obtain⟨⟨y,ad,c⟩,h2,rfl⟩:=Option.map_eq_some_iff.1 hx;exact⟨ad,c,h2⟩
theorem nM {b off:Nat}(hr:Rd w b off (rows c9 xs)){av:Option Addr}{c':Nat}(hx:xs[k]?=some (x,av,c')):Rd w b (off+k*5) (b6 x av c'):=by
 obtain⟨hi,he⟩:=a1.1 hx;have:=hr.part (k*5) 5;rw[uS r4 xs k hi,he]at this;exact this
theorem ah.oQ (I:V W w (ah bR xs::L)){av:Option Addr}{c':Nat}(hx:xs[k]?=some (x,av,c')):ku w av x.ak.length x.ak∧x.ak.length≤c':=by
 obtain⟨hi,he⟩:=a1.1 hx;have h:=I.fE hi;rw[he]at h;have h2:V W w (b0 av x.ak.length c' x.ak::_):=h;exact⟨b0.rd h2,(b0.le h2).2⟩
theorem Tu {s:Nat}{m:Int}(I:V W w L):Calls prog 91 #[pt s,.int .i64 m] w λe w'=>∃ tq,e=.returned (pt tq)∧V W w' (Tree tq s ⟨(min (max m 0) 8).toNat,[],0,0⟩::L):=by
 refine EN func91 ntmps91 rfl rfl λa E=>?_;refine BX 8 E I λj9 a w E I=>?_;refine RT 1 E I ?_;rw[show min (max m 0) 8=(((min (max m 0) 8).toNat:Nat):Int) from by omega]at I;have h:V W w (Sl 238 5 none 0 0 (rows c9 [])::ah bR []::aa j9 236 [pt s,.int .i64 (((min (max m 0) 8).toNat:Nat):Int),.slice none 0 0,.int .i64 ((0:Nat):Int),.int .i64 ((0:Nat):Int)]::L):=(I.iG (f:=bR)).bH 238 5 none;exact⟨j9,rfl,Tree.close (T:=⟨(min (max m 0) 8).toNat,[],0,0⟩) (most:=(min (max m 0) 8).toNat) (ad:=none) (c:=0) (n:=0) (last:=0) (epoch:=0) (xs:=[]) h rfl ⟨⟨by simp only;omega,Nat.zero_le _⟩,by simp,by simp,by simp,by simp⟩⟩
def oR (a b:List (List UInt8)):Bool:=a.take (min a.length b.length)==b.take (min a.length b.length)
theorem Tv {u v:List (List UInt8)}{ad2:Option Addr}{c2:Nat}(dg:ku w ad u.length u)(kV:ku w ad2 v.length v)(an:u.length≤c)(ay:v.length≤c2)(hb:u.length≤1099511627776) :
   Calls prog 295 #[.slice ad u.length c,.slice ad2 v.length c2] w λe w'=>e=.returned (.bool (oR u v))∧w'=w.drew:=by
 obtain⟨W,wO⟩:∃ W,w=W:=⟨w,rfl⟩;have I:V W w []:=wO ▸ V.start w;refine EN func295 ntmps295 rfl rfl λa E=>?_;refine RN 8 E I λa E=>?_;rw[show min (u.length:Int) (v.length:Int)=((min u.length v.length:Nat):Int) from by omega]at E;refine RN 2 E I λa E=>?_;have H4:ku w.drew ad u.length u:=dg;have oH:ku w.drew ad2 v.length v:=kV;refine qv 0 (λ_=>True) [] [0,1,2,3,4,5,1006,7] E I λa E=>?_;replace I:=I.drew;generalize w.drew=w at I H4 oH ⊢;have U:=trivial;have hH:=Hd.any (λ_=>True);refine RH 6 E I hH U λa E=>?_;rw[qw,qw,Nat.sub_zero,Nat.sub_zero,Nat.sub_zero]at E;refine CL 0 E I (R6 (p:=u.take (min u.length v.length)) (q:=v.take (min u.length v.length)) (H4.take (by omega)) (oH.take (by omega)) (by omega)) λa w E hx=>?_;obtain rfl:=hx;refine RN 1 E (V.start _) λa E=>?_;refine RT 0 E (V.start _) ?_;exact⟨rfl,rfl⟩
theorem Co {u v:List (List UInt8)}{ad2:Option Addr}{c2:Nat}(I:V W w L)(dg:ku w ad u.length u)(kV:ku w ad2 v.length v)(an:u.length≤c)(ay:v.length≤c2)(hb:u.length≤1099511627776) :
   Calls prog 295 #[.slice ad u.length c,.slice ad2 v.length c2] w λe w'=>e=.returned (.bool (oR u v))∧V W w' L :=
 (Tv dg kV an ay hb).mono λe w' ⟨h1,h2⟩=>⟨h1,by subst h2;exact I.drew⟩
theorem H5 {m:Nat}{zs:List ea}(I:V W w L)(hr:∀ w',V W w' L→iH w' ad zs)(hm:zs.length=m)(dm:nf (zs.map (·.2.2))) :
   Calls prog 165 #[.slice ad m c] w λe w'=>∃ av c',e=.returned (.slice av m c')∧V W w' (b0 av m c' (zs.map (·.2.2))::L):=by
 obtain⟨H6,Tw⟩:=dm;rw[bf]at H6;refine EN func165 ntmps165 rfl rfl λa E=>?_;refine RN 6 E I λa E=>?_;replace I:=b0.nil I;refine RN 3 E I λa E=>?_;refine aS (λμ a w=>∃ (k:Nat) (fo:Option Addr) (dz:Nat),(μ=m-k∧k≤m)∧Fr a 19 [(3,.slice fo k dz),(6,.slice ad m c),(7,.int .i64 m),(8,.int .i64 k)]∧V W w (b0 fo k dz ((zs.map (·.2.2)).take k)::L)) (m) (⟨0,none,0,⟨by simp,by simp⟩,E.ab [3,6,7,8],I⟩) ?_;clear E I;rintro μ a w ⟨k,fo,dz,⟨rfl,hk⟩,E,I⟩;refine IF 3 E I (λaj a E=>?_) λaj a E=>?_
 ·
  refine RN 2 E I λa E=>?_;obtain⟨b1,o1,rfl,h1⟩:=(hr _ I.tail).1 (by omega);have ep:zs[k]?=some zs[k]:=aO (by omega);have nN:=Tw zs[k].2.2 (c8.2 ⟨zs[k],getElem_mem _,rfl⟩);have lT:=h1 k _ (by rw[bn,ep];rfl);refine RN 1 E I λa E=>?_;refine SS E (ag E (lT)) λa E=>?_;refine a2 3 E I (rP (bs:=zs[k].2.2) I (λw' h=>(hr _ h.tail).2 _ (getElem_mem _)) nN) λlW g9 a w E I=>?_;refine RN 0 E I λa E=>?_;refine cm E rfl I underlying207 Ty.t22 rfl rfl rfl rfl (by decide) (by decide) λTx a w E I ho=>?_;clear ho;obtain⟨ys,jI,lX,I⟩:=b0.open (I.pick (b0 fo k dz ((zs.map (·.2.2)).take k)));refine RN 0 E I λa E=>?_;refine cJ E rfl I underlying207 Ty.t22 rfl rfl I.ai rfl (by simp[Value.oneCell']) (by decide) (by decide) (by omega) λCp Cq a w E I=>?_;have h8:=V.jB (f:=a7) (l:=ys) (x:=(lW,g9,zs[k].2.2)) (I.sub (M:=Sl 5 1 lW zs[k].2.2.length g9 (bc zs[k].2.2)::ah a7 ys::Sl 22 1 Cp (k+1) Cq (ys.map aI++[[.slice lW zs[k].2.2.length g9]].flatten)::L));have h9:V W w (ah a7 (ys++[(lW,g9,zs[k].2.2)])::Sl 22 1 Cp (k+1) Cq ((ys++[(lW,g9,zs[k].2.2)]).map aI)::L):=by
   rw[cU];exact h8
  have eK:k<(zs.map (·.2.2)).length:=by rw[bf];omega
  have fF:=b0.close (p:=(zs.map (·.2.2)).take (k+1)) (ad:=Cp) (n:=k+1) (c:=Cq) (xs:=ys++[(lW,g9,zs[k].2.2)]) (L':=L) h9 (by rw[cU,jI,iU eK];simp) (by rw[en];omega);replace I:=fF;clear h8 h9 fF;refine RN 3 E I λa E=>?_;exact⟨m-(k+1),by omega,k+1,_,_,⟨rfl,by omega⟩,E.ab [3,6,7,8],I⟩
 refine RT 3 E I ?_;obtain rfl:k=m:=by omega
 rw[fX (by rw[bf];omega)]at I;exact⟨_,_,rfl,I⟩
theorem H7 {zs:List ea}{av:Option Addr}{c':Nat}(I:V W w L)(hr:∀ w',V W w' L→iH w' av zs)(hz:zs.map (·.2.2)=x.ak)(dm:nf x.ak) :
   Calls prog 123 #[.agg (b6 x av c').toArray] w λe w'=>∃ ad2 c2,e=.returned (.agg (b6 x ad2 c2).toArray)∧V W w' (b0 ad2 x.ak.length c2 x.ak::L):=by
 have iR:zs.length=x.ak.length:=by rw[← hz,bf]
 refine EN func123 ntmps123 rfl rfl λa E=>?_;refine BX 1 E I λb1 a w E I=>?_;refine AL 0 E I λb2 a w E I=>?_;refine a2 3 E I (H5 I (λw' h=>hr w' h.tail.tail) iR (by rw[hz];exact dm)) λad2 c2 a w E I=>?_;rw[hz]at I;refine ST 1 E I (λa w E I=>?_) (hlt:=(by simp[b6]));refine SA 2 E I λa w E I=>?_;refine RT 0 E I ?_;exact⟨ad2,c2,rfl,I.sub⟩
theorem Tz {b:Nat}{id:Int}{av:Option Addr}{c':Nat}(I:V W w (aa b 2 [.int .i64 id]::L)) :
   Calls prog 212 #[.agg (b6 x av c').toArray,pt b] w λe w'=>e=.returned (.bool (decide ((x.id:Int)=id)))∧V W w' (aa b 2 [.int .i64 id]::L):=by
 refine EN func212 ntmps212 rfl rfl λa E=>?_;refine BX 1 E I λb2 a w E I=>?_;refine RT 7 E I ?_;exact⟨rfl,I.sub⟩
theorem TA {b:Nat}{id:Int}{av:Option Addr}{c':Nat}(I:V W w (aa b 2 [.int .i64 id]::Sl 238 5 av n c' (rows c9 xs)::L))(hb:n≤1048576) :
   Calls prog 211 #[.slice av n c',.func (.func 212) #[] #[pt b]] w λe w' =>
    ∃ r:Int,e=.returned (.int .i64 r)∧((r = -1∧∀ y∈xs,(y.1.id:Int)≠id)∨∃ k y,r=(k:Nat)∧xs[k]?=some y∧(y.1.id:Int)=id)∧V W w' (Sl 238 5 av n c' (rows c9 xs)::L):=by
 have ch:xs.length=n:=by
  have:=(I.tail.sl av).1;rw[iT r4]at this;omega
 refine EN func211 ntmps211 rfl rfl λa E=>?_;refine RN 7 E I λa E=>?_;refine aS (λμ a w=>∃ k:Nat,(μ=n-k∧k≤n∧∀ j y,j<k→xs[j]?=some y→(y.1.id:Int)≠id)∧Fr a 19 [(0,.slice av n c'),(1,.func (.func 212) #[] #[pt b]),(7,.int .i64 n),(8,.int .i64 k)]∧V W w (aa b 2 [.int .i64 id]::Sl 238 5 av n c' (rows c9 xs)::L)) (n) (⟨0,⟨by simp,by simp,by omega⟩,E.ab [0,1,7,8],I⟩) ?_;clear E I;rintro μ a w ⟨k,⟨rfl,hk,bQ⟩,E,I⟩;refine IF 3 E I (λaj a E=>?_) λaj a E=>?_
 ·
  refine RN 5 E I λa E=>?_;obtain⟨b',dG,rfl,cK⟩:=I.tail.bY av (by omega);obtain⟨⟨y,H8,H9⟩,hy⟩:∃ y,xs[k]?=some y:=⟨_,aO (by omega)⟩;have fP:=nM cK hy;refine RN 4 E I λa E=>?_;refine SS E (bO E underlying238 rfl Ty.t238 (fP)) λa E=>?_;refine CL 0 E I (Tz (x:=y) (av:=H8) (c':=H9) I) λa w E I=>?_;refine IF 0 E I (λan a E=>?_) λan a E=>?_
  ·
   skip
   refine RT 3 E I ?_;exact⟨_,rfl,.inr ⟨k,(y,H8,H9),rfl,hy,an⟩,I.tail⟩
  refine RN 2 E I λa E=>?_;refine⟨n-(k+1),by omega,k+1,⟨rfl,by omega,λj z hj hz=>?_⟩,E.ab [0,1,7,8],I⟩;by_cases pJ:j=k
  ·subst pJ;rw[hy]at hz;cases hz;exact an
  ·exact bQ j z (by omega) hz
 refine RT 2 E I ?_;refine⟨-1,rfl,.inl ⟨rfl,λz hz=>?_⟩,I.tail⟩;obtain⟨j,hj⟩:=jH.1 hz;have eO:=(a1.1 hj).1;exact bQ j z (by omega) hj
theorem Cr {id:Int}(I:V W w (Tree tq sq T::L)) :
   Calls prog 183 #[pt tq,.int .i64 id] w λe w' =>
    ∃ r:Int,e=.returned (.int .i64 r)∧((r = -1∧∀ y∈T.l,(y.id:Int)≠id)∨∃ k y,r=(k:Nat)∧T.l[k]?=some y∧(y.id:Int)=id)∧V W w' (Tree tq sq T::L):=by
 refine EN func183 ntmps183 rfl rfl λa E=>?_;refine BX 1 E I λb3 a w E I=>?_;refine RN 5 E I λa E=>?_;replace E:=E.aN 6;refine RN 2 E I λa E=>?_;obtain⟨ad,c,xs,h1,hw,I⟩:=Tree.open (I.tree tq);have hT:=hw.most;refine bd 5 E I (TA (xs:=xs) (b:=b3) (id:=id) (av:=ad) (c':=c) (n:=T.l.length) (L:=aa tq 236 [pt sq,.int .i64 T.most,.slice ad T.l.length c,.int .i64 T.last,.int .i64 T.epoch]::ah bR xs::L) I.sub (by omega)) λr a w E ⟨hr,I⟩=>?_;refine RT 1 E I ?_;refine⟨r,rfl,?_,Tree.same ad c xs I h1 hw⟩;rcases hr with ⟨h2,h3⟩ | ⟨k,y,h2,h3,h4⟩
 ·refine .inl ⟨h2,λy hy=>?_⟩;rw[← h1]at hy;obtain⟨z,hz,rfl⟩:=c8.1 hy;exact h3 z hz
 ·exact .inr ⟨k,y.1,h2,by rw[← h1,bn,h3];rfl,h4⟩
theorem V.Ia (I:V W w (ah bR xs::L)){av:Option Addr}{c':Nat}(hx:xs[k]?=some (x,av,c')):∃ zs:List ea,zs.map (·.2.2)=x.ak∧x.ak.length≤c' ∧
   V W w (Sl 22 1 av x.ak.length c' (zs.map aI)::ah a7 zs::ah bR (xs.eraseIdx k)::L):=by
 obtain⟨hi,he⟩:=a1.1 hx;have h:=I.fE hi;rw[he]at h;have h2:V W w (b0 av x.ak.length c' x.ak::ah bR (xs.eraseIdx k)::L):=h;obtain⟨zs,h3,h4,h5⟩:=b0.open h2;exact⟨zs,h3,(b0.le h2).2,h5⟩
theorem V.Ib {zs:List ea}{av:Option Addr}{c':Nat}(I:V W w L)[kk:fD L (Sl 22 1 av n c' (zs.map aI)::ah a7 zs::ah bR (xs.eraseIdx k)::L') R](hx:xs[k]?=some (x,av,c'))(hz:zs.map (·.2.2)=x.ak)(hn:x.ak.length=n):V W w (ah bR xs::L'):=by
 subst hn;obtain⟨hi,he⟩:=a1.1 hx;have h1:=I.sub (M:=Sl 22 1 av x.ak.length c' (zs.map aI)::ah a7 zs::ah bR (xs.eraseIdx k)::L');have h2:=b0.close (L':=ah bR (xs.eraseIdx k)::L') (p:=x.ak) (ad:=av) (n:=x.ak.length) (c:=c') (xs:=zs) h1 hz rfl;have h3:V W w (bR (x,av,c')::ah bR (xs.eraseIdx k)::L'):=h2;have h4:=V.ko hi h3;rw[← he,set_getElem_self]at h4;exact h4
theorem wX (I:V W w (Tree tq sq T::L))(hx:T.l[k]?=some x) :
   Calls prog 143 #[pt tq,.int .i64 x.id] w λe w'=>∃ ad c,e=.returned (.tuple #[.agg (b6 x ad c).toArray,.bool true])∧V W w' (b0 ad x.ak.length c x.ak::Tree tq sq T::L):=by
 refine EN func143 ntmps143 rfl rfl λa E=>?_;refine AL 1 E I λb4 a w E I=>?_;refine bd 4 E I (Cr (id:=(x.id:Int)) (I.tree tq)) λr a w E ⟨hr,I⟩=>?_;obtain⟨hw,fP⟩:WT T∧r=(k:Nat):=by
  have hw:=Tree.wt I;refine⟨hw,?_⟩;rcases hr with ⟨_,h3⟩ | ⟨j,y,h2,h3,h4⟩
  ·exact absurd rfl (h3 x (bE hx))
  ·have hp:=List.pairwise_iff_getElem.1 hw.ids;obtain⟨hj,rfl⟩:=a1.1 h3;obtain⟨hk,rfl⟩:=a1.1 hx;rcases Nat.lt_trichotomy j k with hl | hl | hl
   ·have:=hp j k (by simpa using hj) (by simpa using hk) hl;simp at this;omega
   ·rw[h2,hl]
   ·have:=hp k j (by simpa using hk) (by simpa using hj) hl;simp at this;omega
 subst fP;have eK:=(a1.1 hx).1;have ka:=(hw.ok x (bE hx)).1;clear hr;refine RN 5 E I λa E=>?_;rw[bq (by omega)]at E;refine RN 2 E I λa E=>?_;obtain⟨ad,c,xs,h1,hw,I⟩:=Tree.open (I.tree tq);obtain⟨eH,de,dV⟩:=Cn h1 hx;obtain⟨b',dG,rfl,cK⟩:=I.tail.bY ad (by omega);have fP:=nM cK dV;refine RN 6 E I λa E=>?_;refine SS E (bO E underlying238 rfl Ty.t238 (fP)) λa E=>?_;obtain⟨zs,c5,eN,I⟩:=V.Ia (I.pick (ah bR xs)) dV;refine a2 0 E I (H7 (x:=x) (av:=eH) (c':=de) I (λw' h=>V.lS h) c5 ka) λad2 c2 a w E I=>?_;refine SA 0 E I λa w E I=>?_;refine RT 1 E I ?_;have h5:=V.Ib (L':=b0 ad2 x.ak.length c2 x.ak::aa tq 236 [pt sq,.int .i64 T.most,.slice (some ⟨b',dG,none⟩) T.l.length c,.int .i64 T.last,.int .i64 T.epoch]::Sl 238 5 (some ⟨b',dG,none⟩) T.l.length c (rows c9 xs)::L) I dV c5 rfl;refine⟨ad2,c2,rfl,?_⟩;have h6:=Tree.same (tq:=tq) (sq:=sq) (T:=T) (L':=b0 ad2 x.ak.length c2 x.ak::L) (some ⟨b',dG,none⟩) c xs h5 h1 hw;exact h6.perm (List.Perm.swap _ _ _)
theorem TB {id:Int}(I:V W w (Tree tq sq T::L))(hn:∀ y∈T.l,(y.id:Int)≠id) :
   Calls prog 143 #[pt tq,.int .i64 id] w λe w'=>e=.returned (.tuple #[.agg (b6 ⟨0,0,[],0,0⟩ none 0).toArray,.bool false])∧V W w' (Tree tq sq T::L):=by
 refine EN func143 ntmps143 rfl rfl λa E=>?_;refine AL 1 E I λb4 a w E I=>?_;refine bd 4 E I (Cr (id:=id) (I.tree tq)) λr a w E ⟨hr,I⟩=>?_;obtain rfl:r = -1:=by
  rcases hr with ⟨h,_⟩ | ⟨j,y,_,h3,h4⟩
  ·exact h
  ·exact absurd h4 (hn y (bE h3))
 clear hr;refine RN 5 E I λa E=>?_;replace E:=E.eo 11;refine SA 3 E I λa w E I=>?_;refine RT 1 E I ?_;exact⟨rfl,I.sub⟩
theorem y9 (I:V W w (Tree tq sq T::L)) :
   Calls prog 144 #[pt tq] w λe w'=>e=.returned (.int .i64 T.epoch)∧V W w' (Tree tq sq T::L):=by
 obtain⟨ad,c,xs,h1,hw,I⟩:=Tree.open I;refine EN func144 ntmps144 rfl rfl λa E=>?_;refine RN 6 E I λa E=>?_;replace E:=E.aN 4;refine RT 7 E I ?_;exact⟨rfl,Tree.same ad c xs I h1 hw⟩
def ky (ad:Option Addr)(n c:Nat)(l:List Br):SP:=λh=>∃ ys:List Bx,(ys.map (·.1)=l∧l.length=n)∧ck [Sl 238 5 ad n c (rows c9 ys),ah bR ys] h
theorem ky.open {l:List Br}(I:V W w (ky ad n c l::L)):∃ ys:List Bx,ys.map (·.1)=l∧l.length=n∧V W w (Sl 238 5 ad n c (rows c9 ys)::ah bR ys::L):=by
 obtain⟨xs,⟨h1,h2⟩,h3⟩:=I.jj (ι:=List Bx) (p:=λxs=>xs.map (·.1)=l∧l.length=n) (B:=λxs h=>ck [Sl 238 5 ad n c (rows c9 xs),ah bR xs] h) (λh ⟨xs,h1,h2⟩=>⟨xs,h1,h2⟩);exact⟨xs,h1,h2,h3.open λ_ h=>h⟩
theorem ky.close {l:List Br}(ys:List Bx)(I:V W w L)[k:fD L (Sl 238 5 ad n c (rows c9 ys)::ah bR ys::L') R](h1:ys.map (·.1)=l)(h2:l.length=n):V W w (ky ad n c l::L') :=
 V.shut (M:=[_,_]) (I.sub (M:=Sl 238 5 ad n c (rows c9 ys)::ah bR ys::L')) (λ_ x=>⟨ys,⟨h1,h2⟩,x⟩)
theorem ky.nil (I:V W w L):V W w (ky none 0 0 []::L):=by
 have h:V W w (Sl 238 5 none 0 0 (rows c9 [])::ah bR []::L):=(I.iG (f:=bR)).bH 238 5 none;exact ky.close [] h rfl rfl
theorem TC (ys:List Bx)(y:Bx):rows c9 ys++[c9 y].flatten=rows c9 (ys++[y]):=by rw[j5];simp[rows]
theorem Cs (ys:List Bx)(x:Br)(ad:Option Addr)(c:Nat):rows c9 ys++[b6 x ad c].flatten=rows c9 (ys++[(x,ad,c)]):=TC ys (x,ad,c)
theorem za (I:V W w (Tree tq sq T::L)) :
   Calls prog 88 #[pt tq] w λe w'=>∃ ad c,e=.returned (.slice ad T.l.length c)∧V W w' (ky ad T.l.length c T.l::Tree tq sq T::L):=by
 obtain⟨ad,c,xs,h1,hw,I⟩:=Tree.open I;have ch:xs.length=T.l.length:=by rw[← h1,bf]
 have hT:=hw.most;refine EN func88 ntmps88 rfl rfl λa E=>?_;refine RN 6 E I λa E=>?_;replace E:=E.aN 7;refine RN 5 E I λa E=>?_;replace I:=ky.nil I;refine RN 6 E I λa E=>?_;refine aS (λμ a w=>∃ (k:Nat) (fo:Option Addr) (dz:Nat),(μ=T.l.length-k∧k≤T.l.length)∧Fr a 24 [(3,.slice fo k dz),(11,.slice ad T.l.length c),(12,.int .i64 T.l.length),(13,.int .i64 k)]∧V W w (ky fo k dz (T.l.take k)::aa tq 236 [pt sq,.int .i64 T.most,.slice ad T.l.length c,.int .i64 T.last,.int .i64 T.epoch]::Sl 238 5 ad T.l.length c (rows c9 xs)::ah bR xs::L)) (T.l.length) (⟨0,none,0,⟨by simp,by simp⟩,E.ab [3,11,12,13],I⟩) ?_;clear E I;rintro μ a w ⟨k,fo,dz,⟨rfl,hk⟩,E,I⟩;refine IF 3 E I (λan a E=>?_) λan a E=>?_
 ·
  refine RN 2 E I λa E=>?_;obtain⟨b',dG,rfl,cK⟩:=I.bY ad (by omega);obtain⟨⟨x,eH,de⟩,dV⟩:∃ y,xs[k]?=some y:=⟨_,aO (by omega)⟩;have fP:=nM cK dV;have iW:T.l[k]?=some x:=by rw[← h1,bn,dV];rfl
  have ka:=(hw.ok x (bE iW)).1;refine RN 1 E I λa E=>?_;refine SS E (bO E underlying238 rfl Ty.t238 (fP)) λa E=>?_;refine AL 0 E I λb5 a w E I=>?_;refine SA 0 E I λa w E I=>?_;refine RN 2 E I λa E=>?_;obtain⟨zs,c5,eN,I⟩:=V.Ia (I.pick (ah bR xs)) dV;refine a2 0 E I (H7 (x:=x) (av:=eH) (c':=de) I (λw' h=>V.lS h) c5 ka) λad2 c2 a w E I=>?_;refine RN 0 E I λa E=>?_;refine cm E rfl I underlying168 Ty.t238 rfl rfl rfl rfl (by decide) (by decide) λIc a w E I ho=>?_;clear ho;obtain⟨ys,jI,lX,I⟩:=ky.open (I.pick (ky fo k dz (T.l.take k)));refine RN 0 E I λa E=>?_;refine cJ E rfl I underlying168 Ty.t238 rfl rfl I.ai rfl (by simp[Value.oneCell',b6]) (by decide) (by decide) (by omega) λqB qC a w E I=>?_;have h8:=V.jB (f:=bR) (l:=ys) (x:=(x,ad2,c2)) (I.sub (M:=b0 ad2 x.ak.length c2 x.ak::ah bR ys::Sl 238 5 qB (k+1) qC (rows c9 ys++[b6 x ad2 c2].flatten)::Sl 22 1 eH x.ak.length de (zs.map aI)::ah a7 zs::ah bR (xs.eraseIdx k)::aa tq 236 [pt sq,.int .i64 T.most,.slice (some ⟨b',dG,none⟩) T.l.length c,.int .i64 T.last,.int .i64 T.epoch]::Sl 238 5 (some ⟨b',dG,none⟩) T.l.length c (rows c9 xs)::L));rw[Cs]at h8;have h9:=ky.close (l:=T.l.take (k+1)) (n:=k+1) (ad:=qB) (c:=qC) (L':=Sl 22 1 eH x.ak.length de (zs.map aI)::ah a7 zs::ah bR (xs.eraseIdx k)::aa tq 236 [pt sq,.int .i64 T.most,.slice (some ⟨b',dG,none⟩) T.l.length c,.int .i64 T.last,.int .i64 T.epoch]::Sl 238 5 (some ⟨b',dG,none⟩) T.l.length c (rows c9 xs)::L) (ys++[(x,ad2,c2)]) h8 (by
   have eK:k<T.l.length:=by omega
   rw[cU,jI,iU eK];rw[aO eK]at iW;cases iW;rfl) (by rw[en];omega)
  have fF:=V.Ib (L':=ky qB (k+1) qC (T.l.take (k+1))::aa tq 236 [pt sq,.int .i64 T.most,.slice (some ⟨b',dG,none⟩) T.l.length c,.int .i64 T.last,.int .i64 T.epoch]::Sl 238 5 (some ⟨b',dG,none⟩) T.l.length c (rows c9 xs)::L) h9 dV c5 rfl;replace I:=fF;clear h8 h9 fF;refine RN 3 E I λa E=>?_;exact⟨T.l.length-(k+1),by omega,k+1,_,_,⟨rfl,by omega⟩,E.ab [3,11,12,13],I.sub⟩
 refine RT 3 E I ?_;obtain rfl:k=T.l.length:=by omega
 rw[take_length]at I;refine⟨_,_,rfl,?_⟩;have h6:=Tree.same (tq:=tq) (sq:=sq) (T:=T) (L':=ky fo T.l.length dz T.l::L) ad c xs I h1 hw;exact h6.perm (List.Perm.swap _ _ _)
def Tr.add (T:Tr)(frm:Int)(p:List (List UInt8))(snap:Nat):Tr:={ T with l:=T.l++[⟨T.last+1,frm,p,0,snap⟩],last:=T.last+1 }
def Br.is (y:Br)(frm:Int)(p:List (List UInt8)):Prop:=y.frm=frm∧y.ak=p
theorem Ie {u v:List (List UInt8)}(h:u.length=v.length):(oR u v=true)↔u=v:=by
 rw[oR,← h,Nat.min_self,take_length,h,take_length];simp
theorem Ig {frm sn:Int}{ad2:Option Addr}{m c2:Nat}(I:V W w (Tree tq sq T::L))(h:T.most≤T.l.length∨m=0) :
   Calls prog 306 #[pt tq,.int .i64 frm,.int .i64 sn,.slice ad2 m c2] w λe w'=>e=.returned (.tuple #[.int .i64 0,.bool false])∧V W w' (Tree tq sq T::L):=by
 obtain⟨ad,c,xs,h1,hw,I⟩:=Tree.open I;refine EN func306 ntmps306 rfl rfl λa E=>?_;refine bL 5 [11] [0,1,2,3,4,5,8,9,10,3006,7,1011,12,13,14,15,16,17,18] E I λa w E I hH U=>?_;refine RH 3 E I hH U λa E=>?_;replace E:=E.aN 16;refine RH 12 E I hH U λa E=>?_;refine E.by (s:=28) (λkz E=>?_) (λkz E=>?_)
 ·
  refine RH 4 E I hH U λa E=>?_;refine RT 4 E I ?_;exact⟨rfl,Tree.same ad c xs I h1 hw⟩
 refine RH 4 E I hH U λa E=>?_;rw[dd (by omega)]at E;refine RT 4 E I ?_;exact⟨rfl,Tree.same ad c xs I h1 hw⟩
theorem TD {frm sn:Int}{ad2:Option Addr}{c2 j:Nat}{y:Br}(I:V W w (Tree tq sq T::L))(hp:∀ w',V W w' L→ku w' ad2 p.length p)(hc:p.length≤c2)(dm:nf p)(hy:T.l[j]?=some y)(u9:y.is frm p) :
   Calls prog 306 #[pt tq,.int .i64 frm,.int .i64 sn,.slice ad2 p.length c2] w λe w'=>e=.returned (.tuple #[.int .i64 0,.bool false])∧V W w' (Tree tq sq T::L):=by
 obtain⟨ad,c,xs,h1,hw,I⟩:=Tree.open I;have ch:xs.length=T.l.length:=by rw[← h1,bf]
 have hT:=hw.most;have eO:=(a1.1 hy).1;refine EN func306 ntmps306 rfl rfl λa E=>?_;refine bL 5 [11] [0,1,2,3,4,5,8,9,10,3006,7,1011,12,13,14,15,16,17,18] E I λa w E I hH U=>?_;refine RH 3 E I hH U λa E=>?_;replace E:=E.aN 16;refine RH 12 E I hH U λa E=>?_;refine E.by (s:=28) (λkz E=>?_) (λkz E=>?_)
 ·
  refine RH 4 E I hH U λa E=>?_;refine RT 4 E I ?_;exact⟨rfl,Tree.same ad c xs I h1 hw⟩
 refine RH 4 E I hH U λa E=>?_;refine IF 0 E I (λaj a E=>?_) λaj a E=>?_
 ·
  refine RT 3 E I ?_;exact⟨rfl,Tree.same ad c xs I h1 hw⟩
 refine RN 8 E I λa E=>?_;refine aS (λμ a w=>∃ k:Nat,(μ=j-k∧k≤j)∧Fr a 101 [(1,.int .i64 frm),(3,.slice ad2 p.length c2),(36,.slice ad T.l.length c),(37,.int .i64 T.l.length),(38,.int .i64 k)]∧V W w (aa tq 236 [pt sq,.int .i64 T.most,.slice ad T.l.length c,.int .i64 T.last,.int .i64 T.epoch]::Sl 238 5 ad T.l.length c (rows c9 xs)::ah bR xs::L)) (j) (⟨0,⟨by simp,by simp⟩,E.ab [1,3,36,37,38],I.sub⟩) ?_;clear E I;rintro μ a w ⟨k,⟨rfl,hk⟩,E,I⟩;refine RN 3 E I λa E=>?_;rw[dd (by omega)]at E;refine RN 3 E I λa E=>?_;obtain⟨b',dG,rfl,cK⟩:=I.bY ad (by omega);obtain⟨⟨x,eH,de⟩,dV⟩:∃ y,xs[k]?=some y:=⟨_,aO (by omega)⟩;have fP:=nM cK dV;have iW:T.l[k]?=some x:=by rw[← h1,bn,dV];rfl
 have ka:=(hw.ok x (bE iW)).1;have wY:k=j→x=y:=λe=>by rw[e,hy]at iW;cases iW;rfl
 refine RN 1 E I λa E=>?_;refine SS E (bO E underlying238 rfl Ty.t238 (fP)) λa E=>?_;refine AL 0 E I λcY a w E I=>?_;refine SA 0 E I λa w E I=>?_;refine BY 6 E I (λdE a E=>?_) λdE a E=>?_
 ·
  refine BY 8 E I (λhS a E=>?_) λhS a E=>?_
  ·
   refine RN 3 E I λa E=>?_;have fG:=ah.oQ (I.pick (ah bR xs)) dV;refine CL 0 E I (Co (u:=x.ak) (v:=p) I fG.1 (hp _ I.sub) fG.2 hc (by have:=ka.1;omega)) λa w E I=>?_;refine IF 1 E I (λay a E=>?_) λay a E=>?_
   ·
    refine RT 3 E I ?_;exact⟨rfl,Tree.same (some ⟨b',dG,none⟩) c xs I h1 hw⟩
   have bN : k ≠ j := fun e => by
       have zb:x.ak=p:=by rw[wY e];exact u9.2
       rw[(Ie (by rw[zb])).2 zb]at ay;cases ay
   refine RN 2 E I λa E=>?_;exact⟨j-(k+1),by omega,k+1,⟨rfl,by omega⟩,E.ab [1,3,36,37,38],I.sub⟩
  have bN:k≠j:=λe=>hS (by rw[wY e,u9.2]);refine RN 3 E I λa E=>?_;have fG:=ah.oQ (I.pick (ah bR xs)) dV;refine RN 5 E I λa E=>?_;exact⟨j-(k+1),by omega,k+1,⟨rfl,by omega⟩,E.ab [1,3,36,37,38],I.sub⟩
 have bN:k≠j:=λe=>dE (by rw[wY e];exact u9.1);refine RN 11 E I λa E=>?_;have fG:=ah.oQ (I.pick (ah bR xs)) dV;refine RN 5 E I λa E=>?_;exact⟨j-(k+1),by omega,k+1,⟨rfl,by omega⟩,E.ab [1,3,36,37,38],I.sub⟩
theorem WT.add {frm:Int}{sn:Nat}(h:WT T)(h1:T.l.length<T.most)(h2:T.last+1<1099511627776)(dm:nf p):WT (T.add frm p sn):=by
 obtain⟨dD,dU,a3,a4,a5⟩:=h;refine⟨⟨dD.1,by simp[Tr.add];omega⟩,h2,a3,?_,λx hx=>?_⟩
 ·simp only[Tr.add,cU,map_cons,map_nil];refine List.pairwise_append.2 ⟨a4,by simp,λu hu v hv=>?_⟩;obtain⟨x,hx,rfl⟩:=c8.1 hu;have:=(a5 x hx).2.2.2;simp at hv;omega
 ·simp only[Tr.add]at hx ⊢;rcases eV.1 hx with hx | hx
  ·obtain⟨b1,b2,b3,b4⟩:=a5 x hx;exact⟨b1,b2,b3,by omega⟩
  ·simp at hx;subst hx;exact⟨dm,Nat.zero_le _,by simp,bh _⟩
theorem TF {frm:Int}{ad2:Option Addr}{c2 i:Nat}{zs:List ea}{px:aC}(I:V W w (Tree tq sq T::aw sq r A::L))(hr:∀ w',V W w' L→iH w' ad2 zs)(hz:zs.map (·.2.2)=p)(hc:p.length≤c2)(dm:nf p)
   (hx:A.ar[i]?=some px) (hb:A.n+1<1099511627776) (hl:T.last+1<1099511627776) (bQ:∀ y∈T.l,¬ y.is frm p) (hm:T.l.length<T.most) (h0:0<p.length) :
   Calls prog 306 #[pt tq,.int .i64 frm,.int .i64 px.id,.slice ad2 p.length c2] w λe w'=>e=.returned (.tuple #[.int .i64 ((T.last+1:Nat):Int),.bool true])∧V W w' (Tree tq sq (T.add frm p (A.last+1))::aw sq r (A.add px.g px.p)::L):=by
 obtain⟨ad,c,xs,h1,hw,I⟩:=Tree.open I;have ch:xs.length=T.l.length:=by rw[← h1,bf]
 have hT:=hw.most;have hp:∀ w',V W w' L→ku w' ad2 p.length p:=λw' h=>by
  have:=(hr w' h).bb;rw[hz]at this
  rwa [show zs.length=p.length from by rw[← hz,bf]]at this
 refine EN func306 ntmps306 rfl rfl λa E=>?_;refine bL 5 [11] [0,1,2,3,4,5,8,9,10,3006,7,1011,12,13,14,15,16,17,18] E I λa w E I hH U=>?_;refine RH 3 E I hH U λa E=>?_;replace E:=E.aN 16;refine RH 12 E I hH U λa E=>?_;rw[bq (by omega)]at E;refine RH 4 E I hH U λa E=>?_;rw[bq (by omega)]at E;refine RN 9 E I λa E=>?_;refine aS (λμ a w=>∃ k:Nat,(μ=T.l.length-k∧k≤T.l.length)∧Fr a 101 [(0,pt tq),(1,.int .i64 frm),(2,.int .i64 px.id),(3,.slice ad2 p.length c2),(36,.slice ad T.l.length c),(37,.int .i64 T.l.length),(38,.int .i64 k)]∧V W w (aa tq 236 [pt sq,.int .i64 T.most,.slice ad T.l.length c,.int .i64 T.last,.int .i64 T.epoch]::Sl 238 5 ad T.l.length c (rows c9 xs)::ah bR xs::aw sq r A::L)) (T.l.length) (⟨0,⟨by simp,by simp⟩,E.ab [0,1,2,3,36,37,38],I.sub⟩) ?_;clear E I;rintro μ a w ⟨k,⟨rfl,hk⟩,E,I⟩;refine IF 3 E I (λan a E=>?_) λan a E=>?_
 ·
  refine RN 2 E I λa E=>?_;obtain⟨b',dG,rfl,cK⟩:=I.bY ad (by omega);obtain⟨⟨x,eH,de⟩,dV⟩:∃ y,xs[k]?=some y:=⟨_,aO (by omega)⟩;have fP:=nM cK dV;have iW:T.l[k]?=some x:=by rw[← h1,bn,dV];rfl
  have eG:=bE iW;have ka:=(hw.ok x eG).1;have TG:=bQ x eG;refine RN 1 E I λa E=>?_;refine SS E (bO E underlying238 rfl Ty.t238 (fP)) λa E=>?_;refine AL 0 E I λcY a w E I=>?_;refine SA 0 E I λa w E I=>?_;refine BY 6 E I (λdE a E=>?_) λdE a E=>?_
  ·
   refine BY 8 E I (λhS a E=>?_) λhS a E=>?_
   ·
    refine RN 3 E I λa E=>?_;have fG:=ah.oQ (I.pick (ah bR xs)) dV;refine CL 0 E I (Co (u:=x.ak) (v:=p) I fG.1 (hp _ I.sub) fG.2 hc (by have:=ka.1;omega)) λa w E I=>?_;refine IF 1 E I (λay a E=>?_) λay a E=>?_
    ·
     (try simp only at hS);exact absurd ⟨by omega,(Ie (by omega)).1 ay⟩ TG
    refine RN 2 E I λa E=>?_;exact⟨T.l.length-(k+1),by omega,k+1,⟨rfl,by omega⟩,E.ab [0,1,2,3,36,37,38],I.sub⟩
   refine RN 3 E I λa E=>?_;have fG:=ah.oQ (I.pick (ah bR xs)) dV;refine RN 5 E I λa E=>?_;exact⟨T.l.length-(k+1),by omega,k+1,⟨rfl,by omega⟩,E.ab [0,1,2,3,36,37,38],I.sub⟩
  refine RN 11 E I λa E=>?_;have fG:=ah.oQ (I.pick (ah bR xs)) dV;refine RN 5 E I λa E=>?_;exact⟨T.l.length-(k+1),by omega,k+1,⟨rfl,by omega⟩,E.ab [0,1,2,3,36,37,38],I.sub⟩
 refine CL 6 E I (HX (I.pick (aw sq r A)) hx hb) λa w E I=>?_;refine RN 9 E I λa E=>?_;replace E:=E.aN 71;refine ST 9 E I (λa w E I=>?_);rw[show ((T.last:Int)+1)=((T.last+1:Nat):Int) from rfl]at I;refine aY 1 (λw0 w'=>w'.cell? ⟨tq,2,none⟩=some (.slice ad T.l.length c)∧w'.cell? ⟨tq,3,none⟩=some (.int .i64 ((T.last+1:Nat):Int))) [8,11,13,14] [0,1,2,3,5,6,7,9,10,12,3004,3008,1011,1013,1014,1015,16,17,1018] E I λa w E I hH=>?_;have U:=hH.at w ⟨I.bu rfl,I.bu rfl⟩;refine RH 10 E I hH U λa E=>?_;refine QH E (λw hc=>ag E (hc.1)) U λa E=>?_;refine QH E (λw hc=>ag E (hc.2)) U λa E=>?_;refine RH 0 E I hH U λa E=>?_;refine a2 0 E I (H5 I (λw' h=>hr w' h.sub) (by rw[← hz,bf]) (by rw[hz];exact dm)) λlW g9 a w E I=>?_;replace U:=hH.at w ⟨I.bu rfl,I.bu rfl⟩;refine RH 1 E I hH U λa E=>?_;refine cm E rfl I underlying168 Ty.t238 rfl rfl rfl rfl (by decide) (by decide) λb93 a w E I ho=>?_;clear ho;replace U:=hH.at w ⟨I.bu rfl,I.bu rfl⟩;refine RH 0 E I hH U λa E=>?_;refine cJ E rfl I underlying168 Ty.t238 rfl rfl I.ai rfl (by simp[Value.oneCell']) (by decide) (by decide) (by omega) λwZ w1 a w E I=>?_;refine ST 2 E I (λa w E I=>?_);refine RT 7 E I ?_;refine⟨rfl,?_⟩;rw[hz]at I;have h8:=V.jB (f:=bR) (l:=xs) (x:=(⟨T.last+1,frm,p,0,A.last+1⟩,lW,g9)) (I.sub (M:=b0 lW p.length g9 p::ah bR xs::aa tq 236 [pt sq,.int .i64 T.most,.slice wZ (T.l.length+1) w1,.int .i64 ((T.last+1:Nat):Int),.int .i64 T.epoch]::Sl 238 5 wZ (T.l.length+1) w1 (rows c9 xs++[[.int .i64 ((T.last+1:Nat):Int),.int .i64 frm,.slice lW p.length g9,.int .i64 0,.int .i64 ((A.last+1:Nat):Int)]].flatten)::aw sq r (A.add px.g px.p)::L));have h9:V W w (ah bR (xs++[(⟨T.last+1,frm,p,0,A.last+1⟩,lW,g9)])::aa tq 236 [pt sq,.int .i64 T.most,.slice wZ (T.l.length+1) w1,.int .i64 ((T.last+1:Nat):Int),.int .i64 T.epoch]::Sl 238 5 wZ (T.l.length+1) w1 (rows c9 (xs++[(⟨T.last+1,frm,p,0,A.last+1⟩,lW,g9)]))::aw sq r (A.add px.g px.p)::L):=by
  rw[← Cs];exact h8
 exact Tree.close (T:=T.add frm p (A.last+1)) (ad:=wZ) (c:=w1) (xs:=xs++[(⟨T.last+1,frm,p,0,A.last+1⟩,lW,g9)]) (n:=T.l.length+1) (most:=T.most) (last:=T.last+1) (epoch:=T.epoch) h9 (by simp[Tr.add,h1]) (hw.add hm hl dm) rfl (by simp[Tr.add]) rfl rfl
def Tr.iv (T:Tr)(k:Nat)(x:Br)(done snap:Nat):Tr:={ T with l:=T.l.set k { x with done:=done,snap:=snap } }
theorem WT.iv {d sn:Nat}(h:WT T)(hx:T.l[k]?=some x)(hd:d≤x.ak.length):WT (T.iv k x d sn):=by
 obtain⟨dD,dU,a3,a4,a5⟩:=h;obtain⟨hi,rfl⟩:=a1.1 hx;refine⟨⟨dD.1,by simp[Tr.iv];exact dD.2⟩,dU,a3,?_,λy hy=>?_⟩
 ·have : (T.l.set k { T.l[k] with done := d, snap := sn }).map (·.id) = T.l.map (·.id) := by
   apply ext_getElem?;intro j;simp only[bn,jA];by_cases hj:k=j
   ·subst hj;simp[hi]
   ·rw[ae hj]
  simp only[Tr.iv];rw[this];exact a4
 ·simp only[Tr.iv]at hy ⊢;rcases mem_or_eq_of_mem_set hy with hy | rfl
  ·exact a5 y hy
  ·obtain⟨b1,b2,b3,b4⟩:=a5 _ (getElem_mem hi);exact⟨b1,hd,b3,b4⟩
theorem WT.unique (hw:WT T){j:Nat}{y:Br}(hx:T.l[k]?=some x)(hy:T.l[j]?=some y)(he:y.id=x.id):j=k:=by
 have hp:=List.pairwise_iff_getElem.1 hw.ids;obtain⟨hj,rfl⟩:=a1.1 hy;obtain⟨hk,rfl⟩:=a1.1 hx;rcases Nat.lt_trichotomy j k with hl | hl | hl
 ·have:=hp j k (by simpa using hj) (by simpa using hk) hl;simp at this;omega
 ·exact hl
 ·have:=hp k j (by simpa using hk) (by simpa using hj) hl;simp at this;omega
theorem Ih (I:V W w (Tree tq sq T::L))(hx:T.l[k]?=some x) :
   Calls prog 183 #[pt tq,.int .i64 x.id] w λe w'=>e=.returned (.int .i64 k)∧V W w' (Tree tq sq T::L):=by
 refine (Cr (id:=(x.id:Int)) I).mono λe w' ⟨r,h1,h2,h3⟩=>⟨?_,h3⟩;rcases h2 with ⟨_,h4⟩ | ⟨j,y,h4,h5,h6⟩
 ·exact absurd rfl (h4 x (bE hx))
 ·rw[h1,h4,(Tree.wt h3).unique hx h5 (by omega)]
theorem TH {i:Nat}{px:aC}{d sn:Int}(I:V W w (Tree tq sq T::aw sq r A::L))(hx:T.l[k]?=some x)(bQ:d≤x.done∨(x.ak.length:Int)<d∨∀ y∈A.ar,(y.id:Int)≠sn) :
   Calls prog 186 #[pt tq,.int .i64 x.id,.int .i64 d,.int .i64 sn] w λe w'=>e=.returned (.bool false)∧V W w' (Tree tq sq T::aw sq r A::L):=by
 have eK:=(a1.1 hx).1;refine EN func186 ntmps186 rfl rfl λa E=>?_;refine CL 5 E I (Ih I hx) λa w E I=>?_;refine RN 3 E I λa E=>?_;obtain⟨ad,c,xs,h1,hw,I⟩:=Tree.open (I.tree tq);obtain⟨eH,de,dV⟩:=Cn h1 hx;obtain⟨b',dG,rfl,cK⟩:=I.tail.bY ad (by omega);have fP:=nM cK dV;have uO:=fP 3 _ rfl;have jJ:=fP 2 _ rfl;refine RN 3 E I λa E=>?_;rw[bq (by omega)]at E;refine RN 8 E I λa E=>?_;refine bz E (cW E rfl (s:=15)) (ag E (uO)) rfl λa E=>?_;refine BY 3 E I (λkz a E=>?_) λkz a E=>?_
 ·
  skip
  refine RT 24 E I ?_;exact⟨rfl,Tree.same (L':=aw sq r A::L) (some ⟨b',dG,none⟩) c xs I h1 hw⟩
 refine RN 8 E I λa E=>?_;refine bz E (cW E rfl (s:=27)) (ag E (jJ)) rfl λa E=>?_;refine BY 4 E I (λTJ a E=>?_) λTJ a E=>?_
 ·
  refine RT 11 E I ?_;exact⟨rfl,Tree.same (L':=aw sq r A::L) (some ⟨b',dG,none⟩) c xs I h1 hw⟩
 refine CL 5 E I (SY (I.pick (aw sq r A)) (by rcases bQ with h | h | h;omega;omega;exact h)) λa w E I=>?_;refine RN 2 E I λa E=>?_;replace E:=E.eo 48;refine RT 3 E I ?_;exact⟨rfl,Tree.same (L':=aw sq r A::L) (some ⟨b',dG,none⟩) c xs I h1 hw⟩
end
end
section
def Sn.et (A:Sn)(id:Nat):Sn:=match A.ar.findIdx? (λx=>x.id==id) with
 | some i=>match A.ar[i]? with
  | some x=>A.drop i x
  | none=>A
 | none=>A
section
variable {W w:World}{L R:List SP}{tq sq q r n c k:Nat}{ad:Option Addr}{A:Sn}{T:Tr}{x y:Br}{xs:List Bx}{p:List (List UInt8)}
theorem Ct {id:Nat}(h:∀ y∈A.ar,y.id≠id):A.et id=A:=by
 have:A.ar.findIdx? (λx=>x.id==id)=none:=by rw[List.findIdx?_eq_none_iff];intro y hy;simpa using h y hy
 rw[Sn.et,this]
theorem w2 {i:Nat}{px:aC}(hw:WF A)(hx:A.ar[i]?=some px):A.et px.id=A.drop i px:=by
 obtain⟨hi,he⟩:=a1.1 hx;have:A.ar.findIdx? (λx=>x.id==px.id)=some i:=by
  rw[List.findIdx?_eq_some_iff_getElem];refine⟨hi,by simp[he],λj hj=>?_⟩;have eO:j<A.ar.length:=by omega
  simp only[Bool.not_eq_true,lp,ne_eq];intro e;have:=hw.ids (aO eO) hx e;omega
 rw[Sn.et,this];simp only[hx]
theorem zc {id:Nat}(I:V W w (aw q r A::L)) :
   Calls prog 185 #[pt q,.int .i64 id] w λe w'=>∃ v,e=.returned (.bool v)∧V W w' (aw q r (A.et id)::L):=by
 by_cases h:∃ px∈A.ar,px.id=id
 ·obtain⟨px,h1,rfl⟩:=h;obtain⟨i,hi⟩:=jH.1 h1;have hw:=(aw.open I);obtain⟨_,_,_,_,_,hw,_,_⟩:=hw;refine (S8 I hi).mono λe w' ⟨h2,h3⟩=>⟨_,h2,?_⟩;rw[w2 hw hi];exact h3
 ·have hn:∀ y∈A.ar,y.id≠id:=λy hy e=>h ⟨y,hy,e⟩;refine (S9 (X:=(id:Int)) I (λy hy e=>hn y hy (by omega))).mono λe w' ⟨h2,h3⟩=>⟨_,h2,?_⟩;rw[Ct hn];exact h3
theorem Ii {p q r:List Value}{i:Nat}{v:Value}(h:i<q.length):(p++q++r).set (p.length+i) v=p++q.set i v++r:=by
 rw[dw,set_append_right _ _ (by omega),show p.length+i-p.length=i from by omega,set_append_left _ _ h,dw]
theorem TK {i d:Nat}{px:aC}(I:V W w (Tree tq sq T::aw sq r A::L))(hx:T.l[k]?=some x)(hd:x.done<d)(kb:d≤x.ak.length)(hp:A.ar[i]?=some px) :
   Calls prog 186 #[pt tq,.int .i64 x.id,.int .i64 d,.int .i64 px.id] w λe w'=>e=.returned (.bool true)∧V W w' (Tree tq sq (T.iv k x d px.id)::aw sq r (A.et x.snap)::L):=by
 have eK:=(a1.1 hx).1;have aZ:1≤px.refs:=by
  obtain⟨_,_,_,_,_,hw,_,_⟩:=aw.open (I.pick (aw sq r A));exact (hw.lU px (bE hp)).2.2.1
 refine EN func186 ntmps186 rfl rfl λa E=>?_;refine CL 5 E I (Ih I hx) λa w E I=>?_;refine RN 3 E I λa E=>?_;obtain⟨ad,c,xs,h1,hw,I⟩:=Tree.open (I.tree tq);obtain⟨eH,de,dV⟩:=Cn h1 hx;obtain⟨b',dG,rfl,cK⟩:=I.tail.bY ad (by omega);have fP:=nM cK dV;have uO:=fP 3 _ rfl;have jJ:=fP 2 _ rfl;refine RN 3 E I λa E=>?_;rw[bq (by omega)]at E;refine RN 8 E I λa E=>?_;refine bz E (cW E rfl (s:=15)) (ag E (uO)) rfl λa E=>?_;refine RN 3 E I λa E=>?_;rw[bq (by omega)]at E;refine RN 8 E I λa E=>?_;refine bz E (cW E rfl (s:=27)) (ag E (jJ)) rfl λa E=>?_;refine RN 4 E I λa E=>?_;rw[bq (by omega)]at E;refine CL 5 E I (SW (I.pick (aw sq r A)) hp) λa w E I=>?_;refine RN 2 E I λa E=>?_;rw[bq (by omega)]at E;refine RN 2 E I λa E=>?_;have TL:=I.cX (n:=T.l.length) b' dG (by omega);have Ij:w.drew.cell? ⟨b',dG+k*5+4,none⟩=some (.int .i64 x.snap):=nM TL dV 4 _ rfl;refine qv 0 (Old w.drew) [7,9,10,11] [0,1,2,4,5,6,8,3003,1007,1009,1010,1011,1012] E I λa E=>?_;replace I:=I.drew;have hH:=Hd.gq I;have U:=Old.refl w.drew;generalize w.drew=w at I hH U Ij ⊢;refine RH 11 E I hH U λa E=>?_;refine SS E (ag E (Ij)) λa E=>?_;refine RH 0 E I hH U λa E=>?_;refine bd 0 E I (zc (id:=x.snap) (I.pick (aw sq r A))) λ_ a w E I=>?_;refine RN 1 E I λa E=>?_;obtain⟨bb,pre,post,⟨h3,h4,h5,h6⟩,gx⟩:=(I.pick (Sl 238 5 (some ⟨b',dG,none⟩) T.l.length c (rows c9 xs))).ln (by have:=(I.sl (some ⟨b',dG,none⟩)).2;omega);cases h5;replace I:=gx;clear gx;have ch:xs.length=T.l.length:=by rw[← h1,bf]
 have ts:k<xs.length:=by omega
 have gT:xs[k]=(x,eH,de):=(a1.1 dV).2;have iK:(rows c9 xs).length=xs.length*5:=iT r4 xs;refine bL 0 [8] [0,1,2,4,5,6,7,9,10,11,3003,1008,12,13,1014,15,16,1017] E I λa w E I hH U=>?_;refine RH 14 E I hH U λa E=>?_;refine ST 0 E I (λa w E I=>?_) (hlt:=(by simp only[aK];omega));rw[show pre.length+k*5+3=pre.length+(k*5+3) from by omega,Ii (by omega),pM r4 xs ({ x with done:=d },eH,de) ts (by decide) (by rw[gT];rfl)]at I;refine ST 2 E I (λa w E I=>?_) (hlt:=(by simp only[aK,iT r4,br];omega));rw[show pre.length+k*5+4=pre.length+(k*5+4) from by omega,Ii (by simp only[iT r4,br];omega),pM r4 _ ({ x with done:=d,snap:=px.id },eH,de) (by rw[br];exact ts) (by decide) (by rw[getElem_set_self];rfl),set_set]at I;refine RT 2 E I ?_;refine⟨rfl,?_⟩;have h7:=V.iF (n:=T.l.length) (c:=c) (sz:=5) (cs:=rows c9 (xs.set k ({ x with done:=d,snap:=px.id },eH,de))) (I.jy b') (by rw[iT r4,br,ch]) h4 h6;have h8:=(h7.pick (ah bR xs)).fE ts;rw[gT]at h8;have h9:V W w (bR ({ x with done:=d,snap:=px.id },eH,de)::ah bR (xs.eraseIdx k)::_):=h8;have fF:=V.ko ts h9;exact Tree.close (T:=T.iv k x d px.id) (ad:=some ⟨b',pre.length,none⟩) (c:=c) (xs:=xs.set k ({ x with done:=d,snap:=px.id },eH,de)) (n:=T.l.length) (most:=T.most) (last:=T.last) (epoch:=T.epoch) fF (by rw[List.map_set,h1];rfl) (hw.iv hx kb) rfl (by simp[Tr.iv]) rfl rfl
def hU (frm:Int)(p:List (List UInt8))(b:Br)(x:Br):Br:=if x.frm=frm∧b.done<x.done∧x.done≤p.length∧oR (x.ak.take x.done) p=true then x else b
def lY:Br:=⟨0,0,[],0,0⟩
def Tr.fH (T:Tr)(frm:Int)(p:List (List UInt8)):Br:=T.l.foldl (hU frm p) lY
theorem TM {l:List Br}{frm:Int}(h:l[k]?=some x):(l.take (k+1)).foldl (hU frm p) lY=hU frm p ((l.take k).foldl (hU frm p) lY) x:=by
 obtain⟨hk,rfl⟩:=a1.1 h;rw[iU hk,foldl_append];rfl
theorem Ik {frm:Int}{ad2:Option Addr}{c2:Nat}(I:V W w (Tree tq sq T::L))(hp:∀ w',V W w' L→ku w' ad2 p.length p)(hc:p.length≤c2)(dm:nf p) :
   Calls prog 279 #[pt tq,.int .i64 frm,.slice ad2 p.length c2] w λe w'=>∃ ad c,e=.returned (.tuple #[.agg (b6 (T.fH frm p) ad c).toArray,.bool (decide (0<(T.fH frm p).done))])∧V W w' (Tree tq sq T::L):=by
 have hw:=Tree.wt I;have hT:=hw.most;refine EN func279 ntmps279 rfl rfl λa E=>?_;refine AL 1 E I λcG a w E I=>?_;change V W w (aa cG 238 (b6 lY none 0)::_) at I;refine AL 3 E I λb8 a w E I=>?_;refine SA 0 E I λa w E I=>?_;change V W w (aa b8 238 (b6 ((T.l.take 0).foldl (hU frm p) lY) none 0)::_) at I;refine a2 3 E I (za (I.tree tq)) λad c a w E I=>?_;obtain⟨xs,h1,h2,I⟩:=ky.open I;have ch:xs.length=T.l.length:=by rw[← h1,bf]
 refine RN 2 E I λa E=>?_;refine aS (λμ a w=>∃ (k:Nat) (dW:Option Addr) (cb:Nat),(μ=T.l.length-k∧k≤T.l.length)∧Fr a 52 [(1,.int .i64 frm),(2,.slice ad2 p.length c2),(6,pt cG),(8,pt b8),(13,.slice ad T.l.length c),(14,.int .i64 T.l.length),(15,.int .i64 k)]∧V W w (aa b8 238 (b6 ((T.l.take k).foldl (hU frm p) lY) dW cb)::Sl 238 5 ad T.l.length c (rows c9 xs)::ah bR xs::Tree tq sq T::aa cG 238 (b6 lY none 0)::L)) (T.l.length) (⟨0,none,0,⟨by simp,by simp⟩,E.ab [1,2,6,8,13,14,15],I.sub⟩) ?_;clear E I;rintro μ a w ⟨k,dW,cb,⟨rfl,hk⟩,E,I⟩;refine IF 3 E I (λaj a E=>?_) λaj a E=>?_
 ·
  refine RN 2 E I λa E=>?_;obtain⟨b',dG,rfl,cK⟩:=I.bY ad (by omega);obtain⟨⟨x,eH,de⟩,dV⟩:∃ y,xs[k]?=some y:=⟨_,aO (by omega)⟩;have fP:=nM cK dV;have iW:T.l[k]?=some x:=by rw[← h1,bn,dV];rfl
  have ka:=hw.ok x (bE iW);have pR:=TM (frm:=frm) (p:=p) iW;obtain⟨B,hB⟩:∃ B,(T.l.take k).foldl (hU frm p) lY=B:=⟨_,rfl⟩;rw[hB]at I pR;refine RN 1 E I λa E=>?_;refine SS E (bO E underlying238 rfl Ty.t238 (fP)) λa E=>?_;refine AL 0 E I λj9 a w E I=>?_;refine SA 0 E I λa w E I=>?_;refine BY 6 E I (λdE a E=>?_) λdE a E=>?_
  ·
   refine BY 7 E I (λkA a E=>?_) λkA a E=>?_
   ·
    refine BY 7 E I (λtt a E=>?_) λtt a E=>?_
    ·
     refine RN 4 E I λa E=>?_;have fG:=ah.oQ (I.pick (ah bR xs)) dV;have w3:=ka.2.1;refine RN 1 E I λa E=>?_;rw[qw,Nat.sub_zero,Nat.sub_zero]at E;rw[show Value.slice eH x.done de=Value.slice eH (x.ak.take x.done).length de from by rw[en,Nat.min_eq_left w3]]at E;refine CL 1 E I (Co (u:=x.ak.take x.done) (v:=p) (ad:=eH) (c:=de) I (by
      have:=fG.1.take w3
      rwa [show (x.ak.take x.done).length=x.done from by rw[en];omega]) (hp _ I.sub) (by rw[en];omega) hc (by rw[en];have:=ka.1.1;omega)) λa w E I=>?_
     refine IF 1 E I (λan a E=>?_) λan a E=>?_
     ·
      have qD:hU frm p B x=x:=al ⟨by omega,by omega,by omega,an⟩;refine SA 1 E I λa w E I=>?_;refine RN 2 E I λa E=>?_;exact⟨T.l.length-(k+1),by omega,k+1,_,_,⟨rfl,by omega⟩,E.ab [1,2,6,8,13,14,15],by rw[pR,qD];exact I.sub (M:=aa b8 238 (b6 x eH de)::Sl 238 5 (some ⟨b',dG,none⟩) T.l.length c (rows c9 xs)::ah bR xs::Tree tq sq T::aa cG 238 (b6 lY none 0)::L)⟩
     have qD:hU frm p B x=B:=ae (λh=>by rw[h.2.2.2]at an;cases an);refine RN 2 E I λa E=>?_;exact⟨T.l.length-(k+1),by omega,k+1,_,_,⟨rfl,by omega⟩,E.ab [1,2,6,8,13,14,15],by rw[pR,qD];exact I.sub (M:=aa b8 238 (b6 B dW cb)::Sl 238 5 (some ⟨b',dG,none⟩) T.l.length c (rows c9 xs)::ah bR xs::Tree tq sq T::aa cG 238 (b6 lY none 0)::L)⟩
    have qD:hU frm p B x=B:=ae (by omega);refine RN 4 E I λa E=>?_;have fG:=ah.oQ (I.pick (ah bR xs)) dV;have w3:=ka.2.1;refine RN 7 E I λa E=>?_;exact⟨T.l.length-(k+1),by omega,k+1,_,_,⟨rfl,by omega⟩,E.ab [1,2,6,8,13,14,15],by rw[pR,qD];exact I.sub (M:=aa b8 238 (b6 B dW cb)::Sl 238 5 (some ⟨b',dG,none⟩) T.l.length c (rows c9 xs)::ah bR xs::Tree tq sq T::aa cG 238 (b6 lY none 0)::L)⟩
   have qD:hU frm p B x=B:=ae (by omega);refine RN 11 E I λa E=>?_;have fG:=ah.oQ (I.pick (ah bR xs)) dV;have w3:=ka.2.1;refine RN 7 E I λa E=>?_;exact⟨T.l.length-(k+1),by omega,k+1,_,_,⟨rfl,by omega⟩,E.ab [1,2,6,8,13,14,15],by rw[pR,qD];exact I.sub (M:=aa b8 238 (b6 B dW cb)::Sl 238 5 (some ⟨b',dG,none⟩) T.l.length c (rows c9 xs)::ah bR xs::Tree tq sq T::aa cG 238 (b6 lY none 0)::L)⟩
  have qD:hU frm p B x=B:=ae (by omega);refine RN 18 E I λa E=>?_;have fG:=ah.oQ (I.pick (ah bR xs)) dV;have w3:=ka.2.1;refine RN 7 E I λa E=>?_;exact⟨T.l.length-(k+1),by omega,k+1,_,_,⟨rfl,by omega⟩,E.ab [1,2,6,8,13,14,15],by rw[pR,qD];exact I.sub (M:=aa b8 238 (b6 B dW cb)::Sl 238 5 (some ⟨b',dG,none⟩) T.l.length c (rows c9 xs)::ah bR xs::Tree tq sq T::aa cG 238 (b6 lY none 0)::L)⟩
 refine RN 1 E I λa E=>?_;obtain rfl:k=T.l.length:=by omega
 rw[take_length]at I;rw[show T.l.foldl (hU frm p) lY=T.fH frm p from rfl]at I;refine aY 0 (λw0 w'=>Rd w' b8 0 (b6 (T.fH frm p) dW cb)) [2,3,4] [1,3000,3002,3003,1004,5] E I λa w E I hH=>?_;have U:=hH.at w I.ai;refine RH 1 E I hH U λa E=>?_;refine QH E (λw hc=>bO E underlying238 rfl Ty.t238 (hc)) U λa E=>?_;refine QH E (λw hc=>ag E (hc 3 _ rfl)) U λa E=>?_;refine RH 1 E I hH U λa E=>?_;refine SA 0 E I λa w E I=>?_;replace U:=hH.at w I.ai;refine RH 1 E I hH U λa E=>?_;refine RT 0 E I ?_;refine⟨dW,cb,?_,I.sub⟩;rw[show decide ((0:Int)<((T.fH frm p).done:Int))=decide (0<(T.fH frm p).done) from by rw[decide_eq_decide];omega]
def Tr.cut (T:Tr)(wh:Br→Bool):Tr:={ T with l:=T.l.filter (λx=>!wh x),epoch:=T.epoch+if (T.l.filter (λx=>!wh x)).length<T.l.length then 1 else 0 }
def Sn.gJ (A:Sn)(l:List Br):Sn:=l.foldl (λA x=>A.et x.snap) A
theorem TO {A:Sn}{l:List Br}{wh:Br→Bool}(h:l[k]?=some x):A.gJ ((l.take (k+1)).filter wh)=if wh x=true then (A.gJ ((l.take k).filter wh)).et x.snap else A.gJ ((l.take k).filter wh):=by
 obtain⟨hk,rfl⟩:=a1.1 h;rw[iU hk,List.filter_append];by_cases hw:wh l[k]=true
 ·rw[al hw,Sn.gJ,foldl_append];simp[hw,Sn.gJ]
 ·rw[ae hw];simp[hw]
theorem TP {α:Type}{l:List α}{f:α→Bool}{z:α}(h:l[k]?=some z):(l.take (k+1)).filter f=(l.take k).filter f++if f z=true then [z] else []:=by
 obtain⟨hk,rfl⟩:=a1.1 h;rw[iU hk,List.filter_append];by_cases hw:f l[k]=true <;> simp[hw]
theorem TQ (xs:List Bx)(f:Br→Bool):(xs.filter (λz=>f z.1)).map (·.1)=(xs.map (·.1)).filter f:=by
 induction xs with
 | nil=>rfl
 | cons z xs ih =>
  by_cases h:f z.1=true <;> simp[h]at ih ⊢ <;> exact ih
theorem WT.cut (h:WT T)(he:T.epoch+1<1099511627776)(wh:Br→Bool):WT (T.cut wh):=by
 obtain⟨dD,dU,a3,a4,a5⟩:=h;refine⟨⟨dD.1,?_⟩,dU,?_,?_,λy hy=>?_⟩
 ·simp only[Tr.cut];exact gO (length_filter_le _ _) dD.2
 ·simp only[Tr.cut];split <;> omega
 ·simp only[Tr.cut];exact a4.sublist (List.Sublist.map _ List.filter_sublist)
 ·simp only[Tr.cut]at hy ⊢;exact a5 y (List.mem_filter.1 hy).1
class Tl (M L:List SP):Prop where h:∃ K,M.Perm (K++L)
instance Tl.self {L:List SP}:Tl L L:=⟨[],List.Perm.refl _⟩
instance (priority:=low) Tl.cons {A:SP}{M L:List SP}[t:Tl M L]:Tl (A::M) L:=⟨let ⟨K,h⟩:=t.h;⟨A::K,h.cons A⟩⟩
theorem V.TS {M:List SP}(I:V W w M)(t:Tl M L):V W w L:=let ⟨_,h⟩:=t.h;(I.perm h).drop
def va (W:World)(N:List SP)(ad:Option Addr)(P:List (List UInt8)):Prop:=∃ zs:List ea,zs.map (·.2.2)=P∧∀ w',V W w' N→iH w' ad zs
set_option maxHeartbeats 1000000 in
theorem Il {wh:Br→Bool}{f:Nat}{us:List Value}(I:V W w (Tree tq sq T::aw sq r A::L))(he:T.epoch+1<1099511627776)(cd:g5 prog f=true)
   (hf:∀ (M:List SP) (w':World) (x:Br) (av:Option Addr) (c':Nat),x∈T.l→V W w' M→Tl M L→va W M av x.ak→x.ak.length≤c'→nf x.ak →
    Calls prog f (List.toArray (.agg (b6 x av c').toArray::us)) w' λe ng=>e=.returned (.bool (wh x))∧V W ng M) :
   Calls prog 303 #[pt tq,.func (.func f) #[] (List.toArray us)] w λe w'=>e=.returned (.int .i64 ((T.l.length-(T.l.filter (λx=>!wh x)).length:Nat):Int)) ∧
    V W w' (Tree tq sq (T.cut wh)::aw sq r (A.gJ (T.l.filter wh))::L):=by
 obtain⟨ad,c,xs,h1,hw,I⟩:=Tree.open I;have ch:xs.length=T.l.length:=by rw[← h1,bf]
 have hT:=hw.most;have gw:=length_filter_le (λx=>!wh x) T.l;refine EN func303 ntmps303 rfl rfl λa E=>?_;refine RN 6 E I λa E=>?_;replace E:=E.aN 10;refine RN 10 E I λa E=>?_;replace I:V W w (Sl 238 5 none 0 0 (rows c9 ((xs.take 0).filter (λz:Bx=>!wh z.1)))::ah bR ((xs.take 0).filter (λz:Bx=>!wh z.1))::aa tq 236 [pt sq,.int .i64 T.most,.slice ad T.l.length c,.int .i64 T.last,.int .i64 T.epoch]::Sl 238 5 ad T.l.length c (rows c9 xs)::ah bR (xs.drop 0)::aw sq r (A.gJ ((T.l.take 0).filter wh))::L):=(I.iG (f:=bR)).bH 238 5 none;refine RN 8 E I λa E=>?_;refine aS (λμ a w=>∃ (k m:Nat) (r5:Option Addr) (nO:Nat),(μ=T.l.length-k∧k≤T.l.length∧m=((xs.take k).filter (λz=>!wh z.1)).length)∧Fr a 59 [(0,pt tq),(1,.func (.func f) #[] (List.toArray us)),(5,.int .i64 T.l.length),(6,.slice r5 m nO),(19,.slice ad T.l.length c),(20,.int .i64 T.l.length),(21,.int .i64 k)]∧V W w (Sl 238 5 r5 m nO (rows c9 ((xs.take k).filter (λz=>!wh z.1)))::ah bR ((xs.take k).filter (λz=>!wh z.1))::aa tq 236 [pt sq,.int .i64 T.most,.slice ad T.l.length c,.int .i64 T.last,.int .i64 T.epoch]::Sl 238 5 ad T.l.length c (rows c9 xs)::ah bR (xs.drop k)::aw sq r (A.gJ ((T.l.take k).filter wh))::L)) (T.l.length) (⟨0,0,none,0,⟨by simp,by simp,by simp⟩,E.ab [0,1,5,6,19,20,21],I.sub⟩) ?_;clear E I;rintro μ a w ⟨k,m,r5,nO,⟨rfl,hk,hm⟩,E,I⟩;refine IF 3 E I (λan a E=>?_) λan a E=>?_
 ·
  refine RN 2 E I λa E=>?_
  obtain ⟨b', dG, gU, cK⟩ := I.bY (n := T.l.length) (cs := rows c9 xs) (R := Sl 238 5 r5 m nO (rows c9 ((xs.take k).filter (fun z => !wh z.1))) :: ah bR ((xs.take k).filter (fun z => !wh z.1)) :: aa tq 236 [.pointer (some ⟨sq, 0, none⟩), .int .i64 T.most, .slice ad T.l.length c, .int .i64 T.last, .int .i64 T.epoch] :: ah bR (xs.drop k) :: aw sq r (A.gJ ((T.l.take k).filter wh)) :: L) (k := ⟨by
      refine List.Perm.trans ?_ (perm_middle (l₁:=[_,_,_]));exact List.Perm.refl _⟩) ad (by omega)
  subst gU;have ts:k<xs.length:=by omega
  obtain⟨⟨x,eH,de⟩,dV⟩:∃ y,xs[k]?=some y:=⟨_,aO ts⟩;have gT:xs[k]=(x,eH,de):=(a1.1 dV).2;have fP:=nM cK dV;have iW:T.l[k]?=some x:=by rw[← h1,bn,dV];rfl
  have ka:=(hw.ok x (bE iW)).1;have oS:=TO (A:=A) (wh:=wh) iW;have r7:=TP (f:=λz:Bx=>!wh z.1) dV;replace I:=(I.pick (ah bR (xs.drop k)));rw[j6 ts,gT]at I;replace I:=I.fE (i:=0) (by simp);change V W w (b0 eH x.ak.length de x.ak::ah bR (xs.drop (k+1))::_) at I;have dX:=(b0.le I).2;refine RN 1 E I λa E=>?_;refine SS E (bO E underlying238 rfl Ty.t238 (fP)) λa E=>?_;refine AL 0 E I λb8 a w E I=>?_;refine SA 0 E I λa w E I=>?_;refine RN 4 E I λa E=>?_;obtain⟨zs,c5,eN,I⟩:=b0.open (I.pick (b0 eH x.ak.length de x.ak));refine CL 0 E I (hf _ _ x eH de (bE iW) I inferInstance ⟨zs,c5,λng h=>V.lS (h.sub (M:=Sl 22 1 eH x.ak.length de (zs.map aI)::ah a7 zs::[]))⟩ dX ka) (hf:=cd) λa w E I=>?_;replace I:V W w (b0 eH x.ak.length de x.ak::_):=V.shut (M:=[_,_]) I (λ_ x=>⟨zs,⟨c5,eN⟩,x⟩);refine IF 0 E I (λay a E=>?_) λay a E=>?_
  ·
   rw[al ay]at oS;rw[show (!wh (x,eH,de).1)=false from by simp[ay]]at r7;rw[ae (by decide),append_nil]at r7;refine bL 1 [5] [0,1,2,4,3003,1005,1006] E I λa w E I hH U=>?_;refine RH 6 E I hH U λa E=>?_;refine bd 0 E I (zc (id:=x.snap) (I.pick (aw sq r (A.gJ ((T.l.take k).filter wh))))) λ_ a w E I=>?_;rw[← oS]at I;refine RN 2 E I λa E=>?_;rw[← r7]at hm I;exact⟨T.l.length-(k+1),by omega,k+1,_,_,_,⟨rfl,by omega,hm⟩,E.ab [0,1,5,6,19,20,21],I.sub⟩
  rw[ae (by rw[ay];decide)]at oS;rw[show (!wh (x,eH,de).1)=true from by simp[ay]]at r7;rw[al rfl]at r7;refine RN 2 E I λa E=>?_;refine cm E rfl I underlying168 Ty.t238 rfl rfl rfl rfl (by decide) (by decide) λTT a w E I ho=>?_;clear ho;obtain⟨Y,vb⟩:∃ Y,(xs.take k).filter (λz=>!wh z.1)=Y:=⟨_,rfl⟩;rw[vb]at I r7 hm;refine RN 0 E I λa E=>?_;refine cJ E rfl I underlying168 Ty.t238 rfl rfl I.ai rfl (by simp[Value.oneCell',b6]) (by decide) (by decide) (by have:=length_filter_le (λz:Bx=>!wh z.1) (xs.take k);rw[vb,en]at this;omega) λnP nQ a w E I=>?_;have h8:=V.jB (f:=bR) (l:=Y) (x:=(x,eH,de)) (I.sub (M:=b0 eH x.ak.length de x.ak::ah bR Y::Sl 238 5 nP (m+1) nQ (rows c9 Y++[b6 x eH de].flatten)::aa tq 236 [pt sq,.int .i64 T.most,.slice (some ⟨b',dG,none⟩) T.l.length c,.int .i64 T.last,.int .i64 T.epoch]::Sl 238 5 (some ⟨b',dG,none⟩) T.l.length c (rows c9 xs)::ah bR (xs.drop (k+1))::aw sq r (A.gJ ((T.l.take k).filter wh))::L));rw[Cs,← r7,← oS]at h8;replace I:=h8;clear h8;refine RN 3 E I λa E=>?_;exact⟨T.l.length-(k+1),by omega,k+1,_,_,_,⟨rfl,by omega,by rw[r7,aK,← hm];rfl⟩,E.ab [0,1,5,6,19,20,21],I.sub⟩
 refine RN 1 E I λa E=>?_;obtain rfl:k=T.l.length:=by omega
 rw[take_length,fX (by omega)]at I;rw[fX (by omega)]at hm;have pS:=TQ xs (λx=>!wh x);rw[h1]at pS;have vc:m=(T.l.filter (λx=>!wh x)).length:=by rw[hm,← pS,bf]
 subst vc;refine ST 4 E I (λa w E I=>?_);refine IF 6 E I (λbg a E=>?_) λbg a E=>?_
 ·
  have hlt:(T.l.filter (λx=>!wh x)).length<T.l.length:=by omega
  refine ST 7 E I (λa w E I=>?_);rw[show ((T.epoch:Int)+1)=((T.epoch+1:Nat):Int) from rfl]at I;refine RT 6 E I ?_;refine⟨by rw[show ((T.l.length-(T.l.filter (λx=>!wh x)).length:Nat):Int)=(T.l.length:Int)-((T.l.filter (λx=>!wh x)).length:Int) from by omega],?_⟩;exact Tree.close (T:=T.cut wh) (ad:=r5) (c:=nO) (xs:=xs.filter (λz=>!wh z.1)) (n:=(T.l.filter (λx=>!wh x)).length) (most:=T.most) (last:=T.last) (epoch:=T.epoch+1) I pS (hw.cut he wh) rfl rfl rfl (by simp only[Tr.cut];rw[al hlt])
 have hlt:¬ (T.l.filter (λx=>!wh x)).length<T.l.length:=by omega
 refine RT 6 E I ?_;refine⟨by rw[show ((T.l.length-(T.l.filter (λx=>!wh x)).length:Nat):Int)=(T.l.length:Int)-((T.l.filter (λx=>!wh x)).length:Int) from by omega],?_⟩;exact Tree.close (T:=T.cut wh) (ad:=r5) (c:=nO) (xs:=xs.filter (λz=>!wh z.1)) (n:=(T.l.filter (λx=>!wh x)).length) (most:=T.most) (last:=T.last) (epoch:=T.epoch) I pS (hw.cut he wh) rfl rfl rfl (by simp only[Tr.cut];rw[ae hlt];rfl)
theorem TU (I:V W w (Tree tq sq T::aw sq r A::L))(he:T.epoch+1<1099511627776) :
   Calls prog 320 #[pt tq] w λe w'=>e=.returned (.int .i64 T.l.length)∧V W w' (Tree tq sq (T.cut λ_=>true)::aw sq r (A.gJ T.l)::L):=by
 have hF : ∀ (M : List SP) (w' : World) (x : Br) (av : Option Addr) (c' : Nat), x ∈ T.l → V W w' M → Tl M L → va W M av x.ak → x.ak.length ≤ c' → nf x.ak →
     Calls prog 334 (List.toArray [.agg (b6 x av c').toArray]) w' λe ng=>e=.returned (.bool true)∧V W ng M:=by
  intro L w x av c' _ I _ _ _ _;refine EN func334 ntmps334 rfl rfl λa E=>?_;refine BX 1 E I λb1 a w E I=>?_;refine RT 3 E I ?_;exact⟨rfl,I.sub⟩
 refine EN func320 ntmps320 rfl rfl λa E=>?_;refine CL 4 E I (Il (wh:=λ_=>true) (us:=[]) I he (by kernel_rfl) hF) λa w E I=>?_;refine RT 1 E I ?_;have e1:T.l.filter (λx=>!(λ_:Br=>true) x)=[]:=by simp
 have e2:T.l.filter (λ_=>true)=T.l:=by simp
 rw[e2]at I;exact⟨by rw[e1];rfl,I⟩
end
end
section
theorem tu (s:ByteArray)(i:Nat):1≤(Utf8.decode s i).2∧(Utf8.decode s i).2≤4:=by
 simp only[Utf8.decode]
 repeat' split
 all_goals simp
def nh (r:Nat):Nat:=if r<0x80 then 1 else if r<0x800 then 2 else if r<0x10000 then 3 else 4
theorem r8 (s:ByteArray)(i:Nat):(s.get! i).toNat<256:=(s.get! i).toNat_lt
theorem Im (s:ByteArray)(i:Nat):nh (Utf8.decode s i).1=(Utf8.decode s i).2∨Utf8.decode s i=(0xFFFD,1):=by
 have h0:=r8 s (i+0);have h1:=r8 s (i+1);have h2:=r8 s (i+2);have h3:=r8 s (i+3);simp only[Utf8.decode,Utf8.runeError]
 repeat' split
 all_goals first | (right;rfl) | (left;simp_all [nh];done) | (left;simp_all [nh];(repeat' split) <;> omega)
theorem Io (s:ByteArray)(i:Nat)(h:i<s.size):i+(Utf8.decode s i).2≤s.size:=by
 simp only[Utf8.decode,Utf8.runeError]
 repeat' split
 all_goals simp_all
 all_goals omega
theorem TV (s:ByteArray)(i:Nat):(Utf8.decode s i).1<1114112:=by
 have h0:=r8 s (i+0);have h1:=r8 s (i+1);have h2:=r8 s (i+2);have h3:=r8 s (i+3);simp only[Utf8.decode,Utf8.runeError]
 repeat' split
 all_goals simp_all [Utf8.valid]
 all_goals omega
def eb (s:ByteArray)(pos:Nat):List (Nat×Nat):=if h:pos<s.size then Utf8.decode s pos::eb s (pos+(Utf8.decode s pos).2) else []
termination_by s.size-pos
decreasing_by have:=(tu s pos).1;omega
theorem qE {s:ByteArray}{pos:Nat}(h:pos<s.size):eb s pos=Utf8.decode s pos::eb s (dZ s pos):=by
 rw[eb,dif_pos h,dZ,al h]
theorem qF {s:ByteArray}{pos:Nat}(h:¬ pos<s.size):eb s pos=[]:=by
 rw[eb,dif_neg h]
theorem TW (s:ByteArray):∀ n pos,s.size-pos≤n→(eb s pos).length≤n:=by
 intro n
 induction n with
 | zero=>intro pos h;rw[qF (by omega)];simp
 | succ n ih =>
  intro pos h;by_cases hp:pos<s.size
  ·rw[qE hp,e9];have:=(tu s pos).1;have:=ih (dZ s pos) (by rw[dZ,al hp];omega);omega
  ·rw[qF hp];simp
theorem Cu {s:ByteArray}{pos:Nat}(h:pos≤s.size):dZ s pos≤s.size:=by
 by_cases hp:pos<s.size
 ·rw[dZ,al hp];exact Io s pos hp
 ·rw[dZ,ae hp];exact h
def kc (x:Nat×Nat):Bool:=decide (32≤x.1)&&decide (x.1≠127)
def lZ (x:Nat×Nat):Bool:=!decide (x=(0xFFFD,1))
def oT (s:ByteArray):Bool:=decide (1≤(eb s 0).length)&&decide ((eb s 0).length≤20)&&(eb s 0).all kc&&(eb s 0).all lZ
def mG (s:ByteArray)(n:Int):Int:=if 0≤n then (((eb s 0)[n.toNat]?).map (λx=>(x.1:Int))).getD 0 else 0
structure gy where
 code:Int
 a:Int
 b:Int
 c:Int
structure Pr where
 title:ByteArray
 ops:List gy
abbrev dO (o:gy):List Value:=[.int .i64 o.code,.int .i64 o.a,.int .i64 o.b,.int .i64 o.c]
theorem Cv (o:gy):(dO o).length=4:=rfl
theorem Ip (o:gy):∀ v∈dO o,v.oneCell'=true:=by
 intro v hv;simp[dO]at hv;rcases hv with rfl | rfl | rfl | rfl <;> rfl
def eW (x:Int):Prop:=0≤x∧x<32
def dp (x:Int):Prop := -2147483648≤x∧x≤2147483647
def eX (n:Int)(o:gy):Prop :=
 (o.code=0∧o.a=0∧o.b=0∧o.c=0)∨(o.code=1∧eW o.a∧o.c=0)∨(o.code=9∧0≤o.a∧o.a≤n∧o.b=0∧o.c=0)∨(o.code=15∧eW o.a∧o.b=0∧o.c=0) ∨
 (o.code=10∧eW o.a∧0≤o.b∧o.b≤n∧o.c=0)∨((o.code=2∨(11≤o.code∧o.code≤14))∧eW o.a∧eW o.b∧o.c=0)∨(3≤o.code∧o.code≤8∧eW o.a∧eW o.b∧eW o.c)
def qG (o:gy):Prop:=dp o.code∧dp o.a∧dp o.b∧dp o.c
def vd (p:Pr):Prop:=oT p.title=true∧1≤p.ops.length∧p.ops.length≤64∧∀ o∈p.ops,qG o
def dj (p:Pr):Prop:=vd p∧∀ o∈p.ops,eX p.ops.length o
def hV (x:Int):Int:=IntKind.i32.wrap x
def ke (x:Int):Nat:=(x.emod 32).toNat
theorem w4 (x:Int):ke x<32:=by
 have h1:=Int.emod_nonneg x (show (32:Int)≠0 by decide);have h2:=Int.emod_lt_of_pos x (show (0:Int)<32 by decide);show (x%32).toNat<32;omega
def l3 (b:List UInt8)(x:Int):Int:=if 0≤x∧x<b.length then ((b.getD x.toNat 0).toNat:Int) else 0
def iL (k a b:Int):Int:=if k=3 then hV (a+b) else if k=4 then hV (a-b) else if k=5 then hV (a*b) else if k=6 then (if b=0 then 0 else hV (a.tdiv b)) else if k=7 then (if a<b then 1 else 0) else if a=b then 1 else 0
def jm (p:Pr)(fr:Int)(b:List UInt8)(g:Nat→Int)(o:gy):Int :=
 if o.code=1 then hV o.b else if o.code=2 then g o.b.toNat else if o.code=11 then l3 b (g o.b.toNat) else if o.code=12 then g (ke (g o.b.toNat)) else if o.code=14 then mG p.title (g o.b.toNat) else if o.code=15 then hV fr else iL o.code (g o.b.toNat) (g o.c.toNat)
def eh (p:Pr)(fr:Int)(b:List UInt8)(g:Nat→Int)(aT:Nat)(o:gy):(Nat→Int)×Nat×Bool :=
 if o.code=0 then (g,aT+1,false) else if o.code=9 then (g,o.a.toNat,true) else if o.code=10 then (g,if g o.a.toNat=0 then o.b.toNat else aT+1,true) else if o.code=13 then (ca g (ke (g o.a.toNat)) (g o.b.toNat),aT+1,true)
 else (ca g o.a.toNat (jm p fr b g o),aT+1,true)
def pT (p:Pr)(fr:Int)(b:List UInt8):Nat→(Nat→Int)→Nat→(Nat→Int)
 | 0,g,_=>g
 | n+1,g,aT=>match p.ops[aT]? with
  | none=>g
  | some o=>let r:=eh p fr b g aT o
   if r.2.2 then pT p fr b n r.1 r.2.1 else r.1
def eY (p:Pr)(fr:Int)(b:List UInt8)(g:Nat→Int):Nat→Int:=pT p fr b 200 g 0
def foldI (p:Pr)(fr:Int):(Nat→Int)→List (List UInt8)→(Nat→Int)
 | g,[]=>g
 | g,b::l=>foldI p (fr+1) (eY p fr b g) l
theorem Cw (p:Pr)(b:List UInt8):∀ (l:List (List UInt8)) (fr:Int) (g:Nat→Int),foldI p fr g (l++[b])=eY p (fr+l.length) b (foldI p fr g l)
 | [],fr,g=>by simp[foldI]
 | x::l,fr,g=>by
  rw[cons_append,foldI,Cw p b l,foldI,e9]
  congr 1;omega
def dP (g:Nat→Int):Prop:=∀ c,c<32→dp (g c)
theorem hW {i:Int}(h1:-2147483648≤i)(h2:i≤2147483647):IntKind.i32.wrap i=i:=IntWalk.i32_in _ ⟨h1,h2⟩
theorem w5 (x:Int):dp (hV x):=by
 simp only[hV,dp,IntKind.wrap];split <;> simp_all [IntKind.signed,IntKind.bits] <;> omega
def Ro (W:World)(e sz:Nat)(ad:Option Addr)(n c:Nat)(cs:List Value):SP:=λh =>
 (cs.length=n*sz∧n≤c∧(0<n→∃ b off,ad=some ⟨b,off,none⟩∧b<W.heap.size∧Rd W b off cs))∨Sl e sz ad n c cs h
class tv (L:List SP)(W:World)(ad:Option Addr)(n c e sz:outParam Nat)(cs:outParam (List Value))(R:outParam (List SP)):Prop where perm:L.Perm (Ro W e sz ad n c cs::R)
instance tv.head {L W ad n c e sz cs}:tv (Ro W e sz ad n c cs::L) W ad n c e sz cs L:=⟨List.Perm.refl _⟩
instance (priority:=low) tv.tail {A L W ad n c e sz cs R}[h:tv L W ad n c e sz cs R]:tv (A::L) W ad n c e sz cs (A::R) :=
 ⟨(List.Perm.cons A h.perm).trans (List.Perm.swap _ _ _)⟩
section
variable {W w:World}{L R:List SP}{e sz n c:Nat}{ad:Option Addr}{cs:List Value}
theorem V.ro (s:V W w L)(ad:Option Addr)[k:tv L W ad n c e sz cs R]:cs.length=n*sz∧n≤c:=(s.perm k.perm).tell λ_ h=>by
 rcases h with ⟨h1,h2,_⟩ | h
 ·exact⟨h1,h2⟩
 ·exact⟨h.1,h.2.1⟩
theorem V.qH (s:V W w L)(ad:Option Addr)[k:tv L W ad n c e sz cs R](h0:0<n):∃ b off,ad=some ⟨b,off,none⟩∧Rd w b off cs:=by
 have s':=s.perm k.perm;obtain⟨mx,h,p,h1,h2,d,a,kk,x,q⟩:=s';rcases x with ⟨x1,x2,x3⟩ | x
 ·obtain⟨b,off,rfl,hb,hr⟩:=x3 h0;exact⟨b,off,rfl,λj v hj=>(s.gq (a:=⟨b,off+j,none⟩) hb).trans (hr j v hj)⟩
 ·have s2:V W w (Sl e sz ad n c cs::R):=⟨mx,h,p,h1,h2,d,a,kk,x,q⟩;exact s2.bY ad h0
theorem V.TX (s:V W w L)(h1:cs.length=n*sz)(h2:n≤c)(h3:0<n→∃ b off,ad=some ⟨b,off,none⟩∧b<W.heap.size∧Rd W b off cs):V W w (Ro W e sz ad n c cs::L) :=
 ⟨s.below,let ⟨h,p,q⟩:=s.sat;⟨h,p,λ_=>none,h,λ_=>.inl rfl,λ_ _ e=>(by cases e),Hp.Sub.refl _,.inl ⟨h1,h2,h3⟩,q⟩⟩
theorem V.Cx (s:V W w (Sl e sz ad n c cs::L)):V W w (Ro W e sz ad n c cs::L):=s.imp λ_ ⟨h1,h2,d,a,b,x,q⟩=>⟨h1,h2,d,a,b,.inr x,q⟩
end
theorem ve {w:World}{b off k:Nat}{ops:List gy}{o:gy}(hr:Rd w b off (rows dO ops))(ho:ops[k]?=some o):Rd w b (off+k*4) (dO o):=by
 obtain⟨hi,he⟩:=a1.1 ho;have:=hr.part (k*4) 4;rw[uS Cv ops k hi,he]at this;exact this
end
end Go.Proofs.YteoldcfapaiobaaGreat
