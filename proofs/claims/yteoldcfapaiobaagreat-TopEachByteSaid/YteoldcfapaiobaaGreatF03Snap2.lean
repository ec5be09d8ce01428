/- The walks of package snap, further. -/
import Derived.Test.YteoldcfapaiobaaGreatF02Page
import Derived.Test.YteoldcfapaiobaaGreatF01Row
namespace Go.Proofs.YteoldcfapaiobaaGreat
open Tryz
open List (nil_append map_cons cons_append append_nil ext_getElem? set_set map_nil getElem?_set_ne foldl_append)
open Go.RowKit
set_option linter.unusedVariables false
set_option linter.unusedSimpArgs false
set_option maxRecDepth 10000
set_option synthInstance.maxSize 4000
set_option synthInstance.maxHeartbeats 400000
section
section
variable {W w:World}{L L':List SP}{q r b m i pb:Nat}{A:Sn}{ps:List Pg}{xs:List (aC×Nat)}{x y:aC}
theorem Vt {off n c:Nat}{vs:List Value}(I:U W w L)(hr:∀ w',U W w' L→Rd w' b off vs)(hl:vs.length=n)(hn:0<n)(h1:∀ v∈vs,v.oneCell'=true)(hb:n≤1048576) :
   Calls prog 121 #[.slice (some ⟨b,off,none⟩) n c] w λe w'=>∃ ad c',e=.returned (.slice ad n c')∧U W w' (Sl 3 1 ad n c' vs::L):=by
 refine EN func121 ntmps121 rfl rfl λa E=>?_;refine RN 6 E I λa E=>?_;replace E:=E.aM 4;refine RN 2 E I λa E=>?_;refine ux E rfl I underlying53 Ty.t3 rfl λb5 a w E I ho=>?_;clear ho;refine RN 1 E I λa E=>?_;refine cQ E rfl I underlying53 Ty.t3 rfl rfl (hr _ I.tail) (by omega) h1 hn (by decide) (by omega) λsZ rH a w E I=>?_;rw[eE,nil_append] at *;refine RT 1 E I ?_;exact⟨_,_,rfl,I⟩
theorem JG (I:U W w (ax q r A::L))(hx:A.ar[i]?=some x) :
   Calls prog 85 #[pt q,.int .i64 x.id] w λe w'=>∃ ad c,e=.returned (.slice ad 4 c)∧U W w' (Sl 3 1 ad 4 c (ints .i64 4 (λk=>(x.p k:Int)+1))::ax q r A::L):=by
 obtain⟨b,m,ps,xs,h1,hw,hr,I⟩:=ax.open I;obtain⟨pb,ba⟩:=qH h1 hx;refine EN func85 ntmps85 rfl rfl λa E=>?_;refine CL 5 E I (qI I h1 hw ba) λa w E I=>?_;refine RN 5 E I λa E=>?_;replace E:=E.aM 10;refine RN 2 E I λa E=>?_;replace I:=I.rJ ba;refine aY 4 E I (Vt (off:=0) (c:=4) I (λw' h=>h.D0 pb) (dg _ _ _) (by decide) uy (by decide)) λad c a w E I=>?_;refine RT 1 E I ?_;refine⟨ad,c,rfl,?_⟩;have h4:=ax.uH (A:=A) (B:=A) (q:=q) (r:=r) (last:=A.last) (L':=Sl 3 1 ad 4 c (ints .i64 4 (λk=>(x.p k:Int)+1))::L) (b:=b) (m:=m) (ps:=ps) (pb:=pb) (y:=x) I ba h1 rfl (ye hx) hw hr;exact h4.perm (cZ _ _ _)
theorem AF (I:U W w (ax q r A::L)) :
   Calls prog 83 #[pt q] w λe w'=>e=.returned (pt r)∧U W w' (ax q r A::L):=by
 obtain⟨b,m,ps,xs,h1,hw,hr,I⟩:=ax.open I;refine EN func83 ntmps83 rfl rfl λa E=>?_;refine RN 6 E I λa E=>?_;replace E:=E.aM 4;refine RT 7 E I ?_;exact⟨rfl,ax.close (b:=b) (m:=m) I h1 hw hr⟩
theorem D4 (I:U W w (ax q r A::L)) :
   Calls prog 84 #[pt r] w λe w'=>e=.returned (.int .i64 A.used)∧U W w' (ax q r A::L):=by
 obtain⟨b,m,ps,xs,h1,hw,hr,I⟩:=ax.open I;refine (Jf (I.pick (Room r b ps))).mono λe w' ⟨h2,I⟩=>?_;rw[hr.used]at h2;exact⟨h2,ax.close (b:=b) (m:=m) (ps:=ps) I h1 hw hr⟩
theorem JH {n:Int}(I:U W w (ax q r A::L)) :
   Calls prog 125 #[pt q,.int .i64 n] w λe w'=>e=.returned (.bool (decide (n≤((A.room-A.used:Nat):Int))))∧U W w' (ax q r A::L):=by
 obtain⟨b,m,ps,xs,h1,hw,hr,I⟩:=ax.open I;refine EN func125 ntmps125 rfl rfl λa E=>?_;refine RN 6 E I λa E=>?_;replace E:=E.ei 7;refine CL 5 E I (UL (I.pick (Room r b ps))) λa w E I=>?_;refine RT 3 E I ?_;exact⟨by rw[hr.used,hr.len],ax.close (b:=b) (m:=m) (ps:=ps) I h1 hw hr⟩
theorem Vu (I:U W w (ax q r A::L)) :
   Calls prog 82 #[pt q] w λe w'=>∃ ad c,e=.returned (.slice ad A.ar.length c)∧U W w' (Sl 166 1 ad A.ar.length c (A.ar.map λx=>.int .i64 x.id)::ax q r A::L):=by
 obtain⟨b,m,ps,xs,h1,hw,hr,I⟩:=ax.open I;have hlen:(kvs xs).length=A.ar.length:=by rw[← h1];simp[kvs]
 have uJ:((kvs xs).map (·.1)).Pairwise (· < ·):=by
  have:(kvs xs).map (·.1)=(A.ar.map (·.id)).map (λn:Nat=>(n:Int)):=by rw[← h1];simp[kvs]
  rw[this,List.pairwise_map];exact hw.sorted.imp λh=>by omega
 have td:((kvs xs).map λp=>Value.int .i64 p.1)=A.ar.map λx=>Value.int .i64 x.id:=by rw[← h1];simp[kvs]
 refine EN func82 ntmps82 rfl rfl λa E=>?_;refine RN 6 E I λa E=>?_;replace E:=E.aM 4;refine bj 6 E I (UX (m:=m) I) λb8 a w E I=>?_;refine aY 0 E I (UZ (m:=m) (kvs:=kvs xs) ((I.pick (mp m (kvs xs))).pick (aa b8 218 [.map (some m)])) uJ (by rw[hlen];have:=hw.many;have:=hw.bound;omega)) λad c a w E I=>?_;rw[hlen,td] at *;refine RT 1 E I ?_;refine⟨ad,c,rfl,?_⟩;have h4:=ax.close (A:=A) (q:=q) (r:=r) (last:=A.last) (xs:=xs) (L':=Sl 166 1 ad A.ar.length c (A.ar.map λx=>.int .i64 x.id)::L) (b:=b) (m:=m) (ps:=ps) I h1 hw hr;exact h4.perm (cZ _ _ _)
theorem Vv (I:U W w (ax q r A::L))(hx:A.ar[i]?=some x) :
   Calls prog 290 #[pt q,.int .i64 x.id] w λe w'=>e=.returned (.tuple #[.agg (ints .i32 32 x.g).toArray,.bool true])∧U W w' (ax q r A::L):=by
 refine EN func290 ntmps290 rfl rfl λa E=>?_;refine AL 1 E I λb4 a w E I=>?_;change U W w (aa b4 183 (ints .i32 32 (λ_=>0))::_) at I;refine AL 2 E I λcI a w E I=>?_;change U W w (aa cI 183 (ints .i32 32 (λj=>if j<0 then x.g j else 0))::_) at I;refine RN 2 E I λa E=>?_;obtain⟨b,m,ps,xs,h1,hw,hr,I⟩:=ax.open (I.pick (ax q r A));obtain⟨pb,ba⟩:=qH h1 hx;refine CL 2 E I (qI I h1 hw ba) λa w E I=>?_;refine RN 1 E I λa E=>?_;replace E:=E.aM 11;refine RN 3 E I λa E=>?_;replace I:=ax.close (A:=A) (q:=q) (r:=r) (last:=A.last) (xs:=xs) (L':=aa cI 183 (ints .i32 32 (λj=>if j<0 then x.g j else 0))::aa b4 183 (ints .i32 32 (λ_=>0))::L) (b:=b) (m:=m) (ps:=ps) I h1 hw hr;refine RN 1 E I λa E=>?_;refine aQ (λμ a w=>∃ k:Nat,(μ=32-k∧k≤32)∧Fr a 27 [(0,pt q),(1,.int .i64 x.id),(4,pt b4),(6,pt cI),(13,.int .i64 k)]∧U W w (aa cI 183 (ints .i32 32 (λj=>if j<k then x.g j else 0))::ax q r A::aa b4 183 (ints .i32 32 (λ_=>0))::L)) (32) (⟨0,⟨by simp,by simp⟩,E.ab [0,1,4,6,13],I.sub⟩) ?_;clear E I;rintro μ a w ⟨k,⟨rfl,hk⟩,E,I⟩;refine IF 3 E I (λao a E=>?_) λao a E=>?_
 ·
  refine CL 8 E I (JB (I.pick (ax q r A)) hx (by omega)) λa w E I=>?_;refine ST 4 E I (λa w E I=>?_) (hlt:=(by rw[dg];omega))
  rw [ints_set, show (fun i => if i = k then x.g k else if i < k then x.g i else 0) = (fun i => if i < k + 1 then x.g i else 0) from by
      funext i
      by_cases h:i=k
      ·subst h;simp
      ·rw[ag h];by_cases h2:i<k
       ·rw[ak h2,ak (by omega)]
       ·rw[ag h2,ag (by omega)]]at I
  refine RN 2 E I λa E=>?_;exact⟨32-(k+1),by omega,k+1,⟨rfl,by omega⟩,E.ab [0,1,4,6,13],I.sub⟩
 obtain rfl:k=32:=by omega
 rw[xX (g':=x.g) (λj hj=>ak hj)]at I;refine SA 2 E I λa w E I=>?_;refine RT 1 E I ?_;exact⟨rfl,I.sub⟩
theorem Vw (p:Nat):cS [] p=0:=rfl
theorem Vx {n:Nat}(I:U W w L)(hn:n≤50) :
   Calls prog 89 #[.int .i64 n] w λe w'=>∃ q r,e=.returned (pt q)∧U W w' (ax q r ⟨0,4*n,0,[]⟩::L):=by
 refine EN func89 ntmps89 rfl rfl λa E=>?_;refine RN 6 E I λa E=>?_;rw[show min (max (n:Int) 0) 50=(n:Int) from by omega]at E;refine RN 1 E I λa E=>?_;rw[show (4:Int)*(n:Int)=((4*n:Nat):Int) from by omega]at E;refine aY 0 E I (UD I (by omega)) λr b a w E I=>?_;refine RN 0 E I λa E=>?_;refine UO E rfl I rfl λb8 a w E I ho=>?_;clear ho;refine BX 1 E I λkJ a w E I=>?_;refine RT 1 E I ?_;have h7:U W w (ah jd []::aa kJ 221 [pt r,.map (some b8),.int .i64 ((0:Nat):Int)]::mp b8 (kvs [])::Room r b (List.replicate (4*n) s0)::L):=U.iY I;refine⟨kJ,r,rfl,ax.close (A:=⟨0,4*n,0,[]⟩) (last:=0) (b:=b) (m:=b8) (xs:=[]) (ps:=List.replicate (4*n) s0) h7 rfl ⟨by simp only;omega,by simp,bf _,by simp,by simp,by simp⟩ ⟨by simp,λp q hq=>?_,by simp⟩⟩;obtain⟨_,rfl⟩:=a2.1 hq;rw[List.getElem_replicate];rfl
theorem Vy {g:Nat→Int}{k:Nat}(I:U W w L)(hk:k<4) :
   Calls prog 127 #[.agg (ints .i32 32 g).toArray,.int .i64 k] w λe w'=>e=.returned (.agg (ints .i32 8 (λj=>g (8*k+j))).toArray)∧U W w' L:=by
 refine EN func127 ntmps127 rfl rfl λa E=>?_;refine BX 1 E I λb2 a w E I=>?_;refine AL 0 E I λb4 a w E I=>?_;change U W w (aa b4 225 (ints .i32 8 (λ_=>0))::_) at I;refine AL 1 E I λb5 a w E I=>?_;change U W w (aa b5 225 (ints .i32 8 (λ_=>0))::_) at I;refine RN 5 E I λa E=>?_;rw[dh (by omega)]at E;refine RN 3 E I λa E=>?_;rw[dh (by omega)]at E;refine RN 1 E I λa E=>?_;have Vz:((ints .i32 32 g).drop (k*8)).take 8=ints .i32 8 (λj=>g (8*k+j)):=by rw[Nat.mul_comm k 8];exact RB g (by omega)
 refine bS 0 [] [0,1,2,3,1004] E I λa w E I hH hC=>?_;refine RH 3 E I hH hC λa E=>?_;rw[show ((k:Int)*8)=((k*8:Nat):Int) from by omega]at E;refine QP E (λw=>RE E underlying183 Ty.t21 (by omega)) λa E=>?_;rw[eE,fU]at E;refine RH 0 E I hH hC λa E=>?_;refine RF E rfl I underlying270 Ty.t21 rfl (k:=8) (vs:=ints .i32 8 (λj=>g (8*k+j))) (by omega) (by rw[← Vz];exact I.qq 8) (dg _ _ _) uy (by rw[dg,dg];decide) λa w E I=>?_;rw[show cG (ints .i32 8 (λ_=>0)) 0 (ints .i32 8 (λj=>g (8*k+j)))=ints .i32 8 (λj=>g (8*k+j)) from by simp[cG,dg]]at I;refine SA 2 E I λa w E I=>?_;refine RT 0 E I ?_;exact⟨rfl,I.sub⟩
structure Made (ps:List Pg)(g:Nat→Int)(t:Nat→Nat)(k:Nat)(gp:List Pg):Prop where
 len:gp.length=ps.length
 new:∀ j,j<k→∃ q,gp[t j]?=some q∧q.refs=1∧∀ l,l<8→q.g l=g (8*j+l)
 D5:∀ j,j<k→∃ q,ps[t j]?=some q∧q.refs=0
 apart:∀ j l,j<k→l<k→t j=t l→j=l
 gD:∀ p,(∀ j,j<k→t j≠p)→gp[p]?=ps[p]?
 used:j4 gp=j4 ps+k
theorem Made.zero (ps:List Pg)(g:Nat→Int)(t:Nat→Nat):Made ps g t 0 ps:=⟨rfl,λ_ h=>by omega,λ_ h=>by omega,λ_ _ h=>by omega,λ_ _=>rfl,rfl⟩
theorem Made.free {ps gp:List Pg}{g:Nat→Int}{t:Nat→Nat}{k:Nat}(h:Made ps g t k gp)(hu:j4 ps+k<ps.length):∃ f,uC gp f:=by
 rcases DL gp with bR | hf
 ·have:=JF bR;rw[h.used,h.len]at this;omega
 ·exact hf
theorem Made.step {ps gp:List Pg}{g:Nat→Int}{t:Nat→Nat}{k f:Nat}(h:Made ps g t k gp)(hf:uC gp f){g1:Nat→Int}(hg:∀ l,l<8→g1 l=g (8*k+l)) :
   Made ps g (λj=>if j=k then f else t j) (k+1) (gp.set f ⟨g1,1⟩):=by
 obtain⟨ju,jM,_⟩:=hf;have bD:∀ j,j<k→t j≠f:=λj hj e=>by
  obtain⟨q,h1,h2,_⟩:=h.new j hj;rw[e,aD ju]at h1;cases h1;omega
 have AA:ps[f]?=some gp[f]:=by rw[← h.gD f bD,aD ju]
 refine⟨by rw[bw];exact h.len,λj hj=>?_,λj hj=>?_,λj l hj hl e=>?_,λp hp=>?_,?_⟩
 ·by_cases qz:j=k
  ·subst qz;exact⟨⟨g1,1⟩,by simp[ju],rfl,hg⟩
  ·obtain⟨q,h1,h2,h3⟩:=h.new j (by omega);exact⟨q,by simp only[ag qz];rw[getElem?_set_ne (Ne.symm (bD j (by omega)))];exact h1,h2,h3⟩
 ·by_cases qz:j=k
  ·subst qz;exact⟨_,by simp only[if_true];exact AA,jM⟩
  ·simp only[ag qz];exact h.D5 j (by omega)
 ·by_cases h1:j=k <;> by_cases h2:l=k
  ·omega
  ·rw[ak h1,ag h2]at e;exact absurd e.symm (bD l (by omega))
  ·rw[ag h1,ak h2]at e;exact absurd e (bD j (by omega))
  ·rw[ag h1,ag h2]at e;exact h.apart j l (by omega) (by omega) e
 ·have h1:=hp k (by omega);simp only[if_true]at h1;rw[getElem?_set_ne h1];refine h.gD p λj hj e=>?_;have:=hp j (by omega);rw[ag (by omega)]at this;exact this e
 ·have:=List.countP_set (p:=λp:Pg=>decide (0<p.refs)) (a:=⟨g1,1⟩) ju;have hu:=h.used;simp only[j4]at hu ⊢;rw[this,hu];simp[jM,Nat.add_assoc]
theorem Made.rel {ps gp:List Pg}{g:Nat→Int}{t:Nat→Nat}(h:Made ps g t 4 gp)(hr:Rel A ps):Rel (A.add g t) gp:=by
 have hz:∀ j,j<4→cS A.ar (t j)=0:=λj hj=>by
  obtain⟨q,h1,h2⟩:=h.D5 j hj;rw[← hr.refs _ _ h1];exact h2
 refine⟨h.len.trans hr.len,λp q hq=>?_,λy hy k hk=>?_⟩
 ·simp only[Sn.add,x9,s9,DU,Nat.add_zero];by_cases hp:∃ j,j<4∧t j=p
  ·obtain⟨j,hj,rfl⟩:=hp;obtain⟨q',h1,h2,_⟩:=h.new j hj;rw[h1]at hq;cases hq;rw[hz j hj,h2,uE];have E:=λl (hl:l<4) (e:t l=t j)=>h.apart l j hl hj e;simp only;rcases (by omega:j=0∨j=1∨j=2∨j=3) with rfl | rfl | rfl | rfl
   ·rw[ak rfl,ag (λe=>by have:=E 1 (by omega) e;omega),ag (λe=>by have:=E 2 (by omega) e;omega),ag (λe=>by have:=E 3 (by omega) e;omega)]
   ·rw[ak rfl,ag (λe=>by have:=E 0 (by omega) e;omega),ag (λe=>by have:=E 2 (by omega) e;omega),ag (λe=>by have:=E 3 (by omega) e;omega)]
   ·rw[ak rfl,ag (λe=>by have:=E 0 (by omega) e;omega),ag (λe=>by have:=E 1 (by omega) e;omega),ag (λe=>by have:=E 3 (by omega) e;omega)]
   ·rw[ak rfl,ag (λe=>by have:=E 0 (by omega) e;omega),ag (λe=>by have:=E 1 (by omega) e;omega),ag (λe=>by have:=E 2 (by omega) e;omega)]
  ·have hn:∀ j,j<4→t j≠p:=λj hj e=>hp ⟨j,hj,e⟩;rw[h.gD p hn]at hq;rw[hr.refs p q hq,DT (x:=⟨A.last+1,1,g,t⟩) hn];rfl
 ·simp only[Sn.add]at hy;rcases eS.1 hy with hy | hy
  ·obtain⟨q,h1,h2⟩:=hr.pL y hy k hk;refine⟨q,?_,h2⟩;rw[h.gD _ λj hj e=>?_]
   ·exact h1
   ·have h3:=hz j hj;have h4:=uF hy (t j);rw[e]at h3 h4;have:=s8 (x:=y) hk;omega
  ·simp at hy;subst hy;obtain⟨q,h1,h2,h3⟩:=h.new k hk;exact⟨q,h1,h3⟩
abbrev nX (P:Nat→Int):List Value:=ints .i64 4 P++[.int .i64 0]
theorem VA (P:Nat→Int):(nX P).length=5:=by simp[nX,dg]
theorem VB {P:Nat→Int}{k:Nat}(h:k<4):(nX P)[k]?=some (.int .i64 (P k)):=by
 rw[nX,mA (by rw[dg];exact h),fT _ h]
theorem VC {P:Nat→Int}{k:Nat}(v:Int)(h:k<4):(nX P).set k (.int .i64 v)=nX (λj=>if j=k then v else P j):=by
 rw[nX,sN _ _ (by rw[dg];exact h),ints_set,nX]
def tP (t:Nat→Nat)(k:Nat):Nat→Int:=λj=>if j<k then (t j:Int)+1 else 0
theorem VD (t:Nat→Nat)(k f:Nat):(λj=>if j=k then ((f:Int)+1) else tP t k j)=tP (λj=>if j=k then f else t j) (k+1):=by
 funext j
 simp only[tP];by_cases h:j=k
 ·subst h;simp
 ·rw[ag h,ag h];by_cases h2:j<k
  ·rw[ak h2,ak (by omega)]
  ·rw[ag h2,ag (by omega)]
def oK (g:Nat→Int)(k j:Nat):Nat→Int:=λl=>if l<j then g (8*k+l) else 0
theorem VE (g:Nat→Int)(k:Nat):oK g k 0=λ_=>0:=by funext l;simp[oK]
theorem VF (g:Nat→Int)(k j:Nat):(λl=>if l=j then g (8*k+j) else oK g k j l)=oK g k (j+1):=by
 funext l
 simp only[oK];by_cases h:l=j
 ·subst h;simp
 ·rw[ag h];by_cases h2:l<j
  ·rw[ak h2,ak (by omega)]
  ·rw[ag h2,ag (by omega)]
theorem JI {g:Nat→Int}(I:U W w (ax q r A::L))(hu:A.used+4≤A.room)(hb:A.n+1<1099511627776) :
   Calls prog 93 #[pt q,.agg (ints .i32 32 g).toArray] w λe w'=>∃ t:Nat→Nat,e=.returned (.tuple #[.int .i64 ((A.last+1:Nat):Int),.bool true]) ∧
    ((∀ j,j<4→t j<A.room∧cS A.ar (t j)=0)∧∀ j l,j<4→l<4→t j=t l→j=l)∧U W w' (ax q r (A.add g t)::L):=by
 refine EN func93 ntmps93 rfl rfl λa E=>?_;refine BX 1 E I λb3 a w E I=>?_;refine CL 5 E I (JH (I.pick (ax q r A))) λa w E I=>?_;rw[dh (by omega)]at E;refine RN 1 E I λa E=>?_;replace E:=E.aM 12;refine RN 2 E I λa E=>?_;obtain⟨b,m,ps,xs,h1,hw,hr,I⟩:=ax.open I;have nU:=hr.used;have gq:=hr.len;refine AL 0 E I λcI a w E I=>?_;change U W w (aa cI 232 (nX (tP (λ_=>0) 0))::_) at I;refine RN 3 E I λa E=>?_;refine aQ (λμ a w=>∃ (k:Nat) (t:Nat→Nat) (gp:List Pg),(μ=4-k∧k≤4∧Made ps g t k gp)∧Fr a 50 [(0,pt q),(3,pt b3),(6,pt cI),(13,.int .i64 k)]∧U W w (Room r b gp::aa cI 232 (nX (tP t k))::aa b3 183 (ints .i32 32 g)::aa q 221 [pt r,.map (some m),.int .i64 A.last]::mp m (kvs xs)::ah jd xs::L)) (4) (⟨0,λ_=>0,ps,⟨by simp,by simp,Made.zero _ _ _⟩,E.ab [0,3,6,13],I.sub⟩) ?_;clear E I;rintro μ a w ⟨k,t,gp,⟨rfl,hk,hm⟩,E,I⟩;refine IF 3 E I (λao a E=>?_) λao a E=>?_
 ·
  refine RN 5 E I λa E=>?_;have JJ:=hm.used;obtain⟨f,hf⟩:=hm.free (by omega);have aR:=λ(g1:Nat→Int) h=>hm.step (g1:=g1) hf h;have ju:=hf.1;refine CL 5 E I (Je (I.pick (Room r b gp)) hf) λa w E I=>?_;refine ST 5 E I (λa w E I=>?_) (hlt:=(by rw[VA];omega));rw[VC _ (by omega),VD]at I;refine CL 3 E I (Vy I (by omega)) λa w E I=>?_;refine RN 1 E I λa E=>?_;refine aQ (λμ a w=>∃ j:Nat,(μ=8-j∧j≤8)∧Fr a 50 [(0,pt q),(3,pt b3),(6,pt cI),(7,.int .i64 k),(13,.int .i64 k),(29,.agg (ints .i32 8 (λj=>g (8*k+j))).toArray),(30,.int .i64 j)]∧U W w (Room r b (gp.set f ⟨oK g k j,1⟩)::aa cI 232 (nX (tP (λj=>if j=k then f else t j) (k+1)))::aa b3 183 (ints .i32 32 g)::aa q 221 [pt r,.map (some m),.int .i64 A.last]::mp m (kvs xs)::ah jd xs::L)) (8) (⟨0,⟨by simp,by simp⟩,E.ab [0,3,6,7,13,29,30],by rw[VE];rw[show pI=(⟨λ_=>0,1⟩:Pg) from rfl]at I;exact I.sub⟩) ?_;clear E I;rintro μ a w ⟨j,⟨rfl,hj⟩,E,I⟩;refine IF 3 E I (λay a E=>?_) λay a E=>?_
  ·
   refine RN 3 E I λa E=>?_;refine SS E (sR E underlying225 underlying21 rfl Ty.t21 (by omega) (fT _ (by omega))) λa E=>?_;refine bS 2 [7] [0,1,2,4,5,6,8,9,3003,1007,1010] E I λa w E I hH hC=>?_;refine RH 9 E I hH hC λa E=>?_;refine SS E (ae E (I.bz (VB (by omega)))) λa E=>?_;rw[show tP (λj=>if j=k then f else t j) (k+1) k=(f:Int)+1 from by simp[tP]]at E;have ed:f<(gp.set f ⟨oK g k j,1⟩).length:=by rw[bw];exact ju
   have wu:(gp.set f ⟨oK g k j,1⟩)[f]=⟨oK g k j,1⟩:=by rw[oG]
   refine RH 0 E I hH hC λa E=>?_;refine CL 0 E I (DK (I.pick (Room r b (gp.set f ⟨oK g k j,1⟩))) ed (by rw[wu]) (show j<8 by omega)) λa w E I=>?_;rw[wu,set_set,VF]at I;refine RN 2 E I λa E=>?_;exact⟨8-(j+1),by omega,j+1,⟨rfl,by omega⟩,E.ab [0,3,6,7,13,29,30],I.sub⟩
  obtain rfl:j=8:=by omega
  have VG:=aR (oK g k 8) (λl hl=>by simp[oK,hl]);refine RN 2 E I λa E=>?_;exact⟨4-(k+1),by omega,k+1,_,_,⟨rfl,by omega,VG⟩,E.ab [0,3,6,13],I.sub⟩
 obtain rfl:k=4:=by omega
 have kz:nX (tP t 4)=aC.cells ⟨A.last+1,0,g,t⟩:=by
  rw[nX,aC.cells];rw[xX (g:=tP t 4) (g':=λk=>(t k:Int)+1) (λj hj=>ak hj)];rfl
 rw[kz]at I;have AE:=hw.add hb g t;have AD:=hm.rel hr;refine bj 3 E I (JD (x:=⟨A.last+1,0,g,t⟩) (q:=q) (r:=r) (m:=m) (last:=A.last) (xs:=xs) (L:=Room r b gp::ah jd xs::L) I.sub (by have:=hw.bound;have:=hw.last;omega) (JC h1 hw)) λpb a w E I=>?_;refine RT 2 E I ?_;refine⟨t,rfl,⟨λj hj=>?_,λj l hj hl e=>hm.apart j l hj hl e⟩,?_⟩
 ·obtain⟨q',h5,h6⟩:=hm.D5 j hj;have h7:=(a2.1 h5).1;exact⟨by omega,by rw[← hr.refs _ _ h5];exact h6⟩
 ·have h6:=U.j0 (f:=jd) (l:=xs) (x:=(⟨A.last+1,1,g,t⟩,pb)) (I.sub (M:=aa pb 232 (aC.cells ⟨A.last+1,1,g,t⟩)::ah jd xs::aa q 221 [pt r,.map (some m),.int .i64 ((A.last+1:Nat):Int)]::mp m (kvs xs++[(((A.last+1:Nat):Int),pt pb)])::Room r b gp::L));rw[show kvs xs++[(((A.last+1:Nat):Int),Value.pointer (some ⟨pb,0,none⟩))]=kvs (xs++[(⟨A.last+1,1,g,t⟩,pb)]) from by simp[kvs]]at h6;exact ax.close (last:=A.last+1) (b:=b) (m:=m) (xs:=xs++[(⟨A.last+1,1,g,t⟩,pb)]) h6 (by simp[Sn.add,h1]) AE AD
end
end
section
structure Br where
 id:Nat
 frm:Int
 al:List (List UInt8)
 done:Nat
 snap:Nat
structure Tr where
 most:Nat
 l:List Br
 last:Nat
 epoch:Nat
def nY (p:List (List UInt8)):Prop:=p.length≤65536∧∀ b∈p,b.length≤1099511627776
abbrev cj (x:Br)(ad:Option Addr)(c:Nat):List Value:=[.int .i64 x.id,.int .i64 x.frm,.slice ad x.al.length c,.int .i64 x.done,.int .i64 x.snap]
abbrev Bx:=Br×Option Addr×Nat
abbrev c8 (x:Bx):List Value:=cj x.1 x.2.1 x.2.2
def bY (x:Bx):SP:=ch x.2.1 x.1.al.length x.2.2 x.1.al
theorem te (x:Bx):(c8 x).length=5:=rfl
structure WT (T:Tr):Prop where
 most:T.most≤8∧T.l.length≤T.most
 last:T.last<1099511627776
 epoch:T.epoch<1099511627776
 ids:(T.l.map (·.id)).Pairwise (· < ·)
 ok:∀ x∈T.l,nY x.al∧x.done≤x.al.length∧1≤x.id∧x.id≤T.last
def Tree (tq sq:Nat)(T:Tr):SP:=λh=>∃ ad c xs,(xs.map (·.1)=T.l∧WT T) ∧
 cn [aa tq 236 [pt sq,.int .i64 T.most,.slice ad T.l.length c,.int .i64 T.last,.int .i64 T.epoch],Sl 238 5 ad T.l.length c (rows c8 xs),ah bY xs] h
section
variable {W w:World}{L L' R:List SP}{tq sq q r n c k:Nat}{ad:Option Addr}{A:Sn}{T:Tr}{x y:Br}{xs:List Bx}{p:List (List UInt8)}
theorem Tree.open (I:U W w (Tree tq sq T::L)):∃ ad c xs,xs.map (·.1)=T.l∧WT T ∧
   U W w (aa tq 236 [pt sq,.int .i64 T.most,.slice ad T.l.length c,.int .i64 T.last,.int .i64 T.epoch]::Sl 238 5 ad T.l.length c (rows c8 xs)::ah bY xs::L):=by
 obtain⟨⟨ad,c,xs⟩,⟨h1,h2⟩,h4⟩:=I.jL (ι:=Option Addr×Nat×List Bx) (p:=λi=>i.2.2.map (·.1)=T.l∧WT T)
  (B:=λi h=>cn [aa tq 236 [pt sq,.int .i64 T.most,.slice i.1 T.l.length i.2.1,.int .i64 T.last,.int .i64 T.epoch],Sl 238 5 i.1 T.l.length i.2.1 (rows c8 i.2.2),ah bY i.2.2] h)
  (λh ⟨ad,c,xs,h1,h2⟩=>⟨(ad,c,xs),h1,h2⟩)
 exact⟨ad,c,xs,h1,h2,h4.open λ_ h=>h⟩
theorem Tree.close {most last epoch:Nat}(I:U W w L)[k:fJ L (aa tq 236 [pt sq,.int .i64 most,.slice ad n c,.int .i64 last,.int .i64 epoch]::Sl 238 5 ad n c (rows c8 xs)::ah bY xs::L') R]
   (h1:xs.map (·.1)=T.l) (h2:WT T) (e1:T.most=most:=by rfl) (e2:T.l.length=n:=by rfl) (e3:T.last=last:=by rfl) (jt:T.epoch=epoch:=by rfl):U W w (Tree tq sq T::L'):=by
 subst e1 e2 e3 jt;exact U.shut (M:=[_,_,_]) (I.sub (M:=aa tq 236 [pt sq,.int .i64 T.most,.slice ad T.l.length c,.int .i64 T.last,.int .i64 T.epoch]::Sl 238 5 ad T.l.length c (rows c8 xs)::ah bY xs::L')) (λ_ x=>⟨ad,c,xs,⟨h1,h2⟩,x⟩)
theorem Tree.same (ad:Option Addr)(c:Nat)(xs:List Bx)(I:U W w L)[k:fJ L (aa tq 236 [pt sq,.int .i64 T.most,.slice ad T.l.length c,.int .i64 T.last,.int .i64 T.epoch]::Sl 238 5 ad T.l.length c (rows c8 xs)::ah bY xs::L') R]
   (h1:xs.map (·.1)=T.l) (h2:WT T):U W w (Tree tq sq T::L') :=
 U.shut (M:=[_,_,_]) (I.sub (M:=aa tq 236 [pt sq,.int .i64 T.most,.slice ad T.l.length c,.int .i64 T.last,.int .i64 T.epoch]::Sl 238 5 ad T.l.length c (rows c8 xs)::ah bY xs::L')) (λ_ x=>⟨ad,c,xs,⟨h1,h2⟩,x⟩)
class wv (L:List SP)(tq:Nat)(sq:outParam Nat)(T:outParam Tr)(R:outParam (List SP)):Prop where perm:L.Perm (Tree tq sq T::R)
instance wv.head {L tq sq T}:wv (Tree tq sq T::L) tq sq T L:=⟨lD _⟩
instance (priority:=low) wv.tail {B L tq sq T R}[h:wv L tq sq T R]:wv (B::L) tq sq T (B::R):=⟨(kx B h.perm).trans (cZ _ _ _)⟩
theorem U.tree (I:U W w L)(tq:Nat)[k:wv L tq sq T R]:U W w (Tree tq sq T::R):=I.perm k.perm
theorem Tree.wt (I:U W w (Tree tq sq T::L)):WT T:=by obtain⟨_,_,_,_,h,_⟩:=Tree.open I;exact h
theorem D6 (h1:xs.map (·.1)=T.l)(hx:T.l[k]?=some x):∃ ad c,xs[k]?=some (x,ad,c):=by
 rw[← h1,bn]at hx;obtain⟨⟨y,ad,c⟩,h2,rfl⟩:=rG.1 hx;exact⟨ad,c,h2⟩
theorem oL {b off:Nat}(hr:Rd w b off (rows c8 xs)){av:Option Addr}{c':Nat}(hx:xs[k]?=some (x,av,c')):Rd w b (off+k*5) (cj x av c'):=by
 obtain⟨hi,he⟩:=a2.1 hx;have:=hr.part (k*5) 5;rw[vW te xs k hi,he]at this;exact this
theorem ah.pM (I:U W w (ah bY xs::L)){av:Option Addr}{c':Nat}(hx:xs[k]?=some (x,av,c')):k6 w av x.al.length x.al∧x.al.length≤c':=by
 obtain⟨hi,he⟩:=a2.1 hx;have h:=I.fy hi;rw[he]at h;have h2:U W w (ch av x.al.length c' x.al::_):=h;exact⟨ch.rd h2,(ch.le h2).2⟩
theorem VH {s:Nat}{m:Int}(I:U W w L):Calls prog 91 #[pt s,.int .i64 m] w λe w'=>∃ tq,e=.returned (pt tq)∧U W w' (Tree tq s ⟨(min (max m 0) 8).toNat,[],0,0⟩::L):=by
 refine EN func91 ntmps91 rfl rfl λa E=>?_;refine BX 8 E I λkJ a w E I=>?_;refine RT 1 E I ?_;rw[show min (max m 0) 8=(((min (max m 0) 8).toNat:Nat):Int) from by omega]at I;have h:U W w (Sl 238 5 none 0 0 (rows c8 [])::ah bY []::aa kJ 236 [pt s,.int .i64 (((min (max m 0) 8).toNat:Nat):Int),.slice none 0 0,.int .i64 ((0:Nat):Int),.int .i64 ((0:Nat):Int)]::L):=(I.iY (f:=bY)).bN 238 5 none;exact⟨kJ,rfl,Tree.close (T:=⟨(min (max m 0) 8).toNat,[],0,0⟩) (most:=(min (max m 0) 8).toNat) (ad:=none) (c:=0) (n:=0) (last:=0) (epoch:=0) (xs:=[]) h rfl ⟨⟨by simp only;omega,Nat.zero_le _⟩,by simp,by simp,by simp,by simp⟩⟩
def pN (a b:List (List UInt8)):Bool:=a.take (min a.length b.length)==b.take (min a.length b.length)
theorem VI {u v:List (List UInt8)}{ad2:Option Addr}{c2:Nat}(de:k6 w ad u.length u)(lJ:k6 w ad2 v.length v)(ao:u.length≤c)(ay:v.length≤c2)(hb:u.length≤1099511627776) :
   Calls prog 295 #[.slice ad u.length c,.slice ad2 v.length c2] w λe w'=>e=.returned (.bool (pN u v))∧w'=w.drew:=by
 obtain⟨W,x6⟩:∃ W,w=W:=⟨w,rfl⟩;have I:U W w []:=x6 ▸ U.start w;refine EN func295 ntmps295 rfl rfl λa E=>?_;refine RN 8 E I λa E=>?_;rw[show min (u.length:Int) (v.length:Int)=((min u.length v.length:Nat):Int) from by omega]at E;refine RN 2 E I λa E=>?_;have JK:k6 w.drew ad u.length u:=de;have pC:k6 w.drew ad2 v.length v:=lJ;refine rE 0 (λ_=>True) [] [0,1,2,3,4,5,1006,7] E I λa E=>?_;replace I:=I.drew;generalize w.drew=w at I JK pC ⊢;have hC:=trivial;have hH:=Hd.any (λ_=>True);refine RH 6 E I hH hC λa E=>?_;rw[rF,rF,Nat.sub_zero,Nat.sub_zero,Nat.sub_zero]at E;refine CL 0 E I (Ut (p:=u.take (min u.length v.length)) (q:=v.take (min u.length v.length)) (JK.take (by omega)) (pC.take (by omega)) (by omega)) λa w E hx=>?_;obtain rfl:=hx;refine RN 1 E (U.start _) λa E=>?_;refine RT 0 E (U.start _) ?_;exact⟨rfl,rfl⟩
theorem D7 {u v:List (List UInt8)}{ad2:Option Addr}{c2:Nat}(I:U W w L)(de:k6 w ad u.length u)(lJ:k6 w ad2 v.length v)(ao:u.length≤c)(ay:v.length≤c2)(hb:u.length≤1099511627776) :
   Calls prog 295 #[.slice ad u.length c,.slice ad2 v.length c2] w λe w'=>e=.returned (.bool (pN u v))∧U W w' L :=
 (VI de lJ ao ay hb).mono λe w' ⟨h1,h2⟩=>⟨h1,by subst h2;exact I.drew⟩
theorem JL {m:Nat}{zs:List ec}(I:U W w L)(hr:∀ w',U W w' L→iK w' ad zs)(hm:zs.length=m)(dr:nY (zs.map (·.2.2))) :
   Calls prog 165 #[.slice ad m c] w λe w'=>∃ av c',e=.returned (.slice av m c')∧U W w' (ch av m c' (zs.map (·.2.2))::L):=by
 obtain⟨JM,VJ⟩:=dr;rw[a8]at JM;refine EN func165 ntmps165 rfl rfl λa E=>?_;refine RN 6 E I λa E=>?_;replace I:=ch.nil I;refine RN 3 E I λa E=>?_;refine aQ (λμ a w=>∃ (k:Nat) (fu:Option Addr) (dI:Nat),(μ=m-k∧k≤m)∧Fr a 19 [(3,.slice fu k dI),(6,.slice ad m c),(7,.int .i64 m),(8,.int .i64 k)]∧U W w (ch fu k dI ((zs.map (·.2.2)).take k)::L)) (m) (⟨0,none,0,⟨by simp,by simp⟩,E.ab [3,6,7,8],I⟩) ?_;clear E I;rintro μ a w ⟨k,fu,dI,⟨rfl,hk⟩,E,I⟩;refine IF 3 E I (λaj a E=>?_) λaj a E=>?_
 ·
  refine RN 2 E I λa E=>?_;obtain⟨b1,o1,rfl,h1⟩:=(hr _ I.tail).1 (by omega);have ew:zs[k]?=some zs[k]:=aD (by omega);have oM:=VJ zs[k].2.2 (cR.2 ⟨zs[k],iZ _,rfl⟩);have mG:=h1 k _ (by rw[bn,ew];rfl);refine RN 1 E I λa E=>?_;refine SS E (ae E (mG)) λa E=>?_;refine aY 3 E I (sY (bs:=zs[k].2.2) I (λw' h=>(hr _ h.tail).2 _ (iZ _)) oM) λmI hV a w E I=>?_;refine RN 0 E I λa E=>?_;refine cr E rfl I underlying207 Ty.t22 rfl rfl rfl rfl (by decide) (by decide) λVK a w E I ho=>?_;clear ho;obtain⟨ys,g6,jg,I⟩:=ch.open (I.pick (ch fu k dI ((zs.map (·.2.2)).take k)));refine RN 0 E I λa E=>?_;refine cQ E rfl I underlying207 Ty.t22 rfl rfl I.ai rfl (by simp[Value.oneCell']) (by decide) (by decide) (by omega) λD8 D9 a w E I=>?_;have h8:=U.j0 (f:=a7) (l:=ys) (x:=(mI,hV,zs[k].2.2)) (I.sub (M:=Sl 5 1 mI zs[k].2.2.length hV (bc zs[k].2.2)::ah a7 ys::Sl 22 1 D8 (k+1) D9 (ys.map aL++[[.slice mI zs[k].2.2.length hV]].flatten)::L));have h9:U W w (ah a7 (ys++[(mI,hV,zs[k].2.2)])::Sl 22 1 D8 (k+1) D9 ((ys++[(mI,hV,zs[k].2.2)]).map aL)::L):=by
   rw[cW];exact h8
  have dH:k<(zs.map (·.2.2)).length:=by rw[a8];omega
  have fh:=ch.close (p:=(zs.map (·.2.2)).take (k+1)) (ad:=D8) (n:=k+1) (c:=D9) (xs:=ys++[(mI,hV,zs[k].2.2)]) (L':=L) h9 (by rw[cW,g6,jw dH];simp) (by rw[et];omega);replace I:=fh;clear h8 h9 fh;refine RN 3 E I λa E=>?_;exact⟨m-(k+1),by omega,k+1,_,_,⟨rfl,by omega⟩,E.ab [3,6,7,8],I⟩
 refine RT 3 E I ?_;obtain rfl:k=m:=by omega
 rw[gg (by rw[a8];omega)]at I;exact⟨_,_,rfl,I⟩
theorem JN {zs:List ec}{av:Option Addr}{c':Nat}(I:U W w L)(hr:∀ w',U W w' L→iK w' av zs)(hz:zs.map (·.2.2)=x.al)(dr:nY x.al) :
   Calls prog 123 #[.agg (cj x av c').toArray] w λe w'=>∃ ad2 c2,e=.returned (.agg (cj x ad2 c2).toArray)∧U W w' (ch ad2 x.al.length c2 x.al::L):=by
 have iI:zs.length=x.al.length:=by rw[← hz,a8]
 refine EN func123 ntmps123 rfl rfl λa E=>?_;refine BX 1 E I λb1 a w E I=>?_;refine AL 0 E I λb2 a w E I=>?_;refine aY 3 E I (JL I (λw' h=>hr w' h.tail.tail) iI (by rw[hz];exact dr)) λad2 c2 a w E I=>?_;rw[hz]at I;refine ST 1 E I (λa w E I=>?_) (hlt:=(by simp[cj]));refine SA 2 E I λa w E I=>?_;refine RT 0 E I ?_;exact⟨ad2,c2,rfl,I.sub⟩
theorem VL {b:Nat}{id:Int}{av:Option Addr}{c':Nat}(I:U W w (aa b 2 [.int .i64 id]::L)) :
   Calls prog 212 #[.agg (cj x av c').toArray,pt b] w λe w'=>e=.returned (.bool (decide ((x.id:Int)=id)))∧U W w' (aa b 2 [.int .i64 id]::L):=by
 refine EN func212 ntmps212 rfl rfl λa E=>?_;refine BX 1 E I λb2 a w E I=>?_;refine RT 7 E I ?_;exact⟨rfl,I.sub⟩
theorem VM {b:Nat}{id:Int}{av:Option Addr}{c':Nat}(I:U W w (aa b 2 [.int .i64 id]::Sl 238 5 av n c' (rows c8 xs)::L))(hb:n≤1048576) :
   Calls prog 211 #[.slice av n c',.func (.func 212) #[] #[pt b]] w λe w' =>
    ∃ r:Int,e=.returned (.int .i64 r)∧((r = -1∧∀ y∈xs,(y.1.id:Int)≠id)∨∃ k y,r=(k:Nat)∧xs[k]?=some y∧(y.1.id:Int)=id)∧U W w' (Sl 238 5 av n c' (rows c8 xs)::L):=by
 have ca:xs.length=n:=by
  have:=(I.tail.sl av).1;rw[jv te]at this;omega
 refine EN func211 ntmps211 rfl rfl λa E=>?_;refine RN 7 E I λa E=>?_;refine aQ (λμ a w=>∃ k:Nat,(μ=n-k∧k≤n∧∀ j y,j<k→xs[j]?=some y→(y.1.id:Int)≠id)∧Fr a 19 [(0,.slice av n c'),(1,.func (.func 212) #[] #[pt b]),(7,.int .i64 n),(8,.int .i64 k)]∧U W w (aa b 2 [.int .i64 id]::Sl 238 5 av n c' (rows c8 xs)::L)) (n) (⟨0,⟨by simp,by simp,by omega⟩,E.ab [0,1,7,8],I⟩) ?_;clear E I;rintro μ a w ⟨k,⟨rfl,hk,bR⟩,E,I⟩;refine IF 3 E I (λaj a E=>?_) λaj a E=>?_
 ·
  refine RN 5 E I λa E=>?_;obtain⟨b',dG,rfl,c7⟩:=I.tail.bU av (by omega);obtain⟨⟨y,JO,JP⟩,hy⟩:∃ y,xs[k]?=some y:=⟨_,aD (by omega)⟩;have fV:=oL c7 hy;refine RN 4 E I λa E=>?_;refine SS E (bT E underlying238 rfl Ty.t238 (fV)) λa E=>?_;refine CL 0 E I (VL (x:=y) (av:=JO) (c':=JP) I) λa w E I=>?_;refine IF 0 E I (λao a E=>?_) λao a E=>?_
  ·
   skip
   refine RT 3 E I ?_;exact⟨_,rfl,.inr ⟨k,(y,JO,JP),rfl,hy,ao⟩,I.tail⟩
  refine RN 2 E I λa E=>?_;refine⟨n-(k+1),by omega,k+1,⟨rfl,by omega,λj z hj hz=>?_⟩,E.ab [0,1,7,8],I⟩;by_cases qz:j=k
  ·subst qz;rw[hy]at hz;cases hz;exact ao
  ·exact bR j z (by omega) hz
 refine RT 2 E I ?_;refine⟨-1,rfl,.inl ⟨rfl,λz hz=>?_⟩,I.tail⟩;obtain⟨j,hj⟩:=j6.1 hz;have eT:=(a2.1 hj).1;exact bR j z (by omega) hj
theorem Ea {id:Int}(I:U W w (Tree tq sq T::L)) :
   Calls prog 183 #[pt tq,.int .i64 id] w λe w' =>
    ∃ r:Int,e=.returned (.int .i64 r)∧((r = -1∧∀ y∈T.l,(y.id:Int)≠id)∨∃ k y,r=(k:Nat)∧T.l[k]?=some y∧(y.id:Int)=id)∧U W w' (Tree tq sq T::L):=by
 refine EN func183 ntmps183 rfl rfl λa E=>?_;refine BX 1 E I λb3 a w E I=>?_;refine RN 5 E I λa E=>?_;replace E:=E.aM 6;refine RN 2 E I λa E=>?_;obtain⟨ad,c,xs,h1,hw,I⟩:=Tree.open (I.tree tq);have hT:=hw.most;refine bj 5 E I (VM (xs:=xs) (b:=b3) (id:=id) (av:=ad) (c':=c) (n:=T.l.length) (L:=aa tq 236 [pt sq,.int .i64 T.most,.slice ad T.l.length c,.int .i64 T.last,.int .i64 T.epoch]::ah bY xs::L) I.sub (by omega)) λr a w E ⟨hr,I⟩=>?_;refine RT 1 E I ?_;refine⟨r,rfl,?_,Tree.same ad c xs I h1 hw⟩;rcases hr with ⟨h2,h3⟩ | ⟨k,y,h2,h3,h4⟩
 ·refine .inl ⟨h2,λy hy=>?_⟩;rw[← h1]at hy;obtain⟨z,hz,rfl⟩:=cR.1 hy;exact h3 z hz
 ·exact .inr ⟨k,y.1,h2,by rw[← h1,bn,h3];rfl,h4⟩
theorem U.JQ (I:U W w (ah bY xs::L)){av:Option Addr}{c':Nat}(hx:xs[k]?=some (x,av,c')):∃ zs:List ec,zs.map (·.2.2)=x.al∧x.al.length≤c' ∧
   U W w (Sl 22 1 av x.al.length c' (zs.map aL)::ah a7 zs::ah bY (xs.eraseIdx k)::L):=by
 obtain⟨hi,he⟩:=a2.1 hx;have h:=I.fy hi;rw[he]at h;have h2:U W w (ch av x.al.length c' x.al::ah bY (xs.eraseIdx k)::L):=h;obtain⟨zs,h3,h4,h5⟩:=ch.open h2;exact⟨zs,h3,(ch.le h2).2,h5⟩
theorem U.JR {zs:List ec}{av:Option Addr}{c':Nat}(I:U W w L)[kk:fJ L (Sl 22 1 av n c' (zs.map aL)::ah a7 zs::ah bY (xs.eraseIdx k)::L') R](hx:xs[k]?=some (x,av,c'))(hz:zs.map (·.2.2)=x.al)(hn:x.al.length=n):U W w (ah bY xs::L'):=by
 subst hn;obtain⟨hi,he⟩:=a2.1 hx;have h1:=I.sub (M:=Sl 22 1 av x.al.length c' (zs.map aL)::ah a7 zs::ah bY (xs.eraseIdx k)::L');have h2:=ch.close (L':=ah bY (xs.eraseIdx k)::L') (p:=x.al) (ad:=av) (n:=x.al.length) (c:=c') (xs:=zs) h1 hz rfl;have h3:U W w (bY (x,av,c')::ah bY (xs.eraseIdx k)::L'):=h2;have h4:=U.kZ hi h3;rw[← he,l7]at h4;exact h4
theorem yf (I:U W w (Tree tq sq T::L))(hx:T.l[k]?=some x) :
   Calls prog 143 #[pt tq,.int .i64 x.id] w λe w'=>∃ ad c,e=.returned (.tuple #[.agg (cj x ad c).toArray,.bool true])∧U W w' (ch ad x.al.length c x.al::Tree tq sq T::L):=by
 refine EN func143 ntmps143 rfl rfl λa E=>?_;refine AL 1 E I λb4 a w E I=>?_;refine bj 4 E I (Ea (id:=(x.id:Int)) (I.tree tq)) λr a w E ⟨hr,I⟩=>?_;obtain⟨hw,fV⟩:WT T∧r=(k:Nat):=by
  have hw:=Tree.wt I;refine⟨hw,?_⟩;rcases hr with ⟨_,h3⟩ | ⟨j,y,h2,h3,h4⟩
  ·exact absurd rfl (h3 x (bH hx))
  ·have hp:=List.pairwise_iff_getElem.1 hw.ids;obtain⟨hj,rfl⟩:=a2.1 h3;obtain⟨hk,rfl⟩:=a2.1 hx;rcases Nat.lt_trichotomy j k with hl | hl | hl
   ·have:=hp j k (by simpa using hj) (by simpa using hk) hl;simp at this;omega
   ·rw[h2,hl]
   ·have:=hp k j (by simpa using hk) (by simpa using hj) hl;simp at this;omega
 subst fV;have dH:=(a2.1 hx).1;have kK:=(hw.ok x (bH hx)).1;clear hr;refine RN 5 E I λa E=>?_;rw[bo (by omega)]at E;refine RN 2 E I λa E=>?_;obtain⟨ad,c,xs,h1,hw,I⟩:=Tree.open (I.tree tq);obtain⟨eH,db,dW⟩:=D6 h1 hx;obtain⟨b',dG,rfl,c7⟩:=I.tail.bU ad (by omega);have fV:=oL c7 dW;refine RN 6 E I λa E=>?_;refine SS E (bT E underlying238 rfl Ty.t238 (fV)) λa E=>?_;obtain⟨zs,cV,eQ,I⟩:=U.JQ (I.pick (ah bY xs)) dW;refine aY 0 E I (JN (x:=x) (av:=eH) (c':=db) I (λw' h=>U.mF h) cV kK) λad2 c2 a w E I=>?_;refine SA 0 E I λa w E I=>?_;refine RT 1 E I ?_;have h5:=U.JR (L':=ch ad2 x.al.length c2 x.al::aa tq 236 [pt sq,.int .i64 T.most,.slice (some ⟨b',dG,none⟩) T.l.length c,.int .i64 T.last,.int .i64 T.epoch]::Sl 238 5 (some ⟨b',dG,none⟩) T.l.length c (rows c8 xs)::L) I dW cV rfl;refine⟨ad2,c2,rfl,?_⟩;have h6:=Tree.same (tq:=tq) (sq:=sq) (T:=T) (L':=ch ad2 x.al.length c2 x.al::L) (some ⟨b',dG,none⟩) c xs h5 h1 hw;exact h6.perm (cZ _ _ _)
theorem VN {id:Int}(I:U W w (Tree tq sq T::L))(hn:∀ y∈T.l,(y.id:Int)≠id) :
   Calls prog 143 #[pt tq,.int .i64 id] w λe w'=>e=.returned (.tuple #[.agg (cj ⟨0,0,[],0,0⟩ none 0).toArray,.bool false])∧U W w' (Tree tq sq T::L):=by
 refine EN func143 ntmps143 rfl rfl λa E=>?_;refine AL 1 E I λb4 a w E I=>?_;refine bj 4 E I (Ea (id:=id) (I.tree tq)) λr a w E ⟨hr,I⟩=>?_;obtain rfl:r = -1:=by
  rcases hr with ⟨h,_⟩ | ⟨j,y,_,h3,h4⟩
  ·exact h
  ·exact absurd h4 (hn y (bH h3))
 clear hr;refine RN 5 E I λa E=>?_;replace E:=E.ei 11;refine SA 3 E I λa w E I=>?_;refine RT 1 E I ?_;exact⟨rfl,I.sub⟩
theorem AG (I:U W w (Tree tq sq T::L)) :
   Calls prog 144 #[pt tq] w λe w'=>e=.returned (.int .i64 T.epoch)∧U W w' (Tree tq sq T::L):=by
 obtain⟨ad,c,xs,h1,hw,I⟩:=Tree.open I;refine EN func144 ntmps144 rfl rfl λa E=>?_;refine RN 6 E I λa E=>?_;replace E:=E.aM 4;refine RT 7 E I ?_;exact⟨rfl,Tree.same ad c xs I h1 hw⟩
def k8 (ad:Option Addr)(n c:Nat)(l:List Br):SP:=λh=>∃ ys:List Bx,(ys.map (·.1)=l∧l.length=n)∧cn [Sl 238 5 ad n c (rows c8 ys),ah bY ys] h
theorem k8.open {l:List Br}(I:U W w (k8 ad n c l::L)):∃ ys:List Bx,ys.map (·.1)=l∧l.length=n∧U W w (Sl 238 5 ad n c (rows c8 ys)::ah bY ys::L):=by
 obtain⟨xs,⟨h1,h2⟩,h3⟩:=I.jL (ι:=List Bx) (p:=λxs=>xs.map (·.1)=l∧l.length=n) (B:=λxs h=>cn [Sl 238 5 ad n c (rows c8 xs),ah bY xs] h) (λh ⟨xs,h1,h2⟩=>⟨xs,h1,h2⟩);exact⟨xs,h1,h2,h3.open λ_ h=>h⟩
theorem k8.close {l:List Br}(ys:List Bx)(I:U W w L)[k:fJ L (Sl 238 5 ad n c (rows c8 ys)::ah bY ys::L') R](h1:ys.map (·.1)=l)(h2:l.length=n):U W w (k8 ad n c l::L') :=
 U.shut (M:=[_,_]) (I.sub (M:=Sl 238 5 ad n c (rows c8 ys)::ah bY ys::L')) (λ_ x=>⟨ys,⟨h1,h2⟩,x⟩)
theorem k8.nil (I:U W w L):U W w (k8 none 0 0 []::L):=by
 have h:U W w (Sl 238 5 none 0 0 (rows c8 [])::ah bY []::L):=(I.iY (f:=bY)).bN 238 5 none;exact k8.close [] h rfl rfl
theorem VO (ys:List Bx)(y:Bx):rows c8 ys++[c8 y].flatten=rows c8 (ys++[y]):=by rw[kE];simp[rows]
theorem Eb (ys:List Bx)(x:Br)(ad:Option Addr)(c:Nat):rows c8 ys++[cj x ad c].flatten=rows c8 (ys++[(x,ad,c)]):=VO ys (x,ad,c)
theorem AH (I:U W w (Tree tq sq T::L)) :
   Calls prog 88 #[pt tq] w λe w'=>∃ ad c,e=.returned (.slice ad T.l.length c)∧U W w' (k8 ad T.l.length c T.l::Tree tq sq T::L):=by
 obtain⟨ad,c,xs,h1,hw,I⟩:=Tree.open I;have ca:xs.length=T.l.length:=by rw[← h1,a8]
 have hT:=hw.most;refine EN func88 ntmps88 rfl rfl λa E=>?_;refine RN 6 E I λa E=>?_;replace E:=E.aM 7;refine RN 5 E I λa E=>?_;replace I:=k8.nil I;refine RN 6 E I λa E=>?_;refine aQ (λμ a w=>∃ (k:Nat) (fu:Option Addr) (dI:Nat),(μ=T.l.length-k∧k≤T.l.length)∧Fr a 24 [(3,.slice fu k dI),(11,.slice ad T.l.length c),(12,.int .i64 T.l.length),(13,.int .i64 k)]∧U W w (k8 fu k dI (T.l.take k)::aa tq 236 [pt sq,.int .i64 T.most,.slice ad T.l.length c,.int .i64 T.last,.int .i64 T.epoch]::Sl 238 5 ad T.l.length c (rows c8 xs)::ah bY xs::L)) (T.l.length) (⟨0,none,0,⟨by simp,by simp⟩,E.ab [3,11,12,13],I⟩) ?_;clear E I;rintro μ a w ⟨k,fu,dI,⟨rfl,hk⟩,E,I⟩;refine IF 3 E I (λao a E=>?_) λao a E=>?_
 ·
  refine RN 2 E I λa E=>?_;obtain⟨b',dG,rfl,c7⟩:=I.bU ad (by omega);obtain⟨⟨x,eH,db⟩,dW⟩:∃ y,xs[k]?=some y:=⟨_,aD (by omega)⟩;have fV:=oL c7 dW;have jz:T.l[k]?=some x:=by rw[← h1,bn,dW];rfl
  have kK:=(hw.ok x (bH jz)).1;refine RN 1 E I λa E=>?_;refine SS E (bT E underlying238 rfl Ty.t238 (fV)) λa E=>?_;refine AL 0 E I λb5 a w E I=>?_;refine SA 0 E I λa w E I=>?_;refine RN 2 E I λa E=>?_;obtain⟨zs,cV,eQ,I⟩:=U.JQ (I.pick (ah bY xs)) dW;refine aY 0 E I (JN (x:=x) (av:=eH) (c':=db) I (λw' h=>U.mF h) cV kK) λad2 c2 a w E I=>?_;refine RN 0 E I λa E=>?_;refine cr E rfl I underlying168 Ty.t238 rfl rfl rfl rfl (by decide) (by decide) λJS a w E I ho=>?_;clear ho;obtain⟨ys,g6,jg,I⟩:=k8.open (I.pick (k8 fu k dI (T.l.take k)));refine RN 0 E I λa E=>?_;refine cQ E rfl I underlying168 Ty.t238 rfl rfl I.ai rfl (by simp[Value.oneCell',cj]) (by decide) (by decide) (by omega) λrK rL a w E I=>?_;have h8:=U.j0 (f:=bY) (l:=ys) (x:=(x,ad2,c2)) (I.sub (M:=ch ad2 x.al.length c2 x.al::ah bY ys::Sl 238 5 rK (k+1) rL (rows c8 ys++[cj x ad2 c2].flatten)::Sl 22 1 eH x.al.length db (zs.map aL)::ah a7 zs::ah bY (xs.eraseIdx k)::aa tq 236 [pt sq,.int .i64 T.most,.slice (some ⟨b',dG,none⟩) T.l.length c,.int .i64 T.last,.int .i64 T.epoch]::Sl 238 5 (some ⟨b',dG,none⟩) T.l.length c (rows c8 xs)::L));rw[Eb]at h8;have h9:=k8.close (l:=T.l.take (k+1)) (n:=k+1) (ad:=rK) (c:=rL) (L':=Sl 22 1 eH x.al.length db (zs.map aL)::ah a7 zs::ah bY (xs.eraseIdx k)::aa tq 236 [pt sq,.int .i64 T.most,.slice (some ⟨b',dG,none⟩) T.l.length c,.int .i64 T.last,.int .i64 T.epoch]::Sl 238 5 (some ⟨b',dG,none⟩) T.l.length c (rows c8 xs)::L) (ys++[(x,ad2,c2)]) h8 (by
   have dH:k<T.l.length:=by omega
   rw[cW,g6,jw dH];rw[aD dH]at jz;cases jz;rfl) (by rw[et];omega)
  have fh:=U.JR (L':=k8 rK (k+1) rL (T.l.take (k+1))::aa tq 236 [pt sq,.int .i64 T.most,.slice (some ⟨b',dG,none⟩) T.l.length c,.int .i64 T.last,.int .i64 T.epoch]::Sl 238 5 (some ⟨b',dG,none⟩) T.l.length c (rows c8 xs)::L) h9 dW cV rfl;replace I:=fh;clear h8 h9 fh;refine RN 3 E I λa E=>?_;exact⟨T.l.length-(k+1),by omega,k+1,_,_,⟨rfl,by omega⟩,E.ab [3,11,12,13],I.sub⟩
 refine RT 3 E I ?_;obtain rfl:k=T.l.length:=by omega
 rw[k4]at I;refine⟨_,_,rfl,?_⟩;have h6:=Tree.same (tq:=tq) (sq:=sq) (T:=T) (L':=k8 fu T.l.length dI T.l::L) ad c xs I h1 hw;exact h6.perm (cZ _ _ _)
def Tr.add (T:Tr)(frm:Int)(p:List (List UInt8))(snap:Nat):Tr:={ T with l:=T.l++[⟨T.last+1,frm,p,0,snap⟩],last:=T.last+1 }
def Br.is (y:Br)(frm:Int)(p:List (List UInt8)):Prop:=y.frm=frm∧y.al=p
theorem JT {u v:List (List UInt8)}(h:u.length=v.length):(pN u v=true)↔u=v:=by
 rw[pN,← h,Nat.min_self,k4,h,k4];simp
theorem JU {frm sn:Int}{ad2:Option Addr}{m c2:Nat}(I:U W w (Tree tq sq T::L))(h:T.most≤T.l.length∨m=0) :
   Calls prog 306 #[pt tq,.int .i64 frm,.int .i64 sn,.slice ad2 m c2] w λe w'=>e=.returned (.tuple #[.int .i64 0,.bool false])∧U W w' (Tree tq sq T::L):=by
 obtain⟨ad,c,xs,h1,hw,I⟩:=Tree.open I;refine EN func306 ntmps306 rfl rfl λa E=>?_;refine bS 5 [11] [0,1,2,3,4,5,8,9,10,3006,7,1011,12,13,14,15,16,17,18] E I λa w E I hH hC=>?_;refine RH 3 E I hH hC λa E=>?_;replace E:=E.aM 16;refine RH 12 E I hH hC λa E=>?_;refine E.by (s:=28) (λk9 E=>?_) (λk9 E=>?_)
 ·
  refine RH 4 E I hH hC λa E=>?_;refine RT 4 E I ?_;exact⟨rfl,Tree.same ad c xs I h1 hw⟩
 refine RH 4 E I hH hC λa E=>?_;rw[dh (by omega)]at E;refine RT 4 E I ?_;exact⟨rfl,Tree.same ad c xs I h1 hw⟩
theorem VP {frm sn:Int}{ad2:Option Addr}{c2 j:Nat}{y:Br}(I:U W w (Tree tq sq T::L))(hp:∀ w',U W w' L→k6 w' ad2 p.length p)(hc:p.length≤c2)(dr:nY p)(hy:T.l[j]?=some y)(wx:y.is frm p) :
   Calls prog 306 #[pt tq,.int .i64 frm,.int .i64 sn,.slice ad2 p.length c2] w λe w'=>e=.returned (.tuple #[.int .i64 0,.bool false])∧U W w' (Tree tq sq T::L):=by
 obtain⟨ad,c,xs,h1,hw,I⟩:=Tree.open I;have ca:xs.length=T.l.length:=by rw[← h1,a8]
 have hT:=hw.most;have eT:=(a2.1 hy).1;refine EN func306 ntmps306 rfl rfl λa E=>?_;refine bS 5 [11] [0,1,2,3,4,5,8,9,10,3006,7,1011,12,13,14,15,16,17,18] E I λa w E I hH hC=>?_;refine RH 3 E I hH hC λa E=>?_;replace E:=E.aM 16;refine RH 12 E I hH hC λa E=>?_;refine E.by (s:=28) (λk9 E=>?_) (λk9 E=>?_)
 ·
  refine RH 4 E I hH hC λa E=>?_;refine RT 4 E I ?_;exact⟨rfl,Tree.same ad c xs I h1 hw⟩
 refine RH 4 E I hH hC λa E=>?_;refine IF 0 E I (λaj a E=>?_) λaj a E=>?_
 ·
  refine RT 3 E I ?_;exact⟨rfl,Tree.same ad c xs I h1 hw⟩
 refine RN 8 E I λa E=>?_;refine aQ (λμ a w=>∃ k:Nat,(μ=j-k∧k≤j)∧Fr a 101 [(1,.int .i64 frm),(3,.slice ad2 p.length c2),(36,.slice ad T.l.length c),(37,.int .i64 T.l.length),(38,.int .i64 k)]∧U W w (aa tq 236 [pt sq,.int .i64 T.most,.slice ad T.l.length c,.int .i64 T.last,.int .i64 T.epoch]::Sl 238 5 ad T.l.length c (rows c8 xs)::ah bY xs::L)) (j) (⟨0,⟨by simp,by simp⟩,E.ab [1,3,36,37,38],I.sub⟩) ?_;clear E I;rintro μ a w ⟨k,⟨rfl,hk⟩,E,I⟩;refine RN 3 E I λa E=>?_;rw[dh (by omega)]at E;refine RN 3 E I λa E=>?_;obtain⟨b',dG,rfl,c7⟩:=I.bU ad (by omega);obtain⟨⟨x,eH,db⟩,dW⟩:∃ y,xs[k]?=some y:=⟨_,aD (by omega)⟩;have fV:=oL c7 dW;have jz:T.l[k]?=some x:=by rw[← h1,bn,dW];rfl
 have kK:=(hw.ok x (bH jz)).1;have yg:k=j→x=y:=λe=>by rw[e,hy]at jz;cases jz;rfl
 refine RN 1 E I λa E=>?_;refine SS E (bT E underlying238 rfl Ty.t238 (fV)) λa E=>?_;refine AL 0 E I λiL a w E I=>?_;refine SA 0 E I λa w E I=>?_;refine BY 6 E I (λdE a E=>?_) λdE a E=>?_
 ·
  refine BY 8 E I (λil a E=>?_) λil a E=>?_
  ·
   refine RN 3 E I λa E=>?_;have fK:=ah.pM (I.pick (ah bY xs)) dW;refine CL 0 E I (D7 (u:=x.al) (v:=p) I fK.1 (hp _ I.sub) fK.2 hc (by have:=kK.1;omega)) λa w E I=>?_;refine IF 1 E I (λay a E=>?_) λay a E=>?_
   ·
    refine RT 3 E I ?_;exact⟨rfl,Tree.same (some ⟨b',dG,none⟩) c xs I h1 hw⟩
   have bD : k ≠ j := fun e => by
       have AI:x.al=p:=by rw[yg e];exact wx.2
       rw[(JT (by rw[AI])).2 AI]at ay;cases ay
   refine RN 2 E I λa E=>?_;exact⟨j-(k+1),by omega,k+1,⟨rfl,by omega⟩,E.ab [1,3,36,37,38],I.sub⟩
  have bD:k≠j:=λe=>il (by rw[yg e,wx.2]);refine RN 3 E I λa E=>?_;have fK:=ah.pM (I.pick (ah bY xs)) dW;refine RN 5 E I λa E=>?_;exact⟨j-(k+1),by omega,k+1,⟨rfl,by omega⟩,E.ab [1,3,36,37,38],I.sub⟩
 have bD:k≠j:=λe=>dE (by rw[yg e];exact wx.1);refine RN 11 E I λa E=>?_;have fK:=ah.pM (I.pick (ah bY xs)) dW;refine RN 5 E I λa E=>?_;exact⟨j-(k+1),by omega,k+1,⟨rfl,by omega⟩,E.ab [1,3,36,37,38],I.sub⟩
theorem WT.add {frm:Int}{sn:Nat}(h:WT T)(h1:T.l.length<T.most)(h2:T.last+1<1099511627776)(dr:nY p):WT (T.add frm p sn):=by
 obtain⟨cH,dq,a3,a4,a5⟩:=h;refine⟨⟨cH.1,by simp[Tr.add];omega⟩,h2,a3,?_,λx hx=>?_⟩
 ·simp only[Tr.add,cW,map_cons,map_nil];refine List.pairwise_append.2 ⟨a4,by simp,λu hu v hv=>?_⟩;obtain⟨x,hx,rfl⟩:=cR.1 hu;have:=(a5 x hx).2.2.2;simp at hv;omega
 ·simp only[Tr.add]at hx ⊢;rcases eS.1 hx with hx | hx
  ·obtain⟨b1,b2,b3,b4⟩:=a5 x hx;exact⟨b1,b2,b3,by omega⟩
  ·simp at hx;subst hx;exact⟨dr,Nat.zero_le _,by simp,bf _⟩
theorem VQ {frm:Int}{ad2:Option Addr}{c2 i:Nat}{zs:List ec}{px:aC}(I:U W w (Tree tq sq T::ax sq r A::L))(hr:∀ w',U W w' L→iK w' ad2 zs)(hz:zs.map (·.2.2)=p)(hc:p.length≤c2)(dr:nY p)
   (hx:A.ar[i]?=some px) (hb:A.n+1<1099511627776) (hl:T.last+1<1099511627776) (bR:∀ y∈T.l,¬ y.is frm p) (hm:T.l.length<T.most) (h0:0<p.length) :
   Calls prog 306 #[pt tq,.int .i64 frm,.int .i64 px.id,.slice ad2 p.length c2] w λe w'=>e=.returned (.tuple #[.int .i64 ((T.last+1:Nat):Int),.bool true])∧U W w' (Tree tq sq (T.add frm p (A.last+1))::ax sq r (A.add px.g px.p)::L):=by
 obtain⟨ad,c,xs,h1,hw,I⟩:=Tree.open I;have ca:xs.length=T.l.length:=by rw[← h1,a8]
 have hT:=hw.most;have hp:∀ w',U W w' L→k6 w' ad2 p.length p:=λw' h=>by
  have:=(hr w' h).bb;rw[hz]at this
  rwa [show zs.length=p.length from by rw[← hz,a8]]at this
 refine EN func306 ntmps306 rfl rfl λa E=>?_;refine bS 5 [11] [0,1,2,3,4,5,8,9,10,3006,7,1011,12,13,14,15,16,17,18] E I λa w E I hH hC=>?_;refine RH 3 E I hH hC λa E=>?_;replace E:=E.aM 16;refine RH 12 E I hH hC λa E=>?_;rw[bo (by omega)]at E;refine RH 4 E I hH hC λa E=>?_;rw[bo (by omega)]at E;refine RN 9 E I λa E=>?_;refine aQ (λμ a w=>∃ k:Nat,(μ=T.l.length-k∧k≤T.l.length)∧Fr a 101 [(0,pt tq),(1,.int .i64 frm),(2,.int .i64 px.id),(3,.slice ad2 p.length c2),(36,.slice ad T.l.length c),(37,.int .i64 T.l.length),(38,.int .i64 k)]∧U W w (aa tq 236 [pt sq,.int .i64 T.most,.slice ad T.l.length c,.int .i64 T.last,.int .i64 T.epoch]::Sl 238 5 ad T.l.length c (rows c8 xs)::ah bY xs::ax sq r A::L)) (T.l.length) (⟨0,⟨by simp,by simp⟩,E.ab [0,1,2,3,36,37,38],I.sub⟩) ?_;clear E I;rintro μ a w ⟨k,⟨rfl,hk⟩,E,I⟩;refine IF 3 E I (λao a E=>?_) λao a E=>?_
 ·
  refine RN 2 E I λa E=>?_;obtain⟨b',dG,rfl,c7⟩:=I.bU ad (by omega);obtain⟨⟨x,eH,db⟩,dW⟩:∃ y,xs[k]?=some y:=⟨_,aD (by omega)⟩;have fV:=oL c7 dW;have jz:T.l[k]?=some x:=by rw[← h1,bn,dW];rfl
  have eG:=bH jz;have kK:=(hw.ok x eG).1;have VR:=bR x eG;refine RN 1 E I λa E=>?_;refine SS E (bT E underlying238 rfl Ty.t238 (fV)) λa E=>?_;refine AL 0 E I λiL a w E I=>?_;refine SA 0 E I λa w E I=>?_;refine BY 6 E I (λdE a E=>?_) λdE a E=>?_
  ·
   refine BY 8 E I (λil a E=>?_) λil a E=>?_
   ·
    refine RN 3 E I λa E=>?_;have fK:=ah.pM (I.pick (ah bY xs)) dW;refine CL 0 E I (D7 (u:=x.al) (v:=p) I fK.1 (hp _ I.sub) fK.2 hc (by have:=kK.1;omega)) λa w E I=>?_;refine IF 1 E I (λay a E=>?_) λay a E=>?_
    ·
     (try simp only at il);exact absurd ⟨by omega,(JT (by omega)).1 ay⟩ VR
    refine RN 2 E I λa E=>?_;exact⟨T.l.length-(k+1),by omega,k+1,⟨rfl,by omega⟩,E.ab [0,1,2,3,36,37,38],I.sub⟩
   refine RN 3 E I λa E=>?_;have fK:=ah.pM (I.pick (ah bY xs)) dW;refine RN 5 E I λa E=>?_;exact⟨T.l.length-(k+1),by omega,k+1,⟨rfl,by omega⟩,E.ab [0,1,2,3,36,37,38],I.sub⟩
  refine RN 11 E I λa E=>?_;have fK:=ah.pM (I.pick (ah bY xs)) dW;refine RN 5 E I λa E=>?_;exact⟨T.l.length-(k+1),by omega,k+1,⟨rfl,by omega⟩,E.ab [0,1,2,3,36,37,38],I.sub⟩
 refine CL 6 E I (JE (I.pick (ax sq r A)) hx hb) λa w E I=>?_;refine RN 9 E I λa E=>?_;replace E:=E.aM 71;refine ST 9 E I (λa w E I=>?_);rw[show ((T.last:Int)+1)=((T.last+1:Nat):Int) from rfl]at I;refine aX 1 (λw0 w'=>w'.cell? ⟨tq,2,none⟩=some (.slice ad T.l.length c)∧w'.cell? ⟨tq,3,none⟩=some (.int .i64 ((T.last+1:Nat):Int))) [8,11,13,14] [0,1,2,3,5,6,7,9,10,12,3004,3008,1011,1013,1014,1015,16,17,1018] E I λa w E I hH=>?_;have hC:=hH.at w ⟨I.bz rfl,I.bz rfl⟩;refine RH 10 E I hH hC λa E=>?_;refine QH E (λw hc=>ae E (hc.1)) hC λa E=>?_;refine QH E (λw hc=>ae E (hc.2)) hC λa E=>?_;refine RH 0 E I hH hC λa E=>?_;refine aY 0 E I (JL I (λw' h=>hr w' h.sub) (by rw[← hz,a8]) (by rw[hz];exact dr)) λmI hV a w E I=>?_;replace hC:=hH.at w ⟨I.bz rfl,I.bz rfl⟩;refine RH 1 E I hH hC λa E=>?_;refine cr E rfl I underlying168 Ty.t238 rfl rfl rfl rfl (by decide) (by decide) λb93 a w E I ho=>?_;clear ho;replace hC:=hH.at w ⟨I.bz rfl,I.bz rfl⟩;refine RH 0 E I hH hC λa E=>?_;refine cQ E rfl I underlying168 Ty.t238 rfl rfl I.ai rfl (by simp[Value.oneCell']) (by decide) (by decide) (by omega) λyh yi a w E I=>?_;refine ST 2 E I (λa w E I=>?_);refine RT 7 E I ?_;refine⟨rfl,?_⟩;rw[hz]at I;have h8:=U.j0 (f:=bY) (l:=xs) (x:=(⟨T.last+1,frm,p,0,A.last+1⟩,mI,hV)) (I.sub (M:=ch mI p.length hV p::ah bY xs::aa tq 236 [pt sq,.int .i64 T.most,.slice yh (T.l.length+1) yi,.int .i64 ((T.last+1:Nat):Int),.int .i64 T.epoch]::Sl 238 5 yh (T.l.length+1) yi (rows c8 xs++[[.int .i64 ((T.last+1:Nat):Int),.int .i64 frm,.slice mI p.length hV,.int .i64 0,.int .i64 ((A.last+1:Nat):Int)]].flatten)::ax sq r (A.add px.g px.p)::L));have h9:U W w (ah bY (xs++[(⟨T.last+1,frm,p,0,A.last+1⟩,mI,hV)])::aa tq 236 [pt sq,.int .i64 T.most,.slice yh (T.l.length+1) yi,.int .i64 ((T.last+1:Nat):Int),.int .i64 T.epoch]::Sl 238 5 yh (T.l.length+1) yi (rows c8 (xs++[(⟨T.last+1,frm,p,0,A.last+1⟩,mI,hV)]))::ax sq r (A.add px.g px.p)::L):=by
  rw[← Eb];exact h8
 exact Tree.close (T:=T.add frm p (A.last+1)) (ad:=yh) (c:=yi) (xs:=xs++[(⟨T.last+1,frm,p,0,A.last+1⟩,mI,hV)]) (n:=T.l.length+1) (most:=T.most) (last:=T.last+1) (epoch:=T.epoch) h9 (by simp[Tr.add,h1]) (hw.add hm hl dr) rfl (by simp[Tr.add]) rfl rfl
def Tr.iM (T:Tr)(k:Nat)(x:Br)(done snap:Nat):Tr:={ T with l:=T.l.set k { x with done:=done,snap:=snap } }
theorem WT.iM {d sn:Nat}(h:WT T)(hx:T.l[k]?=some x)(hd:d≤x.al.length):WT (T.iM k x d sn):=by
 obtain⟨cH,dq,a3,a4,a5⟩:=h;obtain⟨hi,rfl⟩:=a2.1 hx;refine⟨⟨cH.1,by simp[Tr.iM];exact cH.2⟩,dq,a3,?_,λy hy=>?_⟩
 ·have : (T.l.set k { T.l[k] with done := d, snap := sn }).map (·.id) = T.l.map (·.id) := by
   apply ext_getElem?;intro j;simp only[bn,jZ];by_cases hj:k=j
   ·subst hj;simp[hi]
   ·rw[ag hj]
  simp only[Tr.iM];rw[this];exact a4
 ·simp only[Tr.iM]at hy ⊢;rcases rI hy with hy | rfl
  ·exact a5 y hy
  ·obtain⟨b1,b2,b3,b4⟩:=a5 _ (iZ hi);exact⟨b1,hd,b3,b4⟩
theorem WT.unique (hw:WT T){j:Nat}{y:Br}(hx:T.l[k]?=some x)(hy:T.l[j]?=some y)(he:y.id=x.id):j=k:=by
 have hp:=List.pairwise_iff_getElem.1 hw.ids;obtain⟨hj,rfl⟩:=a2.1 hy;obtain⟨hk,rfl⟩:=a2.1 hx;rcases Nat.lt_trichotomy j k with hl | hl | hl
 ·have:=hp j k (by simpa using hj) (by simpa using hk) hl;simp at this;omega
 ·exact hl
 ·have:=hp k j (by simpa using hk) (by simpa using hj) hl;simp at this;omega
theorem JV (I:U W w (Tree tq sq T::L))(hx:T.l[k]?=some x) :
   Calls prog 183 #[pt tq,.int .i64 x.id] w λe w'=>e=.returned (.int .i64 k)∧U W w' (Tree tq sq T::L):=by
 refine (Ea (id:=(x.id:Int)) I).mono λe w' ⟨r,h1,h2,h3⟩=>⟨?_,h3⟩;rcases h2 with ⟨_,h4⟩ | ⟨j,y,h4,h5,h6⟩
 ·exact absurd rfl (h4 x (bH hx))
 ·rw[h1,h4,(Tree.wt h3).unique hx h5 (by omega)]
theorem VS {i:Nat}{px:aC}{d sn:Int}(I:U W w (Tree tq sq T::ax sq r A::L))(hx:T.l[k]?=some x)(bR:d≤x.done∨(x.al.length:Int)<d∨∀ y∈A.ar,(y.id:Int)≠sn) :
   Calls prog 186 #[pt tq,.int .i64 x.id,.int .i64 d,.int .i64 sn] w λe w'=>e=.returned (.bool false)∧U W w' (Tree tq sq T::ax sq r A::L):=by
 have dH:=(a2.1 hx).1;refine EN func186 ntmps186 rfl rfl λa E=>?_;refine CL 5 E I (JV I hx) λa w E I=>?_;refine RN 3 E I λa E=>?_;obtain⟨ad,c,xs,h1,hw,I⟩:=Tree.open (I.tree tq);obtain⟨eH,db,dW⟩:=D6 h1 hx;obtain⟨b',dG,rfl,c7⟩:=I.tail.bU ad (by omega);have fV:=oL c7 dW;have vS:=fV 3 _ rfl;have j8:=fV 2 _ rfl;refine RN 3 E I λa E=>?_;rw[bo (by omega)]at E;refine RN 8 E I λa E=>?_;refine bm E (bQ E rfl (s:=15)) (ae E (vS)) rfl λa E=>?_;refine BY 3 E I (λk9 a E=>?_) λk9 a E=>?_
 ·
  skip
  refine RT 24 E I ?_;exact⟨rfl,Tree.same (L':=ax sq r A::L) (some ⟨b',dG,none⟩) c xs I h1 hw⟩
 refine RN 8 E I λa E=>?_;refine bm E (bQ E rfl (s:=27)) (ae E (j8)) rfl λa E=>?_;refine BY 4 E I (λVT a E=>?_) λVT a E=>?_
 ·
  refine RT 11 E I ?_;exact⟨rfl,Tree.same (L':=ax sq r A::L) (some ⟨b',dG,none⟩) c xs I h1 hw⟩
 refine CL 5 E I (Vh (I.pick (ax sq r A)) (by rcases bR with h | h | h;omega;omega;exact h)) λa w E I=>?_;refine RN 2 E I λa E=>?_;replace E:=E.ei 48;refine RT 3 E I ?_;exact⟨rfl,Tree.same (L':=ax sq r A::L) (some ⟨b',dG,none⟩) c xs I h1 hw⟩
end
end
section
def Sn.ey (A:Sn)(id:Nat):Sn:=match A.ar.findIdx? (λx=>x.id==id) with
 | some i=>match A.ar[i]? with
  | some x=>A.drop i x
  | none=>A
 | none=>A
section
variable {W w:World}{L R:List SP}{tq sq q r n c k:Nat}{ad:Option Addr}{A:Sn}{T:Tr}{x y:Br}{xs:List Bx}{p:List (List UInt8)}
theorem Ec {id:Nat}(h:∀ y∈A.ar,y.id≠id):A.ey id=A:=by
 have:A.ar.findIdx? (λx=>x.id==id)=none:=by rw[List.findIdx?_eq_none_iff];intro y hy;simpa using h y hy
 rw[Sn.ey,this]
theorem yj {i:Nat}{px:aC}(hw:WF A)(hx:A.ar[i]?=some px):A.ey px.id=A.drop i px:=by
 obtain⟨hi,he⟩:=a2.1 hx;have:A.ar.findIdx? (λx=>x.id==px.id)=some i:=by
  rw[List.findIdx?_eq_some_iff_getElem];refine⟨hi,by simp[he],λj hj=>?_⟩;have eT:j<A.ar.length:=by omega
  simp only[Bool.not_eq_true,l5,ne_eq];intro e;have:=hw.ids (aD eT) hx e;omega
 rw[Sn.ey,this];simp only[hx]
theorem AJ {id:Nat}(I:U W w (ax q r A::L)) :
   Calls prog 185 #[pt q,.int .i64 id] w λe w'=>∃ v,e=.returned (.bool v)∧U W w' (ax q r (A.ey id)::L):=by
 by_cases h:∃ px∈A.ar,px.id=id
 ·obtain⟨px,h1,rfl⟩:=h;obtain⟨i,hi⟩:=j6.1 h1;have hw:=(ax.open I);obtain⟨_,_,_,_,_,hw,_,_⟩:=hw;refine (Vn I hi).mono λe w' ⟨h2,h3⟩=>⟨_,h2,?_⟩;rw[yj hw hi];exact h3
 ·have hn:∀ y∈A.ar,y.id≠id:=λy hy e=>h ⟨y,hy,e⟩;refine (Vo (X:=(id:Int)) I (λy hy e=>hn y hy (by omega))).mono λe w' ⟨h2,h3⟩=>⟨_,h2,?_⟩;rw[Ec hn];exact h3
theorem JW {p q r:List Value}{i:Nat}{v:Value}(h:i<q.length):(p++q++r).set (p.length+i) v=p++q.set i v++r:=by
 rw[dx,uu _ _ (by omega),show p.length+i-p.length=i from by omega,sN _ _ h,dx]
theorem VU {i d:Nat}{px:aC}(I:U W w (Tree tq sq T::ax sq r A::L))(hx:T.l[k]?=some x)(hd:x.done<d)(kL:d≤x.al.length)(hp:A.ar[i]?=some px) :
   Calls prog 186 #[pt tq,.int .i64 x.id,.int .i64 d,.int .i64 px.id] w λe w'=>e=.returned (.bool true)∧U W w' (Tree tq sq (T.iM k x d px.id)::ax sq r (A.ey x.snap)::L):=by
 have dH:=(a2.1 hx).1;have a6:1≤px.refs:=by
  obtain⟨_,_,_,_,_,hw,_,_⟩:=ax.open (I.pick (ax sq r A));exact (hw.mH px (bH hp)).2.2.1
 refine EN func186 ntmps186 rfl rfl λa E=>?_;refine CL 5 E I (JV I hx) λa w E I=>?_;refine RN 3 E I λa E=>?_;obtain⟨ad,c,xs,h1,hw,I⟩:=Tree.open (I.tree tq);obtain⟨eH,db,dW⟩:=D6 h1 hx;obtain⟨b',dG,rfl,c7⟩:=I.tail.bU ad (by omega);have fV:=oL c7 dW;have vS:=fV 3 _ rfl;have j8:=fV 2 _ rfl;refine RN 3 E I λa E=>?_;rw[bo (by omega)]at E;refine RN 8 E I λa E=>?_;refine bm E (bQ E rfl (s:=15)) (ae E (vS)) rfl λa E=>?_;refine RN 3 E I λa E=>?_;rw[bo (by omega)]at E;refine RN 8 E I λa E=>?_;refine bm E (bQ E rfl (s:=27)) (ae E (j8)) rfl λa E=>?_;refine RN 4 E I λa E=>?_;rw[bo (by omega)]at E;refine CL 5 E I (Vg (I.pick (ax sq r A)) hp) λa w E I=>?_;refine RN 2 E I λa E=>?_;rw[bo (by omega)]at E;refine RN 2 E I λa E=>?_;have VV:=I.cK (n:=T.l.length) b' dG (by omega);have JX:w.drew.cell? ⟨b',dG+k*5+4,none⟩=some (.int .i64 x.snap):=oL VV dW 4 _ rfl;refine rE 0 (Old w.drew) [7,9,10,11] [0,1,2,4,5,6,8,3003,1007,1009,1010,1011,1012] E I λa E=>?_;replace I:=I.drew;have hH:=Hd.gD I;have hC:=Old.refl w.drew;generalize w.drew=w at I hH hC JX ⊢;refine RH 11 E I hH hC λa E=>?_;refine SS E (ae E (JX)) λa E=>?_;refine RH 0 E I hH hC λa E=>?_;refine bj 0 E I (AJ (id:=x.snap) (I.pick (ax sq r A))) λ_ a w E I=>?_;refine RN 1 E I λa E=>?_;obtain⟨bb,pre,post,⟨h3,h4,h5,h6⟩,gF⟩:=(I.pick (Sl 238 5 (some ⟨b',dG,none⟩) T.l.length c (rows c8 xs))).l4 (by have:=(I.sl (some ⟨b',dG,none⟩)).2;omega);cases h5;replace I:=gF;clear gF;have ca:xs.length=T.l.length:=by rw[← h1,a8]
 have uK:k<xs.length:=by omega
 have g5:xs[k]=(x,eH,db):=(a2.1 dW).2;have gq:(rows c8 xs).length=xs.length*5:=jv te xs;refine bS 0 [8] [0,1,2,4,5,6,7,9,10,11,3003,1008,12,13,1014,15,16,1017] E I λa w E I hH hC=>?_;refine RH 14 E I hH hC λa E=>?_;refine ST 0 E I (λa w E I=>?_) (hlt:=(by simp only[aI];omega));rw[show pre.length+k*5+3=pre.length+(k*5+3) from by omega,JW (by omega),qD te xs ({ x with done:=d },eH,db) uK (by decide) (by rw[g5];rfl)]at I;refine ST 2 E I (λa w E I=>?_) (hlt:=(by simp only[aI,jv te,bw];omega));rw[show pre.length+k*5+4=pre.length+(k*5+4) from by omega,JW (by simp only[jv te,bw];omega),qD te _ ({ x with done:=d,snap:=px.id },eH,db) (by rw[bw];exact uK) (by decide) (by rw[oG];rfl),set_set]at I;refine RT 2 E I ?_;refine⟨rfl,?_⟩;have h7:=U.iX (n:=T.l.length) (c:=c) (sz:=5) (cs:=rows c8 (xs.set k ({ x with done:=d,snap:=px.id },eH,db))) (I.jX b') (by rw[jv te,bw,ca]) h4 h6;have h8:=(h7.pick (ah bY xs)).fy uK;rw[g5]at h8;have h9:U W w (bY ({ x with done:=d,snap:=px.id },eH,db)::ah bY (xs.eraseIdx k)::_):=h8;have fh:=U.kZ uK h9;exact Tree.close (T:=T.iM k x d px.id) (ad:=some ⟨b',pre.length,none⟩) (c:=c) (xs:=xs.set k ({ x with done:=d,snap:=px.id },eH,db)) (n:=T.l.length) (most:=T.most) (last:=T.last) (epoch:=T.epoch) fh (by rw[jy,h1];rfl) (hw.iM hx kL) rfl (by simp[Tr.iM]) rfl rfl
def im (frm:Int)(p:List (List UInt8))(b:Br)(x:Br):Br:=if x.frm=frm∧b.done<x.done∧x.done≤p.length∧pN (x.al.take x.done) p=true then x else b
def mJ:Br:=⟨0,0,[],0,0⟩
def Tr.fL (T:Tr)(frm:Int)(p:List (List UInt8)):Br:=T.l.foldl (im frm p) mJ
theorem VW {l:List Br}{frm:Int}(h:l[k]?=some x):(l.take (k+1)).foldl (im frm p) mJ=im frm p ((l.take k).foldl (im frm p) mJ) x:=by
 obtain⟨hk,rfl⟩:=a2.1 h;rw[jw hk,foldl_append];rfl
theorem JY {frm:Int}{ad2:Option Addr}{c2:Nat}(I:U W w (Tree tq sq T::L))(hp:∀ w',U W w' L→k6 w' ad2 p.length p)(hc:p.length≤c2)(dr:nY p) :
   Calls prog 279 #[pt tq,.int .i64 frm,.slice ad2 p.length c2] w λe w'=>∃ ad c,e=.returned (.tuple #[.agg (cj (T.fL frm p) ad c).toArray,.bool (decide (0<(T.fL frm p).done))])∧U W w' (Tree tq sq T::L):=by
 have hw:=Tree.wt I;have hT:=hw.most;refine EN func279 ntmps279 rfl rfl λa E=>?_;refine AL 1 E I λcI a w E I=>?_;change U W w (aa cI 238 (cj mJ none 0)::_) at I;refine AL 3 E I λb8 a w E I=>?_;refine SA 0 E I λa w E I=>?_;change U W w (aa b8 238 (cj ((T.l.take 0).foldl (im frm p) mJ) none 0)::_) at I;refine aY 3 E I (AH (I.tree tq)) λad c a w E I=>?_;obtain⟨xs,h1,h2,I⟩:=k8.open I;have ca:xs.length=T.l.length:=by rw[← h1,a8]
 refine RN 2 E I λa E=>?_;refine aQ (λμ a w=>∃ (k:Nat) (dX:Option Addr) (cb:Nat),(μ=T.l.length-k∧k≤T.l.length)∧Fr a 52 [(1,.int .i64 frm),(2,.slice ad2 p.length c2),(6,pt cI),(8,pt b8),(13,.slice ad T.l.length c),(14,.int .i64 T.l.length),(15,.int .i64 k)]∧U W w (aa b8 238 (cj ((T.l.take k).foldl (im frm p) mJ) dX cb)::Sl 238 5 ad T.l.length c (rows c8 xs)::ah bY xs::Tree tq sq T::aa cI 238 (cj mJ none 0)::L)) (T.l.length) (⟨0,none,0,⟨by simp,by simp⟩,E.ab [1,2,6,8,13,14,15],I.sub⟩) ?_;clear E I;rintro μ a w ⟨k,dX,cb,⟨rfl,hk⟩,E,I⟩;refine IF 3 E I (λaj a E=>?_) λaj a E=>?_
 ·
  refine RN 2 E I λa E=>?_;obtain⟨b',dG,rfl,c7⟩:=I.bU ad (by omega);obtain⟨⟨x,eH,db⟩,dW⟩:∃ y,xs[k]?=some y:=⟨_,aD (by omega)⟩;have fV:=oL c7 dW;have jz:T.l[k]?=some x:=by rw[← h1,bn,dW];rfl
  have kK:=hw.ok x (bH jz);have qJ:=VW (frm:=frm) (p:=p) jz;obtain⟨B,hB⟩:∃ B,(T.l.take k).foldl (im frm p) mJ=B:=⟨_,rfl⟩;rw[hB]at I qJ;refine RN 1 E I λa E=>?_;refine SS E (bT E underlying238 rfl Ty.t238 (fV)) λa E=>?_;refine AL 0 E I λkJ a w E I=>?_;refine SA 0 E I λa w E I=>?_;refine BY 6 E I (λdE a E=>?_) λdE a E=>?_
  ·
   refine BY 7 E I (λla a E=>?_) λla a E=>?_
   ·
    refine BY 7 E I (λuL a E=>?_) λuL a E=>?_
    ·
     refine RN 4 E I λa E=>?_;have fK:=ah.pM (I.pick (ah bY xs)) dW;have yk:=kK.2.1;refine RN 1 E I λa E=>?_;rw[rF,Nat.sub_zero,Nat.sub_zero]at E;rw[show Value.slice eH x.done db=Value.slice eH (x.al.take x.done).length db from by rw[et,Nat.min_eq_left yk]]at E;refine CL 1 E I (D7 (u:=x.al.take x.done) (v:=p) (ad:=eH) (c:=db) I (by
      have:=fK.1.take yk
      rwa [show (x.al.take x.done).length=x.done from by rw[et];omega]) (hp _ I.sub) (by rw[et];omega) hc (by rw[et];have:=kK.1.1;omega)) λa w E I=>?_
     refine IF 1 E I (λao a E=>?_) λao a E=>?_
     ·
      have rM:im frm p B x=x:=ak ⟨by omega,by omega,by omega,ao⟩;refine SA 1 E I λa w E I=>?_;refine RN 2 E I λa E=>?_;exact⟨T.l.length-(k+1),by omega,k+1,_,_,⟨rfl,by omega⟩,E.ab [1,2,6,8,13,14,15],by rw[qJ,rM];exact I.sub (M:=aa b8 238 (cj x eH db)::Sl 238 5 (some ⟨b',dG,none⟩) T.l.length c (rows c8 xs)::ah bY xs::Tree tq sq T::aa cI 238 (cj mJ none 0)::L)⟩
     have rM:im frm p B x=B:=ag (λh=>by rw[h.2.2.2]at ao;cases ao);refine RN 2 E I λa E=>?_;exact⟨T.l.length-(k+1),by omega,k+1,_,_,⟨rfl,by omega⟩,E.ab [1,2,6,8,13,14,15],by rw[qJ,rM];exact I.sub (M:=aa b8 238 (cj B dX cb)::Sl 238 5 (some ⟨b',dG,none⟩) T.l.length c (rows c8 xs)::ah bY xs::Tree tq sq T::aa cI 238 (cj mJ none 0)::L)⟩
    have rM:im frm p B x=B:=ag (by omega);refine RN 4 E I λa E=>?_;have fK:=ah.pM (I.pick (ah bY xs)) dW;have yk:=kK.2.1;refine RN 7 E I λa E=>?_;exact⟨T.l.length-(k+1),by omega,k+1,_,_,⟨rfl,by omega⟩,E.ab [1,2,6,8,13,14,15],by rw[qJ,rM];exact I.sub (M:=aa b8 238 (cj B dX cb)::Sl 238 5 (some ⟨b',dG,none⟩) T.l.length c (rows c8 xs)::ah bY xs::Tree tq sq T::aa cI 238 (cj mJ none 0)::L)⟩
   have rM:im frm p B x=B:=ag (by omega);refine RN 11 E I λa E=>?_;have fK:=ah.pM (I.pick (ah bY xs)) dW;have yk:=kK.2.1;refine RN 7 E I λa E=>?_;exact⟨T.l.length-(k+1),by omega,k+1,_,_,⟨rfl,by omega⟩,E.ab [1,2,6,8,13,14,15],by rw[qJ,rM];exact I.sub (M:=aa b8 238 (cj B dX cb)::Sl 238 5 (some ⟨b',dG,none⟩) T.l.length c (rows c8 xs)::ah bY xs::Tree tq sq T::aa cI 238 (cj mJ none 0)::L)⟩
  have rM:im frm p B x=B:=ag (by omega);refine RN 18 E I λa E=>?_;have fK:=ah.pM (I.pick (ah bY xs)) dW;have yk:=kK.2.1;refine RN 7 E I λa E=>?_;exact⟨T.l.length-(k+1),by omega,k+1,_,_,⟨rfl,by omega⟩,E.ab [1,2,6,8,13,14,15],by rw[qJ,rM];exact I.sub (M:=aa b8 238 (cj B dX cb)::Sl 238 5 (some ⟨b',dG,none⟩) T.l.length c (rows c8 xs)::ah bY xs::Tree tq sq T::aa cI 238 (cj mJ none 0)::L)⟩
 refine RN 1 E I λa E=>?_;obtain rfl:k=T.l.length:=by omega
 rw[k4]at I;rw[show T.l.foldl (im frm p) mJ=T.fL frm p from rfl]at I;refine aX 0 (λw0 w'=>Rd w' b8 0 (cj (T.fL frm p) dX cb)) [2,3,4] [1,3000,3002,3003,1004,5] E I λa w E I hH=>?_;have hC:=hH.at w I.ai;refine RH 1 E I hH hC λa E=>?_;refine QH E (λw hc=>bT E underlying238 rfl Ty.t238 (hc)) hC λa E=>?_;refine QH E (λw hc=>ae E (hc 3 _ rfl)) hC λa E=>?_;refine RH 1 E I hH hC λa E=>?_;refine SA 0 E I λa w E I=>?_;replace hC:=hH.at w I.ai;refine RH 1 E I hH hC λa E=>?_;refine RT 0 E I ?_;refine⟨dX,cb,?_,I.sub⟩;rw[show decide ((0:Int)<((T.fL frm p).done:Int))=decide (0<(T.fL frm p).done) from by rw[decide_eq_decide];omega]
def Tr.cut (T:Tr)(wh:Br→Bool):Tr:={ T with l:=T.l.filter (λx=>!wh x),epoch:=T.epoch+if (T.l.filter (λx=>!wh x)).length<T.l.length then 1 else 0 }
def Sn.gU (A:Sn)(l:List Br):Sn:=l.foldl (λA x=>A.ey x.snap) A
theorem VX {A:Sn}{l:List Br}{wh:Br→Bool}(h:l[k]?=some x):A.gU ((l.take (k+1)).filter wh)=if wh x=true then (A.gU ((l.take k).filter wh)).ey x.snap else A.gU ((l.take k).filter wh):=by
 obtain⟨hk,rfl⟩:=a2.1 h;rw[jw hk,yl];by_cases hw:wh l[k]=true
 ·rw[ak hw,Sn.gU,foldl_append];simp[hw,Sn.gU]
 ·rw[ag hw];simp[hw]
theorem VY {α:Type}{l:List α}{f:α→Bool}{z:α}(h:l[k]?=some z):(l.take (k+1)).filter f=(l.take k).filter f++if f z=true then [z] else []:=by
 obtain⟨hk,rfl⟩:=a2.1 h;rw[jw hk,yl];by_cases hw:f l[k]=true <;> simp[hw]
theorem VZ (xs:List Bx)(f:Br→Bool):(xs.filter (λz=>f z.1)).map (·.1)=(xs.map (·.1)).filter f:=by
 induction xs with
 | nil=>rfl
 | cons z xs ih =>
  by_cases h:f z.1=true <;> simp[h]at ih ⊢ <;> exact ih
theorem WT.cut (h:WT T)(he:T.epoch+1<1099511627776)(wh:Br→Bool):WT (T.cut wh):=by
 obtain⟨cH,dq,a3,a4,a5⟩:=h;refine⟨⟨cH.1,?_⟩,dq,?_,?_,λy hy=>?_⟩
 ·simp only[Tr.cut];exact fG (pO _ _) cH.2
 ·simp only[Tr.cut];split <;> omega
 ·simp only[Tr.cut];exact a4.sublist (List.Sublist.map _ List.filter_sublist)
 ·simp only[Tr.cut]at hy ⊢;exact a5 y (List.mem_filter.1 hy).1
class Tl (M L:List SP):Prop where h:∃ K,M.Perm (K++L)
instance Tl.self {L:List SP}:Tl L L:=⟨[],lD _⟩
instance (priority:=low) Tl.cons {A:SP}{M L:List SP}[t:Tl M L]:Tl (A::M) L:=⟨let ⟨K,h⟩:=t.h;⟨A::K,h.cons A⟩⟩
theorem U.V0 {M:List SP}(I:U W w M)(t:Tl M L):U W w L:=let ⟨_,h⟩:=t.h;(I.perm h).drop
def wy (W:World)(N:List SP)(ad:Option Addr)(P:List (List UInt8)):Prop:=∃ zs:List ec,zs.map (·.2.2)=P∧∀ w',U W w' N→iK w' ad zs
set_option maxHeartbeats 1000000 in
theorem JZ {wh:Br→Bool}{f:Nat}{us:List Value}(I:U W w (Tree tq sq T::ax sq r A::L))(he:T.epoch+1<1099511627776)(cp:hQ prog f=true)
   (hf:∀ (M:List SP) (w':World) (x:Br) (av:Option Addr) (c':Nat),x∈T.l→U W w' M→Tl M L→wy W M av x.al→x.al.length≤c'→nY x.al →
    Calls prog f (List.toArray (.agg (cj x av c').toArray::us)) w' λe nZ=>e=.returned (.bool (wh x))∧U W nZ M) :
   Calls prog 303 #[pt tq,.func (.func f) #[] (List.toArray us)] w λe w'=>e=.returned (.int .i64 ((T.l.length-(T.l.filter (λx=>!wh x)).length:Nat):Int)) ∧
    U W w' (Tree tq sq (T.cut wh)::ax sq r (A.gU (T.l.filter wh))::L):=by
 obtain⟨ad,c,xs,h1,hw,I⟩:=Tree.open I;have ca:xs.length=T.l.length:=by rw[← h1,a8]
 have hT:=hw.most;have ed:=pO (λx=>!wh x) T.l;refine EN func303 ntmps303 rfl rfl λa E=>?_;refine RN 6 E I λa E=>?_;replace E:=E.aM 10;refine RN 10 E I λa E=>?_;replace I:U W w (Sl 238 5 none 0 0 (rows c8 ((xs.take 0).filter (λz:Bx=>!wh z.1)))::ah bY ((xs.take 0).filter (λz:Bx=>!wh z.1))::aa tq 236 [pt sq,.int .i64 T.most,.slice ad T.l.length c,.int .i64 T.last,.int .i64 T.epoch]::Sl 238 5 ad T.l.length c (rows c8 xs)::ah bY (xs.drop 0)::ax sq r (A.gU ((T.l.take 0).filter wh))::L):=(I.iY (f:=bY)).bN 238 5 none;refine RN 8 E I λa E=>?_;refine aQ (λμ a w=>∃ (k m:Nat) (tf:Option Addr) (oN:Nat),(μ=T.l.length-k∧k≤T.l.length∧m=((xs.take k).filter (λz=>!wh z.1)).length)∧Fr a 59 [(0,pt tq),(1,.func (.func f) #[] (List.toArray us)),(5,.int .i64 T.l.length),(6,.slice tf m oN),(19,.slice ad T.l.length c),(20,.int .i64 T.l.length),(21,.int .i64 k)]∧U W w (Sl 238 5 tf m oN (rows c8 ((xs.take k).filter (λz=>!wh z.1)))::ah bY ((xs.take k).filter (λz=>!wh z.1))::aa tq 236 [pt sq,.int .i64 T.most,.slice ad T.l.length c,.int .i64 T.last,.int .i64 T.epoch]::Sl 238 5 ad T.l.length c (rows c8 xs)::ah bY (xs.drop k)::ax sq r (A.gU ((T.l.take k).filter wh))::L)) (T.l.length) (⟨0,0,none,0,⟨by simp,by simp,by simp⟩,E.ab [0,1,5,6,19,20,21],I.sub⟩) ?_;clear E I;rintro μ a w ⟨k,m,tf,oN,⟨rfl,hk,hm⟩,E,I⟩;refine IF 3 E I (λao a E=>?_) λao a E=>?_
 ·
  refine RN 2 E I λa E=>?_
  obtain ⟨b', dG, g7, c7⟩ := I.bU (n := T.l.length) (cs := rows c8 xs) (R := Sl 238 5 tf m oN (rows c8 ((xs.take k).filter (fun z => !wh z.1))) :: ah bY ((xs.take k).filter (fun z => !wh z.1)) :: aa tq 236 [.pointer (some ⟨sq, 0, none⟩), .int .i64 T.most, .slice ad T.l.length c, .int .i64 T.last, .int .i64 T.epoch] :: ah bY (xs.drop k) :: ax sq r (A.gU ((T.l.take k).filter wh)) :: L) (k := ⟨by
      refine List.Perm.trans ?_ (nQ (l₁:=[_,_,_]));exact lD _⟩) ad (by omega)
  subst g7;have uK:k<xs.length:=by omega
  obtain⟨⟨x,eH,db⟩,dW⟩:∃ y,xs[k]?=some y:=⟨_,aD uK⟩;have g5:xs[k]=(x,eH,db):=(a2.1 dW).2;have fV:=oL c7 dW;have jz:T.l[k]?=some x:=by rw[← h1,bn,dW];rfl
  have kK:=(hw.ok x (bH jz)).1;have pP:=VX (A:=A) (wh:=wh) jz;have tg:=VY (f:=λz:Bx=>!wh z.1) dW;replace I:=(I.pick (ah bY (xs.drop k)));rw[kF uK,g5]at I;replace I:=I.fy (i:=0) (by simp);change U W w (ch eH x.al.length db x.al::ah bY (xs.drop (k+1))::_) at I;have dY:=(ch.le I).2;refine RN 1 E I λa E=>?_;refine SS E (bT E underlying238 rfl Ty.t238 (fV)) λa E=>?_;refine AL 0 E I λb8 a w E I=>?_;refine SA 0 E I λa w E I=>?_;refine RN 4 E I λa E=>?_;obtain⟨zs,cV,eQ,I⟩:=ch.open (I.pick (ch eH x.al.length db x.al));refine CL 0 E I (hf _ _ x eH db (bH jz) I inferInstance ⟨zs,cV,λnZ h=>U.mF (h.sub (M:=Sl 22 1 eH x.al.length db (zs.map aL)::ah a7 zs::[]))⟩ dY kK) (hf:=cp) λa w E I=>?_;replace I:U W w (ch eH x.al.length db x.al::_):=U.shut (M:=[_,_]) I (λ_ x=>⟨zs,⟨cV,eQ⟩,x⟩);refine IF 0 E I (λay a E=>?_) λay a E=>?_
  ·
   rw[ak ay]at pP;rw[show (!wh (x,eH,db).1)=false from by simp[ay]]at tg;rw[ag (by decide),append_nil]at tg;refine bS 1 [5] [0,1,2,4,3003,1005,1006] E I λa w E I hH hC=>?_;refine RH 6 E I hH hC λa E=>?_;refine bj 0 E I (AJ (id:=x.snap) (I.pick (ax sq r (A.gU ((T.l.take k).filter wh))))) λ_ a w E I=>?_;rw[← pP]at I;refine RN 2 E I λa E=>?_;rw[← tg]at hm I;exact⟨T.l.length-(k+1),by omega,k+1,_,_,_,⟨rfl,by omega,hm⟩,E.ab [0,1,5,6,19,20,21],I.sub⟩
  rw[ag (by rw[ay];decide)]at pP;rw[show (!wh (x,eH,db).1)=true from by simp[ay]]at tg;rw[ak rfl]at tg;refine RN 2 E I λa E=>?_;refine cr E rfl I underlying168 Ty.t238 rfl rfl rfl rfl (by decide) (by decide) λV1 a w E I ho=>?_;clear ho;obtain⟨Y,wz⟩:∃ Y,(xs.take k).filter (λz=>!wh z.1)=Y:=⟨_,rfl⟩;rw[wz]at I tg hm;refine RN 0 E I λa E=>?_;refine cQ E rfl I underlying168 Ty.t238 rfl rfl I.ai rfl (by simp[Value.oneCell',cj]) (by decide) (by decide) (by have:=pO (λz:Bx=>!wh z.1) (xs.take k);rw[wz,et]at this;omega) λoO oP a w E I=>?_;have h8:=U.j0 (f:=bY) (l:=Y) (x:=(x,eH,db)) (I.sub (M:=ch eH x.al.length db x.al::ah bY Y::Sl 238 5 oO (m+1) oP (rows c8 Y++[cj x eH db].flatten)::aa tq 236 [pt sq,.int .i64 T.most,.slice (some ⟨b',dG,none⟩) T.l.length c,.int .i64 T.last,.int .i64 T.epoch]::Sl 238 5 (some ⟨b',dG,none⟩) T.l.length c (rows c8 xs)::ah bY (xs.drop (k+1))::ax sq r (A.gU ((T.l.take k).filter wh))::L));rw[Eb,← tg,← pP]at h8;replace I:=h8;clear h8;refine RN 3 E I λa E=>?_;exact⟨T.l.length-(k+1),by omega,k+1,_,_,_,⟨rfl,by omega,by rw[tg,aI,← hm];rfl⟩,E.ab [0,1,5,6,19,20,21],I.sub⟩
 refine RN 1 E I λa E=>?_;obtain rfl:k=T.l.length:=by omega
 rw[k4,gg (by omega)]at I;rw[gg (by omega)]at hm;have qK:=VZ xs (λx=>!wh x);rw[h1]at qK;have wA:m=(T.l.filter (λx=>!wh x)).length:=by rw[hm,← qK,a8]
 subst wA;refine ST 4 E I (λa w E I=>?_);refine IF 6 E I (λbd a E=>?_) λbd a E=>?_
 ·
  have hlt:(T.l.filter (λx=>!wh x)).length<T.l.length:=by omega
  refine ST 7 E I (λa w E I=>?_);rw[show ((T.epoch:Int)+1)=((T.epoch+1:Nat):Int) from rfl]at I;refine RT 6 E I ?_;refine⟨by rw[show ((T.l.length-(T.l.filter (λx=>!wh x)).length:Nat):Int)=(T.l.length:Int)-((T.l.filter (λx=>!wh x)).length:Int) from by omega],?_⟩;exact Tree.close (T:=T.cut wh) (ad:=tf) (c:=oN) (xs:=xs.filter (λz=>!wh z.1)) (n:=(T.l.filter (λx=>!wh x)).length) (most:=T.most) (last:=T.last) (epoch:=T.epoch+1) I qK (hw.cut he wh) rfl rfl rfl (by simp only[Tr.cut];rw[ak hlt])
 have hlt:¬ (T.l.filter (λx=>!wh x)).length<T.l.length:=by omega
 refine RT 6 E I ?_;refine⟨by rw[show ((T.l.length-(T.l.filter (λx=>!wh x)).length:Nat):Int)=(T.l.length:Int)-((T.l.filter (λx=>!wh x)).length:Int) from by omega],?_⟩;exact Tree.close (T:=T.cut wh) (ad:=tf) (c:=oN) (xs:=xs.filter (λz=>!wh z.1)) (n:=(T.l.filter (λx=>!wh x)).length) (most:=T.most) (last:=T.last) (epoch:=T.epoch) I qK (hw.cut he wh) rfl rfl rfl (by simp only[Tr.cut];rw[ag hlt];rfl)
theorem V2 (I:U W w (Tree tq sq T::ax sq r A::L))(he:T.epoch+1<1099511627776) :
   Calls prog 320 #[pt tq] w λe w'=>e=.returned (.int .i64 T.l.length)∧U W w' (Tree tq sq (T.cut λ_=>true)::ax sq r (A.gU T.l)::L):=by
 have hF : ∀ (M : List SP) (w' : World) (x : Br) (av : Option Addr) (c' : Nat), x ∈ T.l → U W w' M → Tl M L → wy W M av x.al → x.al.length ≤ c' → nY x.al →
     Calls prog 334 (List.toArray [.agg (cj x av c').toArray]) w' λe nZ=>e=.returned (.bool true)∧U W nZ M:=by
  intro L w x av c' _ I _ _ _ _;refine EN func334 ntmps334 rfl rfl λa E=>?_;refine BX 1 E I λb1 a w E I=>?_;refine RT 3 E I ?_;exact⟨rfl,I.sub⟩
 refine EN func320 ntmps320 rfl rfl λa E=>?_;refine CL 4 E I (JZ (wh:=λ_=>true) (us:=[]) I he (by kernel_rfl) hF) λa w E I=>?_;refine RT 1 E I ?_;have e1:T.l.filter (λx=>!(λ_:Br=>true) x)=[]:=by simp
 have e2:T.l.filter (λ_=>true)=T.l:=by simp
 rw[e2]at I;exact⟨by rw[e1];rfl,I⟩
end
end
section
theorem uM (s:ByteArray)(i:Nat):1≤(Utf8.decode s i).2∧(Utf8.decode s i).2≤4:=by
 simp only[Utf8.decode]
 repeat' split
 all_goals simp
def n0 (r:Nat):Nat:=if r<0x80 then 1 else if r<0x800 then 2 else if r<0x10000 then 3 else 4
theorem th (s:ByteArray)(i:Nat):(s.get! i).toNat<256:=(s.get! i).toNat_lt
theorem J0 (s:ByteArray)(i:Nat):n0 (Utf8.decode s i).1=(Utf8.decode s i).2∨Utf8.decode s i=(0xFFFD,1):=by
 have h0:=th s (i+0);have h1:=th s (i+1);have h2:=th s (i+2);have h3:=th s (i+3);simp only[Utf8.decode,Utf8.runeError]
 repeat' split
 all_goals first | (right;rfl) | (left;simp_all [n0];done) | (left;simp_all [n0];(repeat' split) <;> omega)
theorem J1 (s:ByteArray)(i:Nat)(h:i<s.size):i+(Utf8.decode s i).2≤s.size:=by
 simp only[Utf8.decode,Utf8.runeError]
 repeat' split
 all_goals simp_all
 all_goals omega
theorem V3 (s:ByteArray)(i:Nat):(Utf8.decode s i).1<1114112:=by
 have h0:=th s (i+0);have h1:=th s (i+1);have h2:=th s (i+2);have h3:=th s (i+3);simp only[Utf8.decode,Utf8.runeError]
 repeat' split
 all_goals simp_all [Utf8.valid]
 all_goals omega
def ee (s:ByteArray)(pos:Nat):List (Nat×Nat):=if h:pos<s.size then Utf8.decode s pos::ee s (pos+(Utf8.decode s pos).2) else []
termination_by s.size-pos
decreasing_by have:=(uM s pos).1;omega
theorem rN {s:ByteArray}{pos:Nat}(h:pos<s.size):ee s pos=Utf8.decode s pos::ee s (eb s pos):=by
 rw[ee,dif_pos h,eb,ak h]
theorem rO {s:ByteArray}{pos:Nat}(h:¬ pos<s.size):ee s pos=[]:=by
 rw[ee,dif_neg h]
theorem V4 (s:ByteArray):∀ n pos,s.size-pos≤n→(ee s pos).length≤n:=by
 intro n
 induction n with
 | zero=>intro pos h;rw[rO (by omega)];simp
 | succ n ih =>
  intro pos h;by_cases hp:pos<s.size
  ·rw[rN hp,eR];have:=(uM s pos).1;have:=ih (eb s pos) (by rw[eb,ak hp];omega);omega
  ·rw[rO hp];simp
theorem Ed {s:ByteArray}{pos:Nat}(h:pos≤s.size):eb s pos≤s.size:=by
 by_cases hp:pos<s.size
 ·rw[eb,ak hp];exact J1 s pos hp
 ·rw[eb,ag hp];exact h
def kM (x:Nat×Nat):Bool:=decide (32≤x.1)&&decide (x.1≠127)
def mK (x:Nat×Nat):Bool:=!decide (x=(0xFFFD,1))
def pQ (s:ByteArray):Bool:=decide (1≤(ee s 0).length)&&decide ((ee s 0).length≤20)&&(ee s 0).all kM&&(ee s 0).all mK
def ng (s:ByteArray)(n:Int):Int:=if 0≤n then (((ee s 0)[n.toNat]?).map (λx=>(x.1:Int))).getD 0 else 0
structure gG where
 code:Int
 a:Int
 b:Int
 c:Int
structure Pr where
 title:ByteArray
 ops:List gG
abbrev dQ (o:gG):List Value:=[.int .i64 o.code,.int .i64 o.a,.int .i64 o.b,.int .i64 o.c]
theorem Ee (o:gG):(dQ o).length=4:=rfl
theorem J2 (o:gG):∀ v∈dQ o,v.oneCell'=true:=by
 intro v hv;simp[dQ]at hv;rcases hv with rfl | rfl | rfl | rfl <;> rfl
def e6 (x:Int):Prop:=0≤x∧x<32
def ds (x:Int):Prop := -2147483648≤x∧x≤2147483647
def e7 (n:Int)(o:gG):Prop :=
 (o.code=0∧o.a=0∧o.b=0∧o.c=0)∨(o.code=1∧e6 o.a∧o.c=0)∨(o.code=9∧0≤o.a∧o.a≤n∧o.b=0∧o.c=0)∨(o.code=15∧e6 o.a∧o.b=0∧o.c=0) ∨
 (o.code=10∧e6 o.a∧0≤o.b∧o.b≤n∧o.c=0)∨((o.code=2∨(11≤o.code∧o.code≤14))∧e6 o.a∧e6 o.b∧o.c=0)∨(3≤o.code∧o.code≤8∧e6 o.a∧e6 o.b∧e6 o.c)
def rP (o:gG):Prop:=ds o.code∧ds o.a∧ds o.b∧ds o.c
def wB (p:Pr):Prop:=pQ p.title=true∧1≤p.ops.length∧p.ops.length≤64∧∀ o∈p.ops,rP o
def dk (p:Pr):Prop:=wB p∧∀ o∈p.ops,e7 p.ops.length o
def iq (x:Int):Int:=IntKind.i32.wrap x
def kN (x:Int):Nat:=(x.emod 32).toNat
theorem ym (x:Int):kN x<32:=by
 have h1:=Int.emod_nonneg x (show (32:Int)≠0 by decide);have h2:=Int.emod_lt_of_pos x (show (0:Int)<32 by decide);show (x%32).toNat<32;omega
def mL (b:List UInt8)(x:Int):Int:=if 0≤x∧x<b.length then ((b.getD x.toNat 0).toNat:Int) else 0
def jh (k a b:Int):Int:=if k=3 then iq (a+b) else if k=4 then iq (a-b) else if k=5 then iq (a*b) else if k=6 then (if b=0 then 0 else iq (a.tdiv b)) else if k=7 then (if a<b then 1 else 0) else if a=b then 1 else 0
def jP (p:Pr)(fr:Int)(b:List UInt8)(g:Nat→Int)(o:gG):Int :=
 if o.code=1 then iq o.b else if o.code=2 then g o.b.toNat else if o.code=11 then mL b (g o.b.toNat) else if o.code=12 then g (kN (g o.b.toNat)) else if o.code=14 then ng p.title (g o.b.toNat) else if o.code=15 then iq fr else jh o.code (g o.b.toNat) (g o.c.toNat)
def en (p:Pr)(fr:Int)(b:List UInt8)(g:Nat→Int)(aT:Nat)(o:gG):(Nat→Int)×Nat×Bool :=
 if o.code=0 then (g,aT+1,false) else if o.code=9 then (g,o.a.toNat,true) else if o.code=10 then (g,if g o.a.toNat=0 then o.b.toNat else aT+1,true) else if o.code=13 then (cm g (kN (g o.a.toNat)) (g o.b.toNat),aT+1,true)
 else (cm g o.a.toNat (jP p fr b g o),aT+1,true)
def qL (p:Pr)(fr:Int)(b:List UInt8):Nat→(Nat→Int)→Nat→(Nat→Int)
 | 0,g,_=>g
 | n+1,g,aT=>match p.ops[aT]? with
  | none=>g
  | some o=>let r:=en p fr b g aT o
   if r.2.2 then qL p fr b n r.1 r.2.1 else r.1
def e8 (p:Pr)(fr:Int)(b:List UInt8)(g:Nat→Int):Nat→Int:=qL p fr b 200 g 0
def foldI (p:Pr)(fr:Int):(Nat→Int)→List (List UInt8)→(Nat→Int)
 | g,[]=>g
 | g,b::l=>foldI p (fr+1) (e8 p fr b g) l
theorem Ef (p:Pr)(b:List UInt8):∀ (l:List (List UInt8)) (fr:Int) (g:Nat→Int),foldI p fr g (l++[b])=e8 p (fr+l.length) b (foldI p fr g l)
 | [],fr,g=>by simp[foldI]
 | x::l,fr,g=>by
  rw[cons_append,foldI,Ef p b l,foldI,eR]
  congr 1;omega
def dR (g:Nat→Int):Prop:=∀ c,c<32→ds (g c)
theorem iu {i:Int}(h1:-2147483648≤i)(h2:i≤2147483647):IntKind.i32.wrap i=i:=IntWalk.i32_in _ ⟨h1,h2⟩
theorem yn (x:Int):ds (iq x):=by
 simp only[iq,ds,IntKind.wrap];split <;> simp_all [IntKind.signed,IntKind.bits] <;> omega
def Ro (W:World)(e sz:Nat)(ad:Option Addr)(n c:Nat)(cs:List Value):SP:=λh =>
 (cs.length=n*sz∧n≤c∧(0<n→∃ b off,ad=some ⟨b,off,none⟩∧b<W.heap.size∧Rd W b off cs))∨Sl e sz ad n c cs h
class uN (L:List SP)(W:World)(ad:Option Addr)(n c e sz:outParam Nat)(cs:outParam (List Value))(R:outParam (List SP)):Prop where perm:L.Perm (Ro W e sz ad n c cs::R)
instance uN.head {L W ad n c e sz cs}:uN (Ro W e sz ad n c cs::L) W ad n c e sz cs L:=⟨lD _⟩
instance (priority:=low) uN.tail {A L W ad n c e sz cs R}[h:uN L W ad n c e sz cs R]:uN (A::L) W ad n c e sz cs (A::R) :=
 ⟨(kx A h.perm).trans (cZ _ _ _)⟩
section
variable {W w:World}{L R:List SP}{e sz n c:Nat}{ad:Option Addr}{cs:List Value}
theorem U.ro (s:U W w L)(ad:Option Addr)[k:uN L W ad n c e sz cs R]:cs.length=n*sz∧n≤c:=(s.perm k.perm).tell λ_ h=>by
 rcases h with ⟨h1,h2,_⟩ | h
 ·exact⟨h1,h2⟩
 ·exact⟨h.1,h.2.1⟩
theorem U.rQ (s:U W w L)(ad:Option Addr)[k:uN L W ad n c e sz cs R](h0:0<n):∃ b off,ad=some ⟨b,off,none⟩∧Rd w b off cs:=by
 have s':=s.perm k.perm;obtain⟨m5,h,p,h1,h2,d,a,kk,x,q⟩:=s';rcases x with ⟨x1,x2,x3⟩ | x
 ·obtain⟨b,off,rfl,hb,hr⟩:=x3 h0;exact⟨b,off,rfl,λj v hj=>(s.gD (a:=⟨b,off+j,none⟩) hb).trans (hr j v hj)⟩
 ·have s2:U W w (Sl e sz ad n c cs::R):=⟨m5,h,p,h1,h2,d,a,kk,x,q⟩;exact s2.bU ad h0
theorem U.V5 (s:U W w L)(h1:cs.length=n*sz)(h2:n≤c)(h3:0<n→∃ b off,ad=some ⟨b,off,none⟩∧b<W.heap.size∧Rd W b off cs):U W w (Ro W e sz ad n c cs::L) :=
 ⟨s.below,let ⟨h,p,q⟩:=s.sat;⟨h,p,λ_=>none,h,λ_=>.inl rfl,λ_ _ e=>(by cases e),Hp.Sub.refl _,.inl ⟨h1,h2,h3⟩,q⟩⟩
theorem U.Eg (s:U W w (Sl e sz ad n c cs::L)):U W w (Ro W e sz ad n c cs::L):=s.imp λ_ ⟨h1,h2,d,a,b,x,q⟩=>⟨h1,h2,d,a,b,.inr x,q⟩
end
theorem wC {w:World}{b off k:Nat}{ops:List gG}{o:gG}(hr:Rd w b off (rows dQ ops))(ho:ops[k]?=some o):Rd w b (off+k*4) (dQ o):=by
 obtain⟨hi,he⟩:=a2.1 ho;have:=hr.part (k*4) 4;rw[vW Ee ops k hi,he]at this;exact this
end
end Go.Proofs.YteoldcfapaiobaaGreat
