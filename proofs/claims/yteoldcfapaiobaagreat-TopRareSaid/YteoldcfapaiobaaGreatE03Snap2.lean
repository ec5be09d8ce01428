/- The walks of package snap, further. -/
import Derived.Test.YteoldcfapaiobaaGreatE02Page
import Derived.Test.YteoldcfapaiobaaGreatE01Row
namespace Go.Proofs.YteoldcfapaiobaaGreat
open Tryz
open List (perm_middle nil_append map_cons set_append_right set_append_left cons_append getElem_set_self take_length append_nil ext_getElem? mem_or_eq_of_mem_set getElem_mem set_set map_nil getElem?_set_ne set_getElem_self foldl_append length_filter_le)
open Go.RowKit
set_option linter.unusedVariables false
set_option linter.unusedSimpArgs false
set_option maxRecDepth 10000
set_option synthInstance.maxSize 4000
set_option synthInstance.maxHeartbeats 400000
section
section
variable {W w:World}{L L':List SP}{q r b m i pb:Nat}{A:Sn}{ps:List Pg}{xs:List (aC×Nat)}{x y:aC}
theorem Us {off n c:Nat}{vs:List Value}(I:U W w L)(hr:∀ w',U W w' L→Rd w' b off vs)(hl:vs.length=n)(hn:0<n)(h1:∀ v∈vs,v.oneCell'=true)(hb:n≤1048576) :
   Calls prog 121 #[.slice (some ⟨b,off,none⟩) n c] w λe w'=>∃ ad c',e=.returned (.slice ad n c')∧U W w' (Sl 3 1 ad n c' vs::L):=by
 refine EN func121 ntmps121 rfl rfl λa E=>?_;refine RN 6 E I λa E=>?_;replace E:=E.aM 4;refine RN 2 E I λa E=>?_;refine tC E rfl I underlying53 Ty.t3 rfl λb5 a w E I ho=>?_;clear ho;refine RN 1 E I λa E=>?_;refine cK E rfl I underlying53 Ty.t3 rfl rfl (hr _ I.tail) (by omega) h1 hn (by decide) (by omega) λse qW a w E I=>?_;rw[Nat.zero_add,nil_append] at *;refine RT 1 E I ?_;exact⟨_,_,rfl,I⟩
theorem IN (I:U W w (ax q r A::L))(hx:A.ar[i]?=some x) :
   Calls prog 85 #[pt q,.int .i64 x.id] w λe w'=>∃ ad c,e=.returned (.slice ad 4 c)∧U W w' (Sl 3 1 ad 4 c (ints .i64 4 (λk=>(x.p k:Int)+1))::ax q r A::L):=by
 obtain⟨b,m,ps,xs,h1,hw,hr,I⟩:=ax.open I;obtain⟨pb,ba⟩:=qc h1 hx;refine EN func85 ntmps85 rfl rfl λa E=>?_;refine CL 5 E I (qd I h1 hw ba) λa w E I=>?_;refine RN 5 E I λa E=>?_;replace E:=E.aM 10;refine RN 2 E I λa E=>?_;replace I:=I.qX ba;refine aY 4 E I (Us (off:=0) (c:=4) I (λw' h=>h.C6 pb) (dd _ _ _) (by decide) tD (by decide)) λad c a w E I=>?_;refine RT 1 E I ?_;refine⟨ad,c,rfl,?_⟩;have h4:=ax.tM (A:=A) (B:=A) (q:=q) (r:=r) (last:=A.last) (L':=Sl 3 1 ad 4 c (ints .i64 4 (λk=>(x.p k:Int)+1))::L) (b:=b) (m:=m) (ps:=ps) (pb:=pb) (y:=x) I ba h1 rfl (xv hx) hw hr;exact h4.perm (List.Perm.swap _ _ _)
theorem zL (I:U W w (ax q r A::L)) :
   Calls prog 83 #[pt q] w λe w'=>e=.returned (pt r)∧U W w' (ax q r A::L):=by
 obtain⟨b,m,ps,xs,h1,hw,hr,I⟩:=ax.open I;refine EN func83 ntmps83 rfl rfl λa E=>?_;refine RN 6 E I λa E=>?_;replace E:=E.aM 4;refine RT 7 E I ?_;exact⟨rfl,ax.close (b:=b) (m:=m) I h1 hw hr⟩
theorem C9 (I:U W w (ax q r A::L)) :
   Calls prog 84 #[pt r] w λe w'=>e=.returned (.int .i64 A.used)∧U W w' (ax q r A::L):=by
 obtain⟨b,m,ps,xs,h1,hw,hr,I⟩:=ax.open I;refine (Io (I.pick (Room r b ps))).mono λe w' ⟨h2,I⟩=>?_;rw[hr.used]at h2;exact⟨h2,ax.close (b:=b) (m:=m) (ps:=ps) I h1 hw hr⟩
theorem IP {n:Int}(I:U W w (ax q r A::L)) :
   Calls prog 125 #[pt q,.int .i64 n] w λe w'=>e=.returned (.bool (decide (n≤((A.room-A.used:Nat):Int))))∧U W w' (ax q r A::L):=by
 obtain⟨b,m,ps,xs,h1,hw,hr,I⟩:=ax.open I;refine EN func125 ntmps125 rfl rfl λa E=>?_;refine RN 6 E I λa E=>?_;replace E:=E.eh 7;refine CL 5 E I (TH (I.pick (Room r b ps))) λa w E I=>?_;refine RT 3 E I ?_;exact⟨by rw[hr.used,hr.len],ax.close (b:=b) (m:=m) (ps:=ps) I h1 hw hr⟩
theorem Ut (I:U W w (ax q r A::L)) :
   Calls prog 82 #[pt q] w λe w'=>∃ ad c,e=.returned (.slice ad A.ar.length c)∧U W w' (Sl 166 1 ad A.ar.length c (A.ar.map λx=>.int .i64 x.id)::ax q r A::L):=by
 obtain⟨b,m,ps,xs,h1,hw,hr,I⟩:=ax.open I;have hlen:(kvs xs).length=A.ar.length:=by rw[← h1];simp[kvs]
 have tO:((kvs xs).map (·.1)).Pairwise (· < ·):=by
  have:(kvs xs).map (·.1)=(A.ar.map (·.id)).map (λn:Nat=>(n:Int)):=by rw[← h1];simp[kvs]
  rw[this,List.pairwise_map];exact hw.sorted.imp λh=>by omega
 have sx:((kvs xs).map λp=>Value.int .i64 p.1)=A.ar.map λx=>Value.int .i64 x.id:=by rw[← h1];simp[kvs]
 refine EN func82 ntmps82 rfl rfl λa E=>?_;refine RN 6 E I λa E=>?_;replace E:=E.aM 4;refine bh 6 E I (TY (m:=m) I) λb8 a w E I=>?_;refine aY 0 E I (T4 (m:=m) (kvs:=kvs xs) ((I.pick (mp m (kvs xs))).pick (aa b8 218 [.map (some m)])) tO (by rw[hlen];have:=hw.many;have:=hw.bound;omega)) λad c a w E I=>?_;rw[hlen,sx] at *;refine RT 1 E I ?_;refine⟨ad,c,rfl,?_⟩;have h4:=ax.close (A:=A) (q:=q) (r:=r) (last:=A.last) (xs:=xs) (L':=Sl 166 1 ad A.ar.length c (A.ar.map λx=>.int .i64 x.id)::L) (b:=b) (m:=m) (ps:=ps) I h1 hw hr;exact h4.perm (List.Perm.swap _ _ _)
theorem Uu (I:U W w (ax q r A::L))(hx:A.ar[i]?=some x) :
   Calls prog 290 #[pt q,.int .i64 x.id] w λe w'=>e=.returned (.tuple #[.agg (ints .i32 32 x.g).toArray,.bool true])∧U W w' (ax q r A::L):=by
 refine EN func290 ntmps290 rfl rfl λa E=>?_;refine AL 1 E I λb4 a w E I=>?_;change U W w (aa b4 183 (ints .i32 32 (λ_=>0))::_) at I;refine AL 2 E I λcH a w E I=>?_;change U W w (aa cH 183 (ints .i32 32 (λj=>if j<0 then x.g j else 0))::_) at I;refine RN 2 E I λa E=>?_;obtain⟨b,m,ps,xs,h1,hw,hr,I⟩:=ax.open (I.pick (ax q r A));obtain⟨pb,ba⟩:=qc h1 hx;refine CL 2 E I (qd I h1 hw ba) λa w E I=>?_;refine RN 1 E I λa E=>?_;replace E:=E.aM 11;refine RN 3 E I λa E=>?_;replace I:=ax.close (A:=A) (q:=q) (r:=r) (last:=A.last) (xs:=xs) (L':=aa cH 183 (ints .i32 32 (λj=>if j<0 then x.g j else 0))::aa b4 183 (ints .i32 32 (λ_=>0))::L) (b:=b) (m:=m) (ps:=ps) I h1 hw hr;refine RN 1 E I λa E=>?_;refine aO (λμ a w=>∃ k:Nat,(μ=32-k∧k≤32)∧Fr a 27 [(0,pt q),(1,.int .i64 x.id),(4,pt b4),(6,pt cH),(13,.int .i64 k)]∧U W w (aa cH 183 (ints .i32 32 (λj=>if j<k then x.g j else 0))::ax q r A::aa b4 183 (ints .i32 32 (λ_=>0))::L)) (32) (⟨0,⟨by simp,by simp⟩,E.ab [0,1,4,6,13],I.sub⟩) ?_;clear E I;rintro μ a w ⟨k,⟨rfl,hk⟩,E,I⟩;refine IF 3 E I (λao a E=>?_) λao a E=>?_
 ·
  refine CL 8 E I (II (I.pick (ax q r A)) hx (by omega)) λa w E I=>?_;refine ST 4 E I (λa w E I=>?_) (hlt:=(by rw[dd];omega))
  rw [ints_set, show (fun i => if i = k then x.g k else if i < k then x.g i else 0) = (fun i => if i < k + 1 then x.g i else 0) from by
      funext i
      by_cases h:i=k
      ·subst h;simp
      ·rw[ag h];by_cases h2:i<k
       ·rw[ak h2,ak (by omega)]
       ·rw[ag h2,ag (by omega)]]at I
  refine RN 2 E I λa E=>?_;exact⟨32-(k+1),by omega,k+1,⟨rfl,by omega⟩,E.ab [0,1,4,6,13],I.sub⟩
 obtain rfl:k=32:=by omega
 rw[xf (g':=x.g) (λj hj=>ak hj)]at I;refine SA 2 E I λa w E I=>?_;refine RT 1 E I ?_;exact⟨rfl,I.sub⟩
theorem Uv (p:Nat):cQ [] p=0:=rfl
theorem Uw {n:Nat}(I:U W w L)(hn:n≤50) :
   Calls prog 89 #[.int .i64 n] w λe w'=>∃ q r,e=.returned (pt q)∧U W w' (ax q r ⟨0,4*n,0,[]⟩::L):=by
 refine EN func89 ntmps89 rfl rfl λa E=>?_;refine RN 6 E I λa E=>?_;rw[show min (max (n:Int) 0) 50=(n:Int) from by omega]at E;refine RN 1 E I λa E=>?_;rw[show (4:Int)*(n:Int)=((4*n:Nat):Int) from by omega]at E;refine aY 0 E I (Tx I (by omega)) λr b a w E I=>?_;refine RN 0 E I λa E=>?_;refine TM E rfl I rfl λb8 a w E I ho=>?_;clear ho;refine BX 1 E I λkr a w E I=>?_;refine RT 1 E I ?_;have h7:U W w (ah iP []::aa kr 221 [pt r,.map (some b8),.int .i64 ((0:Nat):Int)]::mp b8 (kvs [])::Room r b (List.replicate (4*n) sf)::L):=U.iN I;refine⟨kr,r,rfl,ax.close (A:=⟨0,4*n,0,[]⟩) (last:=0) (b:=b) (m:=b8) (xs:=[]) (ps:=List.replicate (4*n) sf) h7 rfl ⟨by simp only;omega,by simp,a7 _,by simp,by simp,by simp⟩ ⟨by simp,λp q hq=>?_,by simp⟩⟩;obtain⟨_,rfl⟩:=a2.1 hq;rw[List.getElem_replicate];rfl
theorem Ux {g:Nat→Int}{k:Nat}(I:U W w L)(hk:k<4) :
   Calls prog 127 #[.agg (ints .i32 32 g).toArray,.int .i64 k] w λe w'=>e=.returned (.agg (ints .i32 8 (λj=>g (8*k+j))).toArray)∧U W w' L:=by
 refine EN func127 ntmps127 rfl rfl λa E=>?_;refine BX 1 E I λb2 a w E I=>?_;refine AL 0 E I λb4 a w E I=>?_;change U W w (aa b4 225 (ints .i32 8 (λ_=>0))::_) at I;refine AL 1 E I λb5 a w E I=>?_;change U W w (aa b5 225 (ints .i32 8 (λ_=>0))::_) at I;refine RN 5 E I λa E=>?_;rw[dg (by omega)]at E;refine RN 3 E I λa E=>?_;rw[dg (by omega)]at E;refine RN 1 E I λa E=>?_;have Uy:((ints .i32 32 g).drop (k*8)).take 8=ints .i32 8 (λj=>g (8*k+j)):=by rw[Nat.mul_comm k 8];exact QC g (by omega)
 refine bQ 0 [] [0,1,2,3,1004] E I λa w E I hH hC=>?_;refine RH 3 E I hH hC λa E=>?_;rw[show ((k:Int)*8)=((k*8:Nat):Int) from by omega]at E;refine QP E (λw=>QF E underlying183 Ty.t21 (by omega)) λa E=>?_;rw[Nat.zero_add,Nat.mul_one]at E;refine RH 0 E I hH hC λa E=>?_;refine QG E rfl I underlying270 Ty.t21 rfl (k:=8) (vs:=ints .i32 8 (λj=>g (8*k+j))) (by omega) (by rw[← Uy];exact I.pX 8) (dd _ _ _) tD (by rw[dd,dd];decide) λa w E I=>?_;rw[show cG (ints .i32 8 (λ_=>0)) 0 (ints .i32 8 (λj=>g (8*k+j)))=ints .i32 8 (λj=>g (8*k+j)) from by simp[cG,dd]]at I;refine SA 2 E I λa w E I=>?_;refine RT 0 E I ?_;exact⟨rfl,I.sub⟩
structure Made (ps:List Pg)(g:Nat→Int)(t:Nat→Nat)(k:Nat)(gk:List Pg):Prop where
 len:gk.length=ps.length
 new:∀ j,j<k→∃ q,gk[t j]?=some q∧q.refs=1∧∀ l,l<8→q.g l=g (8*j+l)
 Da:∀ j,j<k→∃ q,ps[t j]?=some q∧q.refs=0
 apart:∀ j l,j<k→l<k→t j=t l→j=l
 gy:∀ p,(∀ j,j<k→t j≠p)→gk[p]?=ps[p]?
 used:jQ gk=jQ ps+k
theorem Made.zero (ps:List Pg)(g:Nat→Int)(t:Nat→Nat):Made ps g t 0 ps:=⟨rfl,λ_ h=>by omega,λ_ h=>by omega,λ_ _ h=>by omega,λ_ _=>rfl,rfl⟩
theorem Made.free {ps gk:List Pg}{g:Nat→Int}{t:Nat→Nat}{k:Nat}(h:Made ps g t k gk)(hu:jQ ps+k<ps.length):∃ f,tH gk f:=by
 rcases CS gk with bR | hf
 ·have:=IM bR;rw[h.used,h.len]at this;omega
 ·exact hf
theorem Made.step {ps gk:List Pg}{g:Nat→Int}{t:Nat→Nat}{k f:Nat}(h:Made ps g t k gk)(hf:tH gk f){g1:Nat→Int}(hg:∀ l,l<8→g1 l=g (8*k+l)) :
   Made ps g (λj=>if j=k then f else t j) (k+1) (gk.set f ⟨g1,1⟩):=by
 obtain⟨iZ,jz,_⟩:=hf;have bD:∀ j,j<k→t j≠f:=λj hj e=>by
  obtain⟨q,h1,h2,_⟩:=h.new j hj;rw[e,aE iZ]at h1;cases h1;omega
 have zH:ps[f]?=some gk[f]:=by rw[← h.gy f bD,aE iZ]
 refine⟨by rw[bu];exact h.len,λj hj=>?_,λj hj=>?_,λj l hj hl e=>?_,λp hp=>?_,?_⟩
 ·by_cases p4:j=k
  ·subst p4;exact⟨⟨g1,1⟩,by simp[iZ],rfl,hg⟩
  ·obtain⟨q,h1,h2,h3⟩:=h.new j (by omega);exact⟨q,by simp only[ag p4];rw[getElem?_set_ne (Ne.symm (bD j (by omega)))];exact h1,h2,h3⟩
 ·by_cases p4:j=k
  ·subst p4;exact⟨_,by simp only[if_true];exact zH,jz⟩
  ·simp only[ag p4];exact h.Da j (by omega)
 ·by_cases h1:j=k <;> by_cases h2:l=k
  ·omega
  ·rw[ak h1,ag h2]at e;exact absurd e.symm (bD l (by omega))
  ·rw[ag h1,ak h2]at e;exact absurd e (bD j (by omega))
  ·rw[ag h1,ag h2]at e;exact h.apart j l (by omega) (by omega) e
 ·have h1:=hp k (by omega);simp only[if_true]at h1;rw[getElem?_set_ne h1];refine h.gy p λj hj e=>?_;have:=hp j (by omega);rw[ag (by omega)]at this;exact this e
 ·have:=List.countP_set (p:=λp:Pg=>decide (0<p.refs)) (a:=⟨g1,1⟩) iZ;have hu:=h.used;simp only[jQ]at hu ⊢;rw[this,hu];simp[jz,Nat.add_assoc]
theorem Made.rel {ps gk:List Pg}{g:Nat→Int}{t:Nat→Nat}(h:Made ps g t 4 gk)(hr:Rel A ps):Rel (A.add g t) gk:=by
 have hz:∀ j,j<4→cQ A.ar (t j)=0:=λj hj=>by
  obtain⟨q,h1,h2⟩:=h.Da j hj;rw[← hr.refs _ _ h1];exact h2
 refine⟨h.len.trans hr.len,λp q hq=>?_,λy hy k hk=>?_⟩
 ·simp only[Sn.add,xp,sr,C0,Nat.add_zero];by_cases hp:∃ j,j<4∧t j=p
  ·obtain⟨j,hj,rfl⟩:=hp;obtain⟨q',h1,h2,_⟩:=h.new j hj;rw[h1]at hq;cases hq;rw[hz j hj,h2,tJ];have E:=λl (hl:l<4) (e:t l=t j)=>h.apart l j hl hj e;simp only;rcases (by omega:j=0∨j=1∨j=2∨j=3) with rfl | rfl | rfl | rfl
   ·rw[ak rfl,ag (λe=>by have:=E 1 (by omega) e;omega),ag (λe=>by have:=E 2 (by omega) e;omega),ag (λe=>by have:=E 3 (by omega) e;omega)]
   ·rw[ak rfl,ag (λe=>by have:=E 0 (by omega) e;omega),ag (λe=>by have:=E 2 (by omega) e;omega),ag (λe=>by have:=E 3 (by omega) e;omega)]
   ·rw[ak rfl,ag (λe=>by have:=E 0 (by omega) e;omega),ag (λe=>by have:=E 1 (by omega) e;omega),ag (λe=>by have:=E 3 (by omega) e;omega)]
   ·rw[ak rfl,ag (λe=>by have:=E 0 (by omega) e;omega),ag (λe=>by have:=E 1 (by omega) e;omega),ag (λe=>by have:=E 2 (by omega) e;omega)]
  ·have hn:∀ j,j<4→t j≠p:=λj hj e=>hp ⟨j,hj,e⟩;rw[h.gy p hn]at hq;rw[hr.refs p q hq,CZ (x:=⟨A.last+1,1,g,t⟩) hn];rfl
 ·simp only[Sn.add]at hy;rcases eP.1 hy with hy | hy
  ·obtain⟨q,h1,h2⟩:=hr.pa y hy k hk;refine⟨q,?_,h2⟩;rw[h.gy _ λj hj e=>?_]
   ·exact h1
   ·have h3:=hz j hj;have h4:=tK hy (t j);rw[e]at h3 h4;have:=so (x:=y) hk;omega
  ·simp at hy;subst hy;obtain⟨q,h1,h2,h3⟩:=h.new k hk;exact⟨q,h1,h3⟩
abbrev nz (P:Nat→Int):List Value:=ints .i64 4 P++[.int .i64 0]
theorem Uz (P:Nat→Int):(nz P).length=5:=by simp[nz,dd]
theorem UA {P:Nat→Int}{k:Nat}(h:k<4):(nz P)[k]?=some (.int .i64 (P k)):=by
 rw[nz,l4 (by rw[dd];exact h),fN _ h]
theorem UB {P:Nat→Int}{k:Nat}(v:Int)(h:k<4):(nz P).set k (.int .i64 v)=nz (λj=>if j=k then v else P j):=by
 rw[nz,set_append_left _ _ (by rw[dd];exact h),ints_set,nz]
def tP (t:Nat→Nat)(k:Nat):Nat→Int:=λj=>if j<k then (t j:Int)+1 else 0
theorem UC (t:Nat→Nat)(k f:Nat):(λj=>if j=k then ((f:Int)+1) else tP t k j)=tP (λj=>if j=k then f else t j) (k+1):=by
 funext j
 simp only[tP];by_cases h:j=k
 ·subst h;simp
 ·rw[ag h,ag h];by_cases h2:j<k
  ·rw[ak h2,ak (by omega)]
  ·rw[ag h2,ag (by omega)]
def n2 (g:Nat→Int)(k j:Nat):Nat→Int:=λl=>if l<j then g (8*k+l) else 0
theorem UD (g:Nat→Int)(k:Nat):n2 g k 0=λ_=>0:=by funext l;simp[n2]
theorem UE (g:Nat→Int)(k j:Nat):(λl=>if l=j then g (8*k+j) else n2 g k j l)=n2 g k (j+1):=by
 funext l
 simp only[n2];by_cases h:l=j
 ·subst h;simp
 ·rw[ag h];by_cases h2:l<j
  ·rw[ak h2,ak (by omega)]
  ·rw[ag h2,ag (by omega)]
theorem IQ {g:Nat→Int}(I:U W w (ax q r A::L))(hu:A.used+4≤A.room)(hb:A.n+1<1099511627776) :
   Calls prog 93 #[pt q,.agg (ints .i32 32 g).toArray] w λe w'=>∃ t:Nat→Nat,e=.returned (.tuple #[.int .i64 ((A.last+1:Nat):Int),.bool true]) ∧
    ((∀ j,j<4→t j<A.room∧cQ A.ar (t j)=0)∧∀ j l,j<4→l<4→t j=t l→j=l)∧U W w' (ax q r (A.add g t)::L):=by
 refine EN func93 ntmps93 rfl rfl λa E=>?_;refine BX 1 E I λb3 a w E I=>?_;refine CL 5 E I (IP (I.pick (ax q r A))) λa w E I=>?_;rw[dg (by omega)]at E;refine RN 1 E I λa E=>?_;replace E:=E.aM 12;refine RN 2 E I λa E=>?_;obtain⟨b,m,ps,xs,h1,hw,hr,I⟩:=ax.open I;have nv:=hr.used;have gl:=hr.len;refine AL 0 E I λcH a w E I=>?_;change U W w (aa cH 232 (nz (tP (λ_=>0) 0))::_) at I;refine RN 3 E I λa E=>?_;refine aO (λμ a w=>∃ (k:Nat) (t:Nat→Nat) (gk:List Pg),(μ=4-k∧k≤4∧Made ps g t k gk)∧Fr a 50 [(0,pt q),(3,pt b3),(6,pt cH),(13,.int .i64 k)]∧U W w (Room r b gk::aa cH 232 (nz (tP t k))::aa b3 183 (ints .i32 32 g)::aa q 221 [pt r,.map (some m),.int .i64 A.last]::mp m (kvs xs)::ah iP xs::L)) (4) (⟨0,λ_=>0,ps,⟨by simp,by simp,Made.zero _ _ _⟩,E.ab [0,3,6,13],I.sub⟩) ?_;clear E I;rintro μ a w ⟨k,t,gk,⟨rfl,hk,hm⟩,E,I⟩;refine IF 3 E I (λao a E=>?_) λao a E=>?_
 ·
  refine RN 5 E I λa E=>?_;have IS:=hm.used;obtain⟨f,hf⟩:=hm.free (by omega);have aS:=λ(g1:Nat→Int) h=>hm.step (g1:=g1) hf h;have iZ:=hf.1;refine CL 5 E I (Im (I.pick (Room r b gk)) hf) λa w E I=>?_;refine ST 5 E I (λa w E I=>?_) (hlt:=(by rw[Uz];omega));rw[UB _ (by omega),UC]at I;refine CL 3 E I (Ux I (by omega)) λa w E I=>?_;refine RN 1 E I λa E=>?_;refine aO (λμ a w=>∃ j:Nat,(μ=8-j∧j≤8)∧Fr a 50 [(0,pt q),(3,pt b3),(6,pt cH),(7,.int .i64 k),(13,.int .i64 k),(29,.agg (ints .i32 8 (λj=>g (8*k+j))).toArray),(30,.int .i64 j)]∧U W w (Room r b (gk.set f ⟨n2 g k j,1⟩)::aa cH 232 (nz (tP (λj=>if j=k then f else t j) (k+1)))::aa b3 183 (ints .i32 32 g)::aa q 221 [pt r,.map (some m),.int .i64 A.last]::mp m (kvs xs)::ah iP xs::L)) (8) (⟨0,⟨by simp,by simp⟩,E.ab [0,3,6,7,13,29,30],by rw[UD];rw[show o7=(⟨λ_=>0,1⟩:Pg) from rfl]at I;exact I.sub⟩) ?_;clear E I;rintro μ a w ⟨j,⟨rfl,hj⟩,E,I⟩;refine IF 3 E I (λay a E=>?_) λay a E=>?_
  ·
   refine RN 3 E I λa E=>?_;refine SS E (r5 E underlying225 underlying21 rfl Ty.t21 (by omega) (fN _ (by omega))) λa E=>?_;refine bQ 2 [7] [0,1,2,4,5,6,8,9,3003,1007,1010] E I λa w E I hH hC=>?_;refine RH 9 E I hH hC λa E=>?_;refine SS E (ae E (I.bz (UA (by omega)))) λa E=>?_;rw[show tP (λj=>if j=k then f else t j) (k+1) k=(f:Int)+1 from by simp[tP]]at E;have dZ:f<(gk.set f ⟨n2 g k j,1⟩).length:=by rw[bu];exact iZ
   have vx:(gk.set f ⟨n2 g k j,1⟩)[f]=⟨n2 g k j,1⟩:=by rw[getElem_set_self]
   refine RH 0 E I hH hC λa E=>?_;refine CL 0 E I (CR (I.pick (Room r b (gk.set f ⟨n2 g k j,1⟩))) dZ (by rw[vx]) (show j<8 by omega)) λa w E I=>?_;rw[vx,set_set,UE]at I;refine RN 2 E I λa E=>?_;exact⟨8-(j+1),by omega,j+1,⟨rfl,by omega⟩,E.ab [0,3,6,7,13,29,30],I.sub⟩
  obtain rfl:j=8:=by omega
  have UF:=aS (n2 g k 8) (λl hl=>by simp[n2,hl]);refine RN 2 E I λa E=>?_;exact⟨4-(k+1),by omega,k+1,_,_,⟨rfl,by omega,UF⟩,E.ab [0,3,6,13],I.sub⟩
 obtain rfl:k=4:=by omega
 have ke:nz (tP t 4)=aC.cells ⟨A.last+1,0,g,t⟩:=by
  rw[nz,aC.cells];rw[xf (g:=tP t 4) (g':=λk=>(t k:Int)+1) (λj hj=>ak hj)];rfl
 rw[ke]at I;have zK:=hw.add hb g t;have zJ:=hm.rel hr;refine bh 3 E I (IK (x:=⟨A.last+1,0,g,t⟩) (q:=q) (r:=r) (m:=m) (last:=A.last) (xs:=xs) (L:=Room r b gk::ah iP xs::L) I.sub (by have:=hw.bound;have:=hw.last;omega) (IJ h1 hw)) λpb a w E I=>?_;refine RT 2 E I ?_;refine⟨t,rfl,⟨λj hj=>?_,λj l hj hl e=>hm.apart j l hj hl e⟩,?_⟩
 ·obtain⟨q',h5,h6⟩:=hm.Da j hj;have h7:=(a2.1 h5).1;exact⟨by omega,by rw[← hr.refs _ _ h5];exact h6⟩
 ·have h6:=U.jM (f:=iP) (l:=xs) (x:=(⟨A.last+1,1,g,t⟩,pb)) (I.sub (M:=aa pb 232 (aC.cells ⟨A.last+1,1,g,t⟩)::ah iP xs::aa q 221 [pt r,.map (some m),.int .i64 ((A.last+1:Nat):Int)]::mp m (kvs xs++[(((A.last+1:Nat):Int),pt pb)])::Room r b gk::L));rw[show kvs xs++[(((A.last+1:Nat):Int),Value.pointer (some ⟨pb,0,none⟩))]=kvs (xs++[(⟨A.last+1,1,g,t⟩,pb)]) from by simp[kvs]]at h6;exact ax.close (last:=A.last+1) (b:=b) (m:=m) (xs:=xs++[(⟨A.last+1,1,g,t⟩,pb)]) h6 (by simp[Sn.add,h1]) zK zJ
end
end
section
structure Br where
 id:Nat
 frm:Int
 al:List (List UInt8)
 done:Nat
 snap:Nat
structure Tr where
 most:Nat
 l:List Br
 last:Nat
 epoch:Nat
def nA (p:List (List UInt8)):Prop:=p.length≤65536∧∀ b∈p,b.length≤1099511627776
abbrev ch (x:Br)(ad:Option Addr)(c:Nat):List Value:=[.int .i64 x.id,.int .i64 x.frm,.slice ad x.al.length c,.int .i64 x.done,.int .i64 x.snap]
abbrev Bx:=Br×Option Addr×Nat
abbrev c5 (x:Bx):List Value:=ch x.1 x.2.1 x.2.2
def bZ (x:Bx):SP:=cg x.2.1 x.1.al.length x.2.2 x.1.al
theorem sy (x:Bx):(c5 x).length=5:=rfl
structure WT (T:Tr):Prop where
 most:T.most≤8∧T.l.length≤T.most
 last:T.last<1099511627776
 epoch:T.epoch<1099511627776
 ids:(T.l.map (·.id)).Pairwise (· < ·)
 ok:∀ x∈T.l,nA x.al∧x.done≤x.al.length∧1≤x.id∧x.id≤T.last
def Tree (tq sq:Nat)(T:Tr):SP:=λh=>∃ ad c xs,(xs.map (·.1)=T.l∧WT T) ∧
 cn [aa tq 236 [pt sq,.int .i64 T.most,.slice ad T.l.length c,.int .i64 T.last,.int .i64 T.epoch],Sl 238 5 ad T.l.length c (rows c5 xs),ah bZ xs] h
section
variable {W w:World}{L L' R:List SP}{tq sq q r n c k:Nat}{ad:Option Addr}{A:Sn}{T:Tr}{x y:Br}{xs:List Bx}{p:List (List UInt8)}
theorem Tree.open (I:U W w (Tree tq sq T::L)):∃ ad c xs,xs.map (·.1)=T.l∧WT T ∧
   U W w (aa tq 236 [pt sq,.int .i64 T.most,.slice ad T.l.length c,.int .i64 T.last,.int .i64 T.epoch]::Sl 238 5 ad T.l.length c (rows c5 xs)::ah bZ xs::L):=by
 obtain⟨⟨ad,c,xs⟩,⟨h1,h2⟩,h4⟩:=I.jy (ι:=Option Addr×Nat×List Bx) (p:=λi=>i.2.2.map (·.1)=T.l∧WT T)
  (B:=λi h=>cn [aa tq 236 [pt sq,.int .i64 T.most,.slice i.1 T.l.length i.2.1,.int .i64 T.last,.int .i64 T.epoch],Sl 238 5 i.1 T.l.length i.2.1 (rows c5 i.2.2),ah bZ i.2.2] h)
  (λh ⟨ad,c,xs,h1,h2⟩=>⟨(ad,c,xs),h1,h2⟩)
 exact⟨ad,c,xs,h1,h2,h4.open λ_ h=>h⟩
theorem Tree.close {most last epoch:Nat}(I:U W w L)[k:fD L (aa tq 236 [pt sq,.int .i64 most,.slice ad n c,.int .i64 last,.int .i64 epoch]::Sl 238 5 ad n c (rows c5 xs)::ah bZ xs::L') R]
   (h1:xs.map (·.1)=T.l) (h2:WT T) (e1:T.most=most:=by rfl) (e2:T.l.length=n:=by rfl) (e3:T.last=last:=by rfl) (iX:T.epoch=epoch:=by rfl):U W w (Tree tq sq T::L'):=by
 subst e1 e2 e3 iX;exact U.shut (M:=[_,_,_]) (I.sub (M:=aa tq 236 [pt sq,.int .i64 T.most,.slice ad T.l.length c,.int .i64 T.last,.int .i64 T.epoch]::Sl 238 5 ad T.l.length c (rows c5 xs)::ah bZ xs::L')) (λ_ x=>⟨ad,c,xs,⟨h1,h2⟩,x⟩)
theorem Tree.same (ad:Option Addr)(c:Nat)(xs:List Bx)(I:U W w L)[k:fD L (aa tq 236 [pt sq,.int .i64 T.most,.slice ad T.l.length c,.int .i64 T.last,.int .i64 T.epoch]::Sl 238 5 ad T.l.length c (rows c5 xs)::ah bZ xs::L') R]
   (h1:xs.map (·.1)=T.l) (h2:WT T):U W w (Tree tq sq T::L') :=
 U.shut (M:=[_,_,_]) (I.sub (M:=aa tq 236 [pt sq,.int .i64 T.most,.slice ad T.l.length c,.int .i64 T.last,.int .i64 T.epoch]::Sl 238 5 ad T.l.length c (rows c5 xs)::ah bZ xs::L')) (λ_ x=>⟨ad,c,xs,⟨h1,h2⟩,x⟩)
class vy (L:List SP)(tq:Nat)(sq:outParam Nat)(T:outParam Tr)(R:outParam (List SP)):Prop where perm:L.Perm (Tree tq sq T::R)
instance vy.head {L tq sq T}:vy (Tree tq sq T::L) tq sq T L:=⟨List.Perm.refl _⟩
instance (priority:=low) vy.tail {B L tq sq T R}[h:vy L tq sq T R]:vy (B::L) tq sq T (B::R):=⟨(List.Perm.cons B h.perm).trans (List.Perm.swap _ _ _)⟩
theorem U.tree (I:U W w L)(tq:Nat)[k:vy L tq sq T R]:U W w (Tree tq sq T::R):=I.perm k.perm
theorem Tree.wt (I:U W w (Tree tq sq T::L)):WT T:=by obtain⟨_,_,_,_,h,_⟩:=Tree.open I;exact h
theorem Db (h1:xs.map (·.1)=T.l)(hx:T.l[k]?=some x):∃ ad c,xs[k]?=some (x,ad,c):=by
 rw[← h1,bm]at hx;obtain⟨⟨y,ad,c⟩,h2,rfl⟩:=Option.map_eq_some_iff.1 hx;exact⟨ad,c,h2⟩
theorem n3 {b off:Nat}(hr:Rd w b off (rows c5 xs)){av:Option Addr}{c':Nat}(hx:xs[k]?=some (x,av,c')):Rd w b (off+k*5) (ch x av c'):=by
 obtain⟨hi,he⟩:=a2.1 hx;have:=hr.part (k*5) 5;rw[vh sy xs k hi,he]at this;exact this
theorem ah.pc (I:U W w (ah bZ xs::L)){av:Option Addr}{c':Nat}(hx:xs[k]?=some (x,av,c')):kL w av x.al.length x.al∧x.al.length≤c':=by
 obtain⟨hi,he⟩:=a2.1 hx;have h:=I.fu hi;rw[he]at h;have h2:U W w (cg av x.al.length c' x.al::_):=h;exact⟨cg.rd h2,(cg.le h2).2⟩
theorem UG {s:Nat}{m:Int}(I:U W w L):Calls prog 91 #[pt s,.int .i64 m] w λe w'=>∃ tq,e=.returned (pt tq)∧U W w' (Tree tq s ⟨(min (max m 0) 8).toNat,[],0,0⟩::L):=by
 refine EN func91 ntmps91 rfl rfl λa E=>?_;refine BX 8 E I λkr a w E I=>?_;refine RT 1 E I ?_;rw[show min (max m 0) 8=(((min (max m 0) 8).toNat:Nat):Int) from by omega]at I;have h:U W w (Sl 238 5 none 0 0 (rows c5 [])::ah bZ []::aa kr 236 [pt s,.int .i64 (((min (max m 0) 8).toNat:Nat):Int),.slice none 0 0,.int .i64 ((0:Nat):Int),.int .i64 ((0:Nat):Int)]::L):=(I.iN (f:=bZ)).bN 238 5 none;exact⟨kr,rfl,Tree.close (T:=⟨(min (max m 0) 8).toNat,[],0,0⟩) (most:=(min (max m 0) 8).toNat) (ad:=none) (c:=0) (n:=0) (last:=0) (epoch:=0) (xs:=[]) h rfl ⟨⟨by simp only;omega,Nat.zero_le _⟩,by simp,by simp,by simp,by simp⟩⟩
def pd (a b:List (List UInt8)):Bool:=a.take (min a.length b.length)==b.take (min a.length b.length)
theorem UH {u v:List (List UInt8)}{ad2:Option Addr}{c2:Nat}(db:kL w ad u.length u)(lh:kL w ad2 v.length v)(ao:u.length≤c)(ay:v.length≤c2)(hb:u.length≤1099511627776) :
   Calls prog 295 #[.slice ad u.length c,.slice ad2 v.length c2] w λe w'=>e=.returned (.bool (pd u v))∧w'=w.drew:=by
 obtain⟨W,xk⟩:∃ W,w=W:=⟨w,rfl⟩;have I:U W w []:=xk ▸ U.start w;refine EN func295 ntmps295 rfl rfl λa E=>?_;refine RN 8 E I λa E=>?_;rw[show min (u.length:Int) (v.length:Int)=((min u.length v.length:Nat):Int) from by omega]at E;refine RN 2 E I λa E=>?_;have IT:kL w.drew ad u.length u:=db;have o0:kL w.drew ad2 v.length v:=lh;refine qU 0 (λ_=>True) [] [0,1,2,3,4,5,1006,7] E I λa E=>?_;replace I:=I.drew;generalize w.drew=w at I IT o0 ⊢;have hC:=trivial;have hH:=Hd.any (λ_=>True);refine RH 6 E I hH hC λa E=>?_;rw[qV,qV,Nat.sub_zero,Nat.sub_zero,Nat.sub_zero]at E;refine CL 0 E I (Tm (p:=u.take (min u.length v.length)) (q:=v.take (min u.length v.length)) (IT.take (by omega)) (o0.take (by omega)) (by omega)) λa w E hx=>?_;obtain rfl:=hx;refine RN 1 E (U.start _) λa E=>?_;refine RT 0 E (U.start _) ?_;exact⟨rfl,rfl⟩
theorem Dc {u v:List (List UInt8)}{ad2:Option Addr}{c2:Nat}(I:U W w L)(db:kL w ad u.length u)(lh:kL w ad2 v.length v)(ao:u.length≤c)(ay:v.length≤c2)(hb:u.length≤1099511627776) :
   Calls prog 295 #[.slice ad u.length c,.slice ad2 v.length c2] w λe w'=>e=.returned (.bool (pd u v))∧U W w' L :=
 (UH db lh ao ay hb).mono λe w' ⟨h1,h2⟩=>⟨h1,by subst h2;exact I.drew⟩
theorem IU {m:Nat}{zs:List dY}(I:U W w L)(hr:∀ w',U W w' L→hU w' ad zs)(hm:zs.length=m)(dj:nA (zs.map (·.2.2))) :
   Calls prog 165 #[.slice ad m c] w λe w'=>∃ av c',e=.returned (.slice av m c')∧U W w' (cg av m c' (zs.map (·.2.2))::L):=by
 obtain⟨IV,UI⟩:=dj;rw[bd]at IV;refine EN func165 ntmps165 rfl rfl λa E=>?_;refine RN 6 E I λa E=>?_;replace I:=cg.nil I;refine RN 3 E I λa E=>?_;refine aO (λμ a w=>∃ (k:Nat) (fm:Option Addr) (dC:Nat),(μ=m-k∧k≤m)∧Fr a 19 [(3,.slice fm k dC),(6,.slice ad m c),(7,.int .i64 m),(8,.int .i64 k)]∧U W w (cg fm k dC ((zs.map (·.2.2)).take k)::L)) (m) (⟨0,none,0,⟨by simp,by simp⟩,E.ab [3,6,7,8],I⟩) ?_;clear E I;rintro μ a w ⟨k,fm,dC,⟨rfl,hk⟩,E,I⟩;refine IF 3 E I (λaj a E=>?_) λaj a E=>?_
 ·
  refine RN 2 E I λa E=>?_;obtain⟨b1,o1,rfl,h1⟩:=(hr _ I.tail).1 (by omega);have eH:zs[k]?=some zs[k]:=aE (by omega);have n4:=UI zs[k].2.2 (cV.2 ⟨zs[k],getElem_mem _,rfl⟩);have mf:=h1 k _ (by rw[bm,eH];rfl);refine RN 1 E I λa E=>?_;refine SS E (ae E (mf)) λa E=>?_;refine aY 3 E I (sd (bs:=zs[k].2.2) I (λw' h=>(hr _ h.tail).2 _ (getElem_mem _)) n4) λmh hG a w E I=>?_;refine RN 0 E I λa E=>?_;refine cr E rfl I underlying207 Ty.t22 rfl rfl rfl rfl (by decide) (by decide) λUJ a w E I ho=>?_;clear ho;obtain⟨ys,fZ,gA,I⟩:=cg.open (I.pick (cg fm k dC ((zs.map (·.2.2)).take k)));refine RN 0 E I λa E=>?_;refine cK E rfl I underlying207 Ty.t22 rfl rfl I.ai rfl (by simp[Value.oneCell']) (by decide) (by decide) (by omega) λDd De a w E I=>?_;have h8:=U.jM (f:=a8) (l:=ys) (x:=(mh,hG,zs[k].2.2)) (I.sub (M:=Sl 5 1 mh zs[k].2.2.length hG (bc zs[k].2.2)::ah a8 ys::Sl 22 1 Dd (k+1) De (ys.map aK++[[.slice mh zs[k].2.2.length hG]].flatten)::L));have h9:U W w (ah a8 (ys++[(mh,hG,zs[k].2.2)])::Sl 22 1 Dd (k+1) De ((ys++[(mh,hG,zs[k].2.2)]).map aK)::L):=by
   rw[cW];exact h8
  have dM:k<(zs.map (·.2.2)).length:=by rw[bd];omega
  have eI:=cg.close (p:=(zs.map (·.2.2)).take (k+1)) (ad:=Dd) (n:=k+1) (c:=De) (xs:=ys++[(mh,hG,zs[k].2.2)]) (L':=L) h9 (by rw[cW,fZ,jd dM];simp) (by rw[ep];omega);replace I:=eI;clear h8 h9 eI;refine RN 3 E I λa E=>?_;exact⟨m-(k+1),by omega,k+1,_,_,⟨rfl,by omega⟩,E.ab [3,6,7,8],I⟩
 refine RT 3 E I ?_;obtain rfl:k=m:=by omega
 rw[fX (by rw[bd];omega)]at I;exact⟨_,_,rfl,I⟩
theorem IW {zs:List dY}{av:Option Addr}{c':Nat}(I:U W w L)(hr:∀ w',U W w' L→hU w' av zs)(hz:zs.map (·.2.2)=x.al)(dj:nA x.al) :
   Calls prog 123 #[.agg (ch x av c').toArray] w λe w'=>∃ ad2 c2,e=.returned (.agg (ch x ad2 c2).toArray)∧U W w' (cg ad2 x.al.length c2 x.al::L):=by
 have iY:zs.length=x.al.length:=by rw[← hz,bd]
 refine EN func123 ntmps123 rfl rfl λa E=>?_;refine BX 1 E I λb1 a w E I=>?_;refine AL 0 E I λb2 a w E I=>?_;refine aY 3 E I (IU I (λw' h=>hr w' h.tail.tail) iY (by rw[hz];exact dj)) λad2 c2 a w E I=>?_;rw[hz]at I;refine ST 1 E I (λa w E I=>?_) (hlt:=(by simp[ch]));refine SA 2 E I λa w E I=>?_;refine RT 0 E I ?_;exact⟨ad2,c2,rfl,I.sub⟩
theorem UK {b:Nat}{id:Int}{av:Option Addr}{c':Nat}(I:U W w (aa b 2 [.int .i64 id]::L)) :
   Calls prog 212 #[.agg (ch x av c').toArray,pt b] w λe w'=>e=.returned (.bool (decide ((x.id:Int)=id)))∧U W w' (aa b 2 [.int .i64 id]::L):=by
 refine EN func212 ntmps212 rfl rfl λa E=>?_;refine BX 1 E I λb2 a w E I=>?_;refine RT 7 E I ?_;exact⟨rfl,I.sub⟩
theorem UL {b:Nat}{id:Int}{av:Option Addr}{c':Nat}(I:U W w (aa b 2 [.int .i64 id]::Sl 238 5 av n c' (rows c5 xs)::L))(hb:n≤1048576) :
   Calls prog 211 #[.slice av n c',.func (.func 212) #[] #[pt b]] w λe w' =>
    ∃ r:Int,e=.returned (.int .i64 r)∧((r = -1∧∀ y∈xs,(y.1.id:Int)≠id)∨∃ k y,r=(k:Nat)∧xs[k]?=some y∧(y.1.id:Int)=id)∧U W w' (Sl 238 5 av n c' (rows c5 xs)::L):=by
 have bW:xs.length=n:=by
  have:=(I.tail.sl av).1;rw[ja sy]at this;omega
 refine EN func211 ntmps211 rfl rfl λa E=>?_;refine RN 7 E I λa E=>?_;refine aO (λμ a w=>∃ k:Nat,(μ=n-k∧k≤n∧∀ j y,j<k→xs[j]?=some y→(y.1.id:Int)≠id)∧Fr a 19 [(0,.slice av n c'),(1,.func (.func 212) #[] #[pt b]),(7,.int .i64 n),(8,.int .i64 k)]∧U W w (aa b 2 [.int .i64 id]::Sl 238 5 av n c' (rows c5 xs)::L)) (n) (⟨0,⟨by simp,by simp,by omega⟩,E.ab [0,1,7,8],I⟩) ?_;clear E I;rintro μ a w ⟨k,⟨rfl,hk,bR⟩,E,I⟩;refine IF 3 E I (λaj a E=>?_) λaj a E=>?_
 ·
  refine RN 5 E I λa E=>?_;obtain⟨b',dB,rfl,c4⟩:=I.tail.bV av (by omega);obtain⟨⟨y,IX,IY⟩,hy⟩:∃ y,xs[k]?=some y:=⟨_,aE (by omega)⟩;have fO:=n3 c4 hy;refine RN 4 E I λa E=>?_;refine SS E (bS E underlying238 rfl Ty.t238 (fO)) λa E=>?_;refine CL 0 E I (UK (x:=y) (av:=IX) (c':=IY) I) λa w E I=>?_;refine IF 0 E I (λao a E=>?_) λao a E=>?_
  ·
   skip
   refine RT 3 E I ?_;exact⟨_,rfl,.inr ⟨k,(y,IX,IY),rfl,hy,ao⟩,I.tail⟩
  refine RN 2 E I λa E=>?_;refine⟨n-(k+1),by omega,k+1,⟨rfl,by omega,λj z hj hz=>?_⟩,E.ab [0,1,7,8],I⟩;by_cases p4:j=k
  ·subst p4;rw[hy]at hz;cases hz;exact ao
  ·exact bR j z (by omega) hz
 refine RT 2 E I ?_;refine⟨-1,rfl,.inl ⟨rfl,λz hz=>?_⟩,I.tail⟩;obtain⟨j,hj⟩:=jS.1 hz;have ei:=(a2.1 hj).1;exact bR j z (by omega) hj
theorem Df {id:Int}(I:U W w (Tree tq sq T::L)) :
   Calls prog 183 #[pt tq,.int .i64 id] w λe w' =>
    ∃ r:Int,e=.returned (.int .i64 r)∧((r = -1∧∀ y∈T.l,(y.id:Int)≠id)∨∃ k y,r=(k:Nat)∧T.l[k]?=some y∧(y.id:Int)=id)∧U W w' (Tree tq sq T::L):=by
 refine EN func183 ntmps183 rfl rfl λa E=>?_;refine BX 1 E I λb3 a w E I=>?_;refine RN 5 E I λa E=>?_;replace E:=E.aM 6;refine RN 2 E I λa E=>?_;obtain⟨ad,c,xs,h1,hw,I⟩:=Tree.open (I.tree tq);have hT:=hw.most;refine bh 5 E I (UL (xs:=xs) (b:=b3) (id:=id) (av:=ad) (c':=c) (n:=T.l.length) (L:=aa tq 236 [pt sq,.int .i64 T.most,.slice ad T.l.length c,.int .i64 T.last,.int .i64 T.epoch]::ah bZ xs::L) I.sub (by omega)) λr a w E ⟨hr,I⟩=>?_;refine RT 1 E I ?_;refine⟨r,rfl,?_,Tree.same ad c xs I h1 hw⟩;rcases hr with ⟨h2,h3⟩ | ⟨k,y,h2,h3,h4⟩
 ·refine .inl ⟨h2,λy hy=>?_⟩;rw[← h1]at hy;obtain⟨z,hz,rfl⟩:=cV.1 hy;exact h3 z hz
 ·exact .inr ⟨k,y.1,h2,by rw[← h1,bm,h3];rfl,h4⟩
theorem U.IZ (I:U W w (ah bZ xs::L)){av:Option Addr}{c':Nat}(hx:xs[k]?=some (x,av,c')):∃ zs:List dY,zs.map (·.2.2)=x.al∧x.al.length≤c' ∧
   U W w (Sl 22 1 av x.al.length c' (zs.map aK)::ah a8 zs::ah bZ (xs.eraseIdx k)::L):=by
 obtain⟨hi,he⟩:=a2.1 hx;have h:=I.fu hi;rw[he]at h;have h2:U W w (cg av x.al.length c' x.al::ah bZ (xs.eraseIdx k)::L):=h;obtain⟨zs,h3,h4,h5⟩:=cg.open h2;exact⟨zs,h3,(cg.le h2).2,h5⟩
theorem U.I0 {zs:List dY}{av:Option Addr}{c':Nat}(I:U W w L)[kk:fD L (Sl 22 1 av n c' (zs.map aK)::ah a8 zs::ah bZ (xs.eraseIdx k)::L') R](hx:xs[k]?=some (x,av,c'))(hz:zs.map (·.2.2)=x.al)(hn:x.al.length=n):U W w (ah bZ xs::L'):=by
 subst hn;obtain⟨hi,he⟩:=a2.1 hx;have h1:=I.sub (M:=Sl 22 1 av x.al.length c' (zs.map aK)::ah a8 zs::ah bZ (xs.eraseIdx k)::L');have h2:=cg.close (L':=ah bZ (xs.eraseIdx k)::L') (p:=x.al) (ad:=av) (n:=x.al.length) (c:=c') (xs:=zs) h1 hz rfl;have h3:U W w (bZ (x,av,c')::ah bZ (xs.eraseIdx k)::L'):=h2;have h4:=U.kI hi h3;rw[← he,set_getElem_self]at h4;exact h4
theorem xw (I:U W w (Tree tq sq T::L))(hx:T.l[k]?=some x) :
   Calls prog 143 #[pt tq,.int .i64 x.id] w λe w'=>∃ ad c,e=.returned (.tuple #[.agg (ch x ad c).toArray,.bool true])∧U W w' (cg ad x.al.length c x.al::Tree tq sq T::L):=by
 refine EN func143 ntmps143 rfl rfl λa E=>?_;refine AL 1 E I λb4 a w E I=>?_;refine bh 4 E I (Df (id:=(x.id:Int)) (I.tree tq)) λr a w E ⟨hr,I⟩=>?_;obtain⟨hw,fO⟩:WT T∧r=(k:Nat):=by
  have hw:=Tree.wt I;refine⟨hw,?_⟩;rcases hr with ⟨_,h3⟩ | ⟨j,y,h2,h3,h4⟩
  ·exact absurd rfl (h3 x (bH hx))
  ·have hp:=List.pairwise_iff_getElem.1 hw.ids;obtain⟨hj,rfl⟩:=a2.1 h3;obtain⟨hk,rfl⟩:=a2.1 hx;rcases Nat.lt_trichotomy j k with hl | hl | hl
   ·have:=hp j k (by simpa using hj) (by simpa using hk) hl;simp at this;omega
   ·rw[h2,hl]
   ·have:=hp k j (by simpa using hk) (by simpa using hj) hl;simp at this;omega
 subst fO;have dM:=(a2.1 hx).1;have ku:=(hw.ok x (bH hx)).1;clear hr;refine RN 5 E I λa E=>?_;rw[bq (by omega)]at E;refine RN 2 E I λa E=>?_;obtain⟨ad,c,xs,h1,hw,I⟩:=Tree.open (I.tree tq);obtain⟨eD,c8,dT⟩:=Db h1 hx;obtain⟨b',dB,rfl,c4⟩:=I.tail.bV ad (by omega);have fO:=n3 c4 dT;refine RN 6 E I λa E=>?_;refine SS E (bS E underlying238 rfl Ty.t238 (fO)) λa E=>?_;obtain⟨zs,cU,eN,I⟩:=U.IZ (I.pick (ah bZ xs)) dT;refine aY 0 E I (IW (x:=x) (av:=eD) (c':=c8) I (λw' h=>U.ma h) cU ku) λad2 c2 a w E I=>?_;refine SA 0 E I λa w E I=>?_;refine RT 1 E I ?_;have h5:=U.I0 (L':=cg ad2 x.al.length c2 x.al::aa tq 236 [pt sq,.int .i64 T.most,.slice (some ⟨b',dB,none⟩) T.l.length c,.int .i64 T.last,.int .i64 T.epoch]::Sl 238 5 (some ⟨b',dB,none⟩) T.l.length c (rows c5 xs)::L) I dT cU rfl;refine⟨ad2,c2,rfl,?_⟩;have h6:=Tree.same (tq:=tq) (sq:=sq) (T:=T) (L':=cg ad2 x.al.length c2 x.al::L) (some ⟨b',dB,none⟩) c xs h5 h1 hw;exact h6.perm (List.Perm.swap _ _ _)
theorem UM {id:Int}(I:U W w (Tree tq sq T::L))(hn:∀ y∈T.l,(y.id:Int)≠id) :
   Calls prog 143 #[pt tq,.int .i64 id] w λe w'=>e=.returned (.tuple #[.agg (ch ⟨0,0,[],0,0⟩ none 0).toArray,.bool false])∧U W w' (Tree tq sq T::L):=by
 refine EN func143 ntmps143 rfl rfl λa E=>?_;refine AL 1 E I λb4 a w E I=>?_;refine bh 4 E I (Df (id:=id) (I.tree tq)) λr a w E ⟨hr,I⟩=>?_;obtain rfl:r = -1:=by
  rcases hr with ⟨h,_⟩ | ⟨j,y,_,h3,h4⟩
  ·exact h
  ·exact absurd h4 (hn y (bH h3))
 clear hr;refine RN 5 E I λa E=>?_;replace E:=E.eh 11;refine SA 3 E I λa w E I=>?_;refine RT 1 E I ?_;exact⟨rfl,I.sub⟩
theorem zM (I:U W w (Tree tq sq T::L)) :
   Calls prog 144 #[pt tq] w λe w'=>e=.returned (.int .i64 T.epoch)∧U W w' (Tree tq sq T::L):=by
 obtain⟨ad,c,xs,h1,hw,I⟩:=Tree.open I;refine EN func144 ntmps144 rfl rfl λa E=>?_;refine RN 6 E I λa E=>?_;replace E:=E.aM 4;refine RT 7 E I ?_;exact⟨rfl,Tree.same ad c xs I h1 hw⟩
def kO (ad:Option Addr)(n c:Nat)(l:List Br):SP:=λh=>∃ ys:List Bx,(ys.map (·.1)=l∧l.length=n)∧cn [Sl 238 5 ad n c (rows c5 ys),ah bZ ys] h
theorem kO.open {l:List Br}(I:U W w (kO ad n c l::L)):∃ ys:List Bx,ys.map (·.1)=l∧l.length=n∧U W w (Sl 238 5 ad n c (rows c5 ys)::ah bZ ys::L):=by
 obtain⟨xs,⟨h1,h2⟩,h3⟩:=I.jy (ι:=List Bx) (p:=λxs=>xs.map (·.1)=l∧l.length=n) (B:=λxs h=>cn [Sl 238 5 ad n c (rows c5 xs),ah bZ xs] h) (λh ⟨xs,h1,h2⟩=>⟨xs,h1,h2⟩);exact⟨xs,h1,h2,h3.open λ_ h=>h⟩
theorem kO.close {l:List Br}(ys:List Bx)(I:U W w L)[k:fD L (Sl 238 5 ad n c (rows c5 ys)::ah bZ ys::L') R](h1:ys.map (·.1)=l)(h2:l.length=n):U W w (kO ad n c l::L') :=
 U.shut (M:=[_,_]) (I.sub (M:=Sl 238 5 ad n c (rows c5 ys)::ah bZ ys::L')) (λ_ x=>⟨ys,⟨h1,h2⟩,x⟩)
theorem kO.nil (I:U W w L):U W w (kO none 0 0 []::L):=by
 have h:U W w (Sl 238 5 none 0 0 (rows c5 [])::ah bZ []::L):=(I.iN (f:=bZ)).bN 238 5 none;exact kO.close [] h rfl rfl
theorem UN (ys:List Bx)(y:Bx):rows c5 ys++[c5 y].flatten=rows c5 (ys++[y]):=by rw[kj];simp[rows]
theorem Dg (ys:List Bx)(x:Br)(ad:Option Addr)(c:Nat):rows c5 ys++[ch x ad c].flatten=rows c5 (ys++[(x,ad,c)]):=UN ys (x,ad,c)
theorem zN (I:U W w (Tree tq sq T::L)) :
   Calls prog 88 #[pt tq] w λe w'=>∃ ad c,e=.returned (.slice ad T.l.length c)∧U W w' (kO ad T.l.length c T.l::Tree tq sq T::L):=by
 obtain⟨ad,c,xs,h1,hw,I⟩:=Tree.open I;have bW:xs.length=T.l.length:=by rw[← h1,bd]
 have hT:=hw.most;refine EN func88 ntmps88 rfl rfl λa E=>?_;refine RN 6 E I λa E=>?_;replace E:=E.aM 7;refine RN 5 E I λa E=>?_;replace I:=kO.nil I;refine RN 6 E I λa E=>?_;refine aO (λμ a w=>∃ (k:Nat) (fm:Option Addr) (dC:Nat),(μ=T.l.length-k∧k≤T.l.length)∧Fr a 24 [(3,.slice fm k dC),(11,.slice ad T.l.length c),(12,.int .i64 T.l.length),(13,.int .i64 k)]∧U W w (kO fm k dC (T.l.take k)::aa tq 236 [pt sq,.int .i64 T.most,.slice ad T.l.length c,.int .i64 T.last,.int .i64 T.epoch]::Sl 238 5 ad T.l.length c (rows c5 xs)::ah bZ xs::L)) (T.l.length) (⟨0,none,0,⟨by simp,by simp⟩,E.ab [3,11,12,13],I⟩) ?_;clear E I;rintro μ a w ⟨k,fm,dC,⟨rfl,hk⟩,E,I⟩;refine IF 3 E I (λao a E=>?_) λao a E=>?_
 ·
  refine RN 2 E I λa E=>?_;obtain⟨b',dB,rfl,c4⟩:=I.bV ad (by omega);obtain⟨⟨x,eD,c8⟩,dT⟩:∃ y,xs[k]?=some y:=⟨_,aE (by omega)⟩;have fO:=n3 c4 dT;have jg:T.l[k]?=some x:=by rw[← h1,bm,dT];rfl
  have ku:=(hw.ok x (bH jg)).1;refine RN 1 E I λa E=>?_;refine SS E (bS E underlying238 rfl Ty.t238 (fO)) λa E=>?_;refine AL 0 E I λb5 a w E I=>?_;refine SA 0 E I λa w E I=>?_;refine RN 2 E I λa E=>?_;obtain⟨zs,cU,eN,I⟩:=U.IZ (I.pick (ah bZ xs)) dT;refine aY 0 E I (IW (x:=x) (av:=eD) (c':=c8) I (λw' h=>U.ma h) cU ku) λad2 c2 a w E I=>?_;refine RN 0 E I λa E=>?_;refine cr E rfl I underlying168 Ty.t238 rfl rfl rfl rfl (by decide) (by decide) λI1 a w E I ho=>?_;clear ho;obtain⟨ys,fZ,gA,I⟩:=kO.open (I.pick (kO fm k dC (T.l.take k)));refine RN 0 E I λa E=>?_;refine cK E rfl I underlying168 Ty.t238 rfl rfl I.ai rfl (by simp[Value.oneCell',ch]) (by decide) (by decide) (by omega) λqY qZ a w E I=>?_;have h8:=U.jM (f:=bZ) (l:=ys) (x:=(x,ad2,c2)) (I.sub (M:=cg ad2 x.al.length c2 x.al::ah bZ ys::Sl 238 5 qY (k+1) qZ (rows c5 ys++[ch x ad2 c2].flatten)::Sl 22 1 eD x.al.length c8 (zs.map aK)::ah a8 zs::ah bZ (xs.eraseIdx k)::aa tq 236 [pt sq,.int .i64 T.most,.slice (some ⟨b',dB,none⟩) T.l.length c,.int .i64 T.last,.int .i64 T.epoch]::Sl 238 5 (some ⟨b',dB,none⟩) T.l.length c (rows c5 xs)::L));rw[Dg]at h8;have h9:=kO.close (l:=T.l.take (k+1)) (n:=k+1) (ad:=qY) (c:=qZ) (L':=Sl 22 1 eD x.al.length c8 (zs.map aK)::ah a8 zs::ah bZ (xs.eraseIdx k)::aa tq 236 [pt sq,.int .i64 T.most,.slice (some ⟨b',dB,none⟩) T.l.length c,.int .i64 T.last,.int .i64 T.epoch]::Sl 238 5 (some ⟨b',dB,none⟩) T.l.length c (rows c5 xs)::L) (ys++[(x,ad2,c2)]) h8 (by
   have dM:k<T.l.length:=by omega
   rw[cW,fZ,jd dM];rw[aE dM]at jg;cases jg;rfl) (by rw[ep];omega)
  have eI:=U.I0 (L':=kO qY (k+1) qZ (T.l.take (k+1))::aa tq 236 [pt sq,.int .i64 T.most,.slice (some ⟨b',dB,none⟩) T.l.length c,.int .i64 T.last,.int .i64 T.epoch]::Sl 238 5 (some ⟨b',dB,none⟩) T.l.length c (rows c5 xs)::L) h9 dT cU rfl;replace I:=eI;clear h8 h9 eI;refine RN 3 E I λa E=>?_;exact⟨T.l.length-(k+1),by omega,k+1,_,_,⟨rfl,by omega⟩,E.ab [3,11,12,13],I.sub⟩
 refine RT 3 E I ?_;obtain rfl:k=T.l.length:=by omega
 rw[take_length]at I;refine⟨_,_,rfl,?_⟩;have h6:=Tree.same (tq:=tq) (sq:=sq) (T:=T) (L':=kO fm T.l.length dC T.l::L) ad c xs I h1 hw;exact h6.perm (List.Perm.swap _ _ _)
def Tr.add (T:Tr)(frm:Int)(p:List (List UInt8))(snap:Nat):Tr:={ T with l:=T.l++[⟨T.last+1,frm,p,0,snap⟩],last:=T.last+1 }
def Br.is (y:Br)(frm:Int)(p:List (List UInt8)):Prop:=y.frm=frm∧y.al=p
theorem I2 {u v:List (List UInt8)}(h:u.length=v.length):(pd u v=true)↔u=v:=by
 rw[pd,← h,Nat.min_self,take_length,h,take_length];simp
theorem I3 {frm sn:Int}{ad2:Option Addr}{m c2:Nat}(I:U W w (Tree tq sq T::L))(h:T.most≤T.l.length∨m=0) :
   Calls prog 306 #[pt tq,.int .i64 frm,.int .i64 sn,.slice ad2 m c2] w λe w'=>e=.returned (.tuple #[.int .i64 0,.bool false])∧U W w' (Tree tq sq T::L):=by
 obtain⟨ad,c,xs,h1,hw,I⟩:=Tree.open I;refine EN func306 ntmps306 rfl rfl λa E=>?_;refine bQ 5 [11] [0,1,2,3,4,5,8,9,10,3006,7,1011,12,13,14,15,16,17,18] E I λa w E I hH hC=>?_;refine RH 3 E I hH hC λa E=>?_;replace E:=E.aM 16;refine RH 12 E I hH hC λa E=>?_;refine E.by (s:=28) (λkP E=>?_) (λkP E=>?_)
 ·
  refine RH 4 E I hH hC λa E=>?_;refine RT 4 E I ?_;exact⟨rfl,Tree.same ad c xs I h1 hw⟩
 refine RH 4 E I hH hC λa E=>?_;rw[dg (by omega)]at E;refine RT 4 E I ?_;exact⟨rfl,Tree.same ad c xs I h1 hw⟩
theorem UO {frm sn:Int}{ad2:Option Addr}{c2 j:Nat}{y:Br}(I:U W w (Tree tq sq T::L))(hp:∀ w',U W w' L→kL w' ad2 p.length p)(hc:p.length≤c2)(dj:nA p)(hy:T.l[j]?=some y)(vz:y.is frm p) :
   Calls prog 306 #[pt tq,.int .i64 frm,.int .i64 sn,.slice ad2 p.length c2] w λe w'=>e=.returned (.tuple #[.int .i64 0,.bool false])∧U W w' (Tree tq sq T::L):=by
 obtain⟨ad,c,xs,h1,hw,I⟩:=Tree.open I;have bW:xs.length=T.l.length:=by rw[← h1,bd]
 have hT:=hw.most;have ei:=(a2.1 hy).1;refine EN func306 ntmps306 rfl rfl λa E=>?_;refine bQ 5 [11] [0,1,2,3,4,5,8,9,10,3006,7,1011,12,13,14,15,16,17,18] E I λa w E I hH hC=>?_;refine RH 3 E I hH hC λa E=>?_;replace E:=E.aM 16;refine RH 12 E I hH hC λa E=>?_;refine E.by (s:=28) (λkP E=>?_) (λkP E=>?_)
 ·
  refine RH 4 E I hH hC λa E=>?_;refine RT 4 E I ?_;exact⟨rfl,Tree.same ad c xs I h1 hw⟩
 refine RH 4 E I hH hC λa E=>?_;refine IF 0 E I (λaj a E=>?_) λaj a E=>?_
 ·
  refine RT 3 E I ?_;exact⟨rfl,Tree.same ad c xs I h1 hw⟩
 refine RN 8 E I λa E=>?_;refine aO (λμ a w=>∃ k:Nat,(μ=j-k∧k≤j)∧Fr a 101 [(1,.int .i64 frm),(3,.slice ad2 p.length c2),(36,.slice ad T.l.length c),(37,.int .i64 T.l.length),(38,.int .i64 k)]∧U W w (aa tq 236 [pt sq,.int .i64 T.most,.slice ad T.l.length c,.int .i64 T.last,.int .i64 T.epoch]::Sl 238 5 ad T.l.length c (rows c5 xs)::ah bZ xs::L)) (j) (⟨0,⟨by simp,by simp⟩,E.ab [1,3,36,37,38],I.sub⟩) ?_;clear E I;rintro μ a w ⟨k,⟨rfl,hk⟩,E,I⟩;refine RN 3 E I λa E=>?_;rw[dg (by omega)]at E;refine RN 3 E I λa E=>?_;obtain⟨b',dB,rfl,c4⟩:=I.bV ad (by omega);obtain⟨⟨x,eD,c8⟩,dT⟩:∃ y,xs[k]?=some y:=⟨_,aE (by omega)⟩;have fO:=n3 c4 dT;have jg:T.l[k]?=some x:=by rw[← h1,bm,dT];rfl
 have ku:=(hw.ok x (bH jg)).1;have xx:k=j→x=y:=λe=>by rw[e,hy]at jg;cases jg;rfl
 refine RN 1 E I λa E=>?_;refine SS E (bS E underlying238 rfl Ty.t238 (fO)) λa E=>?_;refine AL 0 E I λiB a w E I=>?_;refine SA 0 E I λa w E I=>?_;refine BY 6 E I (λdz a E=>?_) λdz a E=>?_
 ·
  refine BY 8 E I (λhY a E=>?_) λhY a E=>?_
  ·
   refine RN 3 E I λa E=>?_;have fE:=ah.pc (I.pick (ah bZ xs)) dT;refine CL 0 E I (Dc (u:=x.al) (v:=p) I fE.1 (hp _ I.sub) fE.2 hc (by have:=ku.1;omega)) λa w E I=>?_;refine IF 1 E I (λay a E=>?_) λay a E=>?_
   ·
    refine RT 3 E I ?_;exact⟨rfl,Tree.same (some ⟨b',dB,none⟩) c xs I h1 hw⟩
   have bD : k ≠ j := fun e => by
       have zO:x.al=p:=by rw[xx e];exact vz.2
       rw[(I2 (by rw[zO])).2 zO]at ay;cases ay
   refine RN 2 E I λa E=>?_;exact⟨j-(k+1),by omega,k+1,⟨rfl,by omega⟩,E.ab [1,3,36,37,38],I.sub⟩
  have bD:k≠j:=λe=>hY (by rw[xx e,vz.2]);refine RN 3 E I λa E=>?_;have fE:=ah.pc (I.pick (ah bZ xs)) dT;refine RN 5 E I λa E=>?_;exact⟨j-(k+1),by omega,k+1,⟨rfl,by omega⟩,E.ab [1,3,36,37,38],I.sub⟩
 have bD:k≠j:=λe=>dz (by rw[xx e];exact vz.1);refine RN 11 E I λa E=>?_;have fE:=ah.pc (I.pick (ah bZ xs)) dT;refine RN 5 E I λa E=>?_;exact⟨j-(k+1),by omega,k+1,⟨rfl,by omega⟩,E.ab [1,3,36,37,38],I.sub⟩
theorem WT.add {frm:Int}{sn:Nat}(h:WT T)(h1:T.l.length<T.most)(h2:T.last+1<1099511627776)(dj:nA p):WT (T.add frm p sn):=by
 obtain⟨de,dG,a3,a4,a5⟩:=h;refine⟨⟨de.1,by simp[Tr.add];omega⟩,h2,a3,?_,λx hx=>?_⟩
 ·simp only[Tr.add,cW,map_cons,map_nil];refine List.pairwise_append.2 ⟨a4,by simp,λu hu v hv=>?_⟩;obtain⟨x,hx,rfl⟩:=cV.1 hu;have:=(a5 x hx).2.2.2;simp at hv;omega
 ·simp only[Tr.add]at hx ⊢;rcases eP.1 hx with hx | hx
  ·obtain⟨b1,b2,b3,b4⟩:=a5 x hx;exact⟨b1,b2,b3,by omega⟩
  ·simp at hx;subst hx;exact⟨dj,Nat.zero_le _,by simp,a7 _⟩
theorem UP {frm:Int}{ad2:Option Addr}{c2 i:Nat}{zs:List dY}{px:aC}(I:U W w (Tree tq sq T::ax sq r A::L))(hr:∀ w',U W w' L→hU w' ad2 zs)(hz:zs.map (·.2.2)=p)(hc:p.length≤c2)(dj:nA p)
   (hx:A.ar[i]?=some px) (hb:A.n+1<1099511627776) (hl:T.last+1<1099511627776) (bR:∀ y∈T.l,¬ y.is frm p) (hm:T.l.length<T.most) (h0:0<p.length) :
   Calls prog 306 #[pt tq,.int .i64 frm,.int .i64 px.id,.slice ad2 p.length c2] w λe w'=>e=.returned (.tuple #[.int .i64 ((T.last+1:Nat):Int),.bool true])∧U W w' (Tree tq sq (T.add frm p (A.last+1))::ax sq r (A.add px.g px.p)::L):=by
 obtain⟨ad,c,xs,h1,hw,I⟩:=Tree.open I;have bW:xs.length=T.l.length:=by rw[← h1,bd]
 have hT:=hw.most;have hp:∀ w',U W w' L→kL w' ad2 p.length p:=λw' h=>by
  have:=(hr w' h).bb;rw[hz]at this
  rwa [show zs.length=p.length from by rw[← hz,bd]]at this
 refine EN func306 ntmps306 rfl rfl λa E=>?_;refine bQ 5 [11] [0,1,2,3,4,5,8,9,10,3006,7,1011,12,13,14,15,16,17,18] E I λa w E I hH hC=>?_;refine RH 3 E I hH hC λa E=>?_;replace E:=E.aM 16;refine RH 12 E I hH hC λa E=>?_;rw[bq (by omega)]at E;refine RH 4 E I hH hC λa E=>?_;rw[bq (by omega)]at E;refine RN 9 E I λa E=>?_;refine aO (λμ a w=>∃ k:Nat,(μ=T.l.length-k∧k≤T.l.length)∧Fr a 101 [(0,pt tq),(1,.int .i64 frm),(2,.int .i64 px.id),(3,.slice ad2 p.length c2),(36,.slice ad T.l.length c),(37,.int .i64 T.l.length),(38,.int .i64 k)]∧U W w (aa tq 236 [pt sq,.int .i64 T.most,.slice ad T.l.length c,.int .i64 T.last,.int .i64 T.epoch]::Sl 238 5 ad T.l.length c (rows c5 xs)::ah bZ xs::ax sq r A::L)) (T.l.length) (⟨0,⟨by simp,by simp⟩,E.ab [0,1,2,3,36,37,38],I.sub⟩) ?_;clear E I;rintro μ a w ⟨k,⟨rfl,hk⟩,E,I⟩;refine IF 3 E I (λao a E=>?_) λao a E=>?_
 ·
  refine RN 2 E I λa E=>?_;obtain⟨b',dB,rfl,c4⟩:=I.bV ad (by omega);obtain⟨⟨x,eD,c8⟩,dT⟩:∃ y,xs[k]?=some y:=⟨_,aE (by omega)⟩;have fO:=n3 c4 dT;have jg:T.l[k]?=some x:=by rw[← h1,bm,dT];rfl
  have eC:=bH jg;have ku:=(hw.ok x eC).1;have UQ:=bR x eC;refine RN 1 E I λa E=>?_;refine SS E (bS E underlying238 rfl Ty.t238 (fO)) λa E=>?_;refine AL 0 E I λiB a w E I=>?_;refine SA 0 E I λa w E I=>?_;refine BY 6 E I (λdz a E=>?_) λdz a E=>?_
  ·
   refine BY 8 E I (λhY a E=>?_) λhY a E=>?_
   ·
    refine RN 3 E I λa E=>?_;have fE:=ah.pc (I.pick (ah bZ xs)) dT;refine CL 0 E I (Dc (u:=x.al) (v:=p) I fE.1 (hp _ I.sub) fE.2 hc (by have:=ku.1;omega)) λa w E I=>?_;refine IF 1 E I (λay a E=>?_) λay a E=>?_
    ·
     (try simp only at hY);exact absurd ⟨by omega,(I2 (by omega)).1 ay⟩ UQ
    refine RN 2 E I λa E=>?_;exact⟨T.l.length-(k+1),by omega,k+1,⟨rfl,by omega⟩,E.ab [0,1,2,3,36,37,38],I.sub⟩
   refine RN 3 E I λa E=>?_;have fE:=ah.pc (I.pick (ah bZ xs)) dT;refine RN 5 E I λa E=>?_;exact⟨T.l.length-(k+1),by omega,k+1,⟨rfl,by omega⟩,E.ab [0,1,2,3,36,37,38],I.sub⟩
  refine RN 11 E I λa E=>?_;have fE:=ah.pc (I.pick (ah bZ xs)) dT;refine RN 5 E I λa E=>?_;exact⟨T.l.length-(k+1),by omega,k+1,⟨rfl,by omega⟩,E.ab [0,1,2,3,36,37,38],I.sub⟩
 refine CL 6 E I (IL (I.pick (ax sq r A)) hx hb) λa w E I=>?_;refine RN 9 E I λa E=>?_;replace E:=E.aM 71;refine ST 9 E I (λa w E I=>?_);rw[show ((T.last:Int)+1)=((T.last+1:Nat):Int) from rfl]at I;refine aV 1 (λw0 w'=>w'.cell? ⟨tq,2,none⟩=some (.slice ad T.l.length c)∧w'.cell? ⟨tq,3,none⟩=some (.int .i64 ((T.last+1:Nat):Int))) [8,11,13,14] [0,1,2,3,5,6,7,9,10,12,3004,3008,1011,1013,1014,1015,16,17,1018] E I λa w E I hH=>?_;have hC:=hH.at w ⟨I.bz rfl,I.bz rfl⟩;refine RH 10 E I hH hC λa E=>?_;refine QH E (λw hc=>ae E (hc.1)) hC λa E=>?_;refine QH E (λw hc=>ae E (hc.2)) hC λa E=>?_;refine RH 0 E I hH hC λa E=>?_;refine aY 0 E I (IU I (λw' h=>hr w' h.sub) (by rw[← hz,bd]) (by rw[hz];exact dj)) λmh hG a w E I=>?_;replace hC:=hH.at w ⟨I.bz rfl,I.bz rfl⟩;refine RH 1 E I hH hC λa E=>?_;refine cr E rfl I underlying168 Ty.t238 rfl rfl rfl rfl (by decide) (by decide) λb93 a w E I ho=>?_;clear ho;replace hC:=hH.at w ⟨I.bz rfl,I.bz rfl⟩;refine RH 0 E I hH hC λa E=>?_;refine cK E rfl I underlying168 Ty.t238 rfl rfl I.ai rfl (by simp[Value.oneCell']) (by decide) (by decide) (by omega) λxy xz a w E I=>?_;refine ST 2 E I (λa w E I=>?_);refine RT 7 E I ?_;refine⟨rfl,?_⟩;rw[hz]at I;have h8:=U.jM (f:=bZ) (l:=xs) (x:=(⟨T.last+1,frm,p,0,A.last+1⟩,mh,hG)) (I.sub (M:=cg mh p.length hG p::ah bZ xs::aa tq 236 [pt sq,.int .i64 T.most,.slice xy (T.l.length+1) xz,.int .i64 ((T.last+1:Nat):Int),.int .i64 T.epoch]::Sl 238 5 xy (T.l.length+1) xz (rows c5 xs++[[.int .i64 ((T.last+1:Nat):Int),.int .i64 frm,.slice mh p.length hG,.int .i64 0,.int .i64 ((A.last+1:Nat):Int)]].flatten)::ax sq r (A.add px.g px.p)::L));have h9:U W w (ah bZ (xs++[(⟨T.last+1,frm,p,0,A.last+1⟩,mh,hG)])::aa tq 236 [pt sq,.int .i64 T.most,.slice xy (T.l.length+1) xz,.int .i64 ((T.last+1:Nat):Int),.int .i64 T.epoch]::Sl 238 5 xy (T.l.length+1) xz (rows c5 (xs++[(⟨T.last+1,frm,p,0,A.last+1⟩,mh,hG)]))::ax sq r (A.add px.g px.p)::L):=by
  rw[← Dg];exact h8
 exact Tree.close (T:=T.add frm p (A.last+1)) (ad:=xy) (c:=xz) (xs:=xs++[(⟨T.last+1,frm,p,0,A.last+1⟩,mh,hG)]) (n:=T.l.length+1) (most:=T.most) (last:=T.last+1) (epoch:=T.epoch) h9 (by simp[Tr.add,h1]) (hw.add hm hl dj) rfl (by simp[Tr.add]) rfl rfl
def Tr.iC (T:Tr)(k:Nat)(x:Br)(done snap:Nat):Tr:={ T with l:=T.l.set k { x with done:=done,snap:=snap } }
theorem WT.iC {d sn:Nat}(h:WT T)(hx:T.l[k]?=some x)(hd:d≤x.al.length):WT (T.iC k x d sn):=by
 obtain⟨de,dG,a3,a4,a5⟩:=h;obtain⟨hi,rfl⟩:=a2.1 hx;refine⟨⟨de.1,by simp[Tr.iC];exact de.2⟩,dG,a3,?_,λy hy=>?_⟩
 ·have : (T.l.set k { T.l[k] with done := d, snap := sn }).map (·.id) = T.l.map (·.id) := by
   apply ext_getElem?;intro j;simp only[bm,jL];by_cases hj:k=j
   ·subst hj;simp[hi]
   ·rw[ag hj]
  simp only[Tr.iC];rw[this];exact a4
 ·simp only[Tr.iC]at hy ⊢;rcases mem_or_eq_of_mem_set hy with hy | rfl
  ·exact a5 y hy
  ·obtain⟨b1,b2,b3,b4⟩:=a5 _ (getElem_mem hi);exact⟨b1,hd,b3,b4⟩
theorem WT.unique (hw:WT T){j:Nat}{y:Br}(hx:T.l[k]?=some x)(hy:T.l[j]?=some y)(he:y.id=x.id):j=k:=by
 have hp:=List.pairwise_iff_getElem.1 hw.ids;obtain⟨hj,rfl⟩:=a2.1 hy;obtain⟨hk,rfl⟩:=a2.1 hx;rcases Nat.lt_trichotomy j k with hl | hl | hl
 ·have:=hp j k (by simpa using hj) (by simpa using hk) hl;simp at this;omega
 ·exact hl
 ·have:=hp k j (by simpa using hk) (by simpa using hj) hl;simp at this;omega
theorem I4 (I:U W w (Tree tq sq T::L))(hx:T.l[k]?=some x) :
   Calls prog 183 #[pt tq,.int .i64 x.id] w λe w'=>e=.returned (.int .i64 k)∧U W w' (Tree tq sq T::L):=by
 refine (Df (id:=(x.id:Int)) I).mono λe w' ⟨r,h1,h2,h3⟩=>⟨?_,h3⟩;rcases h2 with ⟨_,h4⟩ | ⟨j,y,h4,h5,h6⟩
 ·exact absurd rfl (h4 x (bH hx))
 ·rw[h1,h4,(Tree.wt h3).unique hx h5 (by omega)]
theorem UR {i:Nat}{px:aC}{d sn:Int}(I:U W w (Tree tq sq T::ax sq r A::L))(hx:T.l[k]?=some x)(bR:d≤x.done∨(x.al.length:Int)<d∨∀ y∈A.ar,(y.id:Int)≠sn) :
   Calls prog 186 #[pt tq,.int .i64 x.id,.int .i64 d,.int .i64 sn] w λe w'=>e=.returned (.bool false)∧U W w' (Tree tq sq T::ax sq r A::L):=by
 have dM:=(a2.1 hx).1;refine EN func186 ntmps186 rfl rfl λa E=>?_;refine CL 5 E I (I4 I hx) λa w E I=>?_;refine RN 3 E I λa E=>?_;obtain⟨ad,c,xs,h1,hw,I⟩:=Tree.open (I.tree tq);obtain⟨eD,c8,dT⟩:=Db h1 hx;obtain⟨b',dB,rfl,c4⟩:=I.tail.bV ad (by omega);have fO:=n3 c4 dT;have vd:=fO 3 _ rfl;have jT:=fO 2 _ rfl;refine RN 3 E I λa E=>?_;rw[bq (by omega)]at E;refine RN 8 E I λa E=>?_;refine bo E (b7 E rfl (s:=15)) (ae E (vd)) rfl λa E=>?_;refine BY 3 E I (λkP a E=>?_) λkP a E=>?_
 ·
  skip
  refine RT 24 E I ?_;exact⟨rfl,Tree.same (L':=ax sq r A::L) (some ⟨b',dB,none⟩) c xs I h1 hw⟩
 refine RN 8 E I λa E=>?_;refine bo E (b7 E rfl (s:=27)) (ae E (jT)) rfl λa E=>?_;refine BY 4 E I (λUS a E=>?_) λUS a E=>?_
 ·
  refine RT 11 E I ?_;exact⟨rfl,Tree.same (L':=ax sq r A::L) (some ⟨b',dB,none⟩) c xs I h1 hw⟩
 refine CL 5 E I (Ug (I.pick (ax sq r A)) (by rcases bR with h | h | h;omega;omega;exact h)) λa w E I=>?_;refine RN 2 E I λa E=>?_;replace E:=E.eh 48;refine RT 3 E I ?_;exact⟨rfl,Tree.same (L':=ax sq r A::L) (some ⟨b',dB,none⟩) c xs I h1 hw⟩
end
end
section
def Sn.et (A:Sn)(id:Nat):Sn:=match A.ar.findIdx? (λx=>x.id==id) with
 | some i=>match A.ar[i]? with
  | some x=>A.drop i x
  | none=>A
 | none=>A
section
variable {W w:World}{L R:List SP}{tq sq q r n c k:Nat}{ad:Option Addr}{A:Sn}{T:Tr}{x y:Br}{xs:List Bx}{p:List (List UInt8)}
theorem Dh {id:Nat}(h:∀ y∈A.ar,y.id≠id):A.et id=A:=by
 have:A.ar.findIdx? (λx=>x.id==id)=none:=by rw[List.findIdx?_eq_none_iff];intro y hy;simpa using h y hy
 rw[Sn.et,this]
theorem xA {i:Nat}{px:aC}(hw:WF A)(hx:A.ar[i]?=some px):A.et px.id=A.drop i px:=by
 obtain⟨hi,he⟩:=a2.1 hx;have:A.ar.findIdx? (λx=>x.id==px.id)=some i:=by
  rw[List.findIdx?_eq_some_iff_getElem];refine⟨hi,by simp[he],λj hj=>?_⟩;have ei:j<A.ar.length:=by omega
  simp only[Bool.not_eq_true,lI,ne_eq];intro e;have:=hw.ids (aE ei) hx e;omega
 rw[Sn.et,this];simp only[hx]
theorem zP {id:Nat}(I:U W w (ax q r A::L)) :
   Calls prog 185 #[pt q,.int .i64 id] w λe w'=>∃ v,e=.returned (.bool v)∧U W w' (ax q r (A.et id)::L):=by
 by_cases h:∃ px∈A.ar,px.id=id
 ·obtain⟨px,h1,rfl⟩:=h;obtain⟨i,hi⟩:=jS.1 h1;have hw:=(ax.open I);obtain⟨_,_,_,_,_,hw,_,_⟩:=hw;refine (Um I hi).mono λe w' ⟨h2,h3⟩=>⟨_,h2,?_⟩;rw[xA hw hi];exact h3
 ·have hn:∀ y∈A.ar,y.id≠id:=λy hy e=>h ⟨y,hy,e⟩;refine (Un (X:=(id:Int)) I (λy hy e=>hn y hy (by omega))).mono λe w' ⟨h2,h3⟩=>⟨_,h2,?_⟩;rw[Dh hn];exact h3
theorem I5 {p q r:List Value}{i:Nat}{v:Value}(h:i<q.length):(p++q++r).set (p.length+i) v=p++q.set i v++r:=by
 rw[ds,set_append_right _ _ (by omega),show p.length+i-p.length=i from by omega,set_append_left _ _ h,ds]
theorem UT {i d:Nat}{px:aC}(I:U W w (Tree tq sq T::ax sq r A::L))(hx:T.l[k]?=some x)(hd:x.done<d)(jh:d≤x.al.length)(hp:A.ar[i]?=some px) :
   Calls prog 186 #[pt tq,.int .i64 x.id,.int .i64 d,.int .i64 px.id] w λe w'=>e=.returned (.bool true)∧U W w' (Tree tq sq (T.iC k x d px.id)::ax sq r (A.et x.snap)::L):=by
 have dM:=(a2.1 hx).1;have a6:1≤px.refs:=by
  obtain⟨_,_,_,_,_,hw,_,_⟩:=ax.open (I.pick (ax sq r A));exact (hw.mg px (bH hp)).2.2.1
 refine EN func186 ntmps186 rfl rfl λa E=>?_;refine CL 5 E I (I4 I hx) λa w E I=>?_;refine RN 3 E I λa E=>?_;obtain⟨ad,c,xs,h1,hw,I⟩:=Tree.open (I.tree tq);obtain⟨eD,c8,dT⟩:=Db h1 hx;obtain⟨b',dB,rfl,c4⟩:=I.tail.bV ad (by omega);have fO:=n3 c4 dT;have vd:=fO 3 _ rfl;have jT:=fO 2 _ rfl;refine RN 3 E I λa E=>?_;rw[bq (by omega)]at E;refine RN 8 E I λa E=>?_;refine bo E (b7 E rfl (s:=15)) (ae E (vd)) rfl λa E=>?_;refine RN 3 E I λa E=>?_;rw[bq (by omega)]at E;refine RN 8 E I λa E=>?_;refine bo E (b7 E rfl (s:=27)) (ae E (jT)) rfl λa E=>?_;refine RN 4 E I λa E=>?_;rw[bq (by omega)]at E;refine CL 5 E I (Uf (I.pick (ax sq r A)) hp) λa w E I=>?_;refine RN 2 E I λa E=>?_;rw[bq (by omega)]at E;refine RN 2 E I λa E=>?_;have UU:=I.cJ (n:=T.l.length) b' dB (by omega);have I6:w.drew.cell? ⟨b',dB+k*5+4,none⟩=some (.int .i64 x.snap):=n3 UU dT 4 _ rfl;refine qU 0 (Old w.drew) [7,9,10,11] [0,1,2,4,5,6,8,3003,1007,1009,1010,1011,1012] E I λa E=>?_;replace I:=I.drew;have hH:=Hd.gy I;have hC:=Old.refl w.drew;generalize w.drew=w at I hH hC I6 ⊢;refine RH 11 E I hH hC λa E=>?_;refine SS E (ae E (I6)) λa E=>?_;refine RH 0 E I hH hC λa E=>?_;refine bh 0 E I (zP (id:=x.snap) (I.pick (ax sq r A))) λ_ a w E I=>?_;refine RN 1 E I λa E=>?_;obtain⟨bb,pre,post,⟨h3,h4,h5,h6⟩,gB⟩:=(I.pick (Sl 238 5 (some ⟨b',dB,none⟩) T.l.length c (rows c5 xs))).lG (by have:=(I.sl (some ⟨b',dB,none⟩)).2;omega);cases h5;replace I:=gB;clear gB;have bW:xs.length=T.l.length:=by rw[← h1,bd]
 have tQ:k<xs.length:=by omega
 have gX:xs[k]=(x,eD,c8):=(a2.1 dT).2;have gl:(rows c5 xs).length=xs.length*5:=ja sy xs;refine bQ 0 [8] [0,1,2,4,5,6,7,9,10,11,3003,1008,12,13,1014,15,16,1017] E I λa w E I hH hC=>?_;refine RH 14 E I hH hC λa E=>?_;refine ST 0 E I (λa w E I=>?_) (hlt:=(by simp only[aL];omega));rw[show pre.length+k*5+3=pre.length+(k*5+3) from by omega,I5 (by omega),p7 sy xs ({ x with done:=d },eD,c8) tQ (by decide) (by rw[gX];rfl)]at I;refine ST 2 E I (λa w E I=>?_) (hlt:=(by simp only[aL,ja sy,bu];omega));rw[show pre.length+k*5+4=pre.length+(k*5+4) from by omega,I5 (by simp only[ja sy,bu];omega),p7 sy _ ({ x with done:=d,snap:=px.id },eD,c8) (by rw[bu];exact tQ) (by decide) (by rw[getElem_set_self];rfl),set_set]at I;refine RT 2 E I ?_;refine⟨rfl,?_⟩;have h7:=U.iM (n:=T.l.length) (c:=c) (sz:=5) (cs:=rows c5 (xs.set k ({ x with done:=d,snap:=px.id },eD,c8))) (I.jJ b') (by rw[ja sy,bu,bW]) h4 h6;have h8:=(h7.pick (ah bZ xs)).fu tQ;rw[gX]at h8;have h9:U W w (bZ ({ x with done:=d,snap:=px.id },eD,c8)::ah bZ (xs.eraseIdx k)::_):=h8;have eI:=U.kI tQ h9;exact Tree.close (T:=T.iC k x d px.id) (ad:=some ⟨b',pre.length,none⟩) (c:=c) (xs:=xs.set k ({ x with done:=d,snap:=px.id },eD,c8)) (n:=T.l.length) (most:=T.most) (last:=T.last) (epoch:=T.epoch) eI (by rw[List.map_set,h1];rfl) (hw.iC hx jh) rfl (by simp[Tr.iC]) rfl rfl
def hZ (frm:Int)(p:List (List UInt8))(b:Br)(x:Br):Br:=if x.frm=frm∧b.done<x.done∧x.done≤p.length∧pd (x.al.take x.done) p=true then x else b
def mi:Br:=⟨0,0,[],0,0⟩
def Tr.fF (T:Tr)(frm:Int)(p:List (List UInt8)):Br:=T.l.foldl (hZ frm p) mi
theorem UW {l:List Br}{frm:Int}(h:l[k]?=some x):(l.take (k+1)).foldl (hZ frm p) mi=hZ frm p ((l.take k).foldl (hZ frm p) mi) x:=by
 obtain⟨hk,rfl⟩:=a2.1 h;rw[jd hk,foldl_append];rfl
theorem I7 {frm:Int}{ad2:Option Addr}{c2:Nat}(I:U W w (Tree tq sq T::L))(hp:∀ w',U W w' L→kL w' ad2 p.length p)(hc:p.length≤c2)(dj:nA p) :
   Calls prog 279 #[pt tq,.int .i64 frm,.slice ad2 p.length c2] w λe w'=>∃ ad c,e=.returned (.tuple #[.agg (ch (T.fF frm p) ad c).toArray,.bool (decide (0<(T.fF frm p).done))])∧U W w' (Tree tq sq T::L):=by
 have hw:=Tree.wt I;have hT:=hw.most;refine EN func279 ntmps279 rfl rfl λa E=>?_;refine AL 1 E I λcH a w E I=>?_;change U W w (aa cH 238 (ch mi none 0)::_) at I;refine AL 3 E I λb8 a w E I=>?_;refine SA 0 E I λa w E I=>?_;change U W w (aa b8 238 (ch ((T.l.take 0).foldl (hZ frm p) mi) none 0)::_) at I;refine aY 3 E I (zN (I.tree tq)) λad c a w E I=>?_;obtain⟨xs,h1,h2,I⟩:=kO.open I;have bW:xs.length=T.l.length:=by rw[← h1,bd]
 refine RN 2 E I λa E=>?_;refine aO (λμ a w=>∃ (k:Nat) (dU:Option Addr) (cb:Nat),(μ=T.l.length-k∧k≤T.l.length)∧Fr a 52 [(1,.int .i64 frm),(2,.slice ad2 p.length c2),(6,pt cH),(8,pt b8),(13,.slice ad T.l.length c),(14,.int .i64 T.l.length),(15,.int .i64 k)]∧U W w (aa b8 238 (ch ((T.l.take k).foldl (hZ frm p) mi) dU cb)::Sl 238 5 ad T.l.length c (rows c5 xs)::ah bZ xs::Tree tq sq T::aa cH 238 (ch mi none 0)::L)) (T.l.length) (⟨0,none,0,⟨by simp,by simp⟩,E.ab [1,2,6,8,13,14,15],I.sub⟩) ?_;clear E I;rintro μ a w ⟨k,dU,cb,⟨rfl,hk⟩,E,I⟩;refine IF 3 E I (λaj a E=>?_) λaj a E=>?_
 ·
  refine RN 2 E I λa E=>?_;obtain⟨b',dB,rfl,c4⟩:=I.bV ad (by omega);obtain⟨⟨x,eD,c8⟩,dT⟩:∃ y,xs[k]?=some y:=⟨_,aE (by omega)⟩;have fO:=n3 c4 dT;have jg:T.l[k]?=some x:=by rw[← h1,bm,dT];rfl
  have ku:=hw.ok x (bH jg);have qe:=UW (frm:=frm) (p:=p) jg;obtain⟨B,hB⟩:∃ B,(T.l.take k).foldl (hZ frm p) mi=B:=⟨_,rfl⟩;rw[hB]at I qe;refine RN 1 E I λa E=>?_;refine SS E (bS E underlying238 rfl Ty.t238 (fO)) λa E=>?_;refine AL 0 E I λkr a w E I=>?_;refine SA 0 E I λa w E I=>?_;refine BY 6 E I (λdz a E=>?_) λdz a E=>?_
  ·
   refine BY 7 E I (λkQ a E=>?_) λkQ a E=>?_
   ·
    refine BY 7 E I (λtR a E=>?_) λtR a E=>?_
    ·
     refine RN 4 E I λa E=>?_;have fE:=ah.pc (I.pick (ah bZ xs)) dT;have xB:=ku.2.1;refine RN 1 E I λa E=>?_;rw[qV,Nat.sub_zero,Nat.sub_zero]at E;rw[show Value.slice eD x.done c8=Value.slice eD (x.al.take x.done).length c8 from by rw[ep,Nat.min_eq_left xB]]at E;refine CL 1 E I (Dc (u:=x.al.take x.done) (v:=p) (ad:=eD) (c:=c8) I (by
      have:=fE.1.take xB
      rwa [show (x.al.take x.done).length=x.done from by rw[ep];omega]) (hp _ I.sub) (by rw[ep];omega) hc (by rw[ep];have:=ku.1.1;omega)) λa w E I=>?_
     refine IF 1 E I (λao a E=>?_) λao a E=>?_
     ·
      have q0:hZ frm p B x=x:=ak ⟨by omega,by omega,by omega,ao⟩;refine SA 1 E I λa w E I=>?_;refine RN 2 E I λa E=>?_;exact⟨T.l.length-(k+1),by omega,k+1,_,_,⟨rfl,by omega⟩,E.ab [1,2,6,8,13,14,15],by rw[qe,q0];exact I.sub (M:=aa b8 238 (ch x eD c8)::Sl 238 5 (some ⟨b',dB,none⟩) T.l.length c (rows c5 xs)::ah bZ xs::Tree tq sq T::aa cH 238 (ch mi none 0)::L)⟩
     have q0:hZ frm p B x=B:=ag (λh=>by rw[h.2.2.2]at ao;cases ao);refine RN 2 E I λa E=>?_;exact⟨T.l.length-(k+1),by omega,k+1,_,_,⟨rfl,by omega⟩,E.ab [1,2,6,8,13,14,15],by rw[qe,q0];exact I.sub (M:=aa b8 238 (ch B dU cb)::Sl 238 5 (some ⟨b',dB,none⟩) T.l.length c (rows c5 xs)::ah bZ xs::Tree tq sq T::aa cH 238 (ch mi none 0)::L)⟩
    have q0:hZ frm p B x=B:=ag (by omega);refine RN 4 E I λa E=>?_;have fE:=ah.pc (I.pick (ah bZ xs)) dT;have xB:=ku.2.1;refine RN 7 E I λa E=>?_;exact⟨T.l.length-(k+1),by omega,k+1,_,_,⟨rfl,by omega⟩,E.ab [1,2,6,8,13,14,15],by rw[qe,q0];exact I.sub (M:=aa b8 238 (ch B dU cb)::Sl 238 5 (some ⟨b',dB,none⟩) T.l.length c (rows c5 xs)::ah bZ xs::Tree tq sq T::aa cH 238 (ch mi none 0)::L)⟩
   have q0:hZ frm p B x=B:=ag (by omega);refine RN 11 E I λa E=>?_;have fE:=ah.pc (I.pick (ah bZ xs)) dT;have xB:=ku.2.1;refine RN 7 E I λa E=>?_;exact⟨T.l.length-(k+1),by omega,k+1,_,_,⟨rfl,by omega⟩,E.ab [1,2,6,8,13,14,15],by rw[qe,q0];exact I.sub (M:=aa b8 238 (ch B dU cb)::Sl 238 5 (some ⟨b',dB,none⟩) T.l.length c (rows c5 xs)::ah bZ xs::Tree tq sq T::aa cH 238 (ch mi none 0)::L)⟩
  have q0:hZ frm p B x=B:=ag (by omega);refine RN 18 E I λa E=>?_;have fE:=ah.pc (I.pick (ah bZ xs)) dT;have xB:=ku.2.1;refine RN 7 E I λa E=>?_;exact⟨T.l.length-(k+1),by omega,k+1,_,_,⟨rfl,by omega⟩,E.ab [1,2,6,8,13,14,15],by rw[qe,q0];exact I.sub (M:=aa b8 238 (ch B dU cb)::Sl 238 5 (some ⟨b',dB,none⟩) T.l.length c (rows c5 xs)::ah bZ xs::Tree tq sq T::aa cH 238 (ch mi none 0)::L)⟩
 refine RN 1 E I λa E=>?_;obtain rfl:k=T.l.length:=by omega
 rw[take_length]at I;rw[show T.l.foldl (hZ frm p) mi=T.fF frm p from rfl]at I;refine aV 0 (λw0 w'=>Rd w' b8 0 (ch (T.fF frm p) dU cb)) [2,3,4] [1,3000,3002,3003,1004,5] E I λa w E I hH=>?_;have hC:=hH.at w I.ai;refine RH 1 E I hH hC λa E=>?_;refine QH E (λw hc=>bS E underlying238 rfl Ty.t238 (hc)) hC λa E=>?_;refine QH E (λw hc=>ae E (hc 3 _ rfl)) hC λa E=>?_;refine RH 1 E I hH hC λa E=>?_;refine SA 0 E I λa w E I=>?_;replace hC:=hH.at w I.ai;refine RH 1 E I hH hC λa E=>?_;refine RT 0 E I ?_;refine⟨dU,cb,?_,I.sub⟩;rw[show decide ((0:Int)<((T.fF frm p).done:Int))=decide (0<(T.fF frm p).done) from by rw[decide_eq_decide];omega]
def Tr.cut (T:Tr)(wh:Br→Bool):Tr:={ T with l:=T.l.filter (λx=>!wh x),epoch:=T.epoch+if (T.l.filter (λx=>!wh x)).length<T.l.length then 1 else 0 }
def Sn.gQ (A:Sn)(l:List Br):Sn:=l.foldl (λA x=>A.et x.snap) A
theorem UX {A:Sn}{l:List Br}{wh:Br→Bool}(h:l[k]?=some x):A.gQ ((l.take (k+1)).filter wh)=if wh x=true then (A.gQ ((l.take k).filter wh)).et x.snap else A.gQ ((l.take k).filter wh):=by
 obtain⟨hk,rfl⟩:=a2.1 h;rw[jd hk,List.filter_append];by_cases hw:wh l[k]=true
 ·rw[ak hw,Sn.gQ,foldl_append];simp[hw,Sn.gQ]
 ·rw[ag hw];simp[hw]
theorem UY {α:Type}{l:List α}{f:α→Bool}{z:α}(h:l[k]?=some z):(l.take (k+1)).filter f=(l.take k).filter f++if f z=true then [z] else []:=by
 obtain⟨hk,rfl⟩:=a2.1 h;rw[jd hk,List.filter_append];by_cases hw:f l[k]=true <;> simp[hw]
theorem UZ (xs:List Bx)(f:Br→Bool):(xs.filter (λz=>f z.1)).map (·.1)=(xs.map (·.1)).filter f:=by
 induction xs with
 | nil=>rfl
 | cons z xs ih =>
  by_cases h:f z.1=true <;> simp[h]at ih ⊢ <;> exact ih
theorem WT.cut (h:WT T)(he:T.epoch+1<1099511627776)(wh:Br→Bool):WT (T.cut wh):=by
 obtain⟨de,dG,a3,a4,a5⟩:=h;refine⟨⟨de.1,?_⟩,dG,?_,?_,λy hy=>?_⟩
 ·simp only[Tr.cut];exact ft (length_filter_le _ _) de.2
 ·simp only[Tr.cut];split <;> omega
 ·simp only[Tr.cut];exact a4.sublist (List.Sublist.map _ List.filter_sublist)
 ·simp only[Tr.cut]at hy ⊢;exact a5 y (List.mem_filter.1 hy).1
class Tl (M L:List SP):Prop where h:∃ K,M.Perm (K++L)
instance Tl.self {L:List SP}:Tl L L:=⟨[],List.Perm.refl _⟩
instance (priority:=low) Tl.cons {A:SP}{M L:List SP}[t:Tl M L]:Tl (A::M) L:=⟨let ⟨K,h⟩:=t.h;⟨A::K,h.cons A⟩⟩
theorem U.U1 {M:List SP}(I:U W w M)(t:Tl M L):U W w L:=let ⟨_,h⟩:=t.h;(I.perm h).drop
def vA (W:World)(N:List SP)(ad:Option Addr)(P:List (List UInt8)):Prop:=∃ zs:List dY,zs.map (·.2.2)=P∧∀ w',U W w' N→hU w' ad zs
set_option maxHeartbeats 1000000 in
theorem I8 {wh:Br→Bool}{f:Nat}{us:List Value}(I:U W w (Tree tq sq T::ax sq r A::L))(he:T.epoch+1<1099511627776)(cp:g9 prog f=true)
   (hf:∀ (M:List SP) (w':World) (x:Br) (av:Option Addr) (c':Nat),x∈T.l→U W w' M→Tl M L→vA W M av x.al→x.al.length≤c'→nA x.al →
    Calls prog f (List.toArray (.agg (ch x av c').toArray::us)) w' λe nB=>e=.returned (.bool (wh x))∧U W nB M) :
   Calls prog 303 #[pt tq,.func (.func f) #[] (List.toArray us)] w λe w'=>e=.returned (.int .i64 ((T.l.length-(T.l.filter (λx=>!wh x)).length:Nat):Int)) ∧
    U W w' (Tree tq sq (T.cut wh)::ax sq r (A.gQ (T.l.filter wh))::L):=by
 obtain⟨ad,c,xs,h1,hw,I⟩:=Tree.open I;have bW:xs.length=T.l.length:=by rw[← h1,bd]
 have hT:=hw.most;have dZ:=length_filter_le (λx=>!wh x) T.l;refine EN func303 ntmps303 rfl rfl λa E=>?_;refine RN 6 E I λa E=>?_;replace E:=E.aM 10;refine RN 10 E I λa E=>?_;replace I:U W w (Sl 238 5 none 0 0 (rows c5 ((xs.take 0).filter (λz:Bx=>!wh z.1)))::ah bZ ((xs.take 0).filter (λz:Bx=>!wh z.1))::aa tq 236 [pt sq,.int .i64 T.most,.slice ad T.l.length c,.int .i64 T.last,.int .i64 T.epoch]::Sl 238 5 ad T.l.length c (rows c5 xs)::ah bZ (xs.drop 0)::ax sq r (A.gQ ((T.l.take 0).filter wh))::L):=(I.iN (f:=bZ)).bN 238 5 none;refine RN 8 E I λa E=>?_;refine aO (λμ a w=>∃ (k m:Nat) (sA:Option Addr) (oa:Nat),(μ=T.l.length-k∧k≤T.l.length∧m=((xs.take k).filter (λz=>!wh z.1)).length)∧Fr a 59 [(0,pt tq),(1,.func (.func f) #[] (List.toArray us)),(5,.int .i64 T.l.length),(6,.slice sA m oa),(19,.slice ad T.l.length c),(20,.int .i64 T.l.length),(21,.int .i64 k)]∧U W w (Sl 238 5 sA m oa (rows c5 ((xs.take k).filter (λz=>!wh z.1)))::ah bZ ((xs.take k).filter (λz=>!wh z.1))::aa tq 236 [pt sq,.int .i64 T.most,.slice ad T.l.length c,.int .i64 T.last,.int .i64 T.epoch]::Sl 238 5 ad T.l.length c (rows c5 xs)::ah bZ (xs.drop k)::ax sq r (A.gQ ((T.l.take k).filter wh))::L)) (T.l.length) (⟨0,0,none,0,⟨by simp,by simp,by simp⟩,E.ab [0,1,5,6,19,20,21],I.sub⟩) ?_;clear E I;rintro μ a w ⟨k,m,sA,oa,⟨rfl,hk,hm⟩,E,I⟩;refine IF 3 E I (λao a E=>?_) λao a E=>?_
 ·
  refine RN 2 E I λa E=>?_
  obtain ⟨b', dB, gY, c4⟩ := I.bV (n := T.l.length) (cs := rows c5 xs) (R := Sl 238 5 sA m oa (rows c5 ((xs.take k).filter (fun z => !wh z.1))) :: ah bZ ((xs.take k).filter (fun z => !wh z.1)) :: aa tq 236 [.pointer (some ⟨sq, 0, none⟩), .int .i64 T.most, .slice ad T.l.length c, .int .i64 T.last, .int .i64 T.epoch] :: ah bZ (xs.drop k) :: ax sq r (A.gQ ((T.l.take k).filter wh)) :: L) (k := ⟨by
      refine List.Perm.trans ?_ (perm_middle (l₁:=[_,_,_]));exact List.Perm.refl _⟩) ad (by omega)
  subst gY;have tQ:k<xs.length:=by omega
  obtain⟨⟨x,eD,c8⟩,dT⟩:∃ y,xs[k]?=some y:=⟨_,aE tQ⟩;have gX:xs[k]=(x,eD,c8):=(a2.1 dT).2;have fO:=n3 c4 dT;have jg:T.l[k]?=some x:=by rw[← h1,bm,dT];rfl
  have ku:=(hw.ok x (bH jg)).1;have pf:=UX (A:=A) (wh:=wh) jg;have sB:=UY (f:=λz:Bx=>!wh z.1) dT;replace I:=(I.pick (ah bZ (xs.drop k)));rw[kl tQ,gX]at I;replace I:=I.fu (i:=0) (by simp);change U W w (cg eD x.al.length c8 x.al::ah bZ (xs.drop (k+1))::_) at I;have dV:=(cg.le I).2;refine RN 1 E I λa E=>?_;refine SS E (bS E underlying238 rfl Ty.t238 (fO)) λa E=>?_;refine AL 0 E I λb8 a w E I=>?_;refine SA 0 E I λa w E I=>?_;refine RN 4 E I λa E=>?_;obtain⟨zs,cU,eN,I⟩:=cg.open (I.pick (cg eD x.al.length c8 x.al));refine CL 0 E I (hf _ _ x eD c8 (bH jg) I inferInstance ⟨zs,cU,λnB h=>U.ma (h.sub (M:=Sl 22 1 eD x.al.length c8 (zs.map aK)::ah a8 zs::[]))⟩ dV ku) (hf:=cp) λa w E I=>?_;replace I:U W w (cg eD x.al.length c8 x.al::_):=U.shut (M:=[_,_]) I (λ_ x=>⟨zs,⟨cU,eN⟩,x⟩);refine IF 0 E I (λay a E=>?_) λay a E=>?_
  ·
   rw[ak ay]at pf;rw[show (!wh (x,eD,c8).1)=false from by simp[ay]]at sB;rw[ag (by decide),append_nil]at sB;refine bQ 1 [5] [0,1,2,4,3003,1005,1006] E I λa w E I hH hC=>?_;refine RH 6 E I hH hC λa E=>?_;refine bh 0 E I (zP (id:=x.snap) (I.pick (ax sq r (A.gQ ((T.l.take k).filter wh))))) λ_ a w E I=>?_;rw[← pf]at I;refine RN 2 E I λa E=>?_;rw[← sB]at hm I;exact⟨T.l.length-(k+1),by omega,k+1,_,_,_,⟨rfl,by omega,hm⟩,E.ab [0,1,5,6,19,20,21],I.sub⟩
  rw[ag (by rw[ay];decide)]at pf;rw[show (!wh (x,eD,c8).1)=true from by simp[ay]]at sB;rw[ak rfl]at sB;refine RN 2 E I λa E=>?_;refine cr E rfl I underlying168 Ty.t238 rfl rfl rfl rfl (by decide) (by decide) λU6 a w E I ho=>?_;clear ho;obtain⟨Y,vB⟩:∃ Y,(xs.take k).filter (λz=>!wh z.1)=Y:=⟨_,rfl⟩;rw[vB]at I sB hm;refine RN 0 E I λa E=>?_;refine cK E rfl I underlying168 Ty.t238 rfl rfl I.ai rfl (by simp[Value.oneCell',ch]) (by decide) (by decide) (by have:=length_filter_le (λz:Bx=>!wh z.1) (xs.take k);rw[vB,ep]at this;omega) λob oc a w E I=>?_;have h8:=U.jM (f:=bZ) (l:=Y) (x:=(x,eD,c8)) (I.sub (M:=cg eD x.al.length c8 x.al::ah bZ Y::Sl 238 5 ob (m+1) oc (rows c5 Y++[ch x eD c8].flatten)::aa tq 236 [pt sq,.int .i64 T.most,.slice (some ⟨b',dB,none⟩) T.l.length c,.int .i64 T.last,.int .i64 T.epoch]::Sl 238 5 (some ⟨b',dB,none⟩) T.l.length c (rows c5 xs)::ah bZ (xs.drop (k+1))::ax sq r (A.gQ ((T.l.take k).filter wh))::L));rw[Dg,← sB,← pf]at h8;replace I:=h8;clear h8;refine RN 3 E I λa E=>?_;exact⟨T.l.length-(k+1),by omega,k+1,_,_,_,⟨rfl,by omega,by rw[sB,aL,← hm];rfl⟩,E.ab [0,1,5,6,19,20,21],I.sub⟩
 refine RN 1 E I λa E=>?_;obtain rfl:k=T.l.length:=by omega
 rw[take_length,fX (by omega)]at I;rw[fX (by omega)]at hm;have qf:=UZ xs (λx=>!wh x);rw[h1]at qf;have vC:m=(T.l.filter (λx=>!wh x)).length:=by rw[hm,← qf,bd]
 subst vC;refine ST 4 E I (λa w E I=>?_);refine IF 6 E I (λbk a E=>?_) λbk a E=>?_
 ·
  have hlt:(T.l.filter (λx=>!wh x)).length<T.l.length:=by omega
  refine ST 7 E I (λa w E I=>?_);rw[show ((T.epoch:Int)+1)=((T.epoch+1:Nat):Int) from rfl]at I;refine RT 6 E I ?_;refine⟨by rw[show ((T.l.length-(T.l.filter (λx=>!wh x)).length:Nat):Int)=(T.l.length:Int)-((T.l.filter (λx=>!wh x)).length:Int) from by omega],?_⟩;exact Tree.close (T:=T.cut wh) (ad:=sA) (c:=oa) (xs:=xs.filter (λz=>!wh z.1)) (n:=(T.l.filter (λx=>!wh x)).length) (most:=T.most) (last:=T.last) (epoch:=T.epoch+1) I qf (hw.cut he wh) rfl rfl rfl (by simp only[Tr.cut];rw[ak hlt])
 have hlt:¬ (T.l.filter (λx=>!wh x)).length<T.l.length:=by omega
 refine RT 6 E I ?_;refine⟨by rw[show ((T.l.length-(T.l.filter (λx=>!wh x)).length:Nat):Int)=(T.l.length:Int)-((T.l.filter (λx=>!wh x)).length:Int) from by omega],?_⟩;exact Tree.close (T:=T.cut wh) (ad:=sA) (c:=oa) (xs:=xs.filter (λz=>!wh z.1)) (n:=(T.l.filter (λx=>!wh x)).length) (most:=T.most) (last:=T.last) (epoch:=T.epoch) I qf (hw.cut he wh) rfl rfl rfl (by simp only[Tr.cut];rw[ag hlt];rfl)
theorem U7 (I:U W w (Tree tq sq T::ax sq r A::L))(he:T.epoch+1<1099511627776) :
   Calls prog 320 #[pt tq] w λe w'=>e=.returned (.int .i64 T.l.length)∧U W w' (Tree tq sq (T.cut λ_=>true)::ax sq r (A.gQ T.l)::L):=by
 have hF : ∀ (M : List SP) (w' : World) (x : Br) (av : Option Addr) (c' : Nat), x ∈ T.l → U W w' M → Tl M L → vA W M av x.al → x.al.length ≤ c' → nA x.al →
     Calls prog 334 (List.toArray [.agg (ch x av c').toArray]) w' λe nB=>e=.returned (.bool true)∧U W nB M:=by
  intro L w x av c' _ I _ _ _ _;refine EN func334 ntmps334 rfl rfl λa E=>?_;refine BX 1 E I λb1 a w E I=>?_;refine RT 3 E I ?_;exact⟨rfl,I.sub⟩
 refine EN func320 ntmps320 rfl rfl λa E=>?_;refine CL 4 E I (I8 (wh:=λ_=>true) (us:=[]) I he (by kernel_rfl) hF) λa w E I=>?_;refine RT 1 E I ?_;have e1:T.l.filter (λx=>!(λ_:Br=>true) x)=[]:=by simp
 have e2:T.l.filter (λ_=>true)=T.l:=by simp
 rw[e2]at I;exact⟨by rw[e1];rfl,I⟩
end
end
section
theorem tS (s:ByteArray)(i:Nat):1≤(Utf8.decode s i).2∧(Utf8.decode s i).2≤4:=by
 simp only[Utf8.decode]
 repeat' split
 all_goals simp
def nC (r:Nat):Nat:=if r<0x80 then 1 else if r<0x800 then 2 else if r<0x10000 then 3 else 4
theorem sC (s:ByteArray)(i:Nat):(s.get! i).toNat<256:=(s.get! i).toNat_lt
theorem I9 (s:ByteArray)(i:Nat):nC (Utf8.decode s i).1=(Utf8.decode s i).2∨Utf8.decode s i=(0xFFFD,1):=by
 have h0:=sC s (i+0);have h1:=sC s (i+1);have h2:=sC s (i+2);have h3:=sC s (i+3);simp only[Utf8.decode,Utf8.runeError]
 repeat' split
 all_goals first | (right;rfl) | (left;simp_all [nC];done) | (left;simp_all [nC];(repeat' split) <;> omega)
theorem Ja (s:ByteArray)(i:Nat)(h:i<s.size):i+(Utf8.decode s i).2≤s.size:=by
 simp only[Utf8.decode,Utf8.runeError]
 repeat' split
 all_goals simp_all
 all_goals omega
theorem U8 (s:ByteArray)(i:Nat):(Utf8.decode s i).1<1114112:=by
 have h0:=sC s (i+0);have h1:=sC s (i+1);have h2:=sC s (i+2);have h3:=sC s (i+3);simp only[Utf8.decode,Utf8.runeError]
 repeat' split
 all_goals simp_all [Utf8.valid]
 all_goals omega
def ea (s:ByteArray)(pos:Nat):List (Nat×Nat):=if h:pos<s.size then Utf8.decode s pos::ea s (pos+(Utf8.decode s pos).2) else []
termination_by s.size-pos
decreasing_by have:=(tS s pos).1;omega
theorem q3 {s:ByteArray}{pos:Nat}(h:pos<s.size):ea s pos=Utf8.decode s pos::ea s (dX s pos):=by
 rw[ea,dif_pos h,dX,ak h]
theorem q4 {s:ByteArray}{pos:Nat}(h:¬ pos<s.size):ea s pos=[]:=by
 rw[ea,dif_neg h]
theorem Va (s:ByteArray):∀ n pos,s.size-pos≤n→(ea s pos).length≤n:=by
 intro n
 induction n with
 | zero=>intro pos h;rw[q4 (by omega)];simp
 | succ n ih =>
  intro pos h;by_cases hp:pos<s.size
  ·rw[q3 hp,eO];have:=(tS s pos).1;have:=ih (dX s pos) (by rw[dX,ak hp];omega);omega
  ·rw[q4 hp];simp
theorem Di {s:ByteArray}{pos:Nat}(h:pos≤s.size):dX s pos≤s.size:=by
 by_cases hp:pos<s.size
 ·rw[dX,ak hp];exact Ja s pos hp
 ·rw[dX,ag hp];exact h
def kv (x:Nat×Nat):Bool:=decide (32≤x.1)&&decide (x.1≠127)
def mj (x:Nat×Nat):Bool:=!decide (x=(0xFFFD,1))
def pg (s:ByteArray):Bool:=decide (1≤(ea s 0).length)&&decide ((ea s 0).length≤20)&&(ea s 0).all kv&&(ea s 0).all mj
def mS (s:ByteArray)(n:Int):Int:=if 0≤n then (((ea s 0)[n.toNat]?).map (λx=>(x.1:Int))).getD 0 else 0
structure gC where
 code:Int
 a:Int
 b:Int
 c:Int
structure Pr where
 title:ByteArray
 ops:List gC
abbrev dN (o:gC):List Value:=[.int .i64 o.code,.int .i64 o.a,.int .i64 o.b,.int .i64 o.c]
theorem Dk (o:gC):(dN o).length=4:=rfl
theorem Jb (o:gC):∀ v∈dN o,v.oneCell'=true:=by
 intro v hv;simp[dN]at hv;rcases hv with rfl | rfl | rfl | rfl <;> rfl
def eY (x:Int):Prop:=0≤x∧x<32
def dk (x:Int):Prop := -2147483648≤x∧x≤2147483647
def eZ (n:Int)(o:gC):Prop :=
 (o.code=0∧o.a=0∧o.b=0∧o.c=0)∨(o.code=1∧eY o.a∧o.c=0)∨(o.code=9∧0≤o.a∧o.a≤n∧o.b=0∧o.c=0)∨(o.code=15∧eY o.a∧o.b=0∧o.c=0) ∨
 (o.code=10∧eY o.a∧0≤o.b∧o.b≤n∧o.c=0)∨((o.code=2∨(11≤o.code∧o.code≤14))∧eY o.a∧eY o.b∧o.c=0)∨(3≤o.code∧o.code≤8∧eY o.a∧eY o.b∧eY o.c)
def q5 (o:gC):Prop:=dk o.code∧dk o.a∧dk o.b∧dk o.c
def vD (p:Pr):Prop:=pg p.title=true∧1≤p.ops.length∧p.ops.length≤64∧∀ o∈p.ops,q5 o
def dh (p:Pr):Prop:=vD p∧∀ o∈p.ops,eZ p.ops.length o
def ia (x:Int):Int:=IntKind.i32.wrap x
def kx (x:Int):Nat:=(x.emod 32).toNat
theorem xC (x:Int):kx x<32:=by
 have h1:=Int.emod_nonneg x (show (32:Int)≠0 by decide);have h2:=Int.emod_lt_of_pos x (show (0:Int)<32 by decide);show (x%32).toNat<32;omega
def ml (b:List UInt8)(x:Int):Int:=if 0≤x∧x<b.length then ((b.getD x.toNat 0).toNat:Int) else 0
def iQ (k a b:Int):Int:=if k=3 then ia (a+b) else if k=4 then ia (a-b) else if k=5 then ia (a*b) else if k=6 then (if b=0 then 0 else ia (a.tdiv b)) else if k=7 then (if a<b then 1 else 0) else if a=b then 1 else 0
def jC (p:Pr)(fr:Int)(b:List UInt8)(g:Nat→Int)(o:gC):Int :=
 if o.code=1 then ia o.b else if o.code=2 then g o.b.toNat else if o.code=11 then ml b (g o.b.toNat) else if o.code=12 then g (kx (g o.b.toNat)) else if o.code=14 then mS p.title (g o.b.toNat) else if o.code=15 then ia fr else iQ o.code (g o.b.toNat) (g o.c.toNat)
def ej (p:Pr)(fr:Int)(b:List UInt8)(g:Nat→Int)(aT:Nat)(o:gC):(Nat→Int)×Nat×Bool :=
 if o.code=0 then (g,aT+1,false) else if o.code=9 then (g,o.a.toNat,true) else if o.code=10 then (g,if g o.a.toNat=0 then o.b.toNat else aT+1,true) else if o.code=13 then (ck g (kx (g o.a.toNat)) (g o.b.toNat),aT+1,true)
 else (ck g o.a.toNat (jC p fr b g o),aT+1,true)
def qg (p:Pr)(fr:Int)(b:List UInt8):Nat→(Nat→Int)→Nat→(Nat→Int)
 | 0,g,_=>g
 | n+1,g,aT=>match p.ops[aT]? with
  | none=>g
  | some o=>let r:=ej p fr b g aT o
   if r.2.2 then qg p fr b n r.1 r.2.1 else r.1
def e0 (p:Pr)(fr:Int)(b:List UInt8)(g:Nat→Int):Nat→Int:=qg p fr b 200 g 0
def foldI (p:Pr)(fr:Int):(Nat→Int)→List (List UInt8)→(Nat→Int)
 | g,[]=>g
 | g,b::l=>foldI p (fr+1) (e0 p fr b g) l
theorem Dm (p:Pr)(b:List UInt8):∀ (l:List (List UInt8)) (fr:Int) (g:Nat→Int),foldI p fr g (l++[b])=e0 p (fr+l.length) b (foldI p fr g l)
 | [],fr,g=>by simp[foldI]
 | x::l,fr,g=>by
  rw[cons_append,foldI,Dm p b l,foldI,eO]
  congr 1;omega
def dO (g:Nat→Int):Prop:=∀ c,c<32→dk (g c)
theorem ib {i:Int}(h1:-2147483648≤i)(h2:i≤2147483647):IntKind.i32.wrap i=i:=IntWalk.i32_in _ ⟨h1,h2⟩
theorem xD (x:Int):dk (ia x):=by
 simp only[ia,dk,IntKind.wrap];split <;> simp_all [IntKind.signed,IntKind.bits] <;> omega
def Ro (W:World)(e sz:Nat)(ad:Option Addr)(n c:Nat)(cs:List Value):SP:=λh =>
 (cs.length=n*sz∧n≤c∧(0<n→∃ b off,ad=some ⟨b,off,none⟩∧b<W.heap.size∧Rd W b off cs))∨Sl e sz ad n c cs h
class tT (L:List SP)(W:World)(ad:Option Addr)(n c e sz:outParam Nat)(cs:outParam (List Value))(R:outParam (List SP)):Prop where perm:L.Perm (Ro W e sz ad n c cs::R)
instance tT.head {L W ad n c e sz cs}:tT (Ro W e sz ad n c cs::L) W ad n c e sz cs L:=⟨List.Perm.refl _⟩
instance (priority:=low) tT.tail {A L W ad n c e sz cs R}[h:tT L W ad n c e sz cs R]:tT (A::L) W ad n c e sz cs (A::R) :=
 ⟨(List.Perm.cons A h.perm).trans (List.Perm.swap _ _ _)⟩
section
variable {W w:World}{L R:List SP}{e sz n c:Nat}{ad:Option Addr}{cs:List Value}
theorem U.ro (s:U W w L)(ad:Option Addr)[k:tT L W ad n c e sz cs R]:cs.length=n*sz∧n≤c:=(s.perm k.perm).tell λ_ h=>by
 rcases h with ⟨h1,h2,_⟩ | h
 ·exact⟨h1,h2⟩
 ·exact⟨h.1,h.2.1⟩
theorem U.q6 (s:U W w L)(ad:Option Addr)[k:tT L W ad n c e sz cs R](h0:0<n):∃ b off,ad=some ⟨b,off,none⟩∧Rd w b off cs:=by
 have s':=s.perm k.perm;obtain⟨lX,h,p,h1,h2,d,a,kk,x,q⟩:=s';rcases x with ⟨x1,x2,x3⟩ | x
 ·obtain⟨b,off,rfl,hb,hr⟩:=x3 h0;exact⟨b,off,rfl,λj v hj=>(s.gy (a:=⟨b,off+j,none⟩) hb).trans (hr j v hj)⟩
 ·have s2:U W w (Sl e sz ad n c cs::R):=⟨lX,h,p,h1,h2,d,a,kk,x,q⟩;exact s2.bV ad h0
theorem U.Vb (s:U W w L)(h1:cs.length=n*sz)(h2:n≤c)(h3:0<n→∃ b off,ad=some ⟨b,off,none⟩∧b<W.heap.size∧Rd W b off cs):U W w (Ro W e sz ad n c cs::L) :=
 ⟨s.below,let ⟨h,p,q⟩:=s.sat;⟨h,p,λ_=>none,h,λ_=>.inl rfl,λ_ _ e=>(by cases e),Hp.Sub.refl _,.inl ⟨h1,h2,h3⟩,q⟩⟩
theorem U.Dn (s:U W w (Sl e sz ad n c cs::L)):U W w (Ro W e sz ad n c cs::L):=s.imp λ_ ⟨h1,h2,d,a,b,x,q⟩=>⟨h1,h2,d,a,b,.inr x,q⟩
end
theorem vE {w:World}{b off k:Nat}{ops:List gC}{o:gC}(hr:Rd w b off (rows dN ops))(ho:ops[k]?=some o):Rd w b (off+k*4) (dN o):=by
 obtain⟨hi,he⟩:=a2.1 ho;have:=hr.part (k*4) 4;rw[vh Dk ops k hi,he]at this;exact this
end
end Go.Proofs.YteoldcfapaiobaaGreat
