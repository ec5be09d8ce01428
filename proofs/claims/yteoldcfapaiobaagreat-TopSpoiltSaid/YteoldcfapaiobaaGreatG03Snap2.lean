/- The walks of package snap, further. -/
import Derived.Test.YteoldcfapaiobaaGreatG02Page
import Derived.Test.YteoldcfapaiobaaGreatG01Row
namespace Go.Proofs.YteoldcfapaiobaaGreat
open Tryz
open List (nil_append map_cons cons_append append_nil ext_getElem? set_set map_nil getElem?_set_ne foldl_append)
open Go.RowKit
set_option linter.unusedVariables false
set_option linter.unusedSimpArgs false
set_option maxRecDepth 10000
set_option synthInstance.maxSize 4000
set_option synthInstance.maxHeartbeats 400000
section
section
variable {W w:World}{L L':List SP}{q r b m i pb:Nat}{A:Sn}{ps:List Pg}{xs:List (aC×Nat)}{x y:aC}
theorem Vv {off n c:Nat}{vs:List Value}(I:U W w L)(hr:∀ w',U W w' L→Rd w' b off vs)(hl:vs.length=n)(hn:0<n)(h1:∀ v∈vs,v.oneCell'=true)(hb:n≤1048576) :
   Calls prog 121 #[.slice (some ⟨b,off,none⟩) n c] w λe w'=>∃ ad c',e=.returned (.slice ad n c')∧U W w' (Sl 3 1 ad n c' vs::L):=by
 refine EN func121 ntmps121 rfl rfl λa E=>?_;refine RN 6 E I λa E=>?_;replace E:=E.aP 4;refine RN 2 E I λa E=>?_;refine uC E rfl I underlying53 Ty.t3 rfl λb5 a w E I ho=>?_;clear ho;refine RN 1 E I λa E=>?_;refine cQ E rfl I underlying53 Ty.t3 rfl rfl (hr _ I.tail) (by omega) h1 hn (by decide) (by omega) λs7 rJ a w E I=>?_;rw[eG,nil_append] at *;refine RT 1 E I ?_;exact⟨_,_,rfl,I⟩
theorem JQ (I:U W w (ax q r A::L))(hx:A.ar[i]?=some x) :
   Calls prog 85 #[pt q,.int .i64 x.id] w λe w'=>∃ ad c,e=.returned (.slice ad 4 c)∧U W w' (Sl 3 1 ad 4 c (ints .i64 4 (λk=>(x.p k:Int)+1))::ax q r A::L):=by
 obtain⟨b,m,ps,xs,h1,hw,hr,I⟩:=ax.open I;obtain⟨pb,bd⟩:=qK h1 hx;refine EN func85 ntmps85 rfl rfl λa E=>?_;refine CL 5 E I (qL I h1 hw bd) λa w E I=>?_;refine RN 5 E I λa E=>?_;replace E:=E.aP 10;refine RN 2 E I λa E=>?_;replace I:=I.rL bd;refine aZ 4 E I (Vv (off:=0) (c:=4) I (λw' h=>h.D4 pb) (dj _ _ _) (by decide) uD (by decide)) λad c a w E I=>?_;refine RT 1 E I ?_;refine⟨ad,c,rfl,?_⟩;have h4:=ax.uM (A:=A) (B:=A) (q:=q) (r:=r) (last:=A.last) (L':=Sl 3 1 ad 4 c (ints .i64 4 (λk=>(x.p k:Int)+1))::L) (b:=b) (m:=m) (ps:=ps) (pb:=pb) (y:=x) I bd h1 rfl (yk hx) hw hr;exact h4.perm (cZ _ _ _)
theorem AJ (I:U W w (ax q r A::L)) :
   Calls prog 83 #[pt q] w λe w'=>e=.returned (pt r)∧U W w' (ax q r A::L):=by
 obtain⟨b,m,ps,xs,h1,hw,hr,I⟩:=ax.open I;refine EN func83 ntmps83 rfl rfl λa E=>?_;refine RN 6 E I λa E=>?_;replace E:=E.aP 4;refine RT 7 E I ?_;exact⟨rfl,ax.close (b:=b) (m:=m) I h1 hw hr⟩
theorem D8 (I:U W w (ax q r A::L)) :
   Calls prog 84 #[pt r] w λe w'=>e=.returned (.int .i64 A.used)∧U W w' (ax q r A::L):=by
 obtain⟨b,m,ps,xs,h1,hw,hr,I⟩:=ax.open I;refine (Jp (I.pick (Room r b ps))).mono λe w' ⟨h2,I⟩=>?_;rw[hr.used]at h2;exact⟨h2,ax.close (b:=b) (m:=m) (ps:=ps) I h1 hw hr⟩
theorem JR {n:Int}(I:U W w (ax q r A::L)) :
   Calls prog 125 #[pt q,.int .i64 n] w λe w'=>e=.returned (.bool (decide (n≤((A.room-A.used:Nat):Int))))∧U W w' (ax q r A::L):=by
 obtain⟨b,m,ps,xs,h1,hw,hr,I⟩:=ax.open I;refine EN func125 ntmps125 rfl rfl λa E=>?_;refine RN 6 E I λa E=>?_;replace E:=E.ed 7;refine CL 5 E I (UN (I.pick (Room r b ps))) λa w E I=>?_;refine RT 3 E I ?_;exact⟨by rw[hr.used,hr.len],ax.close (b:=b) (m:=m) (ps:=ps) I h1 hw hr⟩
theorem Vw (I:U W w (ax q r A::L)) :
   Calls prog 82 #[pt q] w λe w'=>∃ ad c,e=.returned (.slice ad A.ar.length c)∧U W w' (Sl 166 1 ad A.ar.length c (A.ar.map λx=>.int .i64 x.id)::ax q r A::L):=by
 obtain⟨b,m,ps,xs,h1,hw,hr,I⟩:=ax.open I;have hlen:(kvs xs).length=A.ar.length:=by rw[← h1];simp[kvs]
 have uO:((kvs xs).map (·.1)).Pairwise (· < ·):=by
  have:(kvs xs).map (·.1)=(A.ar.map (·.id)).map (λn:Nat=>(n:Int)):=by rw[← h1];simp[kvs]
  rw[this,List.pairwise_map];exact hw.sorted.imp λh=>by omega
 have rM:((kvs xs).map λp=>Value.int .i64 p.1)=A.ar.map λx=>Value.int .i64 x.id:=by rw[← h1];simp[kvs]
 refine EN func82 ntmps82 rfl rfl λa E=>?_;refine RN 6 E I λa E=>?_;replace E:=E.aP 4;refine bh 6 E I (UZ (m:=m) I) λb8 a w E I=>?_;refine aZ 0 E I (U6 (m:=m) (kvs:=kvs xs) ((I.pick (mp m (kvs xs))).pick (aa b8 218 [.map (some m)])) uO (by rw[hlen];have:=hw.many;have:=hw.bound;omega)) λad c a w E I=>?_;rw[hlen,rM] at *;refine RT 1 E I ?_;refine⟨ad,c,rfl,?_⟩;have h4:=ax.close (A:=A) (q:=q) (r:=r) (last:=A.last) (xs:=xs) (L':=Sl 166 1 ad A.ar.length c (A.ar.map λx=>.int .i64 x.id)::L) (b:=b) (m:=m) (ps:=ps) I h1 hw hr;exact h4.perm (cZ _ _ _)
theorem Vx (I:U W w (ax q r A::L))(hx:A.ar[i]?=some x) :
   Calls prog 290 #[pt q,.int .i64 x.id] w λe w'=>e=.returned (.tuple #[.agg (ints .i32 32 x.g).toArray,.bool true])∧U W w' (ax q r A::L):=by
 refine EN func290 ntmps290 rfl rfl λa E=>?_;refine AL 1 E I λb4 a w E I=>?_;change U W w (aa b4 183 (ints .i32 32 (λ_=>0))::_) at I;refine AL 2 E I λcH a w E I=>?_;change U W w (aa cH 183 (ints .i32 32 (λj=>if j<0 then x.g j else 0))::_) at I;refine RN 2 E I λa E=>?_;obtain⟨b,m,ps,xs,h1,hw,hr,I⟩:=ax.open (I.pick (ax q r A));obtain⟨pb,bd⟩:=qK h1 hx;refine CL 2 E I (qL I h1 hw bd) λa w E I=>?_;refine RN 1 E I λa E=>?_;replace E:=E.aP 11;refine RN 3 E I λa E=>?_;replace I:=ax.close (A:=A) (q:=q) (r:=r) (last:=A.last) (xs:=xs) (L':=aa cH 183 (ints .i32 32 (λj=>if j<0 then x.g j else 0))::aa b4 183 (ints .i32 32 (λ_=>0))::L) (b:=b) (m:=m) (ps:=ps) I h1 hw hr;refine RN 1 E I λa E=>?_;refine aN (λμ a w=>∃ k:Nat,(μ=32-k∧k≤32)∧Fr a 27 [(0,pt q),(1,.int .i64 x.id),(4,pt b4),(6,pt cH),(13,.int .i64 k)]∧U W w (aa cH 183 (ints .i32 32 (λj=>if j<k then x.g j else 0))::ax q r A::aa b4 183 (ints .i32 32 (λ_=>0))::L)) (32) (⟨0,⟨by simp,by simp⟩,E.ab [0,1,4,6,13],I.sub⟩) ?_;clear E I;rintro μ a w ⟨k,⟨rfl,hk⟩,E,I⟩;refine IF 3 E I (λao a E=>?_) λao a E=>?_
 ·
  refine CL 8 E I (JL (I.pick (ax q r A)) hx (by omega)) λa w E I=>?_;refine ST 4 E I (λa w E I=>?_) (hlt:=(by rw[dj];omega))
  rw [ints_set, show (fun i => if i = k then x.g k else if i < k then x.g i else 0) = (fun i => if i < k + 1 then x.g i else 0) from by
      funext i
      by_cases h:i=k
      ·subst h;simp
      ·rw[ag h];by_cases h2:i<k
       ·rw[ak h2,ak (by omega)]
       ·rw[ag h2,ag (by omega)]]at I
  refine RN 2 E I λa E=>?_;exact⟨32-(k+1),by omega,k+1,⟨rfl,by omega⟩,E.ab [0,1,4,6,13],I.sub⟩
 obtain rfl:k=32:=by omega
 rw[x7 (g':=x.g) (λj hj=>ak hj)]at I;refine SA 2 E I λa w E I=>?_;refine RT 1 E I ?_;exact⟨rfl,I.sub⟩
theorem Vy (p:Nat):cS [] p=0:=rfl
theorem Vz {n:Nat}(I:U W w L)(hn:n≤50) :
   Calls prog 89 #[.int .i64 n] w λe w'=>∃ q r,e=.returned (pt q)∧U W w' (ax q r ⟨0,4*n,0,[]⟩::L):=by
 refine EN func89 ntmps89 rfl rfl λa E=>?_;refine RN 6 E I λa E=>?_;rw[show min (max (n:Int) 0) 50=(n:Int) from by omega]at E;refine RN 1 E I λa E=>?_;rw[show (4:Int)*(n:Int)=((4*n:Nat):Int) from by omega]at E;refine aZ 0 E I (UF I (by omega)) λr b a w E I=>?_;refine RN 0 E I λa E=>?_;refine UQ E rfl I rfl λb8 a w E I ho=>?_;clear ho;refine BX 1 E I λkK a w E I=>?_;refine RT 1 E I ?_;have h7:U W w (ah jg []::aa kK 221 [pt r,.map (some b8),.int .i64 ((0:Nat):Int)]::mp b8 (kvs [])::Room r b (List.replicate (4*n) s8)::L):=U.ja I;refine⟨kK,r,rfl,ax.close (A:=⟨0,4*n,0,[]⟩) (last:=0) (b:=b) (m:=b8) (xs:=[]) (ps:=List.replicate (4*n) s8) h7 rfl ⟨by simp only;omega,by simp,a7 _,by simp,by simp,by simp⟩ ⟨by simp,λp q hq=>?_,by simp⟩⟩;obtain⟨_,rfl⟩:=aY.1 hq;rw[List.getElem_replicate];rfl
theorem VA {g:Nat→Int}{k:Nat}(I:U W w L)(hk:k<4) :
   Calls prog 127 #[.agg (ints .i32 32 g).toArray,.int .i64 k] w λe w'=>e=.returned (.agg (ints .i32 8 (λj=>g (8*k+j))).toArray)∧U W w' L:=by
 refine EN func127 ntmps127 rfl rfl λa E=>?_;refine BX 1 E I λb2 a w E I=>?_;refine AL 0 E I λb4 a w E I=>?_;change U W w (aa b4 225 (ints .i32 8 (λ_=>0))::_) at I;refine AL 1 E I λb5 a w E I=>?_;change U W w (aa b5 225 (ints .i32 8 (λ_=>0))::_) at I;refine RN 5 E I λa E=>?_;rw[dk (by omega)]at E;refine RN 3 E I λa E=>?_;rw[dk (by omega)]at E;refine RN 1 E I λa E=>?_;have VB:((ints .i32 32 g).drop (k*8)).take 8=ints .i32 8 (λj=>g (8*k+j)):=by rw[Nat.mul_comm k 8];exact RD g (by omega)
 refine bR 0 [] [0,1,2,3,1004] E I λa w E I hH hC=>?_;refine RH 3 E I hH hC λa E=>?_;rw[show ((k:Int)*8)=((k*8:Nat):Int) from by omega]at E;refine QP E (λw=>RG E underlying183 Ty.t21 (by omega)) λa E=>?_;rw[eG,fW]at E;refine RH 0 E I hH hC λa E=>?_;refine RJ E rfl I underlying270 Ty.t21 rfl (k:=8) (vs:=ints .i32 8 (λj=>g (8*k+j))) (by omega) (by rw[← VB];exact I.qv 8) (dj _ _ _) uD (by rw[dj,dj];decide) λa w E I=>?_;rw[show cG (ints .i32 8 (λ_=>0)) 0 (ints .i32 8 (λj=>g (8*k+j)))=ints .i32 8 (λj=>g (8*k+j)) from by simp[cG,dj]]at I;refine SA 2 E I λa w E I=>?_;refine RT 0 E I ?_;exact⟨rfl,I.sub⟩
structure Made (ps:List Pg)(g:Nat→Int)(t:Nat→Nat)(k:Nat)(gu:List Pg):Prop where
 len:gu.length=ps.length
 new:∀ j,j<k→∃ q,gu[t j]?=some q∧q.refs=1∧∀ l,l<8→q.g l=g (8*j+l)
 D9:∀ j,j<k→∃ q,ps[t j]?=some q∧q.refs=0
 apart:∀ j l,j<k→l<k→t j=t l→j=l
 gE:∀ p,(∀ j,j<k→t j≠p)→gu[p]?=ps[p]?
 used:j5 gu=j5 ps+k
theorem Made.zero (ps:List Pg)(g:Nat→Int)(t:Nat→Nat):Made ps g t 0 ps:=⟨rfl,λ_ h=>by omega,λ_ h=>by omega,λ_ _ h=>by omega,λ_ _=>rfl,rfl⟩
theorem Made.free {ps gu:List Pg}{g:Nat→Int}{t:Nat→Nat}{k:Nat}(h:Made ps g t k gu)(hu:j5 ps+k<ps.length):∃ f,uH gu f:=by
 rcases DQ gu with bQ | hf
 ·have:=JP bQ;rw[h.used,h.len]at this;omega
 ·exact hf
theorem Made.step {ps gu:List Pg}{g:Nat→Int}{t:Nat→Nat}{k f:Nat}(h:Made ps g t k gu)(hf:uH gu f){g1:Nat→Int}(hg:∀ l,l<8→g1 l=g (8*k+l)) :
   Made ps g (λj=>if j=k then f else t j) (k+1) (gu.set f ⟨g1,1⟩):=by
 obtain⟨jv,jN,_⟩:=hf;have bD:∀ j,j<k→t j≠f:=λj hj e=>by
  obtain⟨q,h1,h2,_⟩:=h.new j hj;rw[e,aD jv]at h1;cases h1;omega
 have AF:ps[f]?=some gu[f]:=by rw[← h.gE f bD,aD jv]
 refine⟨by rw[bt];exact h.len,λj hj=>?_,λj hj=>?_,λj l hj hl e=>?_,λp hp=>?_,?_⟩
 ·by_cases qC:j=k
  ·subst qC;exact⟨⟨g1,1⟩,by simp[jv],rfl,hg⟩
  ·obtain⟨q,h1,h2,h3⟩:=h.new j (by omega);exact⟨q,by simp only[ag qC];rw[getElem?_set_ne (Ne.symm (bD j (by omega)))];exact h1,h2,h3⟩
 ·by_cases qC:j=k
  ·subst qC;exact⟨_,by simp only[if_true];exact AF,jN⟩
  ·simp only[ag qC];exact h.D9 j (by omega)
 ·by_cases h1:j=k <;> by_cases h2:l=k
  ·omega
  ·rw[ak h1,ag h2]at e;exact absurd e.symm (bD l (by omega))
  ·rw[ag h1,ak h2]at e;exact absurd e (bD j (by omega))
  ·rw[ag h1,ag h2]at e;exact h.apart j l (by omega) (by omega) e
 ·have h1:=hp k (by omega);simp only[if_true]at h1;rw[getElem?_set_ne h1];refine h.gE p λj hj e=>?_;have:=hp j (by omega);rw[ag (by omega)]at this;exact this e
 ·have:=List.countP_set (p:=λp:Pg=>decide (0<p.refs)) (a:=⟨g1,1⟩) jv;have hu:=h.used;simp only[j5]at hu ⊢;rw[this,hu];simp[jN,Nat.add_assoc]
theorem Made.rel {ps gu:List Pg}{g:Nat→Int}{t:Nat→Nat}(h:Made ps g t 4 gu)(hr:Rel A ps):Rel (A.add g t) gu:=by
 have hz:∀ j,j<4→cS A.ar (t j)=0:=λj hj=>by
  obtain⟨q,h1,h2⟩:=h.D9 j hj;rw[← hr.refs _ _ h1];exact h2
 refine⟨h.len.trans hr.len,λp q hq=>?_,λy hy k hk=>?_⟩
 ·simp only[Sn.add,yf,tg,DZ,Nat.add_zero];by_cases hp:∃ j,j<4∧t j=p
  ·obtain⟨j,hj,rfl⟩:=hp;obtain⟨q',h1,h2,_⟩:=h.new j hj;rw[h1]at hq;cases hq;rw[hz j hj,h2,uJ];have E:=λl (hl:l<4) (e:t l=t j)=>h.apart l j hl hj e;simp only;rcases (by omega:j=0∨j=1∨j=2∨j=3) with rfl | rfl | rfl | rfl
   ·rw[ak rfl,ag (λe=>by have:=E 1 (by omega) e;omega),ag (λe=>by have:=E 2 (by omega) e;omega),ag (λe=>by have:=E 3 (by omega) e;omega)]
   ·rw[ak rfl,ag (λe=>by have:=E 0 (by omega) e;omega),ag (λe=>by have:=E 2 (by omega) e;omega),ag (λe=>by have:=E 3 (by omega) e;omega)]
   ·rw[ak rfl,ag (λe=>by have:=E 0 (by omega) e;omega),ag (λe=>by have:=E 1 (by omega) e;omega),ag (λe=>by have:=E 3 (by omega) e;omega)]
   ·rw[ak rfl,ag (λe=>by have:=E 0 (by omega) e;omega),ag (λe=>by have:=E 1 (by omega) e;omega),ag (λe=>by have:=E 2 (by omega) e;omega)]
  ·have hn:∀ j,j<4→t j≠p:=λj hj e=>hp ⟨j,hj,e⟩;rw[h.gE p hn]at hq;rw[hr.refs p q hq,DY (x:=⟨A.last+1,1,g,t⟩) hn];rfl
 ·simp only[Sn.add]at hy;rcases eT.1 hy with hy | hy
  ·obtain⟨q,h1,h2⟩:=hr.pO y hy k hk;refine⟨q,?_,h2⟩;rw[h.gE _ λj hj e=>?_]
   ·exact h1
   ·have h3:=hz j hj;have h4:=uK hy (t j);rw[e]at h3 h4;have:=tf (x:=y) hk;omega
  ·simp at hy;subst hy;obtain⟨q,h1,h2,h3⟩:=h.new k hk;exact⟨q,h1,h3⟩
abbrev nW (P:Nat→Int):List Value:=ints .i64 4 P++[.int .i64 0]
theorem VC (P:Nat→Int):(nW P).length=5:=by simp[nW,dj]
theorem VD {P:Nat→Int}{k:Nat}(h:k<4):(nW P)[k]?=some (.int .i64 (P k)):=by
 rw[nW,mF (by rw[dj];exact h),fV _ h]
theorem VE {P:Nat→Int}{k:Nat}(v:Int)(h:k<4):(nW P).set k (.int .i64 v)=nW (λj=>if j=k then v else P j):=by
 rw[nW,sT _ _ (by rw[dj];exact h),ints_set,nW]
def tP (t:Nat→Nat)(k:Nat):Nat→Int:=λj=>if j<k then (t j:Int)+1 else 0
theorem VF (t:Nat→Nat)(k f:Nat):(λj=>if j=k then ((f:Int)+1) else tP t k j)=tP (λj=>if j=k then f else t j) (k+1):=by
 funext j
 simp only[tP];by_cases h:j=k
 ·subst h;simp
 ·rw[ag h,ag h];by_cases h2:j<k
  ·rw[ak h2,ak (by omega)]
  ·rw[ag h2,ag (by omega)]
def oL (g:Nat→Int)(k j:Nat):Nat→Int:=λl=>if l<j then g (8*k+l) else 0
theorem VG (g:Nat→Int)(k:Nat):oL g k 0=λ_=>0:=by funext l;simp[oL]
theorem VH (g:Nat→Int)(k j:Nat):(λl=>if l=j then g (8*k+j) else oL g k j l)=oL g k (j+1):=by
 funext l
 simp only[oL];by_cases h:l=j
 ·subst h;simp
 ·rw[ag h];by_cases h2:l<j
  ·rw[ak h2,ak (by omega)]
  ·rw[ag h2,ag (by omega)]
theorem JS {g:Nat→Int}(I:U W w (ax q r A::L))(hu:A.used+4≤A.room)(hb:A.n+1<1099511627776) :
   Calls prog 93 #[pt q,.agg (ints .i32 32 g).toArray] w λe w'=>∃ t:Nat→Nat,e=.returned (.tuple #[.int .i64 ((A.last+1:Nat):Int),.bool true]) ∧
    ((∀ j,j<4→t j<A.room∧cS A.ar (t j)=0)∧∀ j l,j<4→l<4→t j=t l→j=l)∧U W w' (ax q r (A.add g t)::L):=by
 refine EN func93 ntmps93 rfl rfl λa E=>?_;refine BX 1 E I λb3 a w E I=>?_;refine CL 5 E I (JR (I.pick (ax q r A))) λa w E I=>?_;rw[dk (by omega)]at E;refine RN 1 E I λa E=>?_;replace E:=E.aP 12;refine RN 2 E I λa E=>?_;obtain⟨b,m,ps,xs,h1,hw,hr,I⟩:=ax.open I;have nT:=hr.used;have gv:=hr.len;refine AL 0 E I λcH a w E I=>?_;change U W w (aa cH 232 (nW (tP (λ_=>0) 0))::_) at I;refine RN 3 E I λa E=>?_;refine aN (λμ a w=>∃ (k:Nat) (t:Nat→Nat) (gu:List Pg),(μ=4-k∧k≤4∧Made ps g t k gu)∧Fr a 50 [(0,pt q),(3,pt b3),(6,pt cH),(13,.int .i64 k)]∧U W w (Room r b gu::aa cH 232 (nW (tP t k))::aa b3 183 (ints .i32 32 g)::aa q 221 [pt r,.map (some m),.int .i64 A.last]::mp m (kvs xs)::ah jg xs::L)) (4) (⟨0,λ_=>0,ps,⟨by simp,by simp,Made.zero _ _ _⟩,E.ab [0,3,6,13],I.sub⟩) ?_;clear E I;rintro μ a w ⟨k,t,gu,⟨rfl,hk,hm⟩,E,I⟩;refine IF 3 E I (λao a E=>?_) λao a E=>?_
 ·
  refine RN 5 E I λa E=>?_;have JT:=hm.used;obtain⟨f,hf⟩:=hm.free (by omega);have aS:=λ(g1:Nat→Int) h=>hm.step (g1:=g1) hf h;have jv:=hf.1;refine CL 5 E I (Jo (I.pick (Room r b gu)) hf) λa w E I=>?_;refine ST 5 E I (λa w E I=>?_) (hlt:=(by rw[VC];omega));rw[VE _ (by omega),VF]at I;refine CL 3 E I (VA I (by omega)) λa w E I=>?_;refine RN 1 E I λa E=>?_;refine aN (λμ a w=>∃ j:Nat,(μ=8-j∧j≤8)∧Fr a 50 [(0,pt q),(3,pt b3),(6,pt cH),(7,.int .i64 k),(13,.int .i64 k),(29,.agg (ints .i32 8 (λj=>g (8*k+j))).toArray),(30,.int .i64 j)]∧U W w (Room r b (gu.set f ⟨oL g k j,1⟩)::aa cH 232 (nW (tP (λj=>if j=k then f else t j) (k+1)))::aa b3 183 (ints .i32 32 g)::aa q 221 [pt r,.map (some m),.int .i64 A.last]::mp m (kvs xs)::ah jg xs::L)) (8) (⟨0,⟨by simp,by simp⟩,E.ab [0,3,6,7,13,29,30],by rw[VG];rw[show pL=(⟨λ_=>0,1⟩:Pg) from rfl]at I;exact I.sub⟩) ?_;clear E I;rintro μ a w ⟨j,⟨rfl,hj⟩,E,I⟩;refine IF 3 E I (λay a E=>?_) λay a E=>?_
  ·
   refine RN 3 E I λa E=>?_;refine SS E (sX E underlying225 underlying21 rfl Ty.t21 (by omega) (fV _ (by omega))) λa E=>?_;refine bR 2 [7] [0,1,2,4,5,6,8,9,3003,1007,1010] E I λa w E I hH hC=>?_;refine RH 9 E I hH hC λa E=>?_;refine SS E (ae E (I.bz (VD (by omega)))) λa E=>?_;rw[show tP (λj=>if j=k then f else t j) (k+1) k=(f:Int)+1 from by simp[tP]]at E;have ef:f<(gu.set f ⟨oL g k j,1⟩).length:=by rw[bt];exact jv
   have wB:(gu.set f ⟨oL g k j,1⟩)[f]=⟨oL g k j,1⟩:=by rw[oH]
   refine RH 0 E I hH hC λa E=>?_;refine CL 0 E I (DP (I.pick (Room r b (gu.set f ⟨oL g k j,1⟩))) ef (by rw[wB]) (show j<8 by omega)) λa w E I=>?_;rw[wB,set_set,VH]at I;refine RN 2 E I λa E=>?_;exact⟨8-(j+1),by omega,j+1,⟨rfl,by omega⟩,E.ab [0,3,6,7,13,29,30],I.sub⟩
  obtain rfl:j=8:=by omega
  have VI:=aS (oL g k 8) (λl hl=>by simp[oL,hl]);refine RN 2 E I λa E=>?_;exact⟨4-(k+1),by omega,k+1,_,_,⟨rfl,by omega,VI⟩,E.ab [0,3,6,13],I.sub⟩
 obtain rfl:k=4:=by omega
 have kB:nW (tP t 4)=aC.cells ⟨A.last+1,0,g,t⟩:=by
  rw[nW,aC.cells];rw[x7 (g:=tP t 4) (g':=λk=>(t k:Int)+1) (λj hj=>ak hj)];rfl
 rw[kB]at I;have AI:=hw.add hb g t;have AH:=hm.rel hr;refine bh 3 E I (JN (x:=⟨A.last+1,0,g,t⟩) (q:=q) (r:=r) (m:=m) (last:=A.last) (xs:=xs) (L:=Room r b gu::ah jg xs::L) I.sub (by have:=hw.bound;have:=hw.last;omega) (JM h1 hw)) λpb a w E I=>?_;refine RT 2 E I ?_;refine⟨t,rfl,⟨λj hj=>?_,λj l hj hl e=>hm.apart j l hj hl e⟩,?_⟩
 ·obtain⟨q',h5,h6⟩:=hm.D9 j hj;have h7:=(aY.1 h5).1;exact⟨by omega,by rw[← hr.refs _ _ h5];exact h6⟩
 ·have h6:=U.j1 (f:=jg) (l:=xs) (x:=(⟨A.last+1,1,g,t⟩,pb)) (I.sub (M:=aa pb 232 (aC.cells ⟨A.last+1,1,g,t⟩)::ah jg xs::aa q 221 [pt r,.map (some m),.int .i64 ((A.last+1:Nat):Int)]::mp m (kvs xs++[(((A.last+1:Nat):Int),pt pb)])::Room r b gu::L));rw[show kvs xs++[(((A.last+1:Nat):Int),Value.pointer (some ⟨pb,0,none⟩))]=kvs (xs++[(⟨A.last+1,1,g,t⟩,pb)]) from by simp[kvs]]at h6;exact ax.close (last:=A.last+1) (b:=b) (m:=m) (xs:=xs++[(⟨A.last+1,1,g,t⟩,pb)]) h6 (by simp[Sn.add,h1]) AI AH
end
end
section
structure Br where
 id:Nat
 frm:Int
 al:List (List UInt8)
 done:Nat
 snap:Nat
structure Tr where
 most:Nat
 l:List Br
 last:Nat
 epoch:Nat
def nX (p:List (List UInt8)):Prop:=p.length≤65536∧∀ b∈p,b.length≤1099511627776
abbrev ch (x:Br)(ad:Option Addr)(c:Nat):List Value:=[.int .i64 x.id,.int .i64 x.frm,.slice ad x.al.length c,.int .i64 x.done,.int .i64 x.snap]
abbrev Bx:=Br×Option Addr×Nat
abbrev da (x:Bx):List Value:=ch x.1 x.2.1 x.2.2
def bY (x:Bx):SP:=cg x.2.1 x.1.al.length x.2.2 x.1.al
theorem tj (x:Bx):(da x).length=5:=rfl
structure WT (T:Tr):Prop where
 most:T.most≤8∧T.l.length≤T.most
 last:T.last<1099511627776
 epoch:T.epoch<1099511627776
 ids:(T.l.map (·.id)).Pairwise (· < ·)
 ok:∀ x∈T.l,nX x.al∧x.done≤x.al.length∧1≤x.id∧x.id≤T.last
def Tree (tq sq:Nat)(T:Tr):SP:=λh=>∃ ad c xs,(xs.map (·.1)=T.l∧WT T) ∧
 cm [aa tq 236 [pt sq,.int .i64 T.most,.slice ad T.l.length c,.int .i64 T.last,.int .i64 T.epoch],Sl 238 5 ad T.l.length c (rows da xs),ah bY xs] h
section
variable {W w:World}{L L' R:List SP}{tq sq q r n c k:Nat}{ad:Option Addr}{A:Sn}{T:Tr}{x y:Br}{xs:List Bx}{p:List (List UInt8)}
theorem Tree.open (I:U W w (Tree tq sq T::L)):∃ ad c xs,xs.map (·.1)=T.l∧WT T ∧
   U W w (aa tq 236 [pt sq,.int .i64 T.most,.slice ad T.l.length c,.int .i64 T.last,.int .i64 T.epoch]::Sl 238 5 ad T.l.length c (rows da xs)::ah bY xs::L):=by
 obtain⟨⟨ad,c,xs⟩,⟨h1,h2⟩,h4⟩:=I.jM (ι:=Option Addr×Nat×List Bx) (p:=λi=>i.2.2.map (·.1)=T.l∧WT T)
  (B:=λi h=>cm [aa tq 236 [pt sq,.int .i64 T.most,.slice i.1 T.l.length i.2.1,.int .i64 T.last,.int .i64 T.epoch],Sl 238 5 i.1 T.l.length i.2.1 (rows da i.2.2),ah bY i.2.2] h)
  (λh ⟨ad,c,xs,h1,h2⟩=>⟨(ad,c,xs),h1,h2⟩)
 exact⟨ad,c,xs,h1,h2,h4.open λ_ h=>h⟩
theorem Tree.close {most last epoch:Nat}(I:U W w L)[k:fI L (aa tq 236 [pt sq,.int .i64 most,.slice ad n c,.int .i64 last,.int .i64 epoch]::Sl 238 5 ad n c (rows da xs)::ah bY xs::L') R]
   (h1:xs.map (·.1)=T.l) (h2:WT T) (e1:T.most=most:=by rfl) (e2:T.l.length=n:=by rfl) (e3:T.last=last:=by rfl) (ju:T.epoch=epoch:=by rfl):U W w (Tree tq sq T::L'):=by
 subst e1 e2 e3 ju;exact U.shut (M:=[_,_,_]) (I.sub (M:=aa tq 236 [pt sq,.int .i64 T.most,.slice ad T.l.length c,.int .i64 T.last,.int .i64 T.epoch]::Sl 238 5 ad T.l.length c (rows da xs)::ah bY xs::L')) (λ_ x=>⟨ad,c,xs,⟨h1,h2⟩,x⟩)
theorem Tree.same (ad:Option Addr)(c:Nat)(xs:List Bx)(I:U W w L)[k:fI L (aa tq 236 [pt sq,.int .i64 T.most,.slice ad T.l.length c,.int .i64 T.last,.int .i64 T.epoch]::Sl 238 5 ad T.l.length c (rows da xs)::ah bY xs::L') R]
   (h1:xs.map (·.1)=T.l) (h2:WT T):U W w (Tree tq sq T::L') :=
 U.shut (M:=[_,_,_]) (I.sub (M:=aa tq 236 [pt sq,.int .i64 T.most,.slice ad T.l.length c,.int .i64 T.last,.int .i64 T.epoch]::Sl 238 5 ad T.l.length c (rows da xs)::ah bY xs::L')) (λ_ x=>⟨ad,c,xs,⟨h1,h2⟩,x⟩)
class wC (L:List SP)(tq:Nat)(sq:outParam Nat)(T:outParam Tr)(R:outParam (List SP)):Prop where perm:L.Perm (Tree tq sq T::R)
instance wC.head {L tq sq T}:wC (Tree tq sq T::L) tq sq T L:=⟨lE _⟩
instance (priority:=low) wC.tail {B L tq sq T R}[h:wC L tq sq T R]:wC (B::L) tq sq T (B::R):=⟨(kz B h.perm).trans (cZ _ _ _)⟩
theorem U.tree (I:U W w L)(tq:Nat)[k:wC L tq sq T R]:U W w (Tree tq sq T::R):=I.perm k.perm
theorem Tree.wt (I:U W w (Tree tq sq T::L)):WT T:=by obtain⟨_,_,_,_,h,_⟩:=Tree.open I;exact h
theorem Ea (h1:xs.map (·.1)=T.l)(hx:T.l[k]?=some x):∃ ad c,xs[k]?=some (x,ad,c):=by
 rw[← h1,bl]at hx;obtain⟨⟨y,ad,c⟩,h2,rfl⟩:=rI.1 hx;exact⟨ad,c,h2⟩
theorem oM {b off:Nat}(hr:Rd w b off (rows da xs)){av:Option Addr}{c':Nat}(hx:xs[k]?=some (x,av,c')):Rd w b (off+k*5) (ch x av c'):=by
 obtain⟨hi,he⟩:=aY.1 hx;have:=hr.part (k*5) 5;rw[wa tj xs k hi,he]at this;exact this
theorem ah.pP (I:U W w (ah bY xs::L)){av:Option Addr}{c':Nat}(hx:xs[k]?=some (x,av,c')):k6 w av x.al.length x.al∧x.al.length≤c':=by
 obtain⟨hi,he⟩:=aY.1 hx;have h:=I.fy hi;rw[he]at h;have h2:U W w (cg av x.al.length c' x.al::_):=h;exact⟨cg.rd h2,(cg.le h2).2⟩
theorem VJ {s:Nat}{m:Int}(I:U W w L):Calls prog 91 #[pt s,.int .i64 m] w λe w'=>∃ tq,e=.returned (pt tq)∧U W w' (Tree tq s ⟨(min (max m 0) 8).toNat,[],0,0⟩::L):=by
 refine EN func91 ntmps91 rfl rfl λa E=>?_;refine BX 8 E I λkK a w E I=>?_;refine RT 1 E I ?_;rw[show min (max m 0) 8=(((min (max m 0) 8).toNat:Nat):Int) from by omega]at I;have h:U W w (Sl 238 5 none 0 0 (rows da [])::ah bY []::aa kK 236 [pt s,.int .i64 (((min (max m 0) 8).toNat:Nat):Int),.slice none 0 0,.int .i64 ((0:Nat):Int),.int .i64 ((0:Nat):Int)]::L):=(I.ja (f:=bY)).bM 238 5 none;exact⟨kK,rfl,Tree.close (T:=⟨(min (max m 0) 8).toNat,[],0,0⟩) (most:=(min (max m 0) 8).toNat) (ad:=none) (c:=0) (n:=0) (last:=0) (epoch:=0) (xs:=[]) h rfl ⟨⟨by simp only;omega,Nat.zero_le _⟩,by simp,by simp,by simp,by simp⟩⟩
def pQ (a b:List (List UInt8)):Bool:=a.take (min a.length b.length)==b.take (min a.length b.length)
theorem VK {u v:List (List UInt8)}{ad2:Option Addr}{c2:Nat}(dh:k6 w ad u.length u)(lK:k6 w ad2 v.length v)(ao:u.length≤c)(ay:v.length≤c2)(hb:u.length≤1099511627776) :
   Calls prog 295 #[.slice ad u.length c,.slice ad2 v.length c2] w λe w'=>e=.returned (.bool (pQ u v))∧w'=w.drew:=by
 obtain⟨W,yc⟩:∃ W,w=W:=⟨w,rfl⟩;have I:U W w []:=yc ▸ U.start w;refine EN func295 ntmps295 rfl rfl λa E=>?_;refine RN 8 E I λa E=>?_;rw[show min (u.length:Int) (v.length:Int)=((min u.length v.length:Nat):Int) from by omega]at E;refine RN 2 E I λa E=>?_;have JU:k6 w.drew ad u.length u:=dh;have pF:k6 w.drew ad2 v.length v:=lK;refine rG 0 (λ_=>True) [] [0,1,2,3,4,5,1006,7] E I λa E=>?_;replace I:=I.drew;generalize w.drew=w at I JU pF ⊢;have hC:=trivial;have hH:=Hd.any (λ_=>True);refine RH 6 E I hH hC λa E=>?_;rw[rH,rH,Nat.sub_zero,Nat.sub_zero,Nat.sub_zero]at E;refine CL 0 E I (Uv (p:=u.take (min u.length v.length)) (q:=v.take (min u.length v.length)) (JU.take (by omega)) (pF.take (by omega)) (by omega)) λa w E hx=>?_;obtain rfl:=hx;refine RN 1 E (U.start _) λa E=>?_;refine RT 0 E (U.start _) ?_;exact⟨rfl,rfl⟩
theorem Eb {u v:List (List UInt8)}{ad2:Option Addr}{c2:Nat}(I:U W w L)(dh:k6 w ad u.length u)(lK:k6 w ad2 v.length v)(ao:u.length≤c)(ay:v.length≤c2)(hb:u.length≤1099511627776) :
   Calls prog 295 #[.slice ad u.length c,.slice ad2 v.length c2] w λe w'=>e=.returned (.bool (pQ u v))∧U W w' L :=
 (VK dh lK ao ay hb).mono λe w' ⟨h1,h2⟩=>⟨h1,by subst h2;exact I.drew⟩
theorem JV {m:Nat}{zs:List ee}(I:U W w L)(hr:∀ w',U W w' L→iM w' ad zs)(hm:zs.length=m)(dr:nX (zs.map (·.2.2))) :
   Calls prog 165 #[.slice ad m c] w λe w'=>∃ av c',e=.returned (.slice av m c')∧U W w' (cg av m c' (zs.map (·.2.2))::L):=by
 obtain⟨JW,VL⟩:=dr;rw[a8]at JW;refine EN func165 ntmps165 rfl rfl λa E=>?_;refine RN 6 E I λa E=>?_;replace I:=cg.nil I;refine RN 3 E I λa E=>?_;refine aN (λμ a w=>∃ (k:Nat) (fu:Option Addr) (dJ:Nat),(μ=m-k∧k≤m)∧Fr a 19 [(3,.slice fu k dJ),(6,.slice ad m c),(7,.int .i64 m),(8,.int .i64 k)]∧U W w (cg fu k dJ ((zs.map (·.2.2)).take k)::L)) (m) (⟨0,none,0,⟨by simp,by simp⟩,E.ab [3,6,7,8],I⟩) ?_;clear E I;rintro μ a w ⟨k,fu,dJ,⟨rfl,hk⟩,E,I⟩;refine IF 3 E I (λaj a E=>?_) λaj a E=>?_
 ·
  refine RN 2 E I λa E=>?_;obtain⟨b1,o1,rfl,h1⟩:=(hr _ I.tail).1 (by omega);have dX:zs[k]?=some zs[k]:=aD (by omega);have oN:=VL zs[k].2.2 (cR.2 ⟨zs[k],jd _,rfl⟩);have mL:=h1 k _ (by rw[bl,dX];rfl);refine RN 1 E I λa E=>?_;refine SS E (ae E (mL)) λa E=>?_;refine aZ 3 E I (s6 (bs:=zs[k].2.2) I (λw' h=>(hr _ h.tail).2 _ (jd _)) oN) λmO hX a w E I=>?_;refine RN 0 E I λa E=>?_;refine cp E rfl I underlying207 Ty.t22 rfl rfl rfl rfl (by decide) (by decide) λVM a w E I ho=>?_;clear ho;obtain⟨ys,g5,jh,I⟩:=cg.open (I.pick (cg fu k dJ ((zs.map (·.2.2)).take k)));refine RN 0 E I λa E=>?_;refine cQ E rfl I underlying207 Ty.t22 rfl rfl I.ai rfl (by simp[Value.oneCell']) (by decide) (by decide) (by omega) λEc Ed a w E I=>?_;have h8:=U.j1 (f:=ba) (l:=ys) (x:=(mO,hX,zs[k].2.2)) (I.sub (M:=Sl 5 1 mO zs[k].2.2.length hX (bc zs[k].2.2)::ah ba ys::Sl 22 1 Ec (k+1) Ed (ys.map aM++[[.slice mO zs[k].2.2.length hX]].flatten)::L));have h9:U W w (ah ba (ys++[(mO,hX,zs[k].2.2)])::Sl 22 1 Ec (k+1) Ed ((ys++[(mO,hX,zs[k].2.2)]).map aM)::L):=by
   rw[cW];exact h8
  have dI:k<(zs.map (·.2.2)).length:=by rw[a8];omega
  have fg:=cg.close (p:=(zs.map (·.2.2)).take (k+1)) (ad:=Ec) (n:=k+1) (c:=Ed) (xs:=ys++[(mO,hX,zs[k].2.2)]) (L':=L) h9 (by rw[cW,g5,jx dI];simp) (by rw[eA];omega);replace I:=fg;clear h8 h9 fg;refine RN 3 E I λa E=>?_;exact⟨m-(k+1),by omega,k+1,_,_,⟨rfl,by omega⟩,E.ab [3,6,7,8],I⟩
 refine RT 3 E I ?_;obtain rfl:k=m:=by omega
 rw[gi (by rw[a8];omega)]at I;exact⟨_,_,rfl,I⟩
theorem JX {zs:List ee}{av:Option Addr}{c':Nat}(I:U W w L)(hr:∀ w',U W w' L→iM w' av zs)(hz:zs.map (·.2.2)=x.al)(dr:nX x.al) :
   Calls prog 123 #[.agg (ch x av c').toArray] w λe w'=>∃ ad2 c2,e=.returned (.agg (ch x ad2 c2).toArray)∧U W w' (cg ad2 x.al.length c2 x.al::L):=by
 have iL:zs.length=x.al.length:=by rw[← hz,a8]
 refine EN func123 ntmps123 rfl rfl λa E=>?_;refine BX 1 E I λb1 a w E I=>?_;refine AL 0 E I λb2 a w E I=>?_;refine aZ 3 E I (JV I (λw' h=>hr w' h.tail.tail) iL (by rw[hz];exact dr)) λad2 c2 a w E I=>?_;rw[hz]at I;refine ST 1 E I (λa w E I=>?_) (hlt:=(by simp[ch]));refine SA 2 E I λa w E I=>?_;refine RT 0 E I ?_;exact⟨ad2,c2,rfl,I.sub⟩
theorem VN {b:Nat}{id:Int}{av:Option Addr}{c':Nat}(I:U W w (aa b 2 [.int .i64 id]::L)) :
   Calls prog 212 #[.agg (ch x av c').toArray,pt b] w λe w'=>e=.returned (.bool (decide ((x.id:Int)=id)))∧U W w' (aa b 2 [.int .i64 id]::L):=by
 refine EN func212 ntmps212 rfl rfl λa E=>?_;refine BX 1 E I λb2 a w E I=>?_;refine RT 7 E I ?_;exact⟨rfl,I.sub⟩
theorem VO {b:Nat}{id:Int}{av:Option Addr}{c':Nat}(I:U W w (aa b 2 [.int .i64 id]::Sl 238 5 av n c' (rows da xs)::L))(hb:n≤1048576) :
   Calls prog 211 #[.slice av n c',.func (.func 212) #[] #[pt b]] w λe w' =>
    ∃ r:Int,e=.returned (.int .i64 r)∧((r = -1∧∀ y∈xs,(y.1.id:Int)≠id)∨∃ k y,r=(k:Nat)∧xs[k]?=some y∧(y.1.id:Int)=id)∧U W w' (Sl 238 5 av n c' (rows da xs)::L):=by
 have b9:xs.length=n:=by
  have:=(I.tail.sl av).1;rw[jw tj]at this;omega
 refine EN func211 ntmps211 rfl rfl λa E=>?_;refine RN 7 E I λa E=>?_;refine aN (λμ a w=>∃ k:Nat,(μ=n-k∧k≤n∧∀ j y,j<k→xs[j]?=some y→(y.1.id:Int)≠id)∧Fr a 19 [(0,.slice av n c'),(1,.func (.func 212) #[] #[pt b]),(7,.int .i64 n),(8,.int .i64 k)]∧U W w (aa b 2 [.int .i64 id]::Sl 238 5 av n c' (rows da xs)::L)) (n) (⟨0,⟨by simp,by simp,by omega⟩,E.ab [0,1,7,8],I⟩) ?_;clear E I;rintro μ a w ⟨k,⟨rfl,hk,bQ⟩,E,I⟩;refine IF 3 E I (λaj a E=>?_) λaj a E=>?_
 ·
  refine RN 5 E I λa E=>?_;obtain⟨b',dH,rfl,c9⟩:=I.tail.bU av (by omega);obtain⟨⟨y,JY,JZ⟩,hy⟩:∃ y,xs[k]?=some y:=⟨_,aD (by omega)⟩;have fX:=oM c9 hy;refine RN 4 E I λa E=>?_;refine SS E (bT E underlying238 rfl Ty.t238 (fX)) λa E=>?_;refine CL 0 E I (VN (x:=y) (av:=JY) (c':=JZ) I) λa w E I=>?_;refine IF 0 E I (λao a E=>?_) λao a E=>?_
  ·
   skip
   refine RT 3 E I ?_;exact⟨_,rfl,.inr ⟨k,(y,JY,JZ),rfl,hy,ao⟩,I.tail⟩
  refine RN 2 E I λa E=>?_;refine⟨n-(k+1),by omega,k+1,⟨rfl,by omega,λj z hj hz=>?_⟩,E.ab [0,1,7,8],I⟩;by_cases qC:j=k
  ·subst qC;rw[hy]at hz;cases hz;exact ao
  ·exact bQ j z (by omega) hz
 refine RT 2 E I ?_;refine⟨-1,rfl,.inl ⟨rfl,λz hz=>?_⟩,I.tail⟩;obtain⟨j,hj⟩:=j7.1 hz;have dQ:=(aY.1 hj).1;exact bQ j z (by omega) hj
theorem Ee {id:Int}(I:U W w (Tree tq sq T::L)) :
   Calls prog 183 #[pt tq,.int .i64 id] w λe w' =>
    ∃ r:Int,e=.returned (.int .i64 r)∧((r = -1∧∀ y∈T.l,(y.id:Int)≠id)∨∃ k y,r=(k:Nat)∧T.l[k]?=some y∧(y.id:Int)=id)∧U W w' (Tree tq sq T::L):=by
 refine EN func183 ntmps183 rfl rfl λa E=>?_;refine BX 1 E I λb3 a w E I=>?_;refine RN 5 E I λa E=>?_;replace E:=E.aP 6;refine RN 2 E I λa E=>?_;obtain⟨ad,c,xs,h1,hw,I⟩:=Tree.open (I.tree tq);have hT:=hw.most;refine bh 5 E I (VO (xs:=xs) (b:=b3) (id:=id) (av:=ad) (c':=c) (n:=T.l.length) (L:=aa tq 236 [pt sq,.int .i64 T.most,.slice ad T.l.length c,.int .i64 T.last,.int .i64 T.epoch]::ah bY xs::L) I.sub (by omega)) λr a w E ⟨hr,I⟩=>?_;refine RT 1 E I ?_;refine⟨r,rfl,?_,Tree.same ad c xs I h1 hw⟩;rcases hr with ⟨h2,h3⟩ | ⟨k,y,h2,h3,h4⟩
 ·refine .inl ⟨h2,λy hy=>?_⟩;rw[← h1]at hy;obtain⟨z,hz,rfl⟩:=cR.1 hy;exact h3 z hz
 ·exact .inr ⟨k,y.1,h2,by rw[← h1,bl,h3];rfl,h4⟩
theorem U.J0 (I:U W w (ah bY xs::L)){av:Option Addr}{c':Nat}(hx:xs[k]?=some (x,av,c')):∃ zs:List ee,zs.map (·.2.2)=x.al∧x.al.length≤c' ∧
   U W w (Sl 22 1 av x.al.length c' (zs.map aM)::ah ba zs::ah bY (xs.eraseIdx k)::L):=by
 obtain⟨hi,he⟩:=aY.1 hx;have h:=I.fy hi;rw[he]at h;have h2:U W w (cg av x.al.length c' x.al::ah bY (xs.eraseIdx k)::L):=h;obtain⟨zs,h3,h4,h5⟩:=cg.open h2;exact⟨zs,h3,(cg.le h2).2,h5⟩
theorem U.J1 {zs:List ee}{av:Option Addr}{c':Nat}(I:U W w L)[kk:fI L (Sl 22 1 av n c' (zs.map aM)::ah ba zs::ah bY (xs.eraseIdx k)::L') R](hx:xs[k]?=some (x,av,c'))(hz:zs.map (·.2.2)=x.al)(hn:x.al.length=n):U W w (ah bY xs::L'):=by
 subst hn;obtain⟨hi,he⟩:=aY.1 hx;have h1:=I.sub (M:=Sl 22 1 av x.al.length c' (zs.map aM)::ah ba zs::ah bY (xs.eraseIdx k)::L');have h2:=cg.close (L':=ah bY (xs.eraseIdx k)::L') (p:=x.al) (ad:=av) (n:=x.al.length) (c:=c') (xs:=zs) h1 hz rfl;have h3:U W w (bY (x,av,c')::ah bY (xs.eraseIdx k)::L'):=h2;have h4:=U.kZ hi h3;rw[← he,mN]at h4;exact h4
theorem yl (I:U W w (Tree tq sq T::L))(hx:T.l[k]?=some x) :
   Calls prog 143 #[pt tq,.int .i64 x.id] w λe w'=>∃ ad c,e=.returned (.tuple #[.agg (ch x ad c).toArray,.bool true])∧U W w' (cg ad x.al.length c x.al::Tree tq sq T::L):=by
 refine EN func143 ntmps143 rfl rfl λa E=>?_;refine AL 1 E I λb4 a w E I=>?_;refine bh 4 E I (Ee (id:=(x.id:Int)) (I.tree tq)) λr a w E ⟨hr,I⟩=>?_;obtain⟨hw,fX⟩:WT T∧r=(k:Nat):=by
  have hw:=Tree.wt I;refine⟨hw,?_⟩;rcases hr with ⟨_,h3⟩ | ⟨j,y,h2,h3,h4⟩
  ·exact absurd rfl (h3 x (bF hx))
  ·have hp:=List.pairwise_iff_getElem.1 hw.ids;obtain⟨hj,rfl⟩:=aY.1 h3;obtain⟨hk,rfl⟩:=aY.1 hx;rcases Nat.lt_trichotomy j k with hl | hl | hl
   ·have:=hp j k (by simpa using hj) (by simpa using hk) hl;simp at this;omega
   ·rw[h2,hl]
   ·have:=hp k j (by simpa using hk) (by simpa using hj) hl;simp at this;omega
 subst fX;have dI:=(aY.1 hx).1;have kL:=(hw.ok x (bF hx)).1;clear hr;refine RN 5 E I λa E=>?_;rw[bo (by omega)]at E;refine RN 2 E I λa E=>?_;obtain⟨ad,c,xs,h1,hw,I⟩:=Tree.open (I.tree tq);obtain⟨eJ,de,dY⟩:=Ea h1 hx;obtain⟨b',dH,rfl,c9⟩:=I.tail.bU ad (by omega);have fX:=oM c9 dY;refine RN 6 E I λa E=>?_;refine SS E (bT E underlying238 rfl Ty.t238 (fX)) λa E=>?_;obtain⟨zs,cV,eS,I⟩:=U.J0 (I.pick (ah bY xs)) dY;refine aZ 0 E I (JX (x:=x) (av:=eJ) (c':=de) I (λw' h=>U.mJ h) cV kL) λad2 c2 a w E I=>?_;refine SA 0 E I λa w E I=>?_;refine RT 1 E I ?_;have h5:=U.J1 (L':=cg ad2 x.al.length c2 x.al::aa tq 236 [pt sq,.int .i64 T.most,.slice (some ⟨b',dH,none⟩) T.l.length c,.int .i64 T.last,.int .i64 T.epoch]::Sl 238 5 (some ⟨b',dH,none⟩) T.l.length c (rows da xs)::L) I dY cV rfl;refine⟨ad2,c2,rfl,?_⟩;have h6:=Tree.same (tq:=tq) (sq:=sq) (T:=T) (L':=cg ad2 x.al.length c2 x.al::L) (some ⟨b',dH,none⟩) c xs h5 h1 hw;exact h6.perm (cZ _ _ _)
theorem VP {id:Int}(I:U W w (Tree tq sq T::L))(hn:∀ y∈T.l,(y.id:Int)≠id) :
   Calls prog 143 #[pt tq,.int .i64 id] w λe w'=>e=.returned (.tuple #[.agg (ch ⟨0,0,[],0,0⟩ none 0).toArray,.bool false])∧U W w' (Tree tq sq T::L):=by
 refine EN func143 ntmps143 rfl rfl λa E=>?_;refine AL 1 E I λb4 a w E I=>?_;refine bh 4 E I (Ee (id:=id) (I.tree tq)) λr a w E ⟨hr,I⟩=>?_;obtain rfl:r = -1:=by
  rcases hr with ⟨h,_⟩ | ⟨j,y,_,h3,h4⟩
  ·exact h
  ·exact absurd h4 (hn y (bF h3))
 clear hr;refine RN 5 E I λa E=>?_;replace E:=E.ed 11;refine SA 3 E I λa w E I=>?_;refine RT 1 E I ?_;exact⟨rfl,I.sub⟩
theorem AK (I:U W w (Tree tq sq T::L)) :
   Calls prog 144 #[pt tq] w λe w'=>e=.returned (.int .i64 T.epoch)∧U W w' (Tree tq sq T::L):=by
 obtain⟨ad,c,xs,h1,hw,I⟩:=Tree.open I;refine EN func144 ntmps144 rfl rfl λa E=>?_;refine RN 6 E I λa E=>?_;replace E:=E.aP 4;refine RT 7 E I ?_;exact⟨rfl,Tree.same ad c xs I h1 hw⟩
def k8 (ad:Option Addr)(n c:Nat)(l:List Br):SP:=λh=>∃ ys:List Bx,(ys.map (·.1)=l∧l.length=n)∧cm [Sl 238 5 ad n c (rows da ys),ah bY ys] h
theorem k8.open {l:List Br}(I:U W w (k8 ad n c l::L)):∃ ys:List Bx,ys.map (·.1)=l∧l.length=n∧U W w (Sl 238 5 ad n c (rows da ys)::ah bY ys::L):=by
 obtain⟨xs,⟨h1,h2⟩,h3⟩:=I.jM (ι:=List Bx) (p:=λxs=>xs.map (·.1)=l∧l.length=n) (B:=λxs h=>cm [Sl 238 5 ad n c (rows da xs),ah bY xs] h) (λh ⟨xs,h1,h2⟩=>⟨xs,h1,h2⟩);exact⟨xs,h1,h2,h3.open λ_ h=>h⟩
theorem k8.close {l:List Br}(ys:List Bx)(I:U W w L)[k:fI L (Sl 238 5 ad n c (rows da ys)::ah bY ys::L') R](h1:ys.map (·.1)=l)(h2:l.length=n):U W w (k8 ad n c l::L') :=
 U.shut (M:=[_,_]) (I.sub (M:=Sl 238 5 ad n c (rows da ys)::ah bY ys::L')) (λ_ x=>⟨ys,⟨h1,h2⟩,x⟩)
theorem k8.nil (I:U W w L):U W w (k8 none 0 0 []::L):=by
 have h:U W w (Sl 238 5 none 0 0 (rows da [])::ah bY []::L):=(I.ja (f:=bY)).bM 238 5 none;exact k8.close [] h rfl rfl
theorem VQ (ys:List Bx)(y:Bx):rows da ys++[da y].flatten=rows da (ys++[y]):=by rw[kG];simp[rows]
theorem Ef (ys:List Bx)(x:Br)(ad:Option Addr)(c:Nat):rows da ys++[ch x ad c].flatten=rows da (ys++[(x,ad,c)]):=VQ ys (x,ad,c)
theorem AM (I:U W w (Tree tq sq T::L)) :
   Calls prog 88 #[pt tq] w λe w'=>∃ ad c,e=.returned (.slice ad T.l.length c)∧U W w' (k8 ad T.l.length c T.l::Tree tq sq T::L):=by
 obtain⟨ad,c,xs,h1,hw,I⟩:=Tree.open I;have b9:xs.length=T.l.length:=by rw[← h1,a8]
 have hT:=hw.most;refine EN func88 ntmps88 rfl rfl λa E=>?_;refine RN 6 E I λa E=>?_;replace E:=E.aP 7;refine RN 5 E I λa E=>?_;replace I:=k8.nil I;refine RN 6 E I λa E=>?_;refine aN (λμ a w=>∃ (k:Nat) (fu:Option Addr) (dJ:Nat),(μ=T.l.length-k∧k≤T.l.length)∧Fr a 24 [(3,.slice fu k dJ),(11,.slice ad T.l.length c),(12,.int .i64 T.l.length),(13,.int .i64 k)]∧U W w (k8 fu k dJ (T.l.take k)::aa tq 236 [pt sq,.int .i64 T.most,.slice ad T.l.length c,.int .i64 T.last,.int .i64 T.epoch]::Sl 238 5 ad T.l.length c (rows da xs)::ah bY xs::L)) (T.l.length) (⟨0,none,0,⟨by simp,by simp⟩,E.ab [3,11,12,13],I⟩) ?_;clear E I;rintro μ a w ⟨k,fu,dJ,⟨rfl,hk⟩,E,I⟩;refine IF 3 E I (λao a E=>?_) λao a E=>?_
 ·
  refine RN 2 E I λa E=>?_;obtain⟨b',dH,rfl,c9⟩:=I.bU ad (by omega);obtain⟨⟨x,eJ,de⟩,dY⟩:∃ y,xs[k]?=some y:=⟨_,aD (by omega)⟩;have fX:=oM c9 dY;have jB:T.l[k]?=some x:=by rw[← h1,bl,dY];rfl
  have kL:=(hw.ok x (bF jB)).1;refine RN 1 E I λa E=>?_;refine SS E (bT E underlying238 rfl Ty.t238 (fX)) λa E=>?_;refine AL 0 E I λb5 a w E I=>?_;refine SA 0 E I λa w E I=>?_;refine RN 2 E I λa E=>?_;obtain⟨zs,cV,eS,I⟩:=U.J0 (I.pick (ah bY xs)) dY;refine aZ 0 E I (JX (x:=x) (av:=eJ) (c':=de) I (λw' h=>U.mJ h) cV kL) λad2 c2 a w E I=>?_;refine RN 0 E I λa E=>?_;refine cp E rfl I underlying168 Ty.t238 rfl rfl rfl rfl (by decide) (by decide) λJ2 a w E I ho=>?_;clear ho;obtain⟨ys,g5,jh,I⟩:=k8.open (I.pick (k8 fu k dJ (T.l.take k)));refine RN 0 E I λa E=>?_;refine cQ E rfl I underlying168 Ty.t238 rfl rfl I.ai rfl (by simp[Value.oneCell',ch]) (by decide) (by decide) (by omega) λrN rO a w E I=>?_;have h8:=U.j1 (f:=bY) (l:=ys) (x:=(x,ad2,c2)) (I.sub (M:=cg ad2 x.al.length c2 x.al::ah bY ys::Sl 238 5 rN (k+1) rO (rows da ys++[ch x ad2 c2].flatten)::Sl 22 1 eJ x.al.length de (zs.map aM)::ah ba zs::ah bY (xs.eraseIdx k)::aa tq 236 [pt sq,.int .i64 T.most,.slice (some ⟨b',dH,none⟩) T.l.length c,.int .i64 T.last,.int .i64 T.epoch]::Sl 238 5 (some ⟨b',dH,none⟩) T.l.length c (rows da xs)::L));rw[Ef]at h8;have h9:=k8.close (l:=T.l.take (k+1)) (n:=k+1) (ad:=rN) (c:=rO) (L':=Sl 22 1 eJ x.al.length de (zs.map aM)::ah ba zs::ah bY (xs.eraseIdx k)::aa tq 236 [pt sq,.int .i64 T.most,.slice (some ⟨b',dH,none⟩) T.l.length c,.int .i64 T.last,.int .i64 T.epoch]::Sl 238 5 (some ⟨b',dH,none⟩) T.l.length c (rows da xs)::L) (ys++[(x,ad2,c2)]) h8 (by
   have dI:k<T.l.length:=by omega
   rw[cW,g5,jx dI];rw[aD dI]at jB;cases jB;rfl) (by rw[eA];omega)
  have fg:=U.J1 (L':=k8 rN (k+1) rO (T.l.take (k+1))::aa tq 236 [pt sq,.int .i64 T.most,.slice (some ⟨b',dH,none⟩) T.l.length c,.int .i64 T.last,.int .i64 T.epoch]::Sl 238 5 (some ⟨b',dH,none⟩) T.l.length c (rows da xs)::L) h9 dY cV rfl;replace I:=fg;clear h8 h9 fg;refine RN 3 E I λa E=>?_;exact⟨T.l.length-(k+1),by omega,k+1,_,_,⟨rfl,by omega⟩,E.ab [3,11,12,13],I.sub⟩
 refine RT 3 E I ?_;obtain rfl:k=T.l.length:=by omega
 rw[k4]at I;refine⟨_,_,rfl,?_⟩;have h6:=Tree.same (tq:=tq) (sq:=sq) (T:=T) (L':=k8 fu T.l.length dJ T.l::L) ad c xs I h1 hw;exact h6.perm (cZ _ _ _)
def Tr.add (T:Tr)(frm:Int)(p:List (List UInt8))(snap:Nat):Tr:={ T with l:=T.l++[⟨T.last+1,frm,p,0,snap⟩],last:=T.last+1 }
def Br.is (y:Br)(frm:Int)(p:List (List UInt8)):Prop:=y.frm=frm∧y.al=p
theorem J3 {u v:List (List UInt8)}(h:u.length=v.length):(pQ u v=true)↔u=v:=by
 rw[pQ,← h,Nat.min_self,k4,h,k4];simp
theorem J4 {frm sn:Int}{ad2:Option Addr}{m c2:Nat}(I:U W w (Tree tq sq T::L))(h:T.most≤T.l.length∨m=0) :
   Calls prog 306 #[pt tq,.int .i64 frm,.int .i64 sn,.slice ad2 m c2] w λe w'=>e=.returned (.tuple #[.int .i64 0,.bool false])∧U W w' (Tree tq sq T::L):=by
 obtain⟨ad,c,xs,h1,hw,I⟩:=Tree.open I;refine EN func306 ntmps306 rfl rfl λa E=>?_;refine bR 5 [11] [0,1,2,3,4,5,8,9,10,3006,7,1011,12,13,14,15,16,17,18] E I λa w E I hH hC=>?_;refine RH 3 E I hH hC λa E=>?_;replace E:=E.aP 16;refine RH 12 E I hH hC λa E=>?_;refine E.by (s:=28) (λk9 E=>?_) (λk9 E=>?_)
 ·
  refine RH 4 E I hH hC λa E=>?_;refine RT 4 E I ?_;exact⟨rfl,Tree.same ad c xs I h1 hw⟩
 refine RH 4 E I hH hC λa E=>?_;rw[dk (by omega)]at E;refine RT 4 E I ?_;exact⟨rfl,Tree.same ad c xs I h1 hw⟩
theorem VR {frm sn:Int}{ad2:Option Addr}{c2 j:Nat}{y:Br}(I:U W w (Tree tq sq T::L))(hp:∀ w',U W w' L→k6 w' ad2 p.length p)(hc:p.length≤c2)(dr:nX p)(hy:T.l[j]?=some y)(wD:y.is frm p) :
   Calls prog 306 #[pt tq,.int .i64 frm,.int .i64 sn,.slice ad2 p.length c2] w λe w'=>e=.returned (.tuple #[.int .i64 0,.bool false])∧U W w' (Tree tq sq T::L):=by
 obtain⟨ad,c,xs,h1,hw,I⟩:=Tree.open I;have b9:xs.length=T.l.length:=by rw[← h1,a8]
 have hT:=hw.most;have dQ:=(aY.1 hy).1;refine EN func306 ntmps306 rfl rfl λa E=>?_;refine bR 5 [11] [0,1,2,3,4,5,8,9,10,3006,7,1011,12,13,14,15,16,17,18] E I λa w E I hH hC=>?_;refine RH 3 E I hH hC λa E=>?_;replace E:=E.aP 16;refine RH 12 E I hH hC λa E=>?_;refine E.by (s:=28) (λk9 E=>?_) (λk9 E=>?_)
 ·
  refine RH 4 E I hH hC λa E=>?_;refine RT 4 E I ?_;exact⟨rfl,Tree.same ad c xs I h1 hw⟩
 refine RH 4 E I hH hC λa E=>?_;refine IF 0 E I (λaj a E=>?_) λaj a E=>?_
 ·
  refine RT 3 E I ?_;exact⟨rfl,Tree.same ad c xs I h1 hw⟩
 refine RN 8 E I λa E=>?_;refine aN (λμ a w=>∃ k:Nat,(μ=j-k∧k≤j)∧Fr a 101 [(1,.int .i64 frm),(3,.slice ad2 p.length c2),(36,.slice ad T.l.length c),(37,.int .i64 T.l.length),(38,.int .i64 k)]∧U W w (aa tq 236 [pt sq,.int .i64 T.most,.slice ad T.l.length c,.int .i64 T.last,.int .i64 T.epoch]::Sl 238 5 ad T.l.length c (rows da xs)::ah bY xs::L)) (j) (⟨0,⟨by simp,by simp⟩,E.ab [1,3,36,37,38],I.sub⟩) ?_;clear E I;rintro μ a w ⟨k,⟨rfl,hk⟩,E,I⟩;refine RN 3 E I λa E=>?_;rw[dk (by omega)]at E;refine RN 3 E I λa E=>?_;obtain⟨b',dH,rfl,c9⟩:=I.bU ad (by omega);obtain⟨⟨x,eJ,de⟩,dY⟩:∃ y,xs[k]?=some y:=⟨_,aD (by omega)⟩;have fX:=oM c9 dY;have jB:T.l[k]?=some x:=by rw[← h1,bl,dY];rfl
 have kL:=(hw.ok x (bF jB)).1;have ym:k=j→x=y:=λe=>by rw[e,hy]at jB;cases jB;rfl
 refine RN 1 E I λa E=>?_;refine SS E (bT E underlying238 rfl Ty.t238 (fX)) λa E=>?_;refine AL 0 E I λiN a w E I=>?_;refine SA 0 E I λa w E I=>?_;refine BY 6 E I (λdE a E=>?_) λdE a E=>?_
 ·
  refine BY 8 E I (λiq a E=>?_) λiq a E=>?_
  ·
   refine RN 3 E I λa E=>?_;have fJ:=ah.pP (I.pick (ah bY xs)) dY;refine CL 0 E I (Eb (u:=x.al) (v:=p) I fJ.1 (hp _ I.sub) fJ.2 hc (by have:=kL.1;omega)) λa w E I=>?_;refine IF 1 E I (λay a E=>?_) λay a E=>?_
   ·
    refine RT 3 E I ?_;exact⟨rfl,Tree.same (some ⟨b',dH,none⟩) c xs I h1 hw⟩
   have bD : k ≠ j := fun e => by
       have AN:x.al=p:=by rw[ym e];exact wD.2
       rw[(J3 (by rw[AN])).2 AN]at ay;cases ay
   refine RN 2 E I λa E=>?_;exact⟨j-(k+1),by omega,k+1,⟨rfl,by omega⟩,E.ab [1,3,36,37,38],I.sub⟩
  have bD:k≠j:=λe=>iq (by rw[ym e,wD.2]);refine RN 3 E I λa E=>?_;have fJ:=ah.pP (I.pick (ah bY xs)) dY;refine RN 5 E I λa E=>?_;exact⟨j-(k+1),by omega,k+1,⟨rfl,by omega⟩,E.ab [1,3,36,37,38],I.sub⟩
 have bD:k≠j:=λe=>dE (by rw[ym e];exact wD.1);refine RN 11 E I λa E=>?_;have fJ:=ah.pP (I.pick (ah bY xs)) dY;refine RN 5 E I λa E=>?_;exact⟨j-(k+1),by omega,k+1,⟨rfl,by omega⟩,E.ab [1,3,36,37,38],I.sub⟩
theorem WT.add {frm:Int}{sn:Nat}(h:WT T)(h1:T.l.length<T.most)(h2:T.last+1<1099511627776)(dr:nX p):WT (T.add frm p sn):=by
 obtain⟨c0,cU,a3,a4,a5⟩:=h;refine⟨⟨c0.1,by simp[Tr.add];omega⟩,h2,a3,?_,λx hx=>?_⟩
 ·simp only[Tr.add,cW,map_cons,map_nil];refine List.pairwise_append.2 ⟨a4,by simp,λu hu v hv=>?_⟩;obtain⟨x,hx,rfl⟩:=cR.1 hu;have:=(a5 x hx).2.2.2;simp at hv;omega
 ·simp only[Tr.add]at hx ⊢;rcases eT.1 hx with hx | hx
  ·obtain⟨b1,b2,b3,b4⟩:=a5 x hx;exact⟨b1,b2,b3,by omega⟩
  ·simp at hx;subst hx;exact⟨dr,Nat.zero_le _,by simp,a7 _⟩
theorem VS {frm:Int}{ad2:Option Addr}{c2 i:Nat}{zs:List ee}{px:aC}(I:U W w (Tree tq sq T::ax sq r A::L))(hr:∀ w',U W w' L→iM w' ad2 zs)(hz:zs.map (·.2.2)=p)(hc:p.length≤c2)(dr:nX p)
   (hx:A.ar[i]?=some px) (hb:A.n+1<1099511627776) (hl:T.last+1<1099511627776) (bQ:∀ y∈T.l,¬ y.is frm p) (hm:T.l.length<T.most) (h0:0<p.length) :
   Calls prog 306 #[pt tq,.int .i64 frm,.int .i64 px.id,.slice ad2 p.length c2] w λe w'=>e=.returned (.tuple #[.int .i64 ((T.last+1:Nat):Int),.bool true])∧U W w' (Tree tq sq (T.add frm p (A.last+1))::ax sq r (A.add px.g px.p)::L):=by
 obtain⟨ad,c,xs,h1,hw,I⟩:=Tree.open I;have b9:xs.length=T.l.length:=by rw[← h1,a8]
 have hT:=hw.most;have hp:∀ w',U W w' L→k6 w' ad2 p.length p:=λw' h=>by
  have:=(hr w' h).bb;rw[hz]at this
  rwa [show zs.length=p.length from by rw[← hz,a8]]at this
 refine EN func306 ntmps306 rfl rfl λa E=>?_;refine bR 5 [11] [0,1,2,3,4,5,8,9,10,3006,7,1011,12,13,14,15,16,17,18] E I λa w E I hH hC=>?_;refine RH 3 E I hH hC λa E=>?_;replace E:=E.aP 16;refine RH 12 E I hH hC λa E=>?_;rw[bo (by omega)]at E;refine RH 4 E I hH hC λa E=>?_;rw[bo (by omega)]at E;refine RN 9 E I λa E=>?_;refine aN (λμ a w=>∃ k:Nat,(μ=T.l.length-k∧k≤T.l.length)∧Fr a 101 [(0,pt tq),(1,.int .i64 frm),(2,.int .i64 px.id),(3,.slice ad2 p.length c2),(36,.slice ad T.l.length c),(37,.int .i64 T.l.length),(38,.int .i64 k)]∧U W w (aa tq 236 [pt sq,.int .i64 T.most,.slice ad T.l.length c,.int .i64 T.last,.int .i64 T.epoch]::Sl 238 5 ad T.l.length c (rows da xs)::ah bY xs::ax sq r A::L)) (T.l.length) (⟨0,⟨by simp,by simp⟩,E.ab [0,1,2,3,36,37,38],I.sub⟩) ?_;clear E I;rintro μ a w ⟨k,⟨rfl,hk⟩,E,I⟩;refine IF 3 E I (λao a E=>?_) λao a E=>?_
 ·
  refine RN 2 E I λa E=>?_;obtain⟨b',dH,rfl,c9⟩:=I.bU ad (by omega);obtain⟨⟨x,eJ,de⟩,dY⟩:∃ y,xs[k]?=some y:=⟨_,aD (by omega)⟩;have fX:=oM c9 dY;have jB:T.l[k]?=some x:=by rw[← h1,bl,dY];rfl
  have eI:=bF jB;have kL:=(hw.ok x eI).1;have VT:=bQ x eI;refine RN 1 E I λa E=>?_;refine SS E (bT E underlying238 rfl Ty.t238 (fX)) λa E=>?_;refine AL 0 E I λiN a w E I=>?_;refine SA 0 E I λa w E I=>?_;refine BY 6 E I (λdE a E=>?_) λdE a E=>?_
  ·
   refine BY 8 E I (λiq a E=>?_) λiq a E=>?_
   ·
    refine RN 3 E I λa E=>?_;have fJ:=ah.pP (I.pick (ah bY xs)) dY;refine CL 0 E I (Eb (u:=x.al) (v:=p) I fJ.1 (hp _ I.sub) fJ.2 hc (by have:=kL.1;omega)) λa w E I=>?_;refine IF 1 E I (λay a E=>?_) λay a E=>?_
    ·
     (try simp only at iq);exact absurd ⟨by omega,(J3 (by omega)).1 ay⟩ VT
    refine RN 2 E I λa E=>?_;exact⟨T.l.length-(k+1),by omega,k+1,⟨rfl,by omega⟩,E.ab [0,1,2,3,36,37,38],I.sub⟩
   refine RN 3 E I λa E=>?_;have fJ:=ah.pP (I.pick (ah bY xs)) dY;refine RN 5 E I λa E=>?_;exact⟨T.l.length-(k+1),by omega,k+1,⟨rfl,by omega⟩,E.ab [0,1,2,3,36,37,38],I.sub⟩
  refine RN 11 E I λa E=>?_;have fJ:=ah.pP (I.pick (ah bY xs)) dY;refine RN 5 E I λa E=>?_;exact⟨T.l.length-(k+1),by omega,k+1,⟨rfl,by omega⟩,E.ab [0,1,2,3,36,37,38],I.sub⟩
 refine CL 6 E I (JO (I.pick (ax sq r A)) hx hb) λa w E I=>?_;refine RN 9 E I λa E=>?_;replace E:=E.aP 71;refine ST 9 E I (λa w E I=>?_);rw[show ((T.last:Int)+1)=((T.last+1:Nat):Int) from rfl]at I;refine aV 1 (λw0 w'=>w'.cell? ⟨tq,2,none⟩=some (.slice ad T.l.length c)∧w'.cell? ⟨tq,3,none⟩=some (.int .i64 ((T.last+1:Nat):Int))) [8,11,13,14] [0,1,2,3,5,6,7,9,10,12,3004,3008,1011,1013,1014,1015,16,17,1018] E I λa w E I hH=>?_;have hC:=hH.at w ⟨I.bz rfl,I.bz rfl⟩;refine RH 10 E I hH hC λa E=>?_;refine QH E (λw hc=>ae E (hc.1)) hC λa E=>?_;refine QH E (λw hc=>ae E (hc.2)) hC λa E=>?_;refine RH 0 E I hH hC λa E=>?_;refine aZ 0 E I (JV I (λw' h=>hr w' h.sub) (by rw[← hz,a8]) (by rw[hz];exact dr)) λmO hX a w E I=>?_;replace hC:=hH.at w ⟨I.bz rfl,I.bz rfl⟩;refine RH 1 E I hH hC λa E=>?_;refine cp E rfl I underlying168 Ty.t238 rfl rfl rfl rfl (by decide) (by decide) λb93 a w E I ho=>?_;clear ho;replace hC:=hH.at w ⟨I.bz rfl,I.bz rfl⟩;refine RH 0 E I hH hC λa E=>?_;refine cQ E rfl I underlying168 Ty.t238 rfl rfl I.ai rfl (by simp[Value.oneCell']) (by decide) (by decide) (by omega) λyn yo a w E I=>?_;refine ST 2 E I (λa w E I=>?_);refine RT 7 E I ?_;refine⟨rfl,?_⟩;rw[hz]at I;have h8:=U.j1 (f:=bY) (l:=xs) (x:=(⟨T.last+1,frm,p,0,A.last+1⟩,mO,hX)) (I.sub (M:=cg mO p.length hX p::ah bY xs::aa tq 236 [pt sq,.int .i64 T.most,.slice yn (T.l.length+1) yo,.int .i64 ((T.last+1:Nat):Int),.int .i64 T.epoch]::Sl 238 5 yn (T.l.length+1) yo (rows da xs++[[.int .i64 ((T.last+1:Nat):Int),.int .i64 frm,.slice mO p.length hX,.int .i64 0,.int .i64 ((A.last+1:Nat):Int)]].flatten)::ax sq r (A.add px.g px.p)::L));have h9:U W w (ah bY (xs++[(⟨T.last+1,frm,p,0,A.last+1⟩,mO,hX)])::aa tq 236 [pt sq,.int .i64 T.most,.slice yn (T.l.length+1) yo,.int .i64 ((T.last+1:Nat):Int),.int .i64 T.epoch]::Sl 238 5 yn (T.l.length+1) yo (rows da (xs++[(⟨T.last+1,frm,p,0,A.last+1⟩,mO,hX)]))::ax sq r (A.add px.g px.p)::L):=by
  rw[← Ef];exact h8
 exact Tree.close (T:=T.add frm p (A.last+1)) (ad:=yn) (c:=yo) (xs:=xs++[(⟨T.last+1,frm,p,0,A.last+1⟩,mO,hX)]) (n:=T.l.length+1) (most:=T.most) (last:=T.last+1) (epoch:=T.epoch) h9 (by simp[Tr.add,h1]) (hw.add hm hl dr) rfl (by simp[Tr.add]) rfl rfl
def Tr.iO (T:Tr)(k:Nat)(x:Br)(done snap:Nat):Tr:={ T with l:=T.l.set k { x with done:=done,snap:=snap } }
theorem WT.iO {d sn:Nat}(h:WT T)(hx:T.l[k]?=some x)(hd:d≤x.al.length):WT (T.iO k x d sn):=by
 obtain⟨c0,cU,a3,a4,a5⟩:=h;obtain⟨hi,rfl⟩:=aY.1 hx;refine⟨⟨c0.1,by simp[Tr.iO];exact c0.2⟩,cU,a3,?_,λy hy=>?_⟩
 ·have : (T.l.set k { T.l[k] with done := d, snap := sn }).map (·.id) = T.l.map (·.id) := by
   apply ext_getElem?;intro j;simp only[bl,jO];by_cases hj:k=j
   ·subst hj;simp[hi]
   ·rw[ag hj]
  simp only[Tr.iO];rw[this];exact a4
 ·simp only[Tr.iO]at hy ⊢;rcases rK hy with hy | rfl
  ·exact a5 y hy
  ·obtain⟨b1,b2,b3,b4⟩:=a5 _ (jd hi);exact⟨b1,hd,b3,b4⟩
theorem WT.unique (hw:WT T){j:Nat}{y:Br}(hx:T.l[k]?=some x)(hy:T.l[j]?=some y)(he:y.id=x.id):j=k:=by
 have hp:=List.pairwise_iff_getElem.1 hw.ids;obtain⟨hj,rfl⟩:=aY.1 hy;obtain⟨hk,rfl⟩:=aY.1 hx;rcases Nat.lt_trichotomy j k with hl | hl | hl
 ·have:=hp j k (by simpa using hj) (by simpa using hk) hl;simp at this;omega
 ·exact hl
 ·have:=hp k j (by simpa using hk) (by simpa using hj) hl;simp at this;omega
theorem J5 (I:U W w (Tree tq sq T::L))(hx:T.l[k]?=some x) :
   Calls prog 183 #[pt tq,.int .i64 x.id] w λe w'=>e=.returned (.int .i64 k)∧U W w' (Tree tq sq T::L):=by
 refine (Ee (id:=(x.id:Int)) I).mono λe w' ⟨r,h1,h2,h3⟩=>⟨?_,h3⟩;rcases h2 with ⟨_,h4⟩ | ⟨j,y,h4,h5,h6⟩
 ·exact absurd rfl (h4 x (bF hx))
 ·rw[h1,h4,(Tree.wt h3).unique hx h5 (by omega)]
theorem VU {i:Nat}{px:aC}{d sn:Int}(I:U W w (Tree tq sq T::ax sq r A::L))(hx:T.l[k]?=some x)(bQ:d≤x.done∨(x.al.length:Int)<d∨∀ y∈A.ar,(y.id:Int)≠sn) :
   Calls prog 186 #[pt tq,.int .i64 x.id,.int .i64 d,.int .i64 sn] w λe w'=>e=.returned (.bool false)∧U W w' (Tree tq sq T::ax sq r A::L):=by
 have dI:=(aY.1 hx).1;refine EN func186 ntmps186 rfl rfl λa E=>?_;refine CL 5 E I (J5 I hx) λa w E I=>?_;refine RN 3 E I λa E=>?_;obtain⟨ad,c,xs,h1,hw,I⟩:=Tree.open (I.tree tq);obtain⟨eJ,de,dY⟩:=Ea h1 hx;obtain⟨b',dH,rfl,c9⟩:=I.tail.bU ad (by omega);have fX:=oM c9 dY;have vY:=fX 3 _ rfl;have j9:=fX 2 _ rfl;refine RN 3 E I λa E=>?_;rw[bo (by omega)]at E;refine RN 8 E I λa E=>?_;refine bw E (cw E rfl (s:=15)) (ae E (vY)) rfl λa E=>?_;refine BY 3 E I (λk9 a E=>?_) λk9 a E=>?_
 ·
  skip
  refine RT 24 E I ?_;exact⟨rfl,Tree.same (L':=ax sq r A::L) (some ⟨b',dH,none⟩) c xs I h1 hw⟩
 refine RN 8 E I λa E=>?_;refine bw E (cw E rfl (s:=27)) (ae E (j9)) rfl λa E=>?_;refine BY 4 E I (λVV a E=>?_) λVV a E=>?_
 ·
  refine RT 11 E I ?_;exact⟨rfl,Tree.same (L':=ax sq r A::L) (some ⟨b',dH,none⟩) c xs I h1 hw⟩
 refine CL 5 E I (Vj (I.pick (ax sq r A)) (by rcases bQ with h | h | h;omega;omega;exact h)) λa w E I=>?_;refine RN 2 E I λa E=>?_;replace E:=E.ed 48;refine RT 3 E I ?_;exact⟨rfl,Tree.same (L':=ax sq r A::L) (some ⟨b',dH,none⟩) c xs I h1 hw⟩
end
end
section
def Sn.eB (A:Sn)(id:Nat):Sn:=match A.ar.findIdx? (λx=>x.id==id) with
 | some i=>match A.ar[i]? with
  | some x=>A.drop i x
  | none=>A
 | none=>A
section
variable {W w:World}{L R:List SP}{tq sq q r n c k:Nat}{ad:Option Addr}{A:Sn}{T:Tr}{x y:Br}{xs:List Bx}{p:List (List UInt8)}
theorem Eg {id:Nat}(h:∀ y∈A.ar,y.id≠id):A.eB id=A:=by
 have:A.ar.findIdx? (λx=>x.id==id)=none:=by rw[List.findIdx?_eq_none_iff];intro y hy;simpa using h y hy
 rw[Sn.eB,this]
theorem yp {i:Nat}{px:aC}(hw:WF A)(hx:A.ar[i]?=some px):A.eB px.id=A.drop i px:=by
 obtain⟨hi,he⟩:=aY.1 hx;have:A.ar.findIdx? (λx=>x.id==px.id)=some i:=by
  rw[List.findIdx?_eq_some_iff_getElem];refine⟨hi,by simp[he],λj hj=>?_⟩;have dQ:j<A.ar.length:=by omega
  simp only[Bool.not_eq_true,mc,ne_eq];intro e;have:=hw.ids (aD dQ) hx e;omega
 rw[Sn.eB,this];simp only[hx]
theorem AO {id:Nat}(I:U W w (ax q r A::L)) :
   Calls prog 185 #[pt q,.int .i64 id] w λe w'=>∃ v,e=.returned (.bool v)∧U W w' (ax q r (A.eB id)::L):=by
 by_cases h:∃ px∈A.ar,px.id=id
 ·obtain⟨px,h1,rfl⟩:=h;obtain⟨i,hi⟩:=j7.1 h1;have hw:=(ax.open I);obtain⟨_,_,_,_,_,hw,_,_⟩:=hw;refine (Vp I hi).mono λe w' ⟨h2,h3⟩=>⟨_,h2,?_⟩;rw[yp hw hi];exact h3
 ·have hn:∀ y∈A.ar,y.id≠id:=λy hy e=>h ⟨y,hy,e⟩;refine (Vq (X:=(id:Int)) I (λy hy e=>hn y hy (by omega))).mono λe w' ⟨h2,h3⟩=>⟨_,h2,?_⟩;rw[Eg hn];exact h3
theorem J6 {p q r:List Value}{i:Nat}{v:Value}(h:i<q.length):(p++q++r).set (p.length+i) v=p++q.set i v++r:=by
 rw[dx,uz _ _ (by omega),show p.length+i-p.length=i from by omega,sT _ _ h,dx]
theorem VW {i d:Nat}{px:aC}(I:U W w (Tree tq sq T::ax sq r A::L))(hx:T.l[k]?=some x)(hd:x.done<d)(kM:d≤x.al.length)(hp:A.ar[i]?=some px) :
   Calls prog 186 #[pt tq,.int .i64 x.id,.int .i64 d,.int .i64 px.id] w λe w'=>e=.returned (.bool true)∧U W w' (Tree tq sq (T.iO k x d px.id)::ax sq r (A.eB x.snap)::L):=by
 have dI:=(aY.1 hx).1;have a6:1≤px.refs:=by
  obtain⟨_,_,_,_,_,hw,_,_⟩:=ax.open (I.pick (ax sq r A));exact (hw.mM px (bF hp)).2.2.1
 refine EN func186 ntmps186 rfl rfl λa E=>?_;refine CL 5 E I (J5 I hx) λa w E I=>?_;refine RN 3 E I λa E=>?_;obtain⟨ad,c,xs,h1,hw,I⟩:=Tree.open (I.tree tq);obtain⟨eJ,de,dY⟩:=Ea h1 hx;obtain⟨b',dH,rfl,c9⟩:=I.tail.bU ad (by omega);have fX:=oM c9 dY;have vY:=fX 3 _ rfl;have j9:=fX 2 _ rfl;refine RN 3 E I λa E=>?_;rw[bo (by omega)]at E;refine RN 8 E I λa E=>?_;refine bw E (cw E rfl (s:=15)) (ae E (vY)) rfl λa E=>?_;refine RN 3 E I λa E=>?_;rw[bo (by omega)]at E;refine RN 8 E I λa E=>?_;refine bw E (cw E rfl (s:=27)) (ae E (j9)) rfl λa E=>?_;refine RN 4 E I λa E=>?_;rw[bo (by omega)]at E;refine CL 5 E I (Vi (I.pick (ax sq r A)) hp) λa w E I=>?_;refine RN 2 E I λa E=>?_;rw[bo (by omega)]at E;refine RN 2 E I λa E=>?_;have VX:=I.cK (n:=T.l.length) b' dH (by omega);have J7:w.drew.cell? ⟨b',dH+k*5+4,none⟩=some (.int .i64 x.snap):=oM VX dY 4 _ rfl;refine rG 0 (Old w.drew) [7,9,10,11] [0,1,2,4,5,6,8,3003,1007,1009,1010,1011,1012] E I λa E=>?_;replace I:=I.drew;have hH:=Hd.gE I;have hC:=Old.refl w.drew;generalize w.drew=w at I hH hC J7 ⊢;refine RH 11 E I hH hC λa E=>?_;refine SS E (ae E (J7)) λa E=>?_;refine RH 0 E I hH hC λa E=>?_;refine bh 0 E I (AO (id:=x.snap) (I.pick (ax sq r A))) λ_ a w E I=>?_;refine RN 1 E I λa E=>?_;obtain⟨bb,pre,post,⟨h3,h4,h5,h6⟩,gI⟩:=(I.pick (Sl 238 5 (some ⟨b',dH,none⟩) T.l.length c (rows da xs))).l8 (by have:=(I.sl (some ⟨b',dH,none⟩)).2;omega);cases h5;replace I:=gI;clear gI;have b9:xs.length=T.l.length:=by rw[← h1,a8]
 have uP:k<xs.length:=by omega
 have g4:xs[k]=(x,eJ,de):=(aY.1 dY).2;have gv:(rows da xs).length=xs.length*5:=jw tj xs;refine bR 0 [8] [0,1,2,4,5,6,7,9,10,11,3003,1008,12,13,1014,15,16,1017] E I λa w E I hH hC=>?_;refine RH 14 E I hH hC λa E=>?_;refine ST 0 E I (λa w E I=>?_) (hlt:=(by simp only[aJ];omega));rw[show pre.length+k*5+3=pre.length+(k*5+3) from by omega,J6 (by omega),qG tj xs ({ x with done:=d },eJ,de) uP (by decide) (by rw[g4];rfl)]at I;refine ST 2 E I (λa w E I=>?_) (hlt:=(by simp only[aJ,jw tj,bt];omega));rw[show pre.length+k*5+4=pre.length+(k*5+4) from by omega,J6 (by simp only[jw tj,bt];omega),qG tj _ ({ x with done:=d,snap:=px.id },eJ,de) (by rw[bt];exact uP) (by decide) (by rw[oH];rfl),set_set]at I;refine RT 2 E I ?_;refine⟨rfl,?_⟩;have h7:=U.iZ (n:=T.l.length) (c:=c) (sz:=5) (cs:=rows da (xs.set k ({ x with done:=d,snap:=px.id },eJ,de))) (I.jZ b') (by rw[jw tj,bt,b9]) h4 h6;have h8:=(h7.pick (ah bY xs)).fy uP;rw[g4]at h8;have h9:U W w (bY ({ x with done:=d,snap:=px.id },eJ,de)::ah bY (xs.eraseIdx k)::_):=h8;have fg:=U.kZ uP h9;exact Tree.close (T:=T.iO k x d px.id) (ad:=some ⟨b',pre.length,none⟩) (c:=c) (xs:=xs.set k ({ x with done:=d,snap:=px.id },eJ,de)) (n:=T.l.length) (most:=T.most) (last:=T.last) (epoch:=T.epoch) fg (by rw[jz,h1];rfl) (hw.iO hx kM) rfl (by simp[Tr.iO]) rfl rfl
def iu (frm:Int)(p:List (List UInt8))(b:Br)(x:Br):Br:=if x.frm=frm∧b.done<x.done∧x.done≤p.length∧pQ (x.al.take x.done) p=true then x else b
def mP:Br:=⟨0,0,[],0,0⟩
def Tr.fK (T:Tr)(frm:Int)(p:List (List UInt8)):Br:=T.l.foldl (iu frm p) mP
theorem VY {l:List Br}{frm:Int}(h:l[k]?=some x):(l.take (k+1)).foldl (iu frm p) mP=iu frm p ((l.take k).foldl (iu frm p) mP) x:=by
 obtain⟨hk,rfl⟩:=aY.1 h;rw[jx hk,foldl_append];rfl
theorem J8 {frm:Int}{ad2:Option Addr}{c2:Nat}(I:U W w (Tree tq sq T::L))(hp:∀ w',U W w' L→k6 w' ad2 p.length p)(hc:p.length≤c2)(dr:nX p) :
   Calls prog 279 #[pt tq,.int .i64 frm,.slice ad2 p.length c2] w λe w'=>∃ ad c,e=.returned (.tuple #[.agg (ch (T.fK frm p) ad c).toArray,.bool (decide (0<(T.fK frm p).done))])∧U W w' (Tree tq sq T::L):=by
 have hw:=Tree.wt I;have hT:=hw.most;refine EN func279 ntmps279 rfl rfl λa E=>?_;refine AL 1 E I λcH a w E I=>?_;change U W w (aa cH 238 (ch mP none 0)::_) at I;refine AL 3 E I λb8 a w E I=>?_;refine SA 0 E I λa w E I=>?_;change U W w (aa b8 238 (ch ((T.l.take 0).foldl (iu frm p) mP) none 0)::_) at I;refine aZ 3 E I (AM (I.tree tq)) λad c a w E I=>?_;obtain⟨xs,h1,h2,I⟩:=k8.open I;have b9:xs.length=T.l.length:=by rw[← h1,a8]
 refine RN 2 E I λa E=>?_;refine aN (λμ a w=>∃ (k:Nat) (dZ:Option Addr) (cb:Nat),(μ=T.l.length-k∧k≤T.l.length)∧Fr a 52 [(1,.int .i64 frm),(2,.slice ad2 p.length c2),(6,pt cH),(8,pt b8),(13,.slice ad T.l.length c),(14,.int .i64 T.l.length),(15,.int .i64 k)]∧U W w (aa b8 238 (ch ((T.l.take k).foldl (iu frm p) mP) dZ cb)::Sl 238 5 ad T.l.length c (rows da xs)::ah bY xs::Tree tq sq T::aa cH 238 (ch mP none 0)::L)) (T.l.length) (⟨0,none,0,⟨by simp,by simp⟩,E.ab [1,2,6,8,13,14,15],I.sub⟩) ?_;clear E I;rintro μ a w ⟨k,dZ,cb,⟨rfl,hk⟩,E,I⟩;refine IF 3 E I (λaj a E=>?_) λaj a E=>?_
 ·
  refine RN 2 E I λa E=>?_;obtain⟨b',dH,rfl,c9⟩:=I.bU ad (by omega);obtain⟨⟨x,eJ,de⟩,dY⟩:∃ y,xs[k]?=some y:=⟨_,aD (by omega)⟩;have fX:=oM c9 dY;have jB:T.l[k]?=some x:=by rw[← h1,bl,dY];rfl
  have kL:=hw.ok x (bF jB);have qM:=VY (frm:=frm) (p:=p) jB;obtain⟨B,hB⟩:∃ B,(T.l.take k).foldl (iu frm p) mP=B:=⟨_,rfl⟩;rw[hB]at I qM;refine RN 1 E I λa E=>?_;refine SS E (bT E underlying238 rfl Ty.t238 (fX)) λa E=>?_;refine AL 0 E I λkK a w E I=>?_;refine SA 0 E I λa w E I=>?_;refine BY 6 E I (λdE a E=>?_) λdE a E=>?_
  ·
   refine BY 7 E I (λla a E=>?_) λla a E=>?_
   ·
    refine BY 7 E I (λuQ a E=>?_) λuQ a E=>?_
    ·
     refine RN 4 E I λa E=>?_;have fJ:=ah.pP (I.pick (ah bY xs)) dY;have qN:=kL.2.1;refine RN 1 E I λa E=>?_;rw[rH,Nat.sub_zero,Nat.sub_zero]at E;rw[show Value.slice eJ x.done de=Value.slice eJ (x.al.take x.done).length de from by rw[eA,Nat.min_eq_left qN]]at E;refine CL 1 E I (Eb (u:=x.al.take x.done) (v:=p) (ad:=eJ) (c:=de) I (by
      have:=fJ.1.take qN
      rwa [show (x.al.take x.done).length=x.done from by rw[eA];omega]) (hp _ I.sub) (by rw[eA];omega) hc (by rw[eA];have:=kL.1.1;omega)) λa w E I=>?_
     refine IF 1 E I (λao a E=>?_) λao a E=>?_
     ·
      have rP:iu frm p B x=x:=ak ⟨by omega,by omega,by omega,ao⟩;refine SA 1 E I λa w E I=>?_;refine RN 2 E I λa E=>?_;exact⟨T.l.length-(k+1),by omega,k+1,_,_,⟨rfl,by omega⟩,E.ab [1,2,6,8,13,14,15],by rw[qM,rP];exact I.sub (M:=aa b8 238 (ch x eJ de)::Sl 238 5 (some ⟨b',dH,none⟩) T.l.length c (rows da xs)::ah bY xs::Tree tq sq T::aa cH 238 (ch mP none 0)::L)⟩
     have rP:iu frm p B x=B:=ag (λh=>by rw[h.2.2.2]at ao;cases ao);refine RN 2 E I λa E=>?_;exact⟨T.l.length-(k+1),by omega,k+1,_,_,⟨rfl,by omega⟩,E.ab [1,2,6,8,13,14,15],by rw[qM,rP];exact I.sub (M:=aa b8 238 (ch B dZ cb)::Sl 238 5 (some ⟨b',dH,none⟩) T.l.length c (rows da xs)::ah bY xs::Tree tq sq T::aa cH 238 (ch mP none 0)::L)⟩
    have rP:iu frm p B x=B:=ag (by omega);refine RN 4 E I λa E=>?_;have fJ:=ah.pP (I.pick (ah bY xs)) dY;have qN:=kL.2.1;refine RN 7 E I λa E=>?_;exact⟨T.l.length-(k+1),by omega,k+1,_,_,⟨rfl,by omega⟩,E.ab [1,2,6,8,13,14,15],by rw[qM,rP];exact I.sub (M:=aa b8 238 (ch B dZ cb)::Sl 238 5 (some ⟨b',dH,none⟩) T.l.length c (rows da xs)::ah bY xs::Tree tq sq T::aa cH 238 (ch mP none 0)::L)⟩
   have rP:iu frm p B x=B:=ag (by omega);refine RN 11 E I λa E=>?_;have fJ:=ah.pP (I.pick (ah bY xs)) dY;have qN:=kL.2.1;refine RN 7 E I λa E=>?_;exact⟨T.l.length-(k+1),by omega,k+1,_,_,⟨rfl,by omega⟩,E.ab [1,2,6,8,13,14,15],by rw[qM,rP];exact I.sub (M:=aa b8 238 (ch B dZ cb)::Sl 238 5 (some ⟨b',dH,none⟩) T.l.length c (rows da xs)::ah bY xs::Tree tq sq T::aa cH 238 (ch mP none 0)::L)⟩
  have rP:iu frm p B x=B:=ag (by omega);refine RN 18 E I λa E=>?_;have fJ:=ah.pP (I.pick (ah bY xs)) dY;have qN:=kL.2.1;refine RN 7 E I λa E=>?_;exact⟨T.l.length-(k+1),by omega,k+1,_,_,⟨rfl,by omega⟩,E.ab [1,2,6,8,13,14,15],by rw[qM,rP];exact I.sub (M:=aa b8 238 (ch B dZ cb)::Sl 238 5 (some ⟨b',dH,none⟩) T.l.length c (rows da xs)::ah bY xs::Tree tq sq T::aa cH 238 (ch mP none 0)::L)⟩
 refine RN 1 E I λa E=>?_;obtain rfl:k=T.l.length:=by omega
 rw[k4]at I;rw[show T.l.foldl (iu frm p) mP=T.fK frm p from rfl]at I;refine aV 0 (λw0 w'=>Rd w' b8 0 (ch (T.fK frm p) dZ cb)) [2,3,4] [1,3000,3002,3003,1004,5] E I λa w E I hH=>?_;have hC:=hH.at w I.ai;refine RH 1 E I hH hC λa E=>?_;refine QH E (λw hc=>bT E underlying238 rfl Ty.t238 (hc)) hC λa E=>?_;refine QH E (λw hc=>ae E (hc 3 _ rfl)) hC λa E=>?_;refine RH 1 E I hH hC λa E=>?_;refine SA 0 E I λa w E I=>?_;replace hC:=hH.at w I.ai;refine RH 1 E I hH hC λa E=>?_;refine RT 0 E I ?_;refine⟨dZ,cb,?_,I.sub⟩;rw[show decide ((0:Int)<((T.fK frm p).done:Int))=decide (0<(T.fK frm p).done) from by rw[decide_eq_decide];omega]
def Tr.cut (T:Tr)(wh:Br→Bool):Tr:={ T with l:=T.l.filter (λx=>!wh x),epoch:=T.epoch+if (T.l.filter (λx=>!wh x)).length<T.l.length then 1 else 0 }
def Sn.gV (A:Sn)(l:List Br):Sn:=l.foldl (λA x=>A.eB x.snap) A
theorem VZ {A:Sn}{l:List Br}{wh:Br→Bool}(h:l[k]?=some x):A.gV ((l.take (k+1)).filter wh)=if wh x=true then (A.gV ((l.take k).filter wh)).eB x.snap else A.gV ((l.take k).filter wh):=by
 obtain⟨hk,rfl⟩:=aY.1 h;rw[jx hk,yq];by_cases hw:wh l[k]=true
 ·rw[ak hw,Sn.gV,foldl_append];simp[hw,Sn.gV]
 ·rw[ag hw];simp[hw]
theorem V0 {α:Type}{l:List α}{f:α→Bool}{z:α}(h:l[k]?=some z):(l.take (k+1)).filter f=(l.take k).filter f++if f z=true then [z] else []:=by
 obtain⟨hk,rfl⟩:=aY.1 h;rw[jx hk,yq];by_cases hw:f l[k]=true <;> simp[hw]
theorem V1 (xs:List Bx)(f:Br→Bool):(xs.filter (λz=>f z.1)).map (·.1)=(xs.map (·.1)).filter f:=by
 induction xs with
 | nil=>rfl
 | cons z xs ih =>
  by_cases h:f z.1=true <;> simp[h]at ih ⊢ <;> exact ih
theorem WT.cut (h:WT T)(he:T.epoch+1<1099511627776)(wh:Br→Bool):WT (T.cut wh):=by
 obtain⟨c0,cU,a3,a4,a5⟩:=h;refine⟨⟨c0.1,?_⟩,cU,?_,?_,λy hy=>?_⟩
 ·simp only[Tr.cut];exact fG (pR _ _) c0.2
 ·simp only[Tr.cut];split <;> omega
 ·simp only[Tr.cut];exact a4.sublist (List.Sublist.map _ List.filter_sublist)
 ·simp only[Tr.cut]at hy ⊢;exact a5 y (List.mem_filter.1 hy).1
class Tl (M L:List SP):Prop where h:∃ K,M.Perm (K++L)
instance Tl.self {L:List SP}:Tl L L:=⟨[],lE _⟩
instance (priority:=low) Tl.cons {A:SP}{M L:List SP}[t:Tl M L]:Tl (A::M) L:=⟨let ⟨K,h⟩:=t.h;⟨A::K,h.cons A⟩⟩
theorem U.V2 {M:List SP}(I:U W w M)(t:Tl M L):U W w L:=let ⟨_,h⟩:=t.h;(I.perm h).drop
def wE (W:World)(N:List SP)(ad:Option Addr)(P:List (List UInt8)):Prop:=∃ zs:List ee,zs.map (·.2.2)=P∧∀ w',U W w' N→iM w' ad zs
set_option maxHeartbeats 1000000 in
theorem J9 {wh:Br→Bool}{f:Nat}{us:List Value}(I:U W w (Tree tq sq T::ax sq r A::L))(he:T.epoch+1<1099511627776)(cn:hQ prog f=true)
   (hf:∀ (M:List SP) (w':World) (x:Br) (av:Option Addr) (c':Nat),x∈T.l→U W w' M→Tl M L→wE W M av x.al→x.al.length≤c'→nX x.al →
    Calls prog f (List.toArray (.agg (ch x av c').toArray::us)) w' λe nY=>e=.returned (.bool (wh x))∧U W nY M) :
   Calls prog 303 #[pt tq,.func (.func f) #[] (List.toArray us)] w λe w'=>e=.returned (.int .i64 ((T.l.length-(T.l.filter (λx=>!wh x)).length:Nat):Int)) ∧
    U W w' (Tree tq sq (T.cut wh)::ax sq r (A.gV (T.l.filter wh))::L):=by
 obtain⟨ad,c,xs,h1,hw,I⟩:=Tree.open I;have b9:xs.length=T.l.length:=by rw[← h1,a8]
 have hT:=hw.most;have ef:=pR (λx=>!wh x) T.l;refine EN func303 ntmps303 rfl rfl λa E=>?_;refine RN 6 E I λa E=>?_;replace E:=E.aP 10;refine RN 10 E I λa E=>?_;replace I:U W w (Sl 238 5 none 0 0 (rows da ((xs.take 0).filter (λz:Bx=>!wh z.1)))::ah bY ((xs.take 0).filter (λz:Bx=>!wh z.1))::aa tq 236 [pt sq,.int .i64 T.most,.slice ad T.l.length c,.int .i64 T.last,.int .i64 T.epoch]::Sl 238 5 ad T.l.length c (rows da xs)::ah bY (xs.drop 0)::ax sq r (A.gV ((T.l.take 0).filter wh))::L):=(I.ja (f:=bY)).bM 238 5 none;refine RN 8 E I λa E=>?_;refine aN (λμ a w=>∃ (k m:Nat) (tl:Option Addr) (oO:Nat),(μ=T.l.length-k∧k≤T.l.length∧m=((xs.take k).filter (λz=>!wh z.1)).length)∧Fr a 59 [(0,pt tq),(1,.func (.func f) #[] (List.toArray us)),(5,.int .i64 T.l.length),(6,.slice tl m oO),(19,.slice ad T.l.length c),(20,.int .i64 T.l.length),(21,.int .i64 k)]∧U W w (Sl 238 5 tl m oO (rows da ((xs.take k).filter (λz=>!wh z.1)))::ah bY ((xs.take k).filter (λz=>!wh z.1))::aa tq 236 [pt sq,.int .i64 T.most,.slice ad T.l.length c,.int .i64 T.last,.int .i64 T.epoch]::Sl 238 5 ad T.l.length c (rows da xs)::ah bY (xs.drop k)::ax sq r (A.gV ((T.l.take k).filter wh))::L)) (T.l.length) (⟨0,0,none,0,⟨by simp,by simp,by simp⟩,E.ab [0,1,5,6,19,20,21],I.sub⟩) ?_;clear E I;rintro μ a w ⟨k,m,tl,oO,⟨rfl,hk,hm⟩,E,I⟩;refine IF 3 E I (λao a E=>?_) λao a E=>?_
 ·
  refine RN 2 E I λa E=>?_
  obtain ⟨b', dH, g6, c9⟩ := I.bU (n := T.l.length) (cs := rows da xs) (R := Sl 238 5 tl m oO (rows da ((xs.take k).filter (fun z => !wh z.1))) :: ah bY ((xs.take k).filter (fun z => !wh z.1)) :: aa tq 236 [.pointer (some ⟨sq, 0, none⟩), .int .i64 T.most, .slice ad T.l.length c, .int .i64 T.last, .int .i64 T.epoch] :: ah bY (xs.drop k) :: ax sq r (A.gV ((T.l.take k).filter wh)) :: L) (k := ⟨by
      refine List.Perm.trans ?_ (nP (l₁:=[_,_,_]));exact lE _⟩) ad (by omega)
  subst g6;have uP:k<xs.length:=by omega
  obtain⟨⟨x,eJ,de⟩,dY⟩:∃ y,xs[k]?=some y:=⟨_,aD uP⟩;have g4:xs[k]=(x,eJ,de):=(aY.1 dY).2;have fX:=oM c9 dY;have jB:T.l[k]?=some x:=by rw[← h1,bl,dY];rfl
  have kL:=(hw.ok x (bF jB)).1;have pS:=VZ (A:=A) (wh:=wh) jB;have tm:=V0 (f:=λz:Bx=>!wh z.1) dY;replace I:=(I.pick (ah bY (xs.drop k)));rw[kH uP,g4]at I;replace I:=I.fy (i:=0) (by simp);change U W w (cg eJ x.al.length de x.al::ah bY (xs.drop (k+1))::_) at I;have ea:=(cg.le I).2;refine RN 1 E I λa E=>?_;refine SS E (bT E underlying238 rfl Ty.t238 (fX)) λa E=>?_;refine AL 0 E I λb8 a w E I=>?_;refine SA 0 E I λa w E I=>?_;refine RN 4 E I λa E=>?_;obtain⟨zs,cV,eS,I⟩:=cg.open (I.pick (cg eJ x.al.length de x.al));refine CL 0 E I (hf _ _ x eJ de (bF jB) I inferInstance ⟨zs,cV,λnY h=>U.mJ (h.sub (M:=Sl 22 1 eJ x.al.length de (zs.map aM)::ah ba zs::[]))⟩ ea kL) (hf:=cn) λa w E I=>?_;replace I:U W w (cg eJ x.al.length de x.al::_):=U.shut (M:=[_,_]) I (λ_ x=>⟨zs,⟨cV,eS⟩,x⟩);refine IF 0 E I (λay a E=>?_) λay a E=>?_
  ·
   rw[ak ay]at pS;rw[show (!wh (x,eJ,de).1)=false from by simp[ay]]at tm;rw[ag (by decide),append_nil]at tm;refine bR 1 [5] [0,1,2,4,3003,1005,1006] E I λa w E I hH hC=>?_;refine RH 6 E I hH hC λa E=>?_;refine bh 0 E I (AO (id:=x.snap) (I.pick (ax sq r (A.gV ((T.l.take k).filter wh))))) λ_ a w E I=>?_;rw[← pS]at I;refine RN 2 E I λa E=>?_;rw[← tm]at hm I;exact⟨T.l.length-(k+1),by omega,k+1,_,_,_,⟨rfl,by omega,hm⟩,E.ab [0,1,5,6,19,20,21],I.sub⟩
  rw[ag (by rw[ay];decide)]at pS;rw[show (!wh (x,eJ,de).1)=true from by simp[ay]]at tm;rw[ak rfl]at tm;refine RN 2 E I λa E=>?_;refine cp E rfl I underlying168 Ty.t238 rfl rfl rfl rfl (by decide) (by decide) λV3 a w E I ho=>?_;clear ho;obtain⟨Y,wF⟩:∃ Y,(xs.take k).filter (λz=>!wh z.1)=Y:=⟨_,rfl⟩;rw[wF]at I tm hm;refine RN 0 E I λa E=>?_;refine cQ E rfl I underlying168 Ty.t238 rfl rfl I.ai rfl (by simp[Value.oneCell',ch]) (by decide) (by decide) (by have:=pR (λz:Bx=>!wh z.1) (xs.take k);rw[wF,eA]at this;omega) λoP oQ a w E I=>?_;have h8:=U.j1 (f:=bY) (l:=Y) (x:=(x,eJ,de)) (I.sub (M:=cg eJ x.al.length de x.al::ah bY Y::Sl 238 5 oP (m+1) oQ (rows da Y++[ch x eJ de].flatten)::aa tq 236 [pt sq,.int .i64 T.most,.slice (some ⟨b',dH,none⟩) T.l.length c,.int .i64 T.last,.int .i64 T.epoch]::Sl 238 5 (some ⟨b',dH,none⟩) T.l.length c (rows da xs)::ah bY (xs.drop (k+1))::ax sq r (A.gV ((T.l.take k).filter wh))::L));rw[Ef,← tm,← pS]at h8;replace I:=h8;clear h8;refine RN 3 E I λa E=>?_;exact⟨T.l.length-(k+1),by omega,k+1,_,_,_,⟨rfl,by omega,by rw[tm,aJ,← hm];rfl⟩,E.ab [0,1,5,6,19,20,21],I.sub⟩
 refine RN 1 E I λa E=>?_;obtain rfl:k=T.l.length:=by omega
 rw[k4,gi (by omega)]at I;rw[gi (by omega)]at hm;have qO:=V1 xs (λx=>!wh x);rw[h1]at qO;have wG:m=(T.l.filter (λx=>!wh x)).length:=by rw[hm,← qO,a8]
 subst wG;refine ST 4 E I (λa w E I=>?_);refine IF 6 E I (λbk a E=>?_) λbk a E=>?_
 ·
  have hlt:(T.l.filter (λx=>!wh x)).length<T.l.length:=by omega
  refine ST 7 E I (λa w E I=>?_);rw[show ((T.epoch:Int)+1)=((T.epoch+1:Nat):Int) from rfl]at I;refine RT 6 E I ?_;refine⟨by rw[show ((T.l.length-(T.l.filter (λx=>!wh x)).length:Nat):Int)=(T.l.length:Int)-((T.l.filter (λx=>!wh x)).length:Int) from by omega],?_⟩;exact Tree.close (T:=T.cut wh) (ad:=tl) (c:=oO) (xs:=xs.filter (λz=>!wh z.1)) (n:=(T.l.filter (λx=>!wh x)).length) (most:=T.most) (last:=T.last) (epoch:=T.epoch+1) I qO (hw.cut he wh) rfl rfl rfl (by simp only[Tr.cut];rw[ak hlt])
 have hlt:¬ (T.l.filter (λx=>!wh x)).length<T.l.length:=by omega
 refine RT 6 E I ?_;refine⟨by rw[show ((T.l.length-(T.l.filter (λx=>!wh x)).length:Nat):Int)=(T.l.length:Int)-((T.l.filter (λx=>!wh x)).length:Int) from by omega],?_⟩;exact Tree.close (T:=T.cut wh) (ad:=tl) (c:=oO) (xs:=xs.filter (λz=>!wh z.1)) (n:=(T.l.filter (λx=>!wh x)).length) (most:=T.most) (last:=T.last) (epoch:=T.epoch) I qO (hw.cut he wh) rfl rfl rfl (by simp only[Tr.cut];rw[ag hlt];rfl)
theorem V4 (I:U W w (Tree tq sq T::ax sq r A::L))(he:T.epoch+1<1099511627776) :
   Calls prog 320 #[pt tq] w λe w'=>e=.returned (.int .i64 T.l.length)∧U W w' (Tree tq sq (T.cut λ_=>true)::ax sq r (A.gV T.l)::L):=by
 have hF : ∀ (M : List SP) (w' : World) (x : Br) (av : Option Addr) (c' : Nat), x ∈ T.l → U W w' M → Tl M L → wE W M av x.al → x.al.length ≤ c' → nX x.al →
     Calls prog 334 (List.toArray [.agg (ch x av c').toArray]) w' λe nY=>e=.returned (.bool true)∧U W nY M:=by
  intro L w x av c' _ I _ _ _ _;refine EN func334 ntmps334 rfl rfl λa E=>?_;refine BX 1 E I λb1 a w E I=>?_;refine RT 3 E I ?_;exact⟨rfl,I.sub⟩
 refine EN func320 ntmps320 rfl rfl λa E=>?_;refine CL 4 E I (J9 (wh:=λ_=>true) (us:=[]) I he (by kernel_rfl) hF) λa w E I=>?_;refine RT 1 E I ?_;have e1:T.l.filter (λx=>!(λ_:Br=>true) x)=[]:=by simp
 have e2:T.l.filter (λ_=>true)=T.l:=by simp
 rw[e2]at I;exact⟨by rw[e1];rfl,I⟩
end
end
section
theorem uR (s:ByteArray)(i:Nat):1≤(Utf8.decode s i).2∧(Utf8.decode s i).2≤4:=by
 simp only[Utf8.decode]
 repeat' split
 all_goals simp
def nZ (r:Nat):Nat:=if r<0x80 then 1 else if r<0x800 then 2 else if r<0x10000 then 3 else 4
theorem tn (s:ByteArray)(i:Nat):(s.get! i).toNat<256:=(s.get! i).toNat_lt
theorem Ka (s:ByteArray)(i:Nat):nZ (Utf8.decode s i).1=(Utf8.decode s i).2∨Utf8.decode s i=(0xFFFD,1):=by
 have h0:=tn s (i+0);have h1:=tn s (i+1);have h2:=tn s (i+2);have h3:=tn s (i+3);simp only[Utf8.decode,Utf8.runeError]
 repeat' split
 all_goals first | (right;rfl) | (left;simp_all [nZ];done) | (left;simp_all [nZ];(repeat' split) <;> omega)
theorem Kb (s:ByteArray)(i:Nat)(h:i<s.size):i+(Utf8.decode s i).2≤s.size:=by
 simp only[Utf8.decode,Utf8.runeError]
 repeat' split
 all_goals simp_all
 all_goals omega
theorem V5 (s:ByteArray)(i:Nat):(Utf8.decode s i).1<1114112:=by
 have h0:=tn s (i+0);have h1:=tn s (i+1);have h2:=tn s (i+2);have h3:=tn s (i+3);simp only[Utf8.decode,Utf8.runeError]
 repeat' split
 all_goals simp_all [Utf8.valid]
 all_goals omega
def eg (s:ByteArray)(pos:Nat):List (Nat×Nat):=if h:pos<s.size then Utf8.decode s pos::eg s (pos+(Utf8.decode s pos).2) else []
termination_by s.size-pos
decreasing_by have:=(uR s pos).1;omega
theorem rQ {s:ByteArray}{pos:Nat}(h:pos<s.size):eg s pos=Utf8.decode s pos::eg s (ec s pos):=by
 rw[eg,dif_pos h,ec,ak h]
theorem rR {s:ByteArray}{pos:Nat}(h:¬ pos<s.size):eg s pos=[]:=by
 rw[eg,dif_neg h]
theorem V6 (s:ByteArray):∀ n pos,s.size-pos≤n→(eg s pos).length≤n:=by
 intro n
 induction n with
 | zero=>intro pos h;rw[rR (by omega)];simp
 | succ n ih =>
  intro pos h;by_cases hp:pos<s.size
  ·rw[rQ hp,eH];have:=(uR s pos).1;have:=ih (ec s pos) (by rw[ec,ak hp];omega);omega
  ·rw[rR hp];simp
theorem Eh {s:ByteArray}{pos:Nat}(h:pos≤s.size):ec s pos≤s.size:=by
 by_cases hp:pos<s.size
 ·rw[ec,ak hp];exact Kb s pos hp
 ·rw[ec,ag hp];exact h
def kN (x:Nat×Nat):Bool:=decide (32≤x.1)&&decide (x.1≠127)
def mQ (x:Nat×Nat):Bool:=!decide (x=(0xFFFD,1))
def pT (s:ByteArray):Bool:=decide (1≤(eg s 0).length)&&decide ((eg s 0).length≤20)&&(eg s 0).all kN&&(eg s 0).all mQ
def nm (s:ByteArray)(n:Int):Int:=if 0≤n then (((eg s 0)[n.toNat]?).map (λx=>(x.1:Int))).getD 0 else 0
structure gJ where
 code:Int
 a:Int
 b:Int
 c:Int
structure Pr where
 title:ByteArray
 ops:List gJ
abbrev dR (o:gJ):List Value:=[.int .i64 o.code,.int .i64 o.a,.int .i64 o.b,.int .i64 o.c]
theorem Ei (o:gJ):(dR o).length=4:=rfl
theorem Kc (o:gJ):∀ v∈dR o,v.oneCell'=true:=by
 intro v hv;simp[dR]at hv;rcases hv with rfl | rfl | rfl | rfl <;> rfl
def e5 (x:Int):Prop:=0≤x∧x<32
def ds (x:Int):Prop := -2147483648≤x∧x≤2147483647
def e6 (n:Int)(o:gJ):Prop :=
 (o.code=0∧o.a=0∧o.b=0∧o.c=0)∨(o.code=1∧e5 o.a∧o.c=0)∨(o.code=9∧0≤o.a∧o.a≤n∧o.b=0∧o.c=0)∨(o.code=15∧e5 o.a∧o.b=0∧o.c=0) ∨
 (o.code=10∧e5 o.a∧0≤o.b∧o.b≤n∧o.c=0)∨((o.code=2∨(11≤o.code∧o.code≤14))∧e5 o.a∧e5 o.b∧o.c=0)∨(3≤o.code∧o.code≤8∧e5 o.a∧e5 o.b∧e5 o.c)
def rS (o:gJ):Prop:=ds o.code∧ds o.a∧ds o.b∧ds o.c
def wH (p:Pr):Prop:=pT p.title=true∧1≤p.ops.length∧p.ops.length≤64∧∀ o∈p.ops,rS o
def dm (p:Pr):Prop:=wH p∧∀ o∈p.ops,e6 p.ops.length o
def iv (x:Int):Int:=IntKind.i32.wrap x
def kO (x:Int):Nat:=(x.emod 32).toNat
theorem yr (x:Int):kO x<32:=by
 have h1:=Int.emod_nonneg x (show (32:Int)≠0 by decide);have h2:=Int.emod_lt_of_pos x (show (0:Int)<32 by decide);show (x%32).toNat<32;omega
def mR (b:List UInt8)(x:Int):Int:=if 0≤x∧x<b.length then ((b.getD x.toNat 0).toNat:Int) else 0
def ji (k a b:Int):Int:=if k=3 then iv (a+b) else if k=4 then iv (a-b) else if k=5 then iv (a*b) else if k=6 then (if b=0 then 0 else iv (a.tdiv b)) else if k=7 then (if a<b then 1 else 0) else if a=b then 1 else 0
def jR (p:Pr)(fr:Int)(b:List UInt8)(g:Nat→Int)(o:gJ):Int :=
 if o.code=1 then iv o.b else if o.code=2 then g o.b.toNat else if o.code=11 then mR b (g o.b.toNat) else if o.code=12 then g (kO (g o.b.toNat)) else if o.code=14 then nm p.title (g o.b.toNat) else if o.code=15 then iv fr else ji o.code (g o.b.toNat) (g o.c.toNat)
def eu (p:Pr)(fr:Int)(b:List UInt8)(g:Nat→Int)(aO:Nat)(o:gJ):(Nat→Int)×Nat×Bool :=
 if o.code=0 then (g,aO+1,false) else if o.code=9 then (g,o.a.toNat,true) else if o.code=10 then (g,if g o.a.toNat=0 then o.b.toNat else aO+1,true) else if o.code=13 then (ck g (kO (g o.a.toNat)) (g o.b.toNat),aO+1,true)
 else (ck g o.a.toNat (jR p fr b g o),aO+1,true)
def qP (p:Pr)(fr:Int)(b:List UInt8):Nat→(Nat→Int)→Nat→(Nat→Int)
 | 0,g,_=>g
 | n+1,g,aO=>match p.ops[aO]? with
  | none=>g
  | some o=>let r:=eu p fr b g aO o
   if r.2.2 then qP p fr b n r.1 r.2.1 else r.1
def e7 (p:Pr)(fr:Int)(b:List UInt8)(g:Nat→Int):Nat→Int:=qP p fr b 200 g 0
def foldI (p:Pr)(fr:Int):(Nat→Int)→List (List UInt8)→(Nat→Int)
 | g,[]=>g
 | g,b::l=>foldI p (fr+1) (e7 p fr b g) l
theorem Ej (p:Pr)(b:List UInt8):∀ (l:List (List UInt8)) (fr:Int) (g:Nat→Int),foldI p fr g (l++[b])=e7 p (fr+l.length) b (foldI p fr g l)
 | [],fr,g=>by simp[foldI]
 | x::l,fr,g=>by
  rw[cons_append,foldI,Ej p b l,foldI,eH]
  congr 1;omega
def dS (g:Nat→Int):Prop:=∀ c,c<32→ds (g c)
theorem iw {i:Int}(h1:-2147483648≤i)(h2:i≤2147483647):IntKind.i32.wrap i=i:=IntWalk.i32_in _ ⟨h1,h2⟩
theorem yt (x:Int):ds (iv x):=by
 simp only[iv,ds,IntKind.wrap];split <;> simp_all [IntKind.signed,IntKind.bits] <;> omega
def Ro (W:World)(e sz:Nat)(ad:Option Addr)(n c:Nat)(cs:List Value):SP:=λh =>
 (cs.length=n*sz∧n≤c∧(0<n→∃ b off,ad=some ⟨b,off,none⟩∧b<W.heap.size∧Rd W b off cs))∨Sl e sz ad n c cs h
class uS (L:List SP)(W:World)(ad:Option Addr)(n c e sz:outParam Nat)(cs:outParam (List Value))(R:outParam (List SP)):Prop where perm:L.Perm (Ro W e sz ad n c cs::R)
instance uS.head {L W ad n c e sz cs}:uS (Ro W e sz ad n c cs::L) W ad n c e sz cs L:=⟨lE _⟩
instance (priority:=low) uS.tail {A L W ad n c e sz cs R}[h:uS L W ad n c e sz cs R]:uS (A::L) W ad n c e sz cs (A::R) :=
 ⟨(kz A h.perm).trans (cZ _ _ _)⟩
section
variable {W w:World}{L R:List SP}{e sz n c:Nat}{ad:Option Addr}{cs:List Value}
theorem U.ro (s:U W w L)(ad:Option Addr)[k:uS L W ad n c e sz cs R]:cs.length=n*sz∧n≤c:=(s.perm k.perm).tell λ_ h=>by
 rcases h with ⟨h1,h2,_⟩ | h
 ·exact⟨h1,h2⟩
 ·exact⟨h.1,h.2.1⟩
theorem U.rT (s:U W w L)(ad:Option Addr)[k:uS L W ad n c e sz cs R](h0:0<n):∃ b off,ad=some ⟨b,off,none⟩∧Rd w b off cs:=by
 have s':=s.perm k.perm;obtain⟨na,h,p,h1,h2,d,a,kk,x,q⟩:=s';rcases x with ⟨x1,x2,x3⟩ | x
 ·obtain⟨b,off,rfl,hb,hr⟩:=x3 h0;exact⟨b,off,rfl,λj v hj=>(s.gE (a:=⟨b,off+j,none⟩) hb).trans (hr j v hj)⟩
 ·have s2:U W w (Sl e sz ad n c cs::R):=⟨na,h,p,h1,h2,d,a,kk,x,q⟩;exact s2.bU ad h0
theorem U.V7 (s:U W w L)(h1:cs.length=n*sz)(h2:n≤c)(h3:0<n→∃ b off,ad=some ⟨b,off,none⟩∧b<W.heap.size∧Rd W b off cs):U W w (Ro W e sz ad n c cs::L) :=
 ⟨s.below,let ⟨h,p,q⟩:=s.sat;⟨h,p,λ_=>none,h,λ_=>.inl rfl,λ_ _ e=>(by cases e),Hp.Sub.refl _,.inl ⟨h1,h2,h3⟩,q⟩⟩
theorem U.Ek (s:U W w (Sl e sz ad n c cs::L)):U W w (Ro W e sz ad n c cs::L):=s.imp λ_ ⟨h1,h2,d,a,b,x,q⟩=>⟨h1,h2,d,a,b,.inr x,q⟩
end
theorem wI {w:World}{b off k:Nat}{ops:List gJ}{o:gJ}(hr:Rd w b off (rows dR ops))(ho:ops[k]?=some o):Rd w b (off+k*4) (dR o):=by
 obtain⟨hi,he⟩:=aY.1 ho;have:=hr.part (k*4) 4;rw[wa Ei ops k hi,he]at this;exact this
end
end Go.Proofs.YteoldcfapaiobaaGreat
