/- The walks of package snap, further. -/
import Derived.Test.YteoldcfapaiobaaGreatH02Page
import Derived.Test.YteoldcfapaiobaaGreatH01Row
namespace Go.Proofs.YteoldcfapaiobaaGreat
open Tryz
open List (drop_zero nil_append map_cons cons_append append_nil ext_getElem? set_set map_nil getElem?_set_ne foldl_append)
open Go.RowKit
set_option linter.unusedVariables false
set_option linter.unusedSimpArgs false
set_option maxRecDepth 10000
set_option synthInstance.maxSize 4000
set_option synthInstance.maxHeartbeats 400000
section
section
variable {W w:World}{L L':List SP}{q r b m i pb:Nat}{A:Sn}{ps:List Pg}{xs:List (aC×Nat)}{x y:aC}
theorem Vq {off n c:Nat}{vs:List Value}(I:U W w L)(hr:∀ V,U W V L→Rd V b off vs)(hl:vs.length=n)(hn:0<n)(h1:∀ v∈vs,v.oneCell'=true)(hb:n≤1048576) :
   Calls prog 121 #[.slice (some ⟨b,off,none⟩) n c] w λe V=>∃ ad c',e=.returned (.slice ad n c')∧U W V (Sl 3 1 ad n c' vs::L):=by
 refine EN func121 ntmps121 rfl rfl λa E=>?_;refine RN 6 E I λa E=>?_;replace E:=E.aK 4;refine RN 2 E I λa E=>?_;refine ux E rfl I underlying53 Ty.t3 rfl λb5 a w E I ho=>?_;clear ho;refine RN 1 E I λa E=>?_;refine cK E rfl I underlying53 Ty.t3 rfl rfl (hr _ I.tail) (by omega) h1 hn (by decide) (by omega) λsX rD a w E I=>?_;rw[ep,nil_append] at *;refine RT 1 E I ?_;exact⟨_,_,rfl,I⟩
theorem JL (I:U W w (ax q r A::L))(hx:A.av[i]?=some x) :
   Calls prog 85 #[pt q,.int .i64 x.id] w λe V=>∃ ad c,e=.returned (.slice ad 4 c)∧U W V (Sl 3 1 ad 4 c (ints .i64 4 (λk=>(x.p k:Int)+1))::ax q r A::L):=by
 obtain⟨b,m,ps,xs,h1,hw,hr,I⟩:=ax.open I;obtain⟨pb,bd⟩:=qB h1 hx;refine EN func85 ntmps85 rfl rfl λa E=>?_;refine CL 5 E I (qC I h1 hw bd) λa w E I=>?_;refine RN 5 E I λa E=>?_;replace E:=E.aK 10;refine RN 2 E I λa E=>?_;replace I:=I.rF bd;refine aX 4 E I (Vq (off:=0) (c:=4) I (λV h=>h.Eg pb) (di _ _ _) (by decide) uy (by decide)) λad c a w E I=>?_;refine RT 1 E I ?_;refine⟨ad,c,rfl,?_⟩;have h4:=ax.uG (A:=A) (B:=A) (q:=q) (r:=r) (last:=A.last) (L':=Sl 3 1 ad 4 c (ints .i64 4 (λk=>(x.p k:Int)+1))::L) (b:=b) (m:=m) (ps:=ps) (pb:=pb) (y:=x) I bd h1 rfl (yq hx) hw hr;exact h4.perm (cW _ _ _)
theorem AQ (I:U W w (ax q r A::L)) :
   Calls prog 83 #[pt q] w λe V=>e=.returned (pt r)∧U W V (ax q r A::L):=by
 obtain⟨b,m,ps,xs,h1,hw,hr,I⟩:=ax.open I;refine EN func83 ntmps83 rfl rfl λa E=>?_;refine RN 6 E I λa E=>?_;replace E:=E.aK 4;refine RT 7 E I ?_;exact⟨rfl,ax.close (b:=b) (m:=m) I h1 hw hr⟩
theorem Ej (I:U W w (ax q r A::L)) :
   Calls prog 84 #[pt r] w λe V=>e=.returned (.int .i64 A.used)∧U W V (ax q r A::L):=by
 obtain⟨b,m,ps,xs,h1,hw,hr,I⟩:=ax.open I;refine (Jk (I.pick (Room r b ps))).mono λe V ⟨h2,I⟩=>?_;rw[hr.used]at h2;exact⟨h2,ax.close (b:=b) (m:=m) (ps:=ps) I h1 hw hr⟩
theorem JM {n:Int}(I:U W w (ax q r A::L)) :
   Calls prog 125 #[pt q,.int .i64 n] w λe V=>e=.returned (.bool (decide (n≤((A.room-A.used:Nat):Int))))∧U W V (ax q r A::L):=by
 obtain⟨b,m,ps,xs,h1,hw,hr,I⟩:=ax.open I;refine EN func125 ntmps125 rfl rfl λa E=>?_;refine RN 6 E I λa E=>?_;replace E:=E.eG 7;refine CL 5 E I (UI (I.pick (Room r b ps))) λa w E I=>?_;refine RT 3 E I ?_;exact⟨by rw[hr.used,hr.len],ax.close (b:=b) (m:=m) (ps:=ps) I h1 hw hr⟩
theorem Vr (I:U W w (ax q r A::L)) :
   Calls prog 82 #[pt q] w λe V=>∃ ad c,e=.returned (.slice ad A.av.length c)∧U W V (Sl 166 1 ad A.av.length c (A.av.map λx=>.int .i64 x.id)::ax q r A::L):=by
 obtain⟨b,m,ps,xs,h1,hw,hr,I⟩:=ax.open I;have hlen:(kvs xs).length=A.av.length:=by rw[← h1];simp[kvs]
 have uI:((kvs xs).map (·.1)).Pairwise (· < ·):=by
  have:(kvs xs).map (·.1)=(A.av.map (·.id)).map (λn:Nat=>(n:Int)):=by rw[← h1];simp[kvs]
  rw[this,List.pairwise_map];exact hw.sorted.imp λh=>by omega
 have rG:((kvs xs).map λp=>Value.int .i64 p.1)=A.av.map λx=>Value.int .i64 x.id:=by rw[← h1];simp[kvs]
 refine EN func82 ntmps82 rfl rfl λa E=>?_;refine RN 6 E I λa E=>?_;replace E:=E.aK 4;refine aW 6 E I (UT (m:=m) I) λb8 a w E I=>?_;refine aX 0 E I (UW (m:=m) (kvs:=kvs xs) ((I.pick (mp m (kvs xs))).pick (aa b8 218 [.map (some m)])) uI (by rw[hlen];have:=hw.many;have:=hw.bound;omega)) λad c a w E I=>?_;rw[hlen,rG] at *;refine RT 1 E I ?_;refine⟨ad,c,rfl,?_⟩;have h4:=ax.close (A:=A) (q:=q) (r:=r) (last:=A.last) (xs:=xs) (L':=Sl 166 1 ad A.av.length c (A.av.map λx=>.int .i64 x.id)::L) (b:=b) (m:=m) (ps:=ps) I h1 hw hr;exact h4.perm (cW _ _ _)
theorem Vs (I:U W w (ax q r A::L))(hx:A.av[i]?=some x) :
   Calls prog 290 #[pt q,.int .i64 x.id] w λe V=>e=.returned (.tuple #[.agg (ints .i32 32 x.g).toArray,.bool true])∧U W V (ax q r A::L):=by
 refine EN func290 ntmps290 rfl rfl λa E=>?_;refine AL 1 E I λb4 a w E I=>?_;change U W w (aa b4 183 (ints .i32 32 (λ_=>0))::_) at I;refine AL 2 E I λcG a w E I=>?_;change U W w (aa cG 183 (ints .i32 32 (λj=>if j<0 then x.g j else 0))::_) at I;refine RN 2 E I λa E=>?_;obtain⟨b,m,ps,xs,h1,hw,hr,I⟩:=ax.open (I.pick (ax q r A));obtain⟨pb,bd⟩:=qB h1 hx;refine CL 2 E I (qC I h1 hw bd) λa w E I=>?_;refine RN 1 E I λa E=>?_;replace E:=E.aK 11;refine RN 3 E I λa E=>?_;replace I:=ax.close (A:=A) (q:=q) (r:=r) (last:=A.last) (xs:=xs) (L':=aa cG 183 (ints .i32 32 (λj=>if j<0 then x.g j else 0))::aa b4 183 (ints .i32 32 (λ_=>0))::L) (b:=b) (m:=m) (ps:=ps) I h1 hw hr;refine RN 1 E I λa E=>?_;refine aQ (λμ a w=>∃ k:Nat,(μ=32-k∧k≤32)∧Fr a 27 [(0,pt q),(1,.int .i64 x.id),(4,pt b4),(6,pt cG),(13,.int .i64 k)]∧U W w (aa cG 183 (ints .i32 32 (λj=>if j<k then x.g j else 0))::ax q r A::aa b4 183 (ints .i32 32 (λ_=>0))::L)) (32) (⟨0,⟨by simp,by simp⟩,E.ab [0,1,4,6,13],I.sub⟩) ?_;clear E I;rintro μ a w ⟨k,⟨rfl,hk⟩,E,I⟩;refine IF 3 E I (λao a E=>?_) λao a E=>?_
 ·
  refine CL 8 E I (JG (I.pick (ax q r A)) hx (by omega)) λa w E I=>?_;refine ST 4 E I (λa w E I=>?_) (hlt:=(by rw[di];omega))
  rw [ints_set, show (fun i => if i = k then x.g k else if i < k then x.g i else 0) = (fun i => if i < k + 1 then x.g i else 0) from by
      funext i
      by_cases h:i=k
      ·subst h;simp
      ·rw[ag h];by_cases h2:i<k
       ·rw[ak h2,ak (by omega)]
       ·rw[ag h2,ag (by omega)]]at I
  refine RN 2 E I λa E=>?_;exact⟨32-(k+1),by omega,k+1,⟨rfl,by omega⟩,E.ab [0,1,4,6,13],I.sub⟩
 obtain rfl:k=32:=by omega
 rw[yd (g':=x.g) (λj hj=>ak hj)]at I;refine SA 2 E I λa w E I=>?_;refine RT 1 E I ?_;exact⟨rfl,I.sub⟩
theorem Vt (p:Nat):cQ [] p=0:=rfl
theorem Vu {n:Nat}(I:U W w L)(hn:n≤50) :
   Calls prog 89 #[.int .i64 n] w λe V=>∃ q r,e=.returned (pt q)∧U W V (ax q r ⟨0,4*n,0,[]⟩::L):=by
 refine EN func89 ntmps89 rfl rfl λa E=>?_;refine RN 6 E I λa E=>?_;rw[show min (max (n:Int) 0) 50=(n:Int) from by omega]at E;refine RN 1 E I λa E=>?_;rw[show (4:Int)*(n:Int)=((4*n:Nat):Int) from by omega]at E;refine aX 0 E I (UA I (by omega)) λr b a w E I=>?_;refine RN 0 E I λa E=>?_;refine UL E rfl I rfl λb8 a w E I ho=>?_;clear ho;refine BX 1 E I λiJ a w E I=>?_;refine RT 1 E I ?_;have h7:U W w (ah jd []::aa iJ 221 [pt r,.map (some b8),.int .i64 ((0:Nat):Int)]::mp b8 (kvs [])::Room r b (List.replicate (4*n) sY)::L):=U.iZ I;refine⟨iJ,r,rfl,ax.close (A:=⟨0,4*n,0,[]⟩) (last:=0) (b:=b) (m:=b8) (xs:=[]) (ps:=List.replicate (4*n) sY) h7 rfl ⟨by simp only;omega,by simp,bh _,by simp,by simp,by simp⟩ ⟨by simp,λp q hq=>?_,by simp⟩⟩;obtain⟨_,rfl⟩:=aZ.1 hq;rw[List.getElem_replicate];rfl
theorem Vv {g:Nat→Int}{k:Nat}(I:U W w L)(hk:k<4) :
   Calls prog 127 #[.agg (ints .i32 32 g).toArray,.int .i64 k] w λe V=>e=.returned (.agg (ints .i32 8 (λj=>g (8*k+j))).toArray)∧U W V L:=by
 refine EN func127 ntmps127 rfl rfl λa E=>?_;refine BX 1 E I λb2 a w E I=>?_;refine AL 0 E I λb4 a w E I=>?_;change U W w (aa b4 225 (ints .i32 8 (λ_=>0))::_) at I;refine AL 1 E I λb5 a w E I=>?_;change U W w (aa b5 225 (ints .i32 8 (λ_=>0))::_) at I;refine RN 5 E I λa E=>?_;rw[dp (by omega)]at E;refine RN 3 E I λa E=>?_;rw[dp (by omega)]at E;refine RN 1 E I λa E=>?_;have Vw:((ints .i32 32 g).drop (k*8)).take 8=ints .i32 8 (λj=>g (8*k+j)):=by rw[Nat.mul_comm k 8];exact RA g (by omega)
 refine bW 0 [] [0,1,2,3,1004] E I λa w E I hH hC=>?_;refine RH 3 E I hH hC λa E=>?_;rw[show ((k:Int)*8)=((k*8:Nat):Int) from by omega]at E;refine QP E (λw=>RD E underlying183 Ty.t21 (by omega)) λa E=>?_;rw[ep,fD]at E;refine RH 0 E I hH hC λa E=>?_;refine RE E rfl I underlying270 Ty.t21 rfl (k:=8) (vs:=ints .i32 8 (λj=>g (8*k+j))) (by omega) (by rw[← Vw];exact I.qm 8) (di _ _ _) uy (by rw[di,di];decide) λa w E I=>?_;rw[show cD (ints .i32 8 (λ_=>0)) 0 (ints .i32 8 (λj=>g (8*k+j)))=ints .i32 8 (λj=>g (8*k+j)) from by simp[cD,di]]at I;refine SA 2 E I λa w E I=>?_;refine RT 0 E I ?_;exact⟨rfl,I.sub⟩
structure Made (ps:List Pg)(g:Nat→Int)(t:Nat→Nat)(k:Nat)(gu:List Pg):Prop where
 len:gu.length=ps.length
 new:∀ j,j<k→∃ q,gu[t j]?=some q∧q.refs=1∧∀ l,l<8→q.g l=g (8*j+l)
 Ek:∀ j,j<k→∃ q,ps[t j]?=some q∧q.refs=0
 apart:∀ j l,j<k→l<k→t j=t l→j=l
 fK:∀ p,(∀ j,j<k→t j≠p)→gu[p]?=ps[p]?
 used:j3 gu=j3 ps+k
theorem Made.zero (ps:List Pg)(g:Nat→Int)(t:Nat→Nat):Made ps g t 0 ps:=⟨rfl,λ_ h=>by omega,λ_ h=>by omega,λ_ _ h=>by omega,λ_ _=>rfl,rfl⟩
theorem Made.free {ps gu:List Pg}{g:Nat→Int}{t:Nat→Nat}{k:Nat}(h:Made ps g t k gu)(hu:j3 ps+k<ps.length):∃ f,uC gu f:=by
 rcases D4 gu with b6 | hf
 ·have:=JK b6;rw[h.used,h.len]at this;omega
 ·exact hf
theorem Made.step {ps gu:List Pg}{g:Nat→Int}{t:Nat→Nat}{k f:Nat}(h:Made ps g t k gu)(hf:uC gu f){g1:Nat→Int}(hg:∀ l,l<8→g1 l=g (8*k+l)) :
   Made ps g (λj=>if j=k then f else t j) (k+1) (gu.set f ⟨g1,1⟩):=by
 obtain⟨ju,jM,_⟩:=hf;have bT:∀ j,j<k→t j≠f:=λj hj e=>by
  obtain⟨q,h1,h2,_⟩:=h.new j hj;rw[e,aD ju]at h1;cases h1;omega
 have AM:ps[f]?=some gu[f]:=by rw[← h.fK f bT,aD ju]
 refine⟨by rw[bt];exact h.len,λj hj=>?_,λj hj=>?_,λj l hj hl e=>?_,λp hp=>?_,?_⟩
 ·by_cases qt:j=k
  ·subst qt;exact⟨⟨g1,1⟩,by simp[ju],rfl,hg⟩
  ·obtain⟨q,h1,h2,h3⟩:=h.new j (by omega);exact⟨q,by simp only[ag qt];rw[getElem?_set_ne (Ne.symm (bT j (by omega)))];exact h1,h2,h3⟩
 ·by_cases qt:j=k
  ·subst qt;exact⟨_,by simp only[if_true];exact AM,jM⟩
  ·simp only[ag qt];exact h.Ek j (by omega)
 ·by_cases h1:j=k <;> by_cases h2:l=k
  ·omega
  ·rw[ak h1,ag h2]at e;exact absurd e.symm (bT l (by omega))
  ·rw[ag h1,ak h2]at e;exact absurd e (bT j (by omega))
  ·rw[ag h1,ag h2]at e;exact h.apart j l (by omega) (by omega) e
 ·have h1:=hp k (by omega);simp only[if_true]at h1;rw[getElem?_set_ne h1];refine h.fK p λj hj e=>?_;have:=hp j (by omega);rw[ag (by omega)]at this;exact this e
 ·have:=List.countP_set (p:=λp:Pg=>decide (0<p.refs)) (a:=⟨g1,1⟩) ju;have hu:=h.used;simp only[j3]at hu ⊢;rw[this,hu];simp[jM,Nat.add_assoc]
theorem Made.rel {ps gu:List Pg}{g:Nat→Int}{t:Nat→Nat}(h:Made ps g t 4 gu)(hr:Rel A ps):Rel (A.add g t) gu:=by
 have hz:∀ j,j<4→cQ A.av (t j)=0:=λj hj=>by
  obtain⟨q,h1,h2⟩:=h.Ek j hj;rw[← hr.refs _ _ h1];exact h2
 refine⟨h.len.trans hr.len,λp q hq=>?_,λy hy k hk=>?_⟩
 ·simp only[Sn.add,yl,s8,Eb,Nat.add_zero];by_cases hp:∃ j,j<4∧t j=p
  ·obtain⟨j,hj,rfl⟩:=hp;obtain⟨q',h1,h2,_⟩:=h.new j hj;rw[h1]at hq;cases hq;rw[hz j hj,h2,uD];have E:=λl (hl:l<4) (e:t l=t j)=>h.apart l j hl hj e;simp only;rcases (by omega:j=0∨j=1∨j=2∨j=3) with rfl | rfl | rfl | rfl
   ·rw[ak rfl,ag (λe=>by have:=E 1 (by omega) e;omega),ag (λe=>by have:=E 2 (by omega) e;omega),ag (λe=>by have:=E 3 (by omega) e;omega)]
   ·rw[ak rfl,ag (λe=>by have:=E 0 (by omega) e;omega),ag (λe=>by have:=E 2 (by omega) e;omega),ag (λe=>by have:=E 3 (by omega) e;omega)]
   ·rw[ak rfl,ag (λe=>by have:=E 0 (by omega) e;omega),ag (λe=>by have:=E 1 (by omega) e;omega),ag (λe=>by have:=E 3 (by omega) e;omega)]
   ·rw[ak rfl,ag (λe=>by have:=E 0 (by omega) e;omega),ag (λe=>by have:=E 1 (by omega) e;omega),ag (λe=>by have:=E 2 (by omega) e;omega)]
  ·have hn:∀ j,j<4→t j≠p:=λj hj e=>hp ⟨j,hj,e⟩;rw[h.fK p hn]at hq;rw[hr.refs p q hq,Ea (x:=⟨A.last+1,1,g,t⟩) hn];rfl
 ·simp only[Sn.add]at hy;rcases eX.1 hy with hy | hy
  ·obtain⟨q,h1,h2⟩:=hr.pF y hy k hk;refine⟨q,?_,h2⟩;rw[h.fK _ λj hj e=>?_]
   ·exact h1
   ·have h3:=hz j hj;have h4:=uE hy (t j);rw[e]at h3 h4;have:=s7 (x:=y) hk;omega
  ·simp at hy;subst hy;obtain⟨q,h1,h2,h3⟩:=h.new k hk;exact⟨q,h1,h3⟩
abbrev nR (P:Nat→Int):List Value:=ints .i64 4 P++[.int .i64 0]
theorem Vx (P:Nat→Int):(nR P).length=5:=by simp[nR,di]
theorem Vy {P:Nat→Int}{k:Nat}(h:k<4):(nR P)[k]?=some (.int .i64 (P k)):=by
 rw[nR,mv (by rw[di];exact h),fX _ h]
theorem Vz {P:Nat→Int}{k:Nat}(v:Int)(h:k<4):(nR P).set k (.int .i64 v)=nR (λj=>if j=k then v else P j):=by
 rw[nR,uu _ _ (by rw[di];exact h),ints_set,nR]
def tP (t:Nat→Nat)(k:Nat):Nat→Int:=λj=>if j<k then (t j:Int)+1 else 0
theorem VA (t:Nat→Nat)(k f:Nat):(λj=>if j=k then ((f:Int)+1) else tP t k j)=tP (λj=>if j=k then f else t j) (k+1):=by
 funext j
 simp only[tP];by_cases h:j=k
 ·subst h;simp
 ·rw[ag h,ag h];by_cases h2:j<k
  ·rw[ak h2,ak (by omega)]
  ·rw[ag h2,ag (by omega)]
def oA (g:Nat→Int)(k j:Nat):Nat→Int:=λl=>if l<j then g (8*k+l) else 0
theorem VB (g:Nat→Int)(k:Nat):oA g k 0=λ_=>0:=by funext l;simp[oA]
theorem VC (g:Nat→Int)(k j:Nat):(λl=>if l=j then g (8*k+j) else oA g k j l)=oA g k (j+1):=by
 funext l
 simp only[oA];by_cases h:l=j
 ·subst h;simp
 ·rw[ag h];by_cases h2:l<j
  ·rw[ak h2,ak (by omega)]
  ·rw[ag h2,ag (by omega)]
theorem JN {g:Nat→Int}(I:U W w (ax q r A::L))(hu:A.used+4≤A.room)(hb:A.n+1<1099511627776) :
   Calls prog 93 #[pt q,.agg (ints .i32 32 g).toArray] w λe V=>∃ t:Nat→Nat,e=.returned (.tuple #[.int .i64 ((A.last+1:Nat):Int),.bool true]) ∧
    ((∀ j,j<4→t j<A.room∧cQ A.av (t j)=0)∧∀ j l,j<4→l<4→t j=t l→j=l)∧U W V (ax q r (A.add g t)::L):=by
 refine EN func93 ntmps93 rfl rfl λa E=>?_;refine BX 1 E I λb3 a w E I=>?_;refine CL 5 E I (JM (I.pick (ax q r A))) λa w E I=>?_;rw[dp (by omega)]at E;refine RN 1 E I λa E=>?_;replace E:=E.aK 12;refine RN 2 E I λa E=>?_;obtain⟨b,m,ps,xs,h1,hw,hr,I⟩:=ax.open I;have nM:=hr.used;have ia:=hr.len;refine AL 0 E I λcG a w E I=>?_;change U W w (aa cG 232 (nR (tP (λ_=>0) 0))::_) at I;refine RN 3 E I λa E=>?_;refine aQ (λμ a w=>∃ (k:Nat) (t:Nat→Nat) (gu:List Pg),(μ=4-k∧k≤4∧Made ps g t k gu)∧Fr a 50 [(0,pt q),(3,pt b3),(6,pt cG),(13,.int .i64 k)]∧U W w (Room r b gu::aa cG 232 (nR (tP t k))::aa b3 183 (ints .i32 32 g)::aa q 221 [pt r,.map (some m),.int .i64 A.last]::mp m (kvs xs)::ah jd xs::L)) (4) (⟨0,λ_=>0,ps,⟨by simp,by simp,Made.zero _ _ _⟩,E.ab [0,3,6,13],I.sub⟩) ?_;clear E I;rintro μ a w ⟨k,t,gu,⟨rfl,hk,hm⟩,E,I⟩;refine IF 3 E I (λao a E=>?_) λao a E=>?_
 ·
  refine RN 5 E I λa E=>?_;have JO:=hm.used;obtain⟨f,hf⟩:=hm.free (by omega);have aT:=λ(g1:Nat→Int) h=>hm.step (g1:=g1) hf h;have ju:=hf.1;refine CL 5 E I (Jj (I.pick (Room r b gu)) hf) λa w E I=>?_;refine ST 5 E I (λa w E I=>?_) (hlt:=(by rw[Vx];omega));rw[Vz _ (by omega),VA]at I;refine CL 3 E I (Vv I (by omega)) λa w E I=>?_;refine RN 1 E I λa E=>?_;refine aQ (λμ a w=>∃ j:Nat,(μ=8-j∧j≤8)∧Fr a 50 [(0,pt q),(3,pt b3),(6,pt cG),(7,.int .i64 k),(13,.int .i64 k),(29,.agg (ints .i32 8 (λj=>g (8*k+j))).toArray),(30,.int .i64 j)]∧U W w (Room r b (gu.set f ⟨oA g k j,1⟩)::aa cG 232 (nR (tP (λj=>if j=k then f else t j) (k+1)))::aa b3 183 (ints .i32 32 g)::aa q 221 [pt r,.map (some m),.int .i64 A.last]::mp m (kvs xs)::ah jd xs::L)) (8) (⟨0,⟨by simp,by simp⟩,E.ab [0,3,6,7,13,29,30],by rw[VB];rw[show pD=(⟨λ_=>0,1⟩:Pg) from rfl]at I;exact I.sub⟩) ?_;clear E I;rintro μ a w ⟨j,⟨rfl,hj⟩,E,I⟩;refine IF 3 E I (λay a E=>?_) λay a E=>?_
  ·
   refine RN 3 E I λa E=>?_;refine SS E (sP E underlying225 underlying21 rfl Ty.t21 (by omega) (fX _ (by omega))) λa E=>?_;refine bW 2 [7] [0,1,2,4,5,6,8,9,3003,1007,1010] E I λa w E I hH hC=>?_;refine RH 9 E I hH hC λa E=>?_;refine SS E (ae E (I.bz (Vy (by omega)))) λa E=>?_;rw[show tP (λj=>if j=k then f else t j) (k+1) k=(f:Int)+1 from by simp[tP]]at E;have eY:f<(gu.set f ⟨oA g k j,1⟩).length:=by rw[bt];exact ju
   have wy:(gu.set f ⟨oA g k j,1⟩)[f]=⟨oA g k j,1⟩:=by rw[ou]
   refine RH 0 E I hH hC λa E=>?_;refine CL 0 E I (D3 (I.pick (Room r b (gu.set f ⟨oA g k j,1⟩))) eY (by rw[wy]) (show j<8 by omega)) λa w E I=>?_;rw[wy,set_set,VC]at I;refine RN 2 E I λa E=>?_;exact⟨8-(j+1),by omega,j+1,⟨rfl,by omega⟩,E.ab [0,3,6,7,13,29,30],I.sub⟩
  obtain rfl:j=8:=by omega
  have VD:=aT (oA g k 8) (λl hl=>by simp[oA,hl]);refine RN 2 E I λa E=>?_;exact⟨4-(k+1),by omega,k+1,_,_,⟨rfl,by omega,VD⟩,E.ab [0,3,6,13],I.sub⟩
 obtain rfl:k=4:=by omega
 have eu:nR (tP t 4)=aC.cells ⟨A.last+1,0,g,t⟩:=by
  rw[nR,aC.cells];rw[yd (g:=tP t 4) (g':=λk=>(t k:Int)+1) (λj hj=>ak hj)];rfl
 rw[eu]at I;have AP:=hw.add hb g t;have AO:=hm.rel hr;refine aW 3 E I (JI (x:=⟨A.last+1,0,g,t⟩) (q:=q) (r:=r) (m:=m) (last:=A.last) (xs:=xs) (L:=Room r b gu::ah jd xs::L) I.sub (by have:=hw.bound;have:=hw.last;omega) (JH h1 hw)) λpb a w E I=>?_;refine RT 2 E I ?_;refine⟨t,rfl,⟨λj hj=>?_,λj l hj hl e=>hm.apart j l hj hl e⟩,?_⟩
 ·obtain⟨q',h5,h6⟩:=hm.Ek j hj;have h7:=(aZ.1 h5).1;exact⟨by omega,by rw[← hr.refs _ _ h5];exact h6⟩
 ·have h6:=U.jY (f:=jd) (l:=xs) (x:=(⟨A.last+1,1,g,t⟩,pb)) (I.sub (M:=aa pb 232 (aC.cells ⟨A.last+1,1,g,t⟩)::ah jd xs::aa q 221 [pt r,.map (some m),.int .i64 ((A.last+1:Nat):Int)]::mp m (kvs xs++[(((A.last+1:Nat):Int),pt pb)])::Room r b gu::L));rw[show kvs xs++[(((A.last+1:Nat):Int),Value.pointer (some ⟨pb,0,none⟩))]=kvs (xs++[(⟨A.last+1,1,g,t⟩,pb)]) from by simp[kvs]]at h6;exact ax.close (last:=A.last+1) (b:=b) (m:=m) (xs:=xs++[(⟨A.last+1,1,g,t⟩,pb)]) h6 (by simp[Sn.add,h1]) AP AO
end
end
section
structure Br where
 id:Nat
 frm:Int
 al:List (List UInt8)
 done:Nat
 snap:Nat
structure Tr where
 most:Nat
 l:List Br
 last:Nat
 epoch:Nat
def nS (p:List (List UInt8)):Prop:=p.length≤65536∧∀ b∈p,b.length≤1099511627776
abbrev cg (x:Br)(ad:Option Addr)(c:Nat):List Value:=[.int .i64 x.id,.int .i64 x.frm,.slice ad x.al.length c,.int .i64 x.done,.int .i64 x.snap]
abbrev Bx:=Br×Option Addr×Nat
abbrev c5 (x:Bx):List Value:=cg x.1 x.2.1 x.2.2
def b7 (x:Bx):SP:=cd x.2.1 x.1.al.length x.2.2 x.1.al
theorem ta (x:Bx):(c5 x).length=5:=rfl
structure WT (T:Tr):Prop where
 most:T.most≤8∧T.l.length≤T.most
 last:T.last<1099511627776
 epoch:T.epoch<1099511627776
 ids:(T.l.map (·.id)).Pairwise (· < ·)
 ok:∀ x∈T.l,nS x.al∧x.done≤x.al.length∧1≤x.id∧x.id≤T.last
def Tree (tq sq:Nat)(T:Tr):SP:=λh=>∃ ad c xs,(xs.map (·.1)=T.l∧WT T) ∧
 cp [aa tq 236 [pt sq,.int .i64 T.most,.slice ad T.l.length c,.int .i64 T.last,.int .i64 T.epoch],Sl 238 5 ad T.l.length c (rows c5 xs),ah b7 xs] h
section
variable {W w:World}{L L' R:List SP}{tq sq q r n c k:Nat}{ad:Option Addr}{A:Sn}{T:Tr}{x y:Br}{xs:List Bx}{p:List (List UInt8)}
theorem Tree.open (I:U W w (Tree tq sq T::L)):∃ ad c xs,xs.map (·.1)=T.l∧WT T ∧
   U W w (aa tq 236 [pt sq,.int .i64 T.most,.slice ad T.l.length c,.int .i64 T.last,.int .i64 T.epoch]::Sl 238 5 ad T.l.length c (rows c5 xs)::ah b7 xs::L):=by
 obtain⟨⟨ad,c,xs⟩,⟨h1,h2⟩,h4⟩:=I.jL (ι:=Option Addr×Nat×List Bx) (p:=λi=>i.2.2.map (·.1)=T.l∧WT T)
  (B:=λi h=>cp [aa tq 236 [pt sq,.int .i64 T.most,.slice i.1 T.l.length i.2.1,.int .i64 T.last,.int .i64 T.epoch],Sl 238 5 i.1 T.l.length i.2.1 (rows c5 i.2.2),ah b7 i.2.2] h)
  (λh ⟨ad,c,xs,h1,h2⟩=>⟨(ad,c,xs),h1,h2⟩)
 exact⟨ad,c,xs,h1,h2,h4.open λ_ h=>h⟩
theorem Tree.close {most last epoch:Nat}(I:U W w L)[k:fN L (aa tq 236 [pt sq,.int .i64 most,.slice ad n c,.int .i64 last,.int .i64 epoch]::Sl 238 5 ad n c (rows c5 xs)::ah b7 xs::L') R]
   (h1:xs.map (·.1)=T.l) (h2:WT T) (e1:T.most=most:=by rfl) (e2:T.l.length=n:=by rfl) (e3:T.last=last:=by rfl) (jr:T.epoch=epoch:=by rfl):U W w (Tree tq sq T::L'):=by
 subst e1 e2 e3 jr;exact U.shut (M:=[_,_,_]) (I.sub (M:=aa tq 236 [pt sq,.int .i64 T.most,.slice ad T.l.length c,.int .i64 T.last,.int .i64 T.epoch]::Sl 238 5 ad T.l.length c (rows c5 xs)::ah b7 xs::L')) (λ_ x=>⟨ad,c,xs,⟨h1,h2⟩,x⟩)
theorem Tree.same (ad:Option Addr)(c:Nat)(xs:List Bx)(I:U W w L)[k:fN L (aa tq 236 [pt sq,.int .i64 T.most,.slice ad T.l.length c,.int .i64 T.last,.int .i64 T.epoch]::Sl 238 5 ad T.l.length c (rows c5 xs)::ah b7 xs::L') R]
   (h1:xs.map (·.1)=T.l) (h2:WT T):U W w (Tree tq sq T::L') :=
 U.shut (M:=[_,_,_]) (I.sub (M:=aa tq 236 [pt sq,.int .i64 T.most,.slice ad T.l.length c,.int .i64 T.last,.int .i64 T.epoch]::Sl 238 5 ad T.l.length c (rows c5 xs)::ah b7 xs::L')) (λ_ x=>⟨ad,c,xs,⟨h1,h2⟩,x⟩)
class wz (L:List SP)(tq:Nat)(sq:outParam Nat)(T:outParam Tr)(R:outParam (List SP)):Prop where perm:L.Perm (Tree tq sq T::R)
instance wz.head {L tq sq T}:wz (Tree tq sq T::L) tq sq T L:=⟨lA _⟩
instance (priority:=low) wz.tail {B L tq sq T R}[h:wz L tq sq T R]:wz (B::L) tq sq T (B::R):=⟨(kq B h.perm).trans (cW _ _ _)⟩
theorem U.tree (I:U W w L)(tq:Nat)[k:wz L tq sq T R]:U W w (Tree tq sq T::R):=I.perm k.perm
theorem Tree.wt (I:U W w (Tree tq sq T::L)):WT T:=by obtain⟨_,_,_,_,h,_⟩:=Tree.open I;exact h
theorem El (h1:xs.map (·.1)=T.l)(hx:T.l[k]?=some x):∃ ad c,xs[k]?=some (x,ad,c):=by
 rw[← h1,bm]at hx;obtain⟨⟨y,ad,c⟩,h2,rfl⟩:=rC.1 hx;exact⟨ad,c,h2⟩
theorem oB {b off:Nat}(hr:Rd w b off (rows c5 xs)){au:Option Addr}{c':Nat}(hx:xs[k]?=some (x,au,c')):Rd w b (off+k*5) (cg x au c'):=by
 obtain⟨hi,he⟩:=aZ.1 hx;have:=hr.part (k*5) 5;rw[vZ ta xs k hi,he]at this;exact this
theorem ah.pG (I:U W w (ah b7 xs::L)){au:Option Addr}{c':Nat}(hx:xs[k]?=some (x,au,c')):k5 w au x.al.length x.al∧x.al.length≤c':=by
 obtain⟨hi,he⟩:=aZ.1 hx;have h:=I.fo hi;rw[he]at h;have h2:U W w (cd au x.al.length c' x.al::_):=h;exact⟨cd.rd h2,(cd.le h2).2⟩
theorem VE {s:Nat}{m:Int}(I:U W w L):Calls prog 91 #[pt s,.int .i64 m] w λe V=>∃ tq,e=.returned (pt tq)∧U W V (Tree tq s ⟨(min (max m 0) 8).toNat,[],0,0⟩::L):=by
 refine EN func91 ntmps91 rfl rfl λa E=>?_;refine BX 8 E I λiJ a w E I=>?_;refine RT 1 E I ?_;rw[show min (max m 0) 8=(((min (max m 0) 8).toNat:Nat):Int) from by omega]at I;have h:U W w (Sl 238 5 none 0 0 (rows c5 [])::ah b7 []::aa iJ 236 [pt s,.int .i64 (((min (max m 0) 8).toNat:Nat):Int),.slice none 0 0,.int .i64 ((0:Nat):Int),.int .i64 ((0:Nat):Int)]::L):=(I.iZ (f:=b7)).bR 238 5 none;exact⟨iJ,rfl,Tree.close (T:=⟨(min (max m 0) 8).toNat,[],0,0⟩) (most:=(min (max m 0) 8).toNat) (ad:=none) (c:=0) (n:=0) (last:=0) (epoch:=0) (xs:=[]) h rfl ⟨⟨by simp only;omega,Nat.zero_le _⟩,by simp,by simp,by simp,by simp⟩⟩
def pH (a b:List (List UInt8)):Bool:=a.take (min a.length b.length)==b.take (min a.length b.length)
theorem VF {u v:List (List UInt8)}{ad2:Option Addr}{c2:Nat}(de:k5 w ad u.length u)(lF:k5 w ad2 v.length v)(ao:u.length≤c)(ay:v.length≤c2)(hb:u.length≤1099511627776) :
   Calls prog 295 #[.slice ad u.length c,.slice ad2 v.length c2] w λe V=>e=.returned (.bool (pH u v))∧V=w.drew:=by
 obtain⟨W,yi⟩:∃ W,w=W:=⟨w,rfl⟩;have I:U W w []:=yi ▸ U.start w;refine EN func295 ntmps295 rfl rfl λa E=>?_;refine RN 8 E I λa E=>?_;rw[show min (u.length:Int) (v.length:Int)=((min u.length v.length:Nat):Int) from by omega]at E;refine RN 2 E I λa E=>?_;have JP:k5 w.drew ad u.length u:=de;have pq:k5 w.drew ad2 v.length v:=lF;refine qy 0 (λ_=>True) [] [0,1,2,3,4,5,1006,7] E I λa E=>?_;replace I:=I.drew;generalize w.drew=w at I JP pq ⊢;have hC:=trivial;have hH:=Hd.any (λ_=>True);refine RH 6 E I hH hC λa E=>?_;rw[pB,pB,Nat.sub_zero,Nat.sub_zero,Nat.sub_zero]at E;refine CL 0 E I (Uq (p:=u.take (min u.length v.length)) (q:=v.take (min u.length v.length)) (JP.take (by omega)) (pq.take (by omega)) (by omega)) λa w E hx=>?_;obtain rfl:=hx;refine RN 1 E (U.start _) λa E=>?_;refine RT 0 E (U.start _) ?_;exact⟨rfl,rfl⟩
theorem Em {u v:List (List UInt8)}{ad2:Option Addr}{c2:Nat}(I:U W w L)(de:k5 w ad u.length u)(lF:k5 w ad2 v.length v)(ao:u.length≤c)(ay:v.length≤c2)(hb:u.length≤1099511627776) :
   Calls prog 295 #[.slice ad u.length c,.slice ad2 v.length c2] w λe V=>e=.returned (.bool (pH u v))∧U W V L :=
 (VF de lF ao ay hb).mono λe V ⟨h1,h2⟩=>⟨h1,by subst h2;exact I.drew⟩
theorem JQ {m:Nat}{zs:List ef}(I:U W w L)(hr:∀ V,U W V L→iH V ad zs)(hm:zs.length=m)(dj:nS (zs.map (·.2.2))) :
   Calls prog 165 #[.slice ad m c] w λe V=>∃ au c',e=.returned (.slice au m c')∧U W V (cd au m c' (zs.map (·.2.2))::L):=by
 obtain⟨JR,VG⟩:=dj;rw[bf]at JR;refine EN func165 ntmps165 rfl rfl λa E=>?_;refine RN 6 E I λa E=>?_;replace I:=cd.nil I;refine RN 3 E I λa E=>?_;refine aQ (λμ a w=>∃ (k:Nat) (fy:Option Addr) (db:Nat),(μ=m-k∧k≤m)∧Fr a 19 [(3,.slice fy k db),(6,.slice ad m c),(7,.int .i64 m),(8,.int .i64 k)]∧U W w (cd fy k db ((zs.map (·.2.2)).take k)::L)) (m) (⟨0,none,0,⟨by simp,by simp⟩,E.ab [3,6,7,8],I⟩) ?_;clear E I;rintro μ a w ⟨k,fy,db,⟨rfl,hk⟩,E,I⟩;refine IF 3 E I (λaj a E=>?_) λaj a E=>?_
 ·
  refine RN 2 E I λa E=>?_;obtain⟨b1,o1,rfl,h1⟩:=(hr _ I.tail).1 (by omega);have eH:zs[k]?=some zs[k]:=aD (by omega);have oC:=VG zs[k].2.2 (cV.2 ⟨zs[k],iI _,rfl⟩);have kD:=h1 k _ (by rw[bm,eH];rfl);refine RN 1 E I λa E=>?_;refine SS E (ae E (kD)) λa E=>?_;refine aX 3 E I (sW (bs:=zs[k].2.2) I (λV h=>(hr _ h.tail).2 _ (iI _)) oC) λmG hO a w E I=>?_;refine RN 0 E I λa E=>?_;refine cn E rfl I underlying207 Ty.t22 rfl rfl rfl rfl (by decide) (by decide) λVH a w E I ho=>?_;clear ho;obtain⟨ys,ib,kE,I⟩:=cd.open (I.pick (cd fy k db ((zs.map (·.2.2)).take k)));refine RN 0 E I λa E=>?_;refine cK E rfl I underlying207 Ty.t22 rfl rfl I.ai rfl (by simp[Value.oneCell']) (by decide) (by decide) (by omega) λEn Eo a w E I=>?_;have h8:=U.jY (f:=ba) (l:=ys) (x:=(mG,hO,zs[k].2.2)) (I.sub (M:=Sl 5 1 mG zs[k].2.2.length hO (bc zs[k].2.2)::ah ba ys::Sl 22 1 En (k+1) Eo (ys.map aM++[[.slice mG zs[k].2.2.length hO]].flatten)::L));have h9:U W w (ah ba (ys++[(mG,hO,zs[k].2.2)])::Sl 22 1 En (k+1) Eo ((ys++[(mG,hO,zs[k].2.2)]).map aM)::L):=by
   rw[cS];exact h8
  have dS:k<(zs.map (·.2.2)).length:=by rw[bf];omega
  have fP:=cd.close (p:=(zs.map (·.2.2)).take (k+1)) (ad:=En) (n:=k+1) (c:=Eo) (xs:=ys++[(mG,hO,zs[k].2.2)]) (L':=L) h9 (by rw[cS,ib,jv dS];simp) (by rw[dH];omega);replace I:=fP;clear h8 h9 fP;refine RN 3 E I λa E=>?_;exact⟨m-(k+1),by omega,k+1,_,_,⟨rfl,by omega⟩,E.ab [3,6,7,8],I⟩
 refine RT 3 E I ?_;obtain rfl:k=m:=by omega
 rw[fO (by rw[bf];omega)]at I;exact⟨_,_,rfl,I⟩
theorem JS {zs:List ef}{au:Option Addr}{c':Nat}(I:U W w L)(hr:∀ V,U W V L→iH V au zs)(hz:zs.map (·.2.2)=x.al)(dj:nS x.al) :
   Calls prog 123 #[.agg (cg x au c').toArray] w λe V=>∃ ad2 c2,e=.returned (.agg (cg x ad2 c2).toArray)∧U W V (cd ad2 x.al.length c2 x.al::L):=by
 have jt:zs.length=x.al.length:=by rw[← hz,bf]
 refine EN func123 ntmps123 rfl rfl λa E=>?_;refine BX 1 E I λb1 a w E I=>?_;refine AL 0 E I λb2 a w E I=>?_;refine aX 3 E I (JQ I (λV h=>hr V h.tail.tail) jt (by rw[hz];exact dj)) λad2 c2 a w E I=>?_;rw[hz]at I;refine ST 1 E I (λa w E I=>?_) (hlt:=(by simp[cg]));refine SA 2 E I λa w E I=>?_;refine RT 0 E I ?_;exact⟨ad2,c2,rfl,I.sub⟩
theorem VI {b:Nat}{id:Int}{au:Option Addr}{c':Nat}(I:U W w (aa b 2 [.int .i64 id]::L)) :
   Calls prog 212 #[.agg (cg x au c').toArray,pt b] w λe V=>e=.returned (.bool (decide ((x.id:Int)=id)))∧U W V (aa b 2 [.int .i64 id]::L):=by
 refine EN func212 ntmps212 rfl rfl λa E=>?_;refine BX 1 E I λb2 a w E I=>?_;refine RT 7 E I ?_;exact⟨rfl,I.sub⟩
theorem VJ {b:Nat}{id:Int}{au:Option Addr}{c':Nat}(I:U W w (aa b 2 [.int .i64 id]::Sl 238 5 au n c' (rows c5 xs)::L))(hb:n≤1048576) :
   Calls prog 211 #[.slice au n c',.func (.func 212) #[] #[pt b]] w λe V =>
    ∃ r:Int,e=.returned (.int .i64 r)∧((r = -1∧∀ y∈xs,(y.1.id:Int)≠id)∨∃ k y,r=(k:Nat)∧xs[k]?=some y∧(y.1.id:Int)=id)∧U W V (Sl 238 5 au n c' (rows c5 xs)::L):=by
 have b0:xs.length=n:=by
  have:=(I.tail.sl au).1;rw[iG ta]at this;omega
 refine EN func211 ntmps211 rfl rfl λa E=>?_;refine RN 7 E I λa E=>?_;refine aQ (λμ a w=>∃ k:Nat,(μ=n-k∧k≤n∧∀ j y,j<k→xs[j]?=some y→(y.1.id:Int)≠id)∧Fr a 19 [(0,.slice au n c'),(1,.func (.func 212) #[] #[pt b]),(7,.int .i64 n),(8,.int .i64 k)]∧U W w (aa b 2 [.int .i64 id]::Sl 238 5 au n c' (rows c5 xs)::L)) (n) (⟨0,⟨by simp,by simp,by omega⟩,E.ab [0,1,7,8],I⟩) ?_;clear E I;rintro μ a w ⟨k,⟨rfl,hk,b6⟩,E,I⟩;refine IF 3 E I (λaj a E=>?_) λaj a E=>?_
 ·
  refine RN 5 E I λa E=>?_;obtain⟨b',dI,rfl,dh⟩:=I.tail.bY au (by omega);obtain⟨⟨y,ya,yc⟩,hy⟩:∃ y,xs[k]?=some y:=⟨_,aD (by omega)⟩;have fY:=oB dh hy;refine RN 4 E I λa E=>?_;refine SS E (bQ E underlying238 rfl Ty.t238 (fY)) λa E=>?_;refine CL 0 E I (VI (x:=y) (au:=ya) (c':=yc) I) λa w E I=>?_;refine IF 0 E I (λao a E=>?_) λao a E=>?_
  ·
   skip
   refine RT 3 E I ?_;exact⟨_,rfl,.inr ⟨k,(y,ya,yc),rfl,hy,ao⟩,I.tail⟩
  refine RN 2 E I λa E=>?_;refine⟨n-(k+1),by omega,k+1,⟨rfl,by omega,λj z hj hz=>?_⟩,E.ab [0,1,7,8],I⟩;by_cases qt:j=k
  ·subst qt;rw[hy]at hz;cases hz;exact ao
  ·exact b6 j z (by omega) hz
 refine RT 2 E I ?_;refine⟨-1,rfl,.inl ⟨rfl,λz hz=>?_⟩,I.tail⟩;obtain⟨j,hj⟩:=j5.1 hz;have ea:=(aZ.1 hj).1;exact b6 j z (by omega) hj
theorem Ep {id:Int}(I:U W w (Tree tq sq T::L)) :
   Calls prog 183 #[pt tq,.int .i64 id] w λe V =>
    ∃ r:Int,e=.returned (.int .i64 r)∧((r = -1∧∀ y∈T.l,(y.id:Int)≠id)∨∃ k y,r=(k:Nat)∧T.l[k]?=some y∧(y.id:Int)=id)∧U W V (Tree tq sq T::L):=by
 refine EN func183 ntmps183 rfl rfl λa E=>?_;refine BX 1 E I λb3 a w E I=>?_;refine RN 5 E I λa E=>?_;replace E:=E.aK 6;refine RN 2 E I λa E=>?_;obtain⟨ad,c,xs,h1,hw,I⟩:=Tree.open (I.tree tq);have hT:=hw.most;refine aW 5 E I (VJ (xs:=xs) (b:=b3) (id:=id) (au:=ad) (c':=c) (n:=T.l.length) (L:=aa tq 236 [pt sq,.int .i64 T.most,.slice ad T.l.length c,.int .i64 T.last,.int .i64 T.epoch]::ah b7 xs::L) I.sub (by omega)) λr a w E ⟨hr,I⟩=>?_;refine RT 1 E I ?_;refine⟨r,rfl,?_,Tree.same ad c xs I h1 hw⟩;rcases hr with ⟨h2,h3⟩ | ⟨k,y,h2,h3,h4⟩
 ·refine .inl ⟨h2,λy hy=>?_⟩;rw[← h1]at hy;obtain⟨z,hz,rfl⟩:=cV.1 hy;exact h3 z hz
 ·exact .inr ⟨k,y.1,h2,by rw[← h1,bm,h3];rfl,h4⟩
theorem U.JT (I:U W w (ah b7 xs::L)){au:Option Addr}{c':Nat}(hx:xs[k]?=some (x,au,c')):∃ zs:List ef,zs.map (·.2.2)=x.al∧x.al.length≤c' ∧
   U W w (Sl 22 1 au x.al.length c' (zs.map aM)::ah ba zs::ah b7 (xs.eraseIdx k)::L):=by
 obtain⟨hi,he⟩:=aZ.1 hx;have h:=I.fo hi;rw[he]at h;have h2:U W w (cd au x.al.length c' x.al::ah b7 (xs.eraseIdx k)::L):=h;obtain⟨zs,h3,h4,h5⟩:=cd.open h2;exact⟨zs,h3,(cd.le h2).2,h5⟩
theorem U.JU {zs:List ef}{au:Option Addr}{c':Nat}(I:U W w L)[kk:fN L (Sl 22 1 au n c' (zs.map aM)::ah ba zs::ah b7 (xs.eraseIdx k)::L') R](hx:xs[k]?=some (x,au,c'))(hz:zs.map (·.2.2)=x.al)(hn:x.al.length=n):U W w (ah b7 xs::L'):=by
 subst hn;obtain⟨hi,he⟩:=aZ.1 hx;have h1:=I.sub (M:=Sl 22 1 au x.al.length c' (zs.map aM)::ah ba zs::ah b7 (xs.eraseIdx k)::L');have h2:=cd.close (L':=ah b7 (xs.eraseIdx k)::L') (p:=x.al) (ad:=au) (n:=x.al.length) (c:=c') (xs:=zs) h1 hz rfl;have h3:U W w (b7 (x,au,c')::ah b7 (xs.eraseIdx k)::L'):=h2;have h4:=U.kY hi h3;rw[← he,mE]at h4;exact h4
theorem yr (I:U W w (Tree tq sq T::L))(hx:T.l[k]?=some x) :
   Calls prog 143 #[pt tq,.int .i64 x.id] w λe V=>∃ ad c,e=.returned (.tuple #[.agg (cg x ad c).toArray,.bool true])∧U W V (cd ad x.al.length c x.al::Tree tq sq T::L):=by
 refine EN func143 ntmps143 rfl rfl λa E=>?_;refine AL 1 E I λb4 a w E I=>?_;refine aW 4 E I (Ep (id:=(x.id:Int)) (I.tree tq)) λr a w E ⟨hr,I⟩=>?_;obtain⟨hw,fY⟩:WT T∧r=(k:Nat):=by
  have hw:=Tree.wt I;refine⟨hw,?_⟩;rcases hr with ⟨_,h3⟩ | ⟨j,y,h2,h3,h4⟩
  ·exact absurd rfl (h3 x (bH hx))
  ·have hp:=List.pairwise_iff_getElem.1 hw.ids;obtain⟨hj,rfl⟩:=aZ.1 h3;obtain⟨hk,rfl⟩:=aZ.1 hx;rcases Nat.lt_trichotomy j k with hl | hl | hl
   ·have:=hp j k (by simpa using hj) (by simpa using hk) hl;simp at this;omega
   ·rw[h2,hl]
   ·have:=hp k j (by simpa using hk) (by simpa using hj) hl;simp at this;omega
 subst fY;have dS:=(aZ.1 hx).1;have kF:=(hw.ok x (bH hx)).1;clear hr;refine RN 5 E I λa E=>?_;rw[bn (by omega)]at E;refine RN 2 E I λa E=>?_;obtain⟨ad,c,xs,h1,hw,I⟩:=Tree.open (I.tree tq);obtain⟨eP,dc,eb⟩:=El h1 hx;obtain⟨b',dI,rfl,dh⟩:=I.tail.bY ad (by omega);have fY:=oB dh eb;refine RN 6 E I λa E=>?_;refine SS E (bQ E underlying238 rfl Ty.t238 (fY)) λa E=>?_;obtain⟨zs,cv,ew,I⟩:=U.JT (I.pick (ah b7 xs)) eb;refine aX 0 E I (JS (x:=x) (au:=eP) (c':=dc) I (λV h=>U.mB h) cv kF) λad2 c2 a w E I=>?_;refine SA 0 E I λa w E I=>?_;refine RT 1 E I ?_;have h5:=U.JU (L':=cd ad2 x.al.length c2 x.al::aa tq 236 [pt sq,.int .i64 T.most,.slice (some ⟨b',dI,none⟩) T.l.length c,.int .i64 T.last,.int .i64 T.epoch]::Sl 238 5 (some ⟨b',dI,none⟩) T.l.length c (rows c5 xs)::L) I eb cv rfl;refine⟨ad2,c2,rfl,?_⟩;have h6:=Tree.same (tq:=tq) (sq:=sq) (T:=T) (L':=cd ad2 x.al.length c2 x.al::L) (some ⟨b',dI,none⟩) c xs h5 h1 hw;exact h6.perm (cW _ _ _)
theorem VK {id:Int}(I:U W w (Tree tq sq T::L))(hn:∀ y∈T.l,(y.id:Int)≠id) :
   Calls prog 143 #[pt tq,.int .i64 id] w λe V=>e=.returned (.tuple #[.agg (cg ⟨0,0,[],0,0⟩ none 0).toArray,.bool false])∧U W V (Tree tq sq T::L):=by
 refine EN func143 ntmps143 rfl rfl λa E=>?_;refine AL 1 E I λb4 a w E I=>?_;refine aW 4 E I (Ep (id:=id) (I.tree tq)) λr a w E ⟨hr,I⟩=>?_;obtain rfl:r = -1:=by
  rcases hr with ⟨h,_⟩ | ⟨j,y,_,h3,h4⟩
  ·exact h
  ·exact absurd h4 (hn y (bH h3))
 clear hr;refine RN 5 E I λa E=>?_;replace E:=E.eG 11;refine SA 3 E I λa w E I=>?_;refine RT 1 E I ?_;exact⟨rfl,I.sub⟩
theorem AR (I:U W w (Tree tq sq T::L)) :
   Calls prog 144 #[pt tq] w λe V=>e=.returned (.int .i64 T.epoch)∧U W V (Tree tq sq T::L):=by
 obtain⟨ad,c,xs,h1,hw,I⟩:=Tree.open I;refine EN func144 ntmps144 rfl rfl λa E=>?_;refine RN 6 E I λa E=>?_;replace E:=E.aK 4;refine RT 7 E I ?_;exact⟨rfl,Tree.same ad c xs I h1 hw⟩
def k8 (ad:Option Addr)(n c:Nat)(l:List Br):SP:=λh=>∃ ys:List Bx,(ys.map (·.1)=l∧l.length=n)∧cp [Sl 238 5 ad n c (rows c5 ys),ah b7 ys] h
theorem k8.open {l:List Br}(I:U W w (k8 ad n c l::L)):∃ ys:List Bx,ys.map (·.1)=l∧l.length=n∧U W w (Sl 238 5 ad n c (rows c5 ys)::ah b7 ys::L):=by
 obtain⟨xs,⟨h1,h2⟩,h3⟩:=I.jL (ι:=List Bx) (p:=λxs=>xs.map (·.1)=l∧l.length=n) (B:=λxs h=>cp [Sl 238 5 ad n c (rows c5 xs),ah b7 xs] h) (λh ⟨xs,h1,h2⟩=>⟨xs,h1,h2⟩);exact⟨xs,h1,h2,h3.open λ_ h=>h⟩
theorem k8.close {l:List Br}(ys:List Bx)(I:U W w L)[k:fN L (Sl 238 5 ad n c (rows c5 ys)::ah b7 ys::L') R](h1:ys.map (·.1)=l)(h2:l.length=n):U W w (k8 ad n c l::L') :=
 U.shut (M:=[_,_]) (I.sub (M:=Sl 238 5 ad n c (rows c5 ys)::ah b7 ys::L')) (λ_ x=>⟨ys,⟨h1,h2⟩,x⟩)
theorem k8.nil (I:U W w L):U W w (k8 none 0 0 []::L):=by
 have h:U W w (Sl 238 5 none 0 0 (rows c5 [])::ah b7 []::L):=(I.iZ (f:=b7)).bR 238 5 none;exact k8.close [] h rfl rfl
theorem VL (ys:List Bx)(y:Bx):rows c5 ys++[c5 y].flatten=rows c5 (ys++[y]):=by rw[kz];simp[rows]
theorem Er (ys:List Bx)(x:Br)(ad:Option Addr)(c:Nat):rows c5 ys++[cg x ad c].flatten=rows c5 (ys++[(x,ad,c)]):=VL ys (x,ad,c)
theorem AS (I:U W w (Tree tq sq T::L)) :
   Calls prog 88 #[pt tq] w λe V=>∃ ad c,e=.returned (.slice ad T.l.length c)∧U W V (k8 ad T.l.length c T.l::Tree tq sq T::L):=by
 obtain⟨ad,c,xs,h1,hw,I⟩:=Tree.open I;have b0:xs.length=T.l.length:=by rw[← h1,bf]
 have hT:=hw.most;refine EN func88 ntmps88 rfl rfl λa E=>?_;refine RN 6 E I λa E=>?_;replace E:=E.aK 7;refine RN 5 E I λa E=>?_;replace I:=k8.nil I;refine RN 6 E I λa E=>?_;refine aQ (λμ a w=>∃ (k:Nat) (fy:Option Addr) (db:Nat),(μ=T.l.length-k∧k≤T.l.length)∧Fr a 24 [(3,.slice fy k db),(11,.slice ad T.l.length c),(12,.int .i64 T.l.length),(13,.int .i64 k)]∧U W w (k8 fy k db (T.l.take k)::aa tq 236 [pt sq,.int .i64 T.most,.slice ad T.l.length c,.int .i64 T.last,.int .i64 T.epoch]::Sl 238 5 ad T.l.length c (rows c5 xs)::ah b7 xs::L)) (T.l.length) (⟨0,none,0,⟨by simp,by simp⟩,E.ab [3,11,12,13],I⟩) ?_;clear E I;rintro μ a w ⟨k,fy,db,⟨rfl,hk⟩,E,I⟩;refine IF 3 E I (λao a E=>?_) λao a E=>?_
 ·
  refine RN 2 E I λa E=>?_;obtain⟨b',dI,rfl,dh⟩:=I.bY ad (by omega);obtain⟨⟨x,eP,dc⟩,eb⟩:∃ y,xs[k]?=some y:=⟨_,aD (by omega)⟩;have fY:=oB dh eb;have jy:T.l[k]?=some x:=by rw[← h1,bm,eb];rfl
  have kF:=(hw.ok x (bH jy)).1;refine RN 1 E I λa E=>?_;refine SS E (bQ E underlying238 rfl Ty.t238 (fY)) λa E=>?_;refine AL 0 E I λb5 a w E I=>?_;refine SA 0 E I λa w E I=>?_;refine RN 2 E I λa E=>?_;obtain⟨zs,cv,ew,I⟩:=U.JT (I.pick (ah b7 xs)) eb;refine aX 0 E I (JS (x:=x) (au:=eP) (c':=dc) I (λV h=>U.mB h) cv kF) λad2 c2 a w E I=>?_;refine RN 0 E I λa E=>?_;refine cn E rfl I underlying168 Ty.t238 rfl rfl rfl rfl (by decide) (by decide) λJV a w E I ho=>?_;clear ho;obtain⟨ys,ib,kE,I⟩:=k8.open (I.pick (k8 fy k db (T.l.take k)));refine RN 0 E I λa E=>?_;refine cK E rfl I underlying168 Ty.t238 rfl rfl I.ai rfl (by simp[Value.oneCell',cg]) (by decide) (by decide) (by omega) λrH rI a w E I=>?_;have h8:=U.jY (f:=b7) (l:=ys) (x:=(x,ad2,c2)) (I.sub (M:=cd ad2 x.al.length c2 x.al::ah b7 ys::Sl 238 5 rH (k+1) rI (rows c5 ys++[cg x ad2 c2].flatten)::Sl 22 1 eP x.al.length dc (zs.map aM)::ah ba zs::ah b7 (xs.eraseIdx k)::aa tq 236 [pt sq,.int .i64 T.most,.slice (some ⟨b',dI,none⟩) T.l.length c,.int .i64 T.last,.int .i64 T.epoch]::Sl 238 5 (some ⟨b',dI,none⟩) T.l.length c (rows c5 xs)::L));rw[Er]at h8;have h9:=k8.close (l:=T.l.take (k+1)) (n:=k+1) (ad:=rH) (c:=rI) (L':=Sl 22 1 eP x.al.length dc (zs.map aM)::ah ba zs::ah b7 (xs.eraseIdx k)::aa tq 236 [pt sq,.int .i64 T.most,.slice (some ⟨b',dI,none⟩) T.l.length c,.int .i64 T.last,.int .i64 T.epoch]::Sl 238 5 (some ⟨b',dI,none⟩) T.l.length c (rows c5 xs)::L) (ys++[(x,ad2,c2)]) h8 (by
   have dS:k<T.l.length:=by omega
   rw[cS,ib,jv dS];rw[aD dS]at jy;cases jy;rfl) (by rw[dH];omega)
  have fP:=U.JU (L':=k8 rH (k+1) rI (T.l.take (k+1))::aa tq 236 [pt sq,.int .i64 T.most,.slice (some ⟨b',dI,none⟩) T.l.length c,.int .i64 T.last,.int .i64 T.epoch]::Sl 238 5 (some ⟨b',dI,none⟩) T.l.length c (rows c5 xs)::L) h9 eb cv rfl;replace I:=fP;clear h8 h9 fP;refine RN 3 E I λa E=>?_;exact⟨T.l.length-(k+1),by omega,k+1,_,_,⟨rfl,by omega⟩,E.ab [3,11,12,13],I.sub⟩
 refine RT 3 E I ?_;obtain rfl:k=T.l.length:=by omega
 rw[k0]at I;refine⟨_,_,rfl,?_⟩;have h6:=Tree.same (tq:=tq) (sq:=sq) (T:=T) (L':=k8 fy T.l.length db T.l::L) ad c xs I h1 hw;exact h6.perm (cW _ _ _)
def Tr.add (T:Tr)(frm:Int)(p:List (List UInt8))(snap:Nat):Tr:={ T with l:=T.l++[⟨T.last+1,frm,p,0,snap⟩],last:=T.last+1 }
def Br.is (y:Br)(frm:Int)(p:List (List UInt8)):Prop:=y.frm=frm∧y.al=p
theorem JW {u v:List (List UInt8)}(h:u.length=v.length):(pH u v=true)↔u=v:=by
 rw[pH,← h,Nat.min_self,k0,h,k0];simp
theorem JX {frm sn:Int}{ad2:Option Addr}{m c2:Nat}(I:U W w (Tree tq sq T::L))(h:T.most≤T.l.length∨m=0) :
   Calls prog 306 #[pt tq,.int .i64 frm,.int .i64 sn,.slice ad2 m c2] w λe V=>e=.returned (.tuple #[.int .i64 0,.bool false])∧U W V (Tree tq sq T::L):=by
 obtain⟨ad,c,xs,h1,hw,I⟩:=Tree.open I;refine EN func306 ntmps306 rfl rfl λa E=>?_;refine bW 5 [11] [0,1,2,3,4,5,8,9,10,3006,7,1011,12,13,14,15,16,17,18] E I λa w E I hH hC=>?_;refine RH 3 E I hH hC λa E=>?_;replace E:=E.aK 16;refine RH 12 E I hH hC λa E=>?_;refine E.by (s:=28) (λjO E=>?_) (λjO E=>?_)
 ·
  refine RH 4 E I hH hC λa E=>?_;refine RT 4 E I ?_;exact⟨rfl,Tree.same ad c xs I h1 hw⟩
 refine RH 4 E I hH hC λa E=>?_;rw[dp (by omega)]at E;refine RT 4 E I ?_;exact⟨rfl,Tree.same ad c xs I h1 hw⟩
theorem VM {frm sn:Int}{ad2:Option Addr}{c2 j:Nat}{y:Br}(I:U W w (Tree tq sq T::L))(hp:∀ V,U W V L→k5 V ad2 p.length p)(hc:p.length≤c2)(dj:nS p)(hy:T.l[j]?=some y)(wA:y.is frm p) :
   Calls prog 306 #[pt tq,.int .i64 frm,.int .i64 sn,.slice ad2 p.length c2] w λe V=>e=.returned (.tuple #[.int .i64 0,.bool false])∧U W V (Tree tq sq T::L):=by
 obtain⟨ad,c,xs,h1,hw,I⟩:=Tree.open I;have b0:xs.length=T.l.length:=by rw[← h1,bf]
 have hT:=hw.most;have ea:=(aZ.1 hy).1;refine EN func306 ntmps306 rfl rfl λa E=>?_;refine bW 5 [11] [0,1,2,3,4,5,8,9,10,3006,7,1011,12,13,14,15,16,17,18] E I λa w E I hH hC=>?_;refine RH 3 E I hH hC λa E=>?_;replace E:=E.aK 16;refine RH 12 E I hH hC λa E=>?_;refine E.by (s:=28) (λjO E=>?_) (λjO E=>?_)
 ·
  refine RH 4 E I hH hC λa E=>?_;refine RT 4 E I ?_;exact⟨rfl,Tree.same ad c xs I h1 hw⟩
 refine RH 4 E I hH hC λa E=>?_;refine IF 0 E I (λaj a E=>?_) λaj a E=>?_
 ·
  refine RT 3 E I ?_;exact⟨rfl,Tree.same ad c xs I h1 hw⟩
 refine RN 8 E I λa E=>?_;refine aQ (λμ a w=>∃ k:Nat,(μ=j-k∧k≤j)∧Fr a 101 [(1,.int .i64 frm),(3,.slice ad2 p.length c2),(36,.slice ad T.l.length c),(37,.int .i64 T.l.length),(38,.int .i64 k)]∧U W w (aa tq 236 [pt sq,.int .i64 T.most,.slice ad T.l.length c,.int .i64 T.last,.int .i64 T.epoch]::Sl 238 5 ad T.l.length c (rows c5 xs)::ah b7 xs::L)) (j) (⟨0,⟨by simp,by simp⟩,E.ab [1,3,36,37,38],I.sub⟩) ?_;clear E I;rintro μ a w ⟨k,⟨rfl,hk⟩,E,I⟩;refine RN 3 E I λa E=>?_;rw[dp (by omega)]at E;refine RN 3 E I λa E=>?_;obtain⟨b',dI,rfl,dh⟩:=I.bY ad (by omega);obtain⟨⟨x,eP,dc⟩,eb⟩:∃ y,xs[k]?=some y:=⟨_,aD (by omega)⟩;have fY:=oB dh eb;have jy:T.l[k]?=some x:=by rw[← h1,bm,eb];rfl
 have kF:=(hw.ok x (bH jy)).1;have yt:k=j→x=y:=λe=>by rw[e,hy]at jy;cases jy;rfl
 refine RN 1 E I λa E=>?_;refine SS E (bQ E underlying238 rfl Ty.t238 (fY)) λa E=>?_;refine AL 0 E I λiK a w E I=>?_;refine SA 0 E I λa w E I=>?_;refine BY 6 E I (λdk a E=>?_) λdk a E=>?_
 ·
  refine BY 8 E I (λic a E=>?_) λic a E=>?_
  ·
   refine RN 3 E I λa E=>?_;have eS:=ah.pG (I.pick (ah b7 xs)) eb;refine CL 0 E I (Em (u:=x.al) (v:=p) I eS.1 (hp _ I.sub) eS.2 hc (by have:=kF.1;omega)) λa w E I=>?_;refine IF 1 E I (λay a E=>?_) λay a E=>?_
   ·
    refine RT 3 E I ?_;exact⟨rfl,Tree.same (some ⟨b',dI,none⟩) c xs I h1 hw⟩
   have bT : k ≠ j := fun e => by
       have AT:x.al=p:=by rw[yt e];exact wA.2
       rw[(JW (by rw[AT])).2 AT]at ay;cases ay
   refine RN 2 E I λa E=>?_;exact⟨j-(k+1),by omega,k+1,⟨rfl,by omega⟩,E.ab [1,3,36,37,38],I.sub⟩
  have bT:k≠j:=λe=>ic (by rw[yt e,wA.2]);refine RN 3 E I λa E=>?_;have eS:=ah.pG (I.pick (ah b7 xs)) eb;refine RN 5 E I λa E=>?_;exact⟨j-(k+1),by omega,k+1,⟨rfl,by omega⟩,E.ab [1,3,36,37,38],I.sub⟩
 have bT:k≠j:=λe=>dk (by rw[yt e];exact wA.1);refine RN 11 E I λa E=>?_;have eS:=ah.pG (I.pick (ah b7 xs)) eb;refine RN 5 E I λa E=>?_;exact⟨j-(k+1),by omega,k+1,⟨rfl,by omega⟩,E.ab [1,3,36,37,38],I.sub⟩
theorem WT.add {frm:Int}{sn:Nat}(h:WT T)(h1:T.l.length<T.most)(h2:T.last+1<1099511627776)(dj:nS p):WT (T.add frm p sn):=by
 obtain⟨df,dz,a3,a4,a5⟩:=h;refine⟨⟨df.1,by simp[Tr.add];omega⟩,h2,a3,?_,λx hx=>?_⟩
 ·simp only[Tr.add,cS,map_cons,map_nil];refine List.pairwise_append.2 ⟨a4,by simp,λu hu v hv=>?_⟩;obtain⟨x,hx,rfl⟩:=cV.1 hu;have:=(a5 x hx).2.2.2;simp at hv;omega
 ·simp only[Tr.add]at hx ⊢;rcases eX.1 hx with hx | hx
  ·obtain⟨b1,b2,b3,b4⟩:=a5 x hx;exact⟨b1,b2,b3,by omega⟩
  ·simp at hx;subst hx;exact⟨dj,Nat.zero_le _,by simp,bh _⟩
theorem VN {frm:Int}{ad2:Option Addr}{c2 i:Nat}{zs:List ef}{px:aC}(I:U W w (Tree tq sq T::ax sq r A::L))(hr:∀ V,U W V L→iH V ad2 zs)(hz:zs.map (·.2.2)=p)(hc:p.length≤c2)(dj:nS p)
   (hx:A.av[i]?=some px) (hb:A.n+1<1099511627776) (hl:T.last+1<1099511627776) (b6:∀ y∈T.l,¬ y.is frm p) (hm:T.l.length<T.most) (h0:0<p.length) :
   Calls prog 306 #[pt tq,.int .i64 frm,.int .i64 px.id,.slice ad2 p.length c2] w λe V=>e=.returned (.tuple #[.int .i64 ((T.last+1:Nat):Int),.bool true])∧U W V (Tree tq sq (T.add frm p (A.last+1))::ax sq r (A.add px.g px.p)::L):=by
 obtain⟨ad,c,xs,h1,hw,I⟩:=Tree.open I;have b0:xs.length=T.l.length:=by rw[← h1,bf]
 have hT:=hw.most;have hp:∀ V,U W V L→k5 V ad2 p.length p:=λV h=>by
  have:=(hr V h).bb;rw[hz]at this
  rwa [show zs.length=p.length from by rw[← hz,bf]]at this
 refine EN func306 ntmps306 rfl rfl λa E=>?_;refine bW 5 [11] [0,1,2,3,4,5,8,9,10,3006,7,1011,12,13,14,15,16,17,18] E I λa w E I hH hC=>?_;refine RH 3 E I hH hC λa E=>?_;replace E:=E.aK 16;refine RH 12 E I hH hC λa E=>?_;rw[bn (by omega)]at E;refine RH 4 E I hH hC λa E=>?_;rw[bn (by omega)]at E;refine RN 9 E I λa E=>?_;refine aQ (λμ a w=>∃ k:Nat,(μ=T.l.length-k∧k≤T.l.length)∧Fr a 101 [(0,pt tq),(1,.int .i64 frm),(2,.int .i64 px.id),(3,.slice ad2 p.length c2),(36,.slice ad T.l.length c),(37,.int .i64 T.l.length),(38,.int .i64 k)]∧U W w (aa tq 236 [pt sq,.int .i64 T.most,.slice ad T.l.length c,.int .i64 T.last,.int .i64 T.epoch]::Sl 238 5 ad T.l.length c (rows c5 xs)::ah b7 xs::ax sq r A::L)) (T.l.length) (⟨0,⟨by simp,by simp⟩,E.ab [0,1,2,3,36,37,38],I.sub⟩) ?_;clear E I;rintro μ a w ⟨k,⟨rfl,hk⟩,E,I⟩;refine IF 3 E I (λao a E=>?_) λao a E=>?_
 ·
  refine RN 2 E I λa E=>?_;obtain⟨b',dI,rfl,dh⟩:=I.bY ad (by omega);obtain⟨⟨x,eP,dc⟩,eb⟩:∃ y,xs[k]?=some y:=⟨_,aD (by omega)⟩;have fY:=oB dh eb;have jy:T.l[k]?=some x:=by rw[← h1,bm,eb];rfl
  have eh:=bH jy;have kF:=(hw.ok x eh).1;have VO:=b6 x eh;refine RN 1 E I λa E=>?_;refine SS E (bQ E underlying238 rfl Ty.t238 (fY)) λa E=>?_;refine AL 0 E I λiK a w E I=>?_;refine SA 0 E I λa w E I=>?_;refine BY 6 E I (λdk a E=>?_) λdk a E=>?_
  ·
   refine BY 8 E I (λic a E=>?_) λic a E=>?_
   ·
    refine RN 3 E I λa E=>?_;have eS:=ah.pG (I.pick (ah b7 xs)) eb;refine CL 0 E I (Em (u:=x.al) (v:=p) I eS.1 (hp _ I.sub) eS.2 hc (by have:=kF.1;omega)) λa w E I=>?_;refine IF 1 E I (λay a E=>?_) λay a E=>?_
    ·
     (try simp only at ic);exact absurd ⟨by omega,(JW (by omega)).1 ay⟩ VO
    refine RN 2 E I λa E=>?_;exact⟨T.l.length-(k+1),by omega,k+1,⟨rfl,by omega⟩,E.ab [0,1,2,3,36,37,38],I.sub⟩
   refine RN 3 E I λa E=>?_;have eS:=ah.pG (I.pick (ah b7 xs)) eb;refine RN 5 E I λa E=>?_;exact⟨T.l.length-(k+1),by omega,k+1,⟨rfl,by omega⟩,E.ab [0,1,2,3,36,37,38],I.sub⟩
  refine RN 11 E I λa E=>?_;have eS:=ah.pG (I.pick (ah b7 xs)) eb;refine RN 5 E I λa E=>?_;exact⟨T.l.length-(k+1),by omega,k+1,⟨rfl,by omega⟩,E.ab [0,1,2,3,36,37,38],I.sub⟩
 refine CL 6 E I (JJ (I.pick (ax sq r A)) hx hb) λa w E I=>?_;refine RN 9 E I λa E=>?_;replace E:=E.aK 71;refine ST 9 E I (λa w E I=>?_);rw[show ((T.last:Int)+1)=((T.last+1:Nat):Int) from rfl]at I;refine a1 1 (λw0 V=>V.cell? ⟨tq,2,none⟩=some (.slice ad T.l.length c)∧V.cell? ⟨tq,3,none⟩=some (.int .i64 ((T.last+1:Nat):Int))) [8,11,13,14] [0,1,2,3,5,6,7,9,10,12,3004,3008,1011,1013,1014,1015,16,17,1018] E I λa w E I hH=>?_;have hC:=hH.at w ⟨I.bz rfl,I.bz rfl⟩;refine RH 10 E I hH hC λa E=>?_;refine QH E (λw hc=>ae E (hc.1)) hC λa E=>?_;refine QH E (λw hc=>ae E (hc.2)) hC λa E=>?_;refine RH 0 E I hH hC λa E=>?_;refine aX 0 E I (JQ I (λV h=>hr V h.sub) (by rw[← hz,bf]) (by rw[hz];exact dj)) λmG hO a w E I=>?_;replace hC:=hH.at w ⟨I.bz rfl,I.bz rfl⟩;refine RH 1 E I hH hC λa E=>?_;refine cn E rfl I underlying168 Ty.t238 rfl rfl rfl rfl (by decide) (by decide) λb93 a w E I ho=>?_;clear ho;replace hC:=hH.at w ⟨I.bz rfl,I.bz rfl⟩;refine RH 0 E I hH hC λa E=>?_;refine cK E rfl I underlying168 Ty.t238 rfl rfl I.ai rfl (by simp[Value.oneCell']) (by decide) (by decide) (by omega) λyu yv a w E I=>?_;refine ST 2 E I (λa w E I=>?_);refine RT 7 E I ?_;refine⟨rfl,?_⟩;rw[hz]at I;have h8:=U.jY (f:=b7) (l:=xs) (x:=(⟨T.last+1,frm,p,0,A.last+1⟩,mG,hO)) (I.sub (M:=cd mG p.length hO p::ah b7 xs::aa tq 236 [pt sq,.int .i64 T.most,.slice yu (T.l.length+1) yv,.int .i64 ((T.last+1:Nat):Int),.int .i64 T.epoch]::Sl 238 5 yu (T.l.length+1) yv (rows c5 xs++[[.int .i64 ((T.last+1:Nat):Int),.int .i64 frm,.slice mG p.length hO,.int .i64 0,.int .i64 ((A.last+1:Nat):Int)]].flatten)::ax sq r (A.add px.g px.p)::L));have h9:U W w (ah b7 (xs++[(⟨T.last+1,frm,p,0,A.last+1⟩,mG,hO)])::aa tq 236 [pt sq,.int .i64 T.most,.slice yu (T.l.length+1) yv,.int .i64 ((T.last+1:Nat):Int),.int .i64 T.epoch]::Sl 238 5 yu (T.l.length+1) yv (rows c5 (xs++[(⟨T.last+1,frm,p,0,A.last+1⟩,mG,hO)]))::ax sq r (A.add px.g px.p)::L):=by
  rw[← Er];exact h8
 exact Tree.close (T:=T.add frm p (A.last+1)) (ad:=yu) (c:=yv) (xs:=xs++[(⟨T.last+1,frm,p,0,A.last+1⟩,mG,hO)]) (n:=T.l.length+1) (most:=T.most) (last:=T.last+1) (epoch:=T.epoch) h9 (by simp[Tr.add,h1]) (hw.add hm hl dj) rfl (by simp[Tr.add]) rfl rfl
def Tr.iL (T:Tr)(k:Nat)(x:Br)(done snap:Nat):Tr:={ T with l:=T.l.set k { x with done:=done,snap:=snap } }
theorem WT.iL {d sn:Nat}(h:WT T)(hx:T.l[k]?=some x)(hd:d≤x.al.length):WT (T.iL k x d sn):=by
 obtain⟨df,dz,a3,a4,a5⟩:=h;obtain⟨hi,rfl⟩:=aZ.1 hx;refine⟨⟨df.1,by simp[Tr.iL];exact df.2⟩,dz,a3,?_,λy hy=>?_⟩
 ·have : (T.l.set k { T.l[k] with done := d, snap := sn }).map (·.id) = T.l.map (·.id) := by
   apply ext_getElem?;intro j;simp only[bm,jX];by_cases hj:k=j
   ·subst hj;simp[hi]
   ·rw[ag hj]
  simp only[Tr.iL];rw[this];exact a4
 ·simp only[Tr.iL]at hy ⊢;rcases qA hy with hy | rfl
  ·exact a5 y hy
  ·obtain⟨b1,b2,b3,b4⟩:=a5 _ (iI hi);exact⟨b1,hd,b3,b4⟩
theorem WT.unique (hw:WT T){j:Nat}{y:Br}(hx:T.l[k]?=some x)(hy:T.l[j]?=some y)(he:y.id=x.id):j=k:=by
 have hp:=List.pairwise_iff_getElem.1 hw.ids;obtain⟨hj,rfl⟩:=aZ.1 hy;obtain⟨hk,rfl⟩:=aZ.1 hx;rcases Nat.lt_trichotomy j k with hl | hl | hl
 ·have:=hp j k (by simpa using hj) (by simpa using hk) hl;simp at this;omega
 ·exact hl
 ·have:=hp k j (by simpa using hk) (by simpa using hj) hl;simp at this;omega
theorem JY (I:U W w (Tree tq sq T::L))(hx:T.l[k]?=some x) :
   Calls prog 183 #[pt tq,.int .i64 x.id] w λe V=>e=.returned (.int .i64 k)∧U W V (Tree tq sq T::L):=by
 refine (Ep (id:=(x.id:Int)) I).mono λe V ⟨r,h1,h2,h3⟩=>⟨?_,h3⟩;rcases h2 with ⟨_,h4⟩ | ⟨j,y,h4,h5,h6⟩
 ·exact absurd rfl (h4 x (bH hx))
 ·rw[h1,h4,(Tree.wt h3).unique hx h5 (by omega)]
theorem VP {i:Nat}{px:aC}{d sn:Int}(I:U W w (Tree tq sq T::ax sq r A::L))(hx:T.l[k]?=some x)(b6:d≤x.done∨(x.al.length:Int)<d∨∀ y∈A.av,(y.id:Int)≠sn) :
   Calls prog 186 #[pt tq,.int .i64 x.id,.int .i64 d,.int .i64 sn] w λe V=>e=.returned (.bool false)∧U W V (Tree tq sq T::ax sq r A::L):=by
 have dS:=(aZ.1 hx).1;refine EN func186 ntmps186 rfl rfl λa E=>?_;refine CL 5 E I (JY I hx) λa w E I=>?_;refine RN 3 E I λa E=>?_;obtain⟨ad,c,xs,h1,hw,I⟩:=Tree.open (I.tree tq);obtain⟨eP,dc,eb⟩:=El h1 hx;obtain⟨b',dI,rfl,dh⟩:=I.tail.bY ad (by omega);have fY:=oB dh eb;have vV:=fY 3 _ rfl;have j6:=fY 2 _ rfl;refine RN 3 E I λa E=>?_;rw[bn (by omega)]at E;refine RN 8 E I λa E=>?_;refine bu E (cu E rfl (s:=15)) (ae E (vV)) rfl λa E=>?_;refine BY 3 E I (λjO a E=>?_) λjO a E=>?_
 ·
  skip
  refine RT 24 E I ?_;exact⟨rfl,Tree.same (L':=ax sq r A::L) (some ⟨b',dI,none⟩) c xs I h1 hw⟩
 refine RN 8 E I λa E=>?_;refine bu E (cu E rfl (s:=27)) (ae E (j6)) rfl λa E=>?_;refine BY 4 E I (λVQ a E=>?_) λVQ a E=>?_
 ·
  refine RT 11 E I ?_;exact⟨rfl,Tree.same (L':=ax sq r A::L) (some ⟨b',dI,none⟩) c xs I h1 hw⟩
 refine CL 5 E I (Ve (I.pick (ax sq r A)) (by rcases b6 with h | h | h;omega;omega;exact h)) λa w E I=>?_;refine RN 2 E I λa E=>?_;replace E:=E.eG 48;refine RT 3 E I ?_;exact⟨rfl,Tree.same (L':=ax sq r A::L) (some ⟨b',dI,none⟩) c xs I h1 hw⟩
end
end
section
def Sn.eI (A:Sn)(id:Nat):Sn:=match A.av.findIdx? (λx=>x.id==id) with
 | some i=>match A.av[i]? with
  | some x=>A.drop i x
  | none=>A
 | none=>A
section
variable {W w:World}{L R:List SP}{tq sq q r n c k:Nat}{ad:Option Addr}{A:Sn}{T:Tr}{x y:Br}{xs:List Bx}{p:List (List UInt8)}
theorem Es {id:Nat}(h:∀ y∈A.av,y.id≠id):A.eI id=A:=by
 have:A.av.findIdx? (λx=>x.id==id)=none:=by rw[List.findIdx?_eq_none_iff];intro y hy;simpa using h y hy
 rw[Sn.eI,this]
theorem yw {i:Nat}{px:aC}(hw:WF A)(hx:A.av[i]?=some px):A.eI px.id=A.drop i px:=by
 obtain⟨hi,he⟩:=aZ.1 hx;have:A.av.findIdx? (λx=>x.id==px.id)=some i:=by
  rw[List.findIdx?_eq_some_iff_getElem];refine⟨hi,by simp[he],λj hj=>?_⟩;have ea:j<A.av.length:=by omega
  simp only[Bool.not_eq_true,l3,ne_eq];intro e;have:=hw.ids (aD ea) hx e;omega
 rw[Sn.eI,this];simp only[hx]
theorem AU {id:Nat}(I:U W w (ax q r A::L)) :
   Calls prog 185 #[pt q,.int .i64 id] w λe V=>∃ v,e=.returned (.bool v)∧U W V (ax q r (A.eI id)::L):=by
 by_cases h:∃ px∈A.av,px.id=id
 ·obtain⟨px,h1,rfl⟩:=h;obtain⟨i,hi⟩:=j5.1 h1;have hw:=(ax.open I);obtain⟨_,_,_,_,_,hw,_,_⟩:=hw;refine (Vk I hi).mono λe V ⟨h2,h3⟩=>⟨_,h2,?_⟩;rw[yw hw hi];exact h3
 ·have hn:∀ y∈A.av,y.id≠id:=λy hy e=>h ⟨y,hy,e⟩;refine (Vl (X:=(id:Int)) I (λy hy e=>hn y hy (by omega))).mono λe V ⟨h2,h3⟩=>⟨_,h2,?_⟩;rw[Es hn];exact h3
theorem JZ {p q r:List Value}{i:Nat}{v:Value}(h:i<q.length):(p++q++r).set (p.length+i) v=p++q.set i v++r:=by
 rw[dA,vU _ _ (by omega),show p.length+i-p.length=i from by omega,uu _ _ h,dA]
theorem VR {i d:Nat}{px:aC}(I:U W w (Tree tq sq T::ax sq r A::L))(hx:T.l[k]?=some x)(hd:x.done<d)(kG:d≤x.al.length)(hp:A.av[i]?=some px) :
   Calls prog 186 #[pt tq,.int .i64 x.id,.int .i64 d,.int .i64 px.id] w λe V=>e=.returned (.bool true)∧U W V (Tree tq sq (T.iL k x d px.id)::ax sq r (A.eI x.snap)::L):=by
 have dS:=(aZ.1 hx).1;have a7:1≤px.refs:=by
  obtain⟨_,_,_,_,_,hw,_,_⟩:=ax.open (I.pick (ax sq r A));exact (hw.mD px (bH hp)).2.2.1
 refine EN func186 ntmps186 rfl rfl λa E=>?_;refine CL 5 E I (JY I hx) λa w E I=>?_;refine RN 3 E I λa E=>?_;obtain⟨ad,c,xs,h1,hw,I⟩:=Tree.open (I.tree tq);obtain⟨eP,dc,eb⟩:=El h1 hx;obtain⟨b',dI,rfl,dh⟩:=I.tail.bY ad (by omega);have fY:=oB dh eb;have vV:=fY 3 _ rfl;have j6:=fY 2 _ rfl;refine RN 3 E I λa E=>?_;rw[bn (by omega)]at E;refine RN 8 E I λa E=>?_;refine bu E (cu E rfl (s:=15)) (ae E (vV)) rfl λa E=>?_;refine RN 3 E I λa E=>?_;rw[bn (by omega)]at E;refine RN 8 E I λa E=>?_;refine bu E (cu E rfl (s:=27)) (ae E (j6)) rfl λa E=>?_;refine RN 4 E I λa E=>?_;rw[bn (by omega)]at E;refine CL 5 E I (Vd (I.pick (ax sq r A)) hp) λa w E I=>?_;refine RN 2 E I λa E=>?_;rw[bn (by omega)]at E;refine RN 2 E I λa E=>?_;have VS:=I.cJ (n:=T.l.length) b' dI (by omega);have J0:w.drew.cell? ⟨b',dI+k*5+4,none⟩=some (.int .i64 x.snap):=oB VS eb 4 _ rfl;refine qy 0 (Old w.drew) [7,9,10,11] [0,1,2,4,5,6,8,3003,1007,1009,1010,1011,1012] E I λa E=>?_;replace I:=I.drew;have hH:=Hd.fK I;have hC:=Old.refl w.drew;generalize w.drew=w at I hH hC J0 ⊢;refine RH 11 E I hH hC λa E=>?_;refine SS E (ae E (J0)) λa E=>?_;refine RH 0 E I hH hC λa E=>?_;refine aW 0 E I (AU (id:=x.snap) (I.pick (ax sq r A))) λ_ a w E I=>?_;refine RN 1 E I λa E=>?_;obtain⟨bb,pre,post,⟨h3,h4,h5,h6⟩,gG⟩:=(I.pick (Sl 238 5 (some ⟨b',dI,none⟩) T.l.length c (rows c5 xs))).lZ (by have:=(I.sl (some ⟨b',dI,none⟩)).2;omega);cases h5;replace I:=gG;clear gG;have b0:xs.length=T.l.length:=by rw[← h1,bf]
 have uJ:k<xs.length:=by omega
 have gX:xs[k]=(x,eP,dc):=(aZ.1 eb).2;have ia:(rows c5 xs).length=xs.length*5:=iG ta xs;refine bW 0 [8] [0,1,2,4,5,6,7,9,10,11,3003,1008,12,13,1014,15,16,1017] E I λa w E I hH hC=>?_;refine RH 14 E I hH hC λa E=>?_;refine ST 0 E I (λa w E I=>?_) (hlt:=(by simp only[aN];omega));rw[show pre.length+k*5+3=pre.length+(k*5+3) from by omega,JZ (by omega),qx ta xs ({ x with done:=d },eP,dc) uJ (by decide) (by rw[gX];rfl)]at I;refine ST 2 E I (λa w E I=>?_) (hlt:=(by simp only[aN,iG ta,bt];omega));rw[show pre.length+k*5+4=pre.length+(k*5+4) from by omega,JZ (by simp only[iG ta,bt];omega),qx ta _ ({ x with done:=d,snap:=px.id },eP,dc) (by rw[bt];exact uJ) (by decide) (by rw[ou];rfl),set_set]at I;refine RT 2 E I ?_;refine⟨rfl,?_⟩;have h7:=U.iY (n:=T.l.length) (c:=c) (sz:=5) (cs:=rows c5 (xs.set k ({ x with done:=d,snap:=px.id },eP,dc))) (I.jV b') (by rw[iG ta,bt,b0]) h4 h6;have h8:=(h7.pick (ah b7 xs)).fo uJ;rw[gX]at h8;have h9:U W w (b7 ({ x with done:=d,snap:=px.id },eP,dc)::ah b7 (xs.eraseIdx k)::_):=h8;have fP:=U.kY uJ h9;exact Tree.close (T:=T.iL k x d px.id) (ad:=some ⟨b',pre.length,none⟩) (c:=c) (xs:=xs.set k ({ x with done:=d,snap:=px.id },eP,dc)) (n:=T.l.length) (most:=T.most) (last:=T.last) (epoch:=T.epoch) fP (by rw[jx,h1];rfl) (hw.iL hx kG) rfl (by simp[Tr.iL]) rfl rfl
def ie (frm:Int)(p:List (List UInt8))(b:Br)(x:Br):Br:=if x.frm=frm∧b.done<x.done∧x.done≤p.length∧pH (x.al.take x.done) p=true then x else b
def mH:Br:=⟨0,0,[],0,0⟩
def Tr.fQ (T:Tr)(frm:Int)(p:List (List UInt8)):Br:=T.l.foldl (ie frm p) mH
theorem VT {l:List Br}{frm:Int}(h:l[k]?=some x):(l.take (k+1)).foldl (ie frm p) mH=ie frm p ((l.take k).foldl (ie frm p) mH) x:=by
 obtain⟨hk,rfl⟩:=aZ.1 h;rw[jv hk,foldl_append];rfl
theorem J1 {frm:Int}{ad2:Option Addr}{c2:Nat}(I:U W w (Tree tq sq T::L))(hp:∀ V,U W V L→k5 V ad2 p.length p)(hc:p.length≤c2)(dj:nS p) :
   Calls prog 279 #[pt tq,.int .i64 frm,.slice ad2 p.length c2] w λe V=>∃ ad c,e=.returned (.tuple #[.agg (cg (T.fQ frm p) ad c).toArray,.bool (decide (0<(T.fQ frm p).done))])∧U W V (Tree tq sq T::L):=by
 have hw:=Tree.wt I;have hT:=hw.most;refine EN func279 ntmps279 rfl rfl λa E=>?_;refine AL 1 E I λcG a w E I=>?_;change U W w (aa cG 238 (cg mH none 0)::_) at I;refine AL 3 E I λb8 a w E I=>?_;refine SA 0 E I λa w E I=>?_;change U W w (aa b8 238 (cg ((T.l.take 0).foldl (ie frm p) mH) none 0)::_) at I;refine aX 3 E I (AS (I.tree tq)) λad c a w E I=>?_;obtain⟨xs,h1,h2,I⟩:=k8.open I;have b0:xs.length=T.l.length:=by rw[← h1,bf]
 refine RN 2 E I λa E=>?_;refine aQ (λμ a w=>∃ (k:Nat) (ec:Option Addr) (cb:Nat),(μ=T.l.length-k∧k≤T.l.length)∧Fr a 52 [(1,.int .i64 frm),(2,.slice ad2 p.length c2),(6,pt cG),(8,pt b8),(13,.slice ad T.l.length c),(14,.int .i64 T.l.length),(15,.int .i64 k)]∧U W w (aa b8 238 (cg ((T.l.take k).foldl (ie frm p) mH) ec cb)::Sl 238 5 ad T.l.length c (rows c5 xs)::ah b7 xs::Tree tq sq T::aa cG 238 (cg mH none 0)::L)) (T.l.length) (⟨0,none,0,⟨by simp,by simp⟩,E.ab [1,2,6,8,13,14,15],I.sub⟩) ?_;clear E I;rintro μ a w ⟨k,ec,cb,⟨rfl,hk⟩,E,I⟩;refine IF 3 E I (λaj a E=>?_) λaj a E=>?_
 ·
  refine RN 2 E I λa E=>?_;obtain⟨b',dI,rfl,dh⟩:=I.bY ad (by omega);obtain⟨⟨x,eP,dc⟩,eb⟩:∃ y,xs[k]?=some y:=⟨_,aD (by omega)⟩;have fY:=oB dh eb;have jy:T.l[k]?=some x:=by rw[← h1,bm,eb];rfl
  have kF:=hw.ok x (bH jy);have qD:=VT (frm:=frm) (p:=p) jy;obtain⟨B,hB⟩:∃ B,(T.l.take k).foldl (ie frm p) mH=B:=⟨_,rfl⟩;rw[hB]at I qD;refine RN 1 E I λa E=>?_;refine SS E (bQ E underlying238 rfl Ty.t238 (fY)) λa E=>?_;refine AL 0 E I λiJ a w E I=>?_;refine SA 0 E I λa w E I=>?_;refine BY 6 E I (λdk a E=>?_) λdk a E=>?_
  ·
   refine BY 7 E I (λk9 a E=>?_) λk9 a E=>?_
   ·
    refine BY 7 E I (λpI a E=>?_) λpI a E=>?_
    ·
     refine RN 4 E I λa E=>?_;have eS:=ah.pG (I.pick (ah b7 xs)) eb;have yx:=kF.2.1;refine RN 1 E I λa E=>?_;rw[pB,Nat.sub_zero,Nat.sub_zero]at E;rw[show Value.slice eP x.done dc=Value.slice eP (x.al.take x.done).length dc from by rw[dH,Nat.min_eq_left yx]]at E;refine CL 1 E I (Em (u:=x.al.take x.done) (v:=p) (ad:=eP) (c:=dc) I (by
      have:=eS.1.take yx
      rwa [show (x.al.take x.done).length=x.done from by rw[dH];omega]) (hp _ I.sub) (by rw[dH];omega) hc (by rw[dH];have:=kF.1.1;omega)) λa w E I=>?_
     refine IF 1 E I (λao a E=>?_) λao a E=>?_
     ·
      have rJ:ie frm p B x=x:=ak ⟨by omega,by omega,by omega,ao⟩;refine SA 1 E I λa w E I=>?_;refine RN 2 E I λa E=>?_;exact⟨T.l.length-(k+1),by omega,k+1,_,_,⟨rfl,by omega⟩,E.ab [1,2,6,8,13,14,15],by rw[qD,rJ];exact I.sub (M:=aa b8 238 (cg x eP dc)::Sl 238 5 (some ⟨b',dI,none⟩) T.l.length c (rows c5 xs)::ah b7 xs::Tree tq sq T::aa cG 238 (cg mH none 0)::L)⟩
     have rJ:ie frm p B x=B:=ag (λh=>by rw[h.2.2.2]at ao;cases ao);refine RN 2 E I λa E=>?_;exact⟨T.l.length-(k+1),by omega,k+1,_,_,⟨rfl,by omega⟩,E.ab [1,2,6,8,13,14,15],by rw[qD,rJ];exact I.sub (M:=aa b8 238 (cg B ec cb)::Sl 238 5 (some ⟨b',dI,none⟩) T.l.length c (rows c5 xs)::ah b7 xs::Tree tq sq T::aa cG 238 (cg mH none 0)::L)⟩
    have rJ:ie frm p B x=B:=ag (by omega);refine RN 4 E I λa E=>?_;have eS:=ah.pG (I.pick (ah b7 xs)) eb;have yx:=kF.2.1;refine RN 7 E I λa E=>?_;exact⟨T.l.length-(k+1),by omega,k+1,_,_,⟨rfl,by omega⟩,E.ab [1,2,6,8,13,14,15],by rw[qD,rJ];exact I.sub (M:=aa b8 238 (cg B ec cb)::Sl 238 5 (some ⟨b',dI,none⟩) T.l.length c (rows c5 xs)::ah b7 xs::Tree tq sq T::aa cG 238 (cg mH none 0)::L)⟩
   have rJ:ie frm p B x=B:=ag (by omega);refine RN 11 E I λa E=>?_;have eS:=ah.pG (I.pick (ah b7 xs)) eb;have yx:=kF.2.1;refine RN 7 E I λa E=>?_;exact⟨T.l.length-(k+1),by omega,k+1,_,_,⟨rfl,by omega⟩,E.ab [1,2,6,8,13,14,15],by rw[qD,rJ];exact I.sub (M:=aa b8 238 (cg B ec cb)::Sl 238 5 (some ⟨b',dI,none⟩) T.l.length c (rows c5 xs)::ah b7 xs::Tree tq sq T::aa cG 238 (cg mH none 0)::L)⟩
  have rJ:ie frm p B x=B:=ag (by omega);refine RN 18 E I λa E=>?_;have eS:=ah.pG (I.pick (ah b7 xs)) eb;have yx:=kF.2.1;refine RN 7 E I λa E=>?_;exact⟨T.l.length-(k+1),by omega,k+1,_,_,⟨rfl,by omega⟩,E.ab [1,2,6,8,13,14,15],by rw[qD,rJ];exact I.sub (M:=aa b8 238 (cg B ec cb)::Sl 238 5 (some ⟨b',dI,none⟩) T.l.length c (rows c5 xs)::ah b7 xs::Tree tq sq T::aa cG 238 (cg mH none 0)::L)⟩
 refine RN 1 E I λa E=>?_;obtain rfl:k=T.l.length:=by omega
 rw[k0]at I;rw[show T.l.foldl (ie frm p) mH=T.fQ frm p from rfl]at I;refine a1 0 (λw0 V=>Rd V b8 0 (cg (T.fQ frm p) ec cb)) [2,3,4] [1,3000,3002,3003,1004,5] E I λa w E I hH=>?_;have hC:=hH.at w I.ai;refine RH 1 E I hH hC λa E=>?_;refine QH E (λw hc=>bQ E underlying238 rfl Ty.t238 (hc)) hC λa E=>?_;refine QH E (λw hc=>ae E (hc 3 _ rfl)) hC λa E=>?_;refine RH 1 E I hH hC λa E=>?_;refine SA 0 E I λa w E I=>?_;replace hC:=hH.at w I.ai;refine RH 1 E I hH hC λa E=>?_;refine RT 0 E I ?_;refine⟨ec,cb,?_,I.sub⟩;rw[show decide ((0:Int)<((T.fQ frm p).done:Int))=decide (0<(T.fQ frm p).done) from by rw[decide_eq_decide];omega]
def Tr.cut (T:Tr)(wh:Br→Bool):Tr:={ T with l:=T.l.filter (λx=>!wh x),epoch:=T.epoch+if (T.l.filter (λx=>!wh x)).length<T.l.length then 1 else 0 }
def Sn.gQ (A:Sn)(l:List Br):Sn:=l.foldl (λA x=>A.eI x.snap) A
theorem VU {A:Sn}{l:List Br}{wh:Br→Bool}(h:l[k]?=some x):A.gQ ((l.take (k+1)).filter wh)=if wh x=true then (A.gQ ((l.take k).filter wh)).eI x.snap else A.gQ ((l.take k).filter wh):=by
 obtain⟨hk,rfl⟩:=aZ.1 h;rw[jv hk,yy];by_cases hw:wh l[k]=true
 ·rw[ak hw,Sn.gQ,foldl_append];simp[hw,Sn.gQ]
 ·rw[ag hw];simp[hw]
theorem VV {α:Type}{l:List α}{f:α→Bool}{z:α}(h:l[k]?=some z):(l.take (k+1)).filter f=(l.take k).filter f++if f z=true then [z] else []:=by
 obtain⟨hk,rfl⟩:=aZ.1 h;rw[jv hk,yy];by_cases hw:f l[k]=true <;> simp[hw]
theorem VW (xs:List Bx)(f:Br→Bool):(xs.filter (λz=>f z.1)).map (·.1)=(xs.map (·.1)).filter f:=by
 induction xs with
 | nil=>rfl
 | cons z xs ih =>
  by_cases h:f z.1=true <;> simp[h]at ih ⊢ <;> exact ih
theorem WT.cut (h:WT T)(he:T.epoch+1<1099511627776)(wh:Br→Bool):WT (T.cut wh):=by
 obtain⟨df,dz,a3,a4,a5⟩:=h;refine⟨⟨df.1,?_⟩,dz,?_,?_,λy hy=>?_⟩
 ·simp only[Tr.cut];exact gC (qE _ _) df.2
 ·simp only[Tr.cut];split <;> omega
 ·simp only[Tr.cut];exact a4.sublist (List.Sublist.map _ List.filter_sublist)
 ·simp only[Tr.cut]at hy ⊢;exact a5 y (List.mem_filter.1 hy).1
class Tl (M L:List SP):Prop where h:∃ K,M.Perm (K++L)
instance Tl.self {L:List SP}:Tl L L:=⟨[],lA _⟩
instance (priority:=low) Tl.cons {A:SP}{M L:List SP}[t:Tl M L]:Tl (A::M) L:=⟨let ⟨K,h⟩:=t.h;⟨A::K,h.cons A⟩⟩
theorem U.VX {M:List SP}(I:U W w M)(t:Tl M L):U W w L:=let ⟨_,h⟩:=t.h;(I.perm h).drop
def wB (W:World)(N:List SP)(ad:Option Addr)(P:List (List UInt8)):Prop:=∃ zs:List ef,zs.map (·.2.2)=P∧∀ V,U W V N→iH V ad zs
set_option maxHeartbeats 1000000 in
theorem J2 {wh:Br→Bool}{f:Nat}{us:List Value}(I:U W w (Tree tq sq T::ax sq r A::L))(he:T.epoch+1<1099511627776)(cm:hE prog f=true)
   (hf:∀ (M:List SP) (V:World) (x:Br) (au:Option Addr) (c':Nat),x∈T.l→U W V M→Tl M L→wB W M au x.al→x.al.length≤c'→nS x.al →
    Calls prog f (List.toArray (.agg (cg x au c').toArray::us)) V λe nT=>e=.returned (.bool (wh x))∧U W nT M) :
   Calls prog 303 #[pt tq,.func (.func f) #[] (List.toArray us)] w λe V=>e=.returned (.int .i64 ((T.l.length-(T.l.filter (λx=>!wh x)).length:Nat):Int)) ∧
    U W V (Tree tq sq (T.cut wh)::ax sq r (A.gQ (T.l.filter wh))::L):=by
 obtain⟨ad,c,xs,h1,hw,I⟩:=Tree.open I;have b0:xs.length=T.l.length:=by rw[← h1,bf]
 have hT:=hw.most;have eY:=qE (λx=>!wh x) T.l;refine EN func303 ntmps303 rfl rfl λa E=>?_;refine RN 6 E I λa E=>?_;replace E:=E.aK 10;refine RN 10 E I λa E=>?_;replace I:U W w (Sl 238 5 none 0 0 (rows c5 ((xs.take 0).filter (λz:Bx=>!wh z.1)))::ah b7 ((xs.take 0).filter (λz:Bx=>!wh z.1))::aa tq 236 [pt sq,.int .i64 T.most,.slice ad T.l.length c,.int .i64 T.last,.int .i64 T.epoch]::Sl 238 5 ad T.l.length c (rows c5 xs)::ah b7 (xs.drop 0)::ax sq r (A.gQ ((T.l.take 0).filter wh))::L):=(I.iZ (f:=b7)).bR 238 5 none;refine RN 8 E I λa E=>?_;refine aQ (λμ a w=>∃ (k m:Nat) (tc:Option Addr) (oD:Nat),(μ=T.l.length-k∧k≤T.l.length∧m=((xs.take k).filter (λz=>!wh z.1)).length)∧Fr a 59 [(0,pt tq),(1,.func (.func f) #[] (List.toArray us)),(5,.int .i64 T.l.length),(6,.slice tc m oD),(19,.slice ad T.l.length c),(20,.int .i64 T.l.length),(21,.int .i64 k)]∧U W w (Sl 238 5 tc m oD (rows c5 ((xs.take k).filter (λz=>!wh z.1)))::ah b7 ((xs.take k).filter (λz=>!wh z.1))::aa tq 236 [pt sq,.int .i64 T.most,.slice ad T.l.length c,.int .i64 T.last,.int .i64 T.epoch]::Sl 238 5 ad T.l.length c (rows c5 xs)::ah b7 (xs.drop k)::ax sq r (A.gQ ((T.l.take k).filter wh))::L)) (T.l.length) (⟨0,0,none,0,⟨by simp,by simp,by simp⟩,E.ab [0,1,5,6,19,20,21],I.sub⟩) ?_;clear E I;rintro μ a w ⟨k,m,tc,oD,⟨rfl,hk,hm⟩,E,I⟩;refine IF 3 E I (λao a E=>?_) λao a E=>?_
 ·
  refine RN 2 E I λa E=>?_
  obtain ⟨b', dI, gY, dh⟩ := I.bY (n := T.l.length) (cs := rows c5 xs) (R := Sl 238 5 tc m oD (rows c5 ((xs.take k).filter (fun z => !wh z.1))) :: ah b7 ((xs.take k).filter (fun z => !wh z.1)) :: aa tq 236 [.pointer (some ⟨sq, 0, none⟩), .int .i64 T.most, .slice ad T.l.length c, .int .i64 T.last, .int .i64 T.epoch] :: ah b7 (xs.drop k) :: ax sq r (A.gQ ((T.l.take k).filter wh)) :: L) (k := ⟨by
      refine List.Perm.trans ?_ (nH (l₁:=[_,_,_]));exact lA _⟩) ad (by omega)
  subst gY;have uJ:k<xs.length:=by omega
  obtain⟨⟨x,eP,dc⟩,eb⟩:∃ y,xs[k]?=some y:=⟨_,aD uJ⟩;have gX:xs[k]=(x,eP,dc):=(aZ.1 eb).2;have fY:=oB dh eb;have jy:T.l[k]?=some x:=by rw[← h1,bm,eb];rfl
  have kF:=(hw.ok x (bH jy)).1;have pJ:=VU (A:=A) (wh:=wh) jy;have nU:=VV (f:=λz:Bx=>!wh z.1) eb;replace I:=(I.pick (ah b7 (xs.drop k)));rw[kA uJ,gX]at I;replace I:=I.fo (i:=0) (by simp);change U W w (cd eP x.al.length dc x.al::ah b7 (xs.drop (k+1))::_) at I;have dO:=(cd.le I).2;refine RN 1 E I λa E=>?_;refine SS E (bQ E underlying238 rfl Ty.t238 (fY)) λa E=>?_;refine AL 0 E I λb8 a w E I=>?_;refine SA 0 E I λa w E I=>?_;refine RN 4 E I λa E=>?_;obtain⟨zs,cv,ew,I⟩:=cd.open (I.pick (cd eP x.al.length dc x.al));refine CL 0 E I (hf _ _ x eP dc (bH jy) I inferInstance ⟨zs,cv,λnT h=>U.mB (h.sub (M:=Sl 22 1 eP x.al.length dc (zs.map aM)::ah ba zs::[]))⟩ dO kF) (hf:=cm) λa w E I=>?_;replace I:U W w (cd eP x.al.length dc x.al::_):=U.shut (M:=[_,_]) I (λ_ x=>⟨zs,⟨cv,ew⟩,x⟩);refine IF 0 E I (λay a E=>?_) λay a E=>?_
  ·
   rw[ak ay]at pJ;rw[show (!wh (x,eP,dc).1)=false from by simp[ay]]at nU;rw[ag (by decide),append_nil]at nU;refine bW 1 [5] [0,1,2,4,3003,1005,1006] E I λa w E I hH hC=>?_;refine RH 6 E I hH hC λa E=>?_;refine aW 0 E I (AU (id:=x.snap) (I.pick (ax sq r (A.gQ ((T.l.take k).filter wh))))) λ_ a w E I=>?_;rw[← pJ]at I;refine RN 2 E I λa E=>?_;rw[← nU]at hm I;exact⟨T.l.length-(k+1),by omega,k+1,_,_,_,⟨rfl,by omega,hm⟩,E.ab [0,1,5,6,19,20,21],I.sub⟩
  rw[ag (by rw[ay];decide)]at pJ;rw[show (!wh (x,eP,dc).1)=true from by simp[ay]]at nU;rw[ak rfl]at nU;refine RN 2 E I λa E=>?_;refine cn E rfl I underlying168 Ty.t238 rfl rfl rfl rfl (by decide) (by decide) λVY a w E I ho=>?_;clear ho;obtain⟨Y,wC⟩:∃ Y,(xs.take k).filter (λz=>!wh z.1)=Y:=⟨_,rfl⟩;rw[wC]at I nU hm;refine RN 0 E I λa E=>?_;refine cK E rfl I underlying168 Ty.t238 rfl rfl I.ai rfl (by simp[Value.oneCell',cg]) (by decide) (by decide) (by have:=qE (λz:Bx=>!wh z.1) (xs.take k);rw[wC,dH]at this;omega) λoG oH a w E I=>?_;have h8:=U.jY (f:=b7) (l:=Y) (x:=(x,eP,dc)) (I.sub (M:=cd eP x.al.length dc x.al::ah b7 Y::Sl 238 5 oG (m+1) oH (rows c5 Y++[cg x eP dc].flatten)::aa tq 236 [pt sq,.int .i64 T.most,.slice (some ⟨b',dI,none⟩) T.l.length c,.int .i64 T.last,.int .i64 T.epoch]::Sl 238 5 (some ⟨b',dI,none⟩) T.l.length c (rows c5 xs)::ah b7 (xs.drop (k+1))::ax sq r (A.gQ ((T.l.take k).filter wh))::L));rw[Er,← nU,← pJ]at h8;replace I:=h8;clear h8;refine RN 3 E I λa E=>?_;exact⟨T.l.length-(k+1),by omega,k+1,_,_,_,⟨rfl,by omega,by rw[nU,aN,← hm];rfl⟩,E.ab [0,1,5,6,19,20,21],I.sub⟩
 refine RN 1 E I λa E=>?_;obtain rfl:k=T.l.length:=by omega
 rw[k0,fO (by omega)]at I;rw[fO (by omega)]at hm;have qF:=VW xs (λx=>!wh x);rw[h1]at qF;have wD:m=(T.l.filter (λx=>!wh x)).length:=by rw[hm,← qF,bf]
 subst wD;refine ST 4 E I (λa w E I=>?_);refine IF 6 E I (λbj a E=>?_) λbj a E=>?_
 ·
  have hlt:(T.l.filter (λx=>!wh x)).length<T.l.length:=by omega
  refine ST 7 E I (λa w E I=>?_);rw[show ((T.epoch:Int)+1)=((T.epoch+1:Nat):Int) from rfl]at I;refine RT 6 E I ?_;refine⟨by rw[show ((T.l.length-(T.l.filter (λx=>!wh x)).length:Nat):Int)=(T.l.length:Int)-((T.l.filter (λx=>!wh x)).length:Int) from by omega],?_⟩;exact Tree.close (T:=T.cut wh) (ad:=tc) (c:=oD) (xs:=xs.filter (λz=>!wh z.1)) (n:=(T.l.filter (λx=>!wh x)).length) (most:=T.most) (last:=T.last) (epoch:=T.epoch+1) I qF (hw.cut he wh) rfl rfl rfl (by simp only[Tr.cut];rw[ak hlt])
 have hlt:¬ (T.l.filter (λx=>!wh x)).length<T.l.length:=by omega
 refine RT 6 E I ?_;refine⟨by rw[show ((T.l.length-(T.l.filter (λx=>!wh x)).length:Nat):Int)=(T.l.length:Int)-((T.l.filter (λx=>!wh x)).length:Int) from by omega],?_⟩;exact Tree.close (T:=T.cut wh) (ad:=tc) (c:=oD) (xs:=xs.filter (λz=>!wh z.1)) (n:=(T.l.filter (λx=>!wh x)).length) (most:=T.most) (last:=T.last) (epoch:=T.epoch) I qF (hw.cut he wh) rfl rfl rfl (by simp only[Tr.cut];rw[ag hlt];rfl)
theorem VZ (I:U W w (Tree tq sq T::ax sq r A::L))(he:T.epoch+1<1099511627776) :
   Calls prog 320 #[pt tq] w λe V=>e=.returned (.int .i64 T.l.length)∧U W V (Tree tq sq (T.cut λ_=>true)::ax sq r (A.gQ T.l)::L):=by
 have hF : ∀ (M : List SP) (V : World) (x : Br) (au : Option Addr) (c' : Nat), x ∈ T.l → U W V M → Tl M L → wB W M au x.al → x.al.length ≤ c' → nS x.al →
     Calls prog 334 (List.toArray [.agg (cg x au c').toArray]) V λe nT=>e=.returned (.bool true)∧U W nT M:=by
  intro L w x au c' _ I _ _ _ _;refine EN func334 ntmps334 rfl rfl λa E=>?_;refine BX 1 E I λb1 a w E I=>?_;refine RT 3 E I ?_;exact⟨rfl,I.sub⟩
 refine EN func320 ntmps320 rfl rfl λa E=>?_;refine CL 4 E I (J2 (wh:=λ_=>true) (us:=[]) I he (by kernel_rfl) hF) λa w E I=>?_;refine RT 1 E I ?_;have e1:T.l.filter (λx=>!(λ_:Br=>true) x)=[]:=by simp
 have e2:T.l.filter (λ_=>true)=T.l:=by simp
 rw[e2]at I;exact⟨by rw[e1];rfl,I⟩
end
end
section
theorem uK (s:ByteArray)(i:Nat):1≤(Utf8.decode s i).2∧(Utf8.decode s i).2≤4:=by
 simp only[Utf8.decode]
 repeat' split
 all_goals simp
def nV (r:Nat):Nat:=if r<0x80 then 1 else if r<0x800 then 2 else if r<0x10000 then 3 else 4
theorem td (s:ByteArray)(i:Nat):(s.get! i).toNat<256:=(s.get! i).toNat_lt
theorem J3 (s:ByteArray)(i:Nat):nV (Utf8.decode s i).1=(Utf8.decode s i).2∨Utf8.decode s i=(0xFFFD,1):=by
 have h0:=td s (i+0);have h1:=td s (i+1);have h2:=td s (i+2);have h3:=td s (i+3);simp only[Utf8.decode,Utf8.runeError]
 repeat' split
 all_goals first | (right;rfl) | (left;simp_all [nV];done) | (left;simp_all [nV];(repeat' split) <;> omega)
theorem J4 (s:ByteArray)(i:Nat)(h:i<s.size):i+(Utf8.decode s i).2≤s.size:=by
 simp only[Utf8.decode,Utf8.runeError]
 repeat' split
 all_goals simp_all
 all_goals omega
theorem V0 (s:ByteArray)(i:Nat):(Utf8.decode s i).1<1114112:=by
 have h0:=td s (i+0);have h1:=td s (i+1);have h2:=td s (i+2);have h3:=td s (i+3);simp only[Utf8.decode,Utf8.runeError]
 repeat' split
 all_goals simp_all [Utf8.valid]
 all_goals omega
def ei (s:ByteArray)(pos:Nat):List (Nat×Nat):=if h:pos<s.size then Utf8.decode s pos::ei s (pos+(Utf8.decode s pos).2) else []
termination_by s.size-pos
decreasing_by have:=(uK s pos).1;omega
theorem rK {s:ByteArray}{pos:Nat}(h:pos<s.size):ei s pos=Utf8.decode s pos::ei s (ee s pos):=by
 rw[ei,dif_pos h,ee,ak h]
theorem rL {s:ByteArray}{pos:Nat}(h:¬ pos<s.size):ei s pos=[]:=by
 rw[ei,dif_neg h]
theorem V1 (s:ByteArray):∀ n pos,s.size-pos≤n→(ei s pos).length≤n:=by
 intro n
 induction n with
 | zero=>intro pos h;rw[rL (by omega)];simp
 | succ n ih =>
  intro pos h;by_cases hp:pos<s.size
  ·rw[rK hp,fm];have:=(uK s pos).1;have:=ih (ee s pos) (by rw[ee,ak hp];omega);omega
  ·rw[rL hp];simp
theorem Et {s:ByteArray}{pos:Nat}(h:pos≤s.size):ee s pos≤s.size:=by
 by_cases hp:pos<s.size
 ·rw[ee,ak hp];exact J4 s pos hp
 ·rw[ee,ag hp];exact h
def kH (x:Nat×Nat):Bool:=decide (32≤x.1)&&decide (x.1≠127)
def mI (x:Nat×Nat):Bool:=!decide (x=(0xFFFD,1))
def pK (s:ByteArray):Bool:=decide (1≤(ei s 0).length)&&decide ((ei s 0).length≤20)&&(ei s 0).all kH&&(ei s 0).all mI
def m8 (s:ByteArray)(n:Int):Int:=if 0≤n then (((ei s 0)[n.toNat]?).map (λx=>(x.1:Int))).getD 0 else 0
structure fZ where
 code:Int
 a:Int
 b:Int
 c:Int
structure Pr where
 title:ByteArray
 ops:List fZ
abbrev c6 (o:fZ):List Value:=[.int .i64 o.code,.int .i64 o.a,.int .i64 o.b,.int .i64 o.c]
theorem te (o:fZ):(c6 o).length=4:=rfl
theorem J5 (o:fZ):∀ v∈c6 o,v.oneCell'=true:=by
 intro v hv;simp[c6]at hv;rcases hv with rfl | rfl | rfl | rfl <;> rfl
def e8 (x:Int):Prop:=0≤x∧x<32
def du (x:Int):Prop := -2147483648≤x∧x≤2147483647
def e9 (n:Int)(o:fZ):Prop :=
 (o.code=0∧o.a=0∧o.b=0∧o.c=0)∨(o.code=1∧e8 o.a∧o.c=0)∨(o.code=9∧0≤o.a∧o.a≤n∧o.b=0∧o.c=0)∨(o.code=15∧e8 o.a∧o.b=0∧o.c=0) ∨
 (o.code=10∧e8 o.a∧0≤o.b∧o.b≤n∧o.c=0)∨((o.code=2∨(11≤o.code∧o.code≤14))∧e8 o.a∧e8 o.b∧o.c=0)∨(3≤o.code∧o.code≤8∧e8 o.a∧e8 o.b∧e8 o.c)
def rM (o:fZ):Prop:=du o.code∧du o.a∧du o.b∧du o.c
def wE (p:Pr):Prop:=pK p.title=true∧1≤p.ops.length∧p.ops.length≤64∧∀ o∈p.ops,rM o
def dq (p:Pr):Prop:=wE p∧∀ o∈p.ops,e9 p.ops.length o
def ig (x:Int):Int:=IntKind.i32.wrap x
def kI (x:Int):Nat:=(x.emod 32).toNat
theorem yz (x:Int):kI x<32:=by
 have h1:=Int.emod_nonneg x (show (32:Int)≠0 by decide);have h2:=Int.emod_lt_of_pos x (show (0:Int)<32 by decide);show (x%32).toNat<32;omega
def mJ (b:List UInt8)(x:Int):Int:=if 0≤x∧x<b.length then ((b.getD x.toNat 0).toNat:Int) else 0
def jf (k a b:Int):Int:=if k=3 then ig (a+b) else if k=4 then ig (a-b) else if k=5 then ig (a*b) else if k=6 then (if b=0 then 0 else ig (a.tdiv b)) else if k=7 then (if a<b then 1 else 0) else if a=b then 1 else 0
def jP (p:Pr)(fr:Int)(b:List UInt8)(g:Nat→Int)(o:fZ):Int :=
 if o.code=1 then ig o.b else if o.code=2 then g o.b.toNat else if o.code=11 then mJ b (g o.b.toNat) else if o.code=12 then g (kI (g o.b.toNat)) else if o.code=14 then m8 p.title (g o.b.toNat) else if o.code=15 then ig fr else jf o.code (g o.b.toNat) (g o.c.toNat)
def eC (p:Pr)(fr:Int)(b:List UInt8)(g:Nat→Int)(aU:Nat)(o:fZ):(Nat→Int)×Nat×Bool :=
 if o.code=0 then (g,aU+1,false) else if o.code=9 then (g,o.a.toNat,true) else if o.code=10 then (g,if g o.a.toNat=0 then o.b.toNat else aU+1,true) else if o.code=13 then (ck g (kI (g o.a.toNat)) (g o.b.toNat),aU+1,true)
 else (ck g o.a.toNat (jP p fr b g o),aU+1,true)
def qG (p:Pr)(fr:Int)(b:List UInt8):Nat→(Nat→Int)→Nat→(Nat→Int)
 | 0,g,_=>g
 | n+1,g,aU=>match p.ops[aU]? with
  | none=>g
  | some o=>let r:=eC p fr b g aU o
   if r.2.2 then qG p fr b n r.1 r.2.1 else r.1
def fa (p:Pr)(fr:Int)(b:List UInt8)(g:Nat→Int):Nat→Int:=qG p fr b 200 g 0
def foldI (p:Pr)(fr:Int):(Nat→Int)→List (List UInt8)→(Nat→Int)
 | g,[]=>g
 | g,b::l=>foldI p (fr+1) (fa p fr b g) l
theorem Eu (p:Pr)(b:List UInt8):∀ (l:List (List UInt8)) (fr:Int) (g:Nat→Int),foldI p fr g (l++[b])=fa p (fr+l.length) b (foldI p fr g l)
 | [],fr,g=>by simp[foldI]
 | x::l,fr,g=>by
  rw[cons_append,foldI,Eu p b l,foldI,fm]
  congr 1;omega
def dT (g:Nat→Int):Prop:=∀ c,c<32→du (g c)
theorem ij {i:Int}(h1:-2147483648≤i)(h2:i≤2147483647):IntKind.i32.wrap i=i:=IntWalk.i32_in _ ⟨h1,h2⟩
theorem yA (x:Int):du (ig x):=by
 simp only[ig,du,IntKind.wrap];split <;> simp_all [IntKind.signed,IntKind.bits] <;> omega
def Ro (W:World)(e sz:Nat)(ad:Option Addr)(n c:Nat)(cs:List Value):SP:=λh =>
 (cs.length=n*sz∧n≤c∧(0<n→∃ b off,ad=some ⟨b,off,none⟩∧b<W.heap.size∧Rd W b off cs))∨Sl e sz ad n c cs h
class uL (L:List SP)(W:World)(ad:Option Addr)(n c e sz:outParam Nat)(cs:outParam (List Value))(R:outParam (List SP)):Prop where perm:L.Perm (Ro W e sz ad n c cs::R)
instance uL.head {L W ad n c e sz cs}:uL (Ro W e sz ad n c cs::L) W ad n c e sz cs L:=⟨lA _⟩
instance (priority:=low) uL.tail {A L W ad n c e sz cs R}[h:uL L W ad n c e sz cs R]:uL (A::L) W ad n c e sz cs (A::R) :=
 ⟨(kq A h.perm).trans (cW _ _ _)⟩
section
variable {W w:World}{L R:List SP}{e sz n c:Nat}{ad:Option Addr}{cs:List Value}
theorem U.ro (s:U W w L)(ad:Option Addr)[k:uL L W ad n c e sz cs R]:cs.length=n*sz∧n≤c:=(s.perm k.perm).tell λ_ h=>by
 rcases h with ⟨h1,h2,_⟩ | h
 ·exact⟨h1,h2⟩
 ·exact⟨h.1,h.2.1⟩
theorem U.rN (s:U W w L)(ad:Option Addr)[k:uL L W ad n c e sz cs R](h0:0<n):∃ b off,ad=some ⟨b,off,none⟩∧Rd w b off cs:=by
 have s':=s.perm k.perm;obtain⟨lz,h,p,h1,h2,d,a,kk,x,q⟩:=s';rcases x with ⟨x1,x2,x3⟩ | x
 ·obtain⟨b,off,rfl,hb,hr⟩:=x3 h0;exact⟨b,off,rfl,λj v hj=>(s.fK (a:=⟨b,off+j,none⟩) hb).trans (hr j v hj)⟩
 ·have s2:U W w (Sl e sz ad n c cs::R):=⟨lz,h,p,h1,h2,d,a,kk,x,q⟩;exact s2.bY ad h0
theorem U.J6 (s:U W w L)(h1:cs.length=n*sz)(h2:n≤c)(h3:0<n→∃ b off,ad=some ⟨b,off,none⟩∧b<W.heap.size∧Rd W b off cs):U W w (Ro W e sz ad n c cs::L) :=
 ⟨s.below,let ⟨h,p,q⟩:=s.sat;⟨h,p,λ_=>none,h,λ_=>.inl rfl,λ_ _ e=>(by cases e),Hp.Sub.refl _,.inl ⟨h1,h2,h3⟩,q⟩⟩
theorem U.AV (s:U W w (Sl e sz ad n c cs::L)):U W w (Ro W e sz ad n c cs::L):=s.imp λ_ ⟨h1,h2,d,a,b,x,q⟩=>⟨h1,h2,d,a,b,.inr x,q⟩
theorem U.V2 (s:U W w (Ro W e sz ad n c cs::L)){m:Nat}(hm:m≤n):U W w (Ro W e sz ad m c (cs.take (m*sz))::L):=by
 obtain⟨lz,h,p,h1,h2,d,a,kk,x,q⟩:=s;rcases x with ⟨x1,x2,x3⟩ | x
 ·refine⟨lz,h,p,h1,h2,d,a,kk,.inl ⟨?_,by omega,λh0=>?_⟩,q⟩
  ·rw[dH,x1];exact Nat.min_eq_left (nJ _ hm)
  ·obtain⟨b,off,rfl,hb,hr⟩:=x3 (by omega);refine⟨b,off,rfl,hb,λj v hj=>?_⟩;rw[rh]at hj;split at hj
   ·exact hr j v hj
   ·cases hj
 ·have s2:U W w (Sl e sz ad n c cs::L):=⟨lz,h,p,h1,h2,d,a,kk,x,q⟩;have s3:=s2.Iz (lo:=0) (hi:=m) (Nat.zero_le _) hm;rw[Nat.zero_mul,drop_zero,Nat.sub_zero,Nat.sub_zero]at s3;have e1:e6 ad 0 c sz=ad:=by
   unfold e6;split
   ·rfl
   ·cases ad with
    | none=>rfl
    | some a=>simp[Addr.add]
  rw[e1]at s3;exact s3.AV
end
theorem wF {w:World}{b off k:Nat}{ops:List fZ}{o:fZ}(hr:Rd w b off (rows c6 ops))(ho:ops[k]?=some o):Rd w b (off+k*4) (c6 o):=by
 obtain⟨hi,he⟩:=aZ.1 ho;have:=hr.part (k*4) 4;rw[vZ te ops k hi,he]at this;exact this
end
end Go.Proofs.YteoldcfapaiobaaGreat
