/- The walks of package snap, further. -/
import Derived.Test.YteoldcfapaiobaaGreatB02Page
import Derived.Test.YteoldcfapaiobaaGreatB01Row
namespace Go.Proofs.YteoldcfapaiobaaGreat
open Tryz
open List (perm_middle nil_append map_cons set_append_right set_append_left cons_append getElem_set_self take_length append_nil ext_getElem? mem_or_eq_of_mem_set getElem_mem set_set map_nil getElem?_set_ne set_getElem_self foldl_append length_filter_le)
open Go.RowKit
set_option linter.unusedVariables false
set_option linter.unusedSimpArgs false
set_option maxRecDepth 10000
set_option synthInstance.maxSize 4000
set_option synthInstance.maxHeartbeats 400000
section
section
variable {W w:World}{L L':List SP}{q r b m i pb:Nat}{A:Sn}{ps:List Pg}{xs:List (aD×Nat)}{x y:aD}
theorem Ue {off n c:Nat}{vs:List Value}(I:U W w L)(hr:∀ V,U W V L→Rd V b off vs)(hl:vs.length=n)(hn:0<n)(h1:∀ v∈vs,v.oneCell'=true)(hb:n≤1048576) :
   Calls prog 121 #[.slice (some ⟨b,off,none⟩) n c] w λe V=>∃ ad c',e=.returned (.slice ad n c')∧U W V (Sl 3 1 ad n c' vs::L):=by
 refine EN func121 ntmps121 rfl rfl λa E=>?_;refine RN 6 E I λa E=>?_;replace E:=E.aK 4;refine RN 2 E I λa E=>?_;refine tu E rfl I underlying53 Ty.t3 rfl λb5 a w E I ho=>?_;clear ho;refine RN 1 E I λa E=>?_;refine cQ E rfl I underlying53 Ty.t3 rfl rfl (hr _ I.tail) (by omega) h1 hn (by decide) (by omega) λr5 l5 a w E I=>?_;rw[Nat.zero_add,nil_append] at *;refine RT 1 E I ?_;exact⟨_,_,rfl,I⟩
theorem IB (I:U W w (ax q r A::L))(hx:A.au[i]?=some x) :
   Calls prog 85 #[pt q,.int .i64 x.id] w λe V=>∃ ad c,e=.returned (.slice ad 4 c)∧U W V (Sl 3 1 ad 4 c (ints .i64 4 (λk=>(x.p k:Int)+1))::ax q r A::L):=by
 obtain⟨b,m,ps,xs,h1,hw,hr,I⟩:=ax.open I;obtain⟨pb,bd⟩:=p3 h1 hx;refine EN func85 ntmps85 rfl rfl λa E=>?_;refine CL 5 E I (p4 I h1 hw bd) λa w E I=>?_;refine RN 5 E I λa E=>?_;replace E:=E.aK 10;refine RN 2 E I λa E=>?_;replace I:=I.qM bd;refine a6 4 E I (Ue (off:=0) (c:=4) I (λV h=>h.CW pb) (dm _ _ _) (by decide) tv (by decide)) λad c a w E I=>?_;refine RT 1 E I ?_;refine⟨ad,c,rfl,?_⟩;have h4:=ax.tE (A:=A) (B:=A) (q:=q) (r:=r) (last:=A.last) (L':=Sl 3 1 ad 4 c (ints .i64 4 (λk=>(x.p k:Int)+1))::L) (b:=b) (m:=m) (ps:=ps) (pb:=pb) (y:=x) I bd h1 rfl (xk hx) hw hr;exact h4.perm (List.Perm.swap _ _ _)
theorem zy (I:U W w (ax q r A::L)) :
   Calls prog 83 #[pt q] w λe V=>e=.returned (pt r)∧U W V (ax q r A::L):=by
 obtain⟨b,m,ps,xs,h1,hw,hr,I⟩:=ax.open I;refine EN func83 ntmps83 rfl rfl λa E=>?_;refine RN 6 E I λa E=>?_;replace E:=E.aK 4;refine RT 7 E I ?_;exact⟨rfl,ax.close (b:=b) (m:=m) I h1 hw hr⟩
theorem CZ (I:U W w (ax q r A::L)) :
   Calls prog 84 #[pt r] w λe V=>e=.returned (.int .i64 A.used)∧U W V (ax q r A::L):=by
 obtain⟨b,m,ps,xs,h1,hw,hr,I⟩:=ax.open I;refine (Ia (I.pick (Room r b ps))).mono λe V ⟨h2,I⟩=>?_;rw[hr.used]at h2;exact⟨h2,ax.close (b:=b) (m:=m) (ps:=ps) I h1 hw hr⟩
theorem IC {n:Int}(I:U W w (ax q r A::L)) :
   Calls prog 125 #[pt q,.int .i64 n] w λe V=>e=.returned (.bool (decide (n≤((A.room-A.used:Nat):Int))))∧U W V (ax q r A::L):=by
 obtain⟨b,m,ps,xs,h1,hw,hr,I⟩:=ax.open I;refine EN func125 ntmps125 rfl rfl λa E=>?_;refine RN 6 E I λa E=>?_;replace E:=E.dX 7;refine CL 5 E I (Tu (I.pick (Room r b ps))) λa w E I=>?_;refine RT 3 E I ?_;exact⟨by rw[hr.used,hr.len],ax.close (b:=b) (m:=m) (ps:=ps) I h1 hw hr⟩
theorem Uf (I:U W w (ax q r A::L)) :
   Calls prog 82 #[pt q] w λe V=>∃ ad c,e=.returned (.slice ad A.au.length c)∧U W V (Sl 166 1 ad A.au.length c (A.au.map λx=>.int .i64 x.id)::ax q r A::L):=by
 obtain⟨b,m,ps,xs,h1,hw,hr,I⟩:=ax.open I;have hlen:(kvs xs).length=A.au.length:=by rw[← h1];simp[kvs]
 have tG:((kvs xs).map (·.1)).Pairwise (· < ·):=by
  have:(kvs xs).map (·.1)=(A.au.map (·.id)).map (λn:Nat=>(n:Int)):=by rw[← h1];simp[kvs]
  rw[this,List.pairwise_map];exact hw.sorted.imp λh=>by omega
 have tH:((kvs xs).map λp=>Value.int .i64 p.1)=A.au.map λx=>Value.int .i64 x.id:=by rw[← h1];simp[kvs]
 refine EN func82 ntmps82 rfl rfl λa E=>?_;refine RN 6 E I λa E=>?_;replace E:=E.aK 4;refine aR 6 E I (TH (m:=m) I) λb8 a w E I=>?_;refine a6 0 E I (TK (m:=m) (kvs:=kvs xs) ((I.pick (mp m (kvs xs))).pick (aa b8 218 [.map (some m)])) tG (by rw[hlen];have:=hw.many;have:=hw.bound;omega)) λad c a w E I=>?_;rw[hlen,tH] at *;refine RT 1 E I ?_;refine⟨ad,c,rfl,?_⟩;have h4:=ax.close (A:=A) (q:=q) (r:=r) (last:=A.last) (xs:=xs) (L':=Sl 166 1 ad A.au.length c (A.au.map λx=>.int .i64 x.id)::L) (b:=b) (m:=m) (ps:=ps) I h1 hw hr;exact h4.perm (List.Perm.swap _ _ _)
theorem Ug (I:U W w (ax q r A::L))(hx:A.au[i]?=some x) :
   Calls prog 290 #[pt q,.int .i64 x.id] w λe V=>e=.returned (.tuple #[.agg (ints .i32 32 x.g).toArray,.bool true])∧U W V (ax q r A::L):=by
 refine EN func290 ntmps290 rfl rfl λa E=>?_;refine AL 1 E I λb4 a w E I=>?_;change U W w (aa b4 183 (ints .i32 32 (λ_=>0))::_) at I;refine AL 2 E I λcG a w E I=>?_;change U W w (aa cG 183 (ints .i32 32 (λj=>if j<0 then x.g j else 0))::_) at I;refine RN 2 E I λa E=>?_;obtain⟨b,m,ps,xs,h1,hw,hr,I⟩:=ax.open (I.pick (ax q r A));obtain⟨pb,bd⟩:=p3 h1 hx;refine CL 2 E I (p4 I h1 hw bd) λa w E I=>?_;refine RN 1 E I λa E=>?_;replace E:=E.aK 11;refine RN 3 E I λa E=>?_;replace I:=ax.close (A:=A) (q:=q) (r:=r) (last:=A.last) (xs:=xs) (L':=aa cG 183 (ints .i32 32 (λj=>if j<0 then x.g j else 0))::aa b4 183 (ints .i32 32 (λ_=>0))::L) (b:=b) (m:=m) (ps:=ps) I h1 hw hr;refine RN 1 E I λa E=>?_;refine aP (λμ a w=>∃ k:Nat,(μ=32-k∧k≤32)∧Fr a 27 [(0,pt q),(1,.int .i64 x.id),(4,pt b4),(6,pt cG),(13,.int .i64 k)]∧U W w (aa cG 183 (ints .i32 32 (λj=>if j<k then x.g j else 0))::ax q r A::aa b4 183 (ints .i32 32 (λ_=>0))::L)) (32) (⟨0,⟨by simp,by simp⟩,E.ab [0,1,4,6,13],I.sub⟩) ?_;clear E I;rintro μ a w ⟨k,⟨rfl,hk⟩,E,I⟩;refine IF 3 E I (λao a E=>?_) λao a E=>?_
 ·
  refine CL 8 E I (Iw (I.pick (ax q r A)) hx (by omega)) λa w E I=>?_;refine ST 4 E I (λa w E I=>?_) (hlt:=(by rw[dm];omega))
  rw [ints_set, show (fun i => if i = k then x.g k else if i < k then x.g i else 0) = (fun i => if i < k + 1 then x.g i else 0) from by
      funext i
      by_cases h:i=k
      ·subst h;simp
      ·rw[ag h];by_cases h2:i<k
       ·rw[al h2,al (by omega)]
       ·rw[ag h2,ag (by omega)]]at I
  refine RN 2 E I λa E=>?_;exact⟨32-(k+1),by omega,k+1,⟨rfl,by omega⟩,E.ab [0,1,4,6,13],I.sub⟩
 obtain rfl:k=32:=by omega
 rw[w5 (g':=x.g) (λj hj=>al hj)]at I;refine SA 2 E I λa w E I=>?_;refine RT 1 E I ?_;exact⟨rfl,I.sub⟩
theorem Uh (p:Nat):cR [] p=0:=rfl
theorem Ui {n:Nat}(I:U W w L)(hn:n≤50) :
   Calls prog 89 #[.int .i64 n] w λe V=>∃ q r,e=.returned (pt q)∧U W V (ax q r ⟨0,4*n,0,[]⟩::L):=by
 refine EN func89 ntmps89 rfl rfl λa E=>?_;refine RN 6 E I λa E=>?_;rw[show min (max (n:Int) 0) 50=(n:Int) from by omega]at E;refine RN 1 E I λa E=>?_;rw[show (4:Int)*(n:Int)=((4*n:Nat):Int) from by omega]at E;refine a6 0 E I (Tk I (by omega)) λr b a w E I=>?_;refine RN 0 E I λa E=>?_;refine Tx E rfl I rfl λb8 a w E I ho=>?_;clear ho;refine BX 1 E I λkf a w E I=>?_;refine RT 1 E I ?_;have h7:U W w (ah iO []::aa kf 221 [pt r,.map (some b8),.int .i64 ((0:Nat):Int)]::mp b8 (kvs [])::Room r b (List.replicate (4*n) r7)::L):=U.iM I;refine⟨kf,r,rfl,ax.close (A:=⟨0,4*n,0,[]⟩) (last:=0) (b:=b) (m:=b8) (xs:=[]) (ps:=List.replicate (4*n) r7) h7 rfl ⟨by simp only;omega,by simp,bk _,by simp,by simp,by simp⟩ ⟨by simp,λp q hq=>?_,by simp⟩⟩;obtain⟨_,rfl⟩:=a8.1 hq;rw[List.getElem_replicate];rfl
theorem Uj {g:Nat→Int}{k:Nat}(I:U W w L)(hk:k<4) :
   Calls prog 127 #[.agg (ints .i32 32 g).toArray,.int .i64 k] w λe V=>e=.returned (.agg (ints .i32 8 (λj=>g (8*k+j))).toArray)∧U W V L:=by
 refine EN func127 ntmps127 rfl rfl λa E=>?_;refine BX 1 E I λb2 a w E I=>?_;refine AL 0 E I λb4 a w E I=>?_;change U W w (aa b4 225 (ints .i32 8 (λ_=>0))::_) at I;refine AL 1 E I λb5 a w E I=>?_;change U W w (aa b5 225 (ints .i32 8 (λ_=>0))::_) at I;refine RN 5 E I λa E=>?_;rw[dq (by omega)]at E;refine RN 3 E I λa E=>?_;rw[dq (by omega)]at E;refine RN 1 E I λa E=>?_;have Uk:((ints .i32 32 g).drop (k*8)).take 8=ints .i32 8 (λj=>g (8*k+j)):=by rw[Nat.mul_comm k 8];exact Qp g (by omega)
 refine bS 0 [] [0,1,2,3,1004] E I λa w E I hH hC=>?_;refine RH 3 E I hH hC λa E=>?_;rw[show ((k:Int)*8)=((k*8:Nat):Int) from by omega]at E;refine QP E (λw=>Qs E underlying183 Ty.t21 (by omega)) λa E=>?_;rw[Nat.zero_add,Nat.mul_one]at E;refine RH 0 E I hH hC λa E=>?_;refine Qt E rfl I underlying270 Ty.t21 rfl (k:=8) (vs:=ints .i32 8 (λj=>g (8*k+j))) (by omega) (by rw[← Uk];exact I.pO 8) (dm _ _ _) tv (by rw[dm,dm];decide) λa w E I=>?_;rw[show cD (ints .i32 8 (λ_=>0)) 0 (ints .i32 8 (λj=>g (8*k+j)))=ints .i32 8 (λj=>g (8*k+j)) from by simp[cD,dm]]at I;refine SA 2 E I λa w E I=>?_;refine RT 0 E I ?_;exact⟨rfl,I.sub⟩
structure Made (ps:List Pg)(g:Nat→Int)(t:Nat→Nat)(k:Nat)(gk:List Pg):Prop where
 len:gk.length=ps.length
 new:∀ j,j<k→∃ q,gk[t j]?=some q∧q.refs=1∧∀ l,l<8→q.g l=g (8*j+l)
 C0:∀ j,j<k→∃ q,ps[t j]?=some q∧q.refs=0
 apart:∀ j l,j<k→l<k→t j=t l→j=l
 gv:∀ p,(∀ j,j<k→t j≠p)→gk[p]?=ps[p]?
 used:jK gk=jK ps+k
theorem Made.zero (ps:List Pg)(g:Nat→Int)(t:Nat→Nat):Made ps g t 0 ps:=⟨rfl,λ_ h=>by omega,λ_ h=>by omega,λ_ _ h=>by omega,λ_ _=>rfl,rfl⟩
theorem Made.free {ps gk:List Pg}{g:Nat→Int}{t:Nat→Nat}{k:Nat}(h:Made ps g t k gk)(hu:jK ps+k<ps.length):∃ f,tA gk f:=by
 rcases CH gk with bX | hf
 ·have:=IA bX;rw[h.used,h.len]at this;omega
 ·exact hf
theorem Made.step {ps gk:List Pg}{g:Nat→Int}{t:Nat→Nat}{k f:Nat}(h:Made ps g t k gk)(hf:tA gk f){g1:Nat→Int}(hg:∀ l,l<8→g1 l=g (8*k+l)) :
   Made ps g (λj=>if j=k then f else t j) (k+1) (gk.set f ⟨g1,1⟩):=by
 obtain⟨iX,ju,_⟩:=hf;have bP:∀ j,j<k→t j≠f:=λj hj e=>by
  obtain⟨q,h1,h2,_⟩:=h.new j hj;rw[e,aF iX]at h1;cases h1;omega
 have zt:ps[f]?=some gk[f]:=by rw[← h.gv f bP,aF iX]
 refine⟨by rw[bu];exact h.len,λj hj=>?_,λj hj=>?_,λj l hj hl e=>?_,λp hp=>?_,?_⟩
 ·by_cases pU:j=k
  ·subst pU;exact⟨⟨g1,1⟩,by simp[iX],rfl,hg⟩
  ·obtain⟨q,h1,h2,h3⟩:=h.new j (by omega);exact⟨q,by simp only[ag pU];rw[getElem?_set_ne (Ne.symm (bP j (by omega)))];exact h1,h2,h3⟩
 ·by_cases pU:j=k
  ·subst pU;exact⟨_,by simp only[if_true];exact zt,ju⟩
  ·simp only[ag pU];exact h.C0 j (by omega)
 ·by_cases h1:j=k <;> by_cases h2:l=k
  ·omega
  ·rw[al h1,ag h2]at e;exact absurd e.symm (bP l (by omega))
  ·rw[ag h1,al h2]at e;exact absurd e (bP j (by omega))
  ·rw[ag h1,ag h2]at e;exact h.apart j l (by omega) (by omega) e
 ·have h1:=hp k (by omega);simp only[if_true]at h1;rw[getElem?_set_ne h1];refine h.gv p λj hj e=>?_;have:=hp j (by omega);rw[ag (by omega)]at this;exact this e
 ·have:=List.countP_set (p:=λp:Pg=>decide (0<p.refs)) (a:=⟨g1,1⟩) iX;have hu:=h.used;simp only[jK]at hu ⊢;rw[this,hu];simp[ju,Nat.add_assoc]
theorem Made.rel {ps gk:List Pg}{g:Nat→Int}{t:Nat→Nat}(h:Made ps g t 4 gk)(hr:Rel A ps):Rel (A.add g t) gk:=by
 have hz:∀ j,j<4→cR A.au (t j)=0:=λj hj=>by
  obtain⟨q,h1,h2⟩:=h.C0 j hj;rw[← hr.refs _ _ h1];exact h2
 refine⟨h.len.trans hr.len,λp q hq=>?_,λy hy k hk=>?_⟩
 ·simp only[Sn.add,xf,sf,CR,Nat.add_zero];by_cases hp:∃ j,j<4∧t j=p
  ·obtain⟨j,hj,rfl⟩:=hp;obtain⟨q',h1,h2,_⟩:=h.new j hj;rw[h1]at hq;cases hq;rw[hz j hj,h2,tB];have E:=λl (hl:l<4) (e:t l=t j)=>h.apart l j hl hj e;simp only;rcases (by omega:j=0∨j=1∨j=2∨j=3) with rfl | rfl | rfl | rfl
   ·rw[al rfl,ag (λe=>by have:=E 1 (by omega) e;omega),ag (λe=>by have:=E 2 (by omega) e;omega),ag (λe=>by have:=E 3 (by omega) e;omega)]
   ·rw[al rfl,ag (λe=>by have:=E 0 (by omega) e;omega),ag (λe=>by have:=E 2 (by omega) e;omega),ag (λe=>by have:=E 3 (by omega) e;omega)]
   ·rw[al rfl,ag (λe=>by have:=E 0 (by omega) e;omega),ag (λe=>by have:=E 1 (by omega) e;omega),ag (λe=>by have:=E 3 (by omega) e;omega)]
   ·rw[al rfl,ag (λe=>by have:=E 0 (by omega) e;omega),ag (λe=>by have:=E 1 (by omega) e;omega),ag (λe=>by have:=E 2 (by omega) e;omega)]
  ·have hn:∀ j,j<4→t j≠p:=λj hj e=>hp ⟨j,hj,e⟩;rw[h.gv p hn]at hq;rw[hr.refs p q hq,CQ (x:=⟨A.last+1,1,g,t⟩) hn];rfl
 ·simp only[Sn.add]at hy;rcases eR.1 hy with hy | hy
  ·obtain⟨q,h1,h2⟩:=hr.oW y hy k hk;refine⟨q,?_,h2⟩;rw[h.gv _ λj hj e=>?_]
   ·exact h1
   ·have h3:=hz j hj;have h4:=tC hy (t j);rw[e]at h3 h4;have:=se (x:=y) hk;omega
  ·simp at hy;subst hy;obtain⟨q,h1,h2,h3⟩:=h.new k hk;exact⟨q,h1,h3⟩
abbrev nv (P:Nat→Int):List Value:=ints .i64 4 P++[.int .i64 0]
theorem Ul (P:Nat→Int):(nv P).length=5:=by simp[nv,dm]
theorem Um {P:Nat→Int}{k:Nat}(h:k<4):(nv P)[k]?=some (.int .i64 (P k)):=by
 rw[nv,lX (by rw[dm];exact h),fO _ h]
theorem Un {P:Nat→Int}{k:Nat}(v:Int)(h:k<4):(nv P).set k (.int .i64 v)=nv (λj=>if j=k then v else P j):=by
 rw[nv,set_append_left _ _ (by rw[dm];exact h),ints_set,nv]
def tP (t:Nat→Nat)(k:Nat):Nat→Int:=λj=>if j<k then (t j:Int)+1 else 0
theorem Uo (t:Nat→Nat)(k f:Nat):(λj=>if j=k then ((f:Int)+1) else tP t k j)=tP (λj=>if j=k then f else t j) (k+1):=by
 funext j
 simp only[tP];by_cases h:j=k
 ·subst h;simp
 ·rw[ag h,ag h];by_cases h2:j<k
  ·rw[al h2,al (by omega)]
  ·rw[ag h2,ag (by omega)]
def nV (g:Nat→Int)(k j:Nat):Nat→Int:=λl=>if l<j then g (8*k+l) else 0
theorem Up (g:Nat→Int)(k:Nat):nV g k 0=λ_=>0:=by funext l;simp[nV]
theorem Uq (g:Nat→Int)(k j:Nat):(λl=>if l=j then g (8*k+j) else nV g k j l)=nV g k (j+1):=by
 funext l
 simp only[nV];by_cases h:l=j
 ·subst h;simp
 ·rw[ag h];by_cases h2:l<j
  ·rw[al h2,al (by omega)]
  ·rw[ag h2,ag (by omega)]
theorem ID {g:Nat→Int}(I:U W w (ax q r A::L))(hu:A.used+4≤A.room)(hb:A.n+1<1099511627776) :
   Calls prog 93 #[pt q,.agg (ints .i32 32 g).toArray] w λe V=>∃ t:Nat→Nat,e=.returned (.tuple #[.int .i64 ((A.last+1:Nat):Int),.bool true]) ∧
    ((∀ j,j<4→t j<A.room∧cR A.au (t j)=0)∧∀ j l,j<4→l<4→t j=t l→j=l)∧U W V (ax q r (A.add g t)::L):=by
 refine EN func93 ntmps93 rfl rfl λa E=>?_;refine BX 1 E I λb3 a w E I=>?_;refine CL 5 E I (IC (I.pick (ax q r A))) λa w E I=>?_;rw[dq (by omega)]at E;refine RN 1 E I λa E=>?_;replace E:=E.aK 12;refine RN 2 E I λa E=>?_;obtain⟨b,m,ps,xs,h1,hw,hr,I⟩:=ax.open I;have np:=hr.used;have hS:=hr.len;refine AL 0 E I λcG a w E I=>?_;change U W w (aa cG 232 (nv (tP (λ_=>0) 0))::_) at I;refine RN 3 E I λa E=>?_;refine aP (λμ a w=>∃ (k:Nat) (t:Nat→Nat) (gk:List Pg),(μ=4-k∧k≤4∧Made ps g t k gk)∧Fr a 50 [(0,pt q),(3,pt b3),(6,pt cG),(13,.int .i64 k)]∧U W w (Room r b gk::aa cG 232 (nv (tP t k))::aa b3 183 (ints .i32 32 g)::aa q 221 [pt r,.map (some m),.int .i64 A.last]::mp m (kvs xs)::ah iO xs::L)) (4) (⟨0,λ_=>0,ps,⟨by simp,by simp,Made.zero _ _ _⟩,E.ab [0,3,6,13],I.sub⟩) ?_;clear E I;rintro μ a w ⟨k,t,gk,⟨rfl,hk,hm⟩,E,I⟩;refine IF 3 E I (λao a E=>?_) λao a E=>?_
 ·
  refine RN 5 E I λa E=>?_;have IE:=hm.used;obtain⟨f,hf⟩:=hm.free (by omega);have aT:=λ(g1:Nat→Int) h=>hm.step (g1:=g1) hf h;have iX:=hf.1;refine CL 5 E I (H9 (I.pick (Room r b gk)) hf) λa w E I=>?_;refine ST 5 E I (λa w E I=>?_) (hlt:=(by rw[Ul];omega));rw[Un _ (by omega),Uo]at I;refine CL 3 E I (Uj I (by omega)) λa w E I=>?_;refine RN 1 E I λa E=>?_;refine aP (λμ a w=>∃ j:Nat,(μ=8-j∧j≤8)∧Fr a 50 [(0,pt q),(3,pt b3),(6,pt cG),(7,.int .i64 k),(13,.int .i64 k),(29,.agg (ints .i32 8 (λj=>g (8*k+j))).toArray),(30,.int .i64 j)]∧U W w (Room r b (gk.set f ⟨nV g k j,1⟩)::aa cG 232 (nv (tP (λj=>if j=k then f else t j) (k+1)))::aa b3 183 (ints .i32 32 g)::aa q 221 [pt r,.map (some m),.int .i64 A.last]::mp m (kvs xs)::ah iO xs::L)) (8) (⟨0,⟨by simp,by simp⟩,E.ab [0,3,6,7,13,29,30],by rw[Up];rw[show oU=(⟨λ_=>0,1⟩:Pg) from rfl]at I;exact I.sub⟩) ?_;clear E I;rintro μ a w ⟨j,⟨rfl,hj⟩,E,I⟩;refine IF 3 E I (λaz a E=>?_) λaz a E=>?_
  ·
   refine RN 3 E I λa E=>?_;refine SS E (rT E underlying225 underlying21 rfl Ty.t21 (by omega) (fO _ (by omega))) λa E=>?_;refine bS 2 [7] [0,1,2,4,5,6,8,9,3003,1007,1010] E I λa w E I hH hC=>?_;refine RH 9 E I hH hC λa E=>?_;refine SS E (ae E (I.bz (Um (by omega)))) λa E=>?_;rw[show tP (λj=>if j=k then f else t j) (k+1) k=(f:Int)+1 from by simp[tP]]at E;have eS:f<(gk.set f ⟨nV g k j,1⟩).length:=by rw[bu];exact iX
   have vp:(gk.set f ⟨nV g k j,1⟩)[f]=⟨nV g k j,1⟩:=by rw[getElem_set_self]
   refine RH 0 E I hH hC λa E=>?_;refine CL 0 E I (CG (I.pick (Room r b (gk.set f ⟨nV g k j,1⟩))) eS (by rw[vp]) (show j<8 by omega)) λa w E I=>?_;rw[vp,set_set,Uq]at I;refine RN 2 E I λa E=>?_;exact⟨8-(j+1),by omega,j+1,⟨rfl,by omega⟩,E.ab [0,3,6,7,13,29,30],I.sub⟩
  obtain rfl:j=8:=by omega
  have Ur:=aT (nV g k 8) (λl hl=>by simp[nV,hl]);refine RN 2 E I λa E=>?_;exact⟨4-(k+1),by omega,k+1,_,_,⟨rfl,by omega,Ur⟩,E.ab [0,3,6,13],I.sub⟩
 obtain rfl:k=4:=by omega
 have hL:nv (tP t 4)=aD.cells ⟨A.last+1,0,g,t⟩:=by
  rw[nv,aD.cells];rw[w5 (g:=tP t 4) (g':=λk=>(t k:Int)+1) (λj hj=>al hj)];rfl
 rw[hL]at I;have zx:=hw.add hb g t;have zw:=hm.rel hr;refine aR 3 E I (Iy (x:=⟨A.last+1,0,g,t⟩) (q:=q) (r:=r) (m:=m) (last:=A.last) (xs:=xs) (L:=Room r b gk::ah iO xs::L) I.sub (by have:=hw.bound;have:=hw.last;omega) (Ix h1 hw)) λpb a w E I=>?_;refine RT 2 E I ?_;refine⟨t,rfl,⟨λj hj=>?_,λj l hj hl e=>hm.apart j l hj hl e⟩,?_⟩
 ·obtain⟨q',h5,h6⟩:=hm.C0 j hj;have h7:=(a8.1 h5).1;exact⟨by omega,by rw[← hr.refs _ _ h5];exact h6⟩
 ·have h6:=U.jG (f:=iO) (l:=xs) (x:=(⟨A.last+1,1,g,t⟩,pb)) (I.sub (M:=aa pb 232 (aD.cells ⟨A.last+1,1,g,t⟩)::ah iO xs::aa q 221 [pt r,.map (some m),.int .i64 ((A.last+1:Nat):Int)]::mp m (kvs xs++[(((A.last+1:Nat):Int),pt pb)])::Room r b gk::L));rw[show kvs xs++[(((A.last+1:Nat):Int),Value.pointer (some ⟨pb,0,none⟩))]=kvs (xs++[(⟨A.last+1,1,g,t⟩,pb)]) from by simp[kvs]]at h6;exact ax.close (last:=A.last+1) (b:=b) (m:=m) (xs:=xs++[(⟨A.last+1,1,g,t⟩,pb)]) h6 (by simp[Sn.add,h1]) zx zw
end
end
section
structure Br where
 id:Nat
 frm:Int
 ak:List (List UInt8)
 done:Nat
 snap:Nat
structure Tr where
 most:Nat
 l:List Br
 last:Nat
 epoch:Nat
def nx (p:List (List UInt8)):Prop:=p.length≤65536∧∀ b∈p,b.length≤1099511627776
abbrev cg (x:Br)(ad:Option Addr)(c:Nat):List Value:=[.int .i64 x.id,.int .i64 x.frm,.slice ad x.ak.length c,.int .i64 x.done,.int .i64 x.snap]
abbrev Bx:=Br×Option Addr×Nat
abbrev c9 (x:Bx):List Value:=cg x.1 x.2.1 x.2.2
def bY (x:Bx):SP:=cd x.2.1 x.1.ak.length x.2.2 x.1.ak
theorem sh (x:Bx):(c9 x).length=5:=rfl
structure WT (T:Tr):Prop where
 most:T.most≤8∧T.l.length≤T.most
 last:T.last<1099511627776
 epoch:T.epoch<1099511627776
 ids:(T.l.map (·.id)).Pairwise (· < ·)
 ok:∀ x∈T.l,nx x.ak∧x.done≤x.ak.length∧1≤x.id∧x.id≤T.last
def Tree (tq sq:Nat)(T:Tr):SP:=λh=>∃ ad c xs,(xs.map (·.1)=T.l∧WT T) ∧
 cn [aa tq 236 [pt sq,.int .i64 T.most,.slice ad T.l.length c,.int .i64 T.last,.int .i64 T.epoch],Sl 238 5 ad T.l.length c (rows c9 xs),ah bY xs] h
section
variable {W w:World}{L L' R:List SP}{tq sq q r n c k:Nat}{ad:Option Addr}{A:Sn}{T:Tr}{x y:Br}{xs:List Bx}{p:List (List UInt8)}
theorem Tree.open (I:U W w (Tree tq sq T::L)):∃ ad c xs,xs.map (·.1)=T.l∧WT T ∧
   U W w (aa tq 236 [pt sq,.int .i64 T.most,.slice ad T.l.length c,.int .i64 T.last,.int .i64 T.epoch]::Sl 238 5 ad T.l.length c (rows c9 xs)::ah bY xs::L):=by
 obtain⟨⟨ad,c,xs⟩,⟨h1,h2⟩,h4⟩:=I.jt (ι:=Option Addr×Nat×List Bx) (p:=λi=>i.2.2.map (·.1)=T.l∧WT T)
  (B:=λi h=>cn [aa tq 236 [pt sq,.int .i64 T.most,.slice i.1 T.l.length i.2.1,.int .i64 T.last,.int .i64 T.epoch],Sl 238 5 i.1 T.l.length i.2.1 (rows c9 i.2.2),ah bY i.2.2] h)
  (λh ⟨ad,c,xs,h1,h2⟩=>⟨(ad,c,xs),h1,h2⟩)
 exact⟨ad,c,xs,h1,h2,h4.open λ_ h=>h⟩
theorem Tree.close {most last epoch:Nat}(I:U W w L)[k:fE L (aa tq 236 [pt sq,.int .i64 most,.slice ad n c,.int .i64 last,.int .i64 epoch]::Sl 238 5 ad n c (rows c9 xs)::ah bY xs::L') R]
   (h1:xs.map (·.1)=T.l) (h2:WT T) (e1:T.most=most:=by rfl) (e2:T.l.length=n:=by rfl) (e3:T.last=last:=by rfl) (iV:T.epoch=epoch:=by rfl):U W w (Tree tq sq T::L'):=by
 subst e1 e2 e3 iV;exact U.shut (M:=[_,_,_]) (I.sub (M:=aa tq 236 [pt sq,.int .i64 T.most,.slice ad T.l.length c,.int .i64 T.last,.int .i64 T.epoch]::Sl 238 5 ad T.l.length c (rows c9 xs)::ah bY xs::L')) (λ_ x=>⟨ad,c,xs,⟨h1,h2⟩,x⟩)
theorem Tree.same (ad:Option Addr)(c:Nat)(xs:List Bx)(I:U W w L)[k:fE L (aa tq 236 [pt sq,.int .i64 T.most,.slice ad T.l.length c,.int .i64 T.last,.int .i64 T.epoch]::Sl 238 5 ad T.l.length c (rows c9 xs)::ah bY xs::L') R]
   (h1:xs.map (·.1)=T.l) (h2:WT T):U W w (Tree tq sq T::L') :=
 U.shut (M:=[_,_,_]) (I.sub (M:=aa tq 236 [pt sq,.int .i64 T.most,.slice ad T.l.length c,.int .i64 T.last,.int .i64 T.epoch]::Sl 238 5 ad T.l.length c (rows c9 xs)::ah bY xs::L')) (λ_ x=>⟨ad,c,xs,⟨h1,h2⟩,x⟩)
class vq (L:List SP)(tq:Nat)(sq:outParam Nat)(T:outParam Tr)(R:outParam (List SP)):Prop where perm:L.Perm (Tree tq sq T::R)
instance vq.head {L tq sq T}:vq (Tree tq sq T::L) tq sq T L:=⟨List.Perm.refl _⟩
instance (priority:=low) vq.tail {B L tq sq T R}[h:vq L tq sq T R]:vq (B::L) tq sq T (B::R):=⟨(List.Perm.cons B h.perm).trans (List.Perm.swap _ _ _)⟩
theorem U.tree (I:U W w L)(tq:Nat)[k:vq L tq sq T R]:U W w (Tree tq sq T::R):=I.perm k.perm
theorem Tree.wt (I:U W w (Tree tq sq T::L)):WT T:=by obtain⟨_,_,_,_,h,_⟩:=Tree.open I;exact h
theorem C1 (h1:xs.map (·.1)=T.l)(hx:T.l[k]?=some x):∃ ad c,xs[k]?=some (x,ad,c):=by
 rw[← h1,bn]at hx;obtain⟨⟨y,ad,c⟩,h2,rfl⟩:=Option.map_eq_some_iff.1 hx;exact⟨ad,c,h2⟩
theorem nW {b off:Nat}(hr:Rd w b off (rows c9 xs)){av:Option Addr}{c':Nat}(hx:xs[k]?=some (x,av,c')):Rd w b (off+k*5) (cg x av c'):=by
 obtain⟨hi,he⟩:=a8.1 hx;have:=hr.part (k*5) 5;rw[va sh xs k hi,he]at this;exact this
theorem ah.oX (I:U W w (ah bY xs::L)){av:Option Addr}{c':Nat}(hx:xs[k]?=some (x,av,c')):kK w av x.ak.length x.ak∧x.ak.length≤c':=by
 obtain⟨hi,he⟩:=a8.1 hx;have h:=I.fv hi;rw[he]at h;have h2:U W w (cd av x.ak.length c' x.ak::_):=h;exact⟨cd.rd h2,(cd.le h2).2⟩
theorem Us {s:Nat}{m:Int}(I:U W w L):Calls prog 91 #[pt s,.int .i64 m] w λe V=>∃ tq,e=.returned (pt tq)∧U W V (Tree tq s ⟨(min (max m 0) 8).toNat,[],0,0⟩::L):=by
 refine EN func91 ntmps91 rfl rfl λa E=>?_;refine BX 8 E I λkf a w E I=>?_;refine RT 1 E I ?_;rw[show min (max m 0) 8=(((min (max m 0) 8).toNat:Nat):Int) from by omega]at I;have h:U W w (Sl 238 5 none 0 0 (rows c9 [])::ah bY []::aa kf 236 [pt s,.int .i64 (((min (max m 0) 8).toNat:Nat):Int),.slice none 0 0,.int .i64 ((0:Nat):Int),.int .i64 ((0:Nat):Int)]::L):=(I.iM (f:=bY)).bO 238 5 none;exact⟨kf,rfl,Tree.close (T:=⟨(min (max m 0) 8).toNat,[],0,0⟩) (most:=(min (max m 0) 8).toNat) (ad:=none) (c:=0) (n:=0) (last:=0) (epoch:=0) (xs:=[]) h rfl ⟨⟨by simp only;omega,Nat.zero_le _⟩,by simp,by simp,by simp,by simp⟩⟩
def oY (a b:List (List UInt8)):Bool:=a.take (min a.length b.length)==b.take (min a.length b.length)
theorem Ut {u v:List (List UInt8)}{ad2:Option Addr}{c2:Nat}(di:kK w ad u.length u)(lf:kK w ad2 v.length v)(ao:u.length≤c)(az:v.length≤c2)(hb:u.length≤1099511627776) :
   Calls prog 295 #[.slice ad u.length c,.slice ad2 v.length c2] w λe V=>e=.returned (.bool (oY u v))∧V=w.drew:=by
 obtain⟨W,xc⟩:∃ W,w=W:=⟨w,rfl⟩;have I:U W w []:=xc ▸ U.start w;refine EN func295 ntmps295 rfl rfl λa E=>?_;refine RN 8 E I λa E=>?_;rw[show min (u.length:Int) (v.length:Int)=((min u.length v.length:Nat):Int) from by omega]at E;refine RN 2 E I λa E=>?_;have IG:kK w.drew ad u.length u:=di;have oO:kK w.drew ad2 v.length v:=lf;refine qJ 0 (λ_=>True) [] [0,1,2,3,4,5,1006,7] E I λa E=>?_;replace I:=I.drew;generalize w.drew=w at I IG oO ⊢;have hC:=trivial;have hH:=Hd.any (λ_=>True);refine RH 6 E I hH hC λa E=>?_;rw[qK,qK,Nat.sub_zero,Nat.sub_zero,Nat.sub_zero]at E;refine CL 0 E I (Ta (p:=u.take (min u.length v.length)) (q:=v.take (min u.length v.length)) (IG.take (by omega)) (oO.take (by omega)) (by omega)) λa w E hx=>?_;obtain rfl:=hx;refine RN 1 E (U.start _) λa E=>?_;refine RT 0 E (U.start _) ?_;exact⟨rfl,rfl⟩
theorem C3 {u v:List (List UInt8)}{ad2:Option Addr}{c2:Nat}(I:U W w L)(di:kK w ad u.length u)(lf:kK w ad2 v.length v)(ao:u.length≤c)(az:v.length≤c2)(hb:u.length≤1099511627776) :
   Calls prog 295 #[.slice ad u.length c,.slice ad2 v.length c2] w λe V=>e=.returned (.bool (oY u v))∧U W V L :=
 (Ut di lf ao az hb).mono λe V ⟨h1,h2⟩=>⟨h1,by subst h2;exact I.drew⟩
theorem IH {m:Nat}{zs:List ed}(I:U W w L)(hr:∀ V,U W V L→ix V ad zs)(hm:zs.length=m)(dt:nx (zs.map (·.2.2))) :
   Calls prog 165 #[.slice ad m c] w λe V=>∃ av c',e=.returned (.slice av m c')∧U W V (cd av m c' (zs.map (·.2.2))::L):=by
 obtain⟨II,Uu⟩:=dt;rw[bg]at II;refine EN func165 ntmps165 rfl rfl λa E=>?_;refine RN 6 E I λa E=>?_;replace I:=cd.nil I;refine RN 3 E I λa E=>?_;refine aP (λμ a w=>∃ (k:Nat) (fo:Option Addr) (c7:Nat),(μ=m-k∧k≤m)∧Fr a 19 [(3,.slice fo k c7),(6,.slice ad m c),(7,.int .i64 m),(8,.int .i64 k)]∧U W w (cd fo k c7 ((zs.map (·.2.2)).take k)::L)) (m) (⟨0,none,0,⟨by simp,by simp⟩,E.ab [3,6,7,8],I⟩) ?_;clear E I;rintro μ a w ⟨k,fo,c7,⟨rfl,hk⟩,E,I⟩;refine IF 3 E I (λaj a E=>?_) λaj a E=>?_
 ·
  refine RN 2 E I λa E=>?_;obtain⟨b1,o1,rfl,h1⟩:=(hr _ I.tail).1 (by omega);have eL:zs[k]?=some zs[k]:=aF (by omega);have nX:=Uu zs[k].2.2 (c0.2 ⟨zs[k],getElem_mem _,rfl⟩);have l8:=h1 k _ (by rw[bn,eL];rfl);refine RN 1 E I λa E=>?_;refine SS E (ae E (l8)) λa E=>?_;refine a6 3 E I (r4 (bs:=zs[k].2.2) I (λV h=>(hr _ h.tail).2 _ (getElem_mem _)) nX) λmc fP a w E I=>?_;refine RN 0 E I λa E=>?_;refine cp E rfl I underlying207 Ty.t22 rfl rfl rfl rfl (by decide) (by decide) λUv a w E I ho=>?_;clear ho;obtain⟨ys,hU,kg,I⟩:=cd.open (I.pick (cd fo k c7 ((zs.map (·.2.2)).take k)));refine RN 0 E I λa E=>?_;refine cQ E rfl I underlying207 Ty.t22 rfl rfl I.ai rfl (by simp[Value.oneCell']) (by decide) (by decide) (by omega) λC4 C5 a w E I=>?_;have h8:=U.jG (f:=ba) (l:=ys) (x:=(mc,fP,zs[k].2.2)) (I.sub (M:=Sl 5 1 mc zs[k].2.2.length fP (bc zs[k].2.2)::ah ba ys::Sl 22 1 C4 (k+1) C5 (ys.map aL++[[.slice mc zs[k].2.2.length fP]].flatten)::L));have h9:U W w (ah ba (ys++[(mc,fP,zs[k].2.2)])::Sl 22 1 C4 (k+1) C5 ((ys++[(mc,fP,zs[k].2.2)]).map aL)::L):=by
   rw[cX];exact h8
  have dO:k<(zs.map (·.2.2)).length:=by rw[bg];omega
  have fF:=cd.close (p:=(zs.map (·.2.2)).take (k+1)) (ad:=C4) (n:=k+1) (c:=C5) (xs:=ys++[(mc,fP,zs[k].2.2)]) (L':=L) h9 (by rw[cX,hU,iZ dO];simp) (by rw[ez];omega);replace I:=fF;clear h8 h9 fF;refine RN 3 E I λa E=>?_;exact⟨m-(k+1),by omega,k+1,_,_,⟨rfl,by omega⟩,E.ab [3,6,7,8],I⟩
 refine RT 3 E I ?_;obtain rfl:k=m:=by omega
 rw[fY (by rw[bg];omega)]at I;exact⟨_,_,rfl,I⟩
theorem IJ {zs:List ed}{av:Option Addr}{c':Nat}(I:U W w L)(hr:∀ V,U W V L→ix V av zs)(hz:zs.map (·.2.2)=x.ak)(dt:nx x.ak) :
   Calls prog 123 #[.agg (cg x av c').toArray] w λe V=>∃ ad2 c2,e=.returned (.agg (cg x ad2 c2).toArray)∧U W V (cd ad2 x.ak.length c2 x.ak::L):=by
 have iW:zs.length=x.ak.length:=by rw[← hz,bg]
 refine EN func123 ntmps123 rfl rfl λa E=>?_;refine BX 1 E I λb1 a w E I=>?_;refine AL 0 E I λb2 a w E I=>?_;refine a6 3 E I (IH I (λV h=>hr V h.tail.tail) iW (by rw[hz];exact dt)) λad2 c2 a w E I=>?_;rw[hz]at I;refine ST 1 E I (λa w E I=>?_) (hlt:=(by simp[cg]));refine SA 2 E I λa w E I=>?_;refine RT 0 E I ?_;exact⟨ad2,c2,rfl,I.sub⟩
theorem Uw {b:Nat}{id:Int}{av:Option Addr}{c':Nat}(I:U W w (aa b 2 [.int .i64 id]::L)) :
   Calls prog 212 #[.agg (cg x av c').toArray,pt b] w λe V=>e=.returned (.bool (decide ((x.id:Int)=id)))∧U W V (aa b 2 [.int .i64 id]::L):=by
 refine EN func212 ntmps212 rfl rfl λa E=>?_;refine BX 1 E I λb2 a w E I=>?_;refine RT 7 E I ?_;exact⟨rfl,I.sub⟩
theorem Ux {b:Nat}{id:Int}{av:Option Addr}{c':Nat}(I:U W w (aa b 2 [.int .i64 id]::Sl 238 5 av n c' (rows c9 xs)::L))(hb:n≤1048576) :
   Calls prog 211 #[.slice av n c',.func (.func 212) #[] #[pt b]] w λe V =>
    ∃ r:Int,e=.returned (.int .i64 r)∧((r = -1∧∀ y∈xs,(y.1.id:Int)≠id)∨∃ k y,r=(k:Nat)∧xs[k]?=some y∧(y.1.id:Int)=id)∧U W V (Sl 238 5 av n c' (rows c9 xs)::L):=by
 have b0:xs.length=n:=by
  have:=(I.tail.sl av).1;rw[iY sh]at this;omega
 refine EN func211 ntmps211 rfl rfl λa E=>?_;refine RN 7 E I λa E=>?_;refine aP (λμ a w=>∃ k:Nat,(μ=n-k∧k≤n∧∀ j y,j<k→xs[j]?=some y→(y.1.id:Int)≠id)∧Fr a 19 [(0,.slice av n c'),(1,.func (.func 212) #[] #[pt b]),(7,.int .i64 n),(8,.int .i64 k)]∧U W w (aa b 2 [.int .i64 id]::Sl 238 5 av n c' (rows c9 xs)::L)) (n) (⟨0,⟨by simp,by simp,by omega⟩,E.ab [0,1,7,8],I⟩) ?_;clear E I;rintro μ a w ⟨k,⟨rfl,hk,bX⟩,E,I⟩;refine IF 3 E I (λaj a E=>?_) λaj a E=>?_
 ·
  refine RN 5 E I λa E=>?_;obtain⟨b',dG,rfl,dk⟩:=I.tail.bW av (by omega);obtain⟨⟨y,IK,IL⟩,hy⟩:∃ y,xs[k]?=some y:=⟨_,aF (by omega)⟩;have fQ:=nW dk hy;refine RN 4 E I λa E=>?_;refine SS E (bR E underlying238 rfl Ty.t238 (fQ)) λa E=>?_;refine CL 0 E I (Uw (x:=y) (av:=IK) (c':=IL) I) λa w E I=>?_;refine IF 0 E I (λao a E=>?_) λao a E=>?_
  ·
   skip
   refine RT 3 E I ?_;exact⟨_,rfl,.inr ⟨k,(y,IK,IL),rfl,hy,ao⟩,I.tail⟩
  refine RN 2 E I λa E=>?_;refine⟨n-(k+1),by omega,k+1,⟨rfl,by omega,λj z hj hz=>?_⟩,E.ab [0,1,7,8],I⟩;by_cases pU:j=k
  ·subst pU;rw[hy]at hz;cases hz;exact ao
  ·exact bX j z (by omega) hz
 refine RT 2 E I ?_;refine⟨-1,rfl,.inl ⟨rfl,λz hz=>?_⟩,I.tail⟩;obtain⟨j,hj⟩:=jM.1 hz;have eH:=(a8.1 hj).1;exact bX j z (by omega) hj
theorem C6 {id:Int}(I:U W w (Tree tq sq T::L)) :
   Calls prog 183 #[pt tq,.int .i64 id] w λe V =>
    ∃ r:Int,e=.returned (.int .i64 r)∧((r = -1∧∀ y∈T.l,(y.id:Int)≠id)∨∃ k y,r=(k:Nat)∧T.l[k]?=some y∧(y.id:Int)=id)∧U W V (Tree tq sq T::L):=by
 refine EN func183 ntmps183 rfl rfl λa E=>?_;refine BX 1 E I λb3 a w E I=>?_;refine RN 5 E I λa E=>?_;replace E:=E.aK 6;refine RN 2 E I λa E=>?_;obtain⟨ad,c,xs,h1,hw,I⟩:=Tree.open (I.tree tq);have hT:=hw.most;refine aR 5 E I (Ux (xs:=xs) (b:=b3) (id:=id) (av:=ad) (c':=c) (n:=T.l.length) (L:=aa tq 236 [pt sq,.int .i64 T.most,.slice ad T.l.length c,.int .i64 T.last,.int .i64 T.epoch]::ah bY xs::L) I.sub (by omega)) λr a w E ⟨hr,I⟩=>?_;refine RT 1 E I ?_;refine⟨r,rfl,?_,Tree.same ad c xs I h1 hw⟩;rcases hr with ⟨h2,h3⟩ | ⟨k,y,h2,h3,h4⟩
 ·refine .inl ⟨h2,λy hy=>?_⟩;rw[← h1]at hy;obtain⟨z,hz,rfl⟩:=c0.1 hy;exact h3 z hz
 ·exact .inr ⟨k,y.1,h2,by rw[← h1,bn,h3];rfl,h4⟩
theorem U.IM (I:U W w (ah bY xs::L)){av:Option Addr}{c':Nat}(hx:xs[k]?=some (x,av,c')):∃ zs:List ed,zs.map (·.2.2)=x.ak∧x.ak.length≤c' ∧
   U W w (Sl 22 1 av x.ak.length c' (zs.map aL)::ah ba zs::ah bY (xs.eraseIdx k)::L):=by
 obtain⟨hi,he⟩:=a8.1 hx;have h:=I.fv hi;rw[he]at h;have h2:U W w (cd av x.ak.length c' x.ak::ah bY (xs.eraseIdx k)::L):=h;obtain⟨zs,h3,h4,h5⟩:=cd.open h2;exact⟨zs,h3,(cd.le h2).2,h5⟩
theorem U.IN {zs:List ed}{av:Option Addr}{c':Nat}(I:U W w L)[kk:fE L (Sl 22 1 av n c' (zs.map aL)::ah ba zs::ah bY (xs.eraseIdx k)::L') R](hx:xs[k]?=some (x,av,c'))(hz:zs.map (·.2.2)=x.ak)(hn:x.ak.length=n):U W w (ah bY xs::L'):=by
 subst hn;obtain⟨hi,he⟩:=a8.1 hx;have h1:=I.sub (M:=Sl 22 1 av x.ak.length c' (zs.map aL)::ah ba zs::ah bY (xs.eraseIdx k)::L');have h2:=cd.close (L':=ah bY (xs.eraseIdx k)::L') (p:=x.ak) (ad:=av) (n:=x.ak.length) (c:=c') (xs:=zs) h1 hz rfl;have h3:U W w (bY (x,av,c')::ah bY (xs.eraseIdx k)::L'):=h2;have h4:=U.kG hi h3;rw[← he,set_getElem_self]at h4;exact h4
theorem xm (I:U W w (Tree tq sq T::L))(hx:T.l[k]?=some x) :
   Calls prog 143 #[pt tq,.int .i64 x.id] w λe V=>∃ ad c,e=.returned (.tuple #[.agg (cg x ad c).toArray,.bool true])∧U W V (cd ad x.ak.length c x.ak::Tree tq sq T::L):=by
 refine EN func143 ntmps143 rfl rfl λa E=>?_;refine AL 1 E I λb4 a w E I=>?_;refine aR 4 E I (C6 (id:=(x.id:Int)) (I.tree tq)) λr a w E ⟨hr,I⟩=>?_;obtain⟨hw,fQ⟩:WT T∧r=(k:Nat):=by
  have hw:=Tree.wt I;refine⟨hw,?_⟩;rcases hr with ⟨_,h3⟩ | ⟨j,y,h2,h3,h4⟩
  ·exact absurd rfl (h3 x (bJ hx))
  ·have hp:=List.pairwise_iff_getElem.1 hw.ids;obtain⟨hj,rfl⟩:=a8.1 h3;obtain⟨hk,rfl⟩:=a8.1 hx;rcases Nat.lt_trichotomy j k with hl | hl | hl
   ·have:=hp j k (by simpa using hj) (by simpa using hk) hl;simp at this;omega
   ·rw[h2,hl]
   ·have:=hp k j (by simpa using hk) (by simpa using hj) hl;simp at this;omega
 subst fQ;have dO:=(a8.1 hx).1;have kh:=(hw.ok x (bJ hx)).1;clear hr;refine RN 5 E I λa E=>?_;rw[bq (by omega)]at E;refine RN 2 E I λa E=>?_;obtain⟨ad,c,xs,h1,hw,I⟩:=Tree.open (I.tree tq);obtain⟨eI,df,dY⟩:=C1 h1 hx;obtain⟨b',dG,rfl,dk⟩:=I.tail.bW ad (by omega);have fQ:=nW dk dY;refine RN 6 E I λa E=>?_;refine SS E (bR E underlying238 rfl Ty.t238 (fQ)) λa E=>?_;obtain⟨zs,cW,eQ,I⟩:=U.IM (I.pick (ah bY xs)) dY;refine a6 0 E I (IJ (x:=x) (av:=eI) (c':=df) I (λV h=>U.l6 h) cW kh) λad2 c2 a w E I=>?_;refine SA 0 E I λa w E I=>?_;refine RT 1 E I ?_;have h5:=U.IN (L':=cd ad2 x.ak.length c2 x.ak::aa tq 236 [pt sq,.int .i64 T.most,.slice (some ⟨b',dG,none⟩) T.l.length c,.int .i64 T.last,.int .i64 T.epoch]::Sl 238 5 (some ⟨b',dG,none⟩) T.l.length c (rows c9 xs)::L) I dY cW rfl;refine⟨ad2,c2,rfl,?_⟩;have h6:=Tree.same (tq:=tq) (sq:=sq) (T:=T) (L':=cd ad2 x.ak.length c2 x.ak::L) (some ⟨b',dG,none⟩) c xs h5 h1 hw;exact h6.perm (List.Perm.swap _ _ _)
theorem Uy {id:Int}(I:U W w (Tree tq sq T::L))(hn:∀ y∈T.l,(y.id:Int)≠id) :
   Calls prog 143 #[pt tq,.int .i64 id] w λe V=>e=.returned (.tuple #[.agg (cg ⟨0,0,[],0,0⟩ none 0).toArray,.bool false])∧U W V (Tree tq sq T::L):=by
 refine EN func143 ntmps143 rfl rfl λa E=>?_;refine AL 1 E I λb4 a w E I=>?_;refine aR 4 E I (C6 (id:=id) (I.tree tq)) λr a w E ⟨hr,I⟩=>?_;obtain rfl:r = -1:=by
  rcases hr with ⟨h,_⟩ | ⟨j,y,_,h3,h4⟩
  ·exact h
  ·exact absurd h4 (hn y (bJ h3))
 clear hr;refine RN 5 E I λa E=>?_;replace E:=E.dX 11;refine SA 3 E I λa w E I=>?_;refine RT 1 E I ?_;exact⟨rfl,I.sub⟩
theorem zA (I:U W w (Tree tq sq T::L)) :
   Calls prog 144 #[pt tq] w λe V=>e=.returned (.int .i64 T.epoch)∧U W V (Tree tq sq T::L):=by
 obtain⟨ad,c,xs,h1,hw,I⟩:=Tree.open I;refine EN func144 ntmps144 rfl rfl λa E=>?_;refine RN 6 E I λa E=>?_;replace E:=E.aK 4;refine RT 7 E I ?_;exact⟨rfl,Tree.same ad c xs I h1 hw⟩
def kN (ad:Option Addr)(n c:Nat)(l:List Br):SP:=λh=>∃ ys:List Bx,(ys.map (·.1)=l∧l.length=n)∧cn [Sl 238 5 ad n c (rows c9 ys),ah bY ys] h
theorem kN.open {l:List Br}(I:U W w (kN ad n c l::L)):∃ ys:List Bx,ys.map (·.1)=l∧l.length=n∧U W w (Sl 238 5 ad n c (rows c9 ys)::ah bY ys::L):=by
 obtain⟨xs,⟨h1,h2⟩,h3⟩:=I.jt (ι:=List Bx) (p:=λxs=>xs.map (·.1)=l∧l.length=n) (B:=λxs h=>cn [Sl 238 5 ad n c (rows c9 xs),ah bY xs] h) (λh ⟨xs,h1,h2⟩=>⟨xs,h1,h2⟩);exact⟨xs,h1,h2,h3.open λ_ h=>h⟩
theorem kN.close {l:List Br}(ys:List Bx)(I:U W w L)[k:fE L (Sl 238 5 ad n c (rows c9 ys)::ah bY ys::L') R](h1:ys.map (·.1)=l)(h2:l.length=n):U W w (kN ad n c l::L') :=
 U.shut (M:=[_,_]) (I.sub (M:=Sl 238 5 ad n c (rows c9 ys)::ah bY ys::L')) (λ_ x=>⟨ys,⟨h1,h2⟩,x⟩)
theorem kN.nil (I:U W w L):U W w (kN none 0 0 []::L):=by
 have h:U W w (Sl 238 5 none 0 0 (rows c9 [])::ah bY []::L):=(I.iM (f:=bY)).bO 238 5 none;exact kN.close [] h rfl rfl
theorem Uz (ys:List Bx)(y:Bx):rows c9 ys++[c9 y].flatten=rows c9 (ys++[y]):=by rw[ka];simp[rows]
theorem C7 (ys:List Bx)(x:Br)(ad:Option Addr)(c:Nat):rows c9 ys++[cg x ad c].flatten=rows c9 (ys++[(x,ad,c)]):=Uz ys (x,ad,c)
theorem zB (I:U W w (Tree tq sq T::L)) :
   Calls prog 88 #[pt tq] w λe V=>∃ ad c,e=.returned (.slice ad T.l.length c)∧U W V (kN ad T.l.length c T.l::Tree tq sq T::L):=by
 obtain⟨ad,c,xs,h1,hw,I⟩:=Tree.open I;have b0:xs.length=T.l.length:=by rw[← h1,bg]
 have hT:=hw.most;refine EN func88 ntmps88 rfl rfl λa E=>?_;refine RN 6 E I λa E=>?_;replace E:=E.aK 7;refine RN 5 E I λa E=>?_;replace I:=kN.nil I;refine RN 6 E I λa E=>?_;refine aP (λμ a w=>∃ (k:Nat) (fo:Option Addr) (c7:Nat),(μ=T.l.length-k∧k≤T.l.length)∧Fr a 24 [(3,.slice fo k c7),(11,.slice ad T.l.length c),(12,.int .i64 T.l.length),(13,.int .i64 k)]∧U W w (kN fo k c7 (T.l.take k)::aa tq 236 [pt sq,.int .i64 T.most,.slice ad T.l.length c,.int .i64 T.last,.int .i64 T.epoch]::Sl 238 5 ad T.l.length c (rows c9 xs)::ah bY xs::L)) (T.l.length) (⟨0,none,0,⟨by simp,by simp⟩,E.ab [3,11,12,13],I⟩) ?_;clear E I;rintro μ a w ⟨k,fo,c7,⟨rfl,hk⟩,E,I⟩;refine IF 3 E I (λao a E=>?_) λao a E=>?_
 ·
  refine RN 2 E I λa E=>?_;obtain⟨b',dG,rfl,dk⟩:=I.bW ad (by omega);obtain⟨⟨x,eI,df⟩,dY⟩:∃ y,xs[k]?=some y:=⟨_,aF (by omega)⟩;have fQ:=nW dk dY;have jd:T.l[k]?=some x:=by rw[← h1,bn,dY];rfl
  have kh:=(hw.ok x (bJ jd)).1;refine RN 1 E I λa E=>?_;refine SS E (bR E underlying238 rfl Ty.t238 (fQ)) λa E=>?_;refine AL 0 E I λb5 a w E I=>?_;refine SA 0 E I λa w E I=>?_;refine RN 2 E I λa E=>?_;obtain⟨zs,cW,eQ,I⟩:=U.IM (I.pick (ah bY xs)) dY;refine a6 0 E I (IJ (x:=x) (av:=eI) (c':=df) I (λV h=>U.l6 h) cW kh) λad2 c2 a w E I=>?_;refine RN 0 E I λa E=>?_;refine cp E rfl I underlying168 Ty.t238 rfl rfl rfl rfl (by decide) (by decide) λIP a w E I ho=>?_;clear ho;obtain⟨ys,hU,kg,I⟩:=kN.open (I.pick (kN fo k c7 (T.l.take k)));refine RN 0 E I λa E=>?_;refine cQ E rfl I underlying168 Ty.t238 rfl rfl I.ai rfl (by simp[Value.oneCell',cg]) (by decide) (by decide) (by omega) λqN qO a w E I=>?_;have h8:=U.jG (f:=bY) (l:=ys) (x:=(x,ad2,c2)) (I.sub (M:=cd ad2 x.ak.length c2 x.ak::ah bY ys::Sl 238 5 qN (k+1) qO (rows c9 ys++[cg x ad2 c2].flatten)::Sl 22 1 eI x.ak.length df (zs.map aL)::ah ba zs::ah bY (xs.eraseIdx k)::aa tq 236 [pt sq,.int .i64 T.most,.slice (some ⟨b',dG,none⟩) T.l.length c,.int .i64 T.last,.int .i64 T.epoch]::Sl 238 5 (some ⟨b',dG,none⟩) T.l.length c (rows c9 xs)::L));rw[C7]at h8;have h9:=kN.close (l:=T.l.take (k+1)) (n:=k+1) (ad:=qN) (c:=qO) (L':=Sl 22 1 eI x.ak.length df (zs.map aL)::ah ba zs::ah bY (xs.eraseIdx k)::aa tq 236 [pt sq,.int .i64 T.most,.slice (some ⟨b',dG,none⟩) T.l.length c,.int .i64 T.last,.int .i64 T.epoch]::Sl 238 5 (some ⟨b',dG,none⟩) T.l.length c (rows c9 xs)::L) (ys++[(x,ad2,c2)]) h8 (by
   have dO:k<T.l.length:=by omega
   rw[cX,hU,iZ dO];rw[aF dO]at jd;cases jd;rfl) (by rw[ez];omega)
  have fF:=U.IN (L':=kN qN (k+1) qO (T.l.take (k+1))::aa tq 236 [pt sq,.int .i64 T.most,.slice (some ⟨b',dG,none⟩) T.l.length c,.int .i64 T.last,.int .i64 T.epoch]::Sl 238 5 (some ⟨b',dG,none⟩) T.l.length c (rows c9 xs)::L) h9 dY cW rfl;replace I:=fF;clear h8 h9 fF;refine RN 3 E I λa E=>?_;exact⟨T.l.length-(k+1),by omega,k+1,_,_,⟨rfl,by omega⟩,E.ab [3,11,12,13],I.sub⟩
 refine RT 3 E I ?_;obtain rfl:k=T.l.length:=by omega
 rw[take_length]at I;refine⟨_,_,rfl,?_⟩;have h6:=Tree.same (tq:=tq) (sq:=sq) (T:=T) (L':=kN fo T.l.length c7 T.l::L) ad c xs I h1 hw;exact h6.perm (List.Perm.swap _ _ _)
def Tr.add (T:Tr)(frm:Int)(p:List (List UInt8))(snap:Nat):Tr:={ T with l:=T.l++[⟨T.last+1,frm,p,0,snap⟩],last:=T.last+1 }
def Br.is (y:Br)(frm:Int)(p:List (List UInt8)):Prop:=y.frm=frm∧y.ak=p
theorem IQ {u v:List (List UInt8)}(h:u.length=v.length):(oY u v=true)↔u=v:=by
 rw[oY,← h,Nat.min_self,take_length,h,take_length];simp
theorem IS {frm sn:Int}{ad2:Option Addr}{m c2:Nat}(I:U W w (Tree tq sq T::L))(h:T.most≤T.l.length∨m=0) :
   Calls prog 306 #[pt tq,.int .i64 frm,.int .i64 sn,.slice ad2 m c2] w λe V=>e=.returned (.tuple #[.int .i64 0,.bool false])∧U W V (Tree tq sq T::L):=by
 obtain⟨ad,c,xs,h1,hw,I⟩:=Tree.open I;refine EN func306 ntmps306 rfl rfl λa E=>?_;refine bS 5 [11] [0,1,2,3,4,5,8,9,10,3006,7,1011,12,13,14,15,16,17,18] E I λa w E I hH hC=>?_;refine RH 3 E I hH hC λa E=>?_;replace E:=E.aK 16;refine RH 12 E I hH hC λa E=>?_;refine E.by (s:=28) (λkO E=>?_) (λkO E=>?_)
 ·
  refine RH 4 E I hH hC λa E=>?_;refine RT 4 E I ?_;exact⟨rfl,Tree.same ad c xs I h1 hw⟩
 refine RH 4 E I hH hC λa E=>?_;rw[dq (by omega)]at E;refine RT 4 E I ?_;exact⟨rfl,Tree.same ad c xs I h1 hw⟩
theorem UA {frm sn:Int}{ad2:Option Addr}{c2 j:Nat}{y:Br}(I:U W w (Tree tq sq T::L))(hp:∀ V,U W V L→kK V ad2 p.length p)(hc:p.length≤c2)(dt:nx p)(hy:T.l[j]?=some y)(vr:y.is frm p) :
   Calls prog 306 #[pt tq,.int .i64 frm,.int .i64 sn,.slice ad2 p.length c2] w λe V=>e=.returned (.tuple #[.int .i64 0,.bool false])∧U W V (Tree tq sq T::L):=by
 obtain⟨ad,c,xs,h1,hw,I⟩:=Tree.open I;have b0:xs.length=T.l.length:=by rw[← h1,bg]
 have hT:=hw.most;have eH:=(a8.1 hy).1;refine EN func306 ntmps306 rfl rfl λa E=>?_;refine bS 5 [11] [0,1,2,3,4,5,8,9,10,3006,7,1011,12,13,14,15,16,17,18] E I λa w E I hH hC=>?_;refine RH 3 E I hH hC λa E=>?_;replace E:=E.aK 16;refine RH 12 E I hH hC λa E=>?_;refine E.by (s:=28) (λkO E=>?_) (λkO E=>?_)
 ·
  refine RH 4 E I hH hC λa E=>?_;refine RT 4 E I ?_;exact⟨rfl,Tree.same ad c xs I h1 hw⟩
 refine RH 4 E I hH hC λa E=>?_;refine IF 0 E I (λaj a E=>?_) λaj a E=>?_
 ·
  refine RT 3 E I ?_;exact⟨rfl,Tree.same ad c xs I h1 hw⟩
 refine RN 8 E I λa E=>?_;refine aP (λμ a w=>∃ k:Nat,(μ=j-k∧k≤j)∧Fr a 101 [(1,.int .i64 frm),(3,.slice ad2 p.length c2),(36,.slice ad T.l.length c),(37,.int .i64 T.l.length),(38,.int .i64 k)]∧U W w (aa tq 236 [pt sq,.int .i64 T.most,.slice ad T.l.length c,.int .i64 T.last,.int .i64 T.epoch]::Sl 238 5 ad T.l.length c (rows c9 xs)::ah bY xs::L)) (j) (⟨0,⟨by simp,by simp⟩,E.ab [1,3,36,37,38],I.sub⟩) ?_;clear E I;rintro μ a w ⟨k,⟨rfl,hk⟩,E,I⟩;refine RN 3 E I λa E=>?_;rw[dq (by omega)]at E;refine RN 3 E I λa E=>?_;obtain⟨b',dG,rfl,dk⟩:=I.bW ad (by omega);obtain⟨⟨x,eI,df⟩,dY⟩:∃ y,xs[k]?=some y:=⟨_,aF (by omega)⟩;have fQ:=nW dk dY;have jd:T.l[k]?=some x:=by rw[← h1,bn,dY];rfl
 have kh:=(hw.ok x (bJ jd)).1;have xn:k=j→x=y:=λe=>by rw[e,hy]at jd;cases jd;rfl
 refine RN 1 E I λa E=>?_;refine SS E (bR E underlying238 rfl Ty.t238 (fQ)) λa E=>?_;refine AL 0 E I λiy a w E I=>?_;refine SA 0 E I λa w E I=>?_;refine BY 6 E I (λda a E=>?_) λda a E=>?_
 ·
  refine BY 8 E I (λhV a E=>?_) λhV a E=>?_
  ·
   refine RN 3 E I λa E=>?_;have fG:=ah.oX (I.pick (ah bY xs)) dY;refine CL 0 E I (C3 (u:=x.ak) (v:=p) I fG.1 (hp _ I.sub) fG.2 hc (by have:=kh.1;omega)) λa w E I=>?_;refine IF 1 E I (λaz a E=>?_) λaz a E=>?_
   ·
    refine RT 3 E I ?_;exact⟨rfl,Tree.same (some ⟨b',dG,none⟩) c xs I h1 hw⟩
   have bP : k ≠ j := fun e => by
       have zC:x.ak=p:=by rw[xn e];exact vr.2
       rw[(IQ (by rw[zC])).2 zC]at az;cases az
   refine RN 2 E I λa E=>?_;exact⟨j-(k+1),by omega,k+1,⟨rfl,by omega⟩,E.ab [1,3,36,37,38],I.sub⟩
  have bP:k≠j:=λe=>hV (by rw[xn e,vr.2]);refine RN 3 E I λa E=>?_;have fG:=ah.oX (I.pick (ah bY xs)) dY;refine RN 5 E I λa E=>?_;exact⟨j-(k+1),by omega,k+1,⟨rfl,by omega⟩,E.ab [1,3,36,37,38],I.sub⟩
 have bP:k≠j:=λe=>da (by rw[xn e];exact vr.1);refine RN 11 E I λa E=>?_;have fG:=ah.oX (I.pick (ah bY xs)) dY;refine RN 5 E I λa E=>?_;exact⟨j-(k+1),by omega,k+1,⟨rfl,by omega⟩,E.ab [1,3,36,37,38],I.sub⟩
theorem WT.add {frm:Int}{sn:Nat}(h:WT T)(h1:T.l.length<T.most)(h2:T.last+1<1099511627776)(dt:nx p):WT (T.add frm p sn):=by
 obtain⟨dj,dW,a3,a4,a5⟩:=h;refine⟨⟨dj.1,by simp[Tr.add];omega⟩,h2,a3,?_,λx hx=>?_⟩
 ·simp only[Tr.add,cX,map_cons,map_nil];refine List.pairwise_append.2 ⟨a4,by simp,λu hu v hv=>?_⟩;obtain⟨x,hx,rfl⟩:=c0.1 hu;have:=(a5 x hx).2.2.2;simp at hv;omega
 ·simp only[Tr.add]at hx ⊢;rcases eR.1 hx with hx | hx
  ·obtain⟨b1,b2,b3,b4⟩:=a5 x hx;exact⟨b1,b2,b3,by omega⟩
  ·simp at hx;subst hx;exact⟨dt,Nat.zero_le _,by simp,bk _⟩
theorem UB {frm:Int}{ad2:Option Addr}{c2 i:Nat}{zs:List ed}{px:aD}(I:U W w (Tree tq sq T::ax sq r A::L))(hr:∀ V,U W V L→ix V ad2 zs)(hz:zs.map (·.2.2)=p)(hc:p.length≤c2)(dt:nx p)
   (hx:A.au[i]?=some px) (hb:A.n+1<1099511627776) (hl:T.last+1<1099511627776) (bX:∀ y∈T.l,¬ y.is frm p) (hm:T.l.length<T.most) (h0:0<p.length) :
   Calls prog 306 #[pt tq,.int .i64 frm,.int .i64 px.id,.slice ad2 p.length c2] w λe V=>e=.returned (.tuple #[.int .i64 ((T.last+1:Nat):Int),.bool true])∧U W V (Tree tq sq (T.add frm p (A.last+1))::ax sq r (A.add px.g px.p)::L):=by
 obtain⟨ad,c,xs,h1,hw,I⟩:=Tree.open I;have b0:xs.length=T.l.length:=by rw[← h1,bg]
 have hT:=hw.most;have hp:∀ V,U W V L→kK V ad2 p.length p:=λV h=>by
  have:=(hr V h).bb;rw[hz]at this
  rwa [show zs.length=p.length from by rw[← hz,bg]]at this
 refine EN func306 ntmps306 rfl rfl λa E=>?_;refine bS 5 [11] [0,1,2,3,4,5,8,9,10,3006,7,1011,12,13,14,15,16,17,18] E I λa w E I hH hC=>?_;refine RH 3 E I hH hC λa E=>?_;replace E:=E.aK 16;refine RH 12 E I hH hC λa E=>?_;rw[bq (by omega)]at E;refine RH 4 E I hH hC λa E=>?_;rw[bq (by omega)]at E;refine RN 9 E I λa E=>?_;refine aP (λμ a w=>∃ k:Nat,(μ=T.l.length-k∧k≤T.l.length)∧Fr a 101 [(0,pt tq),(1,.int .i64 frm),(2,.int .i64 px.id),(3,.slice ad2 p.length c2),(36,.slice ad T.l.length c),(37,.int .i64 T.l.length),(38,.int .i64 k)]∧U W w (aa tq 236 [pt sq,.int .i64 T.most,.slice ad T.l.length c,.int .i64 T.last,.int .i64 T.epoch]::Sl 238 5 ad T.l.length c (rows c9 xs)::ah bY xs::ax sq r A::L)) (T.l.length) (⟨0,⟨by simp,by simp⟩,E.ab [0,1,2,3,36,37,38],I.sub⟩) ?_;clear E I;rintro μ a w ⟨k,⟨rfl,hk⟩,E,I⟩;refine IF 3 E I (λao a E=>?_) λao a E=>?_
 ·
  refine RN 2 E I λa E=>?_;obtain⟨b',dG,rfl,dk⟩:=I.bW ad (by omega);obtain⟨⟨x,eI,df⟩,dY⟩:∃ y,xs[k]?=some y:=⟨_,aF (by omega)⟩;have fQ:=nW dk dY;have jd:T.l[k]?=some x:=by rw[← h1,bn,dY];rfl
  have eG:=bJ jd;have kh:=(hw.ok x eG).1;have UC:=bX x eG;refine RN 1 E I λa E=>?_;refine SS E (bR E underlying238 rfl Ty.t238 (fQ)) λa E=>?_;refine AL 0 E I λiy a w E I=>?_;refine SA 0 E I λa w E I=>?_;refine BY 6 E I (λda a E=>?_) λda a E=>?_
  ·
   refine BY 8 E I (λhV a E=>?_) λhV a E=>?_
   ·
    refine RN 3 E I λa E=>?_;have fG:=ah.oX (I.pick (ah bY xs)) dY;refine CL 0 E I (C3 (u:=x.ak) (v:=p) I fG.1 (hp _ I.sub) fG.2 hc (by have:=kh.1;omega)) λa w E I=>?_;refine IF 1 E I (λaz a E=>?_) λaz a E=>?_
    ·
     (try simp only at hV);exact absurd ⟨by omega,(IQ (by omega)).1 az⟩ UC
    refine RN 2 E I λa E=>?_;exact⟨T.l.length-(k+1),by omega,k+1,⟨rfl,by omega⟩,E.ab [0,1,2,3,36,37,38],I.sub⟩
   refine RN 3 E I λa E=>?_;have fG:=ah.oX (I.pick (ah bY xs)) dY;refine RN 5 E I λa E=>?_;exact⟨T.l.length-(k+1),by omega,k+1,⟨rfl,by omega⟩,E.ab [0,1,2,3,36,37,38],I.sub⟩
  refine RN 11 E I λa E=>?_;have fG:=ah.oX (I.pick (ah bY xs)) dY;refine RN 5 E I λa E=>?_;exact⟨T.l.length-(k+1),by omega,k+1,⟨rfl,by omega⟩,E.ab [0,1,2,3,36,37,38],I.sub⟩
 refine CL 6 E I (Iz (I.pick (ax sq r A)) hx hb) λa w E I=>?_;refine RN 9 E I λa E=>?_;replace E:=E.aK 71;refine ST 9 E I (λa w E I=>?_);rw[show ((T.last:Int)+1)=((T.last+1:Nat):Int) from rfl]at I;refine aY 1 (λw0 V=>V.cell? ⟨tq,2,none⟩=some (.slice ad T.l.length c)∧V.cell? ⟨tq,3,none⟩=some (.int .i64 ((T.last+1:Nat):Int))) [8,11,13,14] [0,1,2,3,5,6,7,9,10,12,3004,3008,1011,1013,1014,1015,16,17,1018] E I λa w E I hH=>?_;have hC:=hH.at w ⟨I.bz rfl,I.bz rfl⟩;refine RH 10 E I hH hC λa E=>?_;refine QH E (λw hc=>ae E (hc.1)) hC λa E=>?_;refine QH E (λw hc=>ae E (hc.2)) hC λa E=>?_;refine RH 0 E I hH hC λa E=>?_;refine a6 0 E I (IH I (λV h=>hr V h.sub) (by rw[← hz,bg]) (by rw[hz];exact dt)) λmc fP a w E I=>?_;replace hC:=hH.at w ⟨I.bz rfl,I.bz rfl⟩;refine RH 1 E I hH hC λa E=>?_;refine cp E rfl I underlying168 Ty.t238 rfl rfl rfl rfl (by decide) (by decide) λb93 a w E I ho=>?_;clear ho;replace hC:=hH.at w ⟨I.bz rfl,I.bz rfl⟩;refine RH 0 E I hH hC λa E=>?_;refine cQ E rfl I underlying168 Ty.t238 rfl rfl I.ai rfl (by simp[Value.oneCell']) (by decide) (by decide) (by omega) λxp xq a w E I=>?_;refine ST 2 E I (λa w E I=>?_);refine RT 7 E I ?_;refine⟨rfl,?_⟩;rw[hz]at I;have h8:=U.jG (f:=bY) (l:=xs) (x:=(⟨T.last+1,frm,p,0,A.last+1⟩,mc,fP)) (I.sub (M:=cd mc p.length fP p::ah bY xs::aa tq 236 [pt sq,.int .i64 T.most,.slice xp (T.l.length+1) xq,.int .i64 ((T.last+1:Nat):Int),.int .i64 T.epoch]::Sl 238 5 xp (T.l.length+1) xq (rows c9 xs++[[.int .i64 ((T.last+1:Nat):Int),.int .i64 frm,.slice mc p.length fP,.int .i64 0,.int .i64 ((A.last+1:Nat):Int)]].flatten)::ax sq r (A.add px.g px.p)::L));have h9:U W w (ah bY (xs++[(⟨T.last+1,frm,p,0,A.last+1⟩,mc,fP)])::aa tq 236 [pt sq,.int .i64 T.most,.slice xp (T.l.length+1) xq,.int .i64 ((T.last+1:Nat):Int),.int .i64 T.epoch]::Sl 238 5 xp (T.l.length+1) xq (rows c9 (xs++[(⟨T.last+1,frm,p,0,A.last+1⟩,mc,fP)]))::ax sq r (A.add px.g px.p)::L):=by
  rw[← C7];exact h8
 exact Tree.close (T:=T.add frm p (A.last+1)) (ad:=xp) (c:=xq) (xs:=xs++[(⟨T.last+1,frm,p,0,A.last+1⟩,mc,fP)]) (n:=T.l.length+1) (most:=T.most) (last:=T.last+1) (epoch:=T.epoch) h9 (by simp[Tr.add,h1]) (hw.add hm hl dt) rfl (by simp[Tr.add]) rfl rfl
def Tr.iz (T:Tr)(k:Nat)(x:Br)(done snap:Nat):Tr:={ T with l:=T.l.set k { x with done:=done,snap:=snap } }
theorem WT.iz {d sn:Nat}(h:WT T)(hx:T.l[k]?=some x)(hd:d≤x.ak.length):WT (T.iz k x d sn):=by
 obtain⟨dj,dW,a3,a4,a5⟩:=h;obtain⟨hi,rfl⟩:=a8.1 hx;refine⟨⟨dj.1,by simp[Tr.iz];exact dj.2⟩,dW,a3,?_,λy hy=>?_⟩
 ·have : (T.l.set k { T.l[k] with done := d, snap := sn }).map (·.id) = T.l.map (·.id) := by
   apply ext_getElem?;intro j;simp only[bn,jF];by_cases hj:k=j
   ·subst hj;simp[hi]
   ·rw[ag hj]
  simp only[Tr.iz];rw[this];exact a4
 ·simp only[Tr.iz]at hy ⊢;rcases mem_or_eq_of_mem_set hy with hy | rfl
  ·exact a5 y hy
  ·obtain⟨b1,b2,b3,b4⟩:=a5 _ (getElem_mem hi);exact⟨b1,hd,b3,b4⟩
theorem WT.unique (hw:WT T){j:Nat}{y:Br}(hx:T.l[k]?=some x)(hy:T.l[j]?=some y)(he:y.id=x.id):j=k:=by
 have hp:=List.pairwise_iff_getElem.1 hw.ids;obtain⟨hj,rfl⟩:=a8.1 hy;obtain⟨hk,rfl⟩:=a8.1 hx;rcases Nat.lt_trichotomy j k with hl | hl | hl
 ·have:=hp j k (by simpa using hj) (by simpa using hk) hl;simp at this;omega
 ·exact hl
 ·have:=hp k j (by simpa using hk) (by simpa using hj) hl;simp at this;omega
theorem IT (I:U W w (Tree tq sq T::L))(hx:T.l[k]?=some x) :
   Calls prog 183 #[pt tq,.int .i64 x.id] w λe V=>e=.returned (.int .i64 k)∧U W V (Tree tq sq T::L):=by
 refine (C6 (id:=(x.id:Int)) I).mono λe V ⟨r,h1,h2,h3⟩=>⟨?_,h3⟩;rcases h2 with ⟨_,h4⟩ | ⟨j,y,h4,h5,h6⟩
 ·exact absurd rfl (h4 x (bJ hx))
 ·rw[h1,h4,(Tree.wt h3).unique hx h5 (by omega)]
theorem UD {i:Nat}{px:aD}{d sn:Int}(I:U W w (Tree tq sq T::ax sq r A::L))(hx:T.l[k]?=some x)(bX:d≤x.done∨(x.ak.length:Int)<d∨∀ y∈A.au,(y.id:Int)≠sn) :
   Calls prog 186 #[pt tq,.int .i64 x.id,.int .i64 d,.int .i64 sn] w λe V=>e=.returned (.bool false)∧U W V (Tree tq sq T::ax sq r A::L):=by
 have dO:=(a8.1 hx).1;refine EN func186 ntmps186 rfl rfl λa E=>?_;refine CL 5 E I (IT I hx) λa w E I=>?_;refine RN 3 E I λa E=>?_;obtain⟨ad,c,xs,h1,hw,I⟩:=Tree.open (I.tree tq);obtain⟨eI,df,dY⟩:=C1 h1 hx;obtain⟨b',dG,rfl,dk⟩:=I.tail.bW ad (by omega);have fQ:=nW dk dY;have u5:=fQ 3 _ rfl;have jN:=fQ 2 _ rfl;refine RN 3 E I λa E=>?_;rw[bq (by omega)]at E;refine RN 8 E I λa E=>?_;refine bC E (cI E rfl (s:=15)) (ae E (u5)) rfl λa E=>?_;refine BY 3 E I (λkO a E=>?_) λkO a E=>?_
 ·
  skip
  refine RT 24 E I ?_;exact⟨rfl,Tree.same (L':=ax sq r A::L) (some ⟨b',dG,none⟩) c xs I h1 hw⟩
 refine RN 8 E I λa E=>?_;refine bC E (cI E rfl (s:=27)) (ae E (jN)) rfl λa E=>?_;refine BY 4 E I (λUE a E=>?_) λUE a E=>?_
 ·
  refine RT 11 E I ?_;exact⟨rfl,Tree.same (L':=ax sq r A::L) (some ⟨b',dG,none⟩) c xs I h1 hw⟩
 refine CL 5 E I (TY (I.pick (ax sq r A)) (by rcases bX with h | h | h;omega;omega;exact h)) λa w E I=>?_;refine RN 2 E I λa E=>?_;replace E:=E.dX 48;refine RT 3 E I ?_;exact⟨rfl,Tree.same (L':=ax sq r A::L) (some ⟨b',dG,none⟩) c xs I h1 hw⟩
end
end
section
def Sn.eA (A:Sn)(id:Nat):Sn:=match A.au.findIdx? (λx=>x.id==id) with
 | some i=>match A.au[i]? with
  | some x=>A.drop i x
  | none=>A
 | none=>A
section
variable {W w:World}{L R:List SP}{tq sq q r n c k:Nat}{ad:Option Addr}{A:Sn}{T:Tr}{x y:Br}{xs:List Bx}{p:List (List UInt8)}
theorem C8 {id:Nat}(h:∀ y∈A.au,y.id≠id):A.eA id=A:=by
 have:A.au.findIdx? (λx=>x.id==id)=none:=by rw[List.findIdx?_eq_none_iff];intro y hy;simpa using h y hy
 rw[Sn.eA,this]
theorem xr {i:Nat}{px:aD}(hw:WF A)(hx:A.au[i]?=some px):A.eA px.id=A.drop i px:=by
 obtain⟨hi,he⟩:=a8.1 hx;have:A.au.findIdx? (λx=>x.id==px.id)=some i:=by
  rw[List.findIdx?_eq_some_iff_getElem];refine⟨hi,by simp[he],λj hj=>?_⟩;have eH:j<A.au.length:=by omega
  simp only[Bool.not_eq_true,lD,ne_eq];intro e;have:=hw.ids (aF eH) hx e;omega
 rw[Sn.eA,this];simp only[hx]
theorem zD {id:Nat}(I:U W w (ax q r A::L)) :
   Calls prog 185 #[pt q,.int .i64 id] w λe V=>∃ v,e=.returned (.bool v)∧U W V (ax q r (A.eA id)::L):=by
 by_cases h:∃ px∈A.au,px.id=id
 ·obtain⟨px,h1,rfl⟩:=h;obtain⟨i,hi⟩:=jM.1 h1;have hw:=(ax.open I);obtain⟨_,_,_,_,_,hw,_,_⟩:=hw;refine (T8 I hi).mono λe V ⟨h2,h3⟩=>⟨_,h2,?_⟩;rw[xr hw hi];exact h3
 ·have hn:∀ y∈A.au,y.id≠id:=λy hy e=>h ⟨y,hy,e⟩;refine (T9 (X:=(id:Int)) I (λy hy e=>hn y hy (by omega))).mono λe V ⟨h2,h3⟩=>⟨_,h2,?_⟩;rw[C8 hn];exact h3
theorem IU {p q r:List Value}{i:Nat}{v:Value}(h:i<q.length):(p++q++r).set (p.length+i) v=p++q.set i v++r:=by
 rw[dA,set_append_right _ _ (by omega),show p.length+i-p.length=i from by omega,set_append_left _ _ h,dA]
theorem UF {i d:Nat}{px:aD}(I:U W w (Tree tq sq T::ax sq r A::L))(hx:T.l[k]?=some x)(hd:x.done<d)(ki:d≤x.ak.length)(hp:A.au[i]?=some px) :
   Calls prog 186 #[pt tq,.int .i64 x.id,.int .i64 d,.int .i64 px.id] w λe V=>e=.returned (.bool true)∧U W V (Tree tq sq (T.iz k x d px.id)::ax sq r (A.eA x.snap)::L):=by
 have dO:=(a8.1 hx).1;have a7:1≤px.refs:=by
  obtain⟨_,_,_,_,_,hw,_,_⟩:=ax.open (I.pick (ax sq r A));exact (hw.l9 px (bJ hp)).2.2.1
 refine EN func186 ntmps186 rfl rfl λa E=>?_;refine CL 5 E I (IT I hx) λa w E I=>?_;refine RN 3 E I λa E=>?_;obtain⟨ad,c,xs,h1,hw,I⟩:=Tree.open (I.tree tq);obtain⟨eI,df,dY⟩:=C1 h1 hx;obtain⟨b',dG,rfl,dk⟩:=I.tail.bW ad (by omega);have fQ:=nW dk dY;have u5:=fQ 3 _ rfl;have jN:=fQ 2 _ rfl;refine RN 3 E I λa E=>?_;rw[bq (by omega)]at E;refine RN 8 E I λa E=>?_;refine bC E (cI E rfl (s:=15)) (ae E (u5)) rfl λa E=>?_;refine RN 3 E I λa E=>?_;rw[bq (by omega)]at E;refine RN 8 E I λa E=>?_;refine bC E (cI E rfl (s:=27)) (ae E (jN)) rfl λa E=>?_;refine RN 4 E I λa E=>?_;rw[bq (by omega)]at E;refine CL 5 E I (TX (I.pick (ax sq r A)) hp) λa w E I=>?_;refine RN 2 E I λa E=>?_;rw[bq (by omega)]at E;refine RN 2 E I λa E=>?_;have UG:=I.cK (n:=T.l.length) b' dG (by omega);have IV:w.drew.cell? ⟨b',dG+k*5+4,none⟩=some (.int .i64 x.snap):=nW UG dY 4 _ rfl;refine qJ 0 (Old w.drew) [7,9,10,11] [0,1,2,4,5,6,8,3003,1007,1009,1010,1011,1012] E I λa E=>?_;replace I:=I.drew;have hH:=Hd.gv I;have hC:=Old.refl w.drew;generalize w.drew=w at I hH hC IV ⊢;refine RH 11 E I hH hC λa E=>?_;refine SS E (ae E (IV)) λa E=>?_;refine RH 0 E I hH hC λa E=>?_;refine aR 0 E I (zD (id:=x.snap) (I.pick (ax sq r A))) λ_ a w E I=>?_;refine RN 1 E I λa E=>?_;obtain⟨bb,pre,post,⟨h3,h4,h5,h6⟩,gx⟩:=(I.pick (Sl 238 5 (some ⟨b',dG,none⟩) T.l.length c (rows c9 xs))).lC (by have:=(I.sl (some ⟨b',dG,none⟩)).2;omega);cases h5;replace I:=gx;clear gx;have b0:xs.length=T.l.length:=by rw[← h1,bg]
 have tI:k<xs.length:=by omega
 have gQ:xs[k]=(x,eI,df):=(a8.1 dY).2;have hS:(rows c9 xs).length=xs.length*5:=iY sh xs;refine bS 0 [8] [0,1,2,4,5,6,7,9,10,11,3003,1008,12,13,1014,15,16,1017] E I λa w E I hH hC=>?_;refine RH 14 E I hH hC λa E=>?_;refine ST 0 E I (λa w E I=>?_) (hlt:=(by simp only[aM];omega));rw[show pre.length+k*5+3=pre.length+(k*5+3) from by omega,IU (by omega),pX sh xs ({ x with done:=d },eI,df) tI (by decide) (by rw[gQ];rfl)]at I;refine ST 2 E I (λa w E I=>?_) (hlt:=(by simp only[aM,iY sh,bu];omega));rw[show pre.length+k*5+4=pre.length+(k*5+4) from by omega,IU (by simp only[iY sh,bu];omega),pX sh _ ({ x with done:=d,snap:=px.id },eI,df) (by rw[bu];exact tI) (by decide) (by rw[getElem_set_self];rfl),set_set]at I;refine RT 2 E I ?_;refine⟨rfl,?_⟩;have h7:=U.iL (n:=T.l.length) (c:=c) (sz:=5) (cs:=rows c9 (xs.set k ({ x with done:=d,snap:=px.id },eI,df))) (I.jD b') (by rw[iY sh,bu,b0]) h4 h6;have h8:=(h7.pick (ah bY xs)).fv tI;rw[gQ]at h8;have h9:U W w (bY ({ x with done:=d,snap:=px.id },eI,df)::ah bY (xs.eraseIdx k)::_):=h8;have fF:=U.kG tI h9;exact Tree.close (T:=T.iz k x d px.id) (ad:=some ⟨b',pre.length,none⟩) (c:=c) (xs:=xs.set k ({ x with done:=d,snap:=px.id },eI,df)) (n:=T.l.length) (most:=T.most) (last:=T.last) (epoch:=T.epoch) fF (by rw[List.map_set,h1];rfl) (hw.iz hx ki) rfl (by simp[Tr.iz]) rfl rfl
def hW (frm:Int)(p:List (List UInt8))(b:Br)(x:Br):Br:=if x.frm=frm∧b.done<x.done∧x.done≤p.length∧oY (x.ak.take x.done) p=true then x else b
def mf:Br:=⟨0,0,[],0,0⟩
def Tr.fH (T:Tr)(frm:Int)(p:List (List UInt8)):Br:=T.l.foldl (hW frm p) mf
theorem UH {l:List Br}{frm:Int}(h:l[k]?=some x):(l.take (k+1)).foldl (hW frm p) mf=hW frm p ((l.take k).foldl (hW frm p) mf) x:=by
 obtain⟨hk,rfl⟩:=a8.1 h;rw[iZ hk,foldl_append];rfl
theorem IW {frm:Int}{ad2:Option Addr}{c2:Nat}(I:U W w (Tree tq sq T::L))(hp:∀ V,U W V L→kK V ad2 p.length p)(hc:p.length≤c2)(dt:nx p) :
   Calls prog 279 #[pt tq,.int .i64 frm,.slice ad2 p.length c2] w λe V=>∃ ad c,e=.returned (.tuple #[.agg (cg (T.fH frm p) ad c).toArray,.bool (decide (0<(T.fH frm p).done))])∧U W V (Tree tq sq T::L):=by
 have hw:=Tree.wt I;have hT:=hw.most;refine EN func279 ntmps279 rfl rfl λa E=>?_;refine AL 1 E I λcG a w E I=>?_;change U W w (aa cG 238 (cg mf none 0)::_) at I;refine AL 3 E I λb8 a w E I=>?_;refine SA 0 E I λa w E I=>?_;change U W w (aa b8 238 (cg ((T.l.take 0).foldl (hW frm p) mf) none 0)::_) at I;refine a6 3 E I (zB (I.tree tq)) λad c a w E I=>?_;obtain⟨xs,h1,h2,I⟩:=kN.open I;have b0:xs.length=T.l.length:=by rw[← h1,bg]
 refine RN 2 E I λa E=>?_;refine aP (λμ a w=>∃ (k:Nat) (dZ:Option Addr) (cb:Nat),(μ=T.l.length-k∧k≤T.l.length)∧Fr a 52 [(1,.int .i64 frm),(2,.slice ad2 p.length c2),(6,pt cG),(8,pt b8),(13,.slice ad T.l.length c),(14,.int .i64 T.l.length),(15,.int .i64 k)]∧U W w (aa b8 238 (cg ((T.l.take k).foldl (hW frm p) mf) dZ cb)::Sl 238 5 ad T.l.length c (rows c9 xs)::ah bY xs::Tree tq sq T::aa cG 238 (cg mf none 0)::L)) (T.l.length) (⟨0,none,0,⟨by simp,by simp⟩,E.ab [1,2,6,8,13,14,15],I.sub⟩) ?_;clear E I;rintro μ a w ⟨k,dZ,cb,⟨rfl,hk⟩,E,I⟩;refine IF 3 E I (λaj a E=>?_) λaj a E=>?_
 ·
  refine RN 2 E I λa E=>?_;obtain⟨b',dG,rfl,dk⟩:=I.bW ad (by omega);obtain⟨⟨x,eI,df⟩,dY⟩:∃ y,xs[k]?=some y:=⟨_,aF (by omega)⟩;have fQ:=nW dk dY;have jd:T.l[k]?=some x:=by rw[← h1,bn,dY];rfl
  have kh:=hw.ok x (bJ jd);have p5:=UH (frm:=frm) (p:=p) jd;obtain⟨B,hB⟩:∃ B,(T.l.take k).foldl (hW frm p) mf=B:=⟨_,rfl⟩;rw[hB]at I p5;refine RN 1 E I λa E=>?_;refine SS E (bR E underlying238 rfl Ty.t238 (fQ)) λa E=>?_;refine AL 0 E I λkf a w E I=>?_;refine SA 0 E I λa w E I=>?_;refine BY 6 E I (λda a E=>?_) λda a E=>?_
  ·
   refine BY 7 E I (λkP a E=>?_) λkP a E=>?_
   ·
    refine BY 7 E I (λoZ a E=>?_) λoZ a E=>?_
    ·
     refine RN 4 E I λa E=>?_;have fG:=ah.oX (I.pick (ah bY xs)) dY;have xt:=kh.2.1;refine RN 1 E I λa E=>?_;rw[qK,Nat.sub_zero,Nat.sub_zero]at E;rw[show Value.slice eI x.done df=Value.slice eI (x.ak.take x.done).length df from by rw[ez,Nat.min_eq_left xt]]at E;refine CL 1 E I (C3 (u:=x.ak.take x.done) (v:=p) (ad:=eI) (c:=df) I (by
      have:=fG.1.take xt
      rwa [show (x.ak.take x.done).length=x.done from by rw[ez];omega]) (hp _ I.sub) (by rw[ez];omega) hc (by rw[ez];have:=kh.1.1;omega)) λa w E I=>?_
     refine IF 1 E I (λao a E=>?_) λao a E=>?_
     ·
      have qP:hW frm p B x=x:=al ⟨by omega,by omega,by omega,ao⟩;refine SA 1 E I λa w E I=>?_;refine RN 2 E I λa E=>?_;exact⟨T.l.length-(k+1),by omega,k+1,_,_,⟨rfl,by omega⟩,E.ab [1,2,6,8,13,14,15],by rw[p5,qP];exact I.sub (M:=aa b8 238 (cg x eI df)::Sl 238 5 (some ⟨b',dG,none⟩) T.l.length c (rows c9 xs)::ah bY xs::Tree tq sq T::aa cG 238 (cg mf none 0)::L)⟩
     have qP:hW frm p B x=B:=ag (λh=>by rw[h.2.2.2]at ao;cases ao);refine RN 2 E I λa E=>?_;exact⟨T.l.length-(k+1),by omega,k+1,_,_,⟨rfl,by omega⟩,E.ab [1,2,6,8,13,14,15],by rw[p5,qP];exact I.sub (M:=aa b8 238 (cg B dZ cb)::Sl 238 5 (some ⟨b',dG,none⟩) T.l.length c (rows c9 xs)::ah bY xs::Tree tq sq T::aa cG 238 (cg mf none 0)::L)⟩
    have qP:hW frm p B x=B:=ag (by omega);refine RN 4 E I λa E=>?_;have fG:=ah.oX (I.pick (ah bY xs)) dY;have xt:=kh.2.1;refine RN 7 E I λa E=>?_;exact⟨T.l.length-(k+1),by omega,k+1,_,_,⟨rfl,by omega⟩,E.ab [1,2,6,8,13,14,15],by rw[p5,qP];exact I.sub (M:=aa b8 238 (cg B dZ cb)::Sl 238 5 (some ⟨b',dG,none⟩) T.l.length c (rows c9 xs)::ah bY xs::Tree tq sq T::aa cG 238 (cg mf none 0)::L)⟩
   have qP:hW frm p B x=B:=ag (by omega);refine RN 11 E I λa E=>?_;have fG:=ah.oX (I.pick (ah bY xs)) dY;have xt:=kh.2.1;refine RN 7 E I λa E=>?_;exact⟨T.l.length-(k+1),by omega,k+1,_,_,⟨rfl,by omega⟩,E.ab [1,2,6,8,13,14,15],by rw[p5,qP];exact I.sub (M:=aa b8 238 (cg B dZ cb)::Sl 238 5 (some ⟨b',dG,none⟩) T.l.length c (rows c9 xs)::ah bY xs::Tree tq sq T::aa cG 238 (cg mf none 0)::L)⟩
  have qP:hW frm p B x=B:=ag (by omega);refine RN 18 E I λa E=>?_;have fG:=ah.oX (I.pick (ah bY xs)) dY;have xt:=kh.2.1;refine RN 7 E I λa E=>?_;exact⟨T.l.length-(k+1),by omega,k+1,_,_,⟨rfl,by omega⟩,E.ab [1,2,6,8,13,14,15],by rw[p5,qP];exact I.sub (M:=aa b8 238 (cg B dZ cb)::Sl 238 5 (some ⟨b',dG,none⟩) T.l.length c (rows c9 xs)::ah bY xs::Tree tq sq T::aa cG 238 (cg mf none 0)::L)⟩
 refine RN 1 E I λa E=>?_;obtain rfl:k=T.l.length:=by omega
 rw[take_length]at I;rw[show T.l.foldl (hW frm p) mf=T.fH frm p from rfl]at I;refine aY 0 (λw0 V=>Rd V b8 0 (cg (T.fH frm p) dZ cb)) [2,3,4] [1,3000,3002,3003,1004,5] E I λa w E I hH=>?_;have hC:=hH.at w I.ai;refine RH 1 E I hH hC λa E=>?_;refine QH E (λw hc=>bR E underlying238 rfl Ty.t238 (hc)) hC λa E=>?_;refine QH E (λw hc=>ae E (hc 3 _ rfl)) hC λa E=>?_;refine RH 1 E I hH hC λa E=>?_;refine SA 0 E I λa w E I=>?_;replace hC:=hH.at w I.ai;refine RH 1 E I hH hC λa E=>?_;refine RT 0 E I ?_;refine⟨dZ,cb,?_,I.sub⟩;rw[show decide ((0:Int)<((T.fH frm p).done:Int))=decide (0<(T.fH frm p).done) from by rw[decide_eq_decide];omega]
def Tr.cut (T:Tr)(wh:Br→Bool):Tr:={ T with l:=T.l.filter (λx=>!wh x),epoch:=T.epoch+if (T.l.filter (λx=>!wh x)).length<T.l.length then 1 else 0 }
def Sn.gJ (A:Sn)(l:List Br):Sn:=l.foldl (λA x=>A.eA x.snap) A
theorem UI {A:Sn}{l:List Br}{wh:Br→Bool}(h:l[k]?=some x):A.gJ ((l.take (k+1)).filter wh)=if wh x=true then (A.gJ ((l.take k).filter wh)).eA x.snap else A.gJ ((l.take k).filter wh):=by
 obtain⟨hk,rfl⟩:=a8.1 h;rw[iZ hk,List.filter_append];by_cases hw:wh l[k]=true
 ·rw[al hw,Sn.gJ,foldl_append];simp[hw,Sn.gJ]
 ·rw[ag hw];simp[hw]
theorem UJ {α:Type}{l:List α}{f:α→Bool}{z:α}(h:l[k]?=some z):(l.take (k+1)).filter f=(l.take k).filter f++if f z=true then [z] else []:=by
 obtain⟨hk,rfl⟩:=a8.1 h;rw[iZ hk,List.filter_append];by_cases hw:f l[k]=true <;> simp[hw]
theorem UK (xs:List Bx)(f:Br→Bool):(xs.filter (λz=>f z.1)).map (·.1)=(xs.map (·.1)).filter f:=by
 induction xs with
 | nil=>rfl
 | cons z xs ih =>
  by_cases h:f z.1=true <;> simp[h]at ih ⊢ <;> exact ih
theorem WT.cut (h:WT T)(he:T.epoch+1<1099511627776)(wh:Br→Bool):WT (T.cut wh):=by
 obtain⟨dj,dW,a3,a4,a5⟩:=h;refine⟨⟨dj.1,?_⟩,dW,?_,?_,λy hy=>?_⟩
 ·simp only[Tr.cut];exact gF (length_filter_le _ _) dj.2
 ·simp only[Tr.cut];split <;> omega
 ·simp only[Tr.cut];exact a4.sublist (List.Sublist.map _ List.filter_sublist)
 ·simp only[Tr.cut]at hy ⊢;exact a5 y (List.mem_filter.1 hy).1
class Tl (M L:List SP):Prop where h:∃ K,M.Perm (K++L)
instance Tl.self {L:List SP}:Tl L L:=⟨[],List.Perm.refl _⟩
instance (priority:=low) Tl.cons {A:SP}{M L:List SP}[t:Tl M L]:Tl (A::M) L:=⟨let ⟨K,h⟩:=t.h;⟨A::K,h.cons A⟩⟩
theorem U.UL {M:List SP}(I:U W w M)(t:Tl M L):U W w L:=let ⟨_,h⟩:=t.h;(I.perm h).drop
def vt (W:World)(N:List SP)(ad:Option Addr)(P:List (List UInt8)):Prop:=∃ zs:List ed,zs.map (·.2.2)=P∧∀ V,U W V N→ix V ad zs
set_option maxHeartbeats 1000000 in
theorem IX {wh:Br→Bool}{f:Nat}{us:List Value}(I:U W w (Tree tq sq T::ax sq r A::L))(he:T.epoch+1<1099511627776)(b9:g4 prog f=true)
   (hf:∀ (M:List SP) (V:World) (x:Br) (av:Option Addr) (c':Nat),x∈T.l→U W V M→Tl M L→vt W M av x.ak→x.ak.length≤c'→nx x.ak →
    Calls prog f (List.toArray (.agg (cg x av c').toArray::us)) V λe ny=>e=.returned (.bool (wh x))∧U W ny M) :
   Calls prog 303 #[pt tq,.func (.func f) #[] (List.toArray us)] w λe V=>e=.returned (.int .i64 ((T.l.length-(T.l.filter (λx=>!wh x)).length:Nat):Int)) ∧
    U W V (Tree tq sq (T.cut wh)::ax sq r (A.gJ (T.l.filter wh))::L):=by
 obtain⟨ad,c,xs,h1,hw,I⟩:=Tree.open I;have b0:xs.length=T.l.length:=by rw[← h1,bg]
 have hT:=hw.most;have eS:=length_filter_le (λx=>!wh x) T.l;refine EN func303 ntmps303 rfl rfl λa E=>?_;refine RN 6 E I λa E=>?_;replace E:=E.aK 10;refine RN 10 E I λa E=>?_;replace I:U W w (Sl 238 5 none 0 0 (rows c9 ((xs.take 0).filter (λz:Bx=>!wh z.1)))::ah bY ((xs.take 0).filter (λz:Bx=>!wh z.1))::aa tq 236 [pt sq,.int .i64 T.most,.slice ad T.l.length c,.int .i64 T.last,.int .i64 T.epoch]::Sl 238 5 ad T.l.length c (rows c9 xs)::ah bY (xs.drop 0)::ax sq r (A.gJ ((T.l.take 0).filter wh))::L):=(I.iM (f:=bY)).bO 238 5 none;refine RN 8 E I λa E=>?_;refine aP (λμ a w=>∃ (k m:Nat) (sj:Option Addr) (kQ:Nat),(μ=T.l.length-k∧k≤T.l.length∧m=((xs.take k).filter (λz=>!wh z.1)).length)∧Fr a 59 [(0,pt tq),(1,.func (.func f) #[] (List.toArray us)),(5,.int .i64 T.l.length),(6,.slice sj m kQ),(19,.slice ad T.l.length c),(20,.int .i64 T.l.length),(21,.int .i64 k)]∧U W w (Sl 238 5 sj m kQ (rows c9 ((xs.take k).filter (λz=>!wh z.1)))::ah bY ((xs.take k).filter (λz=>!wh z.1))::aa tq 236 [pt sq,.int .i64 T.most,.slice ad T.l.length c,.int .i64 T.last,.int .i64 T.epoch]::Sl 238 5 ad T.l.length c (rows c9 xs)::ah bY (xs.drop k)::ax sq r (A.gJ ((T.l.take k).filter wh))::L)) (T.l.length) (⟨0,0,none,0,⟨by simp,by simp,by simp⟩,E.ab [0,1,5,6,19,20,21],I.sub⟩) ?_;clear E I;rintro μ a w ⟨k,m,sj,kQ,⟨rfl,hk,hm⟩,E,I⟩;refine IF 3 E I (λao a E=>?_) λao a E=>?_
 ·
  refine RN 2 E I λa E=>?_
  obtain ⟨b', dG, gR, dk⟩ := I.bW (n := T.l.length) (cs := rows c9 xs) (R := Sl 238 5 sj m kQ (rows c9 ((xs.take k).filter (fun z => !wh z.1))) :: ah bY ((xs.take k).filter (fun z => !wh z.1)) :: aa tq 236 [.pointer (some ⟨sq, 0, none⟩), .int .i64 T.most, .slice ad T.l.length c, .int .i64 T.last, .int .i64 T.epoch] :: ah bY (xs.drop k) :: ax sq r (A.gJ ((T.l.take k).filter wh)) :: L) (k := ⟨by
      refine List.Perm.trans ?_ (perm_middle (l₁:=[_,_,_]));exact List.Perm.refl _⟩) ad (by omega)
  subst gR;have tI:k<xs.length:=by omega
  obtain⟨⟨x,eI,df⟩,dY⟩:∃ y,xs[k]?=some y:=⟨_,aF tI⟩;have gQ:xs[k]=(x,eI,df):=(a8.1 dY).2;have fQ:=nW dk dY;have jd:T.l[k]?=some x:=by rw[← h1,bn,dY];rfl
  have kh:=(hw.ok x (bJ jd)).1;have o0:=UI (A:=A) (wh:=wh) jd;have kj:=UJ (f:=λz:Bx=>!wh z.1) dY;replace I:=(I.pick (ah bY (xs.drop k)));rw[kb tI,gQ]at I;replace I:=I.fv (i:=0) (by simp);change U W w (cd eI x.ak.length df x.ak::ah bY (xs.drop (k+1))::_) at I;have cS:=(cd.le I).2;refine RN 1 E I λa E=>?_;refine SS E (bR E underlying238 rfl Ty.t238 (fQ)) λa E=>?_;refine AL 0 E I λb8 a w E I=>?_;refine SA 0 E I λa w E I=>?_;refine RN 4 E I λa E=>?_;obtain⟨zs,cW,eQ,I⟩:=cd.open (I.pick (cd eI x.ak.length df x.ak));refine CL 0 E I (hf _ _ x eI df (bJ jd) I inferInstance ⟨zs,cW,λny h=>U.l6 (h.sub (M:=Sl 22 1 eI x.ak.length df (zs.map aL)::ah ba zs::[]))⟩ cS kh) (hf:=b9) λa w E I=>?_;replace I:U W w (cd eI x.ak.length df x.ak::_):=U.shut (M:=[_,_]) I (λ_ x=>⟨zs,⟨cW,eQ⟩,x⟩);refine IF 0 E I (λaz a E=>?_) λaz a E=>?_
  ·
   rw[al az]at o0;rw[show (!wh (x,eI,df).1)=false from by simp[az]]at kj;rw[ag (by decide),append_nil]at kj;refine bS 1 [5] [0,1,2,4,3003,1005,1006] E I λa w E I hH hC=>?_;refine RH 6 E I hH hC λa E=>?_;refine aR 0 E I (zD (id:=x.snap) (I.pick (ax sq r (A.gJ ((T.l.take k).filter wh))))) λ_ a w E I=>?_;rw[← o0]at I;refine RN 2 E I λa E=>?_;rw[← kj]at hm I;exact⟨T.l.length-(k+1),by omega,k+1,_,_,_,⟨rfl,by omega,hm⟩,E.ab [0,1,5,6,19,20,21],I.sub⟩
  rw[ag (by rw[az];decide)]at o0;rw[show (!wh (x,eI,df).1)=true from by simp[az]]at kj;rw[al rfl]at kj;refine RN 2 E I λa E=>?_;refine cp E rfl I underlying168 Ty.t238 rfl rfl rfl rfl (by decide) (by decide) λUM a w E I ho=>?_;clear ho;obtain⟨Y,vu⟩:∃ Y,(xs.take k).filter (λz=>!wh z.1)=Y:=⟨_,rfl⟩;rw[vu]at I kj hm;refine RN 0 E I λa E=>?_;refine cQ E rfl I underlying168 Ty.t238 rfl rfl I.ai rfl (by simp[Value.oneCell',cg]) (by decide) (by decide) (by have:=length_filter_le (λz:Bx=>!wh z.1) (xs.take k);rw[vu,ez]at this;omega) λnY nZ a w E I=>?_;have h8:=U.jG (f:=bY) (l:=Y) (x:=(x,eI,df)) (I.sub (M:=cd eI x.ak.length df x.ak::ah bY Y::Sl 238 5 nY (m+1) nZ (rows c9 Y++[cg x eI df].flatten)::aa tq 236 [pt sq,.int .i64 T.most,.slice (some ⟨b',dG,none⟩) T.l.length c,.int .i64 T.last,.int .i64 T.epoch]::Sl 238 5 (some ⟨b',dG,none⟩) T.l.length c (rows c9 xs)::ah bY (xs.drop (k+1))::ax sq r (A.gJ ((T.l.take k).filter wh))::L));rw[C7,← kj,← o0]at h8;replace I:=h8;clear h8;refine RN 3 E I λa E=>?_;exact⟨T.l.length-(k+1),by omega,k+1,_,_,_,⟨rfl,by omega,by rw[kj,aM,← hm];rfl⟩,E.ab [0,1,5,6,19,20,21],I.sub⟩
 refine RN 1 E I λa E=>?_;obtain rfl:k=T.l.length:=by omega
 rw[take_length,fY (by omega)]at I;rw[fY (by omega)]at hm;have p6:=UK xs (λx=>!wh x);rw[h1]at p6;have vv:m=(T.l.filter (λx=>!wh x)).length:=by rw[hm,← p6,bg]
 subst vv;refine ST 4 E I (λa w E I=>?_);refine IF 6 E I (λbh a E=>?_) λbh a E=>?_
 ·
  have hlt:(T.l.filter (λx=>!wh x)).length<T.l.length:=by omega
  refine ST 7 E I (λa w E I=>?_);rw[show ((T.epoch:Int)+1)=((T.epoch+1:Nat):Int) from rfl]at I;refine RT 6 E I ?_;refine⟨by rw[show ((T.l.length-(T.l.filter (λx=>!wh x)).length:Nat):Int)=(T.l.length:Int)-((T.l.filter (λx=>!wh x)).length:Int) from by omega],?_⟩;exact Tree.close (T:=T.cut wh) (ad:=sj) (c:=kQ) (xs:=xs.filter (λz=>!wh z.1)) (n:=(T.l.filter (λx=>!wh x)).length) (most:=T.most) (last:=T.last) (epoch:=T.epoch+1) I p6 (hw.cut he wh) rfl rfl rfl (by simp only[Tr.cut];rw[al hlt])
 have hlt:¬ (T.l.filter (λx=>!wh x)).length<T.l.length:=by omega
 refine RT 6 E I ?_;refine⟨by rw[show ((T.l.length-(T.l.filter (λx=>!wh x)).length:Nat):Int)=(T.l.length:Int)-((T.l.filter (λx=>!wh x)).length:Int) from by omega],?_⟩;exact Tree.close (T:=T.cut wh) (ad:=sj) (c:=kQ) (xs:=xs.filter (λz=>!wh z.1)) (n:=(T.l.filter (λx=>!wh x)).length) (most:=T.most) (last:=T.last) (epoch:=T.epoch) I p6 (hw.cut he wh) rfl rfl rfl (by simp only[Tr.cut];rw[ag hlt];rfl)
theorem UN (I:U W w (Tree tq sq T::ax sq r A::L))(he:T.epoch+1<1099511627776) :
   Calls prog 320 #[pt tq] w λe V=>e=.returned (.int .i64 T.l.length)∧U W V (Tree tq sq (T.cut λ_=>true)::ax sq r (A.gJ T.l)::L):=by
 have hF : ∀ (M : List SP) (V : World) (x : Br) (av : Option Addr) (c' : Nat), x ∈ T.l → U W V M → Tl M L → vt W M av x.ak → x.ak.length ≤ c' → nx x.ak →
     Calls prog 334 (List.toArray [.agg (cg x av c').toArray]) V λe ny=>e=.returned (.bool true)∧U W ny M:=by
  intro L w x av c' _ I _ _ _ _;refine EN func334 ntmps334 rfl rfl λa E=>?_;refine BX 1 E I λb1 a w E I=>?_;refine RT 3 E I ?_;exact⟨rfl,I.sub⟩
 refine EN func320 ntmps320 rfl rfl λa E=>?_;refine CL 4 E I (IX (wh:=λ_=>true) (us:=[]) I he (by kernel_rfl) hF) λa w E I=>?_;refine RT 1 E I ?_;have e1:T.l.filter (λx=>!(λ_:Br=>true) x)=[]:=by simp
 have e2:T.l.filter (λ_=>true)=T.l:=by simp
 rw[e2]at I;exact⟨by rw[e1];rfl,I⟩
end
end
section
theorem tJ (s:ByteArray)(i:Nat):1≤(Utf8.decode s i).2∧(Utf8.decode s i).2≤4:=by
 simp only[Utf8.decode]
 repeat' split
 all_goals simp
def nz (r:Nat):Nat:=if r<0x80 then 1 else if r<0x800 then 2 else if r<0x10000 then 3 else 4
theorem sk (s:ByteArray)(i:Nat):(s.get! i).toNat<256:=(s.get! i).toNat_lt
theorem IY (s:ByteArray)(i:Nat):nz (Utf8.decode s i).1=(Utf8.decode s i).2∨Utf8.decode s i=(0xFFFD,1):=by
 have h0:=sk s (i+0);have h1:=sk s (i+1);have h2:=sk s (i+2);have h3:=sk s (i+3);simp only[Utf8.decode,Utf8.runeError]
 repeat' split
 all_goals first | (right;rfl) | (left;simp_all [nz];done) | (left;simp_all [nz];(repeat' split) <;> omega)
theorem IZ (s:ByteArray)(i:Nat)(h:i<s.size):i+(Utf8.decode s i).2≤s.size:=by
 simp only[Utf8.decode,Utf8.runeError]
 repeat' split
 all_goals simp_all
 all_goals omega
theorem UO (s:ByteArray)(i:Nat):(Utf8.decode s i).1<1114112:=by
 have h0:=sk s (i+0);have h1:=sk s (i+1);have h2:=sk s (i+2);have h3:=sk s (i+3);simp only[Utf8.decode,Utf8.runeError]
 repeat' split
 all_goals simp_all [Utf8.valid]
 all_goals omega
def ef (s:ByteArray)(pos:Nat):List (Nat×Nat):=if h:pos<s.size then Utf8.decode s pos::ef s (pos+(Utf8.decode s pos).2) else []
termination_by s.size-pos
decreasing_by have:=(tJ s pos).1;omega
theorem qQ {s:ByteArray}{pos:Nat}(h:pos<s.size):ef s pos=Utf8.decode s pos::ef s (ec s pos):=by
 rw[ef,dif_pos h,ec,al h]
theorem qR {s:ByteArray}{pos:Nat}(h:¬ pos<s.size):ef s pos=[]:=by
 rw[ef,dif_neg h]
theorem UP (s:ByteArray):∀ n pos,s.size-pos≤n→(ef s pos).length≤n:=by
 intro n
 induction n with
 | zero=>intro pos h;rw[qR (by omega)];simp
 | succ n ih =>
  intro pos h;by_cases hp:pos<s.size
  ·rw[qQ hp,fc];have:=(tJ s pos).1;have:=ih (ec s pos) (by rw[ec,al hp];omega);omega
  ·rw[qR hp];simp
theorem C9 {s:ByteArray}{pos:Nat}(h:pos≤s.size):ec s pos≤s.size:=by
 by_cases hp:pos<s.size
 ·rw[ec,al hp];exact IZ s pos hp
 ·rw[ec,ag hp];exact h
def kl (x:Nat×Nat):Bool:=decide (32≤x.1)&&decide (x.1≠127)
def mg (x:Nat×Nat):Bool:=!decide (x=(0xFFFD,1))
def o2 (s:ByteArray):Bool:=decide (1≤(ef s 0).length)&&decide ((ef s 0).length≤20)&&(ef s 0).all kl&&(ef s 0).all mg
def mP (s:ByteArray)(n:Int):Int:=if 0≤n then (((ef s 0)[n.toNat]?).map (λx=>(x.1:Int))).getD 0 else 0
structure gy where
 code:Int
 a:Int
 b:Int
 c:Int
structure Pr where
 title:ByteArray
 ops:List gy
abbrev dP (o:gy):List Value:=[.int .i64 o.code,.int .i64 o.a,.int .i64 o.b,.int .i64 o.c]
theorem Da (o:gy):(dP o).length=4:=rfl
theorem I0 (o:gy):∀ v∈dP o,v.oneCell'=true:=by
 intro v hv;simp[dP]at hv;rcases hv with rfl | rfl | rfl | rfl <;> rfl
def eY (x:Int):Prop:=0≤x∧x<32
def du (x:Int):Prop := -2147483648≤x∧x≤2147483647
def eZ (n:Int)(o:gy):Prop :=
 (o.code=0∧o.a=0∧o.b=0∧o.c=0)∨(o.code=1∧eY o.a∧o.c=0)∨(o.code=9∧0≤o.a∧o.a≤n∧o.b=0∧o.c=0)∨(o.code=15∧eY o.a∧o.b=0∧o.c=0) ∨
 (o.code=10∧eY o.a∧0≤o.b∧o.b≤n∧o.c=0)∨((o.code=2∨(11≤o.code∧o.code≤14))∧eY o.a∧eY o.b∧o.c=0)∨(3≤o.code∧o.code≤8∧eY o.a∧eY o.b∧eY o.c)
def qS (o:gy):Prop:=du o.code∧du o.a∧du o.b∧du o.c
def vw (p:Pr):Prop:=o2 p.title=true∧1≤p.ops.length∧p.ops.length≤64∧∀ o∈p.ops,qS o
def db (p:Pr):Prop:=vw p∧∀ o∈p.ops,eZ p.ops.length o
def hX (x:Int):Int:=IntKind.i32.wrap x
def km (x:Int):Nat:=(x.emod 32).toNat
theorem xu (x:Int):km x<32:=by
 have h1:=Int.emod_nonneg x (show (32:Int)≠0 by decide);have h2:=Int.emod_lt_of_pos x (show (0:Int)<32 by decide);show (x%32).toNat<32;omega
def mh (b:List UInt8)(x:Int):Int:=if 0≤x∧x<b.length then ((b.getD x.toNat 0).toNat:Int) else 0
def iP (k a b:Int):Int:=if k=3 then hX (a+b) else if k=4 then hX (a-b) else if k=5 then hX (a*b) else if k=6 then (if b=0 then 0 else hX (a.tdiv b)) else if k=7 then (if a<b then 1 else 0) else if a=b then 1 else 0
def jw (p:Pr)(fr:Int)(b:List UInt8)(g:Nat→Int)(o:gy):Int :=
 if o.code=1 then hX o.b else if o.code=2 then g o.b.toNat else if o.code=11 then mh b (g o.b.toNat) else if o.code=12 then g (km (g o.b.toNat)) else if o.code=14 then mP p.title (g o.b.toNat) else if o.code=15 then hX fr else iP o.code (g o.b.toNat) (g o.c.toNat)
def et (p:Pr)(fr:Int)(b:List UInt8)(g:Nat→Int)(aV:Nat)(o:gy):(Nat→Int)×Nat×Bool :=
 if o.code=0 then (g,aV+1,false) else if o.code=9 then (g,o.a.toNat,true) else if o.code=10 then (g,if g o.a.toNat=0 then o.b.toNat else aV+1,true) else if o.code=13 then (ck g (km (g o.a.toNat)) (g o.b.toNat),aV+1,true)
 else (ck g o.a.toNat (jw p fr b g o),aV+1,true)
def p7 (p:Pr)(fr:Int)(b:List UInt8):Nat→(Nat→Int)→Nat→(Nat→Int)
 | 0,g,_=>g
 | n+1,g,aV=>match p.ops[aV]? with
  | none=>g
  | some o=>let r:=et p fr b g aV o
   if r.2.2 then p7 p fr b n r.1 r.2.1 else r.1
def e0 (p:Pr)(fr:Int)(b:List UInt8)(g:Nat→Int):Nat→Int:=p7 p fr b 200 g 0
def foldI (p:Pr)(fr:Int):(Nat→Int)→List (List UInt8)→(Nat→Int)
 | g,[]=>g
 | g,b::l=>foldI p (fr+1) (e0 p fr b g) l
theorem Db (p:Pr)(b:List UInt8):∀ (l:List (List UInt8)) (fr:Int) (g:Nat→Int),foldI p fr g (l++[b])=e0 p (fr+l.length) b (foldI p fr g l)
 | [],fr,g=>by simp[foldI]
 | x::l,fr,g=>by
  rw[cons_append,foldI,Db p b l,foldI,fc]
  congr 1;omega
def dQ (g:Nat→Int):Prop:=∀ c,c<32→du (g c)
theorem hY {i:Int}(h1:-2147483648≤i)(h2:i≤2147483647):IntKind.i32.wrap i=i:=IntWalk.i32_in _ ⟨h1,h2⟩
theorem xv (x:Int):du (hX x):=by
 simp only[hX,du,IntKind.wrap];split <;> simp_all [IntKind.signed,IntKind.bits] <;> omega
def Ro (W:World)(e sz:Nat)(ad:Option Addr)(n c:Nat)(cs:List Value):SP:=λh =>
 (cs.length=n*sz∧n≤c∧(0<n→∃ b off,ad=some ⟨b,off,none⟩∧b<W.heap.size∧Rd W b off cs))∨Sl e sz ad n c cs h
class tK (L:List SP)(W:World)(ad:Option Addr)(n c e sz:outParam Nat)(cs:outParam (List Value))(R:outParam (List SP)):Prop where perm:L.Perm (Ro W e sz ad n c cs::R)
instance tK.head {L W ad n c e sz cs}:tK (Ro W e sz ad n c cs::L) W ad n c e sz cs L:=⟨List.Perm.refl _⟩
instance (priority:=low) tK.tail {A L W ad n c e sz cs R}[h:tK L W ad n c e sz cs R]:tK (A::L) W ad n c e sz cs (A::R) :=
 ⟨(List.Perm.cons A h.perm).trans (List.Perm.swap _ _ _)⟩
section
variable {W w:World}{L R:List SP}{e sz n c:Nat}{ad:Option Addr}{cs:List Value}
theorem U.ro (s:U W w L)(ad:Option Addr)[k:tK L W ad n c e sz cs R]:cs.length=n*sz∧n≤c:=(s.perm k.perm).tell λ_ h=>by
 rcases h with ⟨h1,h2,_⟩ | h
 ·exact⟨h1,h2⟩
 ·exact⟨h.1,h.2.1⟩
theorem U.qT (s:U W w L)(ad:Option Addr)[k:tK L W ad n c e sz cs R](h0:0<n):∃ b off,ad=some ⟨b,off,none⟩∧Rd w b off cs:=by
 have s':=s.perm k.perm;obtain⟨mI,h,p,h1,h2,d,a,kk,x,q⟩:=s';rcases x with ⟨x1,x2,x3⟩ | x
 ·obtain⟨b,off,rfl,hb,hr⟩:=x3 h0;exact⟨b,off,rfl,λj v hj=>(s.gv (a:=⟨b,off+j,none⟩) hb).trans (hr j v hj)⟩
 ·have s2:U W w (Sl e sz ad n c cs::R):=⟨mI,h,p,h1,h2,d,a,kk,x,q⟩;exact s2.bW ad h0
theorem U.UQ (s:U W w L)(h1:cs.length=n*sz)(h2:n≤c)(h3:0<n→∃ b off,ad=some ⟨b,off,none⟩∧b<W.heap.size∧Rd W b off cs):U W w (Ro W e sz ad n c cs::L) :=
 ⟨s.below,let ⟨h,p,q⟩:=s.sat;⟨h,p,λ_=>none,h,λ_=>.inl rfl,λ_ _ e=>(by cases e),Hp.Sub.refl _,.inl ⟨h1,h2,h3⟩,q⟩⟩
theorem U.Dc (s:U W w (Sl e sz ad n c cs::L)):U W w (Ro W e sz ad n c cs::L):=s.imp λ_ ⟨h1,h2,d,a,b,x,q⟩=>⟨h1,h2,d,a,b,.inr x,q⟩
end
theorem vx {w:World}{b off k:Nat}{ops:List gy}{o:gy}(hr:Rd w b off (rows dP ops))(ho:ops[k]?=some o):Rd w b (off+k*4) (dP o):=by
 obtain⟨hi,he⟩:=a8.1 ho;have:=hr.part (k*4) 4;rw[va Da ops k hi,he]at this;exact this
end
end Go.Proofs.YteoldcfapaiobaaGreat
