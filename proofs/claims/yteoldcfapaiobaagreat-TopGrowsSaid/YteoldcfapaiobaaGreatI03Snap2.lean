/- The walks of package snap, further. -/
import Derived.Test.YteoldcfapaiobaaGreatI02Page
import Derived.Test.YteoldcfapaiobaaGreatI01Row
namespace Go.Proofs.YteoldcfapaiobaaGreat
open Tryz
open List (nil_append map_cons cons_append append_nil ext_getElem? set_set map_nil getElem?_set_ne foldl_append)
open Go.RowKit
set_option linter.unusedVariables false
set_option linter.unusedSimpArgs false
set_option maxRecDepth 10000
set_option synthInstance.maxSize 4000
set_option synthInstance.maxHeartbeats 400000
section
section
variable {W w:World}{L L':List SP}{q r b m i pb:Nat}{A:Sn}{ps:List Pg}{xs:List (aC×Nat)}{x y:aC}
theorem WN {off n c:Nat}{vs:List Value}(I:U W w L)(hr:∀ w',U W w' L→Rd w' b off vs)(hl:vs.length=n)(hn:0<n)(h1:∀ v∈vs,v.oneCell'=true)(hb:n≤1048576) :
   Calls prog 121 #[.slice (some ⟨b,off,none⟩) n c] w λe w'=>∃ ad c',e=.returned (.slice ad n c')∧U W w' (Sl 3 1 ad n c' vs::L):=by
 refine EN func121 ntmps121 rfl rfl λa E=>?_;refine RN 6 E I λa E=>?_;replace E:=E.aQ 4;refine RN 2 E I λa E=>?_;refine uZ E rfl I lR Ty.t3 rfl λb5 a w E I ho=>?_;clear ho;refine RN 1 E I λa E=>?_;refine cR E rfl I lR Ty.t3 rfl rfl (hr _ I.tail) (by omega) h1 hn (by decide) (by omega) λtt r4 a w E I=>?_;rw[ei,nil_append] at *;refine RT 1 E I ?_;exact⟨_,_,rfl,I⟩
theorem K1 (I:U W w (ax q r A::L))(hx:A.ar[i]?=some x) :
   Calls prog 85 #[pt q,.int .i64 x.id] w λe w'=>∃ ad c,e=.returned (.slice ad 4 c)∧U W w' (Sl 3 1 ad 4 c (ints .i64 4 (λk=>(x.p k:Int)+1))::ax q r A::L):=by
 obtain⟨b,m,ps,xs,h1,hw,hr,I⟩:=ax.open I;obtain⟨pb,bf⟩:=qU h1 hx;refine EN func85 ntmps85 rfl rfl λa E=>?_;refine CL 5 E I (qV I h1 hw bf) λa w E I=>?_;refine RN 5 E I λa E=>?_;replace E:=E.aQ 10;refine RN 2 E I λa E=>?_;replace I:=I.r8 bf;refine aY 4 E I (WN (off:=0) (c:=4) I (λw' h=>h.Fl pb) (dk _ _ _) (by decide) u0 (by decide)) λad c a w E I=>?_;refine RT 1 E I ?_;refine⟨ad,c,rfl,?_⟩;have h4:=ax.vc (A:=A) (B:=A) (q:=q) (r:=r) (last:=A.last) (L':=Sl 3 1 ad 4 c (ints .i64 4 (λk=>(x.p k:Int)+1))::L) (b:=b) (m:=m) (ps:=ps) (pb:=pb) (y:=x) I bf h1 rfl (yZ hx) hw hr;exact h4.perm (c1 _ _ _)
theorem BE (I:U W w (ax q r A::L)) :
   Calls prog 83 #[pt q] w λe w'=>e=.returned (pt r)∧U W w' (ax q r A::L):=by
 obtain⟨b,m,ps,xs,h1,hw,hr,I⟩:=ax.open I;refine EN func83 ntmps83 rfl rfl λa E=>?_;refine RN 6 E I λa E=>?_;replace E:=E.aQ 4;refine RT 7 E I ?_;exact⟨rfl,ax.close (b:=b) (m:=m) I h1 hw hr⟩
theorem Fp (I:U W w (ax q r A::L)) :
   Calls prog 84 #[pt r] w λe w'=>e=.returned (.int .i64 A.used)∧U W w' (ax q r A::L):=by
 obtain⟨b,m,ps,xs,h1,hw,hr,I⟩:=ax.open I;refine (KD (I.pick (Room r b ps))).mono λe w' ⟨h2,I⟩=>?_;rw[hr.used]at h2;exact⟨h2,ax.close (b:=b) (m:=m) (ps:=ps) I h1 hw hr⟩
theorem K2 {n:Int}(I:U W w (ax q r A::L)) :
   Calls prog 125 #[pt q,.int .i64 n] w λe w'=>e=.returned (.bool (decide (n≤((A.room-A.used:Nat):Int))))∧U W w' (ax q r A::L):=by
 obtain⟨b,m,ps,xs,h1,hw,hr,I⟩:=ax.open I;refine EN func125 ntmps125 rfl rfl λa E=>?_;refine RN 6 E I λa E=>?_;replace E:=E.ek 7;refine CL 5 E I (V7 (I.pick (Room r b ps))) λa w E I=>?_;refine RT 3 E I ?_;exact⟨by rw[hr.used,hr.len],ax.close (b:=b) (m:=m) (ps:=ps) I h1 hw hr⟩
theorem WO (I:U W w (ax q r A::L)) :
   Calls prog 82 #[pt q] w λe w'=>∃ ad c,e=.returned (.slice ad A.ar.length c)∧U W w' (Sl 166 1 ad A.ar.length c (A.ar.map λx=>.int .i64 x.id)::ax q r A::L):=by
 obtain⟨b,m,ps,xs,h1,hw,hr,I⟩:=ax.open I;have hlen:(kvs xs).length=A.ar.length:=by rw[← h1];simp[kvs]
 have ve:((kvs xs).map (·.1)).Pairwise (· < ·):=by
  have:(kvs xs).map (·.1)=(A.ar.map (·.id)).map (λn:Nat=>(n:Int)):=by rw[← h1];simp[kvs]
  rw[this,List.pairwise_map];exact hw.sorted.imp λh=>by omega
 have pX:((kvs xs).map λp=>Value.int .i64 p.1)=A.ar.map λx=>Value.int .i64 x.id:=by rw[← h1];simp[kvs]
 refine EN func82 ntmps82 rfl rfl λa E=>?_;refine RN 6 E I λa E=>?_;replace E:=E.aQ 4;refine bg 6 E I (Wl (m:=m) I) λb8 a w E I=>?_;refine aY 0 E I (Wn (m:=m) (kvs:=kvs xs) ((I.pick (mp m (kvs xs))).pick (aa b8 218 [.map (some m)])) ve (by rw[hlen];have:=hw.many;have:=hw.bound;omega)) λad c a w E I=>?_;rw[hlen,pX] at *;refine RT 1 E I ?_;refine⟨ad,c,rfl,?_⟩;have h4:=ax.close (A:=A) (q:=q) (r:=r) (last:=A.last) (xs:=xs) (L':=Sl 166 1 ad A.ar.length c (A.ar.map λx=>.int .i64 x.id)::L) (b:=b) (m:=m) (ps:=ps) I h1 hw hr;exact h4.perm (c1 _ _ _)
theorem WQ (I:U W w (ax q r A::L))(hx:A.ar[i]?=some x) :
   Calls prog 290 #[pt q,.int .i64 x.id] w λe w'=>e=.returned (.tuple #[.agg (ints .i32 32 x.g).toArray,.bool true])∧U W w' (ax q r A::L):=by
 refine EN func290 ntmps290 rfl rfl λa E=>?_;refine AL 1 E I λb4 a w E I=>?_;change U W w (aa b4 183 (ints .i32 32 (λ_=>0))::_) at I;refine AL 2 E I λcJ a w E I=>?_;change U W w (aa cJ 183 (ints .i32 32 (λj=>if j<0 then x.g j else 0))::_) at I;refine RN 2 E I λa E=>?_;obtain⟨b,m,ps,xs,h1,hw,hr,I⟩:=ax.open (I.pick (ax q r A));obtain⟨pb,bf⟩:=qU h1 hx;refine CL 2 E I (qV I h1 hw bf) λa w E I=>?_;refine RN 1 E I λa E=>?_;replace E:=E.aQ 11;refine RN 3 E I λa E=>?_;replace I:=ax.close (A:=A) (q:=q) (r:=r) (last:=A.last) (xs:=xs) (L':=aa cJ 183 (ints .i32 32 (λj=>if j<0 then x.g j else 0))::aa b4 183 (ints .i32 32 (λ_=>0))::L) (b:=b) (m:=m) (ps:=ps) I h1 hw hr;refine RN 1 E I λa E=>?_;refine aL (λμ a w=>∃ k:Nat,(μ=32-k∧k≤32)∧Fr a 27 [(0,pt q),(1,.int .i64 x.id),(4,pt b4),(6,pt cJ),(13,.int .i64 k)]∧U W w (aa cJ 183 (ints .i32 32 (λj=>if j<k then x.g j else 0))::ax q r A::aa b4 183 (ints .i32 32 (λ_=>0))::L)) (32) (⟨0,⟨by simp,by simp⟩,E.ab [0,1,4,6,13],I.sub⟩) ?_;clear E I;rintro μ a w ⟨k,⟨rfl,hk⟩,E,I⟩;refine IF 3 E I (λao a E=>?_) λao a E=>?_
 ·
  refine CL 8 E I (KW (I.pick (ax q r A)) hx (by omega)) λa w E I=>?_;refine ST 4 E I (λa w E I=>?_) (hlt:=(by rw[dk];omega))
  rw [ints_set, show (fun i => if i = k then x.g k else if i < k then x.g i else 0) = (fun i => if i < k + 1 then x.g i else 0) from by
      funext i
      by_cases h:i=k
      ·subst h;simp
      ·rw[ag h];by_cases h2:i<k
       ·rw[aj h2,aj (by omega)]
       ·rw[ag h2,ag (by omega)]]at I
  refine RN 2 E I λa E=>?_;exact⟨32-(k+1),by omega,k+1,⟨rfl,by omega⟩,E.ab [0,1,4,6,13],I.sub⟩
 obtain rfl:k=32:=by omega
 rw[yI (g':=x.g) (λj hj=>aj hj)]at I;refine SA 2 E I λa w E I=>?_;refine RT 1 E I ?_;exact⟨rfl,I.sub⟩
theorem WR (p:Nat):cS [] p=0:=rfl
theorem WS {n:Nat}(I:U W w L)(hn:n≤50) :
   Calls prog 89 #[.int .i64 n] w λe w'=>∃ q r,e=.returned (pt q)∧U W w' (ax q r ⟨0,4*n,0,[]⟩::L):=by
 refine EN func89 ntmps89 rfl rfl λa E=>?_;refine RN 6 E I λa E=>?_;rw[show min (max (n:Int) 0) 50=(n:Int) from by omega]at E;refine RN 1 E I λa E=>?_;rw[show (4:Int)*(n:Int)=((4*n:Nat):Int) from by omega]at E;refine aY 0 E I (VZ I (by omega)) λr b a w E I=>?_;refine RN 0 E I λa E=>?_;refine Wa E rfl I rfl λb8 a w E I ho=>?_;clear ho;refine BX 1 E I λkO a w E I=>?_;refine RT 1 E I ?_;have h7:U W w (ah jl []::aa kO 221 [pt r,.map (some b8),.int .i64 ((0:Nat):Int)]::mp b8 (kvs [])::Room r b (List.replicate (4*n) tu)::L):=U.ji I;refine⟨kO,r,rfl,ax.close (A:=⟨0,4*n,0,[]⟩) (last:=0) (b:=b) (m:=b8) (xs:=[]) (ps:=List.replicate (4*n) tu) h7 rfl ⟨by simp only;omega,by simp,a7 _,by simp,by simp,by simp⟩ ⟨by simp,λp q hq=>?_,by simp⟩⟩;obtain⟨_,rfl⟩:=a2.1 hq;rw[List.getElem_replicate];rfl
theorem WU {g:Nat→Int}{k:Nat}(I:U W w L)(hk:k<4) :
   Calls prog 127 #[.agg (ints .i32 32 g).toArray,.int .i64 k] w λe w'=>e=.returned (.agg (ints .i32 8 (λj=>g (8*k+j))).toArray)∧U W w' L:=by
 refine EN func127 ntmps127 rfl rfl λa E=>?_;refine BX 1 E I λb2 a w E I=>?_;refine AL 0 E I λb4 a w E I=>?_;change U W w (aa b4 225 (ints .i32 8 (λ_=>0))::_) at I;refine AL 1 E I λb5 a w E I=>?_;change U W w (aa b5 225 (ints .i32 8 (λ_=>0))::_) at I;refine RN 5 E I λa E=>?_;rw[dr (by omega)]at E;refine RN 3 E I λa E=>?_;rw[dr (by omega)]at E;refine RN 1 E I λa E=>?_;have WV:((ints .i32 32 g).drop (k*8)).take 8=ints .i32 8 (λj=>g (8*k+j)):=by rw[Nat.mul_comm k 8];exact Td g (by omega)
 refine bM 0 [] [0,1,2,3,1004] E I λa w E I hH hC=>?_;refine RH 3 E I hH hC λa E=>?_;rw[show ((k:Int)*8)=((k*8:Nat):Int) from by omega]at E;refine QP E (λw=>Tg E rX Ty.t21 (by omega)) λa E=>?_;rw[ei,fB]at E;refine RH 0 E I hH hC λa E=>?_;refine Th E rfl I Bl Ty.t21 rfl (k:=8) (vs:=ints .i32 8 (λj=>g (8*k+j))) (by omega) (by rw[← WV];exact I.qD 8) (dk _ _ _) u0 (by rw[dk,dk];decide) λa w E I=>?_;rw[show cH (ints .i32 8 (λ_=>0)) 0 (ints .i32 8 (λj=>g (8*k+j)))=ints .i32 8 (λj=>g (8*k+j)) from by simp[cH,dk]]at I;refine SA 2 E I λa w E I=>?_;refine RT 0 E I ?_;exact⟨rfl,I.sub⟩
structure Made (ps:List Pg)(g:Nat→Int)(t:Nat→Nat)(k:Nat)(gC:List Pg):Prop where
 len:gC.length=ps.length
 new:∀ j,j<k→∃ q,gC[t j]?=some q∧q.refs=1∧∀ l,l<8→q.g l=g (8*j+l)
 Fq:∀ j,j<k→∃ q,ps[t j]?=some q∧q.refs=0
 apart:∀ j l,j<k→l<k→t j=t l→j=l
 gw:∀ p,(∀ j,j<k→t j≠p)→gC[p]?=ps[p]?
 used:kb gC=kb ps+k
theorem Made.zero (ps:List Pg)(g:Nat→Int)(t:Nat→Nat):Made ps g t 0 ps:=⟨rfl,λ_ h=>by omega,λ_ h=>by omega,λ_ _ h=>by omega,λ_ _=>rfl,rfl⟩
theorem Made.free {ps gC:List Pg}{g:Nat→Int}{t:Nat→Nat}{k:Nat}(h:Made ps g t k gC)(hu:kb ps+k<ps.length):∃ f,u6 gC f:=by
 rcases E6 gC with bX | hf
 ·have:=K0 bX;rw[h.used,h.len]at this;omega
 ·exact hf
theorem Made.step {ps gC:List Pg}{g:Nat→Int}{t:Nat→Nat}{k f:Nat}(h:Made ps g t k gC)(hf:u6 gC f){g1:Nat→Int}(hg:∀ l,l<8→g1 l=g (8*k+l)) :
   Made ps g (λj=>if j=k then f else t j) (k+1) (gC.set f ⟨g1,1⟩):=by
 obtain⟨jA,jT,_⟩:=hf;have bq:∀ j,j<k→t j≠f:=λj hj e=>by
  obtain⟨q,h1,h2,_⟩:=h.new j hj;rw[e,aD jA]at h1;cases h1;omega
 have BA:ps[f]?=some gC[f]:=by rw[← h.gw f bq,aD jA]
 refine⟨by rw[bz];exact h.len,λj hj=>?_,λj hj=>?_,λj l hj hl e=>?_,λp hp=>?_,?_⟩
 ·by_cases qL:j=k
  ·subst qL;exact⟨⟨g1,1⟩,by simp[jA],rfl,hg⟩
  ·obtain⟨q,h1,h2,h3⟩:=h.new j (by omega);exact⟨q,by simp only[ag qL];rw[getElem?_set_ne (Ne.symm (bq j (by omega)))];exact h1,h2,h3⟩
 ·by_cases qL:j=k
  ·subst qL;exact⟨_,by simp only[if_true];exact BA,jT⟩
  ·simp only[ag qL];exact h.Fq j (by omega)
 ·by_cases h1:j=k <;> by_cases h2:l=k
  ·omega
  ·rw[aj h1,ag h2]at e;exact absurd e.symm (bq l (by omega))
  ·rw[ag h1,aj h2]at e;exact absurd e (bq j (by omega))
  ·rw[ag h1,ag h2]at e;exact h.apart j l (by omega) (by omega) e
 ·have h1:=hp k (by omega);simp only[if_true]at h1;rw[getElem?_set_ne h1];refine h.gw p λj hj e=>?_;have:=hp j (by omega);rw[ag (by omega)]at this;exact this e
 ·have:=List.countP_set (p:=λp:Pg=>decide (0<p.refs)) (a:=⟨g1,1⟩) jA;have hu:=h.used;simp only[kb]at hu ⊢;rw[this,hu];simp[jT,Nat.add_assoc]
theorem Made.rel {ps gC:List Pg}{g:Nat→Int}{t:Nat→Nat}(h:Made ps g t 4 gC)(hr:Rel A ps):Rel (A.add g t) gC:=by
 have hz:∀ j,j<4→cS A.ar (t j)=0:=λj hj=>by
  obtain⟨q,h1,h2⟩:=h.Fq j hj;rw[← hr.refs _ _ h1];exact h2
 refine⟨h.len.trans hr.len,λp q hq=>?_,λy hy k hk=>?_⟩
 ·simp only[Sn.add,yU,tD,Fg,Nat.add_zero];by_cases hp:∃ j,j<4∧t j=p
  ·obtain⟨j,hj,rfl⟩:=hp;obtain⟨q',h1,h2,_⟩:=h.new j hj;rw[h1]at hq;cases hq;rw[hz j hj,h2,u9];have E:=λl (hl:l<4) (e:t l=t j)=>h.apart l j hl hj e;simp only;rcases (by omega:j=0∨j=1∨j=2∨j=3) with rfl | rfl | rfl | rfl
   ·rw[aj rfl,ag (λe=>by have:=E 1 (by omega) e;omega),ag (λe=>by have:=E 2 (by omega) e;omega),ag (λe=>by have:=E 3 (by omega) e;omega)]
   ·rw[aj rfl,ag (λe=>by have:=E 0 (by omega) e;omega),ag (λe=>by have:=E 2 (by omega) e;omega),ag (λe=>by have:=E 3 (by omega) e;omega)]
   ·rw[aj rfl,ag (λe=>by have:=E 0 (by omega) e;omega),ag (λe=>by have:=E 1 (by omega) e;omega),ag (λe=>by have:=E 3 (by omega) e;omega)]
   ·rw[aj rfl,ag (λe=>by have:=E 0 (by omega) e;omega),ag (λe=>by have:=E 1 (by omega) e;omega),ag (λe=>by have:=E 2 (by omega) e;omega)]
  ·have hn:∀ j,j<4→t j≠p:=λj hj e=>hp ⟨j,hj,e⟩;rw[h.gw p hn]at hq;rw[hr.refs p q hq,Ff (x:=⟨A.last+1,1,g,t⟩) hn];rfl
 ·simp only[Sn.add]at hy;rcases e7.1 hy with hy | hy
  ·obtain⟨q,h1,h2⟩:=hr.pW y hy k hk;refine⟨q,?_,h2⟩;rw[h.gw _ λj hj e=>?_]
   ·exact h1
   ·have h3:=hz j hj;have h4:=va hy (t j);rw[e]at h3 h4;have:=tC (x:=y) hk;omega
  ·simp at hy;subst hy;obtain⟨q,h1,h2,h3⟩:=h.new k hk;exact⟨q,h1,h3⟩
abbrev n4 (P:Nat→Int):List Value:=ints .i64 4 P++[.int .i64 0]
theorem WW (P:Nat→Int):(n4 P).length=5:=by simp[n4,dk]
theorem WX {P:Nat→Int}{k:Nat}(h:k<4):(n4 P)[k]?=some (.int .i64 (P k)):=by
 rw[n4,mM (by rw[dk];exact h),ga _ h]
theorem WY {P:Nat→Int}{k:Nat}(v:Int)(h:k<4):(n4 P).set k (.int .i64 v)=n4 (λj=>if j=k then v else P j):=by
 rw[n4,uW _ _ (by rw[dk];exact h),ints_set,n4]
def tP (t:Nat→Nat)(k:Nat):Nat→Int:=λj=>if j<k then (t j:Int)+1 else 0
theorem WZ (t:Nat→Nat)(k f:Nat):(λj=>if j=k then ((f:Int)+1) else tP t k j)=tP (λj=>if j=k then f else t j) (k+1):=by
 funext j
 simp only[tP];by_cases h:j=k
 ·subst h;simp
 ·rw[ag h,ag h];by_cases h2:j<k
  ·rw[aj h2,aj (by omega)]
  ·rw[ag h2,ag (by omega)]
def oU (g:Nat→Int)(k j:Nat):Nat→Int:=λl=>if l<j then g (8*k+l) else 0
theorem W0 (g:Nat→Int)(k:Nat):oU g k 0=λ_=>0:=by funext l;simp[oU]
theorem W1 (g:Nat→Int)(k j:Nat):(λl=>if l=j then g (8*k+j) else oU g k j l)=oU g k (j+1):=by
 funext l
 simp only[oU];by_cases h:l=j
 ·subst h;simp
 ·rw[ag h];by_cases h2:l<j
  ·rw[aj h2,aj (by omega)]
  ·rw[ag h2,ag (by omega)]
theorem K3 {g:Nat→Int}(I:U W w (ax q r A::L))(hu:A.used+4≤A.room)(hb:A.n+1<1099511627776) :
   Calls prog 93 #[pt q,.agg (ints .i32 32 g).toArray] w λe w'=>∃ t:Nat→Nat,e=.returned (.tuple #[.int .i64 ((A.last+1:Nat):Int),.bool true]) ∧
    ((∀ j,j<4→t j<A.room∧cS A.ar (t j)=0)∧∀ j l,j<4→l<4→t j=t l→j=l)∧U W w' (ax q r (A.add g t)::L):=by
 refine EN func93 ntmps93 rfl rfl λa E=>?_;refine BX 1 E I λb3 a w E I=>?_;refine CL 5 E I (K2 (I.pick (ax q r A))) λa w E I=>?_;rw[dr (by omega)]at E;refine RN 1 E I λa E=>?_;replace E:=E.aQ 12;refine RN 2 E I λa E=>?_;obtain⟨b,m,ps,xs,h1,hw,hr,I⟩:=ax.open I;have n0:=hr.used;have gD:=hr.len;refine AL 0 E I λcJ a w E I=>?_;change U W w (aa cJ 232 (n4 (tP (λ_=>0) 0))::_) at I;refine RN 3 E I λa E=>?_;refine aL (λμ a w=>∃ (k:Nat) (t:Nat→Nat) (gC:List Pg),(μ=4-k∧k≤4∧Made ps g t k gC)∧Fr a 50 [(0,pt q),(3,pt b3),(6,pt cJ),(13,.int .i64 k)]∧U W w (Room r b gC::aa cJ 232 (n4 (tP t k))::aa b3 183 (ints .i32 32 g)::aa q 221 [pt r,.map (some m),.int .i64 A.last]::mp m (kvs xs)::ah jl xs::L)) (4) (⟨0,λ_=>0,ps,⟨by simp,by simp,Made.zero _ _ _⟩,E.ab [0,3,6,13],I.sub⟩) ?_;clear E I;rintro μ a w ⟨k,t,gC,⟨rfl,hk,hm⟩,E,I⟩;refine IF 3 E I (λao a E=>?_) λao a E=>?_
 ·
  refine RN 5 E I λa E=>?_;have K4:=hm.used;obtain⟨f,hf⟩:=hm.free (by omega);have aS:=λ(g1:Nat→Int) h=>hm.step (g1:=g1) hf h;have jA:=hf.1;refine CL 5 E I (KC (I.pick (Room r b gC)) hf) λa w E I=>?_;refine ST 5 E I (λa w E I=>?_) (hlt:=(by rw[WW];omega));rw[WY _ (by omega),WZ]at I;refine CL 3 E I (WU I (by omega)) λa w E I=>?_;refine RN 1 E I λa E=>?_;refine aL (λμ a w=>∃ j:Nat,(μ=8-j∧j≤8)∧Fr a 50 [(0,pt q),(3,pt b3),(6,pt cJ),(7,.int .i64 k),(13,.int .i64 k),(29,.agg (ints .i32 8 (λj=>g (8*k+j))).toArray),(30,.int .i64 j)]∧U W w (Room r b (gC.set f ⟨oU g k j,1⟩)::aa cJ 232 (n4 (tP (λj=>if j=k then f else t j) (k+1)))::aa b3 183 (ints .i32 32 g)::aa q 221 [pt r,.map (some m),.int .i64 A.last]::mp m (kvs xs)::ah jl xs::L)) (8) (⟨0,⟨by simp,by simp⟩,E.ab [0,3,6,7,13,29,30],by rw[W0];rw[show pU=(⟨λ_=>0,1⟩:Pg) from rfl]at I;exact I.sub⟩) ?_;clear E I;rintro μ a w ⟨j,⟨rfl,hj⟩,E,I⟩;refine IF 3 E I (λay a E=>?_) λay a E=>?_
  ·
   refine RN 3 E I λa E=>?_;refine SS E (te E EZ tn rfl Ty.t21 (by omega) (ga _ (by omega))) λa E=>?_;refine bM 2 [7] [0,1,2,4,5,6,8,9,3003,1007,1010] E I λa w E I hH hC=>?_;refine RH 9 E I hH hC λa E=>?_;refine SS E (ae E (I.bC (WX (by omega)))) λa E=>?_;rw[show tP (λj=>if j=k then f else t j) (k+1) k=(f:Int)+1 from by simp[tP]]at E;have eP:f<(gC.set f ⟨oU g k j,1⟩).length:=by rw[bz];exact jA
   have w8:(gC.set f ⟨oU g k j,1⟩)[f]=⟨oU g k j,1⟩:=by rw[oP]
   refine RH 0 E I hH hC λa E=>?_;refine CL 0 E I (E5 (I.pick (Room r b (gC.set f ⟨oU g k j,1⟩))) eP (by rw[w8]) (show j<8 by omega)) λa w E I=>?_;rw[w8,set_set,W1]at I;refine RN 2 E I λa E=>?_;exact⟨8-(j+1),by omega,j+1,⟨rfl,by omega⟩,E.ab [0,3,6,7,13,29,30],I.sub⟩
  obtain rfl:j=8:=by omega
  have W3:=aS (oU g k 8) (λl hl=>by simp[oU,hl]);refine RN 2 E I λa E=>?_;exact⟨4-(k+1),by omega,k+1,_,_,⟨rfl,by omega,W3⟩,E.ab [0,3,6,13],I.sub⟩
 obtain rfl:k=4:=by omega
 have iu:n4 (tP t 4)=aC.cells ⟨A.last+1,0,g,t⟩:=by
  rw[n4,aC.cells];rw[yI (g:=tP t 4) (g':=λk=>(t k:Int)+1) (λj hj=>aj hj)];rfl
 rw[iu]at I;have BD:=hw.add hb g t;have BC:=hm.rel hr;refine bg 3 E I (KY (x:=⟨A.last+1,0,g,t⟩) (q:=q) (r:=r) (m:=m) (last:=A.last) (xs:=xs) (L:=Room r b gC::ah jl xs::L) I.sub (by have:=hw.bound;have:=hw.last;omega) (KX h1 hw)) λpb a w E I=>?_;refine RT 2 E I ?_;refine⟨t,rfl,⟨λj hj=>?_,λj l hj hl e=>hm.apart j l hj hl e⟩,?_⟩
 ·obtain⟨q',h5,h6⟩:=hm.Fq j hj;have h7:=(a2.1 h5).1;exact⟨by omega,by rw[← hr.refs _ _ h5];exact h6⟩
 ·have h6:=U.j7 (f:=jl) (l:=xs) (x:=(⟨A.last+1,1,g,t⟩,pb)) (I.sub (M:=aa pb 232 (aC.cells ⟨A.last+1,1,g,t⟩)::ah jl xs::aa q 221 [pt r,.map (some m),.int .i64 ((A.last+1:Nat):Int)]::mp m (kvs xs++[(((A.last+1:Nat):Int),pt pb)])::Room r b gC::L));rw[show kvs xs++[(((A.last+1:Nat):Int),Value.pointer (some ⟨pb,0,none⟩))]=kvs (xs++[(⟨A.last+1,1,g,t⟩,pb)]) from by simp[kvs]]at h6;exact ax.close (last:=A.last+1) (b:=b) (m:=m) (xs:=xs++[(⟨A.last+1,1,g,t⟩,pb)]) h6 (by simp[Sn.add,h1]) BD BC
end
end
section
structure Br where
 id:Nat
 frm:Int
 al:List (List UInt8)
 done:Nat
 snap:Nat
structure Tr where
 most:Nat
 l:List Br
 last:Nat
 epoch:Nat
def oa (p:List (List UInt8)):Prop:=p.length≤65536∧∀ b∈p,b.length≤1099511627776
abbrev ck (x:Br)(ad:Option Addr)(c:Nat):List Value:=[.int .i64 x.id,.int .i64 x.frm,.slice ad x.al.length c,.int .i64 x.done,.int .i64 x.snap]
abbrev Bx:=Br×Option Addr×Nat
abbrev db (x:Bx):List Value:=ck x.1 x.2.1 x.2.2
def bY (x:Bx):SP:=cj x.2.1 x.1.al.length x.2.2 x.1.al
theorem tH (x:Bx):(db x).length=5:=rfl
structure WT (T:Tr):Prop where
 most:T.most≤8∧T.l.length≤T.most
 last:T.last<1099511627776
 epoch:T.epoch<1099511627776
 ids:(T.l.map (·.id)).Pairwise (· < ·)
 ok:∀ x∈T.l,oa x.al∧x.done≤x.al.length∧1≤x.id∧x.id≤T.last
def Tree (tq sq:Nat)(T:Tr):SP:=λh=>∃ ad c xs,(xs.map (·.1)=T.l∧WT T) ∧
 cp [aa tq 236 [pt sq,.int .i64 T.most,.slice ad T.l.length c,.int .i64 T.last,.int .i64 T.epoch],Sl 238 5 ad T.l.length c (rows db xs),ah bY xs] h
section
variable {W w:World}{L L' R:List SP}{tq sq q r n c k:Nat}{ad:Option Addr}{A:Sn}{T:Tr}{x y:Br}{xs:List Bx}{p:List (List UInt8)}
theorem Tree.open (I:U W w (Tree tq sq T::L)):∃ ad c xs,xs.map (·.1)=T.l∧WT T ∧
   U W w (aa tq 236 [pt sq,.int .i64 T.most,.slice ad T.l.length c,.int .i64 T.last,.int .i64 T.epoch]::Sl 238 5 ad T.l.length c (rows db xs)::ah bY xs::L):=by
 obtain⟨⟨ad,c,xs⟩,⟨h1,h2⟩,h4⟩:=I.jS (ι:=Option Addr×Nat×List Bx) (p:=λi=>i.2.2.map (·.1)=T.l∧WT T)
  (B:=λi h=>cp [aa tq 236 [pt sq,.int .i64 T.most,.slice i.1 T.l.length i.2.1,.int .i64 T.last,.int .i64 T.epoch],Sl 238 5 i.1 T.l.length i.2.1 (rows db i.2.2),ah bY i.2.2] h)
  (λh ⟨ad,c,xs,h1,h2⟩=>⟨(ad,c,xs),h1,h2⟩)
 exact⟨ad,c,xs,h1,h2,h4.open λ_ h=>h⟩
theorem Tree.close {most last epoch:Nat}(I:U W w L)[k:fM L (aa tq 236 [pt sq,.int .i64 most,.slice ad n c,.int .i64 last,.int .i64 epoch]::Sl 238 5 ad n c (rows db xs)::ah bY xs::L') R]
   (h1:xs.map (·.1)=T.l) (h2:WT T) (e1:T.most=most:=by rfl) (e2:T.l.length=n:=by rfl) (e3:T.last=last:=by rfl) (ia:T.epoch=epoch:=by rfl):U W w (Tree tq sq T::L'):=by
 subst e1 e2 e3 ia;exact U.shut (M:=[_,_,_]) (I.sub (M:=aa tq 236 [pt sq,.int .i64 T.most,.slice ad T.l.length c,.int .i64 T.last,.int .i64 T.epoch]::Sl 238 5 ad T.l.length c (rows db xs)::ah bY xs::L')) (λ_ x=>⟨ad,c,xs,⟨h1,h2⟩,x⟩)
theorem Tree.same (ad:Option Addr)(c:Nat)(xs:List Bx)(I:U W w L)[k:fM L (aa tq 236 [pt sq,.int .i64 T.most,.slice ad T.l.length c,.int .i64 T.last,.int .i64 T.epoch]::Sl 238 5 ad T.l.length c (rows db xs)::ah bY xs::L') R]
   (h1:xs.map (·.1)=T.l) (h2:WT T):U W w (Tree tq sq T::L') :=
 U.shut (M:=[_,_,_]) (I.sub (M:=aa tq 236 [pt sq,.int .i64 T.most,.slice ad T.l.length c,.int .i64 T.last,.int .i64 T.epoch]::Sl 238 5 ad T.l.length c (rows db xs)::ah bY xs::L')) (λ_ x=>⟨ad,c,xs,⟨h1,h2⟩,x⟩)
class w9 (L:List SP)(tq:Nat)(sq:outParam Nat)(T:outParam Tr)(R:outParam (List SP)):Prop where perm:L.Perm (Tree tq sq T::R)
instance w9.head {L tq sq T}:w9 (Tree tq sq T::L) tq sq T L:=⟨lL _⟩
instance (priority:=low) w9.tail {B L tq sq T R}[h:w9 L tq sq T R]:w9 (B::L) tq sq T (B::R):=⟨(kE B h.perm).trans (c1 _ _ _)⟩
theorem U.tree (I:U W w L)(tq:Nat)[k:w9 L tq sq T R]:U W w (Tree tq sq T::R):=I.perm k.perm
theorem Tree.wt (I:U W w (Tree tq sq T::L)):WT T:=by obtain⟨_,_,_,_,h,_⟩:=Tree.open I;exact h
theorem Fs (h1:xs.map (·.1)=T.l)(hx:T.l[k]?=some x):∃ ad c,xs[k]?=some (x,ad,c):=by
 rw[← h1,bd]at hx;obtain⟨⟨y,ad,c⟩,h2,rfl⟩:=r0.1 hx;exact⟨ad,c,h2⟩
theorem oV {b off:Nat}(hr:Rd w b off (rows db xs)){av:Option Addr}{c':Nat}(hx:xs[k]?=some (x,av,c')):Rd w b (off+k*5) (ck x av c'):=by
 obtain⟨hi,he⟩:=a2.1 hx;have:=hr.part (k*5) 5;rw[wM tH xs k hi,he]at this;exact this
theorem ah.pY (I:U W w (ah bY xs::L)){av:Option Addr}{c':Nat}(hx:xs[k]?=some (x,av,c')):lj w av x.al.length x.al∧x.al.length≤c':=by
 obtain⟨hi,he⟩:=a2.1 hx;have h:=I.fA hi;rw[he]at h;have h2:U W w (cj av x.al.length c' x.al::_):=h;exact⟨cj.rd h2,(cj.le h2).2⟩
theorem W4 {s:Nat}{m:Int}(I:U W w L):Calls prog 91 #[pt s,.int .i64 m] w λe w'=>∃ tq,e=.returned (pt tq)∧U W w' (Tree tq s ⟨(min (max m 0) 8).toNat,[],0,0⟩::L):=by
 refine EN func91 ntmps91 rfl rfl λa E=>?_;refine BX 8 E I λkO a w E I=>?_;refine RT 1 E I ?_;rw[show min (max m 0) 8=(((min (max m 0) 8).toNat:Nat):Int) from by omega]at I;have h:U W w (Sl 238 5 none 0 0 (rows db [])::ah bY []::aa kO 236 [pt s,.int .i64 (((min (max m 0) 8).toNat:Nat):Int),.slice none 0 0,.int .i64 ((0:Nat):Int),.int .i64 ((0:Nat):Int)]::L):=(I.ji (f:=bY)).bQ 238 5 none;exact⟨kO,rfl,Tree.close (T:=⟨(min (max m 0) 8).toNat,[],0,0⟩) (most:=(min (max m 0) 8).toNat) (ad:=none) (c:=0) (n:=0) (last:=0) (epoch:=0) (xs:=[]) h rfl ⟨⟨by simp only;omega,Nat.zero_le _⟩,by simp,by simp,by simp,by simp⟩⟩
def pZ (a b:List (List UInt8)):Bool:=a.take (min a.length b.length)==b.take (min a.length b.length)
theorem W5 {u v:List (List UInt8)}{ad2:Option Addr}{c2:Nat}(di:lj w ad u.length u)(lP:lj w ad2 v.length v)(ao:u.length≤c)(ay:v.length≤c2)(hb:u.length≤1099511627776) :
   Calls prog 295 #[.slice ad u.length c,.slice ad2 v.length c2] w λe w'=>e=.returned (.bool (pZ u v))∧w'=w.drew:=by
 obtain⟨W,yR⟩:∃ W,w=W:=⟨w,rfl⟩;have I:U W w []:=yR ▸ U.start w;refine EN func295 ntmps295 rfl rfl λa E=>?_;refine RN 8 E I λa E=>?_;rw[show min (u.length:Int) (v.length:Int)=((min u.length v.length:Nat):Int) from by omega]at E;refine RN 2 E I λa E=>?_;have K5:lj w.drew ad u.length u:=di;have pL:lj w.drew ad2 v.length v:=lP;refine rT 0 (λ_=>True) [] [0,1,2,3,4,5,1006,7] E I λa E=>?_;replace I:=I.drew;generalize w.drew=w at I K5 pL ⊢;have hC:=trivial;have hH:=Hd.any (λ_=>True);refine RH 6 E I hH hC λa E=>?_;rw[rZ,rZ,Nat.sub_zero,Nat.sub_zero,Nat.sub_zero]at E;refine CL 0 E I (VP (p:=u.take (min u.length v.length)) (q:=v.take (min u.length v.length)) (K5.take (by omega)) (pL.take (by omega)) (by omega)) λa w E hx=>?_;obtain rfl:=hx;refine RN 1 E (U.start _) λa E=>?_;refine RT 0 E (U.start _) ?_;exact⟨rfl,rfl⟩
theorem Ft {u v:List (List UInt8)}{ad2:Option Addr}{c2:Nat}(I:U W w L)(di:lj w ad u.length u)(lP:lj w ad2 v.length v)(ao:u.length≤c)(ay:v.length≤c2)(hb:u.length≤1099511627776) :
   Calls prog 295 #[.slice ad u.length c,.slice ad2 v.length c2] w λe w'=>e=.returned (.bool (pZ u v))∧U W w' L :=
 (W5 di lP ao ay hb).mono λe w' ⟨h1,h2⟩=>⟨h1,by subst h2;exact I.drew⟩
theorem K6 {m:Nat}{zs:List ee}(I:U W w L)(hr:∀ w',U W w' L→iQ w' ad zs)(hm:zs.length=m)(ds:oa (zs.map (·.2.2))) :
   Calls prog 165 #[.slice ad m c] w λe w'=>∃ av c',e=.returned (.slice av m c')∧U W w' (cj av m c' (zs.map (·.2.2))::L):=by
 obtain⟨K7,W6⟩:=ds;rw[a8]at K7;refine EN func165 ntmps165 rfl rfl λa E=>?_;refine RN 6 E I λa E=>?_;replace I:=cj.nil I;refine RN 3 E I λa E=>?_;refine aL (λμ a w=>∃ (k:Nat) (fx:Option Addr) (c3:Nat),(μ=m-k∧k≤m)∧Fr a 19 [(3,.slice fx k c3),(6,.slice ad m c),(7,.int .i64 m),(8,.int .i64 k)]∧U W w (cj fx k c3 ((zs.map (·.2.2)).take k)::L)) (m) (⟨0,none,0,⟨by simp,by simp⟩,E.ab [3,6,7,8],I⟩) ?_;clear E I;rintro μ a w ⟨k,fx,c3,⟨rfl,hk⟩,E,I⟩;refine IF 3 E I (λak a E=>?_) λak a E=>?_
 ·
  refine RN 2 E I λa E=>?_;obtain⟨b1,o1,rfl,h1⟩:=(hr _ I.tail).1 (by omega);have eN:zs[k]?=some zs[k]:=aD (by omega);have oW:=W6 zs[k].2.2 (cX.2 ⟨zs[k],jj _,rfl⟩);have lS:=h1 k _ (by rw[bd,eN];rfl);refine RN 1 E I λa E=>?_;refine SS E (ae E (lS)) λa E=>?_;refine aY 3 E I (ts (bs:=zs[k].2.2) I (λw' h=>(hr _ h.tail).2 _ (jj _)) oW) λmU en a w E I=>?_;refine RN 0 E I λa E=>?_;refine ct E rfl I pT Ty.t22 rfl rfl rfl rfl (by decide) (by decide) λW7 a w E I ho=>?_;clear ho;obtain⟨ys,hG,iR,I⟩:=cj.open (I.pick (cj fx k c3 ((zs.map (·.2.2)).take k)));refine RN 0 E I λa E=>?_;refine cR E rfl I pT Ty.t22 rfl rfl I.ai rfl (by simp[Value.oneCell']) (by decide) (by decide) (by omega) λFu Fv a w E I=>?_;have h8:=U.j7 (f:=ba) (l:=ys) (x:=(mU,en,zs[k].2.2)) (I.sub (M:=Sl 5 1 mU zs[k].2.2.length en (bc zs[k].2.2)::ah ba ys::Sl 22 1 Fu (k+1) Fv (ys.map aK++[[.slice mU zs[k].2.2.length en]].flatten)::L));have h9:U W w (ah ba (ys++[(mU,en,zs[k].2.2)])::Sl 22 1 Fu (k+1) Fv ((ys++[(mU,en,zs[k].2.2)]).map aK)::L):=by
   rw[cY];exact h8
  have dR:k<(zs.map (·.2.2)).length:=by rw[a8];omega
  have fO:=cj.close (p:=(zs.map (·.2.2)).take (k+1)) (ad:=Fu) (n:=k+1) (c:=Fv) (xs:=ys++[(mU,en,zs[k].2.2)]) (L':=L) h9 (by rw[cY,hG,jD dR];simp) (by rw[eA];omega);replace I:=fO;clear h8 h9 fO;refine RN 3 E I λa E=>?_;exact⟨m-(k+1),by omega,k+1,_,_,⟨rfl,by omega⟩,E.ab [3,6,7,8],I⟩
 refine RT 3 E I ?_;obtain rfl:k=m:=by omega
 rw[gl (by rw[a8];omega)]at I;exact⟨_,_,rfl,I⟩
theorem K8 {zs:List ee}{av:Option Addr}{c':Nat}(I:U W w L)(hr:∀ w',U W w' L→iQ w' av zs)(hz:zs.map (·.2.2)=x.al)(ds:oa x.al) :
   Calls prog 123 #[.agg (ck x av c').toArray] w λe w'=>∃ ad2 c2,e=.returned (.agg (ck x ad2 c2).toArray)∧U W w' (cj ad2 x.al.length c2 x.al::L):=by
 have jz:zs.length=x.al.length:=by rw[← hz,a8]
 refine EN func123 ntmps123 rfl rfl λa E=>?_;refine BX 1 E I λb1 a w E I=>?_;refine AL 0 E I λb2 a w E I=>?_;refine aY 3 E I (K6 I (λw' h=>hr w' h.tail.tail) jz (by rw[hz];exact ds)) λad2 c2 a w E I=>?_;rw[hz]at I;refine ST 1 E I (λa w E I=>?_) (hlt:=(by simp[ck]));refine SA 2 E I λa w E I=>?_;refine RT 0 E I ?_;exact⟨ad2,c2,rfl,I.sub⟩
theorem W8 {b:Nat}{id:Int}{av:Option Addr}{c':Nat}(I:U W w (aa b 2 [.int .i64 id]::L)) :
   Calls prog 212 #[.agg (ck x av c').toArray,pt b] w λe w'=>e=.returned (.bool (decide ((x.id:Int)=id)))∧U W w' (aa b 2 [.int .i64 id]::L):=by
 refine EN func212 ntmps212 rfl rfl λa E=>?_;refine BX 1 E I λb2 a w E I=>?_;refine RT 7 E I ?_;exact⟨rfl,I.sub⟩
theorem W9 {b:Nat}{id:Int}{av:Option Addr}{c':Nat}(I:U W w (aa b 2 [.int .i64 id]::Sl 238 5 av n c' (rows db xs)::L))(hb:n≤1048576) :
   Calls prog 211 #[.slice av n c',.func (.func 212) #[] #[pt b]] w λe w' =>
    ∃ r:Int,e=.returned (.int .i64 r)∧((r = -1∧∀ y∈xs,(y.1.id:Int)≠id)∨∃ k y,r=(k:Nat)∧xs[k]?=some y∧(y.1.id:Int)=id)∧U W w' (Sl 238 5 av n c' (rows db xs)::L):=by
 have b7:xs.length=n:=by
  have:=(I.tail.sl av).1;rw[jC tH]at this;omega
 refine EN func211 ntmps211 rfl rfl λa E=>?_;refine RN 7 E I λa E=>?_;refine aL (λμ a w=>∃ k:Nat,(μ=n-k∧k≤n∧∀ j y,j<k→xs[j]?=some y→(y.1.id:Int)≠id)∧Fr a 19 [(0,.slice av n c'),(1,.func (.func 212) #[] #[pt b]),(7,.int .i64 n),(8,.int .i64 k)]∧U W w (aa b 2 [.int .i64 id]::Sl 238 5 av n c' (rows db xs)::L)) (n) (⟨0,⟨by simp,by simp,by omega⟩,E.ab [0,1,7,8],I⟩) ?_;clear E I;rintro μ a w ⟨k,⟨rfl,hk,bX⟩,E,I⟩;refine IF 3 E I (λak a E=>?_) λak a E=>?_
 ·
  refine RN 5 E I λa E=>?_;obtain⟨b',dK,rfl,da⟩:=I.tail.bU av (by omega);obtain⟨⟨y,K9,La⟩,hy⟩:∃ y,xs[k]?=some y:=⟨_,aD (by omega)⟩;have gb:=oV da hy;refine RN 4 E I λa E=>?_;refine SS E (bT E oS rfl Ty.t238 (gb)) λa E=>?_;refine CL 0 E I (W8 (x:=y) (av:=K9) (c':=La) I) λa w E I=>?_;refine IF 0 E I (λao a E=>?_) λao a E=>?_
  ·
   skip
   refine RT 3 E I ?_;exact⟨_,rfl,.inr ⟨k,(y,K9,La),rfl,hy,ao⟩,I.tail⟩
  refine RN 2 E I λa E=>?_;refine⟨n-(k+1),by omega,k+1,⟨rfl,by omega,λj z hj hz=>?_⟩,E.ab [0,1,7,8],I⟩;by_cases qL:j=k
  ·subst qL;rw[hy]at hz;cases hz;exact ao
  ·exact bX j z (by omega) hz
 refine RT 2 E I ?_;refine⟨-1,rfl,.inl ⟨rfl,λz hz=>?_⟩,I.tail⟩;obtain⟨j,hj⟩:=ke.1 hz;have dO:=(a2.1 hj).1;exact bX j z (by omega) hj
theorem Fw {id:Int}(I:U W w (Tree tq sq T::L)) :
   Calls prog 183 #[pt tq,.int .i64 id] w λe w' =>
    ∃ r:Int,e=.returned (.int .i64 r)∧((r = -1∧∀ y∈T.l,(y.id:Int)≠id)∨∃ k y,r=(k:Nat)∧T.l[k]?=some y∧(y.id:Int)=id)∧U W w' (Tree tq sq T::L):=by
 refine EN func183 ntmps183 rfl rfl λa E=>?_;refine BX 1 E I λb3 a w E I=>?_;refine RN 5 E I λa E=>?_;replace E:=E.aQ 6;refine RN 2 E I λa E=>?_;obtain⟨ad,c,xs,h1,hw,I⟩:=Tree.open (I.tree tq);have hT:=hw.most;refine bg 5 E I (W9 (xs:=xs) (b:=b3) (id:=id) (av:=ad) (c':=c) (n:=T.l.length) (L:=aa tq 236 [pt sq,.int .i64 T.most,.slice ad T.l.length c,.int .i64 T.last,.int .i64 T.epoch]::ah bY xs::L) I.sub (by omega)) λr a w E ⟨hr,I⟩=>?_;refine RT 1 E I ?_;refine⟨r,rfl,?_,Tree.same ad c xs I h1 hw⟩;rcases hr with ⟨h2,h3⟩ | ⟨k,y,h2,h3,h4⟩
 ·refine .inl ⟨h2,λy hy=>?_⟩;rw[← h1]at hy;obtain⟨z,hz,rfl⟩:=cX.1 hy;exact h3 z hz
 ·exact .inr ⟨k,y.1,h2,by rw[← h1,bd,h3];rfl,h4⟩
theorem U.Lb (I:U W w (ah bY xs::L)){av:Option Addr}{c':Nat}(hx:xs[k]?=some (x,av,c')):∃ zs:List ee,zs.map (·.2.2)=x.al∧x.al.length≤c' ∧
   U W w (Sl 22 1 av x.al.length c' (zs.map aK)::ah ba zs::ah bY (xs.eraseIdx k)::L):=by
 obtain⟨hi,he⟩:=a2.1 hx;have h:=I.fA hi;rw[he]at h;have h2:U W w (cj av x.al.length c' x.al::ah bY (xs.eraseIdx k)::L):=h;obtain⟨zs,h3,h4,h5⟩:=cj.open h2;exact⟨zs,h3,(cj.le h2).2,h5⟩
theorem U.Lc {zs:List ee}{av:Option Addr}{c':Nat}(I:U W w L)[kk:fM L (Sl 22 1 av n c' (zs.map aK)::ah ba zs::ah bY (xs.eraseIdx k)::L') R](hx:xs[k]?=some (x,av,c'))(hz:zs.map (·.2.2)=x.al)(hn:x.al.length=n):U W w (ah bY xs::L'):=by
 subst hn;obtain⟨hi,he⟩:=a2.1 hx;have h1:=I.sub (M:=Sl 22 1 av x.al.length c' (zs.map aK)::ah ba zs::ah bY (xs.eraseIdx k)::L');have h2:=cj.close (L':=ah bY (xs.eraseIdx k)::L') (p:=x.al) (ad:=av) (n:=x.al.length) (c:=c') (xs:=zs) h1 hz rfl;have h3:U W w (bY (x,av,c')::ah bY (xs.eraseIdx k)::L'):=h2;have h4:=U.la hi h3;rw[← he,mT]at h4;exact h4
theorem y0 (I:U W w (Tree tq sq T::L))(hx:T.l[k]?=some x) :
   Calls prog 143 #[pt tq,.int .i64 x.id] w λe w'=>∃ ad c,e=.returned (.tuple #[.agg (ck x ad c).toArray,.bool true])∧U W w' (cj ad x.al.length c x.al::Tree tq sq T::L):=by
 refine EN func143 ntmps143 rfl rfl λa E=>?_;refine AL 1 E I λb4 a w E I=>?_;refine bg 4 E I (Fw (id:=(x.id:Int)) (I.tree tq)) λr a w E ⟨hr,I⟩=>?_;obtain⟨hw,gb⟩:WT T∧r=(k:Nat):=by
  have hw:=Tree.wt I;refine⟨hw,?_⟩;rcases hr with ⟨_,h3⟩ | ⟨j,y,h2,h3,h4⟩
  ·exact absurd rfl (h3 x (bI hx))
  ·have hp:=List.pairwise_iff_getElem.1 hw.ids;obtain⟨hj,rfl⟩:=a2.1 h3;obtain⟨hk,rfl⟩:=a2.1 hx;rcases Nat.lt_trichotomy j k with hl | hl | hl
   ·have:=hp j k (by simpa using hj) (by simpa using hk) hl;simp at this;omega
   ·rw[h2,hl]
   ·have:=hp k j (by simpa using hk) (by simpa using hj) hl;simp at this;omega
 subst gb;have dR:=(a2.1 hx).1;have kP:=(hw.ok x (bI hx)).1;clear hr;refine RN 5 E I λa E=>?_;rw[bu (by omega)]at E;refine RN 2 E I λa E=>?_;obtain⟨ad,c,xs,h1,hw,I⟩:=Tree.open (I.tree tq);obtain⟨eK,de,dZ⟩:=Fs h1 hx;obtain⟨b',dK,rfl,da⟩:=I.tail.bU ad (by omega);have gb:=oV da dZ;refine RN 6 E I λa E=>?_;refine SS E (bT E oS rfl Ty.t238 (gb)) λa E=>?_;obtain⟨zs,cW,eU,I⟩:=U.Lb (I.pick (ah bY xs)) dZ;refine aY 0 E I (K8 (x:=x) (av:=eK) (c':=de) I (λw' h=>U.mQ h) cW kP) λad2 c2 a w E I=>?_;refine SA 0 E I λa w E I=>?_;refine RT 1 E I ?_;have h5:=U.Lc (L':=cj ad2 x.al.length c2 x.al::aa tq 236 [pt sq,.int .i64 T.most,.slice (some ⟨b',dK,none⟩) T.l.length c,.int .i64 T.last,.int .i64 T.epoch]::Sl 238 5 (some ⟨b',dK,none⟩) T.l.length c (rows db xs)::L) I dZ cW rfl;refine⟨ad2,c2,rfl,?_⟩;have h6:=Tree.same (tq:=tq) (sq:=sq) (T:=T) (L':=cj ad2 x.al.length c2 x.al::L) (some ⟨b',dK,none⟩) c xs h5 h1 hw;exact h6.perm (c1 _ _ _)
theorem Xa {id:Int}(I:U W w (Tree tq sq T::L))(hn:∀ y∈T.l,(y.id:Int)≠id) :
   Calls prog 143 #[pt tq,.int .i64 id] w λe w'=>e=.returned (.tuple #[.agg (ck ⟨0,0,[],0,0⟩ none 0).toArray,.bool false])∧U W w' (Tree tq sq T::L):=by
 refine EN func143 ntmps143 rfl rfl λa E=>?_;refine AL 1 E I λb4 a w E I=>?_;refine bg 4 E I (Fw (id:=id) (I.tree tq)) λr a w E ⟨hr,I⟩=>?_;obtain rfl:r = -1:=by
  rcases hr with ⟨h,_⟩ | ⟨j,y,_,h3,h4⟩
  ·exact h
  ·exact absurd h4 (hn y (bI h3))
 clear hr;refine RN 5 E I λa E=>?_;replace E:=E.ek 11;refine SA 3 E I λa w E I=>?_;refine RT 1 E I ?_;exact⟨rfl,I.sub⟩
theorem BF (I:U W w (Tree tq sq T::L)) :
   Calls prog 144 #[pt tq] w λe w'=>e=.returned (.int .i64 T.epoch)∧U W w' (Tree tq sq T::L):=by
 obtain⟨ad,c,xs,h1,hw,I⟩:=Tree.open I;refine EN func144 ntmps144 rfl rfl λa E=>?_;refine RN 6 E I λa E=>?_;replace E:=E.aQ 4;refine RT 7 E I ?_;exact⟨rfl,Tree.same ad c xs I h1 hw⟩
def ln (ad:Option Addr)(n c:Nat)(l:List Br):SP:=λh=>∃ ys:List Bx,(ys.map (·.1)=l∧l.length=n)∧cp [Sl 238 5 ad n c (rows db ys),ah bY ys] h
theorem ln.open {l:List Br}(I:U W w (ln ad n c l::L)):∃ ys:List Bx,ys.map (·.1)=l∧l.length=n∧U W w (Sl 238 5 ad n c (rows db ys)::ah bY ys::L):=by
 obtain⟨xs,⟨h1,h2⟩,h3⟩:=I.jS (ι:=List Bx) (p:=λxs=>xs.map (·.1)=l∧l.length=n) (B:=λxs h=>cp [Sl 238 5 ad n c (rows db xs),ah bY xs] h) (λh ⟨xs,h1,h2⟩=>⟨xs,h1,h2⟩);exact⟨xs,h1,h2,h3.open λ_ h=>h⟩
theorem ln.close {l:List Br}(ys:List Bx)(I:U W w L)[k:fM L (Sl 238 5 ad n c (rows db ys)::ah bY ys::L') R](h1:ys.map (·.1)=l)(h2:l.length=n):U W w (ln ad n c l::L') :=
 U.shut (M:=[_,_]) (I.sub (M:=Sl 238 5 ad n c (rows db ys)::ah bY ys::L')) (λ_ x=>⟨ys,⟨h1,h2⟩,x⟩)
theorem ln.nil (I:U W w L):U W w (ln none 0 0 []::L):=by
 have h:U W w (Sl 238 5 none 0 0 (rows db [])::ah bY []::L):=(I.ji (f:=bY)).bQ 238 5 none;exact ln.close [] h rfl rfl
theorem Xb (ys:List Bx)(y:Bx):rows db ys++[db y].flatten=rows db (ys++[y]):=by rw[kK];simp[rows]
theorem Fx (ys:List Bx)(x:Br)(ad:Option Addr)(c:Nat):rows db ys++[ck x ad c].flatten=rows db (ys++[(x,ad,c)]):=Xb ys (x,ad,c)
theorem BG (I:U W w (Tree tq sq T::L)) :
   Calls prog 88 #[pt tq] w λe w'=>∃ ad c,e=.returned (.slice ad T.l.length c)∧U W w' (ln ad T.l.length c T.l::Tree tq sq T::L):=by
 obtain⟨ad,c,xs,h1,hw,I⟩:=Tree.open I;have b7:xs.length=T.l.length:=by rw[← h1,a8]
 have hT:=hw.most;refine EN func88 ntmps88 rfl rfl λa E=>?_;refine RN 6 E I λa E=>?_;replace E:=E.aQ 7;refine RN 5 E I λa E=>?_;replace I:=ln.nil I;refine RN 6 E I λa E=>?_;refine aL (λμ a w=>∃ (k:Nat) (fx:Option Addr) (c3:Nat),(μ=T.l.length-k∧k≤T.l.length)∧Fr a 24 [(3,.slice fx k c3),(11,.slice ad T.l.length c),(12,.int .i64 T.l.length),(13,.int .i64 k)]∧U W w (ln fx k c3 (T.l.take k)::aa tq 236 [pt sq,.int .i64 T.most,.slice ad T.l.length c,.int .i64 T.last,.int .i64 T.epoch]::Sl 238 5 ad T.l.length c (rows db xs)::ah bY xs::L)) (T.l.length) (⟨0,none,0,⟨by simp,by simp⟩,E.ab [3,11,12,13],I⟩) ?_;clear E I;rintro μ a w ⟨k,fx,c3,⟨rfl,hk⟩,E,I⟩;refine IF 3 E I (λao a E=>?_) λao a E=>?_
 ·
  refine RN 2 E I λa E=>?_;obtain⟨b',dK,rfl,da⟩:=I.bU ad (by omega);obtain⟨⟨x,eK,de⟩,dZ⟩:∃ y,xs[k]?=some y:=⟨_,aD (by omega)⟩;have gb:=oV da dZ;have jG:T.l[k]?=some x:=by rw[← h1,bd,dZ];rfl
  have kP:=(hw.ok x (bI jG)).1;refine RN 1 E I λa E=>?_;refine SS E (bT E oS rfl Ty.t238 (gb)) λa E=>?_;refine AL 0 E I λb5 a w E I=>?_;refine SA 0 E I λa w E I=>?_;refine RN 2 E I λa E=>?_;obtain⟨zs,cW,eU,I⟩:=U.Lb (I.pick (ah bY xs)) dZ;refine aY 0 E I (K8 (x:=x) (av:=eK) (c':=de) I (λw' h=>U.mQ h) cW kP) λad2 c2 a w E I=>?_;refine RN 0 E I λa E=>?_;refine ct E rfl I u4 Ty.t238 rfl rfl rfl rfl (by decide) (by decide) λLd a w E I ho=>?_;clear ho;obtain⟨ys,hG,iR,I⟩:=ln.open (I.pick (ln fx k c3 (T.l.take k)));refine RN 0 E I λa E=>?_;refine cR E rfl I u4 Ty.t238 rfl rfl I.ai rfl (by simp[Value.oneCell',ck]) (by decide) (by decide) (by omega) λr9 sa a w E I=>?_;have h8:=U.j7 (f:=bY) (l:=ys) (x:=(x,ad2,c2)) (I.sub (M:=cj ad2 x.al.length c2 x.al::ah bY ys::Sl 238 5 r9 (k+1) sa (rows db ys++[ck x ad2 c2].flatten)::Sl 22 1 eK x.al.length de (zs.map aK)::ah ba zs::ah bY (xs.eraseIdx k)::aa tq 236 [pt sq,.int .i64 T.most,.slice (some ⟨b',dK,none⟩) T.l.length c,.int .i64 T.last,.int .i64 T.epoch]::Sl 238 5 (some ⟨b',dK,none⟩) T.l.length c (rows db xs)::L));rw[Fx]at h8;have h9:=ln.close (l:=T.l.take (k+1)) (n:=k+1) (ad:=r9) (c:=sa) (L':=Sl 22 1 eK x.al.length de (zs.map aK)::ah ba zs::ah bY (xs.eraseIdx k)::aa tq 236 [pt sq,.int .i64 T.most,.slice (some ⟨b',dK,none⟩) T.l.length c,.int .i64 T.last,.int .i64 T.epoch]::Sl 238 5 (some ⟨b',dK,none⟩) T.l.length c (rows db xs)::L) (ys++[(x,ad2,c2)]) h8 (by
   have dR:k<T.l.length:=by omega
   rw[cY,hG,jD dR];rw[aD dR]at jG;cases jG;rfl) (by rw[eA];omega)
  have fO:=U.Lc (L':=ln r9 (k+1) sa (T.l.take (k+1))::aa tq 236 [pt sq,.int .i64 T.most,.slice (some ⟨b',dK,none⟩) T.l.length c,.int .i64 T.last,.int .i64 T.epoch]::Sl 238 5 (some ⟨b',dK,none⟩) T.l.length c (rows db xs)::L) h9 dZ cW rfl;replace I:=fO;clear h8 h9 fO;refine RN 3 E I λa E=>?_;exact⟨T.l.length-(k+1),by omega,k+1,_,_,⟨rfl,by omega⟩,E.ab [3,11,12,13],I.sub⟩
 refine RT 3 E I ?_;obtain rfl:k=T.l.length:=by omega
 rw[lf]at I;refine⟨_,_,rfl,?_⟩;have h6:=Tree.same (tq:=tq) (sq:=sq) (T:=T) (L':=ln fx T.l.length c3 T.l::L) ad c xs I h1 hw;exact h6.perm (c1 _ _ _)
def Tr.add (T:Tr)(frm:Int)(p:List (List UInt8))(snap:Nat):Tr:={ T with l:=T.l++[⟨T.last+1,frm,p,0,snap⟩],last:=T.last+1 }
def Br.is (y:Br)(frm:Int)(p:List (List UInt8)):Prop:=y.frm=frm∧y.al=p
theorem Le {u v:List (List UInt8)}(h:u.length=v.length):(pZ u v=true)↔u=v:=by
 rw[pZ,← h,Nat.min_self,lf,h,lf];simp
theorem Lf {frm sn:Int}{ad2:Option Addr}{m c2:Nat}(I:U W w (Tree tq sq T::L))(h:T.most≤T.l.length∨m=0) :
   Calls prog 306 #[pt tq,.int .i64 frm,.int .i64 sn,.slice ad2 m c2] w λe w'=>e=.returned (.tuple #[.int .i64 0,.bool false])∧U W w' (Tree tq sq T::L):=by
 obtain⟨ad,c,xs,h1,hw,I⟩:=Tree.open I;refine EN func306 ntmps306 rfl rfl λa E=>?_;refine bM 5 [11] [0,1,2,3,4,5,8,9,10,3006,7,1011,12,13,14,15,16,17,18] E I λa w E I hH hC=>?_;refine RH 3 E I hH hC λa E=>?_;replace E:=E.aQ 16;refine RH 12 E I hH hC λa E=>?_;refine E.by (s:=28) (λlp E=>?_) (λlp E=>?_)
 ·
  refine RH 4 E I hH hC λa E=>?_;refine RT 4 E I ?_;exact⟨rfl,Tree.same ad c xs I h1 hw⟩
 refine RH 4 E I hH hC λa E=>?_;rw[dr (by omega)]at E;refine RT 4 E I ?_;exact⟨rfl,Tree.same ad c xs I h1 hw⟩
theorem Xc {frm sn:Int}{ad2:Option Addr}{c2 j:Nat}{y:Br}(I:U W w (Tree tq sq T::L))(hp:∀ w',U W w' L→lj w' ad2 p.length p)(hc:p.length≤c2)(ds:oa p)(hy:T.l[j]?=some y)(xc:y.is frm p) :
   Calls prog 306 #[pt tq,.int .i64 frm,.int .i64 sn,.slice ad2 p.length c2] w λe w'=>e=.returned (.tuple #[.int .i64 0,.bool false])∧U W w' (Tree tq sq T::L):=by
 obtain⟨ad,c,xs,h1,hw,I⟩:=Tree.open I;have b7:xs.length=T.l.length:=by rw[← h1,a8]
 have hT:=hw.most;have dO:=(a2.1 hy).1;refine EN func306 ntmps306 rfl rfl λa E=>?_;refine bM 5 [11] [0,1,2,3,4,5,8,9,10,3006,7,1011,12,13,14,15,16,17,18] E I λa w E I hH hC=>?_;refine RH 3 E I hH hC λa E=>?_;replace E:=E.aQ 16;refine RH 12 E I hH hC λa E=>?_;refine E.by (s:=28) (λlp E=>?_) (λlp E=>?_)
 ·
  refine RH 4 E I hH hC λa E=>?_;refine RT 4 E I ?_;exact⟨rfl,Tree.same ad c xs I h1 hw⟩
 refine RH 4 E I hH hC λa E=>?_;refine IF 0 E I (λak a E=>?_) λak a E=>?_
 ·
  refine RT 3 E I ?_;exact⟨rfl,Tree.same ad c xs I h1 hw⟩
 refine RN 8 E I λa E=>?_;refine aL (λμ a w=>∃ k:Nat,(μ=j-k∧k≤j)∧Fr a 101 [(1,.int .i64 frm),(3,.slice ad2 p.length c2),(36,.slice ad T.l.length c),(37,.int .i64 T.l.length),(38,.int .i64 k)]∧U W w (aa tq 236 [pt sq,.int .i64 T.most,.slice ad T.l.length c,.int .i64 T.last,.int .i64 T.epoch]::Sl 238 5 ad T.l.length c (rows db xs)::ah bY xs::L)) (j) (⟨0,⟨by simp,by simp⟩,E.ab [1,3,36,37,38],I.sub⟩) ?_;clear E I;rintro μ a w ⟨k,⟨rfl,hk⟩,E,I⟩;refine RN 3 E I λa E=>?_;rw[dr (by omega)]at E;refine RN 3 E I λa E=>?_;obtain⟨b',dK,rfl,da⟩:=I.bU ad (by omega);obtain⟨⟨x,eK,de⟩,dZ⟩:∃ y,xs[k]?=some y:=⟨_,aD (by omega)⟩;have gb:=oV da dZ;have jG:T.l[k]?=some x:=by rw[← h1,bd,dZ];rfl
 have kP:=(hw.ok x (bI jG)).1;have y1:k=j→x=y:=λe=>by rw[e,hy]at jG;cases jG;rfl
 refine RN 1 E I λa E=>?_;refine SS E (bT E oS rfl Ty.t238 (gb)) λa E=>?_;refine AL 0 E I λiS a w E I=>?_;refine SA 0 E I λa w E I=>?_;refine BY 6 E I (λdt a E=>?_) λdt a E=>?_
 ·
  refine BY 8 E I (λhJ a E=>?_) λhJ a E=>?_
  ·
   refine RN 3 E I λa E=>?_;have fP:=ah.pY (I.pick (ah bY xs)) dZ;refine CL 0 E I (Ft (u:=x.al) (v:=p) I fP.1 (hp _ I.sub) fP.2 hc (by have:=kP.1;omega)) λa w E I=>?_;refine IF 1 E I (λay a E=>?_) λay a E=>?_
   ·
    refine RT 3 E I ?_;exact⟨rfl,Tree.same (some ⟨b',dK,none⟩) c xs I h1 hw⟩
   have bq : k ≠ j := fun e => by
       have BH:x.al=p:=by rw[y1 e];exact xc.2
       rw[(Le (by rw[BH])).2 BH]at ay;cases ay
   refine RN 2 E I λa E=>?_;exact⟨j-(k+1),by omega,k+1,⟨rfl,by omega⟩,E.ab [1,3,36,37,38],I.sub⟩
  have bq:k≠j:=λe=>hJ (by rw[y1 e,xc.2]);refine RN 3 E I λa E=>?_;have fP:=ah.pY (I.pick (ah bY xs)) dZ;refine RN 5 E I λa E=>?_;exact⟨j-(k+1),by omega,k+1,⟨rfl,by omega⟩,E.ab [1,3,36,37,38],I.sub⟩
 have bq:k≠j:=λe=>dt (by rw[y1 e];exact xc.1);refine RN 11 E I λa E=>?_;have fP:=ah.pY (I.pick (ah bY xs)) dZ;refine RN 5 E I λa E=>?_;exact⟨j-(k+1),by omega,k+1,⟨rfl,by omega⟩,E.ab [1,3,36,37,38],I.sub⟩
theorem WT.add {frm:Int}{sn:Nat}(h:WT T)(h1:T.l.length<T.most)(h2:T.last+1<1099511627776)(ds:oa p):WT (T.add frm p sn):=by
 obtain⟨cV,cc,a3,a4,a5⟩:=h;refine⟨⟨cV.1,by simp[Tr.add];omega⟩,h2,a3,?_,λx hx=>?_⟩
 ·simp only[Tr.add,cY,map_cons,map_nil];refine List.pairwise_append.2 ⟨a4,by simp,λu hu v hv=>?_⟩;obtain⟨x,hx,rfl⟩:=cX.1 hu;have:=(a5 x hx).2.2.2;simp at hv;omega
 ·simp only[Tr.add]at hx ⊢;rcases e7.1 hx with hx | hx
  ·obtain⟨b1,b2,b3,b4⟩:=a5 x hx;exact⟨b1,b2,b3,by omega⟩
  ·simp at hx;subst hx;exact⟨ds,Nat.zero_le _,by simp,a7 _⟩
theorem Xd {frm:Int}{ad2:Option Addr}{c2 i:Nat}{zs:List ee}{px:aC}(I:U W w (Tree tq sq T::ax sq r A::L))(hr:∀ w',U W w' L→iQ w' ad2 zs)(hz:zs.map (·.2.2)=p)(hc:p.length≤c2)(ds:oa p)
   (hx:A.ar[i]?=some px) (hb:A.n+1<1099511627776) (hl:T.last+1<1099511627776) (bX:∀ y∈T.l,¬ y.is frm p) (hm:T.l.length<T.most) (h0:0<p.length) :
   Calls prog 306 #[pt tq,.int .i64 frm,.int .i64 px.id,.slice ad2 p.length c2] w λe w'=>e=.returned (.tuple #[.int .i64 ((T.last+1:Nat):Int),.bool true])∧U W w' (Tree tq sq (T.add frm p (A.last+1))::ax sq r (A.add px.g px.p)::L):=by
 obtain⟨ad,c,xs,h1,hw,I⟩:=Tree.open I;have b7:xs.length=T.l.length:=by rw[← h1,a8]
 have hT:=hw.most;have hp:∀ w',U W w' L→lj w' ad2 p.length p:=λw' h=>by
  have:=(hr w' h).bb;rw[hz]at this
  rwa [show zs.length=p.length from by rw[← hz,a8]]at this
 refine EN func306 ntmps306 rfl rfl λa E=>?_;refine bM 5 [11] [0,1,2,3,4,5,8,9,10,3006,7,1011,12,13,14,15,16,17,18] E I λa w E I hH hC=>?_;refine RH 3 E I hH hC λa E=>?_;replace E:=E.aQ 16;refine RH 12 E I hH hC λa E=>?_;rw[bu (by omega)]at E;refine RH 4 E I hH hC λa E=>?_;rw[bu (by omega)]at E;refine RN 9 E I λa E=>?_;refine aL (λμ a w=>∃ k:Nat,(μ=T.l.length-k∧k≤T.l.length)∧Fr a 101 [(0,pt tq),(1,.int .i64 frm),(2,.int .i64 px.id),(3,.slice ad2 p.length c2),(36,.slice ad T.l.length c),(37,.int .i64 T.l.length),(38,.int .i64 k)]∧U W w (aa tq 236 [pt sq,.int .i64 T.most,.slice ad T.l.length c,.int .i64 T.last,.int .i64 T.epoch]::Sl 238 5 ad T.l.length c (rows db xs)::ah bY xs::ax sq r A::L)) (T.l.length) (⟨0,⟨by simp,by simp⟩,E.ab [0,1,2,3,36,37,38],I.sub⟩) ?_;clear E I;rintro μ a w ⟨k,⟨rfl,hk⟩,E,I⟩;refine IF 3 E I (λao a E=>?_) λao a E=>?_
 ·
  refine RN 2 E I λa E=>?_;obtain⟨b',dK,rfl,da⟩:=I.bU ad (by omega);obtain⟨⟨x,eK,de⟩,dZ⟩:∃ y,xs[k]?=some y:=⟨_,aD (by omega)⟩;have gb:=oV da dZ;have jG:T.l[k]?=some x:=by rw[← h1,bd,dZ];rfl
  have eJ:=bI jG;have kP:=(hw.ok x eJ).1;have Xe:=bX x eJ;refine RN 1 E I λa E=>?_;refine SS E (bT E oS rfl Ty.t238 (gb)) λa E=>?_;refine AL 0 E I λiS a w E I=>?_;refine SA 0 E I λa w E I=>?_;refine BY 6 E I (λdt a E=>?_) λdt a E=>?_
  ·
   refine BY 8 E I (λhJ a E=>?_) λhJ a E=>?_
   ·
    refine RN 3 E I λa E=>?_;have fP:=ah.pY (I.pick (ah bY xs)) dZ;refine CL 0 E I (Ft (u:=x.al) (v:=p) I fP.1 (hp _ I.sub) fP.2 hc (by have:=kP.1;omega)) λa w E I=>?_;refine IF 1 E I (λay a E=>?_) λay a E=>?_
    ·
     (try simp only at hJ);exact absurd ⟨by omega,(Le (by omega)).1 ay⟩ Xe
    refine RN 2 E I λa E=>?_;exact⟨T.l.length-(k+1),by omega,k+1,⟨rfl,by omega⟩,E.ab [0,1,2,3,36,37,38],I.sub⟩
   refine RN 3 E I λa E=>?_;have fP:=ah.pY (I.pick (ah bY xs)) dZ;refine RN 5 E I λa E=>?_;exact⟨T.l.length-(k+1),by omega,k+1,⟨rfl,by omega⟩,E.ab [0,1,2,3,36,37,38],I.sub⟩
  refine RN 11 E I λa E=>?_;have fP:=ah.pY (I.pick (ah bY xs)) dZ;refine RN 5 E I λa E=>?_;exact⟨T.l.length-(k+1),by omega,k+1,⟨rfl,by omega⟩,E.ab [0,1,2,3,36,37,38],I.sub⟩
 refine CL 6 E I (KZ (I.pick (ax sq r A)) hx hb) λa w E I=>?_;refine RN 9 E I λa E=>?_;replace E:=E.aQ 71;refine ST 9 E I (λa w E I=>?_);rw[show ((T.last:Int)+1)=((T.last+1:Nat):Int) from rfl]at I;refine aV 1 (λw0 w'=>w'.cell? ⟨tq,2,none⟩=some (.slice ad T.l.length c)∧w'.cell? ⟨tq,3,none⟩=some (.int .i64 ((T.last+1:Nat):Int))) [8,11,13,14] [0,1,2,3,5,6,7,9,10,12,3004,3008,1011,1013,1014,1015,16,17,1018] E I λa w E I hH=>?_;have hC:=hH.at w ⟨I.bC rfl,I.bC rfl⟩;refine RH 10 E I hH hC λa E=>?_;refine QH E (λw hc=>ae E (hc.1)) hC λa E=>?_;refine QH E (λw hc=>ae E (hc.2)) hC λa E=>?_;refine RH 0 E I hH hC λa E=>?_;refine aY 0 E I (K6 I (λw' h=>hr w' h.sub) (by rw[← hz,a8]) (by rw[hz];exact ds)) λmU en a w E I=>?_;replace hC:=hH.at w ⟨I.bC rfl,I.bC rfl⟩;refine RH 1 E I hH hC λa E=>?_;refine ct E rfl I u4 Ty.t238 rfl rfl rfl rfl (by decide) (by decide) λb93 a w E I ho=>?_;clear ho;replace hC:=hH.at w ⟨I.bC rfl,I.bC rfl⟩;refine RH 0 E I hH hC λa E=>?_;refine cR E rfl I u4 Ty.t238 rfl rfl I.ai rfl (by simp[Value.oneCell']) (by decide) (by decide) (by omega) λy2 y3 a w E I=>?_;refine ST 2 E I (λa w E I=>?_);refine RT 7 E I ?_;refine⟨rfl,?_⟩;rw[hz]at I;have h8:=U.j7 (f:=bY) (l:=xs) (x:=(⟨T.last+1,frm,p,0,A.last+1⟩,mU,en)) (I.sub (M:=cj mU p.length en p::ah bY xs::aa tq 236 [pt sq,.int .i64 T.most,.slice y2 (T.l.length+1) y3,.int .i64 ((T.last+1:Nat):Int),.int .i64 T.epoch]::Sl 238 5 y2 (T.l.length+1) y3 (rows db xs++[[.int .i64 ((T.last+1:Nat):Int),.int .i64 frm,.slice mU p.length en,.int .i64 0,.int .i64 ((A.last+1:Nat):Int)]].flatten)::ax sq r (A.add px.g px.p)::L));have h9:U W w (ah bY (xs++[(⟨T.last+1,frm,p,0,A.last+1⟩,mU,en)])::aa tq 236 [pt sq,.int .i64 T.most,.slice y2 (T.l.length+1) y3,.int .i64 ((T.last+1:Nat):Int),.int .i64 T.epoch]::Sl 238 5 y2 (T.l.length+1) y3 (rows db (xs++[(⟨T.last+1,frm,p,0,A.last+1⟩,mU,en)]))::ax sq r (A.add px.g px.p)::L):=by
  rw[← Fx];exact h8
 exact Tree.close (T:=T.add frm p (A.last+1)) (ad:=y2) (c:=y3) (xs:=xs++[(⟨T.last+1,frm,p,0,A.last+1⟩,mU,en)]) (n:=T.l.length+1) (most:=T.most) (last:=T.last+1) (epoch:=T.epoch) h9 (by simp[Tr.add,h1]) (hw.add hm hl ds) rfl (by simp[Tr.add]) rfl rfl
def Tr.iT (T:Tr)(k:Nat)(x:Br)(done snap:Nat):Tr:={ T with l:=T.l.set k { x with done:=done,snap:=snap } }
theorem WT.iT {d sn:Nat}(h:WT T)(hx:T.l[k]?=some x)(hd:d≤x.al.length):WT (T.iT k x d sn):=by
 obtain⟨cV,cc,a3,a4,a5⟩:=h;obtain⟨hi,rfl⟩:=a2.1 hx;refine⟨⟨cV.1,by simp[Tr.iT];exact cV.2⟩,cc,a3,?_,λy hy=>?_⟩
 ·have : (T.l.set k { T.l[k] with done := d, snap := sn }).map (·.id) = T.l.map (·.id) := by
   apply ext_getElem?;intro j;simp only[bd,jB];by_cases hj:k=j
   ·subst hj;simp[hi]
   ·rw[ag hj]
  simp only[Tr.iT];rw[this];exact a4
 ·simp only[Tr.iT]at hy ⊢;rcases r5 hy with hy | rfl
  ·exact a5 y hy
  ·obtain⟨b1,b2,b3,b4⟩:=a5 _ (jj hi);exact⟨b1,hd,b3,b4⟩
theorem WT.unique (hw:WT T){j:Nat}{y:Br}(hx:T.l[k]?=some x)(hy:T.l[j]?=some y)(he:y.id=x.id):j=k:=by
 have hp:=List.pairwise_iff_getElem.1 hw.ids;obtain⟨hj,rfl⟩:=a2.1 hy;obtain⟨hk,rfl⟩:=a2.1 hx;rcases Nat.lt_trichotomy j k with hl | hl | hl
 ·have:=hp j k (by simpa using hj) (by simpa using hk) hl;simp at this;omega
 ·exact hl
 ·have:=hp k j (by simpa using hk) (by simpa using hj) hl;simp at this;omega
theorem Lg (I:U W w (Tree tq sq T::L))(hx:T.l[k]?=some x) :
   Calls prog 183 #[pt tq,.int .i64 x.id] w λe w'=>e=.returned (.int .i64 k)∧U W w' (Tree tq sq T::L):=by
 refine (Fw (id:=(x.id:Int)) I).mono λe w' ⟨r,h1,h2,h3⟩=>⟨?_,h3⟩;rcases h2 with ⟨_,h4⟩ | ⟨j,y,h4,h5,h6⟩
 ·exact absurd rfl (h4 x (bI hx))
 ·rw[h1,h4,(Tree.wt h3).unique hx h5 (by omega)]
theorem Xf {i:Nat}{px:aC}{d sn:Int}(I:U W w (Tree tq sq T::ax sq r A::L))(hx:T.l[k]?=some x)(bX:d≤x.done∨(x.al.length:Int)<d∨∀ y∈A.ar,(y.id:Int)≠sn) :
   Calls prog 186 #[pt tq,.int .i64 x.id,.int .i64 d,.int .i64 sn] w λe w'=>e=.returned (.bool false)∧U W w' (Tree tq sq T::ax sq r A::L):=by
 have dR:=(a2.1 hx).1;refine EN func186 ntmps186 rfl rfl λa E=>?_;refine CL 5 E I (Lg I hx) λa w E I=>?_;refine RN 3 E I λa E=>?_;obtain⟨ad,c,xs,h1,hw,I⟩:=Tree.open (I.tree tq);obtain⟨eK,de,dZ⟩:=Fs h1 hx;obtain⟨b',dK,rfl,da⟩:=I.tail.bU ad (by omega);have gb:=oV da dZ;have wI:=gb 3 _ rfl;have kf:=gb 2 _ rfl;refine RN 3 E I λa E=>?_;rw[bu (by omega)]at E;refine RN 8 E I λa E=>?_;refine bA E (cv E rfl (s:=15)) (ae E (wI)) rfl λa E=>?_;refine BY 3 E I (λlp a E=>?_) λlp a E=>?_
 ·
  skip
  refine RT 24 E I ?_;exact⟨rfl,Tree.same (L':=ax sq r A::L) (some ⟨b',dK,none⟩) c xs I h1 hw⟩
 refine RN 8 E I λa E=>?_;refine bA E (cv E rfl (s:=27)) (ae E (kf)) rfl λa E=>?_;refine BY 4 E I (λXg a E=>?_) λXg a E=>?_
 ·
  refine RT 11 E I ?_;exact⟨rfl,Tree.same (L':=ax sq r A::L) (some ⟨b',dK,none⟩) c xs I h1 hw⟩
 refine CL 5 E I (Wz (I.pick (ax sq r A)) (by rcases bX with h | h | h;omega;omega;exact h)) λa w E I=>?_;refine RN 2 E I λa E=>?_;replace E:=E.ek 48;refine RT 3 E I ?_;exact⟨rfl,Tree.same (L':=ax sq r A::L) (some ⟨b',dK,none⟩) c xs I h1 hw⟩
end
end
section
def Sn.eB (A:Sn)(id:Nat):Sn:=match A.ar.findIdx? (λx=>x.id==id) with
 | some i=>match A.ar[i]? with
  | some x=>A.drop i x
  | none=>A
 | none=>A
section
variable {W w:World}{L R:List SP}{tq sq q r n c k:Nat}{ad:Option Addr}{A:Sn}{T:Tr}{x y:Br}{xs:List Bx}{p:List (List UInt8)}
theorem Fy {id:Nat}(h:∀ y∈A.ar,y.id≠id):A.eB id=A:=by
 have:A.ar.findIdx? (λx=>x.id==id)=none:=by rw[List.findIdx?_eq_none_iff];intro y hy;simpa using h y hy
 rw[Sn.eB,this]
theorem y4 {i:Nat}{px:aC}(hw:WF A)(hx:A.ar[i]?=some px):A.eB px.id=A.drop i px:=by
 obtain⟨hi,he⟩:=a2.1 hx;have:A.ar.findIdx? (λx=>x.id==px.id)=some i:=by
  rw[List.findIdx?_eq_some_iff_getElem];refine⟨hi,by simp[he],λj hj=>?_⟩;have dO:j<A.ar.length:=by omega
  simp only[Bool.not_eq_true,mj,ne_eq];intro e;have:=hw.ids (aD dO) hx e;omega
 rw[Sn.eB,this];simp only[hx]
theorem BI {id:Nat}(I:U W w (ax q r A::L)) :
   Calls prog 185 #[pt q,.int .i64 id] w λe w'=>∃ v,e=.returned (.bool v)∧U W w' (ax q r (A.eB id)::L):=by
 by_cases h:∃ px∈A.ar,px.id=id
 ·obtain⟨px,h1,rfl⟩:=h;obtain⟨i,hi⟩:=ke.1 h1;have hw:=(ax.open I);obtain⟨_,_,_,_,_,hw,_,_⟩:=hw;refine (WH I hi).mono λe w' ⟨h2,h3⟩=>⟨_,h2,?_⟩;rw[y4 hw hi];exact h3
 ·have hn:∀ y∈A.ar,y.id≠id:=λy hy e=>h ⟨y,hy,e⟩;refine (WI (X:=(id:Int)) I (λy hy e=>hn y hy (by omega))).mono λe w' ⟨h2,h3⟩=>⟨_,h2,?_⟩;rw[Fy hn];exact h3
theorem Lh {p q r:List Value}{i:Nat}{v:Value}(h:i<q.length):(p++q++r).set (p.length+i) v=p++q.set i v++r:=by
 rw[dz,wH _ _ (by omega),show p.length+i-p.length=i from by omega,uW _ _ h,dz]
theorem Xh {i d:Nat}{px:aC}(I:U W w (Tree tq sq T::ax sq r A::L))(hx:T.l[k]?=some x)(hd:x.done<d)(kQ:d≤x.al.length)(hp:A.ar[i]?=some px) :
   Calls prog 186 #[pt tq,.int .i64 x.id,.int .i64 d,.int .i64 px.id] w λe w'=>e=.returned (.bool true)∧U W w' (Tree tq sq (T.iT k x d px.id)::ax sq r (A.eB x.snap)::L):=by
 have dR:=(a2.1 hx).1;have a6:1≤px.refs:=by
  obtain⟨_,_,_,_,_,hw,_,_⟩:=ax.open (I.pick (ax sq r A));exact (hw.mS px (bI hp)).2.2.1
 refine EN func186 ntmps186 rfl rfl λa E=>?_;refine CL 5 E I (Lg I hx) λa w E I=>?_;refine RN 3 E I λa E=>?_;obtain⟨ad,c,xs,h1,hw,I⟩:=Tree.open (I.tree tq);obtain⟨eK,de,dZ⟩:=Fs h1 hx;obtain⟨b',dK,rfl,da⟩:=I.tail.bU ad (by omega);have gb:=oV da dZ;have wI:=gb 3 _ rfl;have kf:=gb 2 _ rfl;refine RN 3 E I λa E=>?_;rw[bu (by omega)]at E;refine RN 8 E I λa E=>?_;refine bA E (cv E rfl (s:=15)) (ae E (wI)) rfl λa E=>?_;refine RN 3 E I λa E=>?_;rw[bu (by omega)]at E;refine RN 8 E I λa E=>?_;refine bA E (cv E rfl (s:=27)) (ae E (kf)) rfl λa E=>?_;refine RN 4 E I λa E=>?_;rw[bu (by omega)]at E;refine CL 5 E I (Wy (I.pick (ax sq r A)) hp) λa w E I=>?_;refine RN 2 E I λa E=>?_;rw[bu (by omega)]at E;refine RN 2 E I λa E=>?_;have Xi:=I.cQ (n:=T.l.length) b' dK (by omega);have Li:w.drew.cell? ⟨b',dK+k*5+4,none⟩=some (.int .i64 x.snap):=oV Xi dZ 4 _ rfl;refine rT 0 (Old w.drew) [7,9,10,11] [0,1,2,4,5,6,8,3003,1007,1009,1010,1011,1012] E I λa E=>?_;replace I:=I.drew;have hH:=Hd.gw I;have hC:=Old.refl w.drew;generalize w.drew=w at I hH hC Li ⊢;refine RH 11 E I hH hC λa E=>?_;refine SS E (ae E (Li)) λa E=>?_;refine RH 0 E I hH hC λa E=>?_;refine bg 0 E I (BI (id:=x.snap) (I.pick (ax sq r A))) λ_ a w E I=>?_;refine RN 1 E I λa E=>?_;obtain⟨bb,pre,post,⟨h3,h4,h5,h6⟩,gN⟩:=(I.pick (Sl 238 5 (some ⟨b',dK,none⟩) T.l.length c (rows db xs))).mh (by have:=(I.sl (some ⟨b',dK,none⟩)).2;omega);cases h5;replace I:=gN;clear gN;have b7:xs.length=T.l.length:=by rw[← h1,a8]
 have vf:k<xs.length:=by omega
 have hE:xs[k]=(x,eK,de):=(a2.1 dZ).2;have gD:(rows db xs).length=xs.length*5:=jC tH xs;refine bM 0 [8] [0,1,2,4,5,6,7,9,10,11,3003,1008,12,13,1014,15,16,1017] E I λa w E I hH hC=>?_;refine RH 14 E I hH hC λa E=>?_;refine ST 0 E I (λa w E I=>?_) (hlt:=(by simp only[aM];omega));rw[show pre.length+k*5+3=pre.length+(k*5+3) from by omega,Lh (by omega),qO tH xs ({ x with done:=d },eK,de) vf (by decide) (by rw[hE];rfl)]at I;refine ST 2 E I (λa w E I=>?_) (hlt:=(by simp only[aM,jC tH,bz];omega));rw[show pre.length+k*5+4=pre.length+(k*5+4) from by omega,Lh (by simp only[jC tH,bz];omega),qO tH _ ({ x with done:=d,snap:=px.id },eK,de) (by rw[bz];exact vf) (by decide) (by rw[oP];rfl),set_set]at I;refine RT 2 E I ?_;refine⟨rfl,?_⟩;have h7:=U.jh (n:=T.l.length) (c:=c) (sz:=5) (cs:=rows db (xs.set k ({ x with done:=d,snap:=px.id },eK,de))) (I.j5 b') (by rw[jC tH,bz,b7]) h4 h6;have h8:=(h7.pick (ah bY xs)).fA vf;rw[hE]at h8;have h9:U W w (bY ({ x with done:=d,snap:=px.id },eK,de)::ah bY (xs.eraseIdx k)::_):=h8;have fO:=U.la vf h9;exact Tree.close (T:=T.iT k x d px.id) (ad:=some ⟨b',pre.length,none⟩) (c:=c) (xs:=xs.set k ({ x with done:=d,snap:=px.id },eK,de)) (n:=T.l.length) (most:=T.most) (last:=T.last) (epoch:=T.epoch) fO (by rw[jF,h1];rfl) (hw.iT hx kQ) rfl (by simp[Tr.iT]) rfl rfl
def iy (frm:Int)(p:List (List UInt8))(b:Br)(x:Br):Br:=if x.frm=frm∧b.done<x.done∧x.done≤p.length∧pZ (x.al.take x.done) p=true then x else b
def mV:Br:=⟨0,0,[],0,0⟩
def Tr.fQ (T:Tr)(frm:Int)(p:List (List UInt8)):Br:=T.l.foldl (iy frm p) mV
theorem Xj {l:List Br}{frm:Int}(h:l[k]?=some x):(l.take (k+1)).foldl (iy frm p) mV=iy frm p ((l.take k).foldl (iy frm p) mV) x:=by
 obtain⟨hk,rfl⟩:=a2.1 h;rw[jD hk,foldl_append];rfl
theorem Lj {frm:Int}{ad2:Option Addr}{c2:Nat}(I:U W w (Tree tq sq T::L))(hp:∀ w',U W w' L→lj w' ad2 p.length p)(hc:p.length≤c2)(ds:oa p) :
   Calls prog 279 #[pt tq,.int .i64 frm,.slice ad2 p.length c2] w λe w'=>∃ ad c,e=.returned (.tuple #[.agg (ck (T.fQ frm p) ad c).toArray,.bool (decide (0<(T.fQ frm p).done))])∧U W w' (Tree tq sq T::L):=by
 have hw:=Tree.wt I;have hT:=hw.most;refine EN func279 ntmps279 rfl rfl λa E=>?_;refine AL 1 E I λcJ a w E I=>?_;change U W w (aa cJ 238 (ck mV none 0)::_) at I;refine AL 3 E I λb8 a w E I=>?_;refine SA 0 E I λa w E I=>?_;change U W w (aa b8 238 (ck ((T.l.take 0).foldl (iy frm p) mV) none 0)::_) at I;refine aY 3 E I (BG (I.tree tq)) λad c a w E I=>?_;obtain⟨xs,h1,h2,I⟩:=ln.open I;have b7:xs.length=T.l.length:=by rw[← h1,a8]
 refine RN 2 E I λa E=>?_;refine aL (λμ a w=>∃ (k:Nat) (ea:Option Addr) (cb:Nat),(μ=T.l.length-k∧k≤T.l.length)∧Fr a 52 [(1,.int .i64 frm),(2,.slice ad2 p.length c2),(6,pt cJ),(8,pt b8),(13,.slice ad T.l.length c),(14,.int .i64 T.l.length),(15,.int .i64 k)]∧U W w (aa b8 238 (ck ((T.l.take k).foldl (iy frm p) mV) ea cb)::Sl 238 5 ad T.l.length c (rows db xs)::ah bY xs::Tree tq sq T::aa cJ 238 (ck mV none 0)::L)) (T.l.length) (⟨0,none,0,⟨by simp,by simp⟩,E.ab [1,2,6,8,13,14,15],I.sub⟩) ?_;clear E I;rintro μ a w ⟨k,ea,cb,⟨rfl,hk⟩,E,I⟩;refine IF 3 E I (λak a E=>?_) λak a E=>?_
 ·
  refine RN 2 E I λa E=>?_;obtain⟨b',dK,rfl,da⟩:=I.bU ad (by omega);obtain⟨⟨x,eK,de⟩,dZ⟩:∃ y,xs[k]?=some y:=⟨_,aD (by omega)⟩;have gb:=oV da dZ;have jG:T.l[k]?=some x:=by rw[← h1,bd,dZ];rfl
  have kP:=hw.ok x (bI jG);have qW:=Xj (frm:=frm) (p:=p) jG;obtain⟨B,hB⟩:∃ B,(T.l.take k).foldl (iy frm p) mV=B:=⟨_,rfl⟩;rw[hB]at I qW;refine RN 1 E I λa E=>?_;refine SS E (bT E oS rfl Ty.t238 (gb)) λa E=>?_;refine AL 0 E I λkO a w E I=>?_;refine SA 0 E I λa w E I=>?_;refine BY 6 E I (λdt a E=>?_) λdt a E=>?_
  ·
   refine BY 7 E I (λlq a E=>?_) λlq a E=>?_
   ·
    refine BY 7 E I (λvg a E=>?_) λvg a E=>?_
    ·
     refine RN 4 E I λa E=>?_;have fP:=ah.pY (I.pick (ah bY xs)) dZ;have y5:=kP.2.1;refine RN 1 E I λa E=>?_;rw[rZ,Nat.sub_zero,Nat.sub_zero]at E;rw[show Value.slice eK x.done de=Value.slice eK (x.al.take x.done).length de from by rw[eA,Nat.min_eq_left y5]]at E;refine CL 1 E I (Ft (u:=x.al.take x.done) (v:=p) (ad:=eK) (c:=de) I (by
      have:=fP.1.take y5
      rwa [show (x.al.take x.done).length=x.done from by rw[eA];omega]) (hp _ I.sub) (by rw[eA];omega) hc (by rw[eA];have:=kP.1.1;omega)) λa w E I=>?_
     refine IF 1 E I (λao a E=>?_) λao a E=>?_
     ·
      have sb:iy frm p B x=x:=aj ⟨by omega,by omega,by omega,ao⟩;refine SA 1 E I λa w E I=>?_;refine RN 2 E I λa E=>?_;exact⟨T.l.length-(k+1),by omega,k+1,_,_,⟨rfl,by omega⟩,E.ab [1,2,6,8,13,14,15],by rw[qW,sb];exact I.sub (M:=aa b8 238 (ck x eK de)::Sl 238 5 (some ⟨b',dK,none⟩) T.l.length c (rows db xs)::ah bY xs::Tree tq sq T::aa cJ 238 (ck mV none 0)::L)⟩
     have sb:iy frm p B x=B:=ag (λh=>by rw[h.2.2.2]at ao;cases ao);refine RN 2 E I λa E=>?_;exact⟨T.l.length-(k+1),by omega,k+1,_,_,⟨rfl,by omega⟩,E.ab [1,2,6,8,13,14,15],by rw[qW,sb];exact I.sub (M:=aa b8 238 (ck B ea cb)::Sl 238 5 (some ⟨b',dK,none⟩) T.l.length c (rows db xs)::ah bY xs::Tree tq sq T::aa cJ 238 (ck mV none 0)::L)⟩
    have sb:iy frm p B x=B:=ag (by omega);refine RN 4 E I λa E=>?_;have fP:=ah.pY (I.pick (ah bY xs)) dZ;have y5:=kP.2.1;refine RN 7 E I λa E=>?_;exact⟨T.l.length-(k+1),by omega,k+1,_,_,⟨rfl,by omega⟩,E.ab [1,2,6,8,13,14,15],by rw[qW,sb];exact I.sub (M:=aa b8 238 (ck B ea cb)::Sl 238 5 (some ⟨b',dK,none⟩) T.l.length c (rows db xs)::ah bY xs::Tree tq sq T::aa cJ 238 (ck mV none 0)::L)⟩
   have sb:iy frm p B x=B:=ag (by omega);refine RN 11 E I λa E=>?_;have fP:=ah.pY (I.pick (ah bY xs)) dZ;have y5:=kP.2.1;refine RN 7 E I λa E=>?_;exact⟨T.l.length-(k+1),by omega,k+1,_,_,⟨rfl,by omega⟩,E.ab [1,2,6,8,13,14,15],by rw[qW,sb];exact I.sub (M:=aa b8 238 (ck B ea cb)::Sl 238 5 (some ⟨b',dK,none⟩) T.l.length c (rows db xs)::ah bY xs::Tree tq sq T::aa cJ 238 (ck mV none 0)::L)⟩
  have sb:iy frm p B x=B:=ag (by omega);refine RN 18 E I λa E=>?_;have fP:=ah.pY (I.pick (ah bY xs)) dZ;have y5:=kP.2.1;refine RN 7 E I λa E=>?_;exact⟨T.l.length-(k+1),by omega,k+1,_,_,⟨rfl,by omega⟩,E.ab [1,2,6,8,13,14,15],by rw[qW,sb];exact I.sub (M:=aa b8 238 (ck B ea cb)::Sl 238 5 (some ⟨b',dK,none⟩) T.l.length c (rows db xs)::ah bY xs::Tree tq sq T::aa cJ 238 (ck mV none 0)::L)⟩
 refine RN 1 E I λa E=>?_;obtain rfl:k=T.l.length:=by omega
 rw[lf]at I;rw[show T.l.foldl (iy frm p) mV=T.fQ frm p from rfl]at I;refine aV 0 (λw0 w'=>Rd w' b8 0 (ck (T.fQ frm p) ea cb)) [2,3,4] [1,3000,3002,3003,1004,5] E I λa w E I hH=>?_;have hC:=hH.at w I.ai;refine RH 1 E I hH hC λa E=>?_;refine QH E (λw hc=>bT E oS rfl Ty.t238 (hc)) hC λa E=>?_;refine QH E (λw hc=>ae E (hc 3 _ rfl)) hC λa E=>?_;refine RH 1 E I hH hC λa E=>?_;refine SA 0 E I λa w E I=>?_;replace hC:=hH.at w I.ai;refine RH 1 E I hH hC λa E=>?_;refine RT 0 E I ?_;refine⟨ea,cb,?_,I.sub⟩;rw[show decide ((0:Int)<((T.fQ frm p).done:Int))=decide (0<(T.fQ frm p).done) from by rw[decide_eq_decide];omega]
def Tr.cut (T:Tr)(wh:Br→Bool):Tr:={ T with l:=T.l.filter (λx=>!wh x),epoch:=T.epoch+if (T.l.filter (λx=>!wh x)).length<T.l.length then 1 else 0 }
def Sn.g2 (A:Sn)(l:List Br):Sn:=l.foldl (λA x=>A.eB x.snap) A
theorem Xk {A:Sn}{l:List Br}{wh:Br→Bool}(h:l[k]?=some x):A.g2 ((l.take (k+1)).filter wh)=if wh x=true then (A.g2 ((l.take k).filter wh)).eB x.snap else A.g2 ((l.take k).filter wh):=by
 obtain⟨hk,rfl⟩:=a2.1 h;rw[jD hk,y6];by_cases hw:wh l[k]=true
 ·rw[aj hw,Sn.g2,foldl_append];simp[hw,Sn.g2]
 ·rw[ag hw];simp[hw]
theorem Xl {α:Type}{l:List α}{f:α→Bool}{z:α}(h:l[k]?=some z):(l.take (k+1)).filter f=(l.take k).filter f++if f z=true then [z] else []:=by
 obtain⟨hk,rfl⟩:=a2.1 h;rw[jD hk,y6];by_cases hw:f l[k]=true <;> simp[hw]
theorem Xm (xs:List Bx)(f:Br→Bool):(xs.filter (λz=>f z.1)).map (·.1)=(xs.map (·.1)).filter f:=by
 induction xs with
 | nil=>rfl
 | cons z xs ih =>
  by_cases h:f z.1=true <;> simp[h]at ih ⊢ <;> exact ih
theorem WT.cut (h:WT T)(he:T.epoch+1<1099511627776)(wh:Br→Bool):WT (T.cut wh):=by
 obtain⟨cV,cc,a3,a4,a5⟩:=h;refine⟨⟨cV.1,?_⟩,cc,?_,?_,λy hy=>?_⟩
 ·simp only[Tr.cut];exact eS (p0 _ _) cV.2
 ·simp only[Tr.cut];split <;> omega
 ·simp only[Tr.cut];exact a4.sublist (List.Sublist.map _ List.filter_sublist)
 ·simp only[Tr.cut]at hy ⊢;exact a5 y (List.mem_filter.1 hy).1
class Tl (M L:List SP):Prop where h:∃ K,M.Perm (K++L)
instance Tl.self {L:List SP}:Tl L L:=⟨[],lL _⟩
instance (priority:=low) Tl.cons {A:SP}{M L:List SP}[t:Tl M L]:Tl (A::M) L:=⟨let ⟨K,h⟩:=t.h;⟨A::K,h.cons A⟩⟩
theorem U.Xn {M:List SP}(I:U W w M)(t:Tl M L):U W w L:=let ⟨_,h⟩:=t.h;(I.perm h).drop
def xd (W:World)(N:List SP)(ad:Option Addr)(P:List (List UInt8)):Prop:=∃ zs:List ee,zs.map (·.2.2)=P∧∀ w',U W w' N→iQ w' ad zs
set_option maxHeartbeats 1000000 in
theorem Ll {wh:Br→Bool}{f:Nat}{us:List Value}(I:U W w (Tree tq sq T::ax sq r A::L))(he:T.epoch+1<1099511627776)(cr:hZ prog f=true)
   (hf:∀ (M:List SP) (w':World) (x:Br) (av:Option Addr) (c':Nat),x∈T.l→U W w' M→Tl M L→xd W M av x.al→x.al.length≤c'→oa x.al →
    Calls prog f (List.toArray (.agg (ck x av c').toArray::us)) w' λe ob=>e=.returned (.bool (wh x))∧U W ob M) :
   Calls prog 303 #[pt tq,.func (.func f) #[] (List.toArray us)] w λe w'=>e=.returned (.int .i64 ((T.l.length-(T.l.filter (λx=>!wh x)).length:Nat):Int)) ∧
    U W w' (Tree tq sq (T.cut wh)::ax sq r (A.g2 (T.l.filter wh))::L):=by
 obtain⟨ad,c,xs,h1,hw,I⟩:=Tree.open I;have b7:xs.length=T.l.length:=by rw[← h1,a8]
 have hT:=hw.most;have eP:=p0 (λx=>!wh x) T.l;refine EN func303 ntmps303 rfl rfl λa E=>?_;refine RN 6 E I λa E=>?_;replace E:=E.aQ 10;refine RN 10 E I λa E=>?_;replace I:U W w (Sl 238 5 none 0 0 (rows db ((xs.take 0).filter (λz:Bx=>!wh z.1)))::ah bY ((xs.take 0).filter (λz:Bx=>!wh z.1))::aa tq 236 [pt sq,.int .i64 T.most,.slice ad T.l.length c,.int .i64 T.last,.int .i64 T.epoch]::Sl 238 5 ad T.l.length c (rows db xs)::ah bY (xs.drop 0)::ax sq r (A.g2 ((T.l.take 0).filter wh))::L):=(I.ji (f:=bY)).bQ 238 5 none;refine RN 8 E I λa E=>?_;refine aL (λμ a w=>∃ (k m:Nat) (tI:Option Addr) (oX:Nat),(μ=T.l.length-k∧k≤T.l.length∧m=((xs.take k).filter (λz=>!wh z.1)).length)∧Fr a 59 [(0,pt tq),(1,.func (.func f) #[] (List.toArray us)),(5,.int .i64 T.l.length),(6,.slice tI m oX),(19,.slice ad T.l.length c),(20,.int .i64 T.l.length),(21,.int .i64 k)]∧U W w (Sl 238 5 tI m oX (rows db ((xs.take k).filter (λz=>!wh z.1)))::ah bY ((xs.take k).filter (λz=>!wh z.1))::aa tq 236 [pt sq,.int .i64 T.most,.slice ad T.l.length c,.int .i64 T.last,.int .i64 T.epoch]::Sl 238 5 ad T.l.length c (rows db xs)::ah bY (xs.drop k)::ax sq r (A.g2 ((T.l.take k).filter wh))::L)) (T.l.length) (⟨0,0,none,0,⟨by simp,by simp,by simp⟩,E.ab [0,1,5,6,19,20,21],I.sub⟩) ?_;clear E I;rintro μ a w ⟨k,m,tI,oX,⟨rfl,hk,hm⟩,E,I⟩;refine IF 3 E I (λao a E=>?_) λao a E=>?_
 ·
  refine RN 2 E I λa E=>?_
  obtain ⟨b', dK, hK, da⟩ := I.bU (n := T.l.length) (cs := rows db xs) (R := Sl 238 5 tI m oX (rows db ((xs.take k).filter (fun z => !wh z.1))) :: ah bY ((xs.take k).filter (fun z => !wh z.1)) :: aa tq 236 [.pointer (some ⟨sq, 0, none⟩), .int .i64 T.most, .slice ad T.l.length c, .int .i64 T.last, .int .i64 T.epoch] :: ah bY (xs.drop k) :: ax sq r (A.g2 ((T.l.take k).filter wh)) :: L) (k := ⟨by
      refine List.Perm.trans ?_ (nW (l₁:=[_,_,_]));exact lL _⟩) ad (by omega)
  subst hK;have vf:k<xs.length:=by omega
  obtain⟨⟨x,eK,de⟩,dZ⟩:∃ y,xs[k]?=some y:=⟨_,aD vf⟩;have hE:xs[k]=(x,eK,de):=(a2.1 dZ).2;have gb:=oV da dZ;have jG:T.l[k]?=some x:=by rw[← h1,bd,dZ];rfl
  have kP:=(hw.ok x (bI jG)).1;have p1:=Xk (A:=A) (wh:=wh) jG;have tJ:=Xl (f:=λz:Bx=>!wh z.1) dZ;replace I:=(I.pick (ah bY (xs.drop k)));rw[kL vf,hE]at I;replace I:=I.fA (i:=0) (by simp);change U W w (cj eK x.al.length de x.al::ah bY (xs.drop (k+1))::_) at I;have eb:=(cj.le I).2;refine RN 1 E I λa E=>?_;refine SS E (bT E oS rfl Ty.t238 (gb)) λa E=>?_;refine AL 0 E I λb8 a w E I=>?_;refine SA 0 E I λa w E I=>?_;refine RN 4 E I λa E=>?_;obtain⟨zs,cW,eU,I⟩:=cj.open (I.pick (cj eK x.al.length de x.al));refine CL 0 E I (hf _ _ x eK de (bI jG) I inferInstance ⟨zs,cW,λob h=>U.mQ (h.sub (M:=Sl 22 1 eK x.al.length de (zs.map aK)::ah ba zs::[]))⟩ eb kP) (hf:=cr) λa w E I=>?_;replace I:U W w (cj eK x.al.length de x.al::_):=U.shut (M:=[_,_]) I (λ_ x=>⟨zs,⟨cW,eU⟩,x⟩);refine IF 0 E I (λay a E=>?_) λay a E=>?_
  ·
   rw[aj ay]at p1;rw[show (!wh (x,eK,de).1)=false from by simp[ay]]at tJ;rw[ag (by decide),append_nil]at tJ;refine bM 1 [5] [0,1,2,4,3003,1005,1006] E I λa w E I hH hC=>?_;refine RH 6 E I hH hC λa E=>?_;refine bg 0 E I (BI (id:=x.snap) (I.pick (ax sq r (A.g2 ((T.l.take k).filter wh))))) λ_ a w E I=>?_;rw[← p1]at I;refine RN 2 E I λa E=>?_;rw[← tJ]at hm I;exact⟨T.l.length-(k+1),by omega,k+1,_,_,_,⟨rfl,by omega,hm⟩,E.ab [0,1,5,6,19,20,21],I.sub⟩
  rw[ag (by rw[ay];decide)]at p1;rw[show (!wh (x,eK,de).1)=true from by simp[ay]]at tJ;rw[aj rfl]at tJ;refine RN 2 E I λa E=>?_;refine ct E rfl I u4 Ty.t238 rfl rfl rfl rfl (by decide) (by decide) λXo a w E I ho=>?_;clear ho;obtain⟨Y,xe⟩:∃ Y,(xs.take k).filter (λz=>!wh z.1)=Y:=⟨_,rfl⟩;rw[xe]at I tJ hm;refine RN 0 E I λa E=>?_;refine cR E rfl I u4 Ty.t238 rfl rfl I.ai rfl (by simp[Value.oneCell',ck]) (by decide) (by decide) (by have:=p0 (λz:Bx=>!wh z.1) (xs.take k);rw[xe,eA]at this;omega) λoY oZ a w E I=>?_;have h8:=U.j7 (f:=bY) (l:=Y) (x:=(x,eK,de)) (I.sub (M:=cj eK x.al.length de x.al::ah bY Y::Sl 238 5 oY (m+1) oZ (rows db Y++[ck x eK de].flatten)::aa tq 236 [pt sq,.int .i64 T.most,.slice (some ⟨b',dK,none⟩) T.l.length c,.int .i64 T.last,.int .i64 T.epoch]::Sl 238 5 (some ⟨b',dK,none⟩) T.l.length c (rows db xs)::ah bY (xs.drop (k+1))::ax sq r (A.g2 ((T.l.take k).filter wh))::L));rw[Fx,← tJ,← p1]at h8;replace I:=h8;clear h8;refine RN 3 E I λa E=>?_;exact⟨T.l.length-(k+1),by omega,k+1,_,_,_,⟨rfl,by omega,by rw[tJ,aM,← hm];rfl⟩,E.ab [0,1,5,6,19,20,21],I.sub⟩
 refine RN 1 E I λa E=>?_;obtain rfl:k=T.l.length:=by omega
 rw[lf,gl (by omega)]at I;rw[gl (by omega)]at hm;have qX:=Xm xs (λx=>!wh x);rw[h1]at qX;have xf:m=(T.l.filter (λx=>!wh x)).length:=by rw[hm,← qX,a8]
 subst xf;refine ST 4 E I (λa w E I=>?_);refine IF 6 E I (λbl a E=>?_) λbl a E=>?_
 ·
  have hlt:(T.l.filter (λx=>!wh x)).length<T.l.length:=by omega
  refine ST 7 E I (λa w E I=>?_);rw[show ((T.epoch:Int)+1)=((T.epoch+1:Nat):Int) from rfl]at I;refine RT 6 E I ?_;refine⟨by rw[show ((T.l.length-(T.l.filter (λx=>!wh x)).length:Nat):Int)=(T.l.length:Int)-((T.l.filter (λx=>!wh x)).length:Int) from by omega],?_⟩;exact Tree.close (T:=T.cut wh) (ad:=tI) (c:=oX) (xs:=xs.filter (λz=>!wh z.1)) (n:=(T.l.filter (λx=>!wh x)).length) (most:=T.most) (last:=T.last) (epoch:=T.epoch+1) I qX (hw.cut he wh) rfl rfl rfl (by simp only[Tr.cut];rw[aj hlt])
 have hlt:¬ (T.l.filter (λx=>!wh x)).length<T.l.length:=by omega
 refine RT 6 E I ?_;refine⟨by rw[show ((T.l.length-(T.l.filter (λx=>!wh x)).length:Nat):Int)=(T.l.length:Int)-((T.l.filter (λx=>!wh x)).length:Int) from by omega],?_⟩;exact Tree.close (T:=T.cut wh) (ad:=tI) (c:=oX) (xs:=xs.filter (λz=>!wh z.1)) (n:=(T.l.filter (λx=>!wh x)).length) (most:=T.most) (last:=T.last) (epoch:=T.epoch) I qX (hw.cut he wh) rfl rfl rfl (by simp only[Tr.cut];rw[ag hlt];rfl)
theorem Xp (I:U W w (Tree tq sq T::ax sq r A::L))(he:T.epoch+1<1099511627776) :
   Calls prog 320 #[pt tq] w λe w'=>e=.returned (.int .i64 T.l.length)∧U W w' (Tree tq sq (T.cut λ_=>true)::ax sq r (A.g2 T.l)::L):=by
 have hF : ∀ (M : List SP) (w' : World) (x : Br) (av : Option Addr) (c' : Nat), x ∈ T.l → U W w' M → Tl M L → xd W M av x.al → x.al.length ≤ c' → oa x.al →
     Calls prog 334 (List.toArray [.agg (ck x av c').toArray]) w' λe ob=>e=.returned (.bool true)∧U W ob M:=by
  intro L w x av c' _ I _ _ _ _;refine EN func334 ntmps334 rfl rfl λa E=>?_;refine BX 1 E I λb1 a w E I=>?_;refine RT 3 E I ?_;exact⟨rfl,I.sub⟩
 refine EN func320 ntmps320 rfl rfl λa E=>?_;refine CL 4 E I (Ll (wh:=λ_=>true) (us:=[]) I he (by kernel_rfl) hF) λa w E I=>?_;refine RT 1 E I ?_;have e1:T.l.filter (λx=>!(λ_:Br=>true) x)=[]:=by simp
 have e2:T.l.filter (λ_=>true)=T.l:=by simp
 rw[e2]at I;exact⟨by rw[e1];rfl,I⟩
end
end
section
theorem vh (s:ByteArray)(i:Nat):1≤(Utf8.decode s i).2∧(Utf8.decode s i).2≤4:=by
 simp only[Utf8.decode]
 repeat' split
 all_goals simp
def oc (r:Nat):Nat:=if r<0x80 then 1 else if r<0x800 then 2 else if r<0x10000 then 3 else 4
theorem tK (s:ByteArray)(i:Nat):(s.get! i).toNat<256:=(s.get! i).toNat_lt
theorem Lm (s:ByteArray)(i:Nat):oc (Utf8.decode s i).1=(Utf8.decode s i).2∨Utf8.decode s i=(0xFFFD,1):=by
 have h0:=tK s (i+0);have h1:=tK s (i+1);have h2:=tK s (i+2);have h3:=tK s (i+3);simp only[Utf8.decode,Utf8.runeError]
 repeat' split
 all_goals first | (right;rfl) | (left;simp_all [oc];done) | (left;simp_all [oc];(repeat' split) <;> omega)
theorem Lo (s:ByteArray)(i:Nat)(h:i<s.size):i+(Utf8.decode s i).2≤s.size:=by
 simp only[Utf8.decode,Utf8.runeError]
 repeat' split
 all_goals simp_all
 all_goals omega
theorem Xq (s:ByteArray)(i:Nat):(Utf8.decode s i).1<1114112:=by
 have h0:=tK s (i+0);have h1:=tK s (i+1);have h2:=tK s (i+2);have h3:=tK s (i+3);simp only[Utf8.decode,Utf8.runeError]
 repeat' split
 all_goals simp_all [Utf8.valid]
 all_goals omega
def ef (s:ByteArray)(pos:Nat):List (Nat×Nat):=if h:pos<s.size then Utf8.decode s pos::ef s (pos+(Utf8.decode s pos).2) else []
termination_by s.size-pos
decreasing_by have:=(vh s pos).1;omega
theorem sd {s:ByteArray}{pos:Nat}(h:pos<s.size):ef s pos=Utf8.decode s pos::ef s (ed s pos):=by
 rw[ef,dif_pos h,ed,aj h]
theorem se {s:ByteArray}{pos:Nat}(h:¬ pos<s.size):ef s pos=[]:=by
 rw[ef,dif_neg h]
theorem Xr (s:ByteArray):∀ n pos,s.size-pos≤n→(ef s pos).length≤n:=by
 intro n
 induction n with
 | zero=>intro pos h;rw[se (by omega)];simp
 | succ n ih =>
  intro pos h;by_cases hp:pos<s.size
  ·rw[sd hp,eV];have:=(vh s pos).1;have:=ih (ed s pos) (by rw[ed,aj hp];omega);omega
  ·rw[se hp];simp
theorem Fz {s:ByteArray}{pos:Nat}(h:pos≤s.size):ed s pos≤s.size:=by
 by_cases hp:pos<s.size
 ·rw[ed,aj hp];exact Lo s pos hp
 ·rw[ed,ag hp];exact h
def kR (x:Nat×Nat):Bool:=decide (32≤x.1)&&decide (x.1≠127)
def mW (x:Nat×Nat):Bool:=!decide (x=(0xFFFD,1))
def p3 (s:ByteArray):Bool:=decide (1≤(ef s 0).length)&&decide ((ef s 0).length≤20)&&(ef s 0).all kR&&(ef s 0).all mW
def ny (s:ByteArray)(n:Int):Int:=if 0≤n then (((ef s 0)[n.toNat]?).map (λx=>(x.1:Int))).getD 0 else 0
structure gO where
 code:Int
 a:Int
 b:Int
 c:Int
structure Pr where
 title:ByteArray
 ops:List gO
abbrev dS (o:gO):List Value:=[.int .i64 o.code,.int .i64 o.a,.int .i64 o.b,.int .i64 o.c]
theorem FA (o:gO):(dS o).length=4:=rfl
theorem Lp (o:gO):∀ v∈dS o,v.oneCell'=true:=by
 intro v hv;simp[dS]at hv;rcases hv with rfl | rfl | rfl | rfl <;> rfl
def e8 (x:Int):Prop:=0≤x∧x<32
def du (x:Int):Prop := -2147483648≤x∧x≤2147483647
def e9 (n:Int)(o:gO):Prop :=
 (o.code=0∧o.a=0∧o.b=0∧o.c=0)∨(o.code=1∧e8 o.a∧o.c=0)∨(o.code=9∧0≤o.a∧o.a≤n∧o.b=0∧o.c=0)∨(o.code=15∧e8 o.a∧o.b=0∧o.c=0) ∨
 (o.code=10∧e8 o.a∧0≤o.b∧o.b≤n∧o.c=0)∨((o.code=2∨(11≤o.code∧o.code≤14))∧e8 o.a∧e8 o.b∧o.c=0)∨(3≤o.code∧o.code≤8∧e8 o.a∧e8 o.b∧e8 o.c)
def sf (o:gO):Prop:=du o.code∧du o.a∧du o.b∧du o.c
def xg (p:Pr):Prop:=p3 p.title=true∧1≤p.ops.length∧p.ops.length≤64∧∀ o∈p.ops,sf o
def dp (p:Pr):Prop:=xg p∧∀ o∈p.ops,e9 p.ops.length o
def iz (x:Int):Int:=IntKind.i32.wrap x
def kS (x:Int):Nat:=(x.emod 32).toNat
theorem y7 (x:Int):kS x<32:=by
 have h1:=Int.emod_nonneg x (show (32:Int)≠0 by decide);have h2:=Int.emod_lt_of_pos x (show (0:Int)<32 by decide);show (x%32).toNat<32;omega
def mX (b:List UInt8)(x:Int):Int:=if 0≤x∧x<b.length then ((b.getD x.toNat 0).toNat:Int) else 0
def jm (k a b:Int):Int:=if k=3 then iz (a+b) else if k=4 then iz (a-b) else if k=5 then iz (a*b) else if k=6 then (if b=0 then 0 else iz (a.tdiv b)) else if k=7 then (if a<b then 1 else 0) else if a=b then 1 else 0
def jW (p:Pr)(fr:Int)(b:List UInt8)(g:Nat→Int)(o:gO):Int :=
 if o.code=1 then iz o.b else if o.code=2 then g o.b.toNat else if o.code=11 then mX b (g o.b.toNat) else if o.code=12 then g (kS (g o.b.toNat)) else if o.code=14 then ny p.title (g o.b.toNat) else if o.code=15 then iz fr else jm o.code (g o.b.toNat) (g o.c.toNat)
def et (p:Pr)(fr:Int)(b:List UInt8)(g:Nat→Int)(aR:Nat)(o:gO):(Nat→Int)×Nat×Bool :=
 if o.code=0 then (g,aR+1,false) else if o.code=9 then (g,o.a.toNat,true) else if o.code=10 then (g,if g o.a.toNat=0 then o.b.toNat else aR+1,true) else if o.code=13 then (cn g (kS (g o.a.toNat)) (g o.b.toNat),aR+1,true)
 else (cn g o.a.toNat (jW p fr b g o),aR+1,true)
def qY (p:Pr)(fr:Int)(b:List UInt8):Nat→(Nat→Int)→Nat→(Nat→Int)
 | 0,g,_=>g
 | n+1,g,aR=>match p.ops[aR]? with
  | none=>g
  | some o=>let r:=et p fr b g aR o
   if r.2.2 then qY p fr b n r.1 r.2.1 else r.1
def fa (p:Pr)(fr:Int)(b:List UInt8)(g:Nat→Int):Nat→Int:=qY p fr b 200 g 0
def foldI (p:Pr)(fr:Int):(Nat→Int)→List (List UInt8)→(Nat→Int)
 | g,[]=>g
 | g,b::l=>foldI p (fr+1) (fa p fr b g) l
theorem FB (p:Pr)(b:List UInt8):∀ (l:List (List UInt8)) (fr:Int) (g:Nat→Int),foldI p fr g (l++[b])=fa p (fr+l.length) b (foldI p fr g l)
 | [],fr,g=>by simp[foldI]
 | x::l,fr,g=>by
  rw[cons_append,foldI,FB p b l,foldI,eV]
  congr 1;omega
def dT (g:Nat→Int):Prop:=∀ c,c<32→du (g c)
theorem iA {i:Int}(h1:-2147483648≤i)(h2:i≤2147483647):IntKind.i32.wrap i=i:=IntWalk.i32_in _ ⟨h1,h2⟩
theorem y8 (x:Int):du (iz x):=by
 simp only[iz,du,IntKind.wrap];split <;> simp_all [IntKind.signed,IntKind.bits] <;> omega
def Ro (W:World)(e sz:Nat)(ad:Option Addr)(n c:Nat)(cs:List Value):SP:=λh =>
 (cs.length=n*sz∧n≤c∧(0<n→∃ b off,ad=some ⟨b,off,none⟩∧b<W.heap.size∧Rd W b off cs))∨Sl e sz ad n c cs h
class vi (L:List SP)(W:World)(ad:Option Addr)(n c e sz:outParam Nat)(cs:outParam (List Value))(R:outParam (List SP)):Prop where perm:L.Perm (Ro W e sz ad n c cs::R)
instance vi.head {L W ad n c e sz cs}:vi (Ro W e sz ad n c cs::L) W ad n c e sz cs L:=⟨lL _⟩
instance (priority:=low) vi.tail {A L W ad n c e sz cs R}[h:vi L W ad n c e sz cs R]:vi (A::L) W ad n c e sz cs (A::R) :=
 ⟨(kE A h.perm).trans (c1 _ _ _)⟩
section
variable {W w:World}{L R:List SP}{e sz n c:Nat}{ad:Option Addr}{cs:List Value}
theorem U.ro (s:U W w L)(ad:Option Addr)[k:vi L W ad n c e sz cs R]:cs.length=n*sz∧n≤c:=(s.perm k.perm).tell λ_ h=>by
 rcases h with ⟨h1,h2,_⟩ | h
 ·exact⟨h1,h2⟩
 ·exact⟨h.1,h.2.1⟩
theorem U.sg (s:U W w L)(ad:Option Addr)[k:vi L W ad n c e sz cs R](h0:0<n):∃ b off,ad=some ⟨b,off,none⟩∧Rd w b off cs:=by
 have s':=s.perm k.perm;obtain⟨nn,h,p,h1,h2,d,a,kk,x,q⟩:=s';rcases x with ⟨x1,x2,x3⟩ | x
 ·obtain⟨b,off,rfl,hb,hr⟩:=x3 h0;exact⟨b,off,rfl,λj v hj=>(s.gw (a:=⟨b,off+j,none⟩) hb).trans (hr j v hj)⟩
 ·have s2:U W w (Sl e sz ad n c cs::R):=⟨nn,h,p,h1,h2,d,a,kk,x,q⟩;exact s2.bU ad h0
theorem U.Xs (s:U W w L)(h1:cs.length=n*sz)(h2:n≤c)(h3:0<n→∃ b off,ad=some ⟨b,off,none⟩∧b<W.heap.size∧Rd W b off cs):U W w (Ro W e sz ad n c cs::L) :=
 ⟨s.below,let ⟨h,p,q⟩:=s.sat;⟨h,p,λ_=>none,h,λ_=>.inl rfl,λ_ _ e=>(by cases e),Hp.Sub.refl _,.inl ⟨h1,h2,h3⟩,q⟩⟩
theorem U.FC (s:U W w (Sl e sz ad n c cs::L)):U W w (Ro W e sz ad n c cs::L):=s.imp λ_ ⟨h1,h2,d,a,b,x,q⟩=>⟨h1,h2,d,a,b,.inr x,q⟩
end
theorem xh {w:World}{b off k:Nat}{ops:List gO}{o:gO}(hr:Rd w b off (rows dS ops))(ho:ops[k]?=some o):Rd w b (off+k*4) (dS o):=by
 obtain⟨hi,he⟩:=a2.1 ho;have:=hr.part (k*4) 4;rw[wM FA ops k hi,he]at this;exact this
end
end Go.Proofs.YteoldcfapaiobaaGreat
