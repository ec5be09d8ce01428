/- Packets out of bytes: quintainref12.Unpacket. -/
import Derived.Test.YteoldcfapaiobaaGreatE07Get
import Derived.Test.YteoldcfapaiobaaGreatE06Ref
import Derived.Test.YteoldcfapaiobaaGreatE01Row
import Derived.Test.YteoldcfapaiobaaGreatE05Vm
namespace Go.Proofs.YteoldcfapaiobaaGreat
open Tryz
open List (length_range drop_zero drop_drop drop_left take_zero map_cons length_nil mem_range drop_eq_nil_of_le getElem_set_self eraseIdx_set_eq take_length append_nil ext_getElem? mem_or_eq_of_mem_set getElem_mem mem_singleton range_succ getElem?_set_ne set_getElem_self replicate_succ' map_singleton)
open Go.RowKit
set_option linter.unusedVariables false
set_option linter.unusedSimpArgs false
set_option maxRecDepth 10000
set_option synthInstance.maxSize 4000
set_option synthInstance.maxHeartbeats 400000
section
def vZ (q:Pk):Nat→Int
 | 0=>q.id
 | 1=>q.first
 | 2=>q.c7
 | _=>q.frame
def v7 (q:Pk):Nat→List UInt8
 | 0=>kW q
 | 1=>m3 q
 | 2=>aP (zz q.c7)++(aP (zz q.frame)++lT q)
 | 3=>aP (zz q.frame)++lT q
 | _=>lT q
theorem EU {bs:List UInt8}{q:Pk}(h:g3 bs q):(q.kind=1∧eG q.first∧eG q.c7∧eG q.frame∧q.al.length≤32∧m3 q=aP (zz q.first)++(aP (zz q.c7)++(aP (zz q.frame)++lT q))) ∨
   (q.kind=2∧q.first=0∧q.c7=0∧q.frame=0∧q.al=[]∧q.sum=0):=by
 rcases h.1.2.2.2.2 with k | k
 ·exact .inl ⟨k.1,k.2.1,k.2.2.1,k.2.2.2.1,k.2.2.2.2,by rw[m3,ak k.1]⟩
 ·exact .inr ⟨k.1,k.2.1,k.2.2.1,k.2.2.2.1,gW k.2.2.2.2.1,k.2.2.2.2.2⟩
theorem KF {bs:List UInt8}{q:Pk}{n i:Nat}(h:g3 bs q)(hn:n=if (bs.getD 0 0).toNat=1 then 4 else 1)(hi:i<n) :
   v7 q i=aP (zz (vZ q i))++v7 q (i+1)∧0≤vZ q i∧vZ q i≤1099511627776:=by
 have h0:=(ER h).1.1;have b6:=h.1.2.2.2.1;rcases EU h with k | k
 ·obtain⟨sW,k1,k2,k3,k4,yf⟩:=k;unfold eG at k1 k2 k3;rw[ak (by omega)]at hn;rcases (by omega:i=0∨i=1∨i=2∨i=3) with rfl | rfl | rfl | rfl
  ·exact⟨rfl,b6.1,b6.2⟩
  ·exact⟨yf,by show 0≤q.first;omega,by show q.first≤_;omega⟩
  ·exact⟨rfl,by show 0≤q.c7;omega,by show q.c7≤_;omega⟩
  ·exact⟨rfl,by show 0≤q.frame;omega,by show q.frame≤_;omega⟩
 ·rw[ag (by omega)]at hn;obtain rfl:i=0:=by omega
  exact⟨rfl,b6.1,b6.2⟩
theorem EV {bs X:List UInt8}{n i aT k:Nat}{x er:Int}(hn:n=if (bs.getD 0 0).toNat=1 then 4 else 1)(hi:i<n)(hq:∀ q,g3 bs q→X.drop aT=v7 q i)(hg:lS (X.drop aT) x k er)
   (hb:er≠0∨x<0∨1099511627776<x):eu bs=none:=nH λ⟨q,h⟩=>by
 obtain⟨h1,h2,h3⟩:=KF h hn hi;obtain⟨e1,e2,e3⟩:=hg.2.2.2.2 (vZ q i) (v7 q (i+1)) (by omega) (by omega) (by rw[hq q h,h1]);omega
section
variable {W w:World}{L:List SP}{n c m:Nat}{ad:Option Addr}{bs:List UInt8}{p:Pk}
theorem Ye (I:U W w L)(hb:bs.length≤65536)(hc:bs.length≤c)(hp:∀ w',U W w' L→aX w' ad bs.length bs) :
   Calls prog 189 #[.slice ad bs.length c] w λe w'=>∃ (p:Pk) (adP:Option Addr) (cP:Nat) (ok:Bool),e=.returned (.tuple #[.agg (dJ p adP cP).toArray,.bool ok])∧(ok=true→eu bs=some p)∧(ok=false→eu bs=none)∧U W w' (Sl 5 1 adP p.al.length cP (bc p.al)::L):=by
 have ry:∀ {w'},U W w' L→eu bs=none→∃ (p:Pk) (adP:Option Addr) (cP:Nat) (ok:Bool),Ending.returned (.tuple #[.agg (dJ m2 none 0).toArray,.bool false])=.returned (.tuple #[.agg (dJ p adP cP).toArray,.bool ok])∧(ok=true→eu bs=some p)∧(ok=false→eu bs=none)∧U W w' (Sl 5 1 adP p.al.length cP (bc p.al)::L) :=
  λI bR=>⟨m2,none,0,false,rfl,λh=>(by cases h),λ_=>bR,I.bN _ _ _⟩
 refine EN func189 ntmps189 rfl rfl λa E=>?_;refine AL 1 E I λb2 a w E I=>?_;refine IF 6 E I (λaj a E=>?_) λaj a E=>?_
 ·
  have bR:eu bs=none:=Er λq hq=>by
   have:=congrArg List.length hq.2.2;have hm:1≤(kW q).length:=by rw[kW,aL];have:=q8 (zz q.id);omega
   rw[x6]at this;omega
  refine SA 2 E I λa w E I=>?_;refine RT 1 E I ?_;exact ry I.tail bR
 obtain⟨bb,oo,rfl,_⟩:=(hp _ I.tail).get (by omega);have h7:8≤bs.length:=by omega
 refine RN 5 E I λa E=>?_;rw[show (bs.length:Int)-4=((bs.length-4:Nat):Int) from by omega]at E;refine RN 1 E I λa E=>?_;obtain⟨X,ik⟩:∃ X,X=(bs.drop 3).take (bs.length-7):=⟨_,rfl⟩;have Yf:X.length=bs.length-7:=by rw[ik,ep,c3];omega
 have hr:qs W L (fl (some ⟨bb,oo,none⟩) 3 c 1) (c-3) X:=⟨by omega,by omega,λw' hw=>by
  rw[Yf,ik];exact ((hp w' hw).ue (lo:=3) (by omega) hc).D9 (by rw[c3];omega)⟩
 have lP:∀ q,g3 bs q→(q.kind=((bs.getD 0 0).toNat:Int)∧q.aW=((bs.getD 1 0).toNat:Int)∧q.to=((bs.getD 2 0).toNat:Int))∧X=kW q:=λq h=>by
  rw[ik];exact ER h
 rw[show bs.length-4-3=X.length from by omega]at E;have hXp:1≤X.length:=by omega
 obtain⟨mw,ox,Yg,_⟩:=(hr.rd _ I.tail).get (by omega);rw[Yg]at E hr;generalize c-3=dL at E hr;clear ik;refine aV 2 (λw0 w=>Rd w bb oo (bc bs)) [6,7,10,11,13] [0,1,4,5,8,9,3002,3,3006,3007,3010,3011,12,1013,1014] E I λa w E I hH=>?_;have hC:Rd w bb oo (bc bs):=(hp _ I.tail).rd (by omega);refine RH 6 E I hH hC λa E=>?_;refine QH E (λw hc=>ae E (hc 0 _ (kX (by omega)))) hC λa E=>?_;refine QP E (λw=>o3 E underlying5 underlying3 (sU _)) λa E=>?_;refine QH E (λw hc=>ae E (hc 1 _ (kX (by omega)))) hC λa E=>?_;refine QH E (λw hc=>o3 E underlying5 underlying3 (sU _)) hC λa E=>?_;refine QH E (λw hc=>ae E (hc 2 _ (kX (by omega)))) hC λa E=>?_;refine QH E (λw hc=>o3 E underlying5 underlying3 (sU _)) hC λa E=>?_;refine RH 1 E I hH hC λa E=>?_;refine eV E rfl I Ty.t203 rfl λb5 a w E I ho=>?_;clear ho;replace hC:=hH.at w ((hp _ I.tail.tail).rd (by omega));refine RH 0 E I hH hC λa E=>?_;refine SA 0 E I λa w E I=>?_;refine AL 1 E I λcH a w E I=>?_;refine RN 4 E I λa E=>?_;refine cc (M:=λa w=>∃ n:Nat,n=(if (bs.getD 0 0).toNat=1 then 4 else 1)∧Fr a 153 [(0,.slice (some ⟨bb,oo,none⟩) bs.length c),(2,pt b2),(4,.slice (some ⟨mw,ox,none⟩) X.length dL),(5,pt b5),(6,pt cH),(7,.int .i64 (0:Nat)),(8,.int .i64 n)]∧U W w (aa cH 345 (ints .i64 4 (λ_=>0))::aa b5 203 (dJ ⟨((bs.getD 0 0).toNat:Int),((bs.getD 1 0).toNat:Int),((bs.getD 2 0).toNat:Int),0,0,0,0,0,[]⟩ none 0)::aa b2 203 (dJ m2 none 0)::L)) ?_ ?_
 ·
  refine IF 4 E I (λao a E=>?_) λao a E=>?_
  ·
   refine RN 1 E I λa E=>?_;exact⟨4,by rw[ak (by omega)],E.ab [0,2,4,5,6,7,8],I⟩
  refine RN 0 E I λa E=>?_;exact⟨1,by rw[ag (by omega)],E.ab [0,2,4,5,6,7,8],I⟩
 clear E;(try clear I);rintro a w ⟨n,hn,E,I⟩;refine RN 3 E I λa E=>?_;refine aO (λμ a w=>∃ (i k:Nat) (g:Nat→Int),(μ=n-i∧i≤n∧k≤X.length∧(∀ j,i≤j→g j=0)∧∀ q,g3 bs q→X.drop k=v7 q i∧∀ j,j<i→g j=vZ q j)∧Fr a 153 [(0,.slice (some ⟨bb,oo,none⟩) bs.length c),(2,pt b2),(4,.slice (some ⟨mw,ox,none⟩) X.length dL),(5,pt b5),(6,pt cH),(7,.int .i64 k),(8,.int .i64 n),(9,.int .i64 i)]∧U W w (aa cH 345 (ints .i64 4 g)::aa b5 203 (dJ ⟨((bs.getD 0 0).toNat:Int),((bs.getD 1 0).toNat:Int),((bs.getD 2 0).toNat:Int),0,0,0,0,0,[]⟩ none 0)::aa b2 203 (dJ m2 none 0)::L)) (n) (⟨0,0,λ_=>0,⟨rfl,by omega,by omega,λ_ _=>rfl,λq h=>⟨by rw[drop_zero];exact (lP q h).2,λj hj=>absurd hj (by omega)⟩⟩,E.ab [0,2,4,5,6,7,8,9],I⟩) ?_;clear E I;rintro μ a w ⟨i,k,g,⟨rfl,hi,hk,AD,um⟩,E,I⟩;refine IF 5 E I (λay a E=>?_) λay a E=>?_
 ·
  have cC:i<n:=by omega
  have p0:i<4:=by rw[hn]at cC;split at cC <;> omega
  have fO:=hr.cut hk;have hlk:=fO.len;refine RN 5 E I λa E=>?_;rw[show X.length-k=(X.drop k).length from by simp]at E;refine jO 0 E I (Ew (bs:=X.drop k) I (by omega) (λw' hw=>fO.rd w' hw.tail.tail.tail)) λx m er a w E ⟨mV,I⟩=>?_;refine BY 12 E I (λbA a E=>?_) λbA a E=>?_
  ·
   refine SA 10 E I λa w E I=>?_;refine RT 1 E I ?_;have bR:=EV hn cC (λq h=>(um q h).1) mV (.inl (by simpa using bA));exact ry I.tail.tail.tail bR
  refine BY 4 E I (λjX a E=>?_) λjX a E=>?_
  ·
   refine SA 6 E I λa w E I=>?_;refine RT 1 E I ?_;have bR:=EV hn cC (λq h=>(um q h).1) mV (.inr (.inl (by simpa using jX)));exact ry I.tail.tail.tail bR
  refine IF 3 E I (λbk a E=>?_) λbk a E=>?_
  ·
   refine SA 2 E I λa w E I=>?_;refine RT 1 E I ?_;have bR:=EV hn cC (λq h=>(um q h).1) mV (.inr (.inr (by simpa using bk)));exact ry I.tail.tail.tail bR
  refine ST 4 E I (λa w E I=>?_) (hlt:=(by rw[dd];omega));rw[ints_set,show (λj=>if j=i then x else g j)=ck g i x from rfl]at I;refine RN 0 E I λa E=>?_;have Yh:=(mV.2.2.1 (by simpa using bA)).2;rw[c3]at Yh;refine RN 7 E I λa E=>?_;refine⟨n-(i+1),by omega,i+1,k+m,ck g i x,⟨rfl,by omega,?_,?_,λq h=>?_⟩,E.ab [0,2,4,5,6,7,8,9],I⟩
  ·have:=(mV.2.2.1 (by simpa using bA)).2;rw[c3]at this;omega
  ·intro j hj;rw[ck,ag (by omega)];exact AD j (by omega)
  ·obtain⟨h1,h2⟩:=um q h;obtain⟨h3,h4,h5⟩:=KF h hn cC;obtain⟨e1,e2,e3⟩:=mV.2.2.2.2 (vZ q i) (v7 q (i+1)) (by omega) (by omega) (by rw[h1,h3]);refine⟨by rw[← drop_drop,h1,h3,e2,drop_left],λj hj=>?_⟩;by_cases gP:j=i
   ·subst gP;rw[ck,ak rfl,e1]
   ·rw[ck,ag gP];exact h2 j (by omega)
 obtain rfl:i=n:=by omega
 rw[show dJ ⟨((bs.getD 0 0).toNat:Int),((bs.getD 1 0).toNat:Int),((bs.getD 2 0).toNat:Int),0,0,0,0,0,[]⟩ none 0=[.int .i64 ((bs.getD 0 0).toNat:Int),.int .i64 ((bs.getD 1 0).toNat:Int),.int .i64 ((bs.getD 2 0).toNat:Int),.int .i64 0,.int .i64 0,.slice none 0 0,.int .i64 0,.int .i64 0,.int .u32 (0:Nat)] from rfl]at I;refine aV 1 (λw0 w'=>Rd w' cH 0 (ints .i64 4 g)) [3,5,7,9,10,11,12,13] [0,2,4,6,3001,8,3003,3005,3007,1009,1010,1011,1012,1013,14,1015] E I λa w E I hH=>?_;have hC:=hH.at w I.ai;refine RH 4 E I hH hC λa E=>?_;refine QH E (λw hc=>ae E (hc 0 _ (fN g (by decide)))) hC λa E=>?_;refine RH 1 E I hH hC λa E=>?_;refine QH E (λw hc=>ae E (hc 1 _ (fN g (by decide)))) hC λa E=>?_;refine QH E (λw hc=>ae E (hc 2 _ (fN g (by decide)))) hC λa E=>?_;refine QH E (λw hc=>ae E (hc 3 _ (fN g (by decide)))) hC λa E=>?_;refine RH 0 E I hH hC λa E=>?_;refine ST 0 E I (λa w E I=>?_);replace hC:=hH.at w I.ai;refine RH 1 E I hH hC λa E=>?_;refine ST 0 E I (λa w E I=>?_);replace hC:=hH.at w I.ai;refine RH 1 E I hH hC λa E=>?_;refine ST 0 E I (λa w E I=>?_);replace hC:=hH.at w I.ai;refine RH 1 E I hH hC λa E=>?_;refine ST 0 E I (λa w E I=>?_);refine RN 0 E I λa E=>?_;refine cc (M:=λa w=>∃ (p:Pk) (adP:Option Addr) (cP:Nat),p.sum<4294967296∧(∀ q,g3 bs q→p=q)∧Fr a 153 [(0,.slice (some ⟨bb,oo,none⟩) bs.length c),(2,pt b2),(5,pt b5)]∧U W w (aa b5 203 (dJ p adP cP)::Sl 5 1 adP p.al.length cP (bc p.al)::aa b2 203 (dJ m2 none 0)::L)) ?_ ?_
 ·
  refine IF 4 E I (λbO a E=>?_) λbO a E=>?_
  ·
   have gZ:∀ q,g3 bs q→X.drop k=lT q∧q.al.length≤32:=λq h=>by
    rw[ak (by omega)]at hn;refine⟨by rw[(um q h).1,hn];rfl,?_⟩;rcases EU h with k | k
    ·exact k.2.2.2.2.1
    ·rw[k.2.2.2.2.1];simp
   refine IF 7 E I (λeE a E=>?_) λeE a E=>?_
   ·
    have bR:eu bs=none:=nH λ⟨q,h⟩=>by
     have:=congrArg List.length (gZ q h).1;rw[lT,aL,mz,c3]at this;omega
    refine SA 2 E I λa w E I=>?_;refine RT 1 E I ?_;exact ry I.tail.tail.tail bR
   have ov:k+4≤X.length:=by omega
   refine RN 3 E I λa E=>?_;refine aO (λμ a w=>∃ (j:Nat),(μ=4-j∧j≤4)∧Fr a 153 [(0,.slice (some ⟨bb,oo,none⟩) bs.length c),(2,pt b2),(4,.slice (some ⟨mw,ox,none⟩) X.length dL),(5,pt b5),(7,.int .i64 k),(13,.int .i64 j)]∧U W w (aa b5 203 [.int .i64 ((bs.getD 0 0).toNat:Int),.int .i64 ((bs.getD 1 0).toNat:Int),.int .i64 ((bs.getD 2 0).toNat:Int),.int .i64 (g 0),.int .i64 (g 1),.slice none 0 0,.int .i64 (g 2),.int .i64 (g 3),.int .u32 (mA ((X.drop k).take j):Nat)]::aa b2 203 (dJ m2 none 0)::L)) (4) (⟨0,⟨rfl,by omega⟩,E.ab [0,2,4,5,7,13],(I.perm (List.Perm.swap _ _ _)).tail⟩) ?_;clear E I;rintro μ a w ⟨j,⟨rfl,hj⟩,E,I⟩;refine IF 4 E I (λmW a E=>?_) λmW a E=>?_
   ·
    have hj4:j<4:=by omega
    have xx:k+j<X.length:=by omega
    have nu:=Ax ((X.drop k).take j) 3 (by rw[ep];omega);rw[show (256:Nat) ^ 3=16777216 from by decide]at nu;have ei:j<(X.drop k).length:=by rw[c3];omega
    have jG:=Kz ei;rw[show (X.drop k)[j]=X[k+j] from List.getElem_drop ..]at jG;have qp:=lQ X[k+j];refine aV 1 (λw0 w'=>w'.cell? ⟨b5,8,none⟩=some (.int .u32 (mA ((X.drop k).take j):Nat))∧Rd w' mw ox (bc X)) [8,9] [0,3,4,5,6,7,3001,2,1008,1009,10,11,1012] E I λa w E I hH=>?_;have hC:=hH.at w ⟨I.bz rfl,(hr.rd _ I.tail.tail).rd (by omega)⟩;refine RH 6 E I hH hC λa E=>?_;refine QH E (λw hc=>ae E (hc.1)) hC λa E=>?_;refine RH 1 E I hH hC λa E=>?_;rw[show IntKind.u32.wrap (((mA ((X.drop k).take j):Nat):Int)*256)=((mA ((X.drop k).take j)*256:Nat):Int) from by rw[wrap_u32];omega]at E;refine SS E (ae E (hC.2 (k+j) _ (dQ xx))) λa E=>?_;refine RH 0 E I hH hC λa E=>?_;refine SX 0 E I (by rw[wrap_u32];omega) λa E=>?_;refine RH 1 E I hH hC λa E=>?_;rw[show IntKind.u32.wrap (((mA ((X.drop k).take j)*256:Nat):Int)+(X[k+j].toNat:Int))=((mA ((X.drop k).take (j+1)):Nat):Int) from by rw[wrap_u32,jG];omega]at E;refine RH 1 E I hH hC λa E=>?_;refine ST 0 E I (λa w E I=>?_);refine RN 3 E I λa E=>?_;exact⟨4-(j+1),by omega,j+1,⟨rfl,by omega⟩,E.ab [0,2,4,5,7,13],I⟩
   obtain rfl:j=4:=by omega
   have qo:=hr.cut ov;have hl4:=qo.len;have lU:=Ax ((X.drop k).take 4) 4 (by rw[ep];omega);rw[show (256:Nat) ^ 4=4294967296 from by decide]at lU;have cd:∀ q,g3 bs q→q.sum=mA ((X.drop k).take 4)∧X.drop (k+4)=aP (zz (q.al.length:Int))++dv q.al 0∧q.al.length≤32:=λq h=>by
    obtain⟨h1,h2⟩:=gZ q h;rw[← drop_drop,h1,lT];exact⟨(Ky h.2.1).symm,rfl,h2⟩
   generalize mA ((X.drop k).take 4)=AE at I lU cd;refine RN 8 E I λa E=>?_;rw[show X.length-(k+4)=(X.drop (k+4)).length from by simp]at E;refine jO 0 E I (Ew (bs:=X.drop (k+4)) I (by omega) (λw' hw=>qo.rd w' hw.tail.tail)) λx m er a w E ⟨mV,I⟩=>?_;refine BY 12 E I (λbA a E=>?_) λbA a E=>?_
   ·
    refine SA 10 E I λa w E I=>?_;refine RT 1 E I ?_;have bR:eu bs=none:=nH λ⟨q,h⟩=>by
     obtain⟨_,e2,AF⟩:=cd q h;have:=(mV.2.2.2.2 (q.al.length:Int) _ (by omega) (by omega) e2).2.2;simp[this]at bA
    exact ry I.tail.tail bR
   refine BY 4 E I (λjX a E=>?_) λjX a E=>?_
   ·
    refine SA 6 E I λa w E I=>?_;refine RT 1 E I ?_;have bR:eu bs=none:=nH λ⟨q,h⟩=>by
     obtain⟨_,e2,AF⟩:=cd q h;have:=(mV.2.2.2.2 (q.al.length:Int) _ (by omega) (by omega) e2).1;omega
    exact ry I.tail.tail bR
   refine IF 3 E I (λmo a E=>?_) λmo a E=>?_
   ·
    refine SA 2 E I λa w E I=>?_;refine RT 1 E I ?_;have bR:eu bs=none:=nH λ⟨q,h⟩=>by
     obtain⟨_,e2,AF⟩:=cd q h;have:=(mV.2.2.2.2 (q.al.length:Int) _ (by omega) (by omega) e2).1;omega
    exact ry I.tail.tail bR
   refine RN 1 E I λa E=>?_;have l9:=(mV.2.2.1 (by simpa using bA)).2;rw[c3]at l9;have sT:=hr.cut (k:=k+4+m) (by omega);refine RN 5 E I λa E=>?_;rw[show X.length-(k+4+m)=(X.drop (k+4+m)).length from by simp]at E;refine jP 0 E I (XK (m:=32) (bs:=X.drop (k+4+m)) I sT.len sT.cap (by omega) (λw' hw=>sT.rd w' hw.tail.tail)) ?_;clear E I;rintro e w ⟨out,aq,cO,e2,rfl,nv,I⟩;refine⟨_,rfl,λa E=>?_⟩;refine RN 5 E I λa E=>?_;have mc:∀ q,g3 bs q→out=q.al∧e2=0:=λq h=>by
    obtain⟨_,e2,AF⟩:=cd q h;obtain⟨f1,f2,f3⟩:=mV.2.2.2.2 (q.al.length:Int) _ (by omega) (by omega) e2;refine nv.2.2 q.al AF ?_;rw[← drop_drop,e2,f2,drop_left]
   refine IF 4 E I (λmq a E=>?_) λmq a E=>?_
   ·
    refine SA 2 E I λa w E I=>?_;refine RT 1 E I ?_;have bR:eu bs=none:=nH λ⟨q,h⟩=>by
     have:=(mc q h).2;omega
    exact ry I.tail.tail.tail bR
   refine ST 2 E I (λa w E I=>?_);refine RN 0 E I λa E=>?_;refine⟨⟨((bs.getD 0 0).toNat:Int),((bs.getD 1 0).toNat:Int),((bs.getD 2 0).toNat:Int),g 0,g 1,g 2,g 3,AE,out⟩,aq,cO,lU,λq h=>?_,E.ab [0,2,5],I⟩;obtain⟨h1,h2,h3⟩:=(lP q h).1;have h4:=(um q h).2;rw[ak (by omega)]at hn;rw[h4 0 (by omega),h4 1 (by omega),h4 2 (by omega),h4 3 (by omega),← h1,← h2,← h3,(mc q h).1,← (cd q h).1];rfl
  refine RN 0 E I λa E=>?_;refine⟨⟨((bs.getD 0 0).toNat:Int),((bs.getD 1 0).toNat:Int),((bs.getD 2 0).toNat:Int),g 0,g 1,g 2,g 3,0,[]⟩,none,0,(by show 0<4294967296;decide),λq h=>?_,E.ab [0,2,5],(((I.perm (List.Perm.swap _ _ _)).tail.bN 5 1 none)).perm (List.Perm.swap _ _ _)⟩;obtain⟨h1,h2,h3⟩:=(lP q h).1;have h4:=(um q h).2;rw[ag (by omega)]at hn;rcases EU h with k | k
  ·omega
  ·obtain⟨sW,k1,k2,k3,k4,yf⟩:=k;have h5:=h4 0 (by omega);have h6:=AD 1 (by omega);have h7:=AD 2 (by omega);have h8:=AD 3 (by omega);rw[h5,h6,h7,h8,← h1,← h2,← h3];show Pk.mk q.kind q.aW q.to q.id 0 0 0 0 []=q;cases q;simp_all
 clear E;(try clear I);rintro a w ⟨p,adP,cP,lU,KG,E,I⟩;refine aV 1 (λw0 w'=>Rd w' b5 0 (dJ p adP cP)∧aX w' (some ⟨bb,oo,none⟩) bs.length bs) [1,2,3,5,6,7] [4,3000,3001,3005,1002,2003,3006,1007,8] E I λa w E I hH=>?_;have hC:=hH.at w ⟨I.ai,hp _ I.tail.tail.tail⟩;refine RH 1 E I hH hC λa E=>?_;refine QH E (λw hc=>bS E underlying203 rfl Ty.t203 (hc.1)) hC λa E=>?_;refine QH E (λw hc=>bS E underlying203 rfl Ty.t203 (hc.1)) hC λa E=>?_;refine QH E (λw hc=>lj E underlying22 underlying5 underlying9 (hc.2)) hC λa E=>?_;refine RH 0 E I hH hC λa E=>?_;refine aY 0 E I (EP (p:=p) I lU (λw' hw=>hw.cu adP p.al rfl rfl)) λadE cE a w E I=>?_;replace hC:=hH.at w ⟨I.ai,hp _ I.tail.tail.tail.tail⟩;refine RH 0 E I hH hC λa E=>?_;refine DN [(3,[3006,1007,8]),(7,[1003,3006,8])] (by kernel_rfl) rfl ⟨⟨_,rfl,?_⟩,⟨_,rfl,?_⟩,trivial⟩
 ·
  refine RH 0 E I hH hC λa E=>?_;refine SS E (lj E underlying22 underlying5 underlying9 ((I.cu adE (aR p) rfl rfl))) λa E=>?_;refine RH 0 E I hH hC λa E=>?_;refine QH E (λw hc=>r4 E) hC λa E=>?_;refine RH 0 E I hH hC λa E=>?_;refine SA 0 E I λa w E I=>?_;replace hC:=hH.at w ⟨I.ai,hp _ I.tail.tail.tail.tail⟩;refine RH 1 E I hH hC λa E=>?_;refine RT 0 E I ?_;refine⟨p,adP,cP,_,rfl,λh=>?_,λh=>?_,I.sub⟩
  ·rw[p9]at h;exact Ar ((Et (λe=>by rw[e]at h7;simp at h7) lU).2 (by simpa using h))
  ·refine nH λ⟨q,hd⟩=>?_;have e:aR p=bs:=by rw[KG q hd,aR,ak hd.1];exact hd.2.2
   rw[e,p9]at h;simp at h
 refine RH 0 E I hH hC λa E=>?_;refine SA 0 E I λa w E I=>?_;replace hC:=hH.at w ⟨I.ai,hp _ I.tail.tail.tail.tail⟩;refine RH 0 E I hH hC λa E=>?_;refine SS E (lj E underlying22 underlying5 underlying9 ((I.cu adE (aR p) rfl rfl))) λa E=>?_;refine RH 0 E I hH hC λa E=>?_;refine QH E (λw hc=>r4 E) hC λa E=>?_;refine RH 1 E I hH hC λa E=>?_;refine RT 0 E I ?_;refine⟨p,adP,cP,_,rfl,λh=>?_,λh=>?_,I.sub⟩
 ·rw[p9]at h;exact Ar ((Et (λe=>by rw[e]at h7;simp at h7) lU).2 (by simpa using h))
 ·refine nH λ⟨q,hd⟩=>?_;have e:aR p=bs:=by rw[KG q hd,aR,ak hd.1];exact hd.2.2
  rw[e,p9]at h;simp at h
end
end
section
section
variable {W w:World}{L:List SP}{c:Nat}{ad:Option Addr}{g:Nat→Int}
theorem yg (I:U W w L):Calls prog 177 #[.agg (ints .i32 32 g).toArray] w λe w'=>∃ ad c,e=.returned (.slice ad 128 c)∧U W w' (Sl 5 1 ad 128 c (bc (gn g))::L):=by
 refine EN func177 ntmps177 rfl rfl λa E=>?_;refine BX 1 E I λb1 a w E I=>?_;refine RN 7 E I λa E=>?_;refine aO (λμ a w=>∃ (i:Nat) (ad:Option Addr) (c:Nat),(μ=32-i∧i≤32)∧Fr a 16 [(3,.slice ad (lR g i).length c),(6,.agg (ints .i32 32 g).toArray),(7,.int .i64 i)]∧U W w (Sl 5 1 ad (lR g i).length c (bc (lR g i))::L)) (32) (⟨0,none,0,⟨rfl,by omega⟩,E.ab [3,6,7],I.tail.bN 5 1 none⟩) ?_;clear E I;rintro μ a w ⟨i,ad,c,⟨rfl,hi⟩,E,I⟩;refine IF 3 E I (λaj a E=>?_) λaj a E=>?_
 ·
  have EW:i<32:=by omega
  have qv:=rf g i;refine RN 2 E I λa E=>?_;refine SS E (r5 E underlying183 underlying21 rfl Ty.t21 (by omega) (fN g EW)) λa E=>?_;refine bh 3 E I (Xm I) λad2 a w E I=>?_;refine RN 0 E I λa E=>?_;refine g2 E rfl I underlying22 Ty.t5 rfl rfl (by decide) (λh0=>(I.cu ad2 (fc (pA (g i))) rfl rfl).get h0) (by rw[dt];rfl) (eo _) (by rw[mz];omega) λafe c13 a w E I=>?_;rw[← fG,← Eb]at I;rw[show (lR g i).length+(fc (pA (g i))).length=(lR g (i+1)).length from by rw[rf,rf,mz];omega]at E I;refine RN 3 E I λa E=>?_;exact⟨32-(i+1),by omega,i+1,_,_,⟨rfl,by omega⟩,E.ab [3,6,7],I.sub⟩
 obtain rfl:i=32:=by omega
 rw[show (lR g 32).length=128 from rf g 32]at E I;refine RT 3 E I ?_;exact⟨_,_,rfl,I⟩
theorem Yi (I:U W w L):Calls prog 139 #[.agg (ints .i32 32 g).toArray] w λe w'=>e=.returned (.int .u32 (jk (gn g)))∧U W w' L:=by
 refine EN func139 ntmps139 rfl rfl λa E=>?_;refine BX 1 E I λb1 a w E I=>?_;refine aY 3 E I (yg I) λad c a w E I=>?_;rw[show 128=(gn g).length from (ug g).symm]at E I;refine CL 0 E I (J4 I (by rw[ug];decide) (λw' hw=>hw.cu ad (gn g) rfl rfl)) λa w E I=>?_;refine RT 1 E I ?_;exact⟨rfl,I.sub⟩
theorem uo (I:U W w L):Calls prog 115 #[.agg (ints .i32 32 g).toArray] w λe w'=>∃ ad c,e=.returned (.slice ad 128 c)∧U W w' (Sl 5 1 ad 128 c (bc (gn g))::L):=by
 refine EN func115 ntmps115 rfl rfl λa E=>?_;refine BX 1 E I λb1 a w E I=>?_;refine RN 6 E I λa E=>?_;refine aO (λμ a w=>∃ (i:Nat) (ad:Option Addr) (c:Nat),(μ=32-i∧i≤32)∧Fr a 17 [(1,pt b1),(3,.slice ad (lR g i).length c),(4,.int .i64 i)]∧U W w (Sl 5 1 ad (lR g i).length c (bc (lR g i))::aa b1 49 (ints .i32 32 g)::L)) (32) (⟨0,none,0,⟨rfl,by omega⟩,E.ab [1,3,4],I.bN 5 1 none⟩) ?_;clear E I;rintro μ a w ⟨i,ad,c,⟨rfl,hi⟩,E,I⟩;refine IF 4 E I (λaj a E=>?_) λaj a E=>?_
 ·
  have EW:i<32:=by omega
  have qv:=rf g i;refine RN 4 E I λa E=>?_;refine SS E (ae E (I.bz (b:=b1) (fN g EW))) λa E=>?_;refine RN 0 E I λa E=>?_;refine SS E (gj E underlying21 underlying100) λa E=>?_;rw[J3]at E;refine bh 0 E I (Ee I) λad2 a w E I=>?_;refine RN 0 E I λa E=>?_;refine g2 E rfl I underlying22 Ty.t5 rfl rfl (by decide) (λh0=>(I.cu ad2 (fc (pA (g i))) rfl rfl).get h0) (by rw[dt];rfl) (eo _) (by rw[mz];omega) λKH KI a w E I=>?_;rw[← fG,← Eb]at I;rw[show (lR g i).length+(fc (pA (g i))).length=(lR g (i+1)).length from by rw[rf,rf,mz];omega]at E I;refine RN 4 E I λa E=>?_;exact⟨32-(i+1),by omega,i+1,_,_,⟨rfl,by omega⟩,E.ab [1,3,4],I.sub⟩
 obtain rfl:i=32:=by omega
 rw[show (lR g 32).length=128 from rf g 32]at E I;refine RT 3 E I ?_;exact⟨_,_,rfl,(I.perm (List.Perm.swap _ _ _)).tail⟩
theorem Yj (I:U W w L):Calls prog 106 #[.agg (ints .i32 32 g).toArray] w λe w'=>e=.returned (.int .u32 (jk (gn g)))∧U W w' L:=by
 refine EN func106 ntmps106 rfl rfl λa E=>?_;refine BX 1 E I λb1 a w E I=>?_;refine aY 3 E I (uo I) λad c a w E I=>?_;rw[show 128=(gn g).length from (ug g).symm]at E I;refine CL 0 E I (J5 I (by rw[ug];decide) (λw' hw=>hw.cu ad (gn g) rfl rfl)) λa w E I=>?_;refine RT 1 E I ?_;exact⟨rfl,I.sub⟩
end
end
section
def dp (l:List UInt8)(f:Nat)(b:List UInt8):List UInt8:=if l.length<f then l else l++(b.drop (l.length-f)).take (1000-l.length)
theorem rz {l:List UInt8}{f:Nat}{b:List UInt8}(h:l.length≤1000):l.length≤(dp l f b).length∧(dp l f b).length≤1000:=by
 unfold dp;split
 ·omega
 ·rw[aL,ep];omega
theorem KJ {l b:List UInt8}{f i:Nat}(hf:f≤l.length)(hi:i<b.length)(h1:l.length-f≤i)(h2:l.length+(i-(l.length-f))<1000) :
   l++(b.drop (l.length-f)).take (i+1-(l.length-f))=(l++(b.drop (l.length-f)).take (i-(l.length-f)))++[b[i]]:=by
 rw[show i+1-(l.length-f)=(i-(l.length-f))+1 from by omega,ds]
 congr 1
 rw[jd (by rw[c3];omega)]
 congr 2
 rw[List.getElem_drop]
 congr 1
 omega
def iF (ls:List (List UInt8)):Nat→Nat
 | 0=>(ls.headD []).length
 | i+1=>min (iF ls i) (ls.getD i []).length
def aU (ls:List (List UInt8)):Nat:=iF ls ls.length
theorem Yk (ls:List (List UInt8)):iF ls 1=iF ls 0:=by
 rw[iF,iF];cases ls <;> simp[iF]
theorem KK {ls:List (List UInt8)}:∀ {i j:Nat},j<i→iF ls i≤(ls.getD j []).length
 | 0,_,h=>absurd h (by omega)
 | i+1,j,h=>by
  rw[iF];by_cases hj:j=i
  ·subst hj;exact Nat.min_le_right _ _
  ·exact ft (Nat.min_le_left _ _) (KK (by omega))
theorem v8 {ls:List (List UInt8)}{l:List UInt8}(h:l∈ls):aU ls≤l.length:=by
 obtain⟨i,hi,rfl⟩:=List.getElem_of_mem h;have:=KK (ls:=ls) (i:=ls.length) hi
 rwa [bn,aE hi]at this
theorem KL (ls:List (List UInt8)):∀ i,i≤ls.length→ls≠[]→∃ l∈ls,iF ls i=l.length
 | 0,_,h=>by
  cases ls with
  | nil=>exact absurd rfl h
  | cons a r=>exact⟨a,by simp,rfl⟩
 | i+1,hi,h=>by
  obtain⟨l,hl,e⟩:=KL ls i (by omega) h;rw[iF];rcases Nat.le_total (iF ls i) (ls.getD i []).length with h1 | h1
  ·rw[Nat.min_eq_left h1];exact⟨l,hl,e⟩
  ·rw[Nat.min_eq_right h1,bn,aE (by omega)];exact⟨ls[i],getElem_mem _,rfl⟩
theorem AG {ls:List (List UInt8)}(h:ls≠[]):∃ l∈ls,aU ls=l.length:=KL ls _ (a7 _) h
theorem EX {ls:List (List UInt8)}{n:Nat}(h:ls≠[])(hn:∀ l∈ls,n≤l.length):n≤aU ls:=by
 obtain⟨l,hl,e⟩:=AG h;rw[e];exact hn l hl
def fw (ls:List (List UInt8))(f i:Nat):List UInt8:=(ls.take i).map (·.getD f 0)
def bJ (ls:List (List UInt8))(f:Nat):List UInt8:=ls.map (·.getD f 0)
theorem AH (ls:List (List UInt8))(f:Nat):fw ls f ls.length=bJ ls f:=by rw[fw,take_length,bJ]
theorem AI {ls:List (List UInt8)}{f i:Nat}(h:i<ls.length):fw ls f (i+1)=fw ls f i++[ls[i].getD f 0]:=by
 rw[fw,jd h,cW];rfl
theorem sX {ls:List (List UInt8)}{f i:Nat}(h:i≤ls.length):(fw ls f i).length=i:=by
 rw[fw,bd,ep];omega
theorem m8 (ls:List (List UInt8))(f:Nat):(bJ ls f).length=ls.length:=by rw[bJ,bd]
structure Gs where
 kind:Int
 order:Int
 table:List UInt8
def cX (b:Gs):Prop:=(b.kind=1∧b.order=0∧b.table.length=0)∨(b.kind=2∧0≤b.order∧b.order≤3∧b.table.length=0)∨(b.kind=3∧b.order=0∧1≤b.table.length∧b.table.length≤1000)
instance (b:Gs):Decidable (cX b):=inferInstanceAs (Decidable (_∨_))
def yh (o:Nat)(past:List UInt8)(i:Nat):Bool:=(past.drop (i-o)).take o==past.drop (past.length-o)
def g4 (o:Nat)(past:List UInt8):Nat→Nat→Int
 | 0=>λ_=>0
 | i+1=>if o≤i∧yh o past i=true then ck (g4 o past i) (past.getD i 0).toNat (g4 o past i (past.getD i 0).toNat+1) else g4 o past i
theorem yi {o:Nat}{past:List UInt8}:∀ {i:Nat},i≤o→g4 o past i=λ_=>0
 | 0,_=>rfl
 | i+1,h=>by rw[g4,ag (by omega),yi (by omega)]
theorem AJ (o:Nat)(past:List UInt8):∀ (i v:Nat),0≤g4 o past i v∧g4 o past i v≤i
 | 0,v=>⟨Int.le_refl _,Int.le_refl _⟩
 | i+1,v=>by
  have h:=AJ o past i v;have h2:=AJ o past i (past.getD i 0).toNat;rw[g4];split
  ·unfold ck;split <;> omega
  ·omega
def gG (b:Gs)(past:List UInt8):Nat→Int:=if b.kind=2 then g4 b.order.toNat past past.length else λ_=>0
def il (past:List UInt8):UInt8:=past.getLastD 0
def lV (w:Nat→Int)(last:Nat):Nat→Nat
 | 0=>last
 | i+1=>if w (lV w last i)<w i then i else lV w last i
theorem EY {w:Nat→Int}{last:Nat}(hl:last<256):∀ {i:Nat},i≤256→lV w last i<256
 | 0,_=>hl
 | i+1,h=>by
  rw[lV];split
  ·omega
  ·exact EY hl (by omega)
theorem KM {w:Nat→Int}{last:Nat}:∀ {i:Nat},(∀ v,v<i→w v≤w last)→lV w last i=last
 | 0,_=>rfl
 | i+1,h=>by
  have ih:=KM (i:=i) λv hv=>h v (by omega);rw[lV,ih,ag];have:=h i (by omega);omega
theorem KN {w:Nat→Int}{last x:Nat}(h0:w last<w x)(h1:∀ v,v<x→w v<w x):∀ {i:Nat},(∀ v,v<i→w v≤w x)→(i≤x→w (lV w last i)<w x)∧(x<i→lV w last i=x)
 | 0,_=>⟨λ_=>h0,λh=>absurd h (by omega)⟩
 | i+1,h=>by
  have ih:=KN h0 h1 (i:=i) λv hv=>h v (by omega);rw[lV];refine⟨λhi=>?_,λhi=>?_⟩
  ·have:=ih.1 (by omega);have:=h1 i (by omega);split <;> assumption
  ·by_cases hx:x=i
   ·subst hx;rw[ak (ih.1 (by omega))]
   ·rw[ih.2 (by omega),ag];have:=h i (by omega);omega
def m9 (b:Gs)(past:List UInt8):UInt8:=if b.kind=3 then b.table.getD (past.length%b.table.length) 0 else UInt8.ofNat (lV (gG b past) (il past).toNat 256)
def ef (b:Gs)(past:List UInt8):Nat→List UInt8
 | 0=>past
 | i+1=>ef b past i++[m9 b (ef b past i)]
theorem im (b:Gs)(past:List UInt8):∀ i,(ef b past i).length=past.length+i
 | 0=>rfl
 | i+1=>by rw[ef,aL,im b past i];rfl
theorem KO (b:Gs)(past:List UInt8):∀ i,(ef b past i).take past.length=past
 | 0=>take_length
 | i+1=>by
  rw[ef,List.take_append_of_le_length (by rw[im];omega),KO b past i]
def j4 (b:Gs)(past:List UInt8)(n:Nat):List UInt8:=(ef b past n).drop past.length
theorem EZ (b:Gs)(past:List UInt8)(n:Nat):(j4 b past n).length=n:=by rw[j4,c3,im];omega
theorem uq (b:Gs)(past:List UInt8)(n:Nat):past++j4 b past n=ef b past n:=by
 conv=>lhs;lhs;rw[← KO b past n]
 rw[j4,jK]
theorem Yl (b:Gs)(past:List UInt8)(n:Nat):j4 b past (n+1)=j4 b past n++[m9 b (past++j4 b past n)]:=by
 rw[uq,j4,ef,List.drop_append_of_le_length (by rw[im];omega)];rfl
def nI (b:Gs)(past:List UInt8)(to:Nat):List UInt8:=ef b past (to-past.length)
def iS (b:Gs)(ls:List (List UInt8))(to:Nat):List (List UInt8):=ls.map λl=>nI b l to
theorem Ym (b:Gs)(past:List UInt8)(to:Nat):to≤(nI b past to).length:=by rw[nI,im];omega
def dq (b:Gs)(ls:List (List UInt8))(to:Nat):List (List UInt8):=(List.range (to-aU ls)).map λi=>bJ (iS b ls to) (aU ls+i)
theorem wa (b:Gs)(ls:List (List UInt8))(to:Nat):(dq b ls to).length=to-aU ls:=by simp[dq]
end
section
abbrev Lx:=Nat×List UInt8
def Ln (x:Lx):SP:=λh=>∃ (ad:Option Addr) (c:Nat),cn [aa x.1 328 [.slice ad x.2.length c],Sl 5 1 ad x.2.length c (bc x.2)] h
section
variable {W w:World}{L L' R:List SP}{n c m lb:Nat}{ad:Option Addr}{l bs:List UInt8}{x:UInt8}
theorem Ln.open (I:U W w (Ln (lb,l)::L)):∃ (ad:Option Addr) (c:Nat),U W w (aa lb 328 [.slice ad l.length c]::Sl 5 1 ad l.length c (bc l)::L):=by
 obtain⟨ad,_,I⟩:=I.jy (p:=λ_=>True) (B:=λad h=>∃ c,cn [aa lb 328 [.slice ad l.length c],Sl 5 1 ad l.length c (bc l)] h) λ_ ⟨ad,c,h⟩=>⟨ad,trivial,c,h⟩;obtain⟨c,_,I⟩:=I.jy (p:=λ_=>True) (B:=λc h=>cn [aa lb 328 [.slice ad l.length c],Sl 5 1 ad l.length c (bc l)] h) λ_ ⟨c,h⟩=>⟨c,trivial,h⟩;exact⟨ad,c,I.open (M:=[_,_]) λ_ h=>h⟩
theorem Ln.close (I:U W w (aa lb 328 [.slice ad l.length c]::Sl 5 1 ad l.length c (bc l)::L)):U W w (Ln (lb,l)::L) :=
 U.shut (M:=[_,_]) I λ_ h=>⟨ad,c,h⟩
theorem Ln.mk' (I:U W w L)(ad:Option Addr)(c:Nat)[k:fD L (aa lb 328 [.slice ad l.length c]::Sl 5 1 ad l.length c (bc l)::L') R]:U W w (Ln (lb,l)::L'):=Ln.close (ad:=ad) (c:=c) I.sub
theorem Yn (d:Nat):(madeCells (Value.int .u8 0).cells (d*1)).toList=bc (List.replicate d 0):=by
 apply ext_getElem?;intro i;by_cases h:i<d
 ·rw[dQ (by simpa using h)];rw[madeCells,Array.getElem?_toList,Array.getElem?_map,Array.getElem?_range];simp[h,Value.cells,Nat.mod_one]
 ·rw[iW (by simp[madeCells];omega),iW (by rw[dt];simp;omega)]
theorem U.KP {b e sz m:Nat}{cs:List Value}(I:U W w (aa b e cs::L))(h:cs.length=m*sz):U W w (Sl e sz (some ⟨b,0,none⟩) m m cs::L) :=
 U.iM (pre:=[]) (post:=[]) (n:=m) (c:=m) (sz:=sz) (cs:=cs) (by simpa using I) h (a7 _) (by rw[Nat.sub_self,Nat.zero_mul];exact Nat.zero_le _)
theorem aX.yj {w:World}{ad:Option Addr}{bs:List UInt8}{c lo n:Nat}(h:aX w ad bs.length bs)(hl:lo+n≤bs.length)(hc:bs.length≤c):aX w (fl ad lo c 1) n ((bs.drop lo).take n) :=
 (h.ue (lo:=lo) (by omega) hc).D9 (by rw[c3];omega)
theorem Yo {d:Nat}(I:U W w L)(hd:d≤8):Calls prog 168 #[.int .i64 d] w λe w'=>∃ lb,e=.returned (pt lb)∧U W w' (Ln (lb,List.replicate d 0)::L):=by
 refine EN func168 ntmps168 rfl rfl λa E=>?_;refine RN 6 E I λa E=>?_;rw[show min (max (d:Int) 0) 8=(d:Int) from by omega]at E;refine qP E rfl I underlying22 Ty.t5 rfl (by omega) (by omega) λcH a w E I ho=>?_;clear ho;rw[Yn]at I;replace I:=I.KP (m:=d) (sz:=1) (by rw[dt,ko,Nat.mul_one]);refine BX 1 E I λb8 a w E I=>?_;refine RN 1 E I λa E=>?_;replace I:U W w (aa b8 328 [.slice (some ⟨cH,0,none⟩) (List.replicate d (0:UInt8)).length d]::Sl 5 1 (some ⟨cH,0,none⟩) (List.replicate d (0:UInt8)).length d (bc (List.replicate d 0))::L):=by
  rw[ko];exact I
 refine RT 0 E I ?_;exact⟨b8,rfl,Ln.close I⟩
theorem AK (I:U W w (Ln (lb,l)::L)):Calls prog 172 #[pt lb] w λe w'=>e=.returned (.int .i64 l.length)∧U W w' (Ln (lb,l)::L):=by
 obtain⟨ad,c,I⟩:=Ln.open I;refine EN func172 ntmps172 rfl rfl λa E=>?_;refine RN 6 E I λa E=>?_;replace E:=E.aM 4;refine RT 8 E I ?_;exact⟨rfl,Ln.close I⟩
theorem KQ {f:Nat}(I:U W w (Ln (lb,l)::L)):Calls prog 173 #[pt lb,.int .i64 f] w λe w'=>e=.returned (.tuple #[.int .u8 ((l.getD f 0).toNat:Nat),.bool (decide (f<l.length))])∧U W w' (Ln (lb,l)::L):=by
 refine EN func173 ntmps173 rfl rfl λa E=>?_;refine RN 8 E I λa E=>?_;rw[bq (by omega)]at E;refine CL 2 E I (AK I) λa w E I=>?_;refine IF 2 E I (λaj a E=>?_) λaj a E=>?_
 ·
  refine RT 3 E I ?_;exact⟨by rw[bn,iW (by omega),bq (by omega)];rfl,I⟩
 obtain⟨ad,c,I⟩:=Ln.open I;have dZ:f<l.length:=by omega
 obtain⟨b,o,rfl,hr⟩:=(I.cu ad l rfl rfl).get (by omega);refine RN 7 E I λa E=>?_;refine SS E (ae E (hr f _ (kX dZ))) λa E=>?_;refine RT 2 E I ?_;exact⟨by rw[dg dZ],Ln.close I⟩
theorem KR (I:U W w (Ln (lb,l)::L))(hl:l.length≤1000):Calls prog 314 #[pt lb,.int .u8 (x.toNat:Nat)] w λe w'=>e=.returned (.int .i64 (if l.length<1000 then 0 else 4))∧U W w' (Ln (lb,if l.length<1000 then l++[x] else l)::L):=by
 obtain⟨ad,c,I⟩:=Ln.open I;refine EN func314 ntmps314 rfl rfl λa E=>?_;refine RN 7 E I λa E=>?_;replace E:=E.aM 5;refine IF 9 E I (λao a E=>?_) λao a E=>?_
 ·
  refine RT 2 E I ?_;exact⟨by rw[ag (by omega)],by rw[ag (by omega)];exact Ln.close I⟩
 refine RN 7 E I λa E=>?_;refine cr E rfl I underlying22 Ty.t5 rfl rfl rfl rfl (by decide) (by decide) λb21 a w E I ho=>?_;clear ho;refine RN 0 E I λa E=>?_;refine cK E rfl I underlying22 Ty.t5 rfl rfl I.ai rfl (eo [x]) (by decide) (by decide) (by omega) λKS KT a w E I=>?_;rw[show bc l++_=bc (l++[x]) from (fG l [x]).symm]at I;refine ST 2 E I (λa w E I=>?_);refine RN 0 E I λa E=>?_;rw[show l.length+1=(l++[x]).length from by simp]at I;replace I:=I.sub (M:=aa lb 328 [.slice KS (l++[x]).length KT]::Sl 5 1 KS (l++[x]).length KT (bc (l++[x]))::L);refine RT 2 E I ?_;exact⟨by rw[ak (by omega)],by rw[ak (by omega)];exact Ln.close I⟩
theorem Yp {f:Nat}(I:U W w (Ln (lb,l)::L))(hl:l.length≤1000)(hb:bs.length≤65536)(hp:∀ w',U W w' L→aX w' ad bs.length bs) :
   Calls prog 318 #[pt lb,.int .i64 f,.slice ad bs.length c] w λe w'=>∃ n er:Int,e=.returned (.tuple #[.int .i64 n,.int .i64 er])∧U W w' (Ln (lb,dp l f bs)::L):=by
 refine EN func318 ntmps318 rfl rfl λa E=>?_;refine RN 8 E I λa E=>?_;replace E:=E.aM 11;refine RN 5 E I λa E=>?_;rw[bq (by omega)]at E;refine RN 2 E I λa E=>?_;obtain⟨g5,cl,I⟩:=Ln.open I;refine IF 8 E I (λay a E=>?_) λay a E=>?_
 ·
  replace I:=Ln.close I;refine RT 3 E I ?_;exact⟨_,_,rfl,by rw[dp,ak (by omega)];exact I⟩
 refine RN 11 E I λa E=>?_;rw[show ((l.length:Nat):Int)-(f:Int)=((l.length-f:Nat):Int) from by omega]at E;refine RN 1 E I λa E=>?_;replace I:=Ln.close I;have dZ:f≤l.length:=by omega
 refine aO (λμ a w=>∃ (i:Nat),(μ=bs.length-i∧l.length-f≤i∧(i≤bs.length∨i=l.length-f)∧l.length+(i-(l.length-f))≤1000)∧Fr a 51 [(0,pt lb),(2,.slice ad bs.length c),(8,.int .i64 (i-(l.length-f):Nat)),(9,.int .i64 i)]∧U W w (Ln (lb,l++(bs.drop (l.length-f)).take (i-(l.length-f)))::L)) (bs.length-(l.length-f)) (⟨l.length-f,⟨rfl,a7 _,.inr rfl,by omega⟩,by rw[Nat.sub_self];exact E.ab [0,2,8,9],by rw[Nat.sub_self,take_zero,append_nil];exact I⟩) ?_;clear E I;rintro μ a w ⟨i,⟨rfl,hi,hib,ld⟩,E,I⟩;refine IF 6 E I (λbk a E=>?_) λbk a E=>?_
 ·
  obtain⟨bb,oo,rfl,hr⟩:=(hp _ I.tail).get (by omega);have aH:i<bs.length:=by omega
  have hlen:(l++(bs.drop (l.length-f)).take (i-(l.length-f))).length=l.length+(i-(l.length-f)):=by rw[aL,ep,c3];omega
  refine RN 7 E I λa E=>?_;refine SS E (ae E (hr i _ (dQ aH))) λa E=>?_;refine CL 0 E I (KR I (by rw[hlen];omega)) λa w E I=>?_;rw[hlen]at E I;refine IF 4 E I (λbO a E=>?_) λbO a E=>?_
  ·
   have h9:¬ l.length+(i-(l.length-f))<1000:=λh=>bO (ak h);rw[ag h9]at I;refine RT 5 E I ?_;exact⟨_,_,rfl,by rw[dp,ag (by omega),show 1000-l.length=i-(l.length-f) from by omega];exact I⟩
  have h9:l.length+(i-(l.length-f))<1000:=Decidable.of_not_not λh=>by rw[ag h]at bO;cases bO
  rw[ak h9]at I;refine RN 6 E I λa E=>?_;exact⟨bs.length-(i+1),by omega,i+1,⟨rfl,by omega,by omega,by omega⟩,by rw[show ((i+1-(l.length-f):Nat):Int)=((i-(l.length-f):Nat):Int)+1 from by omega];exact E.ab [0,2,8,9],by rw[KJ dZ aH hi h9];exact I⟩
 refine RT 4 E I ?_;exact⟨_,_,rfl,by rw[dp,ag (by omega),fX (by rw[c3];omega)];rw[fX (by rw[c3];omega)]at I;exact I⟩
theorem KU {f k:Nat}(I:U W w (Ln (lb,l)::L))(hl:l.length≤1000)(hf:f≤1000)(hk:1≤k∧k≤1000) :
   Calls prog 309 #[pt lb,.int .i64 f,.int .i64 k] w λe w'=>∃ av c',e=.returned (.slice av ((l.drop f).take k).length c')∧U W w' (Sl 5 1 av ((l.drop f).take k).length c' (bc ((l.drop f).take k))::Ln (lb,l)::L):=by
 have eK:((l.drop f).take k).length=min l.length (f+k)-f:=by rw[ep,c3];omega
 refine EN func309 ntmps309 rfl rfl λa E=>?_;refine RN 7 E I λa E=>?_;rw[bq (by omega)]at E;refine CL 2 E I (AK I) λa w E I=>?_;refine BY 3 E I (λfa a E=>?_) λfa a E=>?_
 ·
  have hz:(l.drop f).take k=[]:=by rw[drop_eq_nil_of_le (by omega),List.take_nil]
  refine RT 6 E I ?_;rw[hz];exact⟨_,_,rfl,I.bN _ _ none⟩
 refine RN 3 E I λa E=>?_;rw[bq (by omega)]at E;refine RN 2 E I λa E=>?_;obtain⟨g5,cl,I⟩:=Ln.open I;have cp:=(I.sl g5).2;refine bQ 0 [8,9,14] [0,1,2,4,5,6,7,10,11,12,13,3003,1008,1009,1014,15,1016,17] E I λa w E I hH hC=>?_;refine RH 10 E I hH hC λa E=>?_;rw[show min (k:Int) 1000=(k:Int) from by omega]at E;refine RH 5 E I hH hC λa E=>?_;rw[show min (l.length:Int) ((f:Int)+(k:Int))=((min l.length (f+k):Nat):Int) from by omega]at E;refine RH 1 E I hH hC λa E=>?_;refine aY 0 E I (sd (bs:=(l.drop f).take k) I (λw' hw=>by have h1:=(hw.cu g5 l rfl rfl).yj (c:=cl) (lo:=f) (n:=min l.length (f+k)-f) (by omega) cp;rw[show (l.drop f).take (min l.length (f+k)-f)=(l.drop f).take k from by rw[← eK,List.take_eq_take_iff,ep,c3];omega]at h1;exact h1) (by omega)) λfm dC a w E I=>?_;refine RN 1 E I λa E=>?_;refine RT 0 E I ?_;exact⟨fm,dC,by rw[eK],by rw[eK];exact (Ln.mk' (L':=Sl 5 1 fm (min l.length (f+k)-f) dC (bc ((l.drop f).take k))::L) I g5 cl).perm (List.Perm.swap _ _ _)⟩
theorem Yq (I:U W w (Ln (lb,l)::L))(hl:l.length≤1000) :
   Calls prog 293 #[pt lb] w λe w'=>∃ av c',e=.returned (.slice av l.length c')∧U W w' (Sl 5 1 av l.length c' (bc l)::Ln (lb,l)::L):=by
 have Yr:(l.drop 0).take 1000=l:=by rw[drop_zero,fX hl]
 refine EN func293 ntmps293 rfl rfl λa E=>?_;refine aY 4 E I (KU (f:=0) (k:=1000) I hl (by decide) (by decide)) λfm dC a w E I=>?_;rw[Yr]at E I;refine RT 1 E I ?_;exact⟨_,_,rfl,I⟩
end
end
section
def j5 (x:Lx):Value:=pt x.1
def Qu (qb:Nat)(aB:List Nat)(ls:List (List UInt8)):SP:=λh=>∃ (ad:Option Addr) (c:Nat),aB.length=ls.length∧cn [aa qb 288 [.slice ad ls.length c],Sl 289 1 ad ls.length c ((aB.zip ls).map j5),ah Ln (aB.zip ls)] h
section
variable {W w:World}{L L' R:List SP}{n c qb lb i f:Nat}{ad:Option Addr}{ls:List (List UInt8)}{aB:List Nat}{l:List UInt8}{x:UInt8}
theorem Qu.open (I:U W w (Qu qb aB ls::L)):∃ (ad:Option Addr) (c:Nat),aB.length=ls.length∧U W w (aa qb 288 [.slice ad ls.length c]::Sl 289 1 ad ls.length c ((aB.zip ls).map j5)::ah Ln (aB.zip ls)::L):=by
 obtain⟨⟨ad,c⟩,hl,I⟩:=I.jy (ι:=Option Addr×Nat) (p:=λ_=>aB.length=ls.length) (B:=λy h=>cn [aa qb 288 [.slice y.1 ls.length y.2],Sl 289 1 y.1 ls.length y.2 ((aB.zip ls).map j5),ah Ln (aB.zip ls)] h) λ_ ⟨ad,c,hl,h⟩=>⟨(ad,c),hl,h⟩;exact⟨ad,c,hl,I.open (M:=[_,_,_]) λ_ h=>h⟩
theorem Qu.close (I:U W w (aa qb 288 [.slice ad ls.length c]::Sl 289 1 ad ls.length c ((aB.zip ls).map j5)::ah Ln (aB.zip ls)::L))(hl:aB.length=ls.length):U W w (Qu qb aB ls::L) :=
 U.shut (M:=[_,_,_]) I λ_ h=>⟨ad,c,hl,h⟩
theorem Qu.mk' (I:U W w L)(ad:Option Addr)(c:Nat)[k:fD L (aa qb 288 [.slice ad ls.length c]::Sl 289 1 ad ls.length c ((aB.zip ls).map j5)::ah Ln (aB.zip ls)::L') R](hl:aB.length=ls.length):U W w (Qu qb aB ls::L'):=Qu.close (ad:=ad) (c:=c) I.sub hl
theorem ur {aB:List Nat}{ls:List (List UInt8)}(hl:aB.length=ls.length){i:Nat}(h:i<ls.length):(aB.zip ls)[i]?=some (aB.getD i 0,ls.getD i []):=by
 rw[List.getElem?_zip_eq_some];simp only[bn];rw[aE h,aE (by omega)];exact⟨rfl,rfl⟩
def yk (qb:Nat)(aB:List Nat)(ls:List (List UInt8))(i:Nat):SP:=λh=>∃ (ad:Option Addr) (c:Nat),aB.length=ls.length∧cn [aa qb 288 [.slice ad ls.length c],Sl 289 1 ad ls.length c ((aB.zip ls).map j5),ah Ln ((aB.zip ls).eraseIdx i)] h
theorem Qu.out (I:U W w (Qu qb aB ls::L))(h:i<ls.length):U W w (Ln (aB.getD i 0,ls.getD i [])::yk qb aB ls i::L):=by
 obtain⟨ad,c,hl,I⟩:=Qu.open I;have hz:=ur hl h;obtain⟨hi,he⟩:=a2.1 hz;replace I:=(I.pick (ah Ln (aB.zip ls))).fu hi;rw[he]at I;have h2:U W w (aa qb 288 [.slice ad ls.length c]::Sl 289 1 ad ls.length c ((aB.zip ls).map j5)::ah Ln ((aB.zip ls).eraseIdx i)::Ln (aB.getD i 0,ls.getD i [])::L):=I.sub;exact (U.shut (M:=[_,_,_]) h2 λ_ h=>⟨ad,c,hl,h⟩:U W w (yk qb aB ls i::Ln (aB.getD i 0,ls.getD i [])::L)).perm (List.Perm.swap _ _ _)
theorem map_set {α β:Type}(f:α→β)(l:List α)(i:Nat)(x:α):(l.set i x).map f=(l.map f).set i (f x):=by
 apply ext_getElem? ;intro j;simp only[bm,jL,bd];split
 ·split <;> rfl
 ·rfl
theorem KV {aB:List Nat}{ls:List (List UInt8)}(hl:aB.length=ls.length){i:Nat}(h:i<ls.length)(l:List UInt8):aB.zip (ls.set i l)=(aB.zip ls).set i (aB.getD i 0,l):=by
 apply ext_getElem?;intro j;by_cases hj:j<ls.length
 ·rw[ur (by simpa using hl) (by simpa using hj),jL];by_cases n1:i=j
  ·subst n1;rw[ak rfl,ak (by simp;omega)];simp[bn,h]
  ·rw[ag n1,ur hl hj];simp[bn,getElem?_set_ne n1]
 ·rw[iW (by simp;omega),iW (by simp;omega)]
theorem Qu.in (I:U W w (Ln (aB.getD i 0,l)::yk qb aB ls i::L))(h:i<ls.length):U W w (Qu qb aB (ls.set i l)::L):=by
 obtain⟨⟨ad,c⟩,hl,I⟩:=(I.pick (yk qb aB ls i)).jy (ι:=Option Addr×Nat) (p:=λ_=>aB.length=ls.length) (B:=λy h=>cn [aa qb 288 [.slice y.1 ls.length y.2],Sl 289 1 y.1 ls.length y.2 ((aB.zip ls).map j5),ah Ln ((aB.zip ls).eraseIdx i)] h) λ_ ⟨ad,c,hl,h⟩=>⟨(ad,c),hl,h⟩;replace I:U W w (aa qb 288 [.slice ad ls.length c]::Sl 289 1 ad ls.length c ((aB.zip ls).map j5)::ah Ln ((aB.zip ls).eraseIdx i)::Ln (aB.getD i 0,l)::L):=I.open (M:=[_,_,_]) λ_ h=>h;have hz:=ur hl h;obtain⟨hi,he⟩:=a2.1 hz;have h1:U W w (Ln (aB.getD i 0,l)::ah Ln ((aB.zip ls).eraseIdx i)::aa qb 288 [.slice ad ls.length c]::Sl 289 1 ad ls.length c ((aB.zip ls).map j5)::L):=I.sub;replace h1:=h1.kI hi;rw[← KV hl h]at h1;have eQ:ls.length=(ls.set i l).length:=by rw[bu]
 have hp:(aB.zip ls).map j5=(aB.zip (ls.set i l)).map j5:=by
  rw[KV hl h,map_set]
  symm
  apply ext_getElem?;intro j;rw[jL];split
  ·rename_i hj;subst hj;split
   ·rw[bm,hz];rfl
   ·rw[iW (by omega)]
  ·rfl
 rw[hp,eQ]at h1;exact Qu.mk' h1 ad c (by rw[← eQ];exact hl)
theorem KW {ls:List (List UInt8)}{i:Nat}:ls.set i (ls.getD i [])=ls:=by
 apply ext_getElem?;intro j;rw[jL];split
 ·rename_i h;subst h;split
  ·rename_i h;rw[bn,aE h];rfl
  ·rw[iW (by omega)]
 ·rfl
theorem Qu.back (I:U W w (Ln (aB.getD i 0,ls.getD i [])::yk qb aB ls i::L))(h:i<ls.length):U W w (Qu qb aB ls::L):=by
 have:=Qu.in I h
 rwa [KW]at this
theorem yl (I:U W w (Qu qb aB ls::L))(h:i<ls.length):Calls prog 172 #[.pointer (some ⟨aB.getD i 0,0,none⟩)] w λe w'=>e=.returned (.int .i64 (ls.getD i []).length)∧U W w' (Qu qb aB ls::L) :=
 (AK (Qu.out I h)).mono λ_ _ ⟨he,I⟩=>⟨he,Qu.back I h⟩
theorem Ys (I:U W w (Qu qb aB ls::L))(h:i<ls.length):Calls prog 173 #[.pointer (some ⟨aB.getD i 0,0,none⟩),.int .i64 f] w λe w'=>e=.returned (.tuple #[.int .u8 (((ls.getD i []).getD f 0).toNat:Nat),.bool (decide (f<(ls.getD i []).length))])∧U W w' (Qu qb aB ls::L) :=
 (KQ (Qu.out I h)).mono λ_ _ ⟨he,I⟩=>⟨he,Qu.back I h⟩
theorem Yt (I:U W w (Qu qb aB ls::L))(h:i<ls.length)(hl:(ls.getD i []).length<1000):Calls prog 314 #[.pointer (some ⟨aB.getD i 0,0,none⟩),.int .u8 (x.toNat:Nat)] w λe w'=>e=.returned (.int .i64 0)∧U W w' (Qu qb aB (ls.set i (ls.getD i []++[x]))::L) :=
 (KR (Qu.out I h) (by omega)).mono λ_ _ ⟨he,I⟩=>by
  rw[ak hl]at he I;exact⟨he,Qu.in I h⟩
theorem Yu {fr:Nat}{bs:List UInt8}(I:U W w (Qu qb aB ls::L))(h:i<ls.length)(hl:(ls.getD i []).length≤1000)(hb:bs.length≤65536)(hp:∀ w',U W w' L→aX w' ad bs.length bs) :
   Calls prog 318 #[.pointer (some ⟨aB.getD i 0,0,none⟩),.int .i64 fr,.slice ad bs.length c] w λe w'=>∃ n er:Int,e=.returned (.tuple #[.int .i64 n,.int .i64 er])∧U W w' (Qu qb aB (ls.set i (dp (ls.getD i []) fr bs))::L) :=
 (Yp (Qu.out I h) hl hb (λw' hw=>hp w' hw.tail)).mono λ_ _ ⟨n,er,he,I⟩=>⟨n,er,he,Qu.in I h⟩
theorem Yv {fr k:Nat}(I:U W w (Qu qb aB ls::L))(h:i<ls.length)(hl:(ls.getD i []).length≤1000)(hf:fr≤1000)(hk:1≤k∧k≤1000) :
   Calls prog 309 #[.pointer (some ⟨aB.getD i 0,0,none⟩),.int .i64 fr,.int .i64 k] w λe w'=>∃ av c',e=.returned (.slice av (((ls.getD i []).drop fr).take k).length c')∧U W w' (Sl 5 1 av (((ls.getD i []).drop fr).take k).length c' (bc (((ls.getD i []).drop fr).take k))::Qu qb aB ls::L) :=
 (KU (Qu.out I h) hl hf hk).mono λ_ _ ⟨av,c',he,I⟩=>⟨av,c',he,(Qu.back (L:=Sl 5 1 av _ c' _::L) I.sub h).perm (List.Perm.swap _ _ _)⟩
theorem Yw (I:U W w (Qu qb aB ls::L))(h:i<ls.length)(hl:(ls.getD i []).length≤1000) :
   Calls prog 293 #[.pointer (some ⟨aB.getD i 0,0,none⟩)] w λe w'=>∃ av c',e=.returned (.slice av (ls.getD i []).length c')∧U W w' (Sl 5 1 av (ls.getD i []).length c' (bc (ls.getD i []))::Qu qb aB ls::L) :=
 (Yq (Qu.out I h) hl).mono λ_ _ ⟨av,c',he,I⟩=>⟨av,c',he,(Qu.back (L:=Sl 5 1 av _ c' _::L) I.sub h).perm (List.Perm.swap _ _ _)⟩
theorem E0 (I:U W w (Qu qb aB ls::L)):Calls prog 171 #[pt qb] w λe w'=>e=.returned (.int .i64 ls.length)∧U W w' (Qu qb aB ls::L):=by
 obtain⟨ad,c,hl,I⟩:=Qu.open I;refine EN func171 ntmps171 rfl rfl λa E=>?_;refine RN 6 E I λa E=>?_;replace E:=E.aM 4;refine RT 8 E I ?_;exact⟨rfl,Qu.close I hl⟩
theorem AM {aB:List Nat}{ls:List (List UInt8)}(hl:aB.length=ls.length){i:Nat}(h:i<ls.length):((aB.zip ls).map j5)[i]?=some (.pointer (some ⟨aB.getD i 0,0,none⟩)):=by
 rw[bm,ur hl h];rfl
theorem sY (I:U W w (Qu qb aB ls::L))(h:i<ls.length):Calls prog 291 #[pt qb,.int .i64 i] w λe w'=>e=.returned (.pointer (some ⟨aB.getD i 0,0,none⟩))∧U W w' (Qu qb aB ls::L):=by
 refine EN func291 ntmps291 rfl rfl λa E=>?_;refine RN 7 E I λa E=>?_;rw[bq (by omega)]at E;refine CL 2 E I (E0 I) λa w E I=>?_;refine RN 2 E I λa E=>?_;rw[bq (by omega)]at E;refine RN 2 E I λa E=>?_;obtain⟨ad,c,hl,I⟩:=Qu.open I;obtain⟨b,o,rfl,hr⟩:=I.bV ad (by omega);refine RN 6 E I λa E=>?_;refine SS E (ae E (hr i _ (AM hl h))) λa E=>?_;refine RT 1 E I ?_;exact⟨rfl,Qu.close I hl⟩
theorem rA (I:U W w (Qu qb aB ls::L))(h0:ls≠[])(iq:ls.length≤8):Calls prog 135 #[pt qb] w λe w'=>e=.returned (.int .i64 (aU ls))∧U W w' (Qu qb aB ls::L):=by
 have p5:0<ls.length:=List.length_pos_iff.2 h0;refine EN func135 ntmps135 rfl rfl λa E=>?_;refine CL 5 E I (E0 I) λa w E I=>?_;refine RN 1 E I λa E=>?_;rw[bq (by omega)]at E;refine RN 2 E I λa E=>?_;obtain⟨ad,c,hl,I⟩:=Qu.open I;obtain⟨b,o,rfl,hr⟩:=I.bV ad (by omega);refine RN 5 E I λa E=>?_;refine SS E (ae E (hr 0 _ (AM hl p5))) λa E=>?_;replace I:U W w (Qu qb aB ls::L):=Qu.close I hl;refine CL 0 E I (yl I p5) λa w E I=>?_;refine RN 3 E I λa E=>?_;obtain⟨ad,c,hl,I⟩:=Qu.open I;rw[show ((ls.getD 0 []).length:Int)=(iF ls 0:Nat) from by rw[iF,List.headD_eq_getD]]at E;refine RN 6 E I λa E=>?_;replace I:U W w (aa qb 288 [.slice ad ls.length c]::Sl 289 1 ad ls.length c ((aB.zip ls).map j5)::ah Ln (aB.zip ls)::L):=I;refine aO (λμ a w=>∃ (i:Nat),(μ=ls.length-i∧i≤ls.length)∧Fr a 31 [(3,.int .i64 (iF ls i:Nat)),(19,.slice ad ls.length c),(20,.int .i64 ls.length),(21,.int .i64 i)]∧U W w (aa qb 288 [.slice ad ls.length c]::Sl 289 1 ad ls.length c ((aB.zip ls).map j5)::ah Ln (aB.zip ls)::L)) (ls.length) (⟨0,⟨rfl,by omega⟩,E.ab [3,19,20,21],I⟩) ?_;clear E I;rintro μ a w ⟨i,⟨rfl,hi⟩,E,I⟩;refine IF 3 E I (λao a E=>?_) λao a E=>?_
 ·
  obtain⟨b2,qa,rfl,eX⟩:=I.bV ad (by omega);have aH:i<ls.length:=by omega
  have hz:=ur hl aH;obtain⟨kA,nF⟩:=a2.1 hz;refine RN 3 E I λa E=>?_;refine SS E (ae E (eX i _ (AM hl aH))) λa E=>?_;refine RN 1 E I λa E=>?_;replace I:=(I.pick (ah Ln (aB.zip ls))).fu kA;rw[nF]at I;refine CL 2 E I (AK I) λa w E I=>?_;replace I:=(nF ▸ I:U W w (Ln (aB.zip ls)[i]::_)).kI kA;rw[set_getElem_self]at I;refine RN 1 E I λa E=>?_;rw[show min ((iF ls i:Nat):Int) ((ls.getD i []).length:Int)=((iF ls (i+1):Nat):Int) from by rw[iF];omega]at E;refine RN 3 E I λa E=>?_;exact⟨ls.length-(i+1),by omega,i+1,⟨rfl,by omega⟩,E.ab [3,19,20,21],I.sub⟩
 obtain rfl:i=ls.length:=by omega
 refine RT 3 E I ?_;exact⟨rfl,Qu.close I hl⟩
theorem Yx (I:U W w (Qu qb aB ls::L))(h0:ls≠[])(hf:f<aU ls)(iq:ls.length≤8):Calls prog 136 #[pt qb,.int .i64 f] w λe w'=>∃ av c',e=.returned (.tuple #[.slice av (bJ ls f).length c',.bool true]) ∧
   U W w' (Sl 5 1 av (bJ ls f).length c' (bc (bJ ls f))::Qu qb aB ls::L):=by
 refine EN func136 ntmps136 rfl rfl λa E=>?_;refine RN 8 E I λa E=>?_;rw[bq (by omega)]at E;refine CL 2 E I (rA I h0 iq) λa w E I=>?_;refine RN 2 E I λa E=>?_;rw[bq (by omega)]at E;refine RN 5 E I λa E=>?_;obtain⟨ad,c,hl,I⟩:=Qu.open I;refine RN 6 E I λa E=>?_;refine aO (λμ a w=>∃ (i:Nat) (ad2:Option Addr) (c2:Nat),(μ=ls.length-i∧i≤ls.length)∧Fr a 40 [(1,.int .i64 f),(6,.slice ad2 (fw ls f i).length c2),(22,.slice ad ls.length c),(23,.int .i64 ls.length),(24,.int .i64 i)]∧U W w (Sl 5 1 ad2 (fw ls f i).length c2 (bc (fw ls f i))::aa qb 288 [.slice ad ls.length c]::Sl 289 1 ad ls.length c ((aB.zip ls).map j5)::ah Ln (aB.zip ls)::L)) (ls.length) (⟨0,none,0,⟨rfl,by omega⟩,E.ab [1,6,22,23,24],I.bN 5 1 none⟩) ?_;clear E I;rintro μ a w ⟨i,ad2,c2,⟨rfl,hi⟩,E,I⟩;refine IF 3 E I (λao a E=>?_) λao a E=>?_
 ·
  obtain⟨b2,qa,rfl,eX⟩:=I.bV ad (by omega);have aH:i<ls.length:=by omega
  have hz:=ur hl aH;obtain⟨kA,nF⟩:=a2.1 hz;have ei:=sX (ls:=ls) (f:=f) (i:=i) hi;refine RN 3 E I λa E=>?_;refine SS E (ae E (eX i _ (AM hl aH))) λa E=>?_;refine RN 2 E I λa E=>?_;replace I:=(I.pick (ah Ln (aB.zip ls))).fu kA;rw[nF]at I;refine CL 2 E I (KQ I) λa w E I=>?_;replace I:=(nF ▸ I:U W w (Ln (aB.zip ls)[i]::_)).kI kA;rw[set_getElem_self]at I;refine RN 7 E I λa E=>?_;refine cr E rfl I underlying22 Ty.t5 rfl rfl rfl rfl (by decide) (by decide) λb36 a w E I ho=>?_;clear ho;refine RN 0 E I λa E=>?_;refine cK E rfl I underlying22 Ty.t5 rfl rfl I.ai rfl (eo [(ls.getD i []).getD f 0]) (by decide) (by decide) (by omega) λXZ X0 a w E I=>?_;rw[show bc (fw ls f i)++_=bc (fw ls f (i+1)) from by rw[AI aH,fG,bn (l:=ls),aE aH];rfl,show (fw ls f i).length+1=(fw ls f (i+1)).length from by rw[sX hi,sX (by omega)]]at I;rw[show (fw ls f i).length+1=(fw ls f (i+1)).length from by rw[sX hi,sX (by omega)]]at E;refine RN 3 E I λa E=>?_;exact⟨ls.length-(i+1),by omega,i+1,_,_,⟨rfl,by omega⟩,E.ab [1,6,22,23,24],I.sub⟩
 obtain rfl:i=ls.length:=by omega
 rw[AH]at E I;refine RT 4 E I ?_;exact⟨_,_,rfl,(Qu.mk' (L':=Sl 5 1 ad2 (bJ ls f).length c2 (bc (bJ ls f))::L) I ad c hl).perm (List.Perm.swap _ _ _)⟩
theorem Yy {d:Nat}(I:U W w L)(hn:2≤n∧n≤8)(hd:d≤8):Calls prog 131 #[.int .i64 n,.int .i64 d] w λe w'=>∃ qb aB,e=.returned (pt qb)∧U W w' (Qu qb aB (List.replicate n (List.replicate d 0))::L):=by
 refine EN func131 ntmps131 rfl rfl λa E=>?_;refine BX 4 E I λdm a w E I=>?_;refine RN 6 E I λa E=>?_;rw[show min (max (n:Int) 2) 8=(n:Int) from by omega]at E;refine RN 1 E I λa E=>?_;replace I:=I.bN 289 1 none;replace I:=U.iN (f:=Ln) I;refine aO (λμ a w=>∃ (i:Nat) (xs:List Lx) (ad:Option Addr) (c:Nat),(μ=n-i∧i≤n∧xs.map (·.2)=List.replicate i (List.replicate d 0))∧Fr a 26 [(1,.int .i64 d),(5,pt dm),(10,.int .i64 n),(11,.int .i64 i)]∧U W w (aa dm 288 [.slice ad i c]::Sl 289 1 ad i c (xs.map j5)::ah Ln xs::L)) (n) (⟨0,[],none,0,⟨rfl,by omega,rfl⟩,E.ab [1,5,10,11],(I.sub:U W w (aa dm 288 [.slice none 0 0]::Sl 289 1 none 0 0 []::ah Ln []::L))⟩) ?_;clear E I;rintro μ a w ⟨i,xs,ad,c,⟨rfl,hi,ba⟩,E,I⟩;refine IF 3 E I (λaj a E=>?_) λaj a E=>?_
 ·
  refine aV 1 (λw0 w'=>Rd w' dm 0 [.slice ad i c]) [6,7] [0,1,2,3,5,3004,1006,1007,1008,9,10,1011] E I λa w E I hH=>?_;have hC:=hH.at w I.ai;refine RH 5 E I hH hC λa E=>?_;refine QH E (λw hc=>ae E (hc 0 _ rfl)) hC λa E=>?_;refine RH 0 E I hH hC λa E=>?_;refine bh 0 E I (Yo I hd) λlb a w E I=>?_;replace hC:=hH.at w I.ai;refine RH 0 E I hH hC λa E=>?_;refine cr E rfl I underlying286 Ty.t289 rfl rfl rfl rfl (by decide) (by decide) λI1 a w E I ho=>?_;clear ho;replace hC:=hH.at w I.ai;refine RH 0 E I hH hC λa E=>?_;refine cK E rfl I underlying286 Ty.t289 rfl rfl I.ai rfl (by simp[Value.oneCell']) (by decide) (by decide) (by omega) λqY qZ a w E I=>?_;rw[show List.map j5 xs++_=List.map j5 (xs++[(lb,List.replicate d 0)]) from by rw[cW];rfl]at I;refine ST 2 E I (λa w E I=>?_);refine RN 2 E I λa E=>?_;have du:=U.jM (x:=(lb,List.replicate d 0)) (I.sub (M:=Ln (lb,List.replicate d 0)::ah Ln xs::aa dm 288 [.slice qY (i+1) qZ]::Sl 289 1 qY (i+1) qZ ((xs++[(lb,List.replicate d 0)]).map j5)::L));exact⟨n-(i+1),by omega,i+1,xs++[(lb,List.replicate d 0)],qY,qZ,⟨rfl,by omega,by rw[cW,ba,replicate_succ'];rfl⟩,E.ab [1,5,10,11],du.sub⟩
 obtain rfl:i=n:=by omega
 refine RT 3 E I ?_;have bW:xs.length=i:=by rw[← bd (f:=(·.2)),ba,ko]
 have hz:(xs.map (·.1)).zip (List.replicate i (List.replicate d 0))=xs:=by
  rw[← ba];clear ba I E bW
  induction xs with
  | nil=>rfl
  | cons x xs ih=>rw[map_cons,map_cons,List.zip_cons_cons,ih]
 have gF:(List.replicate i (List.replicate d (0:UInt8))).length=i:=ko;refine⟨dm,xs.map (·.1),rfl,?_⟩;refine Qu.close (ad:=ad) (c:=c) ?_ (by rw[bd,bW,gF]);rw[gF,hz];exact I
end
end
section
structure Cf where
 n:Int
 me:Int
 id:Int
 aJ:Int
 bt:Int
 bf:Int
 order:Int
 cv:Int
 workers:Int
 room:Int
abbrev bT (c:Cf):List Value:=[.int .i64 c.n,.int .i64 c.me,.int .i64 c.id,.int .i64 c.aJ,.int .i64 c.bt,.int .i64 c.bf,.int .i64 c.order,.int .i64 c.cv,.int .i64 c.workers,.int .i64 c.room]
def fx (n l h:Int):Prop:=l≤n∧n≤h
instance (n l h:Int):Decidable (fx n l h):=inferInstanceAs (Decidable (_∧_))
def eR (c:Cf):Prop:=(fx c.n 2 8∧fx c.me 0 (c.n-1)∧fx c.id 0 1099511627776)∧(fx c.aJ 0 8∧fx c.bt 1 16∧fx c.bf 1 3∧fx c.order 0 3) ∧
 (c.order=0∨c.bf=2)∧fx c.cv 0 8∧fx c.workers 0 4∧fx c.room 3 50
instance (c:Cf):Decidable (eR c):=inferInstanceAs (Decidable (_∧_))
structure Pe where
 has:Nat
 heard:Nat
 frame:Nat
 sum:Nat
 apart:Bool
structure Ks where
 n:Nat
 me:Nat
 aJ:Nat
 bt:Nat
 id:Int
 bf:Int
 order:Int
 cv:Int
 workers:Int
 room:Int
 ls:List (List UInt8)
 ps:List Pe
 mr:List Nat
 ev:List (Nat×Nat×Nat)
 now:Nat
 cl:Bool
def fe (k:Ks):Cf:=⟨k.n,k.me,k.id,k.aJ,k.bt,k.bf,k.order,k.cv,k.workers,k.room⟩
def fy (d:Nat):Pe:=⟨d,0,0,0,false⟩
def ff (c:Cf):Ks:=⟨c.n.toNat,c.me.toNat,c.aJ.toNat,c.bt.toNat,c.id,c.bf,c.order,c.cv,c.workers,c.room,
 List.replicate c.n.toNat (List.replicate c.aJ.toNat 0),List.replicate c.n.toNat (fy c.aJ.toNat),[],[],0,false⟩
def aD (k:Ks):Nat:=(k.ls.getD k.me []).length
def aw (k:Ks):Nat:=aU k.ls
def we (mk:List Nat)(p:Pe):Prop:=p.apart=false∧1≤p.frame∧p.frame≤mk.length∧mk.getD (p.frame-1) 0≠p.sum
instance (mk:List Nat)(p:Pe):Decidable (we mk p):=inferInstanceAs (Decidable (_∧_))
def au (k:Ks)(i:Nat):Pe:=k.ps.getD i (fy 0)
def kY (k:Ks)(i:Nat):Ks:=if we k.mr (au k i) then { k with ps:=k.ps.set i { au k i with apart:=true },ev:=k.ev++[(3,i,(au k i).frame)] } else k
def gp (k:Ks):Nat→Ks
 | 0=>k
 | i+1=>kY (gp k i) i
def kZ (k:Ks):Ks:=gp k k.ps.length
def lu (k:Ks)(s:Nat):Ks:=kZ (if k.mr.length<1000 then { k with mr:=k.mr++[s] } else k)
def cZ (b:UInt8)(k:Ks):Int×Ks:=if k.cl=true then (6,k) else if 1000≤aD k then (4,k) else if k.bt+aw k≤aD k then (5,k) else (0,{ k with ls:=k.ls.set k.me (k.ls.getD k.me []++[b]) })
def fP (now head:Nat)(p:Pk)(x:Pe):Pe :=
 let h:=if x.has<p.c7.toNat∧p.c7.toNat≤head then p.c7.toNat else x.has
 if 0<p.frame∧(x.frame:Int)≤p.frame then { x with heard:=now,has:=h,frame:=p.frame.toNat,sum:=p.sum } else { x with heard:=now,has:=h }
def fQ (k:Ks)(p:Pk):Ks :=
 if p.kind=2 then { k with ps:=k.ps.set p.aW.toNat { au k p.aW.toNat with heard:=k.now },ev:=k.ev++[(1,p.aW.toNat,0)],cl:=true }
 else kZ { k with ls:=k.ls.set p.aW.toNat (dp (k.ls.getD p.aW.toNat []) p.first.toNat p.al),ps:=k.ps.set p.aW.toNat (fP k.now (aD k) p (au k p.aW.toNat)) }
noncomputable def dw (bs:List UInt8)(k:Ks):Int×Ks:=if k.cl=true then (6,k) else match eu bs with
 | none=>(1,k)
 | some p=>if p.to≠k.me∨(k.n:Int)≤p.aW∨p.id≠k.id then (1,k) else (0,fQ k p)
def dK (k:Ks)(i:Nat):Pk:=⟨1,k.me,i,k.id,(au k i).has,(k.ls.getD i []).length,k.mr.length,k.mr.getLastD 0,((k.ls.getD k.me []).drop (au k i).has).take 32⟩
def iu (k:Ks)(i:Nat):Pk:=⟨2,k.me,i,k.id,0,0,0,0,[]⟩
def bG (k:Ks):List Nat:=(List.range k.n).filter (·≠k.me)
def jm (k:Ks)(i:Nat):Prop:=(au k i).heard+40≤k.now
instance (k:Ks)(i:Nat):Decidable (jm k i):=inferInstanceAs (Decidable (_≤_))
abbrev Ml:=Nat×Nat×List UInt8
def br (k:Ks):List Ml×Ks:=if k.cl=true then ([],k) else
 let k:={ k with now:=k.now+1 }
 match (bG k).find? (λi=>decide (jm k i)) with
 | some i=>([],{ k with ev:=k.ev++[(2,i,0)],cl:=true })
 | none=>((bG k).map λi=>(k.me,i,aR (dK k i)),k)
def cy (k:Ks):List Ml×Ks:=if k.cl=true then ([],k) else ((bG k).map λi=>(k.me,i,aR (iu k i)),{ k with cl:=true })
def held (k:Ks):Prop:=∀ i,i<k.ps.length→¬ we k.mr (au k i)
structure WC (k:Ks):Prop where
 n:2≤k.n∧k.n≤8
 me:k.me<k.n
 id:0≤k.id∧k.id≤1099511627776
 aJ:k.aJ≤8
 bt:1≤k.bt∧k.bt≤16
 ls:k.ls.length=k.n
 ps:k.ps.length=k.n
 na:∀ l∈k.ls,l.length≤1000
 mr:k.mr.length≤1000
 rB:∀ s∈k.mr,s<4294967296
 now:∀ p∈k.ps,p.heard≤k.now
 pe:∀ p∈k.ps,p.has≤1000∧p.frame≤1000∧p.sum<4294967296
 bx:∀ e∈k.ev,e.1≤3∧1≤e.1∧e.2.1<8∧e.2.2≤1000∧(e.1=3∨e.2.2=0)
 oB:k.ev.length+k.ps.countP (λp=>!p.apart)+(if k.cl=true then 0 else 1)≤k.n+1
section
variable {k:Ks}{i:Nat}
theorem WC.kD (h:WC k):k.ev.length≤9:=by have:=h.oB;have:=h.n;omega
theorem Yz (h:i<k.ps.length):au k i∈k.ps:=by
 rw[au,bn,aE h];exact getElem_mem _
theorem uu {ls:List (List UInt8)}(h:i<ls.length):ls.getD i []∈ls:=by
 rw[bn,aE h];exact getElem_mem _
theorem WC.pI (h:WC k)(hi:i<k.n):(au k i).has≤1000∧(au k i).heard≤k.now∧(au k i).frame≤1000∧(au k i).sum<4294967296:=by
 have hm:=Yz (k:=k) (i:=i) (by rw[h.ps];exact hi);exact⟨(h.pe _ hm).1,h.now _ hm,(h.pe _ hm).2⟩
theorem WC.lW (h:WC k)(hi:i<k.n):(k.ls.getD i []).length≤1000:=h.na _ (uu (by rw[h.ls];exact hi))
theorem WC.lx (h:WC k):aD k≤1000:=h.lW h.me
theorem WC.nc (h:WC k):aw k≤aD k:=v8 (uu (by rw[h.ls];exact h.me))
theorem mem_set {α:Type}{l:List α}{x y:α}(h:y∈l.set i x):y∈l∨y=x:=mem_or_eq_of_mem_set h
theorem WC.AN (h:WC k){p:Pe}{ev:List (Nat×Nat×Nat)}{cl:Bool}(hp:p.has≤1000∧p.frame≤1000∧p.sum<4294967296)(hh:p.heard≤k.now)
   (he:∀ e∈ev,e.1≤3∧1≤e.1∧e.2.1<8∧e.2.2≤1000∧(e.1=3∨e.2.2=0)) (hn:ev.length+(k.ps.set i p).countP (λp=>!p.apart)+(if cl=true then 0 else 1)≤k.n+1):WC { k with ps:=k.ps.set i p,ev:=ev,cl:=cl } :=
 { h with
  ps:=by show (k.ps.set i p).length=_;rw[bu];exact h.ps
  now:=λq hq=>by
   rcases mem_set hq with hq | rfl
   ·exact h.now q hq
   ·exact hh
  pe:=λq hq=>by
   rcases mem_set hq with hq | rfl
   ·exact h.pe q hq
   ·exact hp
  bx:=he
  oB:=hn }
theorem count_set {l:List Pe}{p:Pe}(h:i<l.length):(l.set i p).countP (λp=>!p.apart)+(if l[i].apart=true then 0 else 1)=l.countP (λp=>!p.apart)+(if p.apart=true then 0 else 1):=by
 have h1:l.countP (λp=>!p.apart)=(l[i]::l.eraseIdx i).countP (λp=>!p.apart):=List.Perm.countP_eq _ (r7 _ h);have hi:i<(l.set i p).length:=by simpa using h
 have h2:(l.set i p).countP (λp=>!p.apart)=((l.set i p)[i]::(l.set i p).eraseIdx i).countP (λp=>!p.apart):=List.Perm.countP_eq _ (r7 _ hi);rw[h1,h2,List.countP_cons,List.countP_cons,getElem_set_self,eraseIdx_set_eq];cases l[i].apart <;> cases p.apart <;> simp <;> omega
theorem WC.kY (h:WC k)(hi:i<k.n):WC (kY k i):=by
 unfold Go.Proofs.YteoldcfapaiobaaGreat.kY;split
 ·rename_i hb;have aH:i<k.ps.length:=by rw[h.ps];exact hi
  have hp:=h.pI hi;have o9:au k i=k.ps[i]:=by rw[au,bn,aE aH];rfl
  refine h.AN ⟨hp.1,hp.2.2⟩ hp.2.1 (λe he=>?_) ?_
  ·rcases eP.1 he with he | he
   ·exact h.bx e he
   ·rw[mem_singleton]at he;subst he;have:=h.n;exact⟨by simp,by simp,by simp;omega,hp.2.2.1,.inl rfl⟩
  ·have hc:=count_set (p:={ au k i with apart:=true }) aH;rw[← o9,hb.1]at hc;have:=h.oB;rw[aL,jl];simp at hc ⊢;omega
 ·exact h
end
section
variable {k:Ks}{i:Nat}
theorem KX (k:Ks)(i:Nat):∃ ps ev,kY k i={ k with ps:=ps,ev:=ev }∧ps.length=k.ps.length:=by
 unfold kY;split
 ·exact⟨_,_,rfl,by simp⟩
 ·exact⟨k.ps,k.ev,rfl,rfl⟩
theorem ym (k:Ks):∀ i,∃ ps ev,gp k i={ k with ps:=ps,ev:=ev }∧ps.length=k.ps.length
 | 0=>⟨k.ps,k.ev,rfl,rfl⟩
 | i+1=>by
  obtain⟨ps,ev,h1,h2⟩:=ym k i;obtain⟨gk,KY,h3,h4⟩:=KX (gp k i) i;refine⟨gk,KY,?_,?_⟩
  ·rw[gp,h3,h1]
  ·rw[h4,h1];exact h2
theorem wg (k:Ks):∃ ps ev,kZ k={ k with ps:=ps,ev:=ev }∧ps.length=k.ps.length:=ym k _
theorem WC.gp (h:WC k):∀ {i},i≤k.n→WC (gp k i)
 | 0,_=>h
 | i+1,hi=>by
  rw[Go.Proofs.YteoldcfapaiobaaGreat.gp];refine (h.gp (i:=i) (by omega)).kY ?_;obtain⟨ps,ev,h1,_⟩:=ym k i;rw[h1];show i<k.n;omega
theorem WC.kZ (h:WC k):WC (kZ k):=h.gp (by rw[h.ps];exact a7 _)
theorem YA (k:Ks)(i:Nat)(hi:i<k.ps.length):¬ we (kY k i).mr (au (kY k i) i):=by
 unfold kY;split
 ·intro hb;have:=hb.1;simp[au,hi]at this
 ·assumption
theorem YB (k:Ks){i j:Nat}(h:j≠i):au (kY k i) j=au k j:=by
 unfold kY;split
 ·simp only[au,bn];rw[getElem?_set_ne (by omega)]
 ·rfl
theorem YC (k:Ks)(i:Nat):(kY k i).mr=k.mr:=by
 obtain⟨ps,ev,h1,_⟩:=KX k i;rw[h1]
theorem AO (k:Ks)(i:Nat):(gp k i).ps.length=k.ps.length:=by
 obtain⟨ps,ev,h1,h2⟩:=ym k i;rw[h1];exact h2
theorem KZ (k:Ks):∀ {i j},i≤k.ps.length→j<i→¬ we (gp k i).mr (au (gp k i) j)
 | 0,_,_,h=>absurd h (by omega)
 | i+1,j,hi,hj=>by
  rw[Go.Proofs.YteoldcfapaiobaaGreat.gp];by_cases h:j=i
  ·subst h;exact YA _ _ (by rw[AO];omega)
  ·rw[YC,YB _ h];exact KZ k (by omega) (by omega)
theorem K0 (k:Ks):held (kZ k):=λi hi=>KZ k (a7 _) (by rw[kZ,AO]at hi;exact hi)
theorem held.gp (h:held k):∀ {i},i≤k.ps.length→gp k i=k
 | 0,_=>rfl
 | i+1,hi=>by
  rw[Go.Proofs.YteoldcfapaiobaaGreat.gp,h.gp (i:=i) (by omega),kY,ag (h i (by omega))]
theorem held.kZ (h:held k):kZ k=k:=h.gp (a7 _)
theorem held.of {k':Ks}(h:held k)(hm:k'.mr=k.mr)(hl:k'.ps.length=k.ps.length)(hp:∀ i,i<k.ps.length→(au k' i).apart=(au k i).apart∧(au k' i).frame=(au k i).frame∧(au k' i).sum=(au k i).sum):held k':=by
 intro i hi hb;rw[hl]at hi;obtain⟨h1,h2,h3⟩:=hp i hi;refine h i hi ?_;simp only[we,hm,h1,h2,h3]at hb;exact hb
theorem WC.mark (h:WC k){s:Nat}(I:s<4294967296):WC (lu k s):=by
 unfold lu;refine WC.kZ ?_;split
 ·exact { h with
   mr:=by show (k.mr++[s]).length≤1000;rw[aL,jl];omega
   rB:=λx hx=>by
    rcases eP.1 hx with hx | hx
    ·exact h.rB x hx
    ·rw[mem_singleton]at hx;rw[hx];exact I }
 ·exact h
theorem K1 (k:Ks)(s:Nat)(hl:k.mr.length<1000):∃ ps ev,lu k s={ k with ps:=ps,ev:=ev,mr:=k.mr++[s] }∧ps.length=k.ps.length:=by
 obtain⟨ps,ev,h1,h2⟩:=wg { k with mr:=k.mr++[s] };refine⟨ps,ev,?_,h2⟩;rw[lu,ak hl,h1]
theorem uv {k:Ks}{b:UInt8}(h:(cZ b k).1=0):k.cl=false∧aD k<1000∧aD k<k.bt+aw k∧(cZ b k).2={ k with ls:=k.ls.set k.me (k.ls.getD k.me []++[b]) }:=by
 unfold cZ at h ⊢;split at h
 ·cases h
 ·split at h
  ·cases h
  ·split at h
   ·cases h
   ·rename_i h1 h2 h3;refine⟨by simpa using h1,by omega,by omega,?_⟩;rw[ag h1,ag h2,ag h3]
theorem uw {k:Ks}{b:UInt8}(h:(cZ b k).1≠0):(cZ b k).2=k:=by
 unfold cZ at h ⊢;split
 ·rfl
 ·rename_i h1;rw[ag h1]at h;split
  ·rfl
  ·rename_i h2;rw[ag h2]at h;split
   ·rfl
   ·rename_i h3;rw[ag h3]at h;exact absurd rfl h
theorem WC.al (h:WC k)(b:UInt8):WC (cZ b k).2:=by
 by_cases h0:(cZ b k).1=0
 ·obtain⟨h1,h2,h3,h4⟩:=uv h0;rw[h4];exact { h with
   ls:=by show (k.ls.set _ _).length=_;rw[bu];exact h.ls
   na:=λl hl=>by
    rcases mem_set hl with hl | rfl
    ·exact h.na l hl
    ·rw[aL,jl];simp only[aD]at h2;omega }
 ·rw[uw h0];exact h
theorem held.al (h:held k)(b:UInt8):held (cZ b k).2:=by
 by_cases h0:(cZ b k).1=0
 ·obtain⟨h1,h2,h3,h4⟩:=uv h0;rw[h4];exact h
 ·rw[uw h0];exact h
theorem WC.YD (h:WC k):WC { k with ev:=[] } :=
 { h with
  bx:=λe he=>by cases he
  oB:=by have:=h.oB;show ([]:List (Nat×Nat×Nat)).length+_+_≤_;simp only[length_nil];omega }
theorem wi {k:Ks}{i j:Nat}{p:Pe}(hi:i<k.ps.length):(k.ps.set i p).getD j (fy 0)=if j=i then p else au k j:=by
 simp only[au,bn,jL];by_cases h:i=j
 ·subst h;simp[hi]
 ·rw[ag h,ag (λe=>h e.symm)]
theorem E1 {k:Ks}{i:Nat}{p:Pe}(hi:i<k.ps.length)(E:p.apart=(au k i).apart):(k.ps.set i p).countP (λp=>!p.apart)=k.ps.countP (λp=>!p.apart):=by
 have hc:=count_set (p:=p) hi;have o9:au k i=k.ps[i]:=by rw[au,bn,aE hi];rfl
 rw[← o9,E]at hc;omega
theorem WC.yn (h:WC k){p:Pk}(hp:hL p)(I:p.sum<4294967296)(hn:p.aW<k.n)(hc:k.cl=false):WC (fQ k p)∧(held k→held (fQ k p)):=by
 have E2:=hp.1.1;have aH:p.aW.toNat<k.n:=by omega
 have E3:p.aW.toNat<k.ps.length:=by rw[h.ps];exact aH
 have iv:=h.pI aH;unfold fQ;split
 ·have ke:=E1 (p:={ au k p.aW.toNat with heard:=k.now }) E3 rfl;refine⟨h.AN (p:={ au k p.aW.toNat with heard:=k.now }) (cl:=true) ⟨iv.1,iv.2.2⟩ (a7 _) (λe he=>?_) ?_,λhh=>hh.of rfl (by simp) λj hj=>?_⟩
  ·rcases eP.1 he with he | he
   ·exact h.bx e he
   ·rw[mem_singleton]at he;subst he;have:=h.n;exact⟨by simp,by simp,by show p.aW.toNat<8;omega,by simp,.inr rfl⟩
  ·have:=h.oB;rw[hc]at this;rw[ke,aL,jl];simp at this ⊢;omega
  ·show ((k.ps.set _ _).getD j _).apart=_∧((k.ps.set _ _).getD j _).frame=_∧((k.ps.set _ _).getD j _).sum=_;rw[wi E3];split
   ·rename_i h1;subst h1;exact⟨rfl,rfl,rfl⟩
   ·exact⟨rfl,rfl,rfl⟩
 ·refine⟨WC.kZ ?_,λ_=>K0 _⟩;have hk:p.kind=1∧eG p.first∧eG p.c7∧eG p.frame∧p.al.length≤32:=by
   rcases hp.2.2.2.2 with h1 | h1
   ·exact h1
   ·rename_i h2;exact absurd h1.1 h2
  have Co:(fP k.now (aD k) p (au k p.aW.toNat)).apart=(au k p.aW.toNat).apart:=by
   unfold fP;simp only;split <;> rfl
  have ke:=E1 (p:=fP k.now (aD k) p (au k p.aW.toNat)) E3 Co;have YE:=hk.2.2.1;have iZ:=hk.2.2.2.1;simp only[eG]at YE iZ;have gS:=h.lx;have hq:(fP k.now (aD k) p (au k p.aW.toNat)).has≤1000∧(fP k.now (aD k) p (au k p.aW.toNat)).frame≤1000∧(fP k.now (aD k) p (au k p.aW.toNat)).sum<4294967296∧(fP k.now (aD k) p (au k p.aW.toNat)).heard=k.now:=by
   unfold fP;simp only;have h9:(if (au k p.aW.toNat).has<p.c7.toNat∧p.c7.toNat≤aD k then p.c7.toNat else (au k p.aW.toNat).has)≤1000:=by split <;> omega
   split
   ·exact⟨h9,by show p.frame.toNat≤1000;omega,I,rfl⟩
   ·exact⟨h9,iv.2.2.1,iv.2.2.2,rfl⟩
  have h1:=h.AN (p:=fP k.now (aD k) p (au k p.aW.toNat)) (i:=p.aW.toNat) (ev:=k.ev) (cl:=k.cl) ⟨hq.1,hq.2.1,hq.2.2.1⟩ (by rw[hq.2.2.2];exact a7 _) h.bx (by rw[ke];exact h.oB);have hQ:=h.lW aH;exact { h1 with
   ls:=by show (k.ls.set _ _).length=_;rw[bu];exact h.ls
   na:=λl hl=>by
    rcases mem_set hl with hl | rfl
    ·exact h.na l hl
    ·exact (rz hQ).2 }
theorem AP {k:Ks}{bs:List UInt8}(h:(dw bs k).1=0):∃ p,eu bs=some p∧k.cl=false∧p.to=k.me∧p.aW<k.n∧p.id=k.id∧(dw bs k).2=fQ k p:=by
 unfold dw at h ⊢;split at h
 ·cases h
 ·rename_i h1;rw[ag h1];cases hd:eu bs with
  | none=>rw[hd]at h;cases h
  | some p =>
   rw[hd]at h;simp only at h ⊢;split at h
   ·cases h
   ·rename_i h2;rw[ag h2];have h3:p.to=k.me:=Decidable.of_not_not λhh=>h2 (.inl hh);have h4:p.id=k.id:=Decidable.of_not_not λhh=>h2 (.inr (.inr hh));have h5:p.aW<k.n:=Int.not_le.1 λhh=>h2 (.inr (.inl hh));exact⟨p,rfl,by simpa using h1,h3,h5,h4,rfl⟩
theorem wj {k:Ks}{bs:List UInt8}(h:(dw bs k).1≠0):(dw bs k).2=k:=by
 unfold dw at h ⊢;split
 ·rfl
 ·rename_i h1;rw[ag h1]at h;cases hd:eu bs with
  | none=>rfl
  | some p =>
   rw[hd]at h;simp only at h ⊢;split
   ·rfl
   ·rename_i h2;rw[ag h2]at h;exact absurd rfl h
theorem WC.recv (h:WC k)(bs:List UInt8):WC (dw bs k).2∧(held k→held (dw bs k).2):=by
 by_cases h0:(dw bs k).1=0
 ·obtain⟨p,h1,h2,h3,h4,h5,h6⟩:=AP h0;obtain⟨h7,h8,h9⟩:=Es h1;rw[h6];exact h.yn h7 h8 h4 h2
 ·rw[wj h0];exact⟨h,λh=>h⟩
theorem wk {k:Ks}{i:Nat}:i∈bG k↔i<k.n∧i≠k.me:=by simp[bG]
theorem WC.AQ (h:WC k):WC { k with now:=k.now+1 }:={ h with now:=λp hp=>Nat.le_succ_of_le (h.now p hp) }
theorem WC.late (h:WC k){i:Nat}(hi:i<8)(hc:k.cl=false):WC { k with ev:=k.ev++[(2,i,0)],cl:=true } :=
 { h with
  bx:=λe he=>by
   rcases eP.1 he with he | he
   ·exact h.bx e he
   ·rw[mem_singleton]at he;subst he;exact⟨by simp,by simp,hi,by simp,.inr rfl⟩
  oB:=by
   have:=h.oB;rw[hc]at this;rw[aL,jl];simp at this ⊢;omega }
theorem wm (k:Ks):(br k).2=k∨(k.cl=false∧((br k).2={ k with now:=k.now+1 }∨∃ i,i<k.n∧(br k).2={ k with now:=k.now+1,ev:=k.ev++[(2,i,0)],cl:=true })):=by
 unfold br;split
 ·exact .inl rfl
 ·rename_i hc;refine .inr ⟨by simpa using hc,?_⟩;simp only;cases hf:(bG { k with now:=k.now+1 }).find? (λi=>decide (jm { k with now:=k.now+1 } i)) with
  | none=>exact .inl rfl
  | some i=>exact .inr ⟨i,(wk.1 (List.mem_of_find?_eq_some hf)).1,rfl⟩
theorem WC.tick (h:WC k):WC (br k).2∧(held k→held (br k).2):=by
 rcases wm k with h1 | ⟨hc,h1 | ⟨i,hi,h1⟩⟩
 ·rw[h1];exact⟨h,λh=>h⟩
 ·rw[h1];exact⟨h.AQ,λh=>h⟩
 ·rw[h1];have:=h.n;exact⟨(h.AQ).late (by omega) hc,λh=>h⟩
theorem WC.oC (h:WC k):WC (cy k).2∧(held k→held (cy k).2):=by
 unfold cy;split
 ·exact⟨h,λh=>h⟩
 ·rename_i hc;refine⟨{ h with oB:=?_ },λh=>h⟩;have:=h.oB;have w9:k.cl=false:=by simpa using hc
  rw[w9]at this;simp at this ⊢;omega
theorem WC.new {c:Cf}(h:eR c):WC (ff c)∧held (ff c)∧fe (ff c)=c:=by
 obtain⟨⟨h1,h2,h3⟩,⟨h4,h5,h6,h7⟩,h8,h9,eI,jV⟩:=h;simp only[fx] at *;refine⟨⟨?_,?_,?_,?_,?_,?_,?_,?_,?_,?_,?_,?_,?_,?_⟩,?_,?_⟩
 ·show 2≤c.n.toNat∧c.n.toNat≤8;omega
 ·show c.me.toNat<c.n.toNat;omega
 ·exact h3
 ·show c.aJ.toNat≤8;omega
 ·show 1≤c.bt.toNat∧c.bt.toNat≤16;omega
 ·simp[ff]
 ·simp[ff]
 ·intro l hl;simp[ff]at hl;rw[hl.2,ko];omega
 ·simp[ff]
 ·intro s I;cases I
 ·intro p hp;simp[ff]at hp;rw[hp.2];exact Nat.zero_le _
 ·intro p hp;simp[ff]at hp;rw[hp.2];refine⟨?_,?_,?_⟩ <;> simp[fy];omega
 ·intro e he;cases he
 ·simp[ff,List.countP_replicate,fy]
 ·intro i hi hb;have h1:(au (ff c) i).frame≤0:=hb.2.2.1;have h2:=hb.2.1;omega
 ·show Cf.mk _ _ _ _ _ _ _ _ _ _=c;simp only[ff];rw[Int.toNat_of_nonneg (by omega),Int.toNat_of_nonneg (by omega),Int.toNat_of_nonneg (by omega),Int.toNat_of_nonneg (by omega)]
end
theorem YF {p:Pr}{fr:Int}{b:List UInt8}{g:Nat→Int}{aT:Nat}{o:gC}{m:Int}(hg:dO g)(ho:eZ m o):dO (ej p fr b g aT o).1:=by
 have ql:=ho;simp only[eZ,eY]at ql;unfold ej;split
 ·exact hg
 ·split
  ·exact hg
  ·split
   ·exact hg
   ·split
    ·exact nE hg (hg _ (by omega))
    ·exact nE hg (JE hg ho (by assumption) (by assumption))
theorem K2 {p:Pr}{fr:Int}{b:List UInt8}(hp:dh p):∀ (n:Nat) {g:Nat→Int} {aT:Nat},dO g→dO (qg p fr b n g aT)
 | 0,_,_,hg=>hg
 | n+1,g,aT,hg=>by
  cases ho:p.ops[aT]? with
  | none =>
   rw [DR (by rcases Nat.lt_or_ge aT p.ops.length with h | h; · rw [aE h] at ho; cases ho
              ·exact h)];exact hg
  | some o =>
   have h1:=YF (p:=p) (fr:=fr) (b:=b) (aT:=aT) hg (hp.2 o (bH ho));rw[DQ ho];split
   ·exact K2 hp n h1
   ·exact h1
theorem K3 {p:Pr}{fr:Int}{b:List UInt8}{g:Nat→Int}(hp:dh p)(hg:dO g):dO (e0 p fr b g):=K2 hp 200 hg
theorem K4 {p:Pr}(hp:dh p):∀ (l:List (List UInt8)) {fr:Int} {g:Nat→Int},dO g→dO (foldI p fr g l)
 | [],_,_,hg=>hg
 | b::l,_,_,hg=>K4 hp l (K3 hp hg)
structure Pl where
 k:Ks
 g:Nat→Int
def nJ (p:Pr)(s:Pl):Pl:=⟨lu s.k (jk (gn (e0 p s.k.mr.length (bJ s.k.ls s.k.mr.length) s.g))),e0 p s.k.mr.length (bJ s.k.ls s.k.mr.length) s.g⟩
def iw (p:Pr):Nat→Pl→Pl
 | 0,s=>s
 | n+1,s=>iw p n (nJ p s)
theorem E4 (p:Pr):∀ (n:Nat) (s:Pl),iw p (n+1) s=nJ p (iw p n s)
 | 0,_=>rfl
 | n+1,s=>by rw[iw,E4 p n (nJ p s)];rfl
def ew (p:Pr)(s:Pl):Pl:=iw p (aw s.k-s.k.mr.length) s
def oD:Nat→Int:=λ_=>0
theorem YG:dO oD:=λ_ _=>⟨by simp[oD],by simp[oD]⟩
def ly (p:Pr)(ls:List (List UInt8))(f:Nat):Nat→Int:=foldI p 0 oD ((List.range f).map (bJ ls))
def kE (p:Pr)(ls:List (List UInt8))(f:Nat):Nat:=jk (gn (ly p ls (f+1)))
theorem K5 (p:Pr)(ls:List (List UInt8))(f:Nat):ly p ls (f+1)=e0 p f (bJ ls f) (ly p ls f):=by
 rw[ly,range_succ,cW,map_singleton,Dm,bd,length_range,Int.zero_add];rfl
def Ext (ls kF:List (List UInt8)):Prop:=kF.length=ls.length∧∀ i:Nat,i<ls.length→∃ t,kF.getD i []=ls.getD i []++t
theorem Ext.refl (ls:List (List UInt8)):Ext ls ls:=⟨rfl,λi _=>⟨[],by simp⟩⟩
theorem Ext.trans {a b c:List (List UInt8)}(h:Ext a b)(h2:Ext b c):Ext a c:=⟨h2.1.trans h.1,λi hi=>by
 obtain⟨t,ht⟩:=h.2 i hi;obtain⟨u,hu⟩:=h2.2 i (by rw[h.1];exact hi);exact⟨t++u,by rw[hu,ht,ds]⟩⟩
theorem Ext.set {ls:List (List UInt8)}{i:Nat}{t:List UInt8}:Ext ls (ls.set i (ls.getD i []++t)):=by
 refine⟨by simp,λj hj=>?_⟩;by_cases h:i=j
 ·subst h;exact⟨t,by simp[bn,hj]⟩
 ·exact⟨[],by simp[bn,getElem?_set_ne h]⟩
theorem getD_map {ls:List (List UInt8)}{f i:Nat}(h:i<ls.length):(bJ ls f)[i]?=some ((ls.getD i []).getD f 0):=by
 rw[bJ,bm,aE h,bn (l:=ls),aE h];rfl
theorem Ext.E5 {ls kF:List (List UInt8)}(h:Ext ls kF){f:Nat}(hf:f<aU ls):bJ kF f=bJ ls f:=by
 apply ext_getElem?;intro i;by_cases hi:i<ls.length
 ·rw[getD_map (by rw[h.1];exact hi),getD_map hi];obtain⟨t,ht⟩:=h.2 i hi;have hl:=v8 (uu hi);rw[ht,bn,l4 (by omega),← bn]
 ·rw[iW (by rw[m8,h.1];omega),iW (by rw[m8];omega)]
theorem Ext.front {ls kF:List (List UInt8)}(h:Ext ls kF)(h0:ls≠[]):aU ls≤aU kF:=by
 refine EX (λh1=>?_) λl hl=>?_
 ·have:=h.1;rw[h1]at this;exact h0 (gW this.symm)
 ·obtain⟨i,hi,rfl⟩:=List.getElem_of_mem hl;have vg:i<ls.length:=by rw[← h.1];exact hi
  obtain⟨t,ht⟩:=h.2 i vg;have h3:=v8 (uu vg);rw[bn,aE hi]at ht;simp only[Option.getD_some]at ht;rw[ht,aL];omega
theorem Ext.ly {ls kF:List (List UInt8)}(h:Ext ls kF){p:Pr}{f:Nat}(hf:f≤aU ls):ly p kF f=ly p ls f:=by
 unfold Go.Proofs.YteoldcfapaiobaaGreat.ly
 congr 1
 refine List.map_congr_left λi hi=>h.E5 ?_;rw[mem_range]at hi;omega
theorem Ext.kE {ls kF:List (List UInt8)}(h:Ext ls kF){p:Pr}{f:Nat}(hf:f<aU ls):kE p kF f=kE p ls f:=by
 rw[Go.Proofs.YteoldcfapaiobaaGreat.kE,h.ly (by omega)];rfl
structure WP (p:Pr)(s:Pl):Prop where
 wc:WC s.k
 held:held s.k
 low:s.k.mr.length≤aw s.k
 rC:s.g=ly p s.k.ls s.k.mr.length
 marks:s.k.mr=(List.range s.k.mr.length).map (kE p s.k.ls)
section
variable {p:Pr}{s:Pl}
theorem WP.pJ (h:WP p s)(hp:dh p):dO s.g:=by rw[h.rC];exact K4 hp _ YG
theorem WC.k0 {k:Ks}(h:WC k):k.ls≠[]:=λe=>by
 have:=h.ls;have:=h.n;rw[e] at *;simp at *;omega
theorem WP.one (h:WP p s)(hl:s.k.mr.length<aw s.k):WP p (nJ p s)∧(nJ p s).k.ls=s.k.ls∧(nJ p s).k.mr.length=s.k.mr.length+1:=by
 have h9:=h.wc.nc;have h8:=h.wc.lx;obtain⟨ps,ev,h1,h2⟩:=K1 s.k (jk (gn (e0 p s.k.mr.length (bJ s.k.ls s.k.mr.length) s.g))) (by omega);have hk:(nJ p s).k={ s.k with ps:=ps,ev:=ev,mr:=s.k.mr++[jk (gn (e0 p s.k.mr.length (bJ s.k.ls s.k.mr.length) s.g))] }:=h1;have hm:(nJ p s).k.mr.length=s.k.mr.length+1:=by rw[hk];simp
 have eQ:(nJ p s).k.ls=s.k.ls:=by rw[hk]
 have hg:e0 p s.k.mr.length (bJ s.k.ls s.k.mr.length) s.g=ly p s.k.ls (s.k.mr.length+1):=by rw[K5,h.rC]
 refine⟨⟨h.wc.mark (Ea _),?_,?_,?_,?_⟩,eQ,hm⟩
 ·show Go.Proofs.YteoldcfapaiobaaGreat.held (lu _ _);rw[lu];exact K0 _
 ·rw[hm,aw,eQ];exact hl
 ·rw[hm,eQ];exact hg
 ·rw[hm,eQ,hk,range_succ,cW,← h.marks,hg];rfl
theorem WP.qw:∀ (n:Nat) {s:Pl},WP p s→n≤aw s.k-s.k.mr.length→WP p (iw p n s)∧(iw p n s).k.ls=s.k.ls∧(iw p n s).k.mr.length=s.k.mr.length+n
 | 0,_,h,_=>⟨h,rfl,rfl⟩
 | n+1,s,h,hn=>by
  obtain⟨h1,h2,h3⟩:=h.one (by omega);obtain⟨h4,h5,h6⟩:=h1.qw n (by rw[aw,h2,h3];simp only[aw]at hn;omega);exact⟨h4,h5.trans h2,by rw[iw,h6,h3];omega⟩
theorem YH (h:s.k.mr.length<1000):∃ ps ev mr,(nJ p s).k={ s.k with ps:=ps,ev:=ev,mr:=mr }:=by
 obtain⟨ps,ev,h1,h2⟩:=K1 s.k (jk (gn (e0 p s.k.mr.length (bJ s.k.ls s.k.mr.length) s.g))) h;exact⟨ps,ev,_,h1⟩
theorem WP.K6:∀ (n:Nat) {s:Pl},WP p s→n≤aw s.k-s.k.mr.length→∃ ps ev mr,(iw p n s).k={ s.k with ps:=ps,ev:=ev,mr:=mr }
 | 0,s,h,_=>⟨s.k.ps,s.k.ev,s.k.mr,rfl⟩
 | n+1,s,h,hn=>by
  have h9:=h.wc.nc;have h8:=h.wc.lx;obtain⟨h1,h2,h3⟩:=h.one (by omega);obtain⟨ps,ev,mr,h4⟩:=h1.K6 n (by rw[aw,h2,h3];simp only[aw]at hn;omega);obtain⟨gk,KY,mr',h5⟩:=YH (p:=p) (s:=s) (by omega);exact⟨ps,ev,mr,by rw[iw,h4,h5]⟩
structure cw (p:Pr)(s:Pl):Prop extends WP p s where
 full:s.k.mr.length=aw s.k
theorem WP.ew (h:WP p s):cw p (ew p s)∧(ew p s).k.ls=s.k.ls∧∃ ps ev mr,(Go.Proofs.YteoldcfapaiobaaGreat.ew p s).k={ s.k with ps:=ps,ev:=ev,mr:=mr }:=by
 obtain⟨h1,h2,h3⟩:=h.qw _ (a7 _);have hl:=h.low;refine⟨⟨h1,?_⟩,h2,h.K6 _ (a7 _)⟩;show (iw p _ s).k.mr.length=aU (iw p _ s).k.ls;rw[h3,h2];show _=aw s.k;omega
theorem cw.ew (h:cw p s):ew p s=s:=by rw[Go.Proofs.YteoldcfapaiobaaGreat.ew,h.full,Nat.sub_self];rfl
theorem WP.more {k':Ks}(h:WP p s)(hw:WC k')(hh:Go.Proofs.YteoldcfapaiobaaGreat.held k')(hm:k'.mr=s.k.mr)(he:Ext s.k.ls k'.ls):WP p ⟨k',s.g⟩:=by
 have hf:=he.front h.wc.k0;have hl:=h.low;refine⟨hw,hh,?_,?_,?_⟩
 ·show k'.mr.length≤aU k'.ls;rw[hm];simp only[aw]at hl;omega
 ·show s.g=ly p k'.ls k'.mr.length;rw[hm,he.ly hl];exact h.rC
 ·show k'.mr=(List.range k'.mr.length).map (kE p k'.ls);rw[hm]
  conv=>lhs;rw[h.marks]
  refine List.map_congr_left λi hi=>?_;rw[mem_range]at hi;simp only[aw]at hl;rw[he.kE (by omega)]
def dE (p:Pr)(b:UInt8)(s:Pl):Int×Pl:=((cZ b s.k).1,ew p ⟨(cZ b s.k).2,s.g⟩)
noncomputable def dF (p:Pr)(bs:List UInt8)(s:Pl):Int×Pl:=((dw bs s.k).1,ew p ⟨(dw bs s.k).2,s.g⟩)
def lz (s:Pl):List UInt8×Nat:=(gn s.g,aw s.k)
theorem K7 (l:List UInt8)(f:Nat)(b:List UInt8):∃ t,dp l f b=l++t:=by
 unfold dp;split
 ·exact⟨[],by simp⟩
 ·exact⟨_,rfl⟩
theorem E6 {k:Ks}{p:Pk}:(fQ k p).mr=k.mr∧Ext k.ls (fQ k p).ls:=by
 unfold fQ;split
 ·exact⟨rfl,Ext.refl _⟩
 ·obtain⟨ps,ev,h1,_⟩:=wg { k with ls:=k.ls.set p.aW.toNat (dp (k.ls.getD p.aW.toNat []) p.first.toNat p.al),ps:=k.ps.set p.aW.toNat (fP k.now (aD k) p (au k p.aW.toNat)) };rw[h1];obtain⟨t,ht⟩:=K7 (k.ls.getD p.aW.toNat []) p.first.toNat p.al;refine⟨rfl,?_⟩;show Ext k.ls (k.ls.set _ _);rw[ht];exact Ext.set
theorem ux (b:UInt8)(k:Ks):(cZ b k).2.mr=k.mr∧Ext k.ls (cZ b k).2.ls:=by
 by_cases h0:(cZ b k).1=0
 ·obtain⟨h1,h2,h3,h4⟩:=uv h0;rw[h4];exact⟨rfl,Ext.set⟩
 ·rw[uw h0];exact⟨rfl,Ext.refl _⟩
theorem rD (bs:List UInt8)(k:Ks):(dw bs k).2.mr=k.mr∧Ext k.ls (dw bs k).2.ls:=by
 by_cases h0:(dw bs k).1=0
 ·obtain⟨p,h1,h2,h3,h4,h5,h6⟩:=AP h0;rw[h6];exact E6
 ·rw[wj h0];exact⟨rfl,Ext.refl _⟩
theorem cw.al (h:cw p s)(b:UInt8):cw p (dE p b s).2:=by
 have h1:=ux b s.k;exact (h.toWP.more (h.wc.al b) (h.held.al b) h1.1 h1.2).ew.1
theorem cw.recv (h:cw p s)(bs:List UInt8):cw p (dF p bs s).2:=by
 have h1:=rD bs s.k;exact (h.toWP.more (h.wc.recv bs).1 ((h.wc.recv bs).2 h.held) h1.1 h1.2).ew.1
theorem cw.with {k':Ks}(h:cw p s)(hw:WC k')(hh:Go.Proofs.YteoldcfapaiobaaGreat.held k')(hm:k'.mr=s.k.mr)(he:k'.ls=s.k.ls):cw p ⟨k',s.g⟩:=by
 refine⟨h.toWP.more hw hh hm (by rw[he];exact Ext.refl _),?_⟩;show k'.mr.length=aU k'.ls;rw[hm,he];exact h.full
theorem AR (k:Ks):(br k).2.mr=k.mr∧(br k).2.ls=k.ls:=by
 rcases wm k with h1 | ⟨hc,h1 | ⟨i,hi,h1⟩⟩ <;> rw[h1] <;> exact⟨rfl,rfl⟩
theorem E7 (k:Ks):(cy k).2.mr=k.mr∧(cy k).2.ls=k.ls:=by
 unfold cy;split <;> exact⟨rfl,rfl⟩
theorem cw.tick (h:cw p s):cw p ⟨(br s.k).2,s.g⟩:=h.with h.wc.tick.1 (h.wc.tick.2 h.held) (AR _).1 (AR _).2
theorem cw.oC (h:cw p s):cw p ⟨(cy s.k).2,s.g⟩:=h.with h.wc.oC.1 (h.wc.oC.2 h.held) (E7 _).1 (E7 _).2
theorem cw.told (h:cw p s):cw p ⟨{ s.k with ev:=[] },s.g⟩:=h.with h.wc.YD (λi hi=>h.held i hi) rfl rfl
def ey (p:Pr)(c:Cf):Pl:=ew p ⟨ff c,oD⟩
theorem wo {c:Cf}(h:eR c):WP p ⟨ff c,oD⟩:=by
 obtain⟨h1,h2,h3⟩:=WC.new h;exact⟨h1,h2,Nat.zero_le _,rfl,rfl⟩
theorem cw.new {c:Cf}(h:eR c):cw p (ey p c):=(wo h).ew.1
end
section
variable {p:Pr}{me:Nat}{ls:List (List UInt8)}{s:Pl}{k:Ks}
theorem K8 (h:WP p s):(ew p s).k.n=s.k.n∧(ew p s).k.me=s.k.me∧(ew p s).k.id=s.k.id∧(ew p s).k.cl=s.k.cl∧(ew p s).k.bt=s.k.bt∧(ew p s).k.now=s.k.now∧(ew p s).k.ls=s.k.ls:=by
 obtain⟨_,h2,ps,ev,mr,h3⟩:=h.ew;rw[h3];exact⟨rfl,rfl,rfl,rfl,rfl,rfl,rfl⟩
theorem K9 (p:Pk):(aR p).length≤507:=by
 unfold aR;split
 ·rename_i h;have:=Kd h;rw[x6];omega
 ·simp
end
end
section
def AS:TypeDesc→Bool | .interface _=>true | _=>false
section
variable {P:Program}{a:Act}{w:World}{n:Nat}{l:List (Nat×Value)}{v:Value}
theorem E8 {x t E9 ee dst ty ps af g}(E:Fr a n l)(ht:P.underlying t=some ee)(hd:AS ee=false)[e:Ev l x (.iface t v)] :
   (execOp a.eval ⟨dst,.typeAssert x E9 t true,ty,ps,af,g⟩).run P w=.ok (.value (.tuple #[v,.bool true])) w:=by
 cases ee <;> first | (simp[AS]at hd) | skip
 all_goals simp[execOp,e.ev a n E,Instr.typeAssert,eL ht]
theorem Fa {x t t' E9 ee dst z sz a1 ty ps af g}(E:Fr a n l)(ht:P.underlying t=some ee)(hd:AS ee=false)(hi:TI P t z sz a1)(hn:Nat.beq t' t=false)[e:Ev l x (.iface t' v)] :
   (execOp a.eval ⟨dst,.typeAssert x E9 t true,ty,ps,af,g⟩).run P w=.ok (.value (.tuple #[z,.bool false])) w:=by
 have bD:¬ t'=t:=λh=>by rw[h,Nat.beq_refl]at hn;cases hn
 cases ee <;> first | (simp[AS]at hd) | skip
 all_goals simp[execOp,e.ev a n E,Instr.typeAssert,eL ht,tv hi,bD]
end
abbrev j6:=Nat×Nat×Nat
def sZ (e:j6):Prop:=e.1≤3∧1≤e.1∧e.2.1<8∧e.2.2≤1000∧(e.1=3∨e.2.2=0)
def cA (e:j6):Value:=if e.1=1 then .iface 210 (.agg #[.int .i64 e.2.1]) else if e.1=2 then .iface 211 (.agg #[.int .i64 e.2.1]) else .iface 213 (.agg #[.int .i64 e.2.1,.int .i64 e.2.2])
theorem Fb (e:j6):(cA e).oneCell'=true:=by
 unfold cA;split
 ·rfl
 ·split <;> rfl
instance {e:j6}:One (cA e):=⟨Fb e⟩
abbrev bU (e:j6):List Value:=[.int .i64 e.1,.int .i64 e.2.1,.int .i64 e.2.2]
theorem AT (e:j6):(bU e).length=3:=rfl
theorem Fc (e:j6):∀ v∈bU e,v.oneCell'=true:=by
 intro v hv;simp[bU]at hv;rcases hv with rfl | rfl | rfl <;> rfl
section
variable {W w:World}{L:List SP}{e:j6}
theorem YI (I:U W w L)(h:sZ e):Calls prog 231 #[.agg (bU e).toArray] w λr w'=>r=.returned (.tuple #[.agg #[cA e],.bool true])∧U W w' L:=by
 obtain⟨h1,h2,h3,h4,h5⟩:=h;refine EN func231 ntmps231 rfl rfl λa E=>?_;refine BX 1 E I λb1 a w E I=>?_;change U W w (aa b1 102 (bU e)::_) at I;refine AL 0 E I λb2 a w E I=>?_;refine RN 7 E I λa E=>?_;rw[bq (by omega)]at E;refine RN 5 E I λa E=>?_;rw[bq (by omega)]at E;refine RN 5 E I λa E=>?_;rw[bq (by omega)]at E;refine RN 5 E I λa E=>?_;rw[bq (by omega)]at E;refine BY 4 E I (λpE a E=>?_) λpE a E=>?_
 ·
  refine RN 5 E I λa E=>?_;rw[bq (by omega)]at E;refine IF 8 E I (λao a E=>?_) λao a E=>?_
  ·
   refine SA 6 E I λa w E I=>?_;refine RT 1 E I ?_;exact⟨by rw[cA,ak (by omega)],I.sub⟩
  refine IF 3 E I (λay a E=>?_) λay a E=>?_
  ·
   refine SA 6 E I λa w E I=>?_;refine RT 1 E I ?_;exact⟨by rw[cA,ag (by omega),ak (by omega)],I.sub⟩
  refine IF 3 E I (λbk a E=>?_) λbk a E=>?_
  ·
   refine SA 8 E I λa w E I=>?_;refine RT 1 E I ?_;exact⟨by rw[cA,ag (by omega),ag (by omega)],I.sub⟩
  exfalso;omega
 refine IF 13 E I (λao a E=>?_) λao a E=>?_
 ·
  refine SA 6 E I λa w E I=>?_;refine RT 1 E I ?_;exact⟨by rw[cA,ak (by omega)],I.sub⟩
 refine IF 3 E I (λay a E=>?_) λay a E=>?_
 ·
  refine SA 6 E I λa w E I=>?_;refine RT 1 E I ?_;exact⟨by rw[cA,ag (by omega),ak (by omega)],I.sub⟩
 refine IF 3 E I (λbk a E=>?_) λbk a E=>?_
 ·
  refine SA 8 E I λa w E I=>?_;refine RT 1 E I ?_;exact⟨by rw[cA,ag (by omega),ag (by omega)],I.sub⟩
 exfalso;omega
theorem YJ (I:U W w L)(h:sZ e)(hk:e.1=1):Calls prog 80 #[.agg #[cA e]] w λr w'=>r=.returned (.agg (bU e).toArray)∧U W w' L:=by
 have he:cA e=.iface 210 (.agg #[.int .i64 e.2.1]):=by rw[cA,ak hk]
 have hz:e.2.2=0:=by have:=h.2.2.2.2;omega
 rw[he];refine EN func80 ntmps80 rfl rfl λa E=>?_;refine BX 1 E I λb1 a w E I=>?_;refine AL 0 E I λb2 a w E I=>?_;refine RN 5 E I λa E=>?_;refine SK (bo E rfl (E8 E underlying210 rfl) rfl ?_);clear E a;intro a E;refine RN 2 E I λa E=>?_;replace E:=E.eh 9;refine AL 2 E I λb3 a w E I=>?_
 skip
 refine SA 0 E I λa w E I=>?_;refine SA 4 E I λa w E I=>?_;refine RT 0 E I ?_;exact⟨by rw[bU,hk,hz];rfl,I.sub⟩
theorem YK (I:U W w L)(h:sZ e)(hk:e.1=2):Calls prog 80 #[.agg #[cA e]] w λr w'=>r=.returned (.agg (bU e).toArray)∧U W w' L:=by
 have he:cA e=.iface 211 (.agg #[.int .i64 e.2.1]):=by rw[cA,ag (by omega),ak hk]
 have hz:e.2.2=0:=by have:=h.2.2.2.2;omega
 rw[he];refine EN func80 ntmps80 rfl rfl λa E=>?_;refine BX 1 E I λb1 a w E I=>?_;refine AL 0 E I λb2 a w E I=>?_;refine RN 5 E I λa E=>?_;refine SK (bo E rfl (Fa E underlying210 rfl Ty.t210 rfl) rfl ?_);clear E a;intro a E;refine RN 2 E I λa E=>?_;replace E:=E.aM 9;refine RN 2 E I λa E=>?_;refine SK (bo E rfl (E8 E underlying211 rfl) rfl ?_);clear E a;intro a E;refine RN 2 E I λa E=>?_;replace E:=E.eh 15;refine AL 2 E I λb4 a w E I=>?_;refine SA 0 E I λa w E I=>?_;refine SA 4 E I λa w E I=>?_;refine RT 0 E I ?_;exact⟨by rw[bU,hk,hz];rfl,I.sub⟩
theorem YL (I:U W w L)(h:sZ e)(hk:e.1=3):Calls prog 80 #[.agg #[cA e]] w λr w'=>r=.returned (.agg (bU e).toArray)∧U W w' L:=by
 have he:cA e=.iface 213 (.agg #[.int .i64 e.2.1,.int .i64 e.2.2]):=by rw[cA,ag (by omega),ag (by omega)]
 rw[he];refine EN func80 ntmps80 rfl rfl λa E=>?_;refine BX 1 E I λb1 a w E I=>?_;refine AL 0 E I λb2 a w E I=>?_;refine RN 5 E I λa E=>?_;refine SK (bo E rfl (Fa E underlying210 rfl Ty.t210 rfl) rfl ?_);clear E a;intro a E;refine RN 2 E I λa E=>?_;replace E:=E.aM 9;refine RN 2 E I λa E=>?_;refine SK (bo E rfl (Fa E underlying211 rfl Ty.t211 rfl) rfl ?_);clear E a;intro a E;refine RN 2 E I λa E=>?_;replace E:=E.aM 15;refine RN 2 E I λa E=>?_;refine SK (bo E rfl (E8 E underlying213 rfl) rfl ?_);clear E a;intro a E;refine RN 2 E I λa E=>?_;replace E:=E.eh 21;refine AL 2 E I λb5 a w E I=>?_;refine SA 0 E I λa w E I=>?_;refine SA 6 E I λa w E I=>?_;refine RT 0 E I ?_;exact⟨by rw[bU,hk];rfl,I.sub⟩
theorem YM (I:U W w L)(h:sZ e):Calls prog 80 #[.agg #[cA e]] w λr w'=>r=.returned (.agg (bU e).toArray)∧U W w' L:=by
 have h1:=h.1;have h2:=h.2.1;by_cases k1:e.1=1
 ·exact YJ I h k1
 ·by_cases k2:e.1=2
  ·exact YK I h k2
  ·exact YL I h (by omega)
end
end
end Go.Proofs.YteoldcfapaiobaaGreat
