/- Packets out of bytes: quintainref12.Unpacket. -/
import Derived.Test.YteoldcfapaiobaaGreatF07Get
import Derived.Test.YteoldcfapaiobaaGreatF06Ref
import Derived.Test.YteoldcfapaiobaaGreatF01Row
import Derived.Test.YteoldcfapaiobaaGreatF05Vm
namespace Go.Proofs.YteoldcfapaiobaaGreat
open Tryz
open List (length_range drop_zero drop_left take_zero map_cons length_nil mem_range drop_eq_nil_of_le eraseIdx_set_eq append_nil ext_getElem? range_succ getElem?_set_ne replicate_succ' map_singleton)
open Go.RowKit
set_option linter.unusedVariables false
set_option linter.unusedSimpArgs false
set_option maxRecDepth 10000
set_option synthInstance.maxSize 4000
set_option synthInstance.maxHeartbeats 400000
section
def w2 (q:Pk):Nat→Int
 | 0=>q.id
 | 1=>q.first
 | 2=>q.da
 | _=>q.frame
def w3 (q:Pk):Nat→List UInt8
 | 0=>ll q
 | 1=>ny q
 | 2=>aO (zz q.da)++(aO (zz q.frame)++ml q)
 | 3=>aO (zz q.frame)++ml q
 | _=>ml q
theorem FI {bs:List UInt8}{q:Pk}(h:ha bs q):(q.kind=1∧eK q.first∧eK q.da∧eK q.frame∧q.al.length≤32∧ny q=aO (zz q.first)++(aO (zz q.da)++(aO (zz q.frame)++ml q))) ∨
   (q.kind=2∧q.first=0∧q.da=0∧q.frame=0∧q.al=[]∧q.sum=0):=by
 rcases h.1.2.2.2.2 with k | k
 ·exact .inl ⟨k.1,k.2.1,k.2.2.1,k.2.2.2.1,k.2.2.2.2,by rw[ny,ak k.1]⟩
 ·exact .inr ⟨k.1,k.2.1,k.2.2.1,k.2.2.2.1,g4 k.2.2.2.2.1,k.2.2.2.2.2⟩
theorem Ly {bs:List UInt8}{q:Pk}{n i:Nat}(h:ha bs q)(hn:n=if (bs.getD 0 0).toNat=1 then 4 else 1)(hi:i<n) :
   w3 q i=aO (zz (w2 q i))++w3 q (i+1)∧0≤w2 q i∧w2 q i≤1099511627776:=by
 have h0:=(FF h).1.1;have b6:=h.1.2.2.2.1;rcases FI h with k | k
 ·obtain⟨tE,k1,k2,k3,lp,yX⟩:=k;unfold eK at k1 k2 k3;rw[ak (by omega)]at hn;rcases (by omega:i=0∨i=1∨i=2∨i=3) with rfl | rfl | rfl | rfl
  ·exact⟨rfl,b6.1,b6.2⟩
  ·exact⟨yX,by show 0≤q.first;omega,by show q.first≤_;omega⟩
  ·exact⟨rfl,by show 0≤q.da;omega,by show q.da≤_;omega⟩
  ·exact⟨rfl,by show 0≤q.frame;omega,by show q.frame≤_;omega⟩
 ·rw[ag (by omega)]at hn;obtain rfl:i=0:=by omega
  exact⟨rfl,b6.1,b6.2⟩
theorem FJ {bs X:List UInt8}{n i aT k:Nat}{x er:Int}(hn:n=if (bs.getD 0 0).toNat=1 then 4 else 1)(hi:i<n)(hq:∀ q,ha bs q→X.drop aT=w3 q i)(hg:mj (X.drop aT) x k er)
   (hb:er≠0∨x<0∨1099511627776<x):ea bs=none:=n4 λ⟨q,h⟩=>by
 obtain⟨h1,h2,h3⟩:=Ly h hn hi;obtain⟨e1,e2,e3⟩:=hg.2.2.2.2 (w2 q i) (w3 q (i+1)) (by omega) (by omega) (by rw[hq q h,h1]);omega
section
variable {W w:World}{L:List SP}{n c m:Nat}{ad:Option Addr}{bs:List UInt8}{p:Pk}
theorem Y9 (I:U W w L)(hb:bs.length≤65536)(hc:bs.length≤c)(hp:∀ w',U W w' L→aW w' ad bs.length bs) :
   Calls prog 189 #[.slice ad bs.length c] w λe w'=>∃ (p:Pk) (adP:Option Addr) (cP:Nat) (ok:Bool),e=.returned (.tuple #[.agg (dN p adP cP).toArray,.bool ok])∧(ok=true→ea bs=some p)∧(ok=false→ea bs=none)∧U W w' (Sl 5 1 adP p.al.length cP (bc p.al)::L):=by
 have sb:∀ {w'},U W w' L→ea bs=none→∃ (p:Pk) (adP:Option Addr) (cP:Nat) (ok:Bool),Ending.returned (.tuple #[.agg (dN nx none 0).toArray,.bool false])=.returned (.tuple #[.agg (dN p adP cP).toArray,.bool ok])∧(ok=true→ea bs=some p)∧(ok=false→ea bs=none)∧U W w' (Sl 5 1 adP p.al.length cP (bc p.al)::L) :=
  λI bR=>⟨nx,none,0,false,rfl,λh=>(by cases h),λ_=>bR,I.bN _ _ _⟩
 refine EN func189 ntmps189 rfl rfl λa E=>?_;refine AL 1 E I λb2 a w E I=>?_;refine IF 6 E I (λaj a E=>?_) λaj a E=>?_
 ·
  have bR:ea bs=none:=Bk λq hq=>by
   have:=di List.length hq.2.2;have hm:1≤(ll q).length:=by rw[ll,aI];have:=rS (zz q.id);omega
   rw[wV]at this;omega
  refine SA 2 E I λa w E I=>?_;refine RT 1 E I ?_;exact sb I.tail bR
 obtain⟨bb,oo,rfl,_⟩:=(hp _ I.tail).get (by omega);have h7:8≤bs.length:=by omega
 refine RN 5 E I λa E=>?_;rw[show (bs.length:Int)-4=((bs.length-4:Nat):Int) from by omega]at E;refine RN 1 E I λa E=>?_;obtain⟨X,iy⟩:∃ X,X=(bs.drop 3).take (bs.length-7):=⟨_,rfl⟩;have Za:X.length=bs.length-7:=by rw[iy,et,c5];omega
 have hr:qX W L (ft (some ⟨bb,oo,none⟩) 3 c 1) (c-3) X:=⟨by omega,by omega,λw' hw=>by
  rw[Za,iy];exact ((hp w' hw).uY (lo:=3) (by omega) hc).E1 (by rw[c5];omega)⟩
 have mg:∀ q,ha bs q→(q.kind=((bs.getD 0 0).toNat:Int)∧q.aV=((bs.getD 1 0).toNat:Int)∧q.to=((bs.getD 2 0).toNat:Int))∧X=ll q:=λq h=>by
  rw[iy];exact FF h
 rw[show bs.length-4-3=X.length from by omega]at E;have hXp:1≤X.length:=by omega
 obtain⟨mR,oT,Zb,_⟩:=(hr.rd _ I.tail).get (by omega);rw[Zb]at E hr;generalize c-3=eu at E hr;clear iy;refine aX 2 (λw0 w=>Rd w bb oo (bc bs)) [6,7,10,11,13] [0,1,4,5,8,9,3002,3,3006,3007,3010,3011,12,1013,1014] E I λa w E I hH=>?_;have hC:Rd w bb oo (bc bs):=(hp _ I.tail).rd (by omega);refine RH 6 E I hH hC λa E=>?_;refine QH E (λw hc=>ae E (hc 0 _ (ln (by omega)))) hC λa E=>?_;refine QP E (λw=>pE E underlying5 underlying3 (tC _)) λa E=>?_;refine QH E (λw hc=>ae E (hc 1 _ (ln (by omega)))) hC λa E=>?_;refine QH E (λw hc=>pE E underlying5 underlying3 (tC _)) hC λa E=>?_;refine QH E (λw hc=>ae E (hc 2 _ (ln (by omega)))) hC λa E=>?_;refine QH E (λw hc=>pE E underlying5 underlying3 (tC _)) hC λa E=>?_;refine RH 1 E I hH hC λa E=>?_;refine e0 E rfl I Ty.t203 rfl λb5 a w E I ho=>?_;clear ho;replace hC:=hH.at w ((hp _ I.tail.tail).rd (by omega));refine RH 0 E I hH hC λa E=>?_;refine SA 0 E I λa w E I=>?_;refine AL 1 E I λcI a w E I=>?_;refine RN 4 E I λa E=>?_;refine cd (M:=λa w=>∃ n:Nat,n=(if (bs.getD 0 0).toNat=1 then 4 else 1)∧Fr a 153 [(0,.slice (some ⟨bb,oo,none⟩) bs.length c),(2,pt b2),(4,.slice (some ⟨mR,oT,none⟩) X.length eu),(5,pt b5),(6,pt cI),(7,.int .i64 (0:Nat)),(8,.int .i64 n)]∧U W w (aa cI 345 (ints .i64 4 (λ_=>0))::aa b5 203 (dN ⟨((bs.getD 0 0).toNat:Int),((bs.getD 1 0).toNat:Int),((bs.getD 2 0).toNat:Int),0,0,0,0,0,[]⟩ none 0)::aa b2 203 (dN nx none 0)::L)) ?_ ?_
 ·
  refine IF 4 E I (λao a E=>?_) λao a E=>?_
  ·
   refine RN 1 E I λa E=>?_;exact⟨4,by rw[ak (by omega)],E.ab [0,2,4,5,6,7,8],I⟩
  refine RN 0 E I λa E=>?_;exact⟨1,by rw[ag (by omega)],E.ab [0,2,4,5,6,7,8],I⟩
 clear E;(try clear I);rintro a w ⟨n,hn,E,I⟩;refine RN 3 E I λa E=>?_;refine aQ (λμ a w=>∃ (i k:Nat) (g:Nat→Int),(μ=n-i∧i≤n∧k≤X.length∧(∀ j,i≤j→g j=0)∧∀ q,ha bs q→X.drop k=w3 q i∧∀ j,j<i→g j=w2 q j)∧Fr a 153 [(0,.slice (some ⟨bb,oo,none⟩) bs.length c),(2,pt b2),(4,.slice (some ⟨mR,oT,none⟩) X.length eu),(5,pt b5),(6,pt cI),(7,.int .i64 k),(8,.int .i64 n),(9,.int .i64 i)]∧U W w (aa cI 345 (ints .i64 4 g)::aa b5 203 (dN ⟨((bs.getD 0 0).toNat:Int),((bs.getD 1 0).toNat:Int),((bs.getD 2 0).toNat:Int),0,0,0,0,0,[]⟩ none 0)::aa b2 203 (dN nx none 0)::L)) (n) (⟨0,0,λ_=>0,⟨rfl,by omega,by omega,λ_ _=>rfl,λq h=>⟨by rw[drop_zero];exact (mg q h).2,λj hj=>absurd hj (by omega)⟩⟩,E.ab [0,2,4,5,6,7,8,9],I⟩) ?_;clear E I;rintro μ a w ⟨i,k,g,⟨rfl,hi,hk,Bu,u5⟩,E,I⟩;refine IF 5 E I (λay a E=>?_) λay a E=>?_
 ·
  have cC:i<n:=by omega
  have qw:i<4:=by rw[hn]at cC;split at cC <;> omega
  have fV:=hr.cut hk;have hlk:=fV.len;refine RN 5 E I λa E=>?_;rw[show X.length-k=(X.drop k).length from by simp]at E;refine j2 0 E I (Fl (bs:=X.drop k) I (by omega) (λw' hw=>fV.rd w' hw.tail.tail.tail)) λx m er a w E ⟨nm,I⟩=>?_;refine BY 12 E I (λbA a E=>?_) λbA a E=>?_
  ·
   refine SA 10 E I λa w E I=>?_;refine RT 1 E I ?_;have bR:=FJ hn cC (λq h=>(u5 q h).1) nm (.inl (by simpa using bA));exact sb I.tail.tail.tail bR
  refine BY 4 E I (λkb a E=>?_) λkb a E=>?_
  ·
   refine SA 6 E I λa w E I=>?_;refine RT 1 E I ?_;have bR:=FJ hn cC (λq h=>(u5 q h).1) nm (.inr (.inl (by simpa using kb)));exact sb I.tail.tail.tail bR
  refine IF 3 E I (λbd a E=>?_) λbd a E=>?_
  ·
   refine SA 2 E I λa w E I=>?_;refine RT 1 E I ?_;have bR:=FJ hn cC (λq h=>(u5 q h).1) nm (.inr (.inr (by simpa using bd)));exact sb I.tail.tail.tail bR
  refine ST 4 E I (λa w E I=>?_) (hlt:=(by rw[dg];omega));rw[ints_set,show (λj=>if j=i then x else g j)=cm g i x from rfl]at I;refine RN 0 E I λa E=>?_;have Zc:=(nm.2.2.1 (by simpa using bA)).2;rw[c5]at Zc;refine RN 7 E I λa E=>?_;refine⟨n-(i+1),by omega,i+1,k+m,cm g i x,⟨rfl,by omega,?_,?_,λq h=>?_⟩,E.ab [0,2,4,5,6,7,8,9],I⟩
  ·have:=(nm.2.2.1 (by simpa using bA)).2;rw[c5]at this;omega
  ·intro j hj;rw[cm,ag (by omega)];exact Bu j (by omega)
  ·obtain⟨h1,h2⟩:=u5 q h;obtain⟨h3,h4,h5⟩:=Ly h hn cC;obtain⟨e1,e2,e3⟩:=nm.2.2.2.2 (w2 q i) (w3 q (i+1)) (by omega) (by omega) (by rw[h1,h3]);refine⟨by rw[← ky,h1,h3,e2,drop_left],λj hj=>?_⟩;by_cases gT:j=i
   ·subst gT;rw[cm,ak rfl,e1]
   ·rw[cm,ag gT];exact h2 j (by omega)
 obtain rfl:i=n:=by omega
 rw[show dN ⟨((bs.getD 0 0).toNat:Int),((bs.getD 1 0).toNat:Int),((bs.getD 2 0).toNat:Int),0,0,0,0,0,[]⟩ none 0=[.int .i64 ((bs.getD 0 0).toNat:Int),.int .i64 ((bs.getD 1 0).toNat:Int),.int .i64 ((bs.getD 2 0).toNat:Int),.int .i64 0,.int .i64 0,.slice none 0 0,.int .i64 0,.int .i64 0,.int .u32 (0:Nat)] from rfl]at I;refine aX 1 (λw0 w'=>Rd w' cI 0 (ints .i64 4 g)) [3,5,7,9,10,11,12,13] [0,2,4,6,3001,8,3003,3005,3007,1009,1010,1011,1012,1013,14,1015] E I λa w E I hH=>?_;have hC:=hH.at w I.ai;refine RH 4 E I hH hC λa E=>?_;refine QH E (λw hc=>ae E (hc 0 _ (fT g (by decide)))) hC λa E=>?_;refine RH 1 E I hH hC λa E=>?_;refine QH E (λw hc=>ae E (hc 1 _ (fT g (by decide)))) hC λa E=>?_;refine QH E (λw hc=>ae E (hc 2 _ (fT g (by decide)))) hC λa E=>?_;refine QH E (λw hc=>ae E (hc 3 _ (fT g (by decide)))) hC λa E=>?_;refine RH 0 E I hH hC λa E=>?_;refine ST 0 E I (λa w E I=>?_);replace hC:=hH.at w I.ai;refine RH 1 E I hH hC λa E=>?_;refine ST 0 E I (λa w E I=>?_);replace hC:=hH.at w I.ai;refine RH 1 E I hH hC λa E=>?_;refine ST 0 E I (λa w E I=>?_);replace hC:=hH.at w I.ai;refine RH 1 E I hH hC λa E=>?_;refine ST 0 E I (λa w E I=>?_);refine RN 0 E I λa E=>?_;refine cd (M:=λa w=>∃ (p:Pk) (adP:Option Addr) (cP:Nat),p.sum<4294967296∧(∀ q,ha bs q→p=q)∧Fr a 153 [(0,.slice (some ⟨bb,oo,none⟩) bs.length c),(2,pt b2),(5,pt b5)]∧U W w (aa b5 203 (dN p adP cP)::Sl 5 1 adP p.al.length cP (bc p.al)::aa b2 203 (dN nx none 0)::L)) ?_ ?_
 ·
  refine IF 4 E I (λbF a E=>?_) λbF a E=>?_
  ·
   have g8:∀ q,ha bs q→X.drop k=ml q∧q.al.length≤32:=λq h=>by
    rw[ak (by omega)]at hn;refine⟨by rw[(u5 q h).1,hn];rfl,?_⟩;rcases FI h with k | k
    ·exact k.2.2.2.2.1
    ·rw[k.2.2.2.2.1];simp
   refine IF 7 E I (λeU a E=>?_) λeU a E=>?_
   ·
    have bR:ea bs=none:=n4 λ⟨q,h⟩=>by
     have:=di List.length (g8 q h).1;rw[ml,aI,lS,c5]at this;omega
    refine SA 2 E I λa w E I=>?_;refine RT 1 E I ?_;exact sb I.tail.tail.tail bR
   have mS:k+4≤X.length:=by omega
   refine RN 3 E I λa E=>?_;refine aQ (λμ a w=>∃ (j:Nat),(μ=4-j∧j≤4)∧Fr a 153 [(0,.slice (some ⟨bb,oo,none⟩) bs.length c),(2,pt b2),(4,.slice (some ⟨mR,oT,none⟩) X.length eu),(5,pt b5),(7,.int .i64 k),(13,.int .i64 j)]∧U W w (aa b5 203 [.int .i64 ((bs.getD 0 0).toNat:Int),.int .i64 ((bs.getD 1 0).toNat:Int),.int .i64 ((bs.getD 2 0).toNat:Int),.int .i64 (g 0),.int .i64 (g 1),.slice none 0 0,.int .i64 (g 2),.int .i64 (g 3),.int .u32 (mU ((X.drop k).take j):Nat)]::aa b2 203 (dN nx none 0)::L)) (4) (⟨0,⟨rfl,by omega⟩,E.ab [0,2,4,5,7,13],(I.perm (cZ _ _ _)).tail⟩) ?_;clear E I;rintro μ a w ⟨j,⟨rfl,hj⟩,E,I⟩;refine IF 4 E I (λnn a E=>?_) λnn a E=>?_
   ·
    have hj4:j<4:=by omega
    have yg:k+j<X.length:=by omega
    have nT:=Bo ((X.drop k).take j) 3 (by rw[et];omega);rw[show (256:Nat) ^ 3=16777216 from by decide]at nT;have eT:j<(X.drop k).length:=by rw[c5];omega
    have jU:=Lq eT;rw[show (X.drop k)[j]=X[k+j] from List.getElem_drop ..]at jU;have qV:=lk X[k+j];refine aX 1 (λw0 w'=>w'.cell? ⟨b5,8,none⟩=some (.int .u32 (mU ((X.drop k).take j):Nat))∧Rd w' mR oT (bc X)) [8,9] [0,3,4,5,6,7,3001,2,1008,1009,10,11,1012] E I λa w E I hH=>?_;have hC:=hH.at w ⟨I.bz rfl,(hr.rd _ I.tail.tail).rd (by omega)⟩;refine RH 6 E I hH hC λa E=>?_;refine QH E (λw hc=>ae E (hc.1)) hC λa E=>?_;refine RH 1 E I hH hC λa E=>?_;rw[show IntKind.u32.wrap (((mU ((X.drop k).take j):Nat):Int)*256)=((mU ((X.drop k).take j)*256:Nat):Int) from by rw[wrap_u32];omega]at E;refine SS E (ae E (hC.2 (k+j) _ (dT yg))) λa E=>?_;refine RH 0 E I hH hC λa E=>?_;refine SX 0 E I (by rw[wrap_u32];omega) λa E=>?_;refine RH 1 E I hH hC λa E=>?_;rw[show IntKind.u32.wrap (((mU ((X.drop k).take j)*256:Nat):Int)+(X[k+j].toNat:Int))=((mU ((X.drop k).take (j+1)):Nat):Int) from by rw[wrap_u32,jU];omega]at E;refine RH 1 E I hH hC λa E=>?_;refine ST 0 E I (λa w E I=>?_);refine RN 3 E I λa E=>?_;exact⟨4-(j+1),by omega,j+1,⟨rfl,by omega⟩,E.ab [0,2,4,5,7,13],I⟩
   obtain rfl:j=4:=by omega
   have qU:=hr.cut mS;have hl4:=qU.len;have mm:=Bo ((X.drop k).take 4) 4 (by rw[et];omega);rw[show (256:Nat) ^ 4=4294967296 from by decide]at mm;have b9:∀ q,ha bs q→q.sum=mU ((X.drop k).take 4)∧X.drop (k+4)=aO (zz (q.al.length:Int))++dA q.al 0∧q.al.length≤32:=λq h=>by
    obtain⟨h1,h2⟩:=g8 q h;rw[← ky,h1,ml];exact⟨(Lp h.2.1).symm,rfl,h2⟩
   generalize mU ((X.drop k).take 4)=Bv at I mm b9;refine RN 8 E I λa E=>?_;rw[show X.length-(k+4)=(X.drop (k+4)).length from by simp]at E;refine j2 0 E I (Fl (bs:=X.drop (k+4)) I (by omega) (λw' hw=>qU.rd w' hw.tail.tail)) λx m er a w E ⟨nm,I⟩=>?_;refine BY 12 E I (λbA a E=>?_) λbA a E=>?_
   ·
    refine SA 10 E I λa w E I=>?_;refine RT 1 E I ?_;have bR:ea bs=none:=n4 λ⟨q,h⟩=>by
     obtain⟨_,e2,Bw⟩:=b9 q h;have:=(nm.2.2.2.2 (q.al.length:Int) _ (by omega) (by omega) e2).2.2;simp[this]at bA
    exact sb I.tail.tail bR
   refine BY 4 E I (λkb a E=>?_) λkb a E=>?_
   ·
    refine SA 6 E I λa w E I=>?_;refine RT 1 E I ?_;have bR:ea bs=none:=n4 λ⟨q,h⟩=>by
     obtain⟨_,e2,Bw⟩:=b9 q h;have:=(nm.2.2.2.2 (q.al.length:Int) _ (by omega) (by omega) e2).1;omega
    exact sb I.tail.tail bR
   refine IF 3 E I (λmO a E=>?_) λmO a E=>?_
   ·
    refine SA 2 E I λa w E I=>?_;refine RT 1 E I ?_;have bR:ea bs=none:=n4 λ⟨q,h⟩=>by
     obtain⟨_,e2,Bw⟩:=b9 q h;have:=(nm.2.2.2.2 (q.al.length:Int) _ (by omega) (by omega) e2).1;omega
    exact sb I.tail.tail bR
   refine RN 1 E I λa E=>?_;have mE:=(nm.2.2.1 (by simpa using bA)).2;rw[c5]at mE;have tB:=hr.cut (k:=k+4+m) (by omega);refine RN 5 E I λa E=>?_;rw[show X.length-(k+4+m)=(X.drop (k+4+m)).length from by simp]at E;refine j3 0 E I (YF (m:=32) (bs:=X.drop (k+4+m)) I tB.len tB.cap (by omega) (λw' hw=>tB.rd w' hw.tail.tail)) ?_;clear E I;rintro e w ⟨out,aq,cO,e2,rfl,nU,I⟩;refine⟨_,rfl,λa E=>?_⟩;refine RN 5 E I λa E=>?_;have kI:∀ q,ha bs q→out=q.al∧e2=0:=λq h=>by
    obtain⟨_,e2,Bw⟩:=b9 q h;obtain⟨f1,f2,f3⟩:=nm.2.2.2.2 (q.al.length:Int) _ (by omega) (by omega) e2;refine nU.2.2 q.al Bw ?_;rw[← ky,e2,f2,drop_left]
   refine IF 4 E I (λmP a E=>?_) λmP a E=>?_
   ·
    refine SA 2 E I λa w E I=>?_;refine RT 1 E I ?_;have bR:ea bs=none:=n4 λ⟨q,h⟩=>by
     have:=(kI q h).2;omega
    exact sb I.tail.tail.tail bR
   refine ST 2 E I (λa w E I=>?_);refine RN 0 E I λa E=>?_;refine⟨⟨((bs.getD 0 0).toNat:Int),((bs.getD 1 0).toNat:Int),((bs.getD 2 0).toNat:Int),g 0,g 1,g 2,g 3,Bv,out⟩,aq,cO,mm,λq h=>?_,E.ab [0,2,5],I⟩;obtain⟨h1,h2,h3⟩:=(mg q h).1;have h4:=(u5 q h).2;rw[ak (by omega)]at hn;rw[h4 0 (by omega),h4 1 (by omega),h4 2 (by omega),h4 3 (by omega),← h1,← h2,← h3,(kI q h).1,← (b9 q h).1];rfl
  refine RN 0 E I λa E=>?_;refine⟨⟨((bs.getD 0 0).toNat:Int),((bs.getD 1 0).toNat:Int),((bs.getD 2 0).toNat:Int),g 0,g 1,g 2,g 3,0,[]⟩,none,0,(by show 0<4294967296;decide),λq h=>?_,E.ab [0,2,5],(((I.perm (cZ _ _ _)).tail.bN 5 1 none)).perm (cZ _ _ _)⟩;obtain⟨h1,h2,h3⟩:=(mg q h).1;have h4:=(u5 q h).2;rw[ag (by omega)]at hn;rcases FI h with k | k
  ·omega
  ·obtain⟨tE,k1,k2,k3,lp,yX⟩:=k;have h5:=h4 0 (by omega);have h6:=Bu 1 (by omega);have h7:=Bu 2 (by omega);have h8:=Bu 3 (by omega);rw[h5,h6,h7,h8,← h1,← h2,← h3];show Pk.mk q.kind q.aV q.to q.id 0 0 0 0 []=q;cases q;simp_all
 clear E;(try clear I);rintro a w ⟨p,adP,cP,mm,Lz,E,I⟩;refine aX 1 (λw0 w'=>Rd w' b5 0 (dN p adP cP)∧aW w' (some ⟨bb,oo,none⟩) bs.length bs) [1,2,3,5,6,7] [4,3000,3001,3005,1002,2003,3006,1007,8] E I λa w E I hH=>?_;have hC:=hH.at w ⟨I.ai,hp _ I.tail.tail.tail⟩;refine RH 1 E I hH hC λa E=>?_;refine QH E (λw hc=>bT E underlying203 rfl Ty.t203 (hc.1)) hC λa E=>?_;refine QH E (λw hc=>bT E underlying203 rfl Ty.t203 (hc.1)) hC λa E=>?_;refine QH E (λw hc=>lK E underlying22 underlying5 underlying9 (hc.2)) hC λa E=>?_;refine RH 0 E I hH hC λa E=>?_;refine aY 0 E I (FE (p:=p) I mm (λw' hw=>hw.cv adP p.al rfl rfl)) λadE cE a w E I=>?_;replace hC:=hH.at w ⟨I.ai,hp _ I.tail.tail.tail.tail⟩;refine RH 0 E I hH hC λa E=>?_;refine DN [(3,[3006,1007,8]),(7,[1003,3006,8])] (by kernel_rfl) rfl ⟨⟨_,rfl,?_⟩,⟨_,rfl,?_⟩,trivial⟩
 ·
  refine RH 0 E I hH hC λa E=>?_;refine SS E (lK E underlying22 underlying5 underlying9 ((I.cv adE (aS p) rfl rfl))) λa E=>?_;refine RH 0 E I hH hC λa E=>?_;refine QH E (λw hc=>sQ E) hC λa E=>?_;refine RH 0 E I hH hC λa E=>?_;refine SA 0 E I λa w E I=>?_;replace hC:=hH.at w ⟨I.ai,hp _ I.tail.tail.tail.tail⟩;refine RH 1 E I hH hC λa E=>?_;refine RT 0 E I ?_;refine⟨p,adP,cP,_,rfl,λh=>?_,λh=>?_,I.sub⟩
  ·rw[qF]at h;exact Bj ((Fj (λe=>by rw[e]at h7;simp at h7) mm).2 (by simpa using h))
  ·refine n4 λ⟨q,hd⟩=>?_;have e:aS p=bs:=by rw[Lz q hd,aS,ak hd.1];exact hd.2.2
   rw[e,qF]at h;simp at h
 refine RH 0 E I hH hC λa E=>?_;refine SA 0 E I λa w E I=>?_;replace hC:=hH.at w ⟨I.ai,hp _ I.tail.tail.tail.tail⟩;refine RH 0 E I hH hC λa E=>?_;refine SS E (lK E underlying22 underlying5 underlying9 ((I.cv adE (aS p) rfl rfl))) λa E=>?_;refine RH 0 E I hH hC λa E=>?_;refine QH E (λw hc=>sQ E) hC λa E=>?_;refine RH 1 E I hH hC λa E=>?_;refine RT 0 E I ?_;refine⟨p,adP,cP,_,rfl,λh=>?_,λh=>?_,I.sub⟩
 ·rw[qF]at h;exact Bj ((Fj (λe=>by rw[e]at h7;simp at h7) mm).2 (by simpa using h))
 ·refine n4 λ⟨q,hd⟩=>?_;have e:aS p=bs:=by rw[Lz q hd,aS,ak hd.1];exact hd.2.2
  rw[e,qF]at h;simp at h
end
end
section
section
variable {W w:World}{L:List SP}{c:Nat}{ad:Option Addr}{g:Nat→Int}
theorem yY (I:U W w L):Calls prog 177 #[.agg (ints .i32 32 g).toArray] w λe w'=>∃ ad c,e=.returned (.slice ad 128 c)∧U W w' (Sl 5 1 ad 128 c (bc (gu g))::L):=by
 refine EN func177 ntmps177 rfl rfl λa E=>?_;refine BX 1 E I λb1 a w E I=>?_;refine RN 7 E I λa E=>?_;refine aQ (λμ a w=>∃ (i:Nat) (ad:Option Addr) (c:Nat),(μ=32-i∧i≤32)∧Fr a 16 [(3,.slice ad (mi g i).length c),(6,.agg (ints .i32 32 g).toArray),(7,.int .i64 i)]∧U W w (Sl 5 1 ad (mi g i).length c (bc (mi g i))::L)) (32) (⟨0,none,0,⟨rfl,by omega⟩,E.ab [3,6,7],I.tail.bN 5 1 none⟩) ?_;clear E I;rintro μ a w ⟨i,ad,c,⟨rfl,hi⟩,E,I⟩;refine IF 3 E I (λaj a E=>?_) λaj a E=>?_
 ·
  have FK:i<32:=by omega
  have qZ:=rW g i;refine RN 2 E I λa E=>?_;refine SS E (sR E underlying183 underlying21 rfl Ty.t21 (by omega) (fT g FK)) λa E=>?_;refine bj 3 E I (Yi I) λad2 a w E I=>?_;refine RN 0 E I λa E=>?_;refine g9 E rfl I underlying22 Ty.t5 rfl rfl (by decide) (λh0=>(I.cv ad2 (eJ (p3 (g i))) rfl rfl).get h0) (by rw[dy];rfl) (ep _) (by rw[lS];omega) λaf4 c13 a w E I=>?_;rw[← fM,← E2]at I;rw[show (mi g i).length+(eJ (p3 (g i))).length=(mi g (i+1)).length from by rw[rW,rW,lS];omega]at E I;refine RN 3 E I λa E=>?_;exact⟨32-(i+1),by omega,i+1,_,_,⟨rfl,by omega⟩,E.ab [3,6,7],I.sub⟩
 obtain rfl:i=32:=by omega
 rw[show (mi g 32).length=128 from rW g 32]at E I;refine RT 3 E I ?_;exact⟨_,_,rfl,I⟩
theorem Zd (I:U W w L):Calls prog 139 #[.agg (ints .i32 32 g).toArray] w λe w'=>e=.returned (.int .u32 (gJ (gu g)))∧U W w' L:=by
 refine EN func139 ntmps139 rfl rfl λa E=>?_;refine BX 1 E I λb1 a w E I=>?_;refine aY 3 E I (yY I) λad c a w E I=>?_;rw[show 128=(gu g).length from (u0 g).symm]at E I;refine CL 0 E I (KT I (by rw[u0];decide) (λw' hw=>hw.cv ad (gu g) rfl rfl)) λa w E I=>?_;refine RT 1 E I ?_;exact⟨rfl,I.sub⟩
theorem u6 (I:U W w L):Calls prog 115 #[.agg (ints .i32 32 g).toArray] w λe w'=>∃ ad c,e=.returned (.slice ad 128 c)∧U W w' (Sl 5 1 ad 128 c (bc (gu g))::L):=by
 refine EN func115 ntmps115 rfl rfl λa E=>?_;refine BX 1 E I λb1 a w E I=>?_;refine RN 6 E I λa E=>?_;refine aQ (λμ a w=>∃ (i:Nat) (ad:Option Addr) (c:Nat),(μ=32-i∧i≤32)∧Fr a 17 [(1,pt b1),(3,.slice ad (mi g i).length c),(4,.int .i64 i)]∧U W w (Sl 5 1 ad (mi g i).length c (bc (mi g i))::aa b1 49 (ints .i32 32 g)::L)) (32) (⟨0,none,0,⟨rfl,by omega⟩,E.ab [1,3,4],I.bN 5 1 none⟩) ?_;clear E I;rintro μ a w ⟨i,ad,c,⟨rfl,hi⟩,E,I⟩;refine IF 4 E I (λaj a E=>?_) λaj a E=>?_
 ·
  have FK:i<32:=by omega
  have qZ:=rW g i;refine RN 4 E I λa E=>?_;refine SS E (ae E (I.bz (b:=b1) (fT g FK))) λa E=>?_;refine RN 0 E I λa E=>?_;refine SS E (gn E underlying21 underlying100) λa E=>?_;rw[KS]at E;refine bj 0 E I (E5 I) λad2 a w E I=>?_;refine RN 0 E I λa E=>?_;refine g9 E rfl I underlying22 Ty.t5 rfl rfl (by decide) (λh0=>(I.cv ad2 (eJ (p3 (g i))) rfl rfl).get h0) (by rw[dy];rfl) (ep _) (by rw[lS];omega) λLA LB a w E I=>?_;rw[← fM,← E2]at I;rw[show (mi g i).length+(eJ (p3 (g i))).length=(mi g (i+1)).length from by rw[rW,rW,lS];omega]at E I;refine RN 4 E I λa E=>?_;exact⟨32-(i+1),by omega,i+1,_,_,⟨rfl,by omega⟩,E.ab [1,3,4],I.sub⟩
 obtain rfl:i=32:=by omega
 rw[show (mi g 32).length=128 from rW g 32]at E I;refine RT 3 E I ?_;exact⟨_,_,rfl,(I.perm (cZ _ _ _)).tail⟩
theorem Ze (I:U W w L):Calls prog 106 #[.agg (ints .i32 32 g).toArray] w λe w'=>e=.returned (.int .u32 (gJ (gu g)))∧U W w' L:=by
 refine EN func106 ntmps106 rfl rfl λa E=>?_;refine BX 1 E I λb1 a w E I=>?_;refine aY 3 E I (u6 I) λad c a w E I=>?_;rw[show 128=(gu g).length from (u0 g).symm]at E I;refine CL 0 E I (KU I (by rw[u0];decide) (λw' hw=>hw.cv ad (gu g) rfl rfl)) λa w E I=>?_;refine RT 1 E I ?_;exact⟨rfl,I.sub⟩
end
end
section
def du (l:List UInt8)(f:Nat)(b:List UInt8):List UInt8:=if l.length<f then l else l++(b.drop (l.length-f)).take (1000-l.length)
theorem sd {l:List UInt8}{f:Nat}{b:List UInt8}(h:l.length≤1000):l.length≤(du l f b).length∧(du l f b).length≤1000:=by
 unfold du;split
 ·omega
 ·rw[aI,et];omega
theorem LC {l b:List UInt8}{f i:Nat}(hf:f≤l.length)(hi:i<b.length)(h1:l.length-f≤i)(h2:l.length+(i-(l.length-f))<1000) :
   l++(b.drop (l.length-f)).take (i+1-(l.length-f))=(l++(b.drop (l.length-f)).take (i-(l.length-f)))++[b[i]]:=by
 rw[show i+1-(l.length-f)=(i-(l.length-f))+1 from by omega,dx]
 congr 1
 rw[jw (by rw[c5];omega)]
 congr 2
 rw[List.getElem_drop]
 congr 1
 omega
def iP (ls:List (List UInt8)):Nat→Nat
 | 0=>(ls.headD []).length
 | i+1=>min (iP ls i) (ls.getD i []).length
def aU (ls:List (List UInt8)):Nat:=iP ls ls.length
theorem Zf (ls:List (List UInt8)):iP ls 1=iP ls 0:=by
 rw[iP,iP];cases ls <;> simp[iP]
theorem LD {ls:List (List UInt8)}:∀ {i j:Nat},j<i→iP ls i≤(ls.getD j []).length
 | 0,_,h=>absurd h (by omega)
 | i+1,j,h=>by
  rw[iP];by_cases hj:j=i
  ·subst hj;exact Nat.min_le_right _ _
  ·exact fG (Nat.min_le_left _ _) (LD (by omega))
theorem w4 {ls:List (List UInt8)}{l:List UInt8}(h:l∈ls):aU ls≤l.length:=by
 obtain⟨i,hi,rfl⟩:=yZ h;have:=LD (ls:=ls) (i:=ls.length) hi
 rwa [bl,aD hi]at this
theorem LF (ls:List (List UInt8)):∀ i,i≤ls.length→ls≠[]→∃ l∈ls,iP ls i=l.length
 | 0,_,h=>by
  cases ls with
  | nil=>exact absurd rfl h
  | cons a r=>exact⟨a,by simp,rfl⟩
 | i+1,hi,h=>by
  obtain⟨l,hl,e⟩:=LF ls i (by omega) h;rw[iP];rcases Nat.le_total (iP ls i) (ls.getD i []).length with h1 | h1
  ·rw[Nat.min_eq_left h1];exact⟨l,hl,e⟩
  ·rw[Nat.min_eq_right h1,bl,aD (by omega)];exact⟨ls[i],iZ _,rfl⟩
theorem By {ls:List (List UInt8)}(h:ls≠[]):∃ l∈ls,aU ls=l.length:=LF ls _ (bf _) h
theorem FL {ls:List (List UInt8)}{n:Nat}(h:ls≠[])(hn:∀ l∈ls,n≤l.length):n≤aU ls:=by
 obtain⟨l,hl,e⟩:=By h;rw[e];exact hn l hl
def fA (ls:List (List UInt8))(f i:Nat):List UInt8:=(ls.take i).map (·.getD f 0)
def bJ (ls:List (List UInt8))(f:Nat):List UInt8:=ls.map (·.getD f 0)
theorem Bz (ls:List (List UInt8))(f:Nat):fA ls f ls.length=bJ ls f:=by rw[fA,k4,bJ]
theorem BA {ls:List (List UInt8)}{f i:Nat}(h:i<ls.length):fA ls f (i+1)=fA ls f i++[ls[i].getD f 0]:=by
 rw[fA,jw h,cW];rfl
theorem tF {ls:List (List UInt8)}{f i:Nat}(h:i≤ls.length):(fA ls f i).length=i:=by
 rw[fA,a8,et];omega
theorem nC (ls:List (List UInt8))(f:Nat):(bJ ls f).length=ls.length:=by rw[bJ,a8]
structure Gs where
 kind:Int
 order:Int
 table:List UInt8
def cY (b:Gs):Prop:=(b.kind=1∧b.order=0∧b.table.length=0)∨(b.kind=2∧0≤b.order∧b.order≤3∧b.table.length=0)∨(b.kind=3∧b.order=0∧1≤b.table.length∧b.table.length≤1000)
instance (b:Gs):Decidable (cY b):=inferInstanceAs (Decidable (_∨_))
def y0 (o:Nat)(past:List UInt8)(i:Nat):Bool:=(past.drop (i-o)).take o==past.drop (past.length-o)
def hE (o:Nat)(past:List UInt8):Nat→Nat→Int
 | 0=>λ_=>0
 | i+1=>if o≤i∧y0 o past i=true then cm (hE o past i) (past.getD i 0).toNat (hE o past i (past.getD i 0).toNat+1) else hE o past i
theorem y1 {o:Nat}{past:List UInt8}:∀ {i:Nat},i≤o→hE o past i=λ_=>0
 | 0,_=>rfl
 | i+1,h=>by rw[hE,ag (by omega),y1 (by omega)]
theorem BB (o:Nat)(past:List UInt8):∀ (i v:Nat),0≤hE o past i v∧hE o past i v≤i
 | 0,v=>⟨Int.le_refl _,Int.le_refl _⟩
 | i+1,v=>by
  have h:=BB o past i v;have h2:=BB o past i (past.getD i 0).toNat;rw[hE];split
  ·unfold cm;split <;> omega
  ·omega
def gK (b:Gs)(past:List UInt8):Nat→Int:=if b.kind=2 then hE b.order.toNat past past.length else λ_=>0
def iz (past:List UInt8):UInt8:=past.getLastD 0
def mo (w:Nat→Int)(last:Nat):Nat→Nat
 | 0=>last
 | i+1=>if w (mo w last i)<w i then i else mo w last i
theorem FM {w:Nat→Int}{last:Nat}(hl:last<256):∀ {i:Nat},i≤256→mo w last i<256
 | 0,_=>hl
 | i+1,h=>by
  rw[mo];split
  ·omega
  ·exact FM hl (by omega)
theorem LG {w:Nat→Int}{last:Nat}:∀ {i:Nat},(∀ v,v<i→w v≤w last)→mo w last i=last
 | 0,_=>rfl
 | i+1,h=>by
  have ih:=LG (i:=i) λv hv=>h v (by omega);rw[mo,ih,ag];have:=h i (by omega);omega
theorem LH {w:Nat→Int}{last x:Nat}(h0:w last<w x)(h1:∀ v,v<x→w v<w x):∀ {i:Nat},(∀ v,v<i→w v≤w x)→(i≤x→w (mo w last i)<w x)∧(x<i→mo w last i=x)
 | 0,_=>⟨λ_=>h0,λh=>absurd h (by omega)⟩
 | i+1,h=>by
  have ih:=LH h0 h1 (i:=i) λv hv=>h v (by omega);rw[mo];refine⟨λhi=>?_,λhi=>?_⟩
  ·have:=ih.1 (by omega);have:=h1 i (by omega);split <;> assumption
  ·by_cases hx:x=i
   ·subst hx;rw[ak (ih.1 (by omega))]
   ·rw[ih.2 (by omega),ag];have:=h i (by omega);omega
def nD (b:Gs)(past:List UInt8):UInt8:=if b.kind=3 then b.table.getD (past.length%b.table.length) 0 else UInt8.ofNat (mo (gK b past) (iz past).toNat 256)
def ej (b:Gs)(past:List UInt8):Nat→List UInt8
 | 0=>past
 | i+1=>ej b past i++[nD b (ej b past i)]
theorem iA (b:Gs)(past:List UInt8):∀ i,(ej b past i).length=past.length+i
 | 0=>rfl
 | i+1=>by rw[ej,aI,iA b past i];rfl
theorem LI (b:Gs)(past:List UInt8):∀ i,(ej b past i).take past.length=past
 | 0=>k4
 | i+1=>by
  rw[ej,List.take_append_of_le_length (by rw[iA];omega),LI b past i]
def kj (b:Gs)(past:List UInt8)(n:Nat):List UInt8:=(ej b past n).drop past.length
theorem FN (b:Gs)(past:List UInt8)(n:Nat):(kj b past n).length=n:=by rw[kj,c5,iA];omega
theorem u7 (b:Gs)(past:List UInt8)(n:Nat):past++kj b past n=ej b past n:=by
 conv=>lhs;lhs;rw[← LI b past n]
 rw[kj,jY]
theorem Zg (b:Gs)(past:List UInt8)(n:Nat):kj b past (n+1)=kj b past n++[nD b (past++kj b past n)]:=by
 rw[u7,kj,ej,List.drop_append_of_le_length (by rw[iA];omega)];rfl
def oa (b:Gs)(past:List UInt8)(to:Nat):List UInt8:=ej b past (to-past.length)
def jj (b:Gs)(ls:List (List UInt8))(to:Nat):List (List UInt8):=ls.map λl=>oa b l to
theorem Zh (b:Gs)(past:List UInt8)(to:Nat):to≤(oa b past to).length:=by rw[oa,iA];omega
def dv (b:Gs)(ls:List (List UInt8))(to:Nat):List (List UInt8):=(List.range (to-aU ls)).map λi=>bJ (jj b ls to) (aU ls+i)
theorem w5 (b:Gs)(ls:List (List UInt8))(to:Nat):(dv b ls to).length=to-aU ls:=by simp[dv]
end
section
abbrev Lx:=Nat×List UInt8
def Ln (x:Lx):SP:=λh=>∃ (ad:Option Addr) (c:Nat),cn [aa x.1 328 [.slice ad x.2.length c],Sl 5 1 ad x.2.length c (bc x.2)] h
section
variable {W w:World}{L L' R:List SP}{n c m lb:Nat}{ad:Option Addr}{l bs:List UInt8}{x:UInt8}
theorem Ln.open (I:U W w (Ln (lb,l)::L)):∃ (ad:Option Addr) (c:Nat),U W w (aa lb 328 [.slice ad l.length c]::Sl 5 1 ad l.length c (bc l)::L):=by
 obtain⟨ad,_,I⟩:=I.jL (p:=λ_=>True) (B:=λad h=>∃ c,cn [aa lb 328 [.slice ad l.length c],Sl 5 1 ad l.length c (bc l)] h) λ_ ⟨ad,c,h⟩=>⟨ad,trivial,c,h⟩;obtain⟨c,_,I⟩:=I.jL (p:=λ_=>True) (B:=λc h=>cn [aa lb 328 [.slice ad l.length c],Sl 5 1 ad l.length c (bc l)] h) λ_ ⟨c,h⟩=>⟨c,trivial,h⟩;exact⟨ad,c,I.open (M:=[_,_]) λ_ h=>h⟩
theorem Ln.close (I:U W w (aa lb 328 [.slice ad l.length c]::Sl 5 1 ad l.length c (bc l)::L)):U W w (Ln (lb,l)::L) :=
 U.shut (M:=[_,_]) I λ_ h=>⟨ad,c,h⟩
theorem Ln.mk' (I:U W w L)(ad:Option Addr)(c:Nat)[k:fJ L (aa lb 328 [.slice ad l.length c]::Sl 5 1 ad l.length c (bc l)::L') R]:U W w (Ln (lb,l)::L'):=Ln.close (ad:=ad) (c:=c) I.sub
theorem Zi (d:Nat):(madeCells (Value.int .u8 0).cells (d*1)).toList=bc (List.replicate d 0):=by
 apply ext_getElem?;intro i;by_cases h:i<d
 ·rw[dT (by simpa using h)];rw[madeCells,Array.getElem?_toList,Array.getElem?_map,Array.getElem?_range];simp[h,Value.cells,Nat.mod_one]
 ·rw[js (by simp[madeCells];omega),js (by rw[dy];simp;omega)]
theorem U.LJ {b e sz m:Nat}{cs:List Value}(I:U W w (aa b e cs::L))(h:cs.length=m*sz):U W w (Sl e sz (some ⟨b,0,none⟩) m m cs::L) :=
 U.iX (pre:=[]) (post:=[]) (n:=m) (c:=m) (sz:=sz) (cs:=cs) (by simpa using I) h (bf _) (by rw[Nat.sub_self,Nat.zero_mul];exact Nat.zero_le _)
theorem aW.y2 {w:World}{ad:Option Addr}{bs:List UInt8}{c lo n:Nat}(h:aW w ad bs.length bs)(hl:lo+n≤bs.length)(hc:bs.length≤c):aW w (ft ad lo c 1) n ((bs.drop lo).take n) :=
 (h.uY (lo:=lo) (by omega) hc).E1 (by rw[c5];omega)
theorem Zj {d:Nat}(I:U W w L)(hd:d≤8):Calls prog 168 #[.int .i64 d] w λe w'=>∃ lb,e=.returned (pt lb)∧U W w' (Ln (lb,List.replicate d 0)::L):=by
 refine EN func168 ntmps168 rfl rfl λa E=>?_;refine RN 6 E I λa E=>?_;rw[show min (max (d:Int) 0) 8=(d:Int) from by omega]at E;refine rz E rfl I underlying22 Ty.t5 rfl (by omega) (by omega) λcI a w E I ho=>?_;clear ho;rw[Zi]at I;replace I:=I.LJ (m:=d) (sz:=1) (by rw[dy,kH,fU]);refine BX 1 E I λb8 a w E I=>?_;refine RN 1 E I λa E=>?_;replace I:U W w (aa b8 328 [.slice (some ⟨cI,0,none⟩) (List.replicate d (0:UInt8)).length d]::Sl 5 1 (some ⟨cI,0,none⟩) (List.replicate d (0:UInt8)).length d (bc (List.replicate d 0))::L):=by
  rw[kH];exact I
 refine RT 0 E I ?_;exact⟨b8,rfl,Ln.close I⟩
theorem BC (I:U W w (Ln (lb,l)::L)):Calls prog 172 #[pt lb] w λe w'=>e=.returned (.int .i64 l.length)∧U W w' (Ln (lb,l)::L):=by
 obtain⟨ad,c,I⟩:=Ln.open I;refine EN func172 ntmps172 rfl rfl λa E=>?_;refine RN 6 E I λa E=>?_;replace E:=E.aM 4;refine RT 8 E I ?_;exact⟨rfl,Ln.close I⟩
theorem LK {f:Nat}(I:U W w (Ln (lb,l)::L)):Calls prog 173 #[pt lb,.int .i64 f] w λe w'=>e=.returned (.tuple #[.int .u8 ((l.getD f 0).toNat:Nat),.bool (decide (f<l.length))])∧U W w' (Ln (lb,l)::L):=by
 refine EN func173 ntmps173 rfl rfl λa E=>?_;refine RN 8 E I λa E=>?_;rw[bo (by omega)]at E;refine CL 2 E I (BC I) λa w E I=>?_;refine IF 2 E I (λaj a E=>?_) λaj a E=>?_
 ·
  refine RT 3 E I ?_;exact⟨by rw[bl,js (by omega),bo (by omega)];rfl,I⟩
 obtain⟨ad,c,I⟩:=Ln.open I;have ed:f<l.length:=by omega
 obtain⟨b,o,rfl,hr⟩:=(I.cv ad l rfl rfl).get (by omega);refine RN 7 E I λa E=>?_;refine SS E (ae E (hr f _ (ln ed))) λa E=>?_;refine RT 2 E I ?_;exact⟨by rw[dh ed],Ln.close I⟩
theorem LL (I:U W w (Ln (lb,l)::L))(hl:l.length≤1000):Calls prog 314 #[pt lb,.int .u8 (x.toNat:Nat)] w λe w'=>e=.returned (.int .i64 (if l.length<1000 then 0 else 4))∧U W w' (Ln (lb,if l.length<1000 then l++[x] else l)::L):=by
 obtain⟨ad,c,I⟩:=Ln.open I;refine EN func314 ntmps314 rfl rfl λa E=>?_;refine RN 7 E I λa E=>?_;replace E:=E.aM 5;refine IF 9 E I (λao a E=>?_) λao a E=>?_
 ·
  refine RT 2 E I ?_;exact⟨by rw[ag (by omega)],by rw[ag (by omega)];exact Ln.close I⟩
 refine RN 7 E I λa E=>?_;refine cr E rfl I underlying22 Ty.t5 rfl rfl rfl rfl (by decide) (by decide) λb21 a w E I ho=>?_;clear ho;refine RN 0 E I λa E=>?_;refine cQ E rfl I underlying22 Ty.t5 rfl rfl I.ai rfl (ep [x]) (by decide) (by decide) (by omega) λLM LN a w E I=>?_;rw[show bc l++_=bc (l++[x]) from (fM l [x]).symm]at I;refine ST 2 E I (λa w E I=>?_);refine RN 0 E I λa E=>?_;rw[show l.length+1=(l++[x]).length from by simp]at I;replace I:=I.sub (M:=aa lb 328 [.slice LM (l++[x]).length LN]::Sl 5 1 LM (l++[x]).length LN (bc (l++[x]))::L);refine RT 2 E I ?_;exact⟨by rw[ak (by omega)],by rw[ak (by omega)];exact Ln.close I⟩
theorem Zk {f:Nat}(I:U W w (Ln (lb,l)::L))(hl:l.length≤1000)(hb:bs.length≤65536)(hp:∀ w',U W w' L→aW w' ad bs.length bs) :
   Calls prog 318 #[pt lb,.int .i64 f,.slice ad bs.length c] w λe w'=>∃ n er:Int,e=.returned (.tuple #[.int .i64 n,.int .i64 er])∧U W w' (Ln (lb,du l f bs)::L):=by
 refine EN func318 ntmps318 rfl rfl λa E=>?_;refine RN 8 E I λa E=>?_;replace E:=E.aM 11;refine RN 5 E I λa E=>?_;rw[bo (by omega)]at E;refine RN 2 E I λa E=>?_;obtain⟨hG,cl,I⟩:=Ln.open I;refine IF 8 E I (λay a E=>?_) λay a E=>?_
 ·
  replace I:=Ln.close I;refine RT 3 E I ?_;exact⟨_,_,rfl,by rw[du,ak (by omega)];exact I⟩
 refine RN 11 E I λa E=>?_;rw[show ((l.length:Nat):Int)-(f:Int)=((l.length-f:Nat):Int) from by omega]at E;refine RN 1 E I λa E=>?_;replace I:=Ln.close I;have ed:f≤l.length:=by omega
 refine aQ (λμ a w=>∃ (i:Nat),(μ=bs.length-i∧l.length-f≤i∧(i≤bs.length∨i=l.length-f)∧l.length+(i-(l.length-f))≤1000)∧Fr a 51 [(0,pt lb),(2,.slice ad bs.length c),(8,.int .i64 (i-(l.length-f):Nat)),(9,.int .i64 i)]∧U W w (Ln (lb,l++(bs.drop (l.length-f)).take (i-(l.length-f)))::L)) (bs.length-(l.length-f)) (⟨l.length-f,⟨rfl,bf _,.inr rfl,by omega⟩,by rw[Nat.sub_self];exact E.ab [0,2,8,9],by rw[Nat.sub_self,take_zero,append_nil];exact I⟩) ?_;clear E I;rintro μ a w ⟨i,⟨rfl,hi,hib,lF⟩,E,I⟩;refine IF 6 E I (λbd a E=>?_) λbd a E=>?_
 ·
  obtain⟨bb,oo,rfl,hr⟩:=(hp _ I.tail).get (by omega);have aF:i<bs.length:=by omega
  have hlen:(l++(bs.drop (l.length-f)).take (i-(l.length-f))).length=l.length+(i-(l.length-f)):=by rw[aI,et,c5];omega
  refine RN 7 E I λa E=>?_;refine SS E (ae E (hr i _ (dT aF))) λa E=>?_;refine CL 0 E I (LL I (by rw[hlen];omega)) λa w E I=>?_;rw[hlen]at E I;refine IF 4 E I (λbF a E=>?_) λbF a E=>?_
  ·
   have h9:¬ l.length+(i-(l.length-f))<1000:=λh=>bF (ak h);rw[ag h9]at I;refine RT 5 E I ?_;exact⟨_,_,rfl,by rw[du,ag (by omega),show 1000-l.length=i-(l.length-f) from by omega];exact I⟩
  have h9:l.length+(i-(l.length-f))<1000:=Decidable.of_not_not λh=>by rw[ag h]at bF;cases bF
  rw[ak h9]at I;refine RN 6 E I λa E=>?_;exact⟨bs.length-(i+1),by omega,i+1,⟨rfl,by omega,by omega,by omega⟩,by rw[show ((i+1-(l.length-f):Nat):Int)=((i-(l.length-f):Nat):Int)+1 from by omega];exact E.ab [0,2,8,9],by rw[LC ed aF hi h9];exact I⟩
 refine RT 4 E I ?_;exact⟨_,_,rfl,by rw[du,ag (by omega),gg (by rw[c5];omega)];rw[gg (by rw[c5];omega)]at I;exact I⟩
theorem LO {f k:Nat}(I:U W w (Ln (lb,l)::L))(hl:l.length≤1000)(hf:f≤1000)(hk:1≤k∧k≤1000) :
   Calls prog 309 #[pt lb,.int .i64 f,.int .i64 k] w λe w'=>∃ av c',e=.returned (.slice av ((l.drop f).take k).length c')∧U W w' (Sl 5 1 av ((l.drop f).take k).length c' (bc ((l.drop f).take k))::Ln (lb,l)::L):=by
 have eM:((l.drop f).take k).length=min l.length (f+k)-f:=by rw[et,c5];omega
 refine EN func309 ntmps309 rfl rfl λa E=>?_;refine RN 7 E I λa E=>?_;rw[bo (by omega)]at E;refine CL 2 E I (BC I) λa w E I=>?_;refine BY 3 E I (λfj a E=>?_) λfj a E=>?_
 ·
  have hz:(l.drop f).take k=[]:=by rw[drop_eq_nil_of_le (by omega),List.take_nil]
  refine RT 6 E I ?_;rw[hz];exact⟨_,_,rfl,I.bN _ _ none⟩
 refine RN 3 E I λa E=>?_;rw[bo (by omega)]at E;refine RN 2 E I λa E=>?_;obtain⟨hG,cl,I⟩:=Ln.open I;have cp:=(I.sl hG).2;refine bS 0 [8,9,14] [0,1,2,4,5,6,7,10,11,12,13,3003,1008,1009,1014,15,1016,17] E I λa w E I hH hC=>?_;refine RH 10 E I hH hC λa E=>?_;rw[show min (k:Int) 1000=(k:Int) from by omega]at E;refine RH 5 E I hH hC λa E=>?_;rw[show min (l.length:Int) ((f:Int)+(k:Int))=((min l.length (f+k):Nat):Int) from by omega]at E;refine RH 1 E I hH hC λa E=>?_;refine aY 0 E I (sY (bs:=(l.drop f).take k) I (λw' hw=>by have h1:=(hw.cv hG l rfl rfl).y2 (c:=cl) (lo:=f) (n:=min l.length (f+k)-f) (by omega) cp;rw[show (l.drop f).take (min l.length (f+k)-f)=(l.drop f).take k from by rw[← eM,List.take_eq_take_iff,et,c5];omega]at h1;exact h1) (by omega)) λfu dI a w E I=>?_;refine RN 1 E I λa E=>?_;refine RT 0 E I ?_;exact⟨fu,dI,by rw[eM],by rw[eM];exact (Ln.mk' (L':=Sl 5 1 fu (min l.length (f+k)-f) dI (bc ((l.drop f).take k))::L) I hG cl).perm (cZ _ _ _)⟩
theorem Zl (I:U W w (Ln (lb,l)::L))(hl:l.length≤1000) :
   Calls prog 293 #[pt lb] w λe w'=>∃ av c',e=.returned (.slice av l.length c')∧U W w' (Sl 5 1 av l.length c' (bc l)::Ln (lb,l)::L):=by
 have Zm:(l.drop 0).take 1000=l:=by rw[drop_zero,gg hl]
 refine EN func293 ntmps293 rfl rfl λa E=>?_;refine aY 4 E I (LO (f:=0) (k:=1000) I hl (by decide) (by decide)) λfu dI a w E I=>?_;rw[Zm]at E I;refine RT 1 E I ?_;exact⟨_,_,rfl,I⟩
end
end
section
def kl (x:Lx):Value:=pt x.1
def Qu (qb:Nat)(aB:List Nat)(ls:List (List UInt8)):SP:=λh=>∃ (ad:Option Addr) (c:Nat),aB.length=ls.length∧cn [aa qb 288 [.slice ad ls.length c],Sl 289 1 ad ls.length c ((aB.zip ls).map kl),ah Ln (aB.zip ls)] h
section
variable {W w:World}{L L' R:List SP}{n c qb lb i f:Nat}{ad:Option Addr}{ls:List (List UInt8)}{aB:List Nat}{l:List UInt8}{x:UInt8}
theorem Qu.open (I:U W w (Qu qb aB ls::L)):∃ (ad:Option Addr) (c:Nat),aB.length=ls.length∧U W w (aa qb 288 [.slice ad ls.length c]::Sl 289 1 ad ls.length c ((aB.zip ls).map kl)::ah Ln (aB.zip ls)::L):=by
 obtain⟨⟨ad,c⟩,hl,I⟩:=I.jL (ι:=Option Addr×Nat) (p:=λ_=>aB.length=ls.length) (B:=λy h=>cn [aa qb 288 [.slice y.1 ls.length y.2],Sl 289 1 y.1 ls.length y.2 ((aB.zip ls).map kl),ah Ln (aB.zip ls)] h) λ_ ⟨ad,c,hl,h⟩=>⟨(ad,c),hl,h⟩;exact⟨ad,c,hl,I.open (M:=[_,_,_]) λ_ h=>h⟩
theorem Qu.close (I:U W w (aa qb 288 [.slice ad ls.length c]::Sl 289 1 ad ls.length c ((aB.zip ls).map kl)::ah Ln (aB.zip ls)::L))(hl:aB.length=ls.length):U W w (Qu qb aB ls::L) :=
 U.shut (M:=[_,_,_]) I λ_ h=>⟨ad,c,hl,h⟩
theorem Qu.mk' (I:U W w L)(ad:Option Addr)(c:Nat)[k:fJ L (aa qb 288 [.slice ad ls.length c]::Sl 289 1 ad ls.length c ((aB.zip ls).map kl)::ah Ln (aB.zip ls)::L') R](hl:aB.length=ls.length):U W w (Qu qb aB ls::L'):=Qu.close (ad:=ad) (c:=c) I.sub hl
theorem u9 {aB:List Nat}{ls:List (List UInt8)}(hl:aB.length=ls.length){i:Nat}(h:i<ls.length):(aB.zip ls)[i]?=some (aB.getD i 0,ls.getD i []):=by
 rw[List.getElem?_zip_eq_some];simp only[bl];rw[aD h,aD (by omega)];exact⟨rfl,rfl⟩
def y3 (qb:Nat)(aB:List Nat)(ls:List (List UInt8))(i:Nat):SP:=λh=>∃ (ad:Option Addr) (c:Nat),aB.length=ls.length∧cn [aa qb 288 [.slice ad ls.length c],Sl 289 1 ad ls.length c ((aB.zip ls).map kl),ah Ln ((aB.zip ls).eraseIdx i)] h
theorem Qu.out (I:U W w (Qu qb aB ls::L))(h:i<ls.length):U W w (Ln (aB.getD i 0,ls.getD i [])::y3 qb aB ls i::L):=by
 obtain⟨ad,c,hl,I⟩:=Qu.open I;have hz:=u9 hl h;obtain⟨hi,he⟩:=a2.1 hz;replace I:=(I.pick (ah Ln (aB.zip ls))).fy hi;rw[he]at I;have h2:U W w (aa qb 288 [.slice ad ls.length c]::Sl 289 1 ad ls.length c ((aB.zip ls).map kl)::ah Ln ((aB.zip ls).eraseIdx i)::Ln (aB.getD i 0,ls.getD i [])::L):=I.sub;exact (U.shut (M:=[_,_,_]) h2 λ_ h=>⟨ad,c,hl,h⟩:U W w (y3 qb aB ls i::Ln (aB.getD i 0,ls.getD i [])::L)).perm (cZ _ _ _)
theorem map_set {α β:Type}(f:α→β)(l:List α)(i:Nat)(x:α):(l.set i x).map f=(l.map f).set i (f x):=by
 apply ext_getElem? ;intro j;simp only[bn,jZ,a8];split
 ·split <;> rfl
 ·rfl
theorem LP {aB:List Nat}{ls:List (List UInt8)}(hl:aB.length=ls.length){i:Nat}(h:i<ls.length)(l:List UInt8):aB.zip (ls.set i l)=(aB.zip ls).set i (aB.getD i 0,l):=by
 apply ext_getElem?;intro j;by_cases hj:j<ls.length
 ·rw[u9 (by simpa using hl) (by simpa using hj),jZ];by_cases oJ:i=j
  ·subst oJ;rw[ak rfl,ak (by simp;omega)];simp[bl,h]
  ·rw[ag oJ,u9 hl hj];simp[bl,getElem?_set_ne oJ]
 ·rw[js (by simp;omega),js (by simp;omega)]
theorem Qu.in (I:U W w (Ln (aB.getD i 0,l)::y3 qb aB ls i::L))(h:i<ls.length):U W w (Qu qb aB (ls.set i l)::L):=by
 obtain⟨⟨ad,c⟩,hl,I⟩:=(I.pick (y3 qb aB ls i)).jL (ι:=Option Addr×Nat) (p:=λ_=>aB.length=ls.length) (B:=λy h=>cn [aa qb 288 [.slice y.1 ls.length y.2],Sl 289 1 y.1 ls.length y.2 ((aB.zip ls).map kl),ah Ln ((aB.zip ls).eraseIdx i)] h) λ_ ⟨ad,c,hl,h⟩=>⟨(ad,c),hl,h⟩;replace I:U W w (aa qb 288 [.slice ad ls.length c]::Sl 289 1 ad ls.length c ((aB.zip ls).map kl)::ah Ln ((aB.zip ls).eraseIdx i)::Ln (aB.getD i 0,l)::L):=I.open (M:=[_,_,_]) λ_ h=>h;have hz:=u9 hl h;obtain⟨hi,he⟩:=a2.1 hz;have h1:U W w (Ln (aB.getD i 0,l)::ah Ln ((aB.zip ls).eraseIdx i)::aa qb 288 [.slice ad ls.length c]::Sl 289 1 ad ls.length c ((aB.zip ls).map kl)::L):=I.sub;replace h1:=h1.kZ hi;rw[← LP hl h]at h1;have fb:ls.length=(ls.set i l).length:=by rw[bw]
 have hp:(aB.zip ls).map kl=(aB.zip (ls.set i l)).map kl:=by
  rw[LP hl h,map_set]
  symm
  apply ext_getElem?;intro j;rw[jZ];split
  ·rename_i hj;subst hj;split
   ·rw[bn,hz];rfl
   ·rw[js (by omega)]
  ·rfl
 rw[hp,fb]at h1;exact Qu.mk' h1 ad c (by rw[← fb];exact hl)
theorem LQ {ls:List (List UInt8)}{i:Nat}:ls.set i (ls.getD i [])=ls:=by
 apply ext_getElem?;intro j;rw[jZ];split
 ·rename_i h;subst h;split
  ·rename_i h;rw[bl,aD h];rfl
  ·rw[js (by omega)]
 ·rfl
theorem Qu.back (I:U W w (Ln (aB.getD i 0,ls.getD i [])::y3 qb aB ls i::L))(h:i<ls.length):U W w (Qu qb aB ls::L):=by
 have:=Qu.in I h
 rwa [LQ]at this
theorem y4 (I:U W w (Qu qb aB ls::L))(h:i<ls.length):Calls prog 172 #[.pointer (some ⟨aB.getD i 0,0,none⟩)] w λe w'=>e=.returned (.int .i64 (ls.getD i []).length)∧U W w' (Qu qb aB ls::L) :=
 (BC (Qu.out I h)).mono λ_ _ ⟨he,I⟩=>⟨he,Qu.back I h⟩
theorem Zn (I:U W w (Qu qb aB ls::L))(h:i<ls.length):Calls prog 173 #[.pointer (some ⟨aB.getD i 0,0,none⟩),.int .i64 f] w λe w'=>e=.returned (.tuple #[.int .u8 (((ls.getD i []).getD f 0).toNat:Nat),.bool (decide (f<(ls.getD i []).length))])∧U W w' (Qu qb aB ls::L) :=
 (LK (Qu.out I h)).mono λ_ _ ⟨he,I⟩=>⟨he,Qu.back I h⟩
theorem Zo (I:U W w (Qu qb aB ls::L))(h:i<ls.length)(hl:(ls.getD i []).length<1000):Calls prog 314 #[.pointer (some ⟨aB.getD i 0,0,none⟩),.int .u8 (x.toNat:Nat)] w λe w'=>e=.returned (.int .i64 0)∧U W w' (Qu qb aB (ls.set i (ls.getD i []++[x]))::L) :=
 (LL (Qu.out I h) (by omega)).mono λ_ _ ⟨he,I⟩=>by
  rw[ak hl]at he I;exact⟨he,Qu.in I h⟩
theorem Zq {fr:Nat}{bs:List UInt8}(I:U W w (Qu qb aB ls::L))(h:i<ls.length)(hl:(ls.getD i []).length≤1000)(hb:bs.length≤65536)(hp:∀ w',U W w' L→aW w' ad bs.length bs) :
   Calls prog 318 #[.pointer (some ⟨aB.getD i 0,0,none⟩),.int .i64 fr,.slice ad bs.length c] w λe w'=>∃ n er:Int,e=.returned (.tuple #[.int .i64 n,.int .i64 er])∧U W w' (Qu qb aB (ls.set i (du (ls.getD i []) fr bs))::L) :=
 (Zk (Qu.out I h) hl hb (λw' hw=>hp w' hw.tail)).mono λ_ _ ⟨n,er,he,I⟩=>⟨n,er,he,Qu.in I h⟩
theorem Zr {fr k:Nat}(I:U W w (Qu qb aB ls::L))(h:i<ls.length)(hl:(ls.getD i []).length≤1000)(hf:fr≤1000)(hk:1≤k∧k≤1000) :
   Calls prog 309 #[.pointer (some ⟨aB.getD i 0,0,none⟩),.int .i64 fr,.int .i64 k] w λe w'=>∃ av c',e=.returned (.slice av (((ls.getD i []).drop fr).take k).length c')∧U W w' (Sl 5 1 av (((ls.getD i []).drop fr).take k).length c' (bc (((ls.getD i []).drop fr).take k))::Qu qb aB ls::L) :=
 (LO (Qu.out I h) hl hf hk).mono λ_ _ ⟨av,c',he,I⟩=>⟨av,c',he,(Qu.back (L:=Sl 5 1 av _ c' _::L) I.sub h).perm (cZ _ _ _)⟩
theorem Zs (I:U W w (Qu qb aB ls::L))(h:i<ls.length)(hl:(ls.getD i []).length≤1000) :
   Calls prog 293 #[.pointer (some ⟨aB.getD i 0,0,none⟩)] w λe w'=>∃ av c',e=.returned (.slice av (ls.getD i []).length c')∧U W w' (Sl 5 1 av (ls.getD i []).length c' (bc (ls.getD i []))::Qu qb aB ls::L) :=
 (Zl (Qu.out I h) hl).mono λ_ _ ⟨av,c',he,I⟩=>⟨av,c',he,(Qu.back (L:=Sl 5 1 av _ c' _::L) I.sub h).perm (cZ _ _ _)⟩
theorem FO (I:U W w (Qu qb aB ls::L)):Calls prog 171 #[pt qb] w λe w'=>e=.returned (.int .i64 ls.length)∧U W w' (Qu qb aB ls::L):=by
 obtain⟨ad,c,hl,I⟩:=Qu.open I;refine EN func171 ntmps171 rfl rfl λa E=>?_;refine RN 6 E I λa E=>?_;replace E:=E.aM 4;refine RT 8 E I ?_;exact⟨rfl,Qu.close I hl⟩
theorem BD {aB:List Nat}{ls:List (List UInt8)}(hl:aB.length=ls.length){i:Nat}(h:i<ls.length):((aB.zip ls).map kl)[i]?=some (.pointer (some ⟨aB.getD i 0,0,none⟩)):=by
 rw[bn,u9 hl h];rfl
theorem tG (I:U W w (Qu qb aB ls::L))(h:i<ls.length):Calls prog 291 #[pt qb,.int .i64 i] w λe w'=>e=.returned (.pointer (some ⟨aB.getD i 0,0,none⟩))∧U W w' (Qu qb aB ls::L):=by
 refine EN func291 ntmps291 rfl rfl λa E=>?_;refine RN 7 E I λa E=>?_;rw[bo (by omega)]at E;refine CL 2 E I (FO I) λa w E I=>?_;refine RN 2 E I λa E=>?_;rw[bo (by omega)]at E;refine RN 2 E I λa E=>?_;obtain⟨ad,c,hl,I⟩:=Qu.open I;obtain⟨b,o,rfl,hr⟩:=I.bU ad (by omega);refine RN 6 E I λa E=>?_;refine SS E (ae E (hr i _ (BD hl h))) λa E=>?_;refine RT 1 E I ?_;exact⟨rfl,Qu.close I hl⟩
theorem se (I:U W w (Qu qb aB ls::L))(h0:ls≠[])(ib:ls.length≤8):Calls prog 135 #[pt qb] w λe w'=>e=.returned (.int .i64 (aU ls))∧U W w' (Qu qb aB ls::L):=by
 have qA:0<ls.length:=List.length_pos_iff.2 h0;refine EN func135 ntmps135 rfl rfl λa E=>?_;refine CL 5 E I (FO I) λa w E I=>?_;refine RN 1 E I λa E=>?_;rw[bo (by omega)]at E;refine RN 2 E I λa E=>?_;obtain⟨ad,c,hl,I⟩:=Qu.open I;obtain⟨b,o,rfl,hr⟩:=I.bU ad (by omega);refine RN 5 E I λa E=>?_;refine SS E (ae E (hr 0 _ (BD hl qA))) λa E=>?_;replace I:U W w (Qu qb aB ls::L):=Qu.close I hl;refine CL 0 E I (y4 I qA) λa w E I=>?_;refine RN 3 E I λa E=>?_;obtain⟨ad,c,hl,I⟩:=Qu.open I;rw[show ((ls.getD 0 []).length:Int)=(iP ls 0:Nat) from by rw[iP,List.headD_eq_getD]]at E;refine RN 6 E I λa E=>?_;replace I:U W w (aa qb 288 [.slice ad ls.length c]::Sl 289 1 ad ls.length c ((aB.zip ls).map kl)::ah Ln (aB.zip ls)::L):=I;refine aQ (λμ a w=>∃ (i:Nat),(μ=ls.length-i∧i≤ls.length)∧Fr a 31 [(3,.int .i64 (iP ls i:Nat)),(19,.slice ad ls.length c),(20,.int .i64 ls.length),(21,.int .i64 i)]∧U W w (aa qb 288 [.slice ad ls.length c]::Sl 289 1 ad ls.length c ((aB.zip ls).map kl)::ah Ln (aB.zip ls)::L)) (ls.length) (⟨0,⟨rfl,by omega⟩,E.ab [3,19,20,21],I⟩) ?_;clear E I;rintro μ a w ⟨i,⟨rfl,hi⟩,E,I⟩;refine IF 3 E I (λao a E=>?_) λao a E=>?_
 ·
  obtain⟨b2,qG,rfl,e5⟩:=I.bU ad (by omega);have aF:i<ls.length:=by omega
  have hz:=u9 hl aF;obtain⟨kP,mh⟩:=a2.1 hz;refine RN 3 E I λa E=>?_;refine SS E (ae E (e5 i _ (BD hl aF))) λa E=>?_;refine RN 1 E I λa E=>?_;replace I:=(I.pick (ah Ln (aB.zip ls))).fy kP;rw[mh]at I;refine CL 2 E I (BC I) λa w E I=>?_;replace I:=(mh ▸ I:U W w (Ln (aB.zip ls)[i]::_)).kZ kP;rw[l7]at I;refine RN 1 E I λa E=>?_;rw[show min ((iP ls i:Nat):Int) ((ls.getD i []).length:Int)=((iP ls (i+1):Nat):Int) from by rw[iP];omega]at E;refine RN 3 E I λa E=>?_;exact⟨ls.length-(i+1),by omega,i+1,⟨rfl,by omega⟩,E.ab [3,19,20,21],I.sub⟩
 obtain rfl:i=ls.length:=by omega
 refine RT 3 E I ?_;exact⟨rfl,Qu.close I hl⟩
theorem Zt (I:U W w (Qu qb aB ls::L))(h0:ls≠[])(hf:f<aU ls)(ib:ls.length≤8):Calls prog 136 #[pt qb,.int .i64 f] w λe w'=>∃ av c',e=.returned (.tuple #[.slice av (bJ ls f).length c',.bool true]) ∧
   U W w' (Sl 5 1 av (bJ ls f).length c' (bc (bJ ls f))::Qu qb aB ls::L):=by
 refine EN func136 ntmps136 rfl rfl λa E=>?_;refine RN 8 E I λa E=>?_;rw[bo (by omega)]at E;refine CL 2 E I (se I h0 ib) λa w E I=>?_;refine RN 2 E I λa E=>?_;rw[bo (by omega)]at E;refine RN 5 E I λa E=>?_;obtain⟨ad,c,hl,I⟩:=Qu.open I;refine RN 6 E I λa E=>?_;refine aQ (λμ a w=>∃ (i:Nat) (ad2:Option Addr) (c2:Nat),(μ=ls.length-i∧i≤ls.length)∧Fr a 40 [(1,.int .i64 f),(6,.slice ad2 (fA ls f i).length c2),(22,.slice ad ls.length c),(23,.int .i64 ls.length),(24,.int .i64 i)]∧U W w (Sl 5 1 ad2 (fA ls f i).length c2 (bc (fA ls f i))::aa qb 288 [.slice ad ls.length c]::Sl 289 1 ad ls.length c ((aB.zip ls).map kl)::ah Ln (aB.zip ls)::L)) (ls.length) (⟨0,none,0,⟨rfl,by omega⟩,E.ab [1,6,22,23,24],I.bN 5 1 none⟩) ?_;clear E I;rintro μ a w ⟨i,ad2,c2,⟨rfl,hi⟩,E,I⟩;refine IF 3 E I (λao a E=>?_) λao a E=>?_
 ·
  obtain⟨b2,qG,rfl,e5⟩:=I.bU ad (by omega);have aF:i<ls.length:=by omega
  have hz:=u9 hl aF;obtain⟨kP,mh⟩:=a2.1 hz;have eT:=tF (ls:=ls) (f:=f) (i:=i) hi;refine RN 3 E I λa E=>?_;refine SS E (ae E (e5 i _ (BD hl aF))) λa E=>?_;refine RN 2 E I λa E=>?_;replace I:=(I.pick (ah Ln (aB.zip ls))).fy kP;rw[mh]at I;refine CL 2 E I (LK I) λa w E I=>?_;replace I:=(mh ▸ I:U W w (Ln (aB.zip ls)[i]::_)).kZ kP;rw[l7]at I;refine RN 7 E I λa E=>?_;refine cr E rfl I underlying22 Ty.t5 rfl rfl rfl rfl (by decide) (by decide) λb36 a w E I ho=>?_;clear ho;refine RN 0 E I λa E=>?_;refine cQ E rfl I underlying22 Ty.t5 rfl rfl I.ai rfl (ep [(ls.getD i []).getD f 0]) (by decide) (by decide) (by omega) λYV YW a w E I=>?_;rw[show bc (fA ls f i)++_=bc (fA ls f (i+1)) from by rw[BA aF,fM,bl (l:=ls),aD aF];rfl,show (fA ls f i).length+1=(fA ls f (i+1)).length from by rw[tF hi,tF (by omega)]]at I;rw[show (fA ls f i).length+1=(fA ls f (i+1)).length from by rw[tF hi,tF (by omega)]]at E;refine RN 3 E I λa E=>?_;exact⟨ls.length-(i+1),by omega,i+1,_,_,⟨rfl,by omega⟩,E.ab [1,6,22,23,24],I.sub⟩
 obtain rfl:i=ls.length:=by omega
 rw[Bz]at E I;refine RT 4 E I ?_;exact⟨_,_,rfl,(Qu.mk' (L':=Sl 5 1 ad2 (bJ ls f).length c2 (bc (bJ ls f))::L) I ad c hl).perm (cZ _ _ _)⟩
theorem Zu {d:Nat}(I:U W w L)(hn:2≤n∧n≤8)(hd:d≤8):Calls prog 131 #[.int .i64 n,.int .i64 d] w λe w'=>∃ qb aB,e=.returned (pt qb)∧U W w' (Qu qb aB (List.replicate n (List.replicate d 0))::L):=by
 refine EN func131 ntmps131 rfl rfl λa E=>?_;refine BX 4 E I λdt a w E I=>?_;refine RN 6 E I λa E=>?_;rw[show min (max (n:Int) 2) 8=(n:Int) from by omega]at E;refine RN 1 E I λa E=>?_;replace I:=I.bN 289 1 none;replace I:=U.iY (f:=Ln) I;refine aQ (λμ a w=>∃ (i:Nat) (xs:List Lx) (ad:Option Addr) (c:Nat),(μ=n-i∧i≤n∧xs.map (·.2)=List.replicate i (List.replicate d 0))∧Fr a 26 [(1,.int .i64 d),(5,pt dt),(10,.int .i64 n),(11,.int .i64 i)]∧U W w (aa dt 288 [.slice ad i c]::Sl 289 1 ad i c (xs.map kl)::ah Ln xs::L)) (n) (⟨0,[],none,0,⟨rfl,by omega,rfl⟩,E.ab [1,5,10,11],(I.sub:U W w (aa dt 288 [.slice none 0 0]::Sl 289 1 none 0 0 []::ah Ln []::L))⟩) ?_;clear E I;rintro μ a w ⟨i,xs,ad,c,⟨rfl,hi,ba⟩,E,I⟩;refine IF 3 E I (λaj a E=>?_) λaj a E=>?_
 ·
  refine aX 1 (λw0 w'=>Rd w' dt 0 [.slice ad i c]) [6,7] [0,1,2,3,5,3004,1006,1007,1008,9,10,1011] E I λa w E I hH=>?_;have hC:=hH.at w I.ai;refine RH 5 E I hH hC λa E=>?_;refine QH E (λw hc=>ae E (hc 0 _ rfl)) hC λa E=>?_;refine RH 0 E I hH hC λa E=>?_;refine bj 0 E I (Zj I hd) λlb a w E I=>?_;replace hC:=hH.at w I.ai;refine RH 0 E I hH hC λa E=>?_;refine cr E rfl I underlying286 Ty.t289 rfl rfl rfl rfl (by decide) (by decide) λJS a w E I ho=>?_;clear ho;replace hC:=hH.at w I.ai;refine RH 0 E I hH hC λa E=>?_;refine cQ E rfl I underlying286 Ty.t289 rfl rfl I.ai rfl (by simp[Value.oneCell']) (by decide) (by decide) (by omega) λrK rL a w E I=>?_;rw[show List.map kl xs++_=List.map kl (xs++[(lb,List.replicate d 0)]) from by rw[cW];rfl]at I;refine ST 2 E I (λa w E I=>?_);refine RN 2 E I λa E=>?_;have dz:=U.j0 (x:=(lb,List.replicate d 0)) (I.sub (M:=Ln (lb,List.replicate d 0)::ah Ln xs::aa dt 288 [.slice rK (i+1) rL]::Sl 289 1 rK (i+1) rL ((xs++[(lb,List.replicate d 0)]).map kl)::L));exact⟨n-(i+1),by omega,i+1,xs++[(lb,List.replicate d 0)],rK,rL,⟨rfl,by omega,by rw[cW,ba,replicate_succ'];rfl⟩,E.ab [1,5,10,11],dz.sub⟩
 obtain rfl:i=n:=by omega
 refine RT 3 E I ?_;have ca:xs.length=i:=by rw[← a8 (f:=(·.2)),ba,kH]
 have hz:(xs.map (·.1)).zip (List.replicate i (List.replicate d 0))=xs:=by
  rw[← ba];clear ba I E ca
  induction xs with
  | nil=>rfl
  | cons x xs ih=>rw[map_cons,map_cons,List.zip_cons_cons,ih]
 have hs:(List.replicate i (List.replicate d (0:UInt8))).length=i:=kH;refine⟨dt,xs.map (·.1),rfl,?_⟩;refine Qu.close (ad:=ad) (c:=c) ?_ (by rw[a8,ca,hs]);rw[hs,hz];exact I
end
end
section
structure Cf where
 n:Int
 me:Int
 id:Int
 aK:Int
 br:Int
 bg:Int
 order:Int
 cw:Int
 workers:Int
 room:Int
abbrev bV (c:Cf):List Value:=[.int .i64 c.n,.int .i64 c.me,.int .i64 c.id,.int .i64 c.aK,.int .i64 c.br,.int .i64 c.bg,.int .i64 c.order,.int .i64 c.cw,.int .i64 c.workers,.int .i64 c.room]
def fB (n l h:Int):Prop:=l≤n∧n≤h
instance (n l h:Int):Decidable (fB n l h):=inferInstanceAs (Decidable (_∧_))
def eW (c:Cf):Prop:=(fB c.n 2 8∧fB c.me 0 (c.n-1)∧fB c.id 0 1099511627776)∧(fB c.aK 0 8∧fB c.br 1 16∧fB c.bg 1 3∧fB c.order 0 3) ∧
 (c.order=0∨c.bg=2)∧fB c.cw 0 8∧fB c.workers 0 4∧fB c.room 3 50
instance (c:Cf):Decidable (eW c):=inferInstanceAs (Decidable (_∧_))
structure Pe where
 has:Nat
 heard:Nat
 frame:Nat
 sum:Nat
 apart:Bool
structure Ks where
 n:Nat
 me:Nat
 aK:Nat
 br:Nat
 id:Int
 bg:Int
 order:Int
 cw:Int
 workers:Int
 room:Int
 ls:List (List UInt8)
 ps:List Pe
 mr:List Nat
 ev:List (Nat×Nat×Nat)
 now:Nat
 cl:Bool
def fl (k:Ks):Cf:=⟨k.n,k.me,k.id,k.aK,k.br,k.bg,k.order,k.cw,k.workers,k.room⟩
def fC (d:Nat):Pe:=⟨d,0,0,0,false⟩
def fm (c:Cf):Ks:=⟨c.n.toNat,c.me.toNat,c.aK.toNat,c.br.toNat,c.id,c.bg,c.order,c.cw,c.workers,c.room,
 List.replicate c.n.toNat (List.replicate c.aK.toNat 0),List.replicate c.n.toNat (fC c.aK.toNat),[],[],0,false⟩
def aG (k:Ks):Nat:=(k.ls.getD k.me []).length
def aw (k:Ks):Nat:=aU k.ls
def w6 (mk:List Nat)(p:Pe):Prop:=p.apart=false∧1≤p.frame∧p.frame≤mk.length∧mk.getD (p.frame-1) 0≠p.sum
instance (mk:List Nat)(p:Pe):Decidable (w6 mk p):=inferInstanceAs (Decidable (_∧_))
def au (k:Ks)(i:Nat):Pe:=k.ps.getD i (fC 0)
def lq (k:Ks)(i:Nat):Ks:=if w6 k.mr (au k i) then { k with ps:=k.ps.set i { au k i with apart:=true },ev:=k.ev++[(3,i,(au k i).frame)] } else k
def gv (k:Ks):Nat→Ks
 | 0=>k
 | i+1=>lq (gv k i) i
def lr (k:Ks):Ks:=gv k k.ps.length
def lU (k:Ks)(s:Nat):Ks:=lr (if k.mr.length<1000 then { k with mr:=k.mr++[s] } else k)
def c1 (b:UInt8)(k:Ks):Int×Ks:=if k.cl=true then (6,k) else if 1000≤aG k then (4,k) else if k.br+aw k≤aG k then (5,k) else (0,{ k with ls:=k.ls.set k.me (k.ls.getD k.me []++[b]) })
def fW (now head:Nat)(p:Pk)(x:Pe):Pe :=
 let h:=if x.has<p.da.toNat∧p.da.toNat≤head then p.da.toNat else x.has
 if 0<p.frame∧(x.frame:Int)≤p.frame then { x with heard:=now,has:=h,frame:=p.frame.toNat,sum:=p.sum } else { x with heard:=now,has:=h }
def fX (k:Ks)(p:Pk):Ks :=
 if p.kind=2 then { k with ps:=k.ps.set p.aV.toNat { au k p.aV.toNat with heard:=k.now },ev:=k.ev++[(1,p.aV.toNat,0)],cl:=true }
 else lr { k with ls:=k.ls.set p.aV.toNat (du (k.ls.getD p.aV.toNat []) p.first.toNat p.al),ps:=k.ps.set p.aV.toNat (fW k.now (aG k) p (au k p.aV.toNat)) }
noncomputable def dm (bs:List UInt8)(k:Ks):Int×Ks:=if k.cl=true then (6,k) else match ea bs with
 | none=>(1,k)
 | some p=>if p.to≠k.me∨(k.n:Int)≤p.aV∨p.id≠k.id then (1,k) else (0,fX k p)
def dO (k:Ks)(i:Nat):Pk:=⟨1,k.me,i,k.id,(au k i).has,(k.ls.getD i []).length,k.mr.length,k.mr.getLastD 0,((k.ls.getD k.me []).drop (au k i).has).take 32⟩
def iB (k:Ks)(i:Nat):Pk:=⟨2,k.me,i,k.id,0,0,0,0,[]⟩
def bG (k:Ks):List Nat:=(List.range k.n).filter (·≠k.me)
def jE (k:Ks)(i:Nat):Prop:=(au k i).heard+40≤k.now
instance (k:Ks)(i:Nat):Decidable (jE k i):=inferInstanceAs (Decidable (_≤_))
abbrev Ml:=Nat×Nat×List UInt8
def bt (k:Ks):List Ml×Ks:=if k.cl=true then ([],k) else
 let k:={ k with now:=k.now+1 }
 match (bG k).find? (λi=>decide (jE k i)) with
 | some i=>([],{ k with ev:=k.ev++[(2,i,0)],cl:=true })
 | none=>((bG k).map λi=>(k.me,i,aS (dO k i)),k)
def cy (k:Ks):List Ml×Ks:=if k.cl=true then ([],k) else ((bG k).map λi=>(k.me,i,aS (iB k i)),{ k with cl:=true })
def held (k:Ks):Prop:=∀ i,i<k.ps.length→¬ w6 k.mr (au k i)
structure WC (k:Ks):Prop where
 n:2≤k.n∧k.n≤8
 me:k.me<k.n
 id:0≤k.id∧k.id≤1099511627776
 aK:k.aK≤8
 br:1≤k.br∧k.br≤16
 ls:k.ls.length=k.n
 ps:k.ps.length=k.n
 nE:∀ l∈k.ls,l.length≤1000
 mr:k.mr.length≤1000
 sf:∀ s∈k.mr,s<4294967296
 now:∀ p∈k.ps,p.heard≤k.now
 pe:∀ p∈k.ps,p.has≤1000∧p.frame≤1000∧p.sum<4294967296
 bx:∀ e∈k.ev,e.1≤3∧1≤e.1∧e.2.1<8∧e.2.2≤1000∧(e.1=3∨e.2.2=0)
 o4:k.ev.length+k.ps.countP (λp=>!p.apart)+(if k.cl=true then 0 else 1)≤k.n+1
section
variable {k:Ks}{i:Nat}
theorem WC.kT (h:WC k):k.ev.length≤9:=by have:=h.o4;have:=h.n;omega
theorem Zv (h:i<k.ps.length):au k i∈k.ps:=by
 rw[au,bl,aD h];exact iZ _
theorem va {ls:List (List UInt8)}(h:i<ls.length):ls.getD i []∈ls:=by
 rw[bl,aD h];exact iZ _
theorem WC.qa (h:WC k)(hi:i<k.n):(au k i).has≤1000∧(au k i).heard≤k.now∧(au k i).frame≤1000∧(au k i).sum<4294967296:=by
 have hm:=Zv (k:=k) (i:=i) (by rw[h.ps];exact hi);exact⟨(h.pe _ hm).1,h.now _ hm,(h.pe _ hm).2⟩
theorem WC.mq (h:WC k)(hi:i<k.n):(k.ls.getD i []).length≤1000:=h.nE _ (va (by rw[h.ls];exact hi))
theorem WC.lV (h:WC k):aG k≤1000:=h.mq h.me
theorem WC.nF (h:WC k):aw k≤aG k:=w4 (va (by rw[h.ls];exact h.me))
theorem mem_set {α:Type}{l:List α}{x y:α}(h:y∈l.set i x):y∈l∨y=x:=rI h
theorem WC.BE (h:WC k){p:Pe}{ev:List (Nat×Nat×Nat)}{cl:Bool}(hp:p.has≤1000∧p.frame≤1000∧p.sum<4294967296)(hh:p.heard≤k.now)
   (he:∀ e∈ev,e.1≤3∧1≤e.1∧e.2.1<8∧e.2.2≤1000∧(e.1=3∨e.2.2=0)) (hn:ev.length+(k.ps.set i p).countP (λp=>!p.apart)+(if cl=true then 0 else 1)≤k.n+1):WC { k with ps:=k.ps.set i p,ev:=ev,cl:=cl } :=
 { h with
  ps:=by show (k.ps.set i p).length=_;rw[bw];exact h.ps
  now:=λq hq=>by
   rcases mem_set hq with hq | rfl
   ·exact h.now q hq
   ·exact hh
  pe:=λq hq=>by
   rcases mem_set hq with hq | rfl
   ·exact h.pe q hq
   ·exact hp
  bx:=he
  o4:=hn }
theorem count_set {l:List Pe}{p:Pe}(h:i<l.length):(l.set i p).countP (λp=>!p.apart)+(if l[i].apart=true then 0 else 1)=l.countP (λp=>!p.apart)+(if p.apart=true then 0 else 1):=by
 have h1:l.countP (λp=>!p.apart)=(l[i]::l.eraseIdx i).countP (λp=>!p.apart):=List.Perm.countP_eq _ (sS _ h);have hi:i<(l.set i p).length:=by simpa using h
 have h2:(l.set i p).countP (λp=>!p.apart)=((l.set i p)[i]::(l.set i p).eraseIdx i).countP (λp=>!p.apart):=List.Perm.countP_eq _ (sS _ hi);rw[h1,h2,List.countP_cons,List.countP_cons,oG,eraseIdx_set_eq];cases l[i].apart <;> cases p.apart <;> simp <;> omega
theorem WC.lq (h:WC k)(hi:i<k.n):WC (lq k i):=by
 unfold Go.Proofs.YteoldcfapaiobaaGreat.lq;split
 ·rename_i hb;have aF:i<k.ps.length:=by rw[h.ps];exact hi
  have hp:=h.qa hi;have pK:au k i=k.ps[i]:=by rw[au,bl,aD aF];rfl
  refine h.BE ⟨hp.1,hp.2.2⟩ hp.2.1 (λe he=>?_) ?_
  ·rcases eS.1 he with he | he
   ·exact h.bx e he
   ·rw[iH]at he;subst he;have:=h.n;exact⟨by simp,by simp,by simp;omega,hp.2.2.1,.inl rfl⟩
  ·have hc:=count_set (p:={ au k i with apart:=true }) aF;rw[← pK,hb.1]at hc;have:=h.o4;rw[aI,jD];simp at hc ⊢;omega
 ·exact h
end
section
variable {k:Ks}{i:Nat}
theorem LR (k:Ks)(i:Nat):∃ ps ev,lq k i={ k with ps:=ps,ev:=ev }∧ps.length=k.ps.length:=by
 unfold lq;split
 ·exact⟨_,_,rfl,by simp⟩
 ·exact⟨k.ps,k.ev,rfl,rfl⟩
theorem y5 (k:Ks):∀ i,∃ ps ev,gv k i={ k with ps:=ps,ev:=ev }∧ps.length=k.ps.length
 | 0=>⟨k.ps,k.ev,rfl,rfl⟩
 | i+1=>by
  obtain⟨ps,ev,h1,h2⟩:=y5 k i;obtain⟨gp,LS,h3,h4⟩:=LR (gv k i) i;refine⟨gp,LS,?_,?_⟩
  ·rw[gv,h3,h1]
  ·rw[h4,h1];exact h2
theorem w7 (k:Ks):∃ ps ev,lr k={ k with ps:=ps,ev:=ev }∧ps.length=k.ps.length:=y5 k _
theorem WC.gv (h:WC k):∀ {i},i≤k.n→WC (gv k i)
 | 0,_=>h
 | i+1,hi=>by
  rw[Go.Proofs.YteoldcfapaiobaaGreat.gv];refine (h.gv (i:=i) (by omega)).lq ?_;obtain⟨ps,ev,h1,_⟩:=y5 k i;rw[h1];show i<k.n;omega
theorem WC.lr (h:WC k):WC (lr k):=h.gv (by rw[h.ps];exact bf _)
theorem Zw (k:Ks)(i:Nat)(hi:i<k.ps.length):¬ w6 (lq k i).mr (au (lq k i) i):=by
 unfold lq;split
 ·intro hb;have:=hb.1;simp[au,hi]at this
 ·assumption
theorem Zx (k:Ks){i j:Nat}(h:j≠i):au (lq k i) j=au k j:=by
 unfold lq;split
 ·simp only[au,bl];rw[getElem?_set_ne (by omega)]
 ·rfl
theorem Zy (k:Ks)(i:Nat):(lq k i).mr=k.mr:=by
 obtain⟨ps,ev,h1,_⟩:=LR k i;rw[h1]
theorem BF (k:Ks)(i:Nat):(gv k i).ps.length=k.ps.length:=by
 obtain⟨ps,ev,h1,h2⟩:=y5 k i;rw[h1];exact h2
theorem LU (k:Ks):∀ {i j},i≤k.ps.length→j<i→¬ w6 (gv k i).mr (au (gv k i) j)
 | 0,_,_,h=>absurd h (by omega)
 | i+1,j,hi,hj=>by
  rw[Go.Proofs.YteoldcfapaiobaaGreat.gv];by_cases h:j=i
  ·subst h;exact Zw _ _ (by rw[BF];omega)
  ·rw[Zy,Zx _ h];exact LU k (by omega) (by omega)
theorem LV (k:Ks):held (lr k):=λi hi=>LU k (bf _) (by rw[lr,BF]at hi;exact hi)
theorem held.gv (h:held k):∀ {i},i≤k.ps.length→gv k i=k
 | 0,_=>rfl
 | i+1,hi=>by
  rw[Go.Proofs.YteoldcfapaiobaaGreat.gv,h.gv (i:=i) (by omega),lq,ag (h i (by omega))]
theorem held.lr (h:held k):lr k=k:=h.gv (bf _)
theorem held.of {k':Ks}(h:held k)(hm:k'.mr=k.mr)(hl:k'.ps.length=k.ps.length)(hp:∀ i,i<k.ps.length→(au k' i).apart=(au k i).apart∧(au k' i).frame=(au k i).frame∧(au k' i).sum=(au k i).sum):held k':=by
 intro i hi hb;rw[hl]at hi;obtain⟨h1,h2,h3⟩:=hp i hi;refine h i hi ?_;simp only[w6,hm,h1,h2,h3]at hb;exact hb
theorem WC.mark (h:WC k){s:Nat}(I:s<4294967296):WC (lU k s):=by
 unfold lU;refine WC.lr ?_;split
 ·exact { h with
   mr:=by show (k.mr++[s]).length≤1000;rw[aI,jD];omega
   sf:=λx hx=>by
    rcases eS.1 hx with hx | hx
    ·exact h.sf x hx
    ·rw[iH]at hx;rw[hx];exact I }
 ·exact h
theorem LW (k:Ks)(s:Nat)(hl:k.mr.length<1000):∃ ps ev,lU k s={ k with ps:=ps,ev:=ev,mr:=k.mr++[s] }∧ps.length=k.ps.length:=by
 obtain⟨ps,ev,h1,h2⟩:=w7 { k with mr:=k.mr++[s] };refine⟨ps,ev,?_,h2⟩;rw[lU,ak hl,h1]
theorem vb {k:Ks}{b:UInt8}(h:(c1 b k).1=0):k.cl=false∧aG k<1000∧aG k<k.br+aw k∧(c1 b k).2={ k with ls:=k.ls.set k.me (k.ls.getD k.me []++[b]) }:=by
 unfold c1 at h ⊢;split at h
 ·cases h
 ·split at h
  ·cases h
  ·split at h
   ·cases h
   ·rename_i h1 h2 h3;refine⟨by simpa using h1,by omega,by omega,?_⟩;rw[ag h1,ag h2,ag h3]
theorem vc {k:Ks}{b:UInt8}(h:(c1 b k).1≠0):(c1 b k).2=k:=by
 unfold c1 at h ⊢;split
 ·rfl
 ·rename_i h1;rw[ag h1]at h;split
  ·rfl
  ·rename_i h2;rw[ag h2]at h;split
   ·rfl
   ·rename_i h3;rw[ag h3]at h;exact absurd rfl h
theorem WC.al (h:WC k)(b:UInt8):WC (c1 b k).2:=by
 by_cases h0:(c1 b k).1=0
 ·obtain⟨h1,h2,h3,h4⟩:=vb h0;rw[h4];exact { h with
   ls:=by show (k.ls.set _ _).length=_;rw[bw];exact h.ls
   nE:=λl hl=>by
    rcases mem_set hl with hl | rfl
    ·exact h.nE l hl
    ·rw[aI,jD];simp only[aG]at h2;omega }
 ·rw[vc h0];exact h
theorem held.al (h:held k)(b:UInt8):held (c1 b k).2:=by
 by_cases h0:(c1 b k).1=0
 ·obtain⟨h1,h2,h3,h4⟩:=vb h0;rw[h4];exact h
 ·rw[vc h0];exact h
theorem WC.Zz (h:WC k):WC { k with ev:=[] } :=
 { h with
  bx:=λe he=>by cases he
  o4:=by have:=h.o4;show ([]:List (Nat×Nat×Nat)).length+_+_≤_;simp only[length_nil];omega }
theorem w8 {k:Ks}{i j:Nat}{p:Pe}(hi:i<k.ps.length):(k.ps.set i p).getD j (fC 0)=if j=i then p else au k j:=by
 simp only[au,bl,jZ];by_cases h:i=j
 ·subst h;simp[hi]
 ·rw[ag h,ag (λe=>h e.symm)]
theorem FP {k:Ks}{i:Nat}{p:Pe}(hi:i<k.ps.length)(E:p.apart=(au k i).apart):(k.ps.set i p).countP (λp=>!p.apart)=k.ps.countP (λp=>!p.apart):=by
 have hc:=count_set (p:=p) hi;have pK:au k i=k.ps[i]:=by rw[au,bl,aD hi];rfl
 rw[← pK,E]at hc;omega
theorem WC.y6 (h:WC k){p:Pk}(hp:hY p)(I:p.sum<4294967296)(hn:p.aV<k.n)(hc:k.cl=false):WC (fX k p)∧(held k→held (fX k p)):=by
 have FQ:=hp.1.1;have aF:p.aV.toNat<k.n:=by omega
 have FR:p.aV.toNat<k.ps.length:=by rw[h.ps];exact aF
 have iC:=h.qa aF;unfold fX;split
 ·have kz:=FP (p:={ au k p.aV.toNat with heard:=k.now }) FR rfl;refine⟨h.BE (p:={ au k p.aV.toNat with heard:=k.now }) (cl:=true) ⟨iC.1,iC.2.2⟩ (bf _) (λe he=>?_) ?_,λhh=>hh.of rfl (by simp) λj hj=>?_⟩
  ·rcases eS.1 he with he | he
   ·exact h.bx e he
   ·rw[iH]at he;subst he;have:=h.n;exact⟨by simp,by simp,by show p.aV.toNat<8;omega,by simp,.inr rfl⟩
  ·have:=h.o4;rw[hc]at this;rw[kz,aI,jD];simp at this ⊢;omega
  ·show ((k.ps.set _ _).getD j _).apart=_∧((k.ps.set _ _).getD j _).frame=_∧((k.ps.set _ _).getD j _).sum=_;rw[w8 FR];split
   ·rename_i h1;subst h1;exact⟨rfl,rfl,rfl⟩
   ·exact⟨rfl,rfl,rfl⟩
 ·refine⟨WC.lr ?_,λ_=>LV _⟩;have hk:p.kind=1∧eK p.first∧eK p.da∧eK p.frame∧p.al.length≤32:=by
   rcases hp.2.2.2.2 with h1 | h1
   ·exact h1
   ·rename_i h2;exact absurd h1.1 h2
  have Df:(fW k.now (aG k) p (au k p.aV.toNat)).apart=(au k p.aV.toNat).apart:=by
   unfold fW;simp only;split <;> rfl
  have kz:=FP (p:=fW k.now (aG k) p (au k p.aV.toNat)) FR Df;have ZA:=hk.2.2.1;have ju:=hk.2.2.2.1;simp only[eK]at ZA ju;have gW:=h.lV;have hq:(fW k.now (aG k) p (au k p.aV.toNat)).has≤1000∧(fW k.now (aG k) p (au k p.aV.toNat)).frame≤1000∧(fW k.now (aG k) p (au k p.aV.toNat)).sum<4294967296∧(fW k.now (aG k) p (au k p.aV.toNat)).heard=k.now:=by
   unfold fW;simp only;have h9:(if (au k p.aV.toNat).has<p.da.toNat∧p.da.toNat≤aG k then p.da.toNat else (au k p.aV.toNat).has)≤1000:=by split <;> omega
   split
   ·exact⟨h9,by show p.frame.toNat≤1000;omega,I,rfl⟩
   ·exact⟨h9,iC.2.2.1,iC.2.2.2,rfl⟩
  have h1:=h.BE (p:=fW k.now (aG k) p (au k p.aV.toNat)) (i:=p.aV.toNat) (ev:=k.ev) (cl:=k.cl) ⟨hq.1,hq.2.1,hq.2.2.1⟩ (by rw[hq.2.2.2];exact bf _) h.bx (by rw[kz];exact h.o4);have ic:=h.mq aF;exact { h1 with
   ls:=by show (k.ls.set _ _).length=_;rw[bw];exact h.ls
   nE:=λl hl=>by
    rcases mem_set hl with hl | rfl
    ·exact h.nE l hl
    ·exact (sd ic).2 }
theorem BG {k:Ks}{bs:List UInt8}(h:(dm bs k).1=0):∃ p,ea bs=some p∧k.cl=false∧p.to=k.me∧p.aV<k.n∧p.id=k.id∧(dm bs k).2=fX k p:=by
 unfold dm at h ⊢;split at h
 ·cases h
 ·rename_i h1;rw[ag h1];cases hd:ea bs with
  | none=>rw[hd]at h;cases h
  | some p =>
   rw[hd]at h;simp only at h ⊢;split at h
   ·cases h
   ·rename_i h2;rw[ag h2];have h3:p.to=k.me:=Decidable.of_not_not λhh=>h2 (.inl hh);have h4:p.id=k.id:=Decidable.of_not_not λhh=>h2 (.inr (.inr hh));have h5:p.aV<k.n:=Int.not_le.1 λhh=>h2 (.inr (.inl hh));exact⟨p,rfl,by simpa using h1,h3,h5,h4,rfl⟩
theorem w9 {k:Ks}{bs:List UInt8}(h:(dm bs k).1≠0):(dm bs k).2=k:=by
 unfold dm at h ⊢;split
 ·rfl
 ·rename_i h1;rw[ag h1]at h;cases hd:ea bs with
  | none=>rfl
  | some p =>
   rw[hd]at h;simp only at h ⊢;split
   ·rfl
   ·rename_i h2;rw[ag h2]at h;exact absurd rfl h
theorem WC.recv (h:WC k)(bs:List UInt8):WC (dm bs k).2∧(held k→held (dm bs k).2):=by
 by_cases h0:(dm bs k).1=0
 ·obtain⟨p,h1,h2,h3,h4,h5,h6⟩:=BG h0;obtain⟨h7,h8,h9⟩:=Fi h1;rw[h6];exact h.y6 h7 h8 h4 h2
 ·rw[w9 h0];exact⟨h,λh=>h⟩
theorem xc {k:Ks}{i:Nat}:i∈bG k↔i<k.n∧i≠k.me:=by simp[bG]
theorem WC.BH (h:WC k):WC { k with now:=k.now+1 }:={ h with now:=λp hp=>Nat.le_succ_of_le (h.now p hp) }
theorem WC.late (h:WC k){i:Nat}(hi:i<8)(hc:k.cl=false):WC { k with ev:=k.ev++[(2,i,0)],cl:=true } :=
 { h with
  bx:=λe he=>by
   rcases eS.1 he with he | he
   ·exact h.bx e he
   ·rw[iH]at he;subst he;exact⟨by simp,by simp,hi,by simp,.inr rfl⟩
  o4:=by
   have:=h.o4;rw[hc]at this;rw[aI,jD];simp at this ⊢;omega }
theorem xd (k:Ks):(bt k).2=k∨(k.cl=false∧((bt k).2={ k with now:=k.now+1 }∨∃ i,i<k.n∧(bt k).2={ k with now:=k.now+1,ev:=k.ev++[(2,i,0)],cl:=true })):=by
 unfold bt;split
 ·exact .inl rfl
 ·rename_i hc;refine .inr ⟨by simpa using hc,?_⟩;simp only;cases hf:(bG { k with now:=k.now+1 }).find? (λi=>decide (jE { k with now:=k.now+1 } i)) with
  | none=>exact .inl rfl
  | some i=>exact .inr ⟨i,(xc.1 (List.mem_of_find?_eq_some hf)).1,rfl⟩
theorem WC.tick (h:WC k):WC (bt k).2∧(held k→held (bt k).2):=by
 rcases xd k with h1 | ⟨hc,h1 | ⟨i,hi,h1⟩⟩
 ·rw[h1];exact⟨h,λh=>h⟩
 ·rw[h1];exact⟨h.BH,λh=>h⟩
 ·rw[h1];have:=h.n;exact⟨(h.BH).late (by omega) hc,λh=>h⟩
theorem WC.o5 (h:WC k):WC (cy k).2∧(held k→held (cy k).2):=by
 unfold cy;split
 ·exact⟨h,λh=>h⟩
 ·rename_i hc;refine⟨{ h with o4:=?_ },λh=>h⟩;have:=h.o4;have xT:k.cl=false:=by simpa using hc
  rw[xT]at this;simp at this ⊢;omega
theorem WC.new {c:Cf}(h:eW c):WC (fm c)∧held (fm c)∧fl (fm c)=c:=by
 obtain⟨⟨h1,h2,h3⟩,⟨h4,h5,h6,h7⟩,h8,h9,fh,lN⟩:=h;simp only[fB] at *;refine⟨⟨?_,?_,?_,?_,?_,?_,?_,?_,?_,?_,?_,?_,?_,?_⟩,?_,?_⟩
 ·show 2≤c.n.toNat∧c.n.toNat≤8;omega
 ·show c.me.toNat<c.n.toNat;omega
 ·exact h3
 ·show c.aK.toNat≤8;omega
 ·show 1≤c.br.toNat∧c.br.toNat≤16;omega
 ·simp[fm]
 ·simp[fm]
 ·intro l hl;simp[fm]at hl;rw[hl.2,kH];omega
 ·simp[fm]
 ·intro s I;cases I
 ·intro p hp;simp[fm]at hp;rw[hp.2];exact Nat.zero_le _
 ·intro p hp;simp[fm]at hp;rw[hp.2];refine⟨?_,?_,?_⟩ <;> simp[fC];omega
 ·intro e he;cases he
 ·simp[fm,List.countP_replicate,fC]
 ·intro i hi hb;have h1:(au (fm c) i).frame≤0:=hb.2.2.1;have h2:=hb.2.1;omega
 ·show Cf.mk _ _ _ _ _ _ _ _ _ _=c;simp only[fm];rw[Int.toNat_of_nonneg (by omega),Int.toNat_of_nonneg (by omega),Int.toNat_of_nonneg (by omega),Int.toNat_of_nonneg (by omega)]
end
theorem ZB {p:Pr}{fr:Int}{b:List UInt8}{g:Nat→Int}{aT:Nat}{o:gG}{m:Int}(hg:dR g)(ho:e7 m o):dR (en p fr b g aT o).1:=by
 have qR:=ho;simp only[e7,e6]at qR;unfold en;split
 ·exact hg
 ·split
  ·exact hg
  ·split
   ·exact hg
   ·split
    ·exact n2 hg (hg _ (by omega))
    ·exact n2 hg (Kr hg ho (by assumption) (by assumption))
theorem LX {p:Pr}{fr:Int}{b:List UInt8}(hp:dk p):∀ (n:Nat) {g:Nat→Int} {aT:Nat},dR g→dR (qL p fr b n g aT)
 | 0,_,_,hg=>hg
 | n+1,g,aT,hg=>by
  cases ho:p.ops[aT]? with
  | none =>
   rw [EI (by rcases gQ aT p.ops.length with h | h; · rw [aD h] at ho; cases ho
              ·exact h)];exact hg
  | some o =>
   have h1:=ZB (p:=p) (fr:=fr) (b:=b) (aT:=aT) hg (hp.2 o (bH ho));rw[EH ho];split
   ·exact LX hp n h1
   ·exact h1
theorem LY {p:Pr}{fr:Int}{b:List UInt8}{g:Nat→Int}(hp:dk p)(hg:dR g):dR (e8 p fr b g):=LX hp 200 hg
theorem LZ {p:Pr}(hp:dk p):∀ (l:List (List UInt8)) {fr:Int} {g:Nat→Int},dR g→dR (foldI p fr g l)
 | [],_,_,hg=>hg
 | b::l,_,_,hg=>LZ hp l (LY hp hg)
structure Pl where
 k:Ks
 g:Nat→Int
def ob (p:Pr)(s:Pl):Pl:=⟨lU s.k (gJ (gu (e8 p s.k.mr.length (bJ s.k.ls s.k.mr.length) s.g))),e8 p s.k.mr.length (bJ s.k.ls s.k.mr.length) s.g⟩
def iD (p:Pr):Nat→Pl→Pl
 | 0,s=>s
 | n+1,s=>iD p n (ob p s)
theorem FT (p:Pr):∀ (n:Nat) (s:Pl),iD p (n+1) s=ob p (iD p n s)
 | 0,_=>rfl
 | n+1,s=>by rw[iD,FT p n (ob p s)];rfl
def ez (p:Pr)(s:Pl):Pl:=iD p (aw s.k-s.k.mr.length) s
def o6:Nat→Int:=λ_=>0
theorem ZC:dR o6:=λ_ _=>⟨by simp[o6],by simp[o6]⟩
def lW (p:Pr)(ls:List (List UInt8))(f:Nat):Nat→Int:=foldI p 0 o6 ((List.range f).map (bJ ls))
def kU (p:Pr)(ls:List (List UInt8))(f:Nat):Nat:=gJ (gu (lW p ls (f+1)))
theorem L1 (p:Pr)(ls:List (List UInt8))(f:Nat):lW p ls (f+1)=e8 p f (bJ ls f) (lW p ls f):=by
 rw[lW,range_succ,cW,map_singleton,Ef,a8,length_range,Int.zero_add];rfl
def Ext (ls kV:List (List UInt8)):Prop:=kV.length=ls.length∧∀ i:Nat,i<ls.length→∃ t,kV.getD i []=ls.getD i []++t
theorem Ext.refl (ls:List (List UInt8)):Ext ls ls:=⟨rfl,λi _=>⟨[],by simp⟩⟩
theorem Ext.trans {a b c:List (List UInt8)}(h:Ext a b)(h2:Ext b c):Ext a c:=⟨h2.1.trans h.1,λi hi=>by
 obtain⟨t,ht⟩:=h.2 i hi;obtain⟨u,hu⟩:=h2.2 i (by rw[h.1];exact hi);exact⟨t++u,by rw[hu,ht,dx]⟩⟩
theorem Ext.set {ls:List (List UInt8)}{i:Nat}{t:List UInt8}:Ext ls (ls.set i (ls.getD i []++t)):=by
 refine⟨by simp,λj hj=>?_⟩;by_cases h:i=j
 ·subst h;exact⟨t,by simp[bl,hj]⟩
 ·exact⟨[],by simp[bl,getElem?_set_ne h]⟩
theorem getD_map {ls:List (List UInt8)}{f i:Nat}(h:i<ls.length):(bJ ls f)[i]?=some ((ls.getD i []).getD f 0):=by
 rw[bJ,bn,aD h,bl (l:=ls),aD h];rfl
theorem Ext.FU {ls kV:List (List UInt8)}(h:Ext ls kV){f:Nat}(hf:f<aU ls):bJ kV f=bJ ls f:=by
 apply ext_getElem?;intro i;by_cases hi:i<ls.length
 ·rw[getD_map (by rw[h.1];exact hi),getD_map hi];obtain⟨t,ht⟩:=h.2 i hi;have hl:=w4 (va hi);rw[ht,bl,mA (by omega),← bl]
 ·rw[js (by rw[nC,h.1];omega),js (by rw[nC];omega)]
theorem Ext.front {ls kV:List (List UInt8)}(h:Ext ls kV)(h0:ls≠[]):aU ls≤aU kV:=by
 refine FL (λh1=>?_) λl hl=>?_
 ·have:=h.1;rw[h1]at this;exact h0 (g4 this.symm)
 ·obtain⟨i,hi,rfl⟩:=yZ hl;have vV:i<ls.length:=by rw[← h.1];exact hi
  obtain⟨t,ht⟩:=h.2 i vV;have h3:=w4 (va vV);rw[bl,aD hi]at ht;simp only[Option.getD_some]at ht;rw[ht,aI];omega
theorem Ext.lW {ls kV:List (List UInt8)}(h:Ext ls kV){p:Pr}{f:Nat}(hf:f≤aU ls):lW p kV f=lW p ls f:=by
 unfold Go.Proofs.YteoldcfapaiobaaGreat.lW
 congr 1
 refine List.map_congr_left λi hi=>h.FU ?_;rw[mem_range]at hi;omega
theorem Ext.kU {ls kV:List (List UInt8)}(h:Ext ls kV){p:Pr}{f:Nat}(hf:f<aU ls):kU p kV f=kU p ls f:=by
 rw[Go.Proofs.YteoldcfapaiobaaGreat.kU,h.lW (by omega)];rfl
structure WP (p:Pr)(s:Pl):Prop where
 wc:WC s.k
 held:held s.k
 low:s.k.mr.length≤aw s.k
 sg:s.g=lW p s.k.ls s.k.mr.length
 marks:s.k.mr=(List.range s.k.mr.length).map (kU p s.k.ls)
section
variable {p:Pr}{s:Pl}
theorem WP.qc (h:WP p s)(hp:dk p):dR s.g:=by rw[h.sg];exact LZ hp _ ZC
theorem WC.lu {k:Ks}(h:WC k):k.ls≠[]:=λe=>by
 have:=h.ls;have:=h.n;rw[e] at *;simp at *;omega
theorem WP.one (h:WP p s)(hl:s.k.mr.length<aw s.k):WP p (ob p s)∧(ob p s).k.ls=s.k.ls∧(ob p s).k.mr.length=s.k.mr.length+1:=by
 have h9:=h.wc.nF;have h8:=h.wc.lV;obtain⟨ps,ev,h1,h2⟩:=LW s.k (gJ (gu (e8 p s.k.mr.length (bJ s.k.ls s.k.mr.length) s.g))) (by omega);have hk:(ob p s).k={ s.k with ps:=ps,ev:=ev,mr:=s.k.mr++[gJ (gu (e8 p s.k.mr.length (bJ s.k.ls s.k.mr.length) s.g))] }:=h1;have hm:(ob p s).k.mr.length=s.k.mr.length+1:=by rw[hk];simp
 have fb:(ob p s).k.ls=s.k.ls:=by rw[hk]
 have hg:e8 p s.k.mr.length (bJ s.k.ls s.k.mr.length) s.g=lW p s.k.ls (s.k.mr.length+1):=by rw[L1,h.sg]
 refine⟨⟨h.wc.mark (yL _),?_,?_,?_,?_⟩,fb,hm⟩
 ·show Go.Proofs.YteoldcfapaiobaaGreat.held (lU _ _);rw[lU];exact LV _
 ·rw[hm,aw,fb];exact hl
 ·rw[hm,fb];exact hg
 ·rw[hm,fb,hk,range_succ,cW,← h.marks,hg];rfl
theorem WP.q0:∀ (n:Nat) {s:Pl},WP p s→n≤aw s.k-s.k.mr.length→WP p (iD p n s)∧(iD p n s).k.ls=s.k.ls∧(iD p n s).k.mr.length=s.k.mr.length+n
 | 0,_,h,_=>⟨h,rfl,rfl⟩
 | n+1,s,h,hn=>by
  obtain⟨h1,h2,h3⟩:=h.one (by omega);obtain⟨h4,h5,h6⟩:=h1.q0 n (by rw[aw,h2,h3];simp only[aw]at hn;omega);exact⟨h4,h5.trans h2,by rw[iD,h6,h3];omega⟩
theorem ZD (h:s.k.mr.length<1000):∃ ps ev mr,(ob p s).k={ s.k with ps:=ps,ev:=ev,mr:=mr }:=by
 obtain⟨ps,ev,h1,h2⟩:=LW s.k (gJ (gu (e8 p s.k.mr.length (bJ s.k.ls s.k.mr.length) s.g))) h;exact⟨ps,ev,_,h1⟩
theorem WP.L2:∀ (n:Nat) {s:Pl},WP p s→n≤aw s.k-s.k.mr.length→∃ ps ev mr,(iD p n s).k={ s.k with ps:=ps,ev:=ev,mr:=mr }
 | 0,s,h,_=>⟨s.k.ps,s.k.ev,s.k.mr,rfl⟩
 | n+1,s,h,hn=>by
  have h9:=h.wc.nF;have h8:=h.wc.lV;obtain⟨h1,h2,h3⟩:=h.one (by omega);obtain⟨ps,ev,mr,h4⟩:=h1.L2 n (by rw[aw,h2,h3];simp only[aw]at hn;omega);obtain⟨gp,LS,mr',h5⟩:=ZD (p:=p) (s:=s) (by omega);exact⟨ps,ev,mr,by rw[iD,h4,h5]⟩
structure cu (p:Pr)(s:Pl):Prop extends WP p s where
 full:s.k.mr.length=aw s.k
theorem WP.ez (h:WP p s):cu p (ez p s)∧(ez p s).k.ls=s.k.ls∧∃ ps ev mr,(Go.Proofs.YteoldcfapaiobaaGreat.ez p s).k={ s.k with ps:=ps,ev:=ev,mr:=mr }:=by
 obtain⟨h1,h2,h3⟩:=h.q0 _ (bf _);have hl:=h.low;refine⟨⟨h1,?_⟩,h2,h.L2 _ (bf _)⟩;show (iD p _ s).k.mr.length=aU (iD p _ s).k.ls;rw[h3,h2];show _=aw s.k;omega
theorem cu.ez (h:cu p s):ez p s=s:=by rw[Go.Proofs.YteoldcfapaiobaaGreat.ez,h.full,Nat.sub_self];rfl
theorem WP.more {k':Ks}(h:WP p s)(hw:WC k')(hh:Go.Proofs.YteoldcfapaiobaaGreat.held k')(hm:k'.mr=s.k.mr)(he:Ext s.k.ls k'.ls):WP p ⟨k',s.g⟩:=by
 have hf:=he.front h.wc.lu;have hl:=h.low;refine⟨hw,hh,?_,?_,?_⟩
 ·show k'.mr.length≤aU k'.ls;rw[hm];simp only[aw]at hl;omega
 ·show s.g=lW p k'.ls k'.mr.length;rw[hm,he.lW hl];exact h.sg
 ·show k'.mr=(List.range k'.mr.length).map (kU p k'.ls);rw[hm]
  conv=>lhs;rw[h.marks]
  refine List.map_congr_left λi hi=>?_;rw[mem_range]at hi;simp only[aw]at hl;rw[he.kU (by omega)]
def dK (p:Pr)(b:UInt8)(s:Pl):Int×Pl:=((c1 b s.k).1,ez p ⟨(c1 b s.k).2,s.g⟩)
noncomputable def dB (p:Pr)(bs:List UInt8)(s:Pl):Int×Pl:=((dm bs s.k).1,ez p ⟨(dm bs s.k).2,s.g⟩)
def lX (s:Pl):List UInt8×Nat:=(gu s.g,aw s.k)
theorem L3 (l:List UInt8)(f:Nat)(b:List UInt8):∃ t,du l f b=l++t:=by
 unfold du;split
 ·exact⟨[],by simp⟩
 ·exact⟨_,rfl⟩
theorem FV {k:Ks}{p:Pk}:(fX k p).mr=k.mr∧Ext k.ls (fX k p).ls:=by
 unfold fX;split
 ·exact⟨rfl,Ext.refl _⟩
 ·obtain⟨ps,ev,h1,_⟩:=w7 { k with ls:=k.ls.set p.aV.toNat (du (k.ls.getD p.aV.toNat []) p.first.toNat p.al),ps:=k.ps.set p.aV.toNat (fW k.now (aG k) p (au k p.aV.toNat)) };rw[h1];obtain⟨t,ht⟩:=L3 (k.ls.getD p.aV.toNat []) p.first.toNat p.al;refine⟨rfl,?_⟩;show Ext k.ls (k.ls.set _ _);rw[ht];exact Ext.set
theorem vd (b:UInt8)(k:Ks):(c1 b k).2.mr=k.mr∧Ext k.ls (c1 b k).2.ls:=by
 by_cases h0:(c1 b k).1=0
 ·obtain⟨h1,h2,h3,h4⟩:=vb h0;rw[h4];exact⟨rfl,Ext.set⟩
 ·rw[vc h0];exact⟨rfl,Ext.refl _⟩
theorem sh (bs:List UInt8)(k:Ks):(dm bs k).2.mr=k.mr∧Ext k.ls (dm bs k).2.ls:=by
 by_cases h0:(dm bs k).1=0
 ·obtain⟨p,h1,h2,h3,h4,h5,h6⟩:=BG h0;rw[h6];exact FV
 ·rw[w9 h0];exact⟨rfl,Ext.refl _⟩
theorem cu.al (h:cu p s)(b:UInt8):cu p (dK p b s).2:=by
 have h1:=vd b s.k;exact (h.toWP.more (h.wc.al b) (h.held.al b) h1.1 h1.2).ez.1
theorem cu.recv (h:cu p s)(bs:List UInt8):cu p (dB p bs s).2:=by
 have h1:=sh bs s.k;exact (h.toWP.more (h.wc.recv bs).1 ((h.wc.recv bs).2 h.held) h1.1 h1.2).ez.1
theorem cu.with {k':Ks}(h:cu p s)(hw:WC k')(hh:Go.Proofs.YteoldcfapaiobaaGreat.held k')(hm:k'.mr=s.k.mr)(he:k'.ls=s.k.ls):cu p ⟨k',s.g⟩:=by
 refine⟨h.toWP.more hw hh hm (by rw[he];exact Ext.refl _),?_⟩;show k'.mr.length=aU k'.ls;rw[hm,he];exact h.full
theorem BI (k:Ks):(bt k).2.mr=k.mr∧(bt k).2.ls=k.ls:=by
 rcases xd k with h1 | ⟨hc,h1 | ⟨i,hi,h1⟩⟩ <;> rw[h1] <;> exact⟨rfl,rfl⟩
theorem FW (k:Ks):(cy k).2.mr=k.mr∧(cy k).2.ls=k.ls:=by
 unfold cy;split <;> exact⟨rfl,rfl⟩
theorem cu.tick (h:cu p s):cu p ⟨(bt s.k).2,s.g⟩:=h.with h.wc.tick.1 (h.wc.tick.2 h.held) (BI _).1 (BI _).2
theorem cu.o5 (h:cu p s):cu p ⟨(cy s.k).2,s.g⟩:=h.with h.wc.o5.1 (h.wc.o5.2 h.held) (FW _).1 (FW _).2
theorem cu.told (h:cu p s):cu p ⟨{ s.k with ev:=[] },s.g⟩:=h.with h.wc.Zz (λi hi=>h.held i hi) rfl rfl
def eA (p:Pr)(c:Cf):Pl:=ez p ⟨fm c,o6⟩
theorem xe {c:Cf}(h:eW c):WP p ⟨fm c,o6⟩:=by
 obtain⟨h1,h2,h3⟩:=WC.new h;exact⟨h1,h2,Nat.zero_le _,rfl,rfl⟩
theorem cu.new {c:Cf}(h:eW c):cu p (eA p c):=(xe h).ez.1
end
section
variable {p:Pr}{me:Nat}{ls:List (List UInt8)}{s:Pl}{k:Ks}
theorem L5 (h:WP p s):(ez p s).k.n=s.k.n∧(ez p s).k.me=s.k.me∧(ez p s).k.id=s.k.id∧(ez p s).k.cl=s.k.cl∧(ez p s).k.br=s.k.br∧(ez p s).k.now=s.k.now∧(ez p s).k.ls=s.k.ls:=by
 obtain⟨_,h2,ps,ev,mr,h3⟩:=h.ez;rw[h3];exact⟨rfl,rfl,rfl,rfl,rfl,rfl,rfl⟩
theorem L6 (p:Pk):(aS p).length≤507:=by
 unfold aS;split
 ·rename_i h;have:=K3 h;rw[wV];omega
 ·simp
end
end
section
def BJ:TypeDesc→Bool | .interface _=>true | _=>false
section
variable {P:Program}{a:Act}{w:World}{n:Nat}{l:List (Nat×Value)}{v:Value}
theorem FX {x t FY eh dst ty ps af g}(E:Fr a n l)(ht:P.underlying t=some eh)(hd:BJ eh=false)[e:Ev l x (.iface t v)] :
   (execOp a.eval ⟨dst,.typeAssert x FY t true,ty,ps,af,g⟩).run P w=.ok (.value (.tuple #[v,.bool true])) w:=by
 cases eh <;> first | (simp[BJ]at hd) | skip
 all_goals simp[execOp,e.ev a n E,Instr.typeAssert,eO ht]
theorem FZ {x t t' FY eh dst z sz a1 ty ps af g}(E:Fr a n l)(ht:P.underlying t=some eh)(hd:BJ eh=false)(hi:TI P t z sz a1)(hn:Nat.beq t' t=false)[e:Ev l x (.iface t' v)] :
   (execOp a.eval ⟨dst,.typeAssert x FY t true,ty,ps,af,g⟩).run P w=.ok (.value (.tuple #[z,.bool false])) w:=by
 have bD:¬ t'=t:=λh=>by rw[h,Nat.beq_refl]at hn;cases hn
 cases eh <;> first | (simp[BJ]at hd) | skip
 all_goals simp[execOp,e.ev a n E,Instr.typeAssert,eO ht,uk hi,bD]
end
abbrev km:=Nat×Nat×Nat
def tH (e:km):Prop:=e.1≤3∧1≤e.1∧e.2.1<8∧e.2.2≤1000∧(e.1=3∨e.2.2=0)
def cA (e:km):Value:=if e.1=1 then .iface 210 (.agg #[.int .i64 e.2.1]) else if e.1=2 then .iface 211 (.agg #[.int .i64 e.2.1]) else .iface 213 (.agg #[.int .i64 e.2.1,.int .i64 e.2.2])
theorem F0 (e:km):(cA e).oneCell'=true:=by
 unfold cA;split
 ·rfl
 ·split <;> rfl
instance {e:km}:One (cA e):=⟨F0 e⟩
abbrev bW (e:km):List Value:=[.int .i64 e.1,.int .i64 e.2.1,.int .i64 e.2.2]
theorem BK (e:km):(bW e).length=3:=rfl
theorem F1 (e:km):∀ v∈bW e,v.oneCell'=true:=by
 intro v hv;simp[bW]at hv;rcases hv with rfl | rfl | rfl <;> rfl
section
variable {W w:World}{L:List SP}{e:km}
theorem ZE (I:U W w L)(h:tH e):Calls prog 231 #[.agg (bW e).toArray] w λr w'=>r=.returned (.tuple #[.agg #[cA e],.bool true])∧U W w' L:=by
 obtain⟨h1,h2,h3,h4,h5⟩:=h;refine EN func231 ntmps231 rfl rfl λa E=>?_;refine BX 1 E I λb1 a w E I=>?_;change U W w (aa b1 102 (bW e)::_) at I;refine AL 0 E I λb2 a w E I=>?_;refine RN 7 E I λa E=>?_;rw[bo (by omega)]at E;refine RN 5 E I λa E=>?_;rw[bo (by omega)]at E;refine RN 5 E I λa E=>?_;rw[bo (by omega)]at E;refine RN 5 E I λa E=>?_;rw[bo (by omega)]at E;refine BY 4 E I (λp6 a E=>?_) λp6 a E=>?_
 ·
  refine RN 5 E I λa E=>?_;rw[bo (by omega)]at E;refine IF 8 E I (λao a E=>?_) λao a E=>?_
  ·
   refine SA 6 E I λa w E I=>?_;refine RT 1 E I ?_;exact⟨by rw[cA,ak (by omega)],I.sub⟩
  refine IF 3 E I (λay a E=>?_) λay a E=>?_
  ·
   refine SA 6 E I λa w E I=>?_;refine RT 1 E I ?_;exact⟨by rw[cA,ag (by omega),ak (by omega)],I.sub⟩
  refine IF 3 E I (λbd a E=>?_) λbd a E=>?_
  ·
   refine SA 8 E I λa w E I=>?_;refine RT 1 E I ?_;exact⟨by rw[cA,ag (by omega),ag (by omega)],I.sub⟩
  exfalso;omega
 refine IF 13 E I (λao a E=>?_) λao a E=>?_
 ·
  refine SA 6 E I λa w E I=>?_;refine RT 1 E I ?_;exact⟨by rw[cA,ak (by omega)],I.sub⟩
 refine IF 3 E I (λay a E=>?_) λay a E=>?_
 ·
  refine SA 6 E I λa w E I=>?_;refine RT 1 E I ?_;exact⟨by rw[cA,ag (by omega),ak (by omega)],I.sub⟩
 refine IF 3 E I (λbd a E=>?_) λbd a E=>?_
 ·
  refine SA 8 E I λa w E I=>?_;refine RT 1 E I ?_;exact⟨by rw[cA,ag (by omega),ag (by omega)],I.sub⟩
 exfalso;omega
theorem ZF (I:U W w L)(h:tH e)(hk:e.1=1):Calls prog 80 #[.agg #[cA e]] w λr w'=>r=.returned (.agg (bW e).toArray)∧U W w' L:=by
 have he:cA e=.iface 210 (.agg #[.int .i64 e.2.1]):=by rw[cA,ak hk]
 have hz:e.2.2=0:=by have:=h.2.2.2.2;omega
 rw[he];refine EN func80 ntmps80 rfl rfl λa E=>?_;refine BX 1 E I λb1 a w E I=>?_;refine AL 0 E I λb2 a w E I=>?_;refine RN 5 E I λa E=>?_;refine SK (bm E rfl (FX E underlying210 rfl) rfl ?_);clear E a;intro a E;refine RN 2 E I λa E=>?_;replace E:=E.ei 9;refine AL 2 E I λb3 a w E I=>?_
 skip
 refine SA 0 E I λa w E I=>?_;refine SA 4 E I λa w E I=>?_;refine RT 0 E I ?_;exact⟨by rw[bW,hk,hz];rfl,I.sub⟩
theorem ZG (I:U W w L)(h:tH e)(hk:e.1=2):Calls prog 80 #[.agg #[cA e]] w λr w'=>r=.returned (.agg (bW e).toArray)∧U W w' L:=by
 have he:cA e=.iface 211 (.agg #[.int .i64 e.2.1]):=by rw[cA,ag (by omega),ak hk]
 have hz:e.2.2=0:=by have:=h.2.2.2.2;omega
 rw[he];refine EN func80 ntmps80 rfl rfl λa E=>?_;refine BX 1 E I λb1 a w E I=>?_;refine AL 0 E I λb2 a w E I=>?_;refine RN 5 E I λa E=>?_;refine SK (bm E rfl (FZ E underlying210 rfl Ty.t210 rfl) rfl ?_);clear E a;intro a E;refine RN 2 E I λa E=>?_;replace E:=E.aM 9;refine RN 2 E I λa E=>?_;refine SK (bm E rfl (FX E underlying211 rfl) rfl ?_);clear E a;intro a E;refine RN 2 E I λa E=>?_;replace E:=E.ei 15;refine AL 2 E I λb4 a w E I=>?_;refine SA 0 E I λa w E I=>?_;refine SA 4 E I λa w E I=>?_;refine RT 0 E I ?_;exact⟨by rw[bW,hk,hz];rfl,I.sub⟩
theorem ZH (I:U W w L)(h:tH e)(hk:e.1=3):Calls prog 80 #[.agg #[cA e]] w λr w'=>r=.returned (.agg (bW e).toArray)∧U W w' L:=by
 have he:cA e=.iface 213 (.agg #[.int .i64 e.2.1,.int .i64 e.2.2]):=by rw[cA,ag (by omega),ag (by omega)]
 rw[he];refine EN func80 ntmps80 rfl rfl λa E=>?_;refine BX 1 E I λb1 a w E I=>?_;refine AL 0 E I λb2 a w E I=>?_;refine RN 5 E I λa E=>?_;refine SK (bm E rfl (FZ E underlying210 rfl Ty.t210 rfl) rfl ?_);clear E a;intro a E;refine RN 2 E I λa E=>?_;replace E:=E.aM 9;refine RN 2 E I λa E=>?_;refine SK (bm E rfl (FZ E underlying211 rfl Ty.t211 rfl) rfl ?_);clear E a;intro a E;refine RN 2 E I λa E=>?_;replace E:=E.aM 15;refine RN 2 E I λa E=>?_;refine SK (bm E rfl (FX E underlying213 rfl) rfl ?_);clear E a;intro a E;refine RN 2 E I λa E=>?_;replace E:=E.ei 21;refine AL 2 E I λb5 a w E I=>?_;refine SA 0 E I λa w E I=>?_;refine SA 6 E I λa w E I=>?_;refine RT 0 E I ?_;exact⟨by rw[bW,hk];rfl,I.sub⟩
theorem ZI (I:U W w L)(h:tH e):Calls prog 80 #[.agg #[cA e]] w λr w'=>r=.returned (.agg (bW e).toArray)∧U W w' L:=by
 have h1:=h.1;have h2:=h.2.1;by_cases k1:e.1=1
 ·exact ZF I h k1
 ·by_cases k2:e.1=2
  ·exact ZG I h k2
  ·exact ZH I h (by omega)
end
end
end Go.Proofs.YteoldcfapaiobaaGreat
