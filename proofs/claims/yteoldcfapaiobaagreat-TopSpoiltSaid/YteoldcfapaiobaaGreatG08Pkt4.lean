/- Packets out of bytes: quintainref12.Unpacket. -/
import Derived.Test.YteoldcfapaiobaaGreatG07Get
import Derived.Test.YteoldcfapaiobaaGreatG06Ref
import Derived.Test.YteoldcfapaiobaaGreatG01Row
import Derived.Test.YteoldcfapaiobaaGreatG05Vm
namespace Go.Proofs.YteoldcfapaiobaaGreat
open Tryz
open List (length_range drop_zero drop_left take_zero map_cons length_nil mem_range drop_eq_nil_of_le eraseIdx_set_eq append_nil ext_getElem? range_succ getElem?_set_ne replicate_succ' map_singleton)
open Go.RowKit
set_option linter.unusedVariables false
set_option linter.unusedSimpArgs false
set_option maxRecDepth 10000
set_option synthInstance.maxSize 4000
set_option synthInstance.maxHeartbeats 400000
section
def w9 (q:Pk):Nat→Int
 | 0=>q.id
 | 1=>q.first
 | 2=>q.dc
 | _=>q.frame
def xc (q:Pk):Nat→List UInt8
 | 0=>ll q
 | 1=>ny q
 | 2=>aQ (zz q.dc)++(aQ (zz q.frame)++mw q)
 | 3=>aQ (zz q.frame)++mw q
 | _=>mw q
theorem FL {bs:List UInt8}{q:Pk}(h:g9 bs q):(q.kind=1∧eM q.first∧eM q.dc∧eM q.frame∧q.al.length≤32∧ny q=aQ (zz q.first)++(aQ (zz q.dc)++(aQ (zz q.frame)++mw q))) ∨
   (q.kind=2∧q.first=0∧q.dc=0∧q.frame=0∧q.al=[]∧q.sum=0):=by
 rcases h.1.2.2.2.2 with k | k
 ·exact .inl ⟨k.1,k.2.1,k.2.2.1,k.2.2.2.1,k.2.2.2.2,by rw[ny,ak k.1]⟩
 ·exact .inr ⟨k.1,k.2.1,k.2.2.1,k.2.2.2.1,gG k.2.2.2.2.1,k.2.2.2.2.2⟩
theorem LI {bs:List UInt8}{q:Pk}{n i:Nat}(h:g9 bs q)(hn:n=if (bs.getD 0 0).toNat=1 then 4 else 1)(hi:i<n) :
   xc q i=aQ (zz (w9 q i))++xc q (i+1)∧0≤w9 q i∧w9 q i≤1099511627776:=by
 have h0:=(FI h).1.1;have b6:=h.1.2.2.2.1;rcases FL h with k | k
 ·obtain⟨tJ,k1,k2,k3,lp,y2⟩:=k;unfold eM at k1 k2 k3;rw[ak (by omega)]at hn;rcases (by omega:i=0∨i=1∨i=2∨i=3) with rfl | rfl | rfl | rfl
  ·exact⟨rfl,b6.1,b6.2⟩
  ·exact⟨y2,by show 0≤q.first;omega,by show q.first≤_;omega⟩
  ·exact⟨rfl,by show 0≤q.dc;omega,by show q.dc≤_;omega⟩
  ·exact⟨rfl,by show 0≤q.frame;omega,by show q.frame≤_;omega⟩
 ·rw[ag (by omega)]at hn;obtain rfl:i=0:=by omega
  exact⟨rfl,b6.1,b6.2⟩
theorem FM {bs X:List UInt8}{n i aO k:Nat}{x er:Int}(hn:n=if (bs.getD 0 0).toNat=1 then 4 else 1)(hi:i<n)(hq:∀ q,g9 bs q→X.drop aO=xc q i)(hg:mv (X.drop aO) x k er)
   (hb:er≠0∨x<0∨1099511627776<x):dN bs=none:=n4 λ⟨q,h⟩=>by
 obtain⟨h1,h2,h3⟩:=LI h hn hi;obtain⟨e1,e2,e3⟩:=hg.2.2.2.2 (w9 q i) (xc q (i+1)) (by omega) (by omega) (by rw[hq q h,h1]);omega
section
variable {W w:World}{L:List SP}{n c m:Nat}{ad:Option Addr}{bs:List UInt8}{p:Pk}
theorem Zd (I:U W w L)(hb:bs.length≤65536)(hc:bs.length≤c)(hp:∀ w',U W w' L→aX w' ad bs.length bs) :
   Calls prog 189 #[.slice ad bs.length c] w λe w'=>∃ (p:Pk) (adP:Option Addr) (cP:Nat) (ok:Bool),e=.returned (.tuple #[.agg (dO p adP cP).toArray,.bool ok])∧(ok=true→dN bs=some p)∧(ok=false→dN bs=none)∧U W w' (Sl 5 1 adP p.al.length cP (bc p.al)::L):=by
 have sg:∀ {w'},U W w' L→dN bs=none→∃ (p:Pk) (adP:Option Addr) (cP:Nat) (ok:Bool),Ending.returned (.tuple #[.agg (dO nx none 0).toArray,.bool false])=.returned (.tuple #[.agg (dO p adP cP).toArray,.bool ok])∧(ok=true→dN bs=some p)∧(ok=false→dN bs=none)∧U W w' (Sl 5 1 adP p.al.length cP (bc p.al)::L) :=
  λI bQ=>⟨nx,none,0,false,rfl,λh=>(by cases h),λ_=>bQ,I.bM _ _ _⟩
 refine EN func189 ntmps189 rfl rfl λa E=>?_;refine AL 1 E I λb2 a w E I=>?_;refine IF 6 E I (λaj a E=>?_) λaj a E=>?_
 ·
  have bQ:dN bs=none:=Bp λq hq=>by
   have:=dd List.length hq.2.2;have hm:1≤(ll q).length:=by rw[ll,aJ];have:=rV (zz q.id);omega
   rw[w3]at this;omega
  refine SA 2 E I λa w E I=>?_;refine RT 1 E I ?_;exact sg I.tail bQ
 obtain⟨bb,oo,rfl,_⟩:=(hp _ I.tail).get (by omega);have h7:8≤bs.length:=by omega
 refine RN 5 E I λa E=>?_;rw[show (bs.length:Int)-4=((bs.length-4:Nat):Int) from by omega]at E;refine RN 1 E I λa E=>?_;obtain⟨X,iA⟩:∃ X,X=(bs.drop 3).take (bs.length-7):=⟨_,rfl⟩;have Ze:X.length=bs.length-7:=by rw[iA,eA,c7];omega
 have hr:q0 W L (ft (some ⟨bb,oo,none⟩) 3 c 1) (c-3) X:=⟨by omega,by omega,λw' hw=>by
  rw[Ze,iA];exact ((hp w' hw).u3 (lo:=3) (by omega) hc).E5 (by rw[c7];omega)⟩
 have mn:∀ q,g9 bs q→(q.kind=((bs.getD 0 0).toNat:Int)∧q.aW=((bs.getD 1 0).toNat:Int)∧q.to=((bs.getD 2 0).toNat:Int))∧X=ll q:=λq h=>by
  rw[iA];exact FI h
 rw[show bs.length-4-3=X.length from by omega]at E;have hXp:1≤X.length:=by omega
 obtain⟨mW,oU,Zf,_⟩:=(hr.rd _ I.tail).get (by omega);rw[Zf]at E hr;generalize c-3=et at E hr;clear iA;refine aV 2 (λw0 w=>Rd w bb oo (bc bs)) [6,7,10,11,13] [0,1,4,5,8,9,3002,3,3006,3007,3010,3011,12,1013,1014] E I λa w E I hH=>?_;have hC:Rd w bb oo (bc bs):=(hp _ I.tail).rd (by omega);refine RH 6 E I hH hC λa E=>?_;refine QH E (λw hc=>ae E (hc 0 _ (ln (by omega)))) hC λa E=>?_;refine QP E (λw=>pH E underlying5 underlying3 (tH _)) λa E=>?_;refine QH E (λw hc=>ae E (hc 1 _ (ln (by omega)))) hC λa E=>?_;refine QH E (λw hc=>pH E underlying5 underlying3 (tH _)) hC λa E=>?_;refine QH E (λw hc=>ae E (hc 2 _ (ln (by omega)))) hC λa E=>?_;refine QH E (λw hc=>pH E underlying5 underlying3 (tH _)) hC λa E=>?_;refine RH 1 E I hH hC λa E=>?_;refine eZ E rfl I Ty.t203 rfl λb5 a w E I ho=>?_;clear ho;replace hC:=hH.at w ((hp _ I.tail.tail).rd (by omega));refine RH 0 E I hH hC λa E=>?_;refine SA 0 E I λa w E I=>?_;refine AL 1 E I λcH a w E I=>?_;refine RN 4 E I λa E=>?_;refine cc (M:=λa w=>∃ n:Nat,n=(if (bs.getD 0 0).toNat=1 then 4 else 1)∧Fr a 153 [(0,.slice (some ⟨bb,oo,none⟩) bs.length c),(2,pt b2),(4,.slice (some ⟨mW,oU,none⟩) X.length et),(5,pt b5),(6,pt cH),(7,.int .i64 (0:Nat)),(8,.int .i64 n)]∧U W w (aa cH 345 (ints .i64 4 (λ_=>0))::aa b5 203 (dO ⟨((bs.getD 0 0).toNat:Int),((bs.getD 1 0).toNat:Int),((bs.getD 2 0).toNat:Int),0,0,0,0,0,[]⟩ none 0)::aa b2 203 (dO nx none 0)::L)) ?_ ?_
 ·
  refine IF 4 E I (λao a E=>?_) λao a E=>?_
  ·
   refine RN 1 E I λa E=>?_;exact⟨4,by rw[ak (by omega)],E.ab [0,2,4,5,6,7,8],I⟩
  refine RN 0 E I λa E=>?_;exact⟨1,by rw[ag (by omega)],E.ab [0,2,4,5,6,7,8],I⟩
 clear E;(try clear I);rintro a w ⟨n,hn,E,I⟩;refine RN 3 E I λa E=>?_;refine aN (λμ a w=>∃ (i k:Nat) (g:Nat→Int),(μ=n-i∧i≤n∧k≤X.length∧(∀ j,i≤j→g j=0)∧∀ q,g9 bs q→X.drop k=xc q i∧∀ j,j<i→g j=w9 q j)∧Fr a 153 [(0,.slice (some ⟨bb,oo,none⟩) bs.length c),(2,pt b2),(4,.slice (some ⟨mW,oU,none⟩) X.length et),(5,pt b5),(6,pt cH),(7,.int .i64 k),(8,.int .i64 n),(9,.int .i64 i)]∧U W w (aa cH 345 (ints .i64 4 g)::aa b5 203 (dO ⟨((bs.getD 0 0).toNat:Int),((bs.getD 1 0).toNat:Int),((bs.getD 2 0).toNat:Int),0,0,0,0,0,[]⟩ none 0)::aa b2 203 (dO nx none 0)::L)) (n) (⟨0,0,λ_=>0,⟨rfl,by omega,by omega,λ_ _=>rfl,λq h=>⟨by rw[drop_zero];exact (mn q h).2,λj hj=>absurd hj (by omega)⟩⟩,E.ab [0,2,4,5,6,7,8,9],I⟩) ?_;clear E I;rintro μ a w ⟨i,k,g,⟨rfl,hi,hk,BA,va⟩,E,I⟩;refine IF 5 E I (λay a E=>?_) λay a E=>?_
 ·
  have cD:i<n:=by omega
  have qz:i<4:=by rw[hn]at cD;split at cD <;> omega
  have fX:=hr.cut hk;have hlk:=fX.len;refine RN 5 E I λa E=>?_;rw[show X.length-k=(X.drop k).length from by simp]at E;refine j3 0 E I (Fp (bs:=X.drop k) I (by omega) (λw' hw=>fX.rd w' hw.tail.tail.tail)) λx m er a w E ⟨nq,I⟩=>?_;refine BY 12 E I (λbA a E=>?_) λbA a E=>?_
  ·
   refine SA 10 E I λa w E I=>?_;refine RT 1 E I ?_;have bQ:=FM hn cD (λq h=>(va q h).1) nq (.inl (by simpa using bA));exact sg I.tail.tail.tail bQ
  refine BY 4 E I (λkc a E=>?_) λkc a E=>?_
  ·
   refine SA 6 E I λa w E I=>?_;refine RT 1 E I ?_;have bQ:=FM hn cD (λq h=>(va q h).1) nq (.inr (.inl (by simpa using kc)));exact sg I.tail.tail.tail bQ
  refine IF 3 E I (λbk a E=>?_) λbk a E=>?_
  ·
   refine SA 2 E I λa w E I=>?_;refine RT 1 E I ?_;have bQ:=FM hn cD (λq h=>(va q h).1) nq (.inr (.inr (by simpa using bk)));exact sg I.tail.tail.tail bQ
  refine ST 4 E I (λa w E I=>?_) (hlt:=(by rw[dj];omega));rw[ints_set,show (λj=>if j=i then x else g j)=ck g i x from rfl]at I;refine RN 0 E I λa E=>?_;have Zg:=(nq.2.2.1 (by simpa using bA)).2;rw[c7]at Zg;refine RN 7 E I λa E=>?_;refine⟨n-(i+1),by omega,i+1,k+m,ck g i x,⟨rfl,by omega,?_,?_,λq h=>?_⟩,E.ab [0,2,4,5,6,7,8,9],I⟩
  ·have:=(nq.2.2.1 (by simpa using bA)).2;rw[c7]at this;omega
  ·intro j hj;rw[ck,ag (by omega)];exact BA j (by omega)
  ·obtain⟨h1,h2⟩:=va q h;obtain⟨h3,h4,h5⟩:=LI h hn cD;obtain⟨e1,e2,e3⟩:=nq.2.2.2.2 (w9 q i) (xc q (i+1)) (by omega) (by omega) (by rw[h1,h3]);refine⟨by rw[← kA,h1,h3,e2,drop_left],λj hj=>?_⟩;by_cases gU:j=i
   ·subst gU;rw[ck,ak rfl,e1]
   ·rw[ck,ag gU];exact h2 j (by omega)
 obtain rfl:i=n:=by omega
 rw[show dO ⟨((bs.getD 0 0).toNat:Int),((bs.getD 1 0).toNat:Int),((bs.getD 2 0).toNat:Int),0,0,0,0,0,[]⟩ none 0=[.int .i64 ((bs.getD 0 0).toNat:Int),.int .i64 ((bs.getD 1 0).toNat:Int),.int .i64 ((bs.getD 2 0).toNat:Int),.int .i64 0,.int .i64 0,.slice none 0 0,.int .i64 0,.int .i64 0,.int .u32 (0:Nat)] from rfl]at I;refine aV 1 (λw0 w'=>Rd w' cH 0 (ints .i64 4 g)) [3,5,7,9,10,11,12,13] [0,2,4,6,3001,8,3003,3005,3007,1009,1010,1011,1012,1013,14,1015] E I λa w E I hH=>?_;have hC:=hH.at w I.ai;refine RH 4 E I hH hC λa E=>?_;refine QH E (λw hc=>ae E (hc 0 _ (fV g (by decide)))) hC λa E=>?_;refine RH 1 E I hH hC λa E=>?_;refine QH E (λw hc=>ae E (hc 1 _ (fV g (by decide)))) hC λa E=>?_;refine QH E (λw hc=>ae E (hc 2 _ (fV g (by decide)))) hC λa E=>?_;refine QH E (λw hc=>ae E (hc 3 _ (fV g (by decide)))) hC λa E=>?_;refine RH 0 E I hH hC λa E=>?_;refine ST 0 E I (λa w E I=>?_);replace hC:=hH.at w I.ai;refine RH 1 E I hH hC λa E=>?_;refine ST 0 E I (λa w E I=>?_);replace hC:=hH.at w I.ai;refine RH 1 E I hH hC λa E=>?_;refine ST 0 E I (λa w E I=>?_);replace hC:=hH.at w I.ai;refine RH 1 E I hH hC λa E=>?_;refine ST 0 E I (λa w E I=>?_);refine RN 0 E I λa E=>?_;refine cc (M:=λa w=>∃ (p:Pk) (adP:Option Addr) (cP:Nat),p.sum<4294967296∧(∀ q,g9 bs q→p=q)∧Fr a 153 [(0,.slice (some ⟨bb,oo,none⟩) bs.length c),(2,pt b2),(5,pt b5)]∧U W w (aa b5 203 (dO p adP cP)::Sl 5 1 adP p.al.length cP (bc p.al)::aa b2 203 (dO nx none 0)::L)) ?_ ?_
 ·
  refine IF 4 E I (λbN a E=>?_) λbN a E=>?_
  ·
   have g7:∀ q,g9 bs q→X.drop k=mw q∧q.al.length≤32:=λq h=>by
    rw[ak (by omega)]at hn;refine⟨by rw[(va q h).1,hn];rfl,?_⟩;rcases FL h with k | k
    ·exact k.2.2.2.2.1
    ·rw[k.2.2.2.2.1];simp
   refine IF 7 E I (λeN a E=>?_) λeN a E=>?_
   ·
    have bQ:dN bs=none:=n4 λ⟨q,h⟩=>by
     have:=dd List.length (g7 q h).1;rw[mw,aJ,lW,c7]at this;omega
    refine SA 2 E I λa w E I=>?_;refine RT 1 E I ?_;exact sg I.tail.tail.tail bQ
   have mX:k+4≤X.length:=by omega
   refine RN 3 E I λa E=>?_;refine aN (λμ a w=>∃ (j:Nat),(μ=4-j∧j≤4)∧Fr a 153 [(0,.slice (some ⟨bb,oo,none⟩) bs.length c),(2,pt b2),(4,.slice (some ⟨mW,oU,none⟩) X.length et),(5,pt b5),(7,.int .i64 k),(13,.int .i64 j)]∧U W w (aa b5 203 [.int .i64 ((bs.getD 0 0).toNat:Int),.int .i64 ((bs.getD 1 0).toNat:Int),.int .i64 ((bs.getD 2 0).toNat:Int),.int .i64 (g 0),.int .i64 (g 1),.slice none 0 0,.int .i64 (g 2),.int .i64 (g 3),.int .u32 (mZ ((X.drop k).take j):Nat)]::aa b2 203 (dO nx none 0)::L)) (4) (⟨0,⟨rfl,by omega⟩,E.ab [0,2,4,5,7,13],(I.perm (cZ _ _ _)).tail⟩) ?_;clear E I;rintro μ a w ⟨j,⟨rfl,hj⟩,E,I⟩;refine IF 4 E I (λmi a E=>?_) λmi a E=>?_
   ·
    have hj4:j<4:=by omega
    have ym:k+j<X.length:=by omega
    have nS:=Bu ((X.drop k).take j) 3 (by rw[eA];omega);rw[show (256:Nat) ^ 3=16777216 from by decide]at nS;have dQ:j<(X.drop k).length:=by rw[c7];omega
    have jW:=LB dQ;rw[show (X.drop k)[j]=X[k+j] from List.getElem_drop ..]at jW;have qY:=lk X[k+j];refine aV 1 (λw0 w'=>w'.cell? ⟨b5,8,none⟩=some (.int .u32 (mZ ((X.drop k).take j):Nat))∧Rd w' mW oU (bc X)) [8,9] [0,3,4,5,6,7,3001,2,1008,1009,10,11,1012] E I λa w E I hH=>?_;have hC:=hH.at w ⟨I.bz rfl,(hr.rd _ I.tail.tail).rd (by omega)⟩;refine RH 6 E I hH hC λa E=>?_;refine QH E (λw hc=>ae E (hc.1)) hC λa E=>?_;refine RH 1 E I hH hC λa E=>?_;rw[show IntKind.u32.wrap (((mZ ((X.drop k).take j):Nat):Int)*256)=((mZ ((X.drop k).take j)*256:Nat):Int) from by rw[wrap_u32];omega]at E;refine SS E (ae E (hC.2 (k+j) _ (dU ym))) λa E=>?_;refine RH 0 E I hH hC λa E=>?_;refine SX 0 E I (by rw[wrap_u32];omega) λa E=>?_;refine RH 1 E I hH hC λa E=>?_;rw[show IntKind.u32.wrap (((mZ ((X.drop k).take j)*256:Nat):Int)+(X[k+j].toNat:Int))=((mZ ((X.drop k).take (j+1)):Nat):Int) from by rw[wrap_u32,jW];omega]at E;refine RH 1 E I hH hC λa E=>?_;refine ST 0 E I (λa w E I=>?_);refine RN 3 E I λa E=>?_;exact⟨4-(j+1),by omega,j+1,⟨rfl,by omega⟩,E.ab [0,2,4,5,7,13],I⟩
   obtain rfl:j=4:=by omega
   have qX:=hr.cut mX;have hl4:=qX.len;have mx:=Bu ((X.drop k).take 4) 4 (by rw[eA];omega);rw[show (256:Nat) ^ 4=4294967296 from by decide]at mx;have b0:∀ q,g9 bs q→q.sum=mZ ((X.drop k).take 4)∧X.drop (k+4)=aQ (zz (q.al.length:Int))++dA q.al 0∧q.al.length≤32:=λq h=>by
    obtain⟨h1,h2⟩:=g7 q h;rw[← kA,h1,mw];exact⟨(LA h.2.1).symm,rfl,h2⟩
   generalize mZ ((X.drop k).take 4)=BB at I mx b0;refine RN 8 E I λa E=>?_;rw[show X.length-(k+4)=(X.drop (k+4)).length from by simp]at E;refine j3 0 E I (Fp (bs:=X.drop (k+4)) I (by omega) (λw' hw=>qX.rd w' hw.tail.tail)) λx m er a w E ⟨nq,I⟩=>?_;refine BY 12 E I (λbA a E=>?_) λbA a E=>?_
   ·
    refine SA 10 E I λa w E I=>?_;refine RT 1 E I ?_;have bQ:dN bs=none:=n4 λ⟨q,h⟩=>by
     obtain⟨_,e2,BC⟩:=b0 q h;have:=(nq.2.2.2.2 (q.al.length:Int) _ (by omega) (by omega) e2).2.2;simp[this]at bA
    exact sg I.tail.tail bQ
   refine BY 4 E I (λkc a E=>?_) λkc a E=>?_
   ·
    refine SA 6 E I λa w E I=>?_;refine RT 1 E I ?_;have bQ:dN bs=none:=n4 λ⟨q,h⟩=>by
     obtain⟨_,e2,BC⟩:=b0 q h;have:=(nq.2.2.2.2 (q.al.length:Int) _ (by omega) (by omega) e2).1;omega
    exact sg I.tail.tail bQ
   refine IF 3 E I (λmU a E=>?_) λmU a E=>?_
   ·
    refine SA 2 E I λa w E I=>?_;refine RT 1 E I ?_;have bQ:dN bs=none:=n4 λ⟨q,h⟩=>by
     obtain⟨_,e2,BC⟩:=b0 q h;have:=(nq.2.2.2.2 (q.al.length:Int) _ (by omega) (by omega) e2).1;omega
    exact sg I.tail.tail bQ
   refine RN 1 E I λa E=>?_;have lM:=(nq.2.2.1 (by simpa using bA)).2;rw[c7]at lM;have tG:=hr.cut (k:=k+4+m) (by omega);refine RN 5 E I λa E=>?_;rw[show X.length-(k+4+m)=(X.drop (k+4+m)).length from by simp]at E;refine j4 0 E I (YI (m:=32) (bs:=X.drop (k+4+m)) I tG.len tG.cap (by omega) (λw' hw=>tG.rd w' hw.tail.tail)) ?_;clear E I;rintro e w ⟨out,aq,cO,e2,rfl,nT,I⟩;refine⟨_,rfl,λa E=>?_⟩;refine RN 5 E I λa E=>?_;have mK:∀ q,g9 bs q→out=q.al∧e2=0:=λq h=>by
    obtain⟨_,e2,BC⟩:=b0 q h;obtain⟨f1,f2,f3⟩:=nq.2.2.2.2 (q.al.length:Int) _ (by omega) (by omega) e2;refine nT.2.2 q.al BC ?_;rw[← kA,e2,f2,drop_left]
   refine IF 4 E I (λlS a E=>?_) λlS a E=>?_
   ·
    refine SA 2 E I λa w E I=>?_;refine RT 1 E I ?_;have bQ:dN bs=none:=n4 λ⟨q,h⟩=>by
     have:=(mK q h).2;omega
    exact sg I.tail.tail.tail bQ
   refine ST 2 E I (λa w E I=>?_);refine RN 0 E I λa E=>?_;refine⟨⟨((bs.getD 0 0).toNat:Int),((bs.getD 1 0).toNat:Int),((bs.getD 2 0).toNat:Int),g 0,g 1,g 2,g 3,BB,out⟩,aq,cO,mx,λq h=>?_,E.ab [0,2,5],I⟩;obtain⟨h1,h2,h3⟩:=(mn q h).1;have h4:=(va q h).2;rw[ak (by omega)]at hn;rw[h4 0 (by omega),h4 1 (by omega),h4 2 (by omega),h4 3 (by omega),← h1,← h2,← h3,(mK q h).1,← (b0 q h).1];rfl
  refine RN 0 E I λa E=>?_;refine⟨⟨((bs.getD 0 0).toNat:Int),((bs.getD 1 0).toNat:Int),((bs.getD 2 0).toNat:Int),g 0,g 1,g 2,g 3,0,[]⟩,none,0,(by show 0<4294967296;decide),λq h=>?_,E.ab [0,2,5],(((I.perm (cZ _ _ _)).tail.bM 5 1 none)).perm (cZ _ _ _)⟩;obtain⟨h1,h2,h3⟩:=(mn q h).1;have h4:=(va q h).2;rw[ag (by omega)]at hn;rcases FL h with k | k
  ·omega
  ·obtain⟨tJ,k1,k2,k3,lp,y2⟩:=k;have h5:=h4 0 (by omega);have h6:=BA 1 (by omega);have h7:=BA 2 (by omega);have h8:=BA 3 (by omega);rw[h5,h6,h7,h8,← h1,← h2,← h3];show Pk.mk q.kind q.aW q.to q.id 0 0 0 0 []=q;cases q;simp_all
 clear E;(try clear I);rintro a w ⟨p,adP,cP,mx,LJ,E,I⟩;refine aV 1 (λw0 w'=>Rd w' b5 0 (dO p adP cP)∧aX w' (some ⟨bb,oo,none⟩) bs.length bs) [1,2,3,5,6,7] [4,3000,3001,3005,1002,2003,3006,1007,8] E I λa w E I hH=>?_;have hC:=hH.at w ⟨I.ai,hp _ I.tail.tail.tail⟩;refine RH 1 E I hH hC λa E=>?_;refine QH E (λw hc=>bT E underlying203 rfl Ty.t203 (hc.1)) hC λa E=>?_;refine QH E (λw hc=>bT E underlying203 rfl Ty.t203 (hc.1)) hC λa E=>?_;refine QH E (λw hc=>lL E underlying22 underlying5 underlying9 (hc.2)) hC λa E=>?_;refine RH 0 E I hH hC λa E=>?_;refine aZ 0 E I (FH (p:=p) I mx (λw' hw=>hw.cu adP p.al rfl rfl)) λadE cE a w E I=>?_;replace hC:=hH.at w ⟨I.ai,hp _ I.tail.tail.tail.tail⟩;refine RH 0 E I hH hC λa E=>?_;refine DN [(3,[3006,1007,8]),(7,[1003,3006,8])] (by kernel_rfl) rfl ⟨⟨_,rfl,?_⟩,⟨_,rfl,?_⟩,trivial⟩
 ·
  refine RH 0 E I hH hC λa E=>?_;refine SS E (lL E underlying22 underlying5 underlying9 ((I.cu adE (aT p) rfl rfl))) λa E=>?_;refine RH 0 E I hH hC λa E=>?_;refine QH E (λw hc=>sW E) hC λa E=>?_;refine RH 0 E I hH hC λa E=>?_;refine SA 0 E I λa w E I=>?_;replace hC:=hH.at w ⟨I.ai,hp _ I.tail.tail.tail.tail⟩;refine RH 1 E I hH hC λa E=>?_;refine RT 0 E I ?_;refine⟨p,adP,cP,_,rfl,λh=>?_,λh=>?_,I.sub⟩
  ·rw[qI]at h;exact Bo ((Fm (λe=>by rw[e]at h7;simp at h7) mx).2 (by simpa using h))
  ·refine n4 λ⟨q,hd⟩=>?_;have e:aT p=bs:=by rw[LJ q hd,aT,ak hd.1];exact hd.2.2
   rw[e,qI]at h;simp at h
 refine RH 0 E I hH hC λa E=>?_;refine SA 0 E I λa w E I=>?_;replace hC:=hH.at w ⟨I.ai,hp _ I.tail.tail.tail.tail⟩;refine RH 0 E I hH hC λa E=>?_;refine SS E (lL E underlying22 underlying5 underlying9 ((I.cu adE (aT p) rfl rfl))) λa E=>?_;refine RH 0 E I hH hC λa E=>?_;refine QH E (λw hc=>sW E) hC λa E=>?_;refine RH 1 E I hH hC λa E=>?_;refine RT 0 E I ?_;refine⟨p,adP,cP,_,rfl,λh=>?_,λh=>?_,I.sub⟩
 ·rw[qI]at h;exact Bo ((Fm (λe=>by rw[e]at h7;simp at h7) mx).2 (by simpa using h))
 ·refine n4 λ⟨q,hd⟩=>?_;have e:aT p=bs:=by rw[LJ q hd,aT,ak hd.1];exact hd.2.2
  rw[e,qI]at h;simp at h
end
end
section
section
variable {W w:World}{L:List SP}{c:Nat}{ad:Option Addr}{g:Nat→Int}
theorem y3 (I:U W w L):Calls prog 177 #[.agg (ints .i32 32 g).toArray] w λe w'=>∃ ad c,e=.returned (.slice ad 128 c)∧U W w' (Sl 5 1 ad 128 c (bc (gx g))::L):=by
 refine EN func177 ntmps177 rfl rfl λa E=>?_;refine BX 1 E I λb1 a w E I=>?_;refine RN 7 E I λa E=>?_;refine aN (λμ a w=>∃ (i:Nat) (ad:Option Addr) (c:Nat),(μ=32-i∧i≤32)∧Fr a 16 [(3,.slice ad (mq g i).length c),(6,.agg (ints .i32 32 g).toArray),(7,.int .i64 i)]∧U W w (Sl 5 1 ad (mq g i).length c (bc (mq g i))::L)) (32) (⟨0,none,0,⟨rfl,by omega⟩,E.ab [3,6,7],I.tail.bM 5 1 none⟩) ?_;clear E I;rintro μ a w ⟨i,ad,c,⟨rfl,hi⟩,E,I⟩;refine IF 3 E I (λaj a E=>?_) λaj a E=>?_
 ·
  have FN:i<32:=by omega
  have q4:=r0 g i;refine RN 2 E I λa E=>?_;refine SS E (sX E underlying183 underlying21 rfl Ty.t21 (by omega) (fV g FN)) λa E=>?_;refine bh 3 E I (Yk I) λad2 a w E I=>?_;refine RN 0 E I λa E=>?_;refine g8 E rfl I underlying22 Ty.t5 rfl rfl (by decide) (λh0=>(I.cu ad2 (eL (p6 (g i))) rfl rfl).get h0) (by rw[dy];rfl) (ez _) (by rw[lW];omega) λaf7 c13 a w E I=>?_;rw[← fM,← E6]at I;rw[show (mq g i).length+(eL (p6 (g i))).length=(mq g (i+1)).length from by rw[r0,r0,lW];omega]at E I;refine RN 3 E I λa E=>?_;exact⟨32-(i+1),by omega,i+1,_,_,⟨rfl,by omega⟩,E.ab [3,6,7],I.sub⟩
 obtain rfl:i=32:=by omega
 rw[show (mq g 32).length=128 from r0 g 32]at E I;refine RT 3 E I ?_;exact⟨_,_,rfl,I⟩
theorem Zh (I:U W w L):Calls prog 139 #[.agg (ints .i32 32 g).toArray] w λe w'=>e=.returned (.int .u32 (gL (gx g)))∧U W w' L:=by
 refine EN func139 ntmps139 rfl rfl λa E=>?_;refine BX 1 E I λb1 a w E I=>?_;refine aZ 3 E I (y3 I) λad c a w E I=>?_;rw[show 128=(gx g).length from (u5 g).symm]at E I;refine CL 0 E I (K3 I (by rw[u5];decide) (λw' hw=>hw.cu ad (gx g) rfl rfl)) λa w E I=>?_;refine RT 1 E I ?_;exact⟨rfl,I.sub⟩
theorem vb (I:U W w L):Calls prog 115 #[.agg (ints .i32 32 g).toArray] w λe w'=>∃ ad c,e=.returned (.slice ad 128 c)∧U W w' (Sl 5 1 ad 128 c (bc (gx g))::L):=by
 refine EN func115 ntmps115 rfl rfl λa E=>?_;refine BX 1 E I λb1 a w E I=>?_;refine RN 6 E I λa E=>?_;refine aN (λμ a w=>∃ (i:Nat) (ad:Option Addr) (c:Nat),(μ=32-i∧i≤32)∧Fr a 17 [(1,pt b1),(3,.slice ad (mq g i).length c),(4,.int .i64 i)]∧U W w (Sl 5 1 ad (mq g i).length c (bc (mq g i))::aa b1 49 (ints .i32 32 g)::L)) (32) (⟨0,none,0,⟨rfl,by omega⟩,E.ab [1,3,4],I.bM 5 1 none⟩) ?_;clear E I;rintro μ a w ⟨i,ad,c,⟨rfl,hi⟩,E,I⟩;refine IF 4 E I (λaj a E=>?_) λaj a E=>?_
 ·
  have FN:i<32:=by omega
  have q4:=r0 g i;refine RN 4 E I λa E=>?_;refine SS E (ae E (I.bz (b:=b1) (fV g FN))) λa E=>?_;refine RN 0 E I λa E=>?_;refine SS E (gr E underlying21 underlying100) λa E=>?_;rw[K2]at E;refine bh 0 E I (E9 I) λad2 a w E I=>?_;refine RN 0 E I λa E=>?_;refine g8 E rfl I underlying22 Ty.t5 rfl rfl (by decide) (λh0=>(I.cu ad2 (eL (p6 (g i))) rfl rfl).get h0) (by rw[dy];rfl) (ez _) (by rw[lW];omega) λLK LL a w E I=>?_;rw[← fM,← E6]at I;rw[show (mq g i).length+(eL (p6 (g i))).length=(mq g (i+1)).length from by rw[r0,r0,lW];omega]at E I;refine RN 4 E I λa E=>?_;exact⟨32-(i+1),by omega,i+1,_,_,⟨rfl,by omega⟩,E.ab [1,3,4],I.sub⟩
 obtain rfl:i=32:=by omega
 rw[show (mq g 32).length=128 from r0 g 32]at E I;refine RT 3 E I ?_;exact⟨_,_,rfl,(I.perm (cZ _ _ _)).tail⟩
theorem Zi (I:U W w L):Calls prog 106 #[.agg (ints .i32 32 g).toArray] w λe w'=>e=.returned (.int .u32 (gL (gx g)))∧U W w' L:=by
 refine EN func106 ntmps106 rfl rfl λa E=>?_;refine BX 1 E I λb1 a w E I=>?_;refine aZ 3 E I (vb I) λad c a w E I=>?_;rw[show 128=(gx g).length from (u5 g).symm]at E I;refine CL 0 E I (K4 I (by rw[u5];decide) (λw' hw=>hw.cu ad (gx g) rfl rfl)) λa w E I=>?_;refine RT 1 E I ?_;exact⟨rfl,I.sub⟩
end
end
section
def du (l:List UInt8)(f:Nat)(b:List UInt8):List UInt8:=if l.length<f then l else l++(b.drop (l.length-f)).take (1000-l.length)
theorem sh {l:List UInt8}{f:Nat}{b:List UInt8}(h:l.length≤1000):l.length≤(du l f b).length∧(du l f b).length≤1000:=by
 unfold du;split
 ·omega
 ·rw[aJ,eA];omega
theorem LM {l b:List UInt8}{f i:Nat}(hf:f≤l.length)(hi:i<b.length)(h1:l.length-f≤i)(h2:l.length+(i-(l.length-f))<1000) :
   l++(b.drop (l.length-f)).take (i+1-(l.length-f))=(l++(b.drop (l.length-f)).take (i-(l.length-f)))++[b[i]]:=by
 rw[show i+1-(l.length-f)=(i-(l.length-f))+1 from by omega,dx]
 congr 1
 rw[jx (by rw[c7];omega)]
 congr 2
 rw[List.getElem_drop]
 congr 1
 omega
def iR (ls:List (List UInt8)):Nat→Nat
 | 0=>(ls.headD []).length
 | i+1=>min (iR ls i) (ls.getD i []).length
def aU (ls:List (List UInt8)):Nat:=iR ls ls.length
theorem Zj (ls:List (List UInt8)):iR ls 1=iR ls 0:=by
 rw[iR,iR];cases ls <;> simp[iR]
theorem LN {ls:List (List UInt8)}:∀ {i j:Nat},j<i→iR ls i≤(ls.getD j []).length
 | 0,_,h=>absurd h (by omega)
 | i+1,j,h=>by
  rw[iR];by_cases hj:j=i
  ·subst hj;exact Nat.min_le_right _ _
  ·exact fG (Nat.min_le_left _ _) (LN (by omega))
theorem xd {ls:List (List UInt8)}{l:List UInt8}(h:l∈ls):aU ls≤l.length:=by
 obtain⟨i,hi,rfl⟩:=xe h;have:=LN (ls:=ls) (i:=ls.length) hi
 rwa [bm,aD hi]at this
theorem LO (ls:List (List UInt8)):∀ i,i≤ls.length→ls≠[]→∃ l∈ls,iR ls i=l.length
 | 0,_,h=>by
  cases ls with
  | nil=>exact absurd rfl h
  | cons a r=>exact⟨a,by simp,rfl⟩
 | i+1,hi,h=>by
  obtain⟨l,hl,e⟩:=LO ls i (by omega) h;rw[iR];rcases Nat.le_total (iR ls i) (ls.getD i []).length with h1 | h1
  ·rw[Nat.min_eq_left h1];exact⟨l,hl,e⟩
  ·rw[Nat.min_eq_right h1,bm,aD (by omega)];exact⟨ls[i],jd _,rfl⟩
theorem BD {ls:List (List UInt8)}(h:ls≠[]):∃ l∈ls,aU ls=l.length:=LO ls _ (a7 _) h
theorem FO {ls:List (List UInt8)}{n:Nat}(h:ls≠[])(hn:∀ l∈ls,n≤l.length):n≤aU ls:=by
 obtain⟨l,hl,e⟩:=BD h;rw[e];exact hn l hl
def fA (ls:List (List UInt8))(f i:Nat):List UInt8:=(ls.take i).map (·.getD f 0)
def bJ (ls:List (List UInt8))(f:Nat):List UInt8:=ls.map (·.getD f 0)
theorem BE (ls:List (List UInt8))(f:Nat):fA ls f ls.length=bJ ls f:=by rw[fA,k4,bJ]
theorem BF {ls:List (List UInt8)}{f i:Nat}(h:i<ls.length):fA ls f (i+1)=fA ls f i++[ls[i].getD f 0]:=by
 rw[fA,jx h,cW];rfl
theorem tK {ls:List (List UInt8)}{f i:Nat}(h:i≤ls.length):(fA ls f i).length=i:=by
 rw[fA,a8,eA];omega
theorem nD (ls:List (List UInt8))(f:Nat):(bJ ls f).length=ls.length:=by rw[bJ,a8]
structure Gs where
 kind:Int
 order:Int
 table:List UInt8
def cY (b:Gs):Prop:=(b.kind=1∧b.order=0∧b.table.length=0)∨(b.kind=2∧0≤b.order∧b.order≤3∧b.table.length=0)∨(b.kind=3∧b.order=0∧1≤b.table.length∧b.table.length≤1000)
instance (b:Gs):Decidable (cY b):=inferInstanceAs (Decidable (_∨_))
def y4 (o:Nat)(past:List UInt8)(i:Nat):Bool:=(past.drop (i-o)).take o==past.drop (past.length-o)
def hs (o:Nat)(past:List UInt8):Nat→Nat→Int
 | 0=>λ_=>0
 | i+1=>if o≤i∧y4 o past i=true then ck (hs o past i) (past.getD i 0).toNat (hs o past i (past.getD i 0).toNat+1) else hs o past i
theorem y5 {o:Nat}{past:List UInt8}:∀ {i:Nat},i≤o→hs o past i=λ_=>0
 | 0,_=>rfl
 | i+1,h=>by rw[hs,ag (by omega),y5 (by omega)]
theorem BG (o:Nat)(past:List UInt8):∀ (i v:Nat),0≤hs o past i v∧hs o past i v≤i
 | 0,v=>⟨Int.le_refl _,Int.le_refl _⟩
 | i+1,v=>by
  have h:=BG o past i v;have h2:=BG o past i (past.getD i 0).toNat;rw[hs];split
  ·unfold ck;split <;> omega
  ·omega
def gM (b:Gs)(past:List UInt8):Nat→Int:=if b.kind=2 then hs b.order.toNat past past.length else λ_=>0
def iB (past:List UInt8):UInt8:=past.getLastD 0
def my (w:Nat→Int)(last:Nat):Nat→Nat
 | 0=>last
 | i+1=>if w (my w last i)<w i then i else my w last i
theorem FP {w:Nat→Int}{last:Nat}(hl:last<256):∀ {i:Nat},i≤256→my w last i<256
 | 0,_=>hl
 | i+1,h=>by
  rw[my];split
  ·omega
  ·exact FP hl (by omega)
theorem LP {w:Nat→Int}{last:Nat}:∀ {i:Nat},(∀ v,v<i→w v≤w last)→my w last i=last
 | 0,_=>rfl
 | i+1,h=>by
  have ih:=LP (i:=i) λv hv=>h v (by omega);rw[my,ih,ag];have:=h i (by omega);omega
theorem LQ {w:Nat→Int}{last x:Nat}(h0:w last<w x)(h1:∀ v,v<x→w v<w x):∀ {i:Nat},(∀ v,v<i→w v≤w x)→(i≤x→w (my w last i)<w x)∧(x<i→my w last i=x)
 | 0,_=>⟨λ_=>h0,λh=>absurd h (by omega)⟩
 | i+1,h=>by
  have ih:=LQ h0 h1 (i:=i) λv hv=>h v (by omega);rw[my];refine⟨λhi=>?_,λhi=>?_⟩
  ·have:=ih.1 (by omega);have:=h1 i (by omega);split <;> assumption
  ·by_cases hx:x=i
   ·subst hx;rw[ak (ih.1 (by omega))]
   ·rw[ih.2 (by omega),ag];have:=h i (by omega);omega
def nE (b:Gs)(past:List UInt8):UInt8:=if b.kind=3 then b.table.getD (past.length%b.table.length) 0 else UInt8.ofNat (my (gM b past) (iB past).toNat 256)
def en (b:Gs)(past:List UInt8):Nat→List UInt8
 | 0=>past
 | i+1=>en b past i++[nE b (en b past i)]
theorem iC (b:Gs)(past:List UInt8):∀ i,(en b past i).length=past.length+i
 | 0=>rfl
 | i+1=>by rw[en,aJ,iC b past i];rfl
theorem LR (b:Gs)(past:List UInt8):∀ i,(en b past i).take past.length=past
 | 0=>k4
 | i+1=>by
  rw[en,List.take_append_of_le_length (by rw[iC];omega),LR b past i]
def kl (b:Gs)(past:List UInt8)(n:Nat):List UInt8:=(en b past n).drop past.length
theorem FQ (b:Gs)(past:List UInt8)(n:Nat):(kl b past n).length=n:=by rw[kl,c7,iC];omega
theorem vc (b:Gs)(past:List UInt8)(n:Nat):past++kl b past n=en b past n:=by
 conv=>lhs;lhs;rw[← LR b past n]
 rw[kl,j0]
theorem Zk (b:Gs)(past:List UInt8)(n:Nat):kl b past (n+1)=kl b past n++[nE b (past++kl b past n)]:=by
 rw[vc,kl,en,List.drop_append_of_le_length (by rw[iC];omega)];rfl
def oa (b:Gs)(past:List UInt8)(to:Nat):List UInt8:=en b past (to-past.length)
def jk (b:Gs)(ls:List (List UInt8))(to:Nat):List (List UInt8):=ls.map λl=>oa b l to
theorem Zl (b:Gs)(past:List UInt8)(to:Nat):to≤(oa b past to).length:=by rw[oa,iC];omega
def dv (b:Gs)(ls:List (List UInt8))(to:Nat):List (List UInt8):=(List.range (to-aU ls)).map λi=>bJ (jk b ls to) (aU ls+i)
theorem xf (b:Gs)(ls:List (List UInt8))(to:Nat):(dv b ls to).length=to-aU ls:=by simp[dv]
end
section
abbrev Lx:=Nat×List UInt8
def Ln (x:Lx):SP:=λh=>∃ (ad:Option Addr) (c:Nat),cm [aa x.1 328 [.slice ad x.2.length c],Sl 5 1 ad x.2.length c (bc x.2)] h
section
variable {W w:World}{L L' R:List SP}{n c m lb:Nat}{ad:Option Addr}{l bs:List UInt8}{x:UInt8}
theorem Ln.open (I:U W w (Ln (lb,l)::L)):∃ (ad:Option Addr) (c:Nat),U W w (aa lb 328 [.slice ad l.length c]::Sl 5 1 ad l.length c (bc l)::L):=by
 obtain⟨ad,_,I⟩:=I.jM (p:=λ_=>True) (B:=λad h=>∃ c,cm [aa lb 328 [.slice ad l.length c],Sl 5 1 ad l.length c (bc l)] h) λ_ ⟨ad,c,h⟩=>⟨ad,trivial,c,h⟩;obtain⟨c,_,I⟩:=I.jM (p:=λ_=>True) (B:=λc h=>cm [aa lb 328 [.slice ad l.length c],Sl 5 1 ad l.length c (bc l)] h) λ_ ⟨c,h⟩=>⟨c,trivial,h⟩;exact⟨ad,c,I.open (M:=[_,_]) λ_ h=>h⟩
theorem Ln.close (I:U W w (aa lb 328 [.slice ad l.length c]::Sl 5 1 ad l.length c (bc l)::L)):U W w (Ln (lb,l)::L) :=
 U.shut (M:=[_,_]) I λ_ h=>⟨ad,c,h⟩
theorem Ln.mk' (I:U W w L)(ad:Option Addr)(c:Nat)[k:fI L (aa lb 328 [.slice ad l.length c]::Sl 5 1 ad l.length c (bc l)::L') R]:U W w (Ln (lb,l)::L'):=Ln.close (ad:=ad) (c:=c) I.sub
theorem Zm (d:Nat):(madeCells (Value.int .u8 0).cells (d*1)).toList=bc (List.replicate d 0):=by
 apply ext_getElem?;intro i;by_cases h:i<d
 ·rw[dU (by simpa using h)];rw[madeCells,Array.getElem?_toList,Array.getElem?_map,Array.getElem?_range];simp[h,Value.cells,Nat.mod_one]
 ·rw[jt (by simp[madeCells];omega),jt (by rw[dy];simp;omega)]
theorem U.LS {b e sz m:Nat}{cs:List Value}(I:U W w (aa b e cs::L))(h:cs.length=m*sz):U W w (Sl e sz (some ⟨b,0,none⟩) m m cs::L) :=
 U.iZ (pre:=[]) (post:=[]) (n:=m) (c:=m) (sz:=sz) (cs:=cs) (by simpa using I) h (a7 _) (by rw[Nat.sub_self,Nat.zero_mul];exact Nat.zero_le _)
theorem aX.y6 {w:World}{ad:Option Addr}{bs:List UInt8}{c lo n:Nat}(h:aX w ad bs.length bs)(hl:lo+n≤bs.length)(hc:bs.length≤c):aX w (ft ad lo c 1) n ((bs.drop lo).take n) :=
 (h.u3 (lo:=lo) (by omega) hc).E5 (by rw[c7];omega)
theorem Zn {d:Nat}(I:U W w L)(hd:d≤8):Calls prog 168 #[.int .i64 d] w λe w'=>∃ lb,e=.returned (pt lb)∧U W w' (Ln (lb,List.replicate d 0)::L):=by
 refine EN func168 ntmps168 rfl rfl λa E=>?_;refine RN 6 E I λa E=>?_;rw[show min (max (d:Int) 0) 8=(d:Int) from by omega]at E;refine rB E rfl I underlying22 Ty.t5 rfl (by omega) (by omega) λcH a w E I ho=>?_;clear ho;rw[Zm]at I;replace I:=I.LS (m:=d) (sz:=1) (by rw[dy,kJ,fW]);refine BX 1 E I λb8 a w E I=>?_;refine RN 1 E I λa E=>?_;replace I:U W w (aa b8 328 [.slice (some ⟨cH,0,none⟩) (List.replicate d (0:UInt8)).length d]::Sl 5 1 (some ⟨cH,0,none⟩) (List.replicate d (0:UInt8)).length d (bc (List.replicate d 0))::L):=by
  rw[kJ];exact I
 refine RT 0 E I ?_;exact⟨b8,rfl,Ln.close I⟩
theorem BH (I:U W w (Ln (lb,l)::L)):Calls prog 172 #[pt lb] w λe w'=>e=.returned (.int .i64 l.length)∧U W w' (Ln (lb,l)::L):=by
 obtain⟨ad,c,I⟩:=Ln.open I;refine EN func172 ntmps172 rfl rfl λa E=>?_;refine RN 6 E I λa E=>?_;replace E:=E.aP 4;refine RT 8 E I ?_;exact⟨rfl,Ln.close I⟩
theorem LU {f:Nat}(I:U W w (Ln (lb,l)::L)):Calls prog 173 #[pt lb,.int .i64 f] w λe w'=>e=.returned (.tuple #[.int .u8 ((l.getD f 0).toNat:Nat),.bool (decide (f<l.length))])∧U W w' (Ln (lb,l)::L):=by
 refine EN func173 ntmps173 rfl rfl λa E=>?_;refine RN 8 E I λa E=>?_;rw[bo (by omega)]at E;refine CL 2 E I (BH I) λa w E I=>?_;refine IF 2 E I (λaj a E=>?_) λaj a E=>?_
 ·
  refine RT 3 E I ?_;exact⟨by rw[bm,jt (by omega),bo (by omega)];rfl,I⟩
 obtain⟨ad,c,I⟩:=Ln.open I;have ef:f<l.length:=by omega
 obtain⟨b,o,rfl,hr⟩:=(I.cu ad l rfl rfl).get (by omega);refine RN 7 E I λa E=>?_;refine SS E (ae E (hr f _ (ln ef))) λa E=>?_;refine RT 2 E I ?_;exact⟨by rw[dk ef],Ln.close I⟩
theorem LV (I:U W w (Ln (lb,l)::L))(hl:l.length≤1000):Calls prog 314 #[pt lb,.int .u8 (x.toNat:Nat)] w λe w'=>e=.returned (.int .i64 (if l.length<1000 then 0 else 4))∧U W w' (Ln (lb,if l.length<1000 then l++[x] else l)::L):=by
 obtain⟨ad,c,I⟩:=Ln.open I;refine EN func314 ntmps314 rfl rfl λa E=>?_;refine RN 7 E I λa E=>?_;replace E:=E.aP 5;refine IF 9 E I (λao a E=>?_) λao a E=>?_
 ·
  refine RT 2 E I ?_;exact⟨by rw[ag (by omega)],by rw[ag (by omega)];exact Ln.close I⟩
 refine RN 7 E I λa E=>?_;refine cp E rfl I underlying22 Ty.t5 rfl rfl rfl rfl (by decide) (by decide) λb21 a w E I ho=>?_;clear ho;refine RN 0 E I λa E=>?_;refine cQ E rfl I underlying22 Ty.t5 rfl rfl I.ai rfl (ez [x]) (by decide) (by decide) (by omega) λLW LX a w E I=>?_;rw[show bc l++_=bc (l++[x]) from (fM l [x]).symm]at I;refine ST 2 E I (λa w E I=>?_);refine RN 0 E I λa E=>?_;rw[show l.length+1=(l++[x]).length from by simp]at I;replace I:=I.sub (M:=aa lb 328 [.slice LW (l++[x]).length LX]::Sl 5 1 LW (l++[x]).length LX (bc (l++[x]))::L);refine RT 2 E I ?_;exact⟨by rw[ak (by omega)],by rw[ak (by omega)];exact Ln.close I⟩
theorem Zo {f:Nat}(I:U W w (Ln (lb,l)::L))(hl:l.length≤1000)(hb:bs.length≤65536)(hp:∀ w',U W w' L→aX w' ad bs.length bs) :
   Calls prog 318 #[pt lb,.int .i64 f,.slice ad bs.length c] w λe w'=>∃ n er:Int,e=.returned (.tuple #[.int .i64 n,.int .i64 er])∧U W w' (Ln (lb,du l f bs)::L):=by
 refine EN func318 ntmps318 rfl rfl λa E=>?_;refine RN 8 E I λa E=>?_;replace E:=E.aP 11;refine RN 5 E I λa E=>?_;rw[bo (by omega)]at E;refine RN 2 E I λa E=>?_;obtain⟨hE,cl,I⟩:=Ln.open I;refine IF 8 E I (λay a E=>?_) λay a E=>?_
 ·
  replace I:=Ln.close I;refine RT 3 E I ?_;exact⟨_,_,rfl,by rw[du,ak (by omega)];exact I⟩
 refine RN 11 E I λa E=>?_;rw[show ((l.length:Nat):Int)-(f:Int)=((l.length-f:Nat):Int) from by omega]at E;refine RN 1 E I λa E=>?_;replace I:=Ln.close I;have ef:f≤l.length:=by omega
 refine aN (λμ a w=>∃ (i:Nat),(μ=bs.length-i∧l.length-f≤i∧(i≤bs.length∨i=l.length-f)∧l.length+(i-(l.length-f))≤1000)∧Fr a 51 [(0,pt lb),(2,.slice ad bs.length c),(8,.int .i64 (i-(l.length-f):Nat)),(9,.int .i64 i)]∧U W w (Ln (lb,l++(bs.drop (l.length-f)).take (i-(l.length-f)))::L)) (bs.length-(l.length-f)) (⟨l.length-f,⟨rfl,a7 _,.inr rfl,by omega⟩,by rw[Nat.sub_self];exact E.ab [0,2,8,9],by rw[Nat.sub_self,take_zero,append_nil];exact I⟩) ?_;clear E I;rintro μ a w ⟨i,⟨rfl,hi,hib,lG⟩,E,I⟩;refine IF 6 E I (λbk a E=>?_) λbk a E=>?_
 ·
  obtain⟨bb,oo,rfl,hr⟩:=(hp _ I.tail).get (by omega);have aI:i<bs.length:=by omega
  have hlen:(l++(bs.drop (l.length-f)).take (i-(l.length-f))).length=l.length+(i-(l.length-f)):=by rw[aJ,eA,c7];omega
  refine RN 7 E I λa E=>?_;refine SS E (ae E (hr i _ (dU aI))) λa E=>?_;refine CL 0 E I (LV I (by rw[hlen];omega)) λa w E I=>?_;rw[hlen]at E I;refine IF 4 E I (λbN a E=>?_) λbN a E=>?_
  ·
   have h9:¬ l.length+(i-(l.length-f))<1000:=λh=>bN (ak h);rw[ag h9]at I;refine RT 5 E I ?_;exact⟨_,_,rfl,by rw[du,ag (by omega),show 1000-l.length=i-(l.length-f) from by omega];exact I⟩
  have h9:l.length+(i-(l.length-f))<1000:=Decidable.of_not_not λh=>by rw[ag h]at bN;cases bN
  rw[ak h9]at I;refine RN 6 E I λa E=>?_;exact⟨bs.length-(i+1),by omega,i+1,⟨rfl,by omega,by omega,by omega⟩,by rw[show ((i+1-(l.length-f):Nat):Int)=((i-(l.length-f):Nat):Int)+1 from by omega];exact E.ab [0,2,8,9],by rw[LM ef aI hi h9];exact I⟩
 refine RT 4 E I ?_;exact⟨_,_,rfl,by rw[du,ag (by omega),gi (by rw[c7];omega)];rw[gi (by rw[c7];omega)]at I;exact I⟩
theorem LY {f k:Nat}(I:U W w (Ln (lb,l)::L))(hl:l.length≤1000)(hf:f≤1000)(hk:1≤k∧k≤1000) :
   Calls prog 309 #[pt lb,.int .i64 f,.int .i64 k] w λe w'=>∃ av c',e=.returned (.slice av ((l.drop f).take k).length c')∧U W w' (Sl 5 1 av ((l.drop f).take k).length c' (bc ((l.drop f).take k))::Ln (lb,l)::L):=by
 have eP:((l.drop f).take k).length=min l.length (f+k)-f:=by rw[eA,c7];omega
 refine EN func309 ntmps309 rfl rfl λa E=>?_;refine RN 7 E I λa E=>?_;rw[bo (by omega)]at E;refine CL 2 E I (BH I) λa w E I=>?_;refine BY 3 E I (λfh a E=>?_) λfh a E=>?_
 ·
  have hz:(l.drop f).take k=[]:=by rw[drop_eq_nil_of_le (by omega),List.take_nil]
  refine RT 6 E I ?_;rw[hz];exact⟨_,_,rfl,I.bM _ _ none⟩
 refine RN 3 E I λa E=>?_;rw[bo (by omega)]at E;refine RN 2 E I λa E=>?_;obtain⟨hE,cl,I⟩:=Ln.open I;have cn:=(I.sl hE).2;refine bR 0 [8,9,14] [0,1,2,4,5,6,7,10,11,12,13,3003,1008,1009,1014,15,1016,17] E I λa w E I hH hC=>?_;refine RH 10 E I hH hC λa E=>?_;rw[show min (k:Int) 1000=(k:Int) from by omega]at E;refine RH 5 E I hH hC λa E=>?_;rw[show min (l.length:Int) ((f:Int)+(k:Int))=((min l.length (f+k):Nat):Int) from by omega]at E;refine RH 1 E I hH hC λa E=>?_;refine aZ 0 E I (s6 (bs:=(l.drop f).take k) I (λw' hw=>by have h1:=(hw.cu hE l rfl rfl).y6 (c:=cl) (lo:=f) (n:=min l.length (f+k)-f) (by omega) cn;rw[show (l.drop f).take (min l.length (f+k)-f)=(l.drop f).take k from by rw[← eP,List.take_eq_take_iff,eA,c7];omega]at h1;exact h1) (by omega)) λfu dJ a w E I=>?_;refine RN 1 E I λa E=>?_;refine RT 0 E I ?_;exact⟨fu,dJ,by rw[eP],by rw[eP];exact (Ln.mk' (L':=Sl 5 1 fu (min l.length (f+k)-f) dJ (bc ((l.drop f).take k))::L) I hE cl).perm (cZ _ _ _)⟩
theorem Zq (I:U W w (Ln (lb,l)::L))(hl:l.length≤1000) :
   Calls prog 293 #[pt lb] w λe w'=>∃ av c',e=.returned (.slice av l.length c')∧U W w' (Sl 5 1 av l.length c' (bc l)::Ln (lb,l)::L):=by
 have Zr:(l.drop 0).take 1000=l:=by rw[drop_zero,gi hl]
 refine EN func293 ntmps293 rfl rfl λa E=>?_;refine aZ 4 E I (LY (f:=0) (k:=1000) I hl (by decide) (by decide)) λfu dJ a w E I=>?_;rw[Zr]at E I;refine RT 1 E I ?_;exact⟨_,_,rfl,I⟩
end
end
section
def km (x:Lx):Value:=pt x.1
def Qu (qb:Nat)(aB:List Nat)(ls:List (List UInt8)):SP:=λh=>∃ (ad:Option Addr) (c:Nat),aB.length=ls.length∧cm [aa qb 288 [.slice ad ls.length c],Sl 289 1 ad ls.length c ((aB.zip ls).map km),ah Ln (aB.zip ls)] h
section
variable {W w:World}{L L' R:List SP}{n c qb lb i f:Nat}{ad:Option Addr}{ls:List (List UInt8)}{aB:List Nat}{l:List UInt8}{x:UInt8}
theorem Qu.open (I:U W w (Qu qb aB ls::L)):∃ (ad:Option Addr) (c:Nat),aB.length=ls.length∧U W w (aa qb 288 [.slice ad ls.length c]::Sl 289 1 ad ls.length c ((aB.zip ls).map km)::ah Ln (aB.zip ls)::L):=by
 obtain⟨⟨ad,c⟩,hl,I⟩:=I.jM (ι:=Option Addr×Nat) (p:=λ_=>aB.length=ls.length) (B:=λy h=>cm [aa qb 288 [.slice y.1 ls.length y.2],Sl 289 1 y.1 ls.length y.2 ((aB.zip ls).map km),ah Ln (aB.zip ls)] h) λ_ ⟨ad,c,hl,h⟩=>⟨(ad,c),hl,h⟩;exact⟨ad,c,hl,I.open (M:=[_,_,_]) λ_ h=>h⟩
theorem Qu.close (I:U W w (aa qb 288 [.slice ad ls.length c]::Sl 289 1 ad ls.length c ((aB.zip ls).map km)::ah Ln (aB.zip ls)::L))(hl:aB.length=ls.length):U W w (Qu qb aB ls::L) :=
 U.shut (M:=[_,_,_]) I λ_ h=>⟨ad,c,hl,h⟩
theorem Qu.mk' (I:U W w L)(ad:Option Addr)(c:Nat)[k:fI L (aa qb 288 [.slice ad ls.length c]::Sl 289 1 ad ls.length c ((aB.zip ls).map km)::ah Ln (aB.zip ls)::L') R](hl:aB.length=ls.length):U W w (Qu qb aB ls::L'):=Qu.close (ad:=ad) (c:=c) I.sub hl
theorem vd {aB:List Nat}{ls:List (List UInt8)}(hl:aB.length=ls.length){i:Nat}(h:i<ls.length):(aB.zip ls)[i]?=some (aB.getD i 0,ls.getD i []):=by
 rw[List.getElem?_zip_eq_some];simp only[bm];rw[aD h,aD (by omega)];exact⟨rfl,rfl⟩
def y7 (qb:Nat)(aB:List Nat)(ls:List (List UInt8))(i:Nat):SP:=λh=>∃ (ad:Option Addr) (c:Nat),aB.length=ls.length∧cm [aa qb 288 [.slice ad ls.length c],Sl 289 1 ad ls.length c ((aB.zip ls).map km),ah Ln ((aB.zip ls).eraseIdx i)] h
theorem Qu.out (I:U W w (Qu qb aB ls::L))(h:i<ls.length):U W w (Ln (aB.getD i 0,ls.getD i [])::y7 qb aB ls i::L):=by
 obtain⟨ad,c,hl,I⟩:=Qu.open I;have hz:=vd hl h;obtain⟨hi,he⟩:=aY.1 hz;replace I:=(I.pick (ah Ln (aB.zip ls))).fy hi;rw[he]at I;have h2:U W w (aa qb 288 [.slice ad ls.length c]::Sl 289 1 ad ls.length c ((aB.zip ls).map km)::ah Ln ((aB.zip ls).eraseIdx i)::Ln (aB.getD i 0,ls.getD i [])::L):=I.sub;exact (U.shut (M:=[_,_,_]) h2 λ_ h=>⟨ad,c,hl,h⟩:U W w (y7 qb aB ls i::Ln (aB.getD i 0,ls.getD i [])::L)).perm (cZ _ _ _)
theorem map_set {α β:Type}(f:α→β)(l:List α)(i:Nat)(x:α):(l.set i x).map f=(l.map f).set i (f x):=by
 apply ext_getElem? ;intro j;simp only[bl,jO,a8];split
 ·split <;> rfl
 ·rfl
theorem LZ {aB:List Nat}{ls:List (List UInt8)}(hl:aB.length=ls.length){i:Nat}(h:i<ls.length)(l:List UInt8):aB.zip (ls.set i l)=(aB.zip ls).set i (aB.getD i 0,l):=by
 apply ext_getElem?;intro j;by_cases hj:j<ls.length
 ·rw[vd (by simpa using hl) (by simpa using hj),jO];by_cases oK:i=j
  ·subst oK;rw[ak rfl,ak (by simp;omega)];simp[bm,h]
  ·rw[ag oK,vd hl hj];simp[bm,getElem?_set_ne oK]
 ·rw[jt (by simp;omega),jt (by simp;omega)]
theorem Qu.in (I:U W w (Ln (aB.getD i 0,l)::y7 qb aB ls i::L))(h:i<ls.length):U W w (Qu qb aB (ls.set i l)::L):=by
 obtain⟨⟨ad,c⟩,hl,I⟩:=(I.pick (y7 qb aB ls i)).jM (ι:=Option Addr×Nat) (p:=λ_=>aB.length=ls.length) (B:=λy h=>cm [aa qb 288 [.slice y.1 ls.length y.2],Sl 289 1 y.1 ls.length y.2 ((aB.zip ls).map km),ah Ln ((aB.zip ls).eraseIdx i)] h) λ_ ⟨ad,c,hl,h⟩=>⟨(ad,c),hl,h⟩;replace I:U W w (aa qb 288 [.slice ad ls.length c]::Sl 289 1 ad ls.length c ((aB.zip ls).map km)::ah Ln ((aB.zip ls).eraseIdx i)::Ln (aB.getD i 0,l)::L):=I.open (M:=[_,_,_]) λ_ h=>h;have hz:=vd hl h;obtain⟨hi,he⟩:=aY.1 hz;have h1:U W w (Ln (aB.getD i 0,l)::ah Ln ((aB.zip ls).eraseIdx i)::aa qb 288 [.slice ad ls.length c]::Sl 289 1 ad ls.length c ((aB.zip ls).map km)::L):=I.sub;replace h1:=h1.kZ hi;rw[← LZ hl h]at h1;have fa:ls.length=(ls.set i l).length:=by rw[bt]
 have hp:(aB.zip ls).map km=(aB.zip (ls.set i l)).map km:=by
  rw[LZ hl h,map_set]
  symm
  apply ext_getElem?;intro j;rw[jO];split
  ·rename_i hj;subst hj;split
   ·rw[bl,hz];rfl
   ·rw[jt (by omega)]
  ·rfl
 rw[hp,fa]at h1;exact Qu.mk' h1 ad c (by rw[← fa];exact hl)
theorem L1 {ls:List (List UInt8)}{i:Nat}:ls.set i (ls.getD i [])=ls:=by
 apply ext_getElem?;intro j;rw[jO];split
 ·rename_i h;subst h;split
  ·rename_i h;rw[bm,aD h];rfl
  ·rw[jt (by omega)]
 ·rfl
theorem Qu.back (I:U W w (Ln (aB.getD i 0,ls.getD i [])::y7 qb aB ls i::L))(h:i<ls.length):U W w (Qu qb aB ls::L):=by
 have:=Qu.in I h
 rwa [L1]at this
theorem y8 (I:U W w (Qu qb aB ls::L))(h:i<ls.length):Calls prog 172 #[.pointer (some ⟨aB.getD i 0,0,none⟩)] w λe w'=>e=.returned (.int .i64 (ls.getD i []).length)∧U W w' (Qu qb aB ls::L) :=
 (BH (Qu.out I h)).mono λ_ _ ⟨he,I⟩=>⟨he,Qu.back I h⟩
theorem Zs (I:U W w (Qu qb aB ls::L))(h:i<ls.length):Calls prog 173 #[.pointer (some ⟨aB.getD i 0,0,none⟩),.int .i64 f] w λe w'=>e=.returned (.tuple #[.int .u8 (((ls.getD i []).getD f 0).toNat:Nat),.bool (decide (f<(ls.getD i []).length))])∧U W w' (Qu qb aB ls::L) :=
 (LU (Qu.out I h)).mono λ_ _ ⟨he,I⟩=>⟨he,Qu.back I h⟩
theorem Zt (I:U W w (Qu qb aB ls::L))(h:i<ls.length)(hl:(ls.getD i []).length<1000):Calls prog 314 #[.pointer (some ⟨aB.getD i 0,0,none⟩),.int .u8 (x.toNat:Nat)] w λe w'=>e=.returned (.int .i64 0)∧U W w' (Qu qb aB (ls.set i (ls.getD i []++[x]))::L) :=
 (LV (Qu.out I h) (by omega)).mono λ_ _ ⟨he,I⟩=>by
  rw[ak hl]at he I;exact⟨he,Qu.in I h⟩
theorem Zu {fr:Nat}{bs:List UInt8}(I:U W w (Qu qb aB ls::L))(h:i<ls.length)(hl:(ls.getD i []).length≤1000)(hb:bs.length≤65536)(hp:∀ w',U W w' L→aX w' ad bs.length bs) :
   Calls prog 318 #[.pointer (some ⟨aB.getD i 0,0,none⟩),.int .i64 fr,.slice ad bs.length c] w λe w'=>∃ n er:Int,e=.returned (.tuple #[.int .i64 n,.int .i64 er])∧U W w' (Qu qb aB (ls.set i (du (ls.getD i []) fr bs))::L) :=
 (Zo (Qu.out I h) hl hb (λw' hw=>hp w' hw.tail)).mono λ_ _ ⟨n,er,he,I⟩=>⟨n,er,he,Qu.in I h⟩
theorem Zv {fr k:Nat}(I:U W w (Qu qb aB ls::L))(h:i<ls.length)(hl:(ls.getD i []).length≤1000)(hf:fr≤1000)(hk:1≤k∧k≤1000) :
   Calls prog 309 #[.pointer (some ⟨aB.getD i 0,0,none⟩),.int .i64 fr,.int .i64 k] w λe w'=>∃ av c',e=.returned (.slice av (((ls.getD i []).drop fr).take k).length c')∧U W w' (Sl 5 1 av (((ls.getD i []).drop fr).take k).length c' (bc (((ls.getD i []).drop fr).take k))::Qu qb aB ls::L) :=
 (LY (Qu.out I h) hl hf hk).mono λ_ _ ⟨av,c',he,I⟩=>⟨av,c',he,(Qu.back (L:=Sl 5 1 av _ c' _::L) I.sub h).perm (cZ _ _ _)⟩
theorem Zw (I:U W w (Qu qb aB ls::L))(h:i<ls.length)(hl:(ls.getD i []).length≤1000) :
   Calls prog 293 #[.pointer (some ⟨aB.getD i 0,0,none⟩)] w λe w'=>∃ av c',e=.returned (.slice av (ls.getD i []).length c')∧U W w' (Sl 5 1 av (ls.getD i []).length c' (bc (ls.getD i []))::Qu qb aB ls::L) :=
 (Zq (Qu.out I h) hl).mono λ_ _ ⟨av,c',he,I⟩=>⟨av,c',he,(Qu.back (L:=Sl 5 1 av _ c' _::L) I.sub h).perm (cZ _ _ _)⟩
theorem FR (I:U W w (Qu qb aB ls::L)):Calls prog 171 #[pt qb] w λe w'=>e=.returned (.int .i64 ls.length)∧U W w' (Qu qb aB ls::L):=by
 obtain⟨ad,c,hl,I⟩:=Qu.open I;refine EN func171 ntmps171 rfl rfl λa E=>?_;refine RN 6 E I λa E=>?_;replace E:=E.aP 4;refine RT 8 E I ?_;exact⟨rfl,Qu.close I hl⟩
theorem BI {aB:List Nat}{ls:List (List UInt8)}(hl:aB.length=ls.length){i:Nat}(h:i<ls.length):((aB.zip ls).map km)[i]?=some (.pointer (some ⟨aB.getD i 0,0,none⟩)):=by
 rw[bl,vd hl h];rfl
theorem tL (I:U W w (Qu qb aB ls::L))(h:i<ls.length):Calls prog 291 #[pt qb,.int .i64 i] w λe w'=>e=.returned (.pointer (some ⟨aB.getD i 0,0,none⟩))∧U W w' (Qu qb aB ls::L):=by
 refine EN func291 ntmps291 rfl rfl λa E=>?_;refine RN 7 E I λa E=>?_;rw[bo (by omega)]at E;refine CL 2 E I (FR I) λa w E I=>?_;refine RN 2 E I λa E=>?_;rw[bo (by omega)]at E;refine RN 2 E I λa E=>?_;obtain⟨ad,c,hl,I⟩:=Qu.open I;obtain⟨b,o,rfl,hr⟩:=I.bU ad (by omega);refine RN 6 E I λa E=>?_;refine SS E (ae E (hr i _ (BI hl h))) λa E=>?_;refine RT 1 E I ?_;exact⟨rfl,Qu.close I hl⟩
theorem sj (I:U W w (Qu qb aB ls::L))(h0:ls≠[])(ie:ls.length≤8):Calls prog 135 #[pt qb] w λe w'=>e=.returned (.int .i64 (aU ls))∧U W w' (Qu qb aB ls::L):=by
 have qD:0<ls.length:=List.length_pos_iff.2 h0;refine EN func135 ntmps135 rfl rfl λa E=>?_;refine CL 5 E I (FR I) λa w E I=>?_;refine RN 1 E I λa E=>?_;rw[bo (by omega)]at E;refine RN 2 E I λa E=>?_;obtain⟨ad,c,hl,I⟩:=Qu.open I;obtain⟨b,o,rfl,hr⟩:=I.bU ad (by omega);refine RN 5 E I λa E=>?_;refine SS E (ae E (hr 0 _ (BI hl qD))) λa E=>?_;replace I:U W w (Qu qb aB ls::L):=Qu.close I hl;refine CL 0 E I (y8 I qD) λa w E I=>?_;refine RN 3 E I λa E=>?_;obtain⟨ad,c,hl,I⟩:=Qu.open I;rw[show ((ls.getD 0 []).length:Int)=(iR ls 0:Nat) from by rw[iR,List.headD_eq_getD]]at E;refine RN 6 E I λa E=>?_;replace I:U W w (aa qb 288 [.slice ad ls.length c]::Sl 289 1 ad ls.length c ((aB.zip ls).map km)::ah Ln (aB.zip ls)::L):=I;refine aN (λμ a w=>∃ (i:Nat),(μ=ls.length-i∧i≤ls.length)∧Fr a 31 [(3,.int .i64 (iR ls i:Nat)),(19,.slice ad ls.length c),(20,.int .i64 ls.length),(21,.int .i64 i)]∧U W w (aa qb 288 [.slice ad ls.length c]::Sl 289 1 ad ls.length c ((aB.zip ls).map km)::ah Ln (aB.zip ls)::L)) (ls.length) (⟨0,⟨rfl,by omega⟩,E.ab [3,19,20,21],I⟩) ?_;clear E I;rintro μ a w ⟨i,⟨rfl,hi⟩,E,I⟩;refine IF 3 E I (λao a E=>?_) λao a E=>?_
 ·
  obtain⟨b2,qJ,rfl,e4⟩:=I.bU ad (by omega);have aI:i<ls.length:=by omega
  have hz:=vd hl aI;obtain⟨kQ,mo⟩:=aY.1 hz;refine RN 3 E I λa E=>?_;refine SS E (ae E (e4 i _ (BI hl aI))) λa E=>?_;refine RN 1 E I λa E=>?_;replace I:=(I.pick (ah Ln (aB.zip ls))).fy kQ;rw[mo]at I;refine CL 2 E I (BH I) λa w E I=>?_;replace I:=(mo ▸ I:U W w (Ln (aB.zip ls)[i]::_)).kZ kQ;rw[mN]at I;refine RN 1 E I λa E=>?_;rw[show min ((iR ls i:Nat):Int) ((ls.getD i []).length:Int)=((iR ls (i+1):Nat):Int) from by rw[iR];omega]at E;refine RN 3 E I λa E=>?_;exact⟨ls.length-(i+1),by omega,i+1,⟨rfl,by omega⟩,E.ab [3,19,20,21],I.sub⟩
 obtain rfl:i=ls.length:=by omega
 refine RT 3 E I ?_;exact⟨rfl,Qu.close I hl⟩
theorem Zx (I:U W w (Qu qb aB ls::L))(h0:ls≠[])(hf:f<aU ls)(ie:ls.length≤8):Calls prog 136 #[pt qb,.int .i64 f] w λe w'=>∃ av c',e=.returned (.tuple #[.slice av (bJ ls f).length c',.bool true]) ∧
   U W w' (Sl 5 1 av (bJ ls f).length c' (bc (bJ ls f))::Qu qb aB ls::L):=by
 refine EN func136 ntmps136 rfl rfl λa E=>?_;refine RN 8 E I λa E=>?_;rw[bo (by omega)]at E;refine CL 2 E I (sj I h0 ie) λa w E I=>?_;refine RN 2 E I λa E=>?_;rw[bo (by omega)]at E;refine RN 5 E I λa E=>?_;obtain⟨ad,c,hl,I⟩:=Qu.open I;refine RN 6 E I λa E=>?_;refine aN (λμ a w=>∃ (i:Nat) (ad2:Option Addr) (c2:Nat),(μ=ls.length-i∧i≤ls.length)∧Fr a 40 [(1,.int .i64 f),(6,.slice ad2 (fA ls f i).length c2),(22,.slice ad ls.length c),(23,.int .i64 ls.length),(24,.int .i64 i)]∧U W w (Sl 5 1 ad2 (fA ls f i).length c2 (bc (fA ls f i))::aa qb 288 [.slice ad ls.length c]::Sl 289 1 ad ls.length c ((aB.zip ls).map km)::ah Ln (aB.zip ls)::L)) (ls.length) (⟨0,none,0,⟨rfl,by omega⟩,E.ab [1,6,22,23,24],I.bM 5 1 none⟩) ?_;clear E I;rintro μ a w ⟨i,ad2,c2,⟨rfl,hi⟩,E,I⟩;refine IF 3 E I (λao a E=>?_) λao a E=>?_
 ·
  obtain⟨b2,qJ,rfl,e4⟩:=I.bU ad (by omega);have aI:i<ls.length:=by omega
  have hz:=vd hl aI;obtain⟨kQ,mo⟩:=aY.1 hz;have dQ:=tK (ls:=ls) (f:=f) (i:=i) hi;refine RN 3 E I λa E=>?_;refine SS E (ae E (e4 i _ (BI hl aI))) λa E=>?_;refine RN 2 E I λa E=>?_;replace I:=(I.pick (ah Ln (aB.zip ls))).fy kQ;rw[mo]at I;refine CL 2 E I (LU I) λa w E I=>?_;replace I:=(mo ▸ I:U W w (Ln (aB.zip ls)[i]::_)).kZ kQ;rw[mN]at I;refine RN 7 E I λa E=>?_;refine cp E rfl I underlying22 Ty.t5 rfl rfl rfl rfl (by decide) (by decide) λb36 a w E I ho=>?_;clear ho;refine RN 0 E I λa E=>?_;refine cQ E rfl I underlying22 Ty.t5 rfl rfl I.ai rfl (ez [(ls.getD i []).getD f 0]) (by decide) (by decide) (by omega) λYY YZ a w E I=>?_;rw[show bc (fA ls f i)++_=bc (fA ls f (i+1)) from by rw[BF aI,fM,bm (l:=ls),aD aI];rfl,show (fA ls f i).length+1=(fA ls f (i+1)).length from by rw[tK hi,tK (by omega)]]at I;rw[show (fA ls f i).length+1=(fA ls f (i+1)).length from by rw[tK hi,tK (by omega)]]at E;refine RN 3 E I λa E=>?_;exact⟨ls.length-(i+1),by omega,i+1,_,_,⟨rfl,by omega⟩,E.ab [1,6,22,23,24],I.sub⟩
 obtain rfl:i=ls.length:=by omega
 rw[BE]at E I;refine RT 4 E I ?_;exact⟨_,_,rfl,(Qu.mk' (L':=Sl 5 1 ad2 (bJ ls f).length c2 (bc (bJ ls f))::L) I ad c hl).perm (cZ _ _ _)⟩
theorem Zy {d:Nat}(I:U W w L)(hn:2≤n∧n≤8)(hd:d≤8):Calls prog 131 #[.int .i64 n,.int .i64 d] w λe w'=>∃ qb aB,e=.returned (pt qb)∧U W w' (Qu qb aB (List.replicate n (List.replicate d 0))::L):=by
 refine EN func131 ntmps131 rfl rfl λa E=>?_;refine BX 4 E I λdt a w E I=>?_;refine RN 6 E I λa E=>?_;rw[show min (max (n:Int) 2) 8=(n:Int) from by omega]at E;refine RN 1 E I λa E=>?_;replace I:=I.bM 289 1 none;replace I:=U.ja (f:=Ln) I;refine aN (λμ a w=>∃ (i:Nat) (xs:List Lx) (ad:Option Addr) (c:Nat),(μ=n-i∧i≤n∧xs.map (·.2)=List.replicate i (List.replicate d 0))∧Fr a 26 [(1,.int .i64 d),(5,pt dt),(10,.int .i64 n),(11,.int .i64 i)]∧U W w (aa dt 288 [.slice ad i c]::Sl 289 1 ad i c (xs.map km)::ah Ln xs::L)) (n) (⟨0,[],none,0,⟨rfl,by omega,rfl⟩,E.ab [1,5,10,11],(I.sub:U W w (aa dt 288 [.slice none 0 0]::Sl 289 1 none 0 0 []::ah Ln []::L))⟩) ?_;clear E I;rintro μ a w ⟨i,xs,ad,c,⟨rfl,hi,bd⟩,E,I⟩;refine IF 3 E I (λaj a E=>?_) λaj a E=>?_
 ·
  refine aV 1 (λw0 w'=>Rd w' dt 0 [.slice ad i c]) [6,7] [0,1,2,3,5,3004,1006,1007,1008,9,10,1011] E I λa w E I hH=>?_;have hC:=hH.at w I.ai;refine RH 5 E I hH hC λa E=>?_;refine QH E (λw hc=>ae E (hc 0 _ rfl)) hC λa E=>?_;refine RH 0 E I hH hC λa E=>?_;refine bh 0 E I (Zn I hd) λlb a w E I=>?_;replace hC:=hH.at w I.ai;refine RH 0 E I hH hC λa E=>?_;refine cp E rfl I underlying286 Ty.t289 rfl rfl rfl rfl (by decide) (by decide) λJ2 a w E I ho=>?_;clear ho;replace hC:=hH.at w I.ai;refine RH 0 E I hH hC λa E=>?_;refine cQ E rfl I underlying286 Ty.t289 rfl rfl I.ai rfl (by simp[Value.oneCell']) (by decide) (by decide) (by omega) λrN rO a w E I=>?_;rw[show List.map km xs++_=List.map km (xs++[(lb,List.replicate d 0)]) from by rw[cW];rfl]at I;refine ST 2 E I (λa w E I=>?_);refine RN 2 E I λa E=>?_;have dz:=U.j1 (x:=(lb,List.replicate d 0)) (I.sub (M:=Ln (lb,List.replicate d 0)::ah Ln xs::aa dt 288 [.slice rN (i+1) rO]::Sl 289 1 rN (i+1) rO ((xs++[(lb,List.replicate d 0)]).map km)::L));exact⟨n-(i+1),by omega,i+1,xs++[(lb,List.replicate d 0)],rN,rO,⟨rfl,by omega,by rw[cW,bd,replicate_succ'];rfl⟩,E.ab [1,5,10,11],dz.sub⟩
 obtain rfl:i=n:=by omega
 refine RT 3 E I ?_;have b9:xs.length=i:=by rw[← a8 (f:=(·.2)),bd,kJ]
 have hz:(xs.map (·.1)).zip (List.replicate i (List.replicate d 0))=xs:=by
  rw[← bd];clear bd I E b9
  induction xs with
  | nil=>rfl
  | cons x xs ih=>rw[map_cons,map_cons,List.zip_cons_cons,ih]
 have ha:(List.replicate i (List.replicate d (0:UInt8))).length=i:=kJ;refine⟨dt,xs.map (·.1),rfl,?_⟩;refine Qu.close (ad:=ad) (c:=c) ?_ (by rw[a8,b9,ha]);rw[ha,hz];exact I
end
end
section
structure Cf where
 n:Int
 me:Int
 id:Int
 aL:Int
 bq:Int
 bf:Int
 order:Int
 cv:Int
 workers:Int
 room:Int
abbrev bV (c:Cf):List Value:=[.int .i64 c.n,.int .i64 c.me,.int .i64 c.id,.int .i64 c.aL,.int .i64 c.bq,.int .i64 c.bf,.int .i64 c.order,.int .i64 c.cv,.int .i64 c.workers,.int .i64 c.room]
def fB (n l h:Int):Prop:=l≤n∧n≤h
instance (n l h:Int):Decidable (fB n l h):=inferInstanceAs (Decidable (_∧_))
def eV (c:Cf):Prop:=(fB c.n 2 8∧fB c.me 0 (c.n-1)∧fB c.id 0 1099511627776)∧(fB c.aL 0 8∧fB c.bq 1 16∧fB c.bf 1 3∧fB c.order 0 3) ∧
 (c.order=0∨c.bf=2)∧fB c.cv 0 8∧fB c.workers 0 4∧fB c.room 3 50
instance (c:Cf):Decidable (eV c):=inferInstanceAs (Decidable (_∧_))
structure Pe where
 has:Nat
 heard:Nat
 frame:Nat
 sum:Nat
 apart:Bool
structure Ks where
 n:Nat
 me:Nat
 aL:Nat
 bq:Nat
 id:Int
 bf:Int
 order:Int
 cv:Int
 workers:Int
 room:Int
 ls:List (List UInt8)
 ps:List Pe
 mr:List Nat
 ev:List (Nat×Nat×Nat)
 now:Nat
 cl:Bool
def fk (k:Ks):Cf:=⟨k.n,k.me,k.id,k.aL,k.bq,k.bf,k.order,k.cv,k.workers,k.room⟩
def fC (d:Nat):Pe:=⟨d,0,0,0,false⟩
def fl (c:Cf):Ks:=⟨c.n.toNat,c.me.toNat,c.aL.toNat,c.bq.toNat,c.id,c.bf,c.order,c.cv,c.workers,c.room,
 List.replicate c.n.toNat (List.replicate c.aL.toNat 0),List.replicate c.n.toNat (fC c.aL.toNat),[],[],0,false⟩
def aG (k:Ks):Nat:=(k.ls.getD k.me []).length
def aw (k:Ks):Nat:=aU k.ls
def xg (mk:List Nat)(p:Pe):Prop:=p.apart=false∧1≤p.frame∧p.frame≤mk.length∧mk.getD (p.frame-1) 0≠p.sum
instance (mk:List Nat)(p:Pe):Decidable (xg mk p):=inferInstanceAs (Decidable (_∧_))
def au (k:Ks)(i:Nat):Pe:=k.ps.getD i (fC 0)
def lq (k:Ks)(i:Nat):Ks:=if xg k.mr (au k i) then { k with ps:=k.ps.set i { au k i with apart:=true },ev:=k.ev++[(3,i,(au k i).frame)] } else k
def gy (k:Ks):Nat→Ks
 | 0=>k
 | i+1=>lq (gy k i) i
def lr (k:Ks):Ks:=gy k k.ps.length
def lY (k:Ks)(s:Nat):Ks:=lr (if k.mr.length<1000 then { k with mr:=k.mr++[s] } else k)
def c3 (b:UInt8)(k:Ks):Int×Ks:=if k.cl=true then (6,k) else if 1000≤aG k then (4,k) else if k.bq+aw k≤aG k then (5,k) else (0,{ k with ls:=k.ls.set k.me (k.ls.getD k.me []++[b]) })
def fY (now head:Nat)(p:Pk)(x:Pe):Pe :=
 let h:=if x.has<p.dc.toNat∧p.dc.toNat≤head then p.dc.toNat else x.has
 if 0<p.frame∧(x.frame:Int)≤p.frame then { x with heard:=now,has:=h,frame:=p.frame.toNat,sum:=p.sum } else { x with heard:=now,has:=h }
def fZ (k:Ks)(p:Pk):Ks :=
 if p.kind=2 then { k with ps:=k.ps.set p.aW.toNat { au k p.aW.toNat with heard:=k.now },ev:=k.ev++[(1,p.aW.toNat,0)],cl:=true }
 else lr { k with ls:=k.ls.set p.aW.toNat (du (k.ls.getD p.aW.toNat []) p.first.toNat p.al),ps:=k.ps.set p.aW.toNat (fY k.now (aG k) p (au k p.aW.toNat)) }
noncomputable def dp (bs:List UInt8)(k:Ks):Int×Ks:=if k.cl=true then (6,k) else match dN bs with
 | none=>(1,k)
 | some p=>if p.to≠k.me∨(k.n:Int)≤p.aW∨p.id≠k.id then (1,k) else (0,fZ k p)
def dP (k:Ks)(i:Nat):Pk:=⟨1,k.me,i,k.id,(au k i).has,(k.ls.getD i []).length,k.mr.length,k.mr.getLastD 0,((k.ls.getD k.me []).drop (au k i).has).take 32⟩
def iD (k:Ks)(i:Nat):Pk:=⟨2,k.me,i,k.id,0,0,0,0,[]⟩
def bH (k:Ks):List Nat:=(List.range k.n).filter (·≠k.me)
def jH (k:Ks)(i:Nat):Prop:=(au k i).heard+40≤k.now
instance (k:Ks)(i:Nat):Decidable (jH k i):=inferInstanceAs (Decidable (_≤_))
abbrev Ml:=Nat×Nat×List UInt8
def br (k:Ks):List Ml×Ks:=if k.cl=true then ([],k) else
 let k:={ k with now:=k.now+1 }
 match (bH k).find? (λi=>decide (jH k i)) with
 | some i=>([],{ k with ev:=k.ev++[(2,i,0)],cl:=true })
 | none=>((bH k).map λi=>(k.me,i,aT (dP k i)),k)
def cy (k:Ks):List Ml×Ks:=if k.cl=true then ([],k) else ((bH k).map λi=>(k.me,i,aT (iD k i)),{ k with cl:=true })
def held (k:Ks):Prop:=∀ i,i<k.ps.length→¬ xg k.mr (au k i)
structure WC (k:Ks):Prop where
 n:2≤k.n∧k.n≤8
 me:k.me<k.n
 id:0≤k.id∧k.id≤1099511627776
 aL:k.aL≤8
 bq:1≤k.bq∧k.bq≤16
 ls:k.ls.length=k.n
 ps:k.ps.length=k.n
 nF:∀ l∈k.ls,l.length≤1000
 mr:k.mr.length≤1000
 sk:∀ s∈k.mr,s<4294967296
 now:∀ p∈k.ps,p.heard≤k.now
 pe:∀ p∈k.ps,p.has≤1000∧p.frame≤1000∧p.sum<4294967296
 bx:∀ e∈k.ev,e.1≤3∧1≤e.1∧e.2.1<8∧e.2.2≤1000∧(e.1=3∨e.2.2=0)
 o6:k.ev.length+k.ps.countP (λp=>!p.apart)+(if k.cl=true then 0 else 1)≤k.n+1
section
variable {k:Ks}{i:Nat}
theorem WC.kT (h:WC k):k.ev.length≤9:=by have:=h.o6;have:=h.n;omega
theorem Zz (h:i<k.ps.length):au k i∈k.ps:=by
 rw[au,bm,aD h];exact jd _
theorem ve {ls:List (List UInt8)}(h:i<ls.length):ls.getD i []∈ls:=by
 rw[bm,aD h];exact jd _
theorem WC.qe (h:WC k)(hi:i<k.n):(au k i).has≤1000∧(au k i).heard≤k.now∧(au k i).frame≤1000∧(au k i).sum<4294967296:=by
 have hm:=Zz (k:=k) (i:=i) (by rw[h.ps];exact hi);exact⟨(h.pe _ hm).1,h.now _ hm,(h.pe _ hm).2⟩
theorem WC.mz (h:WC k)(hi:i<k.n):(k.ls.getD i []).length≤1000:=h.nF _ (ve (by rw[h.ls];exact hi))
theorem WC.lZ (h:WC k):aG k≤1000:=h.mz h.me
theorem WC.nG (h:WC k):aw k≤aG k:=xd (ve (by rw[h.ls];exact h.me))
theorem mem_set {α:Type}{l:List α}{x y:α}(h:y∈l.set i x):y∈l∨y=x:=rK h
theorem WC.BJ (h:WC k){p:Pe}{ev:List (Nat×Nat×Nat)}{cl:Bool}(hp:p.has≤1000∧p.frame≤1000∧p.sum<4294967296)(hh:p.heard≤k.now)
   (he:∀ e∈ev,e.1≤3∧1≤e.1∧e.2.1<8∧e.2.2≤1000∧(e.1=3∨e.2.2=0)) (hn:ev.length+(k.ps.set i p).countP (λp=>!p.apart)+(if cl=true then 0 else 1)≤k.n+1):WC { k with ps:=k.ps.set i p,ev:=ev,cl:=cl } :=
 { h with
  ps:=by show (k.ps.set i p).length=_;rw[bt];exact h.ps
  now:=λq hq=>by
   rcases mem_set hq with hq | rfl
   ·exact h.now q hq
   ·exact hh
  pe:=λq hq=>by
   rcases mem_set hq with hq | rfl
   ·exact h.pe q hq
   ·exact hp
  bx:=he
  o6:=hn }
theorem count_set {l:List Pe}{p:Pe}(h:i<l.length):(l.set i p).countP (λp=>!p.apart)+(if l[i].apart=true then 0 else 1)=l.countP (λp=>!p.apart)+(if p.apart=true then 0 else 1):=by
 have h1:l.countP (λp=>!p.apart)=(l[i]::l.eraseIdx i).countP (λp=>!p.apart):=List.Perm.countP_eq _ (sY _ h);have hi:i<(l.set i p).length:=by simpa using h
 have h2:(l.set i p).countP (λp=>!p.apart)=((l.set i p)[i]::(l.set i p).eraseIdx i).countP (λp=>!p.apart):=List.Perm.countP_eq _ (sY _ hi);rw[h1,h2,List.countP_cons,List.countP_cons,oH,eraseIdx_set_eq];cases l[i].apart <;> cases p.apart <;> simp <;> omega
theorem WC.lq (h:WC k)(hi:i<k.n):WC (lq k i):=by
 unfold Go.Proofs.YteoldcfapaiobaaGreat.lq;split
 ·rename_i hb;have aI:i<k.ps.length:=by rw[h.ps];exact hi
  have hp:=h.qe hi;have pN:au k i=k.ps[i]:=by rw[au,bm,aD aI];rfl
  refine h.BJ ⟨hp.1,hp.2.2⟩ hp.2.1 (λe he=>?_) ?_
  ·rcases eT.1 he with he | he
   ·exact h.bx e he
   ·rw[iK]at he;subst he;have:=h.n;exact⟨by simp,by simp,by simp;omega,hp.2.2.1,.inl rfl⟩
  ·have hc:=count_set (p:={ au k i with apart:=true }) aI;rw[← pN,hb.1]at hc;have:=h.o6;rw[aJ,jF];simp at hc ⊢;omega
 ·exact h
end
section
variable {k:Ks}{i:Nat}
theorem L2 (k:Ks)(i:Nat):∃ ps ev,lq k i={ k with ps:=ps,ev:=ev }∧ps.length=k.ps.length:=by
 unfold lq;split
 ·exact⟨_,_,rfl,by simp⟩
 ·exact⟨k.ps,k.ev,rfl,rfl⟩
theorem y9 (k:Ks):∀ i,∃ ps ev,gy k i={ k with ps:=ps,ev:=ev }∧ps.length=k.ps.length
 | 0=>⟨k.ps,k.ev,rfl,rfl⟩
 | i+1=>by
  obtain⟨ps,ev,h1,h2⟩:=y9 k i;obtain⟨gu,L3,h3,h4⟩:=L2 (gy k i) i;refine⟨gu,L3,?_,?_⟩
  ·rw[gy,h3,h1]
  ·rw[h4,h1];exact h2
theorem xh (k:Ks):∃ ps ev,lr k={ k with ps:=ps,ev:=ev }∧ps.length=k.ps.length:=y9 k _
theorem WC.gy (h:WC k):∀ {i},i≤k.n→WC (gy k i)
 | 0,_=>h
 | i+1,hi=>by
  rw[Go.Proofs.YteoldcfapaiobaaGreat.gy];refine (h.gy (i:=i) (by omega)).lq ?_;obtain⟨ps,ev,h1,_⟩:=y9 k i;rw[h1];show i<k.n;omega
theorem WC.lr (h:WC k):WC (lr k):=h.gy (by rw[h.ps];exact a7 _)
theorem ZA (k:Ks)(i:Nat)(hi:i<k.ps.length):¬ xg (lq k i).mr (au (lq k i) i):=by
 unfold lq;split
 ·intro hb;have:=hb.1;simp[au,hi]at this
 ·assumption
theorem ZB (k:Ks){i j:Nat}(h:j≠i):au (lq k i) j=au k j:=by
 unfold lq;split
 ·simp only[au,bm];rw[getElem?_set_ne (by omega)]
 ·rfl
theorem ZC (k:Ks)(i:Nat):(lq k i).mr=k.mr:=by
 obtain⟨ps,ev,h1,_⟩:=L2 k i;rw[h1]
theorem BK (k:Ks)(i:Nat):(gy k i).ps.length=k.ps.length:=by
 obtain⟨ps,ev,h1,h2⟩:=y9 k i;rw[h1];exact h2
theorem L5 (k:Ks):∀ {i j},i≤k.ps.length→j<i→¬ xg (gy k i).mr (au (gy k i) j)
 | 0,_,_,h=>absurd h (by omega)
 | i+1,j,hi,hj=>by
  rw[Go.Proofs.YteoldcfapaiobaaGreat.gy];by_cases h:j=i
  ·subst h;exact ZA _ _ (by rw[BK];omega)
  ·rw[ZC,ZB _ h];exact L5 k (by omega) (by omega)
theorem L6 (k:Ks):held (lr k):=λi hi=>L5 k (a7 _) (by rw[lr,BK]at hi;exact hi)
theorem held.gy (h:held k):∀ {i},i≤k.ps.length→gy k i=k
 | 0,_=>rfl
 | i+1,hi=>by
  rw[Go.Proofs.YteoldcfapaiobaaGreat.gy,h.gy (i:=i) (by omega),lq,ag (h i (by omega))]
theorem held.lr (h:held k):lr k=k:=h.gy (a7 _)
theorem held.of {k':Ks}(h:held k)(hm:k'.mr=k.mr)(hl:k'.ps.length=k.ps.length)(hp:∀ i,i<k.ps.length→(au k' i).apart=(au k i).apart∧(au k' i).frame=(au k i).frame∧(au k' i).sum=(au k i).sum):held k':=by
 intro i hi hb;rw[hl]at hi;obtain⟨h1,h2,h3⟩:=hp i hi;refine h i hi ?_;simp only[xg,hm,h1,h2,h3]at hb;exact hb
theorem WC.mark (h:WC k){s:Nat}(I:s<4294967296):WC (lY k s):=by
 unfold lY;refine WC.lr ?_;split
 ·exact { h with
   mr:=by show (k.mr++[s]).length≤1000;rw[aJ,jF];omega
   sk:=λx hx=>by
    rcases eT.1 hx with hx | hx
    ·exact h.sk x hx
    ·rw[iK]at hx;rw[hx];exact I }
 ·exact h
theorem L7 (k:Ks)(s:Nat)(hl:k.mr.length<1000):∃ ps ev,lY k s={ k with ps:=ps,ev:=ev,mr:=k.mr++[s] }∧ps.length=k.ps.length:=by
 obtain⟨ps,ev,h1,h2⟩:=xh { k with mr:=k.mr++[s] };refine⟨ps,ev,?_,h2⟩;rw[lY,ak hl,h1]
theorem vf {k:Ks}{b:UInt8}(h:(c3 b k).1=0):k.cl=false∧aG k<1000∧aG k<k.bq+aw k∧(c3 b k).2={ k with ls:=k.ls.set k.me (k.ls.getD k.me []++[b]) }:=by
 unfold c3 at h ⊢;split at h
 ·cases h
 ·split at h
  ·cases h
  ·split at h
   ·cases h
   ·rename_i h1 h2 h3;refine⟨by simpa using h1,by omega,by omega,?_⟩;rw[ag h1,ag h2,ag h3]
theorem vg {k:Ks}{b:UInt8}(h:(c3 b k).1≠0):(c3 b k).2=k:=by
 unfold c3 at h ⊢;split
 ·rfl
 ·rename_i h1;rw[ag h1]at h;split
  ·rfl
  ·rename_i h2;rw[ag h2]at h;split
   ·rfl
   ·rename_i h3;rw[ag h3]at h;exact absurd rfl h
theorem WC.al (h:WC k)(b:UInt8):WC (c3 b k).2:=by
 by_cases h0:(c3 b k).1=0
 ·obtain⟨h1,h2,h3,h4⟩:=vf h0;rw[h4];exact { h with
   ls:=by show (k.ls.set _ _).length=_;rw[bt];exact h.ls
   nF:=λl hl=>by
    rcases mem_set hl with hl | rfl
    ·exact h.nF l hl
    ·rw[aJ,jF];simp only[aG]at h2;omega }
 ·rw[vg h0];exact h
theorem held.al (h:held k)(b:UInt8):held (c3 b k).2:=by
 by_cases h0:(c3 b k).1=0
 ·obtain⟨h1,h2,h3,h4⟩:=vf h0;rw[h4];exact h
 ·rw[vg h0];exact h
theorem WC.ZD (h:WC k):WC { k with ev:=[] } :=
 { h with
  bx:=λe he=>by cases he
  o6:=by have:=h.o6;show ([]:List (Nat×Nat×Nat)).length+_+_≤_;simp only[length_nil];omega }
theorem xi {k:Ks}{i j:Nat}{p:Pe}(hi:i<k.ps.length):(k.ps.set i p).getD j (fC 0)=if j=i then p else au k j:=by
 simp only[au,bm,jO];by_cases h:i=j
 ·subst h;simp[hi]
 ·rw[ag h,ag (λe=>h e.symm)]
theorem FT {k:Ks}{i:Nat}{p:Pe}(hi:i<k.ps.length)(E:p.apart=(au k i).apart):(k.ps.set i p).countP (λp=>!p.apart)=k.ps.countP (λp=>!p.apart):=by
 have hc:=count_set (p:=p) hi;have pN:au k i=k.ps[i]:=by rw[au,bm,aD hi];rfl
 rw[← pN,E]at hc;omega
theorem WC.za (h:WC k){p:Pk}(hp:ia p)(I:p.sum<4294967296)(hn:p.aW<k.n)(hc:k.cl=false):WC (fZ k p)∧(held k→held (fZ k p)):=by
 have FU:=hp.1.1;have aI:p.aW.toNat<k.n:=by omega
 have FV:p.aW.toNat<k.ps.length:=by rw[h.ps];exact aI
 have iE:=h.qe aI;unfold fZ;split
 ·have kB:=FT (p:={ au k p.aW.toNat with heard:=k.now }) FV rfl;refine⟨h.BJ (p:={ au k p.aW.toNat with heard:=k.now }) (cl:=true) ⟨iE.1,iE.2.2⟩ (a7 _) (λe he=>?_) ?_,λhh=>hh.of rfl (by simp) λj hj=>?_⟩
  ·rcases eT.1 he with he | he
   ·exact h.bx e he
   ·rw[iK]at he;subst he;have:=h.n;exact⟨by simp,by simp,by show p.aW.toNat<8;omega,by simp,.inr rfl⟩
  ·have:=h.o6;rw[hc]at this;rw[kB,aJ,jF];simp at this ⊢;omega
  ·show ((k.ps.set _ _).getD j _).apart=_∧((k.ps.set _ _).getD j _).frame=_∧((k.ps.set _ _).getD j _).sum=_;rw[xi FV];split
   ·rename_i h1;subst h1;exact⟨rfl,rfl,rfl⟩
   ·exact⟨rfl,rfl,rfl⟩
 ·refine⟨WC.lr ?_,λ_=>L6 _⟩;have hk:p.kind=1∧eM p.first∧eM p.dc∧eM p.frame∧p.al.length≤32:=by
   rcases hp.2.2.2.2 with h1 | h1
   ·exact h1
   ·rename_i h2;exact absurd h1.1 h2
  have Dk:(fY k.now (aG k) p (au k p.aW.toNat)).apart=(au k p.aW.toNat).apart:=by
   unfold fY;simp only;split <;> rfl
  have kB:=FT (p:=fY k.now (aG k) p (au k p.aW.toNat)) FV Dk;have ZE:=hk.2.2.1;have jv:=hk.2.2.2.1;simp only[eM]at ZE jv;have gX:=h.lZ;have hq:(fY k.now (aG k) p (au k p.aW.toNat)).has≤1000∧(fY k.now (aG k) p (au k p.aW.toNat)).frame≤1000∧(fY k.now (aG k) p (au k p.aW.toNat)).sum<4294967296∧(fY k.now (aG k) p (au k p.aW.toNat)).heard=k.now:=by
   unfold fY;simp only;have h9:(if (au k p.aW.toNat).has<p.dc.toNat∧p.dc.toNat≤aG k then p.dc.toNat else (au k p.aW.toNat).has)≤1000:=by split <;> omega
   split
   ·exact⟨h9,by show p.frame.toNat≤1000;omega,I,rfl⟩
   ·exact⟨h9,iE.2.2.1,iE.2.2.2,rfl⟩
  have h1:=h.BJ (p:=fY k.now (aG k) p (au k p.aW.toNat)) (i:=p.aW.toNat) (ev:=k.ev) (cl:=k.cl) ⟨hq.1,hq.2.1,hq.2.2.1⟩ (by rw[hq.2.2.2];exact a7 _) h.bx (by rw[kB];exact h.o6);have ig:=h.mz aI;exact { h1 with
   ls:=by show (k.ls.set _ _).length=_;rw[bt];exact h.ls
   nF:=λl hl=>by
    rcases mem_set hl with hl | rfl
    ·exact h.nF l hl
    ·exact (sh ig).2 }
theorem BL {k:Ks}{bs:List UInt8}(h:(dp bs k).1=0):∃ p,dN bs=some p∧k.cl=false∧p.to=k.me∧p.aW<k.n∧p.id=k.id∧(dp bs k).2=fZ k p:=by
 unfold dp at h ⊢;split at h
 ·cases h
 ·rename_i h1;rw[ag h1];cases hd:dN bs with
  | none=>rw[hd]at h;cases h
  | some p =>
   rw[hd]at h;simp only at h ⊢;split at h
   ·cases h
   ·rename_i h2;rw[ag h2];have h3:p.to=k.me:=Decidable.of_not_not λhh=>h2 (.inl hh);have h4:p.id=k.id:=Decidable.of_not_not λhh=>h2 (.inr (.inr hh));have h5:p.aW<k.n:=Int.not_le.1 λhh=>h2 (.inr (.inl hh));exact⟨p,rfl,by simpa using h1,h3,h5,h4,rfl⟩
theorem xj {k:Ks}{bs:List UInt8}(h:(dp bs k).1≠0):(dp bs k).2=k:=by
 unfold dp at h ⊢;split
 ·rfl
 ·rename_i h1;rw[ag h1]at h;cases hd:dN bs with
  | none=>rfl
  | some p =>
   rw[hd]at h;simp only at h ⊢;split
   ·rfl
   ·rename_i h2;rw[ag h2]at h;exact absurd rfl h
theorem WC.recv (h:WC k)(bs:List UInt8):WC (dp bs k).2∧(held k→held (dp bs k).2):=by
 by_cases h0:(dp bs k).1=0
 ·obtain⟨p,h1,h2,h3,h4,h5,h6⟩:=BL h0;obtain⟨h7,h8,h9⟩:=Fl h1;rw[h6];exact h.za h7 h8 h4 h2
 ·rw[xj h0];exact⟨h,λh=>h⟩
theorem xk {k:Ks}{i:Nat}:i∈bH k↔i<k.n∧i≠k.me:=by simp[bH]
theorem WC.BM (h:WC k):WC { k with now:=k.now+1 }:={ h with now:=λp hp=>Nat.le_succ_of_le (h.now p hp) }
theorem WC.late (h:WC k){i:Nat}(hi:i<8)(hc:k.cl=false):WC { k with ev:=k.ev++[(2,i,0)],cl:=true } :=
 { h with
  bx:=λe he=>by
   rcases eT.1 he with he | he
   ·exact h.bx e he
   ·rw[iK]at he;subst he;exact⟨by simp,by simp,hi,by simp,.inr rfl⟩
  o6:=by
   have:=h.o6;rw[hc]at this;rw[aJ,jF];simp at this ⊢;omega }
theorem xm (k:Ks):(br k).2=k∨(k.cl=false∧((br k).2={ k with now:=k.now+1 }∨∃ i,i<k.n∧(br k).2={ k with now:=k.now+1,ev:=k.ev++[(2,i,0)],cl:=true })):=by
 unfold br;split
 ·exact .inl rfl
 ·rename_i hc;refine .inr ⟨by simpa using hc,?_⟩;simp only;cases hf:(bH { k with now:=k.now+1 }).find? (λi=>decide (jH { k with now:=k.now+1 } i)) with
  | none=>exact .inl rfl
  | some i=>exact .inr ⟨i,(xk.1 (List.mem_of_find?_eq_some hf)).1,rfl⟩
theorem WC.tick (h:WC k):WC (br k).2∧(held k→held (br k).2):=by
 rcases xm k with h1 | ⟨hc,h1 | ⟨i,hi,h1⟩⟩
 ·rw[h1];exact⟨h,λh=>h⟩
 ·rw[h1];exact⟨h.BM,λh=>h⟩
 ·rw[h1];have:=h.n;exact⟨(h.BM).late (by omega) hc,λh=>h⟩
theorem WC.o7 (h:WC k):WC (cy k).2∧(held k→held (cy k).2):=by
 unfold cy;split
 ·exact⟨h,λh=>h⟩
 ·rename_i hc;refine⟨{ h with o6:=?_ },λh=>h⟩;have:=h.o6;have xZ:k.cl=false:=by simpa using hc
  rw[xZ]at this;simp at this ⊢;omega
theorem WC.new {c:Cf}(h:eV c):WC (fl c)∧held (fl c)∧fk (fl c)=c:=by
 obtain⟨⟨h1,h2,h3⟩,⟨h4,h5,h6,h7⟩,h8,h9,fg,lP⟩:=h;simp only[fB] at *;refine⟨⟨?_,?_,?_,?_,?_,?_,?_,?_,?_,?_,?_,?_,?_,?_⟩,?_,?_⟩
 ·show 2≤c.n.toNat∧c.n.toNat≤8;omega
 ·show c.me.toNat<c.n.toNat;omega
 ·exact h3
 ·show c.aL.toNat≤8;omega
 ·show 1≤c.bq.toNat∧c.bq.toNat≤16;omega
 ·simp[fl]
 ·simp[fl]
 ·intro l hl;simp[fl]at hl;rw[hl.2,kJ];omega
 ·simp[fl]
 ·intro s I;cases I
 ·intro p hp;simp[fl]at hp;rw[hp.2];exact Nat.zero_le _
 ·intro p hp;simp[fl]at hp;rw[hp.2];refine⟨?_,?_,?_⟩ <;> simp[fC];omega
 ·intro e he;cases he
 ·simp[fl,List.countP_replicate,fC]
 ·intro i hi hb;have h1:(au (fl c) i).frame≤0:=hb.2.2.1;have h2:=hb.2.1;omega
 ·show Cf.mk _ _ _ _ _ _ _ _ _ _=c;simp only[fl];rw[Int.toNat_of_nonneg (by omega),Int.toNat_of_nonneg (by omega),Int.toNat_of_nonneg (by omega),Int.toNat_of_nonneg (by omega)]
end
theorem ZF {p:Pr}{fr:Int}{b:List UInt8}{g:Nat→Int}{aO:Nat}{o:gJ}{m:Int}(hg:dS g)(ho:e6 m o):dS (eu p fr b g aO o).1:=by
 have qU:=ho;simp only[e6,e5]at qU;unfold eu;split
 ·exact hg
 ·split
  ·exact hg
  ·split
   ·exact hg
   ·split
    ·exact n2 hg (hg _ (by omega))
    ·exact n2 hg (KD hg ho (by assumption) (by assumption))
theorem L8 {p:Pr}{fr:Int}{b:List UInt8}(hp:dm p):∀ (n:Nat) {g:Nat→Int} {aO:Nat},dS g→dS (qP p fr b n g aO)
 | 0,_,_,hg=>hg
 | n+1,g,aO,hg=>by
  cases ho:p.ops[aO]? with
  | none =>
   rw [EM (by rcases gR aO p.ops.length with h | h; · rw [aD h] at ho; cases ho
              ·exact h)];exact hg
  | some o =>
   have h1:=ZF (p:=p) (fr:=fr) (b:=b) (aO:=aO) hg (hp.2 o (bF ho));rw[EL ho];split
   ·exact L8 hp n h1
   ·exact h1
theorem L9 {p:Pr}{fr:Int}{b:List UInt8}{g:Nat→Int}(hp:dm p)(hg:dS g):dS (e7 p fr b g):=L8 hp 200 hg
theorem Ma {p:Pr}(hp:dm p):∀ (l:List (List UInt8)) {fr:Int} {g:Nat→Int},dS g→dS (foldI p fr g l)
 | [],_,_,hg=>hg
 | b::l,_,_,hg=>Ma hp l (L9 hp hg)
structure Pl where
 k:Ks
 g:Nat→Int
def ob (p:Pr)(s:Pl):Pl:=⟨lY s.k (gL (gx (e7 p s.k.mr.length (bJ s.k.ls s.k.mr.length) s.g))),e7 p s.k.mr.length (bJ s.k.ls s.k.mr.length) s.g⟩
def iF (p:Pr):Nat→Pl→Pl
 | 0,s=>s
 | n+1,s=>iF p n (ob p s)
theorem FW (p:Pr):∀ (n:Nat) (s:Pl),iF p (n+1) s=ob p (iF p n s)
 | 0,_=>rfl
 | n+1,s=>by rw[iF,FW p n (ob p s)];rfl
def eC (p:Pr)(s:Pl):Pl:=iF p (aw s.k-s.k.mr.length) s
def o8:Nat→Int:=λ_=>0
theorem ZG:dS o8:=λ_ _=>⟨by simp[o8],by simp[o8]⟩
def l3 (p:Pr)(ls:List (List UInt8))(f:Nat):Nat→Int:=foldI p 0 o8 ((List.range f).map (bJ ls))
def kU (p:Pr)(ls:List (List UInt8))(f:Nat):Nat:=gL (gx (l3 p ls (f+1)))
theorem Mb (p:Pr)(ls:List (List UInt8))(f:Nat):l3 p ls (f+1)=e7 p f (bJ ls f) (l3 p ls f):=by
 rw[l3,range_succ,cW,map_singleton,Ej,a8,length_range,Int.zero_add];rfl
def Ext (ls kV:List (List UInt8)):Prop:=kV.length=ls.length∧∀ i:Nat,i<ls.length→∃ t,kV.getD i []=ls.getD i []++t
theorem Ext.refl (ls:List (List UInt8)):Ext ls ls:=⟨rfl,λi _=>⟨[],by simp⟩⟩
theorem Ext.trans {a b c:List (List UInt8)}(h:Ext a b)(h2:Ext b c):Ext a c:=⟨h2.1.trans h.1,λi hi=>by
 obtain⟨t,ht⟩:=h.2 i hi;obtain⟨u,hu⟩:=h2.2 i (by rw[h.1];exact hi);exact⟨t++u,by rw[hu,ht,dx]⟩⟩
theorem Ext.set {ls:List (List UInt8)}{i:Nat}{t:List UInt8}:Ext ls (ls.set i (ls.getD i []++t)):=by
 refine⟨by simp,λj hj=>?_⟩;by_cases h:i=j
 ·subst h;exact⟨t,by simp[bm,hj]⟩
 ·exact⟨[],by simp[bm,getElem?_set_ne h]⟩
theorem getD_map {ls:List (List UInt8)}{f i:Nat}(h:i<ls.length):(bJ ls f)[i]?=some ((ls.getD i []).getD f 0):=by
 rw[bJ,bl,aD h,bm (l:=ls),aD h];rfl
theorem Ext.FX {ls kV:List (List UInt8)}(h:Ext ls kV){f:Nat}(hf:f<aU ls):bJ kV f=bJ ls f:=by
 apply ext_getElem?;intro i;by_cases hi:i<ls.length
 ·rw[getD_map (by rw[h.1];exact hi),getD_map hi];obtain⟨t,ht⟩:=h.2 i hi;have hl:=xd (ve hi);rw[ht,bm,mF (by omega),← bm]
 ·rw[jt (by rw[nD,h.1];omega),jt (by rw[nD];omega)]
theorem Ext.front {ls kV:List (List UInt8)}(h:Ext ls kV)(h0:ls≠[]):aU ls≤aU kV:=by
 refine FO (λh1=>?_) λl hl=>?_
 ·have:=h.1;rw[h1]at this;exact h0 (gG this.symm)
 ·obtain⟨i,hi,rfl⟩:=xe hl;have v8:i<ls.length:=by rw[← h.1];exact hi
  obtain⟨t,ht⟩:=h.2 i v8;have h3:=xd (ve v8);rw[bm,aD hi]at ht;simp only[Option.getD_some]at ht;rw[ht,aJ];omega
theorem Ext.l3 {ls kV:List (List UInt8)}(h:Ext ls kV){p:Pr}{f:Nat}(hf:f≤aU ls):l3 p kV f=l3 p ls f:=by
 unfold Go.Proofs.YteoldcfapaiobaaGreat.l3
 congr 1
 refine List.map_congr_left λi hi=>h.FX ?_;rw[mem_range]at hi;omega
theorem Ext.kU {ls kV:List (List UInt8)}(h:Ext ls kV){p:Pr}{f:Nat}(hf:f<aU ls):kU p kV f=kU p ls f:=by
 rw[Go.Proofs.YteoldcfapaiobaaGreat.kU,h.l3 (by omega)];rfl
structure WP (p:Pr)(s:Pl):Prop where
 wc:WC s.k
 held:held s.k
 low:s.k.mr.length≤aw s.k
 sm:s.g=l3 p s.k.ls s.k.mr.length
 marks:s.k.mr=(List.range s.k.mr.length).map (kU p s.k.ls)
section
variable {p:Pr}{s:Pl}
theorem WP.qf (h:WP p s)(hp:dm p):dS s.g:=by rw[h.sm];exact Ma hp _ ZG
theorem WC.lu {k:Ks}(h:WC k):k.ls≠[]:=λe=>by
 have:=h.ls;have:=h.n;rw[e] at *;simp at *;omega
theorem WP.one (h:WP p s)(hl:s.k.mr.length<aw s.k):WP p (ob p s)∧(ob p s).k.ls=s.k.ls∧(ob p s).k.mr.length=s.k.mr.length+1:=by
 have h9:=h.wc.nG;have h8:=h.wc.lZ;obtain⟨ps,ev,h1,h2⟩:=L7 s.k (gL (gx (e7 p s.k.mr.length (bJ s.k.ls s.k.mr.length) s.g))) (by omega);have hk:(ob p s).k={ s.k with ps:=ps,ev:=ev,mr:=s.k.mr++[gL (gx (e7 p s.k.mr.length (bJ s.k.ls s.k.mr.length) s.g))] }:=h1;have hm:(ob p s).k.mr.length=s.k.mr.length+1:=by rw[hk];simp
 have fa:(ob p s).k.ls=s.k.ls:=by rw[hk]
 have hg:e7 p s.k.mr.length (bJ s.k.ls s.k.mr.length) s.g=l3 p s.k.ls (s.k.mr.length+1):=by rw[Mb,h.sm]
 refine⟨⟨h.wc.mark (yQ _),?_,?_,?_,?_⟩,fa,hm⟩
 ·show Go.Proofs.YteoldcfapaiobaaGreat.held (lY _ _);rw[lY];exact L6 _
 ·rw[hm,aw,fa];exact hl
 ·rw[hm,fa];exact hg
 ·rw[hm,fa,hk,range_succ,cW,← h.marks,hg];rfl
theorem WP.q5:∀ (n:Nat) {s:Pl},WP p s→n≤aw s.k-s.k.mr.length→WP p (iF p n s)∧(iF p n s).k.ls=s.k.ls∧(iF p n s).k.mr.length=s.k.mr.length+n
 | 0,_,h,_=>⟨h,rfl,rfl⟩
 | n+1,s,h,hn=>by
  obtain⟨h1,h2,h3⟩:=h.one (by omega);obtain⟨h4,h5,h6⟩:=h1.q5 n (by rw[aw,h2,h3];simp only[aw]at hn;omega);exact⟨h4,h5.trans h2,by rw[iF,h6,h3];omega⟩
theorem ZH (h:s.k.mr.length<1000):∃ ps ev mr,(ob p s).k={ s.k with ps:=ps,ev:=ev,mr:=mr }:=by
 obtain⟨ps,ev,h1,h2⟩:=L7 s.k (gL (gx (e7 p s.k.mr.length (bJ s.k.ls s.k.mr.length) s.g))) h;exact⟨ps,ev,_,h1⟩
theorem WP.Mc:∀ (n:Nat) {s:Pl},WP p s→n≤aw s.k-s.k.mr.length→∃ ps ev mr,(iF p n s).k={ s.k with ps:=ps,ev:=ev,mr:=mr }
 | 0,s,h,_=>⟨s.k.ps,s.k.ev,s.k.mr,rfl⟩
 | n+1,s,h,hn=>by
  have h9:=h.wc.nG;have h8:=h.wc.lZ;obtain⟨h1,h2,h3⟩:=h.one (by omega);obtain⟨ps,ev,mr,h4⟩:=h1.Mc n (by rw[aw,h2,h3];simp only[aw]at hn;omega);obtain⟨gu,L3,mr',h5⟩:=ZH (p:=p) (s:=s) (by omega);exact⟨ps,ev,mr,by rw[iF,h4,h5]⟩
structure ct (p:Pr)(s:Pl):Prop extends WP p s where
 full:s.k.mr.length=aw s.k
theorem WP.eC (h:WP p s):ct p (eC p s)∧(eC p s).k.ls=s.k.ls∧∃ ps ev mr,(Go.Proofs.YteoldcfapaiobaaGreat.eC p s).k={ s.k with ps:=ps,ev:=ev,mr:=mr }:=by
 obtain⟨h1,h2,h3⟩:=h.q5 _ (a7 _);have hl:=h.low;refine⟨⟨h1,?_⟩,h2,h.Mc _ (a7 _)⟩;show (iF p _ s).k.mr.length=aU (iF p _ s).k.ls;rw[h3,h2];show _=aw s.k;omega
theorem ct.eC (h:ct p s):eC p s=s:=by rw[Go.Proofs.YteoldcfapaiobaaGreat.eC,h.full,Nat.sub_self];rfl
theorem WP.more {k':Ks}(h:WP p s)(hw:WC k')(hh:Go.Proofs.YteoldcfapaiobaaGreat.held k')(hm:k'.mr=s.k.mr)(he:Ext s.k.ls k'.ls):WP p ⟨k',s.g⟩:=by
 have hf:=he.front h.wc.lu;have hl:=h.low;refine⟨hw,hh,?_,?_,?_⟩
 ·show k'.mr.length≤aU k'.ls;rw[hm];simp only[aw]at hl;omega
 ·show s.g=l3 p k'.ls k'.mr.length;rw[hm,he.l3 hl];exact h.sm
 ·show k'.mr=(List.range k'.mr.length).map (kU p k'.ls);rw[hm]
  conv=>lhs;rw[h.marks]
  refine List.map_congr_left λi hi=>?_;rw[mem_range]at hi;simp only[aw]at hl;rw[he.kU (by omega)]
def dK (p:Pr)(b:UInt8)(s:Pl):Int×Pl:=((c3 b s.k).1,eC p ⟨(c3 b s.k).2,s.g⟩)
noncomputable def dB (p:Pr)(bs:List UInt8)(s:Pl):Int×Pl:=((dp bs s.k).1,eC p ⟨(dp bs s.k).2,s.g⟩)
def l4 (s:Pl):List UInt8×Nat:=(gx s.g,aw s.k)
theorem Md (l:List UInt8)(f:Nat)(b:List UInt8):∃ t,du l f b=l++t:=by
 unfold du;split
 ·exact⟨[],by simp⟩
 ·exact⟨_,rfl⟩
theorem FY {k:Ks}{p:Pk}:(fZ k p).mr=k.mr∧Ext k.ls (fZ k p).ls:=by
 unfold fZ;split
 ·exact⟨rfl,Ext.refl _⟩
 ·obtain⟨ps,ev,h1,_⟩:=xh { k with ls:=k.ls.set p.aW.toNat (du (k.ls.getD p.aW.toNat []) p.first.toNat p.al),ps:=k.ps.set p.aW.toNat (fY k.now (aG k) p (au k p.aW.toNat)) };rw[h1];obtain⟨t,ht⟩:=Md (k.ls.getD p.aW.toNat []) p.first.toNat p.al;refine⟨rfl,?_⟩;show Ext k.ls (k.ls.set _ _);rw[ht];exact Ext.set
theorem vh (b:UInt8)(k:Ks):(c3 b k).2.mr=k.mr∧Ext k.ls (c3 b k).2.ls:=by
 by_cases h0:(c3 b k).1=0
 ·obtain⟨h1,h2,h3,h4⟩:=vf h0;rw[h4];exact⟨rfl,Ext.set⟩
 ·rw[vg h0];exact⟨rfl,Ext.refl _⟩
theorem so (bs:List UInt8)(k:Ks):(dp bs k).2.mr=k.mr∧Ext k.ls (dp bs k).2.ls:=by
 by_cases h0:(dp bs k).1=0
 ·obtain⟨p,h1,h2,h3,h4,h5,h6⟩:=BL h0;rw[h6];exact FY
 ·rw[xj h0];exact⟨rfl,Ext.refl _⟩
theorem ct.al (h:ct p s)(b:UInt8):ct p (dK p b s).2:=by
 have h1:=vh b s.k;exact (h.toWP.more (h.wc.al b) (h.held.al b) h1.1 h1.2).eC.1
theorem ct.recv (h:ct p s)(bs:List UInt8):ct p (dB p bs s).2:=by
 have h1:=so bs s.k;exact (h.toWP.more (h.wc.recv bs).1 ((h.wc.recv bs).2 h.held) h1.1 h1.2).eC.1
theorem ct.with {k':Ks}(h:ct p s)(hw:WC k')(hh:Go.Proofs.YteoldcfapaiobaaGreat.held k')(hm:k'.mr=s.k.mr)(he:k'.ls=s.k.ls):ct p ⟨k',s.g⟩:=by
 refine⟨h.toWP.more hw hh hm (by rw[he];exact Ext.refl _),?_⟩;show k'.mr.length=aU k'.ls;rw[hm,he];exact h.full
theorem BN (k:Ks):(br k).2.mr=k.mr∧(br k).2.ls=k.ls:=by
 rcases xm k with h1 | ⟨hc,h1 | ⟨i,hi,h1⟩⟩ <;> rw[h1] <;> exact⟨rfl,rfl⟩
theorem FZ (k:Ks):(cy k).2.mr=k.mr∧(cy k).2.ls=k.ls:=by
 unfold cy;split <;> exact⟨rfl,rfl⟩
theorem ct.tick (h:ct p s):ct p ⟨(br s.k).2,s.g⟩:=h.with h.wc.tick.1 (h.wc.tick.2 h.held) (BN _).1 (BN _).2
theorem ct.o7 (h:ct p s):ct p ⟨(cy s.k).2,s.g⟩:=h.with h.wc.o7.1 (h.wc.o7.2 h.held) (FZ _).1 (FZ _).2
theorem ct.told (h:ct p s):ct p ⟨{ s.k with ev:=[] },s.g⟩:=h.with h.wc.ZD (λi hi=>h.held i hi) rfl rfl
def eD (p:Pr)(c:Cf):Pl:=eC p ⟨fl c,o8⟩
theorem xn {c:Cf}(h:eV c):WP p ⟨fl c,o8⟩:=by
 obtain⟨h1,h2,h3⟩:=WC.new h;exact⟨h1,h2,Nat.zero_le _,rfl,rfl⟩
theorem ct.new {c:Cf}(h:eV c):ct p (eD p c):=(xn h).eC.1
end
section
variable {p:Pr}{me:Nat}{ls:List (List UInt8)}{s:Pl}{k:Ks}
theorem Me (h:WP p s):(eC p s).k.n=s.k.n∧(eC p s).k.me=s.k.me∧(eC p s).k.id=s.k.id∧(eC p s).k.cl=s.k.cl∧(eC p s).k.bq=s.k.bq∧(eC p s).k.now=s.k.now∧(eC p s).k.ls=s.k.ls:=by
 obtain⟨_,h2,ps,ev,mr,h3⟩:=h.eC;rw[h3];exact⟨rfl,rfl,rfl,rfl,rfl,rfl,rfl⟩
theorem Mf (p:Pk):(aT p).length≤507:=by
 unfold aT;split
 ·rename_i h;have:=Ld h;rw[w3];omega
 ·simp
end
end
section
def BO:TypeDesc→Bool | .interface _=>true | _=>false
section
variable {P:Program}{a:Act}{w:World}{n:Nat}{l:List (Nat×Value)}{v:Value}
theorem F0 {x t F1 ej dst ty ps af g}(E:Fr a n l)(ht:P.underlying t=some ej)(hd:BO ej=false)[e:Ev l x (.iface t v)] :
   (execOp a.eval ⟨dst,.typeAssert x F1 t true,ty,ps,af,g⟩).run P w=.ok (.value (.tuple #[v,.bool true])) w:=by
 cases ej <;> first | (simp[BO]at hd) | skip
 all_goals simp[execOp,e.ev a n E,Instr.typeAssert,eQ ht]
theorem F2 {x t t' F1 ej dst z sz a2 ty ps af g}(E:Fr a n l)(ht:P.underlying t=some ej)(hd:BO ej=false)(hi:TI P t z sz a2)(hn:Nat.beq t' t=false)[e:Ev l x (.iface t' v)] :
   (execOp a.eval ⟨dst,.typeAssert x F1 t true,ty,ps,af,g⟩).run P w=.ok (.value (.tuple #[z,.bool false])) w:=by
 have bD:¬ t'=t:=λh=>by rw[h,Nat.beq_refl]at hn;cases hn
 cases ej <;> first | (simp[BO]at hd) | skip
 all_goals simp[execOp,e.ev a n E,Instr.typeAssert,eQ ht,uu hi,bD]
end
abbrev ko:=Nat×Nat×Nat
def tM (e:ko):Prop:=e.1≤3∧1≤e.1∧e.2.1<8∧e.2.2≤1000∧(e.1=3∨e.2.2=0)
def cB (e:ko):Value:=if e.1=1 then .iface 210 (.agg #[.int .i64 e.2.1]) else if e.1=2 then .iface 211 (.agg #[.int .i64 e.2.1]) else .iface 213 (.agg #[.int .i64 e.2.1,.int .i64 e.2.2])
theorem F3 (e:ko):(cB e).oneCell'=true:=by
 unfold cB;split
 ·rfl
 ·split <;> rfl
instance {e:ko}:One (cB e):=⟨F3 e⟩
abbrev bW (e:ko):List Value:=[.int .i64 e.1,.int .i64 e.2.1,.int .i64 e.2.2]
theorem BQ (e:ko):(bW e).length=3:=rfl
theorem F4 (e:ko):∀ v∈bW e,v.oneCell'=true:=by
 intro v hv;simp[bW]at hv;rcases hv with rfl | rfl | rfl <;> rfl
section
variable {W w:World}{L:List SP}{e:ko}
theorem ZI (I:U W w L)(h:tM e):Calls prog 231 #[.agg (bW e).toArray] w λr w'=>r=.returned (.tuple #[.agg #[cB e],.bool true])∧U W w' L:=by
 obtain⟨h1,h2,h3,h4,h5⟩:=h;refine EN func231 ntmps231 rfl rfl λa E=>?_;refine BX 1 E I λb1 a w E I=>?_;change U W w (aa b1 102 (bW e)::_) at I;refine AL 0 E I λb2 a w E I=>?_;refine RN 7 E I λa E=>?_;rw[bo (by omega)]at E;refine RN 5 E I λa E=>?_;rw[bo (by omega)]at E;refine RN 5 E I λa E=>?_;rw[bo (by omega)]at E;refine RN 5 E I λa E=>?_;rw[bo (by omega)]at E;refine BY 4 E I (λp9 a E=>?_) λp9 a E=>?_
 ·
  refine RN 5 E I λa E=>?_;rw[bo (by omega)]at E;refine IF 8 E I (λao a E=>?_) λao a E=>?_
  ·
   refine SA 6 E I λa w E I=>?_;refine RT 1 E I ?_;exact⟨by rw[cB,ak (by omega)],I.sub⟩
  refine IF 3 E I (λay a E=>?_) λay a E=>?_
  ·
   refine SA 6 E I λa w E I=>?_;refine RT 1 E I ?_;exact⟨by rw[cB,ag (by omega),ak (by omega)],I.sub⟩
  refine IF 3 E I (λbk a E=>?_) λbk a E=>?_
  ·
   refine SA 8 E I λa w E I=>?_;refine RT 1 E I ?_;exact⟨by rw[cB,ag (by omega),ag (by omega)],I.sub⟩
  exfalso;omega
 refine IF 13 E I (λao a E=>?_) λao a E=>?_
 ·
  refine SA 6 E I λa w E I=>?_;refine RT 1 E I ?_;exact⟨by rw[cB,ak (by omega)],I.sub⟩
 refine IF 3 E I (λay a E=>?_) λay a E=>?_
 ·
  refine SA 6 E I λa w E I=>?_;refine RT 1 E I ?_;exact⟨by rw[cB,ag (by omega),ak (by omega)],I.sub⟩
 refine IF 3 E I (λbk a E=>?_) λbk a E=>?_
 ·
  refine SA 8 E I λa w E I=>?_;refine RT 1 E I ?_;exact⟨by rw[cB,ag (by omega),ag (by omega)],I.sub⟩
 exfalso;omega
theorem ZJ (I:U W w L)(h:tM e)(hk:e.1=1):Calls prog 80 #[.agg #[cB e]] w λr w'=>r=.returned (.agg (bW e).toArray)∧U W w' L:=by
 have he:cB e=.iface 210 (.agg #[.int .i64 e.2.1]):=by rw[cB,ak hk]
 have hz:e.2.2=0:=by have:=h.2.2.2.2;omega
 rw[he];refine EN func80 ntmps80 rfl rfl λa E=>?_;refine BX 1 E I λb1 a w E I=>?_;refine AL 0 E I λb2 a w E I=>?_;refine RN 5 E I λa E=>?_;refine SK (bw E rfl (F0 E underlying210 rfl) rfl ?_);clear E a;intro a E;refine RN 2 E I λa E=>?_;replace E:=E.ed 9;refine AL 2 E I λb3 a w E I=>?_
 skip
 refine SA 0 E I λa w E I=>?_;refine SA 4 E I λa w E I=>?_;refine RT 0 E I ?_;exact⟨by rw[bW,hk,hz];rfl,I.sub⟩
theorem ZK (I:U W w L)(h:tM e)(hk:e.1=2):Calls prog 80 #[.agg #[cB e]] w λr w'=>r=.returned (.agg (bW e).toArray)∧U W w' L:=by
 have he:cB e=.iface 211 (.agg #[.int .i64 e.2.1]):=by rw[cB,ag (by omega),ak hk]
 have hz:e.2.2=0:=by have:=h.2.2.2.2;omega
 rw[he];refine EN func80 ntmps80 rfl rfl λa E=>?_;refine BX 1 E I λb1 a w E I=>?_;refine AL 0 E I λb2 a w E I=>?_;refine RN 5 E I λa E=>?_;refine SK (bw E rfl (F2 E underlying210 rfl Ty.t210 rfl) rfl ?_);clear E a;intro a E;refine RN 2 E I λa E=>?_;replace E:=E.aP 9;refine RN 2 E I λa E=>?_;refine SK (bw E rfl (F0 E underlying211 rfl) rfl ?_);clear E a;intro a E;refine RN 2 E I λa E=>?_;replace E:=E.ed 15;refine AL 2 E I λb4 a w E I=>?_;refine SA 0 E I λa w E I=>?_;refine SA 4 E I λa w E I=>?_;refine RT 0 E I ?_;exact⟨by rw[bW,hk,hz];rfl,I.sub⟩
theorem ZL (I:U W w L)(h:tM e)(hk:e.1=3):Calls prog 80 #[.agg #[cB e]] w λr w'=>r=.returned (.agg (bW e).toArray)∧U W w' L:=by
 have he:cB e=.iface 213 (.agg #[.int .i64 e.2.1,.int .i64 e.2.2]):=by rw[cB,ag (by omega),ag (by omega)]
 rw[he];refine EN func80 ntmps80 rfl rfl λa E=>?_;refine BX 1 E I λb1 a w E I=>?_;refine AL 0 E I λb2 a w E I=>?_;refine RN 5 E I λa E=>?_;refine SK (bw E rfl (F2 E underlying210 rfl Ty.t210 rfl) rfl ?_);clear E a;intro a E;refine RN 2 E I λa E=>?_;replace E:=E.aP 9;refine RN 2 E I λa E=>?_;refine SK (bw E rfl (F2 E underlying211 rfl Ty.t211 rfl) rfl ?_);clear E a;intro a E;refine RN 2 E I λa E=>?_;replace E:=E.aP 15;refine RN 2 E I λa E=>?_;refine SK (bw E rfl (F0 E underlying213 rfl) rfl ?_);clear E a;intro a E;refine RN 2 E I λa E=>?_;replace E:=E.ed 21;refine AL 2 E I λb5 a w E I=>?_;refine SA 0 E I λa w E I=>?_;refine SA 6 E I λa w E I=>?_;refine RT 0 E I ?_;exact⟨by rw[bW,hk];rfl,I.sub⟩
theorem ZM (I:U W w L)(h:tM e):Calls prog 80 #[.agg #[cB e]] w λr w'=>r=.returned (.agg (bW e).toArray)∧U W w' L:=by
 have h1:=h.1;have h2:=h.2.1;by_cases k1:e.1=1
 ·exact ZJ I h k1
 ·by_cases k2:e.1=2
  ·exact ZK I h k2
  ·exact ZL I h (by omega)
end
end
end Go.Proofs.YteoldcfapaiobaaGreat
