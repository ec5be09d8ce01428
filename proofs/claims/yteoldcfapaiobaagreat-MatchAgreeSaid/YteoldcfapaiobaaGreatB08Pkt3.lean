/- Packets out of bytes: packet.Decode. -/
import Derived.Test.YteoldcfapaiobaaGreatB07PktP
import Derived.Test.YteoldcfapaiobaaGreatB01Row
namespace Go.Proofs.YteoldcfapaiobaaGreat
open Tryz
open List (drop_zero drop_drop drop_left take_zero foldl_cons map_cons drop_eq_nil_of_le take_length append_nil ext_getElem? getElem_mem getElem?_set_ne set_getElem_self foldl_append replicate_succ')
open Go.RowKit
set_option linter.unusedVariables false
set_option linter.unusedSimpArgs false
set_option maxRecDepth 10000
set_option synthInstance.maxSize 4000
set_option synthInstance.maxHeartbeats 400000
section
def x4 (x:Int):Prop := -9223372036854775808≤x∧x≤9223372036854775807
def mx (l:List UInt8):Nat:=l.foldl (λn b=>n*256+b.toNat) 0
theorem Kl:∀ (l:List UInt8) (a:Nat),l.foldl (λn b=>n*256+b.toNat) a<(a+1)*256 ^ l.length
 | [],a=>by simp
 | b::l,a=>by
  have h1:=Kl l (a*256+b.toNat);have h2:=lL b;rw[foldl_cons,fc];refine wU h1 ?_;rw[Nat.pow_succ,Nat.mul_comm (256 ^ l.length) 256,← Nat.mul_assoc];exact Nat.mul_le_mul_right _ (by omega)
theorem Km {x:Nat}(h:x<4294967296):mx (ff x)=x:=by
 have:=Ed h;simpa [mx,ff,Ec] using this
theorem Kn {l:List UInt8}{i:Nat}(h:i<l.length):mx (l.take (i+1))=mx (l.take i)*256+l[i].toNat:=by
 rw[mx,iZ h,foldl_append];rfl
theorem Ak (l:List UInt8)(n:Nat)(h:l.length≤n):mx l<256 ^ n:=by
 have:=Kl l 0;rw[Nat.zero_add,Nat.one_mul]at this;exact wU this (Nat.pow_le_pow_right (by decide) h)
theorem XP {n:Nat}(h:n<16777216)(b:UInt8):IntKind.u32.wrap (((BitVec.ofInt IntKind.u32.bits (IntKind.u32.wrap ((n:Int)*2 ^ 8)) ||| BitVec.ofInt IntKind.u32.bits (b.toNat:Int)).toNat:Nat):Int)=((n*256+b.toNat:Nat):Int):=by
 have hb:=lL b;rw[show IntKind.u32.wrap ((n:Int)*2 ^ 8)=((n*256:Nat):Int) from by rw[wrap_u32];omega,tY,tY];show IntKind.u32.wrap (((BitVec.ofNat 32 (n*256) ||| BitVec.ofNat 32 b.toNat).toNat:Nat):Int)=_;rw[BitVec.toNat_or,BitVec.toNat_ofNat,BitVec.toNat_ofNat,Nat.mod_eq_of_lt (show n*256<2 ^ 32 by omega),Nat.mod_eq_of_lt (show b.toNat<2 ^ 32 by omega),wrap_u32];have h1:=Nat.two_pow_add_eq_or_of_lt (i:=8) (b:=b.toNat) hb n;rw[show n*256=2 ^ 8*n from by omega,← h1];omega
structure qi (W:World)(L:List SP)(ad:Option Addr)(c:Nat)(rest:List UInt8):Prop where
 len:rest.length≤65536
 cap:rest.length≤c
 rd:∀ V,U W V L→aQ V ad rest.length rest
section
variable {W w:World}{L L':List SP}{n c m rb:Nat}{ad:Option Addr}{bs rest:List UInt8}{p:Pk}{bad:Bool}
theorem qi.cut {k:Nat}(h:qi W L ad c rest)(hk:k≤rest.length):qi W L (fm ad k c 1) (c-k) (rest.drop k) :=
 ⟨by rw[c8];have:=h.len;omega,by rw[c8];have:=h.cap;omega,λV hw=>(h.rd V hw).tX hk h.cap⟩
theorem x5 (I:U W w (aa rb 427 [.slice ad rest.length c,.bool bad]::L'))(Al:∀ V,U W V L'→U W V L)(hr:qi W L ad c rest) :
   Calls prog 331 #[pt rb] w λe V=>∃ (x:Int) (av:Option Addr) (c':Nat) (nB:List UInt8) (fp:Bool),e=.returned (.int .i64 x)∧x4 x∧qi W L av c' nB ∧
    (∀ (n:Int) (r:List UInt8),x4 n→rest=aN (zz n)++r→bad=false→x=n∧nB=r∧fp=false)∧U W V (aa rb 427 [.slice av nB.length c',.bool fp]::L'):=by
 have hlen:=hr.len;refine EN func331 ntmps331 rfl rfl λa E=>?_;refine jI 7 E I (J7 (bs:=rest) I (by omega) (λV hw=>hr.rd V (Al _ hw.tail))) λx k er a w E ⟨hg,I⟩=>?_;refine RN 7 E I λa E=>?_;have ph:=hg.2.2.1;have nm:=hg.2.1;have dO:k≤rest.length:=by
  by_cases h0:er=0
  ·have:=ph h0;omega
  ·have:=(hg.2.2.2.1 h0).1;omega
 refine cc (M:=λa w=>∃ (z:Bool) (av:Option Addr) (c':Nat) (nB:List UInt8),(er=0→bad=false→z=false)∧qi W L av c' nB∧(z=false→nB=rest.drop k)∧Fr a 41 [(3,.int .i64 x)]∧U W w (aa rb 427 [.slice av nB.length c',.bool z]::L')) ?_ ?_
 ·
  refine cc (M:=λa w=>∃ z:Bool,(bad=true→z=true)∧(er=0→bad=false→z=false)∧Fr a 41 [(0,pt rb),(3,.int .i64 x),(4,.int .i64 k)]∧U W w (aa rb 427 [.slice ad rest.length c,.bool z]::L')) ?_ ?_
  ·
   refine BY 6 E I (λiQ a E=>?_) λiQ a E=>?_
   ·
    refine ST 5 E I (λa w E I=>?_);refine RN 0 E I λa E=>?_;exact⟨_,λ_=>rfl,λ_ h=>(by rw[h]at iQ;cases iQ),E.ab [0,3,4],I⟩
   refine ST 5 E I (λa w E I=>?_);refine RN 0 E I λa E=>?_;exact⟨_,λh=>(by rw[h]at iQ;cases iQ),λh _=>bq (by omega),E.ab [0,3,4],I⟩
  clear E;(try clear I);rintro a w ⟨z,cW,kr,E,I⟩;refine IF 6 E I (λaj a E=>?_) λaj a E=>?_
  ·
   have hz:z=false:=aj;refine RN 7 E I λa E=>?_;rw[show rest.length-k=(rest.drop k).length from by simp]at E;refine ST 2 E I (λa w E I=>?_);refine RN 0 E I λa E=>?_;exact⟨_,_,_,_,kr,hr.cut dO,λ_=>rfl,E.ab [3],I⟩
  refine RN 0 E I λa E=>?_;exact⟨_,_,_,_,kr,hr,λh=>(by rw[h]at aj;cases aj),E.ab [3],I⟩
 clear E;(try clear I);rintro a w ⟨z,av,c',nB,kr,XQ,XR,E,I⟩;refine RT 3 E I ?_;refine⟨x,av,c',nB,z,rfl,hg.1,XQ,λn r hn e hb=>?_,I⟩;obtain⟨rfl,rfl,rfl⟩:=hg.2.2.2.2 n r hn.1 hn.2 e;have hz:=kr rfl hb;refine⟨rfl,?_,hz⟩;rw[XR hz,e,drop_left]
theorem XS (I:U W w (aa rb 427 [.slice ad rest.length c,.bool bad]::L'))(Al:∀ V,U W V L'→U W V L)(hr:qi W L ad c rest) :
   Calls prog 332 #[pt rb] w λe V=>∃ (x:Nat) (av:Option Addr) (c':Nat) (nB:List UInt8) (fp:Bool),e=.returned (.int .u32 x)∧x<4294967296∧qi W L av c' nB ∧
    (∀ (n:Nat) (r:List UInt8),n<4294967296→rest=ff n++r→bad=false→x=n∧nB=r∧fp=false)∧U W V (aa rb 427 [.slice av nB.length c',.bool fp]::L'):=by
 have hlen:=hr.len;have aeW:=hr.cap;refine EN func332 ntmps332 rfl rfl λa E=>?_;refine RN 3 E I λa E=>?_;refine cc (M:=λa w=>∃ z:Bool,(z=true↔(bad=true∨rest.length<4))∧Fr a 50 [(0,pt rb)]∧U W w (aa rb 427 [.slice ad rest.length c,.bool z]::L')) ?_ ?_
 ·
  refine BY 6 E I (λiQ a E=>?_) λiQ a E=>?_
  ·
   refine ST 9 E I (λa w E I=>?_);refine RN 0 E I λa E=>?_;exact⟨_,⟨λ_=>.inl iQ,λ_=>rfl⟩,E.ab [0],I⟩
  refine ST 9 E I (λa w E I=>?_);refine RN 0 E I λa E=>?_;exact⟨_,(by rw[cr,iQ];simp;omega),E.ab [0],I⟩
 clear E;(try clear I);rintro a w ⟨z,hz,E,I⟩;refine IF 5 E I (λaj a E=>?_) λaj a E=>?_
 ·
  have XT:=hz.1 aj;refine RT 2 E I ?_;refine⟨0,ad,c,rest,true,rfl,by decide,hr,λn r hn e hb=>?_,by rw[aj]at I;exact I⟩;rcases XT with h | h
  ·rw[hb]at h;cases h
  ·rw[e,aM,mw]at h;omega
 have Ko:¬ (bad=true∨rest.length<4):=λh=>by rw[hz.2 h]at aj;cases aj
 have h4:4≤rest.length:=Nat.le_of_not_lt λh=>Ko (.inr h);obtain⟨bb,oo,rfl,_⟩:=(hr.rd _ (Al _ I.tail)).get (by omega);have de:(rest.take 4).length=4:=by rw[ez];omega
 refine RN 9 E I λa E=>?_;rw[qK,Nat.sub_zero,Nat.sub_zero]at E;refine RN 2 E I λa E=>?_;refine aP (λμ a w=>∃ (i:Nat),(μ=4-i∧i≤4)∧Fr a 50 [(0,pt rb),(3,.int .u32 (mx (rest.take i))),(29,.slice (some ⟨bb,oo,none⟩) 4 c),(30,.int .i64 4),(31,.int .i64 i)]∧U W w (aa rb 427 [.slice (some ⟨bb,oo,none⟩) rest.length c,.bool z]::L')) (4) (⟨0,⟨rfl,by omega⟩,E.ab [0,3,29,30,31],I⟩) ?_;clear E I;rintro μ a w ⟨i,⟨rfl,hi⟩,E,I⟩;refine IF 3 E I (λao a E=>?_) λao a E=>?_
 ·
  have aG:i<rest.length:=by omega
  have nn:=Ak (rest.take i) 3 (by rw[ez];omega);rw[show (256:Nat) ^ 3=16777216 from by decide]at nn;have qh:=lL rest[i];refine RN 3 E I λa E=>?_;refine SS E (ae E (((hr.rd _ (Al _ I.tail)).rd (by omega)) i _ (dS aG))) λa E=>?_;refine SX 4 E I (by rw[wrap_u32];omega) λa E=>?_;refine RN 1 E I λa E=>?_;rw[XP nn,← Kn aG]at E;refine RN 3 E I λa E=>?_;exact⟨4-(i+1),by omega,i+1,⟨rfl,by omega⟩,E.ab [0,3,29,30,31],I⟩
 obtain rfl:i=4:=by omega
 refine RN 7 E I λa E=>?_;rw[show rest.length-4=(rest.drop 4).length from by simp]at E;refine ST 2 E I (λa w E I=>?_);refine RT 3 E I ?_;have nn:=Ak (rest.take 4) 4 (by rw[ez];omega);rw[show (256:Nat) ^ 4=4294967296 from by decide]at nn;refine⟨_,_,_,_,z,rfl,nn,hr.cut h4,λn r hn e hb=>?_,I⟩;have ht:rest.take 4=ff n:=by rw[e];rfl
 have hd:rest.drop 4=r:=by rw[e];rfl
 exact⟨by rw[ht,Km hn],hd,aj⟩
theorem Kp {a b:List UInt8}{ad2:Option Addr}{m n c2:Nat}(I:U W w L)(di:aQ w ad m a)(lf:aQ w ad2 n b) :
   Calls prog 313 #[.slice ad m c,.slice ad2 n c2] w λe V=>e=.returned (.bool (a==b))∧U W V L :=
 (H4 di lf).mono λe V h=>⟨h.1,by rw[h.2];exact I⟩
theorem EG {bs:List UInt8}{q:Pk}(h:gV bs q):(q.kind=((bs.getD 0 0).toNat:Int)∧q.aZ=((bs.getD 1 0).toNat:Int)∧q.to=((bs.getD 2 0).toNat:Int))∧(bs.drop 3).take (bs.length-7)=kW q:=by
 have h1:=Eb h.2.2;obtain⟨f1,t1,vN,i1,k1⟩:=h.1;refine⟨?_,Ea h.2.2⟩;simp only[bl,h1.1,h1.2.1,h1.2.2,Option.getD_some,UInt8.toNat_ofNat'];omega
theorem sJ (b:UInt8):IntKind.i64.wrap (b.toNat:Int)=(b.toNat:Int):=gi (by omega) (by have:=lL b;omega)
theorem nC {bs:List UInt8}(h:¬ ∃ q,gV bs q):eB bs=none:=Eg λq hq=>h ⟨q,hq⟩
def XU (bs:List UInt8)(p:Pk)(adP:Option Addr)(cP:Nat)(ok:Bool):Prop:=(ok=true∧eB bs=some p)∨(ok=false∧eB bs=none∧p=m0∧adP=none∧cP=0)
theorem XV (I:U W w L)(hb:bs.length≤65536)(hc:bs.length≤c)(hp:∀ V,U W V L→aQ V ad bs.length bs) :
   Calls prog 317 #[.slice ad bs.length c] w λe V=>∃ (p:Pk) (adP:Option Addr) (cP:Nat) (ok:Bool),e=.returned (.tuple #[.agg (dL p adP cP).toArray,.int .i64 (if ok=true then 0 else 1)])∧XU bs p adP cP ok∧U W V (Sl 5 1 adP p.ak.length cP (bc p.ak)::L):=by
 refine EN func317 ntmps317 rfl rfl λa E=>?_;refine AL 1 E I λb2 a w E I=>?_;refine IF 6 E I (λaj a E=>?_) λaj a E=>?_
 ·
  have bX:eB bs=none:=Eg λq hq=>by
   have:=congrArg List.length hq.2.2;rw[xT]at this;omega
  refine SA 2 E I λa w E I=>?_;refine RT 1 E I ?_;exact⟨m0,none,0,false,rfl,.inr ⟨rfl,bX,rfl,rfl,rfl⟩,I.tail.bO _ _ _⟩
 obtain⟨bb,oo,rfl,_⟩:=(hp _ I.tail).get (by omega);have h7:7≤bs.length:=by omega
 refine aY 1 (λw0 w=>Rd w bb oo (bc bs)) [6,7,10,11,13] [0,1,4,5,8,9,3002,3,3006,3007,3010,3011,12,1013,1014] E I λa w E I hH=>?_;have hC:Rd w bb oo (bc bs):=(hp _ I.tail).rd (by omega);refine RH 6 E I hH hC λa E=>?_;refine QH E (λw hc=>ae E (hc 0 _ (kX (by omega)))) hC λa E=>?_;refine QP E (λw=>oQ E underlying5 underlying3 (sJ _)) λa E=>?_;refine QH E (λw hc=>ae E (hc 1 _ (kX (by omega)))) hC λa E=>?_;refine QH E (λw hc=>oQ E underlying5 underlying3 (sJ _)) hC λa E=>?_;refine QH E (λw hc=>ae E (hc 2 _ (kX (by omega)))) hC λa E=>?_;refine QH E (λw hc=>oQ E underlying5 underlying3 (sJ _)) hC λa E=>?_;refine RH 1 E I hH hC λa E=>?_;refine eW E rfl I Ty.t203 rfl λb4 a w E I ho=>?_;clear ho;replace hC:=hH.at w ((hp _ I.tail.tail).rd (by omega));refine RH 0 E I hH hC λa E=>?_;refine SA 0 E I λa w E I=>?_;refine RN 5 E I λa E=>?_;rw[show (bs.length:Int)-4=((bs.length-4:Nat):Int) from by omega]at E;refine RN 1 E I λa E=>?_;obtain⟨R1,EH⟩:∃ R1,R1=(bs.drop 3).take (bs.length-7):=⟨_,rfl⟩;have kM:R1.length=bs.length-7:=by rw[EH,ez,c8];omega
 have ep:qi W L (fm (some ⟨bb,oo,none⟩) 3 c 1) (c-3) R1:=⟨by omega,by omega,λV hw=>by
  rw[kM,EH];exact ((hp V hw).tX (lo:=3) (by omega) hc).D1 (by rw[c8];omega)⟩
 have lK:∀ q,gV bs q→(q.kind=((bs.getD 0 0).toNat:Int)∧q.aZ=((bs.getD 1 0).toNat:Int)∧q.to=((bs.getD 2 0).toNat:Int))∧R1=kW q:=λq h=>by
  rw[EH];exact EG h
 rw[show bs.length-4-3=R1.length from by omega]at E;generalize fm (some ⟨bb,oo,none⟩) 3 c 1=lp at E ep;generalize c-3=dN at E ep;generalize R1=R1 at E ep lK;refine BX 1 E I λjW a w E I=>?_;refine jJ 3 E I (x5 (L:=L) I (λ_ h=>h.tail.tail) ep) ?_;clear E I;rintro e w ⟨x1,ad2,c2,R2,z2,rfl,eL,ee,ia,I⟩;refine⟨_,rfl,λa E=>?_⟩;refine ST 1 E I (λa w E I=>?_);refine RN 0 E I λa E=>?_;replace ia:∀ q,gV bs q→(q.kind=((bs.getD 0 0).toNat:Int)∧q.aZ=((bs.getD 1 0).toNat:Int)∧q.to=((bs.getD 2 0).toNat:Int)∧q.id=x1)∧R2=m1 q∧z2=false:=λq h=>by
  obtain⟨h1,h2⟩:=lK q h;obtain⟨e1,e2,e3⟩:=ia q.id (m1 q) ⟨by have:=h.1.2.2.2.1;omega,by have:=h.1.2.2.2.1;omega⟩ (by rw[h2,kW]) rfl;exact⟨⟨h1.1,h1.2.1,h1.2.2,e1.symm⟩,e2,e3⟩
 refine cc (M:=λa w=>∃ (p:Pk) (adP:Option Addr) (cP:Nat) (av:Option Addr) (c':Nat) (R':List UInt8) (z:Bool),p.sum<4294967296∧(∀ q,gV bs q→p=q∧z=false)∧Fr a 91 [(0,.slice (some ⟨bb,oo,none⟩) bs.length c),(2,pt b2),(4,pt b4),(5,pt jW)]∧U W w (aa b4 203 (dL p adP cP)::Sl 5 1 adP p.ak.length cP (bc p.ak)::aa jW 427 [.slice av R'.length c',.bool z]::aa b2 203 (dL m0 none 0)::L)) ?_ ?_
 ·
  refine IF 4 E I (λao a E=>?_) λao a E=>?_
  ·
   have lQ:∀ q,gV bs q→m1 q=aN (zz q.first)++(aN (zz q.dd)++(aN (zz q.frame)++lO q))∧(x4 q.first∧x4 q.dd∧x4 q.frame)∧q.ak.length≤32:=λq h=>by
    have hk:=(ia q h).1.1;rw[ao]at hk;rcases h.1.2.2.2.2 with k | k
    ·obtain⟨_,k1,k2,k3,k4⟩:=k;unfold eK at k1 k2 k3;exact⟨by rw[m1,al hk],⟨⟨by omega,by omega⟩,⟨by omega,by omega⟩,⟨by omega,by omega⟩⟩,k4⟩
    ·omega
   refine jJ 2 E I (x5 (L:=L) (I.perm (List.Perm.swap _ _ _)) (λ_ h=>h.tail.tail) ee) ?_;clear E I;rintro e w ⟨x2,fo,c7,R3,z3,rfl,dp,gT,xP,I⟩;refine⟨_,rfl,λa E=>?_⟩;replace xP:∀ q,gV bs q→q.first=x2∧R3=aN (zz q.dd)++(aN (zz q.frame)++lO q)∧z3=false:=λq h=>by
    obtain⟨_,h2,h3⟩:=ia q h;obtain⟨e1,e2,e3⟩:=xP q.first _ (lQ q h).2.1.1 (by rw[h2,(lQ q h).1]) h3;exact⟨e1.symm,e2,e3⟩
   refine ST 1 E I (λa w E I=>?_);refine jJ 2 E I (x5 (L:=L) (I.perm (List.Perm.swap _ _ _)) (λ_ h=>h.tail.tail) gT) ?_;clear E I;rintro e w ⟨x3,mc,fP,XW,z4,rfl,eN,mW,Am,I⟩;refine⟨_,rfl,λa E=>?_⟩;replace Am:∀ q,gV bs q→q.dd=x3∧XW=aN (zz q.frame)++lO q∧z4=false:=λq h=>by
    obtain⟨_,h2,h3⟩:=xP q h;obtain⟨e1,e2,e3⟩:=Am q.dd _ (lQ q h).2.1.2.1 h2 h3;exact⟨e1.symm,e2,e3⟩
   refine ST 1 E I (λa w E I=>?_);refine jJ 2 E I (x5 (L:=L) (I.perm (List.Perm.swap _ _ _)) (λ_ h=>h.tail.tail) mW) ?_;clear E I;rintro e w ⟨Kq,ei,dg,XX,z5,rfl,ud,om,An,I⟩;refine⟨_,rfl,λa E=>?_⟩;replace An:∀ q,gV bs q→q.frame=Kq∧XX=ff q.sum++(aN (zz (q.ak.length:Int))++dC q.ak 0)∧z5=false:=λq h=>by
    obtain⟨_,h2,h3⟩:=Am q h;obtain⟨e1,e2,e3⟩:=An q.frame _ (lQ q h).2.1.2.2 h2 h3;exact⟨e1.symm,by rw[e2,lO],e3⟩
   refine ST 1 E I (λa w E I=>?_);refine jJ 2 E I (XS (L:=L) (I.perm (List.Perm.swap _ _ _)) (λ_ h=>h.tail.tail) om) ?_;clear E I;rintro e w ⟨Kr,sj,kQ,XY,EI,rfl,sK,ri,Ao,I⟩;refine⟨_,rfl,λa E=>?_⟩;replace Ao:∀ q,gV bs q→q.sum=Kr∧XY=aN (zz (q.ak.length:Int))++dC q.ak 0∧EI=false:=λq h=>by
    obtain⟨_,h2,h3⟩:=An q h;obtain⟨e1,e2,e3⟩:=Ao q.sum _ h.2.1 h2 h3;exact⟨e1.symm,e2,e3⟩
   refine ST 1 E I (λa w E I=>?_);refine jJ 2 E I (x5 (L:=L) (I.perm (List.Perm.swap _ _ _)) (λ_ h=>h.tail.tail) ri) ?_;clear E I;rintro e w ⟨XZ,r5,l5,R7,Ap,rfl,qj,vQ,x6,I⟩;refine⟨_,rfl,λa E=>?_⟩;replace x6:∀ q,gV bs q→(q.ak.length:Int)=XZ∧R7=dC q.ak 0∧Ap=false:=λq h=>by
    obtain⟨_,h2,h3⟩:=Ao q h;have eF:=(lQ q h).2.2;obtain⟨e1,e2,e3⟩:=x6 q.ak.length _ ⟨by omega,by omega⟩ h2 h3;exact⟨e1.symm,e2,e3⟩
   refine jJ 6 E I (Xv (m:=32) I vQ.len vQ.cap (by omega) (λV hw=>vQ.rd V hw.tail.tail.tail)) ?_;clear E I;rintro e w ⟨out,aq,cO,er,rfl,np,I⟩;refine⟨_,rfl,λa E=>?_⟩;refine BY 10 E I (λbA a E=>?_) λbA a E=>?_
   ·
    refine SA 8 E I λa w E I=>?_;refine RT 1 E I ?_;have bX:eB bs=none:=nC λ⟨q,h⟩=>by
     obtain⟨_,e2,_⟩:=x6 q h;have:=(np.2.2 q.ak (lQ q h).2.2 e2).2;simp[this]at bA
    exact⟨m0,none,0,false,rfl,.inr ⟨rfl,bX,rfl,rfl,rfl⟩,I.sub.bO _ _ _⟩
   refine IF 5 E I (λaz a E=>?_) λaz a E=>?_
   ·
    refine SA 2 E I λa w E I=>?_;refine RT 1 E I ?_;have bX:eB bs=none:=nC λ⟨q,h⟩=>by
     obtain⟨e1,e2,_⟩:=x6 q h;have:=(np.2.2 q.ak (lQ q h).2.2 e2).1;rw[this]at az;omega
    exact⟨m0,none,0,false,rfl,.inr ⟨rfl,bX,rfl,rfl,rfl⟩,I.sub.bO _ _ _⟩
   refine ST 2 E I (λa w E I=>?_);refine RN 0 E I λa E=>?_;refine⟨⟨((bs.getD 0 0).toNat:Int),((bs.getD 1 0).toNat:Int),((bs.getD 2 0).toNat:Int),x1,x2,x3,Kq,Kr,out⟩,aq,cO,r5,l5,R7,Ap,by assumption,λq h=>?_,E.ab [0,2,4,5],I⟩;obtain⟨h1,h2,h3,h4⟩:=(ia q h).1;have h5:=(xP q h).1;have h6:=(Am q h).1;have h7:=(An q h).1;have h8:=(Ao q h).1;have h9:=x6 q h;have fF:=(np.2.2 q.ak (lQ q h).2.2 h9.2.1).1;refine⟨?_,h9.2.2⟩;rw[← h1,← h2,← h3,← h4,← h5,← h6,← h7,← h8,fF]
  refine RN 0 E I λa E=>?_;refine⟨⟨((bs.getD 0 0).toNat:Int),((bs.getD 1 0).toNat:Int),((bs.getD 2 0).toNat:Int),x1,0,0,0,0,[]⟩,none,0,ad2,c2,R2,z2,by show 0<4294967296;decide,λq h=>?_,E.ab [0,2,4,5],(I.bO 5 1 none).perm (List.Perm.swap _ _ _)⟩;obtain⟨⟨h1,h2,h3,h4⟩,_,h5⟩:=ia q h;rw[← h1]at ao;rcases h.1.2.2.2.2 with k | k
  ·exact absurd k.1 ao
  ·obtain⟨pv,k1,k2,k3,k4,x7⟩:=k;have k4:=g5 k4;refine⟨?_,h5⟩;rw[← h1,← h2,← h3,← h4];cases q;simp_all
 clear E;(try clear I);rintro a w ⟨p,adP,cP,Aj,my,aeX,Kt,lP,EJ,E,I⟩;refine a6 3 E I (Ki (p:=p) I lP (λV hw=>hw.cu adP p.ak rfl rfl)) λadE cE a w E I=>?_;refine BY 7 E I (λda a E=>?_) λda a E=>?_
 ·
  refine SA 12 E I λa w E I=>?_;refine RT 1 E I ?_;have bX:eB bs=none:=nC λ⟨q,h⟩=>by
   rw[(EJ q h).2]at da;cases da
  exact⟨m0,none,0,false,rfl,.inr ⟨rfl,bX,rfl,rfl,rfl⟩,I.sub.bO _ _ _⟩
 refine BY 4 E I (λeh a E=>?_) λeh a E=>?_
 ·
  refine SA 8 E I λa w E I=>?_;refine RT 1 E I ?_;have bX:eB bs=none:=nC λ⟨q,h⟩=>by
   have hn:=(I.cu adE (aS p) rfl rfl).2.1 (by cases adE with
    | none=>rfl
    | some _=>cases eh)
   rw[(EJ q h).1,aS,al h.1,xT]at hn;omega
  exact⟨m0,none,0,false,rfl,.inr ⟨rfl,bX,rfl,rfl,rfl⟩,I.sub.bO _ _ _⟩
 refine CL 2 E I (Kp I (I.cu adE (aS p) rfl rfl) (hp _ I.tail.tail.tail.tail.tail)) λa w E I=>?_;refine IF 2 E I (λbh a E=>?_) λbh a E=>?_
 ·
  refine SA 2 E I λa w E I=>?_;refine RT 1 E I ?_;have bX:eB bs=none:=nC λ⟨q,h⟩=>by
   have e:aS p=bs:=by rw[(EJ q h).1,aS,al h.1];exact h.2.2
   rw[e]at bh;simp at bh
  exact⟨m0,none,0,false,rfl,.inr ⟨rfl,bX,rfl,rfl,rfl⟩,I.sub.bO _ _ _⟩
 refine SA 2 E I λa w E I=>?_;refine RT 1 E I ?_;exact⟨p,adP,cP,true,rfl,.inl ⟨rfl,Ag ((Ei (λe=>by rw[e]at h7;simp at h7) lP).2 (by simpa using bh))⟩,I.sub⟩
end
end
section
def vT (q:Pk):Nat→Int
 | 0=>q.id
 | 1=>q.first
 | 2=>q.dd
 | _=>q.frame
def vU (q:Pk):Nat→List UInt8
 | 0=>kW q
 | 1=>m1 q
 | 2=>aN (zz q.dd)++(aN (zz q.frame)++lO q)
 | 3=>aN (zz q.frame)++lO q
 | _=>lO q
theorem EK {bs:List UInt8}{q:Pk}(h:gV bs q):(q.kind=1∧eK q.first∧eK q.dd∧eK q.frame∧q.ak.length≤32∧m1 q=aN (zz q.first)++(aN (zz q.dd)++(aN (zz q.frame)++lO q))) ∨
   (q.kind=2∧q.first=0∧q.dd=0∧q.frame=0∧q.ak=[]∧q.sum=0):=by
 rcases h.1.2.2.2.2 with k | k
 ·exact .inl ⟨k.1,k.2.1,k.2.2.1,k.2.2.2.1,k.2.2.2.2,by rw[m1,al k.1]⟩
 ·exact .inr ⟨k.1,k.2.1,k.2.2.1,k.2.2.2.1,g5 k.2.2.2.2.1,k.2.2.2.2.2⟩
theorem Ku {bs:List UInt8}{q:Pk}{n i:Nat}(h:gV bs q)(hn:n=if (bs.getD 0 0).toNat=1 then 4 else 1)(hi:i<n) :
   vU q i=aN (zz (vT q i))++vU q (i+1)∧0≤vT q i∧vT q i≤1099511627776:=by
 have h0:=(EG h).1.1;have bT:=h.1.2.2.2.1;rcases EK h with k | k
 ·obtain⟨pv,k1,k2,k3,k4,x7⟩:=k;unfold eK at k1 k2 k3;rw[al (by omega)]at hn;rcases (by omega:i=0∨i=1∨i=2∨i=3) with rfl | rfl | rfl | rfl
  ·exact⟨rfl,bT.1,bT.2⟩
  ·exact⟨x7,by show 0≤q.first;omega,by show q.first≤_;omega⟩
  ·exact⟨rfl,by show 0≤q.dd;omega,by show q.dd≤_;omega⟩
  ·exact⟨rfl,by show 0≤q.frame;omega,by show q.frame≤_;omega⟩
 ·rw[ag (by omega)]at hn;obtain rfl:i=0:=by omega
  exact⟨rfl,bT.1,bT.2⟩
theorem EL {bs X:List UInt8}{n i aV k:Nat}{x er:Int}(hn:n=if (bs.getD 0 0).toNat=1 then 4 else 1)(hi:i<n)(hq:∀ q,gV bs q→X.drop aV=vU q i)(hg:lN (X.drop aV) x k er)
   (hb:er≠0∨x<0∨1099511627776<x):eB bs=none:=nC λ⟨q,h⟩=>by
 obtain⟨h1,h2,h3⟩:=Ku h hn hi;obtain⟨e1,e2,e3⟩:=hg.2.2.2.2 (vT q i) (vU q (i+1)) (by omega) (by omega) (by rw[hq q h,h1]);omega
section
variable {W w:World}{L:List SP}{n c m:Nat}{ad:Option Addr}{bs:List UInt8}{p:Pk}
theorem X0 (I:U W w L)(hb:bs.length≤65536)(hc:bs.length≤c)(hp:∀ V,U W V L→aQ V ad bs.length bs) :
   Calls prog 189 #[.slice ad bs.length c] w λe V=>∃ (p:Pk) (adP:Option Addr) (cP:Nat) (ok:Bool),e=.returned (.tuple #[.agg (dL p adP cP).toArray,.bool ok])∧(ok=true→eB bs=some p)∧(ok=false→eB bs=none)∧U W V (Sl 5 1 adP p.ak.length cP (bc p.ak)::L):=by
 have rj:∀ {V},U W V L→eB bs=none→∃ (p:Pk) (adP:Option Addr) (cP:Nat) (ok:Bool),Ending.returned (.tuple #[.agg (dL m0 none 0).toArray,.bool false])=.returned (.tuple #[.agg (dL p adP cP).toArray,.bool ok])∧(ok=true→eB bs=some p)∧(ok=false→eB bs=none)∧U W V (Sl 5 1 adP p.ak.length cP (bc p.ak)::L) :=
  λI bX=>⟨m0,none,0,false,rfl,λh=>(by cases h),λ_=>bX,I.bO _ _ _⟩
 refine EN func189 ntmps189 rfl rfl λa E=>?_;refine AL 1 E I λb2 a w E I=>?_;refine IF 6 E I (λaj a E=>?_) λaj a E=>?_
 ·
  have bX:eB bs=none:=Eg λq hq=>by
   have:=congrArg List.length hq.2.2;have hm:1≤(kW q).length:=by rw[kW,aM];have:=qV (zz q.id);omega
   rw[xT]at this;omega
  refine SA 2 E I λa w E I=>?_;refine RT 1 E I ?_;exact rj I.tail bX
 obtain⟨bb,oo,rfl,_⟩:=(hp _ I.tail).get (by omega);have h7:8≤bs.length:=by omega
 refine RN 5 E I λa E=>?_;rw[show (bs.length:Int)-4=((bs.length-4:Nat):Int) from by omega]at E;refine RN 1 E I λa E=>?_;obtain⟨X,ie⟩:∃ X,X=(bs.drop 3).take (bs.length-7):=⟨_,rfl⟩;have X1:X.length=bs.length-7:=by rw[ie,ez,c8];omega
 have hr:qi W L (fm (some ⟨bb,oo,none⟩) 3 c 1) (c-3) X:=⟨by omega,by omega,λV hw=>by
  rw[X1,ie];exact ((hp V hw).tX (lo:=3) (by omega) hc).D1 (by rw[c8];omega)⟩
 have lK:∀ q,gV bs q→(q.kind=((bs.getD 0 0).toNat:Int)∧q.aZ=((bs.getD 1 0).toNat:Int)∧q.to=((bs.getD 2 0).toNat:Int))∧X=kW q:=λq h=>by
  rw[ie];exact EG h
 rw[show bs.length-4-3=X.length from by omega]at E;have hXp:1≤X.length:=by omega
 obtain⟨mn,ox,X2,_⟩:=(hr.rd _ I.tail).get (by omega);rw[X2]at E hr;generalize c-3=dN at E hr;clear ie;refine aY 2 (λw0 w=>Rd w bb oo (bc bs)) [6,7,10,11,13] [0,1,4,5,8,9,3002,3,3006,3007,3010,3011,12,1013,1014] E I λa w E I hH=>?_;have hC:Rd w bb oo (bc bs):=(hp _ I.tail).rd (by omega);refine RH 6 E I hH hC λa E=>?_;refine QH E (λw hc=>ae E (hc 0 _ (kX (by omega)))) hC λa E=>?_;refine QP E (λw=>oQ E underlying5 underlying3 (sJ _)) λa E=>?_;refine QH E (λw hc=>ae E (hc 1 _ (kX (by omega)))) hC λa E=>?_;refine QH E (λw hc=>oQ E underlying5 underlying3 (sJ _)) hC λa E=>?_;refine QH E (λw hc=>ae E (hc 2 _ (kX (by omega)))) hC λa E=>?_;refine QH E (λw hc=>oQ E underlying5 underlying3 (sJ _)) hC λa E=>?_;refine RH 1 E I hH hC λa E=>?_;refine eW E rfl I Ty.t203 rfl λb5 a w E I ho=>?_;clear ho;replace hC:=hH.at w ((hp _ I.tail.tail).rd (by omega));refine RH 0 E I hH hC λa E=>?_;refine SA 0 E I λa w E I=>?_;refine AL 1 E I λcG a w E I=>?_;refine RN 4 E I λa E=>?_;refine cc (M:=λa w=>∃ n:Nat,n=(if (bs.getD 0 0).toNat=1 then 4 else 1)∧Fr a 153 [(0,.slice (some ⟨bb,oo,none⟩) bs.length c),(2,pt b2),(4,.slice (some ⟨mn,ox,none⟩) X.length dN),(5,pt b5),(6,pt cG),(7,.int .i64 (0:Nat)),(8,.int .i64 n)]∧U W w (aa cG 345 (ints .i64 4 (λ_=>0))::aa b5 203 (dL ⟨((bs.getD 0 0).toNat:Int),((bs.getD 1 0).toNat:Int),((bs.getD 2 0).toNat:Int),0,0,0,0,0,[]⟩ none 0)::aa b2 203 (dL m0 none 0)::L)) ?_ ?_
 ·
  refine IF 4 E I (λao a E=>?_) λao a E=>?_
  ·
   refine RN 1 E I λa E=>?_;exact⟨4,by rw[al (by omega)],E.ab [0,2,4,5,6,7,8],I⟩
  refine RN 0 E I λa E=>?_;exact⟨1,by rw[ag (by omega)],E.ab [0,2,4,5,6,7,8],I⟩
 clear E;(try clear I);rintro a w ⟨n,hn,E,I⟩;refine RN 3 E I λa E=>?_;refine aP (λμ a w=>∃ (i k:Nat) (g:Nat→Int),(μ=n-i∧i≤n∧k≤X.length∧(∀ j,i≤j→g j=0)∧∀ q,gV bs q→X.drop k=vU q i∧∀ j,j<i→g j=vT q j)∧Fr a 153 [(0,.slice (some ⟨bb,oo,none⟩) bs.length c),(2,pt b2),(4,.slice (some ⟨mn,ox,none⟩) X.length dN),(5,pt b5),(6,pt cG),(7,.int .i64 k),(8,.int .i64 n),(9,.int .i64 i)]∧U W w (aa cG 345 (ints .i64 4 g)::aa b5 203 (dL ⟨((bs.getD 0 0).toNat:Int),((bs.getD 1 0).toNat:Int),((bs.getD 2 0).toNat:Int),0,0,0,0,0,[]⟩ none 0)::aa b2 203 (dL m0 none 0)::L)) (n) (⟨0,0,λ_=>0,⟨rfl,by omega,by omega,λ_ _=>rfl,λq h=>⟨by rw[drop_zero];exact (lK q h).2,λj hj=>absurd hj (by omega)⟩⟩,E.ab [0,2,4,5,6,7,8,9],I⟩) ?_;clear E I;rintro μ a w ⟨i,k,g,⟨rfl,hi,hk,Aq,ue⟩,E,I⟩;refine IF 5 E I (λaz a E=>?_) λaz a E=>?_
 ·
  have cF:i<n:=by omega
  have pR:i<4:=by rw[hn]at cF;split at cF <;> omega
  have fQ:=hr.cut hk;have hlk:=fQ.len;refine RN 5 E I λa E=>?_;rw[show X.length-k=(X.drop k).length from by simp]at E;refine jI 0 E I (Ek (bs:=X.drop k) I (by omega) (λV hw=>fQ.rd V hw.tail.tail.tail)) λx m er a w E ⟨mT,I⟩=>?_;refine BY 12 E I (λbA a E=>?_) λbA a E=>?_
  ·
   refine SA 10 E I λa w E I=>?_;refine RT 1 E I ?_;have bX:=EL hn cF (λq h=>(ue q h).1) mT (.inl (by simpa using bA));exact rj I.tail.tail.tail bX
  refine BY 4 E I (λjQ a E=>?_) λjQ a E=>?_
  ·
   refine SA 6 E I λa w E I=>?_;refine RT 1 E I ?_;have bX:=EL hn cF (λq h=>(ue q h).1) mT (.inr (.inl (by simpa using jQ)));exact rj I.tail.tail.tail bX
  refine IF 3 E I (λbh a E=>?_) λbh a E=>?_
  ·
   refine SA 2 E I λa w E I=>?_;refine RT 1 E I ?_;have bX:=EL hn cF (λq h=>(ue q h).1) mT (.inr (.inr (by simpa using bh)));exact rj I.tail.tail.tail bX
  refine ST 4 E I (λa w E I=>?_) (hlt:=(by rw[dm];omega));rw[ints_set,show (λj=>if j=i then x else g j)=ck g i x from rfl]at I;refine RN 0 E I λa E=>?_;have X3:=(mT.2.2.1 (by simpa using bA)).2;rw[c8]at X3;refine RN 7 E I λa E=>?_;refine⟨n-(i+1),by omega,i+1,k+m,ck g i x,⟨rfl,by omega,?_,?_,λq h=>?_⟩,E.ab [0,2,4,5,6,7,8,9],I⟩
  ·have:=(mT.2.2.1 (by simpa using bA)).2;rw[c8]at this;omega
  ·intro j hj;rw[ck,ag (by omega)];exact Aq j (by omega)
  ·obtain⟨h1,h2⟩:=ue q h;obtain⟨h3,h4,h5⟩:=Ku h hn cF;obtain⟨e1,e2,e3⟩:=mT.2.2.2.2 (vT q i) (vU q (i+1)) (by omega) (by omega) (by rw[h1,h3]);refine⟨by rw[← drop_drop,h1,h3,e2,drop_left],λj hj=>?_⟩;by_cases gI:j=i
   ·subst gI;rw[ck,al rfl,e1]
   ·rw[ck,ag gI];exact h2 j (by omega)
 obtain rfl:i=n:=by omega
 rw[show dL ⟨((bs.getD 0 0).toNat:Int),((bs.getD 1 0).toNat:Int),((bs.getD 2 0).toNat:Int),0,0,0,0,0,[]⟩ none 0=[.int .i64 ((bs.getD 0 0).toNat:Int),.int .i64 ((bs.getD 1 0).toNat:Int),.int .i64 ((bs.getD 2 0).toNat:Int),.int .i64 0,.int .i64 0,.slice none 0 0,.int .i64 0,.int .i64 0,.int .u32 (0:Nat)] from rfl]at I;refine aY 1 (λw0 V=>Rd V cG 0 (ints .i64 4 g)) [3,5,7,9,10,11,12,13] [0,2,4,6,3001,8,3003,3005,3007,1009,1010,1011,1012,1013,14,1015] E I λa w E I hH=>?_;have hC:=hH.at w I.ai;refine RH 4 E I hH hC λa E=>?_;refine QH E (λw hc=>ae E (hc 0 _ (fO g (by decide)))) hC λa E=>?_;refine RH 1 E I hH hC λa E=>?_;refine QH E (λw hc=>ae E (hc 1 _ (fO g (by decide)))) hC λa E=>?_;refine QH E (λw hc=>ae E (hc 2 _ (fO g (by decide)))) hC λa E=>?_;refine QH E (λw hc=>ae E (hc 3 _ (fO g (by decide)))) hC λa E=>?_;refine RH 0 E I hH hC λa E=>?_;refine ST 0 E I (λa w E I=>?_);replace hC:=hH.at w I.ai;refine RH 1 E I hH hC λa E=>?_;refine ST 0 E I (λa w E I=>?_);replace hC:=hH.at w I.ai;refine RH 1 E I hH hC λa E=>?_;refine ST 0 E I (λa w E I=>?_);replace hC:=hH.at w I.ai;refine RH 1 E I hH hC λa E=>?_;refine ST 0 E I (λa w E I=>?_);refine RN 0 E I λa E=>?_;refine cc (M:=λa w=>∃ (p:Pk) (adP:Option Addr) (cP:Nat),p.sum<4294967296∧(∀ q,gV bs q→p=q)∧Fr a 153 [(0,.slice (some ⟨bb,oo,none⟩) bs.length c),(2,pt b2),(5,pt b5)]∧U W w (aa b5 203 (dL p adP cP)::Sl 5 1 adP p.ak.length cP (bc p.ak)::aa b2 203 (dL m0 none 0)::L)) ?_ ?_
 ·
  refine IF 4 E I (λbQ a E=>?_) λbQ a E=>?_
  ·
   have gS:∀ q,gV bs q→X.drop k=lO q∧q.ak.length≤32:=λq h=>by
    rw[al (by omega)]at hn;refine⟨by rw[(ue q h).1,hn];rfl,?_⟩;rcases EK h with k | k
    ·exact k.2.2.2.2.1
    ·rw[k.2.2.2.2.1];simp
   refine IF 7 E I (λeT a E=>?_) λeT a E=>?_
   ·
    have bX:eB bs=none:=nC λ⟨q,h⟩=>by
     have:=congrArg List.length (gS q h).1;rw[lO,aM,mw,c8]at this;omega
    refine SA 2 E I λa w E I=>?_;refine RT 1 E I ?_;exact rj I.tail.tail.tail bX
   have og:k+4≤X.length:=by omega
   refine RN 3 E I λa E=>?_;refine aP (λμ a w=>∃ (j:Nat),(μ=4-j∧j≤4)∧Fr a 153 [(0,.slice (some ⟨bb,oo,none⟩) bs.length c),(2,pt b2),(4,.slice (some ⟨mn,ox,none⟩) X.length dN),(5,pt b5),(7,.int .i64 k),(13,.int .i64 j)]∧U W w (aa b5 203 [.int .i64 ((bs.getD 0 0).toNat:Int),.int .i64 ((bs.getD 1 0).toNat:Int),.int .i64 ((bs.getD 2 0).toNat:Int),.int .i64 (g 0),.int .i64 (g 1),.slice none 0 0,.int .i64 (g 2),.int .i64 (g 3),.int .u32 (mx ((X.drop k).take j):Nat)]::aa b2 203 (dL m0 none 0)::L)) (4) (⟨0,⟨rfl,by omega⟩,E.ab [0,2,4,5,7,13],(I.perm (List.Perm.swap _ _ _)).tail⟩) ?_;clear E I;rintro μ a w ⟨j,⟨rfl,hj⟩,E,I⟩;refine IF 4 E I (λmU a E=>?_) λmU a E=>?_
   ·
    have hj4:j<4:=by omega
    have xn:k+j<X.length:=by omega
    have nn:=Ak ((X.drop k).take j) 3 (by rw[ez];omega);rw[show (256:Nat) ^ 3=16777216 from by decide]at nn;have eH:j<(X.drop k).length:=by rw[c8];omega
    have jz:=Kn eH;rw[show (X.drop k)[j]=X[k+j] from List.getElem_drop ..]at jz;have qh:=lL X[k+j];refine aY 1 (λw0 V=>V.cell? ⟨b5,8,none⟩=some (.int .u32 (mx ((X.drop k).take j):Nat))∧Rd V mn ox (bc X)) [8,9] [0,3,4,5,6,7,3001,2,1008,1009,10,11,1012] E I λa w E I hH=>?_;have hC:=hH.at w ⟨I.bz rfl,(hr.rd _ I.tail.tail).rd (by omega)⟩;refine RH 6 E I hH hC λa E=>?_;refine QH E (λw hc=>ae E (hc.1)) hC λa E=>?_;refine RH 1 E I hH hC λa E=>?_;rw[show IntKind.u32.wrap (((mx ((X.drop k).take j):Nat):Int)*256)=((mx ((X.drop k).take j)*256:Nat):Int) from by rw[wrap_u32];omega]at E;refine SS E (ae E (hC.2 (k+j) _ (dS xn))) λa E=>?_;refine RH 0 E I hH hC λa E=>?_;refine SX 0 E I (by rw[wrap_u32];omega) λa E=>?_;refine RH 1 E I hH hC λa E=>?_;rw[show IntKind.u32.wrap (((mx ((X.drop k).take j)*256:Nat):Int)+(X[k+j].toNat:Int))=((mx ((X.drop k).take (j+1)):Nat):Int) from by rw[wrap_u32,jz];omega]at E;refine RH 1 E I hH hC λa E=>?_;refine ST 0 E I (λa w E I=>?_);refine RN 3 E I λa E=>?_;exact⟨4-(j+1),by omega,j+1,⟨rfl,by omega⟩,E.ab [0,2,4,5,7,13],I⟩
   obtain rfl:j=4:=by omega
   have mW:=hr.cut og;have hl4:=mW.len;have lP:=Ak ((X.drop k).take 4) 4 (by rw[ez];omega);rw[show (256:Nat) ^ 4=4294967296 from by decide]at lP;have ca:∀ q,gV bs q→q.sum=mx ((X.drop k).take 4)∧X.drop (k+4)=aN (zz (q.ak.length:Int))++dC q.ak 0∧q.ak.length≤32:=λq h=>by
    obtain⟨h1,h2⟩:=gS q h;rw[← drop_drop,h1,lO];exact⟨(Km h.2.1).symm,rfl,h2⟩
   generalize mx ((X.drop k).take 4)=Ar at I lP ca;refine RN 8 E I λa E=>?_;rw[show X.length-(k+4)=(X.drop (k+4)).length from by simp]at E;refine jI 0 E I (Ek (bs:=X.drop (k+4)) I (by omega) (λV hw=>mW.rd V hw.tail.tail)) λx m er a w E ⟨mT,I⟩=>?_;refine BY 12 E I (λbA a E=>?_) λbA a E=>?_
   ·
    refine SA 10 E I λa w E I=>?_;refine RT 1 E I ?_;have bX:eB bs=none:=nC λ⟨q,h⟩=>by
     obtain⟨_,e2,As⟩:=ca q h;have:=(mT.2.2.2.2 (q.ak.length:Int) _ (by omega) (by omega) e2).2.2;simp[this]at bA
    exact rj I.tail.tail bX
   refine BY 4 E I (λjQ a E=>?_) λjQ a E=>?_
   ·
    refine SA 6 E I λa w E I=>?_;refine RT 1 E I ?_;have bX:eB bs=none:=nC λ⟨q,h⟩=>by
     obtain⟨_,e2,As⟩:=ca q h;have:=(mT.2.2.2.2 (q.ak.length:Int) _ (by omega) (by omega) e2).1;omega
    exact rj I.tail.tail bX
   refine IF 3 E I (λml a E=>?_) λml a E=>?_
   ·
    refine SA 2 E I λa w E I=>?_;refine RT 1 E I ?_;have bX:eB bs=none:=nC λ⟨q,h⟩=>by
     obtain⟨_,e2,As⟩:=ca q h;have:=(mT.2.2.2.2 (q.ak.length:Int) _ (by omega) (by omega) e2).1;omega
    exact rj I.tail.tail bX
   refine RN 1 E I λa E=>?_;have l4:=(mT.2.2.1 (by simpa using bA)).2;rw[c8]at l4;have om:=hr.cut (k:=k+4+m) (by omega);refine RN 5 E I λa E=>?_;rw[show X.length-(k+4+m)=(X.drop (k+4+m)).length from by simp]at E;refine jJ 0 E I (Xx (m:=32) (bs:=X.drop (k+4+m)) I om.len om.cap (by omega) (λV hw=>om.rd V hw.tail.tail)) ?_;clear E I;rintro e w ⟨out,aq,cO,e2,rfl,np,I⟩;refine⟨_,rfl,λa E=>?_⟩;refine RN 5 E I λa E=>?_;have l7:∀ q,gV bs q→out=q.ak∧e2=0:=λq h=>by
    obtain⟨_,e2,As⟩:=ca q h;obtain⟨f1,f2,f3⟩:=mT.2.2.2.2 (q.ak.length:Int) _ (by omega) (by omega) e2;refine np.2.2 q.ak As ?_;rw[← drop_drop,e2,f2,drop_left]
   refine IF 4 E I (λmm a E=>?_) λmm a E=>?_
   ·
    refine SA 2 E I λa w E I=>?_;refine RT 1 E I ?_;have bX:eB bs=none:=nC λ⟨q,h⟩=>by
     have:=(l7 q h).2;omega
    exact rj I.tail.tail.tail bX
   refine ST 2 E I (λa w E I=>?_);refine RN 0 E I λa E=>?_;refine⟨⟨((bs.getD 0 0).toNat:Int),((bs.getD 1 0).toNat:Int),((bs.getD 2 0).toNat:Int),g 0,g 1,g 2,g 3,Ar,out⟩,aq,cO,lP,λq h=>?_,E.ab [0,2,5],I⟩;obtain⟨h1,h2,h3⟩:=(lK q h).1;have h4:=(ue q h).2;rw[al (by omega)]at hn;rw[h4 0 (by omega),h4 1 (by omega),h4 2 (by omega),h4 3 (by omega),← h1,← h2,← h3,(l7 q h).1,← (ca q h).1];rfl
  refine RN 0 E I λa E=>?_;refine⟨⟨((bs.getD 0 0).toNat:Int),((bs.getD 1 0).toNat:Int),((bs.getD 2 0).toNat:Int),g 0,g 1,g 2,g 3,0,[]⟩,none,0,(by show 0<4294967296;decide),λq h=>?_,E.ab [0,2,5],(((I.perm (List.Perm.swap _ _ _)).tail.bO 5 1 none)).perm (List.Perm.swap _ _ _)⟩;obtain⟨h1,h2,h3⟩:=(lK q h).1;have h4:=(ue q h).2;rw[ag (by omega)]at hn;rcases EK h with k | k
  ·omega
  ·obtain⟨pv,k1,k2,k3,k4,x7⟩:=k;have h5:=h4 0 (by omega);have h6:=Aq 1 (by omega);have h7:=Aq 2 (by omega);have h8:=Aq 3 (by omega);rw[h5,h6,h7,h8,← h1,← h2,← h3];show Pk.mk q.kind q.aZ q.to q.id 0 0 0 0 []=q;cases q;simp_all
 clear E;(try clear I);rintro a w ⟨p,adP,cP,lP,Kv,E,I⟩;refine aY 1 (λw0 V=>Rd V b5 0 (dL p adP cP)∧aQ V (some ⟨bb,oo,none⟩) bs.length bs) [1,2,3,5,6,7] [4,3000,3001,3005,1002,2003,3006,1007,8] E I λa w E I hH=>?_;have hC:=hH.at w ⟨I.ai,hp _ I.tail.tail.tail⟩;refine RH 1 E I hH hC λa E=>?_;refine QH E (λw hc=>bR E underlying203 rfl Ty.t203 (hc.1)) hC λa E=>?_;refine QH E (λw hc=>bR E underlying203 rfl Ty.t203 (hc.1)) hC λa E=>?_;refine QH E (λw hc=>lg E underlying22 underlying5 underlying9 (hc.2)) hC λa E=>?_;refine RH 0 E I hH hC λa E=>?_;refine a6 0 E I (EF (p:=p) I lP (λV hw=>hw.cu adP p.ak rfl rfl)) λadE cE a w E I=>?_;replace hC:=hH.at w ⟨I.ai,hp _ I.tail.tail.tail.tail⟩;refine RH 0 E I hH hC λa E=>?_;refine DN [(3,[3006,1007,8]),(7,[1003,3006,8])] (by kernel_rfl) rfl ⟨⟨_,rfl,?_⟩,⟨_,rfl,?_⟩,trivial⟩
 ·
  refine RH 0 E I hH hC λa E=>?_;refine SS E (lg E underlying22 underlying5 underlying9 ((I.cu adE (aS p) rfl rfl))) λa E=>?_;refine RH 0 E I hH hC λa E=>?_;refine QH E (λw hc=>rS E) hC λa E=>?_;refine RH 0 E I hH hC λa E=>?_;refine SA 0 E I λa w E I=>?_;replace hC:=hH.at w ⟨I.ai,hp _ I.tail.tail.tail.tail⟩;refine RH 1 E I hH hC λa E=>?_;refine RT 0 E I ?_;refine⟨p,adP,cP,_,rfl,λh=>?_,λh=>?_,I.sub⟩
  ·rw[p0]at h;exact Ag ((Ei (λe=>by rw[e]at h7;simp at h7) lP).2 (by simpa using h))
  ·refine nC λ⟨q,hd⟩=>?_;have e:aS p=bs:=by rw[Kv q hd,aS,al hd.1];exact hd.2.2
   rw[e,p0]at h;simp at h
 refine RH 0 E I hH hC λa E=>?_;refine SA 0 E I λa w E I=>?_;replace hC:=hH.at w ⟨I.ai,hp _ I.tail.tail.tail.tail⟩;refine RH 0 E I hH hC λa E=>?_;refine SS E (lg E underlying22 underlying5 underlying9 ((I.cu adE (aS p) rfl rfl))) λa E=>?_;refine RH 0 E I hH hC λa E=>?_;refine QH E (λw hc=>rS E) hC λa E=>?_;refine RH 1 E I hH hC λa E=>?_;refine RT 0 E I ?_;refine⟨p,adP,cP,_,rfl,λh=>?_,λh=>?_,I.sub⟩
 ·rw[p0]at h;exact Ag ((Ei (λe=>by rw[e]at h7;simp at h7) lP).2 (by simpa using h))
 ·refine nC λ⟨q,hd⟩=>?_;have e:aS p=bs:=by rw[Kv q hd,aS,al hd.1];exact hd.2.2
  rw[e,p0]at h;simp at h
end
end
section
section
variable {W w:World}{L:List SP}{c:Nat}{ad:Option Addr}{g:Nat→Int}
theorem x8 (I:U W w L):Calls prog 177 #[.agg (ints .i32 32 g).toArray] w λe V=>∃ ad c,e=.returned (.slice ad 128 c)∧U W V (Sl 5 1 ad 128 c (bc (gm g))::L):=by
 refine EN func177 ntmps177 rfl rfl λa E=>?_;refine BX 1 E I λb1 a w E I=>?_;refine RN 7 E I λa E=>?_;refine aP (λμ a w=>∃ (i:Nat) (ad:Option Addr) (c:Nat),(μ=32-i∧i≤32)∧Fr a 16 [(3,.slice ad (lM g i).length c),(6,.agg (ints .i32 32 g).toArray),(7,.int .i64 i)]∧U W w (Sl 5 1 ad (lM g i).length c (bc (lM g i))::L)) (32) (⟨0,none,0,⟨rfl,by omega⟩,E.ab [3,6,7],I.tail.bO 5 1 none⟩) ?_;clear E I;rintro μ a w ⟨i,ad,c,⟨rfl,hi⟩,E,I⟩;refine IF 3 E I (λaj a E=>?_) λaj a E=>?_
 ·
  have EM:i<32:=by omega
  have qk:=q3 g i;refine RN 2 E I λa E=>?_;refine SS E (rT E underlying183 underlying21 rfl Ty.t21 (by omega) (fO g EM)) λa E=>?_;refine aR 3 E I (Xa I) λad2 a w E I=>?_;refine RN 0 E I λa E=>?_;refine gU E rfl I underlying22 Ty.t5 rfl rfl (by decide) (λh0=>(I.cu ad2 (ff (pd (g i))) rfl rfl).get h0) (by rw[dB];rfl) (ey _) (by rw[mw];omega) λaeY c13 a w E I=>?_;rw[← fI,← D3]at I;rw[show (lM g i).length+(ff (pd (g i))).length=(lM g (i+1)).length from by rw[q3,q3,mw];omega]at E I;refine RN 3 E I λa E=>?_;exact⟨32-(i+1),by omega,i+1,_,_,⟨rfl,by omega⟩,E.ab [3,6,7],I.sub⟩
 obtain rfl:i=32:=by omega
 rw[show (lM g 32).length=128 from q3 g 32]at E I;refine RT 3 E I ?_;exact⟨_,_,rfl,I⟩
theorem X4 (I:U W w L):Calls prog 139 #[.agg (ints .i32 32 g).toArray] w λe V=>e=.returned (.int .u32 (jh (gm g)))∧U W V L:=by
 refine EN func139 ntmps139 rfl rfl λa E=>?_;refine BX 1 E I λb1 a w E I=>?_;refine a6 3 E I (x8 I) λad c a w E I=>?_;rw[show 128=(gm g).length from (tZ g).symm]at E I;refine CL 0 E I (JU I (by rw[tZ];decide) (λV hw=>hw.cu ad (gm g) rfl rfl)) λa w E I=>?_;refine RT 1 E I ?_;exact⟨rfl,I.sub⟩
theorem uf (I:U W w L):Calls prog 115 #[.agg (ints .i32 32 g).toArray] w λe V=>∃ ad c,e=.returned (.slice ad 128 c)∧U W V (Sl 5 1 ad 128 c (bc (gm g))::L):=by
 refine EN func115 ntmps115 rfl rfl λa E=>?_;refine BX 1 E I λb1 a w E I=>?_;refine RN 6 E I λa E=>?_;refine aP (λμ a w=>∃ (i:Nat) (ad:Option Addr) (c:Nat),(μ=32-i∧i≤32)∧Fr a 17 [(1,pt b1),(3,.slice ad (lM g i).length c),(4,.int .i64 i)]∧U W w (Sl 5 1 ad (lM g i).length c (bc (lM g i))::aa b1 49 (ints .i32 32 g)::L)) (32) (⟨0,none,0,⟨rfl,by omega⟩,E.ab [1,3,4],I.bO 5 1 none⟩) ?_;clear E I;rintro μ a w ⟨i,ad,c,⟨rfl,hi⟩,E,I⟩;refine IF 4 E I (λaj a E=>?_) λaj a E=>?_
 ·
  have EM:i<32:=by omega
  have qk:=q3 g i;refine RN 4 E I λa E=>?_;refine SS E (ae E (I.bz (b:=b1) (fO g EM))) λa E=>?_;refine RN 0 E I λa E=>?_;refine SS E (gj E underlying21 underlying100) λa E=>?_;rw[JT]at E;refine aR 0 E I (D6 I) λad2 a w E I=>?_;refine RN 0 E I λa E=>?_;refine gU E rfl I underlying22 Ty.t5 rfl rfl (by decide) (λh0=>(I.cu ad2 (ff (pd (g i))) rfl rfl).get h0) (by rw[dB];rfl) (ey _) (by rw[mw];omega) λKw Ky a w E I=>?_;rw[← fI,← D3]at I;rw[show (lM g i).length+(ff (pd (g i))).length=(lM g (i+1)).length from by rw[q3,q3,mw];omega]at E I;refine RN 4 E I λa E=>?_;exact⟨32-(i+1),by omega,i+1,_,_,⟨rfl,by omega⟩,E.ab [1,3,4],I.sub⟩
 obtain rfl:i=32:=by omega
 rw[show (lM g 32).length=128 from q3 g 32]at E I;refine RT 3 E I ?_;exact⟨_,_,rfl,(I.perm (List.Perm.swap _ _ _)).tail⟩
theorem X5 (I:U W w L):Calls prog 106 #[.agg (ints .i32 32 g).toArray] w λe V=>e=.returned (.int .u32 (jh (gm g)))∧U W V L:=by
 refine EN func106 ntmps106 rfl rfl λa E=>?_;refine BX 1 E I λb1 a w E I=>?_;refine a6 3 E I (uf I) λad c a w E I=>?_;rw[show 128=(gm g).length from (tZ g).symm]at E I;refine CL 0 E I (JV I (by rw[tZ];decide) (λV hw=>hw.cu ad (gm g) rfl rfl)) λa w E I=>?_;refine RT 1 E I ?_;exact⟨rfl,I.sub⟩
end
end
section
def dw (l:List UInt8)(f:Nat)(b:List UInt8):List UInt8:=if l.length<f then l else l++(b.drop (l.length-f)).take (1000-l.length)
theorem rk {l:List UInt8}{f:Nat}{b:List UInt8}(h:l.length≤1000):l.length≤(dw l f b).length∧(dw l f b).length≤1000:=by
 unfold dw;split
 ·omega
 ·rw[aM,ez];omega
theorem Kz {l b:List UInt8}{f i:Nat}(hf:f≤l.length)(hi:i<b.length)(h1:l.length-f≤i)(h2:l.length+(i-(l.length-f))<1000) :
   l++(b.drop (l.length-f)).take (i+1-(l.length-f))=(l++(b.drop (l.length-f)).take (i-(l.length-f)))++[b[i]]:=by
 rw[show i+1-(l.length-f)=(i-(l.length-f))+1 from by omega,dA]
 congr 1
 rw[iZ (by rw[c8];omega)]
 congr 2
 rw[List.getElem_drop]
 congr 1
 omega
def iD (ls:List (List UInt8)):Nat→Nat
 | 0=>(ls.headD []).length
 | i+1=>min (iD ls i) (ls.getD i []).length
def aW (ls:List (List UInt8)):Nat:=iD ls ls.length
theorem X6 (ls:List (List UInt8)):iD ls 1=iD ls 0:=by
 rw[iD,iD];cases ls <;> simp[iD]
theorem KA {ls:List (List UInt8)}:∀ {i j:Nat},j<i→iD ls i≤(ls.getD j []).length
 | 0,_,h=>absurd h (by omega)
 | i+1,j,h=>by
  rw[iD];by_cases hj:j=i
  ·subst hj;exact Nat.min_le_right _ _
  ·exact gF (Nat.min_le_left _ _) (KA (by omega))
theorem vV {ls:List (List UInt8)}{l:List UInt8}(h:l∈ls):aW ls≤l.length:=by
 obtain⟨i,hi,rfl⟩:=List.getElem_of_mem h;have:=KA (ls:=ls) (i:=ls.length) hi
 rwa [bl,aF hi]at this
theorem KB (ls:List (List UInt8)):∀ i,i≤ls.length→ls≠[]→∃ l∈ls,iD ls i=l.length
 | 0,_,h=>by
  cases ls with
  | nil=>exact absurd rfl h
  | cons a r=>exact⟨a,by simp,rfl⟩
 | i+1,hi,h=>by
  obtain⟨l,hl,e⟩:=KB ls i (by omega) h;rw[iD];rcases Nat.le_total (iD ls i) (ls.getD i []).length with h1 | h1
  ·rw[Nat.min_eq_left h1];exact⟨l,hl,e⟩
  ·rw[Nat.min_eq_right h1,bl,aF (by omega)];exact⟨ls[i],getElem_mem _,rfl⟩
theorem Au {ls:List (List UInt8)}(h:ls≠[]):∃ l∈ls,aW ls=l.length:=KB ls _ (bk _) h
theorem EO {ls:List (List UInt8)}{n:Nat}(h:ls≠[])(hn:∀ l∈ls,n≤l.length):n≤aW ls:=by
 obtain⟨l,hl,e⟩:=Au h;rw[e];exact hn l hl
def fx (ls:List (List UInt8))(f i:Nat):List UInt8:=(ls.take i).map (·.getD f 0)
def bL (ls:List (List UInt8))(f:Nat):List UInt8:=ls.map (·.getD f 0)
theorem Av (ls:List (List UInt8))(f:Nat):fx ls f ls.length=bL ls f:=by rw[fx,take_length,bL]
theorem Aw {ls:List (List UInt8)}{f i:Nat}(h:i<ls.length):fx ls f (i+1)=fx ls f i++[ls[i].getD f 0]:=by
 rw[fx,iZ h,cX];rfl
theorem sL {ls:List (List UInt8)}{f i:Nat}(h:i≤ls.length):(fx ls f i).length=i:=by
 rw[fx,bg,ez];omega
theorem m4 (ls:List (List UInt8))(f:Nat):(bL ls f).length=ls.length:=by rw[bL,bg]
structure Gs where
 kind:Int
 order:Int
 table:List UInt8
def cY (b:Gs):Prop:=(b.kind=1∧b.order=0∧b.table.length=0)∨(b.kind=2∧0≤b.order∧b.order≤3∧b.table.length=0)∨(b.kind=3∧b.order=0∧1≤b.table.length∧b.table.length≤1000)
instance (b:Gs):Decidable (cY b):=inferInstanceAs (Decidable (_∨_))
def x9 (o:Nat)(past:List UInt8)(i:Nat):Bool:=(past.drop (i-o)).take o==past.drop (past.length-o)
def gX (o:Nat)(past:List UInt8):Nat→Nat→Int
 | 0=>λ_=>0
 | i+1=>if o≤i∧x9 o past i=true then ck (gX o past i) (past.getD i 0).toNat (gX o past i (past.getD i 0).toNat+1) else gX o past i
theorem ya {o:Nat}{past:List UInt8}:∀ {i:Nat},i≤o→gX o past i=λ_=>0
 | 0,_=>rfl
 | i+1,h=>by rw[gX,ag (by omega),ya (by omega)]
theorem Ax (o:Nat)(past:List UInt8):∀ (i v:Nat),0≤gX o past i v∧gX o past i v≤i
 | 0,v=>⟨Int.le_refl _,Int.le_refl _⟩
 | i+1,v=>by
  have h:=Ax o past i v;have h2:=Ax o past i (past.getD i 0).toNat;rw[gX];split
  ·unfold ck;split <;> omega
  ·omega
def gB (b:Gs)(past:List UInt8):Nat→Int:=if b.kind=2 then gX b.order.toNat past past.length else λ_=>0
def ig (past:List UInt8):UInt8:=past.getLastD 0
def lR (w:Nat→Int)(last:Nat):Nat→Nat
 | 0=>last
 | i+1=>if w (lR w last i)<w i then i else lR w last i
theorem EP {w:Nat→Int}{last:Nat}(hl:last<256):∀ {i:Nat},i≤256→lR w last i<256
 | 0,_=>hl
 | i+1,h=>by
  rw[lR];split
  ·omega
  ·exact EP hl (by omega)
theorem KC {w:Nat→Int}{last:Nat}:∀ {i:Nat},(∀ v,v<i→w v≤w last)→lR w last i=last
 | 0,_=>rfl
 | i+1,h=>by
  have ih:=KC (i:=i) λv hv=>h v (by omega);rw[lR,ih,ag];have:=h i (by omega);omega
theorem KD {w:Nat→Int}{last x:Nat}(h0:w last<w x)(h1:∀ v,v<x→w v<w x):∀ {i:Nat},(∀ v,v<i→w v≤w x)→(i≤x→w (lR w last i)<w x)∧(x<i→lR w last i=x)
 | 0,_=>⟨λ_=>h0,λh=>absurd h (by omega)⟩
 | i+1,h=>by
  have ih:=KD h0 h1 (i:=i) λv hv=>h v (by omega);rw[lR];refine⟨λhi=>?_,λhi=>?_⟩
  ·have:=ih.1 (by omega);have:=h1 i (by omega);split <;> assumption
  ·by_cases hx:x=i
   ·subst hx;rw[al (ih.1 (by omega))]
   ·rw[ih.2 (by omega),ag];have:=h i (by omega);omega
def m5 (b:Gs)(past:List UInt8):UInt8:=if b.kind=3 then b.table.getD (past.length%b.table.length) 0 else UInt8.ofNat (lR (gB b past) (ig past).toNat 256)
def en (b:Gs)(past:List UInt8):Nat→List UInt8
 | 0=>past
 | i+1=>en b past i++[m5 b (en b past i)]
theorem ij (b:Gs)(past:List UInt8):∀ i,(en b past i).length=past.length+i
 | 0=>rfl
 | i+1=>by rw[en,aM,ij b past i];rfl
theorem KE (b:Gs)(past:List UInt8):∀ i,(en b past i).take past.length=past
 | 0=>take_length
 | i+1=>by
  rw[en,List.take_append_of_le_length (by rw[ij];omega),KE b past i]
def jX (b:Gs)(past:List UInt8)(n:Nat):List UInt8:=(en b past n).drop past.length
theorem ER (b:Gs)(past:List UInt8)(n:Nat):(jX b past n).length=n:=by rw[jX,c8,ij];omega
theorem ug (b:Gs)(past:List UInt8)(n:Nat):past++jX b past n=en b past n:=by
 conv=>lhs;lhs;rw[← KE b past n]
 rw[jX,jE]
theorem X7 (b:Gs)(past:List UInt8)(n:Nat):jX b past (n+1)=jX b past n++[m5 b (past++jX b past n)]:=by
 rw[ug,jX,en,List.drop_append_of_le_length (by rw[ij];omega)];rfl
def nD (b:Gs)(past:List UInt8)(to:Nat):List UInt8:=en b past (to-past.length)
def iR (b:Gs)(ls:List (List UInt8))(to:Nat):List (List UInt8):=ls.map λl=>nD b l to
theorem X8 (b:Gs)(past:List UInt8)(to:Nat):to≤(nD b past to).length:=by rw[nD,ij];omega
def dx (b:Gs)(ls:List (List UInt8))(to:Nat):List (List UInt8):=(List.range (to-aW ls)).map λi=>bL (iR b ls to) (aW ls+i)
theorem vW (b:Gs)(ls:List (List UInt8))(to:Nat):(dx b ls to).length=to-aW ls:=by simp[dx]
end
section
abbrev Lx:=Nat×List UInt8
def Ln (x:Lx):SP:=λh=>∃ (ad:Option Addr) (c:Nat),cn [aa x.1 328 [.slice ad x.2.length c],Sl 5 1 ad x.2.length c (bc x.2)] h
section
variable {W w:World}{L L' R:List SP}{n c m lb:Nat}{ad:Option Addr}{l bs:List UInt8}{x:UInt8}
theorem Ln.open (I:U W w (Ln (lb,l)::L)):∃ (ad:Option Addr) (c:Nat),U W w (aa lb 328 [.slice ad l.length c]::Sl 5 1 ad l.length c (bc l)::L):=by
 obtain⟨ad,_,I⟩:=I.jt (p:=λ_=>True) (B:=λad h=>∃ c,cn [aa lb 328 [.slice ad l.length c],Sl 5 1 ad l.length c (bc l)] h) λ_ ⟨ad,c,h⟩=>⟨ad,trivial,c,h⟩;obtain⟨c,_,I⟩:=I.jt (p:=λ_=>True) (B:=λc h=>cn [aa lb 328 [.slice ad l.length c],Sl 5 1 ad l.length c (bc l)] h) λ_ ⟨c,h⟩=>⟨c,trivial,h⟩;exact⟨ad,c,I.open (M:=[_,_]) λ_ h=>h⟩
theorem Ln.close (I:U W w (aa lb 328 [.slice ad l.length c]::Sl 5 1 ad l.length c (bc l)::L)):U W w (Ln (lb,l)::L) :=
 U.shut (M:=[_,_]) I λ_ h=>⟨ad,c,h⟩
theorem Ln.mk' (I:U W w L)(ad:Option Addr)(c:Nat)[k:fE L (aa lb 328 [.slice ad l.length c]::Sl 5 1 ad l.length c (bc l)::L') R]:U W w (Ln (lb,l)::L'):=Ln.close (ad:=ad) (c:=c) I.sub
theorem X9 (d:Nat):(madeCells (Value.int .u8 0).cells (d*1)).toList=bc (List.replicate d 0):=by
 apply ext_getElem?;intro i;by_cases h:i<d
 ·rw[dS (by simpa using h)];rw[madeCells,Array.getElem?_toList,Array.getElem?_map,Array.getElem?_range];simp[h,Value.cells,Nat.mod_one]
 ·rw[iw (by simp[madeCells];omega),iw (by rw[dB];simp;omega)]
theorem U.KF {b e sz m:Nat}{cs:List Value}(I:U W w (aa b e cs::L))(h:cs.length=m*sz):U W w (Sl e sz (some ⟨b,0,none⟩) m m cs::L) :=
 U.iL (pre:=[]) (post:=[]) (n:=m) (c:=m) (sz:=sz) (cs:=cs) (by simpa using I) h (bk _) (by rw[Nat.sub_self,Nat.zero_mul];exact Nat.zero_le _)
theorem aQ.yb {w:World}{ad:Option Addr}{bs:List UInt8}{c lo n:Nat}(h:aQ w ad bs.length bs)(hl:lo+n≤bs.length)(hc:bs.length≤c):aQ w (fm ad lo c 1) n ((bs.drop lo).take n) :=
 (h.tX (lo:=lo) (by omega) hc).D1 (by rw[c8];omega)
theorem Ya {d:Nat}(I:U W w L)(hd:d≤8):Calls prog 168 #[.int .i64 d] w λe V=>∃ lb,e=.returned (pt lb)∧U W V (Ln (lb,List.replicate d 0)::L):=by
 refine EN func168 ntmps168 rfl rfl λa E=>?_;refine RN 6 E I λa E=>?_;rw[show min (max (d:Int) 0) 8=(d:Int) from by omega]at E;refine qE E rfl I underlying22 Ty.t5 rfl (by omega) (by omega) λcG a w E I ho=>?_;clear ho;rw[X9]at I;replace I:=I.KF (m:=d) (sz:=1) (by rw[dB,ke,Nat.mul_one]);refine BX 1 E I λb8 a w E I=>?_;refine RN 1 E I λa E=>?_;replace I:U W w (aa b8 328 [.slice (some ⟨cG,0,none⟩) (List.replicate d (0:UInt8)).length d]::Sl 5 1 (some ⟨cG,0,none⟩) (List.replicate d (0:UInt8)).length d (bc (List.replicate d 0))::L):=by
  rw[ke];exact I
 refine RT 0 E I ?_;exact⟨b8,rfl,Ln.close I⟩
theorem Ay (I:U W w (Ln (lb,l)::L)):Calls prog 172 #[pt lb] w λe V=>e=.returned (.int .i64 l.length)∧U W V (Ln (lb,l)::L):=by
 obtain⟨ad,c,I⟩:=Ln.open I;refine EN func172 ntmps172 rfl rfl λa E=>?_;refine RN 6 E I λa E=>?_;replace E:=E.aK 4;refine RT 8 E I ?_;exact⟨rfl,Ln.close I⟩
theorem KG {f:Nat}(I:U W w (Ln (lb,l)::L)):Calls prog 173 #[pt lb,.int .i64 f] w λe V=>e=.returned (.tuple #[.int .u8 ((l.getD f 0).toNat:Nat),.bool (decide (f<l.length))])∧U W V (Ln (lb,l)::L):=by
 refine EN func173 ntmps173 rfl rfl λa E=>?_;refine RN 8 E I λa E=>?_;rw[bq (by omega)]at E;refine CL 2 E I (Ay I) λa w E I=>?_;refine IF 2 E I (λaj a E=>?_) λaj a E=>?_
 ·
  refine RT 3 E I ?_;exact⟨by rw[bl,iw (by omega),bq (by omega)];rfl,I⟩
 obtain⟨ad,c,I⟩:=Ln.open I;have eS:f<l.length:=by omega
 obtain⟨b,o,rfl,hr⟩:=(I.cu ad l rfl rfl).get (by omega);refine RN 7 E I λa E=>?_;refine SS E (ae E (hr f _ (kX eS))) λa E=>?_;refine RT 2 E I ?_;exact⟨by rw[dq eS],Ln.close I⟩
theorem KH (I:U W w (Ln (lb,l)::L))(hl:l.length≤1000):Calls prog 314 #[pt lb,.int .u8 (x.toNat:Nat)] w λe V=>e=.returned (.int .i64 (if l.length<1000 then 0 else 4))∧U W V (Ln (lb,if l.length<1000 then l++[x] else l)::L):=by
 obtain⟨ad,c,I⟩:=Ln.open I;refine EN func314 ntmps314 rfl rfl λa E=>?_;refine RN 7 E I λa E=>?_;replace E:=E.aK 5;refine IF 9 E I (λao a E=>?_) λao a E=>?_
 ·
  refine RT 2 E I ?_;exact⟨by rw[ag (by omega)],by rw[ag (by omega)];exact Ln.close I⟩
 refine RN 7 E I λa E=>?_;refine cp E rfl I underlying22 Ty.t5 rfl rfl rfl rfl (by decide) (by decide) λb21 a w E I ho=>?_;clear ho;refine RN 0 E I λa E=>?_;refine cQ E rfl I underlying22 Ty.t5 rfl rfl I.ai rfl (ey [x]) (by decide) (by decide) (by omega) λKI KJ a w E I=>?_;rw[show bc l++_=bc (l++[x]) from (fI l [x]).symm]at I;refine ST 2 E I (λa w E I=>?_);refine RN 0 E I λa E=>?_;rw[show l.length+1=(l++[x]).length from by simp]at I;replace I:=I.sub (M:=aa lb 328 [.slice KI (l++[x]).length KJ]::Sl 5 1 KI (l++[x]).length KJ (bc (l++[x]))::L);refine RT 2 E I ?_;exact⟨by rw[al (by omega)],by rw[al (by omega)];exact Ln.close I⟩
theorem Yb {f:Nat}(I:U W w (Ln (lb,l)::L))(hl:l.length≤1000)(hb:bs.length≤65536)(hp:∀ V,U W V L→aQ V ad bs.length bs) :
   Calls prog 318 #[pt lb,.int .i64 f,.slice ad bs.length c] w λe V=>∃ n er:Int,e=.returned (.tuple #[.int .i64 n,.int .i64 er])∧U W V (Ln (lb,dw l f bs)::L):=by
 refine EN func318 ntmps318 rfl rfl λa E=>?_;refine RN 8 E I λa E=>?_;replace E:=E.aK 11;refine RN 5 E I λa E=>?_;rw[bq (by omega)]at E;refine RN 2 E I λa E=>?_;obtain⟨gY,cl,I⟩:=Ln.open I;refine IF 8 E I (λaz a E=>?_) λaz a E=>?_
 ·
  replace I:=Ln.close I;refine RT 3 E I ?_;exact⟨_,_,rfl,by rw[dw,al (by omega)];exact I⟩
 refine RN 11 E I λa E=>?_;rw[show ((l.length:Nat):Int)-(f:Int)=((l.length-f:Nat):Int) from by omega]at E;refine RN 1 E I λa E=>?_;replace I:=Ln.close I;have eS:f≤l.length:=by omega
 refine aP (λμ a w=>∃ (i:Nat),(μ=bs.length-i∧l.length-f≤i∧(i≤bs.length∨i=l.length-f)∧l.length+(i-(l.length-f))≤1000)∧Fr a 51 [(0,pt lb),(2,.slice ad bs.length c),(8,.int .i64 (i-(l.length-f):Nat)),(9,.int .i64 i)]∧U W w (Ln (lb,l++(bs.drop (l.length-f)).take (i-(l.length-f)))::L)) (bs.length-(l.length-f)) (⟨l.length-f,⟨rfl,bk _,.inr rfl,by omega⟩,by rw[Nat.sub_self];exact E.ab [0,2,8,9],by rw[Nat.sub_self,take_zero,append_nil];exact I⟩) ?_;clear E I;rintro μ a w ⟨i,⟨rfl,hi,hib,k9⟩,E,I⟩;refine IF 6 E I (λbh a E=>?_) λbh a E=>?_
 ·
  obtain⟨bb,oo,rfl,hr⟩:=(hp _ I.tail).get (by omega);have aG:i<bs.length:=by omega
  have hlen:(l++(bs.drop (l.length-f)).take (i-(l.length-f))).length=l.length+(i-(l.length-f)):=by rw[aM,ez,c8];omega
  refine RN 7 E I λa E=>?_;refine SS E (ae E (hr i _ (dS aG))) λa E=>?_;refine CL 0 E I (KH I (by rw[hlen];omega)) λa w E I=>?_;rw[hlen]at E I;refine IF 4 E I (λbQ a E=>?_) λbQ a E=>?_
  ·
   have h9:¬ l.length+(i-(l.length-f))<1000:=λh=>bQ (al h);rw[ag h9]at I;refine RT 5 E I ?_;exact⟨_,_,rfl,by rw[dw,ag (by omega),show 1000-l.length=i-(l.length-f) from by omega];exact I⟩
  have h9:l.length+(i-(l.length-f))<1000:=Decidable.of_not_not λh=>by rw[ag h]at bQ;cases bQ
  rw[al h9]at I;refine RN 6 E I λa E=>?_;exact⟨bs.length-(i+1),by omega,i+1,⟨rfl,by omega,by omega,by omega⟩,by rw[show ((i+1-(l.length-f):Nat):Int)=((i-(l.length-f):Nat):Int)+1 from by omega];exact E.ab [0,2,8,9],by rw[Kz eS aG hi h9];exact I⟩
 refine RT 4 E I ?_;exact⟨_,_,rfl,by rw[dw,ag (by omega),fY (by rw[c8];omega)];rw[fY (by rw[c8];omega)]at I;exact I⟩
theorem KK {f k:Nat}(I:U W w (Ln (lb,l)::L))(hl:l.length≤1000)(hf:f≤1000)(hk:1≤k∧k≤1000) :
   Calls prog 309 #[pt lb,.int .i64 f,.int .i64 k] w λe V=>∃ av c',e=.returned (.slice av ((l.drop f).take k).length c')∧U W V (Sl 5 1 av ((l.drop f).take k).length c' (bc ((l.drop f).take k))::Ln (lb,l)::L):=by
 have de:((l.drop f).take k).length=min l.length (f+k)-f:=by rw[ez,c8];omega
 refine EN func309 ntmps309 rfl rfl λa E=>?_;refine RN 7 E I λa E=>?_;rw[bq (by omega)]at E;refine CL 2 E I (Ay I) λa w E I=>?_;refine BY 3 E I (λeh a E=>?_) λeh a E=>?_
 ·
  have hz:(l.drop f).take k=[]:=by rw[drop_eq_nil_of_le (by omega),List.take_nil]
  refine RT 6 E I ?_;rw[hz];exact⟨_,_,rfl,I.bO _ _ none⟩
 refine RN 3 E I λa E=>?_;rw[bq (by omega)]at E;refine RN 2 E I λa E=>?_;obtain⟨gY,cl,I⟩:=Ln.open I;have b9:=(I.sl gY).2;refine bS 0 [8,9,14] [0,1,2,4,5,6,7,10,11,12,13,3003,1008,1009,1014,15,1016,17] E I λa w E I hH hC=>?_;refine RH 10 E I hH hC λa E=>?_;rw[show min (k:Int) 1000=(k:Int) from by omega]at E;refine RH 5 E I hH hC λa E=>?_;rw[show min (l.length:Int) ((f:Int)+(k:Int))=((min l.length (f+k):Nat):Int) from by omega]at E;refine RH 1 E I hH hC λa E=>?_;refine a6 0 E I (r4 (bs:=(l.drop f).take k) I (λV hw=>by have h1:=(hw.cu gY l rfl rfl).yb (c:=cl) (lo:=f) (n:=min l.length (f+k)-f) (by omega) b9;rw[show (l.drop f).take (min l.length (f+k)-f)=(l.drop f).take k from by rw[← de,List.take_eq_take_iff,ez,c8];omega]at h1;exact h1) (by omega)) λfo c7 a w E I=>?_;refine RN 1 E I λa E=>?_;refine RT 0 E I ?_;exact⟨fo,c7,by rw[de],by rw[de];exact (Ln.mk' (L':=Sl 5 1 fo (min l.length (f+k)-f) c7 (bc ((l.drop f).take k))::L) I gY cl).perm (List.Perm.swap _ _ _)⟩
theorem Yc (I:U W w (Ln (lb,l)::L))(hl:l.length≤1000) :
   Calls prog 293 #[pt lb] w λe V=>∃ av c',e=.returned (.slice av l.length c')∧U W V (Sl 5 1 av l.length c' (bc l)::Ln (lb,l)::L):=by
 have Yd:(l.drop 0).take 1000=l:=by rw[drop_zero,fY hl]
 refine EN func293 ntmps293 rfl rfl λa E=>?_;refine a6 4 E I (KK (f:=0) (k:=1000) I hl (by decide) (by decide)) λfo c7 a w E I=>?_;rw[Yd]at E I;refine RT 1 E I ?_;exact⟨_,_,rfl,I⟩
end
end
section
def jY (x:Lx):Value:=pt x.1
def Qu (qb:Nat)(aB:List Nat)(ls:List (List UInt8)):SP:=λh=>∃ (ad:Option Addr) (c:Nat),aB.length=ls.length∧cn [aa qb 288 [.slice ad ls.length c],Sl 289 1 ad ls.length c ((aB.zip ls).map jY),ah Ln (aB.zip ls)] h
section
variable {W w:World}{L L' R:List SP}{n c qb lb i f:Nat}{ad:Option Addr}{ls:List (List UInt8)}{aB:List Nat}{l:List UInt8}{x:UInt8}
theorem Qu.open (I:U W w (Qu qb aB ls::L)):∃ (ad:Option Addr) (c:Nat),aB.length=ls.length∧U W w (aa qb 288 [.slice ad ls.length c]::Sl 289 1 ad ls.length c ((aB.zip ls).map jY)::ah Ln (aB.zip ls)::L):=by
 obtain⟨⟨ad,c⟩,hl,I⟩:=I.jt (ι:=Option Addr×Nat) (p:=λ_=>aB.length=ls.length) (B:=λy h=>cn [aa qb 288 [.slice y.1 ls.length y.2],Sl 289 1 y.1 ls.length y.2 ((aB.zip ls).map jY),ah Ln (aB.zip ls)] h) λ_ ⟨ad,c,hl,h⟩=>⟨(ad,c),hl,h⟩;exact⟨ad,c,hl,I.open (M:=[_,_,_]) λ_ h=>h⟩
theorem Qu.close (I:U W w (aa qb 288 [.slice ad ls.length c]::Sl 289 1 ad ls.length c ((aB.zip ls).map jY)::ah Ln (aB.zip ls)::L))(hl:aB.length=ls.length):U W w (Qu qb aB ls::L) :=
 U.shut (M:=[_,_,_]) I λ_ h=>⟨ad,c,hl,h⟩
theorem Qu.mk' (I:U W w L)(ad:Option Addr)(c:Nat)[k:fE L (aa qb 288 [.slice ad ls.length c]::Sl 289 1 ad ls.length c ((aB.zip ls).map jY)::ah Ln (aB.zip ls)::L') R](hl:aB.length=ls.length):U W w (Qu qb aB ls::L'):=Qu.close (ad:=ad) (c:=c) I.sub hl
theorem uh {aB:List Nat}{ls:List (List UInt8)}(hl:aB.length=ls.length){i:Nat}(h:i<ls.length):(aB.zip ls)[i]?=some (aB.getD i 0,ls.getD i []):=by
 rw[List.getElem?_zip_eq_some];simp only[bl];rw[aF h,aF (by omega)];exact⟨rfl,rfl⟩
def yc (qb:Nat)(aB:List Nat)(ls:List (List UInt8))(i:Nat):SP:=λh=>∃ (ad:Option Addr) (c:Nat),aB.length=ls.length∧cn [aa qb 288 [.slice ad ls.length c],Sl 289 1 ad ls.length c ((aB.zip ls).map jY),ah Ln ((aB.zip ls).eraseIdx i)] h
theorem Qu.out (I:U W w (Qu qb aB ls::L))(h:i<ls.length):U W w (Ln (aB.getD i 0,ls.getD i [])::yc qb aB ls i::L):=by
 obtain⟨ad,c,hl,I⟩:=Qu.open I;have hz:=uh hl h;obtain⟨hi,he⟩:=a8.1 hz;replace I:=(I.pick (ah Ln (aB.zip ls))).fv hi;rw[he]at I;have h2:U W w (aa qb 288 [.slice ad ls.length c]::Sl 289 1 ad ls.length c ((aB.zip ls).map jY)::ah Ln ((aB.zip ls).eraseIdx i)::Ln (aB.getD i 0,ls.getD i [])::L):=I.sub;exact (U.shut (M:=[_,_,_]) h2 λ_ h=>⟨ad,c,hl,h⟩:U W w (yc qb aB ls i::Ln (aB.getD i 0,ls.getD i [])::L)).perm (List.Perm.swap _ _ _)
theorem map_set {α β:Type}(f:α→β)(l:List α)(i:Nat)(x:α):(l.set i x).map f=(l.map f).set i (f x):=by
 apply ext_getElem? ;intro j;simp only[bn,jF,bg];split
 ·split <;> rfl
 ·rfl
theorem KL {aB:List Nat}{ls:List (List UInt8)}(hl:aB.length=ls.length){i:Nat}(h:i<ls.length)(l:List UInt8):aB.zip (ls.set i l)=(aB.zip ls).set i (aB.getD i 0,l):=by
 apply ext_getElem?;intro j;by_cases hj:j<ls.length
 ·rw[uh (by simpa using hl) (by simpa using hj),jF];by_cases nU:i=j
  ·subst nU;rw[al rfl,al (by simp;omega)];simp[bl,h]
  ·rw[ag nU,uh hl hj];simp[bl,getElem?_set_ne nU]
 ·rw[iw (by simp;omega),iw (by simp;omega)]
theorem Qu.in (I:U W w (Ln (aB.getD i 0,l)::yc qb aB ls i::L))(h:i<ls.length):U W w (Qu qb aB (ls.set i l)::L):=by
 obtain⟨⟨ad,c⟩,hl,I⟩:=(I.pick (yc qb aB ls i)).jt (ι:=Option Addr×Nat) (p:=λ_=>aB.length=ls.length) (B:=λy h=>cn [aa qb 288 [.slice y.1 ls.length y.2],Sl 289 1 y.1 ls.length y.2 ((aB.zip ls).map jY),ah Ln ((aB.zip ls).eraseIdx i)] h) λ_ ⟨ad,c,hl,h⟩=>⟨(ad,c),hl,h⟩;replace I:U W w (aa qb 288 [.slice ad ls.length c]::Sl 289 1 ad ls.length c ((aB.zip ls).map jY)::ah Ln ((aB.zip ls).eraseIdx i)::Ln (aB.getD i 0,l)::L):=I.open (M:=[_,_,_]) λ_ h=>h;have hz:=uh hl h;obtain⟨hi,he⟩:=a8.1 hz;have h1:U W w (Ln (aB.getD i 0,l)::ah Ln ((aB.zip ls).eraseIdx i)::aa qb 288 [.slice ad ls.length c]::Sl 289 1 ad ls.length c ((aB.zip ls).map jY)::L):=I.sub;replace h1:=h1.kG hi;rw[← KL hl h]at h1;have e6:ls.length=(ls.set i l).length:=by rw[bu]
 have hp:(aB.zip ls).map jY=(aB.zip (ls.set i l)).map jY:=by
  rw[KL hl h,map_set]
  symm
  apply ext_getElem?;intro j;rw[jF];split
  ·rename_i hj;subst hj;split
   ·rw[bn,hz];rfl
   ·rw[iw (by omega)]
  ·rfl
 rw[hp,e6]at h1;exact Qu.mk' h1 ad c (by rw[← e6];exact hl)
theorem KM {ls:List (List UInt8)}{i:Nat}:ls.set i (ls.getD i [])=ls:=by
 apply ext_getElem?;intro j;rw[jF];split
 ·rename_i h;subst h;split
  ·rename_i h;rw[bl,aF h];rfl
  ·rw[iw (by omega)]
 ·rfl
theorem Qu.back (I:U W w (Ln (aB.getD i 0,ls.getD i [])::yc qb aB ls i::L))(h:i<ls.length):U W w (Qu qb aB ls::L):=by
 have:=Qu.in I h
 rwa [KM]at this
theorem yd (I:U W w (Qu qb aB ls::L))(h:i<ls.length):Calls prog 172 #[.pointer (some ⟨aB.getD i 0,0,none⟩)] w λe V=>e=.returned (.int .i64 (ls.getD i []).length)∧U W V (Qu qb aB ls::L) :=
 (Ay (Qu.out I h)).mono λ_ _ ⟨he,I⟩=>⟨he,Qu.back I h⟩
theorem Ye (I:U W w (Qu qb aB ls::L))(h:i<ls.length):Calls prog 173 #[.pointer (some ⟨aB.getD i 0,0,none⟩),.int .i64 f] w λe V=>e=.returned (.tuple #[.int .u8 (((ls.getD i []).getD f 0).toNat:Nat),.bool (decide (f<(ls.getD i []).length))])∧U W V (Qu qb aB ls::L) :=
 (KG (Qu.out I h)).mono λ_ _ ⟨he,I⟩=>⟨he,Qu.back I h⟩
theorem Yf (I:U W w (Qu qb aB ls::L))(h:i<ls.length)(hl:(ls.getD i []).length<1000):Calls prog 314 #[.pointer (some ⟨aB.getD i 0,0,none⟩),.int .u8 (x.toNat:Nat)] w λe V=>e=.returned (.int .i64 0)∧U W V (Qu qb aB (ls.set i (ls.getD i []++[x]))::L) :=
 (KH (Qu.out I h) (by omega)).mono λ_ _ ⟨he,I⟩=>by
  rw[al hl]at he I;exact⟨he,Qu.in I h⟩
theorem Yg {fr:Nat}{bs:List UInt8}(I:U W w (Qu qb aB ls::L))(h:i<ls.length)(hl:(ls.getD i []).length≤1000)(hb:bs.length≤65536)(hp:∀ V,U W V L→aQ V ad bs.length bs) :
   Calls prog 318 #[.pointer (some ⟨aB.getD i 0,0,none⟩),.int .i64 fr,.slice ad bs.length c] w λe V=>∃ n er:Int,e=.returned (.tuple #[.int .i64 n,.int .i64 er])∧U W V (Qu qb aB (ls.set i (dw (ls.getD i []) fr bs))::L) :=
 (Yb (Qu.out I h) hl hb (λV hw=>hp V hw.tail)).mono λ_ _ ⟨n,er,he,I⟩=>⟨n,er,he,Qu.in I h⟩
theorem Yh {fr k:Nat}(I:U W w (Qu qb aB ls::L))(h:i<ls.length)(hl:(ls.getD i []).length≤1000)(hf:fr≤1000)(hk:1≤k∧k≤1000) :
   Calls prog 309 #[.pointer (some ⟨aB.getD i 0,0,none⟩),.int .i64 fr,.int .i64 k] w λe V=>∃ av c',e=.returned (.slice av (((ls.getD i []).drop fr).take k).length c')∧U W V (Sl 5 1 av (((ls.getD i []).drop fr).take k).length c' (bc (((ls.getD i []).drop fr).take k))::Qu qb aB ls::L) :=
 (KK (Qu.out I h) hl hf hk).mono λ_ _ ⟨av,c',he,I⟩=>⟨av,c',he,(Qu.back (L:=Sl 5 1 av _ c' _::L) I.sub h).perm (List.Perm.swap _ _ _)⟩
theorem Yi (I:U W w (Qu qb aB ls::L))(h:i<ls.length)(hl:(ls.getD i []).length≤1000) :
   Calls prog 293 #[.pointer (some ⟨aB.getD i 0,0,none⟩)] w λe V=>∃ av c',e=.returned (.slice av (ls.getD i []).length c')∧U W V (Sl 5 1 av (ls.getD i []).length c' (bc (ls.getD i []))::Qu qb aB ls::L) :=
 (Yc (Qu.out I h) hl).mono λ_ _ ⟨av,c',he,I⟩=>⟨av,c',he,(Qu.back (L:=Sl 5 1 av _ c' _::L) I.sub h).perm (List.Perm.swap _ _ _)⟩
theorem ES (I:U W w (Qu qb aB ls::L)):Calls prog 171 #[pt qb] w λe V=>e=.returned (.int .i64 ls.length)∧U W V (Qu qb aB ls::L):=by
 obtain⟨ad,c,hl,I⟩:=Qu.open I;refine EN func171 ntmps171 rfl rfl λa E=>?_;refine RN 6 E I λa E=>?_;replace E:=E.aK 4;refine RT 8 E I ?_;exact⟨rfl,Qu.close I hl⟩
theorem Az {aB:List Nat}{ls:List (List UInt8)}(hl:aB.length=ls.length){i:Nat}(h:i<ls.length):((aB.zip ls).map jY)[i]?=some (.pointer (some ⟨aB.getD i 0,0,none⟩)):=by
 rw[bn,uh hl h];rfl
theorem sM (I:U W w (Qu qb aB ls::L))(h:i<ls.length):Calls prog 291 #[pt qb,.int .i64 i] w λe V=>e=.returned (.pointer (some ⟨aB.getD i 0,0,none⟩))∧U W V (Qu qb aB ls::L):=by
 refine EN func291 ntmps291 rfl rfl λa E=>?_;refine RN 7 E I λa E=>?_;rw[bq (by omega)]at E;refine CL 2 E I (ES I) λa w E I=>?_;refine RN 2 E I λa E=>?_;rw[bq (by omega)]at E;refine RN 2 E I λa E=>?_;obtain⟨ad,c,hl,I⟩:=Qu.open I;obtain⟨b,o,rfl,hr⟩:=I.bW ad (by omega);refine RN 6 E I λa E=>?_;refine SS E (ae E (hr i _ (Az hl h))) λa E=>?_;refine RT 1 E I ?_;exact⟨rfl,Qu.close I hl⟩
theorem rl (I:U W w (Qu qb aB ls::L))(h0:ls≠[])(iE:ls.length≤8):Calls prog 135 #[pt qb] w λe V=>e=.returned (.int .i64 (aW ls))∧U W V (Qu qb aB ls::L):=by
 have pV:0<ls.length:=List.length_pos_iff.2 h0;refine EN func135 ntmps135 rfl rfl λa E=>?_;refine CL 5 E I (ES I) λa w E I=>?_;refine RN 1 E I λa E=>?_;rw[bq (by omega)]at E;refine RN 2 E I λa E=>?_;obtain⟨ad,c,hl,I⟩:=Qu.open I;obtain⟨b,o,rfl,hr⟩:=I.bW ad (by omega);refine RN 5 E I λa E=>?_;refine SS E (ae E (hr 0 _ (Az hl pV))) λa E=>?_;replace I:U W w (Qu qb aB ls::L):=Qu.close I hl;refine CL 0 E I (yd I pV) λa w E I=>?_;refine RN 3 E I λa E=>?_;obtain⟨ad,c,hl,I⟩:=Qu.open I;rw[show ((ls.getD 0 []).length:Int)=(iD ls 0:Nat) from by rw[iD,List.headD_eq_getD]]at E;refine RN 6 E I λa E=>?_;replace I:U W w (aa qb 288 [.slice ad ls.length c]::Sl 289 1 ad ls.length c ((aB.zip ls).map jY)::ah Ln (aB.zip ls)::L):=I;refine aP (λμ a w=>∃ (i:Nat),(μ=ls.length-i∧i≤ls.length)∧Fr a 31 [(3,.int .i64 (iD ls i:Nat)),(19,.slice ad ls.length c),(20,.int .i64 ls.length),(21,.int .i64 i)]∧U W w (aa qb 288 [.slice ad ls.length c]::Sl 289 1 ad ls.length c ((aB.zip ls).map jY)::ah Ln (aB.zip ls)::L)) (ls.length) (⟨0,⟨rfl,by omega⟩,E.ab [3,19,20,21],I⟩) ?_;clear E I;rintro μ a w ⟨i,⟨rfl,hi⟩,E,I⟩;refine IF 3 E I (λao a E=>?_) λao a E=>?_
 ·
  obtain⟨b2,p1,rfl,ee⟩:=I.bW ad (by omega);have aG:i<ls.length:=by omega
  have hz:=uh hl aG;obtain⟨kq,qg⟩:=a8.1 hz;refine RN 3 E I λa E=>?_;refine SS E (ae E (ee i _ (Az hl aG))) λa E=>?_;refine RN 1 E I λa E=>?_;replace I:=(I.pick (ah Ln (aB.zip ls))).fv kq;rw[qg]at I;refine CL 2 E I (Ay I) λa w E I=>?_;replace I:=(qg ▸ I:U W w (Ln (aB.zip ls)[i]::_)).kG kq;rw[set_getElem_self]at I;refine RN 1 E I λa E=>?_;rw[show min ((iD ls i:Nat):Int) ((ls.getD i []).length:Int)=((iD ls (i+1):Nat):Int) from by rw[iD];omega]at E;refine RN 3 E I λa E=>?_;exact⟨ls.length-(i+1),by omega,i+1,⟨rfl,by omega⟩,E.ab [3,19,20,21],I.sub⟩
 obtain rfl:i=ls.length:=by omega
 refine RT 3 E I ?_;exact⟨rfl,Qu.close I hl⟩
theorem Yj (I:U W w (Qu qb aB ls::L))(h0:ls≠[])(hf:f<aW ls)(iE:ls.length≤8):Calls prog 136 #[pt qb,.int .i64 f] w λe V=>∃ av c',e=.returned (.tuple #[.slice av (bL ls f).length c',.bool true]) ∧
   U W V (Sl 5 1 av (bL ls f).length c' (bc (bL ls f))::Qu qb aB ls::L):=by
 refine EN func136 ntmps136 rfl rfl λa E=>?_;refine RN 8 E I λa E=>?_;rw[bq (by omega)]at E;refine CL 2 E I (rl I h0 iE) λa w E I=>?_;refine RN 2 E I λa E=>?_;rw[bq (by omega)]at E;refine RN 5 E I λa E=>?_;obtain⟨ad,c,hl,I⟩:=Qu.open I;refine RN 6 E I λa E=>?_;refine aP (λμ a w=>∃ (i:Nat) (ad2:Option Addr) (c2:Nat),(μ=ls.length-i∧i≤ls.length)∧Fr a 40 [(1,.int .i64 f),(6,.slice ad2 (fx ls f i).length c2),(22,.slice ad ls.length c),(23,.int .i64 ls.length),(24,.int .i64 i)]∧U W w (Sl 5 1 ad2 (fx ls f i).length c2 (bc (fx ls f i))::aa qb 288 [.slice ad ls.length c]::Sl 289 1 ad ls.length c ((aB.zip ls).map jY)::ah Ln (aB.zip ls)::L)) (ls.length) (⟨0,none,0,⟨rfl,by omega⟩,E.ab [1,6,22,23,24],I.bO 5 1 none⟩) ?_;clear E I;rintro μ a w ⟨i,ad2,c2,⟨rfl,hi⟩,E,I⟩;refine IF 3 E I (λao a E=>?_) λao a E=>?_
 ·
  obtain⟨b2,p1,rfl,ee⟩:=I.bW ad (by omega);have aG:i<ls.length:=by omega
  have hz:=uh hl aG;obtain⟨kq,qg⟩:=a8.1 hz;have eH:=sL (ls:=ls) (f:=f) (i:=i) hi;refine RN 3 E I λa E=>?_;refine SS E (ae E (ee i _ (Az hl aG))) λa E=>?_;refine RN 2 E I λa E=>?_;replace I:=(I.pick (ah Ln (aB.zip ls))).fv kq;rw[qg]at I;refine CL 2 E I (KG I) λa w E I=>?_;replace I:=(qg ▸ I:U W w (Ln (aB.zip ls)[i]::_)).kG kq;rw[set_getElem_self]at I;refine RN 7 E I λa E=>?_;refine cp E rfl I underlying22 Ty.t5 rfl rfl rfl rfl (by decide) (by decide) λb36 a w E I ho=>?_;clear ho;refine RN 0 E I λa E=>?_;refine cQ E rfl I underlying22 Ty.t5 rfl rfl I.ai rfl (ey [(ls.getD i []).getD f 0]) (by decide) (by decide) (by omega) λXM XN a w E I=>?_;rw[show bc (fx ls f i)++_=bc (fx ls f (i+1)) from by rw[Aw aG,fI,bl (l:=ls),aF aG];rfl,show (fx ls f i).length+1=(fx ls f (i+1)).length from by rw[sL hi,sL (by omega)]]at I;rw[show (fx ls f i).length+1=(fx ls f (i+1)).length from by rw[sL hi,sL (by omega)]]at E;refine RN 3 E I λa E=>?_;exact⟨ls.length-(i+1),by omega,i+1,_,_,⟨rfl,by omega⟩,E.ab [1,6,22,23,24],I.sub⟩
 obtain rfl:i=ls.length:=by omega
 rw[Av]at E I;refine RT 4 E I ?_;exact⟨_,_,rfl,(Qu.mk' (L':=Sl 5 1 ad2 (bL ls f).length c2 (bc (bL ls f))::L) I ad c hl).perm (List.Perm.swap _ _ _)⟩
theorem Yk {d:Nat}(I:U W w L)(hn:2≤n∧n≤8)(hd:d≤8):Calls prog 131 #[.int .i64 n,.int .i64 d] w λe V=>∃ qb aB,e=.returned (pt qb)∧U W V (Qu qb aB (List.replicate n (List.replicate d 0))::L):=by
 refine EN func131 ntmps131 rfl rfl λa E=>?_;refine BX 4 E I λdv a w E I=>?_;refine RN 6 E I λa E=>?_;rw[show min (max (n:Int) 2) 8=(n:Int) from by omega]at E;refine RN 1 E I λa E=>?_;replace I:=I.bO 289 1 none;replace I:=U.iM (f:=Ln) I;refine aP (λμ a w=>∃ (i:Nat) (xs:List Lx) (ad:Option Addr) (c:Nat),(μ=n-i∧i≤n∧xs.map (·.2)=List.replicate i (List.replicate d 0))∧Fr a 26 [(1,.int .i64 d),(5,pt dv),(10,.int .i64 n),(11,.int .i64 i)]∧U W w (aa dv 288 [.slice ad i c]::Sl 289 1 ad i c (xs.map jY)::ah Ln xs::L)) (n) (⟨0,[],none,0,⟨rfl,by omega,rfl⟩,E.ab [1,5,10,11],(I.sub:U W w (aa dv 288 [.slice none 0 0]::Sl 289 1 none 0 0 []::ah Ln []::L))⟩) ?_;clear E I;rintro μ a w ⟨i,xs,ad,c,⟨rfl,hi,bd⟩,E,I⟩;refine IF 3 E I (λaj a E=>?_) λaj a E=>?_
 ·
  refine aY 1 (λw0 V=>Rd V dv 0 [.slice ad i c]) [6,7] [0,1,2,3,5,3004,1006,1007,1008,9,10,1011] E I λa w E I hH=>?_;have hC:=hH.at w I.ai;refine RH 5 E I hH hC λa E=>?_;refine QH E (λw hc=>ae E (hc 0 _ rfl)) hC λa E=>?_;refine RH 0 E I hH hC λa E=>?_;refine aR 0 E I (Ya I hd) λlb a w E I=>?_;replace hC:=hH.at w I.ai;refine RH 0 E I hH hC λa E=>?_;refine cp E rfl I underlying286 Ty.t289 rfl rfl rfl rfl (by decide) (by decide) λIP a w E I ho=>?_;clear ho;replace hC:=hH.at w I.ai;refine RH 0 E I hH hC λa E=>?_;refine cQ E rfl I underlying286 Ty.t289 rfl rfl I.ai rfl (by simp[Value.oneCell']) (by decide) (by decide) (by omega) λqN qO a w E I=>?_;rw[show List.map jY xs++_=List.map jY (xs++[(lb,List.replicate d 0)]) from by rw[cX];rfl]at I;refine ST 2 E I (λa w E I=>?_);refine RN 2 E I λa E=>?_;have c6:=U.jG (x:=(lb,List.replicate d 0)) (I.sub (M:=Ln (lb,List.replicate d 0)::ah Ln xs::aa dv 288 [.slice qN (i+1) qO]::Sl 289 1 qN (i+1) qO ((xs++[(lb,List.replicate d 0)]).map jY)::L));exact⟨n-(i+1),by omega,i+1,xs++[(lb,List.replicate d 0)],qN,qO,⟨rfl,by omega,by rw[cX,bd,replicate_succ'];rfl⟩,E.ab [1,5,10,11],c6.sub⟩
 obtain rfl:i=n:=by omega
 refine RT 3 E I ?_;have b0:xs.length=i:=by rw[← bg (f:=(·.2)),bd,ke]
 have hz:(xs.map (·.1)).zip (List.replicate i (List.replicate d 0))=xs:=by
  rw[← bd];clear bd I E b0
  induction xs with
  | nil=>rfl
  | cons x xs ih=>rw[map_cons,map_cons,List.zip_cons_cons,ih]
 have gW:(List.replicate i (List.replicate d (0:UInt8))).length=i:=ke;refine⟨dv,xs.map (·.1),rfl,?_⟩;refine Qu.close (ad:=ad) (c:=c) ?_ (by rw[bg,b0,gW]);rw[gW,hz];exact I
end
end
end Go.Proofs.YteoldcfapaiobaaGreat
