/- Packets out of bytes: packet.Decode. -/
import Derived.Test.YteoldcfapaiobaaGreatD07PktP
import Derived.Test.YteoldcfapaiobaaGreatD01Row
namespace Go.Proofs.YteoldcfapaiobaaGreat
open Tryz
open List (drop_zero drop_drop drop_left take_zero foldl_cons map_cons drop_eq_nil_of_le take_length append_nil ext_getElem? getElem_mem getElem?_set_ne set_getElem_self foldl_append replicate_succ')
open Go.RowKit
set_option linter.unusedVariables false
set_option linter.unusedSimpArgs false
set_option maxRecDepth 10000
set_option synthInstance.maxSize 4000
set_option synthInstance.maxHeartbeats 400000
section
def yc (x:Int):Prop := -9223372036854775808≤x∧x≤9223372036854775807
def mw (l:List UInt8):Nat:=l.foldl (λn b=>n*256+b.toNat) 0
theorem Ko:∀ (l:List UInt8) (a:Nat),l.foldl (λn b=>n*256+b.toNat) a<(a+1)*256 ^ l.length
 | [],a=>by simp
 | b::l,a=>by
  have h1:=Ko l (a*256+b.toNat);have h2:=lp b;rw[foldl_cons,eL];refine y8 h1 ?_;rw[Nat.pow_succ,Nat.mul_comm (256 ^ l.length) 256,← Nat.mul_assoc];exact Nat.mul_le_mul_right _ (by omega)
theorem Kp {x:Nat}(h:x<4294967296):mw (fc x)=x:=by
 have:=Eh h;simpa [mw,fc,Eg] using this
theorem Kq {l:List UInt8}{i:Nat}(h:i<l.length):mw (l.take (i+1))=mw (l.take i)*256+l[i].toNat:=by
 rw[mw,iZ h,foldl_append];rfl
theorem Av (l:List UInt8)(n:Nat)(h:l.length≤n):mw l<256 ^ n:=by
 have:=Ko l 0;rw[Nat.zero_add,Nat.one_mul]at this;exact y8 this (Nat.pow_le_pow_right (by decide) h)
theorem X0 {n:Nat}(h:n<16777216)(b:UInt8):IntKind.u32.wrap (((BitVec.ofInt IntKind.u32.bits (IntKind.u32.wrap ((n:Int)*2 ^ 8)) ||| BitVec.ofInt IntKind.u32.bits (b.toNat:Int)).toNat:Nat):Int)=((n*256+b.toNat:Nat):Int):=by
 have hb:=lp b;rw[show IntKind.u32.wrap ((n:Int)*2 ^ 8)=((n*256:Nat):Int) from by rw[wrap_u32];omega,ui,ui];show IntKind.u32.wrap (((BitVec.ofNat 32 (n*256) ||| BitVec.ofNat 32 b.toNat).toNat:Nat):Int)=_;rw[BitVec.toNat_or,BitVec.toNat_ofNat,BitVec.toNat_ofNat,Nat.mod_eq_of_lt (show n*256<2 ^ 32 by omega),Nat.mod_eq_of_lt (show b.toNat<2 ^ 32 by omega),wrap_u32];have h1:=Nat.two_pow_add_eq_or_of_lt (i:=8) (b:=b.toNat) hb n;rw[show n*256=2 ^ 8*n from by omega,← h1];omega
structure qo (W:World)(L:List SP)(ad:Option Addr)(c:Nat)(rest:List UInt8):Prop where
 len:rest.length≤65536
 cap:rest.length≤c
 rd:∀ w',U W w' L→aT w' ad rest.length rest
section
variable {W w:World}{L L':List SP}{n c m rb:Nat}{ad:Option Addr}{bs rest:List UInt8}{p:Pk}{bad:Bool}
theorem qo.cut {k:Nat}(h:qo W L ad c rest)(hk:k≤rest.length):qo W L (fk ad k c 1) (c-k) (rest.drop k) :=
 ⟨by rw[c3];have:=h.len;omega,by rw[c3];have:=h.cap;omega,λw' hw=>(h.rd w' hw).uh hk h.cap⟩
theorem yd (I:U W w (aa rb 427 [.slice ad rest.length c,.bool bad]::L'))(Aw:∀ w',U W w' L'→U W w' L)(hr:qo W L ad c rest) :
   Calls prog 331 #[pt rb] w λe w'=>∃ (x:Int) (av:Option Addr) (c':Nat) (nB:List UInt8) (fm:Bool),e=.returned (.int .i64 x)∧yc x∧qo W L av c' nB ∧
    (∀ (n:Int) (r:List UInt8),yc n→rest=aP (zz n)++r→bad=false→x=n∧nB=r∧fm=false)∧U W w' (aa rb 427 [.slice av nB.length c',.bool fm]::L'):=by
 have hlen:=hr.len;refine EN func331 ntmps331 rfl rfl λa E=>?_;refine jN 7 E I (Ka (bs:=rest) I (by omega) (λw' hw=>hr.rd w' (Aw _ hw.tail))) λx k er a w E ⟨hg,I⟩=>?_;refine RN 7 E I λa E=>?_;have pw:=hg.2.2.1;have ni:=hg.2.1;have dM:k≤rest.length:=by
  by_cases h0:er=0
  ·have:=pw h0;omega
  ·have:=(hg.2.2.2.1 h0).1;omega
 refine b7 (M:=λa w=>∃ (z:Bool) (av:Option Addr) (c':Nat) (nB:List UInt8),(er=0→bad=false→z=false)∧qo W L av c' nB∧(z=false→nB=rest.drop k)∧Fr a 41 [(3,.int .i64 x)]∧U W w (aa rb 427 [.slice av nB.length c',.bool z]::L')) ?_ ?_
 ·
  refine b7 (M:=λa w=>∃ z:Bool,(bad=true→z=true)∧(er=0→bad=false→z=false)∧Fr a 41 [(0,pt rb),(3,.int .i64 x),(4,.int .i64 k)]∧U W w (aa rb 427 [.slice ad rest.length c,.bool z]::L')) ?_ ?_
  ·
   refine BY 6 E I (λiP a E=>?_) λiP a E=>?_
   ·
    refine ST 5 E I (λa w E I=>?_);refine RN 0 E I λa E=>?_;exact⟨_,λ_=>rfl,λ_ h=>(by rw[h]at iP;cases iP),E.ab [0,3,4],I⟩
   refine ST 5 E I (λa w E I=>?_);refine RN 0 E I λa E=>?_;exact⟨_,λh=>(by rw[h]at iP;cases iP),λh _=>bn (by omega),E.ab [0,3,4],I⟩
  clear E;(try clear I);rintro a w ⟨z,cU,ky,E,I⟩;refine IF 6 E I (λaj a E=>?_) λaj a E=>?_
  ·
   have hz:z=false:=aj;refine RN 7 E I λa E=>?_;rw[show rest.length-k=(rest.drop k).length from by simp]at E;refine ST 2 E I (λa w E I=>?_);refine RN 0 E I λa E=>?_;exact⟨_,_,_,_,ky,hr.cut dM,λ_=>rfl,E.ab [3],I⟩
  refine RN 0 E I λa E=>?_;exact⟨_,_,_,_,ky,hr,λh=>(by rw[h]at aj;cases aj),E.ab [3],I⟩
 clear E;(try clear I);rintro a w ⟨z,av,c',nB,ky,X1,X2,E,I⟩;refine RT 3 E I ?_;refine⟨x,av,c',nB,z,rfl,hg.1,X1,λn r hn e hb=>?_,I⟩;obtain⟨rfl,rfl,rfl⟩:=hg.2.2.2.2 n r hn.1 hn.2 e;have hz:=ky rfl hb;refine⟨rfl,?_,hz⟩;rw[X2 hz,e,drop_left]
theorem X3 (I:U W w (aa rb 427 [.slice ad rest.length c,.bool bad]::L'))(Aw:∀ w',U W w' L'→U W w' L)(hr:qo W L ad c rest) :
   Calls prog 332 #[pt rb] w λe w'=>∃ (x:Nat) (av:Option Addr) (c':Nat) (nB:List UInt8) (fm:Bool),e=.returned (.int .u32 x)∧x<4294967296∧qo W L av c' nB ∧
    (∀ (n:Nat) (r:List UInt8),n<4294967296→rest=fc n++r→bad=false→x=n∧nB=r∧fm=false)∧U W w' (aa rb 427 [.slice av nB.length c',.bool fm]::L'):=by
 have hlen:=hr.len;have afe:=hr.cap;refine EN func332 ntmps332 rfl rfl λa E=>?_;refine RN 3 E I λa E=>?_;refine b7 (M:=λa w=>∃ z:Bool,(z=true↔(bad=true∨rest.length<4))∧Fr a 50 [(0,pt rb)]∧U W w (aa rb 427 [.slice ad rest.length c,.bool z]::L')) ?_ ?_
 ·
  refine BY 6 E I (λiP a E=>?_) λiP a E=>?_
  ·
   refine ST 9 E I (λa w E I=>?_);refine RN 0 E I λa E=>?_;exact⟨_,⟨λ_=>.inl iP,λ_=>rfl⟩,E.ab [0],I⟩
  refine ST 9 E I (λa w E I=>?_);refine RN 0 E I λa E=>?_;exact⟨_,(by rw[cp,iP];simp;omega),E.ab [0],I⟩
 clear E;(try clear I);rintro a w ⟨z,hz,E,I⟩;refine IF 5 E I (λaj a E=>?_) λaj a E=>?_
 ·
  have X4:=hz.1 aj;refine RT 2 E I ?_;refine⟨0,ad,c,rest,true,rfl,by decide,hr,λn r hn e hb=>?_,by rw[aj]at I;exact I⟩;rcases X4 with h | h
  ·rw[hb]at h;cases h
  ·rw[e,aL,mv]at h;omega
 have Kr:¬ (bad=true∨rest.length<4):=λh=>by rw[hz.2 h]at aj;cases aj
 have h4:4≤rest.length:=Nat.le_of_not_lt λh=>Kr (.inr h);obtain⟨bb,oo,rfl,_⟩:=(hr.rd _ (Aw _ I.tail)).get (by omega);have eG:(rest.take 4).length=4:=by rw[ef];omega
 refine RN 9 E I λa E=>?_;rw[qU,Nat.sub_zero,Nat.sub_zero]at E;refine RN 2 E I λa E=>?_;refine aO (λμ a w=>∃ (i:Nat),(μ=4-i∧i≤4)∧Fr a 50 [(0,pt rb),(3,.int .u32 (mw (rest.take i))),(29,.slice (some ⟨bb,oo,none⟩) 4 c),(30,.int .i64 4),(31,.int .i64 i)]∧U W w (aa rb 427 [.slice (some ⟨bb,oo,none⟩) rest.length c,.bool z]::L')) (4) (⟨0,⟨rfl,by omega⟩,E.ab [0,3,29,30,31],I⟩) ?_;clear E I;rintro μ a w ⟨i,⟨rfl,hi⟩,E,I⟩;refine IF 3 E I (λao a E=>?_) λao a E=>?_
 ·
  have aH:i<rest.length:=by omega
  have nm:=Av (rest.take i) 3 (by rw[ef];omega);rw[show (256:Nat) ^ 3=16777216 from by decide]at nm;have ql:=lp rest[i];refine RN 3 E I λa E=>?_;refine SS E (ae E (((hr.rd _ (Aw _ I.tail)).rd (by omega)) i _ (dJ aH))) λa E=>?_;refine SX 4 E I (by rw[wrap_u32];omega) λa E=>?_;refine RN 1 E I λa E=>?_;rw[X0 nm,← Kq aH]at E;refine RN 3 E I λa E=>?_;exact⟨4-(i+1),by omega,i+1,⟨rfl,by omega⟩,E.ab [0,3,29,30,31],I⟩
 obtain rfl:i=4:=by omega
 refine RN 7 E I λa E=>?_;rw[show rest.length-4=(rest.drop 4).length from by simp]at E;refine ST 2 E I (λa w E I=>?_);refine RT 3 E I ?_;have nm:=Av (rest.take 4) 4 (by rw[ef];omega);rw[show (256:Nat) ^ 4=4294967296 from by decide]at nm;refine⟨_,_,_,_,z,rfl,nm,hr.cut h4,λn r hn e hb=>?_,I⟩;have ht:rest.take 4=fc n:=by rw[e];rfl
 have hd:rest.drop 4=r:=by rw[e];rfl
 exact⟨by rw[ht,Kp hn],hd,aj⟩
theorem Kt {a b:List UInt8}{ad2:Option Addr}{m n c2:Nat}(I:U W w L)(db:aT w ad m a)(la:aT w ad2 n b) :
   Calls prog 313 #[.slice ad m c,.slice ad2 n c2] w λe w'=>e=.returned (.bool (a==b))∧U W w' L :=
 (H9 db la).mono λe w' h=>⟨h.1,by rw[h.2];exact I⟩
theorem EK {bs:List UInt8}{q:Pk}(h:gZ bs q):(q.kind=((bs.getD 0 0).toNat:Int)∧q.aW=((bs.getD 1 0).toNat:Int)∧q.to=((bs.getD 2 0).toNat:Int))∧(bs.drop 3).take (bs.length-7)=kU q:=by
 have h1:=Ef h.2.2;obtain⟨f1,t1,wa,i1,k1⟩:=h.1;refine⟨?_,Ee h.2.2⟩;simp only[bl,h1.1,h1.2.1,h1.2.2,Option.getD_some,UInt8.toNat_ofNat'];omega
theorem sV (b:UInt8):IntKind.i64.wrap (b.toNat:Int)=(b.toNat:Int):=fY (by omega) (by have:=lp b;omega)
theorem nC {bs:List UInt8}(h:¬ ∃ q,gZ bs q):ep bs=none:=El λq hq=>h ⟨q,hq⟩
def X5 (bs:List UInt8)(p:Pk)(adP:Option Addr)(cP:Nat)(ok:Bool):Prop:=(ok=true∧ep bs=some p)∨(ok=false∧ep bs=none∧p=mX∧adP=none∧cP=0)
theorem X6 (I:U W w L)(hb:bs.length≤65536)(hc:bs.length≤c)(hp:∀ w',U W w' L→aT w' ad bs.length bs) :
   Calls prog 317 #[.slice ad bs.length c] w λe w'=>∃ (p:Pk) (adP:Option Addr) (cP:Nat) (ok:Bool),e=.returned (.tuple #[.agg (dK p adP cP).toArray,.int .i64 (if ok=true then 0 else 1)])∧X5 bs p adP cP ok∧U W w' (Sl 5 1 adP p.al.length cP (bc p.al)::L):=by
 refine EN func317 ntmps317 rfl rfl λa E=>?_;refine AL 1 E I λb2 a w E I=>?_;refine IF 6 E I (λaj a E=>?_) λaj a E=>?_
 ·
  have bQ:ep bs=none:=El λq hq=>by
   have:=congrArg List.length hq.2.2;rw[x7]at this;omega
  refine SA 2 E I λa w E I=>?_;refine RT 1 E I ?_;exact⟨mX,none,0,false,rfl,.inr ⟨rfl,bQ,rfl,rfl,rfl⟩,I.tail.bN _ _ _⟩
 obtain⟨bb,oo,rfl,_⟩:=(hp _ I.tail).get (by omega);have h7:7≤bs.length:=by omega
 refine aX 1 (λw0 w=>Rd w bb oo (bc bs)) [6,7,10,11,13] [0,1,4,5,8,9,3002,3,3006,3007,3010,3011,12,1013,1014] E I λa w E I hH=>?_;have hC:Rd w bb oo (bc bs):=(hp _ I.tail).rd (by omega);refine RH 6 E I hH hC λa E=>?_;refine QH E (λw hc=>ae E (hc 0 _ (kV (by omega)))) hC λa E=>?_;refine QP E (λw=>oW E underlying5 underlying3 (sV _)) λa E=>?_;refine QH E (λw hc=>ae E (hc 1 _ (kV (by omega)))) hC λa E=>?_;refine QH E (λw hc=>oW E underlying5 underlying3 (sV _)) hC λa E=>?_;refine QH E (λw hc=>ae E (hc 2 _ (kV (by omega)))) hC λa E=>?_;refine QH E (λw hc=>oW E underlying5 underlying3 (sV _)) hC λa E=>?_;refine RH 1 E I hH hC λa E=>?_;refine eU E rfl I Ty.t203 rfl λb4 a w E I ho=>?_;clear ho;replace hC:=hH.at w ((hp _ I.tail.tail).rd (by omega));refine RH 0 E I hH hC λa E=>?_;refine SA 0 E I λa w E I=>?_;refine RN 5 E I λa E=>?_;rw[show (bs.length:Int)-4=((bs.length-4:Nat):Int) from by omega]at E;refine RN 1 E I λa E=>?_;obtain⟨R1,EL⟩:∃ R1,R1=(bs.drop 3).take (bs.length-7):=⟨_,rfl⟩;have kL:R1.length=bs.length-7:=by rw[EL,ef,c3];omega
 have e8:qo W L (fk (some ⟨bb,oo,none⟩) 3 c 1) (c-3) R1:=⟨by omega,by omega,λw' hw=>by
  rw[kL,EL];exact ((hp w' hw).uh (lo:=3) (by omega) hc).D5 (by rw[c3];omega)⟩
 have lN:∀ q,gZ bs q→(q.kind=((bs.getD 0 0).toNat:Int)∧q.aW=((bs.getD 1 0).toNat:Int)∧q.to=((bs.getD 2 0).toNat:Int))∧R1=kU q:=λq h=>by
  rw[EL];exact EK h
 rw[show bs.length-4-3=R1.length from by omega]at E;generalize fk (some ⟨bb,oo,none⟩) 3 c 1=lr at E e8;generalize c-3=eM at E e8;generalize R1=R1 at E e8 lN;refine BX 1 E I λjz a w E I=>?_;refine jO 3 E I (yd (L:=L) I (λ_ h=>h.tail.tail) e8) ?_;clear E I;rintro e w ⟨x1,ad2,c2,R2,z2,rfl,eE,eW,ic,I⟩;refine⟨_,rfl,λa E=>?_⟩;refine ST 1 E I (λa w E I=>?_);refine RN 0 E I λa E=>?_;replace ic:∀ q,gZ bs q→(q.kind=((bs.getD 0 0).toNat:Int)∧q.aW=((bs.getD 1 0).toNat:Int)∧q.to=((bs.getD 2 0).toNat:Int)∧q.id=x1)∧R2=mY q∧z2=false:=λq h=>by
  obtain⟨h1,h2⟩:=lN q h;obtain⟨e1,e2,e3⟩:=ic q.id (mY q) ⟨by have:=h.1.2.2.2.1;omega,by have:=h.1.2.2.2.1;omega⟩ (by rw[h2,kU]) rfl;exact⟨⟨h1.1,h1.2.1,h1.2.2,e1.symm⟩,e2,e3⟩
 refine b7 (M:=λa w=>∃ (p:Pk) (adP:Option Addr) (cP:Nat) (av:Option Addr) (c':Nat) (R':List UInt8) (z:Bool),p.sum<4294967296∧(∀ q,gZ bs q→p=q∧z=false)∧Fr a 91 [(0,.slice (some ⟨bb,oo,none⟩) bs.length c),(2,pt b2),(4,pt b4),(5,pt jz)]∧U W w (aa b4 203 (dK p adP cP)::Sl 5 1 adP p.al.length cP (bc p.al)::aa jz 427 [.slice av R'.length c',.bool z]::aa b2 203 (dK mX none 0)::L)) ?_ ?_
 ·
  refine IF 4 E I (λao a E=>?_) λao a E=>?_
  ·
   have m2:∀ q,gZ bs q→mY q=aP (zz q.first)++(aP (zz q.c7)++(aP (zz q.frame)++lQ q))∧(yc q.first∧yc q.c7∧yc q.frame)∧q.al.length≤32:=λq h=>by
    have hk:=(ic q h).1.1;rw[ao]at hk;rcases h.1.2.2.2.2 with k | k
    ·obtain⟨_,k1,k2,k3,k4⟩:=k;unfold eD at k1 k2 k3;exact⟨by rw[mY,ak hk],⟨⟨by omega,by omega⟩,⟨by omega,by omega⟩,⟨by omega,by omega⟩⟩,k4⟩
    ·omega
   refine jO 2 E I (yd (L:=L) (I.perm (List.Perm.swap _ _ _)) (λ_ h=>h.tail.tail) eW) ?_;clear E I;rintro e w ⟨x2,fl,dD,R3,z3,rfl,dg,j0,xZ,I⟩;refine⟨_,rfl,λa E=>?_⟩;replace xZ:∀ q,gZ bs q→q.first=x2∧R3=aP (zz q.c7)++(aP (zz q.frame)++lQ q)∧z3=false:=λq h=>by
    obtain⟨_,h2,h3⟩:=ic q h;obtain⟨e1,e2,e3⟩:=xZ q.first _ (m2 q h).2.1.1 (by rw[h2,(m2 q h).1]) h3;exact⟨e1.symm,e2,e3⟩
   refine ST 1 E I (λa w E I=>?_);refine jO 2 E I (yd (L:=L) (I.perm (List.Perm.swap _ _ _)) (λ_ h=>h.tail.tail) j0) ?_;clear E I;rintro e w ⟨x3,ma,hs,X7,z4,rfl,eH,qj,Ax,I⟩;refine⟨_,rfl,λa E=>?_⟩;replace Ax:∀ q,gZ bs q→q.c7=x3∧X7=aP (zz q.frame)++lQ q∧z4=false:=λq h=>by
    obtain⟨_,h2,h3⟩:=xZ q h;obtain⟨e1,e2,e3⟩:=Ax q.c7 _ (m2 q h).2.1.2.1 h2 h3;exact⟨e1.symm,e2,e3⟩
   refine ST 1 E I (λa w E I=>?_);refine jO 2 E I (yd (L:=L) (I.perm (List.Perm.swap _ _ _)) (λ_ h=>h.tail.tail) qj) ?_;clear E I;rintro e w ⟨Ku,eb,dE,X8,z5,rfl,uq,sU,Ay,I⟩;refine⟨_,rfl,λa E=>?_⟩;replace Ay:∀ q,gZ bs q→q.frame=Ku∧X8=fc q.sum++(aP (zz (q.al.length:Int))++dw q.al 0)∧z5=false:=λq h=>by
    obtain⟨_,h2,h3⟩:=Ax q h;obtain⟨e1,e2,e3⟩:=Ay q.frame _ (m2 q h).2.1.2.2 h2 h3;exact⟨e1.symm,by rw[e2,lQ],e3⟩
   refine ST 1 E I (λa w E I=>?_);refine jO 2 E I (X3 (L:=L) (I.perm (List.Perm.swap _ _ _)) (λ_ h=>h.tail.tail) sU) ?_;clear E I;rintro e w ⟨Kv,sA,nZ,X9,Ya,rfl,sW,ye,Az,I⟩;refine⟨_,rfl,λa E=>?_⟩;replace Az:∀ q,gZ bs q→q.sum=Kv∧X9=aP (zz (q.al.length:Int))++dw q.al 0∧Ya=false:=λq h=>by
    obtain⟨_,h2,h3⟩:=Ay q h;obtain⟨e1,e2,e3⟩:=Az q.sum _ h.2.1 h2 h3;exact⟨e1.symm,e2,e3⟩
   refine ST 1 E I (λa w E I=>?_);refine jO 2 E I (yd (L:=L) (I.perm (List.Perm.swap _ _ _)) (λ_ h=>h.tail.tail) ye) ?_;clear E I;rintro e w ⟨Yb,sf,qV,R7,Kw,rfl,qp,wg,yf,I⟩;refine⟨_,rfl,λa E=>?_⟩;replace yf:∀ q,gZ bs q→(q.al.length:Int)=Yb∧R7=dw q.al 0∧Kw=false:=λq h=>by
    obtain⟨_,h2,h3⟩:=Az q h;have ez:=(m2 q h).2.2;obtain⟨e1,e2,e3⟩:=yf q.al.length _ ⟨by omega,by omega⟩ h2 h3;exact⟨e1.symm,e2,e3⟩
   refine jO 6 E I (XF (m:=32) I wg.len wg.cap (by omega) (λw' hw=>wg.rd w' hw.tail.tail.tail)) ?_;clear E I;rintro e w ⟨out,aq,cO,er,rfl,nn,I⟩;refine⟨_,rfl,λa E=>?_⟩;refine BY 10 E I (λbD a E=>?_) λbD a E=>?_
   ·
    refine SA 8 E I λa w E I=>?_;refine RT 1 E I ?_;have bQ:ep bs=none:=nC λ⟨q,h⟩=>by
     obtain⟨_,e2,_⟩:=yf q h;have:=(nn.2.2 q.al (m2 q h).2.2 e2).2;simp[this]at bD
    exact⟨mX,none,0,false,rfl,.inr ⟨rfl,bQ,rfl,rfl,rfl⟩,I.sub.bN _ _ _⟩
   refine IF 5 E I (λay a E=>?_) λay a E=>?_
   ·
    refine SA 2 E I λa w E I=>?_;refine RT 1 E I ?_;have bQ:ep bs=none:=nC λ⟨q,h⟩=>by
     obtain⟨e1,e2,_⟩:=yf q h;have:=(nn.2.2 q.al (m2 q h).2.2 e2).1;rw[this]at ay;omega
    exact⟨mX,none,0,false,rfl,.inr ⟨rfl,bQ,rfl,rfl,rfl⟩,I.sub.bN _ _ _⟩
   refine ST 2 E I (λa w E I=>?_);refine RN 0 E I λa E=>?_;refine⟨⟨((bs.getD 0 0).toNat:Int),((bs.getD 1 0).toNat:Int),((bs.getD 2 0).toNat:Int),x1,x2,x3,Ku,Kv,out⟩,aq,cO,sf,qV,R7,Kw,by assumption,λq h=>?_,E.ab [0,2,4,5],I⟩;obtain⟨h1,h2,h3,h4⟩:=(ic q h).1;have h5:=(xZ q h).1;have h6:=(Ax q h).1;have h7:=(Ay q h).1;have h8:=(Az q h).1;have h9:=yf q h;have e9:=(nn.2.2 q.al (m2 q h).2.2 h9.2.1).1;refine⟨?_,h9.2.2⟩;rw[← h1,← h2,← h3,← h4,← h5,← h6,← h7,← h8,e9]
  refine RN 0 E I λa E=>?_;refine⟨⟨((bs.getD 0 0).toNat:Int),((bs.getD 1 0).toNat:Int),((bs.getD 2 0).toNat:Int),x1,0,0,0,0,[]⟩,none,0,ad2,c2,R2,z2,by show 0<4294967296;decide,λq h=>?_,E.ab [0,2,4,5],(I.bN 5 1 none).perm (List.Perm.swap _ _ _)⟩;obtain⟨⟨h1,h2,h3,h4⟩,_,h5⟩:=ic q h;rw[← h1]at ao;rcases h.1.2.2.2.2 with k | k
  ·exact absurd k.1 ao
  ·obtain⟨sX,k1,k2,k3,k4,yg⟩:=k;have k4:=gT k4;refine⟨?_,h5⟩;rw[← h1,← h2,← h3,← h4];cases q;simp_all
 clear E;(try clear I);rintro a w ⟨p,adP,cP,Au,rv,aff,afg,lR,EM,E,I⟩;refine aY 3 E I (Kl (p:=p) I lR (λw' hw=>hw.cr adP p.al rfl rfl)) λadE cE a w E I=>?_;refine BY 7 E I (λdA a E=>?_) λdA a E=>?_
 ·
  refine SA 12 E I λa w E I=>?_;refine RT 1 E I ?_;have bQ:ep bs=none:=nC λ⟨q,h⟩=>by
   rw[(EM q h).2]at dA;cases dA
  exact⟨mX,none,0,false,rfl,.inr ⟨rfl,bQ,rfl,rfl,rfl⟩,I.sub.bN _ _ _⟩
 refine BY 4 E I (λfa a E=>?_) λfa a E=>?_
 ·
  refine SA 8 E I λa w E I=>?_;refine RT 1 E I ?_;have bQ:ep bs=none:=nC λ⟨q,h⟩=>by
   have hn:=(I.cr adE (aR p) rfl rfl).2.1 (by cases adE with
    | none=>rfl
    | some _=>cases fa)
   rw[(EM q h).1,aR,ak h.1,x7]at hn;omega
  exact⟨mX,none,0,false,rfl,.inr ⟨rfl,bQ,rfl,rfl,rfl⟩,I.sub.bN _ _ _⟩
 refine CL 2 E I (Kt I (I.cr adE (aR p) rfl rfl) (hp _ I.tail.tail.tail.tail.tail)) λa w E I=>?_;refine IF 2 E I (λbk a E=>?_) λbk a E=>?_
 ·
  refine SA 2 E I λa w E I=>?_;refine RT 1 E I ?_;have bQ:ep bs=none:=nC λ⟨q,h⟩=>by
   have e:aR p=bs:=by rw[(EM q h).1,aR,ak h.1];exact h.2.2
   rw[e]at bk;simp at bk
  exact⟨mX,none,0,false,rfl,.inr ⟨rfl,bQ,rfl,rfl,rfl⟩,I.sub.bN _ _ _⟩
 refine SA 2 E I λa w E I=>?_;refine RT 1 E I ?_;exact⟨p,adP,cP,true,rfl,.inl ⟨rfl,Aq ((En (λe=>by rw[e]at h7;simp at h7) lR).2 (by simpa using bk))⟩,I.sub⟩
end
end
section
def wj (q:Pk):Nat→Int
 | 0=>q.id
 | 1=>q.first
 | 2=>q.c7
 | _=>q.frame
def wk (q:Pk):Nat→List UInt8
 | 0=>kU q
 | 1=>mY q
 | 2=>aP (zz q.c7)++(aP (zz q.frame)++lQ q)
 | 3=>aP (zz q.frame)++lQ q
 | _=>lQ q
theorem EO {bs:List UInt8}{q:Pk}(h:gZ bs q):(q.kind=1∧eD q.first∧eD q.c7∧eD q.frame∧q.al.length≤32∧mY q=aP (zz q.first)++(aP (zz q.c7)++(aP (zz q.frame)++lQ q))) ∨
   (q.kind=2∧q.first=0∧q.c7=0∧q.frame=0∧q.al=[]∧q.sum=0):=by
 rcases h.1.2.2.2.2 with k | k
 ·exact .inl ⟨k.1,k.2.1,k.2.2.1,k.2.2.2.1,k.2.2.2.2,by rw[mY,ak k.1]⟩
 ·exact .inr ⟨k.1,k.2.1,k.2.2.1,k.2.2.2.1,gT k.2.2.2.2.1,k.2.2.2.2.2⟩
theorem Ky {bs:List UInt8}{q:Pk}{n i:Nat}(h:gZ bs q)(hn:n=if (bs.getD 0 0).toNat=1 then 4 else 1)(hi:i<n) :
   wk q i=aP (zz (wj q i))++wk q (i+1)∧0≤wj q i∧wj q i≤1099511627776:=by
 have h0:=(EK h).1.1;have bZ:=h.1.2.2.2.1;rcases EO h with k | k
 ·obtain⟨sX,k1,k2,k3,k4,yg⟩:=k;unfold eD at k1 k2 k3;rw[ak (by omega)]at hn;rcases (by omega:i=0∨i=1∨i=2∨i=3) with rfl | rfl | rfl | rfl
  ·exact⟨rfl,bZ.1,bZ.2⟩
  ·exact⟨yg,by show 0≤q.first;omega,by show q.first≤_;omega⟩
  ·exact⟨rfl,by show 0≤q.c7;omega,by show q.c7≤_;omega⟩
  ·exact⟨rfl,by show 0≤q.frame;omega,by show q.frame≤_;omega⟩
 ·rw[ag (by omega)]at hn;obtain rfl:i=0:=by omega
  exact⟨rfl,bZ.1,bZ.2⟩
theorem EP {bs X:List UInt8}{n i aU k:Nat}{x er:Int}(hn:n=if (bs.getD 0 0).toNat=1 then 4 else 1)(hi:i<n)(hq:∀ q,gZ bs q→X.drop aU=wk q i)(hg:lP (X.drop aU) x k er)
   (hb:er≠0∨x<0∨1099511627776<x):ep bs=none:=nC λ⟨q,h⟩=>by
 obtain⟨h1,h2,h3⟩:=Ky h hn hi;obtain⟨e1,e2,e3⟩:=hg.2.2.2.2 (wj q i) (wk q (i+1)) (by omega) (by omega) (by rw[hq q h,h1]);omega
section
variable {W w:World}{L:List SP}{n c m:Nat}{ad:Option Addr}{bs:List UInt8}{p:Pk}
theorem Yc (I:U W w L)(hb:bs.length≤65536)(hc:bs.length≤c)(hp:∀ w',U W w' L→aT w' ad bs.length bs) :
   Calls prog 189 #[.slice ad bs.length c] w λe w'=>∃ (p:Pk) (adP:Option Addr) (cP:Nat) (ok:Bool),e=.returned (.tuple #[.agg (dK p adP cP).toArray,.bool ok])∧(ok=true→ep bs=some p)∧(ok=false→ep bs=none)∧U W w' (Sl 5 1 adP p.al.length cP (bc p.al)::L):=by
 have ry:∀ {w'},U W w' L→ep bs=none→∃ (p:Pk) (adP:Option Addr) (cP:Nat) (ok:Bool),Ending.returned (.tuple #[.agg (dK mX none 0).toArray,.bool false])=.returned (.tuple #[.agg (dK p adP cP).toArray,.bool ok])∧(ok=true→ep bs=some p)∧(ok=false→ep bs=none)∧U W w' (Sl 5 1 adP p.al.length cP (bc p.al)::L) :=
  λI bQ=>⟨mX,none,0,false,rfl,λh=>(by cases h),λ_=>bQ,I.bN _ _ _⟩
 refine EN func189 ntmps189 rfl rfl λa E=>?_;refine AL 1 E I λb2 a w E I=>?_;refine IF 6 E I (λaj a E=>?_) λaj a E=>?_
 ·
  have bQ:ep bs=none:=El λq hq=>by
   have:=congrArg List.length hq.2.2;have hm:1≤(kU q).length:=by rw[kU,aL];have:=q7 (zz q.id);omega
   rw[x7]at this;omega
  refine SA 2 E I λa w E I=>?_;refine RT 1 E I ?_;exact ry I.tail bQ
 obtain⟨bb,oo,rfl,_⟩:=(hp _ I.tail).get (by omega);have h7:8≤bs.length:=by omega
 refine RN 5 E I λa E=>?_;rw[show (bs.length:Int)-4=((bs.length-4:Nat):Int) from by omega]at E;refine RN 1 E I λa E=>?_;obtain⟨X,ij⟩:∃ X,X=(bs.drop 3).take (bs.length-7):=⟨_,rfl⟩;have Yd:X.length=bs.length-7:=by rw[ij,ef,c3];omega
 have hr:qo W L (fk (some ⟨bb,oo,none⟩) 3 c 1) (c-3) X:=⟨by omega,by omega,λw' hw=>by
  rw[Yd,ij];exact ((hp w' hw).uh (lo:=3) (by omega) hc).D5 (by rw[c3];omega)⟩
 have lN:∀ q,gZ bs q→(q.kind=((bs.getD 0 0).toNat:Int)∧q.aW=((bs.getD 1 0).toNat:Int)∧q.to=((bs.getD 2 0).toNat:Int))∧X=kU q:=λq h=>by
  rw[ij];exact EK h
 rw[show bs.length-4-3=X.length from by omega]at E;have hXp:1≤X.length:=by omega
 obtain⟨mn,ox,Ye,_⟩:=(hr.rd _ I.tail).get (by omega);rw[Ye]at E hr;generalize c-3=eM at E hr;clear ij;refine aX 2 (λw0 w=>Rd w bb oo (bc bs)) [6,7,10,11,13] [0,1,4,5,8,9,3002,3,3006,3007,3010,3011,12,1013,1014] E I λa w E I hH=>?_;have hC:Rd w bb oo (bc bs):=(hp _ I.tail).rd (by omega);refine RH 6 E I hH hC λa E=>?_;refine QH E (λw hc=>ae E (hc 0 _ (kV (by omega)))) hC λa E=>?_;refine QP E (λw=>oW E underlying5 underlying3 (sV _)) λa E=>?_;refine QH E (λw hc=>ae E (hc 1 _ (kV (by omega)))) hC λa E=>?_;refine QH E (λw hc=>oW E underlying5 underlying3 (sV _)) hC λa E=>?_;refine QH E (λw hc=>ae E (hc 2 _ (kV (by omega)))) hC λa E=>?_;refine QH E (λw hc=>oW E underlying5 underlying3 (sV _)) hC λa E=>?_;refine RH 1 E I hH hC λa E=>?_;refine eU E rfl I Ty.t203 rfl λb5 a w E I ho=>?_;clear ho;replace hC:=hH.at w ((hp _ I.tail.tail).rd (by omega));refine RH 0 E I hH hC λa E=>?_;refine SA 0 E I λa w E I=>?_;refine AL 1 E I λcH a w E I=>?_;refine RN 4 E I λa E=>?_;refine b7 (M:=λa w=>∃ n:Nat,n=(if (bs.getD 0 0).toNat=1 then 4 else 1)∧Fr a 153 [(0,.slice (some ⟨bb,oo,none⟩) bs.length c),(2,pt b2),(4,.slice (some ⟨mn,ox,none⟩) X.length eM),(5,pt b5),(6,pt cH),(7,.int .i64 (0:Nat)),(8,.int .i64 n)]∧U W w (aa cH 345 (ints .i64 4 (λ_=>0))::aa b5 203 (dK ⟨((bs.getD 0 0).toNat:Int),((bs.getD 1 0).toNat:Int),((bs.getD 2 0).toNat:Int),0,0,0,0,0,[]⟩ none 0)::aa b2 203 (dK mX none 0)::L)) ?_ ?_
 ·
  refine IF 4 E I (λao a E=>?_) λao a E=>?_
  ·
   refine RN 1 E I λa E=>?_;exact⟨4,by rw[ak (by omega)],E.ab [0,2,4,5,6,7,8],I⟩
  refine RN 0 E I λa E=>?_;exact⟨1,by rw[ag (by omega)],E.ab [0,2,4,5,6,7,8],I⟩
 clear E;(try clear I);rintro a w ⟨n,hn,E,I⟩;refine RN 3 E I λa E=>?_;refine aO (λμ a w=>∃ (i k:Nat) (g:Nat→Int),(μ=n-i∧i≤n∧k≤X.length∧(∀ j,i≤j→g j=0)∧∀ q,gZ bs q→X.drop k=wk q i∧∀ j,j<i→g j=wj q j)∧Fr a 153 [(0,.slice (some ⟨bb,oo,none⟩) bs.length c),(2,pt b2),(4,.slice (some ⟨mn,ox,none⟩) X.length eM),(5,pt b5),(6,pt cH),(7,.int .i64 k),(8,.int .i64 n),(9,.int .i64 i)]∧U W w (aa cH 345 (ints .i64 4 g)::aa b5 203 (dK ⟨((bs.getD 0 0).toNat:Int),((bs.getD 1 0).toNat:Int),((bs.getD 2 0).toNat:Int),0,0,0,0,0,[]⟩ none 0)::aa b2 203 (dK mX none 0)::L)) (n) (⟨0,0,λ_=>0,⟨rfl,by omega,by omega,λ_ _=>rfl,λq h=>⟨by rw[drop_zero];exact (lN q h).2,λj hj=>absurd hj (by omega)⟩⟩,E.ab [0,2,4,5,6,7,8,9],I⟩) ?_;clear E I;rintro μ a w ⟨i,k,g,⟨rfl,hi,hk,AA,ur⟩,E,I⟩;refine IF 5 E I (λay a E=>?_) λay a E=>?_
 ·
  have cC:i<n:=by omega
  have pW:i<4:=by rw[hn]at cC;split at cC <;> omega
  have fN:=hr.cut hk;have hlk:=fN.len;refine RN 5 E I λa E=>?_;rw[show X.length-k=(X.drop k).length from by simp]at E;refine jN 0 E I (Ep (bs:=X.drop k) I (by omega) (λw' hw=>fN.rd w' hw.tail.tail.tail)) λx m er a w E ⟨mR,I⟩=>?_;refine BY 12 E I (λbD a E=>?_) λbD a E=>?_
  ·
   refine SA 10 E I λa w E I=>?_;refine RT 1 E I ?_;have bQ:=EP hn cC (λq h=>(ur q h).1) mR (.inl (by simpa using bD));exact ry I.tail.tail.tail bQ
  refine BY 4 E I (λjV a E=>?_) λjV a E=>?_
  ·
   refine SA 6 E I λa w E I=>?_;refine RT 1 E I ?_;have bQ:=EP hn cC (λq h=>(ur q h).1) mR (.inr (.inl (by simpa using jV)));exact ry I.tail.tail.tail bQ
  refine IF 3 E I (λbk a E=>?_) λbk a E=>?_
  ·
   refine SA 2 E I λa w E I=>?_;refine RT 1 E I ?_;have bQ:=EP hn cC (λq h=>(ur q h).1) mR (.inr (.inr (by simpa using bk)));exact ry I.tail.tail.tail bQ
  refine ST 4 E I (λa w E I=>?_) (hlt:=(by rw[de];omega));rw[ints_set,show (λj=>if j=i then x else g j)=cg g i x from rfl]at I;refine RN 0 E I λa E=>?_;have Yf:=(mR.2.2.1 (by simpa using bD)).2;rw[c3]at Yf;refine RN 7 E I λa E=>?_;refine⟨n-(i+1),by omega,i+1,k+m,cg g i x,⟨rfl,by omega,?_,?_,λq h=>?_⟩,E.ab [0,2,4,5,6,7,8,9],I⟩
  ·have:=(mR.2.2.1 (by simpa using bD)).2;rw[c3]at this;omega
  ·intro j hj;rw[cg,ag (by omega)];exact AA j (by omega)
  ·obtain⟨h1,h2⟩:=ur q h;obtain⟨h3,h4,h5⟩:=Ky h hn cC;obtain⟨e1,e2,e3⟩:=mR.2.2.2.2 (wj q i) (wk q (i+1)) (by omega) (by omega) (by rw[h1,h3]);refine⟨by rw[← drop_drop,h1,h3,e2,drop_left],λj hj=>?_⟩;by_cases gM:j=i
   ·subst gM;rw[cg,ak rfl,e1]
   ·rw[cg,ag gM];exact h2 j (by omega)
 obtain rfl:i=n:=by omega
 rw[show dK ⟨((bs.getD 0 0).toNat:Int),((bs.getD 1 0).toNat:Int),((bs.getD 2 0).toNat:Int),0,0,0,0,0,[]⟩ none 0=[.int .i64 ((bs.getD 0 0).toNat:Int),.int .i64 ((bs.getD 1 0).toNat:Int),.int .i64 ((bs.getD 2 0).toNat:Int),.int .i64 0,.int .i64 0,.slice none 0 0,.int .i64 0,.int .i64 0,.int .u32 (0:Nat)] from rfl]at I;refine aX 1 (λw0 w'=>Rd w' cH 0 (ints .i64 4 g)) [3,5,7,9,10,11,12,13] [0,2,4,6,3001,8,3003,3005,3007,1009,1010,1011,1012,1013,14,1015] E I λa w E I hH=>?_;have hC:=hH.at w I.ai;refine RH 4 E I hH hC λa E=>?_;refine QH E (λw hc=>ae E (hc 0 _ (fM g (by decide)))) hC λa E=>?_;refine RH 1 E I hH hC λa E=>?_;refine QH E (λw hc=>ae E (hc 1 _ (fM g (by decide)))) hC λa E=>?_;refine QH E (λw hc=>ae E (hc 2 _ (fM g (by decide)))) hC λa E=>?_;refine QH E (λw hc=>ae E (hc 3 _ (fM g (by decide)))) hC λa E=>?_;refine RH 0 E I hH hC λa E=>?_;refine ST 0 E I (λa w E I=>?_);replace hC:=hH.at w I.ai;refine RH 1 E I hH hC λa E=>?_;refine ST 0 E I (λa w E I=>?_);replace hC:=hH.at w I.ai;refine RH 1 E I hH hC λa E=>?_;refine ST 0 E I (λa w E I=>?_);replace hC:=hH.at w I.ai;refine RH 1 E I hH hC λa E=>?_;refine ST 0 E I (λa w E I=>?_);refine RN 0 E I λa E=>?_;refine b7 (M:=λa w=>∃ (p:Pk) (adP:Option Addr) (cP:Nat),p.sum<4294967296∧(∀ q,gZ bs q→p=q)∧Fr a 153 [(0,.slice (some ⟨bb,oo,none⟩) bs.length c),(2,pt b2),(5,pt b5)]∧U W w (aa b5 203 (dK p adP cP)::Sl 5 1 adP p.al.length cP (bc p.al)::aa b2 203 (dK mX none 0)::L)) ?_ ?_
 ·
  refine IF 4 E I (λbL a E=>?_) λbL a E=>?_
  ·
   have gX:∀ q,gZ bs q→X.drop k=lQ q∧q.al.length≤32:=λq h=>by
    rw[ak (by omega)]at hn;refine⟨by rw[(ur q h).1,hn];rfl,?_⟩;rcases EO h with k | k
    ·exact k.2.2.2.2.1
    ·rw[k.2.2.2.2.1];simp
   refine IF 7 E I (λeO a E=>?_) λeO a E=>?_
   ·
    have bQ:ep bs=none:=nC λ⟨q,h⟩=>by
     have:=congrArg List.length (gX q h).1;rw[lQ,aL,mv,c3]at this;omega
    refine SA 2 E I λa w E I=>?_;refine RT 1 E I ?_;exact ry I.tail.tail.tail bQ
   have oj:k+4≤X.length:=by omega
   refine RN 3 E I λa E=>?_;refine aO (λμ a w=>∃ (j:Nat),(μ=4-j∧j≤4)∧Fr a 153 [(0,.slice (some ⟨bb,oo,none⟩) bs.length c),(2,pt b2),(4,.slice (some ⟨mn,ox,none⟩) X.length eM),(5,pt b5),(7,.int .i64 k),(13,.int .i64 j)]∧U W w (aa b5 203 [.int .i64 ((bs.getD 0 0).toNat:Int),.int .i64 ((bs.getD 1 0).toNat:Int),.int .i64 ((bs.getD 2 0).toNat:Int),.int .i64 (g 0),.int .i64 (g 1),.slice none 0 0,.int .i64 (g 2),.int .i64 (g 3),.int .u32 (mw ((X.drop k).take j):Nat)]::aa b2 203 (dK mX none 0)::L)) (4) (⟨0,⟨rfl,by omega⟩,E.ab [0,2,4,5,7,13],(I.perm (List.Perm.swap _ _ _)).tail⟩) ?_;clear E I;rintro μ a w ⟨j,⟨rfl,hj⟩,E,I⟩;refine IF 4 E I (λmS a E=>?_) λmS a E=>?_
   ·
    have hj4:j<4:=by omega
    have xz:k+j<X.length:=by omega
    have nm:=Av ((X.drop k).take j) 3 (by rw[ef];omega);rw[show (256:Nat) ^ 3=16777216 from by decide]at nm;have eh:j<(X.drop k).length:=by rw[c3];omega
    have jE:=Kq eh;rw[show (X.drop k)[j]=X[k+j] from List.getElem_drop ..]at jE;have ql:=lp X[k+j];refine aX 1 (λw0 w'=>w'.cell? ⟨b5,8,none⟩=some (.int .u32 (mw ((X.drop k).take j):Nat))∧Rd w' mn ox (bc X)) [8,9] [0,3,4,5,6,7,3001,2,1008,1009,10,11,1012] E I λa w E I hH=>?_;have hC:=hH.at w ⟨I.bz rfl,(hr.rd _ I.tail.tail).rd (by omega)⟩;refine RH 6 E I hH hC λa E=>?_;refine QH E (λw hc=>ae E (hc.1)) hC λa E=>?_;refine RH 1 E I hH hC λa E=>?_;rw[show IntKind.u32.wrap (((mw ((X.drop k).take j):Nat):Int)*256)=((mw ((X.drop k).take j)*256:Nat):Int) from by rw[wrap_u32];omega]at E;refine SS E (ae E (hC.2 (k+j) _ (dJ xz))) λa E=>?_;refine RH 0 E I hH hC λa E=>?_;refine SX 0 E I (by rw[wrap_u32];omega) λa E=>?_;refine RH 1 E I hH hC λa E=>?_;rw[show IntKind.u32.wrap (((mw ((X.drop k).take j)*256:Nat):Int)+(X[k+j].toNat:Int))=((mw ((X.drop k).take (j+1)):Nat):Int) from by rw[wrap_u32,jE];omega]at E;refine RH 1 E I hH hC λa E=>?_;refine ST 0 E I (λa w E I=>?_);refine RN 3 E I λa E=>?_;exact⟨4-(j+1),by omega,j+1,⟨rfl,by omega⟩,E.ab [0,2,4,5,7,13],I⟩
   obtain rfl:j=4:=by omega
   have qj:=hr.cut oj;have hl4:=qj.len;have lR:=Av ((X.drop k).take 4) 4 (by rw[ef];omega);rw[show (256:Nat) ^ 4=4294967296 from by decide]at lR;have b9:∀ q,gZ bs q→q.sum=mw ((X.drop k).take 4)∧X.drop (k+4)=aP (zz (q.al.length:Int))++dw q.al 0∧q.al.length≤32:=λq h=>by
    obtain⟨h1,h2⟩:=gX q h;rw[← drop_drop,h1,lQ];exact⟨(Kp h.2.1).symm,rfl,h2⟩
   generalize mw ((X.drop k).take 4)=AB at I lR b9;refine RN 8 E I λa E=>?_;rw[show X.length-(k+4)=(X.drop (k+4)).length from by simp]at E;refine jN 0 E I (Ep (bs:=X.drop (k+4)) I (by omega) (λw' hw=>qj.rd w' hw.tail.tail)) λx m er a w E ⟨mR,I⟩=>?_;refine BY 12 E I (λbD a E=>?_) λbD a E=>?_
   ·
    refine SA 10 E I λa w E I=>?_;refine RT 1 E I ?_;have bQ:ep bs=none:=nC λ⟨q,h⟩=>by
     obtain⟨_,e2,AD⟩:=b9 q h;have:=(mR.2.2.2.2 (q.al.length:Int) _ (by omega) (by omega) e2).2.2;simp[this]at bD
    exact ry I.tail.tail bQ
   refine BY 4 E I (λjV a E=>?_) λjV a E=>?_
   ·
    refine SA 6 E I λa w E I=>?_;refine RT 1 E I ?_;have bQ:ep bs=none:=nC λ⟨q,h⟩=>by
     obtain⟨_,e2,AD⟩:=b9 q h;have:=(mR.2.2.2.2 (q.al.length:Int) _ (by omega) (by omega) e2).1;omega
    exact ry I.tail.tail bQ
   refine IF 3 E I (λmj a E=>?_) λmj a E=>?_
   ·
    refine SA 2 E I λa w E I=>?_;refine RT 1 E I ?_;have bQ:ep bs=none:=nC λ⟨q,h⟩=>by
     obtain⟨_,e2,AD⟩:=b9 q h;have:=(mR.2.2.2.2 (q.al.length:Int) _ (by omega) (by omega) e2).1;omega
    exact ry I.tail.tail bQ
   refine RN 1 E I λa E=>?_;have l6:=(mR.2.2.1 (by simpa using bD)).2;rw[c3]at l6;have sU:=hr.cut (k:=k+4+m) (by omega);refine RN 5 E I λa E=>?_;rw[show X.length-(k+4+m)=(X.drop (k+4+m)).length from by simp]at E;refine jO 0 E I (XH (m:=32) (bs:=X.drop (k+4+m)) I sU.len sU.cap (by omega) (λw' hw=>sU.rd w' hw.tail.tail)) ?_;clear E I;rintro e w ⟨out,aq,cO,e2,rfl,nn,I⟩;refine⟨_,rfl,λa E=>?_⟩;refine RN 5 E I λa E=>?_;have l8:∀ q,gZ bs q→out=q.al∧e2=0:=λq h=>by
    obtain⟨_,e2,AD⟩:=b9 q h;obtain⟨f1,f2,f3⟩:=mR.2.2.2.2 (q.al.length:Int) _ (by omega) (by omega) e2;refine nn.2.2 q.al AD ?_;rw[← drop_drop,e2,f2,drop_left]
   refine IF 4 E I (λml a E=>?_) λml a E=>?_
   ·
    refine SA 2 E I λa w E I=>?_;refine RT 1 E I ?_;have bQ:ep bs=none:=nC λ⟨q,h⟩=>by
     have:=(l8 q h).2;omega
    exact ry I.tail.tail.tail bQ
   refine ST 2 E I (λa w E I=>?_);refine RN 0 E I λa E=>?_;refine⟨⟨((bs.getD 0 0).toNat:Int),((bs.getD 1 0).toNat:Int),((bs.getD 2 0).toNat:Int),g 0,g 1,g 2,g 3,AB,out⟩,aq,cO,lR,λq h=>?_,E.ab [0,2,5],I⟩;obtain⟨h1,h2,h3⟩:=(lN q h).1;have h4:=(ur q h).2;rw[ak (by omega)]at hn;rw[h4 0 (by omega),h4 1 (by omega),h4 2 (by omega),h4 3 (by omega),← h1,← h2,← h3,(l8 q h).1,← (b9 q h).1];rfl
  refine RN 0 E I λa E=>?_;refine⟨⟨((bs.getD 0 0).toNat:Int),((bs.getD 1 0).toNat:Int),((bs.getD 2 0).toNat:Int),g 0,g 1,g 2,g 3,0,[]⟩,none,0,(by show 0<4294967296;decide),λq h=>?_,E.ab [0,2,5],(((I.perm (List.Perm.swap _ _ _)).tail.bN 5 1 none)).perm (List.Perm.swap _ _ _)⟩;obtain⟨h1,h2,h3⟩:=(lN q h).1;have h4:=(ur q h).2;rw[ag (by omega)]at hn;rcases EO h with k | k
  ·omega
  ·obtain⟨sX,k1,k2,k3,k4,yg⟩:=k;have h5:=h4 0 (by omega);have h6:=AA 1 (by omega);have h7:=AA 2 (by omega);have h8:=AA 3 (by omega);rw[h5,h6,h7,h8,← h1,← h2,← h3];show Pk.mk q.kind q.aW q.to q.id 0 0 0 0 []=q;cases q;simp_all
 clear E;(try clear I);rintro a w ⟨p,adP,cP,lR,Kz,E,I⟩;refine aX 1 (λw0 w'=>Rd w' b5 0 (dK p adP cP)∧aT w' (some ⟨bb,oo,none⟩) bs.length bs) [1,2,3,5,6,7] [4,3000,3001,3005,1002,2003,3006,1007,8] E I λa w E I hH=>?_;have hC:=hH.at w ⟨I.ai,hp _ I.tail.tail.tail⟩;refine RH 1 E I hH hC λa E=>?_;refine QH E (λw hc=>bR E underlying203 rfl Ty.t203 (hc.1)) hC λa E=>?_;refine QH E (λw hc=>bR E underlying203 rfl Ty.t203 (hc.1)) hC λa E=>?_;refine QH E (λw hc=>ld E underlying22 underlying5 underlying9 (hc.2)) hC λa E=>?_;refine RH 0 E I hH hC λa E=>?_;refine aY 0 E I (EJ (p:=p) I lR (λw' hw=>hw.cr adP p.al rfl rfl)) λadE cE a w E I=>?_;replace hC:=hH.at w ⟨I.ai,hp _ I.tail.tail.tail.tail⟩;refine RH 0 E I hH hC λa E=>?_;refine DN [(3,[3006,1007,8]),(7,[1003,3006,8])] (by kernel_rfl) rfl ⟨⟨_,rfl,?_⟩,⟨_,rfl,?_⟩,trivial⟩
 ·
  refine RH 0 E I hH hC λa E=>?_;refine SS E (ld E underlying22 underlying5 underlying9 ((I.cr adE (aR p) rfl rfl))) λa E=>?_;refine RH 0 E I hH hC λa E=>?_;refine QH E (λw hc=>r5 E) hC λa E=>?_;refine RH 0 E I hH hC λa E=>?_;refine SA 0 E I λa w E I=>?_;replace hC:=hH.at w ⟨I.ai,hp _ I.tail.tail.tail.tail⟩;refine RH 1 E I hH hC λa E=>?_;refine RT 0 E I ?_;refine⟨p,adP,cP,_,rfl,λh=>?_,λh=>?_,I.sub⟩
  ·rw[p5]at h;exact Aq ((En (λe=>by rw[e]at h7;simp at h7) lR).2 (by simpa using h))
  ·refine nC λ⟨q,hd⟩=>?_;have e:aR p=bs:=by rw[Kz q hd,aR,ak hd.1];exact hd.2.2
   rw[e,p5]at h;simp at h
 refine RH 0 E I hH hC λa E=>?_;refine SA 0 E I λa w E I=>?_;replace hC:=hH.at w ⟨I.ai,hp _ I.tail.tail.tail.tail⟩;refine RH 0 E I hH hC λa E=>?_;refine SS E (ld E underlying22 underlying5 underlying9 ((I.cr adE (aR p) rfl rfl))) λa E=>?_;refine RH 0 E I hH hC λa E=>?_;refine QH E (λw hc=>r5 E) hC λa E=>?_;refine RH 1 E I hH hC λa E=>?_;refine RT 0 E I ?_;refine⟨p,adP,cP,_,rfl,λh=>?_,λh=>?_,I.sub⟩
 ·rw[p5]at h;exact Aq ((En (λe=>by rw[e]at h7;simp at h7) lR).2 (by simpa using h))
 ·refine nC λ⟨q,hd⟩=>?_;have e:aR p=bs:=by rw[Kz q hd,aR,ak hd.1];exact hd.2.2
  rw[e,p5]at h;simp at h
end
end
section
section
variable {W w:World}{L:List SP}{c:Nat}{ad:Option Addr}{g:Nat→Int}
theorem yh (I:U W w L):Calls prog 177 #[.agg (ints .i32 32 g).toArray] w λe w'=>∃ ad c,e=.returned (.slice ad 128 c)∧U W w' (Sl 5 1 ad 128 c (bc (gm g))::L):=by
 refine EN func177 ntmps177 rfl rfl λa E=>?_;refine BX 1 E I λb1 a w E I=>?_;refine RN 7 E I λa E=>?_;refine aO (λμ a w=>∃ (i:Nat) (ad:Option Addr) (c:Nat),(μ=32-i∧i≤32)∧Fr a 16 [(3,.slice ad (lO g i).length c),(6,.agg (ints .i32 32 g).toArray),(7,.int .i64 i)]∧U W w (Sl 5 1 ad (lO g i).length c (bc (lO g i))::L)) (32) (⟨0,none,0,⟨rfl,by omega⟩,E.ab [3,6,7],I.tail.bN 5 1 none⟩) ?_;clear E I;rintro μ a w ⟨i,ad,c,⟨rfl,hi⟩,E,I⟩;refine IF 3 E I (λaj a E=>?_) λaj a E=>?_
 ·
  have ER:i<32:=by omega
  have qq:=rf g i;refine RN 2 E I λa E=>?_;refine SS E (r7 E underlying183 underlying21 rfl Ty.t21 (by omega) (fM g ER)) λa E=>?_;refine bh 3 E I (Xi I) λad2 a w E I=>?_;refine RN 0 E I λa E=>?_;refine gY E rfl I underlying22 Ty.t5 rfl rfl (by decide) (λh0=>(I.cr ad2 (fc (po (g i))) rfl rfl).get h0) (by rw[dk];rfl) (en _) (by rw[mv];omega) λafh c13 a w E I=>?_;rw[← fF,← D7]at I;rw[show (lO g i).length+(fc (po (g i))).length=(lO g (i+1)).length from by rw[rf,rf,mv];omega]at E I;refine RN 3 E I λa E=>?_;exact⟨32-(i+1),by omega,i+1,_,_,⟨rfl,by omega⟩,E.ab [3,6,7],I.sub⟩
 obtain rfl:i=32:=by omega
 rw[show (lO g 32).length=128 from rf g 32]at E I;refine RT 3 E I ?_;exact⟨_,_,rfl,I⟩
theorem Yg (I:U W w L):Calls prog 139 #[.agg (ints .i32 32 g).toArray] w λe w'=>e=.returned (.int .u32 (ji (gm g)))∧U W w' L:=by
 refine EN func139 ntmps139 rfl rfl λa E=>?_;refine BX 1 E I λb1 a w E I=>?_;refine aY 3 E I (yh I) λad c a w E I=>?_;rw[show 128=(gm g).length from (uj g).symm]at E I;refine CL 0 E I (JX I (by rw[uj];decide) (λw' hw=>hw.cr ad (gm g) rfl rfl)) λa w E I=>?_;refine RT 1 E I ?_;exact⟨rfl,I.sub⟩
theorem uu (I:U W w L):Calls prog 115 #[.agg (ints .i32 32 g).toArray] w λe w'=>∃ ad c,e=.returned (.slice ad 128 c)∧U W w' (Sl 5 1 ad 128 c (bc (gm g))::L):=by
 refine EN func115 ntmps115 rfl rfl λa E=>?_;refine BX 1 E I λb1 a w E I=>?_;refine RN 6 E I λa E=>?_;refine aO (λμ a w=>∃ (i:Nat) (ad:Option Addr) (c:Nat),(μ=32-i∧i≤32)∧Fr a 17 [(1,pt b1),(3,.slice ad (lO g i).length c),(4,.int .i64 i)]∧U W w (Sl 5 1 ad (lO g i).length c (bc (lO g i))::aa b1 49 (ints .i32 32 g)::L)) (32) (⟨0,none,0,⟨rfl,by omega⟩,E.ab [1,3,4],I.bN 5 1 none⟩) ?_;clear E I;rintro μ a w ⟨i,ad,c,⟨rfl,hi⟩,E,I⟩;refine IF 4 E I (λaj a E=>?_) λaj a E=>?_
 ·
  have ER:i<32:=by omega
  have qq:=rf g i;refine RN 4 E I λa E=>?_;refine SS E (ae E (I.bz (b:=b1) (fM g ER))) λa E=>?_;refine RN 0 E I λa E=>?_;refine SS E (gb E underlying21 underlying100) λa E=>?_;rw[JW]at E;refine bh 0 E I (Ea I) λad2 a w E I=>?_;refine RN 0 E I λa E=>?_;refine gY E rfl I underlying22 Ty.t5 rfl rfl (by decide) (λh0=>(I.cr ad2 (fc (po (g i))) rfl rfl).get h0) (by rw[dk];rfl) (en _) (by rw[mv];omega) λKA KB a w E I=>?_;rw[← fF,← D7]at I;rw[show (lO g i).length+(fc (po (g i))).length=(lO g (i+1)).length from by rw[rf,rf,mv];omega]at E I;refine RN 4 E I λa E=>?_;exact⟨32-(i+1),by omega,i+1,_,_,⟨rfl,by omega⟩,E.ab [1,3,4],I.sub⟩
 obtain rfl:i=32:=by omega
 rw[show (lO g 32).length=128 from rf g 32]at E I;refine RT 3 E I ?_;exact⟨_,_,rfl,(I.perm (List.Perm.swap _ _ _)).tail⟩
theorem Yh (I:U W w L):Calls prog 106 #[.agg (ints .i32 32 g).toArray] w λe w'=>e=.returned (.int .u32 (ji (gm g)))∧U W w' L:=by
 refine EN func106 ntmps106 rfl rfl λa E=>?_;refine BX 1 E I λb1 a w E I=>?_;refine aY 3 E I (uu I) λad c a w E I=>?_;rw[show 128=(gm g).length from (uj g).symm]at E I;refine CL 0 E I (JY I (by rw[uj];decide) (λw' hw=>hw.cr ad (gm g) rfl rfl)) λa w E I=>?_;refine RT 1 E I ?_;exact⟨rfl,I.sub⟩
end
end
section
def dr (l:List UInt8)(f:Nat)(b:List UInt8):List UInt8:=if l.length<f then l else l++(b.drop (l.length-f)).take (1000-l.length)
theorem rz {l:List UInt8}{f:Nat}{b:List UInt8}(h:l.length≤1000):l.length≤(dr l f b).length∧(dr l f b).length≤1000:=by
 unfold dr;split
 ·omega
 ·rw[aL,ef];omega
theorem KC {l b:List UInt8}{f i:Nat}(hf:f≤l.length)(hi:i<b.length)(h1:l.length-f≤i)(h2:l.length+(i-(l.length-f))<1000) :
   l++(b.drop (l.length-f)).take (i+1-(l.length-f))=(l++(b.drop (l.length-f)).take (i-(l.length-f)))++[b[i]]:=by
 rw[show i+1-(l.length-f)=(i-(l.length-f))+1 from by omega,du]
 congr 1
 rw[iZ (by rw[c3];omega)]
 congr 2
 rw[List.getElem_drop]
 congr 1
 omega
def iC (ls:List (List UInt8)):Nat→Nat
 | 0=>(ls.headD []).length
 | i+1=>min (iC ls i) (ls.getD i []).length
def aV (ls:List (List UInt8)):Nat:=iC ls ls.length
theorem Yi (ls:List (List UInt8)):iC ls 1=iC ls 0:=by
 rw[iC,iC];cases ls <;> simp[iC]
theorem KD {ls:List (List UInt8)}:∀ {i j:Nat},j<i→iC ls i≤(ls.getD j []).length
 | 0,_,h=>absurd h (by omega)
 | i+1,j,h=>by
  rw[iC];by_cases hj:j=i
  ·subst hj;exact Nat.min_le_right _ _
  ·exact fA (Nat.min_le_left _ _) (KD (by omega))
theorem wm {ls:List (List UInt8)}{l:List UInt8}(h:l∈ls):aV ls≤l.length:=by
 obtain⟨i,hi,rfl⟩:=List.getElem_of_mem h;have:=KD (ls:=ls) (i:=ls.length) hi
 rwa [bl,aD hi]at this
theorem KE (ls:List (List UInt8)):∀ i,i≤ls.length→ls≠[]→∃ l∈ls,iC ls i=l.length
 | 0,_,h=>by
  cases ls with
  | nil=>exact absurd rfl h
  | cons a r=>exact⟨a,by simp,rfl⟩
 | i+1,hi,h=>by
  obtain⟨l,hl,e⟩:=KE ls i (by omega) h;rw[iC];rcases Nat.le_total (iC ls i) (ls.getD i []).length with h1 | h1
  ·rw[Nat.min_eq_left h1];exact⟨l,hl,e⟩
  ·rw[Nat.min_eq_right h1,bl,aD (by omega)];exact⟨ls[i],getElem_mem _,rfl⟩
theorem AE {ls:List (List UInt8)}(h:ls≠[]):∃ l∈ls,aV ls=l.length:=KE ls _ (bd _) h
theorem ES {ls:List (List UInt8)}{n:Nat}(h:ls≠[])(hn:∀ l∈ls,n≤l.length):n≤aV ls:=by
 obtain⟨l,hl,e⟩:=AE h;rw[e];exact hn l hl
def fu (ls:List (List UInt8))(f i:Nat):List UInt8:=(ls.take i).map (·.getD f 0)
def bI (ls:List (List UInt8))(f:Nat):List UInt8:=ls.map (·.getD f 0)
theorem AF (ls:List (List UInt8))(f:Nat):fu ls f ls.length=bI ls f:=by rw[fu,take_length,bI]
theorem AG {ls:List (List UInt8)}{f i:Nat}(h:i<ls.length):fu ls f (i+1)=fu ls f i++[ls[i].getD f 0]:=by
 rw[fu,iZ h,cW];rfl
theorem sY {ls:List (List UInt8)}{f i:Nat}(h:i≤ls.length):(fu ls f i).length=i:=by
 rw[fu,a8,ef];omega
theorem m3 (ls:List (List UInt8))(f:Nat):(bI ls f).length=ls.length:=by rw[bI,a8]
structure Gs where
 kind:Int
 order:Int
 table:List UInt8
def cX (b:Gs):Prop:=(b.kind=1∧b.order=0∧b.table.length=0)∨(b.kind=2∧0≤b.order∧b.order≤3∧b.table.length=0)∨(b.kind=3∧b.order=0∧1≤b.table.length∧b.table.length≤1000)
instance (b:Gs):Decidable (cX b):=inferInstanceAs (Decidable (_∨_))
def yi (o:Nat)(past:List UInt8)(i:Nat):Bool:=(past.drop (i-o)).take o==past.drop (past.length-o)
def g2 (o:Nat)(past:List UInt8):Nat→Nat→Int
 | 0=>λ_=>0
 | i+1=>if o≤i∧yi o past i=true then cg (g2 o past i) (past.getD i 0).toNat (g2 o past i (past.getD i 0).toNat+1) else g2 o past i
theorem yj {o:Nat}{past:List UInt8}:∀ {i:Nat},i≤o→g2 o past i=λ_=>0
 | 0,_=>rfl
 | i+1,h=>by rw[g2,ag (by omega),yj (by omega)]
theorem AH (o:Nat)(past:List UInt8):∀ (i v:Nat),0≤g2 o past i v∧g2 o past i v≤i
 | 0,v=>⟨Int.le_refl _,Int.le_refl _⟩
 | i+1,v=>by
  have h:=AH o past i v;have h2:=AH o past i (past.getD i 0).toNat;rw[g2];split
  ·unfold cg;split <;> omega
  ·omega
def gE (b:Gs)(past:List UInt8):Nat→Int:=if b.kind=2 then g2 b.order.toNat past past.length else λ_=>0
def ik (past:List UInt8):UInt8:=past.getLastD 0
def lS (w:Nat→Int)(last:Nat):Nat→Nat
 | 0=>last
 | i+1=>if w (lS w last i)<w i then i else lS w last i
theorem ET {w:Nat→Int}{last:Nat}(hl:last<256):∀ {i:Nat},i≤256→lS w last i<256
 | 0,_=>hl
 | i+1,h=>by
  rw[lS];split
  ·omega
  ·exact ET hl (by omega)
theorem KF {w:Nat→Int}{last:Nat}:∀ {i:Nat},(∀ v,v<i→w v≤w last)→lS w last i=last
 | 0,_=>rfl
 | i+1,h=>by
  have ih:=KF (i:=i) λv hv=>h v (by omega);rw[lS,ih,ag];have:=h i (by omega);omega
theorem KG {w:Nat→Int}{last x:Nat}(h0:w last<w x)(h1:∀ v,v<x→w v<w x):∀ {i:Nat},(∀ v,v<i→w v≤w x)→(i≤x→w (lS w last i)<w x)∧(x<i→lS w last i=x)
 | 0,_=>⟨λ_=>h0,λh=>absurd h (by omega)⟩
 | i+1,h=>by
  have ih:=KG h0 h1 (i:=i) λv hv=>h v (by omega);rw[lS];refine⟨λhi=>?_,λhi=>?_⟩
  ·have:=ih.1 (by omega);have:=h1 i (by omega);split <;> assumption
  ·by_cases hx:x=i
   ·subst hx;rw[ak (ih.1 (by omega))]
   ·rw[ih.2 (by omega),ag];have:=h i (by omega);omega
def m4 (b:Gs)(past:List UInt8):UInt8:=if b.kind=3 then b.table.getD (past.length%b.table.length) 0 else UInt8.ofNat (lS (gE b past) (ik past).toNat 256)
def ed (b:Gs)(past:List UInt8):Nat→List UInt8
 | 0=>past
 | i+1=>ed b past i++[m4 b (ed b past i)]
theorem il (b:Gs)(past:List UInt8):∀ i,(ed b past i).length=past.length+i
 | 0=>rfl
 | i+1=>by rw[ed,aL,il b past i];rfl
theorem KH (b:Gs)(past:List UInt8):∀ i,(ed b past i).take past.length=past
 | 0=>take_length
 | i+1=>by
  rw[ed,List.take_append_of_le_length (by rw[il];omega),KH b past i]
def j3 (b:Gs)(past:List UInt8)(n:Nat):List UInt8:=(ed b past n).drop past.length
theorem EU (b:Gs)(past:List UInt8)(n:Nat):(j3 b past n).length=n:=by rw[j3,c3,il];omega
theorem uv (b:Gs)(past:List UInt8)(n:Nat):past++j3 b past n=ed b past n:=by
 conv=>lhs;lhs;rw[← KH b past n]
 rw[j3,jJ]
theorem Yj (b:Gs)(past:List UInt8)(n:Nat):j3 b past (n+1)=j3 b past n++[m4 b (past++j3 b past n)]:=by
 rw[uv,j3,ed,List.drop_append_of_le_length (by rw[il];omega)];rfl
def nD (b:Gs)(past:List UInt8)(to:Nat):List UInt8:=ed b past (to-past.length)
def iQ (b:Gs)(ls:List (List UInt8))(to:Nat):List (List UInt8):=ls.map λl=>nD b l to
theorem Yk (b:Gs)(past:List UInt8)(to:Nat):to≤(nD b past to).length:=by rw[nD,il];omega
def ds (b:Gs)(ls:List (List UInt8))(to:Nat):List (List UInt8):=(List.range (to-aV ls)).map λi=>bI (iQ b ls to) (aV ls+i)
theorem wo (b:Gs)(ls:List (List UInt8))(to:Nat):(ds b ls to).length=to-aV ls:=by simp[ds]
end
section
abbrev Lx:=Nat×List UInt8
def Ln (x:Lx):SP:=λh=>∃ (ad:Option Addr) (c:Nat),cj [aa x.1 328 [.slice ad x.2.length c],Sl 5 1 ad x.2.length c (bc x.2)] h
section
variable {W w:World}{L L' R:List SP}{n c m lb:Nat}{ad:Option Addr}{l bs:List UInt8}{x:UInt8}
theorem Ln.open (I:U W w (Ln (lb,l)::L)):∃ (ad:Option Addr) (c:Nat),U W w (aa lb 328 [.slice ad l.length c]::Sl 5 1 ad l.length c (bc l)::L):=by
 obtain⟨ad,_,I⟩:=I.jv (p:=λ_=>True) (B:=λad h=>∃ c,cj [aa lb 328 [.slice ad l.length c],Sl 5 1 ad l.length c (bc l)] h) λ_ ⟨ad,c,h⟩=>⟨ad,trivial,c,h⟩;obtain⟨c,_,I⟩:=I.jv (p:=λ_=>True) (B:=λc h=>cj [aa lb 328 [.slice ad l.length c],Sl 5 1 ad l.length c (bc l)] h) λ_ ⟨c,h⟩=>⟨c,trivial,h⟩;exact⟨ad,c,I.open (M:=[_,_]) λ_ h=>h⟩
theorem Ln.close (I:U W w (aa lb 328 [.slice ad l.length c]::Sl 5 1 ad l.length c (bc l)::L)):U W w (Ln (lb,l)::L) :=
 U.shut (M:=[_,_]) I λ_ h=>⟨ad,c,h⟩
theorem Ln.mk' (I:U W w L)(ad:Option Addr)(c:Nat)[k:fC L (aa lb 328 [.slice ad l.length c]::Sl 5 1 ad l.length c (bc l)::L') R]:U W w (Ln (lb,l)::L'):=Ln.close (ad:=ad) (c:=c) I.sub
theorem Yl (d:Nat):(madeCells (Value.int .u8 0).cells (d*1)).toList=bc (List.replicate d 0):=by
 apply ext_getElem?;intro i;by_cases h:i<d
 ·rw[dJ (by simpa using h)];rw[madeCells,Array.getElem?_toList,Array.getElem?_map,Array.getElem?_range];simp[h,Value.cells,Nat.mod_one]
 ·rw[iU (by simp[madeCells];omega),iU (by rw[dk];simp;omega)]
theorem U.KI {b e sz m:Nat}{cs:List Value}(I:U W w (aa b e cs::L))(h:cs.length=m*sz):U W w (Sl e sz (some ⟨b,0,none⟩) m m cs::L) :=
 U.iJ (pre:=[]) (post:=[]) (n:=m) (c:=m) (sz:=sz) (cs:=cs) (by simpa using I) h (bd _) (by rw[Nat.sub_self,Nat.zero_mul];exact Nat.zero_le _)
theorem aT.yk {w:World}{ad:Option Addr}{bs:List UInt8}{c lo n:Nat}(h:aT w ad bs.length bs)(hl:lo+n≤bs.length)(hc:bs.length≤c):aT w (fk ad lo c 1) n ((bs.drop lo).take n) :=
 (h.uh (lo:=lo) (by omega) hc).D5 (by rw[c3];omega)
theorem Ym {d:Nat}(I:U W w L)(hd:d≤8):Calls prog 168 #[.int .i64 d] w λe w'=>∃ lb,e=.returned (pt lb)∧U W w' (Ln (lb,List.replicate d 0)::L):=by
 refine EN func168 ntmps168 rfl rfl λa E=>?_;refine RN 6 E I λa E=>?_;rw[show min (max (d:Int) 0) 8=(d:Int) from by omega]at E;refine qO E rfl I underlying22 Ty.t5 rfl (by omega) (by omega) λcH a w E I ho=>?_;clear ho;rw[Yl]at I;replace I:=I.KI (m:=d) (sz:=1) (by rw[dk,kl,Nat.mul_one]);refine BX 1 E I λb8 a w E I=>?_;refine RN 1 E I λa E=>?_;replace I:U W w (aa b8 328 [.slice (some ⟨cH,0,none⟩) (List.replicate d (0:UInt8)).length d]::Sl 5 1 (some ⟨cH,0,none⟩) (List.replicate d (0:UInt8)).length d (bc (List.replicate d 0))::L):=by
  rw[kl];exact I
 refine RT 0 E I ?_;exact⟨b8,rfl,Ln.close I⟩
theorem AI (I:U W w (Ln (lb,l)::L)):Calls prog 172 #[pt lb] w λe w'=>e=.returned (.int .i64 l.length)∧U W w' (Ln (lb,l)::L):=by
 obtain⟨ad,c,I⟩:=Ln.open I;refine EN func172 ntmps172 rfl rfl λa E=>?_;refine RN 6 E I λa E=>?_;replace E:=E.aM 4;refine RT 8 E I ?_;exact⟨rfl,Ln.close I⟩
theorem KJ {f:Nat}(I:U W w (Ln (lb,l)::L)):Calls prog 173 #[pt lb,.int .i64 f] w λe w'=>e=.returned (.tuple #[.int .u8 ((l.getD f 0).toNat:Nat),.bool (decide (f<l.length))])∧U W w' (Ln (lb,l)::L):=by
 refine EN func173 ntmps173 rfl rfl λa E=>?_;refine RN 8 E I λa E=>?_;rw[bn (by omega)]at E;refine CL 2 E I (AI I) λa w E I=>?_;refine IF 2 E I (λaj a E=>?_) λaj a E=>?_
 ·
  refine RT 3 E I ?_;exact⟨by rw[bl,iU (by omega),bn (by omega)];rfl,I⟩
 obtain⟨ad,c,I⟩:=Ln.open I;have dY:f<l.length:=by omega
 obtain⟨b,o,rfl,hr⟩:=(I.cr ad l rfl rfl).get (by omega);refine RN 7 E I λa E=>?_;refine SS E (ae E (hr f _ (kV dY))) λa E=>?_;refine RT 2 E I ?_;exact⟨by rw[dh dY],Ln.close I⟩
theorem KK (I:U W w (Ln (lb,l)::L))(hl:l.length≤1000):Calls prog 314 #[pt lb,.int .u8 (x.toNat:Nat)] w λe w'=>e=.returned (.int .i64 (if l.length<1000 then 0 else 4))∧U W w' (Ln (lb,if l.length<1000 then l++[x] else l)::L):=by
 obtain⟨ad,c,I⟩:=Ln.open I;refine EN func314 ntmps314 rfl rfl λa E=>?_;refine RN 7 E I λa E=>?_;replace E:=E.aM 5;refine IF 9 E I (λao a E=>?_) λao a E=>?_
 ·
  refine RT 2 E I ?_;exact⟨by rw[ag (by omega)],by rw[ag (by omega)];exact Ln.close I⟩
 refine RN 7 E I λa E=>?_;refine cn E rfl I underlying22 Ty.t5 rfl rfl rfl rfl (by decide) (by decide) λb21 a w E I ho=>?_;clear ho;refine RN 0 E I λa E=>?_;refine cK E rfl I underlying22 Ty.t5 rfl rfl I.ai rfl (en [x]) (by decide) (by decide) (by omega) λKL KM a w E I=>?_;rw[show bc l++_=bc (l++[x]) from (fF l [x]).symm]at I;refine ST 2 E I (λa w E I=>?_);refine RN 0 E I λa E=>?_;rw[show l.length+1=(l++[x]).length from by simp]at I;replace I:=I.sub (M:=aa lb 328 [.slice KL (l++[x]).length KM]::Sl 5 1 KL (l++[x]).length KM (bc (l++[x]))::L);refine RT 2 E I ?_;exact⟨by rw[ak (by omega)],by rw[ak (by omega)];exact Ln.close I⟩
theorem Yn {f:Nat}(I:U W w (Ln (lb,l)::L))(hl:l.length≤1000)(hb:bs.length≤65536)(hp:∀ w',U W w' L→aT w' ad bs.length bs) :
   Calls prog 318 #[pt lb,.int .i64 f,.slice ad bs.length c] w λe w'=>∃ n er:Int,e=.returned (.tuple #[.int .i64 n,.int .i64 er])∧U W w' (Ln (lb,dr l f bs)::L):=by
 refine EN func318 ntmps318 rfl rfl λa E=>?_;refine RN 8 E I λa E=>?_;replace E:=E.aM 11;refine RN 5 E I λa E=>?_;rw[bn (by omega)]at E;refine RN 2 E I λa E=>?_;obtain⟨g3,cl,I⟩:=Ln.open I;refine IF 8 E I (λay a E=>?_) λay a E=>?_
 ·
  replace I:=Ln.close I;refine RT 3 E I ?_;exact⟨_,_,rfl,by rw[dr,ak (by omega)];exact I⟩
 refine RN 11 E I λa E=>?_;rw[show ((l.length:Nat):Int)-(f:Int)=((l.length-f:Nat):Int) from by omega]at E;refine RN 1 E I λa E=>?_;replace I:=Ln.close I;have dY:f≤l.length:=by omega
 refine aO (λμ a w=>∃ (i:Nat),(μ=bs.length-i∧l.length-f≤i∧(i≤bs.length∨i=l.length-f)∧l.length+(i-(l.length-f))≤1000)∧Fr a 51 [(0,pt lb),(2,.slice ad bs.length c),(8,.int .i64 (i-(l.length-f):Nat)),(9,.int .i64 i)]∧U W w (Ln (lb,l++(bs.drop (l.length-f)).take (i-(l.length-f)))::L)) (bs.length-(l.length-f)) (⟨l.length-f,⟨rfl,bd _,.inr rfl,by omega⟩,by rw[Nat.sub_self];exact E.ab [0,2,8,9],by rw[Nat.sub_self,take_zero,append_nil];exact I⟩) ?_;clear E I;rintro μ a w ⟨i,⟨rfl,hi,hib,k7⟩,E,I⟩;refine IF 6 E I (λbk a E=>?_) λbk a E=>?_
 ·
  obtain⟨bb,oo,rfl,hr⟩:=(hp _ I.tail).get (by omega);have aH:i<bs.length:=by omega
  have hlen:(l++(bs.drop (l.length-f)).take (i-(l.length-f))).length=l.length+(i-(l.length-f)):=by rw[aL,ef,c3];omega
  refine RN 7 E I λa E=>?_;refine SS E (ae E (hr i _ (dJ aH))) λa E=>?_;refine CL 0 E I (KK I (by rw[hlen];omega)) λa w E I=>?_;rw[hlen]at E I;refine IF 4 E I (λbL a E=>?_) λbL a E=>?_
  ·
   have h9:¬ l.length+(i-(l.length-f))<1000:=λh=>bL (ak h);rw[ag h9]at I;refine RT 5 E I ?_;exact⟨_,_,rfl,by rw[dr,ag (by omega),show 1000-l.length=i-(l.length-f) from by omega];exact I⟩
  have h9:l.length+(i-(l.length-f))<1000:=Decidable.of_not_not λh=>by rw[ag h]at bL;cases bL
  rw[ak h9]at I;refine RN 6 E I λa E=>?_;exact⟨bs.length-(i+1),by omega,i+1,⟨rfl,by omega,by omega,by omega⟩,by rw[show ((i+1-(l.length-f):Nat):Int)=((i-(l.length-f):Nat):Int)+1 from by omega];exact E.ab [0,2,8,9],by rw[KC dY aH hi h9];exact I⟩
 refine RT 4 E I ?_;exact⟨_,_,rfl,by rw[dr,ag (by omega),fZ (by rw[c3];omega)];rw[fZ (by rw[c3];omega)]at I;exact I⟩
theorem KN {f k:Nat}(I:U W w (Ln (lb,l)::L))(hl:l.length≤1000)(hf:f≤1000)(hk:1≤k∧k≤1000) :
   Calls prog 309 #[pt lb,.int .i64 f,.int .i64 k] w λe w'=>∃ av c',e=.returned (.slice av ((l.drop f).take k).length c')∧U W w' (Sl 5 1 av ((l.drop f).take k).length c' (bc ((l.drop f).take k))::Ln (lb,l)::L):=by
 have eG:((l.drop f).take k).length=min l.length (f+k)-f:=by rw[ef,c3];omega
 refine EN func309 ntmps309 rfl rfl λa E=>?_;refine RN 7 E I λa E=>?_;rw[bn (by omega)]at E;refine CL 2 E I (AI I) λa w E I=>?_;refine BY 3 E I (λfa a E=>?_) λfa a E=>?_
 ·
  have hz:(l.drop f).take k=[]:=by rw[drop_eq_nil_of_le (by omega),List.take_nil]
  refine RT 6 E I ?_;rw[hz];exact⟨_,_,rfl,I.bN _ _ none⟩
 refine RN 3 E I λa E=>?_;rw[bn (by omega)]at E;refine RN 2 E I λa E=>?_;obtain⟨g3,cl,I⟩:=Ln.open I;have ck:=(I.sl g3).2;refine bP 0 [8,9,14] [0,1,2,4,5,6,7,10,11,12,13,3003,1008,1009,1014,15,1016,17] E I λa w E I hH hC=>?_;refine RH 10 E I hH hC λa E=>?_;rw[show min (k:Int) 1000=(k:Int) from by omega]at E;refine RH 5 E I hH hC λa E=>?_;rw[show min (l.length:Int) ((f:Int)+(k:Int))=((min l.length (f+k):Nat):Int) from by omega]at E;refine RH 1 E I hH hC λa E=>?_;refine aY 0 E I (se (bs:=(l.drop f).take k) I (λw' hw=>by have h1:=(hw.cr g3 l rfl rfl).yk (c:=cl) (lo:=f) (n:=min l.length (f+k)-f) (by omega) ck;rw[show (l.drop f).take (min l.length (f+k)-f)=(l.drop f).take k from by rw[← eG,List.take_eq_take_iff,ef,c3];omega]at h1;exact h1) (by omega)) λfl dD a w E I=>?_;refine RN 1 E I λa E=>?_;refine RT 0 E I ?_;exact⟨fl,dD,by rw[eG],by rw[eG];exact (Ln.mk' (L':=Sl 5 1 fl (min l.length (f+k)-f) dD (bc ((l.drop f).take k))::L) I g3 cl).perm (List.Perm.swap _ _ _)⟩
theorem Yo (I:U W w (Ln (lb,l)::L))(hl:l.length≤1000) :
   Calls prog 293 #[pt lb] w λe w'=>∃ av c',e=.returned (.slice av l.length c')∧U W w' (Sl 5 1 av l.length c' (bc l)::Ln (lb,l)::L):=by
 have Yp:(l.drop 0).take 1000=l:=by rw[drop_zero,fZ hl]
 refine EN func293 ntmps293 rfl rfl λa E=>?_;refine aY 4 E I (KN (f:=0) (k:=1000) I hl (by decide) (by decide)) λfl dD a w E I=>?_;rw[Yp]at E I;refine RT 1 E I ?_;exact⟨_,_,rfl,I⟩
end
end
section
def j4 (x:Lx):Value:=pt x.1
def Qu (qb:Nat)(aB:List Nat)(ls:List (List UInt8)):SP:=λh=>∃ (ad:Option Addr) (c:Nat),aB.length=ls.length∧cj [aa qb 288 [.slice ad ls.length c],Sl 289 1 ad ls.length c ((aB.zip ls).map j4),ah Ln (aB.zip ls)] h
section
variable {W w:World}{L L' R:List SP}{n c qb lb i f:Nat}{ad:Option Addr}{ls:List (List UInt8)}{aB:List Nat}{l:List UInt8}{x:UInt8}
theorem Qu.open (I:U W w (Qu qb aB ls::L)):∃ (ad:Option Addr) (c:Nat),aB.length=ls.length∧U W w (aa qb 288 [.slice ad ls.length c]::Sl 289 1 ad ls.length c ((aB.zip ls).map j4)::ah Ln (aB.zip ls)::L):=by
 obtain⟨⟨ad,c⟩,hl,I⟩:=I.jv (ι:=Option Addr×Nat) (p:=λ_=>aB.length=ls.length) (B:=λy h=>cj [aa qb 288 [.slice y.1 ls.length y.2],Sl 289 1 y.1 ls.length y.2 ((aB.zip ls).map j4),ah Ln (aB.zip ls)] h) λ_ ⟨ad,c,hl,h⟩=>⟨(ad,c),hl,h⟩;exact⟨ad,c,hl,I.open (M:=[_,_,_]) λ_ h=>h⟩
theorem Qu.close (I:U W w (aa qb 288 [.slice ad ls.length c]::Sl 289 1 ad ls.length c ((aB.zip ls).map j4)::ah Ln (aB.zip ls)::L))(hl:aB.length=ls.length):U W w (Qu qb aB ls::L) :=
 U.shut (M:=[_,_,_]) I λ_ h=>⟨ad,c,hl,h⟩
theorem Qu.mk' (I:U W w L)(ad:Option Addr)(c:Nat)[k:fC L (aa qb 288 [.slice ad ls.length c]::Sl 289 1 ad ls.length c ((aB.zip ls).map j4)::ah Ln (aB.zip ls)::L') R](hl:aB.length=ls.length):U W w (Qu qb aB ls::L'):=Qu.close (ad:=ad) (c:=c) I.sub hl
theorem uw {aB:List Nat}{ls:List (List UInt8)}(hl:aB.length=ls.length){i:Nat}(h:i<ls.length):(aB.zip ls)[i]?=some (aB.getD i 0,ls.getD i []):=by
 rw[List.getElem?_zip_eq_some];simp only[bl];rw[aD h,aD (by omega)];exact⟨rfl,rfl⟩
def yl (qb:Nat)(aB:List Nat)(ls:List (List UInt8))(i:Nat):SP:=λh=>∃ (ad:Option Addr) (c:Nat),aB.length=ls.length∧cj [aa qb 288 [.slice ad ls.length c],Sl 289 1 ad ls.length c ((aB.zip ls).map j4),ah Ln ((aB.zip ls).eraseIdx i)] h
theorem Qu.out (I:U W w (Qu qb aB ls::L))(h:i<ls.length):U W w (Ln (aB.getD i 0,ls.getD i [])::yl qb aB ls i::L):=by
 obtain⟨ad,c,hl,I⟩:=Qu.open I;have hz:=uw hl h;obtain⟨hi,he⟩:=a2.1 hz;replace I:=(I.pick (ah Ln (aB.zip ls))).fq hi;rw[he]at I;have h2:U W w (aa qb 288 [.slice ad ls.length c]::Sl 289 1 ad ls.length c ((aB.zip ls).map j4)::ah Ln ((aB.zip ls).eraseIdx i)::Ln (aB.getD i 0,ls.getD i [])::L):=I.sub;exact (U.shut (M:=[_,_,_]) h2 λ_ h=>⟨ad,c,hl,h⟩:U W w (yl qb aB ls i::Ln (aB.getD i 0,ls.getD i [])::L)).perm (List.Perm.swap _ _ _)
theorem map_set {α β:Type}(f:α→β)(l:List α)(i:Nat)(x:α):(l.set i x).map f=(l.map f).set i (f x):=by
 apply ext_getElem? ;intro j;simp only[bm,jK,a8];split
 ·split <;> rfl
 ·rfl
theorem KO {aB:List Nat}{ls:List (List UInt8)}(hl:aB.length=ls.length){i:Nat}(h:i<ls.length)(l:List UInt8):aB.zip (ls.set i l)=(aB.zip ls).set i (aB.getD i 0,l):=by
 apply ext_getElem?;intro j;by_cases hj:j<ls.length
 ·rw[uw (by simpa using hl) (by simpa using hj),jK];by_cases nV:i=j
  ·subst nV;rw[ak rfl,ak (by simp;omega)];simp[bl,h]
  ·rw[ag nV,uw hl hj];simp[bl,getElem?_set_ne nV]
 ·rw[iU (by simp;omega),iU (by simp;omega)]
theorem Qu.in (I:U W w (Ln (aB.getD i 0,l)::yl qb aB ls i::L))(h:i<ls.length):U W w (Qu qb aB (ls.set i l)::L):=by
 obtain⟨⟨ad,c⟩,hl,I⟩:=(I.pick (yl qb aB ls i)).jv (ι:=Option Addr×Nat) (p:=λ_=>aB.length=ls.length) (B:=λy h=>cj [aa qb 288 [.slice y.1 ls.length y.2],Sl 289 1 y.1 ls.length y.2 ((aB.zip ls).map j4),ah Ln ((aB.zip ls).eraseIdx i)] h) λ_ ⟨ad,c,hl,h⟩=>⟨(ad,c),hl,h⟩;replace I:U W w (aa qb 288 [.slice ad ls.length c]::Sl 289 1 ad ls.length c ((aB.zip ls).map j4)::ah Ln ((aB.zip ls).eraseIdx i)::Ln (aB.getD i 0,l)::L):=I.open (M:=[_,_,_]) λ_ h=>h;have hz:=uw hl h;obtain⟨hi,he⟩:=a2.1 hz;have h1:U W w (Ln (aB.getD i 0,l)::ah Ln ((aB.zip ls).eraseIdx i)::aa qb 288 [.slice ad ls.length c]::Sl 289 1 ad ls.length c ((aB.zip ls).map j4)::L):=I.sub;replace h1:=h1.kG hi;rw[← KO hl h]at h1;have eP:ls.length=(ls.set i l).length:=by rw[bu]
 have hp:(aB.zip ls).map j4=(aB.zip (ls.set i l)).map j4:=by
  rw[KO hl h,map_set]
  symm
  apply ext_getElem?;intro j;rw[jK];split
  ·rename_i hj;subst hj;split
   ·rw[bm,hz];rfl
   ·rw[iU (by omega)]
  ·rfl
 rw[hp,eP]at h1;exact Qu.mk' h1 ad c (by rw[← eP];exact hl)
theorem KP {ls:List (List UInt8)}{i:Nat}:ls.set i (ls.getD i [])=ls:=by
 apply ext_getElem?;intro j;rw[jK];split
 ·rename_i h;subst h;split
  ·rename_i h;rw[bl,aD h];rfl
  ·rw[iU (by omega)]
 ·rfl
theorem Qu.back (I:U W w (Ln (aB.getD i 0,ls.getD i [])::yl qb aB ls i::L))(h:i<ls.length):U W w (Qu qb aB ls::L):=by
 have:=Qu.in I h
 rwa [KP]at this
theorem ym (I:U W w (Qu qb aB ls::L))(h:i<ls.length):Calls prog 172 #[.pointer (some ⟨aB.getD i 0,0,none⟩)] w λe w'=>e=.returned (.int .i64 (ls.getD i []).length)∧U W w' (Qu qb aB ls::L) :=
 (AI (Qu.out I h)).mono λ_ _ ⟨he,I⟩=>⟨he,Qu.back I h⟩
theorem Yq (I:U W w (Qu qb aB ls::L))(h:i<ls.length):Calls prog 173 #[.pointer (some ⟨aB.getD i 0,0,none⟩),.int .i64 f] w λe w'=>e=.returned (.tuple #[.int .u8 (((ls.getD i []).getD f 0).toNat:Nat),.bool (decide (f<(ls.getD i []).length))])∧U W w' (Qu qb aB ls::L) :=
 (KJ (Qu.out I h)).mono λ_ _ ⟨he,I⟩=>⟨he,Qu.back I h⟩
theorem Yr (I:U W w (Qu qb aB ls::L))(h:i<ls.length)(hl:(ls.getD i []).length<1000):Calls prog 314 #[.pointer (some ⟨aB.getD i 0,0,none⟩),.int .u8 (x.toNat:Nat)] w λe w'=>e=.returned (.int .i64 0)∧U W w' (Qu qb aB (ls.set i (ls.getD i []++[x]))::L) :=
 (KK (Qu.out I h) (by omega)).mono λ_ _ ⟨he,I⟩=>by
  rw[ak hl]at he I;exact⟨he,Qu.in I h⟩
theorem Ys {fr:Nat}{bs:List UInt8}(I:U W w (Qu qb aB ls::L))(h:i<ls.length)(hl:(ls.getD i []).length≤1000)(hb:bs.length≤65536)(hp:∀ w',U W w' L→aT w' ad bs.length bs) :
   Calls prog 318 #[.pointer (some ⟨aB.getD i 0,0,none⟩),.int .i64 fr,.slice ad bs.length c] w λe w'=>∃ n er:Int,e=.returned (.tuple #[.int .i64 n,.int .i64 er])∧U W w' (Qu qb aB (ls.set i (dr (ls.getD i []) fr bs))::L) :=
 (Yn (Qu.out I h) hl hb (λw' hw=>hp w' hw.tail)).mono λ_ _ ⟨n,er,he,I⟩=>⟨n,er,he,Qu.in I h⟩
theorem Yt {fr k:Nat}(I:U W w (Qu qb aB ls::L))(h:i<ls.length)(hl:(ls.getD i []).length≤1000)(hf:fr≤1000)(hk:1≤k∧k≤1000) :
   Calls prog 309 #[.pointer (some ⟨aB.getD i 0,0,none⟩),.int .i64 fr,.int .i64 k] w λe w'=>∃ av c',e=.returned (.slice av (((ls.getD i []).drop fr).take k).length c')∧U W w' (Sl 5 1 av (((ls.getD i []).drop fr).take k).length c' (bc (((ls.getD i []).drop fr).take k))::Qu qb aB ls::L) :=
 (KN (Qu.out I h) hl hf hk).mono λ_ _ ⟨av,c',he,I⟩=>⟨av,c',he,(Qu.back (L:=Sl 5 1 av _ c' _::L) I.sub h).perm (List.Perm.swap _ _ _)⟩
theorem Yu (I:U W w (Qu qb aB ls::L))(h:i<ls.length)(hl:(ls.getD i []).length≤1000) :
   Calls prog 293 #[.pointer (some ⟨aB.getD i 0,0,none⟩)] w λe w'=>∃ av c',e=.returned (.slice av (ls.getD i []).length c')∧U W w' (Sl 5 1 av (ls.getD i []).length c' (bc (ls.getD i []))::Qu qb aB ls::L) :=
 (Yo (Qu.out I h) hl).mono λ_ _ ⟨av,c',he,I⟩=>⟨av,c',he,(Qu.back (L:=Sl 5 1 av _ c' _::L) I.sub h).perm (List.Perm.swap _ _ _)⟩
theorem EV (I:U W w (Qu qb aB ls::L)):Calls prog 171 #[pt qb] w λe w'=>e=.returned (.int .i64 ls.length)∧U W w' (Qu qb aB ls::L):=by
 obtain⟨ad,c,hl,I⟩:=Qu.open I;refine EN func171 ntmps171 rfl rfl λa E=>?_;refine RN 6 E I λa E=>?_;replace E:=E.aM 4;refine RT 8 E I ?_;exact⟨rfl,Qu.close I hl⟩
theorem AJ {aB:List Nat}{ls:List (List UInt8)}(hl:aB.length=ls.length){i:Nat}(h:i<ls.length):((aB.zip ls).map j4)[i]?=some (.pointer (some ⟨aB.getD i 0,0,none⟩)):=by
 rw[bm,uw hl h];rfl
theorem sZ (I:U W w (Qu qb aB ls::L))(h:i<ls.length):Calls prog 291 #[pt qb,.int .i64 i] w λe w'=>e=.returned (.pointer (some ⟨aB.getD i 0,0,none⟩))∧U W w' (Qu qb aB ls::L):=by
 refine EN func291 ntmps291 rfl rfl λa E=>?_;refine RN 7 E I λa E=>?_;rw[bn (by omega)]at E;refine CL 2 E I (EV I) λa w E I=>?_;refine RN 2 E I λa E=>?_;rw[bn (by omega)]at E;refine RN 2 E I λa E=>?_;obtain⟨ad,c,hl,I⟩:=Qu.open I;obtain⟨b,o,rfl,hr⟩:=I.bU ad (by omega);refine RN 6 E I λa E=>?_;refine SS E (ae E (hr i _ (AJ hl h))) λa E=>?_;refine RT 1 E I ?_;exact⟨rfl,Qu.close I hl⟩
theorem rA (I:U W w (Qu qb aB ls::L))(h0:ls≠[])(hL:ls.length≤8):Calls prog 135 #[pt qb] w λe w'=>e=.returned (.int .i64 (aV ls))∧U W w' (Qu qb aB ls::L):=by
 have p0:0<ls.length:=List.length_pos_iff.2 h0;refine EN func135 ntmps135 rfl rfl λa E=>?_;refine CL 5 E I (EV I) λa w E I=>?_;refine RN 1 E I λa E=>?_;rw[bn (by omega)]at E;refine RN 2 E I λa E=>?_;obtain⟨ad,c,hl,I⟩:=Qu.open I;obtain⟨b,o,rfl,hr⟩:=I.bU ad (by omega);refine RN 5 E I λa E=>?_;refine SS E (ae E (hr 0 _ (AJ hl p0))) λa E=>?_;replace I:U W w (Qu qb aB ls::L):=Qu.close I hl;refine CL 0 E I (ym I p0) λa w E I=>?_;refine RN 3 E I λa E=>?_;obtain⟨ad,c,hl,I⟩:=Qu.open I;rw[show ((ls.getD 0 []).length:Int)=(iC ls 0:Nat) from by rw[iC,List.headD_eq_getD]]at E;refine RN 6 E I λa E=>?_;replace I:U W w (aa qb 288 [.slice ad ls.length c]::Sl 289 1 ad ls.length c ((aB.zip ls).map j4)::ah Ln (aB.zip ls)::L):=I;refine aO (λμ a w=>∃ (i:Nat),(μ=ls.length-i∧i≤ls.length)∧Fr a 31 [(3,.int .i64 (iC ls i:Nat)),(19,.slice ad ls.length c),(20,.int .i64 ls.length),(21,.int .i64 i)]∧U W w (aa qb 288 [.slice ad ls.length c]::Sl 289 1 ad ls.length c ((aB.zip ls).map j4)::ah Ln (aB.zip ls)::L)) (ls.length) (⟨0,⟨rfl,by omega⟩,E.ab [3,19,20,21],I⟩) ?_;clear E I;rintro μ a w ⟨i,⟨rfl,hi⟩,E,I⟩;refine IF 3 E I (λao a E=>?_) λao a E=>?_
 ·
  obtain⟨b2,p6,rfl,eW⟩:=I.bU ad (by omega);have aH:i<ls.length:=by omega
  have hz:=uw hl aH;obtain⟨kx,qk⟩:=a2.1 hz;refine RN 3 E I λa E=>?_;refine SS E (ae E (eW i _ (AJ hl aH))) λa E=>?_;refine RN 1 E I λa E=>?_;replace I:=(I.pick (ah Ln (aB.zip ls))).fq kx;rw[qk]at I;refine CL 2 E I (AI I) λa w E I=>?_;replace I:=(qk ▸ I:U W w (Ln (aB.zip ls)[i]::_)).kG kx;rw[set_getElem_self]at I;refine RN 1 E I λa E=>?_;rw[show min ((iC ls i:Nat):Int) ((ls.getD i []).length:Int)=((iC ls (i+1):Nat):Int) from by rw[iC];omega]at E;refine RN 3 E I λa E=>?_;exact⟨ls.length-(i+1),by omega,i+1,⟨rfl,by omega⟩,E.ab [3,19,20,21],I.sub⟩
 obtain rfl:i=ls.length:=by omega
 refine RT 3 E I ?_;exact⟨rfl,Qu.close I hl⟩
theorem Yv (I:U W w (Qu qb aB ls::L))(h0:ls≠[])(hf:f<aV ls)(hL:ls.length≤8):Calls prog 136 #[pt qb,.int .i64 f] w λe w'=>∃ av c',e=.returned (.tuple #[.slice av (bI ls f).length c',.bool true]) ∧
   U W w' (Sl 5 1 av (bI ls f).length c' (bc (bI ls f))::Qu qb aB ls::L):=by
 refine EN func136 ntmps136 rfl rfl λa E=>?_;refine RN 8 E I λa E=>?_;rw[bn (by omega)]at E;refine CL 2 E I (rA I h0 hL) λa w E I=>?_;refine RN 2 E I λa E=>?_;rw[bn (by omega)]at E;refine RN 5 E I λa E=>?_;obtain⟨ad,c,hl,I⟩:=Qu.open I;refine RN 6 E I λa E=>?_;refine aO (λμ a w=>∃ (i:Nat) (ad2:Option Addr) (c2:Nat),(μ=ls.length-i∧i≤ls.length)∧Fr a 40 [(1,.int .i64 f),(6,.slice ad2 (fu ls f i).length c2),(22,.slice ad ls.length c),(23,.int .i64 ls.length),(24,.int .i64 i)]∧U W w (Sl 5 1 ad2 (fu ls f i).length c2 (bc (fu ls f i))::aa qb 288 [.slice ad ls.length c]::Sl 289 1 ad ls.length c ((aB.zip ls).map j4)::ah Ln (aB.zip ls)::L)) (ls.length) (⟨0,none,0,⟨rfl,by omega⟩,E.ab [1,6,22,23,24],I.bN 5 1 none⟩) ?_;clear E I;rintro μ a w ⟨i,ad2,c2,⟨rfl,hi⟩,E,I⟩;refine IF 3 E I (λao a E=>?_) λao a E=>?_
 ·
  obtain⟨b2,p6,rfl,eW⟩:=I.bU ad (by omega);have aH:i<ls.length:=by omega
  have hz:=uw hl aH;obtain⟨kx,qk⟩:=a2.1 hz;have eh:=sY (ls:=ls) (f:=f) (i:=i) hi;refine RN 3 E I λa E=>?_;refine SS E (ae E (eW i _ (AJ hl aH))) λa E=>?_;refine RN 2 E I λa E=>?_;replace I:=(I.pick (ah Ln (aB.zip ls))).fq kx;rw[qk]at I;refine CL 2 E I (KJ I) λa w E I=>?_;replace I:=(qk ▸ I:U W w (Ln (aB.zip ls)[i]::_)).kG kx;rw[set_getElem_self]at I;refine RN 7 E I λa E=>?_;refine cn E rfl I underlying22 Ty.t5 rfl rfl rfl rfl (by decide) (by decide) λb36 a w E I ho=>?_;clear ho;refine RN 0 E I λa E=>?_;refine cK E rfl I underlying22 Ty.t5 rfl rfl I.ai rfl (en [(ls.getD i []).getD f 0]) (by decide) (by decide) (by omega) λXX XY a w E I=>?_;rw[show bc (fu ls f i)++_=bc (fu ls f (i+1)) from by rw[AG aH,fF,bl (l:=ls),aD aH];rfl,show (fu ls f i).length+1=(fu ls f (i+1)).length from by rw[sY hi,sY (by omega)]]at I;rw[show (fu ls f i).length+1=(fu ls f (i+1)).length from by rw[sY hi,sY (by omega)]]at E;refine RN 3 E I λa E=>?_;exact⟨ls.length-(i+1),by omega,i+1,_,_,⟨rfl,by omega⟩,E.ab [1,6,22,23,24],I.sub⟩
 obtain rfl:i=ls.length:=by omega
 rw[AF]at E I;refine RT 4 E I ?_;exact⟨_,_,rfl,(Qu.mk' (L':=Sl 5 1 ad2 (bI ls f).length c2 (bc (bI ls f))::L) I ad c hl).perm (List.Perm.swap _ _ _)⟩
theorem Yw {d:Nat}(I:U W w L)(hn:2≤n∧n≤8)(hd:d≤8):Calls prog 131 #[.int .i64 n,.int .i64 d] w λe w'=>∃ qb aB,e=.returned (pt qb)∧U W w' (Qu qb aB (List.replicate n (List.replicate d 0))::L):=by
 refine EN func131 ntmps131 rfl rfl λa E=>?_;refine BX 4 E I λdq a w E I=>?_;refine RN 6 E I λa E=>?_;rw[show min (max (n:Int) 2) 8=(n:Int) from by omega]at E;refine RN 1 E I λa E=>?_;replace I:=I.bN 289 1 none;replace I:=U.iK (f:=Ln) I;refine aO (λμ a w=>∃ (i:Nat) (xs:List Lx) (ad:Option Addr) (c:Nat),(μ=n-i∧i≤n∧xs.map (·.2)=List.replicate i (List.replicate d 0))∧Fr a 26 [(1,.int .i64 d),(5,pt dq),(10,.int .i64 n),(11,.int .i64 i)]∧U W w (aa dq 288 [.slice ad i c]::Sl 289 1 ad i c (xs.map j4)::ah Ln xs::L)) (n) (⟨0,[],none,0,⟨rfl,by omega,rfl⟩,E.ab [1,5,10,11],(I.sub:U W w (aa dq 288 [.slice none 0 0]::Sl 289 1 none 0 0 []::ah Ln []::L))⟩) ?_;clear E I;rintro μ a w ⟨i,xs,ad,c,⟨rfl,hi,ba⟩,E,I⟩;refine IF 3 E I (λaj a E=>?_) λaj a E=>?_
 ·
  refine aX 1 (λw0 w'=>Rd w' dq 0 [.slice ad i c]) [6,7] [0,1,2,3,5,3004,1006,1007,1008,9,10,1011] E I λa w E I hH=>?_;have hC:=hH.at w I.ai;refine RH 5 E I hH hC λa E=>?_;refine QH E (λw hc=>ae E (hc 0 _ rfl)) hC λa E=>?_;refine RH 0 E I hH hC λa E=>?_;refine bh 0 E I (Ym I hd) λlb a w E I=>?_;replace hC:=hH.at w I.ai;refine RH 0 E I hH hC λa E=>?_;refine cn E rfl I underlying286 Ty.t289 rfl rfl rfl rfl (by decide) (by decide) λIV a w E I ho=>?_;clear ho;replace hC:=hH.at w I.ai;refine RH 0 E I hH hC λa E=>?_;refine cK E rfl I underlying286 Ty.t289 rfl rfl I.ai rfl (by simp[Value.oneCell']) (by decide) (by decide) (by omega) λqY qZ a w E I=>?_;rw[show List.map j4 xs++_=List.map j4 (xs++[(lb,List.replicate d 0)]) from by rw[cW];rfl]at I;refine ST 2 E I (λa w E I=>?_);refine RN 2 E I λa E=>?_;have dv:=U.jL (x:=(lb,List.replicate d 0)) (I.sub (M:=Ln (lb,List.replicate d 0)::ah Ln xs::aa dq 288 [.slice qY (i+1) qZ]::Sl 289 1 qY (i+1) qZ ((xs++[(lb,List.replicate d 0)]).map j4)::L));exact⟨n-(i+1),by omega,i+1,xs++[(lb,List.replicate d 0)],qY,qZ,⟨rfl,by omega,by rw[cW,ba,replicate_succ'];rfl⟩,E.ab [1,5,10,11],dv.sub⟩
 obtain rfl:i=n:=by omega
 refine RT 3 E I ?_;have bV:xs.length=i:=by rw[← a8 (f:=(·.2)),ba,kl]
 have hz:(xs.map (·.1)).zip (List.replicate i (List.replicate d 0))=xs:=by
  rw[← ba];clear ba I E bV
  induction xs with
  | nil=>rfl
  | cons x xs ih=>rw[map_cons,map_cons,List.zip_cons_cons,ih]
 have gD:(List.replicate i (List.replicate d (0:UInt8))).length=i:=kl;refine⟨dq,xs.map (·.1),rfl,?_⟩;refine Qu.close (ad:=ad) (c:=c) ?_ (by rw[a8,bV,gD]);rw[gD,hz];exact I
end
end
end Go.Proofs.YteoldcfapaiobaaGreat
