/- Packets out of bytes: packet.Decode. -/
import Derived.Test.YteoldcfapaiobaaGreatC07PktP
import Derived.Test.YteoldcfapaiobaaGreatC01Row
namespace Go.Proofs.YteoldcfapaiobaaGreat
open Tryz
open List (drop_zero drop_drop drop_left take_zero foldl_cons map_cons drop_eq_nil_of_le take_length append_nil ext_getElem? getElem_mem getElem?_set_ne set_getElem_self foldl_append replicate_succ')
open Go.RowKit
set_option linter.unusedVariables false
set_option linter.unusedSimpArgs false
set_option maxRecDepth 10000
set_option synthInstance.maxSize 4000
set_option synthInstance.maxHeartbeats 400000
section
def xQ (x:Int):Prop := -9223372036854775808≤x∧x≤9223372036854775807
def mm (l:List UInt8):Nat:=l.foldl (λn b=>n*256+b.toNat) 0
theorem JW:∀ (l:List UInt8) (a:Nat),l.foldl (λn b=>n*256+b.toNat) a<(a+1)*256 ^ l.length
 | [],a=>by simp
 | b::l,a=>by
  have h1:=JW l (a*256+b.toNat);have h2:=lF b;rw[foldl_cons,e7];refine wO h1 ?_;rw[Nat.pow_succ,Nat.mul_comm (256 ^ l.length) 256,← Nat.mul_assoc];exact Nat.mul_le_mul_right _ (by omega)
theorem JX {x:Nat}(h:x<4294967296):mm (fc x)=x:=by
 have:=DR h;simpa [mm,fc,DQ] using this
theorem JY {l:List UInt8}{i:Nat}(h:i<l.length):mm (l.take (i+1))=mm (l.take i)*256+l[i].toNat:=by
 rw[mm,iX h,foldl_append];rfl
theorem Aa (l:List UInt8)(n:Nat)(h:l.length≤n):mm l<256 ^ n:=by
 have:=JW l 0;rw[Nat.zero_add,Nat.one_mul]at this;exact wO this (Nat.pow_le_pow_right (by decide) h)
theorem XC {n:Nat}(h:n<16777216)(b:UInt8):IntKind.u32.wrap (((BitVec.ofInt IntKind.u32.bits (IntKind.u32.wrap ((n:Int)*2 ^ 8)) ||| BitVec.ofInt IntKind.u32.bits (b.toNat:Int)).toNat:Nat):Int)=((n*256+b.toNat:Nat):Int):=by
 have hb:=lF b;rw[show IntKind.u32.wrap ((n:Int)*2 ^ 8)=((n*256:Nat):Int) from by rw[wrap_u32];omega,tX,tX];show IntKind.u32.wrap (((BitVec.ofNat 32 (n*256) ||| BitVec.ofNat 32 b.toNat).toNat:Nat):Int)=_;rw[BitVec.toNat_or,BitVec.toNat_ofNat,BitVec.toNat_ofNat,Nat.mod_eq_of_lt (show n*256<2 ^ 32 by omega),Nat.mod_eq_of_lt (show b.toNat<2 ^ 32 by omega),wrap_u32];have h1:=Nat.two_pow_add_eq_or_of_lt (i:=8) (b:=b.toNat) hb n;rw[show n*256=2 ^ 8*n from by omega,← h1];omega
structure qf (W:World)(L:List SP)(ad:Option Addr)(c:Nat)(rest:List UInt8):Prop where
 len:rest.length≤65536
 cap:rest.length≤c
 rd:∀ V,U W V L→a6 V ad rest.length rest
section
variable {W w:World}{L L':List SP}{n c m rb:Nat}{ad:Option Addr}{bs rest:List UInt8}{p:Pk}{bad:Bool}
theorem qf.cut {k:Nat}(h:qf W L ad c rest)(hk:k≤rest.length):qf W L (fk ad k c 1) (c-k) (rest.drop k) :=
 ⟨by rw[c6];have:=h.len;omega,by rw[c6];have:=h.cap;omega,λV hw=>(h.rd V hw).tW hk h.cap⟩
theorem xR (I:U W w (aa rb 427 [.slice ad rest.length c,.bool bad]::L'))(Ab:∀ V,U W V L'→U W V L)(hr:qf W L ad c rest) :
   Calls prog 331 #[pt rb] w λe V=>∃ (x:Int) (av:Option Addr) (c':Nat) (nx:List UInt8) (fm:Bool),e=.returned (.int .i64 x)∧xQ x∧qf W L av c' nx ∧
    (∀ (n:Int) (r:List UInt8),xQ n→rest=aO (zz n)++r→bad=false→x=n∧nx=r∧fm=false)∧U W V (aa rb 427 [.slice av nx.length c',.bool fm]::L'):=by
 have hlen:=hr.len;refine EN func331 ntmps331 rfl rfl λa E=>?_;refine jI 7 E I (JI (bs:=rest) I (by omega) (λV hw=>hr.rd V (Ab _ hw.tail))) λx k er a w E ⟨hg,I⟩=>?_;refine RN 7 E I λa E=>?_;have pg:=hg.2.2.1;have ng:=hg.2.1;have eH:k≤rest.length:=by
  by_cases h0:er=0
  ·have:=pg h0;omega
  ·have:=(hg.2.2.2.1 h0).1;omega
 refine b7 (M:=λa w=>∃ (z:Bool) (av:Option Addr) (c':Nat) (nx:List UInt8),(er=0→bad=false→z=false)∧qf W L av c' nx∧(z=false→nx=rest.drop k)∧Fr a 41 [(3,.int .i64 x)]∧U W w (aa rb 427 [.slice av nx.length c',.bool z]::L')) ?_ ?_
 ·
  refine b7 (M:=λa w=>∃ z:Bool,(bad=true→z=true)∧(er=0→bad=false→z=false)∧Fr a 41 [(0,pt rb),(3,.int .i64 x),(4,.int .i64 k)]∧U W w (aa rb 427 [.slice ad rest.length c,.bool z]::L')) ?_ ?_
  ·
   refine BY 6 E I (λiO a E=>?_) λiO a E=>?_
   ·
    refine ST 5 E I (λa w E I=>?_);refine RN 0 E I λa E=>?_;exact⟨_,λ_=>rfl,λ_ h=>(by rw[h]at iO;cases iO),E.ab [0,3,4],I⟩
   refine ST 5 E I (λa w E I=>?_);refine RN 0 E I λa E=>?_;exact⟨_,λh=>(by rw[h]at iO;cases iO),λh _=>bn (by omega),E.ab [0,3,4],I⟩
  clear E;(try clear I);rintro a w ⟨z,c0,km,E,I⟩;refine IF 6 E I (λaj a E=>?_) λaj a E=>?_
  ·
   have hz:z=false:=aj;refine RN 7 E I λa E=>?_;rw[show rest.length-k=(rest.drop k).length from by simp]at E;refine ST 2 E I (λa w E I=>?_);refine RN 0 E I λa E=>?_;exact⟨_,_,_,_,km,hr.cut eH,λ_=>rfl,E.ab [3],I⟩
  refine RN 0 E I λa E=>?_;exact⟨_,_,_,_,km,hr,λh=>(by rw[h]at aj;cases aj),E.ab [3],I⟩
 clear E;(try clear I);rintro a w ⟨z,av,c',nx,km,XD,XE,E,I⟩;refine RT 3 E I ?_;refine⟨x,av,c',nx,z,rfl,hg.1,XD,λn r hn e hb=>?_,I⟩;obtain⟨rfl,rfl,rfl⟩:=hg.2.2.2.2 n r hn.1 hn.2 e;have hz:=km rfl hb;refine⟨rfl,?_,hz⟩;rw[XE hz,e,drop_left]
theorem XF (I:U W w (aa rb 427 [.slice ad rest.length c,.bool bad]::L'))(Ab:∀ V,U W V L'→U W V L)(hr:qf W L ad c rest) :
   Calls prog 332 #[pt rb] w λe V=>∃ (x:Nat) (av:Option Addr) (c':Nat) (nx:List UInt8) (fm:Bool),e=.returned (.int .u32 x)∧x<4294967296∧qf W L av c' nx ∧
    (∀ (n:Nat) (r:List UInt8),n<4294967296→rest=fc n++r→bad=false→x=n∧nx=r∧fm=false)∧U W V (aa rb 427 [.slice av nx.length c',.bool fm]::L'):=by
 have hlen:=hr.len;have aeH:=hr.cap;refine EN func332 ntmps332 rfl rfl λa E=>?_;refine RN 3 E I λa E=>?_;refine b7 (M:=λa w=>∃ z:Bool,(z=true↔(bad=true∨rest.length<4))∧Fr a 50 [(0,pt rb)]∧U W w (aa rb 427 [.slice ad rest.length c,.bool z]::L')) ?_ ?_
 ·
  refine BY 6 E I (λiO a E=>?_) λiO a E=>?_
  ·
   refine ST 9 E I (λa w E I=>?_);refine RN 0 E I λa E=>?_;exact⟨_,⟨λ_=>.inl iO,λ_=>rfl⟩,E.ab [0],I⟩
  refine ST 9 E I (λa w E I=>?_);refine RN 0 E I λa E=>?_;exact⟨_,(by rw[cp,iO];simp;omega),E.ab [0],I⟩
 clear E;(try clear I);rintro a w ⟨z,hz,E,I⟩;refine IF 5 E I (λaj a E=>?_) λaj a E=>?_
 ·
  have XG:=hz.1 aj;refine RT 2 E I ?_;refine⟨0,ad,c,rest,true,rfl,by decide,hr,λn r hn e hb=>?_,by rw[aj]at I;exact I⟩;rcases XG with h | h
  ·rw[hb]at h;cases h
  ·rw[e,aL,ml]at h;omega
 have XH:¬ (bad=true∨rest.length<4):=λh=>by rw[hz.2 h]at aj;cases aj
 have h4:4≤rest.length:=Nat.le_of_not_lt λh=>XH (.inr h);obtain⟨bb,oo,rfl,_⟩:=(hr.rd _ (Ab _ I.tail)).get (by omega);have eJ:(rest.take 4).length=4:=by rw[et];omega
 refine RN 9 E I λa E=>?_;rw[qG,Nat.sub_zero,Nat.sub_zero]at E;refine RN 2 E I λa E=>?_;refine aR (λμ a w=>∃ (i:Nat),(μ=4-i∧i≤4)∧Fr a 50 [(0,pt rb),(3,.int .u32 (mm (rest.take i))),(29,.slice (some ⟨bb,oo,none⟩) 4 c),(30,.int .i64 4),(31,.int .i64 i)]∧U W w (aa rb 427 [.slice (some ⟨bb,oo,none⟩) rest.length c,.bool z]::L')) (4) (⟨0,⟨rfl,by omega⟩,E.ab [0,3,29,30,31],I⟩) ?_;clear E I;rintro μ a w ⟨i,⟨rfl,hi⟩,E,I⟩;refine IF 3 E I (λao a E=>?_) λao a E=>?_
 ·
  have aJ:i<rest.length:=by omega
  have nh:=Aa (rest.take i) 3 (by rw[et];omega);rw[show (256:Nat) ^ 3=16777216 from by decide]at nh;have qe:=lF rest[i];refine RN 3 E I λa E=>?_;refine SS E (ag E (((hr.rd _ (Ab _ I.tail)).rd (by omega)) i _ (dO aJ))) λa E=>?_;refine SX 4 E I (by rw[wrap_u32];omega) λa E=>?_;refine RN 1 E I λa E=>?_;rw[XC nh,← JY aJ]at E;refine RN 3 E I λa E=>?_;exact⟨4-(i+1),by omega,i+1,⟨rfl,by omega⟩,E.ab [0,3,29,30,31],I⟩
 obtain rfl:i=4:=by omega
 refine RN 7 E I λa E=>?_;rw[show rest.length-4=(rest.drop 4).length from by simp]at E;refine ST 2 E I (λa w E I=>?_);refine RT 3 E I ?_;have nh:=Aa (rest.take 4) 4 (by rw[et];omega);rw[show (256:Nat) ^ 4=4294967296 from by decide]at nh;refine⟨_,_,_,_,z,rfl,nh,hr.cut h4,λn r hn e hb=>?_,I⟩;have ht:rest.take 4=fc n:=by rw[e];rfl
 have hd:rest.drop 4=r:=by rw[e];rfl
 exact⟨by rw[ht,JX hn],hd,aj⟩
theorem JZ {a b:List UInt8}{ad2:Option Addr}{m n c2:Nat}(I:U W w L)(dc:a6 w ad m a)(kZ:a6 w ad2 n b) :
   Calls prog 313 #[.slice ad m c,.slice ad2 n c2] w λe V=>e=.returned (.bool (a==b))∧U W V L :=
 (HH dc kZ).mono λe V h=>⟨h.1,by rw[h.2];exact I⟩
theorem Ej {bs:List UInt8}{q:Pk}(h:gW bs q):(q.kind=((bs.getD 0 0).toNat:Int)∧q.aV=((bs.getD 1 0).toNat:Int)∧q.to=((bs.getD 2 0).toNat:Int))∧(bs.drop 3).take (bs.length-7)=kM q:=by
 have h1:=DP h.2.2;obtain⟨f1,t1,vL,i1,k1⟩:=h.1;refine⟨?_,DO h.2.2⟩;simp only[bl,h1.1,h1.2.1,h1.2.2,Option.getD_some,UInt8.toNat_ofNat'];omega
theorem sH (b:UInt8):IntKind.i64.wrap (b.toNat:Int)=(b.toNat:Int):=gr (by omega) (by have:=lF b;omega)
theorem ny {bs:List UInt8}(h:¬ ∃ q,gW bs q):ew bs=none:=DX λq hq=>h ⟨q,hq⟩
def XI (bs:List UInt8)(p:Pk)(adP:Option Addr)(cP:Nat)(ok:Bool):Prop:=(ok=true∧ew bs=some p)∨(ok=false∧ew bs=none∧p=mX∧adP=none∧cP=0)
theorem XJ (I:U W w L)(hb:bs.length≤65536)(hc:bs.length≤c)(hp:∀ V,U W V L→a6 V ad bs.length bs) :
   Calls prog 317 #[.slice ad bs.length c] w λe V=>∃ (p:Pk) (adP:Option Addr) (cP:Nat) (ok:Bool),e=.returned (.tuple #[.agg (dI p adP cP).toArray,.int .i64 (if ok=true then 0 else 1)])∧XI bs p adP cP ok∧U W V (Sl 5 1 adP p.al.length cP (bc p.al)::L):=by
 refine EN func317 ntmps317 rfl rfl λa E=>?_;refine AL 1 E I λb2 a w E I=>?_;refine IF 6 E I (λaj a E=>?_) λaj a E=>?_
 ·
  have bU:ew bs=none:=DX λq hq=>by
   have:=congrArg List.length hq.2.2;rw[xL]at this;omega
  refine SA 2 E I λa w E I=>?_;refine RT 1 E I ?_;exact⟨mX,none,0,false,rfl,.inr ⟨rfl,bU,rfl,rfl,rfl⟩,I.tail.bM _ _ _⟩
 obtain⟨bb,oo,rfl,_⟩:=(hp _ I.tail).get (by omega);have h7:7≤bs.length:=by omega
 refine aZ 1 (λw0 w=>Rd w bb oo (bc bs)) [6,7,10,11,13] [0,1,4,5,8,9,3002,3,3006,3007,3010,3011,12,1013,1014] E I λa w E I hH=>?_;have hC:Rd w bb oo (bc bs):=(hp _ I.tail).rd (by omega);refine RH 6 E I hH hC λa E=>?_;refine QH E (λw hc=>ag E (hc 0 _ (kN (by omega)))) hC λa E=>?_;refine QP E (λw=>oR E underlying5 underlying3 (sH _)) λa E=>?_;refine QH E (λw hc=>ag E (hc 1 _ (kN (by omega)))) hC λa E=>?_;refine QH E (λw hc=>oR E underlying5 underlying3 (sH _)) hC λa E=>?_;refine QH E (λw hc=>ag E (hc 2 _ (kN (by omega)))) hC λa E=>?_;refine QH E (λw hc=>oR E underlying5 underlying3 (sH _)) hC λa E=>?_;refine RH 1 E I hH hC λa E=>?_;refine eR E rfl I Ty.t203 rfl λb4 a w E I ho=>?_;clear ho;replace hC:=hH.at w ((hp _ I.tail.tail).rd (by omega));refine RH 0 E I hH hC λa E=>?_;refine SA 0 E I λa w E I=>?_;refine RN 5 E I λa E=>?_;rw[show (bs.length:Int)-4=((bs.length-4:Nat):Int) from by omega]at E;refine RN 1 E I λa E=>?_;obtain⟨R1,Ek⟩:∃ R1,R1=(bs.drop 3).take (bs.length-7):=⟨_,rfl⟩;have kD:R1.length=bs.length-7:=by rw[Ek,et,c6];omega
 have e8:qf W L (fk (some ⟨bb,oo,none⟩) 3 c 1) (c-3) R1:=⟨by omega,by omega,λV hw=>by
  rw[kD,Ek];exact ((hp V hw).tW (lo:=3) (by omega) hc).DE (by rw[c6];omega)⟩
 have lE:∀ q,gW bs q→(q.kind=((bs.getD 0 0).toNat:Int)∧q.aV=((bs.getD 1 0).toNat:Int)∧q.to=((bs.getD 2 0).toNat:Int))∧R1=kM q:=λq h=>by
  rw[Ek];exact Ej h
 rw[show bs.length-4-3=R1.length from by omega]at E;generalize fk (some ⟨bb,oo,none⟩) 3 c 1=ld at E e8;generalize c-3=dK at E e8;generalize R1=R1 at E e8 lE;refine BX 1 E I λjY a w E I=>?_;refine jJ 3 E I (xR (L:=L) I (λ_ h=>h.tail.tail) e8) ?_;clear E I;rintro e w ⟨x1,ad2,c2,R2,z2,rfl,eg,eT,hY,I⟩;refine⟨_,rfl,λa E=>?_⟩;refine ST 1 E I (λa w E I=>?_);refine RN 0 E I λa E=>?_;replace hY:∀ q,gW bs q→(q.kind=((bs.getD 0 0).toNat:Int)∧q.aV=((bs.getD 1 0).toNat:Int)∧q.to=((bs.getD 2 0).toNat:Int)∧q.id=x1)∧R2=mY q∧z2=false:=λq h=>by
  obtain⟨h1,h2⟩:=lE q h;obtain⟨e1,e2,e3⟩:=hY q.id (mY q) ⟨by have:=h.1.2.2.2.1;omega,by have:=h.1.2.2.2.1;omega⟩ (by rw[h2,kM]) rfl;exact⟨⟨h1.1,h1.2.1,h1.2.2,e1.symm⟩,e2,e3⟩
 refine b7 (M:=λa w=>∃ (p:Pk) (adP:Option Addr) (cP:Nat) (av:Option Addr) (c':Nat) (R':List UInt8) (z:Bool),p.sum<4294967296∧(∀ q,gW bs q→p=q∧z=false)∧Fr a 91 [(0,.slice (some ⟨bb,oo,none⟩) bs.length c),(2,pt b2),(4,pt b4),(5,pt jY)]∧U W w (aa b4 203 (dI p adP cP)::Sl 5 1 adP p.al.length cP (bc p.al)::aa jY 427 [.slice av R'.length c',.bool z]::aa b2 203 (dI mX none 0)::L)) ?_ ?_
 ·
  refine IF 4 E I (λao a E=>?_) λao a E=>?_
  ·
   have m2:∀ q,gW bs q→mY q=aO (zz q.first)++(aO (zz q.c9)++(aO (zz q.frame)++lI q))∧(xQ q.first∧xQ q.c9∧xQ q.frame)∧q.al.length≤32:=λq h=>by
    have hk:=(hY q h).1.1;rw[ao]at hk;rcases h.1.2.2.2.2 with k | k
    ·obtain⟨_,k1,k2,k3,k4⟩:=k;unfold eG at k1 k2 k3;exact⟨by rw[mY,ak hk],⟨⟨by omega,by omega⟩,⟨by omega,by omega⟩,⟨by omega,by omega⟩⟩,k4⟩
    ·omega
   refine jJ 2 E I (xR (L:=L) (I.perm (List.Perm.swap _ _ _)) (λ_ h=>h.tail.tail) eT) ?_;clear E I;rintro e w ⟨x2,fl,dC,R3,z3,rfl,c3,jV,xH,I⟩;refine⟨_,rfl,λa E=>?_⟩;replace xH:∀ q,gW bs q→q.first=x2∧R3=aO (zz q.c9)++(aO (zz q.frame)++lI q)∧z3=false:=λq h=>by
    obtain⟨_,h2,h3⟩:=hY q h;obtain⟨e1,e2,e3⟩:=xH q.first _ (m2 q h).2.1.1 (by rw[h2,(m2 q h).1]) h3;exact⟨e1.symm,e2,e3⟩
   refine ST 1 E I (λa w E I=>?_);refine jJ 2 E I (xR (L:=L) (I.perm (List.Perm.swap _ _ _)) (λ_ h=>h.tail.tail) jV) ?_;clear E I;rintro e w ⟨x3,l4,g8,XK,z4,rfl,dJ,qd,Ac,I⟩;refine⟨_,rfl,λa E=>?_⟩;replace Ac:∀ q,gW bs q→q.c9=x3∧XK=aO (zz q.frame)++lI q∧z4=false:=λq h=>by
    obtain⟨_,h2,h3⟩:=xH q h;obtain⟨e1,e2,e3⟩:=Ac q.c9 _ (m2 q h).2.1.2.1 h2 h3;exact⟨e1.symm,e2,e3⟩
   refine ST 1 E I (λa w E I=>?_);refine jJ 2 E I (xR (L:=L) (I.perm (List.Perm.swap _ _ _)) (λ_ h=>h.tail.tail) qd) ?_;clear E I;rintro e w ⟨J0,ed,dD,XL,z5,rfl,ud,sG,Ad,I⟩;refine⟨_,rfl,λa E=>?_⟩;replace Ad:∀ q,gW bs q→q.frame=J0∧XL=fc q.sum++(aO (zz (q.al.length:Int))++dy q.al 0)∧z5=false:=λq h=>by
    obtain⟨_,h2,h3⟩:=Ac q h;obtain⟨e1,e2,e3⟩:=Ad q.frame _ (m2 q h).2.1.2.2 h2 h3;exact⟨e1.symm,by rw[e2,lI],e3⟩
   refine ST 1 E I (λa w E I=>?_);refine jJ 2 E I (XF (L:=L) (I.perm (List.Perm.swap _ _ _)) (λ_ h=>h.tail.tail) sG) ?_;clear E I;rintro e w ⟨J1,sa,nX,XM,XN,rfl,sI,xS,Ae,I⟩;refine⟨_,rfl,λa E=>?_⟩;replace Ae:∀ q,gW bs q→q.sum=J1∧XM=aO (zz (q.al.length:Int))++dy q.al 0∧XN=false:=λq h=>by
    obtain⟨_,h2,h3⟩:=Ad q h;obtain⟨e1,e2,e3⟩:=Ae q.sum _ h.2.1 h2 h3;exact⟨e1.symm,e2,e3⟩
   refine ST 1 E I (λa w E I=>?_);refine jJ 2 E I (xR (L:=L) (I.perm (List.Perm.swap _ _ _)) (λ_ h=>h.tail.tail) xS) ?_;clear E I;rintro e w ⟨XO,rU,qH,R7,J2,rfl,qg,vO,xT,I⟩;refine⟨_,rfl,λa E=>?_⟩;replace xT:∀ q,gW bs q→(q.al.length:Int)=XO∧R7=dy q.al 0∧J2=false:=λq h=>by
    obtain⟨_,h2,h3⟩:=Ae q h;have eB:=(m2 q h).2.2;obtain⟨e1,e2,e3⟩:=xT q.al.length _ ⟨by omega,by omega⟩ h2 h3;exact⟨e1.symm,e2,e3⟩
   refine jJ 6 E I (Xh (m:=32) I vO.len vO.cap (by omega) (λV hw=>vO.rd V hw.tail.tail.tail)) ?_;clear E I;rintro e w ⟨out,aq,cO,er,rfl,ni,I⟩;refine⟨_,rfl,λa E=>?_⟩;refine BY 10 E I (λbA a E=>?_) λbA a E=>?_
   ·
    refine SA 8 E I λa w E I=>?_;refine RT 1 E I ?_;have bU:ew bs=none:=ny λ⟨q,h⟩=>by
     obtain⟨_,e2,_⟩:=xT q h;have:=(ni.2.2 q.al (m2 q h).2.2 e2).2;simp[this]at bA
    exact⟨mX,none,0,false,rfl,.inr ⟨rfl,bU,rfl,rfl,rfl⟩,I.sub.bM _ _ _⟩
   refine IF 5 E I (λay a E=>?_) λay a E=>?_
   ·
    refine SA 2 E I λa w E I=>?_;refine RT 1 E I ?_;have bU:ew bs=none:=ny λ⟨q,h⟩=>by
     obtain⟨e1,e2,_⟩:=xT q h;have:=(ni.2.2 q.al (m2 q h).2.2 e2).1;rw[this]at ay;omega
    exact⟨mX,none,0,false,rfl,.inr ⟨rfl,bU,rfl,rfl,rfl⟩,I.sub.bM _ _ _⟩
   refine ST 2 E I (λa w E I=>?_);refine RN 0 E I λa E=>?_;refine⟨⟨((bs.getD 0 0).toNat:Int),((bs.getD 1 0).toNat:Int),((bs.getD 2 0).toNat:Int),x1,x2,x3,J0,J1,out⟩,aq,cO,rU,qH,R7,J2,by assumption,λq h=>?_,E.ab [0,2,4,5],I⟩;obtain⟨h1,h2,h3,h4⟩:=(hY q h).1;have h5:=(xH q h).1;have h6:=(Ac q h).1;have h7:=(Ad q h).1;have h8:=(Ae q h).1;have h9:=xT q h;have fF:=(ni.2.2 q.al (m2 q h).2.2 h9.2.1).1;refine⟨?_,h9.2.2⟩;rw[← h1,← h2,← h3,← h4,← h5,← h6,← h7,← h8,fF]
  refine RN 0 E I λa E=>?_;refine⟨⟨((bs.getD 0 0).toNat:Int),((bs.getD 1 0).toNat:Int),((bs.getD 2 0).toNat:Int),x1,0,0,0,0,[]⟩,none,0,ad2,c2,R2,z2,by show 0<4294967296;decide,λq h=>?_,E.ab [0,2,4,5],(I.bM 5 1 none).perm (List.Perm.swap _ _ _)⟩;obtain⟨⟨h1,h2,h3,h4⟩,_,h5⟩:=hY q h;rw[← h1]at ao;rcases h.1.2.2.2.2 with k | k
  ·exact absurd k.1 ao
  ·obtain⟨lf,k1,k2,k3,k4,xU⟩:=k;have k4:=g5 k4;refine⟨?_,h5⟩;rw[← h1,← h2,← h3,← h4];cases q;simp_all
 clear E;(try clear I);rintro a w ⟨p,adP,cP,z8,q8,aeI,aeJ,lJ,El,E,I⟩;refine aY 3 E I (JT (p:=p) I lJ (λV hw=>hw.cF adP p.al rfl rfl)) λadE cE a w E I=>?_;refine BY 7 E I (λdp a E=>?_) λdp a E=>?_
 ·
  refine SA 12 E I λa w E I=>?_;refine RT 1 E I ?_;have bU:ew bs=none:=ny λ⟨q,h⟩=>by
   rw[(El q h).2]at dp;cases dp
  exact⟨mX,none,0,false,rfl,.inr ⟨rfl,bU,rfl,rfl,rfl⟩,I.sub.bM _ _ _⟩
 refine BY 4 E I (λfa a E=>?_) λfa a E=>?_
 ·
  refine SA 8 E I λa w E I=>?_;refine RT 1 E I ?_;have bU:ew bs=none:=ny λ⟨q,h⟩=>by
   have hn:=(I.cF adE (aS p) rfl rfl).2.1 (by cases adE with
    | none=>rfl
    | some _=>cases fa)
   rw[(El q h).1,aS,ak h.1,xL]at hn;omega
  exact⟨mX,none,0,false,rfl,.inr ⟨rfl,bU,rfl,rfl,rfl⟩,I.sub.bM _ _ _⟩
 refine CL 2 E I (JZ I (I.cF adE (aS p) rfl rfl) (hp _ I.tail.tail.tail.tail.tail)) λa w E I=>?_;refine IF 2 E I (λbh a E=>?_) λbh a E=>?_
 ·
  refine SA 2 E I λa w E I=>?_;refine RT 1 E I ?_;have bU:ew bs=none:=ny λ⟨q,h⟩=>by
   have e:aS p=bs:=by rw[(El q h).1,aS,ak h.1];exact h.2.2
   rw[e]at bh;simp at bh
  exact⟨mX,none,0,false,rfl,.inr ⟨rfl,bU,rfl,rfl,rfl⟩,I.sub.bM _ _ _⟩
 refine SA 2 E I λa w E I=>?_;refine RT 1 E I ?_;exact⟨p,adP,cP,true,rfl,.inl ⟨rfl,zZ ((DZ (λe=>by rw[e]at h7;simp at h7) lJ).2 (by simpa using bh))⟩,I.sub⟩
end
end
section
def vQ (q:Pk):Nat→Int
 | 0=>q.id
 | 1=>q.first
 | 2=>q.c9
 | _=>q.frame
def vR (q:Pk):Nat→List UInt8
 | 0=>kM q
 | 1=>mY q
 | 2=>aO (zz q.c9)++(aO (zz q.frame)++lI q)
 | 3=>aO (zz q.frame)++lI q
 | _=>lI q
theorem Em {bs:List UInt8}{q:Pk}(h:gW bs q):(q.kind=1∧eG q.first∧eG q.c9∧eG q.frame∧q.al.length≤32∧mY q=aO (zz q.first)++(aO (zz q.c9)++(aO (zz q.frame)++lI q))) ∨
   (q.kind=2∧q.first=0∧q.c9=0∧q.frame=0∧q.al=[]∧q.sum=0):=by
 rcases h.1.2.2.2.2 with k | k
 ·exact .inl ⟨k.1,k.2.1,k.2.2.1,k.2.2.2.1,k.2.2.2.2,by rw[mY,ak k.1]⟩
 ·exact .inr ⟨k.1,k.2.1,k.2.2.1,k.2.2.2.1,g5 k.2.2.2.2.1,k.2.2.2.2.2⟩
theorem J3 {bs:List UInt8}{q:Pk}{n i:Nat}(h:gW bs q)(hn:n=if (bs.getD 0 0).toNat=1 then 4 else 1)(hi:i<n) :
   vR q i=aO (zz (vQ q i))++vR q (i+1)∧0≤vQ q i∧vQ q i≤1099511627776:=by
 have h0:=(Ej h).1.1;have bO:=h.1.2.2.2.1;rcases Em h with k | k
 ·obtain⟨lf,k1,k2,k3,k4,xU⟩:=k;unfold eG at k1 k2 k3;rw[ak (by omega)]at hn;rcases (by omega:i=0∨i=1∨i=2∨i=3) with rfl | rfl | rfl | rfl
  ·exact⟨rfl,bO.1,bO.2⟩
  ·exact⟨xU,by show 0≤q.first;omega,by show q.first≤_;omega⟩
  ·exact⟨rfl,by show 0≤q.c9;omega,by show q.c9≤_;omega⟩
  ·exact⟨rfl,by show 0≤q.frame;omega,by show q.frame≤_;omega⟩
 ·rw[ae (by omega)]at hn;obtain rfl:i=0:=by omega
  exact⟨rfl,bO.1,bO.2⟩
theorem En {bs X:List UInt8}{n i aT k:Nat}{x er:Int}(hn:n=if (bs.getD 0 0).toNat=1 then 4 else 1)(hi:i<n)(hq:∀ q,gW bs q→X.drop aT=vR q i)(hg:lH (X.drop aT) x k er)
   (hb:er≠0∨x<0∨1099511627776<x):ew bs=none:=ny λ⟨q,h⟩=>by
 obtain⟨h1,h2,h3⟩:=J3 h hn hi;obtain⟨e1,e2,e3⟩:=hg.2.2.2.2 (vQ q i) (vR q (i+1)) (by omega) (by omega) (by rw[hq q h,h1]);omega
section
variable {W w:World}{L:List SP}{n c m:Nat}{ad:Option Addr}{bs:List UInt8}{p:Pk}
theorem XP (I:U W w L)(hb:bs.length≤65536)(hc:bs.length≤c)(hp:∀ V,U W V L→a6 V ad bs.length bs) :
   Calls prog 189 #[.slice ad bs.length c] w λe V=>∃ (p:Pk) (adP:Option Addr) (cP:Nat) (ok:Bool),e=.returned (.tuple #[.agg (dI p adP cP).toArray,.bool ok])∧(ok=true→ew bs=some p)∧(ok=false→ew bs=none)∧U W V (Sl 5 1 adP p.al.length cP (bc p.al)::L):=by
 have q9:∀ {V},U W V L→ew bs=none→∃ (p:Pk) (adP:Option Addr) (cP:Nat) (ok:Bool),Ending.returned (.tuple #[.agg (dI mX none 0).toArray,.bool false])=.returned (.tuple #[.agg (dI p adP cP).toArray,.bool ok])∧(ok=true→ew bs=some p)∧(ok=false→ew bs=none)∧U W V (Sl 5 1 adP p.al.length cP (bc p.al)::L) :=
  λI bU=>⟨mX,none,0,false,rfl,λh=>(by cases h),λ_=>bU,I.bM _ _ _⟩
 refine EN func189 ntmps189 rfl rfl λa E=>?_;refine AL 1 E I λb2 a w E I=>?_;refine IF 6 E I (λaj a E=>?_) λaj a E=>?_
 ·
  have bU:ew bs=none:=DX λq hq=>by
   have:=congrArg List.length hq.2.2;have hm:1≤(kM q).length:=by rw[kM,aL];have:=qR (zz q.id);omega
   rw[xL]at this;omega
  refine SA 2 E I λa w E I=>?_;refine RT 1 E I ?_;exact q9 I.tail bU
 obtain⟨bb,oo,rfl,_⟩:=(hp _ I.tail).get (by omega);have h7:8≤bs.length:=by omega
 refine RN 5 E I λa E=>?_;rw[show (bs.length:Int)-4=((bs.length-4:Nat):Int) from by omega]at E;refine RN 1 E I λa E=>?_;obtain⟨X,ic⟩:∃ X,X=(bs.drop 3).take (bs.length-7):=⟨_,rfl⟩;have XQ:X.length=bs.length-7:=by rw[ic,et,c6];omega
 have hr:qf W L (fk (some ⟨bb,oo,none⟩) 3 c 1) (c-3) X:=⟨by omega,by omega,λV hw=>by
  rw[XQ,ic];exact ((hp V hw).tW (lo:=3) (by omega) hc).DE (by rw[c6];omega)⟩
 have lE:∀ q,gW bs q→(q.kind=((bs.getD 0 0).toNat:Int)∧q.aV=((bs.getD 1 0).toNat:Int)∧q.to=((bs.getD 2 0).toNat:Int))∧X=kM q:=λq h=>by
  rw[ic];exact Ej h
 rw[show bs.length-4-3=X.length from by omega]at E;have hXp:1≤X.length:=by omega
 obtain⟨mg,ox,XR,_⟩:=(hr.rd _ I.tail).get (by omega);rw[XR]at E hr;generalize c-3=dK at E hr;clear ic;refine aZ 2 (λw0 w=>Rd w bb oo (bc bs)) [6,7,10,11,13] [0,1,4,5,8,9,3002,3,3006,3007,3010,3011,12,1013,1014] E I λa w E I hH=>?_;have hC:Rd w bb oo (bc bs):=(hp _ I.tail).rd (by omega);refine RH 6 E I hH hC λa E=>?_;refine QH E (λw hc=>ag E (hc 0 _ (kN (by omega)))) hC λa E=>?_;refine QP E (λw=>oR E underlying5 underlying3 (sH _)) λa E=>?_;refine QH E (λw hc=>ag E (hc 1 _ (kN (by omega)))) hC λa E=>?_;refine QH E (λw hc=>oR E underlying5 underlying3 (sH _)) hC λa E=>?_;refine QH E (λw hc=>ag E (hc 2 _ (kN (by omega)))) hC λa E=>?_;refine QH E (λw hc=>oR E underlying5 underlying3 (sH _)) hC λa E=>?_;refine RH 1 E I hH hC λa E=>?_;refine eR E rfl I Ty.t203 rfl λb5 a w E I ho=>?_;clear ho;replace hC:=hH.at w ((hp _ I.tail.tail).rd (by omega));refine RH 0 E I hH hC λa E=>?_;refine SA 0 E I λa w E I=>?_;refine AL 1 E I λcG a w E I=>?_;refine RN 4 E I λa E=>?_;refine b7 (M:=λa w=>∃ n:Nat,n=(if (bs.getD 0 0).toNat=1 then 4 else 1)∧Fr a 153 [(0,.slice (some ⟨bb,oo,none⟩) bs.length c),(2,pt b2),(4,.slice (some ⟨mg,ox,none⟩) X.length dK),(5,pt b5),(6,pt cG),(7,.int .i64 (0:Nat)),(8,.int .i64 n)]∧U W w (aa cG 345 (ints .i64 4 (λ_=>0))::aa b5 203 (dI ⟨((bs.getD 0 0).toNat:Int),((bs.getD 1 0).toNat:Int),((bs.getD 2 0).toNat:Int),0,0,0,0,0,[]⟩ none 0)::aa b2 203 (dI mX none 0)::L)) ?_ ?_
 ·
  refine IF 4 E I (λao a E=>?_) λao a E=>?_
  ·
   refine RN 1 E I λa E=>?_;exact⟨4,by rw[ak (by omega)],E.ab [0,2,4,5,6,7,8],I⟩
  refine RN 0 E I λa E=>?_;exact⟨1,by rw[ae (by omega)],E.ab [0,2,4,5,6,7,8],I⟩
 clear E;(try clear I);rintro a w ⟨n,hn,E,I⟩;refine RN 3 E I λa E=>?_;refine aR (λμ a w=>∃ (i k:Nat) (g:Nat→Int),(μ=n-i∧i≤n∧k≤X.length∧(∀ j,i≤j→g j=0)∧∀ q,gW bs q→X.drop k=vR q i∧∀ j,j<i→g j=vQ q j)∧Fr a 153 [(0,.slice (some ⟨bb,oo,none⟩) bs.length c),(2,pt b2),(4,.slice (some ⟨mg,ox,none⟩) X.length dK),(5,pt b5),(6,pt cG),(7,.int .i64 k),(8,.int .i64 n),(9,.int .i64 i)]∧U W w (aa cG 345 (ints .i64 4 g)::aa b5 203 (dI ⟨((bs.getD 0 0).toNat:Int),((bs.getD 1 0).toNat:Int),((bs.getD 2 0).toNat:Int),0,0,0,0,0,[]⟩ none 0)::aa b2 203 (dI mX none 0)::L)) (n) (⟨0,0,λ_=>0,⟨rfl,by omega,by omega,λ_ _=>rfl,λq h=>⟨by rw[drop_zero];exact (lE q h).2,λj hj=>absurd hj (by omega)⟩⟩,E.ab [0,2,4,5,6,7,8,9],I⟩) ?_;clear E I;rintro μ a w ⟨i,k,g,⟨rfl,hi,hk,Af,ue⟩,E,I⟩;refine IF 5 E I (λay a E=>?_) λay a E=>?_
 ·
  have cD:i<n:=by omega
  have pR:i<4:=by rw[hn]at cD;split at cD <;> omega
  have fP:=hr.cut hk;have hlk:=fP.len;refine RN 5 E I λa E=>?_;rw[show X.length-k=(X.drop k).length from by simp]at E;refine jI 0 E I (D1 (bs:=X.drop k) I (by omega) (λV hw=>fP.rd V hw.tail.tail.tail)) λx m er a w E ⟨mR,I⟩=>?_;refine BY 12 E I (λbA a E=>?_) λbA a E=>?_
  ·
   refine SA 10 E I λa w E I=>?_;refine RT 1 E I ?_;have bU:=En hn cD (λq h=>(ue q h).1) mR (.inl (by simpa using bA));exact q9 I.tail.tail.tail bU
  refine BY 4 E I (λjS a E=>?_) λjS a E=>?_
  ·
   refine SA 6 E I λa w E I=>?_;refine RT 1 E I ?_;have bU:=En hn cD (λq h=>(ue q h).1) mR (.inr (.inl (by simpa using jS)));exact q9 I.tail.tail.tail bU
  refine IF 3 E I (λbh a E=>?_) λbh a E=>?_
  ·
   refine SA 2 E I λa w E I=>?_;refine RT 1 E I ?_;have bU:=En hn cD (λq h=>(ue q h).1) mR (.inr (.inr (by simpa using bh)));exact q9 I.tail.tail.tail bU
  refine ST 4 E I (λa w E I=>?_) (hlt:=(by rw[df];omega));rw[ints_set,show (λj=>if j=i then x else g j)=cd g i x from rfl]at I;refine RN 0 E I λa E=>?_;have XS:=(mR.2.2.1 (by simpa using bA)).2;rw[c6]at XS;refine RN 7 E I λa E=>?_;refine⟨n-(i+1),by omega,i+1,k+m,cd g i x,⟨rfl,by omega,?_,?_,λq h=>?_⟩,E.ab [0,2,4,5,6,7,8,9],I⟩
  ·have:=(mR.2.2.1 (by simpa using bA)).2;rw[c6]at this;omega
  ·intro j hj;rw[cd,ae (by omega)];exact Af j (by omega)
  ·obtain⟨h1,h2⟩:=ue q h;obtain⟨h3,h4,h5⟩:=J3 h hn cD;obtain⟨e1,e2,e3⟩:=mR.2.2.2.2 (vQ q i) (vR q (i+1)) (by omega) (by omega) (by rw[h1,h3]);refine⟨by rw[← drop_drop,h1,h3,e2,drop_left],λj hj=>?_⟩;by_cases gG:j=i
   ·subst gG;rw[cd,ak rfl,e1]
   ·rw[cd,ae gG];exact h2 j (by omega)
 obtain rfl:i=n:=by omega
 rw[show dI ⟨((bs.getD 0 0).toNat:Int),((bs.getD 1 0).toNat:Int),((bs.getD 2 0).toNat:Int),0,0,0,0,0,[]⟩ none 0=[.int .i64 ((bs.getD 0 0).toNat:Int),.int .i64 ((bs.getD 1 0).toNat:Int),.int .i64 ((bs.getD 2 0).toNat:Int),.int .i64 0,.int .i64 0,.slice none 0 0,.int .i64 0,.int .i64 0,.int .u32 (0:Nat)] from rfl]at I;refine aZ 1 (λw0 V=>Rd V cG 0 (ints .i64 4 g)) [3,5,7,9,10,11,12,13] [0,2,4,6,3001,8,3003,3005,3007,1009,1010,1011,1012,1013,14,1015] E I λa w E I hH=>?_;have hC:=hH.at w I.ai;refine RH 4 E I hH hC λa E=>?_;refine QH E (λw hc=>ag E (hc 0 _ (fO g (by decide)))) hC λa E=>?_;refine RH 1 E I hH hC λa E=>?_;refine QH E (λw hc=>ag E (hc 1 _ (fO g (by decide)))) hC λa E=>?_;refine QH E (λw hc=>ag E (hc 2 _ (fO g (by decide)))) hC λa E=>?_;refine QH E (λw hc=>ag E (hc 3 _ (fO g (by decide)))) hC λa E=>?_;refine RH 0 E I hH hC λa E=>?_;refine ST 0 E I (λa w E I=>?_);replace hC:=hH.at w I.ai;refine RH 1 E I hH hC λa E=>?_;refine ST 0 E I (λa w E I=>?_);replace hC:=hH.at w I.ai;refine RH 1 E I hH hC λa E=>?_;refine ST 0 E I (λa w E I=>?_);replace hC:=hH.at w I.ai;refine RH 1 E I hH hC λa E=>?_;refine ST 0 E I (λa w E I=>?_);refine RN 0 E I λa E=>?_;refine b7 (M:=λa w=>∃ (p:Pk) (adP:Option Addr) (cP:Nat),p.sum<4294967296∧(∀ q,gW bs q→p=q)∧Fr a 153 [(0,.slice (some ⟨bb,oo,none⟩) bs.length c),(2,pt b2),(5,pt b5)]∧U W w (aa b5 203 (dI p adP cP)::Sl 5 1 adP p.al.length cP (bc p.al)::aa b2 203 (dI mX none 0)::L)) ?_ ?_
 ·
  refine IF 4 E I (λbR a E=>?_) λbR a E=>?_
  ·
   have gU:∀ q,gW bs q→X.drop k=lI q∧q.al.length≤32:=λq h=>by
    rw[ak (by omega)]at hn;refine⟨by rw[(ue q h).1,hn];rfl,?_⟩;rcases Em h with k | k
    ·exact k.2.2.2.2.1
    ·rw[k.2.2.2.2.1];simp
   refine IF 7 E I (λeE a E=>?_) λeE a E=>?_
   ·
    have bU:ew bs=none:=ny λ⟨q,h⟩=>by
     have:=congrArg List.length (gU q h).1;rw[lI,aL,ml,c6]at this;omega
    refine SA 2 E I λa w E I=>?_;refine RT 1 E I ?_;exact q9 I.tail.tail.tail bU
   have oe:k+4≤X.length:=by omega
   refine RN 3 E I λa E=>?_;refine aR (λμ a w=>∃ (j:Nat),(μ=4-j∧j≤4)∧Fr a 153 [(0,.slice (some ⟨bb,oo,none⟩) bs.length c),(2,pt b2),(4,.slice (some ⟨mg,ox,none⟩) X.length dK),(5,pt b5),(7,.int .i64 k),(13,.int .i64 j)]∧U W w (aa b5 203 [.int .i64 ((bs.getD 0 0).toNat:Int),.int .i64 ((bs.getD 1 0).toNat:Int),.int .i64 ((bs.getD 2 0).toNat:Int),.int .i64 (g 0),.int .i64 (g 1),.slice none 0 0,.int .i64 (g 2),.int .i64 (g 3),.int .u32 (mm ((X.drop k).take j):Nat)]::aa b2 203 (dI mX none 0)::L)) (4) (⟨0,⟨rfl,by omega⟩,E.ab [0,2,4,5,7,13],(I.perm (List.Perm.swap _ _ _)).tail⟩) ?_;clear E I;rintro μ a w ⟨j,⟨rfl,hj⟩,E,I⟩;refine IF 4 E I (λmS a E=>?_) λmS a E=>?_
   ·
    have hj4:j<4:=by omega
    have xf:k+j<X.length:=by omega
    have nh:=Aa ((X.drop k).take j) 3 (by rw[et];omega);rw[show (256:Nat) ^ 3=16777216 from by decide]at nh;have dG:j<(X.drop k).length:=by rw[c6];omega
    have jx:=JY dG;rw[show (X.drop k)[j]=X[k+j] from List.getElem_drop ..]at jx;have qe:=lF X[k+j];refine aZ 1 (λw0 V=>V.cell? ⟨b5,8,none⟩=some (.int .u32 (mm ((X.drop k).take j):Nat))∧Rd V mg ox (bc X)) [8,9] [0,3,4,5,6,7,3001,2,1008,1009,10,11,1012] E I λa w E I hH=>?_;have hC:=hH.at w ⟨I.bB rfl,(hr.rd _ I.tail.tail).rd (by omega)⟩;refine RH 6 E I hH hC λa E=>?_;refine QH E (λw hc=>ag E (hc.1)) hC λa E=>?_;refine RH 1 E I hH hC λa E=>?_;rw[show IntKind.u32.wrap (((mm ((X.drop k).take j):Nat):Int)*256)=((mm ((X.drop k).take j)*256:Nat):Int) from by rw[wrap_u32];omega]at E;refine SS E (ag E (hC.2 (k+j) _ (dO xf))) λa E=>?_;refine RH 0 E I hH hC λa E=>?_;refine SX 0 E I (by rw[wrap_u32];omega) λa E=>?_;refine RH 1 E I hH hC λa E=>?_;rw[show IntKind.u32.wrap (((mm ((X.drop k).take j)*256:Nat):Int)+(X[k+j].toNat:Int))=((mm ((X.drop k).take (j+1)):Nat):Int) from by rw[wrap_u32,jx];omega]at E;refine RH 1 E I hH hC λa E=>?_;refine ST 0 E I (λa w E I=>?_);refine RN 3 E I λa E=>?_;exact⟨4-(j+1),by omega,j+1,⟨rfl,by omega⟩,E.ab [0,2,4,5,7,13],I⟩
   obtain rfl:j=4:=by omega
   have qd:=hr.cut oe;have hl4:=qd.len;have lJ:=Aa ((X.drop k).take 4) 4 (by rw[et];omega);rw[show (256:Nat) ^ 4=4294967296 from by decide]at lJ;have ch:∀ q,gW bs q→q.sum=mm ((X.drop k).take 4)∧X.drop (k+4)=aO (zz (q.al.length:Int))++dy q.al 0∧q.al.length≤32:=λq h=>by
    obtain⟨h1,h2⟩:=gU q h;rw[← drop_drop,h1,lI];exact⟨(JX h.2.1).symm,rfl,h2⟩
   generalize mm ((X.drop k).take 4)=Ag at I lJ ch;refine RN 8 E I λa E=>?_;rw[show X.length-(k+4)=(X.drop (k+4)).length from by simp]at E;refine jI 0 E I (D1 (bs:=X.drop (k+4)) I (by omega) (λV hw=>qd.rd V hw.tail.tail)) λx m er a w E ⟨mR,I⟩=>?_;refine BY 12 E I (λbA a E=>?_) λbA a E=>?_
   ·
    refine SA 10 E I λa w E I=>?_;refine RT 1 E I ?_;have bU:ew bs=none:=ny λ⟨q,h⟩=>by
     obtain⟨_,e2,Ah⟩:=ch q h;have:=(mR.2.2.2.2 (q.al.length:Int) _ (by omega) (by omega) e2).2.2;simp[this]at bA
    exact q9 I.tail.tail bU
   refine BY 4 E I (λjS a E=>?_) λjS a E=>?_
   ·
    refine SA 6 E I λa w E I=>?_;refine RT 1 E I ?_;have bU:ew bs=none:=ny λ⟨q,h⟩=>by
     obtain⟨_,e2,Ah⟩:=ch q h;have:=(mR.2.2.2.2 (q.al.length:Int) _ (by omega) (by omega) e2).1;omega
    exact q9 I.tail.tail bU
   refine IF 3 E I (λki a E=>?_) λki a E=>?_
   ·
    refine SA 2 E I λa w E I=>?_;refine RT 1 E I ?_;have bU:ew bs=none:=ny λ⟨q,h⟩=>by
     obtain⟨_,e2,Ah⟩:=ch q h;have:=(mR.2.2.2.2 (q.al.length:Int) _ (by omega) (by omega) e2).1;omega
    exact q9 I.tail.tail bU
   refine RN 1 E I λa E=>?_;have lX:=(mR.2.2.1 (by simpa using bA)).2;rw[c6]at lX;have sG:=hr.cut (k:=k+4+m) (by omega);refine RN 5 E I λa E=>?_;rw[show X.length-(k+4+m)=(X.drop (k+4+m)).length from by simp]at E;refine jJ 0 E I (Xj (m:=32) (bs:=X.drop (k+4+m)) I sG.len sG.cap (by omega) (λV hw=>sG.rd V hw.tail.tail)) ?_;clear E I;rintro e w ⟨out,aq,cO,e2,rfl,ni,I⟩;refine⟨_,rfl,λa E=>?_⟩;refine RN 5 E I λa E=>?_;have mL:∀ q,gW bs q→out=q.al∧e2=0:=λq h=>by
    obtain⟨_,e2,Ah⟩:=ch q h;obtain⟨f1,f2,f3⟩:=mR.2.2.2.2 (q.al.length:Int) _ (by omega) (by omega) e2;refine ni.2.2 q.al Ah ?_;rw[← drop_drop,e2,f2,drop_left]
   refine IF 4 E I (λmc a E=>?_) λmc a E=>?_
   ·
    refine SA 2 E I λa w E I=>?_;refine RT 1 E I ?_;have bU:ew bs=none:=ny λ⟨q,h⟩=>by
     have:=(mL q h).2;omega
    exact q9 I.tail.tail.tail bU
   refine ST 2 E I (λa w E I=>?_);refine RN 0 E I λa E=>?_;refine⟨⟨((bs.getD 0 0).toNat:Int),((bs.getD 1 0).toNat:Int),((bs.getD 2 0).toNat:Int),g 0,g 1,g 2,g 3,Ag,out⟩,aq,cO,lJ,λq h=>?_,E.ab [0,2,5],I⟩;obtain⟨h1,h2,h3⟩:=(lE q h).1;have h4:=(ue q h).2;rw[ak (by omega)]at hn;rw[h4 0 (by omega),h4 1 (by omega),h4 2 (by omega),h4 3 (by omega),← h1,← h2,← h3,(mL q h).1,← (ch q h).1];rfl
  refine RN 0 E I λa E=>?_;refine⟨⟨((bs.getD 0 0).toNat:Int),((bs.getD 1 0).toNat:Int),((bs.getD 2 0).toNat:Int),g 0,g 1,g 2,g 3,0,[]⟩,none,0,(by show 0<4294967296;decide),λq h=>?_,E.ab [0,2,5],(((I.perm (List.Perm.swap _ _ _)).tail.bM 5 1 none)).perm (List.Perm.swap _ _ _)⟩;obtain⟨h1,h2,h3⟩:=(lE q h).1;have h4:=(ue q h).2;rw[ae (by omega)]at hn;rcases Em h with k | k
  ·omega
  ·obtain⟨lf,k1,k2,k3,k4,xU⟩:=k;have h5:=h4 0 (by omega);have h6:=Af 1 (by omega);have h7:=Af 2 (by omega);have h8:=Af 3 (by omega);rw[h5,h6,h7,h8,← h1,← h2,← h3];show Pk.mk q.kind q.aV q.to q.id 0 0 0 0 []=q;cases q;simp_all
 clear E;(try clear I);rintro a w ⟨p,adP,cP,lJ,J4,E,I⟩;refine aZ 1 (λw0 V=>Rd V b5 0 (dI p adP cP)∧a6 V (some ⟨bb,oo,none⟩) bs.length bs) [1,2,3,5,6,7] [4,3000,3001,3005,1002,2003,3006,1007,8] E I λa w E I hH=>?_;have hC:=hH.at w ⟨I.ai,hp _ I.tail.tail.tail⟩;refine RH 1 E I hH hC λa E=>?_;refine QH E (λw hc=>bT E underlying203 rfl Ty.t203 (hc.1)) hC λa E=>?_;refine QH E (λw hc=>bT E underlying203 rfl Ty.t203 (hc.1)) hC λa E=>?_;refine QH E (λw hc=>lV E underlying22 underlying5 underlying9 (hc.2)) hC λa E=>?_;refine RH 0 E I hH hC λa E=>?_;refine aY 0 E I (Ei (p:=p) I lJ (λV hw=>hw.cF adP p.al rfl rfl)) λadE cE a w E I=>?_;replace hC:=hH.at w ⟨I.ai,hp _ I.tail.tail.tail.tail⟩;refine RH 0 E I hH hC λa E=>?_;refine DN [(3,[3006,1007,8]),(7,[1003,3006,8])] (by kernel_rfl) rfl ⟨⟨_,rfl,?_⟩,⟨_,rfl,?_⟩,trivial⟩
 ·
  refine RH 0 E I hH hC λa E=>?_;refine SS E (lV E underlying22 underlying5 underlying9 ((I.cF adE (aS p) rfl rfl))) λa E=>?_;refine RH 0 E I hH hC λa E=>?_;refine QH E (λw hc=>rL E) hC λa E=>?_;refine RH 0 E I hH hC λa E=>?_;refine SA 0 E I λa w E I=>?_;replace hC:=hH.at w ⟨I.ai,hp _ I.tail.tail.tail.tail⟩;refine RH 1 E I hH hC λa E=>?_;refine RT 0 E I ?_;refine⟨p,adP,cP,_,rfl,λh=>?_,λh=>?_,I.sub⟩
  ·rw[qI]at h;exact zZ ((DZ (λe=>by rw[e]at h7;simp at h7) lJ).2 (by simpa using h))
  ·refine ny λ⟨q,hd⟩=>?_;have e:aS p=bs:=by rw[J4 q hd,aS,ak hd.1];exact hd.2.2
   rw[e,qI]at h;simp at h
 refine RH 0 E I hH hC λa E=>?_;refine SA 0 E I λa w E I=>?_;replace hC:=hH.at w ⟨I.ai,hp _ I.tail.tail.tail.tail⟩;refine RH 0 E I hH hC λa E=>?_;refine SS E (lV E underlying22 underlying5 underlying9 ((I.cF adE (aS p) rfl rfl))) λa E=>?_;refine RH 0 E I hH hC λa E=>?_;refine QH E (λw hc=>rL E) hC λa E=>?_;refine RH 1 E I hH hC λa E=>?_;refine RT 0 E I ?_;refine⟨p,adP,cP,_,rfl,λh=>?_,λh=>?_,I.sub⟩
 ·rw[qI]at h;exact zZ ((DZ (λe=>by rw[e]at h7;simp at h7) lJ).2 (by simpa using h))
 ·refine ny λ⟨q,hd⟩=>?_;have e:aS p=bs:=by rw[J4 q hd,aS,ak hd.1];exact hd.2.2
  rw[e,qI]at h;simp at h
end
end
section
section
variable {W w:World}{L:List SP}{c:Nat}{ad:Option Addr}{g:Nat→Int}
theorem xV (I:U W w L):Calls prog 177 #[.agg (ints .i32 32 g).toArray] w λe V=>∃ ad c,e=.returned (.slice ad 128 c)∧U W V (Sl 5 1 ad 128 c (bc (gj g))::L):=by
 refine EN func177 ntmps177 rfl rfl λa E=>?_;refine BX 1 E I λb1 a w E I=>?_;refine RN 7 E I λa E=>?_;refine aR (λμ a w=>∃ (i:Nat) (ad:Option Addr) (c:Nat),(μ=32-i∧i≤32)∧Fr a 16 [(3,.slice ad (lG g i).length c),(6,.agg (ints .i32 32 g).toArray),(7,.int .i64 i)]∧U W w (Sl 5 1 ad (lG g i).length c (bc (lG g i))::L)) (32) (⟨0,none,0,⟨rfl,by omega⟩,E.ab [3,6,7],I.tail.bM 5 1 none⟩) ?_;clear E I;rintro μ a w ⟨i,ad,c,⟨rfl,hi⟩,E,I⟩;refine IF 3 E I (λaj a E=>?_) λaj a E=>?_
 ·
  have Eo:i<32:=by omega
  have qh:=qW g i;refine RN 2 E I λa E=>?_;refine SS E (rM E underlying183 underlying21 rfl Ty.t21 (by omega) (fO g Eo)) λa E=>?_;refine bg 3 E I (WV I) λad2 a w E I=>?_;refine RN 0 E I λa E=>?_;refine gV E rfl I underlying22 Ty.t5 rfl rfl (by decide) (λh0=>(I.cF ad2 (fc (pc (g i))) rfl rfl).get h0) (by rw[dw];rfl) (ep _) (by rw[ml];omega) λaeK c13 a w E I=>?_;rw[← fH,← DG]at I;rw[show (lG g i).length+(fc (pc (g i))).length=(lG g (i+1)).length from by rw[qW,qW,ml];omega]at E I;refine RN 3 E I λa E=>?_;exact⟨32-(i+1),by omega,i+1,_,_,⟨rfl,by omega⟩,E.ab [3,6,7],I.sub⟩
 obtain rfl:i=32:=by omega
 rw[show (lG g 32).length=128 from qW g 32]at E I;refine RT 3 E I ?_;exact⟨_,_,rfl,I⟩
theorem XT (I:U W w L):Calls prog 139 #[.agg (ints .i32 32 g).toArray] w λe V=>e=.returned (.int .u32 (jf (gj g)))∧U W V L:=by
 refine EN func139 ntmps139 rfl rfl λa E=>?_;refine BX 1 E I λb1 a w E I=>?_;refine aY 3 E I (xV I) λad c a w E I=>?_;rw[show 128=(gj g).length from (tY g).symm]at E I;refine CL 0 E I (Jr I (by rw[tY];decide) (λV hw=>hw.cF ad (gj g) rfl rfl)) λa w E I=>?_;refine RT 1 E I ?_;exact⟨rfl,I.sub⟩
theorem uf (I:U W w L):Calls prog 115 #[.agg (ints .i32 32 g).toArray] w λe V=>∃ ad c,e=.returned (.slice ad 128 c)∧U W V (Sl 5 1 ad 128 c (bc (gj g))::L):=by
 refine EN func115 ntmps115 rfl rfl λa E=>?_;refine BX 1 E I λb1 a w E I=>?_;refine RN 6 E I λa E=>?_;refine aR (λμ a w=>∃ (i:Nat) (ad:Option Addr) (c:Nat),(μ=32-i∧i≤32)∧Fr a 17 [(1,pt b1),(3,.slice ad (lG g i).length c),(4,.int .i64 i)]∧U W w (Sl 5 1 ad (lG g i).length c (bc (lG g i))::aa b1 49 (ints .i32 32 g)::L)) (32) (⟨0,none,0,⟨rfl,by omega⟩,E.ab [1,3,4],I.bM 5 1 none⟩) ?_;clear E I;rintro μ a w ⟨i,ad,c,⟨rfl,hi⟩,E,I⟩;refine IF 4 E I (λaj a E=>?_) λaj a E=>?_
 ·
  have Eo:i<32:=by omega
  have qh:=qW g i;refine RN 4 E I λa E=>?_;refine SS E (ag E (I.bB (b:=b1) (fO g Eo))) λa E=>?_;refine RN 0 E I λa E=>?_;refine SS E (gg E underlying21 underlying100) λa E=>?_;rw[Jq]at E;refine bg 0 E I (DJ I) λad2 a w E I=>?_;refine RN 0 E I λa E=>?_;refine gV E rfl I underlying22 Ty.t5 rfl rfl (by decide) (λh0=>(I.cF ad2 (fc (pc (g i))) rfl rfl).get h0) (by rw[dw];rfl) (ep _) (by rw[ml];omega) λJ5 J6 a w E I=>?_;rw[← fH,← DG]at I;rw[show (lG g i).length+(fc (pc (g i))).length=(lG g (i+1)).length from by rw[qW,qW,ml];omega]at E I;refine RN 4 E I λa E=>?_;exact⟨32-(i+1),by omega,i+1,_,_,⟨rfl,by omega⟩,E.ab [1,3,4],I.sub⟩
 obtain rfl:i=32:=by omega
 rw[show (lG g 32).length=128 from qW g 32]at E I;refine RT 3 E I ?_;exact⟨_,_,rfl,(I.perm (List.Perm.swap _ _ _)).tail⟩
theorem XU (I:U W w L):Calls prog 106 #[.agg (ints .i32 32 g).toArray] w λe V=>e=.returned (.int .u32 (jf (gj g)))∧U W V L:=by
 refine EN func106 ntmps106 rfl rfl λa E=>?_;refine BX 1 E I λb1 a w E I=>?_;refine aY 3 E I (uf I) λad c a w E I=>?_;rw[show 128=(gj g).length from (tY g).symm]at E I;refine CL 0 E I (Jt I (by rw[tY];decide) (λV hw=>hw.cF ad (gj g) rfl rfl)) λa w E I=>?_;refine RT 1 E I ?_;exact⟨rfl,I.sub⟩
end
end
section
def ds (l:List UInt8)(f:Nat)(b:List UInt8):List UInt8:=if l.length<f then l else l++(b.drop (l.length-f)).take (1000-l.length)
theorem ra {l:List UInt8}{f:Nat}{b:List UInt8}(h:l.length≤1000):l.length≤(ds l f b).length∧(ds l f b).length≤1000:=by
 unfold ds;split
 ·omega
 ·rw[aL,et];omega
theorem J7 {l b:List UInt8}{f i:Nat}(hf:f≤l.length)(hi:i<b.length)(h1:l.length-f≤i)(h2:l.length+(i-(l.length-f))<1000) :
   l++(b.drop (l.length-f)).take (i+1-(l.length-f))=(l++(b.drop (l.length-f)).take (i-(l.length-f)))++[b[i]]:=by
 rw[show i+1-(l.length-f)=(i-(l.length-f))+1 from by omega,dv]
 congr 1
 rw[iX (by rw[c6];omega)]
 congr 2
 rw[List.getElem_drop]
 congr 1
 omega
def iA (ls:List (List UInt8)):Nat→Nat
 | 0=>(ls.headD []).length
 | i+1=>min (iA ls i) (ls.getD i []).length
def aU (ls:List (List UInt8)):Nat:=iA ls ls.length
theorem XV (ls:List (List UInt8)):iA ls 1=iA ls 0:=by
 rw[iA,iA];cases ls <;> simp[iA]
theorem J8 {ls:List (List UInt8)}:∀ {i j:Nat},j<i→iA ls i≤(ls.getD j []).length
 | 0,_,h=>absurd h (by omega)
 | i+1,j,h=>by
  rw[iA];by_cases hj:j=i
  ·subst hj;exact Nat.min_le_right _ _
  ·exact gN (Nat.min_le_left _ _) (J8 (by omega))
theorem vS {ls:List (List UInt8)}{l:List UInt8}(h:l∈ls):aU ls≤l.length:=by
 obtain⟨i,hi,rfl⟩:=List.getElem_of_mem h;have:=J8 (ls:=ls) (i:=ls.length) hi
 rwa [bl,aI hi]at this
theorem J9 (ls:List (List UInt8)):∀ i,i≤ls.length→ls≠[]→∃ l∈ls,iA ls i=l.length
 | 0,_,h=>by
  cases ls with
  | nil=>exact absurd rfl h
  | cons a r=>exact⟨a,by simp,rfl⟩
 | i+1,hi,h=>by
  obtain⟨l,hl,e⟩:=J9 ls i (by omega) h;rw[iA];rcases Nat.le_total (iA ls i) (ls.getD i []).length with h1 | h1
  ·rw[Nat.min_eq_left h1];exact⟨l,hl,e⟩
  ·rw[Nat.min_eq_right h1,bl,aI (by omega)];exact⟨ls[i],getElem_mem _,rfl⟩
theorem Ai {ls:List (List UInt8)}(h:ls≠[]):∃ l∈ls,aU ls=l.length:=J9 ls _ (bf _) h
theorem Ep {ls:List (List UInt8)}{n:Nat}(h:ls≠[])(hn:∀ l∈ls,n≤l.length):n≤aU ls:=by
 obtain⟨l,hl,e⟩:=Ai h;rw[e];exact hn l hl
def fu (ls:List (List UInt8))(f i:Nat):List UInt8:=(ls.take i).map (·.getD f 0)
def cr (ls:List (List UInt8))(f:Nat):List UInt8:=ls.map (·.getD f 0)
theorem Aj (ls:List (List UInt8))(f:Nat):fu ls f ls.length=cr ls f:=by rw[fu,take_length,cr]
theorem Ak {ls:List (List UInt8)}{f i:Nat}(h:i<ls.length):fu ls f (i+1)=fu ls f i++[ls[i].getD f 0]:=by
 rw[fu,iX h,cQ];rfl
theorem sJ {ls:List (List UInt8)}{f i:Nat}(h:i≤ls.length):(fu ls f i).length=i:=by
 rw[fu,bd,et];omega
theorem m3 (ls:List (List UInt8))(f:Nat):(cr ls f).length=ls.length:=by rw[cr,bd]
structure Gs where
 kind:Int
 order:Int
 table:List UInt8
def cR (b:Gs):Prop:=(b.kind=1∧b.order=0∧b.table.length=0)∨(b.kind=2∧0≤b.order∧b.order≤3∧b.table.length=0)∨(b.kind=3∧b.order=0∧1≤b.table.length∧b.table.length≤1000)
instance (b:Gs):Decidable (cR b):=inferInstanceAs (Decidable (_∨_))
def xW (o:Nat)(past:List UInt8)(i:Nat):Bool:=(past.drop (i-o)).take o==past.drop (past.length-o)
def gX (o:Nat)(past:List UInt8):Nat→Nat→Int
 | 0=>λ_=>0
 | i+1=>if o≤i∧xW o past i=true then cd (gX o past i) (past.getD i 0).toNat (gX o past i (past.getD i 0).toNat+1) else gX o past i
theorem xX {o:Nat}{past:List UInt8}:∀ {i:Nat},i≤o→gX o past i=λ_=>0
 | 0,_=>rfl
 | i+1,h=>by rw[gX,ae (by omega),xX (by omega)]
theorem Al (o:Nat)(past:List UInt8):∀ (i v:Nat),0≤gX o past i v∧gX o past i v≤i
 | 0,v=>⟨Int.le_refl _,Int.le_refl _⟩
 | i+1,v=>by
  have h:=Al o past i v;have h2:=Al o past i (past.getD i 0).toNat;rw[gX];split
  ·unfold cd;split <;> omega
  ·omega
def gB (b:Gs)(past:List UInt8):Nat→Int:=if b.kind=2 then gX b.order.toNat past past.length else λ_=>0
def ie (past:List UInt8):UInt8:=past.getLastD 0
def lK (w:Nat→Int)(last:Nat):Nat→Nat
 | 0=>last
 | i+1=>if w (lK w last i)<w i then i else lK w last i
theorem Er {w:Nat→Int}{last:Nat}(hl:last<256):∀ {i:Nat},i≤256→lK w last i<256
 | 0,_=>hl
 | i+1,h=>by
  rw[lK];split
  ·omega
  ·exact Er hl (by omega)
theorem Ka {w:Nat→Int}{last:Nat}:∀ {i:Nat},(∀ v,v<i→w v≤w last)→lK w last i=last
 | 0,_=>rfl
 | i+1,h=>by
  have ih:=Ka (i:=i) λv hv=>h v (by omega);rw[lK,ih,ae];have:=h i (by omega);omega
theorem Kb {w:Nat→Int}{last x:Nat}(h0:w last<w x)(h1:∀ v,v<x→w v<w x):∀ {i:Nat},(∀ v,v<i→w v≤w x)→(i≤x→w (lK w last i)<w x)∧(x<i→lK w last i=x)
 | 0,_=>⟨λ_=>h0,λh=>absurd h (by omega)⟩
 | i+1,h=>by
  have ih:=Kb h0 h1 (i:=i) λv hv=>h v (by omega);rw[lK];refine⟨λhi=>?_,λhi=>?_⟩
  ·have:=ih.1 (by omega);have:=h1 i (by omega);split <;> assumption
  ·by_cases hx:x=i
   ·subst hx;rw[ak (ih.1 (by omega))]
   ·rw[ih.2 (by omega),ae];have:=h i (by omega);omega
def m4 (b:Gs)(past:List UInt8):UInt8:=if b.kind=3 then b.table.getD (past.length%b.table.length) 0 else UInt8.ofNat (lK (gB b past) (ie past).toNat 256)
def eh (b:Gs)(past:List UInt8):Nat→List UInt8
 | 0=>past
 | i+1=>eh b past i++[m4 b (eh b past i)]
theorem ig (b:Gs)(past:List UInt8):∀ i,(eh b past i).length=past.length+i
 | 0=>rfl
 | i+1=>by rw[eh,aL,ig b past i];rfl
theorem Kc (b:Gs)(past:List UInt8):∀ i,(eh b past i).take past.length=past
 | 0=>take_length
 | i+1=>by
  rw[eh,List.take_append_of_le_length (by rw[ig];omega),Kc b past i]
def jZ (b:Gs)(past:List UInt8)(n:Nat):List UInt8:=(eh b past n).drop past.length
theorem Es (b:Gs)(past:List UInt8)(n:Nat):(jZ b past n).length=n:=by rw[jZ,c6,ig];omega
theorem ug (b:Gs)(past:List UInt8)(n:Nat):past++jZ b past n=eh b past n:=by
 conv=>lhs;lhs;rw[← Kc b past n]
 rw[jZ,jE]
theorem XW (b:Gs)(past:List UInt8)(n:Nat):jZ b past (n+1)=jZ b past n++[m4 b (past++jZ b past n)]:=by
 rw[ug,jZ,eh,List.drop_append_of_le_length (by rw[ig];omega)];rfl
def nz (b:Gs)(past:List UInt8)(to:Nat):List UInt8:=eh b past (to-past.length)
def iQ (b:Gs)(ls:List (List UInt8))(to:Nat):List (List UInt8):=ls.map λl=>nz b l to
theorem XX (b:Gs)(past:List UInt8)(to:Nat):to≤(nz b past to).length:=by rw[nz,ig];omega
def dt (b:Gs)(ls:List (List UInt8))(to:Nat):List (List UInt8):=(List.range (to-aU ls)).map λi=>cr (iQ b ls to) (aU ls+i)
theorem vT (b:Gs)(ls:List (List UInt8))(to:Nat):(dt b ls to).length=to-aU ls:=by simp[dt]
end
section
abbrev Lx:=Nat×List UInt8
def Ln (x:Lx):SP:=λh=>∃ (ad:Option Addr) (c:Nat),cm [aa x.1 328 [.slice ad x.2.length c],Sl 5 1 ad x.2.length c (bc x.2)] h
section
variable {W w:World}{L L' R:List SP}{n c m lb:Nat}{ad:Option Addr}{l bs:List UInt8}{x:UInt8}
theorem Ln.open (I:U W w (Ln (lb,l)::L)):∃ (ad:Option Addr) (c:Nat),U W w (aa lb 328 [.slice ad l.length c]::Sl 5 1 ad l.length c (bc l)::L):=by
 obtain⟨ad,_,I⟩:=I.jo (p:=λ_=>True) (B:=λad h=>∃ c,cm [aa lb 328 [.slice ad l.length c],Sl 5 1 ad l.length c (bc l)] h) λ_ ⟨ad,c,h⟩=>⟨ad,trivial,c,h⟩;obtain⟨c,_,I⟩:=I.jo (p:=λ_=>True) (B:=λc h=>cm [aa lb 328 [.slice ad l.length c],Sl 5 1 ad l.length c (bc l)] h) λ_ ⟨c,h⟩=>⟨c,trivial,h⟩;exact⟨ad,c,I.open (M:=[_,_]) λ_ h=>h⟩
theorem Ln.close (I:U W w (aa lb 328 [.slice ad l.length c]::Sl 5 1 ad l.length c (bc l)::L)):U W w (Ln (lb,l)::L) :=
 U.shut (M:=[_,_]) I λ_ h=>⟨ad,c,h⟩
theorem Ln.mk' (I:U W w L)(ad:Option Addr)(c:Nat)[k:fD L (aa lb 328 [.slice ad l.length c]::Sl 5 1 ad l.length c (bc l)::L') R]:U W w (Ln (lb,l)::L'):=Ln.close (ad:=ad) (c:=c) I.sub
theorem XY (d:Nat):(madeCells (Value.int .u8 0).cells (d*1)).toList=bc (List.replicate d 0):=by
 apply ext_getElem?;intro i;by_cases h:i<d
 ·rw[dO (by simpa using h)];rw[madeCells,Array.getElem?_toList,Array.getElem?_map,Array.getElem?_range];simp[h,Value.cells,Nat.mod_one]
 ·rw[iH (by simp[madeCells];omega),iH (by rw[dw];simp;omega)]
theorem U.Kd {b e sz m:Nat}{cs:List Value}(I:U W w (aa b e cs::L))(h:cs.length=m*sz):U W w (Sl e sz (some ⟨b,0,none⟩) m m cs::L) :=
 U.iG (pre:=[]) (post:=[]) (n:=m) (c:=m) (sz:=sz) (cs:=cs) (by simpa using I) h (bf _) (by rw[Nat.sub_self,Nat.zero_mul];exact Nat.zero_le _)
theorem a6.xY {w:World}{ad:Option Addr}{bs:List UInt8}{c lo n:Nat}(h:a6 w ad bs.length bs)(hl:lo+n≤bs.length)(hc:bs.length≤c):a6 w (fk ad lo c 1) n ((bs.drop lo).take n) :=
 (h.tW (lo:=lo) (by omega) hc).DE (by rw[c6];omega)
theorem XZ {d:Nat}(I:U W w L)(hd:d≤8):Calls prog 168 #[.int .i64 d] w λe V=>∃ lb,e=.returned (pt lb)∧U W V (Ln (lb,List.replicate d 0)::L):=by
 refine EN func168 ntmps168 rfl rfl λa E=>?_;refine RN 6 E I λa E=>?_;rw[show min (max (d:Int) 0) 8=(d:Int) from by omega]at E;refine qA E rfl I underlying22 Ty.t5 rfl (by omega) (by omega) λcG a w E I ho=>?_;clear ho;rw[XY]at I;replace I:=I.Kd (m:=d) (sz:=1) (by rw[dw,jK,Nat.mul_one]);refine BX 1 E I λb8 a w E I=>?_;refine RN 1 E I λa E=>?_;replace I:U W w (aa b8 328 [.slice (some ⟨cG,0,none⟩) (List.replicate d (0:UInt8)).length d]::Sl 5 1 (some ⟨cG,0,none⟩) (List.replicate d (0:UInt8)).length d (bc (List.replicate d 0))::L):=by
  rw[jK];exact I
 refine RT 0 E I ?_;exact⟨b8,rfl,Ln.close I⟩
theorem Am (I:U W w (Ln (lb,l)::L)):Calls prog 172 #[pt lb] w λe V=>e=.returned (.int .i64 l.length)∧U W V (Ln (lb,l)::L):=by
 obtain⟨ad,c,I⟩:=Ln.open I;refine EN func172 ntmps172 rfl rfl λa E=>?_;refine RN 6 E I λa E=>?_;replace E:=E.aN 4;refine RT 8 E I ?_;exact⟨rfl,Ln.close I⟩
theorem Ke {f:Nat}(I:U W w (Ln (lb,l)::L)):Calls prog 173 #[pt lb,.int .i64 f] w λe V=>e=.returned (.tuple #[.int .u8 ((l.getD f 0).toNat:Nat),.bool (decide (f<l.length))])∧U W V (Ln (lb,l)::L):=by
 refine EN func173 ntmps173 rfl rfl λa E=>?_;refine RN 8 E I λa E=>?_;rw[bn (by omega)]at E;refine CL 2 E I (Am I) λa w E I=>?_;refine IF 2 E I (λaj a E=>?_) λaj a E=>?_
 ·
  refine RT 3 E I ?_;exact⟨by rw[bl,iH (by omega),bn (by omega)];rfl,I⟩
 obtain⟨ad,c,I⟩:=Ln.open I;have gw:f<l.length:=by omega
 obtain⟨b,o,rfl,hr⟩:=(I.cF ad l rfl rfl).get (by omega);refine RN 7 E I λa E=>?_;refine SS E (ag E (hr f _ (kN gw))) λa E=>?_;refine RT 2 E I ?_;exact⟨by rw[dk gw],Ln.close I⟩
theorem Kf (I:U W w (Ln (lb,l)::L))(hl:l.length≤1000):Calls prog 314 #[pt lb,.int .u8 (x.toNat:Nat)] w λe V=>e=.returned (.int .i64 (if l.length<1000 then 0 else 4))∧U W V (Ln (lb,if l.length<1000 then l++[x] else l)::L):=by
 obtain⟨ad,c,I⟩:=Ln.open I;refine EN func314 ntmps314 rfl rfl λa E=>?_;refine RN 7 E I λa E=>?_;replace E:=E.aN 5;refine IF 9 E I (λao a E=>?_) λao a E=>?_
 ·
  refine RT 2 E I ?_;exact⟨by rw[ae (by omega)],by rw[ae (by omega)];exact Ln.close I⟩
 refine RN 7 E I λa E=>?_;refine cn E rfl I underlying22 Ty.t5 rfl rfl rfl rfl (by decide) (by decide) λb21 a w E I ho=>?_;clear ho;refine RN 0 E I λa E=>?_;refine cI E rfl I underlying22 Ty.t5 rfl rfl I.ai rfl (ep [x]) (by decide) (by decide) (by omega) λKg Kh a w E I=>?_;rw[show bc l++_=bc (l++[x]) from (fH l [x]).symm]at I;refine ST 2 E I (λa w E I=>?_);refine RN 0 E I λa E=>?_;rw[show l.length+1=(l++[x]).length from by simp]at I;replace I:=I.sub (M:=aa lb 328 [.slice Kg (l++[x]).length Kh]::Sl 5 1 Kg (l++[x]).length Kh (bc (l++[x]))::L);refine RT 2 E I ?_;exact⟨by rw[ak (by omega)],by rw[ak (by omega)];exact Ln.close I⟩
theorem X0 {f:Nat}(I:U W w (Ln (lb,l)::L))(hl:l.length≤1000)(hb:bs.length≤65536)(hp:∀ V,U W V L→a6 V ad bs.length bs) :
   Calls prog 318 #[pt lb,.int .i64 f,.slice ad bs.length c] w λe V=>∃ n er:Int,e=.returned (.tuple #[.int .i64 n,.int .i64 er])∧U W V (Ln (lb,ds l f bs)::L):=by
 refine EN func318 ntmps318 rfl rfl λa E=>?_;refine RN 8 E I λa E=>?_;replace E:=E.aN 11;refine RN 5 E I λa E=>?_;rw[bn (by omega)]at E;refine RN 2 E I λa E=>?_;obtain⟨gY,cl,I⟩:=Ln.open I;refine IF 8 E I (λay a E=>?_) λay a E=>?_
 ·
  replace I:=Ln.close I;refine RT 3 E I ?_;exact⟨_,_,rfl,by rw[ds,ak (by omega)];exact I⟩
 refine RN 11 E I λa E=>?_;rw[show ((l.length:Nat):Int)-(f:Int)=((l.length-f:Nat):Int) from by omega]at E;refine RN 1 E I λa E=>?_;replace I:=Ln.close I;have gw:f≤l.length:=by omega
 refine aR (λμ a w=>∃ (i:Nat),(μ=bs.length-i∧l.length-f≤i∧(i≤bs.length∨i=l.length-f)∧l.length+(i-(l.length-f))≤1000)∧Fr a 51 [(0,pt lb),(2,.slice ad bs.length c),(8,.int .i64 (i-(l.length-f):Nat)),(9,.int .i64 i)]∧U W w (Ln (lb,l++(bs.drop (l.length-f)).take (i-(l.length-f)))::L)) (bs.length-(l.length-f)) (⟨l.length-f,⟨rfl,bf _,.inr rfl,by omega⟩,by rw[Nat.sub_self];exact E.ab [0,2,8,9],by rw[Nat.sub_self,take_zero,append_nil];exact I⟩) ?_;clear E I;rintro μ a w ⟨i,⟨rfl,hi,hib,kX⟩,E,I⟩;refine IF 6 E I (λbh a E=>?_) λbh a E=>?_
 ·
  obtain⟨bb,oo,rfl,hr⟩:=(hp _ I.tail).get (by omega);have aJ:i<bs.length:=by omega
  have hlen:(l++(bs.drop (l.length-f)).take (i-(l.length-f))).length=l.length+(i-(l.length-f)):=by rw[aL,et,c6];omega
  refine RN 7 E I λa E=>?_;refine SS E (ag E (hr i _ (dO aJ))) λa E=>?_;refine CL 0 E I (Kf I (by rw[hlen];omega)) λa w E I=>?_;rw[hlen]at E I;refine IF 4 E I (λbR a E=>?_) λbR a E=>?_
  ·
   have h9:¬ l.length+(i-(l.length-f))<1000:=λh=>bR (ak h);rw[ae h9]at I;refine RT 5 E I ?_;exact⟨_,_,rfl,by rw[ds,ae (by omega),show 1000-l.length=i-(l.length-f) from by omega];exact I⟩
  have h9:l.length+(i-(l.length-f))<1000:=Decidable.of_not_not λh=>by rw[ae h]at bR;cases bR
  rw[ak h9]at I;refine RN 6 E I λa E=>?_;exact⟨bs.length-(i+1),by omega,i+1,⟨rfl,by omega,by omega,by omega⟩,by rw[show ((i+1-(l.length-f):Nat):Int)=((i-(l.length-f):Nat):Int)+1 from by omega];exact E.ab [0,2,8,9],by rw[J7 gw aJ hi h9];exact I⟩
 refine RT 4 E I ?_;exact⟨_,_,rfl,by rw[ds,ae (by omega),fX (by rw[c6];omega)];rw[fX (by rw[c6];omega)]at I;exact I⟩
theorem Ki {f k:Nat}(I:U W w (Ln (lb,l)::L))(hl:l.length≤1000)(hf:f≤1000)(hk:1≤k∧k≤1000) :
   Calls prog 309 #[pt lb,.int .i64 f,.int .i64 k] w λe V=>∃ av c',e=.returned (.slice av ((l.drop f).take k).length c')∧U W V (Sl 5 1 av ((l.drop f).take k).length c' (bc ((l.drop f).take k))::Ln (lb,l)::L):=by
 have eJ:((l.drop f).take k).length=min l.length (f+k)-f:=by rw[et,c6];omega
 refine EN func309 ntmps309 rfl rfl λa E=>?_;refine RN 7 E I λa E=>?_;rw[bn (by omega)]at E;refine CL 2 E I (Am I) λa w E I=>?_;refine BY 3 E I (λfa a E=>?_) λfa a E=>?_
 ·
  have hz:(l.drop f).take k=[]:=by rw[drop_eq_nil_of_le (by omega),List.take_nil]
  refine RT 6 E I ?_;rw[hz];exact⟨_,_,rfl,I.bM _ _ none⟩
 refine RN 3 E I λa E=>?_;rw[bn (by omega)]at E;refine RN 2 E I λa E=>?_;obtain⟨gY,cl,I⟩:=Ln.open I;have cg:=(I.sl gY).2;refine bQ 0 [8,9,14] [0,1,2,4,5,6,7,10,11,12,13,3003,1008,1009,1014,15,1016,17] E I λa w E I hH hC=>?_;refine RH 10 E I hH hC λa E=>?_;rw[show min (k:Int) 1000=(k:Int) from by omega]at E;refine RH 5 E I hH hC λa E=>?_;rw[show min (l.length:Int) ((f:Int)+(k:Int))=((min l.length (f+k):Nat):Int) from by omega]at E;refine RH 1 E I hH hC λa E=>?_;refine aY 0 E I (rT (bs:=(l.drop f).take k) I (λV hw=>by have h1:=(hw.cF gY l rfl rfl).xY (c:=cl) (lo:=f) (n:=min l.length (f+k)-f) (by omega) cg;rw[show (l.drop f).take (min l.length (f+k)-f)=(l.drop f).take k from by rw[← eJ,List.take_eq_take_iff,et,c6];omega]at h1;exact h1) (by omega)) λfl dC a w E I=>?_;refine RN 1 E I λa E=>?_;refine RT 0 E I ?_;exact⟨fl,dC,by rw[eJ],by rw[eJ];exact (Ln.mk' (L':=Sl 5 1 fl (min l.length (f+k)-f) dC (bc ((l.drop f).take k))::L) I gY cl).perm (List.Perm.swap _ _ _)⟩
theorem X1 (I:U W w (Ln (lb,l)::L))(hl:l.length≤1000) :
   Calls prog 293 #[pt lb] w λe V=>∃ av c',e=.returned (.slice av l.length c')∧U W V (Sl 5 1 av l.length c' (bc l)::Ln (lb,l)::L):=by
 have X2:(l.drop 0).take 1000=l:=by rw[drop_zero,fX hl]
 refine EN func293 ntmps293 rfl rfl λa E=>?_;refine aY 4 E I (Ki (f:=0) (k:=1000) I hl (by decide) (by decide)) λfl dC a w E I=>?_;rw[X2]at E I;refine RT 1 E I ?_;exact⟨_,_,rfl,I⟩
end
end
section
def j0 (x:Lx):Value:=pt x.1
def Qu (qb:Nat)(aB:List Nat)(ls:List (List UInt8)):SP:=λh=>∃ (ad:Option Addr) (c:Nat),aB.length=ls.length∧cm [aa qb 288 [.slice ad ls.length c],Sl 289 1 ad ls.length c ((aB.zip ls).map j0),ah Ln (aB.zip ls)] h
section
variable {W w:World}{L L' R:List SP}{n c qb lb i f:Nat}{ad:Option Addr}{ls:List (List UInt8)}{aB:List Nat}{l:List UInt8}{x:UInt8}
theorem Qu.open (I:U W w (Qu qb aB ls::L)):∃ (ad:Option Addr) (c:Nat),aB.length=ls.length∧U W w (aa qb 288 [.slice ad ls.length c]::Sl 289 1 ad ls.length c ((aB.zip ls).map j0)::ah Ln (aB.zip ls)::L):=by
 obtain⟨⟨ad,c⟩,hl,I⟩:=I.jo (ι:=Option Addr×Nat) (p:=λ_=>aB.length=ls.length) (B:=λy h=>cm [aa qb 288 [.slice y.1 ls.length y.2],Sl 289 1 y.1 ls.length y.2 ((aB.zip ls).map j0),ah Ln (aB.zip ls)] h) λ_ ⟨ad,c,hl,h⟩=>⟨(ad,c),hl,h⟩;exact⟨ad,c,hl,I.open (M:=[_,_,_]) λ_ h=>h⟩
theorem Qu.close (I:U W w (aa qb 288 [.slice ad ls.length c]::Sl 289 1 ad ls.length c ((aB.zip ls).map j0)::ah Ln (aB.zip ls)::L))(hl:aB.length=ls.length):U W w (Qu qb aB ls::L) :=
 U.shut (M:=[_,_,_]) I λ_ h=>⟨ad,c,hl,h⟩
theorem Qu.mk' (I:U W w L)(ad:Option Addr)(c:Nat)[k:fD L (aa qb 288 [.slice ad ls.length c]::Sl 289 1 ad ls.length c ((aB.zip ls).map j0)::ah Ln (aB.zip ls)::L') R](hl:aB.length=ls.length):U W w (Qu qb aB ls::L'):=Qu.close (ad:=ad) (c:=c) I.sub hl
theorem uh {aB:List Nat}{ls:List (List UInt8)}(hl:aB.length=ls.length){i:Nat}(h:i<ls.length):(aB.zip ls)[i]?=some (aB.getD i 0,ls.getD i []):=by
 rw[List.getElem?_zip_eq_some];simp only[bl];rw[aI h,aI (by omega)];exact⟨rfl,rfl⟩
def xZ (qb:Nat)(aB:List Nat)(ls:List (List UInt8))(i:Nat):SP:=λh=>∃ (ad:Option Addr) (c:Nat),aB.length=ls.length∧cm [aa qb 288 [.slice ad ls.length c],Sl 289 1 ad ls.length c ((aB.zip ls).map j0),ah Ln ((aB.zip ls).eraseIdx i)] h
theorem Qu.out (I:U W w (Qu qb aB ls::L))(h:i<ls.length):U W w (Ln (aB.getD i 0,ls.getD i [])::xZ qb aB ls i::L):=by
 obtain⟨ad,c,hl,I⟩:=Qu.open I;have hz:=uh hl h;obtain⟨hi,he⟩:=a2.1 hz;replace I:=(I.pick (ah Ln (aB.zip ls))).fE hi;rw[he]at I;have h2:U W w (aa qb 288 [.slice ad ls.length c]::Sl 289 1 ad ls.length c ((aB.zip ls).map j0)::ah Ln ((aB.zip ls).eraseIdx i)::Ln (aB.getD i 0,ls.getD i [])::L):=I.sub;exact (U.shut (M:=[_,_,_]) h2 λ_ h=>⟨ad,c,hl,h⟩:U W w (xZ qb aB ls i::Ln (aB.getD i 0,ls.getD i [])::L)).perm (List.Perm.swap _ _ _)
theorem map_set {α β:Type}(f:α→β)(l:List α)(i:Nat)(x:α):(l.set i x).map f=(l.map f).set i (f x):=by
 apply ext_getElem? ;intro j;simp only[bm,jF,bd];split
 ·split <;> rfl
 ·rfl
theorem Kj {aB:List Nat}{ls:List (List UInt8)}(hl:aB.length=ls.length){i:Nat}(h:i<ls.length)(l:List UInt8):aB.zip (ls.set i l)=(aB.zip ls).set i (aB.getD i 0,l):=by
 apply ext_getElem?;intro j;by_cases hj:j<ls.length
 ·rw[uh (by simpa using hl) (by simpa using hj),jF];by_cases nT:i=j
  ·subst nT;rw[ak rfl,ak (by simp;omega)];simp[bl,h]
  ·rw[ae nT,uh hl hj];simp[bl,getElem?_set_ne nT]
 ·rw[iH (by simp;omega),iH (by simp;omega)]
theorem Qu.in (I:U W w (Ln (aB.getD i 0,l)::xZ qb aB ls i::L))(h:i<ls.length):U W w (Qu qb aB (ls.set i l)::L):=by
 obtain⟨⟨ad,c⟩,hl,I⟩:=(I.pick (xZ qb aB ls i)).jo (ι:=Option Addr×Nat) (p:=λ_=>aB.length=ls.length) (B:=λy h=>cm [aa qb 288 [.slice y.1 ls.length y.2],Sl 289 1 y.1 ls.length y.2 ((aB.zip ls).map j0),ah Ln ((aB.zip ls).eraseIdx i)] h) λ_ ⟨ad,c,hl,h⟩=>⟨(ad,c),hl,h⟩;replace I:U W w (aa qb 288 [.slice ad ls.length c]::Sl 289 1 ad ls.length c ((aB.zip ls).map j0)::ah Ln ((aB.zip ls).eraseIdx i)::Ln (aB.getD i 0,l)::L):=I.open (M:=[_,_,_]) λ_ h=>h;have hz:=uh hl h;obtain⟨hi,he⟩:=a2.1 hz;have h1:U W w (Ln (aB.getD i 0,l)::ah Ln ((aB.zip ls).eraseIdx i)::aa qb 288 [.slice ad ls.length c]::Sl 289 1 ad ls.length c ((aB.zip ls).map j0)::L):=I.sub;replace h1:=h1.ky hi;rw[← Kj hl h]at h1;have fe:ls.length=(ls.set i l).length:=by rw[br]
 have hp:(aB.zip ls).map j0=(aB.zip (ls.set i l)).map j0:=by
  rw[Kj hl h,map_set]
  symm
  apply ext_getElem?;intro j;rw[jF];split
  ·rename_i hj;subst hj;split
   ·rw[bm,hz];rfl
   ·rw[iH (by omega)]
  ·rfl
 rw[hp,fe]at h1;exact Qu.mk' h1 ad c (by rw[← fe];exact hl)
theorem Kk {ls:List (List UInt8)}{i:Nat}:ls.set i (ls.getD i [])=ls:=by
 apply ext_getElem?;intro j;rw[jF];split
 ·rename_i h;subst h;split
  ·rename_i h;rw[bl,aI h];rfl
  ·rw[iH (by omega)]
 ·rfl
theorem Qu.back (I:U W w (Ln (aB.getD i 0,ls.getD i [])::xZ qb aB ls i::L))(h:i<ls.length):U W w (Qu qb aB ls::L):=by
 have:=Qu.in I h
 rwa [Kk]at this
theorem x4 (I:U W w (Qu qb aB ls::L))(h:i<ls.length):Calls prog 172 #[.pointer (some ⟨aB.getD i 0,0,none⟩)] w λe V=>e=.returned (.int .i64 (ls.getD i []).length)∧U W V (Qu qb aB ls::L) :=
 (Am (Qu.out I h)).mono λ_ _ ⟨he,I⟩=>⟨he,Qu.back I h⟩
theorem X3 (I:U W w (Qu qb aB ls::L))(h:i<ls.length):Calls prog 173 #[.pointer (some ⟨aB.getD i 0,0,none⟩),.int .i64 f] w λe V=>e=.returned (.tuple #[.int .u8 (((ls.getD i []).getD f 0).toNat:Nat),.bool (decide (f<(ls.getD i []).length))])∧U W V (Qu qb aB ls::L) :=
 (Ke (Qu.out I h)).mono λ_ _ ⟨he,I⟩=>⟨he,Qu.back I h⟩
theorem X4 (I:U W w (Qu qb aB ls::L))(h:i<ls.length)(hl:(ls.getD i []).length<1000):Calls prog 314 #[.pointer (some ⟨aB.getD i 0,0,none⟩),.int .u8 (x.toNat:Nat)] w λe V=>e=.returned (.int .i64 0)∧U W V (Qu qb aB (ls.set i (ls.getD i []++[x]))::L) :=
 (Kf (Qu.out I h) (by omega)).mono λ_ _ ⟨he,I⟩=>by
  rw[ak hl]at he I;exact⟨he,Qu.in I h⟩
theorem X5 {fr:Nat}{bs:List UInt8}(I:U W w (Qu qb aB ls::L))(h:i<ls.length)(hl:(ls.getD i []).length≤1000)(hb:bs.length≤65536)(hp:∀ V,U W V L→a6 V ad bs.length bs) :
   Calls prog 318 #[.pointer (some ⟨aB.getD i 0,0,none⟩),.int .i64 fr,.slice ad bs.length c] w λe V=>∃ n er:Int,e=.returned (.tuple #[.int .i64 n,.int .i64 er])∧U W V (Qu qb aB (ls.set i (ds (ls.getD i []) fr bs))::L) :=
 (X0 (Qu.out I h) hl hb (λV hw=>hp V hw.tail)).mono λ_ _ ⟨n,er,he,I⟩=>⟨n,er,he,Qu.in I h⟩
theorem X6 {fr k:Nat}(I:U W w (Qu qb aB ls::L))(h:i<ls.length)(hl:(ls.getD i []).length≤1000)(hf:fr≤1000)(hk:1≤k∧k≤1000) :
   Calls prog 309 #[.pointer (some ⟨aB.getD i 0,0,none⟩),.int .i64 fr,.int .i64 k] w λe V=>∃ av c',e=.returned (.slice av (((ls.getD i []).drop fr).take k).length c')∧U W V (Sl 5 1 av (((ls.getD i []).drop fr).take k).length c' (bc (((ls.getD i []).drop fr).take k))::Qu qb aB ls::L) :=
 (Ki (Qu.out I h) hl hf hk).mono λ_ _ ⟨av,c',he,I⟩=>⟨av,c',he,(Qu.back (L:=Sl 5 1 av _ c' _::L) I.sub h).perm (List.Perm.swap _ _ _)⟩
theorem X7 (I:U W w (Qu qb aB ls::L))(h:i<ls.length)(hl:(ls.getD i []).length≤1000) :
   Calls prog 293 #[.pointer (some ⟨aB.getD i 0,0,none⟩)] w λe V=>∃ av c',e=.returned (.slice av (ls.getD i []).length c')∧U W V (Sl 5 1 av (ls.getD i []).length c' (bc (ls.getD i []))::Qu qb aB ls::L) :=
 (X1 (Qu.out I h) hl).mono λ_ _ ⟨av,c',he,I⟩=>⟨av,c',he,(Qu.back (L:=Sl 5 1 av _ c' _::L) I.sub h).perm (List.Perm.swap _ _ _)⟩
theorem Et (I:U W w (Qu qb aB ls::L)):Calls prog 171 #[pt qb] w λe V=>e=.returned (.int .i64 ls.length)∧U W V (Qu qb aB ls::L):=by
 obtain⟨ad,c,hl,I⟩:=Qu.open I;refine EN func171 ntmps171 rfl rfl λa E=>?_;refine RN 6 E I λa E=>?_;replace E:=E.aN 4;refine RT 8 E I ?_;exact⟨rfl,Qu.close I hl⟩
theorem An {aB:List Nat}{ls:List (List UInt8)}(hl:aB.length=ls.length){i:Nat}(h:i<ls.length):((aB.zip ls).map j0)[i]?=some (.pointer (some ⟨aB.getD i 0,0,none⟩)):=by
 rw[bm,uh hl h];rfl
theorem sK (I:U W w (Qu qb aB ls::L))(h:i<ls.length):Calls prog 291 #[pt qb,.int .i64 i] w λe V=>e=.returned (.pointer (some ⟨aB.getD i 0,0,none⟩))∧U W V (Qu qb aB ls::L):=by
 refine EN func291 ntmps291 rfl rfl λa E=>?_;refine RN 7 E I λa E=>?_;rw[bn (by omega)]at E;refine CL 2 E I (Et I) λa w E I=>?_;refine RN 2 E I λa E=>?_;rw[bn (by omega)]at E;refine RN 2 E I λa E=>?_;obtain⟨ad,c,hl,I⟩:=Qu.open I;obtain⟨b,o,rfl,hr⟩:=I.bY ad (by omega);refine RN 6 E I λa E=>?_;refine SS E (ag E (hr i _ (An hl h))) λa E=>?_;refine RT 1 E I ?_;exact⟨rfl,Qu.close I hl⟩
theorem re (I:U W w (Qu qb aB ls::L))(h0:ls≠[])(iB:ls.length≤8):Calls prog 135 #[pt qb] w λe V=>e=.returned (.int .i64 (aU ls))∧U W V (Qu qb aB ls::L):=by
 have pV:0<ls.length:=List.length_pos_iff.2 h0;refine EN func135 ntmps135 rfl rfl λa E=>?_;refine CL 5 E I (Et I) λa w E I=>?_;refine RN 1 E I λa E=>?_;rw[bn (by omega)]at E;refine RN 2 E I λa E=>?_;obtain⟨ad,c,hl,I⟩:=Qu.open I;obtain⟨b,o,rfl,hr⟩:=I.bY ad (by omega);refine RN 5 E I λa E=>?_;refine SS E (ag E (hr 0 _ (An hl pV))) λa E=>?_;replace I:U W w (Qu qb aB ls::L):=Qu.close I hl;refine CL 0 E I (x4 I pV) λa w E I=>?_;refine RN 3 E I λa E=>?_;obtain⟨ad,c,hl,I⟩:=Qu.open I;rw[show ((ls.getD 0 []).length:Int)=(iA ls 0:Nat) from by rw[iA,List.headD_eq_getD]]at E;refine RN 6 E I λa E=>?_;replace I:U W w (aa qb 288 [.slice ad ls.length c]::Sl 289 1 ad ls.length c ((aB.zip ls).map j0)::ah Ln (aB.zip ls)::L):=I;refine aR (λμ a w=>∃ (i:Nat),(μ=ls.length-i∧i≤ls.length)∧Fr a 31 [(3,.int .i64 (iA ls i:Nat)),(19,.slice ad ls.length c),(20,.int .i64 ls.length),(21,.int .i64 i)]∧U W w (aa qb 288 [.slice ad ls.length c]::Sl 289 1 ad ls.length c ((aB.zip ls).map j0)::ah Ln (aB.zip ls)::L)) (ls.length) (⟨0,⟨rfl,by omega⟩,E.ab [3,19,20,21],I⟩) ?_;clear E I;rintro μ a w ⟨i,⟨rfl,hi⟩,E,I⟩;refine IF 3 E I (λao a E=>?_) λao a E=>?_
 ·
  obtain⟨b2,pZ,rfl,eT⟩:=I.bY ad (by omega);have aJ:i<ls.length:=by omega
  have hz:=uh hl aJ;obtain⟨kl,tV⟩:=a2.1 hz;refine RN 3 E I λa E=>?_;refine SS E (ag E (eT i _ (An hl aJ))) λa E=>?_;refine RN 1 E I λa E=>?_;replace I:=(I.pick (ah Ln (aB.zip ls))).fE kl;rw[tV]at I;refine CL 2 E I (Am I) λa w E I=>?_;replace I:=(tV ▸ I:U W w (Ln (aB.zip ls)[i]::_)).ky kl;rw[set_getElem_self]at I;refine RN 1 E I λa E=>?_;rw[show min ((iA ls i:Nat):Int) ((ls.getD i []).length:Int)=((iA ls (i+1):Nat):Int) from by rw[iA];omega]at E;refine RN 3 E I λa E=>?_;exact⟨ls.length-(i+1),by omega,i+1,⟨rfl,by omega⟩,E.ab [3,19,20,21],I.sub⟩
 obtain rfl:i=ls.length:=by omega
 refine RT 3 E I ?_;exact⟨rfl,Qu.close I hl⟩
theorem X8 (I:U W w (Qu qb aB ls::L))(h0:ls≠[])(hf:f<aU ls)(iB:ls.length≤8):Calls prog 136 #[pt qb,.int .i64 f] w λe V=>∃ av c',e=.returned (.tuple #[.slice av (cr ls f).length c',.bool true]) ∧
   U W V (Sl 5 1 av (cr ls f).length c' (bc (cr ls f))::Qu qb aB ls::L):=by
 refine EN func136 ntmps136 rfl rfl λa E=>?_;refine RN 8 E I λa E=>?_;rw[bn (by omega)]at E;refine CL 2 E I (re I h0 iB) λa w E I=>?_;refine RN 2 E I λa E=>?_;rw[bn (by omega)]at E;refine RN 5 E I λa E=>?_;obtain⟨ad,c,hl,I⟩:=Qu.open I;refine RN 6 E I λa E=>?_;refine aR (λμ a w=>∃ (i:Nat) (ad2:Option Addr) (c2:Nat),(μ=ls.length-i∧i≤ls.length)∧Fr a 40 [(1,.int .i64 f),(6,.slice ad2 (fu ls f i).length c2),(22,.slice ad ls.length c),(23,.int .i64 ls.length),(24,.int .i64 i)]∧U W w (Sl 5 1 ad2 (fu ls f i).length c2 (bc (fu ls f i))::aa qb 288 [.slice ad ls.length c]::Sl 289 1 ad ls.length c ((aB.zip ls).map j0)::ah Ln (aB.zip ls)::L)) (ls.length) (⟨0,none,0,⟨rfl,by omega⟩,E.ab [1,6,22,23,24],I.bM 5 1 none⟩) ?_;clear E I;rintro μ a w ⟨i,ad2,c2,⟨rfl,hi⟩,E,I⟩;refine IF 3 E I (λao a E=>?_) λao a E=>?_
 ·
  obtain⟨b2,pZ,rfl,eT⟩:=I.bY ad (by omega);have aJ:i<ls.length:=by omega
  have hz:=uh hl aJ;obtain⟨kl,tV⟩:=a2.1 hz;have dG:=sJ (ls:=ls) (f:=f) (i:=i) hi;refine RN 3 E I λa E=>?_;refine SS E (ag E (eT i _ (An hl aJ))) λa E=>?_;refine RN 2 E I λa E=>?_;replace I:=(I.pick (ah Ln (aB.zip ls))).fE kl;rw[tV]at I;refine CL 2 E I (Ke I) λa w E I=>?_;replace I:=(tV ▸ I:U W w (Ln (aB.zip ls)[i]::_)).ky kl;rw[set_getElem_self]at I;refine RN 7 E I λa E=>?_;refine cn E rfl I underlying22 Ty.t5 rfl rfl rfl rfl (by decide) (by decide) λb36 a w E I ho=>?_;clear ho;refine RN 0 E I λa E=>?_;refine cI E rfl I underlying22 Ty.t5 rfl rfl I.ai rfl (ep [(ls.getD i []).getD f 0]) (by decide) (by decide) (by omega) λXz XA a w E I=>?_;rw[show bc (fu ls f i)++_=bc (fu ls f (i+1)) from by rw[Ak aJ,fH,bl (l:=ls),aI aJ];rfl,show (fu ls f i).length+1=(fu ls f (i+1)).length from by rw[sJ hi,sJ (by omega)]]at I;rw[show (fu ls f i).length+1=(fu ls f (i+1)).length from by rw[sJ hi,sJ (by omega)]]at E;refine RN 3 E I λa E=>?_;exact⟨ls.length-(i+1),by omega,i+1,_,_,⟨rfl,by omega⟩,E.ab [1,6,22,23,24],I.sub⟩
 obtain rfl:i=ls.length:=by omega
 rw[Aj]at E I;refine RT 4 E I ?_;exact⟨_,_,rfl,(Qu.mk' (L':=Sl 5 1 ad2 (cr ls f).length c2 (bc (cr ls f))::L) I ad c hl).perm (List.Perm.swap _ _ _)⟩
theorem X9 {d:Nat}(I:U W w L)(hn:2≤n∧n≤8)(hd:d≤8):Calls prog 131 #[.int .i64 n,.int .i64 d] w λe V=>∃ qb aB,e=.returned (pt qb)∧U W V (Qu qb aB (List.replicate n (List.replicate d 0))::L):=by
 refine EN func131 ntmps131 rfl rfl λa E=>?_;refine BX 4 E I λdr a w E I=>?_;refine RN 6 E I λa E=>?_;rw[show min (max (n:Int) 2) 8=(n:Int) from by omega]at E;refine RN 1 E I λa E=>?_;replace I:=I.bM 289 1 none;replace I:=U.iI (f:=Ln) I;refine aR (λμ a w=>∃ (i:Nat) (xs:List Lx) (ad:Option Addr) (c:Nat),(μ=n-i∧i≤n∧xs.map (·.2)=List.replicate i (List.replicate d 0))∧Fr a 26 [(1,.int .i64 d),(5,pt dr),(10,.int .i64 n),(11,.int .i64 i)]∧U W w (aa dr 288 [.slice ad i c]::Sl 289 1 ad i c (xs.map j0)::ah Ln xs::L)) (n) (⟨0,[],none,0,⟨rfl,by omega,rfl⟩,E.ab [1,5,10,11],(I.sub:U W w (aa dr 288 [.slice none 0 0]::Sl 289 1 none 0 0 []::ah Ln []::L))⟩) ?_;clear E I;rintro μ a w ⟨i,xs,ad,c,⟨rfl,hi,a8⟩,E,I⟩;refine IF 3 E I (λaj a E=>?_) λaj a E=>?_
 ·
  refine aZ 1 (λw0 V=>Rd V dr 0 [.slice ad i c]) [6,7] [0,1,2,3,5,3004,1006,1007,1008,9,10,1011] E I λa w E I hH=>?_;have hC:=hH.at w I.ai;refine RH 5 E I hH hC λa E=>?_;refine QH E (λw hc=>ag E (hc 0 _ rfl)) hC λa E=>?_;refine RH 0 E I hH hC λa E=>?_;refine bg 0 E I (XZ I hd) λlb a w E I=>?_;replace hC:=hH.at w I.ai;refine RH 0 E I hH hC λa E=>?_;refine cn E rfl I underlying286 Ty.t289 rfl rfl rfl rfl (by decide) (by decide) λIr a w E I ho=>?_;clear ho;replace hC:=hH.at w I.ai;refine RH 0 E I hH hC λa E=>?_;refine cI E rfl I underlying286 Ty.t289 rfl rfl I.ai rfl (by simp[Value.oneCell']) (by decide) (by decide) (by omega) λqK qL a w E I=>?_;rw[show List.map j0 xs++_=List.map j0 (xs++[(lb,List.replicate d 0)]) from by rw[cQ];rfl]at I;refine ST 2 E I (λa w E I=>?_);refine RN 2 E I λa E=>?_;have dx:=U.jG (x:=(lb,List.replicate d 0)) (I.sub (M:=Ln (lb,List.replicate d 0)::ah Ln xs::aa dr 288 [.slice qK (i+1) qL]::Sl 289 1 qK (i+1) qL ((xs++[(lb,List.replicate d 0)]).map j0)::L));exact⟨n-(i+1),by omega,i+1,xs++[(lb,List.replicate d 0)],qK,qL,⟨rfl,by omega,by rw[cQ,a8,replicate_succ'];rfl⟩,E.ab [1,5,10,11],dx.sub⟩
 obtain rfl:i=n:=by omega
 refine RT 3 E I ?_;have cj:xs.length=i:=by rw[← bd (f:=(·.2)),a8,jK]
 have hz:(xs.map (·.1)).zip (List.replicate i (List.replicate d 0))=xs:=by
  rw[← a8];clear a8 I E cj
  induction xs with
  | nil=>rfl
  | cons x xs ih=>rw[map_cons,map_cons,List.zip_cons_cons,ih]
 have ib:(List.replicate i (List.replicate d (0:UInt8))).length=i:=jK;refine⟨dr,xs.map (·.1),rfl,?_⟩;refine Qu.close (ad:=ad) (c:=c) ?_ (by rw[bd,cj,ib]);rw[ib,hz];exact I
end
end
end Go.Proofs.YteoldcfapaiobaaGreat
