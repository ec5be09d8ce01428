/- Packets out of bytes: packet.Decode. -/
import Derived.Test.YteoldcfapaiobaaGreatH07PktP
import Derived.Test.YteoldcfapaiobaaGreatH01Row
namespace Go.Proofs.YteoldcfapaiobaaGreat
open Tryz
open List (drop_zero drop_left take_zero foldl_cons map_cons drop_eq_nil_of_le append_nil ext_getElem? getElem?_set_ne foldl_append replicate_succ')
open Go.RowKit
set_option linter.unusedVariables false
set_option linter.unusedSimpArgs false
set_option maxRecDepth 10000
set_option synthInstance.maxSize 4000
set_option synthInstance.maxHeartbeats 400000
section
def y5 (x:Int):Prop := -9223372036854775808≤x∧x≤9223372036854775807
def mR (l:List UInt8):Nat:=l.foldl (λn b=>n*256+b.toNat) 0
theorem Lz:∀ (l:List UInt8) (a:Nat),l.foldl (λn b=>n*256+b.toNat) a<(a+1)*256 ^ l.length
 | [],a=>by simp
 | b::l,a=>by
  have h1:=Lz l (a*256+b.toNat);have h2:=lK b;rw[foldl_cons,fm];refine Ag h1 ?_;rw[Nat.pow_succ,Nat.mul_comm (256 ^ l.length) 256,← Nat.mul_assoc];exact nJ _ (by omega)
theorem LA {x:Nat}(h:x<4294967296):mR (fq x)=x:=by
 have:=Ft h;simpa [mR,fq,Fs] using this
theorem LB {l:List UInt8}{i:Nat}(h:i<l.length):mR (l.take (i+1))=mR (l.take i)*256+l[i].toNat:=by
 rw[mR,jv h,foldl_append];rfl
theorem BD (l:List UInt8)(n:Nat)(h:l.length≤n):mR l<256 ^ n:=by
 have:=Lz l 0;rw[ep,Nat.one_mul]at this;exact Ag this (Nat.pow_le_pow_right (by decide) h)
theorem Y6 {n:Nat}(h:n<16777216)(b:UInt8):IntKind.u32.wrap (((BitVec.ofInt IntKind.u32.bits (IntKind.u32.wrap ((n:Int)*2 ^ 8)) ||| BitVec.ofInt IntKind.u32.bits (b.toNat:Int)).toNat:Nat):Int)=((n*256+b.toNat:Nat):Int):=by
 have hb:=lK b;rw[show IntKind.u32.wrap ((n:Int)*2 ^ 8)=((n*256:Nat):Int) from by rw[wrap_u32];omega,uZ,uZ];show IntKind.u32.wrap (((BitVec.ofNat 32 (n*256) ||| BitVec.ofNat 32 b.toNat).toNat:Nat):Int)=_;rw[BitVec.toNat_or,BitVec.toNat_ofNat,BitVec.toNat_ofNat,kX (show n*256<2 ^ 32 by omega),kX (show b.toNat<2 ^ 32 by omega),wrap_u32];have h1:=Nat.two_pow_add_eq_or_of_lt (i:=8) (b:=b.toNat) hb n;rw[show n*256=2 ^ 8*n from by omega,← h1];omega
structure qR (W:World)(L:List SP)(ad:Option Addr)(c:Nat)(rest:List UInt8):Prop where
 len:rest.length≤65536
 cap:rest.length≤c
 rd:∀ V,U W V L→aL V ad rest.length rest
section
variable {W w:World}{L L':List SP}{n c m rb:Nat}{ad:Option Addr}{bs rest:List UInt8}{p:Pk}{bad:Bool}
theorem qR.cut {k:Nat}(h:qR W L ad c rest)(hk:k≤rest.length):qR W L (e6 ad k c 1) (c-k) (rest.drop k) :=
 ⟨by rw[c4];have:=h.len;omega,by rw[c4];have:=h.cap;omega,λV hw=>(h.rd V hw).uY hk h.cap⟩
theorem y6 (I:U W w (aa rb 427 [.slice ad rest.length c,.bool bad]::L'))(BE:∀ V,U W V L'→U W V L)(hr:qR W L ad c rest) :
   Calls prog 331 #[pt rb] w λe V=>∃ (x:Int) (au:Option Addr) (c':Nat) (nY:List UInt8) (fz:Bool),e=.returned (.int .i64 x)∧y5 x∧qR W L au c' nY ∧
    (∀ (n:Int) (r:List UInt8),y5 n→rest=aO (zz n)++r→bad=false→x=n∧nY=r∧fz=false)∧U W V (aa rb 427 [.slice au nY.length c',.bool fz]::L'):=by
 have hlen:=hr.len;refine EN func331 ntmps331 rfl rfl λa E=>?_;refine j1 7 E I (Lh (bs:=rest) I (by omega) (λV hw=>hr.rd V (BE _ hw.tail))) λx k er a w E ⟨hg,I⟩=>?_;refine RN 7 E I λa E=>?_;have pX:=hg.2.2.1;have nK:=hg.2.1;have dS:k≤rest.length:=by
  by_cases h0:er=0
  ·have:=pX h0;omega
  ·have:=(hg.2.2.2.1 h0).1;omega
 refine cc (M:=λa w=>∃ (z:Bool) (au:Option Addr) (c':Nat) (nY:List UInt8),(er=0→bad=false→z=false)∧qR W L au c' nY∧(z=false→nY=rest.drop k)∧Fr a 41 [(3,.int .i64 x)]∧U W w (aa rb 427 [.slice au nY.length c',.bool z]::L')) ?_ ?_
 ·
  refine cc (M:=λa w=>∃ z:Bool,(bad=true→z=true)∧(er=0→bad=false→z=false)∧Fr a 41 [(0,pt rb),(3,.int .i64 x),(4,.int .i64 k)]∧U W w (aa rb 427 [.slice ad rest.length c,.bool z]::L')) ?_ ?_
  ·
   refine BY 6 E I (λjg a E=>?_) λjg a E=>?_
   ·
    refine ST 5 E I (λa w E I=>?_);refine RN 0 E I λa E=>?_;exact⟨_,λ_=>rfl,λ_ h=>(by rw[h]at jg;cases jg),E.ab [0,3,4],I⟩
   refine ST 5 E I (λa w E I=>?_);refine RN 0 E I λa E=>?_;exact⟨_,λh=>(by rw[h]at jg;cases jg),λh _=>bn (by omega),E.ab [0,3,4],I⟩
  clear E;(try clear I);rintro a w ⟨z,cv,kN,E,I⟩;refine IF 6 E I (λaj a E=>?_) λaj a E=>?_
  ·
   have hz:z=false:=aj;refine RN 7 E I λa E=>?_;rw[show rest.length-k=(rest.drop k).length from by simp]at E;refine ST 2 E I (λa w E I=>?_);refine RN 0 E I λa E=>?_;exact⟨_,_,_,_,kN,hr.cut dS,λ_=>rfl,E.ab [3],I⟩
  refine RN 0 E I λa E=>?_;exact⟨_,_,_,_,kN,hr,λh=>(by rw[h]at aj;cases aj),E.ab [3],I⟩
 clear E;(try clear I);rintro a w ⟨z,au,c',nY,kN,Y7,Y8,E,I⟩;refine RT 3 E I ?_;refine⟨x,au,c',nY,z,rfl,hg.1,Y7,λn r hn e hb=>?_,I⟩;obtain⟨rfl,rfl,rfl⟩:=hg.2.2.2.2 n r hn.1 hn.2 e;have hz:=kN rfl hb;refine⟨rfl,?_,hz⟩;rw[Y8 hz,e,drop_left]
theorem Y9 (I:U W w (aa rb 427 [.slice ad rest.length c,.bool bad]::L'))(BE:∀ V,U W V L'→U W V L)(hr:qR W L ad c rest) :
   Calls prog 332 #[pt rb] w λe V=>∃ (x:Nat) (au:Option Addr) (c':Nat) (nY:List UInt8) (fz:Bool),e=.returned (.int .u32 x)∧x<4294967296∧qR W L au c' nY ∧
    (∀ (n:Nat) (r:List UInt8),n<4294967296→rest=fq n++r→bad=false→x=n∧nY=r∧fz=false)∧U W V (aa rb 427 [.slice au nY.length c',.bool fz]::L'):=by
 have hlen:=hr.len;have af7:=hr.cap;refine EN func332 ntmps332 rfl rfl λa E=>?_;refine RN 3 E I λa E=>?_;refine cc (M:=λa w=>∃ z:Bool,(z=true↔(bad=true∨rest.length<4))∧Fr a 50 [(0,pt rb)]∧U W w (aa rb 427 [.slice ad rest.length c,.bool z]::L')) ?_ ?_
 ·
  refine BY 6 E I (λjg a E=>?_) λjg a E=>?_
  ·
   refine ST 9 E I (λa w E I=>?_);refine RN 0 E I λa E=>?_;exact⟨_,⟨λ_=>.inl jg,λ_=>rfl⟩,E.ab [0],I⟩
  refine ST 9 E I (λa w E I=>?_);refine RN 0 E I λa E=>?_;exact⟨_,(by rw[ct,jg];simp;omega),E.ab [0],I⟩
 clear E;(try clear I);rintro a w ⟨z,hz,E,I⟩;refine IF 5 E I (λaj a E=>?_) λaj a E=>?_
 ·
  have Za:=hz.1 aj;refine RT 2 E I ?_;refine⟨0,ad,c,rest,true,rfl,by decide,hr,λn r hn e hb=>?_,by rw[aj]at I;exact I⟩;rcases Za with h | h
  ·rw[hb]at h;cases h
  ·rw[e,aN,mQ]at h;omega
 have LC:¬ (bad=true∨rest.length<4):=λh=>by rw[hz.2 h]at aj;cases aj
 have h4:4≤rest.length:=Nat.le_of_not_lt λh=>LC (.inr h);obtain⟨bb,oo,rfl,_⟩:=(hr.rd _ (BE _ I.tail)).get (by omega);have eU:(rest.take 4).length=4:=by rw[dH];omega
 refine RN 9 E I λa E=>?_;rw[pB,Nat.sub_zero,Nat.sub_zero]at E;refine RN 2 E I λa E=>?_;refine aQ (λμ a w=>∃ (i:Nat),(μ=4-i∧i≤4)∧Fr a 50 [(0,pt rb),(3,.int .u32 (mR (rest.take i))),(29,.slice (some ⟨bb,oo,none⟩) 4 c),(30,.int .i64 4),(31,.int .i64 i)]∧U W w (aa rb 427 [.slice (some ⟨bb,oo,none⟩) rest.length c,.bool z]::L')) (4) (⟨0,⟨rfl,by omega⟩,E.ab [0,3,29,30,31],I⟩) ?_;clear E I;rintro μ a w ⟨i,⟨rfl,hi⟩,E,I⟩;refine IF 3 E I (λao a E=>?_) λao a E=>?_
 ·
  have aF:i<rest.length:=by omega
  have nL:=BD (rest.take i) 3 (by rw[dH];omega);rw[show (256:Nat) ^ 3=16777216 from by decide]at nL;have qQ:=lK rest[i];refine RN 3 E I λa E=>?_;refine SS E (ae E (((hr.rd _ (BE _ I.tail)).rd (by omega)) i _ (dQ aF))) λa E=>?_;refine SX 4 E I (by rw[wrap_u32];omega) λa E=>?_;refine RN 1 E I λa E=>?_;rw[Y6 nL,← LB aF]at E;refine RN 3 E I λa E=>?_;exact⟨4-(i+1),by omega,i+1,⟨rfl,by omega⟩,E.ab [0,3,29,30,31],I⟩
 obtain rfl:i=4:=by omega
 refine RN 7 E I λa E=>?_;rw[show rest.length-4=(rest.drop 4).length from by simp]at E;refine ST 2 E I (λa w E I=>?_);refine RT 3 E I ?_;have nL:=BD (rest.take 4) 4 (by rw[dH];omega);rw[show (256:Nat) ^ 4=4294967296 from by decide]at nL;refine⟨_,_,_,_,z,rfl,nL,hr.cut h4,λn r hn e hb=>?_,I⟩;have ht:rest.take 4=fq n:=by rw[e];rfl
 have hd:rest.drop 4=r:=by rw[e];rfl
 exact⟨by rw[ht,LA hn],hd,aj⟩
theorem LD {a b:List UInt8}{ad2:Option Addr}{m n c2:Nat}(I:U W w L)(de:aL w ad m a)(lF:aL w ad2 n b) :
   Calls prog 313 #[.slice ad m c,.slice ad2 n c2] w λe V=>e=.returned (.bool (a==b))∧U W V L :=
 (Je de lF).mono λe V h=>⟨h.1,by rw[h.2];exact I⟩
theorem FU {bs:List UInt8}{q:Pk}(h:g4 bs q):(q.kind=((bs.getD 0 0).toNat:Int)∧q.aY=((bs.getD 1 0).toNat:Int)∧q.to=((bs.getD 2 0).toNat:Int))∧(bs.drop 3).take (bs.length-7)=lk q:=by
 have h1:=Fq h.2.2;obtain⟨f1,t1,wZ,i1,k1⟩:=h.1;refine⟨?_,Fp h.2.2⟩;simp only[bl,h1.1,h1.2.1,h1.2.2,Option.getD_some,UInt8.toNat_ofNat'];omega
theorem tz (b:UInt8):IntKind.i64.wrap (b.toNat:Int)=(b.toNat:Int):=fU (by omega) (by have:=lK b;omega)
theorem nZ {bs:List UInt8}(h:¬ ∃ q,g4 bs q):eJ bs=none:=Fx λq hq=>h ⟨q,hq⟩
def Zb (bs:List UInt8)(p:Pk)(adP:Option Addr)(cP:Nat)(ok:Bool):Prop:=(ok=true∧eJ bs=some p)∨(ok=false∧eJ bs=none∧p=np∧adP=none∧cP=0)
theorem Zc (I:U W w L)(hb:bs.length≤65536)(hc:bs.length≤c)(hp:∀ V,U W V L→aL V ad bs.length bs) :
   Calls prog 317 #[.slice ad bs.length c] w λe V=>∃ (p:Pk) (adP:Option Addr) (cP:Nat) (ok:Bool),e=.returned (.tuple #[.agg (dR p adP cP).toArray,.int .i64 (if ok=true then 0 else 1)])∧Zb bs p adP cP ok∧U W V (Sl 5 1 adP p.al.length cP (bc p.al)::L):=by
 refine EN func317 ntmps317 rfl rfl λa E=>?_;refine AL 1 E I λb2 a w E I=>?_;refine IF 6 E I (λaj a E=>?_) λaj a E=>?_
 ·
  have b6:eJ bs=none:=Fx λq hq=>by
   have:=dG List.length hq.2.2;rw[yZ]at this;omega
  refine SA 2 E I λa w E I=>?_;refine RT 1 E I ?_;exact⟨np,none,0,false,rfl,.inr ⟨rfl,b6,rfl,rfl,rfl⟩,I.tail.bR _ _ _⟩
 obtain⟨bb,oo,rfl,_⟩:=(hp _ I.tail).get (by omega);have h7:7≤bs.length:=by omega
 refine a1 1 (λw0 w=>Rd w bb oo (bc bs)) [6,7,10,11,13] [0,1,4,5,8,9,3002,3,3006,3007,3010,3011,12,1013,1014] E I λa w E I hH=>?_;have hC:Rd w bb oo (bc bs):=(hp _ I.tail).rd (by omega);refine RH 6 E I hH hC λa E=>?_;refine QH E (λw hc=>ae E (hc 0 _ (ll (by omega)))) hC λa E=>?_;refine QP E (λw=>pw E underlying5 underlying3 (tz _)) λa E=>?_;refine QH E (λw hc=>ae E (hc 1 _ (ll (by omega)))) hC λa E=>?_;refine QH E (λw hc=>pw E underlying5 underlying3 (tz _)) hC λa E=>?_;refine QH E (λw hc=>ae E (hc 2 _ (ll (by omega)))) hC λa E=>?_;refine QH E (λw hc=>pw E underlying5 underlying3 (tz _)) hC λa E=>?_;refine RH 1 E I hH hC λa E=>?_;refine e5 E rfl I Ty.t203 rfl λb4 a w E I ho=>?_;clear ho;replace hC:=hH.at w ((hp _ I.tail.tail).rd (by omega));refine RH 0 E I hH hC λa E=>?_;refine SA 0 E I λa w E I=>?_;refine RN 5 E I λa E=>?_;rw[show (bs.length:Int)-4=((bs.length-4:Nat):Int) from by omega]at E;refine RN 1 E I λa E=>?_;obtain⟨R1,FV⟩:∃ R1,R1=(bs.drop 3).take (bs.length-7):=⟨_,rfl⟩;have k7:R1.length=bs.length-7:=by rw[FV,dH,c4];omega
 have eB:qR W L (e6 (some ⟨bb,oo,none⟩) 3 c 1) (c-3) R1:=⟨by omega,by omega,λV hw=>by
  rw[k7,FV];exact ((hp V hw).uY (lo:=3) (by omega) hc).Bp (by rw[c4];omega)⟩
 have ma:∀ q,g4 bs q→(q.kind=((bs.getD 0 0).toNat:Int)∧q.aY=((bs.getD 1 0).toNat:Int)∧q.to=((bs.getD 2 0).toNat:Int))∧R1=lk q:=λq h=>by
  rw[FV];exact FU h
 rw[show bs.length-4-3=R1.length from by omega]at E;generalize e6 (some ⟨bb,oo,none⟩) 3 c 1=lM at E eB;generalize c-3=dD at E eB;generalize R1=R1 at E eB ma;refine BX 1 E I λkg a w E I=>?_;refine j2 3 E I (y6 (L:=L) I (λ_ h=>h.tail.tail) eB) ?_;clear E I;rintro e w ⟨x1,ad2,c2,R2,z2,rfl,eH,eg,il,I⟩;refine⟨_,rfl,λa E=>?_⟩;refine ST 1 E I (λa w E I=>?_);refine RN 0 E I λa E=>?_;replace il:∀ q,g4 bs q→(q.kind=((bs.getD 0 0).toNat:Int)∧q.aY=((bs.getD 1 0).toNat:Int)∧q.to=((bs.getD 2 0).toNat:Int)∧q.id=x1)∧R2=nq q∧z2=false:=λq h=>by
  obtain⟨h1,h2⟩:=ma q h;obtain⟨e1,e2,e3⟩:=il q.id (nq q) ⟨by have:=h.1.2.2.2.1;omega,by have:=h.1.2.2.2.1;omega⟩ (by rw[h2,lk]) rfl;exact⟨⟨h1.1,h1.2.1,h1.2.2,e1.symm⟩,e2,e3⟩
 refine cc (M:=λa w=>∃ (p:Pk) (adP:Option Addr) (cP:Nat) (au:Option Addr) (c':Nat) (R':List UInt8) (z:Bool),p.sum<4294967296∧(∀ q,g4 bs q→p=q∧z=false)∧Fr a 91 [(0,.slice (some ⟨bb,oo,none⟩) bs.length c),(2,pt b2),(4,pt b4),(5,pt kg)]∧U W w (aa b4 203 (dR p adP cP)::Sl 5 1 adP p.al.length cP (bc p.al)::aa kg 427 [.slice au R'.length c',.bool z]::aa b2 203 (dR np none 0)::L)) ?_ ?_
 ·
  refine IF 4 E I (λao a E=>?_) λao a E=>?_
  ·
   have mi:∀ q,g4 bs q→nq q=aO (zz q.first)++(aO (zz q.c8)++(aO (zz q.frame)++mg q))∧(y5 q.first∧y5 q.c8∧y5 q.frame)∧q.al.length≤32:=λq h=>by
    have hk:=(il q h).1.1;rw[ao]at hk;rcases h.1.2.2.2.2 with k | k
    ·obtain⟨_,k1,k2,k3,ln⟩:=k;unfold eR at k1 k2 k3;exact⟨by rw[nq,ak hk],⟨⟨by omega,by omega⟩,⟨by omega,by omega⟩,⟨by omega,by omega⟩⟩,ln⟩
    ·omega
   refine j2 2 E I (y6 (L:=L) (I.perm (cW _ _ _)) (λ_ h=>h.tail.tail) eg) ?_;clear E I;rintro e w ⟨x2,fy,db,R3,z3,rfl,da,g2,yV,I⟩;refine⟨_,rfl,λa E=>?_⟩;replace yV:∀ q,g4 bs q→q.first=x2∧R3=aO (zz q.c8)++(aO (zz q.frame)++mg q)∧z3=false:=λq h=>by
    obtain⟨_,h2,h3⟩:=il q h;obtain⟨e1,e2,e3⟩:=yV q.first _ (mi q h).2.1.1 (by rw[h2,(mi q h).1]) h3;exact⟨e1.symm,e2,e3⟩
   refine ST 1 E I (λa w E I=>?_);refine j2 2 E I (y6 (L:=L) (I.perm (cW _ _ _)) (λ_ h=>h.tail.tail) g2) ?_;clear E I;rintro e w ⟨x3,mG,hO,Zd,z4,rfl,eK,lj,BF,I⟩;refine⟨_,rfl,λa E=>?_⟩;replace BF:∀ q,g4 bs q→q.c8=x3∧Zd=aO (zz q.frame)++mg q∧z4=false:=λq h=>by
    obtain⟨_,h2,h3⟩:=yV q h;obtain⟨e1,e2,e3⟩:=BF q.c8 _ (mi q h).2.1.2.1 h2 h3;exact⟨e1.symm,e2,e3⟩
   refine ST 1 E I (λa w E I=>?_);refine j2 2 E I (y6 (L:=L) (I.perm (cW _ _ _)) (λ_ h=>h.tail.tail) lj) ?_;clear E I;rintro e w ⟨LF,en,dJ,Ze,z5,rfl,u5,oX,BG,I⟩;refine⟨_,rfl,λa E=>?_⟩;replace BG:∀ q,g4 bs q→q.frame=LF∧Ze=fq q.sum++(aO (zz (q.al.length:Int))++dB q.al 0)∧z5=false:=λq h=>by
    obtain⟨_,h2,h3⟩:=BF q h;obtain⟨e1,e2,e3⟩:=BG q.frame _ (mi q h).2.1.2.2 h2 h3;exact⟨e1.symm,by rw[e2,mg],e3⟩
   refine ST 1 E I (λa w E I=>?_);refine j2 2 E I (Y9 (L:=L) (I.perm (cW _ _ _)) (λ_ h=>h.tail.tail) oX) ?_;clear E I;rintro e w ⟨LG,tc,oD,Zf,Zg,rfl,tA,sa,BH,I⟩;refine⟨_,rfl,λa E=>?_⟩;replace BH:∀ q,g4 bs q→q.sum=LG∧Zf=aO (zz (q.al.length:Int))++dB q.al 0∧Zg=false:=λq h=>by
    obtain⟨_,h2,h3⟩:=BG q h;obtain⟨e1,e2,e3⟩:=BH q.sum _ h.2.1 h2 h3;exact⟨e1.symm,e2,e3⟩
   refine ST 1 E I (λa w E I=>?_);refine j2 2 E I (y6 (L:=L) (I.perm (cW _ _ _)) (λ_ h=>h.tail.tail) sa) ?_;clear E I;rintro e w ⟨Zh,sX,rD,R7,LH,rfl,qS,w5,y7,I⟩;refine⟨_,rfl,λa E=>?_⟩;replace y7:∀ q,g4 bs q→(q.al.length:Int)=Zh∧R7=dB q.al 0∧LH=false:=λq h=>by
    obtain⟨_,h2,h3⟩:=BH q h;have eO:=(mi q h).2.2;obtain⟨e1,e2,e3⟩:=y7 q.al.length _ ⟨by omega,by omega⟩ h2 h3;exact⟨e1.symm,e2,e3⟩
   refine j2 6 E I (YL (m:=32) I w5.len w5.cap (by omega) (λV hw=>w5.rd V hw.tail.tail.tail)) ?_;clear E I;rintro e w ⟨out,an,cO,er,rfl,nM,I⟩;refine⟨_,rfl,λa E=>?_⟩;refine BY 10 E I (λbA a E=>?_) λbA a E=>?_
   ·
    refine SA 8 E I λa w E I=>?_;refine RT 1 E I ?_;have b6:eJ bs=none:=nZ λ⟨q,h⟩=>by
     obtain⟨_,e2,_⟩:=y7 q h;have:=(nM.2.2 q.al (mi q h).2.2 e2).2;simp[this]at bA
    exact⟨np,none,0,false,rfl,.inr ⟨rfl,b6,rfl,rfl,rfl⟩,I.sub.bR _ _ _⟩
   refine IF 5 E I (λay a E=>?_) λay a E=>?_
   ·
    refine SA 2 E I λa w E I=>?_;refine RT 1 E I ?_;have b6:eJ bs=none:=nZ λ⟨q,h⟩=>by
     obtain⟨e1,e2,_⟩:=y7 q h;have:=(nM.2.2 q.al (mi q h).2.2 e2).1;rw[this]at ay;omega
    exact⟨np,none,0,false,rfl,.inr ⟨rfl,b6,rfl,rfl,rfl⟩,I.sub.bR _ _ _⟩
   refine ST 2 E I (λa w E I=>?_);refine RN 0 E I λa E=>?_;refine⟨⟨((bs.getD 0 0).toNat:Int),((bs.getD 1 0).toNat:Int),((bs.getD 2 0).toNat:Int),x1,x2,x3,LF,LG,out⟩,an,cO,sX,rD,R7,LH,by assumption,λq h=>?_,E.ab [0,2,4,5],I⟩;obtain⟨h1,h2,h3,h4⟩:=(il q h).1;have h5:=(yV q h).1;have h6:=(BF q h).1;have h7:=(BG q h).1;have h8:=(BH q h).1;have h9:=y7 q h;have fP:=(nM.2.2 q.al (mi q h).2.2 h9.2.1).1;refine⟨?_,h9.2.2⟩;rw[← h1,← h2,← h3,← h4,← h5,← h6,← h7,← h8,fP]
  refine RN 0 E I λa E=>?_;refine⟨⟨((bs.getD 0 0).toNat:Int),((bs.getD 1 0).toNat:Int),((bs.getD 2 0).toNat:Int),x1,0,0,0,0,[]⟩,none,0,ad2,c2,R2,z2,by show 0<4294967296;decide,λq h=>?_,E.ab [0,2,4,5],(I.bR 5 1 none).perm (cW _ _ _)⟩;obtain⟨⟨h1,h2,h3,h4⟩,_,h5⟩:=il q h;rw[← h1]at ao;rcases h.1.2.2.2.2 with k | k
  ·exact absurd k.1 ao
  ·obtain⟨p3,k1,k2,k3,ln,y8⟩:=k;have ln:=hG ln;refine⟨?_,h5⟩;rw[← h1,← h2,← h3,← h4];cases q;simp_all
 clear E;(try clear I);rintro a w ⟨p,adP,cP,BC,sb,af8,af9,mh,FW,E,I⟩;refine aX 3 E I (Lu (p:=p) I mh (λV hw=>hw.cr adP p.al rfl rfl)) λadE cE a w E I=>?_;refine BY 7 E I (λdk a E=>?_) λdk a E=>?_
 ·
  refine SA 12 E I λa w E I=>?_;refine RT 1 E I ?_;have b6:eJ bs=none:=nZ λ⟨q,h⟩=>by
   rw[(FW q h).2]at dk;cases dk
  exact⟨np,none,0,false,rfl,.inr ⟨rfl,b6,rfl,rfl,rfl⟩,I.sub.bR _ _ _⟩
 refine BY 4 E I (λek a E=>?_) λek a E=>?_
 ·
  refine SA 8 E I λa w E I=>?_;refine RT 1 E I ?_;have b6:eJ bs=none:=nZ λ⟨q,h⟩=>by
   have hn:=(I.cr adE (aS p) rfl rfl).2.1 (by cases adE with
    | none=>rfl
    | some _=>cases ek)
   rw[(FW q h).1,aS,ak h.1,yZ]at hn;omega
  exact⟨np,none,0,false,rfl,.inr ⟨rfl,b6,rfl,rfl,rfl⟩,I.sub.bR _ _ _⟩
 refine CL 2 E I (LD I (I.cr adE (aS p) rfl rfl) (hp _ I.tail.tail.tail.tail.tail)) λa w E I=>?_;refine IF 2 E I (λbj a E=>?_) λbj a E=>?_
 ·
  refine SA 2 E I λa w E I=>?_;refine RT 1 E I ?_;have b6:eJ bs=none:=nZ λ⟨q,h⟩=>by
   have e:aS p=bs:=by rw[(FW q h).1,aS,ak h.1];exact h.2.2
   rw[e]at bj;simp at bj
  exact⟨np,none,0,false,rfl,.inr ⟨rfl,b6,rfl,rfl,rfl⟩,I.sub.bR _ _ _⟩
 refine SA 2 E I λa w E I=>?_;refine RT 1 E I ?_;exact⟨p,adP,cP,true,rfl,.inl ⟨rfl,BA ((Fz (λe=>by rw[e]at h7;simp at h7) mh).2 (by simpa using bj))⟩,I.sub⟩
end
end
section
def w8 (q:Pk):Nat→Int
 | 0=>q.id
 | 1=>q.first
 | 2=>q.c8
 | _=>q.frame
def w9 (q:Pk):Nat→List UInt8
 | 0=>lk q
 | 1=>nq q
 | 2=>aO (zz q.c8)++(aO (zz q.frame)++mg q)
 | 3=>aO (zz q.frame)++mg q
 | _=>mg q
theorem FX {bs:List UInt8}{q:Pk}(h:g4 bs q):(q.kind=1∧eR q.first∧eR q.c8∧eR q.frame∧q.al.length≤32∧nq q=aO (zz q.first)++(aO (zz q.c8)++(aO (zz q.frame)++mg q))) ∨
   (q.kind=2∧q.first=0∧q.c8=0∧q.frame=0∧q.al=[]∧q.sum=0):=by
 rcases h.1.2.2.2.2 with k | k
 ·exact .inl ⟨k.1,k.2.1,k.2.2.1,k.2.2.2.1,k.2.2.2.2,by rw[nq,ak k.1]⟩
 ·exact .inr ⟨k.1,k.2.1,k.2.2.1,k.2.2.2.1,hG k.2.2.2.2.1,k.2.2.2.2.2⟩
theorem LI {bs:List UInt8}{q:Pk}{n i:Nat}(h:g4 bs q)(hn:n=if (bs.getD 0 0).toNat=1 then 4 else 1)(hi:i<n) :
   w9 q i=aO (zz (w8 q i))++w9 q (i+1)∧0≤w8 q i∧w8 q i≤1099511627776:=by
 have h0:=(FU h).1.1;have bX:=h.1.2.2.2.1;rcases FX h with k | k
 ·obtain⟨p3,k1,k2,k3,ln,y8⟩:=k;unfold eR at k1 k2 k3;rw[ak (by omega)]at hn;rcases (by omega:i=0∨i=1∨i=2∨i=3) with rfl | rfl | rfl | rfl
  ·exact⟨rfl,bX.1,bX.2⟩
  ·exact⟨y8,by show 0≤q.first;omega,by show q.first≤_;omega⟩
  ·exact⟨rfl,by show 0≤q.c8;omega,by show q.c8≤_;omega⟩
  ·exact⟨rfl,by show 0≤q.frame;omega,by show q.frame≤_;omega⟩
 ·rw[ag (by omega)]at hn;obtain rfl:i=0:=by omega
  exact⟨rfl,bX.1,bX.2⟩
theorem FY {bs X:List UInt8}{n i aU k:Nat}{x er:Int}(hn:n=if (bs.getD 0 0).toNat=1 then 4 else 1)(hi:i<n)(hq:∀ q,g4 bs q→X.drop aU=w9 q i)(hg:mf (X.drop aU) x k er)
   (hb:er≠0∨x<0∨1099511627776<x):eJ bs=none:=nZ λ⟨q,h⟩=>by
 obtain⟨h1,h2,h3⟩:=LI h hn hi;obtain⟨e1,e2,e3⟩:=hg.2.2.2.2 (w8 q i) (w9 q (i+1)) (by omega) (by omega) (by rw[hq q h,h1]);omega
section
variable {W w:World}{L:List SP}{n c m:Nat}{ad:Option Addr}{bs:List UInt8}{p:Pk}
theorem Zi (I:U W w L)(hb:bs.length≤65536)(hc:bs.length≤c)(hp:∀ V,U W V L→aL V ad bs.length bs) :
   Calls prog 189 #[.slice ad bs.length c] w λe V=>∃ (p:Pk) (adP:Option Addr) (cP:Nat) (ok:Bool),e=.returned (.tuple #[.agg (dR p adP cP).toArray,.bool ok])∧(ok=true→eJ bs=some p)∧(ok=false→eJ bs=none)∧U W V (Sl 5 1 adP p.al.length cP (bc p.al)::L):=by
 have sd:∀ {V},U W V L→eJ bs=none→∃ (p:Pk) (adP:Option Addr) (cP:Nat) (ok:Bool),Ending.returned (.tuple #[.agg (dR np none 0).toArray,.bool false])=.returned (.tuple #[.agg (dR p adP cP).toArray,.bool ok])∧(ok=true→eJ bs=some p)∧(ok=false→eJ bs=none)∧U W V (Sl 5 1 adP p.al.length cP (bc p.al)::L) :=
  λI b6=>⟨np,none,0,false,rfl,λh=>(by cases h),λ_=>b6,I.bR _ _ _⟩
 refine EN func189 ntmps189 rfl rfl λa E=>?_;refine AL 1 E I λb2 a w E I=>?_;refine IF 6 E I (λaj a E=>?_) λaj a E=>?_
 ·
  have b6:eJ bs=none:=Fx λq hq=>by
   have:=dG List.length hq.2.2;have hm:1≤(lk q).length:=by rw[lk,aN];have:=rP (zz q.id);omega
   rw[yZ]at this;omega
  refine SA 2 E I λa w E I=>?_;refine RT 1 E I ?_;exact sd I.tail b6
 obtain⟨bb,oo,rfl,_⟩:=(hp _ I.tail).get (by omega);have h7:8≤bs.length:=by omega
 refine RN 5 E I λa E=>?_;rw[show (bs.length:Int)-4=((bs.length-4:Nat):Int) from by omega]at E;refine RN 1 E I λa E=>?_;obtain⟨X,iu⟩:∃ X,X=(bs.drop 3).take (bs.length-7):=⟨_,rfl⟩;have Zj:X.length=bs.length-7:=by rw[iu,dH,c4];omega
 have hr:qR W L (e6 (some ⟨bb,oo,none⟩) 3 c 1) (c-3) X:=⟨by omega,by omega,λV hw=>by
  rw[Zj,iu];exact ((hp V hw).uY (lo:=3) (by omega) hc).Bp (by rw[c4];omega)⟩
 have ma:∀ q,g4 bs q→(q.kind=((bs.getD 0 0).toNat:Int)∧q.aY=((bs.getD 1 0).toNat:Int)∧q.to=((bs.getD 2 0).toNat:Int))∧X=lk q:=λq h=>by
  rw[iu];exact FU h
 rw[show bs.length-4-3=X.length from by omega]at E;have hXp:1≤X.length:=by omega
 obtain⟨kK,ox,BI,_⟩:=(hr.rd _ I.tail).get (by omega);rw[BI]at E hr;generalize c-3=dD at E hr;clear iu;refine a1 2 (λw0 w=>Rd w bb oo (bc bs)) [6,7,10,11,13] [0,1,4,5,8,9,3002,3,3006,3007,3010,3011,12,1013,1014] E I λa w E I hH=>?_;have hC:Rd w bb oo (bc bs):=(hp _ I.tail).rd (by omega);refine RH 6 E I hH hC λa E=>?_;refine QH E (λw hc=>ae E (hc 0 _ (ll (by omega)))) hC λa E=>?_;refine QP E (λw=>pw E underlying5 underlying3 (tz _)) λa E=>?_;refine QH E (λw hc=>ae E (hc 1 _ (ll (by omega)))) hC λa E=>?_;refine QH E (λw hc=>pw E underlying5 underlying3 (tz _)) hC λa E=>?_;refine QH E (λw hc=>ae E (hc 2 _ (ll (by omega)))) hC λa E=>?_;refine QH E (λw hc=>pw E underlying5 underlying3 (tz _)) hC λa E=>?_;refine RH 1 E I hH hC λa E=>?_;refine e5 E rfl I Ty.t203 rfl λb5 a w E I ho=>?_;clear ho;replace hC:=hH.at w ((hp _ I.tail.tail).rd (by omega));refine RH 0 E I hH hC λa E=>?_;refine SA 0 E I λa w E I=>?_;refine AL 1 E I λcG a w E I=>?_;refine RN 4 E I λa E=>?_;refine cc (M:=λa w=>∃ n:Nat,n=(if (bs.getD 0 0).toNat=1 then 4 else 1)∧Fr a 153 [(0,.slice (some ⟨bb,oo,none⟩) bs.length c),(2,pt b2),(4,.slice (some ⟨kK,ox,none⟩) X.length dD),(5,pt b5),(6,pt cG),(7,.int .i64 (0:Nat)),(8,.int .i64 n)]∧U W w (aa cG 345 (ints .i64 4 (λ_=>0))::aa b5 203 (dR ⟨((bs.getD 0 0).toNat:Int),((bs.getD 1 0).toNat:Int),((bs.getD 2 0).toNat:Int),0,0,0,0,0,[]⟩ none 0)::aa b2 203 (dR np none 0)::L)) ?_ ?_
 ·
  refine IF 4 E I (λao a E=>?_) λao a E=>?_
  ·
   refine RN 1 E I λa E=>?_;exact⟨4,by rw[ak (by omega)],E.ab [0,2,4,5,6,7,8],I⟩
  refine RN 0 E I λa E=>?_;exact⟨1,by rw[ag (by omega)],E.ab [0,2,4,5,6,7,8],I⟩
 clear E;(try clear I);rintro a w ⟨n,hn,E,I⟩;refine RN 3 E I λa E=>?_;refine aQ (λμ a w=>∃ (i k:Nat) (g:Nat→Int),(μ=n-i∧i≤n∧k≤X.length∧(∀ j,i≤j→g j=0)∧∀ q,g4 bs q→X.drop k=w9 q i∧∀ j,j<i→g j=w8 q j)∧Fr a 153 [(0,.slice (some ⟨bb,oo,none⟩) bs.length c),(2,pt b2),(4,.slice (some ⟨kK,ox,none⟩) X.length dD),(5,pt b5),(6,pt cG),(7,.int .i64 k),(8,.int .i64 n),(9,.int .i64 i)]∧U W w (aa cG 345 (ints .i64 4 g)::aa b5 203 (dR ⟨((bs.getD 0 0).toNat:Int),((bs.getD 1 0).toNat:Int),((bs.getD 2 0).toNat:Int),0,0,0,0,0,[]⟩ none 0)::aa b2 203 (dR np none 0)::L)) (n) (⟨0,0,λ_=>0,⟨rfl,by omega,by omega,λ_ _=>rfl,λq h=>⟨by rw[drop_zero];exact (ma q h).2,λj hj=>absurd hj (by omega)⟩⟩,E.ab [0,2,4,5,6,7,8,9],I⟩) ?_;clear E I;rintro μ a w ⟨i,k,g,⟨rfl,hi,hk,BJ,u6⟩,E,I⟩;refine IF 5 E I (λay a E=>?_) λay a E=>?_
 ·
  have cF:i<n:=by omega
  have mw:i<4:=by rw[hn]at cF;split at cF <;> omega
  have fY:=hr.cut hk;have hlk:=fY.len;refine RN 5 E I λa E=>?_;rw[show X.length-k=(X.drop k).length from by simp]at E;refine j1 0 E I (FB (bs:=X.drop k) I (by omega) (λV hw=>fY.rd V hw.tail.tail.tail)) λx m er a w E ⟨nd,I⟩=>?_;refine BY 12 E I (λbA a E=>?_) λbA a E=>?_
  ·
   refine SA 10 E I λa w E I=>?_;refine RT 1 E I ?_;have b6:=FY hn cF (λq h=>(u6 q h).1) nd (.inl (by simpa using bA));exact sd I.tail.tail.tail b6
  refine BY 4 E I (λj9 a E=>?_) λj9 a E=>?_
  ·
   refine SA 6 E I λa w E I=>?_;refine RT 1 E I ?_;have b6:=FY hn cF (λq h=>(u6 q h).1) nd (.inr (.inl (by simpa using j9)));exact sd I.tail.tail.tail b6
  refine IF 3 E I (λbj a E=>?_) λbj a E=>?_
  ·
   refine SA 2 E I λa w E I=>?_;refine RT 1 E I ?_;have b6:=FY hn cF (λq h=>(u6 q h).1) nd (.inr (.inr (by simpa using bj)));exact sd I.tail.tail.tail b6
  refine ST 4 E I (λa w E I=>?_) (hlt:=(by rw[di];omega));rw[ints_set,show (λj=>if j=i then x else g j)=ck g i x from rfl]at I;refine RN 0 E I λa E=>?_;have Zk:=(nd.2.2.1 (by simpa using bA)).2;rw[c4]at Zk;refine RN 7 E I λa E=>?_;refine⟨n-(i+1),by omega,i+1,k+m,ck g i x,⟨rfl,by omega,?_,?_,λq h=>?_⟩,E.ab [0,2,4,5,6,7,8,9],I⟩
  ·have:=(nd.2.2.1 (by simpa using bA)).2;rw[c4]at this;omega
  ·intro j hj;rw[ck,ag (by omega)];exact BJ j (by omega)
  ·obtain⟨h1,h2⟩:=u6 q h;obtain⟨h3,h4,h5⟩:=LI h hn cF;obtain⟨e1,e2,e3⟩:=nd.2.2.2.2 (w8 q i) (w9 q (i+1)) (by omega) (by omega) (by rw[h1,h3]);refine⟨by rw[← kr,h1,h3,e2,drop_left],λj hj=>?_⟩;by_cases gP:j=i
   ·subst gP;rw[ck,ak rfl,e1]
   ·rw[ck,ag gP];exact h2 j (by omega)
 obtain rfl:i=n:=by omega
 rw[show dR ⟨((bs.getD 0 0).toNat:Int),((bs.getD 1 0).toNat:Int),((bs.getD 2 0).toNat:Int),0,0,0,0,0,[]⟩ none 0=[.int .i64 ((bs.getD 0 0).toNat:Int),.int .i64 ((bs.getD 1 0).toNat:Int),.int .i64 ((bs.getD 2 0).toNat:Int),.int .i64 0,.int .i64 0,.slice none 0 0,.int .i64 0,.int .i64 0,.int .u32 (0:Nat)] from rfl]at I;refine a1 1 (λw0 V=>Rd V cG 0 (ints .i64 4 g)) [3,5,7,9,10,11,12,13] [0,2,4,6,3001,8,3003,3005,3007,1009,1010,1011,1012,1013,14,1015] E I λa w E I hH=>?_;have hC:=hH.at w I.ai;refine RH 4 E I hH hC λa E=>?_;refine QH E (λw hc=>ae E (hc 0 _ (fX g (by decide)))) hC λa E=>?_;refine RH 1 E I hH hC λa E=>?_;refine QH E (λw hc=>ae E (hc 1 _ (fX g (by decide)))) hC λa E=>?_;refine QH E (λw hc=>ae E (hc 2 _ (fX g (by decide)))) hC λa E=>?_;refine QH E (λw hc=>ae E (hc 3 _ (fX g (by decide)))) hC λa E=>?_;refine RH 0 E I hH hC λa E=>?_;refine ST 0 E I (λa w E I=>?_);replace hC:=hH.at w I.ai;refine RH 1 E I hH hC λa E=>?_;refine ST 0 E I (λa w E I=>?_);replace hC:=hH.at w I.ai;refine RH 1 E I hH hC λa E=>?_;refine ST 0 E I (λa w E I=>?_);replace hC:=hH.at w I.ai;refine RH 1 E I hH hC λa E=>?_;refine ST 0 E I (λa w E I=>?_);refine RN 0 E I λa E=>?_;refine cc (M:=λa w=>∃ (p:Pk) (adP:Option Addr) (cP:Nat),p.sum<4294967296∧(∀ q,g4 bs q→p=q)∧Fr a 153 [(0,.slice (some ⟨bb,oo,none⟩) bs.length c),(2,pt b2),(5,pt b5)]∧U W w (aa b5 203 (dR p adP cP)::Sl 5 1 adP p.al.length cP (bc p.al)::aa b2 203 (dR np none 0)::L)) ?_ ?_
 ·
  refine IF 4 E I (λbO a E=>?_) λbO a E=>?_
  ·
   have gZ:∀ q,g4 bs q→X.drop k=mg q∧q.al.length≤32:=λq h=>by
    rw[ak (by omega)]at hn;refine⟨by rw[(u6 q h).1,hn];rfl,?_⟩;rcases FX h with k | k
    ·exact k.2.2.2.2.1
    ·rw[k.2.2.2.2.1];simp
   refine IF 7 E I (λeZ a E=>?_) λeZ a E=>?_
   ·
    have b6:eJ bs=none:=nZ λ⟨q,h⟩=>by
     have:=dG List.length (gZ q h).1;rw[mg,aN,mQ,c4]at this;omega
    refine SA 2 E I λa w E I=>?_;refine RT 1 E I ?_;exact sd I.tail.tail.tail b6
   have oS:k+4≤X.length:=by omega
   refine RN 3 E I λa E=>?_;refine aQ (λμ a w=>∃ (j:Nat),(μ=4-j∧j≤4)∧Fr a 153 [(0,.slice (some ⟨bb,oo,none⟩) bs.length c),(2,pt b2),(4,.slice (some ⟨kK,ox,none⟩) X.length dD),(5,pt b5),(7,.int .i64 k),(13,.int .i64 j)]∧U W w (aa b5 203 [.int .i64 ((bs.getD 0 0).toNat:Int),.int .i64 ((bs.getD 1 0).toNat:Int),.int .i64 ((bs.getD 2 0).toNat:Int),.int .i64 (g 0),.int .i64 (g 1),.slice none 0 0,.int .i64 (g 2),.int .i64 (g 3),.int .u32 (mR ((X.drop k).take j):Nat)]::aa b2 203 (dR np none 0)::L)) (4) (⟨0,⟨rfl,by omega⟩,E.ab [0,2,4,5,7,13],(I.perm (cW _ _ _)).tail⟩) ?_;clear E I;rintro μ a w ⟨j,⟨rfl,hj⟩,E,I⟩;refine IF 4 E I (λnf a E=>?_) λnf a E=>?_
   ·
    have hj4:j<4:=by omega
    have yt:k+j<X.length:=by omega
    have nL:=BD ((X.drop k).take j) 3 (by rw[dH];omega);rw[show (256:Nat) ^ 3=16777216 from by decide]at nL;have ea:j<(X.drop k).length:=by rw[c4];omega
    have jR:=LB ea;rw[show (X.drop k)[j]=X[k+j] from List.getElem_drop ..]at jR;have qQ:=lK X[k+j];refine a1 1 (λw0 V=>V.cell? ⟨b5,8,none⟩=some (.int .u32 (mR ((X.drop k).take j):Nat))∧Rd V kK ox (bc X)) [8,9] [0,3,4,5,6,7,3001,2,1008,1009,10,11,1012] E I λa w E I hH=>?_;have hC:=hH.at w ⟨I.bz rfl,(hr.rd _ I.tail.tail).rd (by omega)⟩;refine RH 6 E I hH hC λa E=>?_;refine QH E (λw hc=>ae E (hc.1)) hC λa E=>?_;refine RH 1 E I hH hC λa E=>?_;rw[show IntKind.u32.wrap (((mR ((X.drop k).take j):Nat):Int)*256)=((mR ((X.drop k).take j)*256:Nat):Int) from by rw[wrap_u32];omega]at E;refine SS E (ae E (hC.2 (k+j) _ (dQ yt))) λa E=>?_;refine RH 0 E I hH hC λa E=>?_;refine SX 0 E I (by rw[wrap_u32];omega) λa E=>?_;refine RH 1 E I hH hC λa E=>?_;rw[show IntKind.u32.wrap (((mR ((X.drop k).take j)*256:Nat):Int)+(X[k+j].toNat:Int))=((mR ((X.drop k).take (j+1)):Nat):Int) from by rw[wrap_u32,jR];omega]at E;refine RH 1 E I hH hC λa E=>?_;refine ST 0 E I (λa w E I=>?_);refine RN 3 E I λa E=>?_;exact⟨4-(j+1),by omega,j+1,⟨rfl,by omega⟩,E.ab [0,2,4,5,7,13],I⟩
   obtain rfl:j=4:=by omega
   have lj:=hr.cut oS;have FZ:=lj.len;have mh:=BD ((X.drop k).take 4) 4 (by rw[dH];omega);rw[show (256:Nat) ^ 4=4294967296 from by decide]at mh;have ca:∀ q,g4 bs q→q.sum=mR ((X.drop k).take 4)∧X.drop (k+4)=aO (zz (q.al.length:Int))++dB q.al 0∧q.al.length≤32:=λq h=>by
    obtain⟨h1,h2⟩:=gZ q h;rw[← kr,h1,mg];exact⟨(LA h.2.1).symm,rfl,h2⟩
   generalize mR ((X.drop k).take 4)=BK at I mh ca;refine RN 8 E I λa E=>?_;rw[show X.length-(k+4)=(X.drop (k+4)).length from by simp]at E;refine j1 0 E I (FB (bs:=X.drop (k+4)) I (by omega) (λV hw=>lj.rd V hw.tail.tail)) λx m er a w E ⟨nd,I⟩=>?_;refine BY 12 E I (λbA a E=>?_) λbA a E=>?_
   ·
    refine SA 10 E I λa w E I=>?_;refine RT 1 E I ?_;have b6:eJ bs=none:=nZ λ⟨q,h⟩=>by
     obtain⟨_,e2,BL⟩:=ca q h;have:=(nd.2.2.2.2 (q.al.length:Int) _ (by omega) (by omega) e2).2.2;simp[this]at bA
    exact sd I.tail.tail b6
   refine BY 4 E I (λj9 a E=>?_) λj9 a E=>?_
   ·
    refine SA 6 E I λa w E I=>?_;refine RT 1 E I ?_;have b6:eJ bs=none:=nZ λ⟨q,h⟩=>by
     obtain⟨_,e2,BL⟩:=ca q h;have:=(nd.2.2.2.2 (q.al.length:Int) _ (by omega) (by omega) e2).1;omega
    exact sd I.tail.tail b6
   refine IF 3 E I (λmM a E=>?_) λmM a E=>?_
   ·
    refine SA 2 E I λa w E I=>?_;refine RT 1 E I ?_;have b6:eJ bs=none:=nZ λ⟨q,h⟩=>by
     obtain⟨_,e2,BL⟩:=ca q h;have:=(nd.2.2.2.2 (q.al.length:Int) _ (by omega) (by omega) e2).1;omega
    exact sd I.tail.tail b6
   refine RN 1 E I λa E=>?_;have mA:=(nd.2.2.1 (by simpa using bA)).2;rw[c4]at mA;have oX:=hr.cut (k:=k+4+m) (by omega);refine RN 5 E I λa E=>?_;rw[show X.length-(k+4+m)=(X.drop (k+4+m)).length from by simp]at E;refine j2 0 E I (YN (m:=32) (bs:=X.drop (k+4+m)) I oX.len oX.cap (by omega) (λV hw=>oX.rd V hw.tail.tail)) ?_;clear E I;rintro e w ⟨out,an,cO,e2,rfl,nM,I⟩;refine⟨_,rfl,λa E=>?_⟩;refine RN 5 E I λa E=>?_;have mC:∀ q,g4 bs q→out=q.al∧e2=0:=λq h=>by
    obtain⟨_,e2,BL⟩:=ca q h;obtain⟨f1,f2,f3⟩:=nd.2.2.2.2 (q.al.length:Int) _ (by omega) (by omega) e2;refine nM.2.2 q.al BL ?_;rw[← kr,e2,f2,drop_left]
   refine IF 4 E I (λmN a E=>?_) λmN a E=>?_
   ·
    refine SA 2 E I λa w E I=>?_;refine RT 1 E I ?_;have b6:eJ bs=none:=nZ λ⟨q,h⟩=>by
     have:=(mC q h).2;omega
    exact sd I.tail.tail.tail b6
   refine ST 2 E I (λa w E I=>?_);refine RN 0 E I λa E=>?_;refine⟨⟨((bs.getD 0 0).toNat:Int),((bs.getD 1 0).toNat:Int),((bs.getD 2 0).toNat:Int),g 0,g 1,g 2,g 3,BK,out⟩,an,cO,mh,λq h=>?_,E.ab [0,2,5],I⟩;obtain⟨h1,h2,h3⟩:=(ma q h).1;have h4:=(u6 q h).2;rw[ak (by omega)]at hn;rw[h4 0 (by omega),h4 1 (by omega),h4 2 (by omega),h4 3 (by omega),← h1,← h2,← h3,(mC q h).1,← (ca q h).1];rfl
  refine RN 0 E I λa E=>?_;refine⟨⟨((bs.getD 0 0).toNat:Int),((bs.getD 1 0).toNat:Int),((bs.getD 2 0).toNat:Int),g 0,g 1,g 2,g 3,0,[]⟩,none,0,(by show 0<4294967296;decide),λq h=>?_,E.ab [0,2,5],(((I.perm (cW _ _ _)).tail.bR 5 1 none)).perm (cW _ _ _)⟩;obtain⟨h1,h2,h3⟩:=(ma q h).1;have h4:=(u6 q h).2;rw[ag (by omega)]at hn;rcases FX h with k | k
  ·omega
  ·obtain⟨p3,k1,k2,k3,ln,y8⟩:=k;have h5:=h4 0 (by omega);have h6:=BJ 1 (by omega);have h7:=BJ 2 (by omega);have h8:=BJ 3 (by omega);rw[h5,h6,h7,h8,← h1,← h2,← h3];show Pk.mk q.kind q.aY q.to q.id 0 0 0 0 []=q;cases q;simp_all
 clear E;(try clear I);rintro a w ⟨p,adP,cP,mh,LJ,E,I⟩;refine a1 1 (λw0 V=>Rd V b5 0 (dR p adP cP)∧aL V (some ⟨bb,oo,none⟩) bs.length bs) [1,2,3,5,6,7] [4,3000,3001,3005,1002,2003,3006,1007,8] E I λa w E I hH=>?_;have hC:=hH.at w ⟨I.ai,hp _ I.tail.tail.tail⟩;refine RH 1 E I hH hC λa E=>?_;refine QH E (λw hc=>bQ E underlying203 rfl Ty.t203 (hc.1)) hC λa E=>?_;refine QH E (λw hc=>bQ E underlying203 rfl Ty.t203 (hc.1)) hC λa E=>?_;refine QH E (λw hc=>ky E underlying22 underlying5 underlying9 (hc.2)) hC λa E=>?_;refine RH 0 E I hH hC λa E=>?_;refine aX 0 E I (FT (p:=p) I mh (λV hw=>hw.cr adP p.al rfl rfl)) λadE cE a w E I=>?_;replace hC:=hH.at w ⟨I.ai,hp _ I.tail.tail.tail.tail⟩;refine RH 0 E I hH hC λa E=>?_;refine DN [(3,[3006,1007,8]),(7,[1003,3006,8])] (by kernel_rfl) rfl ⟨⟨_,rfl,?_⟩,⟨_,rfl,?_⟩,trivial⟩
 ·
  refine RH 0 E I hH hC λa E=>?_;refine SS E (ky E underlying22 underlying5 underlying9 ((I.cr adE (aS p) rfl rfl))) λa E=>?_;refine RH 0 E I hH hC λa E=>?_;refine QH E (λw hc=>sO E) hC λa E=>?_;refine RH 0 E I hH hC λa E=>?_;refine SA 0 E I λa w E I=>?_;replace hC:=hH.at w ⟨I.ai,hp _ I.tail.tail.tail.tail⟩;refine RH 1 E I hH hC λa E=>?_;refine RT 0 E I ?_;refine⟨p,adP,cP,_,rfl,λh=>?_,λh=>?_,I.sub⟩
  ·rw[pC]at h;exact BA ((Fz (λe=>by rw[e]at h7;simp at h7) mh).2 (by simpa using h))
  ·refine nZ λ⟨q,hd⟩=>?_;have e:aS p=bs:=by rw[LJ q hd,aS,ak hd.1];exact hd.2.2
   rw[e,pC]at h;simp at h
 refine RH 0 E I hH hC λa E=>?_;refine SA 0 E I λa w E I=>?_;replace hC:=hH.at w ⟨I.ai,hp _ I.tail.tail.tail.tail⟩;refine RH 0 E I hH hC λa E=>?_;refine SS E (ky E underlying22 underlying5 underlying9 ((I.cr adE (aS p) rfl rfl))) λa E=>?_;refine RH 0 E I hH hC λa E=>?_;refine QH E (λw hc=>sO E) hC λa E=>?_;refine RH 1 E I hH hC λa E=>?_;refine RT 0 E I ?_;refine⟨p,adP,cP,_,rfl,λh=>?_,λh=>?_,I.sub⟩
 ·rw[pC]at h;exact BA ((Fz (λe=>by rw[e]at h7;simp at h7) mh).2 (by simpa using h))
 ·refine nZ λ⟨q,hd⟩=>?_;have e:aS p=bs:=by rw[LJ q hd,aS,ak hd.1];exact hd.2.2
  rw[e,pC]at h;simp at h
end
end
section
section
variable {W w:World}{L:List SP}{c:Nat}{ad:Option Addr}{g:Nat→Int}
theorem y9 (I:U W w L):Calls prog 177 #[.agg (ints .i32 32 g).toArray] w λe V=>∃ ad c,e=.returned (.slice ad 128 c)∧U W V (Sl 5 1 ad 128 c (bc (gw g))::L):=by
 refine EN func177 ntmps177 rfl rfl λa E=>?_;refine BX 1 E I λb1 a w E I=>?_;refine RN 7 E I λa E=>?_;refine aQ (λμ a w=>∃ (i:Nat) (ad:Option Addr) (c:Nat),(μ=32-i∧i≤32)∧Fr a 16 [(3,.slice ad (mc g i).length c),(6,.agg (ints .i32 32 g).toArray),(7,.int .i64 i)]∧U W w (Sl 5 1 ad (mc g i).length c (bc (mc g i))::L)) (32) (⟨0,none,0,⟨rfl,by omega⟩,E.ab [3,6,7],I.tail.bR 5 1 none⟩) ?_;clear E I;rintro μ a w ⟨i,ad,c,⟨rfl,hi⟩,E,I⟩;refine IF 3 E I (λaj a E=>?_) λaj a E=>?_
 ·
  have F0:i<32:=by omega
  have qT:=rV g i;refine RN 2 E I λa E=>?_;refine SS E (sP E underlying183 underlying21 rfl Ty.t21 (by omega) (fX g F0)) λa E=>?_;refine aW 3 E I (Yq I) λad2 a w E I=>?_;refine RN 0 E I λa E=>?_;refine g3 E rfl I underlying22 Ty.t5 rfl rfl (by decide) (λh0=>(I.cr ad2 (fq (pU (g i))) rfl rfl).get h0) (by rw[dt];rfl) (eF _) (by rw[mQ];omega) λaga c13 a w E I=>?_;rw[← fR,← Fh]at I;rw[show (mc g i).length+(fq (pU (g i))).length=(mc g (i+1)).length from by rw[rV,rV,mQ];omega]at E I;refine RN 3 E I λa E=>?_;exact⟨32-(i+1),by omega,i+1,_,_,⟨rfl,by omega⟩,E.ab [3,6,7],I.sub⟩
 obtain rfl:i=32:=by omega
 rw[show (mc g 32).length=128 from rV g 32]at E I;refine RT 3 E I ?_;exact⟨_,_,rfl,I⟩
theorem Zl (I:U W w L):Calls prog 139 #[.agg (ints .i32 32 g).toArray] w λe V=>e=.returned (.int .u32 (jB (gw g)))∧U W V L:=by
 refine EN func139 ntmps139 rfl rfl λa E=>?_;refine BX 1 E I λb1 a w E I=>?_;refine aX 3 E I (y9 I) λad c a w E I=>?_;rw[show 128=(gw g).length from (u0 g).symm]at E I;refine CL 0 E I (K2 I (by rw[u0];decide) (λV hw=>hw.cr ad (gw g) rfl rfl)) λa w E I=>?_;refine RT 1 E I ?_;exact⟨rfl,I.sub⟩
theorem u7 (I:U W w L):Calls prog 115 #[.agg (ints .i32 32 g).toArray] w λe V=>∃ ad c,e=.returned (.slice ad 128 c)∧U W V (Sl 5 1 ad 128 c (bc (gw g))::L):=by
 refine EN func115 ntmps115 rfl rfl λa E=>?_;refine BX 1 E I λb1 a w E I=>?_;refine RN 6 E I λa E=>?_;refine aQ (λμ a w=>∃ (i:Nat) (ad:Option Addr) (c:Nat),(μ=32-i∧i≤32)∧Fr a 17 [(1,pt b1),(3,.slice ad (mc g i).length c),(4,.int .i64 i)]∧U W w (Sl 5 1 ad (mc g i).length c (bc (mc g i))::aa b1 49 (ints .i32 32 g)::L)) (32) (⟨0,none,0,⟨rfl,by omega⟩,E.ab [1,3,4],I.bR 5 1 none⟩) ?_;clear E I;rintro μ a w ⟨i,ad,c,⟨rfl,hi⟩,E,I⟩;refine IF 4 E I (λaj a E=>?_) λaj a E=>?_
 ·
  have F0:i<32:=by omega
  have qT:=rV g i;refine RN 4 E I λa E=>?_;refine SS E (ae E (I.bz (b:=b1) (fX g F0))) λa E=>?_;refine RN 0 E I λa E=>?_;refine SS E (gr E underlying21 underlying100) λa E=>?_;rw[K1]at E;refine aW 0 E I (Fk I) λad2 a w E I=>?_;refine RN 0 E I λa E=>?_;refine g3 E rfl I underlying22 Ty.t5 rfl rfl (by decide) (λh0=>(I.cr ad2 (fq (pU (g i))) rfl rfl).get h0) (by rw[dt];rfl) (eF _) (by rw[mQ];omega) λLK LL a w E I=>?_;rw[← fR,← Fh]at I;rw[show (mc g i).length+(fq (pU (g i))).length=(mc g (i+1)).length from by rw[rV,rV,mQ];omega]at E I;refine RN 4 E I λa E=>?_;exact⟨32-(i+1),by omega,i+1,_,_,⟨rfl,by omega⟩,E.ab [1,3,4],I.sub⟩
 obtain rfl:i=32:=by omega
 rw[show (mc g 32).length=128 from rV g 32]at E I;refine RT 3 E I ?_;exact⟨_,_,rfl,(I.perm (cW _ _ _)).tail⟩
theorem Zm (I:U W w L):Calls prog 106 #[.agg (ints .i32 32 g).toArray] w λe V=>e=.returned (.int .u32 (jB (gw g)))∧U W V L:=by
 refine EN func106 ntmps106 rfl rfl λa E=>?_;refine BX 1 E I λb1 a w E I=>?_;refine aX 3 E I (u7 I) λad c a w E I=>?_;rw[show 128=(gw g).length from (u0 g).symm]at E I;refine CL 0 E I (K3 I (by rw[u0];decide) (λV hw=>hw.cr ad (gw g) rfl rfl)) λa w E I=>?_;refine RT 1 E I ?_;exact⟨rfl,I.sub⟩
end
end
section
def dw (l:List UInt8)(f:Nat)(b:List UInt8):List UInt8:=if l.length<f then l else l++(b.drop (l.length-f)).take (1000-l.length)
theorem se {l:List UInt8}{f:Nat}{b:List UInt8}(h:l.length≤1000):l.length≤(dw l f b).length∧(dw l f b).length≤1000:=by
 unfold dw;split
 ·omega
 ·rw[aN,dH];omega
theorem LM {l b:List UInt8}{f i:Nat}(hf:f≤l.length)(hi:i<b.length)(h1:l.length-f≤i)(h2:l.length+(i-(l.length-f))<1000) :
   l++(b.drop (l.length-f)).take (i+1-(l.length-f))=(l++(b.drop (l.length-f)).take (i-(l.length-f)))++[b[i]]:=by
 rw[show i+1-(l.length-f)=(i-(l.length-f))+1 from by omega,dA]
 congr 1
 rw[jv (by rw[c4];omega)]
 congr 2
 rw[List.getElem_drop]
 congr 1
 omega
def iP (ls:List (List UInt8)):Nat→Nat
 | 0=>(ls.headD []).length
 | i+1=>min (iP ls i) (ls.getD i []).length
def aV (ls:List (List UInt8)):Nat:=iP ls ls.length
theorem Zn (ls:List (List UInt8)):iP ls 1=iP ls 0:=by
 rw[iP,iP];cases ls <;> simp[iP]
theorem LN {ls:List (List UInt8)}:∀ {i j:Nat},j<i→iP ls i≤(ls.getD j []).length
 | 0,_,h=>absurd h (by omega)
 | i+1,j,h=>by
  rw[iP];by_cases hj:j=i
  ·subst hj;exact Nat.min_le_right _ _
  ·exact gC (Nat.min_le_left _ _) (LN (by omega))
theorem xd {ls:List (List UInt8)}{l:List UInt8}(h:l∈ls):aV ls≤l.length:=by
 obtain⟨i,hi,rfl⟩:=za h;have:=LN (ls:=ls) (i:=ls.length) hi
 rwa [bl,aD hi]at this
theorem LO (ls:List (List UInt8)):∀ i,i≤ls.length→ls≠[]→∃ l∈ls,iP ls i=l.length
 | 0,_,h=>by
  cases ls with
  | nil=>exact absurd rfl h
  | cons a r=>exact⟨a,by simp,rfl⟩
 | i+1,hi,h=>by
  obtain⟨l,hl,e⟩:=LO ls i (by omega) h;rw[iP];rcases Nat.le_total (iP ls i) (ls.getD i []).length with h1 | h1
  ·rw[Nat.min_eq_left h1];exact⟨l,hl,e⟩
  ·rw[Nat.min_eq_right h1,bl,aD (by omega)];exact⟨ls[i],iI _,rfl⟩
theorem BM {ls:List (List UInt8)}(h:ls≠[]):∃ l∈ls,aV ls=l.length:=LO ls _ (bh _) h
theorem F1 {ls:List (List UInt8)}{n:Nat}(h:ls≠[])(hn:∀ l∈ls,n≤l.length):n≤aV ls:=by
 obtain⟨l,hl,e⟩:=BM h;rw[e];exact hn l hl
def fF (ls:List (List UInt8))(f i:Nat):List UInt8:=(ls.take i).map (·.getD f 0)
def bM (ls:List (List UInt8))(f:Nat):List UInt8:=ls.map (·.getD f 0)
theorem BN (ls:List (List UInt8))(f:Nat):fF ls f ls.length=bM ls f:=by rw[fF,k0,bM]
theorem BO {ls:List (List UInt8)}{f i:Nat}(h:i<ls.length):fF ls f (i+1)=fF ls f i++[ls[i].getD f 0]:=by
 rw[fF,jv h,cS];rfl
theorem tB {ls:List (List UInt8)}{f i:Nat}(h:i≤ls.length):(fF ls f i).length=i:=by
 rw[fF,bf,dH];omega
theorem nu (ls:List (List UInt8))(f:Nat):(bM ls f).length=ls.length:=by rw[bM,bf]
structure Gs where
 kind:Int
 order:Int
 table:List UInt8
def cY (b:Gs):Prop:=(b.kind=1∧b.order=0∧b.table.length=0)∨(b.kind=2∧0≤b.order∧b.order≤3∧b.table.length=0)∨(b.kind=3∧b.order=0∧1≤b.table.length∧b.table.length≤1000)
instance (b:Gs):Decidable (cY b):=inferInstanceAs (Decidable (_∨_))
def zb (o:Nat)(past:List UInt8)(i:Nat):Bool:=(past.drop (i-o)).take o==past.drop (past.length-o)
def g6 (o:Nat)(past:List UInt8):Nat→Nat→Int
 | 0=>λ_=>0
 | i+1=>if o≤i∧zb o past i=true then ck (g6 o past i) (past.getD i 0).toNat (g6 o past i (past.getD i 0).toNat+1) else g6 o past i
theorem zc {o:Nat}{past:List UInt8}:∀ {i:Nat},i≤o→g6 o past i=λ_=>0
 | 0,_=>rfl
 | i+1,h=>by rw[g6,ag (by omega),zc (by omega)]
theorem BQ (o:Nat)(past:List UInt8):∀ (i v:Nat),0≤g6 o past i v∧g6 o past i v≤i
 | 0,v=>⟨Int.le_refl _,Int.le_refl _⟩
 | i+1,v=>by
  have h:=BQ o past i v;have h2:=BQ o past i (past.getD i 0).toNat;rw[g6];split
  ·unfold ck;split <;> omega
  ·omega
def gJ (b:Gs)(past:List UInt8):Nat→Int:=if b.kind=2 then g6 b.order.toNat past past.length else λ_=>0
def iv (past:List UInt8):UInt8:=past.getLastD 0
def mj (w:Nat→Int)(last:Nat):Nat→Nat
 | 0=>last
 | i+1=>if w (mj w last i)<w i then i else mj w last i
theorem F2 {w:Nat→Int}{last:Nat}(hl:last<256):∀ {i:Nat},i≤256→mj w last i<256
 | 0,_=>hl
 | i+1,h=>by
  rw[mj];split
  ·omega
  ·exact F2 hl (by omega)
theorem LP {w:Nat→Int}{last:Nat}:∀ {i:Nat},(∀ v,v<i→w v≤w last)→mj w last i=last
 | 0,_=>rfl
 | i+1,h=>by
  have ih:=LP (i:=i) λv hv=>h v (by omega);rw[mj,ih,ag];have:=h i (by omega);omega
theorem LQ {w:Nat→Int}{last x:Nat}(h0:w last<w x)(h1:∀ v,v<x→w v<w x):∀ {i:Nat},(∀ v,v<i→w v≤w x)→(i≤x→w (mj w last i)<w x)∧(x<i→mj w last i=x)
 | 0,_=>⟨λ_=>h0,λh=>absurd h (by omega)⟩
 | i+1,h=>by
  have ih:=LQ h0 h1 (i:=i) λv hv=>h v (by omega);rw[mj];refine⟨λhi=>?_,λhi=>?_⟩
  ·have:=ih.1 (by omega);have:=h1 i (by omega);split <;> assumption
  ·by_cases hx:x=i
   ·subst hx;rw[ak (ih.1 (by omega))]
   ·rw[ih.2 (by omega),ag];have:=h i (by omega);omega
def nv (b:Gs)(past:List UInt8):UInt8:=if b.kind=3 then b.table.getD (past.length%b.table.length) 0 else UInt8.ofNat (mj (gJ b past) (iv past).toNat 256)
def ey (b:Gs)(past:List UInt8):Nat→List UInt8
 | 0=>past
 | i+1=>ey b past i++[nv b (ey b past i)]
theorem iw (b:Gs)(past:List UInt8):∀ i,(ey b past i).length=past.length+i
 | 0=>rfl
 | i+1=>by rw[ey,aN,iw b past i];rfl
theorem LR (b:Gs)(past:List UInt8):∀ i,(ey b past i).take past.length=past
 | 0=>k0
 | i+1=>by
  rw[ey,List.take_append_of_le_length (by rw[iw];omega),LR b past i]
def kh (b:Gs)(past:List UInt8)(n:Nat):List UInt8:=(ey b past n).drop past.length
theorem F3 (b:Gs)(past:List UInt8)(n:Nat):(kh b past n).length=n:=by rw[kh,c4,iw];omega
theorem u9 (b:Gs)(past:List UInt8)(n:Nat):past++kh b past n=ey b past n:=by
 conv=>lhs;lhs;rw[← LR b past n]
 rw[kh,jW]
theorem Zo (b:Gs)(past:List UInt8)(n:Nat):kh b past (n+1)=kh b past n++[nv b (past++kh b past n)]:=by
 rw[u9,kh,ey,List.drop_append_of_le_length (by rw[iw];omega)];rfl
def n0 (b:Gs)(past:List UInt8)(to:Nat):List UInt8:=ey b past (to-past.length)
def ji (b:Gs)(ls:List (List UInt8))(to:Nat):List (List UInt8):=ls.map λl=>n0 b l to
theorem Zq (b:Gs)(past:List UInt8)(to:Nat):to≤(n0 b past to).length:=by rw[n0,iw];omega
def dx (b:Gs)(ls:List (List UInt8))(to:Nat):List (List UInt8):=(List.range (to-aV ls)).map λi=>bM (ji b ls to) (aV ls+i)
theorem xe (b:Gs)(ls:List (List UInt8))(to:Nat):(dx b ls to).length=to-aV ls:=by simp[dx]
end
section
abbrev Lx:=Nat×List UInt8
def Ln (x:Lx):SP:=λh=>∃ (ad:Option Addr) (c:Nat),cp [aa x.1 328 [.slice ad x.2.length c],Sl 5 1 ad x.2.length c (bc x.2)] h
section
variable {W w:World}{L L' R:List SP}{n c m lb:Nat}{ad:Option Addr}{l bs:List UInt8}{x:UInt8}
theorem Ln.open (I:U W w (Ln (lb,l)::L)):∃ (ad:Option Addr) (c:Nat),U W w (aa lb 328 [.slice ad l.length c]::Sl 5 1 ad l.length c (bc l)::L):=by
 obtain⟨ad,_,I⟩:=I.jL (p:=λ_=>True) (B:=λad h=>∃ c,cp [aa lb 328 [.slice ad l.length c],Sl 5 1 ad l.length c (bc l)] h) λ_ ⟨ad,c,h⟩=>⟨ad,trivial,c,h⟩;obtain⟨c,_,I⟩:=I.jL (p:=λ_=>True) (B:=λc h=>cp [aa lb 328 [.slice ad l.length c],Sl 5 1 ad l.length c (bc l)] h) λ_ ⟨c,h⟩=>⟨c,trivial,h⟩;exact⟨ad,c,I.open (M:=[_,_]) λ_ h=>h⟩
theorem Ln.close (I:U W w (aa lb 328 [.slice ad l.length c]::Sl 5 1 ad l.length c (bc l)::L)):U W w (Ln (lb,l)::L) :=
 U.shut (M:=[_,_]) I λ_ h=>⟨ad,c,h⟩
theorem Ln.mk' (I:U W w L)(ad:Option Addr)(c:Nat)[k:fN L (aa lb 328 [.slice ad l.length c]::Sl 5 1 ad l.length c (bc l)::L') R]:U W w (Ln (lb,l)::L'):=Ln.close (ad:=ad) (c:=c) I.sub
theorem Zr (d:Nat):(madeCells (Value.int .u8 0).cells (d*1)).toList=bc (List.replicate d 0):=by
 apply ext_getElem?;intro i;by_cases h:i<d
 ·rw[dQ (by simpa using h)];rw[madeCells,Array.getElem?_toList,Array.getElem?_map,Array.getElem?_range];simp[h,Value.cells,Nat.mod_one]
 ·rw[iD (by simp[madeCells];omega),iD (by rw[dt];simp;omega)]
theorem U.LS {b e sz m:Nat}{cs:List Value}(I:U W w (aa b e cs::L))(h:cs.length=m*sz):U W w (Sl e sz (some ⟨b,0,none⟩) m m cs::L) :=
 U.iY (pre:=[]) (post:=[]) (n:=m) (c:=m) (sz:=sz) (cs:=cs) (by simpa using I) h (bh _) (by rw[Nat.sub_self,Nat.zero_mul];exact Nat.zero_le _)
theorem aL.zd {w:World}{ad:Option Addr}{bs:List UInt8}{c lo n:Nat}(h:aL w ad bs.length bs)(hl:lo+n≤bs.length)(hc:bs.length≤c):aL w (e6 ad lo c 1) n ((bs.drop lo).take n) :=
 (h.uY (lo:=lo) (by omega) hc).Bp (by rw[c4];omega)
theorem Zs {d:Nat}(I:U W w L)(hd:d≤8):Calls prog 168 #[.int .i64 d] w λe V=>∃ lb,e=.returned (pt lb)∧U W V (Ln (lb,List.replicate d 0)::L):=by
 refine EN func168 ntmps168 rfl rfl λa E=>?_;refine RN 6 E I λa E=>?_;rw[show min (max (d:Int) 0) 8=(d:Int) from by omega]at E;refine rv E rfl I underlying22 Ty.t5 rfl (by omega) (by omega) λcG a w E I ho=>?_;clear ho;rw[Zr]at I;replace I:=I.LS (m:=d) (sz:=1) (by rw[dt,kC,fD]);refine BX 1 E I λb8 a w E I=>?_;refine RN 1 E I λa E=>?_;replace I:U W w (aa b8 328 [.slice (some ⟨cG,0,none⟩) (List.replicate d (0:UInt8)).length d]::Sl 5 1 (some ⟨cG,0,none⟩) (List.replicate d (0:UInt8)).length d (bc (List.replicate d 0))::L):=by
  rw[kC];exact I
 refine RT 0 E I ?_;exact⟨b8,rfl,Ln.close I⟩
theorem BR (I:U W w (Ln (lb,l)::L)):Calls prog 172 #[pt lb] w λe V=>e=.returned (.int .i64 l.length)∧U W V (Ln (lb,l)::L):=by
 obtain⟨ad,c,I⟩:=Ln.open I;refine EN func172 ntmps172 rfl rfl λa E=>?_;refine RN 6 E I λa E=>?_;replace E:=E.aK 4;refine RT 8 E I ?_;exact⟨rfl,Ln.close I⟩
theorem LU {f:Nat}(I:U W w (Ln (lb,l)::L)):Calls prog 173 #[pt lb,.int .i64 f] w λe V=>e=.returned (.tuple #[.int .u8 ((l.getD f 0).toNat:Nat),.bool (decide (f<l.length))])∧U W V (Ln (lb,l)::L):=by
 refine EN func173 ntmps173 rfl rfl λa E=>?_;refine RN 8 E I λa E=>?_;rw[bn (by omega)]at E;refine CL 2 E I (BR I) λa w E I=>?_;refine IF 2 E I (λaj a E=>?_) λaj a E=>?_
 ·
  refine RT 3 E I ?_;exact⟨by rw[bl,iD (by omega),bn (by omega)];rfl,I⟩
 obtain⟨ad,c,I⟩:=Ln.open I;have eY:f<l.length:=by omega
 obtain⟨b,o,rfl,hr⟩:=(I.cr ad l rfl rfl).get (by omega);refine RN 7 E I λa E=>?_;refine SS E (ae E (hr f _ (ll eY))) λa E=>?_;refine RT 2 E I ?_;exact⟨by rw[dp eY],Ln.close I⟩
theorem LV (I:U W w (Ln (lb,l)::L))(hl:l.length≤1000):Calls prog 314 #[pt lb,.int .u8 (x.toNat:Nat)] w λe V=>e=.returned (.int .i64 (if l.length<1000 then 0 else 4))∧U W V (Ln (lb,if l.length<1000 then l++[x] else l)::L):=by
 obtain⟨ad,c,I⟩:=Ln.open I;refine EN func314 ntmps314 rfl rfl λa E=>?_;refine RN 7 E I λa E=>?_;replace E:=E.aK 5;refine IF 9 E I (λao a E=>?_) λao a E=>?_
 ·
  refine RT 2 E I ?_;exact⟨by rw[ag (by omega)],by rw[ag (by omega)];exact Ln.close I⟩
 refine RN 7 E I λa E=>?_;refine cn E rfl I underlying22 Ty.t5 rfl rfl rfl rfl (by decide) (by decide) λb21 a w E I ho=>?_;clear ho;refine RN 0 E I λa E=>?_;refine cK E rfl I underlying22 Ty.t5 rfl rfl I.ai rfl (eF [x]) (by decide) (by decide) (by omega) λLW LX a w E I=>?_;rw[show bc l++_=bc (l++[x]) from (fR l [x]).symm]at I;refine ST 2 E I (λa w E I=>?_);refine RN 0 E I λa E=>?_;rw[show l.length+1=(l++[x]).length from by simp]at I;replace I:=I.sub (M:=aa lb 328 [.slice LW (l++[x]).length LX]::Sl 5 1 LW (l++[x]).length LX (bc (l++[x]))::L);refine RT 2 E I ?_;exact⟨by rw[ak (by omega)],by rw[ak (by omega)];exact Ln.close I⟩
theorem Zt {f:Nat}(I:U W w (Ln (lb,l)::L))(hl:l.length≤1000)(hb:bs.length≤65536)(hp:∀ V,U W V L→aL V ad bs.length bs) :
   Calls prog 318 #[pt lb,.int .i64 f,.slice ad bs.length c] w λe V=>∃ n er:Int,e=.returned (.tuple #[.int .i64 n,.int .i64 er])∧U W V (Ln (lb,dw l f bs)::L):=by
 refine EN func318 ntmps318 rfl rfl λa E=>?_;refine RN 8 E I λa E=>?_;replace E:=E.aK 11;refine RN 5 E I λa E=>?_;rw[bn (by omega)]at E;refine RN 2 E I λa E=>?_;obtain⟨g7,cl,I⟩:=Ln.open I;refine IF 8 E I (λay a E=>?_) λay a E=>?_
 ·
  replace I:=Ln.close I;refine RT 3 E I ?_;exact⟨_,_,rfl,by rw[dw,ak (by omega)];exact I⟩
 refine RN 11 E I λa E=>?_;rw[show ((l.length:Nat):Int)-(f:Int)=((l.length-f:Nat):Int) from by omega]at E;refine RN 1 E I λa E=>?_;replace I:=Ln.close I;have eY:f≤l.length:=by omega
 refine aQ (λμ a w=>∃ (i:Nat),(μ=bs.length-i∧l.length-f≤i∧(i≤bs.length∨i=l.length-f)∧l.length+(i-(l.length-f))≤1000)∧Fr a 51 [(0,pt lb),(2,.slice ad bs.length c),(8,.int .i64 (i-(l.length-f):Nat)),(9,.int .i64 i)]∧U W w (Ln (lb,l++(bs.drop (l.length-f)).take (i-(l.length-f)))::L)) (bs.length-(l.length-f)) (⟨l.length-f,⟨rfl,bh _,.inr rfl,by omega⟩,by rw[Nat.sub_self];exact E.ab [0,2,8,9],by rw[Nat.sub_self,take_zero,append_nil];exact I⟩) ?_;clear E I;rintro μ a w ⟨i,⟨rfl,hi,hib,lB⟩,E,I⟩;refine IF 6 E I (λbj a E=>?_) λbj a E=>?_
 ·
  obtain⟨bb,oo,rfl,hr⟩:=(hp _ I.tail).get (by omega);have aF:i<bs.length:=by omega
  have hlen:(l++(bs.drop (l.length-f)).take (i-(l.length-f))).length=l.length+(i-(l.length-f)):=by rw[aN,dH,c4];omega
  refine RN 7 E I λa E=>?_;refine SS E (ae E (hr i _ (dQ aF))) λa E=>?_;refine CL 0 E I (LV I (by rw[hlen];omega)) λa w E I=>?_;rw[hlen]at E I;refine IF 4 E I (λbO a E=>?_) λbO a E=>?_
  ·
   have h9:¬ l.length+(i-(l.length-f))<1000:=λh=>bO (ak h);rw[ag h9]at I;refine RT 5 E I ?_;exact⟨_,_,rfl,by rw[dw,ag (by omega),show 1000-l.length=i-(l.length-f) from by omega];exact I⟩
  have h9:l.length+(i-(l.length-f))<1000:=Decidable.of_not_not λh=>by rw[ag h]at bO;cases bO
  rw[ak h9]at I;refine RN 6 E I λa E=>?_;exact⟨bs.length-(i+1),by omega,i+1,⟨rfl,by omega,by omega,by omega⟩,by rw[show ((i+1-(l.length-f):Nat):Int)=((i-(l.length-f):Nat):Int)+1 from by omega];exact E.ab [0,2,8,9],by rw[LM eY aF hi h9];exact I⟩
 refine RT 4 E I ?_;exact⟨_,_,rfl,by rw[dw,ag (by omega),fO (by rw[c4];omega)];rw[fO (by rw[c4];omega)]at I;exact I⟩
theorem LY {f k:Nat}(I:U W w (Ln (lb,l)::L))(hl:l.length≤1000)(hf:f≤1000)(hk:1≤k∧k≤1000) :
   Calls prog 309 #[pt lb,.int .i64 f,.int .i64 k] w λe V=>∃ au c',e=.returned (.slice au ((l.drop f).take k).length c')∧U W V (Sl 5 1 au ((l.drop f).take k).length c' (bc ((l.drop f).take k))::Ln (lb,l)::L):=by
 have eU:((l.drop f).take k).length=min l.length (f+k)-f:=by rw[dH,c4];omega
 refine EN func309 ntmps309 rfl rfl λa E=>?_;refine RN 7 E I λa E=>?_;rw[bn (by omega)]at E;refine CL 2 E I (BR I) λa w E I=>?_;refine BY 3 E I (λek a E=>?_) λek a E=>?_
 ·
  have hz:(l.drop f).take k=[]:=by rw[drop_eq_nil_of_le (by omega),List.take_nil]
  refine RT 6 E I ?_;rw[hz];exact⟨_,_,rfl,I.bR _ _ none⟩
 refine RN 3 E I λa E=>?_;rw[bn (by omega)]at E;refine RN 2 E I λa E=>?_;obtain⟨g7,cl,I⟩:=Ln.open I;have cm:=(I.sl g7).2;refine bW 0 [8,9,14] [0,1,2,4,5,6,7,10,11,12,13,3003,1008,1009,1014,15,1016,17] E I λa w E I hH hC=>?_;refine RH 10 E I hH hC λa E=>?_;rw[show min (k:Int) 1000=(k:Int) from by omega]at E;refine RH 5 E I hH hC λa E=>?_;rw[show min (l.length:Int) ((f:Int)+(k:Int))=((min l.length (f+k):Nat):Int) from by omega]at E;refine RH 1 E I hH hC λa E=>?_;refine aX 0 E I (sW (bs:=(l.drop f).take k) I (λV hw=>by have h1:=(hw.cr g7 l rfl rfl).zd (c:=cl) (lo:=f) (n:=min l.length (f+k)-f) (by omega) cm;rw[show (l.drop f).take (min l.length (f+k)-f)=(l.drop f).take k from by rw[← eU,List.take_eq_take_iff,dH,c4];omega]at h1;exact h1) (by omega)) λfy db a w E I=>?_;refine RN 1 E I λa E=>?_;refine RT 0 E I ?_;exact⟨fy,db,by rw[eU],by rw[eU];exact (Ln.mk' (L':=Sl 5 1 fy (min l.length (f+k)-f) db (bc ((l.drop f).take k))::L) I g7 cl).perm (cW _ _ _)⟩
theorem Zu (I:U W w (Ln (lb,l)::L))(hl:l.length≤1000) :
   Calls prog 293 #[pt lb] w λe V=>∃ au c',e=.returned (.slice au l.length c')∧U W V (Sl 5 1 au l.length c' (bc l)::Ln (lb,l)::L):=by
 have Zv:(l.drop 0).take 1000=l:=by rw[drop_zero,fO hl]
 refine EN func293 ntmps293 rfl rfl λa E=>?_;refine aX 4 E I (LY (f:=0) (k:=1000) I hl (by decide) (by decide)) λfy db a w E I=>?_;rw[Zv]at E I;refine RT 1 E I ?_;exact⟨_,_,rfl,I⟩
end
end
section
def ki (x:Lx):Value:=pt x.1
def Qu (qb:Nat)(aB:List Nat)(ls:List (List UInt8)):SP:=λh=>∃ (ad:Option Addr) (c:Nat),aB.length=ls.length∧cp [aa qb 288 [.slice ad ls.length c],Sl 289 1 ad ls.length c ((aB.zip ls).map ki),ah Ln (aB.zip ls)] h
section
variable {W w:World}{L L' R:List SP}{n c qb lb i f:Nat}{ad:Option Addr}{ls:List (List UInt8)}{aB:List Nat}{l:List UInt8}{x:UInt8}
theorem Qu.open (I:U W w (Qu qb aB ls::L)):∃ (ad:Option Addr) (c:Nat),aB.length=ls.length∧U W w (aa qb 288 [.slice ad ls.length c]::Sl 289 1 ad ls.length c ((aB.zip ls).map ki)::ah Ln (aB.zip ls)::L):=by
 obtain⟨⟨ad,c⟩,hl,I⟩:=I.jL (ι:=Option Addr×Nat) (p:=λ_=>aB.length=ls.length) (B:=λy h=>cp [aa qb 288 [.slice y.1 ls.length y.2],Sl 289 1 y.1 ls.length y.2 ((aB.zip ls).map ki),ah Ln (aB.zip ls)] h) λ_ ⟨ad,c,hl,h⟩=>⟨(ad,c),hl,h⟩;exact⟨ad,c,hl,I.open (M:=[_,_,_]) λ_ h=>h⟩
theorem Qu.close (I:U W w (aa qb 288 [.slice ad ls.length c]::Sl 289 1 ad ls.length c ((aB.zip ls).map ki)::ah Ln (aB.zip ls)::L))(hl:aB.length=ls.length):U W w (Qu qb aB ls::L) :=
 U.shut (M:=[_,_,_]) I λ_ h=>⟨ad,c,hl,h⟩
theorem Qu.mk' (I:U W w L)(ad:Option Addr)(c:Nat)[k:fN L (aa qb 288 [.slice ad ls.length c]::Sl 289 1 ad ls.length c ((aB.zip ls).map ki)::ah Ln (aB.zip ls)::L') R](hl:aB.length=ls.length):U W w (Qu qb aB ls::L'):=Qu.close (ad:=ad) (c:=c) I.sub hl
theorem va {aB:List Nat}{ls:List (List UInt8)}(hl:aB.length=ls.length){i:Nat}(h:i<ls.length):(aB.zip ls)[i]?=some (aB.getD i 0,ls.getD i []):=by
 rw[List.getElem?_zip_eq_some];simp only[bl];rw[aD h,aD (by omega)];exact⟨rfl,rfl⟩
def ze (qb:Nat)(aB:List Nat)(ls:List (List UInt8))(i:Nat):SP:=λh=>∃ (ad:Option Addr) (c:Nat),aB.length=ls.length∧cp [aa qb 288 [.slice ad ls.length c],Sl 289 1 ad ls.length c ((aB.zip ls).map ki),ah Ln ((aB.zip ls).eraseIdx i)] h
theorem Qu.out (I:U W w (Qu qb aB ls::L))(h:i<ls.length):U W w (Ln (aB.getD i 0,ls.getD i [])::ze qb aB ls i::L):=by
 obtain⟨ad,c,hl,I⟩:=Qu.open I;have hz:=va hl h;obtain⟨hi,he⟩:=aZ.1 hz;replace I:=(I.pick (ah Ln (aB.zip ls))).fo hi;rw[he]at I;have h2:U W w (aa qb 288 [.slice ad ls.length c]::Sl 289 1 ad ls.length c ((aB.zip ls).map ki)::ah Ln ((aB.zip ls).eraseIdx i)::Ln (aB.getD i 0,ls.getD i [])::L):=I.sub;exact (U.shut (M:=[_,_,_]) h2 λ_ h=>⟨ad,c,hl,h⟩:U W w (ze qb aB ls i::Ln (aB.getD i 0,ls.getD i [])::L)).perm (cW _ _ _)
theorem map_set {α β:Type}(f:α→β)(l:List α)(i:Nat)(x:α):(l.set i x).map f=(l.map f).set i (f x):=by
 apply ext_getElem? ;intro j;simp only[bm,jX,bf];split
 ·split <;> rfl
 ·rfl
theorem LZ {aB:List Nat}{ls:List (List UInt8)}(hl:aB.length=ls.length){i:Nat}(h:i<ls.length)(l:List UInt8):aB.zip (ls.set i l)=(aB.zip ls).set i (aB.getD i 0,l):=by
 apply ext_getElem?;intro j;by_cases hj:j<ls.length
 ·rw[va (by simpa using hl) (by simpa using hj),jX];by_cases oz:i=j
  ·subst oz;rw[ak rfl,ak (by simp;omega)];simp[bl,h]
  ·rw[ag oz,va hl hj];simp[bl,getElem?_set_ne oz]
 ·rw[iD (by simp;omega),iD (by simp;omega)]
theorem Qu.in (I:U W w (Ln (aB.getD i 0,l)::ze qb aB ls i::L))(h:i<ls.length):U W w (Qu qb aB (ls.set i l)::L):=by
 obtain⟨⟨ad,c⟩,hl,I⟩:=(I.pick (ze qb aB ls i)).jL (ι:=Option Addr×Nat) (p:=λ_=>aB.length=ls.length) (B:=λy h=>cp [aa qb 288 [.slice y.1 ls.length y.2],Sl 289 1 y.1 ls.length y.2 ((aB.zip ls).map ki),ah Ln ((aB.zip ls).eraseIdx i)] h) λ_ ⟨ad,c,hl,h⟩=>⟨(ad,c),hl,h⟩;replace I:U W w (aa qb 288 [.slice ad ls.length c]::Sl 289 1 ad ls.length c ((aB.zip ls).map ki)::ah Ln ((aB.zip ls).eraseIdx i)::Ln (aB.getD i 0,l)::L):=I.open (M:=[_,_,_]) λ_ h=>h;have hz:=va hl h;obtain⟨hi,he⟩:=aZ.1 hz;have h1:U W w (Ln (aB.getD i 0,l)::ah Ln ((aB.zip ls).eraseIdx i)::aa qb 288 [.slice ad ls.length c]::Sl 289 1 ad ls.length c ((aB.zip ls).map ki)::L):=I.sub;replace h1:=h1.kY hi;rw[← LZ hl h]at h1;have eD:ls.length=(ls.set i l).length:=by rw[bt]
 have hp:(aB.zip ls).map ki=(aB.zip (ls.set i l)).map ki:=by
  rw[LZ hl h,map_set]
  symm
  apply ext_getElem?;intro j;rw[jX];split
  ·rename_i hj;subst hj;split
   ·rw[bm,hz];rfl
   ·rw[iD (by omega)]
  ·rfl
 rw[hp,eD]at h1;exact Qu.mk' h1 ad c (by rw[← eD];exact hl)
theorem L1 {ls:List (List UInt8)}{i:Nat}:ls.set i (ls.getD i [])=ls:=by
 apply ext_getElem?;intro j;rw[jX];split
 ·rename_i h;subst h;split
  ·rename_i h;rw[bl,aD h];rfl
  ·rw[iD (by omega)]
 ·rfl
theorem Qu.back (I:U W w (Ln (aB.getD i 0,ls.getD i [])::ze qb aB ls i::L))(h:i<ls.length):U W w (Qu qb aB ls::L):=by
 have:=Qu.in I h
 rwa [L1]at this
theorem zf (I:U W w (Qu qb aB ls::L))(h:i<ls.length):Calls prog 172 #[.pointer (some ⟨aB.getD i 0,0,none⟩)] w λe V=>e=.returned (.int .i64 (ls.getD i []).length)∧U W V (Qu qb aB ls::L) :=
 (BR (Qu.out I h)).mono λ_ _ ⟨he,I⟩=>⟨he,Qu.back I h⟩
theorem Zw (I:U W w (Qu qb aB ls::L))(h:i<ls.length):Calls prog 173 #[.pointer (some ⟨aB.getD i 0,0,none⟩),.int .i64 f] w λe V=>e=.returned (.tuple #[.int .u8 (((ls.getD i []).getD f 0).toNat:Nat),.bool (decide (f<(ls.getD i []).length))])∧U W V (Qu qb aB ls::L) :=
 (LU (Qu.out I h)).mono λ_ _ ⟨he,I⟩=>⟨he,Qu.back I h⟩
theorem Zx (I:U W w (Qu qb aB ls::L))(h:i<ls.length)(hl:(ls.getD i []).length<1000):Calls prog 314 #[.pointer (some ⟨aB.getD i 0,0,none⟩),.int .u8 (x.toNat:Nat)] w λe V=>e=.returned (.int .i64 0)∧U W V (Qu qb aB (ls.set i (ls.getD i []++[x]))::L) :=
 (LV (Qu.out I h) (by omega)).mono λ_ _ ⟨he,I⟩=>by
  rw[ak hl]at he I;exact⟨he,Qu.in I h⟩
theorem Zy {fr:Nat}{bs:List UInt8}(I:U W w (Qu qb aB ls::L))(h:i<ls.length)(hl:(ls.getD i []).length≤1000)(hb:bs.length≤65536)(hp:∀ V,U W V L→aL V ad bs.length bs) :
   Calls prog 318 #[.pointer (some ⟨aB.getD i 0,0,none⟩),.int .i64 fr,.slice ad bs.length c] w λe V=>∃ n er:Int,e=.returned (.tuple #[.int .i64 n,.int .i64 er])∧U W V (Qu qb aB (ls.set i (dw (ls.getD i []) fr bs))::L) :=
 (Zt (Qu.out I h) hl hb (λV hw=>hp V hw.tail)).mono λ_ _ ⟨n,er,he,I⟩=>⟨n,er,he,Qu.in I h⟩
theorem Zz {fr k:Nat}(I:U W w (Qu qb aB ls::L))(h:i<ls.length)(hl:(ls.getD i []).length≤1000)(hf:fr≤1000)(hk:1≤k∧k≤1000) :
   Calls prog 309 #[.pointer (some ⟨aB.getD i 0,0,none⟩),.int .i64 fr,.int .i64 k] w λe V=>∃ au c',e=.returned (.slice au (((ls.getD i []).drop fr).take k).length c')∧U W V (Sl 5 1 au (((ls.getD i []).drop fr).take k).length c' (bc (((ls.getD i []).drop fr).take k))::Qu qb aB ls::L) :=
 (LY (Qu.out I h) hl hf hk).mono λ_ _ ⟨au,c',he,I⟩=>⟨au,c',he,(Qu.back (L:=Sl 5 1 au _ c' _::L) I.sub h).perm (cW _ _ _)⟩
theorem ZA (I:U W w (Qu qb aB ls::L))(h:i<ls.length)(hl:(ls.getD i []).length≤1000) :
   Calls prog 293 #[.pointer (some ⟨aB.getD i 0,0,none⟩)] w λe V=>∃ au c',e=.returned (.slice au (ls.getD i []).length c')∧U W V (Sl 5 1 au (ls.getD i []).length c' (bc (ls.getD i []))::Qu qb aB ls::L) :=
 (Zu (Qu.out I h) hl).mono λ_ _ ⟨au,c',he,I⟩=>⟨au,c',he,(Qu.back (L:=Sl 5 1 au _ c' _::L) I.sub h).perm (cW _ _ _)⟩
theorem F4 (I:U W w (Qu qb aB ls::L)):Calls prog 171 #[pt qb] w λe V=>e=.returned (.int .i64 ls.length)∧U W V (Qu qb aB ls::L):=by
 obtain⟨ad,c,hl,I⟩:=Qu.open I;refine EN func171 ntmps171 rfl rfl λa E=>?_;refine RN 6 E I λa E=>?_;replace E:=E.aK 4;refine RT 8 E I ?_;exact⟨rfl,Qu.close I hl⟩
theorem BS {aB:List Nat}{ls:List (List UInt8)}(hl:aB.length=ls.length){i:Nat}(h:i<ls.length):((aB.zip ls).map ki)[i]?=some (.pointer (some ⟨aB.getD i 0,0,none⟩)):=by
 rw[bm,va hl h];rfl
theorem tC (I:U W w (Qu qb aB ls::L))(h:i<ls.length):Calls prog 291 #[pt qb,.int .i64 i] w λe V=>e=.returned (.pointer (some ⟨aB.getD i 0,0,none⟩))∧U W V (Qu qb aB ls::L):=by
 refine EN func291 ntmps291 rfl rfl λa E=>?_;refine RN 7 E I λa E=>?_;rw[bn (by omega)]at E;refine CL 2 E I (F4 I) λa w E I=>?_;refine RN 2 E I λa E=>?_;rw[bn (by omega)]at E;refine RN 2 E I λa E=>?_;obtain⟨ad,c,hl,I⟩:=Qu.open I;obtain⟨b,o,rfl,hr⟩:=I.bY ad (by omega);refine RN 6 E I λa E=>?_;refine SS E (ae E (hr i _ (BS hl h))) λa E=>?_;refine RT 1 E I ?_;exact⟨rfl,Qu.close I hl⟩
theorem sf (I:U W w (Qu qb aB ls::L))(h0:ls≠[])(iQ:ls.length≤8):Calls prog 135 #[pt qb] w λe V=>e=.returned (.int .i64 (aV ls))∧U W V (Qu qb aB ls::L):=by
 have qv:0<ls.length:=List.length_pos_iff.2 h0;refine EN func135 ntmps135 rfl rfl λa E=>?_;refine CL 5 E I (F4 I) λa w E I=>?_;refine RN 1 E I λa E=>?_;rw[bn (by omega)]at E;refine RN 2 E I λa E=>?_;obtain⟨ad,c,hl,I⟩:=Qu.open I;obtain⟨b,o,rfl,hr⟩:=I.bY ad (by omega);refine RN 5 E I λa E=>?_;refine SS E (ae E (hr 0 _ (BS hl qv))) λa E=>?_;replace I:U W w (Qu qb aB ls::L):=Qu.close I hl;refine CL 0 E I (zf I qv) λa w E I=>?_;refine RN 3 E I λa E=>?_;obtain⟨ad,c,hl,I⟩:=Qu.open I;rw[show ((ls.getD 0 []).length:Int)=(iP ls 0:Nat) from by rw[iP,List.headD_eq_getD]]at E;refine RN 6 E I λa E=>?_;replace I:U W w (aa qb 288 [.slice ad ls.length c]::Sl 289 1 ad ls.length c ((aB.zip ls).map ki)::ah Ln (aB.zip ls)::L):=I;refine aQ (λμ a w=>∃ (i:Nat),(μ=ls.length-i∧i≤ls.length)∧Fr a 31 [(3,.int .i64 (iP ls i:Nat)),(19,.slice ad ls.length c),(20,.int .i64 ls.length),(21,.int .i64 i)]∧U W w (aa qb 288 [.slice ad ls.length c]::Sl 289 1 ad ls.length c ((aB.zip ls).map ki)::ah Ln (aB.zip ls)::L)) (ls.length) (⟨0,⟨rfl,by omega⟩,E.ab [3,19,20,21],I⟩) ?_;clear E I;rintro μ a w ⟨i,⟨rfl,hi⟩,E,I⟩;refine IF 3 E I (λao a E=>?_) λao a E=>?_
 ·
  obtain⟨b2,o2,rfl,eg⟩:=I.bY ad (by omega);have aF:i<ls.length:=by omega
  have hz:=va hl aF;obtain⟨kM,qO⟩:=aZ.1 hz;refine RN 3 E I λa E=>?_;refine SS E (ae E (eg i _ (BS hl aF))) λa E=>?_;refine RN 1 E I λa E=>?_;replace I:=(I.pick (ah Ln (aB.zip ls))).fo kM;rw[qO]at I;refine CL 2 E I (BR I) λa w E I=>?_;replace I:=(qO ▸ I:U W w (Ln (aB.zip ls)[i]::_)).kY kM;rw[mE]at I;refine RN 1 E I λa E=>?_;rw[show min ((iP ls i:Nat):Int) ((ls.getD i []).length:Int)=((iP ls (i+1):Nat):Int) from by rw[iP];omega]at E;refine RN 3 E I λa E=>?_;exact⟨ls.length-(i+1),by omega,i+1,⟨rfl,by omega⟩,E.ab [3,19,20,21],I.sub⟩
 obtain rfl:i=ls.length:=by omega
 refine RT 3 E I ?_;exact⟨rfl,Qu.close I hl⟩
theorem ZB (I:U W w (Qu qb aB ls::L))(h0:ls≠[])(hf:f<aV ls)(iQ:ls.length≤8):Calls prog 136 #[pt qb,.int .i64 f] w λe V=>∃ au c',e=.returned (.tuple #[.slice au (bM ls f).length c',.bool true]) ∧
   U W V (Sl 5 1 au (bM ls f).length c' (bc (bM ls f))::Qu qb aB ls::L):=by
 refine EN func136 ntmps136 rfl rfl λa E=>?_;refine RN 8 E I λa E=>?_;rw[bn (by omega)]at E;refine CL 2 E I (sf I h0 iQ) λa w E I=>?_;refine RN 2 E I λa E=>?_;rw[bn (by omega)]at E;refine RN 5 E I λa E=>?_;obtain⟨ad,c,hl,I⟩:=Qu.open I;refine RN 6 E I λa E=>?_;refine aQ (λμ a w=>∃ (i:Nat) (ad2:Option Addr) (c2:Nat),(μ=ls.length-i∧i≤ls.length)∧Fr a 40 [(1,.int .i64 f),(6,.slice ad2 (fF ls f i).length c2),(22,.slice ad ls.length c),(23,.int .i64 ls.length),(24,.int .i64 i)]∧U W w (Sl 5 1 ad2 (fF ls f i).length c2 (bc (fF ls f i))::aa qb 288 [.slice ad ls.length c]::Sl 289 1 ad ls.length c ((aB.zip ls).map ki)::ah Ln (aB.zip ls)::L)) (ls.length) (⟨0,none,0,⟨rfl,by omega⟩,E.ab [1,6,22,23,24],I.bR 5 1 none⟩) ?_;clear E I;rintro μ a w ⟨i,ad2,c2,⟨rfl,hi⟩,E,I⟩;refine IF 3 E I (λao a E=>?_) λao a E=>?_
 ·
  obtain⟨b2,o2,rfl,eg⟩:=I.bY ad (by omega);have aF:i<ls.length:=by omega
  have hz:=va hl aF;obtain⟨kM,qO⟩:=aZ.1 hz;have ea:=tB (ls:=ls) (f:=f) (i:=i) hi;refine RN 3 E I λa E=>?_;refine SS E (ae E (eg i _ (BS hl aF))) λa E=>?_;refine RN 2 E I λa E=>?_;replace I:=(I.pick (ah Ln (aB.zip ls))).fo kM;rw[qO]at I;refine CL 2 E I (LU I) λa w E I=>?_;replace I:=(qO ▸ I:U W w (Ln (aB.zip ls)[i]::_)).kY kM;rw[mE]at I;refine RN 7 E I λa E=>?_;refine cn E rfl I underlying22 Ty.t5 rfl rfl rfl rfl (by decide) (by decide) λb36 a w E I ho=>?_;clear ho;refine RN 0 E I λa E=>?_;refine cK E rfl I underlying22 Ty.t5 rfl rfl I.ai rfl (eF [(ls.getD i []).getD f 0]) (by decide) (by decide) (by omega) λY3 Y4 a w E I=>?_;rw[show bc (fF ls f i)++_=bc (fF ls f (i+1)) from by rw[BO aF,fR,bl (l:=ls),aD aF];rfl,show (fF ls f i).length+1=(fF ls f (i+1)).length from by rw[tB hi,tB (by omega)]]at I;rw[show (fF ls f i).length+1=(fF ls f (i+1)).length from by rw[tB hi,tB (by omega)]]at E;refine RN 3 E I λa E=>?_;exact⟨ls.length-(i+1),by omega,i+1,_,_,⟨rfl,by omega⟩,E.ab [1,6,22,23,24],I.sub⟩
 obtain rfl:i=ls.length:=by omega
 rw[BN]at E I;refine RT 4 E I ?_;exact⟨_,_,rfl,(Qu.mk' (L':=Sl 5 1 ad2 (bM ls f).length c2 (bc (bM ls f))::L) I ad c hl).perm (cW _ _ _)⟩
theorem ZC {d:Nat}(I:U W w L)(hn:2≤n∧n≤8)(hd:d≤8):Calls prog 131 #[.int .i64 n,.int .i64 d] w λe V=>∃ qb aB,e=.returned (pt qb)∧U W V (Qu qb aB (List.replicate n (List.replicate d 0))::L):=by
 refine EN func131 ntmps131 rfl rfl λa E=>?_;refine BX 4 E I λdv a w E I=>?_;refine RN 6 E I λa E=>?_;rw[show min (max (n:Int) 2) 8=(n:Int) from by omega]at E;refine RN 1 E I λa E=>?_;replace I:=I.bR 289 1 none;replace I:=U.iZ (f:=Ln) I;refine aQ (λμ a w=>∃ (i:Nat) (xs:List Lx) (ad:Option Addr) (c:Nat),(μ=n-i∧i≤n∧xs.map (·.2)=List.replicate i (List.replicate d 0))∧Fr a 26 [(1,.int .i64 d),(5,pt dv),(10,.int .i64 n),(11,.int .i64 i)]∧U W w (aa dv 288 [.slice ad i c]::Sl 289 1 ad i c (xs.map ki)::ah Ln xs::L)) (n) (⟨0,[],none,0,⟨rfl,by omega,rfl⟩,E.ab [1,5,10,11],(I.sub:U W w (aa dv 288 [.slice none 0 0]::Sl 289 1 none 0 0 []::ah Ln []::L))⟩) ?_;clear E I;rintro μ a w ⟨i,xs,ad,c,⟨rfl,hi,bd⟩,E,I⟩;refine IF 3 E I (λaj a E=>?_) λaj a E=>?_
 ·
  refine a1 1 (λw0 V=>Rd V dv 0 [.slice ad i c]) [6,7] [0,1,2,3,5,3004,1006,1007,1008,9,10,1011] E I λa w E I hH=>?_;have hC:=hH.at w I.ai;refine RH 5 E I hH hC λa E=>?_;refine QH E (λw hc=>ae E (hc 0 _ rfl)) hC λa E=>?_;refine RH 0 E I hH hC λa E=>?_;refine aW 0 E I (Zs I hd) λlb a w E I=>?_;replace hC:=hH.at w I.ai;refine RH 0 E I hH hC λa E=>?_;refine cn E rfl I underlying286 Ty.t289 rfl rfl rfl rfl (by decide) (by decide) λJV a w E I ho=>?_;clear ho;replace hC:=hH.at w I.ai;refine RH 0 E I hH hC λa E=>?_;refine cK E rfl I underlying286 Ty.t289 rfl rfl I.ai rfl (by simp[Value.oneCell']) (by decide) (by decide) (by omega) λrH rI a w E I=>?_;rw[show List.map ki xs++_=List.map ki (xs++[(lb,List.replicate d 0)]) from by rw[cS];rfl]at I;refine ST 2 E I (λa w E I=>?_);refine RN 2 E I λa E=>?_;have cI:=U.jY (x:=(lb,List.replicate d 0)) (I.sub (M:=Ln (lb,List.replicate d 0)::ah Ln xs::aa dv 288 [.slice rH (i+1) rI]::Sl 289 1 rH (i+1) rI ((xs++[(lb,List.replicate d 0)]).map ki)::L));exact⟨n-(i+1),by omega,i+1,xs++[(lb,List.replicate d 0)],rH,rI,⟨rfl,by omega,by rw[cS,bd,replicate_succ'];rfl⟩,E.ab [1,5,10,11],cI.sub⟩
 obtain rfl:i=n:=by omega
 refine RT 3 E I ?_;have b0:xs.length=i:=by rw[← bf (f:=(·.2)),bd,kC]
 have hz:(xs.map (·.1)).zip (List.replicate i (List.replicate d 0))=xs:=by
  rw[← bd];clear bd I E b0
  induction xs with
  | nil=>rfl
  | cons x xs ih=>rw[map_cons,map_cons,List.zip_cons_cons,ih]
 have g5:(List.replicate i (List.replicate d (0:UInt8))).length=i:=kC;refine⟨dv,xs.map (·.1),rfl,?_⟩;refine Qu.close (ad:=ad) (c:=c) ?_ (by rw[bf,b0,g5]);rw[g5,hz];exact I
end
end
end Go.Proofs.YteoldcfapaiobaaGreat
