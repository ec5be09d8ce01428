/- Packets out of bytes: packet.Decode. -/
import Derived.Test.YteoldcfapaiobaaGreatI07PktP
import Derived.Test.YteoldcfapaiobaaGreatI01Row
namespace Go.Proofs.YteoldcfapaiobaaGreat
open Tryz
open List (drop_zero drop_left take_zero foldl_cons map_cons drop_eq_nil_of_le append_nil ext_getElem? getElem?_set_ne foldl_append replicate_succ')
open Go.RowKit
set_option linter.unusedVariables false
set_option linter.unusedSimpArgs false
set_option maxRecDepth 10000
set_option synthInstance.maxSize 4000
set_option synthInstance.maxHeartbeats 400000
section
def zD (x:Int):Prop := -9223372036854775808≤x∧x≤9223372036854775807
def m6 (l:List UInt8):Nat:=l.foldl (λn b=>n*256+b.toNat) 0
theorem MQ:∀ (l:List UInt8) (a:Nat),l.foldl (λn b=>n*256+b.toNat) a<(a+1)*256 ^ l.length
 | [],a=>by simp
 | b::l,a=>by
  have h1:=MQ l (a*256+b.toNat);have h2:=mA b;rw[foldl_cons,eV];refine yA h1 ?_;rw[Nat.pow_succ,Nat.mul_comm (256 ^ l.length) 256,← Nat.mul_assoc];exact oJ _ (by omega)
theorem MR {x:Nat}(h:x<4294967296):m6 (fp x)=x:=by
 have:=GG h;simpa [m6,fp,GF] using this
theorem MS {l:List UInt8}{i:Nat}(h:i<l.length):m6 (l.take (i+1))=m6 (l.take i)*256+l[i].toNat:=by
 rw[m6,jD h,foldl_append];rfl
theorem Cq (l:List UInt8)(n:Nat)(h:l.length≤n):m6 l<256 ^ n:=by
 have:=MQ l 0;rw[ei,Nat.one_mul]at this;exact yA this (Nat.pow_le_pow_right (by decide) h)
theorem aag {n:Nat}(h:n<16777216)(b:UInt8):IntKind.u32.wrap (((BitVec.ofInt IntKind.u32.bits (IntKind.u32.wrap ((n:Int)*2 ^ 8)) ||| BitVec.ofInt IntKind.u32.bits (b.toNat:Int)).toNat:Nat):Int)=((n*256+b.toNat:Nat):Int):=by
 have hb:=mA b;rw[show IntKind.u32.wrap ((n:Int)*2 ^ 8)=((n*256:Nat):Int) from by rw[wrap_u32];omega,vv,vv];show IntKind.u32.wrap (((BitVec.ofNat 32 (n*256) ||| BitVec.ofNat 32 b.toNat).toNat:Nat):Int)=_;rw[BitVec.toNat_or,BitVec.toNat_ofNat,BitVec.toNat_ofNat,k9 (show n*256<2 ^ 32 by omega),k9 (show b.toNat<2 ^ 32 by omega),wrap_u32];have h1:=Nat.two_pow_add_eq_or_of_lt (i:=8) (b:=b.toNat) hb n;rw[show n*256=2 ^ 8*n from by omega,← h1];omega
structure rh (W:World)(L:List SP)(ad:Option Addr)(c:Nat)(rest:List UInt8):Prop where
 len:rest.length≤65536
 cap:rest.length≤c
 rd:∀ w',U W w' L→aX w' ad rest.length rest
section
variable {W w:World}{L L':List SP}{n c m rb:Nat}{ad:Option Addr}{bs rest:List UInt8}{p:Pk}{bad:Bool}
theorem rh.cut {k:Nat}(h:rh W L ad c rest)(hk:k≤rest.length):rh W L (fw ad k c 1) (c-k) (rest.drop k) :=
 ⟨by rw[c8];have:=h.len;omega,by rw[c8];have:=h.cap;omega,λw' hw=>(h.rd w' hw).vu hk h.cap⟩
theorem zE (I:U W w (aa rb 427 [.slice ad rest.length c,.bool bad]::L'))(Cr:∀ w',U W w' L'→U W w' L)(hr:rh W L ad c rest) :
   Calls prog 331 #[pt rb] w λe w'=>∃ (x:Int) (av:Option Addr) (c':Nat) (oh:List UInt8) (fy:Bool),e=.returned (.int .i64 x)∧zD x∧rh W L av c' oh ∧
    (∀ (n:Int) (r:List UInt8),zD n→rest=aO (zz n)++r→bad=false→x=n∧oh=r∧fy=false)∧U W w' (aa rb 427 [.slice av oh.length c',.bool fy]::L'):=by
 have hlen:=hr.len;refine EN func331 ntmps331 rfl rfl λa E=>?_;refine j9 7 E I (MA (bs:=rest) I (by omega) (λw' hw=>hr.rd w' (Cr _ hw.tail))) λx k er a w E ⟨hg,I⟩=>?_;refine RN 7 E I λa E=>?_;have qh:=hg.2.2.1;have nY:=hg.2.1;have dR:k≤rest.length:=by
  by_cases h0:er=0
  ·have:=qh h0;omega
  ·have:=(hg.2.2.2.1 h0).1;omega
 refine b6 (M:=λa w=>∃ (z:Bool) (av:Option Addr) (c':Nat) (oh:List UInt8),(er=0→bad=false→z=false)∧rh W L av c' oh∧(z=false→oh=rest.drop k)∧Fr a 41 [(3,.int .i64 x)]∧U W w (aa rb 427 [.slice av oh.length c',.bool z]::L')) ?_ ?_
 ·
  refine b6 (M:=λa w=>∃ z:Bool,(bad=true→z=true)∧(er=0→bad=false→z=false)∧Fr a 41 [(0,pt rb),(3,.int .i64 x),(4,.int .i64 k)]∧U W w (aa rb 427 [.slice ad rest.length c,.bool z]::L')) ?_ ?_
  ·
   refine BY 6 E I (λjr a E=>?_) λjr a E=>?_
   ·
    refine ST 5 E I (λa w E I=>?_);refine RN 0 E I λa E=>?_;exact⟨_,λ_=>rfl,λ_ h=>(by rw[h]at jr;cases jr),E.ab [0,3,4],I⟩
   refine ST 5 E I (λa w E I=>?_);refine RN 0 E I λa E=>?_;exact⟨_,λh=>(by rw[h]at jr;cases jr),λh _=>bu (by omega),E.ab [0,3,4],I⟩
  clear E;(try clear I);rintro a w ⟨z,cW,kW,E,I⟩;refine IF 6 E I (λak a E=>?_) λak a E=>?_
  ·
   have hz:z=false:=ak;refine RN 7 E I λa E=>?_;rw[show rest.length-k=(rest.drop k).length from by simp]at E;refine ST 2 E I (λa w E I=>?_);refine RN 0 E I λa E=>?_;exact⟨_,_,_,_,kW,hr.cut dR,λ_=>rfl,E.ab [3],I⟩
  refine RN 0 E I λa E=>?_;exact⟨_,_,_,_,kW,hr,λh=>(by rw[h]at ak;cases ak),E.ab [3],I⟩
 clear E;(try clear I);rintro a w ⟨z,av,c',oh,kW,hr',hd',E,I⟩;refine RT 3 E I ?_;refine⟨x,av,c',oh,z,rfl,hg.1,hr',λn r hn e hb=>?_,I⟩;obtain⟨rfl,rfl,rfl⟩:=hg.2.2.2.2 n r hn.1 hn.2 e;have hz:=kW rfl hb;refine⟨rfl,?_,hz⟩;rw[hd' hz,e,drop_left]
theorem aah (I:U W w (aa rb 427 [.slice ad rest.length c,.bool bad]::L'))(Cr:∀ w',U W w' L'→U W w' L)(hr:rh W L ad c rest) :
   Calls prog 332 #[pt rb] w λe w'=>∃ (x:Nat) (av:Option Addr) (c':Nat) (oh:List UInt8) (fy:Bool),e=.returned (.int .u32 x)∧x<4294967296∧rh W L av c' oh ∧
    (∀ (n:Nat) (r:List UInt8),n<4294967296→rest=fp n++r→bad=false→x=n∧oh=r∧fy=false)∧U W w' (aa rb 427 [.slice av oh.length c',.bool fy]::L'):=by
 have hlen:=hr.len;have agN:=hr.cap;refine EN func332 ntmps332 rfl rfl λa E=>?_;refine RN 3 E I λa E=>?_;refine b6 (M:=λa w=>∃ z:Bool,(z=true↔(bad=true∨rest.length<4))∧Fr a 50 [(0,pt rb)]∧U W w (aa rb 427 [.slice ad rest.length c,.bool z]::L')) ?_ ?_
 ·
  refine BY 6 E I (λjr a E=>?_) λjr a E=>?_
  ·
   refine ST 9 E I (λa w E I=>?_);refine RN 0 E I λa E=>?_;exact⟨_,⟨λ_=>.inl jr,λ_=>rfl⟩,E.ab [0],I⟩
  refine ST 9 E I (λa w E I=>?_);refine RN 0 E I λa E=>?_;exact⟨_,(by rw[cu,jr];simp;omega),E.ab [0],I⟩
 clear E;(try clear I);rintro a w ⟨z,hz,E,I⟩;refine IF 5 E I (λak a E=>?_) λak a E=>?_
 ·
  have hzt:=hz.1 ak;refine RT 2 E I ?_;refine⟨0,ad,c,rest,true,rfl,by decide,hr,λn r hn e hb=>?_,by rw[ak]at I;exact I⟩;rcases hzt with h | h
  ·rw[hb]at h;cases h
  ·rw[e,aM,m5]at h;omega
 have MT:¬ (bad=true∨rest.length<4):=λh=>by rw[hz.2 h]at ak;cases ak
 have h4:4≤rest.length:=Nat.le_of_not_lt λh=>MT (.inr h);obtain⟨bb,oo,rfl,_⟩:=(hr.rd _ (Cr _ I.tail)).get (by omega);have eQ:(rest.take 4).length=4:=by rw[eA];omega
 refine RN 9 E I λa E=>?_;rw[rZ,Nat.sub_zero,Nat.sub_zero]at E;refine RN 2 E I λa E=>?_;refine aL (λμ a w=>∃ (i:Nat),(μ=4-i∧i≤4)∧Fr a 50 [(0,pt rb),(3,.int .u32 (m6 (rest.take i))),(29,.slice (some ⟨bb,oo,none⟩) 4 c),(30,.int .i64 4),(31,.int .i64 i)]∧U W w (aa rb 427 [.slice (some ⟨bb,oo,none⟩) rest.length c,.bool z]::L')) (4) (⟨0,⟨rfl,by omega⟩,E.ab [0,3,29,30,31],I⟩) ?_;clear E I;rintro μ a w ⟨i,⟨rfl,hi⟩,E,I⟩;refine IF 3 E I (λao a E=>?_) λao a E=>?_
 ·
  have aG:i<rest.length:=by omega
  have nZ:=Cq (rest.take i) 3 (by rw[eA];omega);rw[show (256:Nat) ^ 3=16777216 from by decide]at nZ;have rf:=mA rest[i];refine RN 3 E I λa E=>?_;refine SS E (ae E (((hr.rd _ (Cr _ I.tail)).rd (by omega)) i _ (dV aG))) λa E=>?_;refine SX 4 E I (by rw[wrap_u32];omega) λa E=>?_;refine RN 1 E I λa E=>?_;rw[aag nZ,← MS aG]at E;refine RN 3 E I λa E=>?_;exact⟨4-(i+1),by omega,i+1,⟨rfl,by omega⟩,E.ab [0,3,29,30,31],I⟩
 obtain rfl:i=4:=by omega
 refine RN 7 E I λa E=>?_;rw[show rest.length-4=(rest.drop 4).length from by simp]at E;refine ST 2 E I (λa w E I=>?_);refine RT 3 E I ?_;have nZ:=Cq (rest.take 4) 4 (by rw[eA];omega);rw[show (256:Nat) ^ 4=4294967296 from by decide]at nZ;refine⟨_,_,_,_,z,rfl,nZ,hr.cut h4,λn r hn e hb=>?_,I⟩;have ht:rest.take 4=fp n:=by rw[e];rfl
 have hd:rest.drop 4=r:=by rw[e];rfl
 exact⟨by rw[ht,MR hn],hd,ak⟩
theorem MU {a b:List UInt8}{ad2:Option Addr}{m n c2:Nat}(I:U W w L)(di:aX w ad m a)(lP:aX w ad2 n b) :
   Calls prog 313 #[.slice ad m c,.slice ad2 n c2] w λe w'=>e=.returned (.bool (a==b))∧U W w' L :=
 (Kw di lP).mono λe w' h=>⟨h.1,by rw[h.2];exact I⟩
theorem G7 {bs:List UInt8}{q:Pk}(h:hQ bs q):(q.kind=((bs.getD 0 0).toNat:Int)∧q.aW=((bs.getD 1 0).toNat:Int)∧q.to=((bs.getD 2 0).toNat:Int))∧(bs.drop 3).take (bs.length-7)=lz q:=by
 have h1:=GD h.2.2;obtain⟨f1,t1,xC,i1,k1⟩:=h.1;refine⟨?_,GC h.2.2⟩;simp only[br,h1.1,h1.2.1,h1.2.2,Option.getD_some,UInt8.toNat_ofNat'];omega
theorem uf (b:UInt8):IntKind.i64.wrap (b.toNat:Int)=(b.toNat:Int):=gy (by omega) (by have:=mA b;omega)
theorem oj {bs:List UInt8}(h:¬ ∃ q,hQ bs q):eC bs=none:=GK λq hq=>h ⟨q,hq⟩
def Dec (bs:List UInt8)(p:Pk)(adP:Option Addr)(cP:Nat)(ok:Bool):Prop:=(ok=true∧eC bs=some p)∨(ok=false∧eC bs=none∧p=nF∧adP=none∧cP=0)
theorem aai (I:U W w L)(hb:bs.length≤65536)(hc:bs.length≤c)(hp:∀ w',U W w' L→aX w' ad bs.length bs) :
   Calls prog 317 #[.slice ad bs.length c] w λe w'=>∃ (p:Pk) (adP:Option Addr) (cP:Nat) (ok:Bool),e=.returned (.tuple #[.agg (dQ p adP cP).toArray,.int .i64 (if ok=true then 0 else 1)])∧Dec bs p adP cP ok∧U W w' (Sl 5 1 adP p.al.length cP (bc p.al)::L):=by
 refine EN func317 ntmps317 rfl rfl λa E=>?_;refine AL 1 E I λb2 a w E I=>?_;refine IF 6 E I (λak a E=>?_) λak a E=>?_
 ·
  have bX:eC bs=none:=GK λq hq=>by
   have:=dJ List.length hq.2.2;rw[zx]at this;omega
  refine SA 2 E I λa w E I=>?_;refine RT 1 E I ?_;exact⟨nF,none,0,false,rfl,.inr ⟨rfl,bX,rfl,rfl,rfl⟩,I.tail.bQ _ _ _⟩
 obtain⟨bb,oo,rfl,_⟩:=(hp _ I.tail).get (by omega);have h7:7≤bs.length:=by omega
 refine aV 1 (λw0 w=>Rd w bb oo (bc bs)) [6,7,10,11,13] [0,1,4,5,8,9,3002,3,3006,3007,3010,3011,12,1013,1014] E I λa w E I hH=>?_;have hC:Rd w bb oo (bc bs):=(hp _ I.tail).rd (by omega);refine RH 6 E I hH hC λa E=>?_;refine QH E (λw hc=>ae E (hc 0 _ (lA (by omega)))) hC λa E=>?_;refine QP E (λw=>pO E dF fk (uf _)) λa E=>?_;refine QH E (λw hc=>ae E (hc 1 _ (lA (by omega)))) hC λa E=>?_;refine QH E (λw hc=>pO E dF fk (uf _)) hC λa E=>?_;refine QH E (λw hc=>ae E (hc 2 _ (lA (by omega)))) hC λa E=>?_;refine QH E (λw hc=>pO E dF fk (uf _)) hC λa E=>?_;refine RH 1 E I hH hC λa E=>?_;refine e5 E rfl I Ty.t203 rfl λb4 a w E I ho=>?_;clear ho;replace hC:=hH.at w ((hp _ I.tail.tail).rd (by omega));refine RH 0 E I hH hC λa E=>?_;refine SA 0 E I λa w E I=>?_;refine RN 5 E I λa E=>?_;rw[show (bs.length:Int)-4=((bs.length-4:Nat):Int) from by omega]at E;refine RN 1 E I λa E=>?_;obtain⟨R1,G8⟩:∃ R1,R1=(bs.drop 3).take (bs.length-7):=⟨_,rfl⟩;have ll:R1.length=bs.length-7:=by rw[G8,eA,c8];omega
 have fl:rh W L (fw (some ⟨bb,oo,none⟩) 3 c 1) (c-3) R1:=⟨by omega,by omega,λw' hw=>by
  rw[ll,G8];exact ((hp w' hw).vu (lo:=3) (by omega) hc).Gp (by rw[c8];omega)⟩
 have mz:∀ q,hQ bs q→(q.kind=((bs.getD 0 0).toNat:Int)∧q.aW=((bs.getD 1 0).toNat:Int)∧q.to=((bs.getD 2 0).toNat:Int))∧R1=lz q:=λq h=>by
  rw[G8];exact G7 h
 rw[show bs.length-4-3=R1.length from by omega]at E;generalize fw (some ⟨bb,oo,none⟩) 3 c 1=l3 at E fl;generalize c-3=eW at E fl;generalize R1=R1 at E fl mz;refine BX 1 E I λjV a w E I=>?_;refine ka 3 E I (zE (L:=L) I (λ_ h=>h.tail.tail) fl) ?_;clear E I;rintro e w ⟨x1,ad2,c2,R2,z2,rfl,eN,eO,iC,I⟩;refine⟨_,rfl,λa E=>?_⟩;refine ST 1 E I (λa w E I=>?_);refine RN 0 E I λa E=>?_;replace iC:∀ q,hQ bs q→(q.kind=((bs.getD 0 0).toNat:Int)∧q.aW=((bs.getD 1 0).toNat:Int)∧q.to=((bs.getD 2 0).toNat:Int)∧q.id=x1)∧R2=nG q∧z2=false:=λq h=>by
  obtain⟨h1,h2⟩:=mz q h;obtain⟨e1,e2,e3⟩:=iC q.id (nG q) ⟨by have:=h.1.2.2.2.1;omega,by have:=h.1.2.2.2.1;omega⟩ (by rw[h2,lz]) rfl;exact⟨⟨h1.1,h1.2.1,h1.2.2,e1.symm⟩,e2,e3⟩
 refine b6 (M:=λa w=>∃ (p:Pk) (adP:Option Addr) (cP:Nat) (av:Option Addr) (c':Nat) (R':List UInt8) (z:Bool),p.sum<4294967296∧(∀ q,hQ bs q→p=q∧z=false)∧Fr a 91 [(0,.slice (some ⟨bb,oo,none⟩) bs.length c),(2,pt b2),(4,pt b4),(5,pt jV)]∧U W w (aa b4 203 (dQ p adP cP)::Sl 5 1 adP p.al.length cP (bc p.al)::aa jV 427 [.slice av R'.length c',.bool z]::aa b2 203 (dQ nF none 0)::L)) ?_ ?_
 ·
  refine IF 4 E I (λao a E=>?_) λao a E=>?_
  ·
   have nK:∀ q,hQ bs q→nG q=aO (zz q.first)++(aO (zz q.dd)++(aO (zz q.frame)++mD q))∧(zD q.first∧zD q.dd∧zD q.frame)∧q.al.length≤32:=λq h=>by
    have hk:=(iC q h).1.1;rw[ao]at hk;rcases h.1.2.2.2.2 with k | k
    ·obtain⟨_,k1,k2,k3,lB⟩:=k;unfold eM at k1 k2 k3;exact⟨by rw[nG,aj hk],⟨⟨by omega,by omega⟩,⟨by omega,by omega⟩,⟨by omega,by omega⟩⟩,lB⟩
    ·omega
   refine ka 2 E I (zE (L:=L) (I.perm (c1 _ _ _)) (λ_ h=>h.tail.tail) eO) ?_;clear E I;rintro e w ⟨x2,fx,c3,R3,z3,rfl,dm,kn,zr,I⟩;refine⟨_,rfl,λa E=>?_⟩;replace zr:∀ q,hQ bs q→q.first=x2∧R3=aO (zz q.dd)++(aO (zz q.frame)++mD q)∧z3=false:=λq h=>by
    obtain⟨_,h2,h3⟩:=iC q h;obtain⟨e1,e2,e3⟩:=zr q.first _ (nK q h).2.1.1 (by rw[h2,(nK q h).1]) h3;exact⟨e1.symm,e2,e3⟩
   refine ST 1 E I (λa w E I=>?_);refine ka 2 E I (zE (L:=L) (I.perm (c1 _ _ _)) (λ_ h=>h.tail.tail) kn) ?_;clear E I;rintro e w ⟨x3,mU,en,aaj,z4,rfl,eR,q9,Cs,I⟩;refine⟨_,rfl,λa E=>?_⟩;replace Cs:∀ q,hQ bs q→q.dd=x3∧aaj=aO (zz q.frame)++mD q∧z4=false:=λq h=>by
    obtain⟨_,h2,h3⟩:=zr q h;obtain⟨e1,e2,e3⟩:=Cs q.dd _ (nK q h).2.1.2.1 h2 h3;exact⟨e1.symm,e2,e3⟩
   refine ST 1 E I (λa w E I=>?_);refine ka 2 E I (zE (L:=L) (I.perm (c1 _ _ _)) (λ_ h=>h.tail.tail) q9) ?_;clear E I;rintro e w ⟨MV,eh,dL,aak,z5,rfl,vA,ue,Ct,I⟩;refine⟨_,rfl,λa E=>?_⟩;replace Ct:∀ q,hQ bs q→q.frame=MV∧aak=fp q.sum++(aO (zz (q.al.length:Int))++dC q.al 0)∧z5=false:=λq h=>by
    obtain⟨_,h2,h3⟩:=Cs q h;obtain⟨e1,e2,e3⟩:=Ct q.frame _ (nK q h).2.1.2.2 h2 h3;exact⟨e1.symm,by rw[e2,mD],e3⟩
   refine ST 1 E I (λa w E I=>?_);refine ka 2 E I (aah (L:=L) (I.perm (c1 _ _ _)) (λ_ h=>h.tail.tail) ue) ?_;clear E I;rintro e w ⟨MW,tI,oX,aal,aam,rfl,ug,zF,Cu,I⟩;refine⟨_,rfl,λa E=>?_⟩;replace Cu:∀ q,hQ bs q→q.sum=MW∧aal=aO (zz (q.al.length:Int))++dC q.al 0∧aam=false:=λq h=>by
    obtain⟨_,h2,h3⟩:=Ct q h;obtain⟨e1,e2,e3⟩:=Cu q.sum _ h.2.1 h2 h3;exact⟨e1.symm,e2,e3⟩
   refine ST 1 E I (λa w E I=>?_);refine ka 2 E I (zE (L:=L) (I.perm (c1 _ _ _)) (λ_ h=>h.tail.tail) zF) ?_;clear E I;rintro e w ⟨aan,tt,r4,R7,MX,rfl,ri,xF,zG,I⟩;refine⟨_,rfl,λa E=>?_⟩;replace zG:∀ q,hQ bs q→(q.al.length:Int)=aan∧R7=dC q.al 0∧MX=false:=λq h=>by
    obtain⟨_,h2,h3⟩:=Cu q h;have eI:=(nK q h).2.2;obtain⟨e1,e2,e3⟩:=zG q.al.length _ ⟨by omega,by omega⟩ h2 h3;exact⟨e1.symm,e2,e3⟩
   refine ka 6 E I (ZX (m:=32) I xF.len xF.cap (by omega) (λw' hw=>xF.rd w' hw.tail.tail.tail)) ?_;clear E I;rintro e w ⟨out,aq,cO,er,rfl,n0,I⟩;refine⟨_,rfl,λa E=>?_⟩;refine BY 10 E I (λbD a E=>?_) λbD a E=>?_
   ·
    refine SA 8 E I λa w E I=>?_;refine RT 1 E I ?_;have bX:eC bs=none:=oj λ⟨q,h⟩=>by
     obtain⟨_,e2,_⟩:=zG q h;have:=(n0.2.2 q.al (nK q h).2.2 e2).2;simp[this]at bD
    exact⟨nF,none,0,false,rfl,.inr ⟨rfl,bX,rfl,rfl,rfl⟩,I.sub.bQ _ _ _⟩
   refine IF 5 E I (λay a E=>?_) λay a E=>?_
   ·
    refine SA 2 E I λa w E I=>?_;refine RT 1 E I ?_;have bX:eC bs=none:=oj λ⟨q,h⟩=>by
     obtain⟨e1,e2,_⟩:=zG q h;have:=(n0.2.2 q.al (nK q h).2.2 e2).1;rw[this]at ay;omega
    exact⟨nF,none,0,false,rfl,.inr ⟨rfl,bX,rfl,rfl,rfl⟩,I.sub.bQ _ _ _⟩
   refine ST 2 E I (λa w E I=>?_);refine RN 0 E I λa E=>?_;refine⟨⟨((bs.getD 0 0).toNat:Int),((bs.getD 1 0).toNat:Int),((bs.getD 2 0).toNat:Int),x1,x2,x3,MV,MW,out⟩,aq,cO,tt,r4,R7,MX,by assumption,λq h=>?_,E.ab [0,2,4,5],I⟩;obtain⟨h1,h2,h3,h4⟩:=(iC q h).1;have h5:=(zr q h).1;have h6:=(Cs q h).1;have h7:=(Ct q h).1;have h8:=(Cu q h).1;have h9:=zG q h;have fO:=(n0.2.2 q.al (nK q h).2.2 h9.2.1).1;refine⟨?_,h9.2.2⟩;rw[← h1,← h2,← h3,← h4,← h5,← h6,← h7,← h8,fO]
  refine RN 0 E I λa E=>?_;refine⟨⟨((bs.getD 0 0).toNat:Int),((bs.getD 1 0).toNat:Int),((bs.getD 2 0).toNat:Int),x1,0,0,0,0,[]⟩,none,0,ad2,c2,R2,z2,by show 0<4294967296;decide,λq h=>?_,E.ab [0,2,4,5],(I.bQ 5 1 none).perm (c1 _ _ _)⟩;obtain⟨⟨h1,h2,h3,h4⟩,_,h5⟩:=iC q h;rw[← h1]at ao;rcases h.1.2.2.2.2 with k | k
  ·exact absurd k.1 ao
  ·obtain⟨uh,k1,k2,k3,lB,zH⟩:=k;have lB:=hs lB;refine⟨?_,h5⟩;rw[← h1,← h2,← h3,← h4];cases q;simp_all
 clear E;(try clear I);rintro a w ⟨p,adP,cP,Cp,sE,agO,agP,mE,G9,E,I⟩;refine aY 3 E I (MN (p:=p) I mE (λw' hw=>hw.cw adP p.al rfl rfl)) λadE cE a w E I=>?_;refine BY 7 E I (λdt a E=>?_) λdt a E=>?_
 ·
  refine SA 12 E I λa w E I=>?_;refine RT 1 E I ?_;have bX:eC bs=none:=oj λ⟨q,h⟩=>by
   rw[(G9 q h).2]at dt;cases dt
  exact⟨nF,none,0,false,rfl,.inr ⟨rfl,bX,rfl,rfl,rfl⟩,I.sub.bQ _ _ _⟩
 refine BY 4 E I (λfm a E=>?_) λfm a E=>?_
 ·
  refine SA 8 E I λa w E I=>?_;refine RT 1 E I ?_;have bX:eC bs=none:=oj λ⟨q,h⟩=>by
   have hn:=(I.cw adE (aT p) rfl rfl).2.1 (by cases adE with
    | none=>rfl
    | some _=>cases fm)
   rw[(G9 q h).1,aT,aj h.1,zx]at hn;omega
  exact⟨nF,none,0,false,rfl,.inr ⟨rfl,bX,rfl,rfl,rfl⟩,I.sub.bQ _ _ _⟩
 refine CL 2 E I (MU I (I.cw adE (aT p) rfl rfl) (hp _ I.tail.tail.tail.tail.tail)) λa w E I=>?_;refine IF 2 E I (λbl a E=>?_) λbl a E=>?_
 ·
  refine SA 2 E I λa w E I=>?_;refine RT 1 E I ?_;have bX:eC bs=none:=oj λ⟨q,h⟩=>by
   have e:aT p=bs:=by rw[(G9 q h).1,aT,aj h.1];exact h.2.2
   rw[e]at bl;simp at bl
  exact⟨nF,none,0,false,rfl,.inr ⟨rfl,bX,rfl,rfl,rfl⟩,I.sub.bQ _ _ _⟩
 refine SA 2 E I λa w E I=>?_;refine RT 1 E I ?_;exact⟨p,adP,cP,true,rfl,.inl ⟨rfl,Cm ((GM (λe=>by rw[e]at h7;simp at h7) mE).2 (by simpa using bl))⟩,I.sub⟩
end
end
section
def xH (q:Pk):Nat→Int
 | 0=>q.id
 | 1=>q.first
 | 2=>q.dd
 | _=>q.frame
def xI (q:Pk):Nat→List UInt8
 | 0=>lz q
 | 1=>nG q
 | 2=>aO (zz q.dd)++(aO (zz q.frame)++mD q)
 | 3=>aO (zz q.frame)++mD q
 | _=>mD q
theorem Ha {bs:List UInt8}{q:Pk}(h:hQ bs q):(q.kind=1∧eM q.first∧eM q.dd∧eM q.frame∧q.al.length≤32∧nG q=aO (zz q.first)++(aO (zz q.dd)++(aO (zz q.frame)++mD q))) ∨
   (q.kind=2∧q.first=0∧q.dd=0∧q.frame=0∧q.al=[]∧q.sum=0):=by
 rcases h.1.2.2.2.2 with k | k
 ·exact .inl ⟨k.1,k.2.1,k.2.2.1,k.2.2.2.1,k.2.2.2.2,by rw[nG,aj k.1]⟩
 ·exact .inr ⟨k.1,k.2.1,k.2.2.1,k.2.2.2.1,hs k.2.2.2.2.1,k.2.2.2.2.2⟩
theorem MY {bs:List UInt8}{q:Pk}{n i:Nat}(h:hQ bs q)(hn:n=if (bs.getD 0 0).toNat=1 then 4 else 1)(hi:i<n) :
   xI q i=aO (zz (xH q i))++xI q (i+1)∧0≤xH q i∧xH q i≤1099511627776:=by
 have h0:=(G7 h).1.1;have b9:=h.1.2.2.2.1;rcases Ha h with k | k
 ·obtain⟨uh,k1,k2,k3,lB,zH⟩:=k;unfold eM at k1 k2 k3;rw[aj (by omega)]at hn;rcases (by omega:i=0∨i=1∨i=2∨i=3) with rfl | rfl | rfl | rfl
  ·exact⟨rfl,b9.1,b9.2⟩
  ·exact⟨zH,by show 0≤q.first;omega,by show q.first≤_;omega⟩
  ·exact⟨rfl,by show 0≤q.dd;omega,by show q.dd≤_;omega⟩
  ·exact⟨rfl,by show 0≤q.frame;omega,by show q.frame≤_;omega⟩
 ·rw[ag (by omega)]at hn;obtain rfl:i=0:=by omega
  exact⟨rfl,b9.1,b9.2⟩
theorem Hb {bs X:List UInt8}{n i aR k:Nat}{x er:Int}(hn:n=if (bs.getD 0 0).toNat=1 then 4 else 1)(hi:i<n)(hq:∀ q,hQ bs q→X.drop aR=xI q i)(hg:mC (X.drop aR) x k er)
   (hb:er≠0∨x<0∨1099511627776<x):eC bs=none:=oj λ⟨q,h⟩=>by
 obtain⟨h1,h2,h3⟩:=MY h hn hi;obtain⟨e1,e2,e3⟩:=hg.2.2.2.2 (xH q i) (xI q (i+1)) (by omega) (by omega) (by rw[hq q h,h1]);omega
section
variable {W w:World}{L:List SP}{n c m:Nat}{ad:Option Addr}{bs:List UInt8}{p:Pk}
theorem aao (I:U W w L)(hb:bs.length≤65536)(hc:bs.length≤c)(hp:∀ w',U W w' L→aX w' ad bs.length bs) :
   Calls prog 189 #[.slice ad bs.length c] w λe w'=>∃ (p:Pk) (adP:Option Addr) (cP:Nat) (ok:Bool),e=.returned (.tuple #[.agg (dQ p adP cP).toArray,.bool ok])∧(ok=true→eC bs=some p)∧(ok=false→eC bs=none)∧U W w' (Sl 5 1 adP p.al.length cP (bc p.al)::L):=by
 have sF:∀ {w'},U W w' L→eC bs=none→∃ (p:Pk) (adP:Option Addr) (cP:Nat) (ok:Bool),Ending.returned (.tuple #[.agg (dQ nF none 0).toArray,.bool false])=.returned (.tuple #[.agg (dQ p adP cP).toArray,.bool ok])∧(ok=true→eC bs=some p)∧(ok=false→eC bs=none)∧U W w' (Sl 5 1 adP p.al.length cP (bc p.al)::L) :=
  λI bX=>⟨nF,none,0,false,rfl,λh=>(by cases h),λ_=>bX,I.bQ _ _ _⟩
 refine EN func189 ntmps189 rfl rfl λa E=>?_;refine AL 1 E I λb2 a w E I=>?_;refine IF 6 E I (λak a E=>?_) λak a E=>?_
 ·
  have bX:eC bs=none:=GK λq hq=>by
   have:=dJ List.length hq.2.2;have hm:1≤(lz q).length:=by rw[lz,aM];have:=sj (zz q.id);omega
   rw[zx]at this;omega
  refine SA 2 E I λa w E I=>?_;refine RT 1 E I ?_;exact sF I.tail bX
 obtain⟨bb,oo,rfl,_⟩:=(hp _ I.tail).get (by omega);have h7:8≤bs.length:=by omega
 refine RN 5 E I λa E=>?_;rw[show (bs.length:Int)-4=((bs.length-4:Nat):Int) from by omega]at E;refine RN 1 E I λa E=>?_;obtain⟨X,iF⟩:∃ X,X=(bs.drop 3).take (bs.length-7):=⟨_,rfl⟩;have hXl:X.length=bs.length-7:=by rw[iF,eA,c8];omega
 have hr:rh W L (fw (some ⟨bb,oo,none⟩) 3 c 1) (c-3) X:=⟨by omega,by omega,λw' hw=>by
  rw[hXl,iF];exact ((hp w' hw).vu (lo:=3) (by omega) hc).Gp (by rw[c8];omega)⟩
 have mz:∀ q,hQ bs q→(q.kind=((bs.getD 0 0).toNat:Int)∧q.aW=((bs.getD 1 0).toNat:Int)∧q.to=((bs.getD 2 0).toNat:Int))∧X=lz q:=λq h=>by
  rw[iF];exact G7 h
 rw[show bs.length-4-3=X.length from by omega]at E;have hXp:1≤X.length:=by omega
 obtain⟨m2,o5,hbx,_⟩:=(hr.rd _ I.tail).get (by omega);rw[hbx]at E hr;generalize c-3=eW at E hr;clear iF;refine aV 2 (λw0 w=>Rd w bb oo (bc bs)) [6,7,10,11,13] [0,1,4,5,8,9,3002,3,3006,3007,3010,3011,12,1013,1014] E I λa w E I hH=>?_;have hC:Rd w bb oo (bc bs):=(hp _ I.tail).rd (by omega);refine RH 6 E I hH hC λa E=>?_;refine QH E (λw hc=>ae E (hc 0 _ (lA (by omega)))) hC λa E=>?_;refine QP E (λw=>pO E dF fk (uf _)) λa E=>?_;refine QH E (λw hc=>ae E (hc 1 _ (lA (by omega)))) hC λa E=>?_;refine QH E (λw hc=>pO E dF fk (uf _)) hC λa E=>?_;refine QH E (λw hc=>ae E (hc 2 _ (lA (by omega)))) hC λa E=>?_;refine QH E (λw hc=>pO E dF fk (uf _)) hC λa E=>?_;refine RH 1 E I hH hC λa E=>?_;refine e5 E rfl I Ty.t203 rfl λb5 a w E I ho=>?_;clear ho;replace hC:=hH.at w ((hp _ I.tail.tail).rd (by omega));refine RH 0 E I hH hC λa E=>?_;refine SA 0 E I λa w E I=>?_;refine AL 1 E I λcJ a w E I=>?_;refine RN 4 E I λa E=>?_;refine b6 (M:=λa w=>∃ n:Nat,n=(if (bs.getD 0 0).toNat=1 then 4 else 1)∧Fr a 153 [(0,.slice (some ⟨bb,oo,none⟩) bs.length c),(2,pt b2),(4,.slice (some ⟨m2,o5,none⟩) X.length eW),(5,pt b5),(6,pt cJ),(7,.int .i64 (0:Nat)),(8,.int .i64 n)]∧U W w (aa cJ 345 (ints .i64 4 (λ_=>0))::aa b5 203 (dQ ⟨((bs.getD 0 0).toNat:Int),((bs.getD 1 0).toNat:Int),((bs.getD 2 0).toNat:Int),0,0,0,0,0,[]⟩ none 0)::aa b2 203 (dQ nF none 0)::L)) ?_ ?_
 ·
  refine IF 4 E I (λao a E=>?_) λao a E=>?_
  ·
   refine RN 1 E I λa E=>?_;exact⟨4,by rw[aj (by omega)],E.ab [0,2,4,5,6,7,8],I⟩
  refine RN 0 E I λa E=>?_;exact⟨1,by rw[ag (by omega)],E.ab [0,2,4,5,6,7,8],I⟩
 clear E;(try clear I);rintro a w ⟨n,hn,E,I⟩;refine RN 3 E I λa E=>?_;refine aL (λμ a w=>∃ (i k:Nat) (g:Nat→Int),(μ=n-i∧i≤n∧k≤X.length∧(∀ j,i≤j→g j=0)∧∀ q,hQ bs q→X.drop k=xI q i∧∀ j,j<i→g j=xH q j)∧Fr a 153 [(0,.slice (some ⟨bb,oo,none⟩) bs.length c),(2,pt b2),(4,.slice (some ⟨m2,o5,none⟩) X.length eW),(5,pt b5),(6,pt cJ),(7,.int .i64 k),(8,.int .i64 n),(9,.int .i64 i)]∧U W w (aa cJ 345 (ints .i64 4 g)::aa b5 203 (dQ ⟨((bs.getD 0 0).toNat:Int),((bs.getD 1 0).toNat:Int),((bs.getD 2 0).toNat:Int),0,0,0,0,0,[]⟩ none 0)::aa b2 203 (dQ nF none 0)::L)) (n) (⟨0,0,λ_=>0,⟨rfl,by omega,by omega,λ_ _=>rfl,λq h=>⟨by rw[drop_zero];exact (mz q h).2,λj hj=>absurd hj (by omega)⟩⟩,E.ab [0,2,4,5,6,7,8,9],I⟩) ?_;clear E I;rintro μ a w ⟨i,k,g,⟨rfl,hi,hk,Cv,vB⟩,E,I⟩;refine IF 5 E I (λay a E=>?_) λay a E=>?_
 ·
  have cI:i<n:=by omega
  have qH:i<4:=by rw[hn]at cI;split at cI <;> omega
  have gb:=hr.cut hk;have hlk:=gb.len;refine RN 5 E I λa E=>?_;rw[show X.length-k=(X.drop k).length from by simp]at E;refine j9 0 E I (GO (bs:=X.drop k) I (by omega) (λw' hw=>gb.rd w' hw.tail.tail.tail)) λx m er a w E ⟨nB,I⟩=>?_;refine BY 12 E I (λbD a E=>?_) λbD a E=>?_
  ·
   refine SA 10 E I λa w E I=>?_;refine RT 1 E I ?_;have bX:=Hb hn cI (λq h=>(vB q h).1) nB (.inl (by simpa using bD));exact sF I.tail.tail.tail bX
  refine BY 4 E I (λki a E=>?_) λki a E=>?_
  ·
   refine SA 6 E I λa w E I=>?_;refine RT 1 E I ?_;have bX:=Hb hn cI (λq h=>(vB q h).1) nB (.inr (.inl (by simpa using ki)));exact sF I.tail.tail.tail bX
  refine IF 3 E I (λbl a E=>?_) λbl a E=>?_
  ·
   refine SA 2 E I λa w E I=>?_;refine RT 1 E I ?_;have bX:=Hb hn cI (λq h=>(vB q h).1) nB (.inr (.inr (by simpa using bl)));exact sF I.tail.tail.tail bX
  refine ST 4 E I (λa w E I=>?_) (hlt:=(by rw[dk];omega));rw[ints_set,show (λj=>if j=i then x else g j)=cn g i x from rfl]at I;refine RN 0 E I λa E=>?_;have hmk:=(nB.2.2.1 (by simpa using bD)).2;rw[c8]at hmk;refine RN 7 E I λa E=>?_;refine⟨n-(i+1),by omega,i+1,k+m,cn g i x,⟨rfl,by omega,?_,?_,λq h=>?_⟩,E.ab [0,2,4,5,6,7,8,9],I⟩
  ·have:=(nB.2.2.1 (by simpa using bD)).2;rw[c8]at this;omega
  ·intro j hj;rw[cn,ag (by omega)];exact Cv j (by omega)
  ·obtain⟨h1,h2⟩:=vB q h;obtain⟨h3,h4,h5⟩:=MY h hn cI;obtain⟨e1,e2,e3⟩:=nB.2.2.2.2 (xH q i) (xI q (i+1)) (by omega) (by omega) (by rw[h1,h3]);refine⟨by rw[← kF,h1,h3,e2,drop_left],λj hj=>?_⟩;by_cases gZ:j=i
   ·subst gZ;rw[cn,aj rfl,e1]
   ·rw[cn,ag gZ];exact h2 j (by omega)
 obtain rfl:i=n:=by omega
 rw[show dQ ⟨((bs.getD 0 0).toNat:Int),((bs.getD 1 0).toNat:Int),((bs.getD 2 0).toNat:Int),0,0,0,0,0,[]⟩ none 0=[.int .i64 ((bs.getD 0 0).toNat:Int),.int .i64 ((bs.getD 1 0).toNat:Int),.int .i64 ((bs.getD 2 0).toNat:Int),.int .i64 0,.int .i64 0,.slice none 0 0,.int .i64 0,.int .i64 0,.int .u32 (0:Nat)] from rfl]at I;refine aV 1 (λw0 w'=>Rd w' cJ 0 (ints .i64 4 g)) [3,5,7,9,10,11,12,13] [0,2,4,6,3001,8,3003,3005,3007,1009,1010,1011,1012,1013,14,1015] E I λa w E I hH=>?_;have hC:=hH.at w I.ai;refine RH 4 E I hH hC λa E=>?_;refine QH E (λw hc=>ae E (hc 0 _ (ga g (by decide)))) hC λa E=>?_;refine RH 1 E I hH hC λa E=>?_;refine QH E (λw hc=>ae E (hc 1 _ (ga g (by decide)))) hC λa E=>?_;refine QH E (λw hc=>ae E (hc 2 _ (ga g (by decide)))) hC λa E=>?_;refine QH E (λw hc=>ae E (hc 3 _ (ga g (by decide)))) hC λa E=>?_;refine RH 0 E I hH hC λa E=>?_;refine ST 0 E I (λa w E I=>?_);replace hC:=hH.at w I.ai;refine RH 1 E I hH hC λa E=>?_;refine ST 0 E I (λa w E I=>?_);replace hC:=hH.at w I.ai;refine RH 1 E I hH hC λa E=>?_;refine ST 0 E I (λa w E I=>?_);replace hC:=hH.at w I.ai;refine RH 1 E I hH hC λa E=>?_;refine ST 0 E I (λa w E I=>?_);refine RN 0 E I λa E=>?_;refine b6 (M:=λa w=>∃ (p:Pk) (adP:Option Addr) (cP:Nat),p.sum<4294967296∧(∀ q,hQ bs q→p=q)∧Fr a 153 [(0,.slice (some ⟨bb,oo,none⟩) bs.length c),(2,pt b2),(5,pt b5)]∧U W w (aa b5 203 (dQ p adP cP)::Sl 5 1 adP p.al.length cP (bc p.al)::aa b2 203 (dQ nF none 0)::L)) ?_ ?_
 ·
  refine IF 4 E I (λbO a E=>?_) λbO a E=>?_
  ·
   have hL:∀ q,hQ bs q→X.drop k=mD q∧q.al.length≤32:=λq h=>by
    rw[aj (by omega)]at hn;refine⟨by rw[(vB q h).1,hn];rfl,?_⟩;rcases Ha h with k | k
    ·exact k.2.2.2.2.1
    ·rw[k.2.2.2.2.1];simp
   refine IF 7 E I (λeL a E=>?_) λeL a E=>?_
   ·
    have bX:eC bs=none:=oj λ⟨q,h⟩=>by
     have:=dJ List.length (hL q h).1;rw[mD,aM,m5,c8]at this;omega
    refine SA 2 E I λa w E I=>?_;refine RT 1 E I ?_;exact sF I.tail.tail.tail bX
   have pc:k+4≤X.length:=by omega
   refine RN 3 E I λa E=>?_;refine aL (λμ a w=>∃ (j:Nat),(μ=4-j∧j≤4)∧Fr a 153 [(0,.slice (some ⟨bb,oo,none⟩) bs.length c),(2,pt b2),(4,.slice (some ⟨m2,o5,none⟩) X.length eW),(5,pt b5),(7,.int .i64 k),(13,.int .i64 j)]∧U W w (aa b5 203 [.int .i64 ((bs.getD 0 0).toNat:Int),.int .i64 ((bs.getD 1 0).toNat:Int),.int .i64 ((bs.getD 2 0).toNat:Int),.int .i64 (g 0),.int .i64 (g 1),.slice none 0 0,.int .i64 (g 2),.int .i64 (g 3),.int .u32 (m6 ((X.drop k).take j):Nat)]::aa b2 203 (dQ nF none 0)::L)) (4) (⟨0,⟨rfl,by omega⟩,E.ab [0,2,4,5,7,13],(I.perm (c1 _ _ _)).tail⟩) ?_;clear E I;rintro μ a w ⟨j,⟨rfl,hj⟩,E,I⟩;refine IF 4 E I (λmq a E=>?_) λmq a E=>?_
   ·
    have hj4:j<4:=by omega
    have y1:k+j<X.length:=by omega
    have nZ:=Cq ((X.drop k).take j) 3 (by rw[eA];omega);rw[show (256:Nat) ^ 3=16777216 from by decide]at nZ;have dO:j<(X.drop k).length:=by rw[c8];omega
    have j1:=MS dO;rw[show (X.drop k)[j]=X[k+j] from List.getElem_drop ..]at j1;have rf:=mA X[k+j];refine aV 1 (λw0 w'=>w'.cell? ⟨b5,8,none⟩=some (.int .u32 (m6 ((X.drop k).take j):Nat))∧Rd w' m2 o5 (bc X)) [8,9] [0,3,4,5,6,7,3001,2,1008,1009,10,11,1012] E I λa w E I hH=>?_;have hC:=hH.at w ⟨I.bC rfl,(hr.rd _ I.tail.tail).rd (by omega)⟩;refine RH 6 E I hH hC λa E=>?_;refine QH E (λw hc=>ae E (hc.1)) hC λa E=>?_;refine RH 1 E I hH hC λa E=>?_;rw[show IntKind.u32.wrap (((m6 ((X.drop k).take j):Nat):Int)*256)=((m6 ((X.drop k).take j)*256:Nat):Int) from by rw[wrap_u32];omega]at E;refine SS E (ae E (hC.2 (k+j) _ (dV y1))) λa E=>?_;refine RH 0 E I hH hC λa E=>?_;refine SX 0 E I (by rw[wrap_u32];omega) λa E=>?_;refine RH 1 E I hH hC λa E=>?_;rw[show IntKind.u32.wrap (((m6 ((X.drop k).take j)*256:Nat):Int)+(X[k+j].toNat:Int))=((m6 ((X.drop k).take (j+1)):Nat):Int) from by rw[wrap_u32,j1];omega]at E;refine RH 1 E I hH hC λa E=>?_;refine ST 0 E I (λa w E I=>?_);refine RN 3 E I λa E=>?_;exact⟨4-(j+1),by omega,j+1,⟨rfl,by omega⟩,E.ab [0,2,4,5,7,13],I⟩
   obtain rfl:j=4:=by omega
   have q9:=hr.cut pc;have hl4:=q9.len;have mE:=Cq ((X.drop k).take 4) 4 (by rw[eA];omega);rw[show (256:Nat) ^ 4=4294967296 from by decide]at mE;have ch:∀ q,hQ bs q→q.sum=m6 ((X.drop k).take 4)∧X.drop (k+4)=aO (zz (q.al.length:Int))++dC q.al 0∧q.al.length≤32:=λq h=>by
    obtain⟨h1,h2⟩:=hL q h;rw[← kF,h1,mD];exact⟨(MR h.2.1).symm,rfl,h2⟩
   generalize m6 ((X.drop k).take 4)=Cw at I mE ch;refine RN 8 E I λa E=>?_;rw[show X.length-(k+4)=(X.drop (k+4)).length from by simp]at E;refine j9 0 E I (GO (bs:=X.drop (k+4)) I (by omega) (λw' hw=>q9.rd w' hw.tail.tail)) λx m er a w E ⟨nB,I⟩=>?_;refine BY 12 E I (λbD a E=>?_) λbD a E=>?_
   ·
    refine SA 10 E I λa w E I=>?_;refine RT 1 E I ?_;have bX:eC bs=none:=oj λ⟨q,h⟩=>by
     obtain⟨_,e2,Cx⟩:=ch q h;have:=(nB.2.2.2.2 (q.al.length:Int) _ (by omega) (by omega) e2).2.2;simp[this]at bD
    exact sF I.tail.tail bX
   refine BY 4 E I (λki a E=>?_) λki a E=>?_
   ·
    refine SA 6 E I λa w E I=>?_;refine RT 1 E I ?_;have bX:eC bs=none:=oj λ⟨q,h⟩=>by
     obtain⟨_,e2,Cx⟩:=ch q h;have:=(nB.2.2.2.2 (q.al.length:Int) _ (by omega) (by omega) e2).1;omega
    exact sF I.tail.tail bX
   refine IF 3 E I (λlX a E=>?_) λlX a E=>?_
   ·
    refine SA 2 E I λa w E I=>?_;refine RT 1 E I ?_;have bX:eC bs=none:=oj λ⟨q,h⟩=>by
     obtain⟨_,e2,Cx⟩:=ch q h;have:=(nB.2.2.2.2 (q.al.length:Int) _ (by omega) (by omega) e2).1;omega
    exact sF I.tail.tail bX
   refine RN 1 E I λa E=>?_;have mi:=(nB.2.2.1 (by simpa using bD)).2;rw[c8]at mi;have ue:=hr.cut (k:=k+4+m) (by omega);refine RN 5 E I λa E=>?_;rw[show X.length-(k+4+m)=(X.drop (k+4+m)).length from by simp]at E;refine ka 0 E I (ZZ (m:=32) (bs:=X.drop (k+4+m)) I ue.len ue.cap (by omega) (λw' hw=>ue.rd w' hw.tail.tail)) ?_;clear E I;rintro e w ⟨out,aq,cO,e2,rfl,n0,I⟩;refine⟨_,rfl,λa E=>?_⟩;refine RN 5 E I λa E=>?_;have mR:∀ q,hQ bs q→out=q.al∧e2=0:=λq h=>by
    obtain⟨_,e2,Cx⟩:=ch q h;obtain⟨f1,f2,f3⟩:=nB.2.2.2.2 (q.al.length:Int) _ (by omega) (by omega) e2;refine n0.2.2 q.al Cx ?_;rw[← kF,e2,f2,drop_left]
   refine IF 4 E I (λm0 a E=>?_) λm0 a E=>?_
   ·
    refine SA 2 E I λa w E I=>?_;refine RT 1 E I ?_;have bX:eC bs=none:=oj λ⟨q,h⟩=>by
     have:=(mR q h).2;omega
    exact sF I.tail.tail.tail bX
   refine ST 2 E I (λa w E I=>?_);refine RN 0 E I λa E=>?_;refine⟨⟨((bs.getD 0 0).toNat:Int),((bs.getD 1 0).toNat:Int),((bs.getD 2 0).toNat:Int),g 0,g 1,g 2,g 3,Cw,out⟩,aq,cO,mE,λq h=>?_,E.ab [0,2,5],I⟩;obtain⟨h1,h2,h3⟩:=(mz q h).1;have h4:=(vB q h).2;rw[aj (by omega)]at hn;rw[h4 0 (by omega),h4 1 (by omega),h4 2 (by omega),h4 3 (by omega),← h1,← h2,← h3,(mR q h).1,← (ch q h).1];rfl
  refine RN 0 E I λa E=>?_;refine⟨⟨((bs.getD 0 0).toNat:Int),((bs.getD 1 0).toNat:Int),((bs.getD 2 0).toNat:Int),g 0,g 1,g 2,g 3,0,[]⟩,none,0,(by show 0<4294967296;decide),λq h=>?_,E.ab [0,2,5],(((I.perm (c1 _ _ _)).tail.bQ 5 1 none)).perm (c1 _ _ _)⟩;obtain⟨h1,h2,h3⟩:=(mz q h).1;have h4:=(vB q h).2;rw[ag (by omega)]at hn;rcases Ha h with k | k
  ·omega
  ·obtain⟨uh,k1,k2,k3,lB,zH⟩:=k;have h5:=h4 0 (by omega);have h6:=Cv 1 (by omega);have h7:=Cv 2 (by omega);have h8:=Cv 3 (by omega);rw[h5,h6,h7,h8,← h1,← h2,← h3];show Pk.mk q.kind q.aW q.to q.id 0 0 0 0 []=q;cases q;simp_all
 clear E;(try clear I);rintro a w ⟨p,adP,cP,mE,MZ,E,I⟩;refine aV 1 (λw0 w'=>Rd w' b5 0 (dQ p adP cP)∧aX w' (some ⟨bb,oo,none⟩) bs.length bs) [1,2,3,5,6,7] [4,3000,3001,3005,1002,2003,3006,1007,8] E I λa w E I hH=>?_;have hC:=hH.at w ⟨I.ai,hp _ I.tail.tail.tail⟩;refine RH 1 E I hH hC λa E=>?_;refine QH E (λw hc=>bT E wT rfl Ty.t203 (hc.1)) hC λa E=>?_;refine QH E (λw hc=>bT E wT rfl Ty.t203 (hc.1)) hC λa E=>?_;refine QH E (λw hc=>lQ E bj dF gB (hc.2)) hC λa E=>?_;refine RH 0 E I hH hC λa E=>?_;refine aY 0 E I (G6 (p:=p) I mE (λw' hw=>hw.cw adP p.al rfl rfl)) λadE cE a w E I=>?_;replace hC:=hH.at w ⟨I.ai,hp _ I.tail.tail.tail.tail⟩;refine RH 0 E I hH hC λa E=>?_;refine DN [(3,[3006,1007,8]),(7,[1003,3006,8])] (by kernel_rfl) rfl ⟨⟨_,rfl,?_⟩,⟨_,rfl,?_⟩,trivial⟩
 ·
  refine RH 0 E I hH hC λa E=>?_;refine SS E (lQ E bj dF gB ((I.cw adE (aT p) rfl rfl))) λa E=>?_;refine RH 0 E I hH hC λa E=>?_;refine QH E (λw hc=>td E) hC λa E=>?_;refine RH 0 E I hH hC λa E=>?_;refine SA 0 E I λa w E I=>?_;replace hC:=hH.at w ⟨I.ai,hp _ I.tail.tail.tail.tail⟩;refine RH 1 E I hH hC λa E=>?_;refine RT 0 E I ?_;refine⟨p,adP,cP,_,rfl,λh=>?_,λh=>?_,I.sub⟩
  ·rw[qS]at h;exact Cm ((GM (λe=>by rw[e]at h7;simp at h7) mE).2 (by simpa using h))
  ·refine oj λ⟨q,hd⟩=>?_;have e:aT p=bs:=by rw[MZ q hd,aT,aj hd.1];exact hd.2.2
   rw[e,qS]at h;simp at h
 refine RH 0 E I hH hC λa E=>?_;refine SA 0 E I λa w E I=>?_;replace hC:=hH.at w ⟨I.ai,hp _ I.tail.tail.tail.tail⟩;refine RH 0 E I hH hC λa E=>?_;refine SS E (lQ E bj dF gB ((I.cw adE (aT p) rfl rfl))) λa E=>?_;refine RH 0 E I hH hC λa E=>?_;refine QH E (λw hc=>td E) hC λa E=>?_;refine RH 1 E I hH hC λa E=>?_;refine RT 0 E I ?_;refine⟨p,adP,cP,_,rfl,λh=>?_,λh=>?_,I.sub⟩
 ·rw[qS]at h;exact Cm ((GM (λe=>by rw[e]at h7;simp at h7) mE).2 (by simpa using h))
 ·refine oj λ⟨q,hd⟩=>?_;have e:aT p=bs:=by rw[MZ q hd,aT,aj hd.1];exact hd.2.2
  rw[e,qS]at h;simp at h
end
end
section
section
variable {W w:World}{L:List SP}{c:Nat}{ad:Option Addr}{g:Nat→Int}
theorem zI (I:U W w L):Calls prog 177 #[.agg (ints .i32 32 g).toArray] w λe w'=>∃ ad c,e=.returned (.slice ad 128 c)∧U W w' (Sl 5 1 ad 128 c (bc (gF g))::L):=by
 refine EN func177 ntmps177 rfl rfl λa E=>?_;refine BX 1 E I λb1 a w E I=>?_;refine RN 7 E I λa E=>?_;refine aL (λμ a w=>∃ (i:Nat) (ad:Option Addr) (c:Nat),(μ=32-i∧i≤32)∧Fr a 16 [(3,.slice ad (mB g i).length c),(6,.agg (ints .i32 32 g).toArray),(7,.int .i64 i)]∧U W w (Sl 5 1 ad (mB g i).length c (bc (mB g i))::L)) (32) (⟨0,none,0,⟨rfl,by omega⟩,E.ab [3,6,7],I.tail.bQ 5 1 none⟩) ?_;clear E I;rintro μ a w ⟨i,ad,c,⟨rfl,hi⟩,E,I⟩;refine IF 3 E I (λak a E=>?_) λak a E=>?_
 ·
  have Hc:i<32:=by omega
  have rj:=sr g i;refine RN 2 E I λa E=>?_;refine SS E (te E rX tn rfl Ty.t21 (by omega) (ga g Hc)) λa E=>?_;refine bg 3 E I (Zy I) λad2 a w E I=>?_;refine RN 0 E I λa E=>?_;refine hO E rfl I bj Ty.t5 rfl rfl (by decide) (λh0=>(I.cw ad2 (fp (qe (g i))) rfl rfl).get h0) (by rw[dA];rfl) (ez _) (by rw[m5];omega) λagQ c13 a w E I=>?_;rw[← fS,← Gt]at I;rw[show (mB g i).length+(fp (qe (g i))).length=(mB g (i+1)).length from by rw[sr,sr,m5];omega]at E I;refine RN 3 E I λa E=>?_;exact⟨32-(i+1),by omega,i+1,_,_,⟨rfl,by omega⟩,E.ab [3,6,7],I.sub⟩
 obtain rfl:i=32:=by omega
 rw[show (mB g 32).length=128 from sr g 32]at E I;refine RT 3 E I ?_;exact⟨_,_,rfl,I⟩
theorem aap (I:U W w L):Calls prog 139 #[.agg (ints .i32 32 g).toArray] w λe w'=>e=.returned (.int .u32 (jI (gF g)))∧U W w' L:=by
 refine EN func139 ntmps139 rfl rfl λa E=>?_;refine BX 1 E I λb1 a w E I=>?_;refine aY 3 E I (zI I) λad c a w E I=>?_;rw[show 128=(gF g).length from (vw g).symm]at E I;refine CL 0 E I (Mm I (by rw[vw];decide) (λw' hw=>hw.cw ad (gF g) rfl rfl)) λa w E I=>?_;refine RT 1 E I ?_;exact⟨rfl,I.sub⟩
theorem vC (I:U W w L):Calls prog 115 #[.agg (ints .i32 32 g).toArray] w λe w'=>∃ ad c,e=.returned (.slice ad 128 c)∧U W w' (Sl 5 1 ad 128 c (bc (gF g))::L):=by
 refine EN func115 ntmps115 rfl rfl λa E=>?_;refine BX 1 E I λb1 a w E I=>?_;refine RN 6 E I λa E=>?_;refine aL (λμ a w=>∃ (i:Nat) (ad:Option Addr) (c:Nat),(μ=32-i∧i≤32)∧Fr a 17 [(1,pt b1),(3,.slice ad (mB g i).length c),(4,.int .i64 i)]∧U W w (Sl 5 1 ad (mB g i).length c (bc (mB g i))::aa b1 49 (ints .i32 32 g)::L)) (32) (⟨0,none,0,⟨rfl,by omega⟩,E.ab [1,3,4],I.bQ 5 1 none⟩) ?_;clear E I;rintro μ a w ⟨i,ad,c,⟨rfl,hi⟩,E,I⟩;refine IF 4 E I (λak a E=>?_) λak a E=>?_
 ·
  have Hc:i<32:=by omega
  have rj:=sr g i;refine RN 4 E I λa E=>?_;refine SS E (ae E (I.bC (b:=b1) (ga g Hc))) λa E=>?_;refine RN 0 E I λa E=>?_;refine SS E (gA E tn lh) λa E=>?_;rw[Mk]at E;refine bg 0 E I (Gx I) λad2 a w E I=>?_;refine RN 0 E I λa E=>?_;refine hO E rfl I bj Ty.t5 rfl rfl (by decide) (λh0=>(I.cw ad2 (fp (qe (g i))) rfl rfl).get h0) (by rw[dA];rfl) (ez _) (by rw[m5];omega) λM0 M1 a w E I=>?_;rw[← fS,← Gt]at I;rw[show (mB g i).length+(fp (qe (g i))).length=(mB g (i+1)).length from by rw[sr,sr,m5];omega]at E I;refine RN 4 E I λa E=>?_;exact⟨32-(i+1),by omega,i+1,_,_,⟨rfl,by omega⟩,E.ab [1,3,4],I.sub⟩
 obtain rfl:i=32:=by omega
 rw[show (mB g 32).length=128 from sr g 32]at E I;refine RT 3 E I ?_;exact⟨_,_,rfl,(I.perm (c1 _ _ _)).tail⟩
theorem aaq (I:U W w L):Calls prog 106 #[.agg (ints .i32 32 g).toArray] w λe w'=>e=.returned (.int .u32 (jI (gF g)))∧U W w' L:=by
 refine EN func106 ntmps106 rfl rfl λa E=>?_;refine BX 1 E I λb1 a w E I=>?_;refine aY 3 E I (vC I) λad c a w E I=>?_;rw[show 128=(gF g).length from (vw g).symm]at E I;refine CL 0 E I (Mn I (by rw[vw];decide) (λw' hw=>hw.cw ad (gF g) rfl rfl)) λa w E I=>?_;refine RT 1 E I ?_;exact⟨rfl,I.sub⟩
end
end
section
def dw (l:List UInt8)(f:Nat)(b:List UInt8):List UInt8:=if l.length<f then l else l++(b.drop (l.length-f)).take (1000-l.length)
theorem sG {l:List UInt8}{f:Nat}{b:List UInt8}(h:l.length≤1000):l.length≤(dw l f b).length∧(dw l f b).length≤1000:=by
 unfold dw;split
 ·omega
 ·rw[aM,eA];omega
theorem M3 {l b:List UInt8}{f i:Nat}(hf:f≤l.length)(hi:i<b.length)(h1:l.length-f≤i)(h2:l.length+(i-(l.length-f))<1000) :
   l++(b.drop (l.length-f)).take (i+1-(l.length-f))=(l++(b.drop (l.length-f)).take (i-(l.length-f)))++[b[i]]:=by
 rw[show i+1-(l.length-f)=(i-(l.length-f))+1 from by omega,dz]
 congr 1
 rw[jD (by rw[c8];omega)]
 congr 2
 rw[List.getElem_drop]
 congr 1
 omega
def iW (ls:List (List UInt8)):Nat→Nat
 | 0=>(ls.headD []).length
 | i+1=>min (iW ls i) (ls.getD i []).length
def aU (ls:List (List UInt8)):Nat:=iW ls ls.length
theorem aar (ls:List (List UInt8)):iW ls 1=iW ls 0:=by
 rw[iW,iW];cases ls <;> simp[iW]
theorem M4 {ls:List (List UInt8)}:∀ {i j:Nat},j<i→iW ls i≤(ls.getD j []).length
 | 0,_,h=>absurd h (by omega)
 | i+1,j,h=>by
  rw[iW];by_cases hj:j=i
  ·subst hj;exact Nat.min_le_right _ _
  ·exact eS (Nat.min_le_left _ _) (M4 (by omega))
theorem xJ {ls:List (List UInt8)}{l:List UInt8}(h:l∈ls):aU ls≤l.length:=by
 obtain⟨i,hi,rfl⟩:=zJ h;have:=M4 (ls:=ls) (i:=ls.length) hi
 rwa [br,aD hi]at this
theorem M5 (ls:List (List UInt8)):∀ i,i≤ls.length→ls≠[]→∃ l∈ls,iW ls i=l.length
 | 0,_,h=>by
  cases ls with
  | nil=>exact absurd rfl h
  | cons a r=>exact⟨a,by simp,rfl⟩
 | i+1,hi,h=>by
  obtain⟨l,hl,e⟩:=M5 ls i (by omega) h;rw[iW];rcases Nat.le_total (iW ls i) (ls.getD i []).length with h1 | h1
  ·rw[Nat.min_eq_left h1];exact⟨l,hl,e⟩
  ·rw[Nat.min_eq_right h1,br,aD (by omega)];exact⟨ls[i],jj _,rfl⟩
theorem Cy {ls:List (List UInt8)}(h:ls≠[]):∃ l∈ls,aU ls=l.length:=M5 ls _ (a7 _) h
theorem He {ls:List (List UInt8)}{n:Nat}(h:ls≠[])(hn:∀ l∈ls,n≤l.length):n≤aU ls:=by
 obtain⟨l,hl,e⟩:=Cy h;rw[e];exact hn l hl
def fD (ls:List (List UInt8))(f i:Nat):List UInt8:=(ls.take i).map (·.getD f 0)
def bK (ls:List (List UInt8))(f:Nat):List UInt8:=ls.map (·.getD f 0)
theorem Cz (ls:List (List UInt8))(f:Nat):fD ls f ls.length=bK ls f:=by rw[fD,lf,bK]
theorem CA {ls:List (List UInt8)}{f i:Nat}(h:i<ls.length):fD ls f (i+1)=fD ls f i++[ls[i].getD f 0]:=by
 rw[fD,jD h,cY];rfl
theorem ui {ls:List (List UInt8)}{f i:Nat}(h:i≤ls.length):(fD ls f i).length=i:=by
 rw[fD,a8,eA];omega
theorem nL (ls:List (List UInt8))(f:Nat):(bK ls f).length=ls.length:=by rw[bK,a8]
structure Gs where
 kind:Int
 order:Int
 table:List UInt8
def c0 (b:Gs):Prop:=(b.kind=1∧b.order=0∧b.table.length=0)∨(b.kind=2∧0≤b.order∧b.order≤3∧b.table.length=0)∨(b.kind=3∧b.order=0∧1≤b.table.length∧b.table.length≤1000)
instance (b:Gs):Decidable (c0 b):=inferInstanceAs (Decidable (_∨_))
def zK (o:Nat)(past:List UInt8)(i:Nat):Bool:=(past.drop (i-o)).take o==past.drop (past.length-o)
def hS (o:Nat)(past:List UInt8):Nat→Nat→Int
 | 0=>λ_=>0
 | i+1=>if o≤i∧zK o past i=true then cn (hS o past i) (past.getD i 0).toNat (hS o past i (past.getD i 0).toNat+1) else hS o past i
theorem zL {o:Nat}{past:List UInt8}:∀ {i:Nat},i≤o→hS o past i=λ_=>0
 | 0,_=>rfl
 | i+1,h=>by rw[hS,ag (by omega),zL (by omega)]
theorem CB (o:Nat)(past:List UInt8):∀ (i v:Nat),0≤hS o past i v∧hS o past i v≤i
 | 0,v=>⟨Int.le_refl _,Int.le_refl _⟩
 | i+1,v=>by
  have h:=CB o past i v;have h2:=CB o past i (past.getD i 0).toNat;rw[hS];split
  ·unfold cn;split <;> omega
  ·omega
def gR (b:Gs)(past:List UInt8):Nat→Int:=if b.kind=2 then hS b.order.toNat past past.length else λ_=>0
def iG (past:List UInt8):UInt8:=past.getLastD 0
def mF (w:Nat→Int)(last:Nat):Nat→Nat
 | 0=>last
 | i+1=>if w (mF w last i)<w i then i else mF w last i
theorem Hf {w:Nat→Int}{last:Nat}(hl:last<256):∀ {i:Nat},i≤256→mF w last i<256
 | 0,_=>hl
 | i+1,h=>by
  rw[mF];split
  ·omega
  ·exact Hf hl (by omega)
theorem M6 {w:Nat→Int}{last:Nat}:∀ {i:Nat},(∀ v,v<i→w v≤w last)→mF w last i=last
 | 0,_=>rfl
 | i+1,h=>by
  have ih:=M6 (i:=i) λv hv=>h v (by omega);rw[mF,ih,ag];have:=h i (by omega);omega
theorem M7 {w:Nat→Int}{last x:Nat}(h0:w last<w x)(h1:∀ v,v<x→w v<w x):∀ {i:Nat},(∀ v,v<i→w v≤w x)→(i≤x→w (mF w last i)<w x)∧(x<i→mF w last i=x)
 | 0,_=>⟨λ_=>h0,λh=>absurd h (by omega)⟩
 | i+1,h=>by
  have ih:=M7 h0 h1 (i:=i) λv hv=>h v (by omega);rw[mF];refine⟨λhi=>?_,λhi=>?_⟩
  ·have:=ih.1 (by omega);have:=h1 i (by omega);split <;> assumption
  ·by_cases hx:x=i
   ·subst hx;rw[aj (ih.1 (by omega))]
   ·rw[ih.2 (by omega),ag];have:=h i (by omega);omega
def nM (b:Gs)(past:List UInt8):UInt8:=if b.kind=3 then b.table.getD (past.length%b.table.length) 0 else UInt8.ofNat (mF (gR b past) (iG past).toNat 256)
def eo (b:Gs)(past:List UInt8):Nat→List UInt8
 | 0=>past
 | i+1=>eo b past i++[nM b (eo b past i)]
theorem iH (b:Gs)(past:List UInt8):∀ i,(eo b past i).length=past.length+i
 | 0=>rfl
 | i+1=>by rw[eo,aM,iH b past i];rfl
theorem M8 (b:Gs)(past:List UInt8):∀ i,(eo b past i).take past.length=past
 | 0=>lf
 | i+1=>by
  rw[eo,List.take_append_of_le_length (by rw[iH];omega),M8 b past i]
def kr (b:Gs)(past:List UInt8)(n:Nat):List UInt8:=(eo b past n).drop past.length
theorem Hg (b:Gs)(past:List UInt8)(n:Nat):(kr b past n).length=n:=by rw[kr,c8,iH];omega
theorem vD (b:Gs)(past:List UInt8)(n:Nat):past++kr b past n=eo b past n:=by
 conv=>lhs;lhs;rw[← M8 b past n]
 rw[kr,j6]
theorem aas (b:Gs)(past:List UInt8)(n:Nat):kr b past (n+1)=kr b past n++[nM b (past++kr b past n)]:=by
 rw[vD,kr,eo,List.drop_append_of_le_length (by rw[iH];omega)];rfl
def om (b:Gs)(past:List UInt8)(to:Nat):List UInt8:=eo b past (to-past.length)
def js (b:Gs)(ls:List (List UInt8))(to:Nat):List (List UInt8):=ls.map λl=>om b l to
theorem aat (b:Gs)(past:List UInt8)(to:Nat):to≤(om b past to).length:=by rw[om,iH];omega
def dx (b:Gs)(ls:List (List UInt8))(to:Nat):List (List UInt8):=(List.range (to-aU ls)).map λi=>bK (js b ls to) (aU ls+i)
theorem xK (b:Gs)(ls:List (List UInt8))(to:Nat):(dx b ls to).length=to-aU ls:=by simp[dx]
end
section
abbrev Lx:=Nat×List UInt8
def Ln (x:Lx):SP:=λh=>∃ (ad:Option Addr) (c:Nat),cp [aa x.1 328 [.slice ad x.2.length c],Sl 5 1 ad x.2.length c (bc x.2)] h
section
variable {W w:World}{L L' R:List SP}{n c m lb:Nat}{ad:Option Addr}{l bs:List UInt8}{x:UInt8}
theorem Ln.open (I:U W w (Ln (lb,l)::L)):∃ (ad:Option Addr) (c:Nat),U W w (aa lb 328 [.slice ad l.length c]::Sl 5 1 ad l.length c (bc l)::L):=by
 obtain⟨ad,_,I⟩:=I.jS (p:=λ_=>True) (B:=λad h=>∃ c,cp [aa lb 328 [.slice ad l.length c],Sl 5 1 ad l.length c (bc l)] h) λ_ ⟨ad,c,h⟩=>⟨ad,trivial,c,h⟩;obtain⟨c,_,I⟩:=I.jS (p:=λ_=>True) (B:=λc h=>cp [aa lb 328 [.slice ad l.length c],Sl 5 1 ad l.length c (bc l)] h) λ_ ⟨c,h⟩=>⟨c,trivial,h⟩;exact⟨ad,c,I.open (M:=[_,_]) λ_ h=>h⟩
theorem Ln.close (I:U W w (aa lb 328 [.slice ad l.length c]::Sl 5 1 ad l.length c (bc l)::L)):U W w (Ln (lb,l)::L) :=
 U.shut (M:=[_,_]) I λ_ h=>⟨ad,c,h⟩
theorem Ln.mk' (I:U W w L)(ad:Option Addr)(c:Nat)[k:fM L (aa lb 328 [.slice ad l.length c]::Sl 5 1 ad l.length c (bc l)::L') R]:U W w (Ln (lb,l)::L'):=Ln.close (ad:=ad) (c:=c) I.sub
theorem aau (d:Nat):(madeCells (Value.int .u8 0).cells (d*1)).toList=bc (List.replicate d 0):=by
 apply ext_getElem?;intro i;by_cases h:i<d
 ·rw[dV (by simpa using h)];rw[madeCells,Array.getElem?_toList,Array.getElem?_map,Array.getElem?_range];simp[h,Value.cells,Nat.mod_one]
 ·rw[iO (by simp[madeCells];omega),iO (by rw[dA];simp;omega)]
theorem U.M9 {b e sz m:Nat}{cs:List Value}(I:U W w (aa b e cs::L))(h:cs.length=m*sz):U W w (Sl e sz (some ⟨b,0,none⟩) m m cs::L) :=
 U.jh (pre:=[]) (post:=[]) (n:=m) (c:=m) (sz:=sz) (cs:=cs) (by simpa using I) h (a7 _) (by rw[Nat.sub_self,Nat.zero_mul];exact Nat.zero_le _)
theorem aX.zM {w:World}{ad:Option Addr}{bs:List UInt8}{c lo n:Nat}(h:aX w ad bs.length bs)(hl:lo+n≤bs.length)(hc:bs.length≤c):aX w (fw ad lo c 1) n ((bs.drop lo).take n) :=
 (h.vu (lo:=lo) (by omega) hc).Gp (by rw[c8];omega)
theorem aav {d:Nat}(I:U W w L)(hd:d≤8):Calls prog 168 #[.int .i64 d] w λe w'=>∃ lb,e=.returned (pt lb)∧U W w' (Ln (lb,List.replicate d 0)::L):=by
 refine EN func168 ntmps168 rfl rfl λa E=>?_;refine RN 6 E I λa E=>?_;rw[show min (max (d:Int) 0) 8=(d:Int) from by omega]at E;refine rO E rfl I bj Ty.t5 rfl (by omega) (by omega) λcJ a w E I ho=>?_;clear ho;rw[aau]at I;replace I:=I.M9 (m:=d) (sz:=1) (by rw[dA,kN,fB]);refine BX 1 E I λb8 a w E I=>?_;refine RN 1 E I λa E=>?_;replace I:U W w (aa b8 328 [.slice (some ⟨cJ,0,none⟩) (List.replicate d (0:UInt8)).length d]::Sl 5 1 (some ⟨cJ,0,none⟩) (List.replicate d (0:UInt8)).length d (bc (List.replicate d 0))::L):=by
  rw[kN];exact I
 refine RT 0 E I ?_;exact⟨b8,rfl,Ln.close I⟩
theorem CC (I:U W w (Ln (lb,l)::L)):Calls prog 172 #[pt lb] w λe w'=>e=.returned (.int .i64 l.length)∧U W w' (Ln (lb,l)::L):=by
 obtain⟨ad,c,I⟩:=Ln.open I;refine EN func172 ntmps172 rfl rfl λa E=>?_;refine RN 6 E I λa E=>?_;replace E:=E.aQ 4;refine RT 8 E I ?_;exact⟨rfl,Ln.close I⟩
theorem Na {f:Nat}(I:U W w (Ln (lb,l)::L)):Calls prog 173 #[pt lb,.int .i64 f] w λe w'=>e=.returned (.tuple #[.int .u8 ((l.getD f 0).toNat:Nat),.bool (decide (f<l.length))])∧U W w' (Ln (lb,l)::L):=by
 refine EN func173 ntmps173 rfl rfl λa E=>?_;refine RN 8 E I λa E=>?_;rw[bu (by omega)]at E;refine CL 2 E I (CC I) λa w E I=>?_;refine IF 2 E I (λak a E=>?_) λak a E=>?_
 ·
  refine RT 3 E I ?_;exact⟨by rw[br,iO (by omega),bu (by omega)];rfl,I⟩
 obtain⟨ad,c,I⟩:=Ln.open I;have eP:f<l.length:=by omega
 obtain⟨b,o,rfl,hr⟩:=(I.cw ad l rfl rfl).get (by omega);refine RN 7 E I λa E=>?_;refine SS E (ae E (hr f _ (lA eP))) λa E=>?_;refine RT 2 E I ?_;exact⟨by rw[dr eP],Ln.close I⟩
theorem Nb (I:U W w (Ln (lb,l)::L))(hl:l.length≤1000):Calls prog 314 #[pt lb,.int .u8 (x.toNat:Nat)] w λe w'=>e=.returned (.int .i64 (if l.length<1000 then 0 else 4))∧U W w' (Ln (lb,if l.length<1000 then l++[x] else l)::L):=by
 obtain⟨ad,c,I⟩:=Ln.open I;refine EN func314 ntmps314 rfl rfl λa E=>?_;refine RN 7 E I λa E=>?_;replace E:=E.aQ 5;refine IF 9 E I (λao a E=>?_) λao a E=>?_
 ·
  refine RT 2 E I ?_;exact⟨by rw[ag (by omega)],by rw[ag (by omega)];exact Ln.close I⟩
 refine RN 7 E I λa E=>?_;refine ct E rfl I bj Ty.t5 rfl rfl rfl rfl (by decide) (by decide) λb21 a w E I ho=>?_;clear ho;refine RN 0 E I λa E=>?_;refine cR E rfl I bj Ty.t5 rfl rfl I.ai rfl (ez [x]) (by decide) (by decide) (by omega) λNc Nd a w E I=>?_;rw[show bc l++_=bc (l++[x]) from (fS l [x]).symm]at I;refine ST 2 E I (λa w E I=>?_);refine RN 0 E I λa E=>?_;rw[show l.length+1=(l++[x]).length from by simp]at I;replace I:=I.sub (M:=aa lb 328 [.slice Nc (l++[x]).length Nd]::Sl 5 1 Nc (l++[x]).length Nd (bc (l++[x]))::L);refine RT 2 E I ?_;exact⟨by rw[aj (by omega)],by rw[aj (by omega)];exact Ln.close I⟩
theorem aaw {f:Nat}(I:U W w (Ln (lb,l)::L))(hl:l.length≤1000)(hb:bs.length≤65536)(hp:∀ w',U W w' L→aX w' ad bs.length bs) :
   Calls prog 318 #[pt lb,.int .i64 f,.slice ad bs.length c] w λe w'=>∃ n er:Int,e=.returned (.tuple #[.int .i64 n,.int .i64 er])∧U W w' (Ln (lb,dw l f bs)::L):=by
 refine EN func318 ntmps318 rfl rfl λa E=>?_;refine RN 8 E I λa E=>?_;replace E:=E.aQ 11;refine RN 5 E I λa E=>?_;rw[bu (by omega)]at E;refine RN 2 E I λa E=>?_;obtain⟨hU,cl,I⟩:=Ln.open I;refine IF 8 E I (λay a E=>?_) λay a E=>?_
 ·
  replace I:=Ln.close I;refine RT 3 E I ?_;exact⟨_,_,rfl,by rw[dw,aj (by omega)];exact I⟩
 refine RN 11 E I λa E=>?_;rw[show ((l.length:Nat):Int)-(f:Int)=((l.length-f:Nat):Int) from by omega]at E;refine RN 1 E I λa E=>?_;replace I:=Ln.close I;have eP:f≤l.length:=by omega
 refine aL (λμ a w=>∃ (i:Nat),(μ=bs.length-i∧l.length-f≤i∧(i≤bs.length∨i=l.length-f)∧l.length+(i-(l.length-f))≤1000)∧Fr a 51 [(0,pt lb),(2,.slice ad bs.length c),(8,.int .i64 (i-(l.length-f):Nat)),(9,.int .i64 i)]∧U W w (Ln (lb,l++(bs.drop (l.length-f)).take (i-(l.length-f)))::L)) (bs.length-(l.length-f)) (⟨l.length-f,⟨rfl,a7 _,.inr rfl,by omega⟩,by rw[Nat.sub_self];exact E.ab [0,2,8,9],by rw[Nat.sub_self,take_zero,append_nil];exact I⟩) ?_;clear E I;rintro μ a w ⟨i,⟨rfl,hi,hib,lM⟩,E,I⟩;refine IF 6 E I (λbl a E=>?_) λbl a E=>?_
 ·
  obtain⟨bb,oo,rfl,hr⟩:=(hp _ I.tail).get (by omega);have aG:i<bs.length:=by omega
  have hlen:(l++(bs.drop (l.length-f)).take (i-(l.length-f))).length=l.length+(i-(l.length-f)):=by rw[aM,eA,c8];omega
  refine RN 7 E I λa E=>?_;refine SS E (ae E (hr i _ (dV aG))) λa E=>?_;refine CL 0 E I (Nb I (by rw[hlen];omega)) λa w E I=>?_;rw[hlen]at E I;refine IF 4 E I (λbO a E=>?_) λbO a E=>?_
  ·
   have h9:¬ l.length+(i-(l.length-f))<1000:=λh=>bO (aj h);rw[ag h9]at I;refine RT 5 E I ?_;exact⟨_,_,rfl,by rw[dw,ag (by omega),show 1000-l.length=i-(l.length-f) from by omega];exact I⟩
  have h9:l.length+(i-(l.length-f))<1000:=Decidable.of_not_not λh=>by rw[ag h]at bO;cases bO
  rw[aj h9]at I;refine RN 6 E I λa E=>?_;exact⟨bs.length-(i+1),by omega,i+1,⟨rfl,by omega,by omega,by omega⟩,by rw[show ((i+1-(l.length-f):Nat):Int)=((i-(l.length-f):Nat):Int)+1 from by omega];exact E.ab [0,2,8,9],by rw[M3 eP aG hi h9];exact I⟩
 refine RT 4 E I ?_;exact⟨_,_,rfl,by rw[dw,ag (by omega),gl (by rw[c8];omega)];rw[gl (by rw[c8];omega)]at I;exact I⟩
theorem Nf {f k:Nat}(I:U W w (Ln (lb,l)::L))(hl:l.length≤1000)(hf:f≤1000)(hk:1≤k∧k≤1000) :
   Calls prog 309 #[pt lb,.int .i64 f,.int .i64 k] w λe w'=>∃ av c',e=.returned (.slice av ((l.drop f).take k).length c')∧U W w' (Sl 5 1 av ((l.drop f).take k).length c' (bc ((l.drop f).take k))::Ln (lb,l)::L):=by
 have eQ:((l.drop f).take k).length=min l.length (f+k)-f:=by rw[eA,c8];omega
 refine EN func309 ntmps309 rfl rfl λa E=>?_;refine RN 7 E I λa E=>?_;rw[bu (by omega)]at E;refine CL 2 E I (CC I) λa w E I=>?_;refine BY 3 E I (λfm a E=>?_) λfm a E=>?_
 ·
  have hz:(l.drop f).take k=[]:=by rw[drop_eq_nil_of_le (by omega),List.take_nil]
  refine RT 6 E I ?_;rw[hz];exact⟨_,_,rfl,I.bQ _ _ none⟩
 refine RN 3 E I λa E=>?_;rw[bu (by omega)]at E;refine RN 2 E I λa E=>?_;obtain⟨hU,cl,I⟩:=Ln.open I;have cr:=(I.sl hU).2;refine bM 0 [8,9,14] [0,1,2,4,5,6,7,10,11,12,13,3003,1008,1009,1014,15,1016,17] E I λa w E I hH hC=>?_;refine RH 10 E I hH hC λa E=>?_;rw[show min (k:Int) 1000=(k:Int) from by omega]at E;refine RH 5 E I hH hC λa E=>?_;rw[show min (l.length:Int) ((f:Int)+(k:Int))=((min l.length (f+k):Nat):Int) from by omega]at E;refine RH 1 E I hH hC λa E=>?_;refine aY 0 E I (ts (bs:=(l.drop f).take k) I (λw' hw=>by have h1:=(hw.cw hU l rfl rfl).zM (c:=cl) (lo:=f) (n:=min l.length (f+k)-f) (by omega) cr;rw[show (l.drop f).take (min l.length (f+k)-f)=(l.drop f).take k from by rw[← eQ,List.take_eq_take_iff,eA,c8];omega]at h1;exact h1) (by omega)) λfx c3 a w E I=>?_;refine RN 1 E I λa E=>?_;refine RT 0 E I ?_;exact⟨fx,c3,by rw[eQ],by rw[eQ];exact (Ln.mk' (L':=Sl 5 1 fx (min l.length (f+k)-f) c3 (bc ((l.drop f).take k))::L) I hU cl).perm (c1 _ _ _)⟩
theorem aax (I:U W w (Ln (lb,l)::L))(hl:l.length≤1000) :
   Calls prog 293 #[pt lb] w λe w'=>∃ av c',e=.returned (.slice av l.length c')∧U W w' (Sl 5 1 av l.length c' (bc l)::Ln (lb,l)::L):=by
 have hta:(l.drop 0).take 1000=l:=by rw[drop_zero,gl hl]
 refine EN func293 ntmps293 rfl rfl λa E=>?_;refine aY 4 E I (Nf (f:=0) (k:=1000) I hl (by decide) (by decide)) λfx c3 a w E I=>?_;rw[hta]at E I;refine RT 1 E I ?_;exact⟨_,_,rfl,I⟩
end
end
section
def ku (x:Lx):Value:=pt x.1
def Qu (qb:Nat)(aB:List Nat)(ls:List (List UInt8)):SP:=λh=>∃ (ad:Option Addr) (c:Nat),aB.length=ls.length∧cp [aa qb 288 [.slice ad ls.length c],Sl 289 1 ad ls.length c ((aB.zip ls).map ku),ah Ln (aB.zip ls)] h
section
variable {W w:World}{L L' R:List SP}{n c qb lb i f:Nat}{ad:Option Addr}{ls:List (List UInt8)}{aB:List Nat}{l:List UInt8}{x:UInt8}
theorem Qu.open (I:U W w (Qu qb aB ls::L)):∃ (ad:Option Addr) (c:Nat),aB.length=ls.length∧U W w (aa qb 288 [.slice ad ls.length c]::Sl 289 1 ad ls.length c ((aB.zip ls).map ku)::ah Ln (aB.zip ls)::L):=by
 obtain⟨⟨ad,c⟩,hl,I⟩:=I.jS (ι:=Option Addr×Nat) (p:=λ_=>aB.length=ls.length) (B:=λy h=>cp [aa qb 288 [.slice y.1 ls.length y.2],Sl 289 1 y.1 ls.length y.2 ((aB.zip ls).map ku),ah Ln (aB.zip ls)] h) λ_ ⟨ad,c,hl,h⟩=>⟨(ad,c),hl,h⟩;exact⟨ad,c,hl,I.open (M:=[_,_,_]) λ_ h=>h⟩
theorem Qu.close (I:U W w (aa qb 288 [.slice ad ls.length c]::Sl 289 1 ad ls.length c ((aB.zip ls).map ku)::ah Ln (aB.zip ls)::L))(hl:aB.length=ls.length):U W w (Qu qb aB ls::L) :=
 U.shut (M:=[_,_,_]) I λ_ h=>⟨ad,c,hl,h⟩
theorem Qu.mk' (I:U W w L)(ad:Option Addr)(c:Nat)[k:fM L (aa qb 288 [.slice ad ls.length c]::Sl 289 1 ad ls.length c ((aB.zip ls).map ku)::ah Ln (aB.zip ls)::L') R](hl:aB.length=ls.length):U W w (Qu qb aB ls::L'):=Qu.close (ad:=ad) (c:=c) I.sub hl
theorem vE {aB:List Nat}{ls:List (List UInt8)}(hl:aB.length=ls.length){i:Nat}(h:i<ls.length):(aB.zip ls)[i]?=some (aB.getD i 0,ls.getD i []):=by
 rw[List.getElem?_zip_eq_some];simp only[br];rw[aD h,aD (by omega)];exact⟨rfl,rfl⟩
def zN (qb:Nat)(aB:List Nat)(ls:List (List UInt8))(i:Nat):SP:=λh=>∃ (ad:Option Addr) (c:Nat),aB.length=ls.length∧cp [aa qb 288 [.slice ad ls.length c],Sl 289 1 ad ls.length c ((aB.zip ls).map ku),ah Ln ((aB.zip ls).eraseIdx i)] h
theorem Qu.out (I:U W w (Qu qb aB ls::L))(h:i<ls.length):U W w (Ln (aB.getD i 0,ls.getD i [])::zN qb aB ls i::L):=by
 obtain⟨ad,c,hl,I⟩:=Qu.open I;have hz:=vE hl h;obtain⟨hi,he⟩:=a2.1 hz;replace I:=(I.pick (ah Ln (aB.zip ls))).fA hi;rw[he]at I;have h2:U W w (aa qb 288 [.slice ad ls.length c]::Sl 289 1 ad ls.length c ((aB.zip ls).map ku)::ah Ln ((aB.zip ls).eraseIdx i)::Ln (aB.getD i 0,ls.getD i [])::L):=I.sub;exact (U.shut (M:=[_,_,_]) h2 λ_ h=>⟨ad,c,hl,h⟩:U W w (zN qb aB ls i::Ln (aB.getD i 0,ls.getD i [])::L)).perm (c1 _ _ _)
theorem map_set {α β:Type}(f:α→β)(l:List α)(i:Nat)(x:α):(l.set i x).map f=(l.map f).set i (f x):=by
 apply ext_getElem? ;intro j;simp only[bd,jB,a8];split
 ·split <;> rfl
 ·rfl
theorem Ng {aB:List Nat}{ls:List (List UInt8)}(hl:aB.length=ls.length){i:Nat}(h:i<ls.length)(l:List UInt8):aB.zip (ls.set i l)=(aB.zip ls).set i (aB.getD i 0,l):=by
 apply ext_getElem?;intro j;by_cases hj:j<ls.length
 ·rw[vE (by simpa using hl) (by simpa using hj),jB];by_cases oT:i=j
  ·subst oT;rw[aj rfl,aj (by simp;omega)];simp[br,h]
  ·rw[ag oT,vE hl hj];simp[br,getElem?_set_ne oT]
 ·rw[iO (by simp;omega),iO (by simp;omega)]
theorem Qu.in (I:U W w (Ln (aB.getD i 0,l)::zN qb aB ls i::L))(h:i<ls.length):U W w (Qu qb aB (ls.set i l)::L):=by
 obtain⟨⟨ad,c⟩,hl,I⟩:=(I.pick (zN qb aB ls i)).jS (ι:=Option Addr×Nat) (p:=λ_=>aB.length=ls.length) (B:=λy h=>cp [aa qb 288 [.slice y.1 ls.length y.2],Sl 289 1 y.1 ls.length y.2 ((aB.zip ls).map ku),ah Ln ((aB.zip ls).eraseIdx i)] h) λ_ ⟨ad,c,hl,h⟩=>⟨(ad,c),hl,h⟩;replace I:U W w (aa qb 288 [.slice ad ls.length c]::Sl 289 1 ad ls.length c ((aB.zip ls).map ku)::ah Ln ((aB.zip ls).eraseIdx i)::Ln (aB.getD i 0,l)::L):=I.open (M:=[_,_,_]) λ_ h=>h;have hz:=vE hl h;obtain⟨hi,he⟩:=a2.1 hz;have h1:U W w (Ln (aB.getD i 0,l)::ah Ln ((aB.zip ls).eraseIdx i)::aa qb 288 [.slice ad ls.length c]::Sl 289 1 ad ls.length c ((aB.zip ls).map ku)::L):=I.sub;replace h1:=h1.la hi;rw[← Ng hl h]at h1;have fc:ls.length=(ls.set i l).length:=by rw[bz]
 have hp:(aB.zip ls).map ku=(aB.zip (ls.set i l)).map ku:=by
  rw[Ng hl h,map_set]
  symm
  apply ext_getElem?;intro j;rw[jB];split
  ·rename_i hj;subst hj;split
   ·rw[bd,hz];rfl
   ·rw[iO (by omega)]
  ·rfl
 rw[hp,fc]at h1;exact Qu.mk' h1 ad c (by rw[← fc];exact hl)
theorem Nh {ls:List (List UInt8)}{i:Nat}:ls.set i (ls.getD i [])=ls:=by
 apply ext_getElem?;intro j;rw[jB];split
 ·rename_i h;subst h;split
  ·rename_i h;rw[br,aD h];rfl
  ·rw[iO (by omega)]
 ·rfl
theorem Qu.back (I:U W w (Ln (aB.getD i 0,ls.getD i [])::zN qb aB ls i::L))(h:i<ls.length):U W w (Qu qb aB ls::L):=by
 have:=Qu.in I h
 rwa [Nh]at this
theorem zO (I:U W w (Qu qb aB ls::L))(h:i<ls.length):Calls prog 172 #[.pointer (some ⟨aB.getD i 0,0,none⟩)] w λe w'=>e=.returned (.int .i64 (ls.getD i []).length)∧U W w' (Qu qb aB ls::L) :=
 (CC (Qu.out I h)).mono λ_ _ ⟨he,I⟩=>⟨he,Qu.back I h⟩
theorem aay (I:U W w (Qu qb aB ls::L))(h:i<ls.length):Calls prog 173 #[.pointer (some ⟨aB.getD i 0,0,none⟩),.int .i64 f] w λe w'=>e=.returned (.tuple #[.int .u8 (((ls.getD i []).getD f 0).toNat:Nat),.bool (decide (f<(ls.getD i []).length))])∧U W w' (Qu qb aB ls::L) :=
 (Na (Qu.out I h)).mono λ_ _ ⟨he,I⟩=>⟨he,Qu.back I h⟩
theorem aaz (I:U W w (Qu qb aB ls::L))(h:i<ls.length)(hl:(ls.getD i []).length<1000):Calls prog 314 #[.pointer (some ⟨aB.getD i 0,0,none⟩),.int .u8 (x.toNat:Nat)] w λe w'=>e=.returned (.int .i64 0)∧U W w' (Qu qb aB (ls.set i (ls.getD i []++[x]))::L) :=
 (Nb (Qu.out I h) (by omega)).mono λ_ _ ⟨he,I⟩=>by
  rw[aj hl]at he I;exact⟨he,Qu.in I h⟩
theorem aaA {fr:Nat}{bs:List UInt8}(I:U W w (Qu qb aB ls::L))(h:i<ls.length)(hl:(ls.getD i []).length≤1000)(hb:bs.length≤65536)(hp:∀ w',U W w' L→aX w' ad bs.length bs) :
   Calls prog 318 #[.pointer (some ⟨aB.getD i 0,0,none⟩),.int .i64 fr,.slice ad bs.length c] w λe w'=>∃ n er:Int,e=.returned (.tuple #[.int .i64 n,.int .i64 er])∧U W w' (Qu qb aB (ls.set i (dw (ls.getD i []) fr bs))::L) :=
 (aaw (Qu.out I h) hl hb (λw' hw=>hp w' hw.tail)).mono λ_ _ ⟨n,er,he,I⟩=>⟨n,er,he,Qu.in I h⟩
theorem aaB {fr k:Nat}(I:U W w (Qu qb aB ls::L))(h:i<ls.length)(hl:(ls.getD i []).length≤1000)(hf:fr≤1000)(hk:1≤k∧k≤1000) :
   Calls prog 309 #[.pointer (some ⟨aB.getD i 0,0,none⟩),.int .i64 fr,.int .i64 k] w λe w'=>∃ av c',e=.returned (.slice av (((ls.getD i []).drop fr).take k).length c')∧U W w' (Sl 5 1 av (((ls.getD i []).drop fr).take k).length c' (bc (((ls.getD i []).drop fr).take k))::Qu qb aB ls::L) :=
 (Nf (Qu.out I h) hl hf hk).mono λ_ _ ⟨av,c',he,I⟩=>⟨av,c',he,(Qu.back (L:=Sl 5 1 av _ c' _::L) I.sub h).perm (c1 _ _ _)⟩
theorem aaC (I:U W w (Qu qb aB ls::L))(h:i<ls.length)(hl:(ls.getD i []).length≤1000) :
   Calls prog 293 #[.pointer (some ⟨aB.getD i 0,0,none⟩)] w λe w'=>∃ av c',e=.returned (.slice av (ls.getD i []).length c')∧U W w' (Sl 5 1 av (ls.getD i []).length c' (bc (ls.getD i []))::Qu qb aB ls::L) :=
 (aax (Qu.out I h) hl).mono λ_ _ ⟨av,c',he,I⟩=>⟨av,c',he,(Qu.back (L:=Sl 5 1 av _ c' _::L) I.sub h).perm (c1 _ _ _)⟩
theorem Hh (I:U W w (Qu qb aB ls::L)):Calls prog 171 #[pt qb] w λe w'=>e=.returned (.int .i64 ls.length)∧U W w' (Qu qb aB ls::L):=by
 obtain⟨ad,c,hl,I⟩:=Qu.open I;refine EN func171 ntmps171 rfl rfl λa E=>?_;refine RN 6 E I λa E=>?_;replace E:=E.aQ 4;refine RT 8 E I ?_;exact⟨rfl,Qu.close I hl⟩
theorem CD {aB:List Nat}{ls:List (List UInt8)}(hl:aB.length=ls.length){i:Nat}(h:i<ls.length):((aB.zip ls).map ku)[i]?=some (.pointer (some ⟨aB.getD i 0,0,none⟩)):=by
 rw[bd,vE hl h];rfl
theorem uj (I:U W w (Qu qb aB ls::L))(h:i<ls.length):Calls prog 291 #[pt qb,.int .i64 i] w λe w'=>e=.returned (.pointer (some ⟨aB.getD i 0,0,none⟩))∧U W w' (Qu qb aB ls::L):=by
 refine EN func291 ntmps291 rfl rfl λa E=>?_;refine RN 7 E I λa E=>?_;rw[bu (by omega)]at E;refine CL 2 E I (Hh I) λa w E I=>?_;refine RN 2 E I λa E=>?_;rw[bu (by omega)]at E;refine RN 2 E I λa E=>?_;obtain⟨ad,c,hl,I⟩:=Qu.open I;obtain⟨b,o,rfl,hr⟩:=I.bU ad (by omega);refine RN 6 E I λa E=>?_;refine SS E (ae E (hr i _ (CD hl h))) λa E=>?_;refine RT 1 E I ?_;exact⟨rfl,Qu.close I hl⟩
theorem sH (I:U W w (Qu qb aB ls::L))(h0:ls≠[])(iX:ls.length≤8):Calls prog 135 #[pt qb] w λe w'=>e=.returned (.int .i64 (aU ls))∧U W w' (Qu qb aB ls::L):=by
 have qM:0<ls.length:=List.length_pos_iff.2 h0;refine EN func135 ntmps135 rfl rfl λa E=>?_;refine CL 5 E I (Hh I) λa w E I=>?_;refine RN 1 E I λa E=>?_;rw[bu (by omega)]at E;refine RN 2 E I λa E=>?_;obtain⟨ad,c,hl,I⟩:=Qu.open I;obtain⟨b,o,rfl,hr⟩:=I.bU ad (by omega);refine RN 5 E I λa E=>?_;refine SS E (ae E (hr 0 _ (CD hl qM))) λa E=>?_;replace I:U W w (Qu qb aB ls::L):=Qu.close I hl;refine CL 0 E I (zO I qM) λa w E I=>?_;refine RN 3 E I λa E=>?_;obtain⟨ad,c,hl,I⟩:=Qu.open I;rw[show ((ls.getD 0 []).length:Int)=(iW ls 0:Nat) from by rw[iW,List.headD_eq_getD]]at E;refine RN 6 E I λa E=>?_;replace I:U W w (aa qb 288 [.slice ad ls.length c]::Sl 289 1 ad ls.length c ((aB.zip ls).map ku)::ah Ln (aB.zip ls)::L):=I;refine aL (λμ a w=>∃ (i:Nat),(μ=ls.length-i∧i≤ls.length)∧Fr a 31 [(3,.int .i64 (iW ls i:Nat)),(19,.slice ad ls.length c),(20,.int .i64 ls.length),(21,.int .i64 i)]∧U W w (aa qb 288 [.slice ad ls.length c]::Sl 289 1 ad ls.length c ((aB.zip ls).map ku)::ah Ln (aB.zip ls)::L)) (ls.length) (⟨0,⟨rfl,by omega⟩,E.ab [3,19,20,21],I⟩) ?_;clear E I;rintro μ a w ⟨i,⟨rfl,hi⟩,E,I⟩;refine IF 3 E I (λao a E=>?_) λao a E=>?_
 ·
  obtain⟨b2,qT,rfl,eO⟩:=I.bU ad (by omega);have aG:i<ls.length:=by omega
  have hz:=vE hl aG;obtain⟨kV,ra⟩:=a2.1 hz;refine RN 3 E I λa E=>?_;refine SS E (ae E (eO i _ (CD hl aG))) λa E=>?_;refine RN 1 E I λa E=>?_;replace I:=(I.pick (ah Ln (aB.zip ls))).fA kV;rw[ra]at I;refine CL 2 E I (CC I) λa w E I=>?_;replace I:=(ra ▸ I:U W w (Ln (aB.zip ls)[i]::_)).la kV;rw[mT]at I;refine RN 1 E I λa E=>?_;rw[show min ((iW ls i:Nat):Int) ((ls.getD i []).length:Int)=((iW ls (i+1):Nat):Int) from by rw[iW];omega]at E;refine RN 3 E I λa E=>?_;exact⟨ls.length-(i+1),by omega,i+1,⟨rfl,by omega⟩,E.ab [3,19,20,21],I.sub⟩
 obtain rfl:i=ls.length:=by omega
 refine RT 3 E I ?_;exact⟨rfl,Qu.close I hl⟩
theorem aaD (I:U W w (Qu qb aB ls::L))(h0:ls≠[])(hf:f<aU ls)(iX:ls.length≤8):Calls prog 136 #[pt qb,.int .i64 f] w λe w'=>∃ av c',e=.returned (.tuple #[.slice av (bK ls f).length c',.bool true]) ∧
   U W w' (Sl 5 1 av (bK ls f).length c' (bc (bK ls f))::Qu qb aB ls::L):=by
 refine EN func136 ntmps136 rfl rfl λa E=>?_;refine RN 8 E I λa E=>?_;rw[bu (by omega)]at E;refine CL 2 E I (sH I h0 iX) λa w E I=>?_;refine RN 2 E I λa E=>?_;rw[bu (by omega)]at E;refine RN 5 E I λa E=>?_;obtain⟨ad,c,hl,I⟩:=Qu.open I;refine RN 6 E I λa E=>?_;refine aL (λμ a w=>∃ (i:Nat) (ad2:Option Addr) (c2:Nat),(μ=ls.length-i∧i≤ls.length)∧Fr a 40 [(1,.int .i64 f),(6,.slice ad2 (fD ls f i).length c2),(22,.slice ad ls.length c),(23,.int .i64 ls.length),(24,.int .i64 i)]∧U W w (Sl 5 1 ad2 (fD ls f i).length c2 (bc (fD ls f i))::aa qb 288 [.slice ad ls.length c]::Sl 289 1 ad ls.length c ((aB.zip ls).map ku)::ah Ln (aB.zip ls)::L)) (ls.length) (⟨0,none,0,⟨rfl,by omega⟩,E.ab [1,6,22,23,24],I.bQ 5 1 none⟩) ?_;clear E I;rintro μ a w ⟨i,ad2,c2,⟨rfl,hi⟩,E,I⟩;refine IF 3 E I (λao a E=>?_) λao a E=>?_
 ·
  obtain⟨b2,qT,rfl,eO⟩:=I.bU ad (by omega);have aG:i<ls.length:=by omega
  have hz:=vE hl aG;obtain⟨kV,ra⟩:=a2.1 hz;have dO:=ui (ls:=ls) (f:=f) (i:=i) hi;refine RN 3 E I λa E=>?_;refine SS E (ae E (eO i _ (CD hl aG))) λa E=>?_;refine RN 2 E I λa E=>?_;replace I:=(I.pick (ah Ln (aB.zip ls))).fA kV;rw[ra]at I;refine CL 2 E I (Na I) λa w E I=>?_;replace I:=(ra ▸ I:U W w (Ln (aB.zip ls)[i]::_)).la kV;rw[mT]at I;refine RN 7 E I λa E=>?_;refine ct E rfl I bj Ty.t5 rfl rfl rfl rfl (by decide) (by decide) λb36 a w E I ho=>?_;clear ho;refine RN 0 E I λa E=>?_;refine cR E rfl I bj Ty.t5 rfl rfl I.ai rfl (ez [(ls.getD i []).getD f 0]) (by decide) (by decide) (by omega) λaae c37 a w E I=>?_;rw[show bc (fD ls f i)++_=bc (fD ls f (i+1)) from by rw[CA aG,fS,br (l:=ls),aD aG];rfl,show (fD ls f i).length+1=(fD ls f (i+1)).length from by rw[ui hi,ui (by omega)]]at I;rw[show (fD ls f i).length+1=(fD ls f (i+1)).length from by rw[ui hi,ui (by omega)]]at E;refine RN 3 E I λa E=>?_;exact⟨ls.length-(i+1),by omega,i+1,_,_,⟨rfl,by omega⟩,E.ab [1,6,22,23,24],I.sub⟩
 obtain rfl:i=ls.length:=by omega
 rw[Cz]at E I;refine RT 4 E I ?_;exact⟨_,_,rfl,(Qu.mk' (L':=Sl 5 1 ad2 (bK ls f).length c2 (bc (bK ls f))::L) I ad c hl).perm (c1 _ _ _)⟩
theorem aaE {d:Nat}(I:U W w L)(hn:2≤n∧n≤8)(hd:d≤8):Calls prog 131 #[.int .i64 n,.int .i64 d] w λe w'=>∃ qb aB,e=.returned (pt qb)∧U W w' (Qu qb aB (List.replicate n (List.replicate d 0))::L):=by
 refine EN func131 ntmps131 rfl rfl λa E=>?_;refine BX 4 E I λdv a w E I=>?_;refine RN 6 E I λa E=>?_;rw[show min (max (n:Int) 2) 8=(n:Int) from by omega]at E;refine RN 1 E I λa E=>?_;replace I:=I.bQ 289 1 none;replace I:=U.ji (f:=Ln) I;refine aL (λμ a w=>∃ (i:Nat) (xs:List Lx) (ad:Option Addr) (c:Nat),(μ=n-i∧i≤n∧xs.map (·.2)=List.replicate i (List.replicate d 0))∧Fr a 26 [(1,.int .i64 d),(5,pt dv),(10,.int .i64 n),(11,.int .i64 i)]∧U W w (aa dv 288 [.slice ad i c]::Sl 289 1 ad i c (xs.map ku)::ah Ln xs::L)) (n) (⟨0,[],none,0,⟨rfl,by omega,rfl⟩,E.ab [1,5,10,11],(I.sub:U W w (aa dv 288 [.slice none 0 0]::Sl 289 1 none 0 0 []::ah Ln []::L))⟩) ?_;clear E I;rintro μ a w ⟨i,xs,ad,c,⟨rfl,hi,bf⟩,E,I⟩;refine IF 3 E I (λak a E=>?_) λak a E=>?_
 ·
  refine aV 1 (λw0 w'=>Rd w' dv 0 [.slice ad i c]) [6,7] [0,1,2,3,5,3004,1006,1007,1008,9,10,1011] E I λa w E I hH=>?_;have hC:=hH.at w I.ai;refine RH 5 E I hH hC λa E=>?_;refine QH E (λw hc=>ae E (hc 0 _ rfl)) hC λa E=>?_;refine RH 0 E I hH hC λa E=>?_;refine bg 0 E I (aav I hd) λlb a w E I=>?_;replace hC:=hH.at w I.ai;refine RH 0 E I hH hC λa E=>?_;refine ct E rfl I E1 Ty.t289 rfl rfl rfl rfl (by decide) (by decide) λLd a w E I ho=>?_;clear ho;replace hC:=hH.at w I.ai;refine RH 0 E I hH hC λa E=>?_;refine cR E rfl I E1 Ty.t289 rfl rfl I.ai rfl (by simp[Value.oneCell']) (by decide) (by decide) (by omega) λr9 sa a w E I=>?_;rw[show List.map ku xs++_=List.map ku (xs++[(lb,List.replicate d 0)]) from by rw[cY];rfl]at I;refine ST 2 E I (λa w E I=>?_);refine RN 2 E I λa E=>?_;have dB:=U.j7 (x:=(lb,List.replicate d 0)) (I.sub (M:=Ln (lb,List.replicate d 0)::ah Ln xs::aa dv 288 [.slice r9 (i+1) sa]::Sl 289 1 r9 (i+1) sa ((xs++[(lb,List.replicate d 0)]).map ku)::L));exact⟨n-(i+1),by omega,i+1,xs++[(lb,List.replicate d 0)],r9,sa,⟨rfl,by omega,by rw[cY,bf,replicate_succ'];rfl⟩,E.ab [1,5,10,11],dB.sub⟩
 obtain rfl:i=n:=by omega
 refine RT 3 E I ?_;have b7:xs.length=i:=by rw[← a8 (f:=(·.2)),bf,kN]
 have hz:(xs.map (·.1)).zip (List.replicate i (List.replicate d 0))=xs:=by
  rw[← bf];clear bf I E b7
  induction xs with
  | nil=>rfl
  | cons x xs ih=>rw[map_cons,map_cons,List.zip_cons_cons,ih]
 have hR:(List.replicate i (List.replicate d (0:UInt8))).length=i:=kN;refine⟨dv,xs.map (·.1),rfl,?_⟩;refine Qu.close (ad:=ad) (c:=c) ?_ (by rw[a8,b7,hR]);rw[hR,hz];exact I
end
end
end Go.Proofs.YteoldcfapaiobaaGreat
