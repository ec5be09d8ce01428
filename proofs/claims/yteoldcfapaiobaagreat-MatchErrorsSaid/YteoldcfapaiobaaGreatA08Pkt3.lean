/- Packets out of bytes: packet.Decode. -/
import Derived.Test.YteoldcfapaiobaaGreatA07PktP
import Derived.Test.YteoldcfapaiobaaGreatA01Row
namespace Go.Proofs.YteoldcfapaiobaaGreat
open Tryz
open List (drop_zero drop_drop drop_left take_zero foldl_cons map_cons drop_eq_nil_of_le take_length append_nil ext_getElem? getElem_mem getElem?_set_ne set_getElem_self foldl_append replicate_succ')
open Go.RowKit
set_option linter.unusedVariables false
set_option linter.unusedSimpArgs false
set_option maxRecDepth 10000
set_option synthInstance.maxSize 4000
set_option synthInstance.maxHeartbeats 400000
section
def xC (x:Int):Prop := -9223372036854775808≤x∧x≤9223372036854775807
def mg (l:List UInt8):Nat:=l.foldl (λn b=>n*256+b.toNat) 0
theorem JJ:∀ (l:List UInt8) (a:Nat),l.foldl (λn b=>n*256+b.toNat) a<(a+1)*256 ^ l.length
 | [],a=>by simp
 | b::l,a=>by
  have h1:=JJ l (a*256+b.toNat);have h2:=lz b;rw[foldl_cons,e9];refine yB h1 ?_;rw[Nat.pow_succ,Nat.mul_comm (256 ^ l.length) 256,← Nat.mul_assoc];exact Nat.mul_le_mul_right _ (by omega)
theorem JK {x:Nat}(h:x<4294967296):mg (fe x)=x:=by
 have:=Dx h;simpa [mg,fe,Dw] using this
theorem JL {l:List UInt8}{i:Nat}(h:i<l.length):mg (l.take (i+1))=mg (l.take i)*256+l[i].toNat:=by
 rw[mg,iU h,foldl_append];rfl
theorem zO (l:List UInt8)(n:Nat)(h:l.length≤n):mg l<256 ^ n:=by
 have:=JJ l 0;rw[Nat.zero_add,Nat.one_mul]at this;exact yB this (Nat.pow_le_pow_right (by decide) h)
theorem W4 {n:Nat}(h:n<16777216)(b:UInt8):IntKind.u32.wrap (((BitVec.ofInt IntKind.u32.bits (IntKind.u32.wrap ((n:Int)*2 ^ 8)) ||| BitVec.ofInt IntKind.u32.bits (b.toNat:Int)).toNat:Nat):Int)=((n*256+b.toNat:Nat):Int):=by
 have hb:=lz b;rw[show IntKind.u32.wrap ((n:Int)*2 ^ 8)=((n*256:Nat):Int) from by rw[wrap_u32];omega,tI,tI];show IntKind.u32.wrap (((BitVec.ofNat 32 (n*256) ||| BitVec.ofNat 32 b.toNat).toNat:Nat):Int)=_;rw[BitVec.toNat_or,BitVec.toNat_ofNat,BitVec.toNat_ofNat,Nat.mod_eq_of_lt (show n*256<2 ^ 32 by omega),Nat.mod_eq_of_lt (show b.toNat<2 ^ 32 by omega),wrap_u32];have h1:=Nat.two_pow_add_eq_or_of_lt (i:=8) (b:=b.toNat) hb n;rw[show n*256=2 ^ 8*n from by omega,← h1];omega
structure p3 (W:World)(L:List SP)(ad:Option Addr)(c:Nat)(rest:List UInt8):Prop where
 len:rest.length≤65536
 cap:rest.length≤c
 rd:∀ w',V W w' L→a6 w' ad rest.length rest
section
variable {W w:World}{L L':List SP}{n c m rb:Nat}{ad:Option Addr}{bs rest:List UInt8}{p:Pk}{bad:Bool}
theorem p3.cut {k:Nat}(h:p3 W L ad c rest)(hk:k≤rest.length):p3 W L (fm ad k c 1) (c-k) (rest.drop k) :=
 ⟨by rw[c7];have:=h.len;omega,by rw[c7];have:=h.cap;omega,λw' hw=>(h.rd w' hw).tH hk h.cap⟩
theorem xD (I:V W w (aa rb 427 [.slice ad rest.length c,.bool bad]::L'))(zP:∀ w',V W w' L'→V W w' L)(hr:p3 W L ad c rest) :
   Calls prog 331 #[pt rb] w λe w'=>∃ (x:Int) (av:Option Addr) (c':Nat) (nm:List UInt8) (fp:Bool),e=.returned (.int .i64 x)∧xC x∧p3 W L av c' nm ∧
    (∀ (n:Int) (r:List UInt8),xC n→rest=aL (zz n)++r→bad=false→x=n∧nm=r∧fp=false)∧V W w' (aa rb 427 [.slice av nm.length c',.bool fp]::L'):=by
 have hlen:=hr.len;refine EN func331 ntmps331 rfl rfl λa E=>?_;refine jD 7 E I (Jt (bs:=rest) I (by omega) (λw' hw=>hr.rd w' (zP _ hw.tail))) λx k er a w E ⟨hg,I⟩=>?_;refine RN 7 E I λa E=>?_;have o8:=hg.2.2.1;have m7:=hg.2.1;have eK:k≤rest.length:=by
  by_cases h0:er=0
  ·have:=o8 h0;omega
  ·have:=(hg.2.2.2.1 h0).1;omega
 refine bZ (M:=λa w=>∃ (z:Bool) (av:Option Addr) (c':Nat) (nm:List UInt8),(er=0→bad=false→z=false)∧p3 W L av c' nm∧(z=false→nm=rest.drop k)∧Fr a 41 [(3,.int .i64 x)]∧V W w (aa rb 427 [.slice av nm.length c',.bool z]::L')) ?_ ?_
 ·
  refine bZ (M:=λa w=>∃ z:Bool,(bad=true→z=true)∧(er=0→bad=false→z=false)∧Fr a 41 [(0,pt rb),(3,.int .i64 x),(4,.int .i64 k)]∧V W w (aa rb 427 [.slice ad rest.length c,.bool z]::L')) ?_ ?_
  ·
   refine BY 6 E I (λiM a E=>?_) λiM a E=>?_
   ·
    refine ST 5 E I (λa w E I=>?_);refine RN 0 E I λa E=>?_;exact⟨_,λ_=>rfl,λ_ h=>(by rw[h]at iM;cases iM),E.ab [0,3,4],I⟩
   refine ST 5 E I (λa w E I=>?_);refine RN 0 E I λa E=>?_;exact⟨_,λh=>(by rw[h]at iM;cases iM),λh _=>bq (by omega),E.ab [0,3,4],I⟩
  clear E;(try clear I);rintro a w ⟨z,c5,kh,E,I⟩;refine IF 6 E I (λaj a E=>?_) λaj a E=>?_
  ·
   have hz:z=false:=aj;refine RN 7 E I λa E=>?_;rw[show rest.length-k=(rest.drop k).length from by simp]at E;refine ST 2 E I (λa w E I=>?_);refine RN 0 E I λa E=>?_;exact⟨_,_,_,_,kh,hr.cut eK,λ_=>rfl,E.ab [3],I⟩
  refine RN 0 E I λa E=>?_;exact⟨_,_,_,_,kh,hr,λh=>(by rw[h]at aj;cases aj),E.ab [3],I⟩
 clear E;(try clear I);rintro a w ⟨z,av,c',nm,kh,W5,W6,E,I⟩;refine RT 3 E I ?_;refine⟨x,av,c',nm,z,rfl,hg.1,W5,λn r hn e hb=>?_,I⟩;obtain⟨rfl,rfl,rfl⟩:=hg.2.2.2.2 n r hn.1 hn.2 e;have hz:=kh rfl hb;refine⟨rfl,?_,hz⟩;rw[W6 hz,e,drop_left]
theorem W7 (I:V W w (aa rb 427 [.slice ad rest.length c,.bool bad]::L'))(zP:∀ w',V W w' L'→V W w' L)(hr:p3 W L ad c rest) :
   Calls prog 332 #[pt rb] w λe w'=>∃ (x:Nat) (av:Option Addr) (c':Nat) (nm:List UInt8) (fp:Bool),e=.returned (.int .u32 x)∧x<4294967296∧p3 W L av c' nm ∧
    (∀ (n:Nat) (r:List UInt8),n<4294967296→rest=fe n++r→bad=false→x=n∧nm=r∧fp=false)∧V W w' (aa rb 427 [.slice av nm.length c',.bool fp]::L'):=by
 have hlen:=hr.len;have aeb:=hr.cap;refine EN func332 ntmps332 rfl rfl λa E=>?_;refine RN 3 E I λa E=>?_;refine bZ (M:=λa w=>∃ z:Bool,(z=true↔(bad=true∨rest.length<4))∧Fr a 50 [(0,pt rb)]∧V W w (aa rb 427 [.slice ad rest.length c,.bool z]::L')) ?_ ?_
 ·
  refine BY 6 E I (λiM a E=>?_) λiM a E=>?_
  ·
   refine ST 9 E I (λa w E I=>?_);refine RN 0 E I λa E=>?_;exact⟨_,⟨λ_=>.inl iM,λ_=>rfl⟩,E.ab [0],I⟩
  refine ST 9 E I (λa w E I=>?_);refine RN 0 E I λa E=>?_;exact⟨_,(by rw[cn,iM];simp;omega),E.ab [0],I⟩
 clear E;(try clear I);rintro a w ⟨z,hz,E,I⟩;refine IF 5 E I (λaj a E=>?_) λaj a E=>?_
 ·
  have W8:=hz.1 aj;refine RT 2 E I ?_;refine⟨0,ad,c,rest,true,rfl,by decide,hr,λn r hn e hb=>?_,by rw[aj]at I;exact I⟩;rcases W8 with h | h
  ·rw[hb]at h;cases h
  ·rw[e,aK,mf]at h;omega
 have W9:¬ (bad=true∨rest.length<4):=λh=>by rw[hz.2 h]at aj;cases aj
 have h4:4≤rest.length:=Nat.le_of_not_lt λh=>W9 (.inr h);obtain⟨bb,oo,rfl,_⟩:=(hr.rd _ (zP _ I.tail)).get (by omega);have eL:(rest.take 4).length=4:=by rw[en];omega
 refine RN 9 E I λa E=>?_;rw[qw,Nat.sub_zero,Nat.sub_zero]at E;refine RN 2 E I λa E=>?_;refine aS (λμ a w=>∃ (i:Nat),(μ=4-i∧i≤4)∧Fr a 50 [(0,pt rb),(3,.int .u32 (mg (rest.take i))),(29,.slice (some ⟨bb,oo,none⟩) 4 c),(30,.int .i64 4),(31,.int .i64 i)]∧V W w (aa rb 427 [.slice (some ⟨bb,oo,none⟩) rest.length c,.bool z]::L')) (4) (⟨0,⟨rfl,by omega⟩,E.ab [0,3,29,30,31],I⟩) ?_;clear E I;rintro μ a w ⟨i,⟨rfl,hi⟩,E,I⟩;refine IF 3 E I (λan a E=>?_) λan a E=>?_
 ·
  have aJ:i<rest.length:=by omega
  have m8:=zO (rest.take i) 3 (by rw[en];omega);rw[show (256:Nat) ^ 3=16777216 from by decide]at m8;have p1:=lz rest[i];refine RN 3 E I λa E=>?_;refine SS E (ag E (((hr.rd _ (zP _ I.tail)).rd (by omega)) i _ (dR aJ))) λa E=>?_;refine SX 4 E I (by rw[wrap_u32];omega) λa E=>?_;refine RN 1 E I λa E=>?_;rw[W4 m8,← JL aJ]at E;refine RN 3 E I λa E=>?_;exact⟨4-(i+1),by omega,i+1,⟨rfl,by omega⟩,E.ab [0,3,29,30,31],I⟩
 obtain rfl:i=4:=by omega
 refine RN 7 E I λa E=>?_;rw[show rest.length-4=(rest.drop 4).length from by simp]at E;refine ST 2 E I (λa w E I=>?_);refine RT 3 E I ?_;have m8:=zO (rest.take 4) 4 (by rw[en];omega);rw[show (256:Nat) ^ 4=4294967296 from by decide]at m8;refine⟨_,_,_,_,z,rfl,m8,hr.cut h4,λn r hn e hb=>?_,I⟩;have ht:rest.take 4=fe n:=by rw[e];rfl
 have hd:rest.drop 4=r:=by rw[e];rfl
 exact⟨by rw[ht,JK hn],hd,aj⟩
theorem JM {a b:List UInt8}{ad2:Option Addr}{m n c2:Nat}(I:V W w L)(dg:a6 w ad m a)(kV:a6 w ad2 n b) :
   Calls prog 313 #[.slice ad m c,.slice ad2 n c2] w λe w'=>e=.returned (.bool (a==b))∧V W w' L :=
 (Hv dg kV).mono λe w' h=>⟨h.1,by rw[h.2];exact I⟩
theorem D1 {bs:List UInt8}{q:Pk}(h:gX bs q):(q.kind=((bs.getD 0 0).toNat:Int)∧q.aV=((bs.getD 1 0).toNat:Int)∧q.to=((bs.getD 2 0).toNat:Int))∧(bs.drop 3).take (bs.length-7)=kG q:=by
 have h1:=Dv h.2.2;obtain⟨f1,t1,vx,i1,k1⟩:=h.1;refine⟨?_,Du h.2.2⟩;simp only[bl,h1.1,h1.2.1,h1.2.2,Option.getD_some,UInt8.toNat_ofNat'];omega
theorem sB (b:UInt8):IntKind.i64.wrap (b.toNat:Int)=(b.toNat:Int):=gr (by omega) (by have:=lz b;omega)
theorem nn {bs:List UInt8}(h:¬ ∃ q,gX bs q):eu bs=none:=DD λq hq=>h ⟨q,hq⟩
def Xa (bs:List UInt8)(p:Pk)(adP:Option Addr)(cP:Nat)(ok:Bool):Prop:=(ok=true∧eu bs=some p)∨(ok=false∧eu bs=none∧p=mQ∧adP=none∧cP=0)
theorem Xb (I:V W w L)(hb:bs.length≤65536)(hc:bs.length≤c)(hp:∀ w',V W w' L→a6 w' ad bs.length bs) :
   Calls prog 317 #[.slice ad bs.length c] w λe w'=>∃ (p:Pk) (adP:Option Addr) (cP:Nat) (ok:Bool),e=.returned (.tuple #[.agg (dM p adP cP).toArray,.int .i64 (if ok=true then 0 else 1)])∧Xa bs p adP cP ok∧V W w' (Sl 5 1 adP p.ak.length cP (bc p.ak)::L):=by
 refine EN func317 ntmps317 rfl rfl λa E=>?_;refine AL 1 E I λb2 a w E I=>?_;refine IF 6 E I (λaj a E=>?_) λaj a E=>?_
 ·
  have bQ:eu bs=none:=DD λq hq=>by
   have:=congrArg List.length hq.2.2;rw[xx]at this;omega
  refine SA 2 E I λa w E I=>?_;refine RT 1 E I ?_;exact⟨mQ,none,0,false,rfl,.inr ⟨rfl,bQ,rfl,rfl,rfl⟩,I.tail.bH _ _ _⟩
 obtain⟨bb,oo,rfl,_⟩:=(hp _ I.tail).get (by omega);have h7:7≤bs.length:=by omega
 refine aY 1 (λw0 w=>Rd w bb oo (bc bs)) [6,7,10,11,13] [0,1,4,5,8,9,3002,3,3006,3007,3010,3011,12,1013,1014] E I λa w E I hH=>?_;have U:Rd w bb oo (bc bs):=(hp _ I.tail).rd (by omega);refine RH 6 E I hH U λa E=>?_;refine QH E (λw hc=>ag E (hc 0 _ (kH (by omega)))) U λa E=>?_;refine QP E (λw=>oJ E underlying5 underlying3 (sB _)) λa E=>?_;refine QH E (λw hc=>ag E (hc 1 _ (kH (by omega)))) U λa E=>?_;refine QH E (λw hc=>oJ E underlying5 underlying3 (sB _)) U λa E=>?_;refine QH E (λw hc=>ag E (hc 2 _ (kH (by omega)))) U λa E=>?_;refine QH E (λw hc=>oJ E underlying5 underlying3 (sB _)) U λa E=>?_;refine RH 1 E I hH U λa E=>?_;refine eS E rfl I Ty.t203 rfl λb4 a w E I ho=>?_;clear ho;replace U:=hH.at w ((hp _ I.tail.tail).rd (by omega));refine RH 0 E I hH U λa E=>?_;refine SA 0 E I λa w E I=>?_;refine RN 5 E I λa E=>?_;rw[show (bs.length:Int)-4=((bs.length-4:Nat):Int) from by omega]at E;refine RN 1 E I λa E=>?_;obtain⟨R1,D2⟩:∃ R1,R1=(bs.drop 3).take (bs.length-7):=⟨_,rfl⟩;have kx:R1.length=bs.length-7:=by rw[D2,en,c7];omega
 have fa:p3 W L (fm (some ⟨bb,oo,none⟩) 3 c 1) (c-3) R1:=⟨by omega,by omega,λw' hw=>by
  rw[kx,D2];exact ((hp w' hw).tH (lo:=3) (by omega) hc).Di (by rw[c7];omega)⟩
 have ly:∀ q,gX bs q→(q.kind=((bs.getD 0 0).toNat:Int)∧q.aV=((bs.getD 1 0).toNat:Int)∧q.to=((bs.getD 2 0).toNat:Int))∧R1=kG q:=λq h=>by
  rw[D2];exact D1 h
 rw[show bs.length-4-3=R1.length from by omega]at E;generalize fm (some ⟨bb,oo,none⟩) 3 c 1=k6 at E fa;generalize c-3=eF at E fa;generalize R1=R1 at E fa ly;refine BX 1 E I λjS a w E I=>?_;refine jE 3 E I (xD (L:=L) I (λ_ h=>h.tail.tail) fa) ?_;clear E I;rintro e w ⟨x1,ad2,c2,R2,z2,rfl,ep,eU,hY,I⟩;refine⟨_,rfl,λa E=>?_⟩;refine ST 1 E I (λa w E I=>?_);refine RN 0 E I λa E=>?_;replace hY:∀ q,gX bs q→(q.kind=((bs.getD 0 0).toNat:Int)∧q.aV=((bs.getD 1 0).toNat:Int)∧q.to=((bs.getD 2 0).toNat:Int)∧q.id=x1)∧R2=mR q∧z2=false:=λq h=>by
  obtain⟨h1,h2⟩:=ly q h;obtain⟨e1,e2,e3⟩:=hY q.id (mR q) ⟨by have:=h.1.2.2.2.1;omega,by have:=h.1.2.2.2.1;omega⟩ (by rw[h2,kG]) rfl;exact⟨⟨h1.1,h1.2.1,h1.2.2,e1.symm⟩,e2,e3⟩
 refine bZ (M:=λa w=>∃ (p:Pk) (adP:Option Addr) (cP:Nat) (av:Option Addr) (c':Nat) (R':List UInt8) (z:Bool),p.sum<4294967296∧(∀ q,gX bs q→p=q∧z=false)∧Fr a 91 [(0,.slice (some ⟨bb,oo,none⟩) bs.length c),(2,pt b2),(4,pt b4),(5,pt jS)]∧V W w (aa b4 203 (dM p adP cP)::Sl 5 1 adP p.ak.length cP (bc p.ak)::aa jS 427 [.slice av R'.length c',.bool z]::aa b2 203 (dM mQ none 0)::L)) ?_ ?_
 ·
  refine IF 4 E I (λan a E=>?_) λan a E=>?_
  ·
   have mV:∀ q,gX bs q→mR q=aL (zz q.first)++(aL (zz q.db)++(aL (zz q.frame)++lC q))∧(xC q.first∧xC q.db∧xC q.frame)∧q.ak.length≤32:=λq h=>by
    have hk:=(hY q h).1.1;rw[an]at hk;rcases h.1.2.2.2.2 with k | k
    ·obtain⟨_,k1,k2,k3,k4⟩:=k;unfold eJ at k1 k2 k3;exact⟨by rw[mR,al hk],⟨⟨by omega,by omega⟩,⟨by omega,by omega⟩,⟨by omega,by omega⟩⟩,k4⟩
    ·omega
   refine jE 2 E I (xD (L:=L) (I.perm (List.Perm.swap _ _ _)) (λ_ h=>h.tail.tail) eU) ?_;clear E I;rintro e w ⟨x2,fo,dz,R3,z3,rfl,dc,jP,xt,I⟩;refine⟨_,rfl,λa E=>?_⟩;replace xt:∀ q,gX bs q→q.first=x2∧R3=aL (zz q.db)++(aL (zz q.frame)++lC q)∧z3=false:=λq h=>by
    obtain⟨_,h2,h3⟩:=hY q h;obtain⟨e1,e2,e3⟩:=xt q.first _ (mV q h).2.1.1 (by rw[h2,(mV q h).1]) h3;exact⟨e1.symm,e2,e3⟩
   refine ST 1 E I (λa w E I=>?_);refine jE 2 E I (xD (L:=L) (I.perm (List.Perm.swap _ _ _)) (λ_ h=>h.tail.tail) jP) ?_;clear E I;rintro e w ⟨x3,lW,g9,Xc,z4,rfl,ew,p0,zQ,I⟩;refine⟨_,rfl,λa E=>?_⟩;replace zQ:∀ q,gX bs q→q.db=x3∧Xc=aL (zz q.frame)++lC q∧z4=false:=λq h=>by
    obtain⟨_,h2,h3⟩:=xt q h;obtain⟨e1,e2,e3⟩:=zQ q.db _ (mV q h).2.1.2.1 h2 h3;exact⟨e1.symm,e2,e3⟩
   refine ST 1 E I (λa w E I=>?_);refine jE 2 E I (xD (L:=L) (I.perm (List.Perm.swap _ _ _)) (λ_ h=>h.tail.tail) p0) ?_;clear E I;rintro e w ⟨JN,ed,dH,Xd,z5,rfl,tO,sA,zR,I⟩;refine⟨_,rfl,λa E=>?_⟩;replace zR:∀ q,gX bs q→q.frame=JN∧Xd=fe q.sum++(aL (zz (q.ak.length:Int))++dA q.ak 0)∧z5=false:=λq h=>by
    obtain⟨_,h2,h3⟩:=zQ q h;obtain⟨e1,e2,e3⟩:=zR q.frame _ (mV q h).2.1.2.2 h2 h3;exact⟨e1.symm,by rw[e2,lC],e3⟩
   refine ST 1 E I (λa w E I=>?_);refine jE 2 E I (W7 (L:=L) (I.perm (List.Perm.swap _ _ _)) (λ_ h=>h.tail.tail) sA) ?_;clear E I;rintro e w ⟨JO,r5,nO,Xe,Xf,rfl,sC,xE,zS,I⟩;refine⟨_,rfl,λa E=>?_⟩;replace zS:∀ q,gX bs q→q.sum=JO∧Xe=aL (zz (q.ak.length:Int))++dA q.ak 0∧Xf=false:=λq h=>by
    obtain⟨_,h2,h3⟩:=zR q h;obtain⟨e1,e2,e3⟩:=zS q.sum _ h.2.1 h2 h3;exact⟨e1.symm,e2,e3⟩
   refine ST 1 E I (λa w E I=>?_);refine jE 2 E I (xD (L:=L) (I.perm (List.Perm.swap _ _ _)) (λ_ h=>h.tail.tail) xE) ?_;clear E I;rintro e w ⟨Xg,rQ,qx,R7,JP,rfl,p4,vA,xF,I⟩;refine⟨_,rfl,λa E=>?_⟩;replace xF:∀ q,gX bs q→(q.ak.length:Int)=Xg∧R7=dA q.ak 0∧JP=false:=λq h=>by
    obtain⟨_,h2,h3⟩:=zS q h;have eE:=(mV q h).2.2;obtain⟨e1,e2,e3⟩:=xF q.ak.length _ ⟨by omega,by omega⟩ h2 h3;exact⟨e1.symm,e2,e3⟩
   refine jE 6 E I (WG (m:=32) I vA.len vA.cap (by omega) (λw' hw=>vA.rd w' hw.tail.tail.tail)) ?_;clear E I;rintro e w ⟨out,ao,cO,er,rfl,m9,I⟩;refine⟨_,rfl,λa E=>?_⟩;refine BY 10 E I (λbw a E=>?_) λbw a E=>?_
   ·
    refine SA 8 E I λa w E I=>?_;refine RT 1 E I ?_;have bQ:eu bs=none:=nn λ⟨q,h⟩=>by
     obtain⟨_,e2,_⟩:=xF q h;have:=(m9.2.2 q.ak (mV q h).2.2 e2).2;simp[this]at bw
    exact⟨mQ,none,0,false,rfl,.inr ⟨rfl,bQ,rfl,rfl,rfl⟩,I.sub.bH _ _ _⟩
   refine IF 5 E I (λay a E=>?_) λay a E=>?_
   ·
    refine SA 2 E I λa w E I=>?_;refine RT 1 E I ?_;have bQ:eu bs=none:=nn λ⟨q,h⟩=>by
     obtain⟨e1,e2,_⟩:=xF q h;have:=(m9.2.2 q.ak (mV q h).2.2 e2).1;rw[this]at ay;omega
    exact⟨mQ,none,0,false,rfl,.inr ⟨rfl,bQ,rfl,rfl,rfl⟩,I.sub.bH _ _ _⟩
   refine ST 2 E I (λa w E I=>?_);refine RN 0 E I λa E=>?_;refine⟨⟨((bs.getD 0 0).toNat:Int),((bs.getD 1 0).toNat:Int),((bs.getD 2 0).toNat:Int),x1,x2,x3,JN,JO,out⟩,ao,cO,rQ,qx,R7,JP,by assumption,λq h=>?_,E.ab [0,2,4,5],I⟩;obtain⟨h1,h2,h3,h4⟩:=(hY q h).1;have h5:=(xt q h).1;have h6:=(zQ q h).1;have h7:=(zR q h).1;have h8:=(zS q h).1;have h9:=xF q h;have fF:=(m9.2.2 q.ak (mV q h).2.2 h9.2.1).1;refine⟨?_,h9.2.2⟩;rw[← h1,← h2,← h3,← h4,← h5,← h6,← h7,← h8,fF]
  refine RN 0 E I λa E=>?_;refine⟨⟨((bs.getD 0 0).toNat:Int),((bs.getD 1 0).toNat:Int),((bs.getD 2 0).toNat:Int),x1,0,0,0,0,[]⟩,none,0,ad2,c2,R2,z2,by show 0<4294967296;decide,λq h=>?_,E.ab [0,2,4,5],(I.bH 5 1 none).perm (List.Perm.swap _ _ _)⟩;obtain⟨⟨h1,h2,h3,h4⟩,_,h5⟩:=hY q h;rw[← h1]at an;rcases h.1.2.2.2.2 with k | k
  ·exact absurd k.1 an
  ·obtain⟨pf,k1,k2,k3,k4,xG⟩:=k;have k4:=g6 k4;refine⟨?_,h5⟩;rw[← h1,← h2,← h3,← h4];cases q;simp_all
 clear E;(try clear I);rintro a w ⟨p,adP,cP,zN,qY,aec,aed,lD,D3,E,I⟩;refine a2 3 E I (JG (p:=p) I lD (λw' hw=>hw.cF adP p.ak rfl rfl)) λadE cE a w E I=>?_;refine BY 7 E I (λdE a E=>?_) λdE a E=>?_
 ·
  refine SA 12 E I λa w E I=>?_;refine RT 1 E I ?_;have bQ:eu bs=none:=nn λ⟨q,h⟩=>by
   rw[(D3 q h).2]at dE;cases dE
  exact⟨mQ,none,0,false,rfl,.inr ⟨rfl,bQ,rfl,rfl,rfl⟩,I.sub.bH _ _ _⟩
 refine BY 4 E I (λfb a E=>?_) λfb a E=>?_
 ·
  refine SA 8 E I λa w E I=>?_;refine RT 1 E I ?_;have bQ:eu bs=none:=nn λ⟨q,h⟩=>by
   have hn:=(I.cF adE (aR p) rfl rfl).2.1 (by cases adE with
    | none=>rfl
    | some _=>cases fb)
   rw[(D3 q h).1,aR,al h.1,xx]at hn;omega
  exact⟨mQ,none,0,false,rfl,.inr ⟨rfl,bQ,rfl,rfl,rfl⟩,I.sub.bH _ _ _⟩
 refine CL 2 E I (JM I (I.cF adE (aR p) rfl rfl) (hp _ I.tail.tail.tail.tail.tail)) λa w E I=>?_;refine IF 2 E I (λbg a E=>?_) λbg a E=>?_
 ·
  refine SA 2 E I λa w E I=>?_;refine RT 1 E I ?_;have bQ:eu bs=none:=nn λ⟨q,h⟩=>by
   have e:aR p=bs:=by rw[(D3 q h).1,aR,al h.1];exact h.2.2
   rw[e]at bg;simp at bg
  exact⟨mQ,none,0,false,rfl,.inr ⟨rfl,bQ,rfl,rfl,rfl⟩,I.sub.bH _ _ _⟩
 refine SA 2 E I λa w E I=>?_;refine RT 1 E I ?_;exact⟨p,adP,cP,true,rfl,.inl ⟨rfl,zK ((DF (λe=>by rw[e]at h7;simp at h7) lD).2 (by simpa using bg))⟩,I.sub⟩
end
end
section
def vC (q:Pk):Nat→Int
 | 0=>q.id
 | 1=>q.first
 | 2=>q.db
 | _=>q.frame
def vD (q:Pk):Nat→List UInt8
 | 0=>kG q
 | 1=>mR q
 | 2=>aL (zz q.db)++(aL (zz q.frame)++lC q)
 | 3=>aL (zz q.frame)++lC q
 | _=>lC q
theorem D4 {bs:List UInt8}{q:Pk}(h:gX bs q):(q.kind=1∧eJ q.first∧eJ q.db∧eJ q.frame∧q.ak.length≤32∧mR q=aL (zz q.first)++(aL (zz q.db)++(aL (zz q.frame)++lC q))) ∨
   (q.kind=2∧q.first=0∧q.db=0∧q.frame=0∧q.ak=[]∧q.sum=0):=by
 rcases h.1.2.2.2.2 with k | k
 ·exact .inl ⟨k.1,k.2.1,k.2.2.1,k.2.2.2.1,k.2.2.2.2,by rw[mR,al k.1]⟩
 ·exact .inr ⟨k.1,k.2.1,k.2.2.1,k.2.2.2.1,g6 k.2.2.2.2.1,k.2.2.2.2.2⟩
theorem JQ {bs:List UInt8}{q:Pk}{n i:Nat}(h:gX bs q)(hn:n=if (bs.getD 0 0).toNat=1 then 4 else 1)(hi:i<n) :
   vD q i=aL (zz (vC q i))++vD q (i+1)∧0≤vC q i∧vC q i≤1099511627776:=by
 have h0:=(D1 h).1.1;have bU:=h.1.2.2.2.1;rcases D4 h with k | k
 ·obtain⟨pf,k1,k2,k3,k4,xG⟩:=k;unfold eJ at k1 k2 k3;rw[al (by omega)]at hn;rcases (by omega:i=0∨i=1∨i=2∨i=3) with rfl | rfl | rfl | rfl
  ·exact⟨rfl,bU.1,bU.2⟩
  ·exact⟨xG,by show 0≤q.first;omega,by show q.first≤_;omega⟩
  ·exact⟨rfl,by show 0≤q.db;omega,by show q.db≤_;omega⟩
  ·exact⟨rfl,by show 0≤q.frame;omega,by show q.frame≤_;omega⟩
 ·rw[ae (by omega)]at hn;obtain rfl:i=0:=by omega
  exact⟨rfl,bU.1,bU.2⟩
theorem D5 {bs X:List UInt8}{n i aT k:Nat}{x er:Int}(hn:n=if (bs.getD 0 0).toNat=1 then 4 else 1)(hi:i<n)(hq:∀ q,gX bs q→X.drop aT=vD q i)(hg:lB (X.drop aT) x k er)
   (hb:er≠0∨x<0∨1099511627776<x):eu bs=none:=nn λ⟨q,h⟩=>by
 obtain⟨h1,h2,h3⟩:=JQ h hn hi;obtain⟨e1,e2,e3⟩:=hg.2.2.2.2 (vC q i) (vD q (i+1)) (by omega) (by omega) (by rw[hq q h,h1]);omega
section
variable {W w:World}{L:List SP}{n c m:Nat}{ad:Option Addr}{bs:List UInt8}{p:Pk}
theorem Xh (I:V W w L)(hb:bs.length≤65536)(hc:bs.length≤c)(hp:∀ w',V W w' L→a6 w' ad bs.length bs) :
   Calls prog 189 #[.slice ad bs.length c] w λe w'=>∃ (p:Pk) (adP:Option Addr) (cP:Nat) (ok:Bool),e=.returned (.tuple #[.agg (dM p adP cP).toArray,.bool ok])∧(ok=true→eu bs=some p)∧(ok=false→eu bs=none)∧V W w' (Sl 5 1 adP p.ak.length cP (bc p.ak)::L):=by
 have qZ:∀ {w'},V W w' L→eu bs=none→∃ (p:Pk) (adP:Option Addr) (cP:Nat) (ok:Bool),Ending.returned (.tuple #[.agg (dM mQ none 0).toArray,.bool false])=.returned (.tuple #[.agg (dM p adP cP).toArray,.bool ok])∧(ok=true→eu bs=some p)∧(ok=false→eu bs=none)∧V W w' (Sl 5 1 adP p.ak.length cP (bc p.ak)::L) :=
  λI bQ=>⟨mQ,none,0,false,rfl,λh=>(by cases h),λ_=>bQ,I.bH _ _ _⟩
 refine EN func189 ntmps189 rfl rfl λa E=>?_;refine AL 1 E I λb2 a w E I=>?_;refine IF 6 E I (λaj a E=>?_) λaj a E=>?_
 ·
  have bQ:eu bs=none:=DD λq hq=>by
   have:=congrArg List.length hq.2.2;have hm:1≤(kG q).length:=by rw[kG,aK];have:=qJ (zz q.id);omega
   rw[xx]at this;omega
  refine SA 2 E I λa w E I=>?_;refine RT 1 E I ?_;exact qZ I.tail bQ
 obtain⟨bb,oo,rfl,_⟩:=(hp _ I.tail).get (by omega);have h7:8≤bs.length:=by omega
 refine RN 5 E I λa E=>?_;rw[show (bs.length:Int)-4=((bs.length-4:Nat):Int) from by omega]at E;refine RN 1 E I λa E=>?_;obtain⟨X,ib⟩:∃ X,X=(bs.drop 3).take (bs.length-7):=⟨_,rfl⟩;have Xi:X.length=bs.length-7:=by rw[ib,en,c7];omega
 have hr:p3 W L (fm (some ⟨bb,oo,none⟩) 3 c 1) (c-3) X:=⟨by omega,by omega,λw' hw=>by
  rw[Xi,ib];exact ((hp w' hw).tH (lo:=3) (by omega) hc).Di (by rw[c7];omega)⟩
 have ly:∀ q,gX bs q→(q.kind=((bs.getD 0 0).toNat:Int)∧q.aV=((bs.getD 1 0).toNat:Int)∧q.to=((bs.getD 2 0).toNat:Int))∧X=kG q:=λq h=>by
  rw[ib];exact D1 h
 rw[show bs.length-4-3=X.length from by omega]at E;have hXp:1≤X.length:=by omega
 obtain⟨l9,ox,Xj,_⟩:=(hr.rd _ I.tail).get (by omega);rw[Xj]at E hr;generalize c-3=eF at E hr;clear ib;refine aY 2 (λw0 w=>Rd w bb oo (bc bs)) [6,7,10,11,13] [0,1,4,5,8,9,3002,3,3006,3007,3010,3011,12,1013,1014] E I λa w E I hH=>?_;have U:Rd w bb oo (bc bs):=(hp _ I.tail).rd (by omega);refine RH 6 E I hH U λa E=>?_;refine QH E (λw hc=>ag E (hc 0 _ (kH (by omega)))) U λa E=>?_;refine QP E (λw=>oJ E underlying5 underlying3 (sB _)) λa E=>?_;refine QH E (λw hc=>ag E (hc 1 _ (kH (by omega)))) U λa E=>?_;refine QH E (λw hc=>oJ E underlying5 underlying3 (sB _)) U λa E=>?_;refine QH E (λw hc=>ag E (hc 2 _ (kH (by omega)))) U λa E=>?_;refine QH E (λw hc=>oJ E underlying5 underlying3 (sB _)) U λa E=>?_;refine RH 1 E I hH U λa E=>?_;refine eS E rfl I Ty.t203 rfl λb5 a w E I ho=>?_;clear ho;replace U:=hH.at w ((hp _ I.tail.tail).rd (by omega));refine RH 0 E I hH U λa E=>?_;refine SA 0 E I λa w E I=>?_;refine AL 1 E I λcG a w E I=>?_;refine RN 4 E I λa E=>?_;refine bZ (M:=λa w=>∃ n:Nat,n=(if (bs.getD 0 0).toNat=1 then 4 else 1)∧Fr a 153 [(0,.slice (some ⟨bb,oo,none⟩) bs.length c),(2,pt b2),(4,.slice (some ⟨l9,ox,none⟩) X.length eF),(5,pt b5),(6,pt cG),(7,.int .i64 (0:Nat)),(8,.int .i64 n)]∧V W w (aa cG 345 (ints .i64 4 (λ_=>0))::aa b5 203 (dM ⟨((bs.getD 0 0).toNat:Int),((bs.getD 1 0).toNat:Int),((bs.getD 2 0).toNat:Int),0,0,0,0,0,[]⟩ none 0)::aa b2 203 (dM mQ none 0)::L)) ?_ ?_
 ·
  refine IF 4 E I (λan a E=>?_) λan a E=>?_
  ·
   refine RN 1 E I λa E=>?_;exact⟨4,by rw[al (by omega)],E.ab [0,2,4,5,6,7,8],I⟩
  refine RN 0 E I λa E=>?_;exact⟨1,by rw[ae (by omega)],E.ab [0,2,4,5,6,7,8],I⟩
 clear E;(try clear I);rintro a w ⟨n,hn,E,I⟩;refine RN 3 E I λa E=>?_;refine aS (λμ a w=>∃ (i k:Nat) (g:Nat→Int),(μ=n-i∧i≤n∧k≤X.length∧(∀ j,i≤j→g j=0)∧∀ q,gX bs q→X.drop k=vD q i∧∀ j,j<i→g j=vC q j)∧Fr a 153 [(0,.slice (some ⟨bb,oo,none⟩) bs.length c),(2,pt b2),(4,.slice (some ⟨l9,ox,none⟩) X.length eF),(5,pt b5),(6,pt cG),(7,.int .i64 k),(8,.int .i64 n),(9,.int .i64 i)]∧V W w (aa cG 345 (ints .i64 4 g)::aa b5 203 (dM ⟨((bs.getD 0 0).toNat:Int),((bs.getD 1 0).toNat:Int),((bs.getD 2 0).toNat:Int),0,0,0,0,0,[]⟩ none 0)::aa b2 203 (dM mQ none 0)::L)) (n) (⟨0,0,λ_=>0,⟨rfl,by omega,by omega,λ_ _=>rfl,λq h=>⟨by rw[drop_zero];exact (ly q h).2,λj hj=>absurd hj (by omega)⟩⟩,E.ab [0,2,4,5,6,7,8,9],I⟩) ?_;clear E I;rintro μ a w ⟨i,k,g,⟨rfl,hi,hk,zT,tQ⟩,E,I⟩;refine IF 5 E I (λay a E=>?_) λay a E=>?_
 ·
  have cD:i<n:=by omega
  have pG:i<4:=by rw[hn]at cD;split at cD <;> omega
  have fP:=hr.cut hk;have hlk:=fP.len;refine RN 5 E I λa E=>?_;rw[show X.length-k=(X.drop k).length from by simp]at E;refine jD 0 E I (DH (bs:=X.drop k) I (by omega) (λw' hw=>fP.rd w' hw.tail.tail.tail)) λx m er a w E ⟨mJ,I⟩=>?_;refine BY 12 E I (λbw a E=>?_) λbw a E=>?_
  ·
   refine SA 10 E I λa w E I=>?_;refine RT 1 E I ?_;have bQ:=D5 hn cD (λq h=>(tQ q h).1) mJ (.inl (by simpa using bw));exact qZ I.tail.tail.tail bQ
  refine BY 4 E I (λjM a E=>?_) λjM a E=>?_
  ·
   refine SA 6 E I λa w E I=>?_;refine RT 1 E I ?_;have bQ:=D5 hn cD (λq h=>(tQ q h).1) mJ (.inr (.inl (by simpa using jM)));exact qZ I.tail.tail.tail bQ
  refine IF 3 E I (λbg a E=>?_) λbg a E=>?_
  ·
   refine SA 2 E I λa w E I=>?_;refine RT 1 E I ?_;have bQ:=D5 hn cD (λq h=>(tQ q h).1) mJ (.inr (.inr (by simpa using bg)));exact qZ I.tail.tail.tail bQ
  refine ST 4 E I (λa w E I=>?_) (hlt:=(by rw[di];omega));rw[ints_set,show (λj=>if j=i then x else g j)=ca g i x from rfl]at I;refine RN 0 E I λa E=>?_;have Xk:=(mJ.2.2.1 (by simpa using bw)).2;rw[c7]at Xk;refine RN 7 E I λa E=>?_;refine⟨n-(i+1),by omega,i+1,k+m,ca g i x,⟨rfl,by omega,?_,?_,λq h=>?_⟩,E.ab [0,2,4,5,6,7,8,9],I⟩
  ·have:=(mJ.2.2.1 (by simpa using bw)).2;rw[c7]at this;omega
  ·intro j hj;rw[ca,ae (by omega)];exact zT j (by omega)
  ·obtain⟨h1,h2⟩:=tQ q h;obtain⟨h3,h4,h5⟩:=JQ h hn cD;obtain⟨e1,e2,e3⟩:=mJ.2.2.2.2 (vC q i) (vD q (i+1)) (by omega) (by omega) (by rw[h1,h3]);refine⟨by rw[← drop_drop,h1,h3,e2,drop_left],λj hj=>?_⟩;by_cases gI:j=i
   ·subst gI;rw[ca,al rfl,e1]
   ·rw[ca,ae gI];exact h2 j (by omega)
 obtain rfl:i=n:=by omega
 rw[show dM ⟨((bs.getD 0 0).toNat:Int),((bs.getD 1 0).toNat:Int),((bs.getD 2 0).toNat:Int),0,0,0,0,0,[]⟩ none 0=[.int .i64 ((bs.getD 0 0).toNat:Int),.int .i64 ((bs.getD 1 0).toNat:Int),.int .i64 ((bs.getD 2 0).toNat:Int),.int .i64 0,.int .i64 0,.slice none 0 0,.int .i64 0,.int .i64 0,.int .u32 (0:Nat)] from rfl]at I;refine aY 1 (λw0 w'=>Rd w' cG 0 (ints .i64 4 g)) [3,5,7,9,10,11,12,13] [0,2,4,6,3001,8,3003,3005,3007,1009,1010,1011,1012,1013,14,1015] E I λa w E I hH=>?_;have U:=hH.at w I.ai;refine RH 4 E I hH U λa E=>?_;refine QH E (λw hc=>ag E (hc 0 _ (fO g (by decide)))) U λa E=>?_;refine RH 1 E I hH U λa E=>?_;refine QH E (λw hc=>ag E (hc 1 _ (fO g (by decide)))) U λa E=>?_;refine QH E (λw hc=>ag E (hc 2 _ (fO g (by decide)))) U λa E=>?_;refine QH E (λw hc=>ag E (hc 3 _ (fO g (by decide)))) U λa E=>?_;refine RH 0 E I hH U λa E=>?_;refine ST 0 E I (λa w E I=>?_);replace U:=hH.at w I.ai;refine RH 1 E I hH U λa E=>?_;refine ST 0 E I (λa w E I=>?_);replace U:=hH.at w I.ai;refine RH 1 E I hH U λa E=>?_;refine ST 0 E I (λa w E I=>?_);replace U:=hH.at w I.ai;refine RH 1 E I hH U λa E=>?_;refine ST 0 E I (λa w E I=>?_);refine RN 0 E I λa E=>?_;refine bZ (M:=λa w=>∃ (p:Pk) (adP:Option Addr) (cP:Nat),p.sum<4294967296∧(∀ q,gX bs q→p=q)∧Fr a 153 [(0,.slice (some ⟨bb,oo,none⟩) bs.length c),(2,pt b2),(5,pt b5)]∧V W w (aa b5 203 (dM p adP cP)::Sl 5 1 adP p.ak.length cP (bc p.ak)::aa b2 203 (dM mQ none 0)::L)) ?_ ?_
 ·
  refine IF 4 E I (λbM a E=>?_) λbM a E=>?_
  ·
   have gV:∀ q,gX bs q→X.drop k=lC q∧q.ak.length≤32:=λq h=>by
    rw[al (by omega)]at hn;refine⟨by rw[(tQ q h).1,hn];rfl,?_⟩;rcases D4 h with k | k
    ·exact k.2.2.2.2.1
    ·rw[k.2.2.2.2.1];simp
   refine IF 7 E I (λeP a E=>?_) λeP a E=>?_
   ·
    have bQ:eu bs=none:=nn λ⟨q,h⟩=>by
     have:=congrArg List.length (gV q h).1;rw[lC,aK,mf,c7]at this;omega
    refine SA 2 E I λa w E I=>?_;refine RT 1 E I ?_;exact qZ I.tail.tail.tail bQ
   have n0:k+4≤X.length:=by omega
   refine RN 3 E I λa E=>?_;refine aS (λμ a w=>∃ (j:Nat),(μ=4-j∧j≤4)∧Fr a 153 [(0,.slice (some ⟨bb,oo,none⟩) bs.length c),(2,pt b2),(4,.slice (some ⟨l9,ox,none⟩) X.length eF),(5,pt b5),(7,.int .i64 k),(13,.int .i64 j)]∧V W w (aa b5 203 [.int .i64 ((bs.getD 0 0).toNat:Int),.int .i64 ((bs.getD 1 0).toNat:Int),.int .i64 ((bs.getD 2 0).toNat:Int),.int .i64 (g 0),.int .i64 (g 1),.slice none 0 0,.int .i64 (g 2),.int .i64 (g 3),.int .u32 (mg ((X.drop k).take j):Nat)]::aa b2 203 (dM mQ none 0)::L)) (4) (⟨0,⟨rfl,by omega⟩,E.ab [0,2,4,5,7,13],(I.perm (List.Perm.swap _ _ _)).tail⟩) ?_;clear E I;rintro μ a w ⟨j,⟨rfl,hj⟩,E,I⟩;refine IF 4 E I (λmK a E=>?_) λmK a E=>?_
   ·
    have hj4:j<4:=by omega
    have wY:k+j<X.length:=by omega
    have m8:=zO ((X.drop k).take j) 3 (by rw[en];omega);rw[show (256:Nat) ^ 3=16777216 from by decide]at m8;have eO:j<(X.drop k).length:=by rw[c7];omega
    have jt:=JL eO;rw[show (X.drop k)[j]=X[k+j] from List.getElem_drop ..]at jt;have p1:=lz X[k+j];refine aY 1 (λw0 w'=>w'.cell? ⟨b5,8,none⟩=some (.int .u32 (mg ((X.drop k).take j):Nat))∧Rd w' l9 ox (bc X)) [8,9] [0,3,4,5,6,7,3001,2,1008,1009,10,11,1012] E I λa w E I hH=>?_;have U:=hH.at w ⟨I.bu rfl,(hr.rd _ I.tail.tail).rd (by omega)⟩;refine RH 6 E I hH U λa E=>?_;refine QH E (λw hc=>ag E (hc.1)) U λa E=>?_;refine RH 1 E I hH U λa E=>?_;rw[show IntKind.u32.wrap (((mg ((X.drop k).take j):Nat):Int)*256)=((mg ((X.drop k).take j)*256:Nat):Int) from by rw[wrap_u32];omega]at E;refine SS E (ag E (U.2 (k+j) _ (dR wY))) λa E=>?_;refine RH 0 E I hH U λa E=>?_;refine SX 0 E I (by rw[wrap_u32];omega) λa E=>?_;refine RH 1 E I hH U λa E=>?_;rw[show IntKind.u32.wrap (((mg ((X.drop k).take j)*256:Nat):Int)+(X[k+j].toNat:Int))=((mg ((X.drop k).take (j+1)):Nat):Int) from by rw[wrap_u32,jt];omega]at E;refine RH 1 E I hH U λa E=>?_;refine ST 0 E I (λa w E I=>?_);refine RN 3 E I λa E=>?_;exact⟨4-(j+1),by omega,j+1,⟨rfl,by omega⟩,E.ab [0,2,4,5,7,13],I⟩
   obtain rfl:j=4:=by omega
   have p0:=hr.cut n0;have hl4:=p0.len;have lD:=zO ((X.drop k).take 4) 4 (by rw[en];omega);rw[show (256:Nat) ^ 4=4294967296 from by decide]at lD;have cc:∀ q,gX bs q→q.sum=mg ((X.drop k).take 4)∧X.drop (k+4)=aL (zz (q.ak.length:Int))++dA q.ak 0∧q.ak.length≤32:=λq h=>by
    obtain⟨h1,h2⟩:=gV q h;rw[← drop_drop,h1,lC];exact⟨(JK h.2.1).symm,rfl,h2⟩
   generalize mg ((X.drop k).take 4)=zU at I lD cc;refine RN 8 E I λa E=>?_;rw[show X.length-(k+4)=(X.drop (k+4)).length from by simp]at E;refine jD 0 E I (DH (bs:=X.drop (k+4)) I (by omega) (λw' hw=>p0.rd w' hw.tail.tail)) λx m er a w E ⟨mJ,I⟩=>?_;refine BY 12 E I (λbw a E=>?_) λbw a E=>?_
   ·
    refine SA 10 E I λa w E I=>?_;refine RT 1 E I ?_;have bQ:eu bs=none:=nn λ⟨q,h⟩=>by
     obtain⟨_,e2,zV⟩:=cc q h;have:=(mJ.2.2.2.2 (q.ak.length:Int) _ (by omega) (by omega) e2).2.2;simp[this]at bw
    exact qZ I.tail.tail bQ
   refine BY 4 E I (λjM a E=>?_) λjM a E=>?_
   ·
    refine SA 6 E I λa w E I=>?_;refine RT 1 E I ?_;have bQ:eu bs=none:=nn λ⟨q,h⟩=>by
     obtain⟨_,e2,zV⟩:=cc q h;have:=(mJ.2.2.2.2 (q.ak.length:Int) _ (by omega) (by omega) e2).1;omega
    exact qZ I.tail.tail bQ
   refine IF 3 E I (λl6 a E=>?_) λl6 a E=>?_
   ·
    refine SA 2 E I λa w E I=>?_;refine RT 1 E I ?_;have bQ:eu bs=none:=nn λ⟨q,h⟩=>by
     obtain⟨_,e2,zV⟩:=cc q h;have:=(mJ.2.2.2.2 (q.ak.length:Int) _ (by omega) (by omega) e2).1;omega
    exact qZ I.tail.tail bQ
   refine RN 1 E I λa E=>?_;have lR:=(mJ.2.2.1 (by simpa using bw)).2;rw[c7]at lR;have sA:=hr.cut (k:=k+4+m) (by omega);refine RN 5 E I λa E=>?_;rw[show X.length-(k+4+m)=(X.drop (k+4+m)).length from by simp]at E;refine jE 0 E I (WI (m:=32) (bs:=X.drop (k+4+m)) I sA.len sA.cap (by omega) (λw' hw=>sA.rd w' hw.tail.tail)) ?_;clear E I;rintro e w ⟨out,ao,cO,e2,rfl,m9,I⟩;refine⟨_,rfl,λa E=>?_⟩;refine RN 5 E I λa E=>?_;have mE:∀ q,gX bs q→out=q.ak∧e2=0:=λq h=>by
    obtain⟨_,e2,zV⟩:=cc q h;obtain⟨f1,f2,f3⟩:=mJ.2.2.2.2 (q.ak.length:Int) _ (by omega) (by omega) e2;refine m9.2.2 q.ak zV ?_;rw[← drop_drop,e2,f2,drop_left]
   refine IF 4 E I (λl7 a E=>?_) λl7 a E=>?_
   ·
    refine SA 2 E I λa w E I=>?_;refine RT 1 E I ?_;have bQ:eu bs=none:=nn λ⟨q,h⟩=>by
     have:=(mE q h).2;omega
    exact qZ I.tail.tail.tail bQ
   refine ST 2 E I (λa w E I=>?_);refine RN 0 E I λa E=>?_;refine⟨⟨((bs.getD 0 0).toNat:Int),((bs.getD 1 0).toNat:Int),((bs.getD 2 0).toNat:Int),g 0,g 1,g 2,g 3,zU,out⟩,ao,cO,lD,λq h=>?_,E.ab [0,2,5],I⟩;obtain⟨h1,h2,h3⟩:=(ly q h).1;have h4:=(tQ q h).2;rw[al (by omega)]at hn;rw[h4 0 (by omega),h4 1 (by omega),h4 2 (by omega),h4 3 (by omega),← h1,← h2,← h3,(mE q h).1,← (cc q h).1];rfl
  refine RN 0 E I λa E=>?_;refine⟨⟨((bs.getD 0 0).toNat:Int),((bs.getD 1 0).toNat:Int),((bs.getD 2 0).toNat:Int),g 0,g 1,g 2,g 3,0,[]⟩,none,0,(by show 0<4294967296;decide),λq h=>?_,E.ab [0,2,5],(((I.perm (List.Perm.swap _ _ _)).tail.bH 5 1 none)).perm (List.Perm.swap _ _ _)⟩;obtain⟨h1,h2,h3⟩:=(ly q h).1;have h4:=(tQ q h).2;rw[ae (by omega)]at hn;rcases D4 h with k | k
  ·omega
  ·obtain⟨pf,k1,k2,k3,k4,xG⟩:=k;have h5:=h4 0 (by omega);have h6:=zT 1 (by omega);have h7:=zT 2 (by omega);have h8:=zT 3 (by omega);rw[h5,h6,h7,h8,← h1,← h2,← h3];show Pk.mk q.kind q.aV q.to q.id 0 0 0 0 []=q;cases q;simp_all
 clear E;(try clear I);rintro a w ⟨p,adP,cP,lD,JR,E,I⟩;refine aY 1 (λw0 w'=>Rd w' b5 0 (dM p adP cP)∧a6 w' (some ⟨bb,oo,none⟩) bs.length bs) [1,2,3,5,6,7] [4,3000,3001,3005,1002,2003,3006,1007,8] E I λa w E I hH=>?_;have U:=hH.at w ⟨I.ai,hp _ I.tail.tail.tail⟩;refine RH 1 E I hH U λa E=>?_;refine QH E (λw hc=>bO E underlying203 rfl Ty.t203 (hc.1)) U λa E=>?_;refine QH E (λw hc=>bO E underlying203 rfl Ty.t203 (hc.1)) U λa E=>?_;refine QH E (λw hc=>lP E underlying22 underlying5 underlying9 (hc.2)) U λa E=>?_;refine RH 0 E I hH U λa E=>?_;refine a2 0 E I (D0 (p:=p) I lD (λw' hw=>hw.cF adP p.ak rfl rfl)) λadE cE a w E I=>?_;replace U:=hH.at w ⟨I.ai,hp _ I.tail.tail.tail.tail⟩;refine RH 0 E I hH U λa E=>?_;refine DN [(3,[3006,1007,8]),(7,[1003,3006,8])] (by kernel_rfl) rfl ⟨⟨_,rfl,?_⟩,⟨_,rfl,?_⟩,trivial⟩
 ·
  refine RH 0 E I hH U λa E=>?_;refine SS E (lP E underlying22 underlying5 underlying9 ((I.cF adE (aR p) rfl rfl))) λa E=>?_;refine RH 0 E I hH U λa E=>?_;refine QH E (λw hc=>rH E) U λa E=>?_;refine RH 0 E I hH U λa E=>?_;refine SA 0 E I λa w E I=>?_;replace U:=hH.at w ⟨I.ai,hp _ I.tail.tail.tail.tail⟩;refine RH 1 E I hH U λa E=>?_;refine RT 0 E I ?_;refine⟨p,adP,cP,_,rfl,λh=>?_,λh=>?_,I.sub⟩
  ·rw[qy]at h;exact zK ((DF (λe=>by rw[e]at h7;simp at h7) lD).2 (by simpa using h))
  ·refine nn λ⟨q,hd⟩=>?_;have e:aR p=bs:=by rw[JR q hd,aR,al hd.1];exact hd.2.2
   rw[e,qy]at h;simp at h
 refine RH 0 E I hH U λa E=>?_;refine SA 0 E I λa w E I=>?_;replace U:=hH.at w ⟨I.ai,hp _ I.tail.tail.tail.tail⟩;refine RH 0 E I hH U λa E=>?_;refine SS E (lP E underlying22 underlying5 underlying9 ((I.cF adE (aR p) rfl rfl))) λa E=>?_;refine RH 0 E I hH U λa E=>?_;refine QH E (λw hc=>rH E) U λa E=>?_;refine RH 1 E I hH U λa E=>?_;refine RT 0 E I ?_;refine⟨p,adP,cP,_,rfl,λh=>?_,λh=>?_,I.sub⟩
 ·rw[qy]at h;exact zK ((DF (λe=>by rw[e]at h7;simp at h7) lD).2 (by simpa using h))
 ·refine nn λ⟨q,hd⟩=>?_;have e:aR p=bs:=by rw[JR q hd,aR,al hd.1];exact hd.2.2
  rw[e,qy]at h;simp at h
end
end
section
section
variable {W w:World}{L:List SP}{c:Nat}{ad:Option Addr}{g:Nat→Int}
theorem xH (I:V W w L):Calls prog 177 #[.agg (ints .i32 32 g).toArray] w λe w'=>∃ ad c,e=.returned (.slice ad 128 c)∧V W w' (Sl 5 1 ad 128 c (bc (gh g))::L):=by
 refine EN func177 ntmps177 rfl rfl λa E=>?_;refine BX 1 E I λb1 a w E I=>?_;refine RN 7 E I λa E=>?_;refine aS (λμ a w=>∃ (i:Nat) (ad:Option Addr) (c:Nat),(μ=32-i∧i≤32)∧Fr a 16 [(3,.slice ad (lA g i).length c),(6,.agg (ints .i32 32 g).toArray),(7,.int .i64 i)]∧V W w (Sl 5 1 ad (lA g i).length c (bc (lA g i))::L)) (32) (⟨0,none,0,⟨rfl,by omega⟩,E.ab [3,6,7],I.tail.bH 5 1 none⟩) ?_;clear E I;rintro μ a w ⟨i,ad,c,⟨rfl,hi⟩,E,I⟩;refine IF 3 E I (λaj a E=>?_) λaj a E=>?_
 ·
  have D6:i<32:=by omega
  have p5:=qO g i;refine RN 2 E I λa E=>?_;refine SS E (rI E underlying183 underlying21 rfl Ty.t21 (by omega) (fO g D6)) λa E=>?_;refine bd 3 E I (Wh I) λad2 a w E I=>?_;refine RN 0 E I λa E=>?_;refine gW E rfl I underlying22 Ty.t5 rfl rfl (by decide) (λh0=>(I.cF ad2 (fe (o5 (g i))) rfl rfl).get h0) (by rw[dx];rfl) (ek _) (by rw[mf];omega) λaee c13 a w E I=>?_;rw[← fI,← Dm]at I;rw[show (lA g i).length+(fe (o5 (g i))).length=(lA g (i+1)).length from by rw[qO,qO,mf];omega]at E I;refine RN 3 E I λa E=>?_;exact⟨32-(i+1),by omega,i+1,_,_,⟨rfl,by omega⟩,E.ab [3,6,7],I.sub⟩
 obtain rfl:i=32:=by omega
 rw[show (lA g 32).length=128 from qO g 32]at E I;refine RT 3 E I ?_;exact⟨_,_,rfl,I⟩
theorem Xl (I:V W w L):Calls prog 139 #[.agg (ints .i32 32 g).toArray] w λe w'=>e=.returned (.int .u32 (iZ (gh g)))∧V W w' L:=by
 refine EN func139 ntmps139 rfl rfl λa E=>?_;refine BX 1 E I λb1 a w E I=>?_;refine a2 3 E I (xH I) λad c a w E I=>?_;rw[show 128=(gh g).length from (tJ g).symm]at E I;refine CL 0 E I (Jf I (by rw[tJ];decide) (λw' hw=>hw.cF ad (gh g) rfl rfl)) λa w E I=>?_;refine RT 1 E I ?_;exact⟨rfl,I.sub⟩
theorem tR (I:V W w L):Calls prog 115 #[.agg (ints .i32 32 g).toArray] w λe w'=>∃ ad c,e=.returned (.slice ad 128 c)∧V W w' (Sl 5 1 ad 128 c (bc (gh g))::L):=by
 refine EN func115 ntmps115 rfl rfl λa E=>?_;refine BX 1 E I λb1 a w E I=>?_;refine RN 6 E I λa E=>?_;refine aS (λμ a w=>∃ (i:Nat) (ad:Option Addr) (c:Nat),(μ=32-i∧i≤32)∧Fr a 17 [(1,pt b1),(3,.slice ad (lA g i).length c),(4,.int .i64 i)]∧V W w (Sl 5 1 ad (lA g i).length c (bc (lA g i))::aa b1 49 (ints .i32 32 g)::L)) (32) (⟨0,none,0,⟨rfl,by omega⟩,E.ab [1,3,4],I.bH 5 1 none⟩) ?_;clear E I;rintro μ a w ⟨i,ad,c,⟨rfl,hi⟩,E,I⟩;refine IF 4 E I (λaj a E=>?_) λaj a E=>?_
 ·
  have D6:i<32:=by omega
  have p5:=qO g i;refine RN 4 E I λa E=>?_;refine SS E (ag E (I.bu (b:=b1) (fO g D6))) λa E=>?_;refine RN 0 E I λa E=>?_;refine SS E (gd E underlying21 underlying100) λa E=>?_;rw[Je]at E;refine bd 0 E I (Dq I) λad2 a w E I=>?_;refine RN 0 E I λa E=>?_;refine gW E rfl I underlying22 Ty.t5 rfl rfl (by decide) (λh0=>(I.cF ad2 (fe (o5 (g i))) rfl rfl).get h0) (by rw[dx];rfl) (ek _) (by rw[mf];omega) λJS JT a w E I=>?_;rw[← fI,← Dm]at I;rw[show (lA g i).length+(fe (o5 (g i))).length=(lA g (i+1)).length from by rw[qO,qO,mf];omega]at E I;refine RN 4 E I λa E=>?_;exact⟨32-(i+1),by omega,i+1,_,_,⟨rfl,by omega⟩,E.ab [1,3,4],I.sub⟩
 obtain rfl:i=32:=by omega
 rw[show (lA g 32).length=128 from qO g 32]at E I;refine RT 3 E I ?_;exact⟨_,_,rfl,(I.perm (List.Perm.swap _ _ _)).tail⟩
theorem Xm (I:V W w L):Calls prog 106 #[.agg (ints .i32 32 g).toArray] w λe w'=>e=.returned (.int .u32 (iZ (gh g)))∧V W w' L:=by
 refine EN func106 ntmps106 rfl rfl λa E=>?_;refine BX 1 E I λb1 a w E I=>?_;refine a2 3 E I (tR I) λad c a w E I=>?_;rw[show 128=(gh g).length from (tJ g).symm]at E I;refine CL 0 E I (Jg I (by rw[tJ];decide) (λw' hw=>hw.cF ad (gh g) rfl rfl)) λa w E I=>?_;refine RT 1 E I ?_;exact⟨rfl,I.sub⟩
end
end
section
def dr (l:List UInt8)(f:Nat)(b:List UInt8):List UInt8:=if l.length<f then l else l++(b.drop (l.length-f)).take (1000-l.length)
theorem q0 {l:List UInt8}{f:Nat}{b:List UInt8}(h:l.length≤1000):l.length≤(dr l f b).length∧(dr l f b).length≤1000:=by
 unfold dr;split
 ·omega
 ·rw[aK,en];omega
theorem JU {l b:List UInt8}{f i:Nat}(hf:f≤l.length)(hi:i<b.length)(h1:l.length-f≤i)(h2:l.length+(i-(l.length-f))<1000) :
   l++(b.drop (l.length-f)).take (i+1-(l.length-f))=(l++(b.drop (l.length-f)).take (i-(l.length-f)))++[b[i]]:=by
 rw[show i+1-(l.length-f)=(i-(l.length-f))+1 from by omega,dw]
 congr 1
 rw[iU (by rw[c7];omega)]
 congr 2
 rw[List.getElem_drop]
 congr 1
 omega
def iy (ls:List (List UInt8)):Nat→Nat
 | 0=>(ls.headD []).length
 | i+1=>min (iy ls i) (ls.getD i []).length
def aU (ls:List (List UInt8)):Nat:=iy ls ls.length
theorem Xn (ls:List (List UInt8)):iy ls 1=iy ls 0:=by
 rw[iy,iy];cases ls <;> simp[iy]
theorem JV {ls:List (List UInt8)}:∀ {i j:Nat},j<i→iy ls i≤(ls.getD j []).length
 | 0,_,h=>absurd h (by omega)
 | i+1,j,h=>by
  rw[iy];by_cases hj:j=i
  ·subst hj;exact Nat.min_le_right _ _
  ·exact gO (Nat.min_le_left _ _) (JV (by omega))
theorem vE {ls:List (List UInt8)}{l:List UInt8}(h:l∈ls):aU ls≤l.length:=by
 obtain⟨i,hi,rfl⟩:=List.getElem_of_mem h;have:=JV (ls:=ls) (i:=ls.length) hi
 rwa [bl,aO hi]at this
theorem JW (ls:List (List UInt8)):∀ i,i≤ls.length→ls≠[]→∃ l∈ls,iy ls i=l.length
 | 0,_,h=>by
  cases ls with
  | nil=>exact absurd rfl h
  | cons a r=>exact⟨a,by simp,rfl⟩
 | i+1,hi,h=>by
  obtain⟨l,hl,e⟩:=JW ls i (by omega) h;rw[iy];rcases Nat.le_total (iy ls i) (ls.getD i []).length with h1 | h1
  ·rw[Nat.min_eq_left h1];exact⟨l,hl,e⟩
  ·rw[Nat.min_eq_right h1,bl,aO (by omega)];exact⟨ls[i],getElem_mem _,rfl⟩
theorem zW {ls:List (List UInt8)}(h:ls≠[]):∃ l∈ls,aU ls=l.length:=JW ls _ (bh _) h
theorem D7 {ls:List (List UInt8)}{n:Nat}(h:ls≠[])(hn:∀ l∈ls,n≤l.length):n≤aU ls:=by
 obtain⟨l,hl,e⟩:=zW h;rw[e];exact hn l hl
def fu (ls:List (List UInt8))(f i:Nat):List UInt8:=(ls.take i).map (·.getD f 0)
def cp (ls:List (List UInt8))(f:Nat):List UInt8:=ls.map (·.getD f 0)
theorem zX (ls:List (List UInt8))(f:Nat):fu ls f ls.length=cp ls f:=by rw[fu,take_length,cp]
theorem zY {ls:List (List UInt8)}{f i:Nat}(h:i<ls.length):fu ls f (i+1)=fu ls f i++[ls[i].getD f 0]:=by
 rw[fu,iU h,cU];rfl
theorem sD {ls:List (List UInt8)}{f i:Nat}(h:i≤ls.length):(fu ls f i).length=i:=by
 rw[fu,bf,en];omega
theorem mW (ls:List (List UInt8))(f:Nat):(cp ls f).length=ls.length:=by rw[cp,bf]
structure Gs where
 kind:Int
 order:Int
 table:List UInt8
def c1 (b:Gs):Prop:=(b.kind=1∧b.order=0∧b.table.length=0)∨(b.kind=2∧0≤b.order∧b.order≤3∧b.table.length=0)∨(b.kind=3∧b.order=0∧1≤b.table.length∧b.table.length≤1000)
instance (b:Gs):Decidable (c1 b):=inferInstanceAs (Decidable (_∨_))
def xI (o:Nat)(past:List UInt8)(i:Nat):Bool:=(past.drop (i-o)).take o==past.drop (past.length-o)
def gY (o:Nat)(past:List UInt8):Nat→Nat→Int
 | 0=>λ_=>0
 | i+1=>if o≤i∧xI o past i=true then ca (gY o past i) (past.getD i 0).toNat (gY o past i (past.getD i 0).toNat+1) else gY o past i
theorem xJ {o:Nat}{past:List UInt8}:∀ {i:Nat},i≤o→gY o past i=λ_=>0
 | 0,_=>rfl
 | i+1,h=>by rw[gY,ae (by omega),xJ (by omega)]
theorem zZ (o:Nat)(past:List UInt8):∀ (i v:Nat),0≤gY o past i v∧gY o past i v≤i
 | 0,v=>⟨Int.le_refl _,Int.le_refl _⟩
 | i+1,v=>by
  have h:=zZ o past i v;have h2:=zZ o past i (past.getD i 0).toNat;rw[gY];split
  ·unfold ca;split <;> omega
  ·omega
def gB (b:Gs)(past:List UInt8):Nat→Int:=if b.kind=2 then gY b.order.toNat past past.length else λ_=>0
def ic (past:List UInt8):UInt8:=past.getLastD 0
def lE (w:Nat→Int)(last:Nat):Nat→Nat
 | 0=>last
 | i+1=>if w (lE w last i)<w i then i else lE w last i
theorem D8 {w:Nat→Int}{last:Nat}(hl:last<256):∀ {i:Nat},i≤256→lE w last i<256
 | 0,_=>hl
 | i+1,h=>by
  rw[lE];split
  ·omega
  ·exact D8 hl (by omega)
theorem JX {w:Nat→Int}{last:Nat}:∀ {i:Nat},(∀ v,v<i→w v≤w last)→lE w last i=last
 | 0,_=>rfl
 | i+1,h=>by
  have ih:=JX (i:=i) λv hv=>h v (by omega);rw[lE,ih,ae];have:=h i (by omega);omega
theorem JY {w:Nat→Int}{last x:Nat}(h0:w last<w x)(h1:∀ v,v<x→w v<w x):∀ {i:Nat},(∀ v,v<i→w v≤w x)→(i≤x→w (lE w last i)<w x)∧(x<i→lE w last i=x)
 | 0,_=>⟨λ_=>h0,λh=>absurd h (by omega)⟩
 | i+1,h=>by
  have ih:=JY h0 h1 (i:=i) λv hv=>h v (by omega);rw[lE];refine⟨λhi=>?_,λhi=>?_⟩
  ·have:=ih.1 (by omega);have:=h1 i (by omega);split <;> assumption
  ·by_cases hx:x=i
   ·subst hx;rw[al (ih.1 (by omega))]
   ·rw[ih.2 (by omega),ae];have:=h i (by omega);omega
def mX (b:Gs)(past:List UInt8):UInt8:=if b.kind=3 then b.table.getD (past.length%b.table.length) 0 else UInt8.ofNat (lE (gB b past) (ic past).toNat 256)
def eg (b:Gs)(past:List UInt8):Nat→List UInt8
 | 0=>past
 | i+1=>eg b past i++[mX b (eg b past i)]
theorem ie (b:Gs)(past:List UInt8):∀ i,(eg b past i).length=past.length+i
 | 0=>rfl
 | i+1=>by rw[eg,aK,ie b past i];rfl
theorem JZ (b:Gs)(past:List UInt8):∀ i,(eg b past i).take past.length=past
 | 0=>take_length
 | i+1=>by
  rw[eg,List.take_append_of_le_length (by rw[ie];omega),JZ b past i]
def jT (b:Gs)(past:List UInt8)(n:Nat):List UInt8:=(eg b past n).drop past.length
theorem D9 (b:Gs)(past:List UInt8)(n:Nat):(jT b past n).length=n:=by rw[jT,c7,ie];omega
theorem tS (b:Gs)(past:List UInt8)(n:Nat):past++jT b past n=eg b past n:=by
 conv=>lhs;lhs;rw[← JZ b past n]
 rw[jT,jz]
theorem Xo (b:Gs)(past:List UInt8)(n:Nat):jT b past (n+1)=jT b past n++[mX b (past++jT b past n)]:=by
 rw[tS,jT,eg,List.drop_append_of_le_length (by rw[ie];omega)];rfl
def np (b:Gs)(past:List UInt8)(to:Nat):List UInt8:=eg b past (to-past.length)
def iN (b:Gs)(ls:List (List UInt8))(to:Nat):List (List UInt8):=ls.map λl=>np b l to
theorem Xp (b:Gs)(past:List UInt8)(to:Nat):to≤(np b past to).length:=by rw[np,ie];omega
def ds (b:Gs)(ls:List (List UInt8))(to:Nat):List (List UInt8):=(List.range (to-aU ls)).map λi=>cp (iN b ls to) (aU ls+i)
theorem vF (b:Gs)(ls:List (List UInt8))(to:Nat):(ds b ls to).length=to-aU ls:=by simp[ds]
end
section
abbrev Lx:=Nat×List UInt8
def Ln (x:Lx):SP:=λh=>∃ (ad:Option Addr) (c:Nat),ck [aa x.1 328 [.slice ad x.2.length c],Sl 5 1 ad x.2.length c (bc x.2)] h
section
variable {W w:World}{L L' R:List SP}{n c m lb:Nat}{ad:Option Addr}{l bs:List UInt8}{x:UInt8}
theorem Ln.open (I:V W w (Ln (lb,l)::L)):∃ (ad:Option Addr) (c:Nat),V W w (aa lb 328 [.slice ad l.length c]::Sl 5 1 ad l.length c (bc l)::L):=by
 obtain⟨ad,_,I⟩:=I.jj (p:=λ_=>True) (B:=λad h=>∃ c,ck [aa lb 328 [.slice ad l.length c],Sl 5 1 ad l.length c (bc l)] h) λ_ ⟨ad,c,h⟩=>⟨ad,trivial,c,h⟩;obtain⟨c,_,I⟩:=I.jj (p:=λ_=>True) (B:=λc h=>ck [aa lb 328 [.slice ad l.length c],Sl 5 1 ad l.length c (bc l)] h) λ_ ⟨c,h⟩=>⟨c,trivial,h⟩;exact⟨ad,c,I.open (M:=[_,_]) λ_ h=>h⟩
theorem Ln.close (I:V W w (aa lb 328 [.slice ad l.length c]::Sl 5 1 ad l.length c (bc l)::L)):V W w (Ln (lb,l)::L) :=
 V.shut (M:=[_,_]) I λ_ h=>⟨ad,c,h⟩
theorem Ln.mk' (I:V W w L)(ad:Option Addr)(c:Nat)[k:fD L (aa lb 328 [.slice ad l.length c]::Sl 5 1 ad l.length c (bc l)::L') R]:V W w (Ln (lb,l)::L'):=Ln.close (ad:=ad) (c:=c) I.sub
theorem Xq (d:Nat):(madeCells (Value.int .u8 0).cells (d*1)).toList=bc (List.replicate d 0):=by
 apply ext_getElem?;intro i;by_cases h:i<d
 ·rw[dR (by simpa using h)];rw[madeCells,Array.getElem?_toList,Array.getElem?_map,Array.getElem?_range];simp[h,Value.cells,Nat.mod_one]
 ·rw[iP (by simp[madeCells];omega),iP (by rw[dx];simp;omega)]
theorem V.J0 {b e sz m:Nat}{cs:List Value}(I:V W w (aa b e cs::L))(h:cs.length=m*sz):V W w (Sl e sz (some ⟨b,0,none⟩) m m cs::L) :=
 V.iF (pre:=[]) (post:=[]) (n:=m) (c:=m) (sz:=sz) (cs:=cs) (by simpa using I) h (bh _) (by rw[Nat.sub_self,Nat.zero_mul];exact Nat.zero_le _)
theorem a6.xK {w:World}{ad:Option Addr}{bs:List UInt8}{c lo n:Nat}(h:a6 w ad bs.length bs)(hl:lo+n≤bs.length)(hc:bs.length≤c):a6 w (fm ad lo c 1) n ((bs.drop lo).take n) :=
 (h.tH (lo:=lo) (by omega) hc).Di (by rw[c7];omega)
theorem Xr {d:Nat}(I:V W w L)(hd:d≤8):Calls prog 168 #[.int .i64 d] w λe w'=>∃ lb,e=.returned (pt lb)∧V W w' (Ln (lb,List.replicate d 0)::L):=by
 refine EN func168 ntmps168 rfl rfl λa E=>?_;refine RN 6 E I λa E=>?_;rw[show min (max (d:Int) 0) 8=(d:Int) from by omega]at E;refine cg E rfl I underlying22 Ty.t5 rfl (by omega) (by omega) λcG a w E I ho=>?_;clear ho;rw[Xq]at I;replace I:=I.J0 (m:=d) (sz:=1) (by rw[dx,j8,Nat.mul_one]);refine BX 1 E I λb8 a w E I=>?_;refine RN 1 E I λa E=>?_;replace I:V W w (aa b8 328 [.slice (some ⟨cG,0,none⟩) (List.replicate d (0:UInt8)).length d]::Sl 5 1 (some ⟨cG,0,none⟩) (List.replicate d (0:UInt8)).length d (bc (List.replicate d 0))::L):=by
  rw[j8];exact I
 refine RT 0 E I ?_;exact⟨b8,rfl,Ln.close I⟩
theorem z6 (I:V W w (Ln (lb,l)::L)):Calls prog 172 #[pt lb] w λe w'=>e=.returned (.int .i64 l.length)∧V W w' (Ln (lb,l)::L):=by
 obtain⟨ad,c,I⟩:=Ln.open I;refine EN func172 ntmps172 rfl rfl λa E=>?_;refine RN 6 E I λa E=>?_;replace E:=E.aN 4;refine RT 8 E I ?_;exact⟨rfl,Ln.close I⟩
theorem J1 {f:Nat}(I:V W w (Ln (lb,l)::L)):Calls prog 173 #[pt lb,.int .i64 f] w λe w'=>e=.returned (.tuple #[.int .u8 ((l.getD f 0).toNat:Nat),.bool (decide (f<l.length))])∧V W w' (Ln (lb,l)::L):=by
 refine EN func173 ntmps173 rfl rfl λa E=>?_;refine RN 8 E I λa E=>?_;rw[bq (by omega)]at E;refine CL 2 E I (z6 I) λa w E I=>?_;refine IF 2 E I (λaj a E=>?_) λaj a E=>?_
 ·
  refine RT 3 E I ?_;exact⟨by rw[bl,iP (by omega),bq (by omega)];rfl,I⟩
 obtain⟨ad,c,I⟩:=Ln.open I;have gw:f<l.length:=by omega
 obtain⟨b,o,rfl,hr⟩:=(I.cF ad l rfl rfl).get (by omega);refine RN 7 E I λa E=>?_;refine SS E (ag E (hr f _ (kH gw))) λa E=>?_;refine RT 2 E I ?_;exact⟨by rw[dd gw],Ln.close I⟩
theorem J2 (I:V W w (Ln (lb,l)::L))(hl:l.length≤1000):Calls prog 314 #[pt lb,.int .u8 (x.toNat:Nat)] w λe w'=>e=.returned (.int .i64 (if l.length<1000 then 0 else 4))∧V W w' (Ln (lb,if l.length<1000 then l++[x] else l)::L):=by
 obtain⟨ad,c,I⟩:=Ln.open I;refine EN func314 ntmps314 rfl rfl λa E=>?_;refine RN 7 E I λa E=>?_;replace E:=E.aN 5;refine IF 9 E I (λan a E=>?_) λan a E=>?_
 ·
  refine RT 2 E I ?_;exact⟨by rw[ae (by omega)],by rw[ae (by omega)];exact Ln.close I⟩
 refine RN 7 E I λa E=>?_;refine cm E rfl I underlying22 Ty.t5 rfl rfl rfl rfl (by decide) (by decide) λb21 a w E I ho=>?_;clear ho;refine RN 0 E I λa E=>?_;refine cJ E rfl I underlying22 Ty.t5 rfl rfl I.ai rfl (ek [x]) (by decide) (by decide) (by omega) λJ3 J4 a w E I=>?_;rw[show bc l++_=bc (l++[x]) from (fI l [x]).symm]at I;refine ST 2 E I (λa w E I=>?_);refine RN 0 E I λa E=>?_;rw[show l.length+1=(l++[x]).length from by simp]at I;replace I:=I.sub (M:=aa lb 328 [.slice J3 (l++[x]).length J4]::Sl 5 1 J3 (l++[x]).length J4 (bc (l++[x]))::L);refine RT 2 E I ?_;exact⟨by rw[al (by omega)],by rw[al (by omega)];exact Ln.close I⟩
theorem Xs {f:Nat}(I:V W w (Ln (lb,l)::L))(hl:l.length≤1000)(hb:bs.length≤65536)(hp:∀ w',V W w' L→a6 w' ad bs.length bs) :
   Calls prog 318 #[pt lb,.int .i64 f,.slice ad bs.length c] w λe w'=>∃ n er:Int,e=.returned (.tuple #[.int .i64 n,.int .i64 er])∧V W w' (Ln (lb,dr l f bs)::L):=by
 refine EN func318 ntmps318 rfl rfl λa E=>?_;refine RN 8 E I λa E=>?_;replace E:=E.aN 11;refine RN 5 E I λa E=>?_;rw[bq (by omega)]at E;refine RN 2 E I λa E=>?_;obtain⟨gZ,cl,I⟩:=Ln.open I;refine IF 8 E I (λay a E=>?_) λay a E=>?_
 ·
  replace I:=Ln.close I;refine RT 3 E I ?_;exact⟨_,_,rfl,by rw[dr,al (by omega)];exact I⟩
 refine RN 11 E I λa E=>?_;rw[show ((l.length:Nat):Int)-(f:Int)=((l.length-f:Nat):Int) from by omega]at E;refine RN 1 E I λa E=>?_;replace I:=Ln.close I;have gw:f≤l.length:=by omega
 refine aS (λμ a w=>∃ (i:Nat),(μ=bs.length-i∧l.length-f≤i∧(i≤bs.length∨i=l.length-f)∧l.length+(i-(l.length-f))≤1000)∧Fr a 51 [(0,pt lb),(2,.slice ad bs.length c),(8,.int .i64 (i-(l.length-f):Nat)),(9,.int .i64 i)]∧V W w (Ln (lb,l++(bs.drop (l.length-f)).take (i-(l.length-f)))::L)) (bs.length-(l.length-f)) (⟨l.length-f,⟨rfl,bh _,.inr rfl,by omega⟩,by rw[Nat.sub_self];exact E.ab [0,2,8,9],by rw[Nat.sub_self,take_zero,append_nil];exact I⟩) ?_;clear E I;rintro μ a w ⟨i,⟨rfl,hi,hib,kS⟩,E,I⟩;refine IF 6 E I (λbg a E=>?_) λbg a E=>?_
 ·
  obtain⟨bb,oo,rfl,hr⟩:=(hp _ I.tail).get (by omega);have aJ:i<bs.length:=by omega
  have hlen:(l++(bs.drop (l.length-f)).take (i-(l.length-f))).length=l.length+(i-(l.length-f)):=by rw[aK,en,c7];omega
  refine RN 7 E I λa E=>?_;refine SS E (ag E (hr i _ (dR aJ))) λa E=>?_;refine CL 0 E I (J2 I (by rw[hlen];omega)) λa w E I=>?_;rw[hlen]at E I;refine IF 4 E I (λbM a E=>?_) λbM a E=>?_
  ·
   have h9:¬ l.length+(i-(l.length-f))<1000:=λh=>bM (al h);rw[ae h9]at I;refine RT 5 E I ?_;exact⟨_,_,rfl,by rw[dr,ae (by omega),show 1000-l.length=i-(l.length-f) from by omega];exact I⟩
  have h9:l.length+(i-(l.length-f))<1000:=Decidable.of_not_not λh=>by rw[ae h]at bM;cases bM
  rw[al h9]at I;refine RN 6 E I λa E=>?_;exact⟨bs.length-(i+1),by omega,i+1,⟨rfl,by omega,by omega,by omega⟩,by rw[show ((i+1-(l.length-f):Nat):Int)=((i-(l.length-f):Nat):Int)+1 from by omega];exact E.ab [0,2,8,9],by rw[JU gw aJ hi h9];exact I⟩
 refine RT 4 E I ?_;exact⟨_,_,rfl,by rw[dr,ae (by omega),fX (by rw[c7];omega)];rw[fX (by rw[c7];omega)]at I;exact I⟩
theorem J5 {f k:Nat}(I:V W w (Ln (lb,l)::L))(hl:l.length≤1000)(hf:f≤1000)(hk:1≤k∧k≤1000) :
   Calls prog 309 #[pt lb,.int .i64 f,.int .i64 k] w λe w'=>∃ av c',e=.returned (.slice av ((l.drop f).take k).length c')∧V W w' (Sl 5 1 av ((l.drop f).take k).length c' (bc ((l.drop f).take k))::Ln (lb,l)::L):=by
 have eL:((l.drop f).take k).length=min l.length (f+k)-f:=by rw[en,c7];omega
 refine EN func309 ntmps309 rfl rfl λa E=>?_;refine RN 7 E I λa E=>?_;rw[bq (by omega)]at E;refine CL 2 E I (z6 I) λa w E I=>?_;refine BY 3 E I (λfb a E=>?_) λfb a E=>?_
 ·
  have hz:(l.drop f).take k=[]:=by rw[drop_eq_nil_of_le (by omega),List.take_nil]
  refine RT 6 E I ?_;rw[hz];exact⟨_,_,rfl,I.bH _ _ none⟩
 refine RN 3 E I λa E=>?_;rw[bq (by omega)]at E;refine RN 2 E I λa E=>?_;obtain⟨gZ,cl,I⟩:=Ln.open I;have cd:=(I.sl gZ).2;refine bL 0 [8,9,14] [0,1,2,4,5,6,7,10,11,12,13,3003,1008,1009,1014,15,1016,17] E I λa w E I hH U=>?_;refine RH 10 E I hH U λa E=>?_;rw[show min (k:Int) 1000=(k:Int) from by omega]at E;refine RH 5 E I hH U λa E=>?_;rw[show min (l.length:Int) ((f:Int)+(k:Int))=((min l.length (f+k):Nat):Int) from by omega]at E;refine RH 1 E I hH U λa E=>?_;refine a2 0 E I (rP (bs:=(l.drop f).take k) I (λw' hw=>by have h1:=(hw.cF gZ l rfl rfl).xK (c:=cl) (lo:=f) (n:=min l.length (f+k)-f) (by omega) cd;rw[show (l.drop f).take (min l.length (f+k)-f)=(l.drop f).take k from by rw[← eL,List.take_eq_take_iff,en,c7];omega]at h1;exact h1) (by omega)) λfo dz a w E I=>?_;refine RN 1 E I λa E=>?_;refine RT 0 E I ?_;exact⟨fo,dz,by rw[eL],by rw[eL];exact (Ln.mk' (L':=Sl 5 1 fo (min l.length (f+k)-f) dz (bc ((l.drop f).take k))::L) I gZ cl).perm (List.Perm.swap _ _ _)⟩
theorem Xt (I:V W w (Ln (lb,l)::L))(hl:l.length≤1000) :
   Calls prog 293 #[pt lb] w λe w'=>∃ av c',e=.returned (.slice av l.length c')∧V W w' (Sl 5 1 av l.length c' (bc l)::Ln (lb,l)::L):=by
 have Xu:(l.drop 0).take 1000=l:=by rw[drop_zero,fX hl]
 refine EN func293 ntmps293 rfl rfl λa E=>?_;refine a2 4 E I (J5 (f:=0) (k:=1000) I hl (by decide) (by decide)) λfo dz a w E I=>?_;rw[Xu]at E I;refine RT 1 E I ?_;exact⟨_,_,rfl,I⟩
end
end
section
def jU (x:Lx):Value:=pt x.1
def Qu (qb:Nat)(aB:List Nat)(ls:List (List UInt8)):SP:=λh=>∃ (ad:Option Addr) (c:Nat),aB.length=ls.length∧ck [aa qb 288 [.slice ad ls.length c],Sl 289 1 ad ls.length c ((aB.zip ls).map jU),ah Ln (aB.zip ls)] h
section
variable {W w:World}{L L' R:List SP}{n c qb lb i f:Nat}{ad:Option Addr}{ls:List (List UInt8)}{aB:List Nat}{l:List UInt8}{x:UInt8}
theorem Qu.open (I:V W w (Qu qb aB ls::L)):∃ (ad:Option Addr) (c:Nat),aB.length=ls.length∧V W w (aa qb 288 [.slice ad ls.length c]::Sl 289 1 ad ls.length c ((aB.zip ls).map jU)::ah Ln (aB.zip ls)::L):=by
 obtain⟨⟨ad,c⟩,hl,I⟩:=I.jj (ι:=Option Addr×Nat) (p:=λ_=>aB.length=ls.length) (B:=λy h=>ck [aa qb 288 [.slice y.1 ls.length y.2],Sl 289 1 y.1 ls.length y.2 ((aB.zip ls).map jU),ah Ln (aB.zip ls)] h) λ_ ⟨ad,c,hl,h⟩=>⟨(ad,c),hl,h⟩;exact⟨ad,c,hl,I.open (M:=[_,_,_]) λ_ h=>h⟩
theorem Qu.close (I:V W w (aa qb 288 [.slice ad ls.length c]::Sl 289 1 ad ls.length c ((aB.zip ls).map jU)::ah Ln (aB.zip ls)::L))(hl:aB.length=ls.length):V W w (Qu qb aB ls::L) :=
 V.shut (M:=[_,_,_]) I λ_ h=>⟨ad,c,hl,h⟩
theorem Qu.mk' (I:V W w L)(ad:Option Addr)(c:Nat)[k:fD L (aa qb 288 [.slice ad ls.length c]::Sl 289 1 ad ls.length c ((aB.zip ls).map jU)::ah Ln (aB.zip ls)::L') R](hl:aB.length=ls.length):V W w (Qu qb aB ls::L'):=Qu.close (ad:=ad) (c:=c) I.sub hl
theorem tT {aB:List Nat}{ls:List (List UInt8)}(hl:aB.length=ls.length){i:Nat}(h:i<ls.length):(aB.zip ls)[i]?=some (aB.getD i 0,ls.getD i []):=by
 rw[List.getElem?_zip_eq_some];simp only[bl];rw[aO h,aO (by omega)];exact⟨rfl,rfl⟩
def xL (qb:Nat)(aB:List Nat)(ls:List (List UInt8))(i:Nat):SP:=λh=>∃ (ad:Option Addr) (c:Nat),aB.length=ls.length∧ck [aa qb 288 [.slice ad ls.length c],Sl 289 1 ad ls.length c ((aB.zip ls).map jU),ah Ln ((aB.zip ls).eraseIdx i)] h
theorem Qu.out (I:V W w (Qu qb aB ls::L))(h:i<ls.length):V W w (Ln (aB.getD i 0,ls.getD i [])::xL qb aB ls i::L):=by
 obtain⟨ad,c,hl,I⟩:=Qu.open I;have hz:=tT hl h;obtain⟨hi,he⟩:=a1.1 hz;replace I:=(I.pick (ah Ln (aB.zip ls))).fE hi;rw[he]at I;have h2:V W w (aa qb 288 [.slice ad ls.length c]::Sl 289 1 ad ls.length c ((aB.zip ls).map jU)::ah Ln ((aB.zip ls).eraseIdx i)::Ln (aB.getD i 0,ls.getD i [])::L):=I.sub;exact (V.shut (M:=[_,_,_]) h2 λ_ h=>⟨ad,c,hl,h⟩:V W w (xL qb aB ls i::Ln (aB.getD i 0,ls.getD i [])::L)).perm (List.Perm.swap _ _ _)
theorem map_set {α β:Type}(f:α→β)(l:List α)(i:Nat)(x:α):(l.set i x).map f=(l.map f).set i (f x):=by
 apply ext_getElem? ;intro j;simp only[bn,jA,bf];split
 ·split <;> rfl
 ·rfl
theorem J6 {aB:List Nat}{ls:List (List UInt8)}(hl:aB.length=ls.length){i:Nat}(h:i<ls.length)(l:List UInt8):aB.zip (ls.set i l)=(aB.zip ls).set i (aB.getD i 0,l):=by
 apply ext_getElem?;intro j;by_cases hj:j<ls.length
 ·rw[tT (by simpa using hl) (by simpa using hj),jA];by_cases nK:i=j
  ·subst nK;rw[al rfl,al (by simp;omega)];simp[bl,h]
  ·rw[ae nK,tT hl hj];simp[bl,getElem?_set_ne nK]
 ·rw[iP (by simp;omega),iP (by simp;omega)]
theorem Qu.in (I:V W w (Ln (aB.getD i 0,l)::xL qb aB ls i::L))(h:i<ls.length):V W w (Qu qb aB (ls.set i l)::L):=by
 obtain⟨⟨ad,c⟩,hl,I⟩:=(I.pick (xL qb aB ls i)).jj (ι:=Option Addr×Nat) (p:=λ_=>aB.length=ls.length) (B:=λy h=>ck [aa qb 288 [.slice y.1 ls.length y.2],Sl 289 1 y.1 ls.length y.2 ((aB.zip ls).map jU),ah Ln ((aB.zip ls).eraseIdx i)] h) λ_ ⟨ad,c,hl,h⟩=>⟨(ad,c),hl,h⟩;replace I:V W w (aa qb 288 [.slice ad ls.length c]::Sl 289 1 ad ls.length c ((aB.zip ls).map jU)::ah Ln ((aB.zip ls).eraseIdx i)::Ln (aB.getD i 0,l)::L):=I.open (M:=[_,_,_]) λ_ h=>h;have hz:=tT hl h;obtain⟨hi,he⟩:=a1.1 hz;have h1:V W w (Ln (aB.getD i 0,l)::ah Ln ((aB.zip ls).eraseIdx i)::aa qb 288 [.slice ad ls.length c]::Sl 289 1 ad ls.length c ((aB.zip ls).map jU)::L):=I.sub;replace h1:=h1.ko hi;rw[← J6 hl h]at h1;have ff:ls.length=(ls.set i l).length:=by rw[br]
 have hp:(aB.zip ls).map jU=(aB.zip (ls.set i l)).map jU:=by
  rw[J6 hl h,map_set]
  symm
  apply ext_getElem?;intro j;rw[jA];split
  ·rename_i hj;subst hj;split
   ·rw[bn,hz];rfl
   ·rw[iP (by omega)]
  ·rfl
 rw[hp,ff]at h1;exact Qu.mk' h1 ad c (by rw[← ff];exact hl)
theorem J7 {ls:List (List UInt8)}{i:Nat}:ls.set i (ls.getD i [])=ls:=by
 apply ext_getElem?;intro j;rw[jA];split
 ·rename_i h;subst h;split
  ·rename_i h;rw[bl,aO h];rfl
  ·rw[iP (by omega)]
 ·rfl
theorem Qu.back (I:V W w (Ln (aB.getD i 0,ls.getD i [])::xL qb aB ls i::L))(h:i<ls.length):V W w (Qu qb aB ls::L):=by
 have:=Qu.in I h
 rwa [J7]at this
theorem xM (I:V W w (Qu qb aB ls::L))(h:i<ls.length):Calls prog 172 #[.pointer (some ⟨aB.getD i 0,0,none⟩)] w λe w'=>e=.returned (.int .i64 (ls.getD i []).length)∧V W w' (Qu qb aB ls::L) :=
 (z6 (Qu.out I h)).mono λ_ _ ⟨he,I⟩=>⟨he,Qu.back I h⟩
theorem Xv (I:V W w (Qu qb aB ls::L))(h:i<ls.length):Calls prog 173 #[.pointer (some ⟨aB.getD i 0,0,none⟩),.int .i64 f] w λe w'=>e=.returned (.tuple #[.int .u8 (((ls.getD i []).getD f 0).toNat:Nat),.bool (decide (f<(ls.getD i []).length))])∧V W w' (Qu qb aB ls::L) :=
 (J1 (Qu.out I h)).mono λ_ _ ⟨he,I⟩=>⟨he,Qu.back I h⟩
theorem Xw (I:V W w (Qu qb aB ls::L))(h:i<ls.length)(hl:(ls.getD i []).length<1000):Calls prog 314 #[.pointer (some ⟨aB.getD i 0,0,none⟩),.int .u8 (x.toNat:Nat)] w λe w'=>e=.returned (.int .i64 0)∧V W w' (Qu qb aB (ls.set i (ls.getD i []++[x]))::L) :=
 (J2 (Qu.out I h) (by omega)).mono λ_ _ ⟨he,I⟩=>by
  rw[al hl]at he I;exact⟨he,Qu.in I h⟩
theorem Xx {fr:Nat}{bs:List UInt8}(I:V W w (Qu qb aB ls::L))(h:i<ls.length)(hl:(ls.getD i []).length≤1000)(hb:bs.length≤65536)(hp:∀ w',V W w' L→a6 w' ad bs.length bs) :
   Calls prog 318 #[.pointer (some ⟨aB.getD i 0,0,none⟩),.int .i64 fr,.slice ad bs.length c] w λe w'=>∃ n er:Int,e=.returned (.tuple #[.int .i64 n,.int .i64 er])∧V W w' (Qu qb aB (ls.set i (dr (ls.getD i []) fr bs))::L) :=
 (Xs (Qu.out I h) hl hb (λw' hw=>hp w' hw.tail)).mono λ_ _ ⟨n,er,he,I⟩=>⟨n,er,he,Qu.in I h⟩
theorem Xy {fr k:Nat}(I:V W w (Qu qb aB ls::L))(h:i<ls.length)(hl:(ls.getD i []).length≤1000)(hf:fr≤1000)(hk:1≤k∧k≤1000) :
   Calls prog 309 #[.pointer (some ⟨aB.getD i 0,0,none⟩),.int .i64 fr,.int .i64 k] w λe w'=>∃ av c',e=.returned (.slice av (((ls.getD i []).drop fr).take k).length c')∧V W w' (Sl 5 1 av (((ls.getD i []).drop fr).take k).length c' (bc (((ls.getD i []).drop fr).take k))::Qu qb aB ls::L) :=
 (J5 (Qu.out I h) hl hf hk).mono λ_ _ ⟨av,c',he,I⟩=>⟨av,c',he,(Qu.back (L:=Sl 5 1 av _ c' _::L) I.sub h).perm (List.Perm.swap _ _ _)⟩
theorem Xz (I:V W w (Qu qb aB ls::L))(h:i<ls.length)(hl:(ls.getD i []).length≤1000) :
   Calls prog 293 #[.pointer (some ⟨aB.getD i 0,0,none⟩)] w λe w'=>∃ av c',e=.returned (.slice av (ls.getD i []).length c')∧V W w' (Sl 5 1 av (ls.getD i []).length c' (bc (ls.getD i []))::Qu qb aB ls::L) :=
 (Xt (Qu.out I h) hl).mono λ_ _ ⟨av,c',he,I⟩=>⟨av,c',he,(Qu.back (L:=Sl 5 1 av _ c' _::L) I.sub h).perm (List.Perm.swap _ _ _)⟩
theorem Ea (I:V W w (Qu qb aB ls::L)):Calls prog 171 #[pt qb] w λe w'=>e=.returned (.int .i64 ls.length)∧V W w' (Qu qb aB ls::L):=by
 obtain⟨ad,c,hl,I⟩:=Qu.open I;refine EN func171 ntmps171 rfl rfl λa E=>?_;refine RN 6 E I λa E=>?_;replace E:=E.aN 4;refine RT 8 E I ?_;exact⟨rfl,Qu.close I hl⟩
theorem z7 {aB:List Nat}{ls:List (List UInt8)}(hl:aB.length=ls.length){i:Nat}(h:i<ls.length):((aB.zip ls).map jU)[i]?=some (.pointer (some ⟨aB.getD i 0,0,none⟩)):=by
 rw[bn,tT hl h];rfl
theorem sE (I:V W w (Qu qb aB ls::L))(h:i<ls.length):Calls prog 291 #[pt qb,.int .i64 i] w λe w'=>e=.returned (.pointer (some ⟨aB.getD i 0,0,none⟩))∧V W w' (Qu qb aB ls::L):=by
 refine EN func291 ntmps291 rfl rfl λa E=>?_;refine RN 7 E I λa E=>?_;rw[bq (by omega)]at E;refine CL 2 E I (Ea I) λa w E I=>?_;refine RN 2 E I λa E=>?_;rw[bq (by omega)]at E;refine RN 2 E I λa E=>?_;obtain⟨ad,c,hl,I⟩:=Qu.open I;obtain⟨b,o,rfl,hr⟩:=I.bY ad (by omega);refine RN 6 E I λa E=>?_;refine SS E (ag E (hr i _ (z7 hl h))) λa E=>?_;refine RT 1 E I ?_;exact⟨rfl,Qu.close I hl⟩
theorem q3 (I:V W w (Qu qb aB ls::L))(h0:ls≠[])(iz:ls.length≤8):Calls prog 135 #[pt qb] w λe w'=>e=.returned (.int .i64 (aU ls))∧V W w' (Qu qb aB ls::L):=by
 have pK:0<ls.length:=List.length_pos_iff.2 h0;refine EN func135 ntmps135 rfl rfl λa E=>?_;refine CL 5 E I (Ea I) λa w E I=>?_;refine RN 1 E I λa E=>?_;rw[bq (by omega)]at E;refine RN 2 E I λa E=>?_;obtain⟨ad,c,hl,I⟩:=Qu.open I;obtain⟨b,o,rfl,hr⟩:=I.bY ad (by omega);refine RN 5 E I λa E=>?_;refine SS E (ag E (hr 0 _ (z7 hl pK))) λa E=>?_;replace I:V W w (Qu qb aB ls::L):=Qu.close I hl;refine CL 0 E I (xM I pK) λa w E I=>?_;refine RN 3 E I λa E=>?_;obtain⟨ad,c,hl,I⟩:=Qu.open I;rw[show ((ls.getD 0 []).length:Int)=(iy ls 0:Nat) from by rw[iy,List.headD_eq_getD]]at E;refine RN 6 E I λa E=>?_;replace I:V W w (aa qb 288 [.slice ad ls.length c]::Sl 289 1 ad ls.length c ((aB.zip ls).map jU)::ah Ln (aB.zip ls)::L):=I;refine aS (λμ a w=>∃ (i:Nat),(μ=ls.length-i∧i≤ls.length)∧Fr a 31 [(3,.int .i64 (iy ls i:Nat)),(19,.slice ad ls.length c),(20,.int .i64 ls.length),(21,.int .i64 i)]∧V W w (aa qb 288 [.slice ad ls.length c]::Sl 289 1 ad ls.length c ((aB.zip ls).map jU)::ah Ln (aB.zip ls)::L)) (ls.length) (⟨0,⟨rfl,by omega⟩,E.ab [3,19,20,21],I⟩) ?_;clear E I;rintro μ a w ⟨i,⟨rfl,hi⟩,E,I⟩;refine IF 3 E I (λan a E=>?_) λan a E=>?_
 ·
  obtain⟨b2,pO,rfl,eU⟩:=I.bY ad (by omega);have aJ:i<ls.length:=by omega
  have hz:=tT hl aJ;obtain⟨kg,tG⟩:=a1.1 hz;refine RN 3 E I λa E=>?_;refine SS E (ag E (eU i _ (z7 hl aJ))) λa E=>?_;refine RN 1 E I λa E=>?_;replace I:=(I.pick (ah Ln (aB.zip ls))).fE kg;rw[tG]at I;refine CL 2 E I (z6 I) λa w E I=>?_;replace I:=(tG ▸ I:V W w (Ln (aB.zip ls)[i]::_)).ko kg;rw[set_getElem_self]at I;refine RN 1 E I λa E=>?_;rw[show min ((iy ls i:Nat):Int) ((ls.getD i []).length:Int)=((iy ls (i+1):Nat):Int) from by rw[iy];omega]at E;refine RN 3 E I λa E=>?_;exact⟨ls.length-(i+1),by omega,i+1,⟨rfl,by omega⟩,E.ab [3,19,20,21],I.sub⟩
 obtain rfl:i=ls.length:=by omega
 refine RT 3 E I ?_;exact⟨rfl,Qu.close I hl⟩
theorem XA (I:V W w (Qu qb aB ls::L))(h0:ls≠[])(hf:f<aU ls)(iz:ls.length≤8):Calls prog 136 #[pt qb,.int .i64 f] w λe w'=>∃ av c',e=.returned (.tuple #[.slice av (cp ls f).length c',.bool true]) ∧
   V W w' (Sl 5 1 av (cp ls f).length c' (bc (cp ls f))::Qu qb aB ls::L):=by
 refine EN func136 ntmps136 rfl rfl λa E=>?_;refine RN 8 E I λa E=>?_;rw[bq (by omega)]at E;refine CL 2 E I (q3 I h0 iz) λa w E I=>?_;refine RN 2 E I λa E=>?_;rw[bq (by omega)]at E;refine RN 5 E I λa E=>?_;obtain⟨ad,c,hl,I⟩:=Qu.open I;refine RN 6 E I λa E=>?_;refine aS (λμ a w=>∃ (i:Nat) (ad2:Option Addr) (c2:Nat),(μ=ls.length-i∧i≤ls.length)∧Fr a 40 [(1,.int .i64 f),(6,.slice ad2 (fu ls f i).length c2),(22,.slice ad ls.length c),(23,.int .i64 ls.length),(24,.int .i64 i)]∧V W w (Sl 5 1 ad2 (fu ls f i).length c2 (bc (fu ls f i))::aa qb 288 [.slice ad ls.length c]::Sl 289 1 ad ls.length c ((aB.zip ls).map jU)::ah Ln (aB.zip ls)::L)) (ls.length) (⟨0,none,0,⟨rfl,by omega⟩,E.ab [1,6,22,23,24],I.bH 5 1 none⟩) ?_;clear E I;rintro μ a w ⟨i,ad2,c2,⟨rfl,hi⟩,E,I⟩;refine IF 3 E I (λan a E=>?_) λan a E=>?_
 ·
  obtain⟨b2,pO,rfl,eU⟩:=I.bY ad (by omega);have aJ:i<ls.length:=by omega
  have hz:=tT hl aJ;obtain⟨kg,tG⟩:=a1.1 hz;have eO:=sD (ls:=ls) (f:=f) (i:=i) hi;refine RN 3 E I λa E=>?_;refine SS E (ag E (eU i _ (z7 hl aJ))) λa E=>?_;refine RN 2 E I λa E=>?_;replace I:=(I.pick (ah Ln (aB.zip ls))).fE kg;rw[tG]at I;refine CL 2 E I (J1 I) λa w E I=>?_;replace I:=(tG ▸ I:V W w (Ln (aB.zip ls)[i]::_)).ko kg;rw[set_getElem_self]at I;refine RN 7 E I λa E=>?_;refine cm E rfl I underlying22 Ty.t5 rfl rfl rfl rfl (by decide) (by decide) λb36 a w E I ho=>?_;clear ho;refine RN 0 E I λa E=>?_;refine cJ E rfl I underlying22 Ty.t5 rfl rfl I.ai rfl (ek [(ls.getD i []).getD f 0]) (by decide) (by decide) (by omega) λW0 W1 a w E I=>?_;rw[show bc (fu ls f i)++_=bc (fu ls f (i+1)) from by rw[zY aJ,fI,bl (l:=ls),aO aJ];rfl,show (fu ls f i).length+1=(fu ls f (i+1)).length from by rw[sD hi,sD (by omega)]]at I;rw[show (fu ls f i).length+1=(fu ls f (i+1)).length from by rw[sD hi,sD (by omega)]]at E;refine RN 3 E I λa E=>?_;exact⟨ls.length-(i+1),by omega,i+1,_,_,⟨rfl,by omega⟩,E.ab [1,6,22,23,24],I.sub⟩
 obtain rfl:i=ls.length:=by omega
 rw[zX]at E I;refine RT 4 E I ?_;exact⟨_,_,rfl,(Qu.mk' (L':=Sl 5 1 ad2 (cp ls f).length c2 (bc (cp ls f))::L) I ad c hl).perm (List.Perm.swap _ _ _)⟩
theorem XB {d:Nat}(I:V W w L)(hn:2≤n∧n≤8)(hd:d≤8):Calls prog 131 #[.int .i64 n,.int .i64 d] w λe w'=>∃ qb aB,e=.returned (pt qb)∧V W w' (Qu qb aB (List.replicate n (List.replicate d 0))::L):=by
 refine EN func131 ntmps131 rfl rfl λa E=>?_;refine BX 4 E I λdq a w E I=>?_;refine RN 6 E I λa E=>?_;rw[show min (max (n:Int) 2) 8=(n:Int) from by omega]at E;refine RN 1 E I λa E=>?_;replace I:=I.bH 289 1 none;replace I:=V.iG (f:=Ln) I;refine aS (λμ a w=>∃ (i:Nat) (xs:List Lx) (ad:Option Addr) (c:Nat),(μ=n-i∧i≤n∧xs.map (·.2)=List.replicate i (List.replicate d 0))∧Fr a 26 [(1,.int .i64 d),(5,pt dq),(10,.int .i64 n),(11,.int .i64 i)]∧V W w (aa dq 288 [.slice ad i c]::Sl 289 1 ad i c (xs.map jU)::ah Ln xs::L)) (n) (⟨0,[],none,0,⟨rfl,by omega,rfl⟩,E.ab [1,5,10,11],(I.sub:V W w (aa dq 288 [.slice none 0 0]::Sl 289 1 none 0 0 []::ah Ln []::L))⟩) ?_;clear E I;rintro μ a w ⟨i,xs,ad,c,⟨rfl,hi,a8⟩,E,I⟩;refine IF 3 E I (λaj a E=>?_) λaj a E=>?_
 ·
  refine aY 1 (λw0 w'=>Rd w' dq 0 [.slice ad i c]) [6,7] [0,1,2,3,5,3004,1006,1007,1008,9,10,1011] E I λa w E I hH=>?_;have U:=hH.at w I.ai;refine RH 5 E I hH U λa E=>?_;refine QH E (λw hc=>ag E (hc 0 _ rfl)) U λa E=>?_;refine RH 0 E I hH U λa E=>?_;refine bd 0 E I (Xr I hd) λlb a w E I=>?_;replace U:=hH.at w I.ai;refine RH 0 E I hH U λa E=>?_;refine cm E rfl I underlying286 Ty.t289 rfl rfl rfl rfl (by decide) (by decide) λIc a w E I ho=>?_;clear ho;replace U:=hH.at w I.ai;refine RH 0 E I hH U λa E=>?_;refine cJ E rfl I underlying286 Ty.t289 rfl rfl I.ai rfl (by simp[Value.oneCell']) (by decide) (by decide) (by omega) λqB qC a w E I=>?_;rw[show List.map jU xs++_=List.map jU (xs++[(lb,List.replicate d 0)]) from by rw[cU];rfl]at I;refine ST 2 E I (λa w E I=>?_);refine RN 2 E I λa E=>?_;have dy:=V.jB (x:=(lb,List.replicate d 0)) (I.sub (M:=Ln (lb,List.replicate d 0)::ah Ln xs::aa dq 288 [.slice qB (i+1) qC]::Sl 289 1 qB (i+1) qC ((xs++[(lb,List.replicate d 0)]).map jU)::L));exact⟨n-(i+1),by omega,i+1,xs++[(lb,List.replicate d 0)],qB,qC,⟨rfl,by omega,by rw[cU,a8,replicate_succ'];rfl⟩,E.ab [1,5,10,11],dy.sub⟩
 obtain rfl:i=n:=by omega
 refine RT 3 E I ?_;have ch:xs.length=i:=by rw[← bf (f:=(·.2)),a8,j8]
 have hz:(xs.map (·.1)).zip (List.replicate i (List.replicate d 0))=xs:=by
  rw[← a8];clear a8 I E ch
  induction xs with
  | nil=>rfl
  | cons x xs ih=>rw[map_cons,map_cons,List.zip_cons_cons,ih]
 have ia:(List.replicate i (List.replicate d (0:UInt8))).length=i:=j8;refine⟨dq,xs.map (·.1),rfl,?_⟩;refine Qu.close (ad:=ad) (c:=c) ?_ (by rw[bf,ch,ia]);rw[ia,hz];exact I
end
end
end Go.Proofs.YteoldcfapaiobaaGreat
