/- The walks of package job. -/
import Derived.Test.YteoldcfapaiobaaGreatI01Row
import Derived.Test.YteoldcfapaiobaaGreatI03Snap2
import Derived.Lib.AppendStr
namespace Go.Proofs.YteoldcfapaiobaaGreat
open Tryz
open List (drop_zero take_succ_cons drop_left take_zero nil_append map_cons length_nil cons_append eraseIdx_set_eq append_nil ext_getElem? map_nil flatMap_cons not_mem_nil)
open Go.RowKit
set_option linter.unusedVariables false
set_option linter.unusedSimpArgs false
set_option maxRecDepth 10000
set_option synthInstance.maxSize 4000
set_option synthInstance.maxHeartbeats 400000
section
def jc (l:List (Int×Int)):List Value:=l.flatMap λj=>[.int .i64 j.1,.int .i64 j.2]
theorem p4 (l:List (Int×Int)):(jc l).length=l.length*2:=by
 induction l with
 | nil=>rfl
 | cons x l ih=>simp only[jc,flatMap_cons,aM,eV,length_nil] at *;omega
theorem Lq (l m:List (Int×Int)):jc (l++m)=jc l++jc m:=by simp[jc]
theorem Lr (l:List (Int×Int))(i:Nat):(jc l).drop (i*2)=jc (l.drop i):=by
 induction i generalizing l with
 | zero=>simp
 | succ i ih =>
  cases l with
  | nil=>simp[jc]
  | cons x l =>
   have:(i+1)*2=i*2+2:=by omega
   rw[this];simp only[jc,flatMap_cons,List.drop_succ_cons] at *;rw[← ih l];simp
theorem Ls (l:List (Int×Int))(i:Nat):(jc l).take (i*2)=jc (l.take i):=by
 induction i generalizing l with
 | zero=>simp[jc]
 | succ i ih =>
  cases l with
  | nil=>simp[jc]
  | cons x l =>
   have:(i+1)*2=i*2+2:=by omega
   rw[this];simp only[jc,flatMap_cons,take_succ_cons] at *;rw[← ih l];simp
theorem FD (l:List (Int×Int))(i:Nat)(h:i<l.length):((jc l).drop (i*2)).take 2=[.int .i64 l[i].1,.int .i64 l[i].2]:=by
 rw[Lr,kL h];simp only[jc,flatMap_cons,cons_append,nil_append,take_succ_cons,take_zero]
def fi (p:Int×Int→Bool)(l:List (Int×Int)):Int:=if l.findIdx p<l.length then (l.findIdx p:Int) else -1
theorem Xt (p:Int×Int→Bool)(l:List (Int×Int)):decide (0≤fi p l)=l.any p:=by
 unfold fi;split <;> rename_i h
 ·have:=List.findIdx_lt_length.1 h;simp only[List.any_eq_true.2 this];simp
 ·rw[List.findIdx_lt_length]at h;have:l.any p=false:=by rw[← Bool.not_eq_true,List.any_eq_true];exact h
  simp[this]
theorem Xu (p:Int×Int→Bool)(l:List (Int×Int))(i:Nat)(hi:i<l.length)(h0:∀ j,(h:j<i)→p (l[j]'(by omega))=false)(h1:p l[i]=true):fi p l=i:=by
 have:l.findIdx p=i:=(List.findIdx_eq hi).2 ⟨h1,λj hj=>h0 j hj⟩;simp[fi,this,hi]
theorem Xv (p:Int×Int→Bool)(l:List (Int×Int))(h0:∀ j,(h:j<l.length)→p l[j]=false):fi p l = -1:=by
 have:¬ l.findIdx p<l.length:=by
  rw[List.findIdx_lt_length];rintro⟨x,hx,hp⟩;obtain⟨j,hj,rfl⟩:=List.mem_iff_getElem.1 hx;rw[h0 j hj]at hp;cases hp
 simp[fi,this]
theorem Xw {q:Nat→Prop}{i:Nat}(h:∀ j,j<i→q j)(h1:q i):∀ j,j<i+1→q j:=λj hj=>by
 rcases gX j i with h' | h'
 ·exact h j h'
 ·obtain rfl:j=i:=by omega
  exact h1
def xi (W:World)(L:List SP)(f:Nat)(us:List Value)(p:Int×Int→Bool):Prop :=
 ∀ w (x:Int×Int),U W w L→Calls prog f ([Value.agg #[.int .i64 x.1,.int .i64 x.2]]++us).toArray w λe w'=>e=.returned (.bool (p x))∧U W w' L
theorem BJ {W w:World}{L R:List SP}{a e:Nat}{s:Option Addr}{n c:Nat}(I:U W w L) [fL L a e [.slice s n c] R] :
   Calls prog 207 #[pt a] w λe w'=>e=.returned (.int .i64 n)∧U W w' L:=by
 refine EN func207 ntmps207 rfl rfl λa E=>?_;refine RN 6 E I λa E=>?_;replace E:=E.aQ 4;refine RT 8 E I ?_;exact⟨rfl,I⟩
theorem Xx {W:World}{L R:List SP}{b e:Nat}{x1 x2:Int} [fL L b e [.int .i64 x1,.int .i64 x2] R] :
   xi W L 210 [pt b] (λy=>decide (y.1=x1)):=by
 rintro w ⟨Xy,BK⟩ I;refine EN func210 ntmps210 rfl rfl λa E=>?_;refine BX 1 E I λb2 a w E I=>?_;refine RT 8 E I ?_;exact⟨rfl,I.tail⟩
theorem Lt {W w:World}{L R:List SP}{ad:Option Addr}{c f:Nat}{us:List Value}{l:List (Int×Int)}{p:Int×Int→Bool}(I:U W w L)[pk:fX L ad l.length c 245 2 (jc l) R]
   (hc:hZ prog f=true) (hf:xi W L f us p) (hl:l.length≤140737488355328) :
   Calls prog 232 #[.slice ad l.length c,.func (.func f) #[] us.toArray] w λe w'=>e=.returned (.int .i64 (fi p l))∧U W w' L:=by
 refine EN func232 ntmps232 rfl rfl λa E=>?_;refine RN 7 E I λa E=>?_;refine aL (λμ a w=>∃ i:Nat,(μ=l.length-i∧i≤l.length∧(∀ j,j<i→∀ h:j<l.length,p l[j]=false))∧Fr a 19 [(0,.slice ad l.length c),(1,.func (.func f) #[] us.toArray),(4,.int .i64 0),(7,.int .i64 l.length),(8,.int .i64 i)]∧U W w L) (l.length) (⟨0,⟨by simp,by simp,λj h=>by omega⟩,E.ab [0,1,4,7,8],I⟩) ?_;clear E I;rintro μ a w ⟨i,⟨rfl,hi,hp⟩,E,I⟩;refine IF 3 E I (λak a E=>?_) λak a E=>?_
 ·
  obtain⟨b,off,rfl,da⟩:=I.bU ad (by omega);have aG:i<l.length:=by omega
  have hr:=da.part (i*2) 2;rw[FD l i aG]at hr;refine RN 9 E I λa E=>?_;refine SS E (bT E rW rfl Ty.t245 (hr)) λa E=>?_;refine CL 0 E I (hf _ l[i] I) (hf:=hc) λa w E I=>?_;refine IF 0 E I (λao a E=>?_) λao a E=>?_
  ·
   refine RT 3 E I ?_;exact⟨by rw[Xu p l i aG (λj hj=>hp j hj (by omega)) ao],I⟩
  refine RN 2 E I λa E=>?_;exact⟨l.length-(i+1),by omega,i+1,⟨rfl,by omega,Xw hp (λ_=>ao)⟩,E.ab [0,1,4,7,8],I⟩
 refine RT 2 E I ?_;exact⟨by rw[Xv p l (λj hj=>hp j (by omega) hj)],I⟩
theorem Xz {W w:World}{L R:List SP}{ad:Option Addr}{c f:Nat}{us:List Value}{l:List (Int×Int)}{p:Int×Int→Bool}(I:U W w L)[pk:fX L ad l.length c 245 2 (jc l) R]
   (hc:hZ prog f=true) (hf:xi W L f us p) (hl:l.length≤140737488355328) :
   Calls prog 209 #[.slice ad l.length c,.func (.func f) #[] us.toArray] w λe w'=>e=.returned (.bool (l.any p))∧U W w' L:=by
 refine EN func209 ntmps209 rfl rfl λa E=>?_;refine CL 5 E I (Lt I hc hf hl) λa w E I=>?_;refine RT 2 E I ?_;exact⟨by rw[Xt],I⟩
def bJ (q:Nat)(l:List (Int×Int)):SP:=λh=>∃ i:Option Addr×Nat,cp [aa q 243 [.slice i.1 l.length i.2],Sl 245 2 i.1 l.length i.2 (jc l)] h
theorem bJ.open {W w:World}{L:List SP}{q:Nat}{l:List (Int×Int)}(I:U W w (bJ q l::L)) :
   ∃ ad c,U W w (aa q 243 [.slice ad l.length c]::Sl 245 2 ad l.length c (jc l)::L):=by
 obtain⟨i,_,h⟩:=I.jS (p:=λ_=>True) (B:=λi:Option Addr×Nat=>cp [aa q 243 [.slice i.1 l.length i.2],Sl 245 2 i.1 l.length i.2 (jc l)]) (λ_ ⟨i,h⟩=>⟨i,trivial,h⟩);exact⟨i.1,i.2,h.open (λ_ x=>x)⟩
theorem bJ.shut {W w:World}{L R R2:List SP}{q n c:Nat}{ad:Option Addr}{cs:List Value}{l:List (Int×Int)}(I:U W w L)[k:fL L q 243 [.slice ad n c] R][k2:fX R ad n c 245 2 cs R2]
   (hn:n=l.length) (hc:cs=jc l):U W w (bJ q l::R2):=by
 subst hn;subst hc;have h1:=(I.perm k.perm).perm (kE _ k2.perm);exact U.shut (M:=[_,_]) h1 λ_ x=>⟨(ad,c),x⟩
theorem XA {W w:World}{L:List SP}(I:U W w L) :
   Calls prog 90 #[] w λe w'=>∃ q,e=.returned (pt q)∧U W w' (bJ q []::L):=by
 refine EN func90 ntmps90 rfl rfl λa E=>?_;refine BX 4 E I λb2 a w E I=>?_;refine RT 1 E I ?_;exact⟨_,rfl,by
  have h1:=(I.bQ 245 2 none);exact (bJ.shut (q:=b2) (l:=[]) h1 rfl rfl).sub⟩
def qZ (l:List (Int×Int))(b:Int):Bool:=decide (l.length<16)&&!l.any (λy=>decide (y.1=b))
theorem BL {W w:World}{L:List SP}{q:Nat}{l:List (Int×Int)}{b e:Int}(I:U W w (bJ q l::L))(hl:l.length≤16) :
   Calls prog 182 #[pt q,.agg #[.int .i64 b,.int .i64 e]] w λr w' =>
    r=.returned (.bool (qZ l b))∧U W w' (bJ q (if qZ l b then l++[(b,e)] else l)::L):=by
 obtain⟨ad,c,I⟩:=bJ.open I;refine EN func182 ntmps182 rfl rfl λa E=>?_;refine BX 1 E I λb3 a w E I=>?_;refine RN 6 E I λa E=>?_;replace E:=E.aQ 7;refine BY 8 E I (λmn a E=>?_) λmn a E=>?_
 ·
  have hm:qZ l b=false:=by simp only[qZ,Bool.and_eq_false_iff,sh];left;omega
  refine RT 10 E I ?_;exact⟨by rw[hm],by rw[hm,ag (by decide)];exact (bJ.shut (q:=q) (ad:=ad) (l:=l) I rfl rfl).sub⟩
 refine CL 5 E I (Xz I (by kernel_rfl) Xx (by omega)) λa w E I=>?_;refine IF 1 E I (λak a E=>?_) λak a E=>?_
 ·
  have hm:qZ l b=false:=by simp only[qZ,ak,Bool.not_true,Bool.and_false]
  refine RT 2 E I ?_;exact⟨by rw[hm],by rw[hm,ag (by decide)];exact (bJ.shut (q:=q) (ad:=ad) (l:=l) I rfl rfl).sub⟩
 have hm:qZ l b=true:=by simp only[qZ,ak,Bool.not_false,Bool.and_true,qK];omega
 refine bM 1 [5,6] [0,1,2,3,3004,1005,1006,1007,8,9,1010] E I λa w E I hH hC=>?_;refine RH 6 E I hH hC λa E=>?_;refine ct E rfl I Bk Ty.t245 rfl rfl rfl rfl (by decide) (by decide) λXB a w E I ho=>?_;replace hC:=hC.trans ho;clear ho;refine RH 0 E I hH hC λa E=>?_;refine cR E rfl I Bk Ty.t245 rfl rfl I.ai rfl (by simp[Value.oneCell']) (by decide) (by decide) (by omega) λLu Lw a w E I=>?_;refine ST 2 E I (λa w E I=>?_);refine RT 2 E I ?_;exact⟨by rw[hm],by rw[hm,aj rfl];exact (bJ.shut (q:=q) (l:=l++[(b,e)]) I (by simp) (by simp[Lq,jc])).sub⟩
theorem XC {W w:World}{L:List SP}{q:Nat}(I:U W w (bJ q []::L)) :
   Calls prog 180 #[pt q] w λr w' =>
    r=.returned (.tuple #[.agg #[.int .i64 0,.int .i64 0],.bool false])∧U W w' (bJ q []::L):=by
 obtain⟨ad,c,I⟩:=bJ.open I;refine EN func180 ntmps180 rfl rfl λa E=>?_;refine AL 1 E I λb2 a w E I=>?_;refine CL 4 E I (BJ (a:=q) I) λa w E I=>?_;refine IF 1 E I (λak a E=>?_) λak a E=>?_
 ·
  skip
  refine SA 2 E I λa w E I=>?_;refine RT 1 E I ?_;exact⟨rfl,(bJ.shut (q:=q) (ad:=ad) (l:=[]) I rfl rfl).sub⟩
 exact absurd rfl ak
theorem XD {W w:World}{L:List SP}{q:Nat}{x:Int×Int}{l:List (Int×Int)}(I:U W w (bJ q (x::l)::L)) :
   Calls prog 180 #[pt q] w λr w' =>
    r=.returned (.tuple #[.agg #[.int .i64 x.1,.int .i64 x.2],.bool true])∧U W w' (bJ q l::L):=by
 obtain⟨ad,c,I⟩:=bJ.open I;have cr:=(I.sl ad).2;refine EN func180 ntmps180 rfl rfl λa E=>?_;refine AL 1 E I λb2 a w E I=>?_;refine CL 4 E I (BJ (a:=q) I) λa w E I=>?_;refine IF 1 E I (λak a E=>?_) λak a E=>?_
 ·
  simp at ak;omega
 refine RN 1 E I λa E=>?_;obtain⟨b,off,rfl,da⟩:=I.bU ad (by simp);have hr:=da.part 0 2;rw[show 0=0*2 from rfl,FD (x::l) 0 (by simp)]at hr;refine SX 4 E I (by simp) λa E=>?_;refine RN 0 E I λa E=>?_;refine SS E (bT E rW rfl Ty.t245 (hr)) λa E=>?_;refine AL 0 E I λb4 a w E I=>?_;refine SA 0 E I λa w E I=>?_;refine SX 6 E I (by simp) λa E=>?_;replace I:=I.Ei (some ⟨b,off,none⟩) 1 (x::l).length (by simp) (a7 _);refine ST 2 E I (λa w E I=>?_);refine SA 2 E I λa w E I=>?_;refine RT 1 E I ?_;exact⟨rfl,(bJ.shut (q:=q) (l:=l) I (by simp) (by simp[jc];rw[gl];exact Nat.le_of_eq (p4 l))).sub⟩
def kept (p:Int×Int→Bool)(l:List (Int×Int)):List (Int×Int):=l.filter λx=>!p x
theorem FE (p:Int×Int→Bool)(l:List (Int×Int))(j:Nat)(h:j<l.length):kept p (l.take (j+1))=kept p (l.take j)++(if p l[j] then [] else [l[j]]):=by
 rw[jD h,kept,y6];cases hp:p l[j] <;> simp[kept,hp]
theorem Ly (p:Int×Int→Bool)(l:List (Int×Int))(h:fi p l = -1):kept p l=l:=by
 unfold fi at h;split at h
 ·omega
 ·rename_i h1;rw[List.findIdx_lt_length]at h1;exact List.filter_eq_self.2 λx hx=>by
   cases hp:p x with
   | false=>rfl
   | true=>exact absurd ⟨x,hx,hp⟩ h1
theorem XE (p:Int×Int→Bool)(l:List (Int×Int))(h:¬ fi p l = -1):∃ k:Nat,fi p l=(k:Int)∧k<l.length∧kept p (l.take (k+1))=l.take k:=by
 unfold fi at h ⊢;split at h
 ·rename_i h1;refine⟨l.findIdx p,by rw[aj h1],h1,?_⟩;rw[FE p l _ h1,List.findIdx_getElem (w:=h1),aj rfl,append_nil];refine List.filter_eq_self.2 λx hx=>?_;obtain⟨j,hj,rfl⟩:=List.mem_iff_getElem.1 hx;simp only[eA]at hj;have:=List.not_of_lt_findIdx (p:=p) (xs:=l) (i:=j) (by omega);simp at this ⊢;exact this
 ·exact absurd rfl h
theorem XF {pre post:List Value}(l:List (Int×Int))(i:Nat)(h:i<l.length):((pre++jc l++post).drop (pre.length+i*2)).take 2=[.int .i64 l[i].1,.int .i64 l[i].2]:=by
 rw[dz,← kF,drop_left,List.drop_append_of_le_length (by rw[p4];omega),List.take_append_of_le_length (by simp[p4];omega)];exact FD l i h
theorem XG {pre post:List Value}(l:List (Int×Int))(i:Nat)(x:Int×Int)(h:i<l.length) :
   cH (pre++jc l++post) (pre.length+i*2) [.int .i64 x.1,.int .i64 x.2]=pre++jc (l.set i x)++post:=by
 have vj:l.set i x=l.take i++x::l.drop (i+1):=by rw[rH,aj h]
 have e1:(pre++jc l++post).take (pre.length+i*2)=pre++jc (l.take i):=by
  rw[dz,uV,gl (by omega),show pre.length+i*2-pre.length=i*2 from by omega,List.take_append_of_le_length (by rw[p4];omega),Ls]
 have e2:(pre++jc l++post).drop (pre.length+i*2+2)=jc (l.drop (i+1))++post:=by
  rw[dz,Nat.add_assoc,← kF,drop_left,show i*2+2=(i+1)*2 from by omega,List.drop_append_of_le_length (by rw[p4];omega),Lr]
 rw[cH,e1];show _++_++(pre++jc l++post).drop (pre.length+i*2+2)=_;rw[e2,vj,Lq];simp[jc]
structure Dl (p:Int×Int→Bool)(l l':List (Int×Int))(i j:Nat):Prop where
 len:l'.length=l.length
 le:j≤l.length
 lt:i<j
 cS:i=(kept p (l.take j)).length
 fst:l'.take i=kept p (l.take j)
 snd:l'.drop j=l.drop j
theorem Dl.get {p l l' i j}(d:Dl p l l' i j)(h:j<l.length):l'[j]'(by have:=d.len;omega)=l[j]:=by
 have h1:=d.snd;rw[kL (by have:=d.len;omega),kL h]at h1;exact (List.cons.inj h1).1
theorem Dl.ab {p l l' i j}(d:Dl p l l' i j)(h:j<l.length)(hp:p l[j]=false):Dl p l (l'.set i l[j]) (i+1) (j+1):=by
 have hi:i<l'.length:=by have:=d.len;have:=d.lt;omega
 have hk:=FE p l j h;rw[hp]at hk;refine⟨by simp[d.len],by omega,by have:=d.lt;omega,?_,?_,?_⟩
 ·rw[hk];simp[← d.cS]
 ·rw[hk,← d.fst,rH,aj hi,uV,gl (by simp;omega)];have:(l'.take i).length=i:=by simp;omega
  simp[this]
 ·have h1:=d.snd;rw[List.drop_set_of_lt (by have:=d.lt;omega)];have:=dJ (List.drop 1) h1;simpa [kF] using this
theorem Dl.skip {p l l' i j}(d:Dl p l l' i j)(h:j<l.length)(hp:p l[j]=true):Dl p l l' i (j+1):=by
 have hk:=FE p l j h;rw[hp]at hk;simp only[if_true,append_nil]at hk;refine⟨d.len,by omega,by have:=d.lt;omega,by rw[hk];exact d.cS,by rw[hk];exact d.fst,?_⟩;have:=dJ (List.drop 1) d.snd;simpa [kF] using this
theorem XH {W w:World}{L:List SP}{ad:Option Addr}{c f:Nat}{us:List Value}{l:List (Int×Int)}{p:Int×Int→Bool}(I:U W w (Sl 245 2 ad l.length c (jc l)::L))
   (hc:hZ prog f=true) (hf:∀ A,xi W (A::L) f us p) (jT:∀ A B,xi W (A::B::L) f us p) (hl:l.length≤140737488355328) :
   Calls prog 321 #[.slice ad l.length c,.func (.func f) #[] us.toArray] w λe w' =>
    ∃ av c',e=.returned (.slice av (kept p l).length c')∧U W w' (Sl 245 2 av (kept p l).length c' (jc (kept p l))::L):=by
 refine EN func321 ntmps321 rfl rfl λa E=>?_;refine CL 5 E I (Lt (p:=p) I hc (hf _) hl) λa w E I=>?_;refine IF 5 E I (λak a E=>?_) λak a E=>?_
 ·
  refine RT 3 E I ?_;exact⟨ad,c,by rw[Ly p l ak],by rw[Ly p l ak];exact I⟩
 obtain⟨k,hk,dR,kc⟩:=XE p l ak;rw[hk]at E;have cr:=(I.sl ad).2;have hA:=E;obtain⟨b,pre,post,⟨cV,cc,rfl,a4⟩,kI⟩:=I.mh (by omega);have E:=hA;have I:=kI;refine RN 5 E I λa E=>?_;refine aL (λμ a w=>∃ i j:Nat,∃ l':List (Int×Int),(μ=l.length-j∧Dl p l l' i j)∧Fr a 42 [(0,.slice (some ⟨b,pre.length,none⟩) l.length c),(1,.func (.func f) #[] us.toArray),(4,.slice none 0 0),(5,.int .i64 i),(6,.int .i64 j)]∧U W w (aa b 245 (pre++jc l'++post)::L)) (l.length-(k+1)) (⟨k,k+1,l,⟨rfl,rfl,by omega,by omega,by rw[kc];simp;omega,by rw[kc],rfl⟩,E.ab [0,1,4,5,6],I⟩) ?_;clear E I;rintro μ a w ⟨i,j,l',⟨rfl,hd⟩,E,I⟩;have tL:=hd.len;have kQ:=hd.le;have hd3:=hd.lt;refine IF 6 E I (λao a E=>?_) λao a E=>?_
 ·
  have dO:j<l.length:=by omega
  have XI:=hd.get dO;have hr:Rd w b (pre.length+j*2) [.int .i64 l[j].1,.int .i64 l[j].2]:=by
   intro q v hq;rw[I.cell];have:=XF (pre:=pre) (post:=post) l' j (by omega);rw[XI]at this;rw[← this]at hq;rw[uQ]at hq;split at hq
   ·rw[qE]at hq;exact hq
   ·cases hq
  refine RN 5 E I λa E=>?_;refine SS E (bT E rW rfl Ty.t245 (hr)) λa E=>?_;refine AL 0 E I λdv a w E I=>?_;refine SA 0 E I λa w E I=>?_;refine CL 3 E I (jT _ _ _ l[j] I) (hf:=hc) λa w E I=>?_;refine IF 1 E I (λay a E=>?_) λay a E=>?_
  ·
   refine RN 5 E I λa E=>?_;refine rI E rfl I Ty.t245 (by simp[Value.oneCell']) (by simp[p4];omega) λa w E I=>?_;rw[XG l' i l[j] (by omega)]at I;refine RN 6 E I λa E=>?_;exact⟨l.length-(j+1),by omega,i+1,j+1,_,⟨rfl,hd.ab dO ay⟩,E.ab [0,1,4,5,6],I.sub⟩
  refine RN 3 E I λa E=>?_;exact⟨l.length-(j+1),by omega,i,j+1,l',⟨rfl,hd.skip dO ay⟩,E.ab [0,1,4,5,6],I.sub⟩
 obtain rfl:j=l.length:=by omega
 have yY:=hd.cS;have Lz:=hd.fst;rw[lf]at yY Lz;refine RN 4 E I λa E=>?_;rw[pK (by omega)]at E;have hle:pre.length+i*2+(l.length-i)*2≤(pre++jc l'++post).length:=by simp only[aM,p4,tL];omega
 refine Ke E rfl I Bk Ty.t245 rfl rfl hle λa w E I=>?_;refine RN 4 E I λa E=>?_;rw[pK (by omega)]at E;refine RT 1 E I ?_;refine⟨some ⟨b,pre.length+0*2,none⟩,c,by rw[yY];rfl,?_⟩;generalize hz:(Builtin.zeroCells (Value.cells (.agg #[.int .i64 0,.int .i64 0])) (l.length-i)).toList=zs at I;have jz:zs.length=(l.length-i)*2:=by rw[← hz];exact yC 0 (a1:=0) rfl _
 have he:cH (pre++jc l'++post) (pre.length+i*2) zs=pre++jc (kept p l)++(zs++post):=by
  have e1:(pre++jc l'++post).take (pre.length+i*2)=pre++jc (kept p l):=by
   rw[dz,uV,gl (by omega),show pre.length+i*2-pre.length=i*2 from by omega,List.take_append_of_le_length (by rw[p4];omega),Ls,Lz]
  have e2:(pre++jc l'++post).drop (pre.length+i*2+zs.length)=post:=by
   rw[jz,List.drop_append,List.drop_of_length_le (by simp only[aM,p4];omega),nil_append];simp only[aM,p4,tL];have:pre.length+i*2+(l.length-i)*2-(pre.length+l.length*2)=0:=by omega
   rw[this,drop_zero]
  rw[cH,e1,e2];simp
 rw[he]at I;exact U.jh I (p4 _) (by omega) (by rw[← yY,aM,jz];omega)
theorem LA {W:World}{L R:List SP}{b t:Nat}{x:Int} [fL L b t [.int .i64 x] R] :
   xi W L 322 [pt b] (λy=>decide (y.2<x)):=by
 rintro w ⟨Xy,BK⟩ I;refine EN func322 ntmps322 rfl rfl λa E=>?_;refine BX 1 E I λb2 a w E I=>?_;refine RT 7 E I ?_;exact⟨rfl,I.tail⟩
theorem XJ {W w:World}{L:List SP}{q:Nat}{l:List (Int×Int)}{e:Int}(I:U W w (bJ q l::L))(hl:l.length≤16) :
   Calls prog 307 #[pt q,.int .i64 e] w λr w' =>
    r=.returned (.int .i64 ((l.length:Int)-(kept (λy=>decide (y.2<e)) l).length))∧U W w' (bJ q (kept (λy=>decide (y.2<e)) l)::L):=by
 obtain⟨ad,c,I⟩:=bJ.open I;have hk:(kept (λy=>decide (y.2<e)) l).length≤l.length:=p0 _ _;refine EN func307 ntmps307 rfl rfl λa E=>?_;refine BX 1 E I λb3 a w E I=>?_;refine CL 3 E I (BJ (a:=q) I) λa w E I=>?_;refine RN 5 E I λa E=>?_;replace E:=E.ek 9;refine aY 7 E I (XH (I.pick (Sl 245 2 ad l.length c (jc l))) (by kernel_rfl) (p:=λy=>decide (y.2<e)) (λA=>LA) (λA B=>LA) (by omega)) λav c' a w E I=>?_;refine ST 2 E I (λa w E I=>?_);refine CL 3 E I (BJ (a:=q) I) λa w E I=>?_;refine RT 2 E I ?_;exact⟨rfl,(bJ.shut (q:=q) (ad:=av) (l:=kept (λy=>decide (y.2<e)) l) I rfl rfl).sub⟩
theorem XK {W w:World}{L:List SP}{q:Nat}{l:List (Int×Int)}(I:U W w (bJ q l::L)) :
   Calls prog 180 #[pt q] w λr w' =>
    r=.returned (.tuple #[.agg #[.int .i64 (l.headD (0,0)).1,.int .i64 (l.headD (0,0)).2],.bool (!l.isEmpty)])∧U W w' (bJ q l.tail::L):=by
 cases l with
 | nil=>exact XC I
 | cons x l=>exact XD I
class xj (L:List SP)(q:Nat)(l:outParam (List (Int×Int)))(R:outParam (List SP)):Prop where perm:L.Perm (bJ q l::R)
instance xj.head {L q l}:xj (bJ q l::L) q l L:=⟨lL _⟩
instance (priority:=low) xj.tail {A L q l R}[h:xj L q l R]:xj (A::L) q l (A::R):=⟨(kE A h.perm).trans (c1 _ _ _)⟩
theorem U.vk {W w:World}{L R:List SP}{l:List (Int×Int)}(I:U W w L)(q:Nat)[k:xj L q l R]:U W w (bJ q l::R):=I.perm k.perm
theorem LB {x:Int}:decide (x≠x)=false:=by simp
end
section
structure Wk where
 busy:Bool
 jb:Int
 je:Int
 x:Nat
 done:Nat
 mY:Bool
def lr:Wk:=⟨false,0,0,0,0,false⟩
abbrev Js:=List (Int×Int)
def mo (J:Js)(b e:Int):Js:=if qZ J b then J++[(b,e)] else J
inductive lT (p:Pr)(A:Sn)(T:Tr)(J:Js)(k:Wk):Bool→Sn→Tr→Js→Wk→Prop
 | idle:k.busy=false→J=[]→lT p A T J k false A T J k
 | y9 {j:Int×Int} {J':Js}:k.busy=false→J=j::J'→(j.2≠T.epoch∨(∀ y∈T.l,(y.id:Int)≠j.1)∨∃ x∈T.l,(x.id:Int)=j.1∧x.al.length≤x.done)→lT p A T J k true A T J' k
 | FF {j : Int × Int} {J' : Js} {i : Nat} {x : Br} {px : aC} : k.busy = false → J = j :: J' → j.2 = T.epoch → x ∈ T.l → (x.id : Int) = j.1 → x.done < x.al.length → A.ar[i]? = some px → px.id = x.snap →
     lT p A T J k true (A.add px.g px.p) T J' ⟨true,j.1,j.2,A.last+1,x.done,false⟩
 | gone:k.busy=true→(k.je≠T.epoch∨∀ y∈T.l,(y.id:Int)≠k.jb)→lT p A T J k true (A.eB k.x) T J { k with busy:=false }
 | mY {x : Br} {i : Nat} {px : aC} {p' : Nat → Nat} {b : List UInt8} : k.busy = true → k.je = T.epoch → x ∈ T.l → (x.id : Int) = k.jb → k.mY = false → A.ar[i]? = some px → px.id = k.x → x.al[k.done]? = some b →
     dT (fa p (x.frm+k.done) b px.g)→lT p A T J k true { A with ar:=A.ar.set i ⟨px.id,px.refs,fa p (x.frm+k.done) b px.g,p'⟩ } T J { k with mY:=true }
 | failed {x:Br}:k.busy=true→k.je=T.epoch→x∈T.l→(x.id:Int)=k.jb→k.mY=false→¬ 4*A.ar.length≤A.room→lT p A T J k true (A.eB k.x) T (mo J k.jb k.je) { k with busy:=false }
 | iT {x : Br} {kk : Nat} : k.busy = true → k.je = T.epoch → T.l[kk]? = some x → (x.id : Int) = k.jb → k.mY = true → x.done < k.done + 1 → k.done + 1 ≤ x.al.length →
     lT p A T J k true (A.eB x.snap) (T.iT kk x (k.done+1) k.x) (if k.done+1<x.al.length then mo J k.jb k.je else J) { k with busy:=false }
 | lost {x:Br}:k.busy=true→k.je=T.epoch→x∈T.l→(x.id:Int)=k.jb→k.mY=true→k.done+1≤x.done→lT p A T J k true (A.eB k.x) T (if x.done<x.al.length then mo J k.jb k.je else J) { k with busy:=false }
def jH (ws:List Wk):List Nat:=(ws.filter (·.busy)).map (·.x)
structure Inv (p:Pr)(F:Int)(g0:Nat→Int)(t:Nat→Nat)(base:Nat)(A:Sn)(T:Tr)(ws:List Wk):Prop where
 perm:(A.ar.map (·.id)).Perm (base::(T.l.map (·.snap)++jH ws))
 ar:∀ x∈A.ar,x.refs=1∧dT x.g
 base:∀ x∈A.ar,x.id=base→x.g=g0∧x.p=t
 gn:∀ y∈T.l,y.frm=F∧∀ x∈A.ar,x.id=y.snap→x.g=foldI p F g0 (y.al.take y.done)
 lU:∀ k∈ws,k.jb≤T.last∧(k.busy=true→∀ y∈T.l,(y.id:Int)=k.jb→k.done<y.al.length∧∀ x∈A.ar,x.id=k.x→x.g=foldI p F g0 (y.al.take (k.done+if k.mY then 1 else 0)))
theorem kg {α:Type}{f:α→Bool}{l:List α}{x:α}(h:x∈l.filter f):x∈l:=(List.mem_filter.1 h).1
theorem WF.o0 {A:Sn}(h:WF A):(A.ar.map (·.id)).Nodup:=h.sorted.imp (λh=>Nat.ne_of_lt h)
theorem WT.same {T:Tr}(h:WT T){x y:Br}(hx:x∈T.l)(hy:y∈T.l)(he:x.id=y.id):x=y:=by
 obtain⟨i,hi⟩:=ke.1 hx;obtain⟨j,hj⟩:=ke.1 hy;obtain rfl:=h.unique hj hi he;rw[hi]at hj;cases hj;rfl
theorem XL {α:Type}{f:α→Nat}:∀ {l:List α} {i:Nat} (hd:(l.map f).Nodup) (hi:i<l.length),l.filter (λx=>f x != f l[i])=l.eraseIdx i:=by
 intro l
 induction l with
 | nil=>intro i _ hi;simp at hi
 | cons a l ih =>
  intro i hd hi;rw[map_cons,List.nodup_cons]at hd;cases i with
  | zero =>
   rw[List.getElem_cons_zero,List.filter_cons_of_neg (by simp),List.eraseIdx_cons_zero,List.filter_eq_self];intro y hy;simp only[bne_iff_ne,ne_eq];intro e;exact hd.1 (e ▸ cX.2 ⟨y,hy,rfl⟩)
  | succ i =>
   have wL:i<l.length:=by simpa using hi
   rw[List.getElem_cons_succ,List.filter_cons_of_pos,List.eraseIdx_cons_succ,ih hd.2 wL];simp only[bne_iff_ne,ne_eq];intro e;exact hd.1 (e ▸ cX.2 ⟨l[i],jj _,rfl⟩)
theorem BM {A:Sn}(hw:WF A)(hr:∀ x∈A.ar,x.refs=1)(id:Nat):A.eB id={ A with ar:=A.ar.filter (λx=>x.id != id) }:=by
 by_cases h:∃ px∈A.ar,px.id=id
 ·obtain⟨px,h1,rfl⟩:=h;obtain⟨i,hi⟩:=ke.1 h1;obtain⟨hl,he⟩:=a2.1 hi;have h2:=XL hw.o0 hl;rw[he]at h2;rw[y4 hw hi,Sn.drop,aj (hr px h1),h2]
 ·rw[Fy (λy hy e=>h ⟨y,hy,e⟩),List.filter_eq_self.2];intro y hy;simp only[bne_iff_ne,ne_eq];exact λe=>h ⟨y,hy,e⟩
theorem FG {a:Nat}{l L M:List Nat}(h1:l.Perm L)(h2:L.Perm (a::M))(o0:l.Nodup):(l.filter (· != a)).Perm M:=by
 have h3:=(h1.trans h2).filter (· != a);have h4:=(h1.trans h2).nodup_iff.1 o0;rw[List.nodup_cons]at h4;have h5:M.filter (· != a)=M:=List.filter_eq_self.2 (λy hy=>by simp only[bne_iff_ne,ne_eq];intro e;exact h4.1 (e ▸ hy));rw[List.filter_cons_of_neg (by simp),h5]at h3;exact h3
theorem FH (l:List aC)(id:Nat):(l.filter (λx=>x.id != id)).map (·.id)=(l.map (·.id)).filter (· != id):=by
 rw[List.filter_map];rfl
theorem xk {k:Wk}{ws:List Wk}(h:k.busy=true):jH (k::ws)=k.x::jH ws:=by rw[jH,List.filter_cons_of_pos h,map_cons];rfl
theorem FI {k:Wk}{ws:List Wk}(h:k.busy=false):jH (k::ws)=jH ws:=by rw[jH,List.filter_cons_of_neg (by simp[h])];rfl
theorem BN {k:Wk}{ws:List Wk}(h:k∈ws)(hb:k.busy=true):k.x∈jH ws:=cX.2 ⟨k,List.mem_filter.2 ⟨h,hb⟩,rfl⟩
theorem Inv.xm {p:Pr}{F:Int}{g0:Nat→Int}{t:Nat→Nat}{base:Nat}{A:Sn}{T:Tr}{ws LC:List Wk}(h:Inv p F g0 t base A T ws)(hp:ws.Perm LC):Inv p F g0 t base A T LC :=
 ⟨h.perm.trans ((((hp.filter _).map _).append_left _).cons _),h.ar,h.base,h.gn,λk hk=>h.lU k (hp.mem_iff.2 hk)⟩
section
variable {p:Pr}{F:Int}{g0:Nat→Int}{t:Nat→Nat}{base:Nat}{A A':Sn}{T T':Tr}{J J':Js}{ws:List Wk}{k k':Wk}{r:Bool}
theorem Inv.o0 (h:Inv p F g0 t base A T ws)(hA:WF A):(base::(T.l.map (·.snap)++jH ws)).Nodup:=h.perm.nodup_iff.1 hA.o0
theorem Inv.mS (h:Inv p F g0 t base A T ws){id:Nat}(hm:id∈base::(T.l.map (·.snap)++jH ws)):∃ (i:Nat) (px:aC),A.ar[i]?=some px∧px.id=id:=by
 obtain⟨px,h1,h2⟩:=cX.1 (h.perm.mem_iff.2 hm);obtain⟨i,hi⟩:=ke.1 h1;exact⟨i,px,hi,h2⟩
theorem Inv.LD (h:Inv p F g0 t base A T ws){x:Br}(hx:x∈T.l):∃ (i:Nat) (px:aC),A.ar[i]?=some px∧px.id=x.snap :=
 h.mS (gx _ (List.mem_append_left _ (cX.2 ⟨x,hx,rfl⟩)))
theorem Inv.XM (h:Inv p F g0 t base A T ws)(hk:k∈ws)(hb:k.busy=true):∃ (i:Nat) (px:aC),A.ar[i]?=some px∧px.id=k.x :=
 h.mS (gx _ (List.mem_append_right _ (BN hk hb)))
theorem Inv.rest (h:Inv p F g0 t base A T (k::ws))(hA:WF A)(hb:k.busy=true)(hj:k'.busy=false)(hl:k'.jb=k.jb):Inv p F g0 t base (A.eB k.x) T (k'::ws):=by
 rw[BM hA (λx hx=>(h.ar x hx).1)];refine⟨?_,λx hx=>h.ar x (kg hx),λx hx=>h.base x (kg hx),λy hy=>⟨(h.gn y hy).1,λx hx=>(h.gn y hy).2 x (kg hx)⟩,λk2 ch=>?_⟩
 ·simp only;rw[FH,FI hj];refine FG h.perm ?_ hA.o0;rw[xk hb];exact (kE _ nW).trans (c1 _ _ _)
 ·rcases List.mem_cons.1 ch with rfl | ch
  ·exact⟨by rw[hl];exact (h.lU k (iq ..)).1,λe=>by rw[hj]at e;cases e⟩
  ·refine⟨(h.lU k2 (gx _ ch)).1,λe y hy b9=>?_⟩;obtain⟨h1,h2⟩:=(h.lU k2 (gx _ ch)).2 e y hy b9;exact⟨h1,λx hx=>h2 x (kg hx)⟩
theorem za {A:Sn}(hA:WF A){i:Nat}{px v z:aC}(hi:A.ar[i]?=some px)(hz:z∈A.ar.set i v):z=v∨(z∈A.ar∧z.id≠px.id):=by
 obtain⟨j,hj⟩:=ke.1 hz;rw[jB]at hj;split at hj
 ·split at hj
  ·cases hj;exact .inl rfl
  ·cases hj
 ·rename_i bq;exact .inr ⟨bI hj,λe=>bq (hA.ids hi hj e.symm)⟩
theorem Inv.bit (h:Inv p F g0 t base A T (k::ws))(hA:WF A)(hT:WT T)(hb:lT p A T J k r A' T' J' k'):Inv p F g0 t base A' T' (k'::ws):=by
 cases hb with
 | idle=>exact h
 | y9=>exact h
 | @FF j J' i x px h1 h2 h3 h4 h5 h6 h7 h8 =>
  have vl:∀ z∈A.ar,z.id≠A.last+1:=λz hz e=>by have:=(hA.mS z hz).2.1;omega
  have ig:=bI h7;have hlt:∀ id∈base::(T.l.map (·.snap)++jH (k::ws)),id≠A.last+1:=λid b9 e=>by
   obtain⟨z,hz,he⟩:=cX.1 (h.perm.mem_iff.2 b9);exact vl z hz (by rw[he,e])
  refine⟨?_,λz hz=>?_,λz hz he=>?_,λy hy=>⟨(h.gn y hy).1,λz hz he=>?_⟩,λk2 ch=>?_⟩
  ·simp only[Sn.add,cY,map_cons,map_nil];rw[xk rfl];have hp:=h.perm;rw[FI h1]at hp;refine (hp.append_right _).trans ((List.perm_append_singleton _ _).trans ?_);exact (c1 _ _ _).trans (kE _ nW.symm)
  ·simp only[Sn.add]at hz;rcases e7.1 hz with hz | hz
   ·exact h.ar z hz
   ·simp at hz;subst hz;exact⟨rfl,(h.ar px ig).2⟩
  ·simp only[Sn.add]at hz;rcases e7.1 hz with hz | hz
   ·exact h.base z hz he
   ·simp at hz;subst hz;exact absurd he.symm (hlt base (iq ..))
  ·simp only[Sn.add]at hz;rcases e7.1 hz with hz | hz
   ·exact (h.gn y hy).2 z hz he
   ·simp at hz;subst hz;exact absurd he.symm (hlt y.snap (gx _ (List.mem_append_left _ (cX.2 ⟨y,hy,rfl⟩))))
  ·rcases List.mem_cons.1 ch with rfl | ch
   ·refine⟨?_,λ_ y hy b9=>?_⟩
    ·have:=(hT.ok x h4).2.2.2;simp only;omega
    ·obtain rfl:y=x:=hT.same hy h4 (by simp only at b9;omega);refine⟨h6,λz hz he=>?_⟩;simp only[Sn.add]at hz;rcases e7.1 hz with hz | hz
     ·exact absurd he (vl z hz)
     ·simp at hz;subst hz;exact (h.gn y hy).2 px ig h8
   ·refine⟨(h.lU k2 (gx _ ch)).1,λe y hy b9=>?_⟩;obtain⟨h9,fO⟩:=(h.lU k2 (gx _ ch)).2 e y hy b9;refine⟨h9,λz hz he=>?_⟩;simp only[Sn.add]at hz;rcases e7.1 hz with hz | hz
    ·exact fO z hz he
    ·simp at hz;subst hz;exact absurd he.symm (hlt k2.x (gx _ (List.mem_append_right _ (BN (gx _ ch) e))))
 | gone h1 h2=>exact h.rest hA h1 rfl rfl
 | failed h1=>exact h.rest hA h1 rfl rfl
 | lost h1=>exact h.rest hA h1 rfl rfl
 | @mY x i px p' b h1 h2 h3 h4 h5 h6 h7 h8 h9 =>
  have ig:=bI h6;have FJ:=h.o0 hA;rw[xk h1]at FJ;have FK:(base::(T.l.map (·.snap)++k.x::jH ws)).Perm (k.x::(base::(T.l.map (·.snap)++jH ws))):=(kE _ nW).trans (c1 _ _ _);have bX:=(List.nodup_cons.1 (FK.nodup_iff.1 FJ)).1;have XN:(A.ar.set i ⟨px.id,px.refs,fa p (x.frm+k.done) b px.g,p'⟩).map (·.id)=A.ar.map (·.id):=KT h6 rfl;refine⟨?_,λz hz=>?_,λz hz he=>?_,λy hy=>⟨(h.gn y hy).1,λz hz he=>?_⟩,λk2 ch=>?_⟩
  ·simp only;rw[XN,xk (by exact h1)];have hp:=h.perm;rw[xk h1]at hp;exact hp
  ·rcases za hA h6 hz with rfl | hz
   ·exact⟨(h.ar px ig).1,h9⟩
   ·exact h.ar z hz.1
  ·rcases za hA h6 hz with rfl | hz
   ·exact absurd (List.mem_cons.2 (.inl (by simp only at he;rw[← he,h7]))) bX
   ·exact h.base z hz.1 he
  ·rcases za hA h6 hz with rfl | hz
   ·refine absurd (gx _ (List.mem_append_left _ (cX.2 ⟨y,hy,?_⟩))) bX;simp only at he;rw[← he,h7]
   ·exact (h.gn y hy).2 z hz.1 he
  ·rcases List.mem_cons.1 ch with rfl | ch
   ·have hk:=h.lU k (iq ..);refine⟨hk.1,λ_ y hy b9=>?_⟩;obtain rfl:y=x:=hT.same hy h3 (by simp only at b9;omega);obtain⟨fO,nz⟩:=hk.2 h1 y hy h4;refine⟨fO,λz hz he=>?_⟩;rcases za hA h6 hz with rfl | hz
    ·have EM:=nz px ig h7;rw[h5]at EM;have LF:y.al.take (k.done+1)=y.al.take k.done++[b]:=by
      rw[List.take_add_one,h8];rfl
     show fa p (y.frm+k.done) b px.g=foldI p F g0 (y.al.take (k.done+1));rw[LF,FB,eA,Nat.min_eq_left (by omega),(h.gn y hy).1,EM];simp
    ·simp only at he;exact absurd (by rw[he,h7]) hz.2
   ·have hk:=h.lU k2 (gx _ ch);refine⟨hk.1,λe y hy b9=>?_⟩;obtain⟨fO,nz⟩:=hk.2 e y hy b9;refine⟨fO,λz hz he=>?_⟩;rcases za hA h6 hz with rfl | hz
    ·refine absurd (gx _ (List.mem_append_right _ ?_)) bX;simp only at he;rw[← h7,he];exact BN ch e
    ·exact nz z hz.1 he
 | @iT x kk h1 h2 h3 h4 h5 h6 h7 =>
  rw[BM hA (λx hx=>(h.ar x hx).1)];have hx:=bI h3;obtain⟨dR,zb⟩:=a2.1 h3;have hk:=h.lU k (iq ..);refine⟨?_,λz hz=>h.ar z (kg hz),λz hz=>h.base z (kg hz),λy hy=>?_,λk2 ch=>?_⟩
  ·simp only[Tr.iT];rw[FH,FI (by rfl)];refine FG h.perm ?_ hA.o0;rw[xk h1];have e1:(T.l.map (·.snap)).Perm (x.snap::(T.l.eraseIdx kk).map (·.snap)):=by
    have:=(tg T.l dR).map (·.snap);rw[map_cons,zb]at this;exact this
   have e2:((T.l.set kk { x with done:=k.done+1,snap:=k.x }).map (·.snap)).Perm (k.x::(T.l.eraseIdx kk).map (·.snap)):=by
    have:=(tg (T.l.set kk { x with done:=k.done+1,snap:=k.x }) (by simpa using dR)).map (·.snap);rw[map_cons,oP,eraseIdx_set_eq]at this;exact this
   have e3:(base::(T.l.map (·.snap)++k.x::jH ws)).Perm (base::(x.snap::((T.l.eraseIdx kk).map (·.snap)++k.x::jH ws))):=(e1.append_right _).cons _;refine e3.trans ((c1 _ _ _).trans (kE _ (kE _ ?_)));exact nW.trans (e2.append_right _).symm
  ·simp only[Tr.iT]at hy;rcases r5 hy with hy | rfl
   ·exact⟨(h.gn y hy).1,λz hz=>(h.gn y hy).2 z (kg hz)⟩
   ·refine⟨(h.gn x hx).1,λz hz he=>?_⟩;have:=(hk.2 h1 x hx h4).2 z (kg hz) he;rw[h5]at this;exact this
  ·have zc : ∀ y ∈ (T.iT kk x (k.done + 1) k.x).l, ∃ BO ∈ T.l, BO.id = y.id ∧ BO.al = y.al := fun y hy => by
    simp only[Tr.iT]at hy;rcases r5 hy with hy | rfl
    ·exact⟨y,hy,rfl,rfl⟩
    ·exact⟨x,hx,rfl,rfl⟩
   rcases List.mem_cons.1 ch with rfl | ch
   ·exact⟨hk.1,λe=>by cases e⟩
   ·have mR:=h.lU k2 (gx _ ch);refine⟨mR.1,λe y hy b9=>?_⟩;obtain⟨BO,XO,e1,e2⟩:=zc y hy;obtain⟨fO,nz⟩:=mR.2 e BO XO (by rw[e1];exact b9);rw[e2]at fO nz;exact⟨fO,λz hz=>nz z (kg hz)⟩
theorem BQ {b e:Int}(h:J.length≤16):(mo J b e).length≤16:=by
 unfold mo;split
 ·rename_i h1;simp only[qZ,fK,qK]at h1;simp;omega
 ·exact h
theorem o2 (A:Sn)(id:Nat):(A.eB id).room=A.room∧(A.eB id).n=A.n∧(A.eB id).last=A.last:=by
 unfold Sn.eB;split
 ·split
  ·simp[Sn.drop]
  ·exact⟨rfl,rfl,rfl⟩
 ·exact⟨rfl,rfl,rfl⟩
structure BR (A:Sn)(T:Tr)(J:Js)(A':Sn)(T':Tr)(J':Js):Prop where
 room:A'.room=A.room
 n:A'.n≤A.n+1
 most:T'.most=T.most
 last:T'.last=T.last
 epoch:T'.epoch=T.epoch
 l:T'.l.map (λy=>(y.id,y.al))=T.l.map (λy=>(y.id,y.al))
 len:J.length≤16→J'.length≤16
theorem lT.XP (hb:lT p A T J k r A' T' J' k'):BR A T J A' T' J':=by
 cases hb with
 | idle=>exact⟨rfl,by omega,rfl,rfl,rfl,rfl,λh=>h⟩
 | y9 h1 h2=>exact⟨rfl,by omega,rfl,rfl,rfl,rfl,λh=>by rw[h2,eV]at h;omega⟩
 | FF h1 h2=>exact⟨rfl,by simp[Sn.add],rfl,rfl,rfl,rfl,λh=>by rw[h2,eV]at h;omega⟩
 | gone=>exact⟨(o2 A _).1,by rw[(o2 A _).2.1];omega,rfl,rfl,rfl,rfl,λh=>h⟩
 | mY=>exact⟨rfl,by simp,rfl,rfl,rfl,rfl,λh=>h⟩
 | failed=>exact⟨(o2 A _).1,by rw[(o2 A _).2.1];omega,rfl,rfl,rfl,rfl,BQ⟩
 | lost=>exact⟨(o2 A _).1,by rw[(o2 A _).2.1];omega,rfl,rfl,rfl,rfl,λh=>by split <;> first | exact BQ h | exact h⟩
 | @iT x kk h1 h2 h3 =>
  refine⟨(o2 A _).1,by rw[(o2 A _).2.1];omega,rfl,rfl,rfl,?_,λh=>by split <;> first | exact BQ h | exact h⟩;obtain⟨dR,zb⟩:=a2.1 h3;simp only[Tr.iT];apply ext_getElem?;intro j;simp only[bd,jB];by_cases hj:kk=j
  ·subst hj;simp[dR,zb]
  ·rw[ag hj]
end
end
section
theorem XQ {α:Type}{f:α→Nat}:∀ {l:List α},(l.map f).Nodup→∀ {x y:α},x∈l→y∈l→f x=f y→x=y:=by
 intro l
 induction l with
 | nil=>intro _ x y hx;cases hx
 | cons a l ih =>
  intro hd x y hx hy he;rw[map_cons,List.nodup_cons]at hd;rcases List.mem_cons.1 hx with vm | hx
  ·rcases List.mem_cons.1 hy with FL | hy
   ·rw[vm,FL]
   ·exact absurd (cX.2 ⟨y,hy,by rw[← he,vm]⟩) hd.1
  ·rcases List.mem_cons.1 hy with FL | hy
   ·exact absurd (cX.2 ⟨x,hx,by rw[he,FL]⟩) hd.1
   ·exact ih hd.2 hx hy he
theorem WF.eB {A:Sn}(hw:WF A)(hr:∀ x∈A.ar,x.refs=1)(id:Nat):WF (A.eB id):=by
 by_cases h:∃ px∈A.ar,px.id=id
 ·obtain⟨px,h1,rfl⟩:=h;obtain⟨i,hi⟩:=ke.1 h1;rw[y4 hw hi,Sn.drop,aj (hr px h1)];exact hw.erase i
 ·rw[Fy (λy hy e=>h ⟨y,hy,e⟩)];exact hw
theorem XR:∀ (l:List Br) {A:Sn},WF A→(∀ x∈A.ar,x.refs=1)→A.g2 l={ A with ar:=A.ar.filter (λx=>!(l.map (·.snap)).contains x.id) }:=by
 intro l
 induction l with
 | nil =>
  intro A hw hr;have:A.ar.filter (λx=>!(([]:List Br).map (·.snap)).contains x.id)=A.ar:=List.filter_eq_self.2 λx _=>rfl;rw[this];rfl
 | cons y l ih =>
  intro A hw hr;have h1:A.g2 (y::l)=(A.eB y.snap).g2 l:=rfl;have h2:=BM hw hr y.snap;have h3:∀ x∈(A.eB y.snap).ar,x.refs=1:=by rw[h2];exact λx hx=>hr x (kg hx)
  rw[h1,ih (hw.eB hr _) h3,h2];simp only[List.filter_filter]
  congr 1
  refine List.filter_congr λx _=>?_;simp only[map_cons,List.contains_cons,Bool.not_or];rw[Bool.and_comm];rfl
theorem XS {base:Nat}{l:List Br}{f:Br→Bool}{H M:List Nat}(hp:M.Perm (base::(l.map (·.snap)++H)))(o0:M.Nodup) :
   (M.filter (λid=>!((l.filter f).map (·.snap)).contains id)).Perm (base::((l.filter (λx=>!f x)).map (·.snap)++H)):=by
 have h1:=hp.nodup_iff.1 o0;have h2:=hp.filter (λid=>!((l.filter f).map (·.snap)).contains id);have h3:=List.nodup_cons.1 h1;have h4:=List.nodup_append.1 h3.2;have zd:∀ id,id∈(l.filter f).map (·.snap)→id∈l.map (·.snap):=λid h=>by
  obtain⟨y,hy,rfl⟩:=cX.1 h;exact cX.2 ⟨y,kg hy,rfl⟩
 have hb:(!((l.filter f).map (·.snap)).contains base)=true:=by
  simp only[Bool.not_eq_true',List.contains_eq_mem,sh];exact λh=>h3.1 (List.mem_append_left _ (zd _ h))
 have hH:H.filter (λid=>!((l.filter f).map (·.snap)).contains id)=H:=List.filter_eq_self.2 λz hz=>by
  simp only[Bool.not_eq_true',List.contains_eq_mem,sh];exact λh=>h4.2.2 z (zd _ h) z hz rfl
 have hl:(l.map (·.snap)).filter (λid=>!((l.filter f).map (·.snap)).contains id)=(l.filter (λx=>!f x)).map (·.snap):=by
  rw[List.filter_map]
  congr 1
  refine List.filter_congr λy hy=>?_;simp only[Function.comp]
  congr 1
  cases hf:f y with
  | true =>
   simp only[List.contains_eq_mem,qK];exact cX.2 ⟨y,List.mem_filter.2 ⟨hy,hf⟩,rfl⟩
  | false =>
   simp only[List.contains_eq_mem,sh];intro h;obtain⟨z,hz,he⟩:=cX.1 h;obtain⟨cW,eU⟩:=List.mem_filter.1 hz;have:=XQ h4.1 cW hy he;rw[this,hf]at eU;cases eU
 rw[List.filter_cons,aj hb,y6,hl,hH]at h2;exact h2
section
variable {p:Pr}{F:Int}{g0:Nat→Int}{t:Nat→Nat}{base:Nat}{A:Sn}{T:Tr}{ws:List Wk}{k:Wk}{px:aC}{P:List (List UInt8)}{i:Nat}
theorem Inv.cut (h:Inv p F g0 t base A T ws)(hA:WF A)(f:Br→Bool):Inv p F g0 t base (A.g2 (T.l.filter f)) (T.cut f) ws:=by
 rw[XR _ hA (λx hx=>(h.ar x hx).1)];refine⟨?_,λx hx=>h.ar x (kg hx),λx hx=>h.base x (kg hx),λy hy=>⟨(h.gn y (kg hy)).1,λx hx=>(h.gn y (kg hy)).2 x (kg hx)⟩,λk hk=>⟨(h.lU k hk).1,λe y hy b9=>?_⟩⟩
 ·simp only[Tr.cut];have h1:=XS (f:=f) h.perm hA.o0;have h2:(A.ar.filter (λx=>!((T.l.filter f).map (·.snap)).contains x.id)).map (·.id)=(A.ar.map (·.id)).filter (λid=>!((T.l.filter f).map (·.snap)).contains id):=by
   rw[List.filter_map];rfl
  rw[h2];exact h1
 ·obtain⟨h1,h2⟩:=(h.lU k hk).2 e y (kg hy) b9;exact⟨h1,λx hx=>h2 x (kg hx)⟩
theorem Inv.XT (h:Inv p F g0 t base A T ws)(hA:WF A)(hT:WT T)(hi:A.ar[i]?=some px)(hb:px.id=base):Inv p F g0 t base (A.add px.g px.p) (T.add F P (A.last+1)) ws:=by
 have ig:=bI hi;have vl:∀ z∈A.ar,z.id≠A.last+1:=λz hz e=>by have:=(hA.mS z hz).2.1;omega
 have hlt:∀ id∈base::(T.l.map (·.snap)++jH ws),id≠A.last+1:=λid b9 e=>by
  obtain⟨z,hz,he⟩:=cX.1 (h.perm.mem_iff.2 b9);exact vl z hz (by rw[he,e])
 have cI:∀ z∈(A.add px.g px.p).ar,z∈A.ar∨z=⟨A.last+1,1,px.g,px.p⟩:=λz hz=>by
  simp only[Sn.add]at hz;rcases e7.1 hz with hz | hz
  ·exact .inl hz
  ·simp at hz;exact .inr hz
 refine⟨?_,λz hz=>?_,λz hz he=>?_,λy hy=>?_,λk hk=>⟨?_,λe y hy b9=>?_⟩⟩
 ·simp only[Sn.add,Tr.add,cY,map_cons,map_nil];refine (h.perm.append_right _).trans ((List.perm_append_singleton _ _).trans ((c1 _ _ _).trans (kE _ ?_)));rw[dz];exact nW.symm
 ·rcases cI z hz with hz | rfl
  ·exact h.ar z hz
  ·exact⟨rfl,(h.ar px ig).2⟩
 ·rcases cI z hz with hz | rfl
  ·exact h.base z hz he
  ·exact absurd he.symm (hlt base (iq ..))
 ·simp only[Tr.add]at hy;rcases e7.1 hy with hy | hy
  ·refine⟨(h.gn y hy).1,λz hz he=>?_⟩;rcases cI z hz with hz | rfl
   ·exact (h.gn y hy).2 z hz he
   ·exact absurd he.symm (hlt y.snap (gx _ (List.mem_append_left _ (cX.2 ⟨y,hy,rfl⟩))))
  ·simp at hy;subst hy;refine⟨rfl,λz hz he=>?_⟩;rcases cI z hz with hz | rfl
   ·exact absurd he (vl z hz)
   ·exact (h.base px ig hb).1
 ·have:=(h.lU k hk).1;simp only[Tr.add];omega
 ·have hL:=(h.lU k hk).1;simp only[Tr.add]at hy;rcases e7.1 hy with hy | hy
  ·obtain⟨h1,h2⟩:=(h.lU k hk).2 e y hy b9;refine⟨h1,λz hz he=>?_⟩;rcases cI z hz with hz | rfl
   ·exact h2 z hz he
   ·exact absurd he.symm (hlt k.x (gx _ (List.mem_append_right _ (BN hk e))))
  ·simp at hy;subst hy;simp only at b9;omega
theorem Inv.len (h:Inv p F g0 t base A T ws):A.ar.length=1+T.l.length+(jH ws).length:=by
 have:=h.perm.length_eq;simp only[a8,eV,aM]at this;omega
end
end
section
section
variable {P:Program}{ops:Array Oper}{Q:Exit→Act→World→Prop}{a:Act}{w w' W:World}{K:Act→World→Prop}{n d:Nat}{l:List (Nat×Value)}{v:Value}{L R:List SP}
theorem XU {t u ty e:TypeId}{k c a1:Nat}{z:Value}{ad:Option Addr}{cs:List Value}(ht:P.underlying t=some (.slice e))(hu:P.underlying u=some .string)(hi:TI P e z 1 a1)(hz:z.cells.size=1)(s:U W w (Sl e 1 ad k c cs::L))
   (hc:0<c) (str:ByteArray) (hb:0<a1) (aF:(k+str.size)*a1≤140737488355328) :
   ∃ av c' w',(Builtin.append_ #[t,u] ty #[.slice ad k c,.string str]).run P w=.ok (.slice av (k+str.size) c') w'∧U W w' (Sl e 1 av (k+str.size) c' (cs++bc str.data.toList)::L):=by
 obtain⟨i,lM,dI,k7,qH⟩:=info_parts hi.h;have qI:=s.sl ad;have BS:(bc str.data.toList).length=str.size:=Lib.strCells_length str;obtain⟨b,pre,post,⟨cV,cc,rfl,a4⟩,s2⟩:=s.mh hc;by_cases nX:k+str.size≤c
 ·have eI:(c-k)*1 ≥ str.size:=by omega
  have hf:=Lib.run_firstCells_string (P:=P) w 1 str;have aS:=run_storeCells_at (P:=P) b (pre.length+k) e (bc str.data.toList) 0 (pre++cs++post).toArray w s2.has.2 (by simp[BS];omega) (ez _);have e1:(pre++cs++post).take (pre.length+k)=pre++cs:=by
   have:pre.length+k=(pre++cs).length:=by simp;omega
   rw[this,List.take_left]
  have e2:(pre++cs++post).drop (pre.length+k+0+(bc str.data.toList).length)=post.drop str.size:=by
   have:pre.length+k=(pre++cs).length:=by simp;omega
   rw[this,Nat.add_zero,BS,← kF,drop_left]
  refine⟨some ⟨b,pre.length,none⟩,c,w.setRow b (pre++(cs++bc str.data.toList)++post.drop str.size).toArray,?_,?_⟩
  ·have rJ:(storeCells ⟨b,pre.length+k,none⟩ (bc str.data.toList) 0).run P w=.ok () (w.setRow b (((pre++cs++post).take (pre.length+k)++bc str.data.toList)++(pre++cs++post).drop (pre.length+k+0+(bc str.data.toList).length)).toArray):=aS;rw[e1,e2]at rJ;have jT:(Builtin.firstCells 1 str.size (.string str)).run P w=.ok (bc str.data.toList).toArray w:=hf;simp[Builtin.append_,eT ht,eT hu,sizeOf,typeInfo,lM,Builtin.lenOf,nX,k6,k7,jT,rJ,dz]
  ·exact U.jh (pre:=pre) (post:=post.drop str.size) s2.setRow (by simp[BS];omega) (by omega) (by simp;omega)
 ·have R5:k+str.size≤140737488355328:=eS (Nat.le_mul_of_pos_right _ hb) aF;have nY:=grownCap_ge w (k+str.size) c e;have R6:(Builtin.zeroCells z.cells (grownCap w (k+str.size) c e-(k+str.size))).toList.length=(grownCap w (k+str.size) c e-(k+str.size))*1:=yC e (a1:=a1) hz _;have holds:∀ j v,cs[j]?=some v→w.cell? ((⟨b,pre.length,none⟩:Addr).add j)=some v:=by
   intro j v hj;rw[k6,s2.cell];have:j<cs.length:=(a2.1 hj).1;rw[mM (by simp;omega),pJ (by omega)];simpa using hj
  have fj:Builtin.nextslicecap (k+str.size) c*i.bytes≤281474976710656:=by rw[qH];exact growslice_fits (by omega) aF
  have hr:=Lib.run_append_grow_string (P:=P) w t u ty e i z ht hu lM dI ⟨b,pre.length,none⟩ k c cs (by rw[k7];exact cV) holds str (by omega) (by omega) fj;refine⟨_,_,_,hr,?_⟩;have wF:=(s.tail.drew).alloc (.cells (cs.toArray++(bc str.data.toList).toArray++Builtin.zeroCells z.cells (grownCap w (k+str.size) c e-(k+str.size))) e)
  have Eh : U W (w.drew.alloc (.cells (cs.toArray ++ (bc str.data.toList).toArray ++ Builtin.zeroCells z.cells (grownCap w (k + str.size) c e - (k + str.size))) e))
      (aa w.heap.size e ([]++(cs++bc str.data.toList)++(Builtin.zeroCells z.cells (grownCap w (k+str.size) c e-(k+str.size))).toList)::L):=by
   have:(cs.toArray++(bc str.data.toList).toArray++Builtin.zeroCells z.cells (grownCap w (k+str.size) c e-(k+str.size)))=([]++(cs++bc str.data.toList)++(Builtin.zeroCells z.cells (grownCap w (k+str.size) c e-(k+str.size))).toList).toArray:=by
    apply Array.ext';simp
   rw[this]at wF ⊢;exact wF
  exact U.jh (pre:=[]) Eh (by simp[BS];omega) nY (by omega)
theorem XV {s x t u z a1 str e ad k c ty ps af g}{cs:List Value}(E:Fr a n l)(hw:Region.wanted ⟨some d,.call ⟨.builtin .append,#[s,x],#[t,u]⟩,ty,ps,af,g⟩ (yielded ops a.tmps)=true)(I:U W w L)
   (ht:P.underlying t=some (.slice e)) (hu:P.underlying u=some .string) (hi:TI P e z 1 a1) (hz:z.cells.size=1) (hf:okB d n l=true)
   [e1:Ev l s (.slice ad k c)] [pk:fX L ad k c e 1 cs R] [e2:Ev l x (.string str)] (hc:0<c) (hb:0<a1) (aF:(k+str.size)*a1≤140737488355328)
   (h:∀ av c' a' w',Fr a' n ((d,.slice av (k+str.size) c')::l)→U W w' (Sl e 1 av (k+str.size) c' (cs++bc str.data.toList)::R)→K a' w') :
   cK P ops Q ⟨some d,.call ⟨.builtin .append,#[s,x],#[t,u]⟩,ty,ps,af,g⟩ K a w:=by
 obtain⟨av,c',w',h2,h3⟩:=XU (P:=P) (ty:=ty) ht hu hi hz (I.perm pk.perm) hc str hb aF;exact bA E hw (by simp[execOp,resolve,e1.ev a n E,e2.ev a n E,invoke,builtin,h2]) hf λa' di=>h _ _ a' _ di h3
end
theorem wrap_u64 (x:Int):IntKind.u64.wrap x=x%18446744073709551616:=by simp[IntKind.wrap,IntKind.signed,IntKind.bits]
theorem wrap_u32 (x:Int):IntKind.u32.wrap x=x%4294967296:=by simp[IntKind.wrap,IntKind.signed,IntKind.bits]
theorem wrap_u8 (x:Int):IntKind.u8.wrap x=x%256:=by simp[IntKind.wrap,IntKind.signed,IntKind.bits]
theorem LG {x:Nat}(h:x<18446744073709551616):IntKind.u64.wrap ((BitVec.ofInt IntKind.u64.bits (if IntKind.u64.signed then -1 else IntKind.u64.max) ^^^ BitVec.ofInt IntKind.u64.bits (x:Int)).toNat)=((18446744073709551615-x:Nat):Int):=by
 have e:BitVec.ofInt IntKind.u64.bits (if IntKind.u64.signed then -1 else IntKind.u64.max)=BitVec.allOnes 64:=by
  show BitVec.ofInt 64 IntKind.u64.max=_;decide
 rw[e];have e2:BitVec.ofInt IntKind.u64.bits (x:Int)=BitVec.ofNat 64 x:=by
  show BitVec.ofInt 64 (x:Int)=_;exact BitVec.ofInt_natCast 64 x
 rw[e2];show IntKind.u64.wrap (((BitVec.allOnes 64 ^^^ BitVec.ofNat 64 x).toNat:Nat):Int)=_;rw[BitVec.allOnes_xor,BitVec.toNat_not,BitVec.toNat_ofNat,wrap_u64];rw[k9 (show x<2 ^ 64 from h)];omega
theorem XW {x:Nat}(h:x<256):IntKind.u8.wrap ((BitVec.ofInt IntKind.u8.bits (x:Int) ||| BitVec.ofInt IntKind.u8.bits 128).toNat)=((x%128+128:Nat):Int):=by
 have:∀ y:Fin 256,IntKind.u8.wrap ((BitVec.ofInt IntKind.u8.bits ((y.val:Nat):Int) ||| BitVec.ofInt IntKind.u8.bits 128).toNat)=((y.val%128+128:Nat):Int):=by decide +kernel
 exact this ⟨x,h⟩
theorem lu (x j:Nat):(x:Int).fdiv (j:Int)=((x/j:Nat):Int):=by
 rw[Int.natCast_ediv,Int.fdiv_eq_ediv_of_nonneg _ (by omega)]
def aO (u:Nat):List UInt8:=if h:u≤127 then [UInt8.ofNat u] else UInt8.ofNat (u%128+128)::aO (u/128)
termination_by u
decreasing_by omega
theorem q0 {u:Nat}(h:u≤127):aO u=[UInt8.ofNat u]:=by rw[aO,dif_pos h]
theorem xn {u:Nat}(h:¬ u≤127):aO u=UInt8.ofNat (u%128+128)::aO (u/128):=by rw[aO,dif_neg h]
theorem sj (u:Nat):1≤(aO u).length:=by
 rw[aO];split <;> simp
theorem q3:∀ (k u:Nat),u<128 ^ (k+1)→(aO u).length≤k+1
 | 0,u,h=>by rw[q0 (by simpa using (by omega:u≤127))];simp
 | k+1,u,h=>by
  by_cases hu:u≤127
  ·rw[q0 hu];simp
  ·rw[xn hu,eV];have:=q3 k (u/128) (by rw[Nat.pow_succ]at h;omega);omega
def zz (n:Int):Nat:=if n<0 then (-2*n-1).toNat else (2*n).toNat
section
variable {W w:World}{L:List SP}{c:Nat}{ad:Option Addr}{bs:List UInt8}
theorem tM {N:Int}(I:U W w (Sl 5 1 ad bs.length c (bc bs)::L))(h1:-9223372036854775808≤N)(h2:N≤9223372036854775807)(hb:bs.length≤1099511627776) :
   Calls prog 198 #[.slice ad bs.length c,.int .i64 N] w λe w'=>∃ av c',e=.returned (.slice av (bs++aO (zz N)).length c')∧U W w' (Sl 5 1 av (bs++aO (zz N)).length c' (bc (bs++aO (zz N)))::L):=by
 refine EN func198 ntmps198 rfl rfl λa E=>?_;refine RN 4 E I λa E=>?_;refine SS E (gA E yP tr) λa E=>?_;refine RN 1 E I λa E=>?_;rw[wrap_u64,wrap_u64]at E;refine RN 1 E I λa E=>?_;obtain⟨U0,FM⟩:∃ U0:Nat,(N%18446744073709551616*2 ^ 1)%18446744073709551616=(U0:Int):=⟨((N%18446744073709551616*2 ^ 1)%18446744073709551616).toNat,by omega⟩;rw[FM]at E;have FN:U0<18446744073709551616:=by omega
 refine b6 (M:=λa w=>Fr a 28 [(0,.slice ad bs.length c),(5,.int .u64 ((zz N:Nat):Int))]∧U W w (Sl 5 1 ad bs.length c (bc bs)::L)) ?_ ?_
 ·
  refine IF 3 E I (λak a E=>?_) λak a E=>?_
  ·
   refine RN 2 E I λa E=>?_;rw[LG FN]at E;refine RN 1 E I λa E=>?_;rw[show 18446744073709551615-U0=zz N from by rw[zz,aj ak];omega]at E;exact⟨E.ab [0,5],I⟩
  refine RN 0 E I λa E=>?_;rw[show U0=zz N from by rw[zz,ag (by omega)];omega]at E;exact⟨E.ab [0,5],I⟩
 clear E;(try clear I);rintro a w ⟨E,I⟩;refine RN 1 E I λa E=>?_;refine aL (λμ a w=>∃ (eg c':Nat) (av:Option Addr) (dn:List UInt8),(μ=eg∧dn++aO eg=bs++aO (zz N)∧eg≤zz N)∧Fr a 28 [(0,.slice av dn.length c'),(5,.int .u64 (eg:Int))]∧U W w (Sl 5 1 av dn.length c' (bc dn)::L)) (zz N) (⟨zz N,c,ad,bs,⟨rfl,rfl,by omega⟩,E.ab [0,5],I⟩) ?_;clear E I;rintro μ a w ⟨eg,c',av,dn,⟨ze,dc,XX⟩,E,I⟩;refine RN 2 E I λa E=>?_;have cW:zz N<18446744073709551616:=by rw[zz];split <;> omega
 have fN:=q3 9 (zz N) (by simp;omega);have mZ:dn.length≤bs.length+10:=by
  have:=dJ List.length dc;rw[aM,aM]at this;omega
 clear fN;refine IF 2 E I (λao a E=>?_) λao a E=>?_
 ·
  refine RN 3 E I λa E=>?_;refine SS E (gA E tr dF) λa E=>?_;rw[wrap_u8,show (eg:Int)%256=((eg%256:Nat):Int) from by omega]at E;refine RN 1 E I λa E=>?_;rw[XW (Nat.mod_lt _ (by decide)),show eg%256%128=eg%128 from by omega]at E;refine ct E rfl I bj Ty.t5 rfl rfl rfl rfl (by decide) (by decide) λfR a w E I ho=>?_;clear ho;refine RN 0 E I λa E=>?_;refine cR E rfl I bj Ty.t5 rfl rfl I.ai rfl (by simp[Value.oneCell']) (by decide) (by decide) (by omega) λzf FO a w E I=>?_;have aS:bc dn++[[Value.int .u8 ((eg%128+128:Nat):Int)]].flatten=bc (dn++[UInt8.ofNat (eg%128+128)]):=by
   simp[bc,UInt8.toNat_ofNat'];omega
  rw[aS]at I;refine RN 4 E I λa E=>?_;rw[show ((eg:Int).fdiv (2 ^ 7))=((eg/128:Nat):Int) from lu eg 128]at E;exact⟨eg/128,by omega,eg/128,_,zf,dn++[UInt8.ofNat (eg%128+128)],⟨rfl,by rw[← dc,xn (u:=eg) (by omega),dz];rfl,by omega⟩,by rw[aM];exact E.ab [0,5],by rw[aM];exact I.sub⟩
 refine RN 3 E I λa E=>?_;refine SS E (gA E tr dF) λa E=>?_;rw[wrap_u8,show (eg:Int)%256=((eg:Nat):Int) from by omega]at E;refine RN 0 E I λa E=>?_;refine ct E rfl I bj Ty.t5 rfl rfl rfl rfl (by decide) (by decide) λLH a w E I ho=>?_;clear ho;refine RN 0 E I λa E=>?_;refine cR E rfl I bj Ty.t5 rfl rfl I.ai rfl (by simp[Value.oneCell']) (by decide) (by decide) (by omega) λFP FQ a w E I=>?_;have aS:bc dn++[[Value.int .u8 ((eg:Nat):Int)]].flatten=bc (dn++[UInt8.ofNat eg]):=by
  simp[bc,UInt8.toNat_ofNat'];omega
 rw[aS,← q0 (by omega),dc]at I;refine RT 1 E I ?_;have hl:dn.length+1=(bs++aO (zz N)).length:=by rw[← dc,q0 (by omega),aM];rfl
 rw[hl]at I ⊢;exact⟨_,_,rfl,I.sub⟩
theorem XY {s:ByteArray}(I:U W w L)(aF:s.size≤1099511627776) :
   Calls prog 199 #[.slice none 0 0,.string s] w λe w'=>∃ av c',e=.returned (.slice av (aO (zz s.size)++s.data.toList).length c')∧U W w' (Sl 5 1 av (aO (zz s.size)++s.data.toList).length c' (bc (aO (zz s.size)++s.data.toList))::L):=by
 have zg:s.data.toList.length=s.size:=rfl;refine EN func199 ntmps199 rfl rfl λa E=>?_;refine aY 6 E I (tM (bs:=[]) (N:=s.size) (I.bQ 5 1 none) (by omega) (by omega) (by simp)) λc4 dU a w E I=>?_;rw[nil_append]at E I;have fN:=sj (zz s.size);have ix:=q3 9 (zz s.size) (by rw[zz];split <;> (simp;omega));have KU:=(I.sl c4).2;refine RN 1 E I λa E=>?_;refine XV E rfl I bj gB Ty.t5 rfl rfl (by omega) (by decide) (by omega) λagv BT a w E I=>?_;rw[show (aO (zz s.size)).length+s.size=(aO (zz s.size)++s.data.toList).length from by rw[aM];rfl]at E I;rw[show bc (aO (zz s.size))++bc s.data.toList=bc (aO (zz s.size)++s.data.toList) from by simp[bc]]at I;refine RT 1 E I ?_;exact⟨_,_,rfl,I.sub⟩
end
end
section
section
variable {W w:World}{L:List SP}{n:Nat}{s:ByteArray}
theorem XZ {r:Nat}(I:U W w L):Calls prog 239 #[.int .i32 r] w λe w'=>e=.returned (.int .i64 (oc r))∧U W w' L:=by
 refine EN func239 ntmps239 rfl rfl λa E=>?_;refine IF 7 E I (λak a E=>?_) λak a E=>?_
 ·
  refine RT 2 E I ?_;exact⟨by rw[oc,aj (by omega)];rfl,I⟩
 refine IF 4 E I (λao a E=>?_) λao a E=>?_
 ·
  refine RT 2 E I ?_;exact⟨by rw[oc,ag (by omega),aj (by omega)];rfl,I⟩
 refine IF 4 E I (λay a E=>?_) λay a E=>?_
 ·
  refine RT 2 E I ?_;exact⟨by rw[oc,ag (by omega),ag (by omega),aj (by omega)];rfl,I⟩
 refine RT 2 E I ?_;exact⟨by rw[oc,ag (by omega),ag (by omega),ag (by omega)];rfl,I⟩
theorem LI {α:Type}(l:List α)(x:α)(f:α→Bool):(l++[x]).all f=(l.all f&&f x):=by simp
theorem X0 (I:U W w L)(aF:s.size≤1099511627776):Calls prog 228 #[.string s] w λe w'=>e=.returned (.bool ((ef s 0).all mW))∧U W w' L:=by
 refine EN func228 ntmps228 rfl rfl λa E=>?_;refine RN 7 E I λa E=>?_;refine EE E rfl I gB rfl λdv a w E I ho=>?_;clear ho;refine RN 0 E I λa E=>?_;refine aL (λμ a w=>∃ (pos n:Nat) (dn:List (Nat×Nat)),(μ=s.size-pos∧pos≤s.size∧ef s 0=dn++ef s pos∧((dn.all mW=true∧n=pos)∨(dn.all mW=false∧n=pos+2)))∧Fr a 23 [(0,.string s),(3,.int .i64 n),(7,pt dv)]∧U W w (k5 dv (.stringIter s pos)::L)) (s.size) (⟨0,0,[],⟨by simp,by simp,by simp,.inl ⟨rfl,rfl⟩⟩,E.ab [0,3,7],I⟩) ?_;clear E I;rintro μ a w ⟨pos,n,dn,⟨rfl,qM,dc,hg⟩,E,I⟩;refine RN 1 E I λa E=>?_;refine EG E rfl I rfl λa w E I=>?_;refine RN 0 E I λa E=>?_;refine SS E (oM E (EC s pos)) λa E=>?_;refine IF 1 E I (λak a E=>?_) λak a E=>?_
 ·
  have nA:=sd ak;have jo:=Fz qM;have p5:ed s pos=pos+(Utf8.decode s pos).2:=by rw[ed,aj ak]
  have lV:=vh s pos;refine RN 1 E I λa E=>?_;refine SS E (oM E (Ti ak)) λa E=>?_;refine RN 0 E I λa E=>?_;refine SS E (oM E (ED ak)) λa E=>?_;refine IF 7 E I (λao a E=>?_) λao a E=>?_
  ·
   have X1:dn.all mW=false:=by
    rcases hg with ⟨_,h⟩ | ⟨h,_⟩
    ·omega
    ·exact h
   refine RT 2 E I ?_;exact⟨by rw[dc,List.all_append,X1,Bool.false_and],I.sub⟩
  obtain⟨nB,hn⟩:=hg.resolve_right (λh=>by omega);have X2:oc (Utf8.decode s pos).1≤4:=by unfold oc;(repeat' split) <;> omega
  refine CL 2 E I (XZ I) λa w E I=>?_;refine RN 2 E I λa E=>?_;refine⟨s.size-ed s pos,by omega,ed s pos,n+oc (Utf8.decode s pos).1,dn++[Utf8.decode s pos],⟨rfl,jo,by rw[dc,nA,dz];rfl,?_⟩,E.ab [0,3,7],I.sub⟩;rw[LI,nB,Bool.true_and];rcases Lm s pos with h | h
  ·refine .inl ⟨?_,by omega⟩;simp only[mW,Bool.not_eq_true',sh];intro e;rw[e]at h;simp[oc]at h
  ·refine .inr ⟨by simp[mW,h],?_⟩;rw[p5,h];simp[oc];omega
 refine RN 1 E I λa E=>?_;have gP:pos=s.size:=by omega
 have gQ:=se (s:=s) (pos:=pos) (by omega);rw[gQ,append_nil]at dc;refine RT 5 E I ?_;refine⟨?_,I.sub⟩;rw[dc];rcases hg with ⟨h,h2⟩ | ⟨h,h2⟩
 ·rw[h,dr (by omega)]
 ·rw[h,bu (by omega)]
theorem X3 (I:U W w L)(aF:s.size≤1099511627776):Calls prog 197 #[.string s] w λe w'=>e=.returned (.bool (p3 s))∧U W w' L:=by
 refine EN func197 ntmps197 rfl rfl λa E=>?_;refine RN 7 E I λa E=>?_;refine EE E rfl I gB rfl λdv a w E I ho=>?_;clear ho;refine RN 0 E I λa E=>?_;refine aL (λμ a w=>∃ (pos:Nat) (dn:List (Nat×Nat)),(μ=s.size-pos∧pos≤s.size∧ef s 0=dn++ef s pos∧dn.all kR=true∧dn.length≤pos)∧Fr a 29 [(0,.string s),(3,.int .i64 dn.length),(7,pt dv)]∧U W w (k5 dv (.stringIter s pos)::L)) (s.size) (⟨0,[],⟨by simp,by simp,by simp,rfl,by simp⟩,E.ab [0,3,7],I⟩) ?_;clear E I;rintro μ a w ⟨pos,dn,⟨rfl,qM,dc,hg,mZ⟩,E,I⟩;refine RN 1 E I λa E=>?_;refine EG E rfl I rfl λa w E I=>?_;refine RN 0 E I λa E=>?_;refine SS E (oM E (EC s pos)) λa E=>?_;refine IF 1 E I (λak a E=>?_) λak a E=>?_
 ·
  have nA:=sd ak;have jo:=Fz qM;have p5:ed s pos=pos+(Utf8.decode s pos).2:=by rw[ed,aj ak]
  have lV:=vh s pos;refine RN 1 E I λa E=>?_;refine SS E (oM E (ED ak)) λa E=>?_;refine BY 6 E I (λbD a E=>?_) λbD a E=>?_
  ·
   have kh:kR (Utf8.decode s pos)=false:=by simp[kR];omega
   refine RT 6 E I ?_;refine⟨?_,I.sub⟩;have:(ef s 0).all kR=false:=by rw[dc,nA,List.all_append,List.all_cons,kh];simp
   rw[p3,this];simp
  refine IF 3 E I (λao a E=>?_) λao a E=>?_
  ·
   have kh:kR (Utf8.decode s pos)=false:=by simp[kR];omega
   refine RT 2 E I ?_;refine⟨?_,I.sub⟩;have:(ef s 0).all kR=false:=by rw[dc,nA,List.all_append,List.all_cons,kh];simp
   rw[p3,this];simp
  refine RN 3 E I λa E=>?_;exact⟨s.size-ed s pos,by omega,ed s pos,dn++[Utf8.decode s pos],⟨rfl,jo,by rw[dc,nA,dz];rfl,by rw[LI,hg];simp[kR];omega,by rw[aM];simp;omega⟩,by rw[aM];exact E.ab [0,3,7],I.sub⟩
 refine RN 1 E I λa E=>?_;have gQ:=se (s:=s) (pos:=pos) (by omega);rw[gQ,append_nil]at dc;have o3:p3 s=(decide (1≤dn.length)&&decide (dn.length≤20)&&(ef s 0).all mW):=by rw[p3,dc,hg];simp
 refine BY 3 E I (λbD a E=>?_) λbD a E=>?_
 ·
  refine BY 4 E I (λki a E=>?_) λki a E=>?_
  ·
   refine CL 1 E I (X0 I aF) λa w E I=>?_;refine RT 2 E I ?_;refine⟨?_,I.sub⟩;rw[o3]
   first
    | (rw[bu (show ¬ 1≤dn.length by omega)];rfl)
    | (rw[bu (show ¬ dn.length≤20 by omega)];simp;done)
    | (rw[dr (show 1≤dn.length by omega),dr (show dn.length≤20 by omega)];rfl)
  refine RT 4 E I ?_;refine⟨?_,I.sub⟩;rw[o3]
  first
   | (rw[bu (show ¬ 1≤dn.length by omega)];rfl)
   | (rw[bu (show ¬ dn.length≤20 by omega)];simp;done)
   | (rw[dr (show 1≤dn.length by omega),dr (show dn.length≤20 by omega)];rfl)
 refine RT 8 E I ?_;refine⟨?_,I.sub⟩;rw[o3]
 first
  | (rw[bu (show ¬ 1≤dn.length by omega)];rfl)
  | (rw[bu (show ¬ dn.length≤20 by omega)];simp;done)
  | (rw[dr (show 1≤dn.length by omega),dr (show dn.length≤20 by omega)];rfl)
def lW (k:Int):Int:=if k=0 then 0 else if k=9∨k=15 then 1 else if k=1∨k=2∨(10≤k∧k≤14) then 2 else if 3≤k∧k≤8 then 3 else -1
theorem FR (k:Int):(k=0∧lW k=0)∨((k=9∨k=15)∧lW k=1)∨((k=1∨k=2∨(10≤k∧k≤14))∧lW k=2)∨(3≤k∧k≤8∧lW k=3)∨((k<0∨15<k)∧lW k = -1):=by
 unfold lW
 repeat' split
 all_goals omega
theorem X4 {k:Int}(I:U W w L):Calls prog 201 #[.int .i64 k] w λe w'=>e=.returned (.int .i64 (lW k))∧U W w' L:=by
 have hk:=FR k;have fC:∀ (z:Int) (w':World),U W w' L→z=lW k→Ending.returned (Value.int .i64 z)=.returned (.int .i64 (lW k))∧U W w' L:=λz w' h e=>⟨by rw[e],h⟩;refine EN func201 ntmps201 rfl rfl λa E=>?_;refine IF 8 E I (λak a E=>?_) λak a E=>?_
 ·
  refine RT 2 E I ?_;exact fC _ _ I (by omega)
 refine IF 4 E I (λao a E=>?_) λao a E=>?_
 ·
  refine RT 3 E I ?_;exact fC _ _ I (by omega)
 refine IF 2 E I (λay a E=>?_) λay a E=>?_
 ·
  refine RT 2 E I ?_;exact fC _ _ I (by omega)
 refine IF 4 E I (λbl a E=>?_) λbl a E=>?_
 ·
  refine RT 3 E I ?_;exact fC _ _ I (by omega)
 refine IF 3 E I (λbO a E=>?_) λbO a E=>?_
 ·
  refine RT 3 E I ?_;exact fC _ _ I (by omega)
 refine IF 3 E I (λeL a E=>?_) λeL a E=>?_
 ·
  refine RT 3 E I ?_;exact fC _ _ I (by omega)
 refine IF 3 E I (λmq a E=>?_) λmq a E=>?_
 ·
  refine RT 3 E I ?_;exact fC _ _ I (by omega)
 refine IF 3 E I (λlX a E=>?_) λlX a E=>?_
 ·
  refine RT 3 E I ?_;exact fC _ _ I (by omega)
 refine IF 3 E I (λm0 a E=>?_) λm0 a E=>?_
 ·
  refine RT 3 E I ?_;exact fC _ _ I (by omega)
 refine IF 2 E I (λkj a E=>?_) λkj a E=>?_
 ·
  refine RT 2 E I ?_;exact fC _ _ I (by omega)
 refine IF 4 E I (λxp a E=>?_) λxp a E=>?_
 ·
  refine RT 3 E I ?_;exact fC _ _ I (by omega)
 refine IF 3 E I (λtN a E=>?_) λtN a E=>?_
 ·
  refine RT 3 E I ?_;exact fC _ _ I (by omega)
 refine IF 3 E I (λzh a E=>?_) λzh a E=>?_
 ·
  refine RT 3 E I ?_;exact fC _ _ I (by omega)
 refine IF 3 E I (λxq a E=>?_) λxq a E=>?_
 ·
  refine RT 3 E I ?_;exact fC _ _ I (by omega)
 refine IF 3 E I (λX5 a E=>?_) λX5 a E=>?_
 ·
  refine RT 3 E I ?_;exact fC _ _ I (by omega)
 refine IF 2 E I (λX6 a E=>?_) λX6 a E=>?_
 ·
  refine RT 2 E I ?_;exact fC _ _ I (by omega)
 refine RT 2 E I ?_;exact fC _ _ I (by omega)
def BU (l:List Int):Prop:=∀ x∈l,e8 x
theorem FT {zs:List Int}{b e:Nat}(I:U W w (aa b e (zs.map (.int .i64))::L))(hl:zs.length≤10) :
   Calls prog 202 #[.slice (some ⟨b,0,none⟩) zs.length zs.length] w λe' w'=>∃ r:Bool,e'=.returned (.bool r)∧(r=true↔BU zs)∧U W w' (aa b e (zs.map (.int .i64))::L):=by
 refine EN func202 ntmps202 rfl rfl λa E=>?_;refine RN 7 E I λa E=>?_;refine aL (λμ a w=>∃ i:Nat,(μ=zs.length-i∧i≤zs.length∧∀ j x,j<i→zs[j]?=some x→e8 x)∧Fr a 18 [(5,.slice (some ⟨b,0,none⟩) zs.length zs.length),(6,.int .i64 zs.length),(7,.int .i64 i)]∧U W w (aa b e (zs.map (.int .i64))::L)) (zs.length) (⟨0,⟨by simp,by simp,λj x h=>absurd h (by omega)⟩,E.ab [5,6,7],I⟩) ?_;clear E I;rintro μ a w ⟨i,⟨rfl,hi,cI⟩,E,I⟩;refine IF 3 E I (λak a E=>?_) λak a E=>?_
 ·
  obtain⟨x,hx⟩:∃ x,zs[i]?=some x:=⟨_,aD (by omega)⟩;refine RN 3 E I λa E=>?_;refine SS E (ae E (I.bC (v:=.int .i64 x) (by rw[bd,hx];rfl))) λa E=>?_;refine BY 5 E I (λbD a E=>?_) λbD a E=>?_
  ·
   refine RT 6 E I ?_;refine⟨false,rfl,⟨λh=>(by cases h),λh=>?_⟩,I.sub⟩;have:=h x (bI hx);unfold e8 at this;omega
  refine IF 3 E I (λao a E=>?_) λao a E=>?_
  ·
   refine RT 2 E I ?_;refine⟨false,rfl,⟨λh=>(by cases h),λh=>?_⟩,I.sub⟩;have:=h x (bI hx);unfold e8 at this;omega
  refine RN 2 E I λa E=>?_;refine⟨zs.length-(i+1),by omega,i+1,⟨rfl,by omega,λj y hj hy=>?_⟩,E.ab [5,6,7],I.sub⟩;by_cases e:j=i
  ·subst e;rw[hx]at hy;cases hy;unfold e8;omega
  ·exact cI j y (by omega) hy
 refine RT 2 E I ?_;refine⟨true,rfl,⟨λ_ x hx=>?_,λ_=>rfl⟩,I.sub⟩;obtain⟨j,hj⟩:=ke.1 hx;exact cI j x (by have:=(a2.1 hj).1;omega) hj
theorem LJ {k n:Int}{b e:Nat}(I:U W w (aa b e [.int .i64 n]::L)) :
   Calls prog 200 #[.int .i64 k,pt b] w λe' w'=>e'=.returned (.bool (decide (0≤k∧k≤n)))∧U W w' (aa b e [.int .i64 n]::L):=by
 refine EN func200 ntmps200 rfl rfl λa E=>?_;refine BY 6 E I (λbD a E=>?_) λbD a E=>?_
 ·
  refine RT 5 E I ?_;refine⟨?_,I.sub⟩
  first
   | (rw[bu (show ¬ (0≤k∧k≤n) by omega)])
   | (congr 2;rw[decide_eq_decide];omega)
 refine RT 5 E I ?_;refine⟨?_,I.sub⟩
 first
  | (rw[bu (show ¬ (0≤k∧k≤n) by omega)])
  | (congr 2;rw[decide_eq_decide];omega)
end
end
section
section
variable {W w:World}{L:List SP}{c:Nat}{ad:Option Addr}
theorem X7 {o:gO}{m:Int}(h:o.code=0):e9 m o↔(o.a=0∧o.b=0∧o.c=0):=by
 simp only[e9,e8];exact⟨λh=>by omega,λh2=>.inl ⟨h,h2⟩⟩
theorem X8 {o:gO}{m:Int}(h:o.code=1):e9 m o↔(e8 o.a∧o.c=0):=by
 simp only[e9,e8];exact⟨λh=>by omega,λh2=>.inr (.inl ⟨h,h2⟩)⟩
theorem X9 {o:gO}{m:Int}(h:o.code=9):e9 m o↔(0≤o.a∧o.a≤m∧o.b=0∧o.c=0):=by
 simp only[e9,e8];exact⟨λh=>by omega,λh2=>.inr (.inr (.inl ⟨h,h2⟩))⟩
theorem Ya {o:gO}{m:Int}(h:o.code=15):e9 m o↔(e8 o.a∧o.b=0∧o.c=0):=by
 simp only[e9,e8];exact⟨λh=>by omega,λh2=>.inr (.inr (.inr (.inl ⟨h,h2⟩)))⟩
theorem LK {o:gO}{m:Int}(h:o.code=10):e9 m o↔(e8 o.a∧0≤o.b∧o.b≤m∧o.c=0):=by
 simp only[e9,e8];exact⟨λh=>by omega,λh2=>.inr (.inr (.inr (.inr (.inl ⟨h,h2⟩))))⟩
theorem Yb {o:gO}{m:Int}(h:o.code=2∨(11≤o.code∧o.code≤14)):e9 m o↔(e8 o.a∧e8 o.b∧o.c=0):=by
 simp only[e9,e8];exact⟨λh=>by omega,λh2=>.inr (.inr (.inr (.inr (.inr (.inl ⟨h,h2⟩)))))⟩
theorem Yc {o:gO}{m:Int}(h:3≤o.code∧o.code≤8):e9 m o↔(e8 o.a∧e8 o.b∧e8 o.c):=by
 simp only[e9,e8];exact⟨λh=>by omega,λh2=>.inr (.inr (.inr (.inr (.inr (.inr ⟨h.1,h.2,h2⟩)))))⟩
theorem tO {o:gO}{m:Int}(h:e9 m o):0≤lW o.code∧(lW o.code<3→o.c=0)∧(lW o.code<2→o.b=0)∧(lW o.code<1→o.a=0):=by
 have hk:=FR o.code;simp only[e9,e8]at h;omega
theorem Yd {o:gO}{m:Nat}(I:U W w L):Calls prog 170 #[.agg (dS o).toArray,.int .i64 m] w λe w'=>∃ r:Bool,e=.returned (.bool r)∧(r=true↔e9 m o)∧U W w' L:=by
 have hk:=FR o.code;have fC:∀ (r:Bool) (P:Prop) (w':World),U W w' L→(r=true↔P)→(P↔e9 m o)→∃ r':Bool,Ending.returned (Value.bool r)=.returned (.bool r')∧(r'=true↔e9 m o)∧U W w' L:=λr P w' h e1 e2=>⟨r,rfl,e1.trans e2,h⟩;refine EN func170 ntmps170 rfl rfl λa E=>?_;refine BX 1 E I λb2 a w E I=>?_;change U W w (aa b2 114 (dS o)::_) at I;refine BX 0 E I λb3 a w E I=>?_;refine CL 7 E I (X4 I) λa w E I=>?_;refine RN 1 E I λa E=>?_;refine b6 (M:=λa w=>(0≤lW o.code∧(lW o.code<3→o.c=0)∧(lW o.code<2→o.b=0)∧(lW o.code<1→o.a=0))∧Fr a 76 [(2,pt b2),(3,pt b3),(5,.func (.func 200) #[] (List.toArray [pt b3]))]∧U W w (aa b3 3 [.int .i64 m]::aa b2 114 (dS o)::L)) ?_ ?_
 ·
  refine BY 4 E I (λbD a E=>?_) λbD a E=>?_
  ·
   refine RT 29 E I ?_;exact fC false False _ I.sub (by simp) ⟨λh=>h.elim,λh=>by have h5:=tO h;omega⟩
  refine BY 3 E I (λjr a E=>?_) λjr a E=>?_
  ·
   refine BY 6 E I (λlq a E=>?_) λlq a E=>?_
   ·
    refine RT 20 E I ?_;exact fC false False _ I.sub (by simp) ⟨λh=>h.elim,λh=>by have h5:=tO h;omega⟩
   refine BY 3 E I (λlp a E=>?_) λlp a E=>?_
   ·
    refine BY 6 E I (λFU a E=>?_) λFU a E=>?_
    ·
     refine RT 11 E I ?_;exact fC false False _ I.sub (by simp) ⟨λh=>h.elim,λh=>by have h5:=tO h;omega⟩
    refine BY 3 E I (λm1 a E=>?_) λm1 a E=>?_
    ·
     refine IF 5 E I (λak a E=>?_) λak a E=>?_
     ·
      refine RT 2 E I ?_;exact fC false False _ I.sub (by simp) ⟨λh=>h.elim,λh=>by have h5:=tO h;omega⟩
     refine RN 0 E I λa E=>?_;exact⟨by omega,E.ab [2,3,5],I.sub⟩
    refine RN 6 E I λa E=>?_;exact⟨by omega,E.ab [2,3,5],I.sub⟩
   refine BY 9 E I (λm1 a E=>?_) λm1 a E=>?_
   ·
    refine IF 5 E I (λak a E=>?_) λak a E=>?_
    ·
     refine RT 2 E I ?_;exact fC false False _ I.sub (by simp) ⟨λh=>h.elim,λh=>by have h5:=tO h;omega⟩
    refine RN 0 E I λa E=>?_;exact⟨by omega,E.ab [2,3,5],I.sub⟩
   refine RN 6 E I λa E=>?_;exact⟨by omega,E.ab [2,3,5],I.sub⟩
  refine BY 9 E I (λlp a E=>?_) λlp a E=>?_
  ·
   refine BY 6 E I (λFU a E=>?_) λFU a E=>?_
   ·
    refine RT 11 E I ?_;exact fC false False _ I.sub (by simp) ⟨λh=>h.elim,λh=>by have h5:=tO h;omega⟩
   refine BY 3 E I (λm1 a E=>?_) λm1 a E=>?_
   ·
    refine IF 5 E I (λak a E=>?_) λak a E=>?_
    ·
     refine RT 2 E I ?_;exact fC false False _ I.sub (by simp) ⟨λh=>h.elim,λh=>by have h5:=tO h;omega⟩
    refine RN 0 E I λa E=>?_;exact⟨by omega,E.ab [2,3,5],I.sub⟩
   refine RN 6 E I λa E=>?_;exact⟨by omega,E.ab [2,3,5],I.sub⟩
  refine BY 9 E I (λm1 a E=>?_) λm1 a E=>?_
  ·
   refine IF 5 E I (λak a E=>?_) λak a E=>?_
   ·
    refine RT 2 E I ?_;exact fC false False _ I.sub (by simp) ⟨λh=>h.elim,λh=>by have h5:=tO h;omega⟩
   refine RN 0 E I λa E=>?_;exact⟨by omega,E.ab [2,3,5],I.sub⟩
  refine RN 6 E I λa E=>?_;exact⟨by omega,E.ab [2,3,5],I.sub⟩
 clear E;(try clear I);rintro a w ⟨o3,E,I⟩;refine IF 7 E I (λao a E=>?_) λao a E=>?_
 ·
  refine RT 2 E I ?_;exact fC true True _ I.sub (by simp) ⟨λ_=>(X7 ao).2 (by omega),λ_=>trivial⟩
 refine IF 3 E I (λay a E=>?_) λay a E=>?_
 ·
  refine RN 3 E I λa E=>?_;refine ct E rfl I lR Ty.t3 rfl rfl rfl rfl (by decide) (by decide) λb48 a w E I ho=>?_;clear ho;refine bg 0 E I (FT (zs:=[o.a]) I (by simp)) λr a w E ⟨hr,I⟩=>?_;refine RT 1 E I ?_;exact fC r _ _ I.sub hr (by rw[X8 ay];simp only[BU,xr,not_mem_nil,false_imp_iff,implies_true,and_true];exact⟨λh=>⟨h,by omega⟩,λh=>h.1⟩)
 refine IF 3 E I (λbl a E=>?_) λbl a E=>?_
 ·
  refine CL 4 E I (LJ (I.j5 b3)) λa w E I=>?_;refine RT 1 E I ?_;exact fC _ _ _ I.sub cu (by rw[X9 bl];omega)
 refine IF 3 E I (λbO a E=>?_) λbO a E=>?_
 ·
  refine RN 3 E I λa E=>?_;refine ct E rfl I lR Ty.t3 rfl rfl rfl rfl (by decide) (by decide) λTG a w E I ho=>?_;clear ho;refine bg 0 E I (FT (zs:=[o.a]) I (by simp)) λr a w E ⟨hr,I⟩=>?_;simp only[BU,xr,not_mem_nil,false_imp_iff,implies_true,and_true]at hr;refine BY 1 E I (λdt a E=>?_) λdt a E=>?_
  ·
   refine CL 3 E I (LJ (I.j5 b3)) λa w E I=>?_;refine RT 2 E I ?_;exact fC _ _ _ I.sub cu (by rw[LK bO];exact⟨λh=>⟨hr.1 dt,h.1,h.2,by omega⟩,λh=>⟨h.2.1,h.2.2.1⟩⟩)
  refine RT 6 E I ?_;exact fC _ False _ I.sub (by simp) (by rw[LK bO];exact⟨λh=>h.elim,λh=>by rw[hr.2 h.1]at dt;cases dt⟩)
 refine RN 7 E I λa E=>?_;refine ct E rfl I lR Ty.t3 rfl rfl rfl rfl (by decide) (by decide) λb74 a w E I ho=>?_;clear ho;refine bg 0 E I (FT (zs:=[o.a,o.b,o.c]) I (by simp)) λr a w E ⟨hr,I⟩=>?_;refine RT 1 E I ?_;refine fC r _ _ I.sub hr ?_;simp only[BU,xr,not_mem_nil,false_imp_iff,implies_true,and_true];have FV:e8 0:=⟨by decide,by decide⟩;rcases hk with hk | ⟨hk,ch⟩ | ⟨hk,ch⟩ | hk | hk
 ·omega
 ·have FW:o.code=15:=by omega
  have tQ:o.b=0:=by omega
  have FX:o.c=0:=by omega
  rw[Ya FW,tQ,FX];exact⟨λh=>⟨h.1,rfl,rfl⟩,λh=>⟨h.1,FV,FV⟩⟩
 ·have FX:o.c=0:=by omega
  rw[Yb (by omega),FX];exact⟨λh=>⟨h.1,h.2.1,rfl⟩,λh=>⟨h.1,h.2.1,FV⟩⟩
 ·rw[Yc ⟨hk.1,hk.2.1⟩]
 ·omega
abbrev bR (p:Pr)(ad:Option Addr)(c:Nat):List Value:=[.string p.title,.slice ad p.ops.length c]
abbrev aA (W:World)(p:Pr)(ad:Option Addr)(c:Nat):SP:=Ro W 114 4 ad p.ops.length c (rows dS p.ops)
def vn (o:gO)(k:Nat):Int:=[o.code,o.a,o.b,o.c].getD k 0
theorem Ye (o:gO){k:Nat}(h:k<4):(dS o)[k]?=some (.int .i64 (vn o k)):=by
 rcases (by omega:k=0∨k=1∨k=2∨k=3) with rfl | rfl | rfl | rfl <;> rfl
set_option maxHeartbeats 4000000 in
theorem Yf {p:Pr}(I:U W w (aA W p ad c::L))(aF:p.title.size≤1000000000)(eb:p.ops.length≤1000000000) :
   Calls prog 169 #[.agg (bR p ad c).toArray] w λe w'=>∃ av n' c',e=.returned (.slice av n' c')∧(av.isNone=true↔¬ xg p)∧U W w' (aA W p ad c::L):=by
 refine EN func169 ntmps169 rfl rfl λa E=>?_;refine BX 1 E I λb1 a w E I=>?_;change U W w (aa b1 45 (bR p ad c)::_) at I;refine RN 1 E I λa E=>?_;refine b6 (M:=λa w=>(p3 p.title=true∧1≤p.ops.length∧p.ops.length≤64)∧Fr a 62 [(1,pt b1)]∧U W w (aa b1 45 (bR p ad c)::aA W p ad c::L)) ?_ ?_
 ·
  refine CL 3 E I (X3 I (by omega)) λa w E I=>?_;refine BY 2 E I (λht a E=>?_) λht a E=>?_
  ·
   refine RT 14 E I ?_;exact⟨none,0,0,rfl,⟨λ_ h=>(by
    obtain⟨h1,h2,h3,_⟩:=h
    first
     | (rw[h1]at ht;cases ht;done)
     | omega),λ_=>rfl⟩,I.sub⟩
  refine BY 6 E I (λmn a E=>?_) λmn a E=>?_
  ·
   refine RT 8 E I ?_;exact⟨none,0,0,rfl,⟨λ_ h=>(by
    obtain⟨h1,h2,h3,_⟩:=h
    first
     | (rw[h1]at ht;cases ht;done)
     | omega),λ_=>rfl⟩,I.sub⟩
  refine IF 5 E I (λak a E=>?_) λak a E=>?_
  ·
   refine RT 2 E I ?_;exact⟨none,0,0,rfl,⟨λ_ h=>(by
    obtain⟨h1,h2,h3,_⟩:=h
    first
     | (rw[h1]at ht;cases ht;done)
     | omega),λ_=>rfl⟩,I.sub⟩
  refine RN 0 E I λa E=>?_;exact⟨⟨ht,by omega,by omega⟩,E.ab [1],I.sub⟩
 clear E;(try clear I);rintro a w ⟨mv,E,I⟩;refine b6 (M:=λa w=>∃ (bs:List UInt8) (iB:Option Addr) (cb:Nat),(1≤bs.length∧bs.length≤p.title.size+30)∧Fr a 62 [(1,pt b1),(3,.slice iB bs.length cb)]∧U W w (Sl 5 1 iB bs.length cb (bc bs)::aa b1 45 (bR p ad c)::aA W p ad c::L)) ?_ ?_
 ·
  refine aV 0 (λw0 w'=>w'.cell? ⟨b1,1,none⟩=some (.slice ad p.ops.length c)∧w'.cell? ⟨b1,0,none⟩=some (.string p.title)) [2,4,5] [0,3,3001,3004,3005,1002,1006,7] E I λa w E I hH=>?_;have ao:w.cell? ⟨b1,1,none⟩=some (.slice ad p.ops.length c):=I.bC rfl;have Yg:w.cell? ⟨b1,0,none⟩=some (.string p.title):=I.bC rfl;have hC:=And.intro ao Yg;refine RH 2 E I hH hC λa E=>?_;refine QH E (λw hc=>ae E (hc.2)) hC λa E=>?_;refine QH E (λw hc=>ae E (hc.1)) hC λa E=>?_;refine RH 1 E I hH hC λa E=>?_;refine aY 0 E I (XY I (by omega)) λc4 dU a w E I=>?_;replace hC:=hH.at w (And.intro (I.bC rfl) (I.bC rfl));have ix:=q3 9 (zz p.title.size) (by rw[zz];split <;> (simp;omega));have zg:p.title.data.toList.length=p.title.size:=rfl;refine RH 0 E I hH hC λa E=>?_;refine aY 0 E I (tM (N:=p.ops.length) (I.pick (Sl 5 1 c4 (aO (zz p.title.size)++p.title.data.toList).length dU (bc (aO (zz p.title.size)++p.title.data.toList)))) (by omega) (by omega) (by rw[aM];omega)) λadq cq a w E I=>?_;refine RN 1 E I λa E=>?_;have tF:=q3 9 (zz p.ops.length) (by rw[zz];split <;> (simp;omega));have w5:=sj (zz p.ops.length);exact⟨_,adq,cq,⟨by rw[aM];omega,by rw[aM,aM];omega⟩,E.ab [1,3],I.sub⟩
 clear E;(try clear I);rintro a w ⟨bs,iB,cb,⟨o4,pL⟩,E,I⟩;refine RN 6 E I λa E=>?_;refine aL (λμ a w=>∃ (i:Nat) (bs:List UInt8) (iB:Option Addr) (cb:Nat),(μ=p.ops.length-i∧i≤p.ops.length∧1≤bs.length∧bs.length≤p.title.size+30+40*i∧∀ j o,j<i→p.ops[j]?=some o→sf o)∧Fr a 62 [(3,.slice iB bs.length cb),(32,.slice ad p.ops.length c),(33,.int .i64 p.ops.length),(34,.int .i64 i)]∧U W w (Sl 5 1 iB bs.length cb (bc bs)::aA W p ad c::L)) (p.ops.length) (⟨0,bs,iB,cb,⟨by simp,by simp,o4,by omega,λj o h=>absurd h (by omega)⟩,E.ab [3,32,33,34],I.sub⟩) ?_;clear E I;rintro μ a w ⟨i,bs,iB,cb,⟨rfl,hi,o4,pL,cI⟩,E,I⟩;refine IF 3 E I (λao a E=>?_) λao a E=>?_
 ·
  obtain⟨o,ho⟩:∃ o,p.ops[i]?=some o:=⟨_,aD (by omega)⟩;obtain⟨ld,oo,hK,gQ⟩:=I.sg ad (by omega);rw[hK]at E;refine RN 3 E I λa E=>?_;refine SS E (bT E rV rfl Ty.t114 (xh gQ ho)) λa E=>?_;refine AL 0 E I λb5 a w E I=>?_;refine SA 0 E I λa w E I=>?_;refine RN 9 E I λa E=>?_;refine SS E (EB E u5 Ty.t230 Ty.t3 rfl rfl) λa E=>?_;change Fr a 62 ((46,.agg (dS o).toArray)::_) at E;refine RN 1 E I λa E=>?_;rw[← hK]at E;refine aL (λμ a w=>∃ (k:Nat) (bs:List UInt8) (iB:Option Addr) (cb:Nat),(μ=4-k∧k≤4∧1≤bs.length∧bs.length≤p.title.size+30+40*i+10*k∧∀ j,j<k→du (vn o j))∧Fr a 62 [(3,.slice iB bs.length cb),(32,.slice ad p.ops.length c),(33,.int .i64 p.ops.length),(34,.int .i64 i),(46,.agg (dS o).toArray),(47,.int .i64 k)]∧U W w (Sl 5 1 iB bs.length cb (bc bs)::aA W p ad c::L)) (4) (⟨0,bs,iB,cb,⟨by simp,by simp,o4,by omega,λj h=>absurd h (by omega)⟩,E.ab [3,32,33,34,46,47],I.sub⟩) ?_;clear E I;rintro μ a w ⟨k,bs,iB,cb,⟨rfl,hk,o4,pL,p6⟩,E,I⟩;refine IF 3 E I (λay a E=>?_) λay a E=>?_
  ·
   refine RN 2 E I λa E=>?_;refine SS E (te E u5 fk rfl Ty.t3 (by omega) (Ye o (by omega))) λa E=>?_;refine BY 6 E I (λbD a E=>?_) λbD a E=>?_
   ·
    refine RT 6 E I ?_;refine⟨none,0,0,rfl,⟨λ_ h=>?_,λ_=>rfl⟩,I.sub⟩;obtain⟨_,_,_,h4⟩:=h;have h5:=h4 o (bI ho);have h6:du (vn o k):=by
     rcases (by omega:k=0∨k=1∨k=2∨k=3) with rfl | rfl | rfl | rfl
     ·exact h5.1
     ·exact h5.2.1
     ·exact h5.2.2.1
     ·exact h5.2.2.2
    simp only[du]at h6;omega
   refine IF 3 E I (λbl a E=>?_) λbl a E=>?_
   ·
    refine RT 2 E I ?_;refine⟨none,0,0,rfl,⟨λ_ h=>?_,λ_=>rfl⟩,I.sub⟩;obtain⟨_,_,_,h4⟩:=h;have h5:=h4 o (bI ho);have h6:du (vn o k):=by
     rcases (by omega:k=0∨k=1∨k=2∨k=3) with rfl | rfl | rfl | rfl
     ·exact h5.1
     ·exact h5.2.1
     ·exact h5.2.2.1
     ·exact h5.2.2.2
    simp only[du]at h6;omega
   refine aY 2 E I (tM (N:=vn o k) (I.pick (Sl 5 1 iB bs.length cb (bc bs))) (by omega) (by omega) (by omega)) λadq cq a w E I=>?_;refine RN 3 E I λa E=>?_;have tF:=q3 9 (zz (vn o k)) (by rw[zz];split <;> (simp;omega));refine⟨4-(k+1),by omega,k+1,bs++aO (zz (vn o k)),adq,cq,⟨rfl,by omega,by rw[aM];omega,by rw[aM];omega,λj hj=>?_⟩,E.ab [3,32,33,34,46,47],I.sub⟩;rcases gX j k with h | h
   ·exact p6 j h
   ·obtain rfl:j=k:=by omega
    simp only[du];omega
  refine RN 0 E I λa E=>?_;obtain rfl:k=4:=by omega
  refine RN 2 E I λa E=>?_;refine⟨p.ops.length-(i+1),by omega,i+1,bs,iB,cb,⟨rfl,by omega,o4,by omega,λj o' hj kH=>?_⟩,E.ab [3,32,33,34],I.sub⟩;rcases gX j i with h | h
  ·exact cI j o' h kH
  ·obtain rfl:j=i:=by omega
   rw[ho]at kH;cases kH;exact⟨p6 0 (by omega),p6 1 (by omega),p6 2 (by omega),p6 3 (by omega)⟩
 refine RT 3 E I ?_;obtain⟨m2,o5,FY,_⟩:=I.bU iB (by omega);refine⟨iB,bs.length,cb,rfl,⟨λh=>(by rw[FY]at h;cases h),λh=>?_⟩,I.sub⟩;exact absurd ⟨mv.1,mv.2.1,mv.2.2,λo' kH=>(by
  obtain⟨j,hj⟩:=ke.1 kH;exact cI j o' (by have:=(a2.1 hj).1;omega) hj)⟩ h
theorem Yh {p:Pr}(I:U W w (aA W p ad c::L))(aF:p.title.size≤1000000000)(eb:p.ops.length≤1000000000) :
   Calls prog 132 #[.agg (bR p ad c).toArray] w λe w'=>∃ r:Int,e=.returned (.int .i64 r)∧(r = -1↔dp p)∧U W w' (aA W p ad c::L):=by
 refine EN func132 ntmps132 rfl rfl λa E=>?_;refine BX 1 E I λb1 a w E I=>?_;change U W w (aa b1 45 (bR p ad c)::_) at I;refine j9 4 E I (Yf (I.pick (aA W p ad c)) aF eb) λagw ne ce a w E ⟨bq,I⟩=>?_;refine IF 1 E I (λak a E=>?_) λak a E=>?_
 ·
  refine RT 2 E I ?_;exact⟨-2,rfl,⟨λh=>absurd h (by decide),λh=>absurd h.1 (bq.1 ak)⟩,I.sub⟩
 have mv:xg p:=Classical.byContradiction λh=>by rw[bq.2 h]at ak;cases ak
 refine RN 6 E I λa E=>?_;refine aL (λμ a w=>∃ i:Nat,(μ=p.ops.length-i∧i≤p.ops.length∧∀ j o,j<i→p.ops[j]?=some o→e9 p.ops.length o)∧Fr a 24 [(1,pt b1),(9,.slice ad p.ops.length c),(10,.int .i64 p.ops.length),(11,.int .i64 i)]∧U W w (aa b1 45 (bR p ad c)::aA W p ad c::L)) (p.ops.length) (⟨0,⟨by simp,by simp,λj o h=>absurd h (by omega)⟩,E.ab [1,9,10,11],I.sub⟩) ?_;clear E I;rintro μ a w ⟨i,⟨rfl,hi,cI⟩,E,I⟩;refine IF 3 E I (λao a E=>?_) λao a E=>?_
 ·
  obtain⟨o,ho⟩:∃ o,p.ops[i]?=some o:=⟨_,aD (by omega)⟩;obtain⟨ld,oo,hK,gQ⟩:=I.sg ad (by omega);rw[hK]at E;refine RN 4 E I λa E=>?_;refine SS E (bT E rV rfl Ty.t114 (xh gQ ho)) λa E=>?_;refine AL 0 E I λb4 a w E I=>?_;refine SA 1 E I λa w E I=>?_;refine bg 5 E I (Yd (o:=o) (m:=p.ops.length) I) λr a w E ⟨hr,I⟩=>?_;refine IF 1 E I (λay a E=>?_) λay a E=>?_
  ·
   refine RT 3 E I ?_;refine⟨i,rfl,⟨λh=>absurd h (by omega),λh=>?_⟩,I.sub⟩;rw[hr.2 (h.2 o (bI ho))]at ay;cases ay
  have p7:r=true:=by simpa using ay
  refine RN 2 E I λa E=>?_;rw[← hK]at E;refine⟨p.ops.length-(i+1),by omega,i+1,⟨rfl,by omega,λj o' hj kH=>?_⟩,E.ab [1,9,10,11],I.sub⟩;rcases gX j i with h | h
  ·exact cI j o' h kH
  ·obtain rfl:j=i:=by omega
   rw[ho]at kH;cases kH;exact hr.1 p7
 refine RT 2 E I ?_;refine⟨-1,rfl,⟨λ_=>⟨mv,λo ho=>?_⟩,λ_=>rfl⟩,I.sub⟩;obtain⟨j,hj⟩:=ke.1 ho;exact cI j o (by have:=(a2.1 hj).1;omega) hj
theorem FZ {p:Pr}(I:U W w (aA W p ad c::L))(aF:p.title.size≤1000000000)(eb:p.ops.length≤1000000000) :
   Calls prog 97 #[.agg (bR p ad c).toArray] w λe w'=>∃ r:Bool,e=.returned (.bool r)∧(r=true↔dp p)∧U W w' (aA W p ad c::L):=by
 refine EN func97 ntmps97 rfl rfl λa E=>?_;refine BX 1 E I λb1 a w E I=>?_;change U W w (aa b1 45 (bR p ad c)::_) at I;refine bg 3 E I (Yh (I.pick (aA W p ad c)) aF eb) λr a w E ⟨hr,I⟩=>?_;refine RT 2 E I ?_;exact⟨_,rfl,by rw[cu];exact hr,I.sub⟩
end
end
end Go.Proofs.YteoldcfapaiobaaGreat
