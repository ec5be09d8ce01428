/- The walks of package job. -/
import Derived.Test.YteoldcfapaiobaaGreatB01Row
import Derived.Test.YteoldcfapaiobaaGreatB03Snap2
import Derived.Lib.AppendStr
namespace Go.Proofs.YteoldcfapaiobaaGreat
open Tryz
open List (mem_cons_self drop_zero take_succ_cons getElem?_take getElem?_drop set_eq_take_append_cons_drop perm_middle getElem?_append_right drop_drop drop_left take_zero take_append nil_append map_cons length_nil cons_append getElem_set_self eraseIdx_set_eq take_length append_nil ext_getElem? mem_or_eq_of_mem_set getElem_mem map_nil length_filter_le flatMap_cons forall_mem_cons not_mem_nil)
open Go.RowKit
set_option linter.unusedVariables false
set_option linter.unusedSimpArgs false
set_option maxRecDepth 10000
set_option synthInstance.maxSize 4000
set_option synthInstance.maxHeartbeats 400000
section
def jc (l:List (Int×Int)):List Value:=l.flatMap λj=>[.int .i64 j.1,.int .i64 j.2]
theorem o3 (l:List (Int×Int)):(jc l).length=l.length*2:=by
 induction l with
 | nil=>rfl
 | cons x l ih=>simp only[jc,flatMap_cons,aM,fc,length_nil] at *;omega
theorem I1 (l m:List (Int×Int)):jc (l++m)=jc l++jc m:=by simp[jc]
theorem I2 (l:List (Int×Int))(i:Nat):(jc l).drop (i*2)=jc (l.drop i):=by
 induction i generalizing l with
 | zero=>simp
 | succ i ih =>
  cases l with
  | nil=>simp[jc]
  | cons x l =>
   have:(i+1)*2=i*2+2:=by omega
   rw[this];simp only[jc,flatMap_cons,List.drop_succ_cons] at *;rw[← ih l];simp
theorem I3 (l:List (Int×Int))(i:Nat):(jc l).take (i*2)=jc (l.take i):=by
 induction i generalizing l with
 | zero=>simp[jc]
 | succ i ih =>
  cases l with
  | nil=>simp[jc]
  | cons x l =>
   have:(i+1)*2=i*2+2:=by omega
   rw[this];simp only[jc,flatMap_cons,take_succ_cons] at *;rw[← ih l];simp
theorem Dd (l:List (Int×Int))(i:Nat)(h:i<l.length):((jc l).drop (i*2)).take 2=[.int .i64 l[i].1,.int .i64 l[i].2]:=by
 rw[I2,kb h];simp only[jc,flatMap_cons,cons_append,nil_append,take_succ_cons,take_zero]
def fi (p:Int×Int→Bool)(l:List (Int×Int)):Int:=if l.findIdx p<l.length then (l.findIdx p:Int) else -1
theorem UR (p:Int×Int→Bool)(l:List (Int×Int)):decide (0≤fi p l)=l.any p:=by
 unfold fi;split <;> rename_i h
 ·have:=List.findIdx_lt_length.1 h;simp only[List.any_eq_true.2 this];simp
 ·rw[List.findIdx_lt_length]at h;have:l.any p=false:=by rw[← Bool.not_eq_true,List.any_eq_true];exact h
  simp[this]
theorem US (p:Int×Int→Bool)(l:List (Int×Int))(i:Nat)(hi:i<l.length)(h0:∀ j,(h:j<i)→p (l[j]'(by omega))=false)(h1:p l[i]=true):fi p l=i:=by
 have:l.findIdx p=i:=(List.findIdx_eq hi).2 ⟨h1,λj hj=>h0 j hj⟩;simp[fi,this,hi]
theorem UT (p:Int×Int→Bool)(l:List (Int×Int))(h0:∀ j,(h:j<l.length)→p l[j]=false):fi p l = -1:=by
 have:¬ l.findIdx p<l.length:=by
  rw[List.findIdx_lt_length];rintro⟨x,hx,hp⟩;obtain⟨j,hj,rfl⟩:=List.mem_iff_getElem.1 hx;rw[h0 j hj]at hp;cases hp
 simp[fi,this]
theorem UU {q:Nat→Prop}{i:Nat}(h:∀ j,j<i→q j)(h1:q i):∀ j,j<i+1→q j:=λj hj=>by
 rcases Nat.lt_or_ge j i with h' | h'
 ·exact h j h'
 ·obtain rfl:j=i:=by omega
  exact h1
def vy (W:World)(L:List SP)(f:Nat)(us:List Value)(p:Int×Int→Bool):Prop :=
 ∀ w (x:Int×Int),U W w L→Calls prog f ([Value.agg #[.int .i64 x.1,.int .i64 x.2]]++us).toArray w λe V=>e=.returned (.bool (p x))∧U W V L
theorem zE {W w:World}{L R:List SP}{a e:Nat}{s:Option Addr}{n c:Nat}(I:U W w L) [fD L a e [.slice s n c] R] :
   Calls prog 207 #[pt a] w λe V=>e=.returned (.int .i64 n)∧U W V L:=by
 refine EN func207 ntmps207 rfl rfl λa E=>?_;refine RN 6 E I λa E=>?_;replace E:=E.aK 4;refine RT 8 E I ?_;exact⟨rfl,I⟩
theorem UW {W:World}{L R:List SP}{b e:Nat}{x1 x2:Int} [fD L b e [.int .i64 x1,.int .i64 x2] R] :
   vy W L 210 [pt b] (λy=>decide (y.1=x1)):=by
 rintro w ⟨De,Df⟩ I;refine EN func210 ntmps210 rfl rfl λa E=>?_;refine BX 1 E I λb2 a w E I=>?_;refine RT 8 E I ?_;exact⟨rfl,I.tail⟩
theorem I4 {W w:World}{L R:List SP}{ad:Option Addr}{c f:Nat}{us:List Value}{l:List (Int×Int)}{p:Int×Int→Bool}(I:U W w L)[pk:fL L ad l.length c 245 2 (jc l) R]
   (hc:g4 prog f=true) (hf:vy W L f us p) (hl:l.length≤140737488355328) :
   Calls prog 232 #[.slice ad l.length c,.func (.func f) #[] us.toArray] w λe V=>e=.returned (.int .i64 (fi p l))∧U W V L:=by
 refine EN func232 ntmps232 rfl rfl λa E=>?_;refine RN 7 E I λa E=>?_;refine aP (λμ a w=>∃ i:Nat,(μ=l.length-i∧i≤l.length∧(∀ j,j<i→∀ h:j<l.length,p l[j]=false))∧Fr a 19 [(0,.slice ad l.length c),(1,.func (.func f) #[] us.toArray),(4,.int .i64 0),(7,.int .i64 l.length),(8,.int .i64 i)]∧U W w L) (l.length) (⟨0,⟨by simp,by simp,λj h=>by omega⟩,E.ab [0,1,4,7,8],I⟩) ?_;clear E I;rintro μ a w ⟨i,⟨rfl,hi,hp⟩,E,I⟩;refine IF 3 E I (λaj a E=>?_) λaj a E=>?_
 ·
  obtain⟨b,off,rfl,dk⟩:=I.bW ad (by omega);have aG:i<l.length:=by omega
  have hr:=dk.part (i*2) 2;rw[Dd l i aG]at hr;refine RN 9 E I λa E=>?_;refine SS E (bR E underlying245 rfl Ty.t245 (hr)) λa E=>?_;refine CL 0 E I (hf _ l[i] I) (hf:=hc) λa w E I=>?_;refine IF 0 E I (λao a E=>?_) λao a E=>?_
  ·
   refine RT 3 E I ?_;exact⟨by rw[US p l i aG (λj hj=>hp j hj (by omega)) ao],I⟩
  refine RN 2 E I λa E=>?_;exact⟨l.length-(i+1),by omega,i+1,⟨rfl,by omega,UU hp (λ_=>ao)⟩,E.ab [0,1,4,7,8],I⟩
 refine RT 2 E I ?_;exact⟨by rw[UT p l (λj hj=>hp j (by omega) hj)],I⟩
theorem UX {W w:World}{L R:List SP}{ad:Option Addr}{c f:Nat}{us:List Value}{l:List (Int×Int)}{p:Int×Int→Bool}(I:U W w L)[pk:fL L ad l.length c 245 2 (jc l) R]
   (hc:g4 prog f=true) (hf:vy W L f us p) (hl:l.length≤140737488355328) :
   Calls prog 209 #[.slice ad l.length c,.func (.func f) #[] us.toArray] w λe V=>e=.returned (.bool (l.any p))∧U W V L:=by
 refine EN func209 ntmps209 rfl rfl λa E=>?_;refine CL 5 E I (I4 I hc hf hl) λa w E I=>?_;refine RT 2 E I ?_;exact⟨by rw[UR],I⟩
def bK (q:Nat)(l:List (Int×Int)):SP:=λh=>∃ i:Option Addr×Nat,cn [aa q 243 [.slice i.1 l.length i.2],Sl 245 2 i.1 l.length i.2 (jc l)] h
theorem bK.open {W w:World}{L:List SP}{q:Nat}{l:List (Int×Int)}(I:U W w (bK q l::L)) :
   ∃ ad c,U W w (aa q 243 [.slice ad l.length c]::Sl 245 2 ad l.length c (jc l)::L):=by
 obtain⟨i,_,h⟩:=I.jt (p:=λ_=>True) (B:=λi:Option Addr×Nat=>cn [aa q 243 [.slice i.1 l.length i.2],Sl 245 2 i.1 l.length i.2 (jc l)]) (λ_ ⟨i,h⟩=>⟨i,trivial,h⟩);exact⟨i.1,i.2,h.open (λ_ x=>x)⟩
theorem bK.shut {W w:World}{L R R2:List SP}{q n c:Nat}{ad:Option Addr}{cs:List Value}{l:List (Int×Int)}(I:U W w L)[k:fD L q 243 [.slice ad n c] R][k2:fL R ad n c 245 2 cs R2]
   (hn:n=l.length) (hc:cs=jc l):U W w (bK q l::R2):=by
 subst hn;subst hc;have h1:=(I.perm k.perm).perm (List.Perm.cons _ k2.perm);exact U.shut (M:=[_,_]) h1 λ_ x=>⟨(ad,c),x⟩
theorem UY {W w:World}{L:List SP}(I:U W w L) :
   Calls prog 90 #[] w λe V=>∃ q,e=.returned (pt q)∧U W V (bK q []::L):=by
 refine EN func90 ntmps90 rfl rfl λa E=>?_;refine BX 4 E I λb2 a w E I=>?_;refine RT 1 E I ?_;exact⟨_,rfl,by
  have h1:=(I.bO 245 2 none);exact (bK.shut (q:=b2) (l:=[]) h1 rfl rfl).sub⟩
def p8 (l:List (Int×Int))(b:Int):Bool:=decide (l.length<16)&&!l.any (λy=>decide (y.1=b))
theorem zF {W w:World}{L:List SP}{q:Nat}{l:List (Int×Int)}{b e:Int}(I:U W w (bK q l::L))(hl:l.length≤16) :
   Calls prog 182 #[pt q,.agg #[.int .i64 b,.int .i64 e]] w λr V =>
    r=.returned (.bool (p8 l b))∧U W V (bK q (if p8 l b then l++[(b,e)] else l)::L):=by
 obtain⟨ad,c,I⟩:=bK.open I;refine EN func182 ntmps182 rfl rfl λa E=>?_;refine BX 1 E I λb3 a w E I=>?_;refine RN 6 E I λa E=>?_;replace E:=E.aK 7;refine BY 8 E I (λlF a E=>?_) λlF a E=>?_
 ·
  have hm:p8 l b=false:=by simp only[p8,Bool.and_eq_false_iff,decide_eq_false_iff_not];left;omega
  refine RT 10 E I ?_;exact⟨by rw[hm],by rw[hm,ag (by decide)];exact (bK.shut (q:=q) (ad:=ad) (l:=l) I rfl rfl).sub⟩
 refine CL 5 E I (UX I (by kernel_rfl) UW (by omega)) λa w E I=>?_;refine IF 1 E I (λaj a E=>?_) λaj a E=>?_
 ·
  have hm:p8 l b=false:=by simp only[p8,aj,Bool.not_true,Bool.and_false]
  refine RT 2 E I ?_;exact⟨by rw[hm],by rw[hm,ag (by decide)];exact (bK.shut (q:=q) (ad:=ad) (l:=l) I rfl rfl).sub⟩
 have hm:p8 l b=true:=by simp only[p8,aj,Bool.not_false,Bool.and_true,decide_eq_true_eq];omega
 refine bS 1 [5,6] [0,1,2,3,3004,1005,1006,1007,8,9,1010] E I λa w E I hH hC=>?_;refine RH 6 E I hH hC λa E=>?_;refine cp E rfl I underlying241 Ty.t245 rfl rfl rfl rfl (by decide) (by decide) λUZ a w E I ho=>?_;replace hC:=hC.trans ho;clear ho;refine RH 0 E I hH hC λa E=>?_;refine cQ E rfl I underlying241 Ty.t245 rfl rfl I.ai rfl (by simp[Value.oneCell']) (by decide) (by decide) (by omega) λI5 I6 a w E I=>?_;refine ST 2 E I (λa w E I=>?_);refine RT 2 E I ?_;exact⟨by rw[hm],by rw[hm,al rfl];exact (bK.shut (q:=q) (l:=l++[(b,e)]) I (by simp) (by simp[I1,jc])).sub⟩
theorem U1 {W w:World}{L:List SP}{q:Nat}(I:U W w (bK q []::L)) :
   Calls prog 180 #[pt q] w λr V =>
    r=.returned (.tuple #[.agg #[.int .i64 0,.int .i64 0],.bool false])∧U W V (bK q []::L):=by
 obtain⟨ad,c,I⟩:=bK.open I;refine EN func180 ntmps180 rfl rfl λa E=>?_;refine AL 1 E I λb2 a w E I=>?_;refine CL 4 E I (zE (a:=q) I) λa w E I=>?_;refine IF 1 E I (λaj a E=>?_) λaj a E=>?_
 ·
  skip
  refine SA 2 E I λa w E I=>?_;refine RT 1 E I ?_;exact⟨rfl,(bK.shut (q:=q) (ad:=ad) (l:=[]) I rfl rfl).sub⟩
 exact absurd rfl aj
theorem U6 {W w:World}{L:List SP}{q:Nat}{x:Int×Int}{l:List (Int×Int)}(I:U W w (bK q (x::l)::L)) :
   Calls prog 180 #[pt q] w λr V =>
    r=.returned (.tuple #[.agg #[.int .i64 x.1,.int .i64 x.2],.bool true])∧U W V (bK q l::L):=by
 obtain⟨ad,c,I⟩:=bK.open I;have b9:=(I.sl ad).2;refine EN func180 ntmps180 rfl rfl λa E=>?_;refine AL 1 E I λb2 a w E I=>?_;refine CL 4 E I (zE (a:=q) I) λa w E I=>?_;refine IF 1 E I (λaj a E=>?_) λaj a E=>?_
 ·
  simp at aj;omega
 refine RN 1 E I λa E=>?_;obtain⟨b,off,rfl,dk⟩:=I.bW ad (by simp);have hr:=dk.part 0 2;rw[show 0=0*2 from rfl,Dd (x::l) 0 (by simp)]at hr;refine SX 4 E I (by simp) λa E=>?_;refine RN 0 E I λa E=>?_;refine SS E (bR E underlying245 rfl Ty.t245 (hr)) λa E=>?_;refine AL 0 E I λb4 a w E I=>?_;refine SA 0 E I λa w E I=>?_;refine SX 6 E I (by simp) λa E=>?_;replace I:=I.Cc (some ⟨b,off,none⟩) 1 (x::l).length (by simp) (bk _);refine ST 2 E I (λa w E I=>?_);refine SA 2 E I λa w E I=>?_;refine RT 1 E I ?_;exact⟨rfl,(bK.shut (q:=q) (l:=l) I (by simp) (by simp[jc];rw[fY];exact Nat.le_of_eq (o3 l))).sub⟩
def kept (p:Int×Int→Bool)(l:List (Int×Int)):List (Int×Int):=l.filter λx=>!p x
theorem Dg (p:Int×Int→Bool)(l:List (Int×Int))(j:Nat)(h:j<l.length):kept p (l.take (j+1))=kept p (l.take j)++(if p l[j] then [] else [l[j]]):=by
 rw[iZ h,kept,List.filter_append];cases hp:p l[j] <;> simp[kept,hp]
theorem I7 (p:Int×Int→Bool)(l:List (Int×Int))(h:fi p l = -1):kept p l=l:=by
 unfold fi at h;split at h
 ·omega
 ·rename_i h1;rw[List.findIdx_lt_length]at h1;exact List.filter_eq_self.2 λx hx=>by
   cases hp:p x with
   | false=>rfl
   | true=>exact absurd ⟨x,hx,hp⟩ h1
theorem U7 (p:Int×Int→Bool)(l:List (Int×Int))(h:¬ fi p l = -1):∃ k:Nat,fi p l=(k:Int)∧k<l.length∧kept p (l.take (k+1))=l.take k:=by
 unfold fi at h ⊢;split at h
 ·rename_i h1;refine⟨l.findIdx p,by rw[al h1],h1,?_⟩;rw[Dg p l _ h1,List.findIdx_getElem (w:=h1),al rfl,append_nil];refine List.filter_eq_self.2 λx hx=>?_;obtain⟨j,hj,rfl⟩:=List.mem_iff_getElem.1 hx;simp only[ez]at hj;have:=List.not_of_lt_findIdx (p:=p) (xs:=l) (i:=j) (by omega);simp at this ⊢;exact this
 ·exact absurd rfl h
theorem U8 {pre post:List Value}(l:List (Int×Int))(i:Nat)(h:i<l.length):((pre++jc l++post).drop (pre.length+i*2)).take 2=[.int .i64 l[i].1,.int .i64 l[i].2]:=by
 rw[dA,← drop_drop,drop_left,List.drop_append_of_le_length (by rw[o3];omega),List.take_append_of_le_length (by simp[o3];omega)];exact Dd l i h
theorem Va {pre post:List Value}(l:List (Int×Int))(i:Nat)(x:Int×Int)(h:i<l.length) :
   cD (pre++jc l++post) (pre.length+i*2) [.int .i64 x.1,.int .i64 x.2]=pre++jc (l.set i x)++post:=by
 have qU:l.set i x=l.take i++x::l.drop (i+1):=by rw[set_eq_take_append_cons_drop,al h]
 have e1:(pre++jc l++post).take (pre.length+i*2)=pre++jc (l.take i):=by
  rw[dA,take_append,fY (by omega),show pre.length+i*2-pre.length=i*2 from by omega,List.take_append_of_le_length (by rw[o3];omega),I3]
 have e2:(pre++jc l++post).drop (pre.length+i*2+2)=jc (l.drop (i+1))++post:=by
  rw[dA,Nat.add_assoc,← drop_drop,drop_left,show i*2+2=(i+1)*2 from by omega,List.drop_append_of_le_length (by rw[o3];omega),I2]
 rw[cD,e1];show _++_++(pre++jc l++post).drop (pre.length+i*2+2)=_;rw[e2,qU,I1];simp[jc]
structure Dl (p:Int×Int→Bool)(l l':List (Int×Int))(i j:Nat):Prop where
 len:l'.length=l.length
 le:j≤l.length
 lt:i<j
 cR:i=(kept p (l.take j)).length
 fst:l'.take i=kept p (l.take j)
 snd:l'.drop j=l.drop j
theorem Dl.get {p l l' i j}(d:Dl p l l' i j)(h:j<l.length):l'[j]'(by have:=d.len;omega)=l[j]:=by
 have h1:=d.snd;rw[kb (by have:=d.len;omega),kb h]at h1;exact (List.cons.inj h1).1
theorem Dl.ab {p l l' i j}(d:Dl p l l' i j)(h:j<l.length)(hp:p l[j]=false):Dl p l (l'.set i l[j]) (i+1) (j+1):=by
 have hi:i<l'.length:=by have:=d.len;have:=d.lt;omega
 have hk:=Dg p l j h;rw[hp]at hk;refine⟨by simp[d.len],by omega,by have:=d.lt;omega,?_,?_,?_⟩
 ·rw[hk];simp[← d.cR]
 ·rw[hk,← d.fst,set_eq_take_append_cons_drop,al hi,take_append,fY (by simp;omega)];have:(l'.take i).length=i:=by simp;omega
  simp[this]
 ·have h1:=d.snd;rw[List.drop_set_of_lt (by have:=d.lt;omega)];have:=congrArg (List.drop 1) h1;simpa [drop_drop] using this
theorem Dl.skip {p l l' i j}(d:Dl p l l' i j)(h:j<l.length)(hp:p l[j]=true):Dl p l l' i (j+1):=by
 have hk:=Dg p l j h;rw[hp]at hk;simp only[if_true,append_nil]at hk;refine⟨d.len,by omega,by have:=d.lt;omega,by rw[hk];exact d.cR,by rw[hk];exact d.fst,?_⟩;have:=congrArg (List.drop 1) d.snd;simpa [drop_drop] using this
theorem Vb {W w:World}{L:List SP}{ad:Option Addr}{c f:Nat}{us:List Value}{l:List (Int×Int)}{p:Int×Int→Bool}(I:U W w (Sl 245 2 ad l.length c (jc l)::L))
   (hc:g4 prog f=true) (hf:∀ A,vy W (A::L) f us p) (ju:∀ A B,vy W (A::B::L) f us p) (hl:l.length≤140737488355328) :
   Calls prog 321 #[.slice ad l.length c,.func (.func f) #[] us.toArray] w λe V =>
    ∃ av c',e=.returned (.slice av (kept p l).length c')∧U W V (Sl 245 2 av (kept p l).length c' (jc (kept p l))::L):=by
 refine EN func321 ntmps321 rfl rfl λa E=>?_;refine CL 5 E I (I4 (p:=p) I hc (hf _) hl) λa w E I=>?_;refine IF 5 E I (λaj a E=>?_) λaj a E=>?_
 ·
  refine RT 3 E I ?_;exact⟨ad,c,by rw[I7 p l aj],by rw[I7 p l aj];exact I⟩
 obtain⟨k,hk,dO,jL⟩:=U7 p l aj;rw[hk]at E;have b9:=(I.sl ad).2;have hA:=E;obtain⟨b,pre,post,⟨dj,dW,rfl,a4⟩,j8⟩:=I.lC (by omega);have E:=hA;have I:=j8;refine RN 5 E I λa E=>?_;refine aP (λμ a w=>∃ i j:Nat,∃ l':List (Int×Int),(μ=l.length-j∧Dl p l l' i j)∧Fr a 42 [(0,.slice (some ⟨b,pre.length,none⟩) l.length c),(1,.func (.func f) #[] us.toArray),(4,.slice none 0 0),(5,.int .i64 i),(6,.int .i64 j)]∧U W w (aa b 245 (pre++jc l'++post)::L)) (l.length-(k+1)) (⟨k,k+1,l,⟨rfl,rfl,by omega,by omega,by rw[jL];simp;omega,by rw[jL],rfl⟩,E.ab [0,1,4,5,6],I⟩) ?_;clear E I;rintro μ a w ⟨i,j,l',⟨rfl,hd⟩,E,I⟩;have sm:=hd.len;have ki:=hd.le;have hd3:=hd.lt;refine IF 6 E I (λao a E=>?_) λao a E=>?_
 ·
  have eH:j<l.length:=by omega
  have Vc:=hd.get eH;have hr:Rd w b (pre.length+j*2) [.int .i64 l[j].1,.int .i64 l[j].2]:=by
   intro q v hq;rw[I.cell];have:=U8 (pre:=pre) (post:=post) l' j (by omega);rw[Vc]at this;rw[← this]at hq;rw[getElem?_take]at hq;split at hq
   ·rw[getElem?_drop]at hq;exact hq
   ·cases hq
  refine RN 5 E I λa E=>?_;refine SS E (bR E underlying245 rfl Ty.t245 (hr)) λa E=>?_;refine AL 0 E I λdv a w E I=>?_;refine SA 0 E I λa w E I=>?_;refine CL 3 E I (ju _ _ _ l[j] I) (hf:=hc) λa w E I=>?_;refine IF 1 E I (λaz a E=>?_) λaz a E=>?_
  ·
   refine RN 5 E I λa E=>?_;refine qy E rfl I Ty.t245 (by simp[Value.oneCell']) (by simp[o3];omega) λa w E I=>?_;rw[Va l' i l[j] (by omega)]at I;refine RN 6 E I λa E=>?_;exact⟨l.length-(j+1),by omega,i+1,j+1,_,⟨rfl,hd.ab eH az⟩,E.ab [0,1,4,5,6],I.sub⟩
  refine RN 3 E I λa E=>?_;exact⟨l.length-(j+1),by omega,i,j+1,l',⟨rfl,hd.skip eH az⟩,E.ab [0,1,4,5,6],I.sub⟩
 obtain rfl:j=l.length:=by omega
 have xj:=hd.cR;have I8:=hd.fst;rw[take_length]at xj I8;refine RN 4 E I λa E=>?_;rw[oN (by omega)]at E;have hle:pre.length+i*2+(l.length-i)*2≤(pre++jc l'++post).length:=by simp only[aM,o3,sm];omega
 refine HK E rfl I underlying241 Ty.t245 rfl rfl hle λa w E I=>?_;refine RN 4 E I λa E=>?_;rw[oN (by omega)]at E;refine RT 1 E I ?_;refine⟨some ⟨b,pre.length+0*2,none⟩,c,by rw[xj];rfl,?_⟩;generalize hz:(Builtin.zeroCells (Value.cells (.agg #[.int .i64 0,.int .i64 0])) (l.length-i)).toList=zs at I;have iW:zs.length=(l.length-i)*2:=by rw[← hz];exact wX 0 (a2:=0) rfl _
 have he:cD (pre++jc l'++post) (pre.length+i*2) zs=pre++jc (kept p l)++(zs++post):=by
  have e1:(pre++jc l'++post).take (pre.length+i*2)=pre++jc (kept p l):=by
   rw[dA,take_append,fY (by omega),show pre.length+i*2-pre.length=i*2 from by omega,List.take_append_of_le_length (by rw[o3];omega),I3,I8]
  have e2:(pre++jc l'++post).drop (pre.length+i*2+zs.length)=post:=by
   rw[iW,List.drop_append,List.drop_of_length_le (by simp only[aM,o3];omega),nil_append];simp only[aM,o3,sm];have:pre.length+i*2+(l.length-i)*2-(pre.length+l.length*2)=0:=by omega
   rw[this,drop_zero]
  rw[cD,e1,e2];simp
 rw[he]at I;exact U.iL I (o3 _) (by omega) (by rw[← xj,aM,iW];omega)
theorem I9 {W:World}{L R:List SP}{b t:Nat}{x:Int} [fD L b t [.int .i64 x] R] :
   vy W L 322 [pt b] (λy=>decide (y.2<x)):=by
 rintro w ⟨De,Df⟩ I;refine EN func322 ntmps322 rfl rfl λa E=>?_;refine BX 1 E I λb2 a w E I=>?_;refine RT 7 E I ?_;exact⟨rfl,I.tail⟩
theorem Vd {W w:World}{L:List SP}{q:Nat}{l:List (Int×Int)}{e:Int}(I:U W w (bK q l::L))(hl:l.length≤16) :
   Calls prog 307 #[pt q,.int .i64 e] w λr V =>
    r=.returned (.int .i64 ((l.length:Int)-(kept (λy=>decide (y.2<e)) l).length))∧U W V (bK q (kept (λy=>decide (y.2<e)) l)::L):=by
 obtain⟨ad,c,I⟩:=bK.open I;have hk:(kept (λy=>decide (y.2<e)) l).length≤l.length:=length_filter_le _ _;refine EN func307 ntmps307 rfl rfl λa E=>?_;refine BX 1 E I λb3 a w E I=>?_;refine CL 3 E I (zE (a:=q) I) λa w E I=>?_;refine RN 5 E I λa E=>?_;replace E:=E.dX 9;refine a6 7 E I (Vb (I.pick (Sl 245 2 ad l.length c (jc l))) (by kernel_rfl) (p:=λy=>decide (y.2<e)) (λA=>I9) (λA B=>I9) (by omega)) λav c' a w E I=>?_;refine ST 2 E I (λa w E I=>?_);refine CL 3 E I (zE (a:=q) I) λa w E I=>?_;refine RT 2 E I ?_;exact⟨rfl,(bK.shut (q:=q) (ad:=av) (l:=kept (λy=>decide (y.2<e)) l) I rfl rfl).sub⟩
theorem Ve {W w:World}{L:List SP}{q:Nat}{l:List (Int×Int)}(I:U W w (bK q l::L)) :
   Calls prog 180 #[pt q] w λr V =>
    r=.returned (.tuple #[.agg #[.int .i64 (l.headD (0,0)).1,.int .i64 (l.headD (0,0)).2],.bool (!l.isEmpty)])∧U W V (bK q l.tail::L):=by
 cases l with
 | nil=>exact U1 I
 | cons x l=>exact U6 I
class vz (L:List SP)(q:Nat)(l:outParam (List (Int×Int)))(R:outParam (List SP)):Prop where perm:L.Perm (bK q l::R)
instance vz.head {L q l}:vz (bK q l::L) q l L:=⟨List.Perm.refl _⟩
instance (priority:=low) vz.tail {A L q l R}[h:vz L q l R]:vz (A::L) q l (A::R):=⟨(List.Perm.cons A h.perm).trans (List.Perm.swap _ _ _)⟩
theorem U.tL {W w:World}{L R:List SP}{l:List (Int×Int)}(I:U W w L)(q:Nat)[k:vz L q l R]:U W w (bK q l::R):=I.perm k.perm
theorem Ja {x:Int}:decide (x≠x)=false:=by simp
end
section
structure Wk where
 busy:Bool
 jb:Int
 je:Int
 x:Nat
 done:Nat
 mi:Bool
def kR:Wk:=⟨false,0,0,0,0,false⟩
abbrev Js:=List (Int×Int)
def lG (J:Js)(b e:Int):Js:=if p8 J b then J++[(b,e)] else J
inductive lh (p:Pr)(A:Sn)(T:Tr)(J:Js)(k:Wk):Bool→Sn→Tr→Js→Wk→Prop
 | idle:k.busy=false→J=[]→lh p A T J k false A T J k
 | xw {j:Int×Int} {J':Js}:k.busy=false→J=j::J'→(j.2≠T.epoch∨(∀ y∈T.l,(y.id:Int)≠j.1)∨∃ x∈T.l,(x.id:Int)=j.1∧x.ak.length≤x.done)→lh p A T J k true A T J' k
 | Dh {j : Int × Int} {J' : Js} {i : Nat} {x : Br} {px : aD} : k.busy = false → J = j :: J' → j.2 = T.epoch → x ∈ T.l → (x.id : Int) = j.1 → x.done < x.ak.length → A.au[i]? = some px → px.id = x.snap →
     lh p A T J k true (A.add px.g px.p) T J' ⟨true,j.1,j.2,A.last+1,x.done,false⟩
 | gone:k.busy=true→(k.je≠T.epoch∨∀ y∈T.l,(y.id:Int)≠k.jb)→lh p A T J k true (A.eA k.x) T J { k with busy:=false }
 | mi {x : Br} {i : Nat} {px : aD} {p' : Nat → Nat} {b : List UInt8} : k.busy = true → k.je = T.epoch → x ∈ T.l → (x.id : Int) = k.jb → k.mi = false → A.au[i]? = some px → px.id = k.x → x.ak[k.done]? = some b →
     dQ (e0 p (x.frm+k.done) b px.g)→lh p A T J k true { A with au:=A.au.set i ⟨px.id,px.refs,e0 p (x.frm+k.done) b px.g,p'⟩ } T J { k with mi:=true }
 | failed {x:Br}:k.busy=true→k.je=T.epoch→x∈T.l→(x.id:Int)=k.jb→k.mi=false→¬ 4*A.au.length≤A.room→lh p A T J k true (A.eA k.x) T (lG J k.jb k.je) { k with busy:=false }
 | iz {x : Br} {kk : Nat} : k.busy = true → k.je = T.epoch → T.l[kk]? = some x → (x.id : Int) = k.jb → k.mi = true → x.done < k.done + 1 → k.done + 1 ≤ x.ak.length →
     lh p A T J k true (A.eA x.snap) (T.iz kk x (k.done+1) k.x) (if k.done+1<x.ak.length then lG J k.jb k.je else J) { k with busy:=false }
 | lost {x:Br}:k.busy=true→k.je=T.epoch→x∈T.l→(x.id:Int)=k.jb→k.mi=true→k.done+1≤x.done→lh p A T J k true (A.eA k.x) T (if x.done<x.ak.length then lG J k.jb k.je else J) { k with busy:=false }
def jf (ws:List Wk):List Nat:=(ws.filter (·.busy)).map (·.x)
structure Inv (p:Pr)(F:Int)(g0:Nat→Int)(t:Nat→Nat)(base:Nat)(A:Sn)(T:Tr)(ws:List Wk):Prop where
 perm:(A.au.map (·.id)).Perm (base::(T.l.map (·.snap)++jf ws))
 au:∀ x∈A.au,x.refs=1∧dQ x.g
 base:∀ x∈A.au,x.id=base→x.g=g0∧x.p=t
 ga:∀ y∈T.l,y.frm=F∧∀ x∈A.au,x.id=y.snap→x.g=foldI p F g0 (y.ak.take y.done)
 lj:∀ k∈ws,k.jb≤T.last∧(k.busy=true→∀ y∈T.l,(y.id:Int)=k.jb→k.done<y.ak.length∧∀ x∈A.au,x.id=k.x→x.g=foldI p F g0 (y.ak.take (k.done+if k.mi then 1 else 0)))
theorem jO {α:Type}{f:α→Bool}{l:List α}{x:α}(h:x∈l.filter f):x∈l:=(List.mem_filter.1 h).1
theorem WF.n0 {A:Sn}(h:WF A):(A.au.map (·.id)).Nodup:=h.sorted.imp (λh=>Nat.ne_of_lt h)
theorem WT.same {T:Tr}(h:WT T){x y:Br}(hx:x∈T.l)(hy:y∈T.l)(he:x.id=y.id):x=y:=by
 obtain⟨i,hi⟩:=jM.1 hx;obtain⟨j,hj⟩:=jM.1 hy;obtain rfl:=h.unique hj hi he;rw[hi]at hj;cases hj;rfl
theorem Vf {α:Type}{f:α→Nat}:∀ {l:List α} {i:Nat} (hd:(l.map f).Nodup) (hi:i<l.length),l.filter (λx=>f x != f l[i])=l.eraseIdx i:=by
 intro l
 induction l with
 | nil=>intro i _ hi;simp at hi
 | cons a l ih =>
  intro i hd hi;rw[map_cons,List.nodup_cons]at hd;cases i with
  | zero =>
   rw[List.getElem_cons_zero,List.filter_cons_of_neg (by simp),List.eraseIdx_cons_zero,List.filter_eq_self];intro y hy;simp only[bne_iff_ne,ne_eq];intro e;exact hd.1 (e ▸ c0.2 ⟨y,hy,rfl⟩)
  | succ i =>
   have u9:i<l.length:=by simpa using hi
   rw[List.getElem_cons_succ,List.filter_cons_of_pos,List.eraseIdx_cons_succ,ih hd.2 u9];simp only[bne_iff_ne,ne_eq];intro e;exact hd.1 (e ▸ c0.2 ⟨l[i],getElem_mem _,rfl⟩)
theorem zG {A:Sn}(hw:WF A)(hr:∀ x∈A.au,x.refs=1)(id:Nat):A.eA id={ A with au:=A.au.filter (λx=>x.id != id) }:=by
 by_cases h:∃ px∈A.au,px.id=id
 ·obtain⟨px,h1,rfl⟩:=h;obtain⟨i,hi⟩:=jM.1 h1;obtain⟨hl,he⟩:=a8.1 hi;have h2:=Vf hw.n0 hl;rw[he]at h2;rw[xr hw hi,Sn.drop,al (hr px h1),h2]
 ·rw[C8 (λy hy e=>h ⟨y,hy,e⟩),List.filter_eq_self.2];intro y hy;simp only[bne_iff_ne,ne_eq];exact λe=>h ⟨y,hy,e⟩
theorem Di {a:Nat}{l L M:List Nat}(h1:l.Perm L)(h2:L.Perm (a::M))(n0:l.Nodup):(l.filter (· != a)).Perm M:=by
 have h3:=(h1.trans h2).filter (· != a);have h4:=(h1.trans h2).nodup_iff.1 n0;rw[List.nodup_cons]at h4;have h5:M.filter (· != a)=M:=List.filter_eq_self.2 (λy hy=>by simp only[bne_iff_ne,ne_eq];intro e;exact h4.1 (e ▸ hy));rw[List.filter_cons_of_neg (by simp),h5]at h3;exact h3
theorem Dk (l:List aD)(id:Nat):(l.filter (λx=>x.id != id)).map (·.id)=(l.map (·.id)).filter (· != id):=by
 rw[List.filter_map];rfl
theorem vA {k:Wk}{ws:List Wk}(h:k.busy=true):jf (k::ws)=k.x::jf ws:=by rw[jf,List.filter_cons_of_pos h,map_cons];rfl
theorem Dm {k:Wk}{ws:List Wk}(h:k.busy=false):jf (k::ws)=jf ws:=by rw[jf,List.filter_cons_of_neg (by simp[h])];rfl
theorem zH {k:Wk}{ws:List Wk}(h:k∈ws)(hb:k.busy=true):k.x∈jf ws:=c0.2 ⟨k,List.mem_filter.2 ⟨h,hb⟩,rfl⟩
theorem Inv.vB {p:Pr}{F:Int}{g0:Nat→Int}{t:Nat→Nat}{base:Nat}{A:Sn}{T:Tr}{ws Jb:List Wk}(h:Inv p F g0 t base A T ws)(hp:ws.Perm Jb):Inv p F g0 t base A T Jb :=
 ⟨h.perm.trans ((((hp.filter _).map _).append_left _).cons _),h.au,h.base,h.ga,λk hk=>h.lj k (hp.mem_iff.2 hk)⟩
section
variable {p:Pr}{F:Int}{g0:Nat→Int}{t:Nat→Nat}{base:Nat}{A A':Sn}{T T':Tr}{J J':Js}{ws:List Wk}{k k':Wk}{r:Bool}
theorem Inv.n0 (h:Inv p F g0 t base A T ws)(hA:WF A):(base::(T.l.map (·.snap)++jf ws)).Nodup:=h.perm.nodup_iff.1 hA.n0
theorem Inv.l9 (h:Inv p F g0 t base A T ws){id:Nat}(hm:id∈base::(T.l.map (·.snap)++jf ws)):∃ (i:Nat) (px:aD),A.au[i]?=some px∧px.id=id:=by
 obtain⟨px,h1,h2⟩:=c0.1 (h.perm.mem_iff.2 hm);obtain⟨i,hi⟩:=jM.1 h1;exact⟨i,px,hi,h2⟩
theorem Inv.Jc (h:Inv p F g0 t base A T ws){x:Br}(hx:x∈T.l):∃ (i:Nat) (px:aD),A.au[i]?=some px∧px.id=x.snap :=
 h.l9 (gM _ (List.mem_append_left _ (c0.2 ⟨x,hx,rfl⟩)))
theorem Inv.Vg (h:Inv p F g0 t base A T ws)(hk:k∈ws)(hb:k.busy=true):∃ (i:Nat) (px:aD),A.au[i]?=some px∧px.id=k.x :=
 h.l9 (gM _ (List.mem_append_right _ (zH hk hb)))
theorem Inv.rest (h:Inv p F g0 t base A T (k::ws))(hA:WF A)(hb:k.busy=true)(hj:k'.busy=false)(hl:k'.jb=k.jb):Inv p F g0 t base (A.eA k.x) T (k'::ws):=by
 rw[zG hA (λx hx=>(h.au x hx).1)];refine⟨?_,λx hx=>h.au x (jO hx),λx hx=>h.base x (jO hx),λy hy=>⟨(h.ga y hy).1,λx hx=>(h.ga y hy).2 x (jO hx)⟩,λk2 ca=>?_⟩
 ·simp only;rw[Dk,Dm hj];refine Di h.perm ?_ hA.n0;rw[vA hb];exact (List.Perm.cons _ perm_middle).trans (List.Perm.swap _ _ _)
 ·rcases List.mem_cons.1 ca with rfl | ca
  ·exact⟨by rw[hl];exact (h.lj k (mem_cons_self ..)).1,λe=>by rw[hj]at e;cases e⟩
  ·refine⟨(h.lj k2 (gM _ ca)).1,λe y hy bT=>?_⟩;obtain⟨h1,h2⟩:=(h.lj k2 (gM _ ca)).2 e y hy bT;exact⟨h1,λx hx=>h2 x (jO hx)⟩
theorem xx {A:Sn}(hA:WF A){i:Nat}{px v z:aD}(hi:A.au[i]?=some px)(hz:z∈A.au.set i v):z=v∨(z∈A.au∧z.id≠px.id):=by
 obtain⟨j,hj⟩:=jM.1 hz;rw[jF]at hj;split at hj
 ·split at hj
  ·cases hj;exact .inl rfl
  ·cases hj
 ·rename_i bP;exact .inr ⟨bJ hj,λe=>bP (hA.ids hi hj e.symm)⟩
theorem Inv.bit (h:Inv p F g0 t base A T (k::ws))(hA:WF A)(hT:WT T)(hb:lh p A T J k r A' T' J' k'):Inv p F g0 t base A' T' (k'::ws):=by
 cases hb with
 | idle=>exact h
 | xw=>exact h
 | @Dh j J' i x px h1 h2 h3 h4 h5 h6 h7 h8 =>
  have tM:∀ z∈A.au,z.id≠A.last+1:=λz hz e=>by have:=(hA.l9 z hz).2.1;omega
  have g9:=bJ h7;have hlt:∀ id∈base::(T.l.map (·.snap)++jf (k::ws)),id≠A.last+1:=λid bT e=>by
   obtain⟨z,hz,he⟩:=c0.1 (h.perm.mem_iff.2 bT);exact tM z hz (by rw[he,e])
  refine⟨?_,λz hz=>?_,λz hz he=>?_,λy hy=>⟨(h.ga y hy).1,λz hz he=>?_⟩,λk2 ca=>?_⟩
  ·simp only[Sn.add,cX,map_cons,map_nil];rw[vA rfl];have hp:=h.perm;rw[Dm h1]at hp;refine (hp.append_right _).trans ((List.perm_append_singleton _ _).trans ?_);exact (List.Perm.swap _ _ _).trans (List.Perm.cons _ perm_middle.symm)
  ·simp only[Sn.add]at hz;rcases eR.1 hz with hz | hz
   ·exact h.au z hz
   ·simp at hz;subst hz;exact⟨rfl,(h.au px g9).2⟩
  ·simp only[Sn.add]at hz;rcases eR.1 hz with hz | hz
   ·exact h.base z hz he
   ·simp at hz;subst hz;exact absurd he.symm (hlt base (mem_cons_self ..))
  ·simp only[Sn.add]at hz;rcases eR.1 hz with hz | hz
   ·exact (h.ga y hy).2 z hz he
   ·simp at hz;subst hz;exact absurd he.symm (hlt y.snap (gM _ (List.mem_append_left _ (c0.2 ⟨y,hy,rfl⟩))))
  ·rcases List.mem_cons.1 ca with rfl | ca
   ·refine⟨?_,λ_ y hy bT=>?_⟩
    ·have:=(hT.ok x h4).2.2.2;simp only;omega
    ·obtain rfl:y=x:=hT.same hy h4 (by simp only at bT;omega);refine⟨h6,λz hz he=>?_⟩;simp only[Sn.add]at hz;rcases eR.1 hz with hz | hz
     ·exact absurd he (tM z hz)
     ·simp at hz;subst hz;exact (h.ga y hy).2 px g9 h8
   ·refine⟨(h.lj k2 (gM _ ca)).1,λe y hy bT=>?_⟩;obtain⟨h9,fF⟩:=(h.lj k2 (gM _ ca)).2 e y hy bT;refine⟨h9,λz hz he=>?_⟩;simp only[Sn.add]at hz;rcases eR.1 hz with hz | hz
    ·exact fF z hz he
    ·simp at hz;subst hz;exact absurd he.symm (hlt k2.x (gM _ (List.mem_append_right _ (zH (gM _ ca) e))))
 | gone h1 h2=>exact h.rest hA h1 rfl rfl
 | failed h1=>exact h.rest hA h1 rfl rfl
 | lost h1=>exact h.rest hA h1 rfl rfl
 | @mi x i px p' b h1 h2 h3 h4 h5 h6 h7 h8 h9 =>
  have g9:=bJ h6;have Dn:=h.n0 hA;rw[vA h1]at Dn;have Dp:(base::(T.l.map (·.snap)++k.x::jf ws)).Perm (k.x::(base::(T.l.map (·.snap)++jf ws))):=(List.Perm.cons _ perm_middle).trans (List.Perm.swap _ _ _);have bX:=(List.nodup_cons.1 (Dp.nodup_iff.1 Dn)).1;have Vh:(A.au.set i ⟨px.id,px.refs,e0 p (x.frm+k.done) b px.g,p'⟩).map (·.id)=A.au.map (·.id):=It h6 rfl;refine⟨?_,λz hz=>?_,λz hz he=>?_,λy hy=>⟨(h.ga y hy).1,λz hz he=>?_⟩,λk2 ca=>?_⟩
  ·simp only;rw[Vh,vA (by exact h1)];have hp:=h.perm;rw[vA h1]at hp;exact hp
  ·rcases xx hA h6 hz with rfl | hz
   ·exact⟨(h.au px g9).1,h9⟩
   ·exact h.au z hz.1
  ·rcases xx hA h6 hz with rfl | hz
   ·exact absurd (List.mem_cons.2 (.inl (by simp only at he;rw[← he,h7]))) bX
   ·exact h.base z hz.1 he
  ·rcases xx hA h6 hz with rfl | hz
   ·refine absurd (gM _ (List.mem_append_left _ (c0.2 ⟨y,hy,?_⟩))) bX;simp only at he;rw[← he,h7]
   ·exact (h.ga y hy).2 z hz.1 he
  ·rcases List.mem_cons.1 ca with rfl | ca
   ·have hk:=h.lj k (mem_cons_self ..);refine⟨hk.1,λ_ y hy bT=>?_⟩;obtain rfl:y=x:=hT.same hy h3 (by simp only at bT;omega);obtain⟨fF,mQ⟩:=hk.2 h1 y hy h4;refine⟨fF,λz hz he=>?_⟩;rcases xx hA h6 hz with rfl | hz
    ·have CD:=mQ px g9 h7;rw[h5]at CD;have Jd:y.ak.take (k.done+1)=y.ak.take k.done++[b]:=by
      rw[List.take_add_one,h8];rfl
     show e0 p (y.frm+k.done) b px.g=foldI p F g0 (y.ak.take (k.done+1));rw[Jd,Db,ez,Nat.min_eq_left (by omega),(h.ga y hy).1,CD];simp
    ·simp only at he;exact absurd (by rw[he,h7]) hz.2
   ·have hk:=h.lj k2 (gM _ ca);refine⟨hk.1,λe y hy bT=>?_⟩;obtain⟨fF,mQ⟩:=hk.2 e y hy bT;refine⟨fF,λz hz he=>?_⟩;rcases xx hA h6 hz with rfl | hz
    ·refine absurd (gM _ (List.mem_append_right _ ?_)) bX;simp only at he;rw[← h7,he];exact zH ca e
    ·exact mQ z hz.1 he
 | @iz x kk h1 h2 h3 h4 h5 h6 h7 =>
  rw[zG hA (λx hx=>(h.au x hx).1)];have hx:=bJ h3;obtain⟨dO,xy⟩:=a8.1 h3;have hk:=h.lj k (mem_cons_self ..);refine⟨?_,λz hz=>h.au z (jO hz),λz hz=>h.base z (jO hz),λy hy=>?_,λk2 ca=>?_⟩
  ·simp only[Tr.iz];rw[Dk,Dm (by rfl)];refine Di h.perm ?_ hA.n0;rw[vA h1];have e1:(T.l.map (·.snap)).Perm (x.snap::(T.l.eraseIdx kk).map (·.snap)):=by
    have:=(rU T.l dO).map (·.snap);rw[map_cons,xy]at this;exact this
   have e2:((T.l.set kk { x with done:=k.done+1,snap:=k.x }).map (·.snap)).Perm (k.x::(T.l.eraseIdx kk).map (·.snap)):=by
    have:=(rU (T.l.set kk { x with done:=k.done+1,snap:=k.x }) (by simpa using dO)).map (·.snap);rw[map_cons,getElem_set_self,eraseIdx_set_eq]at this;exact this
   have e3:(base::(T.l.map (·.snap)++k.x::jf ws)).Perm (base::(x.snap::((T.l.eraseIdx kk).map (·.snap)++k.x::jf ws))):=(e1.append_right _).cons _;refine e3.trans ((List.Perm.swap _ _ _).trans (List.Perm.cons _ (List.Perm.cons _ ?_)));exact perm_middle.trans (e2.append_right _).symm
  ·simp only[Tr.iz]at hy;rcases mem_or_eq_of_mem_set hy with hy | rfl
   ·exact⟨(h.ga y hy).1,λz hz=>(h.ga y hy).2 z (jO hz)⟩
   ·refine⟨(h.ga x hx).1,λz hz he=>?_⟩;have:=(hk.2 h1 x hx h4).2 z (jO hz) he;rw[h5]at this;exact this
  ·have xz : ∀ y ∈ (T.iz kk x (k.done + 1) k.x).l, ∃ y0 ∈ T.l, y0.id = y.id ∧ y0.ak = y.ak := fun y hy => by
    simp only[Tr.iz]at hy;rcases mem_or_eq_of_mem_set hy with hy | rfl
    ·exact⟨y,hy,rfl,rfl⟩
    ·exact⟨x,hx,rfl,rfl⟩
   rcases List.mem_cons.1 ca with rfl | ca
   ·exact⟨hk.1,λe=>by cases e⟩
   ·have l7:=h.lj k2 (gM _ ca);refine⟨l7.1,λe y hy bT=>?_⟩;obtain⟨y0,Vi,e1,e2⟩:=xz y hy;obtain⟨fF,mQ⟩:=l7.2 e y0 Vi (by rw[e1];exact bT);rw[e2]at fF mQ;exact⟨fF,λz hz=>mQ z (jO hz)⟩
theorem zI {b e:Int}(h:J.length≤16):(lG J b e).length≤16:=by
 unfold lG;split
 ·rename_i h1;simp only[p8,fC,decide_eq_true_eq]at h1;simp;omega
 ·exact h
theorem n1 (A:Sn)(id:Nat):(A.eA id).room=A.room∧(A.eA id).n=A.n∧(A.eA id).last=A.last:=by
 unfold Sn.eA;split
 ·split
  ·simp[Sn.drop]
  ·exact⟨rfl,rfl,rfl⟩
 ·exact⟨rfl,rfl,rfl⟩
structure zJ (A:Sn)(T:Tr)(J:Js)(A':Sn)(T':Tr)(J':Js):Prop where
 room:A'.room=A.room
 n:A'.n≤A.n+1
 most:T'.most=T.most
 last:T'.last=T.last
 epoch:T'.epoch=T.epoch
 l:T'.l.map (λy=>(y.id,y.ak))=T.l.map (λy=>(y.id,y.ak))
 len:J.length≤16→J'.length≤16
theorem lh.Vj (hb:lh p A T J k r A' T' J' k'):zJ A T J A' T' J':=by
 cases hb with
 | idle=>exact⟨rfl,by omega,rfl,rfl,rfl,rfl,λh=>h⟩
 | xw h1 h2=>exact⟨rfl,by omega,rfl,rfl,rfl,rfl,λh=>by rw[h2,fc]at h;omega⟩
 | Dh h1 h2=>exact⟨rfl,by simp[Sn.add],rfl,rfl,rfl,rfl,λh=>by rw[h2,fc]at h;omega⟩
 | gone=>exact⟨(n1 A _).1,by rw[(n1 A _).2.1];omega,rfl,rfl,rfl,rfl,λh=>h⟩
 | mi=>exact⟨rfl,by simp,rfl,rfl,rfl,rfl,λh=>h⟩
 | failed=>exact⟨(n1 A _).1,by rw[(n1 A _).2.1];omega,rfl,rfl,rfl,rfl,zI⟩
 | lost=>exact⟨(n1 A _).1,by rw[(n1 A _).2.1];omega,rfl,rfl,rfl,rfl,λh=>by split <;> first | exact zI h | exact h⟩
 | @iz x kk h1 h2 h3 =>
  refine⟨(n1 A _).1,by rw[(n1 A _).2.1];omega,rfl,rfl,rfl,?_,λh=>by split <;> first | exact zI h | exact h⟩;obtain⟨dO,xy⟩:=a8.1 h3;simp only[Tr.iz];apply ext_getElem?;intro j;simp only[bn,jF];by_cases hj:kk=j
  ·subst hj;simp[dO,xy]
  ·rw[ag hj]
end
end
section
theorem Vk {α:Type}{f:α→Nat}:∀ {l:List α},(l.map f).Nodup→∀ {x y:α},x∈l→y∈l→f x=f y→x=y:=by
 intro l
 induction l with
 | nil=>intro _ x y hx;cases hx
 | cons a l ih =>
  intro hd x y hx hy he;rw[map_cons,List.nodup_cons]at hd;rcases List.mem_cons.1 hx with tN | hx
  ·rcases List.mem_cons.1 hy with Dq | hy
   ·rw[tN,Dq]
   ·exact absurd (c0.2 ⟨y,hy,by rw[← he,tN]⟩) hd.1
  ·rcases List.mem_cons.1 hy with Dq | hy
   ·exact absurd (c0.2 ⟨x,hx,by rw[he,Dq]⟩) hd.1
   ·exact ih hd.2 hx hy he
theorem WF.eA {A:Sn}(hw:WF A)(hr:∀ x∈A.au,x.refs=1)(id:Nat):WF (A.eA id):=by
 by_cases h:∃ px∈A.au,px.id=id
 ·obtain⟨px,h1,rfl⟩:=h;obtain⟨i,hi⟩:=jM.1 h1;rw[xr hw hi,Sn.drop,al (hr px h1)];exact hw.erase i
 ·rw[C8 (λy hy e=>h ⟨y,hy,e⟩)];exact hw
theorem Vl:∀ (l:List Br) {A:Sn},WF A→(∀ x∈A.au,x.refs=1)→A.gJ l={ A with au:=A.au.filter (λx=>!(l.map (·.snap)).contains x.id) }:=by
 intro l
 induction l with
 | nil =>
  intro A hw hr;have:A.au.filter (λx=>!(([]:List Br).map (·.snap)).contains x.id)=A.au:=List.filter_eq_self.2 λx _=>rfl;rw[this];rfl
 | cons y l ih =>
  intro A hw hr;have h1:A.gJ (y::l)=(A.eA y.snap).gJ l:=rfl;have h2:=zG hw hr y.snap;have h3:∀ x∈(A.eA y.snap).au,x.refs=1:=by rw[h2];exact λx hx=>hr x (jO hx)
  rw[h1,ih (hw.eA hr _) h3,h2];simp only[List.filter_filter]
  congr 1
  refine List.filter_congr λx _=>?_;simp only[map_cons,List.contains_cons,Bool.not_or];rw[Bool.and_comm];rfl
theorem Vm {base:Nat}{l:List Br}{f:Br→Bool}{H M:List Nat}(hp:M.Perm (base::(l.map (·.snap)++H)))(n0:M.Nodup) :
   (M.filter (λid=>!((l.filter f).map (·.snap)).contains id)).Perm (base::((l.filter (λx=>!f x)).map (·.snap)++H)):=by
 have h1:=hp.nodup_iff.1 n0;have h2:=hp.filter (λid=>!((l.filter f).map (·.snap)).contains id);have h3:=List.nodup_cons.1 h1;have h4:=List.nodup_append.1 h3.2;have xA:∀ id,id∈(l.filter f).map (·.snap)→id∈l.map (·.snap):=λid h=>by
  obtain⟨y,hy,rfl⟩:=c0.1 h;exact c0.2 ⟨y,jO hy,rfl⟩
 have hb:(!((l.filter f).map (·.snap)).contains base)=true:=by
  simp only[Bool.not_eq_true',List.contains_eq_mem,decide_eq_false_iff_not];exact λh=>h3.1 (List.mem_append_left _ (xA _ h))
 have hH:H.filter (λid=>!((l.filter f).map (·.snap)).contains id)=H:=List.filter_eq_self.2 λz hz=>by
  simp only[Bool.not_eq_true',List.contains_eq_mem,decide_eq_false_iff_not];exact λh=>h4.2.2 z (xA _ h) z hz rfl
 have hl:(l.map (·.snap)).filter (λid=>!((l.filter f).map (·.snap)).contains id)=(l.filter (λx=>!f x)).map (·.snap):=by
  rw[List.filter_map]
  congr 1
  refine List.filter_congr λy hy=>?_;simp only[Function.comp]
  congr 1
  cases hf:f y with
  | true =>
   simp only[List.contains_eq_mem,decide_eq_true_eq];exact c0.2 ⟨y,List.mem_filter.2 ⟨hy,hf⟩,rfl⟩
  | false =>
   simp only[List.contains_eq_mem,decide_eq_false_iff_not];intro h;obtain⟨z,hz,he⟩:=c0.1 h;obtain⟨cW,eQ⟩:=List.mem_filter.1 hz;have:=Vk h4.1 cW hy he;rw[this,hf]at eQ;cases eQ
 rw[List.filter_cons,al hb,List.filter_append,hl,hH]at h2;exact h2
section
variable {p:Pr}{F:Int}{g0:Nat→Int}{t:Nat→Nat}{base:Nat}{A:Sn}{T:Tr}{ws:List Wk}{k:Wk}{px:aD}{P:List (List UInt8)}{i:Nat}
theorem Inv.cut (h:Inv p F g0 t base A T ws)(hA:WF A)(f:Br→Bool):Inv p F g0 t base (A.gJ (T.l.filter f)) (T.cut f) ws:=by
 rw[Vl _ hA (λx hx=>(h.au x hx).1)];refine⟨?_,λx hx=>h.au x (jO hx),λx hx=>h.base x (jO hx),λy hy=>⟨(h.ga y (jO hy)).1,λx hx=>(h.ga y (jO hy)).2 x (jO hx)⟩,λk hk=>⟨(h.lj k hk).1,λe y hy bT=>?_⟩⟩
 ·simp only[Tr.cut];have h1:=Vm (f:=f) h.perm hA.n0;have h2:(A.au.filter (λx=>!((T.l.filter f).map (·.snap)).contains x.id)).map (·.id)=(A.au.map (·.id)).filter (λid=>!((T.l.filter f).map (·.snap)).contains id):=by
   rw[List.filter_map];rfl
  rw[h2];exact h1
 ·obtain⟨h1,h2⟩:=(h.lj k hk).2 e y (jO hy) bT;exact⟨h1,λx hx=>h2 x (jO hx)⟩
theorem Inv.Vn (h:Inv p F g0 t base A T ws)(hA:WF A)(hT:WT T)(hi:A.au[i]?=some px)(hb:px.id=base):Inv p F g0 t base (A.add px.g px.p) (T.add F P (A.last+1)) ws:=by
 have g9:=bJ hi;have tM:∀ z∈A.au,z.id≠A.last+1:=λz hz e=>by have:=(hA.l9 z hz).2.1;omega
 have hlt:∀ id∈base::(T.l.map (·.snap)++jf ws),id≠A.last+1:=λid bT e=>by
  obtain⟨z,hz,he⟩:=c0.1 (h.perm.mem_iff.2 bT);exact tM z hz (by rw[he,e])
 have cF:∀ z∈(A.add px.g px.p).au,z∈A.au∨z=⟨A.last+1,1,px.g,px.p⟩:=λz hz=>by
  simp only[Sn.add]at hz;rcases eR.1 hz with hz | hz
  ·exact .inl hz
  ·simp at hz;exact .inr hz
 refine⟨?_,λz hz=>?_,λz hz he=>?_,λy hy=>?_,λk hk=>⟨?_,λe y hy bT=>?_⟩⟩
 ·simp only[Sn.add,Tr.add,cX,map_cons,map_nil];refine (h.perm.append_right _).trans ((List.perm_append_singleton _ _).trans ((List.Perm.swap _ _ _).trans (List.Perm.cons _ ?_)));rw[dA];exact perm_middle.symm
 ·rcases cF z hz with hz | rfl
  ·exact h.au z hz
  ·exact⟨rfl,(h.au px g9).2⟩
 ·rcases cF z hz with hz | rfl
  ·exact h.base z hz he
  ·exact absurd he.symm (hlt base (mem_cons_self ..))
 ·simp only[Tr.add]at hy;rcases eR.1 hy with hy | hy
  ·refine⟨(h.ga y hy).1,λz hz he=>?_⟩;rcases cF z hz with hz | rfl
   ·exact (h.ga y hy).2 z hz he
   ·exact absurd he.symm (hlt y.snap (gM _ (List.mem_append_left _ (c0.2 ⟨y,hy,rfl⟩))))
  ·simp at hy;subst hy;refine⟨rfl,λz hz he=>?_⟩;rcases cF z hz with hz | rfl
   ·exact absurd he (tM z hz)
   ·exact (h.base px g9 hb).1
 ·have:=(h.lj k hk).1;simp only[Tr.add];omega
 ·have gS:=(h.lj k hk).1;simp only[Tr.add]at hy;rcases eR.1 hy with hy | hy
  ·obtain⟨h1,h2⟩:=(h.lj k hk).2 e y hy bT;refine⟨h1,λz hz he=>?_⟩;rcases cF z hz with hz | rfl
   ·exact h2 z hz he
   ·exact absurd he.symm (hlt k.x (gM _ (List.mem_append_right _ (zH hk e))))
  ·simp at hy;subst hy;simp only at bT;omega
theorem Inv.len (h:Inv p F g0 t base A T ws):A.au.length=1+T.l.length+(jf ws).length:=by
 have:=h.perm.length_eq;simp only[bg,fc,aM]at this;omega
end
end
section
section
variable {P:Program}{ops:Array Oper}{Q:Exit→Act→World→Prop}{a:Act}{w V W:World}{K:Act→World→Prop}{n d:Nat}{l:List (Nat×Value)}{v:Value}{L R:List SP}
theorem Vo {t u ty e:TypeId}{k c a2:Nat}{z:Value}{ad:Option Addr}{cs:List Value}(ht:P.underlying t=some (.slice e))(hu:P.underlying u=some .string)(hi:TI P e z 1 a2)(hz:z.cells.size=1)(s:U W w (Sl e 1 ad k c cs::L))
   (hc:0<c) (str:ByteArray) (hb:0<a2) (aC:(k+str.size)*a2≤140737488355328) :
   ∃ av c' V,(Builtin.append_ #[t,u] ty #[.slice ad k c,.string str]).run P w=.ok (.slice av (k+str.size) c') V∧U W V (Sl e 1 av (k+str.size) c' (cs++bc str.data.toList)::L):=by
 obtain⟨i,k9,dJ,kE,pR⟩:=info_parts hi.h;have pS:=s.sl ad;have zK:(bc str.data.toList).length=str.size:=Lib.strCells_length str;obtain⟨b,pre,post,⟨dj,dW,rfl,a4⟩,s2⟩:=s.lC hc;by_cases ni:k+str.size≤c
 ·have eF:(c-k)*1 ≥ str.size:=by omega
  have hf:=Lib.run_firstCells_string (P:=P) w 1 str;have aT:=run_storeCells_at (P:=P) b (pre.length+k) e (bc str.data.toList) 0 (pre++cs++post).toArray w s2.has.2 (by simp[zK];omega) (ey _);have e1:(pre++cs++post).take (pre.length+k)=pre++cs:=by
   have:pre.length+k=(pre++cs).length:=by simp;omega
   rw[this,List.take_left]
  have e2:(pre++cs++post).drop (pre.length+k+0+(bc str.data.toList).length)=post.drop str.size:=by
   have:pre.length+k=(pre++cs).length:=by simp;omega
   rw[this,Nat.add_zero,zK,← drop_drop,drop_left]
  refine⟨some ⟨b,pre.length,none⟩,c,w.setRow b (pre++(cs++bc str.data.toList)++post.drop str.size).toArray,?_,?_⟩
  ·have qz:(storeCells ⟨b,pre.length+k,none⟩ (bc str.data.toList) 0).run P w=.ok () (w.setRow b (((pre++cs++post).take (pre.length+k)++bc str.data.toList)++(pre++cs++post).drop (pre.length+k+0+(bc str.data.toList).length)).toArray):=aT;rw[e1,e2]at qz;have ju:(Builtin.firstCells 1 str.size (.string str)).run P w=.ok (bc str.data.toList).toArray w:=hf;simp[Builtin.append_,eP ht,eP hu,sizeOf,typeInfo,k9,Builtin.lenOf,ni,j5,kE,ju,qz,dA]
  ·exact U.iL (pre:=pre) (post:=post.drop str.size) s2.setRow (by simp[zK];omega) (by omega) (by simp;omega)
 ·have Pv:k+str.size≤140737488355328:=gF (Nat.le_mul_of_pos_right _ hb) aC;have nm:=grownCap_ge w (k+str.size) c e;have Pw:(Builtin.zeroCells z.cells (grownCap w (k+str.size) c e-(k+str.size))).toList.length=(grownCap w (k+str.size) c e-(k+str.size))*1:=wX e (a2:=a2) hz _;have holds:∀ j v,cs[j]?=some v→w.cell? ((⟨b,pre.length,none⟩:Addr).add j)=some v:=by
   intro j v hj;rw[j5,s2.cell];have:j<cs.length:=(a8.1 hj).1;rw[lX (by simp;omega),getElem?_append_right (by omega)];simpa using hj
  have fb:Builtin.nextslicecap (k+str.size) c*i.bytes≤281474976710656:=by rw[pR];exact growslice_fits (by omega) aC
  have hr:=Lib.run_append_grow_string (P:=P) w t u ty e i z ht hu k9 dJ ⟨b,pre.length,none⟩ k c cs (by rw[kE];exact dj) holds str (by omega) (by omega) fb;refine⟨_,_,_,hr,?_⟩;have s3:=(s.tail.drew).alloc (.cells (cs.toArray++(bc str.data.toList).toArray++Builtin.zeroCells z.cells (grownCap w (k+str.size) c e-(k+str.size))) e)
  have Cb : U W (w.drew.alloc (.cells (cs.toArray ++ (bc str.data.toList).toArray ++ Builtin.zeroCells z.cells (grownCap w (k + str.size) c e - (k + str.size))) e))
      (aa w.heap.size e ([]++(cs++bc str.data.toList)++(Builtin.zeroCells z.cells (grownCap w (k+str.size) c e-(k+str.size))).toList)::L):=by
   have:(cs.toArray++(bc str.data.toList).toArray++Builtin.zeroCells z.cells (grownCap w (k+str.size) c e-(k+str.size)))=([]++(cs++bc str.data.toList)++(Builtin.zeroCells z.cells (grownCap w (k+str.size) c e-(k+str.size))).toList).toArray:=by
    apply Array.ext';simp
   rw[this]at s3 ⊢;exact s3
  exact U.iL (pre:=[]) Cb (by simp[zK];omega) nm (by omega)
theorem Vp {s x t u z a2 str e ad k c ty ps af g}{cs:List Value}(E:Fr a n l)(hw:Region.wanted ⟨some d,.call ⟨.builtin .append,#[s,x],#[t,u]⟩,ty,ps,af,g⟩ (yielded ops a.tmps)=true)(I:U W w L)
   (ht:P.underlying t=some (.slice e)) (hu:P.underlying u=some .string) (hi:TI P e z 1 a2) (hz:z.cells.size=1) (hf:okB d n l=true)
   [e1:Ev l s (.slice ad k c)] [pk:fL L ad k c e 1 cs R] [e2:Ev l x (.string str)] (hc:0<c) (hb:0<a2) (aC:(k+str.size)*a2≤140737488355328)
   (h:∀ av c' a' V,Fr a' n ((d,.slice av (k+str.size) c')::l)→U W V (Sl e 1 av (k+str.size) c' (cs++bc str.data.toList)::R)→K a' V) :
   cH P ops Q ⟨some d,.call ⟨.builtin .append,#[s,x],#[t,u]⟩,ty,ps,af,g⟩ K a w:=by
 obtain⟨av,c',V,h2,h3⟩:=Vo (P:=P) (ty:=ty) ht hu hi hz (I.perm pk.perm) hc str hb aC;exact bC E hw (by simp[execOp,resolve,e1.ev a n E,e2.ev a n E,invoke,builtin,h2]) hf λa' di=>h _ _ a' _ di h3
end
theorem wrap_u64 (x:Int):IntKind.u64.wrap x=x%18446744073709551616:=by simp[IntKind.wrap,IntKind.signed,IntKind.bits]
theorem wrap_u32 (x:Int):IntKind.u32.wrap x=x%4294967296:=by simp[IntKind.wrap,IntKind.signed,IntKind.bits]
theorem wrap_u8 (x:Int):IntKind.u8.wrap x=x%256:=by simp[IntKind.wrap,IntKind.signed,IntKind.bits]
theorem Je {x:Nat}(h:x<18446744073709551616):IntKind.u64.wrap ((BitVec.ofInt IntKind.u64.bits (if IntKind.u64.signed then -1 else IntKind.u64.max) ^^^ BitVec.ofInt IntKind.u64.bits (x:Int)).toNat)=((18446744073709551615-x:Nat):Int):=by
 have e:BitVec.ofInt IntKind.u64.bits (if IntKind.u64.signed then -1 else IntKind.u64.max)=BitVec.allOnes 64:=by
  show BitVec.ofInt 64 IntKind.u64.max=_;decide
 rw[e];have e2:BitVec.ofInt IntKind.u64.bits (x:Int)=BitVec.ofNat 64 x:=by
  show BitVec.ofInt 64 (x:Int)=_;exact BitVec.ofInt_natCast 64 x
 rw[e2];show IntKind.u64.wrap (((BitVec.allOnes 64 ^^^ BitVec.ofNat 64 x).toNat:Nat):Int)=_;rw[BitVec.allOnes_xor,BitVec.toNat_not,BitVec.toNat_ofNat,wrap_u64];rw[Nat.mod_eq_of_lt (show x<2 ^ 64 from h)];omega
theorem Vq {x:Nat}(h:x<256):IntKind.u8.wrap ((BitVec.ofInt IntKind.u8.bits (x:Int) ||| BitVec.ofInt IntKind.u8.bits 128).toNat)=((x%128+128:Nat):Int):=by
 have:∀ y:Fin 256,IntKind.u8.wrap ((BitVec.ofInt IntKind.u8.bits ((y.val:Nat):Int) ||| BitVec.ofInt IntKind.u8.bits 128).toNat)=((y.val%128+128:Nat):Int):=by decide +kernel
 exact this ⟨x,h⟩
theorem kS (x j:Nat):(x:Int).fdiv (j:Int)=((x/j:Nat):Int):=by
 rw[Int.natCast_ediv,Int.fdiv_eq_ediv_of_nonneg _ (by omega)]
def aN (u:Nat):List UInt8:=if h:u≤127 then [UInt8.ofNat u] else UInt8.ofNat (u%128+128)::aN (u/128)
termination_by u
decreasing_by omega
theorem p9 {u:Nat}(h:u≤127):aN u=[UInt8.ofNat u]:=by rw[aN,dif_pos h]
theorem vC {u:Nat}(h:¬ u≤127):aN u=UInt8.ofNat (u%128+128)::aN (u/128):=by rw[aN,dif_neg h]
theorem qV (u:Nat):1≤(aN u).length:=by
 rw[aN];split <;> simp
theorem qa:∀ (k u:Nat),u<128 ^ (k+1)→(aN u).length≤k+1
 | 0,u,h=>by rw[p9 (by simpa using (by omega:u≤127))];simp
 | k+1,u,h=>by
  by_cases hu:u≤127
  ·rw[p9 hu];simp
  ·rw[vC hu,fc];have:=qa k (u/128) (by rw[Nat.pow_succ]at h;omega);omega
def zz (n:Int):Nat:=if n<0 then (-2*n-1).toNat else (2*n).toNat
section
variable {W w:World}{L:List SP}{c:Nat}{ad:Option Addr}{bs:List UInt8}
theorem so {N:Int}(I:U W w (Sl 5 1 ad bs.length c (bc bs)::L))(h1:-9223372036854775808≤N)(h2:N≤9223372036854775807)(hb:bs.length≤1099511627776) :
   Calls prog 198 #[.slice ad bs.length c,.int .i64 N] w λe V=>∃ av c',e=.returned (.slice av (bs++aN (zz N)).length c')∧U W V (Sl 5 1 av (bs++aN (zz N)).length c' (bc (bs++aN (zz N)))::L):=by
 refine EN func198 ntmps198 rfl rfl λa E=>?_;refine RN 4 E I λa E=>?_;refine SS E (gj E underlying2 underlying319) λa E=>?_;refine RN 1 E I λa E=>?_;rw[wrap_u64,wrap_u64]at E;refine RN 1 E I λa E=>?_;obtain⟨U0,Dr⟩:∃ U0:Nat,(N%18446744073709551616*2 ^ 1)%18446744073709551616=(U0:Int):=⟨((N%18446744073709551616*2 ^ 1)%18446744073709551616).toNat,by omega⟩;rw[Dr]at E;have Ds:U0<18446744073709551616:=by omega
 refine cc (M:=λa w=>Fr a 28 [(0,.slice ad bs.length c),(5,.int .u64 ((zz N:Nat):Int))]∧U W w (Sl 5 1 ad bs.length c (bc bs)::L)) ?_ ?_
 ·
  refine IF 3 E I (λaj a E=>?_) λaj a E=>?_
  ·
   refine RN 2 E I λa E=>?_;rw[Je Ds]at E;refine RN 1 E I λa E=>?_;rw[show 18446744073709551615-U0=zz N from by rw[zz,al aj];omega]at E;exact⟨E.ab [0,5],I⟩
  refine RN 0 E I λa E=>?_;rw[show U0=zz N from by rw[zz,ag (by omega)];omega]at E;exact⟨E.ab [0,5],I⟩
 clear E;(try clear I);rintro a w ⟨E,I⟩;refine RN 1 E I λa E=>?_;refine aP (λμ a w=>∃ (eg c':Nat) (av:Option Addr) (dn:List UInt8),(μ=eg∧dn++aN eg=bs++aN (zz N)∧eg≤zz N)∧Fr a 28 [(0,.slice av dn.length c'),(5,.int .u64 (eg:Int))]∧U W w (Sl 5 1 av dn.length c' (bc dn)::L)) (zz N) (⟨zz N,c,ad,bs,⟨rfl,rfl,by omega⟩,E.ab [0,5],I⟩) ?_;clear E I;rintro μ a w ⟨eg,c',av,dn,⟨xB,dc,Vr⟩,E,I⟩;refine RN 2 E I λa E=>?_;have cW:zz N<18446744073709551616:=by rw[zz];split <;> omega
 have gw:=qa 9 (zz N) (by simp;omega);have mj:dn.length≤bs.length+10:=by
  have:=congrArg List.length dc;rw[aM,aM]at this;omega
 clear gw;refine IF 2 E I (λao a E=>?_) λao a E=>?_
 ·
  refine RN 3 E I λa E=>?_;refine SS E (gj E underlying319 underlying5) λa E=>?_;rw[wrap_u8,show (eg:Int)%256=((eg%256:Nat):Int) from by omega]at E;refine RN 1 E I λa E=>?_;rw[Vq (Nat.mod_lt _ (by decide)),show eg%256%128=eg%128 from by omega]at E;refine cp E rfl I underlying22 Ty.t5 rfl rfl rfl rfl (by decide) (by decide) λmR a w E I ho=>?_;clear ho;refine RN 0 E I λa E=>?_;refine cQ E rfl I underlying22 Ty.t5 rfl rfl I.ai rfl (by simp[Value.oneCell']) (by decide) (by decide) (by omega) λxC Dt a w E I=>?_;have aT:bc dn++[[Value.int .u8 ((eg%128+128:Nat):Int)]].flatten=bc (dn++[UInt8.ofNat (eg%128+128)]):=by
   simp[bc,UInt8.toNat_ofNat'];omega
  rw[aT]at I;refine RN 4 E I λa E=>?_;rw[show ((eg:Int).fdiv (2 ^ 7))=((eg/128:Nat):Int) from kS eg 128]at E;exact⟨eg/128,by omega,eg/128,_,xC,dn++[UInt8.ofNat (eg%128+128)],⟨rfl,by rw[← dc,vC (u:=eg) (by omega),dA];rfl,by omega⟩,by rw[aM];exact E.ab [0,5],by rw[aM];exact I.sub⟩
 refine RN 3 E I λa E=>?_;refine SS E (gj E underlying319 underlying5) λa E=>?_;rw[wrap_u8,show (eg:Int)%256=((eg:Nat):Int) from by omega]at E;refine RN 0 E I λa E=>?_;refine cp E rfl I underlying22 Ty.t5 rfl rfl rfl rfl (by decide) (by decide) λJf a w E I ho=>?_;clear ho;refine RN 0 E I λa E=>?_;refine cQ E rfl I underlying22 Ty.t5 rfl rfl I.ai rfl (by simp[Value.oneCell']) (by decide) (by decide) (by omega) λDu Dv a w E I=>?_;have aT:bc dn++[[Value.int .u8 ((eg:Nat):Int)]].flatten=bc (dn++[UInt8.ofNat eg]):=by
  simp[bc,UInt8.toNat_ofNat'];omega
 rw[aT,← p9 (by omega),dc]at I;refine RT 1 E I ?_;have hl:dn.length+1=(bs++aN (zz N)).length:=by rw[← dc,p9 (by omega),aM];rfl
 rw[hl]at I ⊢;exact⟨_,_,rfl,I.sub⟩
theorem Vs {s:ByteArray}(I:U W w L)(aC:s.size≤1099511627776) :
   Calls prog 199 #[.slice none 0 0,.string s] w λe V=>∃ av c',e=.returned (.slice av (aN (zz s.size)++s.data.toList).length c')∧U W V (Sl 5 1 av (aN (zz s.size)++s.data.toList).length c' (bc (aN (zz s.size)++s.data.toList))::L):=by
 have xD:s.data.toList.length=s.size:=rfl;refine EN func199 ntmps199 rfl rfl λa E=>?_;refine a6 6 E I (so (bs:=[]) (N:=s.size) (I.bO 5 1 none) (by omega) (by omega) (by simp)) λc1 dR a w E I=>?_;rw[nil_append]at E I;have gw:=qV (zz s.size);have hR:=qa 9 (zz s.size) (by rw[zz];split <;> (simp;omega));have Iu:=(I.sl c1).2;refine RN 1 E I λa E=>?_;refine Vp E rfl I underlying22 underlying9 Ty.t5 rfl rfl (by omega) (by decide) (by omega) λaeB zL a w E I=>?_;rw[show (aN (zz s.size)).length+s.size=(aN (zz s.size)++s.data.toList).length from by rw[aM];rfl]at E I;rw[show bc (aN (zz s.size))++bc s.data.toList=bc (aN (zz s.size)++s.data.toList) from by simp[bc]]at I;refine RT 1 E I ?_;exact⟨_,_,rfl,I.sub⟩
end
end
section
section
variable {W w:World}{L:List SP}{n:Nat}{s:ByteArray}
theorem Vt {r:Nat}(I:U W w L):Calls prog 239 #[.int .i32 r] w λe V=>e=.returned (.int .i64 (nz r))∧U W V L:=by
 refine EN func239 ntmps239 rfl rfl λa E=>?_;refine IF 7 E I (λaj a E=>?_) λaj a E=>?_
 ·
  refine RT 2 E I ?_;exact⟨by rw[nz,al (by omega)];rfl,I⟩
 refine IF 4 E I (λao a E=>?_) λao a E=>?_
 ·
  refine RT 2 E I ?_;exact⟨by rw[nz,ag (by omega),al (by omega)];rfl,I⟩
 refine IF 4 E I (λaz a E=>?_) λaz a E=>?_
 ·
  refine RT 2 E I ?_;exact⟨by rw[nz,ag (by omega),ag (by omega),al (by omega)];rfl,I⟩
 refine RT 2 E I ?_;exact⟨by rw[nz,ag (by omega),ag (by omega),ag (by omega)];rfl,I⟩
theorem Jg {α:Type}(l:List α)(x:α)(f:α→Bool):(l++[x]).all f=(l.all f&&f x):=by simp
theorem Vu (I:U W w L)(aC:s.size≤1099511627776):Calls prog 228 #[.string s] w λe V=>e=.returned (.bool ((ef s 0).all mg))∧U W V L:=by
 refine EN func228 ntmps228 rfl rfl λa E=>?_;refine RN 7 E I λa E=>?_;refine Cv E rfl I underlying9 rfl λdv a w E I ho=>?_;clear ho;refine RN 0 E I λa E=>?_;refine aP (λμ a w=>∃ (pos n:Nat) (dn:List (Nat×Nat)),(μ=s.size-pos∧pos≤s.size∧ef s 0=dn++ef s pos∧((dn.all mg=true∧n=pos)∨(dn.all mg=false∧n=pos+2)))∧Fr a 23 [(0,.string s),(3,.int .i64 n),(7,pt dv)]∧U W w (kD dv (.stringIter s pos)::L)) (s.size) (⟨0,0,[],⟨by simp,by simp,by simp,.inl ⟨rfl,rfl⟩⟩,E.ab [0,3,7],I⟩) ?_;clear E I;rintro μ a w ⟨pos,n,dn,⟨rfl,pV,dc,hg⟩,E,I⟩;refine RN 1 E I λa E=>?_;refine Cx E rfl I rfl λa w E I=>?_;refine RN 0 E I λa E=>?_;refine SS E (nP E (Ct s pos)) λa E=>?_;refine IF 1 E I (λaj a E=>?_) λaj a E=>?_
 ·
  have mS:=qQ aj;have jg:=C9 pV;have o4:ec s pos=pos+(Utf8.decode s pos).2:=by rw[ec,al aj]
  have lk:=tJ s pos;refine RN 1 E I λa E=>?_;refine SS E (nP E (Qv aj)) λa E=>?_;refine RN 0 E I λa E=>?_;refine SS E (nP E (Cu aj)) λa E=>?_;refine IF 7 E I (λao a E=>?_) λao a E=>?_
  ·
   have Vv:dn.all mg=false:=by
    rcases hg with ⟨_,h⟩ | ⟨h,_⟩
    ·omega
    ·exact h
   refine RT 2 E I ?_;exact⟨by rw[dc,List.all_append,Vv,Bool.false_and],I.sub⟩
  obtain⟨mT,hn⟩:=hg.resolve_right (λh=>by omega);have Vw:nz (Utf8.decode s pos).1≤4:=by unfold nz;(repeat' split) <;> omega
  refine CL 2 E I (Vt I) λa w E I=>?_;refine RN 2 E I λa E=>?_;refine⟨s.size-ec s pos,by omega,ec s pos,n+nz (Utf8.decode s pos).1,dn++[Utf8.decode s pos],⟨rfl,jg,by rw[dc,mS,dA];rfl,?_⟩,E.ab [0,3,7],I.sub⟩;rw[Jg,mT,Bool.true_and];rcases IY s pos with h | h
  ·refine .inl ⟨?_,by omega⟩;simp only[mg,Bool.not_eq_true',decide_eq_false_iff_not];intro e;rw[e]at h;simp[nz]at h
  ·refine .inr ⟨by simp[mg,h],?_⟩;rw[o4,h];simp[nz];omega
 refine RN 1 E I λa E=>?_;have gz:pos=s.size:=by omega
 have gA:=qR (s:=s) (pos:=pos) (by omega);rw[gA,append_nil]at dc;refine RT 5 E I ?_;refine⟨?_,I.sub⟩;rw[dc];rcases hg with ⟨h,h2⟩ | ⟨h,h2⟩
 ·rw[h,dq (by omega)]
 ·rw[h,bq (by omega)]
theorem Vx (I:U W w L)(aC:s.size≤1099511627776):Calls prog 197 #[.string s] w λe V=>e=.returned (.bool (o2 s))∧U W V L:=by
 refine EN func197 ntmps197 rfl rfl λa E=>?_;refine RN 7 E I λa E=>?_;refine Cv E rfl I underlying9 rfl λdv a w E I ho=>?_;clear ho;refine RN 0 E I λa E=>?_;refine aP (λμ a w=>∃ (pos:Nat) (dn:List (Nat×Nat)),(μ=s.size-pos∧pos≤s.size∧ef s 0=dn++ef s pos∧dn.all kl=true∧dn.length≤pos)∧Fr a 29 [(0,.string s),(3,.int .i64 dn.length),(7,pt dv)]∧U W w (kD dv (.stringIter s pos)::L)) (s.size) (⟨0,[],⟨by simp,by simp,by simp,rfl,by simp⟩,E.ab [0,3,7],I⟩) ?_;clear E I;rintro μ a w ⟨pos,dn,⟨rfl,pV,dc,hg,mj⟩,E,I⟩;refine RN 1 E I λa E=>?_;refine Cx E rfl I rfl λa w E I=>?_;refine RN 0 E I λa E=>?_;refine SS E (nP E (Ct s pos)) λa E=>?_;refine IF 1 E I (λaj a E=>?_) λaj a E=>?_
 ·
  have mS:=qQ aj;have jg:=C9 pV;have o4:ec s pos=pos+(Utf8.decode s pos).2:=by rw[ec,al aj]
  have lk:=tJ s pos;refine RN 1 E I λa E=>?_;refine SS E (nP E (Cu aj)) λa E=>?_;refine BY 6 E I (λbA a E=>?_) λbA a E=>?_
  ·
   have jP:kl (Utf8.decode s pos)=false:=by simp[kl];omega
   refine RT 6 E I ?_;refine⟨?_,I.sub⟩;have:(ef s 0).all kl=false:=by rw[dc,mS,List.all_append,List.all_cons,jP];simp
   rw[o2,this];simp
  refine IF 3 E I (λao a E=>?_) λao a E=>?_
  ·
   have jP:kl (Utf8.decode s pos)=false:=by simp[kl];omega
   refine RT 2 E I ?_;refine⟨?_,I.sub⟩;have:(ef s 0).all kl=false:=by rw[dc,mS,List.all_append,List.all_cons,jP];simp
   rw[o2,this];simp
  refine RN 3 E I λa E=>?_;exact⟨s.size-ec s pos,by omega,ec s pos,dn++[Utf8.decode s pos],⟨rfl,jg,by rw[dc,mS,dA];rfl,by rw[Jg,hg];simp[kl];omega,by rw[aM];simp;omega⟩,by rw[aM];exact E.ab [0,3,7],I.sub⟩
 refine RN 1 E I λa E=>?_;have gA:=qR (s:=s) (pos:=pos) (by omega);rw[gA,append_nil]at dc;have n2:o2 s=(decide (1≤dn.length)&&decide (dn.length≤20)&&(ef s 0).all mg):=by rw[o2,dc,hg];simp
 refine BY 3 E I (λbA a E=>?_) λbA a E=>?_
 ·
  refine BY 4 E I (λjQ a E=>?_) λjQ a E=>?_
  ·
   refine CL 1 E I (Vu I aC) λa w E I=>?_;refine RT 2 E I ?_;refine⟨?_,I.sub⟩;rw[n2]
   first
    | (rw[bq (show ¬ 1≤dn.length by omega)];rfl)
    | (rw[bq (show ¬ dn.length≤20 by omega)];simp;done)
    | (rw[dq (show 1≤dn.length by omega),dq (show dn.length≤20 by omega)];rfl)
  refine RT 4 E I ?_;refine⟨?_,I.sub⟩;rw[n2]
  first
   | (rw[bq (show ¬ 1≤dn.length by omega)];rfl)
   | (rw[bq (show ¬ dn.length≤20 by omega)];simp;done)
   | (rw[dq (show 1≤dn.length by omega),dq (show dn.length≤20 by omega)];rfl)
 refine RT 8 E I ?_;refine⟨?_,I.sub⟩;rw[n2]
 first
  | (rw[bq (show ¬ 1≤dn.length by omega)];rfl)
  | (rw[bq (show ¬ dn.length≤20 by omega)];simp;done)
  | (rw[dq (show 1≤dn.length by omega),dq (show dn.length≤20 by omega)];rfl)
def ll (k:Int):Int:=if k=0 then 0 else if k=9∨k=15 then 1 else if k=1∨k=2∨(10≤k∧k≤14) then 2 else if 3≤k∧k≤8 then 3 else -1
theorem Dw (k:Int):(k=0∧ll k=0)∨((k=9∨k=15)∧ll k=1)∨((k=1∨k=2∨(10≤k∧k≤14))∧ll k=2)∨(3≤k∧k≤8∧ll k=3)∨((k<0∨15<k)∧ll k = -1):=by
 unfold ll
 repeat' split
 all_goals omega
theorem Vy {k:Int}(I:U W w L):Calls prog 201 #[.int .i64 k] w λe V=>e=.returned (.int .i64 (ll k))∧U W V L:=by
 have hk:=Dw k;have fw:∀ (z:Int) (V:World),U W V L→z=ll k→Ending.returned (Value.int .i64 z)=.returned (.int .i64 (ll k))∧U W V L:=λz V h e=>⟨by rw[e],h⟩;refine EN func201 ntmps201 rfl rfl λa E=>?_;refine IF 8 E I (λaj a E=>?_) λaj a E=>?_
 ·
  refine RT 2 E I ?_;exact fw _ _ I (by omega)
 refine IF 4 E I (λao a E=>?_) λao a E=>?_
 ·
  refine RT 3 E I ?_;exact fw _ _ I (by omega)
 refine IF 2 E I (λaz a E=>?_) λaz a E=>?_
 ·
  refine RT 2 E I ?_;exact fw _ _ I (by omega)
 refine IF 4 E I (λbh a E=>?_) λbh a E=>?_
 ·
  refine RT 3 E I ?_;exact fw _ _ I (by omega)
 refine IF 3 E I (λbQ a E=>?_) λbQ a E=>?_
 ·
  refine RT 3 E I ?_;exact fw _ _ I (by omega)
 refine IF 3 E I (λeT a E=>?_) λeT a E=>?_
 ·
  refine RT 3 E I ?_;exact fw _ _ I (by omega)
 refine IF 3 E I (λmU a E=>?_) λmU a E=>?_
 ·
  refine RT 3 E I ?_;exact fw _ _ I (by omega)
 refine IF 3 E I (λml a E=>?_) λml a E=>?_
 ·
  refine RT 3 E I ?_;exact fw _ _ I (by omega)
 refine IF 3 E I (λmm a E=>?_) λmm a E=>?_
 ·
  refine RT 3 E I ?_;exact fw _ _ I (by omega)
 refine IF 2 E I (λjR a E=>?_) λjR a E=>?_
 ·
  refine RT 2 E I ?_;exact fw _ _ I (by omega)
 refine IF 4 E I (λvD a E=>?_) λvD a E=>?_
 ·
  refine RT 3 E I ?_;exact fw _ _ I (by omega)
 refine IF 3 E I (λsr a E=>?_) λsr a E=>?_
 ·
  refine RT 3 E I ?_;exact fw _ _ I (by omega)
 refine IF 3 E I (λxE a E=>?_) λxE a E=>?_
 ·
  refine RT 3 E I ?_;exact fw _ _ I (by omega)
 refine IF 3 E I (λvE a E=>?_) λvE a E=>?_
 ·
  refine RT 3 E I ?_;exact fw _ _ I (by omega)
 refine IF 3 E I (λVz a E=>?_) λVz a E=>?_
 ·
  refine RT 3 E I ?_;exact fw _ _ I (by omega)
 refine IF 2 E I (λVA a E=>?_) λVA a E=>?_
 ·
  refine RT 2 E I ?_;exact fw _ _ I (by omega)
 refine RT 2 E I ?_;exact fw _ _ I (by omega)
def zM (l:List Int):Prop:=∀ x∈l,eY x
theorem Dx {zs:List Int}{b e:Nat}(I:U W w (aa b e (zs.map (.int .i64))::L))(hl:zs.length≤10) :
   Calls prog 202 #[.slice (some ⟨b,0,none⟩) zs.length zs.length] w λe' V=>∃ r:Bool,e'=.returned (.bool r)∧(r=true↔zM zs)∧U W V (aa b e (zs.map (.int .i64))::L):=by
 refine EN func202 ntmps202 rfl rfl λa E=>?_;refine RN 7 E I λa E=>?_;refine aP (λμ a w=>∃ i:Nat,(μ=zs.length-i∧i≤zs.length∧∀ j x,j<i→zs[j]?=some x→eY x)∧Fr a 18 [(5,.slice (some ⟨b,0,none⟩) zs.length zs.length),(6,.int .i64 zs.length),(7,.int .i64 i)]∧U W w (aa b e (zs.map (.int .i64))::L)) (zs.length) (⟨0,⟨by simp,by simp,λj x h=>absurd h (by omega)⟩,E.ab [5,6,7],I⟩) ?_;clear E I;rintro μ a w ⟨i,⟨rfl,hi,cF⟩,E,I⟩;refine IF 3 E I (λaj a E=>?_) λaj a E=>?_
 ·
  obtain⟨x,hx⟩:∃ x,zs[i]?=some x:=⟨_,aF (by omega)⟩;refine RN 3 E I λa E=>?_;refine SS E (ae E (I.bz (v:=.int .i64 x) (by rw[bn,hx];rfl))) λa E=>?_;refine BY 5 E I (λbA a E=>?_) λbA a E=>?_
  ·
   refine RT 6 E I ?_;refine⟨false,rfl,⟨λh=>(by cases h),λh=>?_⟩,I.sub⟩;have:=h x (bJ hx);unfold eY at this;omega
  refine IF 3 E I (λao a E=>?_) λao a E=>?_
  ·
   refine RT 2 E I ?_;refine⟨false,rfl,⟨λh=>(by cases h),λh=>?_⟩,I.sub⟩;have:=h x (bJ hx);unfold eY at this;omega
  refine RN 2 E I λa E=>?_;refine⟨zs.length-(i+1),by omega,i+1,⟨rfl,by omega,λj y hj hy=>?_⟩,E.ab [5,6,7],I.sub⟩;by_cases e:j=i
  ·subst e;rw[hx]at hy;cases hy;unfold eY;omega
  ·exact cF j y (by omega) hy
 refine RT 2 E I ?_;refine⟨true,rfl,⟨λ_ x hx=>?_,λ_=>rfl⟩,I.sub⟩;obtain⟨j,hj⟩:=jM.1 hx;exact cF j x (by have:=(a8.1 hj).1;omega) hj
theorem Jh {k n:Int}{b e:Nat}(I:U W w (aa b e [.int .i64 n]::L)) :
   Calls prog 200 #[.int .i64 k,pt b] w λe' V=>e'=.returned (.bool (decide (0≤k∧k≤n)))∧U W V (aa b e [.int .i64 n]::L):=by
 refine EN func200 ntmps200 rfl rfl λa E=>?_;refine BY 6 E I (λbA a E=>?_) λbA a E=>?_
 ·
  refine RT 5 E I ?_;refine⟨?_,I.sub⟩
  first
   | (rw[bq (show ¬ (0≤k∧k≤n) by omega)])
   | (congr 2;rw[decide_eq_decide];omega)
 refine RT 5 E I ?_;refine⟨?_,I.sub⟩
 first
  | (rw[bq (show ¬ (0≤k∧k≤n) by omega)])
  | (congr 2;rw[decide_eq_decide];omega)
end
end
section
section
variable {W w:World}{L:List SP}{c:Nat}{ad:Option Addr}
theorem VB {o:gy}{m:Int}(h:o.code=0):eZ m o↔(o.a=0∧o.b=0∧o.c=0):=by
 simp only[eZ,eY];exact⟨λh=>by omega,λh2=>.inl ⟨h,h2⟩⟩
theorem VC {o:gy}{m:Int}(h:o.code=1):eZ m o↔(eY o.a∧o.c=0):=by
 simp only[eZ,eY];exact⟨λh=>by omega,λh2=>.inr (.inl ⟨h,h2⟩)⟩
theorem VD {o:gy}{m:Int}(h:o.code=9):eZ m o↔(0≤o.a∧o.a≤m∧o.b=0∧o.c=0):=by
 simp only[eZ,eY];exact⟨λh=>by omega,λh2=>.inr (.inr (.inl ⟨h,h2⟩))⟩
theorem VE {o:gy}{m:Int}(h:o.code=15):eZ m o↔(eY o.a∧o.b=0∧o.c=0):=by
 simp only[eZ,eY];exact⟨λh=>by omega,λh2=>.inr (.inr (.inr (.inl ⟨h,h2⟩)))⟩
theorem Ji {o:gy}{m:Int}(h:o.code=10):eZ m o↔(eY o.a∧0≤o.b∧o.b≤m∧o.c=0):=by
 simp only[eZ,eY];exact⟨λh=>by omega,λh2=>.inr (.inr (.inr (.inr (.inl ⟨h,h2⟩))))⟩
theorem VF {o:gy}{m:Int}(h:o.code=2∨(11≤o.code∧o.code≤14)):eZ m o↔(eY o.a∧eY o.b∧o.c=0):=by
 simp only[eZ,eY];exact⟨λh=>by omega,λh2=>.inr (.inr (.inr (.inr (.inr (.inl ⟨h,h2⟩)))))⟩
theorem VG {o:gy}{m:Int}(h:3≤o.code∧o.code≤8):eZ m o↔(eY o.a∧eY o.b∧eY o.c):=by
 simp only[eZ,eY];exact⟨λh=>by omega,λh2=>.inr (.inr (.inr (.inr (.inr (.inr ⟨h.1,h.2,h2⟩)))))⟩
theorem su {o:gy}{m:Int}(h:eZ m o):0≤ll o.code∧(ll o.code<3→o.c=0)∧(ll o.code<2→o.b=0)∧(ll o.code<1→o.a=0):=by
 have hk:=Dw o.code;simp only[eZ,eY]at h;omega
theorem VH {o:gy}{m:Nat}(I:U W w L):Calls prog 170 #[.agg (dP o).toArray,.int .i64 m] w λe V=>∃ r:Bool,e=.returned (.bool r)∧(r=true↔eZ m o)∧U W V L:=by
 have hk:=Dw o.code;have fw:∀ (r:Bool) (P:Prop) (V:World),U W V L→(r=true↔P)→(P↔eZ m o)→∃ r':Bool,Ending.returned (Value.bool r)=.returned (.bool r')∧(r'=true↔eZ m o)∧U W V L:=λr P V h e1 e2=>⟨r,rfl,e1.trans e2,h⟩;refine EN func170 ntmps170 rfl rfl λa E=>?_;refine BX 1 E I λb2 a w E I=>?_;change U W w (aa b2 114 (dP o)::_) at I;refine BX 0 E I λb3 a w E I=>?_;refine CL 7 E I (Vy I) λa w E I=>?_;refine RN 1 E I λa E=>?_;refine cc (M:=λa w=>(0≤ll o.code∧(ll o.code<3→o.c=0)∧(ll o.code<2→o.b=0)∧(ll o.code<1→o.a=0))∧Fr a 76 [(2,pt b2),(3,pt b3),(5,.func (.func 200) #[] (List.toArray [pt b3]))]∧U W w (aa b3 3 [.int .i64 m]::aa b2 114 (dP o)::L)) ?_ ?_
 ·
  refine BY 4 E I (λbA a E=>?_) λbA a E=>?_
  ·
   refine RT 29 E I ?_;exact fw false False _ I.sub (by simp) ⟨λh=>h.elim,λh=>by have h5:=su h;omega⟩
  refine BY 3 E I (λiQ a E=>?_) λiQ a E=>?_
  ·
   refine BY 6 E I (λkP a E=>?_) λkP a E=>?_
   ·
    refine RT 20 E I ?_;exact fw false False _ I.sub (by simp) ⟨λh=>h.elim,λh=>by have h5:=su h;omega⟩
   refine BY 3 E I (λkO a E=>?_) λkO a E=>?_
   ·
    refine BY 6 E I (λDy a E=>?_) λDy a E=>?_
    ·
     refine RT 11 E I ?_;exact fw false False _ I.sub (by simp) ⟨λh=>h.elim,λh=>by have h5:=su h;omega⟩
    refine BY 3 E I (λkn a E=>?_) λkn a E=>?_
    ·
     refine IF 5 E I (λaj a E=>?_) λaj a E=>?_
     ·
      refine RT 2 E I ?_;exact fw false False _ I.sub (by simp) ⟨λh=>h.elim,λh=>by have h5:=su h;omega⟩
     refine RN 0 E I λa E=>?_;exact⟨by omega,E.ab [2,3,5],I.sub⟩
    refine RN 6 E I λa E=>?_;exact⟨by omega,E.ab [2,3,5],I.sub⟩
   refine BY 9 E I (λkn a E=>?_) λkn a E=>?_
   ·
    refine IF 5 E I (λaj a E=>?_) λaj a E=>?_
    ·
     refine RT 2 E I ?_;exact fw false False _ I.sub (by simp) ⟨λh=>h.elim,λh=>by have h5:=su h;omega⟩
    refine RN 0 E I λa E=>?_;exact⟨by omega,E.ab [2,3,5],I.sub⟩
   refine RN 6 E I λa E=>?_;exact⟨by omega,E.ab [2,3,5],I.sub⟩
  refine BY 9 E I (λkO a E=>?_) λkO a E=>?_
  ·
   refine BY 6 E I (λDy a E=>?_) λDy a E=>?_
   ·
    refine RT 11 E I ?_;exact fw false False _ I.sub (by simp) ⟨λh=>h.elim,λh=>by have h5:=su h;omega⟩
   refine BY 3 E I (λkn a E=>?_) λkn a E=>?_
   ·
    refine IF 5 E I (λaj a E=>?_) λaj a E=>?_
    ·
     refine RT 2 E I ?_;exact fw false False _ I.sub (by simp) ⟨λh=>h.elim,λh=>by have h5:=su h;omega⟩
    refine RN 0 E I λa E=>?_;exact⟨by omega,E.ab [2,3,5],I.sub⟩
   refine RN 6 E I λa E=>?_;exact⟨by omega,E.ab [2,3,5],I.sub⟩
  refine BY 9 E I (λkn a E=>?_) λkn a E=>?_
  ·
   refine IF 5 E I (λaj a E=>?_) λaj a E=>?_
   ·
    refine RT 2 E I ?_;exact fw false False _ I.sub (by simp) ⟨λh=>h.elim,λh=>by have h5:=su h;omega⟩
   refine RN 0 E I λa E=>?_;exact⟨by omega,E.ab [2,3,5],I.sub⟩
  refine RN 6 E I λa E=>?_;exact⟨by omega,E.ab [2,3,5],I.sub⟩
 clear E;(try clear I);rintro a w ⟨n2,E,I⟩;refine IF 7 E I (λao a E=>?_) λao a E=>?_
 ·
  refine RT 2 E I ?_;exact fw true True _ I.sub (by simp) ⟨λ_=>(VB ao).2 (by omega),λ_=>trivial⟩
 refine IF 3 E I (λaz a E=>?_) λaz a E=>?_
 ·
  refine RN 3 E I λa E=>?_;refine cp E rfl I underlying53 Ty.t3 rfl rfl rfl rfl (by decide) (by decide) λb48 a w E I ho=>?_;clear ho;refine aR 0 E I (Dx (zs:=[o.a]) I (by simp)) λr a w E ⟨hr,I⟩=>?_;refine RT 1 E I ?_;exact fw r _ _ I.sub hr (by rw[VC az];simp only[zM,forall_mem_cons,not_mem_nil,false_imp_iff,implies_true,and_true];exact⟨λh=>⟨h,by omega⟩,λh=>h.1⟩)
 refine IF 3 E I (λbh a E=>?_) λbh a E=>?_
 ·
  refine CL 4 E I (Jh (I.jD b3)) λa w E I=>?_;refine RT 1 E I ?_;exact fw _ _ _ I.sub cr (by rw[VD bh];omega)
 refine IF 3 E I (λbQ a E=>?_) λbQ a E=>?_
 ·
  refine RN 3 E I λa E=>?_;refine cp E rfl I underlying53 Ty.t3 rfl rfl rfl rfl (by decide) (by decide) λQS a w E I ho=>?_;clear ho;refine aR 0 E I (Dx (zs:=[o.a]) I (by simp)) λr a w E ⟨hr,I⟩=>?_;simp only[zM,forall_mem_cons,not_mem_nil,false_imp_iff,implies_true,and_true]at hr;refine BY 1 E I (λda a E=>?_) λda a E=>?_
  ·
   refine CL 3 E I (Jh (I.jD b3)) λa w E I=>?_;refine RT 2 E I ?_;exact fw _ _ _ I.sub cr (by rw[Ji bQ];exact⟨λh=>⟨hr.1 da,h.1,h.2,by omega⟩,λh=>⟨h.2.1,h.2.2.1⟩⟩)
  refine RT 6 E I ?_;exact fw _ False _ I.sub (by simp) (by rw[Ji bQ];exact⟨λh=>h.elim,λh=>by rw[hr.2 h.1]at da;cases da⟩)
 refine RN 7 E I λa E=>?_;refine cp E rfl I underlying53 Ty.t3 rfl rfl rfl rfl (by decide) (by decide) λb74 a w E I ho=>?_;clear ho;refine aR 0 E I (Dx (zs:=[o.a,o.b,o.c]) I (by simp)) λr a w E ⟨hr,I⟩=>?_;refine RT 1 E I ?_;refine fw r _ _ I.sub hr ?_;simp only[zM,forall_mem_cons,not_mem_nil,false_imp_iff,implies_true,and_true];have Dz:eY 0:=⟨by decide,by decide⟩;rcases hk with hk | ⟨hk,ca⟩ | ⟨hk,ca⟩ | hk | hk
 ·omega
 ·have DA:o.code=15:=by omega
  have tO:o.b=0:=by omega
  have DB:o.c=0:=by omega
  rw[VE DA,tO,DB];exact⟨λh=>⟨h.1,rfl,rfl⟩,λh=>⟨h.1,Dz,Dz⟩⟩
 ·have DB:o.c=0:=by omega
  rw[VF (by omega),DB];exact⟨λh=>⟨h.1,h.2.1,rfl⟩,λh=>⟨h.1,h.2.1,Dz⟩⟩
 ·rw[VG ⟨hk.1,hk.2.1⟩]
 ·omega
abbrev bw (p:Pr)(ad:Option Addr)(c:Nat):List Value:=[.string p.title,.slice ad p.ops.length c]
abbrev ay (W:World)(p:Pr)(ad:Option Addr)(c:Nat):SP:=Ro W 114 4 ad p.ops.length c (rows dP p.ops)
def tQ (o:gy)(k:Nat):Int:=[o.code,o.a,o.b,o.c].getD k 0
theorem VI (o:gy){k:Nat}(h:k<4):(dP o)[k]?=some (.int .i64 (tQ o k)):=by
 rcases (by omega:k=0∨k=1∨k=2∨k=3) with rfl | rfl | rfl | rfl <;> rfl
set_option maxHeartbeats 4000000 in
theorem VJ {p:Pr}(I:U W w (ay W p ad c::L))(aC:p.title.size≤1000000000)(cS:p.ops.length≤1000000000) :
   Calls prog 169 #[.agg (bw p ad c).toArray] w λe V=>∃ av n' c',e=.returned (.slice av n' c')∧(av.isNone=true↔¬ vw p)∧U W V (ay W p ad c::L):=by
 refine EN func169 ntmps169 rfl rfl λa E=>?_;refine BX 1 E I λb1 a w E I=>?_;change U W w (aa b1 45 (bw p ad c)::_) at I;refine RN 1 E I λa E=>?_;refine cc (M:=λa w=>(o2 p.title=true∧1≤p.ops.length∧p.ops.length≤64)∧Fr a 62 [(1,pt b1)]∧U W w (aa b1 45 (bw p ad c)::ay W p ad c::L)) ?_ ?_
 ·
  refine CL 3 E I (Vx I (by omega)) λa w E I=>?_;refine BY 2 E I (λht a E=>?_) λht a E=>?_
  ·
   refine RT 14 E I ?_;exact⟨none,0,0,rfl,⟨λ_ h=>(by
    obtain⟨h1,h2,h3,_⟩:=h
    first
     | (rw[h1]at ht;cases ht;done)
     | omega),λ_=>rfl⟩,I.sub⟩
  refine BY 6 E I (λlF a E=>?_) λlF a E=>?_
  ·
   refine RT 8 E I ?_;exact⟨none,0,0,rfl,⟨λ_ h=>(by
    obtain⟨h1,h2,h3,_⟩:=h
    first
     | (rw[h1]at ht;cases ht;done)
     | omega),λ_=>rfl⟩,I.sub⟩
  refine IF 5 E I (λaj a E=>?_) λaj a E=>?_
  ·
   refine RT 2 E I ?_;exact⟨none,0,0,rfl,⟨λ_ h=>(by
    obtain⟨h1,h2,h3,_⟩:=h
    first
     | (rw[h1]at ht;cases ht;done)
     | omega),λ_=>rfl⟩,I.sub⟩
  refine RN 0 E I λa E=>?_;exact⟨⟨ht,by omega,by omega⟩,E.ab [1],I.sub⟩
 clear E;(try clear I);rintro a w ⟨lH,E,I⟩;refine cc (M:=λa w=>∃ (bs:List UInt8) (hZ:Option Addr) (cb:Nat),(1≤bs.length∧bs.length≤p.title.size+30)∧Fr a 62 [(1,pt b1),(3,.slice hZ bs.length cb)]∧U W w (Sl 5 1 hZ bs.length cb (bc bs)::aa b1 45 (bw p ad c)::ay W p ad c::L)) ?_ ?_
 ·
  refine aY 0 (λw0 V=>V.cell? ⟨b1,1,none⟩=some (.slice ad p.ops.length c)∧V.cell? ⟨b1,0,none⟩=some (.string p.title)) [2,4,5] [0,3,3001,3004,3005,1002,1006,7] E I λa w E I hH=>?_;have ao:w.cell? ⟨b1,1,none⟩=some (.slice ad p.ops.length c):=I.bz rfl;have VK:w.cell? ⟨b1,0,none⟩=some (.string p.title):=I.bz rfl;have hC:=And.intro ao VK;refine RH 2 E I hH hC λa E=>?_;refine QH E (λw hc=>ae E (hc.2)) hC λa E=>?_;refine QH E (λw hc=>ae E (hc.1)) hC λa E=>?_;refine RH 1 E I hH hC λa E=>?_;refine a6 0 E I (Vs I (by omega)) λc1 dR a w E I=>?_;replace hC:=hH.at w (And.intro (I.bz rfl) (I.bz rfl));have hR:=qa 9 (zz p.title.size) (by rw[zz];split <;> (simp;omega));have xD:p.title.data.toList.length=p.title.size:=rfl;refine RH 0 E I hH hC λa E=>?_;refine a6 0 E I (so (N:=p.ops.length) (I.pick (Sl 5 1 c1 (aN (zz p.title.size)++p.title.data.toList).length dR (bc (aN (zz p.title.size)++p.title.data.toList)))) (by omega) (by omega) (by rw[aM];omega)) λadq cq a w E I=>?_;refine RN 1 E I λa E=>?_;have sg:=qa 9 (zz p.ops.length) (by rw[zz];split <;> (simp;omega));have vl:=qV (zz p.ops.length);exact⟨_,adq,cq,⟨by rw[aM];omega,by rw[aM,aM];omega⟩,E.ab [1,3],I.sub⟩
 clear E;(try clear I);rintro a w ⟨bs,hZ,cb,⟨n3,oO⟩,E,I⟩;refine RN 6 E I λa E=>?_;refine aP (λμ a w=>∃ (i:Nat) (bs:List UInt8) (hZ:Option Addr) (cb:Nat),(μ=p.ops.length-i∧i≤p.ops.length∧1≤bs.length∧bs.length≤p.title.size+30+40*i∧∀ j o,j<i→p.ops[j]?=some o→qS o)∧Fr a 62 [(3,.slice hZ bs.length cb),(32,.slice ad p.ops.length c),(33,.int .i64 p.ops.length),(34,.int .i64 i)]∧U W w (Sl 5 1 hZ bs.length cb (bc bs)::ay W p ad c::L)) (p.ops.length) (⟨0,bs,hZ,cb,⟨by simp,by simp,n3,by omega,λj o h=>absurd h (by omega)⟩,E.ab [3,32,33,34],I.sub⟩) ?_;clear E I;rintro μ a w ⟨i,bs,hZ,cb,⟨rfl,hi,n3,oO,cF⟩,E,I⟩;refine IF 3 E I (λao a E=>?_) λao a E=>?_
 ·
  obtain⟨o,ho⟩:∃ o,p.ops[i]?=some o:=⟨_,aF (by omega)⟩;obtain⟨kI,oo,gR,gA⟩:=I.qT ad (by omega);rw[gR]at E;refine RN 3 E I λa E=>?_;refine SS E (bR E underlying114 rfl Ty.t114 (vx gA ho)) λa E=>?_;refine AL 0 E I λb5 a w E I=>?_;refine SA 0 E I λa w E I=>?_;refine RN 9 E I λa E=>?_;refine SS E (Cs E underlying230 Ty.t230 Ty.t3 rfl rfl) λa E=>?_;change Fr a 62 ((46,.agg (dP o).toArray)::_) at E;refine RN 1 E I λa E=>?_;rw[← gR]at E;refine aP (λμ a w=>∃ (k:Nat) (bs:List UInt8) (hZ:Option Addr) (cb:Nat),(μ=4-k∧k≤4∧1≤bs.length∧bs.length≤p.title.size+30+40*i+10*k∧∀ j,j<k→du (tQ o j))∧Fr a 62 [(3,.slice hZ bs.length cb),(32,.slice ad p.ops.length c),(33,.int .i64 p.ops.length),(34,.int .i64 i),(46,.agg (dP o).toArray),(47,.int .i64 k)]∧U W w (Sl 5 1 hZ bs.length cb (bc bs)::ay W p ad c::L)) (4) (⟨0,bs,hZ,cb,⟨by simp,by simp,n3,by omega,λj h=>absurd h (by omega)⟩,E.ab [3,32,33,34,46,47],I.sub⟩) ?_;clear E I;rintro μ a w ⟨k,bs,hZ,cb,⟨rfl,hk,n3,oO,o5⟩,E,I⟩;refine IF 3 E I (λaz a E=>?_) λaz a E=>?_
  ·
   refine RN 2 E I λa E=>?_;refine SS E (rT E underlying230 underlying3 rfl Ty.t3 (by omega) (VI o (by omega))) λa E=>?_;refine BY 6 E I (λbA a E=>?_) λbA a E=>?_
   ·
    refine RT 6 E I ?_;refine⟨none,0,0,rfl,⟨λ_ h=>?_,λ_=>rfl⟩,I.sub⟩;obtain⟨_,_,_,h4⟩:=h;have h5:=h4 o (bJ ho);have h6:du (tQ o k):=by
     rcases (by omega:k=0∨k=1∨k=2∨k=3) with rfl | rfl | rfl | rfl
     ·exact h5.1
     ·exact h5.2.1
     ·exact h5.2.2.1
     ·exact h5.2.2.2
    simp only[du]at h6;omega
   refine IF 3 E I (λbh a E=>?_) λbh a E=>?_
   ·
    refine RT 2 E I ?_;refine⟨none,0,0,rfl,⟨λ_ h=>?_,λ_=>rfl⟩,I.sub⟩;obtain⟨_,_,_,h4⟩:=h;have h5:=h4 o (bJ ho);have h6:du (tQ o k):=by
     rcases (by omega:k=0∨k=1∨k=2∨k=3) with rfl | rfl | rfl | rfl
     ·exact h5.1
     ·exact h5.2.1
     ·exact h5.2.2.1
     ·exact h5.2.2.2
    simp only[du]at h6;omega
   refine a6 2 E I (so (N:=tQ o k) (I.pick (Sl 5 1 hZ bs.length cb (bc bs))) (by omega) (by omega) (by omega)) λadq cq a w E I=>?_;refine RN 3 E I λa E=>?_;have sg:=qa 9 (zz (tQ o k)) (by rw[zz];split <;> (simp;omega));refine⟨4-(k+1),by omega,k+1,bs++aN (zz (tQ o k)),adq,cq,⟨rfl,by omega,by rw[aM];omega,by rw[aM];omega,λj hj=>?_⟩,E.ab [3,32,33,34,46,47],I.sub⟩;rcases Nat.lt_or_ge j k with h | h
   ·exact o5 j h
   ·obtain rfl:j=k:=by omega
    simp only[du];omega
  refine RN 0 E I λa E=>?_;obtain rfl:k=4:=by omega
  refine RN 2 E I λa E=>?_;refine⟨p.ops.length-(i+1),by omega,i+1,bs,hZ,cb,⟨rfl,by omega,n3,by omega,λj o' hj j7=>?_⟩,E.ab [3,32,33,34],I.sub⟩;rcases Nat.lt_or_ge j i with h | h
  ·exact cF j o' h j7
  ·obtain rfl:j=i:=by omega
   rw[ho]at j7;cases j7;exact⟨o5 0 (by omega),o5 1 (by omega),o5 2 (by omega),o5 3 (by omega)⟩
 refine RT 3 E I ?_;obtain⟨mn,ox,DD,_⟩:=I.bW hZ (by omega);refine⟨hZ,bs.length,cb,rfl,⟨λh=>(by rw[DD]at h;cases h),λh=>?_⟩,I.sub⟩;exact absurd ⟨lH.1,lH.2.1,lH.2.2,λo' j7=>(by
  obtain⟨j,hj⟩:=jM.1 j7;exact cF j o' (by have:=(a8.1 hj).1;omega) hj)⟩ h
theorem VL {p:Pr}(I:U W w (ay W p ad c::L))(aC:p.title.size≤1000000000)(cS:p.ops.length≤1000000000) :
   Calls prog 132 #[.agg (bw p ad c).toArray] w λe V=>∃ r:Int,e=.returned (.int .i64 r)∧(r = -1↔db p)∧U W V (ay W p ad c::L):=by
 refine EN func132 ntmps132 rfl rfl λa E=>?_;refine BX 1 E I λb1 a w E I=>?_;change U W w (aa b1 45 (bw p ad c)::_) at I;refine jI 4 E I (VJ (I.pick (ay W p ad c)) aC cS) λaeC ne ce a w E ⟨bP,I⟩=>?_;refine IF 1 E I (λaj a E=>?_) λaj a E=>?_
 ·
  refine RT 2 E I ?_;exact⟨-2,rfl,⟨λh=>absurd h (by decide),λh=>absurd h.1 (bP.1 aj)⟩,I.sub⟩
 have lH:vw p:=Classical.byContradiction λh=>by rw[bP.2 h]at aj;cases aj
 refine RN 6 E I λa E=>?_;refine aP (λμ a w=>∃ i:Nat,(μ=p.ops.length-i∧i≤p.ops.length∧∀ j o,j<i→p.ops[j]?=some o→eZ p.ops.length o)∧Fr a 24 [(1,pt b1),(9,.slice ad p.ops.length c),(10,.int .i64 p.ops.length),(11,.int .i64 i)]∧U W w (aa b1 45 (bw p ad c)::ay W p ad c::L)) (p.ops.length) (⟨0,⟨by simp,by simp,λj o h=>absurd h (by omega)⟩,E.ab [1,9,10,11],I.sub⟩) ?_;clear E I;rintro μ a w ⟨i,⟨rfl,hi,cF⟩,E,I⟩;refine IF 3 E I (λao a E=>?_) λao a E=>?_
 ·
  obtain⟨o,ho⟩:∃ o,p.ops[i]?=some o:=⟨_,aF (by omega)⟩;obtain⟨kI,oo,gR,gA⟩:=I.qT ad (by omega);rw[gR]at E;refine RN 4 E I λa E=>?_;refine SS E (bR E underlying114 rfl Ty.t114 (vx gA ho)) λa E=>?_;refine AL 0 E I λb4 a w E I=>?_;refine SA 1 E I λa w E I=>?_;refine aR 5 E I (VH (o:=o) (m:=p.ops.length) I) λr a w E ⟨hr,I⟩=>?_;refine IF 1 E I (λaz a E=>?_) λaz a E=>?_
  ·
   refine RT 3 E I ?_;refine⟨i,rfl,⟨λh=>absurd h (by omega),λh=>?_⟩,I.sub⟩;rw[hr.2 (h.2 o (bJ ho))]at az;cases az
  have tR:r=true:=by simpa using az
  refine RN 2 E I λa E=>?_;rw[← gR]at E;refine⟨p.ops.length-(i+1),by omega,i+1,⟨rfl,by omega,λj o' hj j7=>?_⟩,E.ab [1,9,10,11],I.sub⟩;rcases Nat.lt_or_ge j i with h | h
  ·exact cF j o' h j7
  ·obtain rfl:j=i:=by omega
   rw[ho]at j7;cases j7;exact hr.1 tR
 refine RT 2 E I ?_;refine⟨-1,rfl,⟨λ_=>⟨lH,λo ho=>?_⟩,λ_=>rfl⟩,I.sub⟩;obtain⟨j,hj⟩:=jM.1 ho;exact cF j o (by have:=(a8.1 hj).1;omega) hj
theorem DE {p:Pr}(I:U W w (ay W p ad c::L))(aC:p.title.size≤1000000000)(cS:p.ops.length≤1000000000) :
   Calls prog 97 #[.agg (bw p ad c).toArray] w λe V=>∃ r:Bool,e=.returned (.bool r)∧(r=true↔db p)∧U W V (ay W p ad c::L):=by
 refine EN func97 ntmps97 rfl rfl λa E=>?_;refine BX 1 E I λb1 a w E I=>?_;change U W w (aa b1 45 (bw p ad c)::_) at I;refine aR 3 E I (VL (I.pick (ay W p ad c)) aC cS) λr a w E ⟨hr,I⟩=>?_;refine RT 2 E I ?_;exact⟨_,rfl,by rw[cr];exact hr,I.sub⟩
end
end
end Go.Proofs.YteoldcfapaiobaaGreat
