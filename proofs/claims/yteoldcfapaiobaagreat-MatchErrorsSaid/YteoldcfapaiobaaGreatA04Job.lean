/- The walks of package job. -/
import Derived.Test.YteoldcfapaiobaaGreatA01Row
import Derived.Test.YteoldcfapaiobaaGreatA03Snap2
import Derived.Lib.AppendStr
namespace Go.Proofs.YteoldcfapaiobaaGreat
open Tryz
open List (mem_cons_self drop_zero take_succ_cons getElem?_take getElem?_drop set_eq_take_append_cons_drop perm_middle getElem?_append_right drop_drop drop_left take_zero take_append nil_append map_cons length_nil cons_append getElem_set_self eraseIdx_set_eq take_length append_nil ext_getElem? mem_or_eq_of_mem_set getElem_mem map_nil length_filter_le flatMap_cons forall_mem_cons not_mem_nil)
open Go.RowKit
set_option linter.unusedVariables false
set_option linter.unusedSimpArgs false
set_option maxRecDepth 10000
set_option synthInstance.maxSize 4000
set_option synthInstance.maxHeartbeats 400000
section
def jc (l:List (Int×Int)):List Value:=l.flatMap λj=>[.int .i64 j.1,.int .i64 j.2]
theorem oU (l:List (Int×Int)):(jc l).length=l.length*2:=by
 induction l with
 | nil=>rfl
 | cons x l ih=>simp only[jc,flatMap_cons,aK,e9,length_nil] at *;omega
theorem Iq (l m:List (Int×Int)):jc (l++m)=jc l++jc m:=by simp[jc]
theorem Ir (l:List (Int×Int))(i:Nat):(jc l).drop (i*2)=jc (l.drop i):=by
 induction i generalizing l with
 | zero=>simp
 | succ i ih =>
  cases l with
  | nil=>simp[jc]
  | cons x l =>
   have:(i+1)*2=i*2+2:=by omega
   rw[this];simp only[jc,flatMap_cons,List.drop_succ_cons] at *;rw[← ih l];simp
theorem Is (l:List (Int×Int))(i:Nat):(jc l).take (i*2)=jc (l.take i):=by
 induction i generalizing l with
 | zero=>simp[jc]
 | succ i ih =>
  cases l with
  | nil=>simp[jc]
  | cons x l =>
   have:(i+1)*2=i*2+2:=by omega
   rw[this];simp only[jc,flatMap_cons,take_succ_cons] at *;rw[← ih l];simp
theorem Cy (l:List (Int×Int))(i:Nat)(h:i<l.length):((jc l).drop (i*2)).take 2=[.int .i64 l[i].1,.int .i64 l[i].2]:=by
 rw[Ir,j6 h];simp only[jc,flatMap_cons,cons_append,nil_append,take_succ_cons,take_zero]
def fi (p:Int×Int→Bool)(l:List (Int×Int)):Int:=if l.findIdx p<l.length then (l.findIdx p:Int) else -1
theorem TY (p:Int×Int→Bool)(l:List (Int×Int)):decide (0≤fi p l)=l.any p:=by
 unfold fi;split <;> rename_i h
 ·have:=List.findIdx_lt_length.1 h;simp only[List.any_eq_true.2 this];simp
 ·rw[List.findIdx_lt_length]at h;have:l.any p=false:=by rw[← Bool.not_eq_true,List.any_eq_true];exact h
  simp[this]
theorem TZ (p:Int×Int→Bool)(l:List (Int×Int))(i:Nat)(hi:i<l.length)(h0:∀ j,(h:j<i)→p (l[j]'(by omega))=false)(h1:p l[i]=true):fi p l=i:=by
 have:l.findIdx p=i:=(List.findIdx_eq hi).2 ⟨h1,λj hj=>h0 j hj⟩;simp[fi,this,hi]
theorem T4 (p:Int×Int→Bool)(l:List (Int×Int))(h0:∀ j,(h:j<l.length)→p l[j]=false):fi p l = -1:=by
 have:¬ l.findIdx p<l.length:=by
  rw[List.findIdx_lt_length];rintro⟨x,hx,hp⟩;obtain⟨j,hj,rfl⟩:=List.mem_iff_getElem.1 hx;rw[h0 j hj]at hp;cases hp
 simp[fi,this]
theorem T5 {q:Nat→Prop}{i:Nat}(h:∀ j,j<i→q j)(h1:q i):∀ j,j<i+1→q j:=λj hj=>by
 rcases Nat.lt_or_ge j i with h' | h'
 ·exact h j h'
 ·obtain rfl:j=i:=by omega
  exact h1
def vf (W:World)(L:List SP)(f:Nat)(us:List Value)(p:Int×Int→Bool):Prop :=
 ∀ w (x:Int×Int),V W w L→Calls prog f ([Value.agg #[.int .i64 x.1,.int .i64 x.2]]++us).toArray w λe w'=>e=.returned (.bool (p x))∧V W w' L
theorem zd {W w:World}{L R:List SP}{a e:Nat}{s:Option Addr}{n c:Nat}(I:V W w L) [fC L a e [.slice s n c] R] :
   Calls prog 207 #[pt a] w λe w'=>e=.returned (.int .i64 n)∧V W w' L:=by
 refine EN func207 ntmps207 rfl rfl λa E=>?_;refine RN 6 E I λa E=>?_;replace E:=E.aN 4;refine RT 8 E I ?_;exact⟨rfl,I⟩
theorem T6 {W:World}{L R:List SP}{b e:Nat}{x1 x2:Int} [fC L b e [.int .i64 x1,.int .i64 x2] R] :
   vf W L 210 [pt b] (λy=>decide (y.1=x1)):=by
 rintro w ⟨Cz,CA⟩ I;refine EN func210 ntmps210 rfl rfl λa E=>?_;refine BX 1 E I λb2 a w E I=>?_;refine RT 8 E I ?_;exact⟨rfl,I.tail⟩
theorem It {W w:World}{L R:List SP}{ad:Option Addr}{c f:Nat}{us:List Value}{l:List (Int×Int)}{p:Int×Int→Bool}(I:V W w L)[pk:fL L ad l.length c 245 2 (jc l) R]
   (hc:g5 prog f=true) (hf:vf W L f us p) (hl:l.length≤140737488355328) :
   Calls prog 232 #[.slice ad l.length c,.func (.func f) #[] us.toArray] w λe w'=>e=.returned (.int .i64 (fi p l))∧V W w' L:=by
 refine EN func232 ntmps232 rfl rfl λa E=>?_;refine RN 7 E I λa E=>?_;refine aS (λμ a w=>∃ i:Nat,(μ=l.length-i∧i≤l.length∧(∀ j,j<i→∀ h:j<l.length,p l[j]=false))∧Fr a 19 [(0,.slice ad l.length c),(1,.func (.func f) #[] us.toArray),(4,.int .i64 0),(7,.int .i64 l.length),(8,.int .i64 i)]∧V W w L) (l.length) (⟨0,⟨by simp,by simp,λj h=>by omega⟩,E.ab [0,1,4,7,8],I⟩) ?_;clear E I;rintro μ a w ⟨i,⟨rfl,hi,hp⟩,E,I⟩;refine IF 3 E I (λaj a E=>?_) λaj a E=>?_
 ·
  obtain⟨b,off,rfl,cK⟩:=I.bY ad (by omega);have aJ:i<l.length:=by omega
  have hr:=cK.part (i*2) 2;rw[Cy l i aJ]at hr;refine RN 9 E I λa E=>?_;refine SS E (bO E underlying245 rfl Ty.t245 (hr)) λa E=>?_;refine CL 0 E I (hf _ l[i] I) (hf:=hc) λa w E I=>?_;refine IF 0 E I (λan a E=>?_) λan a E=>?_
  ·
   refine RT 3 E I ?_;exact⟨by rw[TZ p l i aJ (λj hj=>hp j hj (by omega)) an],I⟩
  refine RN 2 E I λa E=>?_;exact⟨l.length-(i+1),by omega,i+1,⟨rfl,by omega,T5 hp (λ_=>an)⟩,E.ab [0,1,4,7,8],I⟩
 refine RT 2 E I ?_;exact⟨by rw[T4 p l (λj hj=>hp j (by omega) hj)],I⟩
theorem T7 {W w:World}{L R:List SP}{ad:Option Addr}{c f:Nat}{us:List Value}{l:List (Int×Int)}{p:Int×Int→Bool}(I:V W w L)[pk:fL L ad l.length c 245 2 (jc l) R]
   (hc:g5 prog f=true) (hf:vf W L f us p) (hl:l.length≤140737488355328) :
   Calls prog 209 #[.slice ad l.length c,.func (.func f) #[] us.toArray] w λe w'=>e=.returned (.bool (l.any p))∧V W w' L:=by
 refine EN func209 ntmps209 rfl rfl λa E=>?_;refine CL 5 E I (It I hc hf hl) λa w E I=>?_;refine RT 2 E I ?_;exact⟨by rw[TY],I⟩
def bC (q:Nat)(l:List (Int×Int)):SP:=λh=>∃ i:Option Addr×Nat,ck [aa q 243 [.slice i.1 l.length i.2],Sl 245 2 i.1 l.length i.2 (jc l)] h
theorem bC.open {W w:World}{L:List SP}{q:Nat}{l:List (Int×Int)}(I:V W w (bC q l::L)) :
   ∃ ad c,V W w (aa q 243 [.slice ad l.length c]::Sl 245 2 ad l.length c (jc l)::L):=by
 obtain⟨i,_,h⟩:=I.jj (p:=λ_=>True) (B:=λi:Option Addr×Nat=>ck [aa q 243 [.slice i.1 l.length i.2],Sl 245 2 i.1 l.length i.2 (jc l)]) (λ_ ⟨i,h⟩=>⟨i,trivial,h⟩);exact⟨i.1,i.2,h.open (λ_ x=>x)⟩
theorem bC.shut {W w:World}{L R R2:List SP}{q n c:Nat}{ad:Option Addr}{cs:List Value}{l:List (Int×Int)}(I:V W w L)[k:fC L q 243 [.slice ad n c] R][k2:fL R ad n c 245 2 cs R2]
   (hn:n=l.length) (hc:cs=jc l):V W w (bC q l::R2):=by
 subst hn;subst hc;have h1:=(I.perm k.perm).perm (List.Perm.cons _ k2.perm);exact V.shut (M:=[_,_]) h1 λ_ x=>⟨(ad,c),x⟩
theorem T8 {W w:World}{L:List SP}(I:V W w L) :
   Calls prog 90 #[] w λe w'=>∃ q,e=.returned (pt q)∧V W w' (bC q []::L):=by
 refine EN func90 ntmps90 rfl rfl λa E=>?_;refine BX 4 E I λb2 a w E I=>?_;refine RT 1 E I ?_;exact⟨_,rfl,by
  have h1:=(I.bH 245 2 none);exact (bC.shut (q:=b2) (l:=[]) h1 rfl rfl).sub⟩
def pU (l:List (Int×Int))(b:Int):Bool:=decide (l.length<16)&&!l.any (λy=>decide (y.1=b))
theorem ze {W w:World}{L:List SP}{q:Nat}{l:List (Int×Int)}{b e:Int}(I:V W w (bC q l::L))(hl:l.length≤16) :
   Calls prog 182 #[pt q,.agg #[.int .i64 b,.int .i64 e]] w λr w' =>
    r=.returned (.bool (pU l b))∧V W w' (bC q (if pU l b then l++[(b,e)] else l)::L):=by
 obtain⟨ad,c,I⟩:=bC.open I;refine EN func182 ntmps182 rfl rfl λa E=>?_;refine BX 1 E I λb3 a w E I=>?_;refine RN 6 E I λa E=>?_;replace E:=E.aN 7;refine BY 8 E I (λlr a E=>?_) λlr a E=>?_
 ·
  have hm:pU l b=false:=by simp only[pU,Bool.and_eq_false_iff,decide_eq_false_iff_not];left;omega
  refine RT 10 E I ?_;exact⟨by rw[hm],by rw[hm,ae (by decide)];exact (bC.shut (q:=q) (ad:=ad) (l:=l) I rfl rfl).sub⟩
 refine CL 5 E I (T7 I (by kernel_rfl) T6 (by omega)) λa w E I=>?_;refine IF 1 E I (λaj a E=>?_) λaj a E=>?_
 ·
  have hm:pU l b=false:=by simp only[pU,aj,Bool.not_true,Bool.and_false]
  refine RT 2 E I ?_;exact⟨by rw[hm],by rw[hm,ae (by decide)];exact (bC.shut (q:=q) (ad:=ad) (l:=l) I rfl rfl).sub⟩
 have hm:pU l b=true:=by simp only[pU,aj,Bool.not_false,Bool.and_true,decide_eq_true_eq];omega
 refine bL 1 [5,6] [0,1,2,3,3004,1005,1006,1007,8,9,1010] E I λa w E I hH U=>?_;refine RH 6 E I hH U λa E=>?_;refine cm E rfl I underlying241 Ty.t245 rfl rfl rfl rfl (by decide) (by decide) λT9 a w E I ho=>?_;replace U:=U.trans ho;clear ho;refine RH 0 E I hH U λa E=>?_;refine cJ E rfl I underlying241 Ty.t245 rfl rfl I.ai rfl (by simp[Value.oneCell']) (by decide) (by decide) (by omega) λIu Iv a w E I=>?_;refine ST 2 E I (λa w E I=>?_);refine RT 2 E I ?_;exact⟨by rw[hm],by rw[hm,al rfl];exact (bC.shut (q:=q) (l:=l++[(b,e)]) I (by simp) (by simp[Iq,jc])).sub⟩
theorem Ua {W w:World}{L:List SP}{q:Nat}(I:V W w (bC q []::L)) :
   Calls prog 180 #[pt q] w λr w' =>
    r=.returned (.tuple #[.agg #[.int .i64 0,.int .i64 0],.bool false])∧V W w' (bC q []::L):=by
 obtain⟨ad,c,I⟩:=bC.open I;refine EN func180 ntmps180 rfl rfl λa E=>?_;refine AL 1 E I λb2 a w E I=>?_;refine CL 4 E I (zd (a:=q) I) λa w E I=>?_;refine IF 1 E I (λaj a E=>?_) λaj a E=>?_
 ·
  skip
  refine SA 2 E I λa w E I=>?_;refine RT 1 E I ?_;exact⟨rfl,(bC.shut (q:=q) (ad:=ad) (l:=[]) I rfl rfl).sub⟩
 exact absurd rfl aj
theorem Ub {W w:World}{L:List SP}{q:Nat}{x:Int×Int}{l:List (Int×Int)}(I:V W w (bC q (x::l)::L)) :
   Calls prog 180 #[pt q] w λr w' =>
    r=.returned (.tuple #[.agg #[.int .i64 x.1,.int .i64 x.2],.bool true])∧V W w' (bC q l::L):=by
 obtain⟨ad,c,I⟩:=bC.open I;have cd:=(I.sl ad).2;refine EN func180 ntmps180 rfl rfl λa E=>?_;refine AL 1 E I λb2 a w E I=>?_;refine CL 4 E I (zd (a:=q) I) λa w E I=>?_;refine IF 1 E I (λaj a E=>?_) λaj a E=>?_
 ·
  simp at aj;omega
 refine RN 1 E I λa E=>?_;obtain⟨b,off,rfl,cK⟩:=I.bY ad (by simp);have hr:=cK.part 0 2;rw[show 0=0*2 from rfl,Cy (x::l) 0 (by simp)]at hr;refine SX 4 E I (by simp) λa E=>?_;refine RN 0 E I λa E=>?_;refine SS E (bO E underlying245 rfl Ty.t245 (hr)) λa E=>?_;refine AL 0 E I λb4 a w E I=>?_;refine SA 0 E I λa w E I=>?_;refine SX 6 E I (by simp) λa E=>?_;replace I:=I.Bv (some ⟨b,off,none⟩) 1 (x::l).length (by simp) (bh _);refine ST 2 E I (λa w E I=>?_);refine SA 2 E I λa w E I=>?_;refine RT 1 E I ?_;exact⟨rfl,(bC.shut (q:=q) (l:=l) I (by simp) (by simp[jc];rw[fX];exact Nat.le_of_eq (oU l))).sub⟩
def kept (p:Int×Int→Bool)(l:List (Int×Int)):List (Int×Int):=l.filter λx=>!p x
theorem CB (p:Int×Int→Bool)(l:List (Int×Int))(j:Nat)(h:j<l.length):kept p (l.take (j+1))=kept p (l.take j)++(if p l[j] then [] else [l[j]]):=by
 rw[iU h,kept,List.filter_append];cases hp:p l[j] <;> simp[kept,hp]
theorem Iw (p:Int×Int→Bool)(l:List (Int×Int))(h:fi p l = -1):kept p l=l:=by
 unfold fi at h;split at h
 ·omega
 ·rename_i h1;rw[List.findIdx_lt_length]at h1;exact List.filter_eq_self.2 λx hx=>by
   cases hp:p x with
   | false=>rfl
   | true=>exact absurd ⟨x,hx,hp⟩ h1
theorem Uc (p:Int×Int→Bool)(l:List (Int×Int))(h:¬ fi p l = -1):∃ k:Nat,fi p l=(k:Int)∧k<l.length∧kept p (l.take (k+1))=l.take k:=by
 unfold fi at h ⊢;split at h
 ·rename_i h1;refine⟨l.findIdx p,by rw[al h1],h1,?_⟩;rw[CB p l _ h1,List.findIdx_getElem (w:=h1),al rfl,append_nil];refine List.filter_eq_self.2 λx hx=>?_;obtain⟨j,hj,rfl⟩:=List.mem_iff_getElem.1 hx;simp only[en]at hj;have:=List.not_of_lt_findIdx (p:=p) (xs:=l) (i:=j) (by omega);simp at this ⊢;exact this
 ·exact absurd rfl h
theorem Ud {pre post:List Value}(l:List (Int×Int))(i:Nat)(h:i<l.length):((pre++jc l++post).drop (pre.length+i*2)).take 2=[.int .i64 l[i].1,.int .i64 l[i].2]:=by
 rw[dw,← drop_drop,drop_left,List.drop_append_of_le_length (by rw[oU];omega),List.take_append_of_le_length (by simp[oU];omega)];exact Cy l i h
theorem Ue {pre post:List Value}(l:List (Int×Int))(i:Nat)(x:Int×Int)(h:i<l.length) :
   cC (pre++jc l++post) (pre.length+i*2) [.int .i64 x.1,.int .i64 x.2]=pre++jc (l.set i x)++post:=by
 have qI:l.set i x=l.take i++x::l.drop (i+1):=by rw[set_eq_take_append_cons_drop,al h]
 have e1:(pre++jc l++post).take (pre.length+i*2)=pre++jc (l.take i):=by
  rw[dw,take_append,fX (by omega),show pre.length+i*2-pre.length=i*2 from by omega,List.take_append_of_le_length (by rw[oU];omega),Is]
 have e2:(pre++jc l++post).drop (pre.length+i*2+2)=jc (l.drop (i+1))++post:=by
  rw[dw,Nat.add_assoc,← drop_drop,drop_left,show i*2+2=(i+1)*2 from by omega,List.drop_append_of_le_length (by rw[oU];omega),Ir]
 rw[cC,e1];show _++_++(pre++jc l++post).drop (pre.length+i*2+2)=_;rw[e2,qI,Iq];simp[jc]
structure Dl (p:Int×Int→Bool)(l l':List (Int×Int))(i j:Nat):Prop where
 len:l'.length=l.length
 le:j≤l.length
 lt:i<j
 cQ:i=(kept p (l.take j)).length
 fst:l'.take i=kept p (l.take j)
 snd:l'.drop j=l.drop j
theorem Dl.get {p l l' i j}(d:Dl p l l' i j)(h:j<l.length):l'[j]'(by have:=d.len;omega)=l[j]:=by
 have h1:=d.snd;rw[j6 (by have:=d.len;omega),j6 h]at h1;exact (List.cons.inj h1).1
theorem Dl.ab {p l l' i j}(d:Dl p l l' i j)(h:j<l.length)(hp:p l[j]=false):Dl p l (l'.set i l[j]) (i+1) (j+1):=by
 have hi:i<l'.length:=by have:=d.len;have:=d.lt;omega
 have hk:=CB p l j h;rw[hp]at hk;refine⟨by simp[d.len],by omega,by have:=d.lt;omega,?_,?_,?_⟩
 ·rw[hk];simp[← d.cQ]
 ·rw[hk,← d.fst,set_eq_take_append_cons_drop,al hi,take_append,fX (by simp;omega)];have:(l'.take i).length=i:=by simp;omega
  simp[this]
 ·have h1:=d.snd;rw[List.drop_set_of_lt (by have:=d.lt;omega)];have:=congrArg (List.drop 1) h1;simpa [drop_drop] using this
theorem Dl.skip {p l l' i j}(d:Dl p l l' i j)(h:j<l.length)(hp:p l[j]=true):Dl p l l' i (j+1):=by
 have hk:=CB p l j h;rw[hp]at hk;simp only[if_true,append_nil]at hk;refine⟨d.len,by omega,by have:=d.lt;omega,by rw[hk];exact d.cQ,by rw[hk];exact d.fst,?_⟩;have:=congrArg (List.drop 1) d.snd;simpa [drop_drop] using this
theorem Uf {W w:World}{L:List SP}{ad:Option Addr}{c f:Nat}{us:List Value}{l:List (Int×Int)}{p:Int×Int→Bool}(I:V W w (Sl 245 2 ad l.length c (jc l)::L))
   (hc:g5 prog f=true) (hf:∀ A,vf W (A::L) f us p) (jk:∀ A B,vf W (A::B::L) f us p) (hl:l.length≤140737488355328) :
   Calls prog 321 #[.slice ad l.length c,.func (.func f) #[] us.toArray] w λe w' =>
    ∃ av c',e=.returned (.slice av (kept p l).length c')∧V W w' (Sl 245 2 av (kept p l).length c' (jc (kept p l))::L):=by
 refine EN func321 ntmps321 rfl rfl λa E=>?_;refine CL 5 E I (It (p:=p) I hc (hf _) hl) λa w E I=>?_;refine IF 5 E I (λaj a E=>?_) λaj a E=>?_
 ·
  refine RT 3 E I ?_;exact⟨ad,c,by rw[Iw p l aj],by rw[Iw p l aj];exact I⟩
 obtain⟨k,hk,eK,jG⟩:=Uc p l aj;rw[hk]at E;have cd:=(I.sl ad).2;have hA:=E;obtain⟨b,pre,post,⟨dD,dU,rfl,a4⟩,j3⟩:=I.ln (by omega);have E:=hA;have I:=j3;refine RN 5 E I λa E=>?_;refine aS (λμ a w=>∃ i j:Nat,∃ l':List (Int×Int),(μ=l.length-j∧Dl p l l' i j)∧Fr a 42 [(0,.slice (some ⟨b,pre.length,none⟩) l.length c),(1,.func (.func f) #[] us.toArray),(4,.slice none 0 0),(5,.int .i64 i),(6,.int .i64 j)]∧V W w (aa b 245 (pre++jc l'++post)::L)) (l.length-(k+1)) (⟨k,k+1,l,⟨rfl,rfl,by omega,by omega,by rw[jG];simp;omega,by rw[jG],rfl⟩,E.ab [0,1,4,5,6],I⟩) ?_;clear E I;rintro μ a w ⟨i,j,l',⟨rfl,hd⟩,E,I⟩;have r9:=hd.len;have kb:=hd.le;have hd3:=hd.lt;refine IF 6 E I (λan a E=>?_) λan a E=>?_
 ·
  have eO:j<l.length:=by omega
  have Ug:=hd.get eO;have hr:Rd w b (pre.length+j*2) [.int .i64 l[j].1,.int .i64 l[j].2]:=by
   intro q v hq;rw[I.cell];have:=Ud (pre:=pre) (post:=post) l' j (by omega);rw[Ug]at this;rw[← this]at hq;rw[getElem?_take]at hq;split at hq
   ·rw[getElem?_drop]at hq;exact hq
   ·cases hq
  refine RN 5 E I λa E=>?_;refine SS E (bO E underlying245 rfl Ty.t245 (hr)) λa E=>?_;refine AL 0 E I λdq a w E I=>?_;refine SA 0 E I λa w E I=>?_;refine CL 3 E I (jk _ _ _ l[j] I) (hf:=hc) λa w E I=>?_;refine IF 1 E I (λay a E=>?_) λay a E=>?_
  ·
   refine RN 5 E I λa E=>?_;refine qj E rfl I Ty.t245 (by simp[Value.oneCell']) (by simp[oU];omega) λa w E I=>?_;rw[Ue l' i l[j] (by omega)]at I;refine RN 6 E I λa E=>?_;exact⟨l.length-(j+1),by omega,i+1,j+1,_,⟨rfl,hd.ab eO ay⟩,E.ab [0,1,4,5,6],I.sub⟩
  refine RN 3 E I λa E=>?_;exact⟨l.length-(j+1),by omega,i,j+1,l',⟨rfl,hd.skip eO ay⟩,E.ab [0,1,4,5,6],I.sub⟩
 obtain rfl:j=l.length:=by omega
 have wV:=hd.cQ;have Ix:=hd.fst;rw[take_length]at wV Ix;refine RN 4 E I λa E=>?_;rw[oG (by omega)]at E;have hle:pre.length+i*2+(l.length-i)*2≤(pre++jc l'++post).length:=by simp only[aK,oU,r9];omega
 refine Ha E rfl I underlying241 Ty.t245 rfl rfl hle λa w E I=>?_;refine RN 4 E I λa E=>?_;rw[oG (by omega)]at E;refine RT 1 E I ?_;refine⟨some ⟨b,pre.length+0*2,none⟩,c,by rw[wV];rfl,?_⟩;generalize hz:(Builtin.zeroCells (Value.cells (.agg #[.int .i64 0,.int .i64 0])) (l.length-i)).toList=zs at I;have iR:zs.length=(l.length-i)*2:=by rw[← hz];exact wD 0 (aX:=0) rfl _
 have he:cC (pre++jc l'++post) (pre.length+i*2) zs=pre++jc (kept p l)++(zs++post):=by
  have e1:(pre++jc l'++post).take (pre.length+i*2)=pre++jc (kept p l):=by
   rw[dw,take_append,fX (by omega),show pre.length+i*2-pre.length=i*2 from by omega,List.take_append_of_le_length (by rw[oU];omega),Is,Ix]
  have e2:(pre++jc l'++post).drop (pre.length+i*2+zs.length)=post:=by
   rw[iR,List.drop_append,List.drop_of_length_le (by simp only[aK,oU];omega),nil_append];simp only[aK,oU,r9];have:pre.length+i*2+(l.length-i)*2-(pre.length+l.length*2)=0:=by omega
   rw[this,drop_zero]
  rw[cC,e1,e2];simp
 rw[he]at I;exact V.iF I (oU _) (by omega) (by rw[← wV,aK,iR];omega)
theorem Iy {W:World}{L R:List SP}{b t:Nat}{x:Int} [fC L b t [.int .i64 x] R] :
   vf W L 322 [pt b] (λy=>decide (y.2<x)):=by
 rintro w ⟨Cz,CA⟩ I;refine EN func322 ntmps322 rfl rfl λa E=>?_;refine BX 1 E I λb2 a w E I=>?_;refine RT 7 E I ?_;exact⟨rfl,I.tail⟩
theorem Uh {W w:World}{L:List SP}{q:Nat}{l:List (Int×Int)}{e:Int}(I:V W w (bC q l::L))(hl:l.length≤16) :
   Calls prog 307 #[pt q,.int .i64 e] w λr w' =>
    r=.returned (.int .i64 ((l.length:Int)-(kept (λy=>decide (y.2<e)) l).length))∧V W w' (bC q (kept (λy=>decide (y.2<e)) l)::L):=by
 obtain⟨ad,c,I⟩:=bC.open I;have hk:(kept (λy=>decide (y.2<e)) l).length≤l.length:=length_filter_le _ _;refine EN func307 ntmps307 rfl rfl λa E=>?_;refine BX 1 E I λb3 a w E I=>?_;refine CL 3 E I (zd (a:=q) I) λa w E I=>?_;refine RN 5 E I λa E=>?_;replace E:=E.eo 9;refine a2 7 E I (Uf (I.pick (Sl 245 2 ad l.length c (jc l))) (by kernel_rfl) (p:=λy=>decide (y.2<e)) (λA=>Iy) (λA B=>Iy) (by omega)) λav c' a w E I=>?_;refine ST 2 E I (λa w E I=>?_);refine CL 3 E I (zd (a:=q) I) λa w E I=>?_;refine RT 2 E I ?_;exact⟨rfl,(bC.shut (q:=q) (ad:=av) (l:=kept (λy=>decide (y.2<e)) l) I rfl rfl).sub⟩
theorem Ui {W w:World}{L:List SP}{q:Nat}{l:List (Int×Int)}(I:V W w (bC q l::L)) :
   Calls prog 180 #[pt q] w λr w' =>
    r=.returned (.tuple #[.agg #[.int .i64 (l.headD (0,0)).1,.int .i64 (l.headD (0,0)).2],.bool (!l.isEmpty)])∧V W w' (bC q l.tail::L):=by
 cases l with
 | nil=>exact Ua I
 | cons x l=>exact Ub I
class vg (L:List SP)(q:Nat)(l:outParam (List (Int×Int)))(R:outParam (List SP)):Prop where perm:L.Perm (bC q l::R)
instance vg.head {L q l}:vg (bC q l::L) q l L:=⟨List.Perm.refl _⟩
instance (priority:=low) vg.tail {A L q l R}[h:vg L q l R]:vg (A::L) q l (A::R):=⟨(List.Perm.cons A h.perm).trans (List.Perm.swap _ _ _)⟩
theorem V.tw {W w:World}{L R:List SP}{l:List (Int×Int)}(I:V W w L)(q:Nat)[k:vg L q l R]:V W w (bC q l::R):=I.perm k.perm
theorem Iz {x:Int}:decide (x≠x)=false:=by simp
end
section
structure Wk where
 busy:Bool
 jb:Int
 je:Int
 x:Nat
 done:Nat
 l4:Bool
def kB:Wk:=⟨false,0,0,0,0,false⟩
abbrev Js:=List (Int×Int)
def lu (J:Js)(b e:Int):Js:=if pU J b then J++[(b,e)] else J
inductive kW (p:Pr)(A:Sn)(T:Tr)(J:Js)(k:Wk):Bool→Sn→Tr→Js→Wk→Prop
 | idle:k.busy=false→J=[]→kW p A T J k false A T J k
 | w6 {j:Int×Int} {J':Js}:k.busy=false→J=j::J'→(j.2≠T.epoch∨(∀ y∈T.l,(y.id:Int)≠j.1)∨∃ x∈T.l,(x.id:Int)=j.1∧x.ak.length≤x.done)→kW p A T J k true A T J' k
 | CC {j : Int × Int} {J' : Js} {i : Nat} {x : Br} {px : aC} : k.busy = false → J = j :: J' → j.2 = T.epoch → x ∈ T.l → (x.id : Int) = j.1 → x.done < x.ak.length → A.ar[i]? = some px → px.id = x.snap →
     kW p A T J k true (A.add px.g px.p) T J' ⟨true,j.1,j.2,A.last+1,x.done,false⟩
 | gone:k.busy=true→(k.je≠T.epoch∨∀ y∈T.l,(y.id:Int)≠k.jb)→kW p A T J k true (A.et k.x) T J { k with busy:=false }
 | l4 {x : Br} {i : Nat} {px : aC} {p' : Nat → Nat} {b : List UInt8} : k.busy = true → k.je = T.epoch → x ∈ T.l → (x.id : Int) = k.jb → k.l4 = false → A.ar[i]? = some px → px.id = k.x → x.ak[k.done]? = some b →
     dP (eY p (x.frm+k.done) b px.g)→kW p A T J k true { A with ar:=A.ar.set i ⟨px.id,px.refs,eY p (x.frm+k.done) b px.g,p'⟩ } T J { k with l4:=true }
 | failed {x:Br}:k.busy=true→k.je=T.epoch→x∈T.l→(x.id:Int)=k.jb→k.l4=false→¬ 4*A.ar.length≤A.room→kW p A T J k true (A.et k.x) T (lu J k.jb k.je) { k with busy:=false }
 | iv {x : Br} {kk : Nat} : k.busy = true → k.je = T.epoch → T.l[kk]? = some x → (x.id : Int) = k.jb → k.l4 = true → x.done < k.done + 1 → k.done + 1 ≤ x.ak.length →
     kW p A T J k true (A.et x.snap) (T.iv kk x (k.done+1) k.x) (if k.done+1<x.ak.length then lu J k.jb k.je else J) { k with busy:=false }
 | lost {x:Br}:k.busy=true→k.je=T.epoch→x∈T.l→(x.id:Int)=k.jb→k.l4=true→k.done+1≤x.done→kW p A T J k true (A.et k.x) T (if x.done<x.ak.length then lu J k.jb k.je else J) { k with busy:=false }
def iX (ws:List Wk):List Nat:=(ws.filter (·.busy)).map (·.x)
structure Inv (p:Pr)(F:Int)(g0:Nat→Int)(t:Nat→Nat)(base:Nat)(A:Sn)(T:Tr)(ws:List Wk):Prop where
 perm:(A.ar.map (·.id)).Perm (base::(T.l.map (·.snap)++iX ws))
 ar:∀ x∈A.ar,x.refs=1∧dP x.g
 base:∀ x∈A.ar,x.id=base→x.g=g0∧x.p=t
 fY:∀ y∈T.l,y.frm=F∧∀ x∈A.ar,x.id=y.snap→x.g=foldI p F g0 (y.ak.take y.done)
 kX:∀ k∈ws,k.jb≤T.last∧(k.busy=true→∀ y∈T.l,(y.id:Int)=k.jb→k.done<y.ak.length∧∀ x∈A.ar,x.id=k.x→x.g=foldI p F g0 (y.ak.take (k.done+if k.l4 then 1 else 0)))
theorem jK {α:Type}{f:α→Bool}{l:List α}{x:α}(h:x∈l.filter f):x∈l:=(List.mem_filter.1 h).1
theorem WF.nR {A:Sn}(h:WF A):(A.ar.map (·.id)).Nodup:=h.sorted.imp (λh=>Nat.ne_of_lt h)
theorem WT.same {T:Tr}(h:WT T){x y:Br}(hx:x∈T.l)(hy:y∈T.l)(he:x.id=y.id):x=y:=by
 obtain⟨i,hi⟩:=jH.1 hx;obtain⟨j,hj⟩:=jH.1 hy;obtain rfl:=h.unique hj hi he;rw[hi]at hj;cases hj;rfl
theorem Uj {α:Type}{f:α→Nat}:∀ {l:List α} {i:Nat} (hd:(l.map f).Nodup) (hi:i<l.length),l.filter (λx=>f x != f l[i])=l.eraseIdx i:=by
 intro l
 induction l with
 | nil=>intro i _ hi;simp at hi
 | cons a l ih =>
  intro i hd hi;rw[map_cons,List.nodup_cons]at hd;cases i with
  | zero =>
   rw[List.getElem_cons_zero,List.filter_cons_of_neg (by simp),List.eraseIdx_cons_zero,List.filter_eq_self];intro y hy;simp only[bne_iff_ne,ne_eq];intro e;exact hd.1 (e ▸ c8.2 ⟨y,hy,rfl⟩)
  | succ i =>
   have uR:i<l.length:=by simpa using hi
   rw[List.getElem_cons_succ,List.filter_cons_of_pos,List.eraseIdx_cons_succ,ih hd.2 uR];simp only[bne_iff_ne,ne_eq];intro e;exact hd.1 (e ▸ c8.2 ⟨l[i],getElem_mem _,rfl⟩)
theorem zf {A:Sn}(hw:WF A)(hr:∀ x∈A.ar,x.refs=1)(id:Nat):A.et id={ A with ar:=A.ar.filter (λx=>x.id != id) }:=by
 by_cases h:∃ px∈A.ar,px.id=id
 ·obtain⟨px,h1,rfl⟩:=h;obtain⟨i,hi⟩:=jH.1 h1;obtain⟨hl,he⟩:=a1.1 hi;have h2:=Uj hw.nR hl;rw[he]at h2;rw[w2 hw hi,Sn.drop,al (hr px h1),h2]
 ·rw[Ct (λy hy e=>h ⟨y,hy,e⟩),List.filter_eq_self.2];intro y hy;simp only[bne_iff_ne,ne_eq];exact λe=>h ⟨y,hy,e⟩
theorem CD {a:Nat}{l L M:List Nat}(h1:l.Perm L)(h2:L.Perm (a::M))(nR:l.Nodup):(l.filter (· != a)).Perm M:=by
 have h3:=(h1.trans h2).filter (· != a);have h4:=(h1.trans h2).nodup_iff.1 nR;rw[List.nodup_cons]at h4;have h5:M.filter (· != a)=M:=List.filter_eq_self.2 (λy hy=>by simp only[bne_iff_ne,ne_eq];intro e;exact h4.1 (e ▸ hy));rw[List.filter_cons_of_neg (by simp),h5]at h3;exact h3
theorem CE (l:List aC)(id:Nat):(l.filter (λx=>x.id != id)).map (·.id)=(l.map (·.id)).filter (· != id):=by
 rw[List.filter_map];rfl
theorem vh {k:Wk}{ws:List Wk}(h:k.busy=true):iX (k::ws)=k.x::iX ws:=by rw[iX,List.filter_cons_of_pos h,map_cons];rfl
theorem CF {k:Wk}{ws:List Wk}(h:k.busy=false):iX (k::ws)=iX ws:=by rw[iX,List.filter_cons_of_neg (by simp[h])];rfl
theorem zg {k:Wk}{ws:List Wk}(h:k∈ws)(hb:k.busy=true):k.x∈iX ws:=c8.2 ⟨k,List.mem_filter.2 ⟨h,hb⟩,rfl⟩
theorem Inv.vi {p:Pr}{F:Int}{g0:Nat→Int}{t:Nat→Nat}{base:Nat}{A:Sn}{T:Tr}{ws IA:List Wk}(h:Inv p F g0 t base A T ws)(hp:ws.Perm IA):Inv p F g0 t base A T IA :=
 ⟨h.perm.trans ((((hp.filter _).map _).append_left _).cons _),h.ar,h.base,h.fY,λk hk=>h.kX k (hp.mem_iff.2 hk)⟩
section
variable {p:Pr}{F:Int}{g0:Nat→Int}{t:Nat→Nat}{base:Nat}{A A':Sn}{T T':Tr}{J J':Js}{ws:List Wk}{k k':Wk}{r:Bool}
theorem Inv.nR (h:Inv p F g0 t base A T ws)(hA:WF A):(base::(T.l.map (·.snap)++iX ws)).Nodup:=h.perm.nodup_iff.1 hA.nR
theorem Inv.lU (h:Inv p F g0 t base A T ws){id:Nat}(hm:id∈base::(T.l.map (·.snap)++iX ws)):∃ (i:Nat) (px:aC),A.ar[i]?=some px∧px.id=id:=by
 obtain⟨px,h1,h2⟩:=c8.1 (h.perm.mem_iff.2 hm);obtain⟨i,hi⟩:=jH.1 h1;exact⟨i,px,hi,h2⟩
theorem Inv.IB (h:Inv p F g0 t base A T ws){x:Br}(hx:x∈T.l):∃ (i:Nat) (px:aC),A.ar[i]?=some px∧px.id=x.snap :=
 h.lU (gP _ (List.mem_append_left _ (c8.2 ⟨x,hx,rfl⟩)))
theorem Inv.Uk (h:Inv p F g0 t base A T ws)(hk:k∈ws)(hb:k.busy=true):∃ (i:Nat) (px:aC),A.ar[i]?=some px∧px.id=k.x :=
 h.lU (gP _ (List.mem_append_right _ (zg hk hb)))
theorem Inv.rest (h:Inv p F g0 t base A T (k::ws))(hA:WF A)(hb:k.busy=true)(hj:k'.busy=false)(hl:k'.jb=k.jb):Inv p F g0 t base (A.et k.x) T (k'::ws):=by
 rw[zf hA (λx hx=>(h.ar x hx).1)];refine⟨?_,λx hx=>h.ar x (jK hx),λx hx=>h.base x (jK hx),λy hy=>⟨(h.fY y hy).1,λx hx=>(h.fY y hy).2 x (jK hx)⟩,λk2 cc=>?_⟩
 ·simp only;rw[CE,CF hj];refine CD h.perm ?_ hA.nR;rw[vh hb];exact (List.Perm.cons _ perm_middle).trans (List.Perm.swap _ _ _)
 ·rcases List.mem_cons.1 cc with rfl | cc
  ·exact⟨by rw[hl];exact (h.kX k (mem_cons_self ..)).1,λe=>by rw[hj]at e;cases e⟩
  ·refine⟨(h.kX k2 (gP _ cc)).1,λe y hy bU=>?_⟩;obtain⟨h1,h2⟩:=(h.kX k2 (gP _ cc)).2 e y hy bU;exact⟨h1,λx hx=>h2 x (jK hx)⟩
theorem w7 {A:Sn}(hA:WF A){i:Nat}{px v z:aC}(hi:A.ar[i]?=some px)(hz:z∈A.ar.set i v):z=v∨(z∈A.ar∧z.id≠px.id):=by
 obtain⟨j,hj⟩:=jH.1 hz;rw[jA]at hj;split at hj
 ·split at hj
  ·cases hj;exact .inl rfl
  ·cases hj
 ·rename_i bN;exact .inr ⟨bE hj,λe=>bN (hA.ids hi hj e.symm)⟩
theorem Inv.bit (h:Inv p F g0 t base A T (k::ws))(hA:WF A)(hT:WT T)(hb:kW p A T J k r A' T' J' k'):Inv p F g0 t base A' T' (k'::ws):=by
 cases hb with
 | idle=>exact h
 | w6=>exact h
 | @CC j J' i x px h1 h2 h3 h4 h5 h6 h7 h8 =>
  have tx:∀ z∈A.ar,z.id≠A.last+1:=λz hz e=>by have:=(hA.lU z hz).2.1;omega
  have ha:=bE h7;have hlt:∀ id∈base::(T.l.map (·.snap)++iX (k::ws)),id≠A.last+1:=λid bU e=>by
   obtain⟨z,hz,he⟩:=c8.1 (h.perm.mem_iff.2 bU);exact tx z hz (by rw[he,e])
  refine⟨?_,λz hz=>?_,λz hz he=>?_,λy hy=>⟨(h.fY y hy).1,λz hz he=>?_⟩,λk2 cc=>?_⟩
  ·simp only[Sn.add,cU,map_cons,map_nil];rw[vh rfl];have hp:=h.perm;rw[CF h1]at hp;refine (hp.append_right _).trans ((List.perm_append_singleton _ _).trans ?_);exact (List.Perm.swap _ _ _).trans (List.Perm.cons _ perm_middle.symm)
  ·simp only[Sn.add]at hz;rcases eV.1 hz with hz | hz
   ·exact h.ar z hz
   ·simp at hz;subst hz;exact⟨rfl,(h.ar px ha).2⟩
  ·simp only[Sn.add]at hz;rcases eV.1 hz with hz | hz
   ·exact h.base z hz he
   ·simp at hz;subst hz;exact absurd he.symm (hlt base (mem_cons_self ..))
  ·simp only[Sn.add]at hz;rcases eV.1 hz with hz | hz
   ·exact (h.fY y hy).2 z hz he
   ·simp at hz;subst hz;exact absurd he.symm (hlt y.snap (gP _ (List.mem_append_left _ (c8.2 ⟨y,hy,rfl⟩))))
  ·rcases List.mem_cons.1 cc with rfl | cc
   ·refine⟨?_,λ_ y hy bU=>?_⟩
    ·have:=(hT.ok x h4).2.2.2;simp only;omega
    ·obtain rfl:y=x:=hT.same hy h4 (by simp only at bU;omega);refine⟨h6,λz hz he=>?_⟩;simp only[Sn.add]at hz;rcases eV.1 hz with hz | hz
     ·exact absurd he (tx z hz)
     ·simp at hz;subst hz;exact (h.fY y hy).2 px ha h8
   ·refine⟨(h.kX k2 (gP _ cc)).1,λe y hy bU=>?_⟩;obtain⟨h9,fF⟩:=(h.kX k2 (gP _ cc)).2 e y hy bU;refine⟨h9,λz hz he=>?_⟩;simp only[Sn.add]at hz;rcases eV.1 hz with hz | hz
    ·exact fF z hz he
    ·simp at hz;subst hz;exact absurd he.symm (hlt k2.x (gP _ (List.mem_append_right _ (zg (gP _ cc) e))))
 | gone h1 h2=>exact h.rest hA h1 rfl rfl
 | failed h1=>exact h.rest hA h1 rfl rfl
 | lost h1=>exact h.rest hA h1 rfl rfl
 | @l4 x i px p' b h1 h2 h3 h4 h5 h6 h7 h8 h9 =>
  have ha:=bE h6;have CG:=h.nR hA;rw[vh h1]at CG;have CH:(base::(T.l.map (·.snap)++k.x::iX ws)).Perm (k.x::(base::(T.l.map (·.snap)++iX ws))):=(List.Perm.cons _ perm_middle).trans (List.Perm.swap _ _ _);have bQ:=(List.nodup_cons.1 (CH.nodup_iff.1 CG)).1;have Ul:(A.ar.set i ⟨px.id,px.refs,eY p (x.frm+k.done) b px.g,p'⟩).map (·.id)=A.ar.map (·.id):=HR h6 rfl;refine⟨?_,λz hz=>?_,λz hz he=>?_,λy hy=>⟨(h.fY y hy).1,λz hz he=>?_⟩,λk2 cc=>?_⟩
  ·simp only;rw[Ul,vh (by exact h1)];have hp:=h.perm;rw[vh h1]at hp;exact hp
  ·rcases w7 hA h6 hz with rfl | hz
   ·exact⟨(h.ar px ha).1,h9⟩
   ·exact h.ar z hz.1
  ·rcases w7 hA h6 hz with rfl | hz
   ·exact absurd (List.mem_cons.2 (.inl (by simp only at he;rw[← he,h7]))) bQ
   ·exact h.base z hz.1 he
  ·rcases w7 hA h6 hz with rfl | hz
   ·refine absurd (gP _ (List.mem_append_left _ (c8.2 ⟨y,hy,?_⟩))) bQ;simp only at he;rw[← he,h7]
   ·exact (h.fY y hy).2 z hz.1 he
  ·rcases List.mem_cons.1 cc with rfl | cc
   ·have hk:=h.kX k (mem_cons_self ..);refine⟨hk.1,λ_ y hy bU=>?_⟩;obtain rfl:y=x:=hT.same hy h3 (by simp only at bU;omega);obtain⟨fF,mH⟩:=hk.2 h1 y hy h4;refine⟨fF,λz hz he=>?_⟩;rcases w7 hA h6 hz with rfl | hz
    ·have B0:=mH px ha h7;rw[h5]at B0;have IC:y.ak.take (k.done+1)=y.ak.take k.done++[b]:=by
      rw[List.take_add_one,h8];rfl
     show eY p (y.frm+k.done) b px.g=foldI p F g0 (y.ak.take (k.done+1));rw[IC,Cw,en,Nat.min_eq_left (by omega),(h.fY y hy).1,B0];simp
    ·simp only at he;exact absurd (by rw[he,h7]) hz.2
   ·have hk:=h.kX k2 (gP _ cc);refine⟨hk.1,λe y hy bU=>?_⟩;obtain⟨fF,mH⟩:=hk.2 e y hy bU;refine⟨fF,λz hz he=>?_⟩;rcases w7 hA h6 hz with rfl | hz
    ·refine absurd (gP _ (List.mem_append_right _ ?_)) bQ;simp only at he;rw[← h7,he];exact zg cc e
    ·exact mH z hz.1 he
 | @iv x kk h1 h2 h3 h4 h5 h6 h7 =>
  rw[zf hA (λx hx=>(h.ar x hx).1)];have hx:=bE h3;obtain⟨eK,w8⟩:=a1.1 h3;have hk:=h.kX k (mem_cons_self ..);refine⟨?_,λz hz=>h.ar z (jK hz),λz hz=>h.base z (jK hz),λy hy=>?_,λk2 cc=>?_⟩
  ·simp only[Tr.iv];rw[CE,CF (by rfl)];refine CD h.perm ?_ hA.nR;rw[vh h1];have e1:(T.l.map (·.snap)).Perm (x.snap::(T.l.eraseIdx kk).map (·.snap)):=by
    have:=(rJ T.l eK).map (·.snap);rw[map_cons,w8]at this;exact this
   have e2:((T.l.set kk { x with done:=k.done+1,snap:=k.x }).map (·.snap)).Perm (k.x::(T.l.eraseIdx kk).map (·.snap)):=by
    have:=(rJ (T.l.set kk { x with done:=k.done+1,snap:=k.x }) (by simpa using eK)).map (·.snap);rw[map_cons,getElem_set_self,eraseIdx_set_eq]at this;exact this
   have e3:(base::(T.l.map (·.snap)++k.x::iX ws)).Perm (base::(x.snap::((T.l.eraseIdx kk).map (·.snap)++k.x::iX ws))):=(e1.append_right _).cons _;refine e3.trans ((List.Perm.swap _ _ _).trans (List.Perm.cons _ (List.Perm.cons _ ?_)));exact perm_middle.trans (e2.append_right _).symm
  ·simp only[Tr.iv]at hy;rcases mem_or_eq_of_mem_set hy with hy | rfl
   ·exact⟨(h.fY y hy).1,λz hz=>(h.fY y hy).2 z (jK hz)⟩
   ·refine⟨(h.fY x hx).1,λz hz he=>?_⟩;have:=(hk.2 h1 x hx h4).2 z (jK hz) he;rw[h5]at this;exact this
  ·have w9 : ∀ y ∈ (T.iv kk x (k.done + 1) k.x).l, ∃ y0 ∈ T.l, y0.id = y.id ∧ y0.ak = y.ak := fun y hy => by
    simp only[Tr.iv]at hy;rcases mem_or_eq_of_mem_set hy with hy | rfl
    ·exact⟨y,hy,rfl,rfl⟩
    ·exact⟨x,hx,rfl,rfl⟩
   rcases List.mem_cons.1 cc with rfl | cc
   ·exact⟨hk.1,λe=>by cases e⟩
   ·have mE:=h.kX k2 (gP _ cc);refine⟨mE.1,λe y hy bU=>?_⟩;obtain⟨y0,Um,e1,e2⟩:=w9 y hy;obtain⟨fF,mH⟩:=mE.2 e y0 Um (by rw[e1];exact bU);rw[e2]at fF mH;exact⟨fF,λz hz=>mH z (jK hz)⟩
theorem zh {b e:Int}(h:J.length≤16):(lu J b e).length≤16:=by
 unfold lu;split
 ·rename_i h1;simp only[pU,fB,decide_eq_true_eq]at h1;simp;omega
 ·exact h
theorem nS (A:Sn)(id:Nat):(A.et id).room=A.room∧(A.et id).n=A.n∧(A.et id).last=A.last:=by
 unfold Sn.et;split
 ·split
  ·simp[Sn.drop]
  ·exact⟨rfl,rfl,rfl⟩
 ·exact⟨rfl,rfl,rfl⟩
structure zi (A:Sn)(T:Tr)(J:Js)(A':Sn)(T':Tr)(J':Js):Prop where
 room:A'.room=A.room
 n:A'.n≤A.n+1
 most:T'.most=T.most
 last:T'.last=T.last
 epoch:T'.epoch=T.epoch
 l:T'.l.map (λy=>(y.id,y.ak))=T.l.map (λy=>(y.id,y.ak))
 len:J.length≤16→J'.length≤16
theorem kW.Un (hb:kW p A T J k r A' T' J' k'):zi A T J A' T' J':=by
 cases hb with
 | idle=>exact⟨rfl,by omega,rfl,rfl,rfl,rfl,λh=>h⟩
 | w6 h1 h2=>exact⟨rfl,by omega,rfl,rfl,rfl,rfl,λh=>by rw[h2,e9]at h;omega⟩
 | CC h1 h2=>exact⟨rfl,by simp[Sn.add],rfl,rfl,rfl,rfl,λh=>by rw[h2,e9]at h;omega⟩
 | gone=>exact⟨(nS A _).1,by rw[(nS A _).2.1];omega,rfl,rfl,rfl,rfl,λh=>h⟩
 | l4=>exact⟨rfl,by simp,rfl,rfl,rfl,rfl,λh=>h⟩
 | failed=>exact⟨(nS A _).1,by rw[(nS A _).2.1];omega,rfl,rfl,rfl,rfl,zh⟩
 | lost=>exact⟨(nS A _).1,by rw[(nS A _).2.1];omega,rfl,rfl,rfl,rfl,λh=>by split <;> first | exact zh h | exact h⟩
 | @iv x kk h1 h2 h3 =>
  refine⟨(nS A _).1,by rw[(nS A _).2.1];omega,rfl,rfl,rfl,?_,λh=>by split <;> first | exact zh h | exact h⟩;obtain⟨eK,w8⟩:=a1.1 h3;simp only[Tr.iv];apply ext_getElem?;intro j;simp only[bn,jA];by_cases hj:kk=j
  ·subst hj;simp[eK,w8]
  ·rw[ae hj]
end
end
section
theorem Uo {α:Type}{f:α→Nat}:∀ {l:List α},(l.map f).Nodup→∀ {x y:α},x∈l→y∈l→f x=f y→x=y:=by
 intro l
 induction l with
 | nil=>intro _ x y hx;cases hx
 | cons a l ih =>
  intro hd x y hx hy he;rw[map_cons,List.nodup_cons]at hd;rcases List.mem_cons.1 hx with tz | hx
  ·rcases List.mem_cons.1 hy with CI | hy
   ·rw[tz,CI]
   ·exact absurd (c8.2 ⟨y,hy,by rw[← he,tz]⟩) hd.1
  ·rcases List.mem_cons.1 hy with CI | hy
   ·exact absurd (c8.2 ⟨x,hx,by rw[he,CI]⟩) hd.1
   ·exact ih hd.2 hx hy he
theorem WF.et {A:Sn}(hw:WF A)(hr:∀ x∈A.ar,x.refs=1)(id:Nat):WF (A.et id):=by
 by_cases h:∃ px∈A.ar,px.id=id
 ·obtain⟨px,h1,rfl⟩:=h;obtain⟨i,hi⟩:=jH.1 h1;rw[w2 hw hi,Sn.drop,al (hr px h1)];exact hw.erase i
 ·rw[Ct (λy hy e=>h ⟨y,hy,e⟩)];exact hw
theorem Up:∀ (l:List Br) {A:Sn},WF A→(∀ x∈A.ar,x.refs=1)→A.gJ l={ A with ar:=A.ar.filter (λx=>!(l.map (·.snap)).contains x.id) }:=by
 intro l
 induction l with
 | nil =>
  intro A hw hr;have:A.ar.filter (λx=>!(([]:List Br).map (·.snap)).contains x.id)=A.ar:=List.filter_eq_self.2 λx _=>rfl;rw[this];rfl
 | cons y l ih =>
  intro A hw hr;have h1:A.gJ (y::l)=(A.et y.snap).gJ l:=rfl;have h2:=zf hw hr y.snap;have h3:∀ x∈(A.et y.snap).ar,x.refs=1:=by rw[h2];exact λx hx=>hr x (jK hx)
  rw[h1,ih (hw.et hr _) h3,h2];simp only[List.filter_filter]
  congr 1
  refine List.filter_congr λx _=>?_;simp only[map_cons,List.contains_cons,Bool.not_or];rw[Bool.and_comm];rfl
theorem Uq {base:Nat}{l:List Br}{f:Br→Bool}{H M:List Nat}(hp:M.Perm (base::(l.map (·.snap)++H)))(nR:M.Nodup) :
   (M.filter (λid=>!((l.filter f).map (·.snap)).contains id)).Perm (base::((l.filter (λx=>!f x)).map (·.snap)++H)):=by
 have h1:=hp.nodup_iff.1 nR;have h2:=hp.filter (λid=>!((l.filter f).map (·.snap)).contains id);have h3:=List.nodup_cons.1 h1;have h4:=List.nodup_append.1 h3.2;have xc:∀ id,id∈(l.filter f).map (·.snap)→id∈l.map (·.snap):=λid h=>by
  obtain⟨y,hy,rfl⟩:=c8.1 h;exact c8.2 ⟨y,jK hy,rfl⟩
 have hb:(!((l.filter f).map (·.snap)).contains base)=true:=by
  simp only[Bool.not_eq_true',List.contains_eq_mem,decide_eq_false_iff_not];exact λh=>h3.1 (List.mem_append_left _ (xc _ h))
 have hH:H.filter (λid=>!((l.filter f).map (·.snap)).contains id)=H:=List.filter_eq_self.2 λz hz=>by
  simp only[Bool.not_eq_true',List.contains_eq_mem,decide_eq_false_iff_not];exact λh=>h4.2.2 z (xc _ h) z hz rfl
 have hl:(l.map (·.snap)).filter (λid=>!((l.filter f).map (·.snap)).contains id)=(l.filter (λx=>!f x)).map (·.snap):=by
  rw[List.filter_map]
  congr 1
  refine List.filter_congr λy hy=>?_;simp only[Function.comp]
  congr 1
  cases hf:f y with
  | true =>
   simp only[List.contains_eq_mem,decide_eq_true_eq];exact c8.2 ⟨y,List.mem_filter.2 ⟨hy,hf⟩,rfl⟩
  | false =>
   simp only[List.contains_eq_mem,decide_eq_false_iff_not];intro h;obtain⟨z,hz,he⟩:=c8.1 h;obtain⟨c5,eN⟩:=List.mem_filter.1 hz;have:=Uo h4.1 c5 hy he;rw[this,hf]at eN;cases eN
 rw[List.filter_cons,al hb,List.filter_append,hl,hH]at h2;exact h2
section
variable {p:Pr}{F:Int}{g0:Nat→Int}{t:Nat→Nat}{base:Nat}{A:Sn}{T:Tr}{ws:List Wk}{k:Wk}{px:aC}{P:List (List UInt8)}{i:Nat}
theorem Inv.cut (h:Inv p F g0 t base A T ws)(hA:WF A)(f:Br→Bool):Inv p F g0 t base (A.gJ (T.l.filter f)) (T.cut f) ws:=by
 rw[Up _ hA (λx hx=>(h.ar x hx).1)];refine⟨?_,λx hx=>h.ar x (jK hx),λx hx=>h.base x (jK hx),λy hy=>⟨(h.fY y (jK hy)).1,λx hx=>(h.fY y (jK hy)).2 x (jK hx)⟩,λk hk=>⟨(h.kX k hk).1,λe y hy bU=>?_⟩⟩
 ·simp only[Tr.cut];have h1:=Uq (f:=f) h.perm hA.nR;have h2:(A.ar.filter (λx=>!((T.l.filter f).map (·.snap)).contains x.id)).map (·.id)=(A.ar.map (·.id)).filter (λid=>!((T.l.filter f).map (·.snap)).contains id):=by
   rw[List.filter_map];rfl
  rw[h2];exact h1
 ·obtain⟨h1,h2⟩:=(h.kX k hk).2 e y (jK hy) bU;exact⟨h1,λx hx=>h2 x (jK hx)⟩
theorem Inv.Ur (h:Inv p F g0 t base A T ws)(hA:WF A)(hT:WT T)(hi:A.ar[i]?=some px)(hb:px.id=base):Inv p F g0 t base (A.add px.g px.p) (T.add F P (A.last+1)) ws:=by
 have ha:=bE hi;have tx:∀ z∈A.ar,z.id≠A.last+1:=λz hz e=>by have:=(hA.lU z hz).2.1;omega
 have hlt:∀ id∈base::(T.l.map (·.snap)++iX ws),id≠A.last+1:=λid bU e=>by
  obtain⟨z,hz,he⟩:=c8.1 (h.perm.mem_iff.2 bU);exact tx z hz (by rw[he,e])
 have cD:∀ z∈(A.add px.g px.p).ar,z∈A.ar∨z=⟨A.last+1,1,px.g,px.p⟩:=λz hz=>by
  simp only[Sn.add]at hz;rcases eV.1 hz with hz | hz
  ·exact .inl hz
  ·simp at hz;exact .inr hz
 refine⟨?_,λz hz=>?_,λz hz he=>?_,λy hy=>?_,λk hk=>⟨?_,λe y hy bU=>?_⟩⟩
 ·simp only[Sn.add,Tr.add,cU,map_cons,map_nil];refine (h.perm.append_right _).trans ((List.perm_append_singleton _ _).trans ((List.Perm.swap _ _ _).trans (List.Perm.cons _ ?_)));rw[dw];exact perm_middle.symm
 ·rcases cD z hz with hz | rfl
  ·exact h.ar z hz
  ·exact⟨rfl,(h.ar px ha).2⟩
 ·rcases cD z hz with hz | rfl
  ·exact h.base z hz he
  ·exact absurd he.symm (hlt base (mem_cons_self ..))
 ·simp only[Tr.add]at hy;rcases eV.1 hy with hy | hy
  ·refine⟨(h.fY y hy).1,λz hz he=>?_⟩;rcases cD z hz with hz | rfl
   ·exact (h.fY y hy).2 z hz he
   ·exact absurd he.symm (hlt y.snap (gP _ (List.mem_append_left _ (c8.2 ⟨y,hy,rfl⟩))))
  ·simp at hy;subst hy;refine⟨rfl,λz hz he=>?_⟩;rcases cD z hz with hz | rfl
   ·exact absurd he (tx z hz)
   ·exact (h.base px ha hb).1
 ·have:=(h.kX k hk).1;simp only[Tr.add];omega
 ·have gV:=(h.kX k hk).1;simp only[Tr.add]at hy;rcases eV.1 hy with hy | hy
  ·obtain⟨h1,h2⟩:=(h.kX k hk).2 e y hy bU;refine⟨h1,λz hz he=>?_⟩;rcases cD z hz with hz | rfl
   ·exact h2 z hz he
   ·exact absurd he.symm (hlt k.x (gP _ (List.mem_append_right _ (zg hk e))))
  ·simp at hy;subst hy;simp only at bU;omega
theorem Inv.len (h:Inv p F g0 t base A T ws):A.ar.length=1+T.l.length+(iX ws).length:=by
 have:=h.perm.length_eq;simp only[bf,e9,aK]at this;omega
end
end
section
section
variable {P:Program}{ops:Array Oper}{Q:Exit→Act→World→Prop}{a:Act}{w w' W:World}{K:Act→World→Prop}{n d:Nat}{l:List (Nat×Value)}{v:Value}{L R:List SP}
theorem Us {t u ty e:TypeId}{k c aX:Nat}{z:Value}{ad:Option Addr}{cs:List Value}(ht:P.underlying t=some (.slice e))(hu:P.underlying u=some .string)(hi:TI P e z 1 aX)(hz:z.cells.size=1)(s:V W w (Sl e 1 ad k c cs::L))
   (hc:0<c) (str:ByteArray) (hb:0<aX) (aE:(k+str.size)*aX≤140737488355328) :
   ∃ av c' w',(Builtin.append_ #[t,u] ty #[.slice ad k c,.string str]).run P w=.ok (.slice av (k+str.size) c') w'∧V W w' (Sl e 1 av (k+str.size) c' (cs++bc str.data.toList)::L):=by
 obtain⟨i,kS,dK,kn,pG⟩:=info_parts hi.h;have pH:=s.sl ad;have zj:(bc str.data.toList).length=str.size:=Lib.strCells_length str;obtain⟨b,pre,post,⟨dD,dU,rfl,a4⟩,s2⟩:=s.ln hc;by_cases m6:k+str.size≤c
 ·have eE:(c-k)*1 ≥ str.size:=by omega
  have hf:=Lib.run_firstCells_string (P:=P) w 1 str;have aQ:=run_storeCells_at (P:=P) b (pre.length+k) e (bc str.data.toList) 0 (pre++cs++post).toArray w s2.has.2 (by simp[zj];omega) (ek _);have e1:(pre++cs++post).take (pre.length+k)=pre++cs:=by
   have:pre.length+k=(pre++cs).length:=by simp;omega
   rw[this,List.take_left]
  have e2:(pre++cs++post).drop (pre.length+k+0+(bc str.data.toList).length)=post.drop str.size:=by
   have:pre.length+k=(pre++cs).length:=by simp;omega
   rw[this,Nat.add_zero,zj,← drop_drop,drop_left]
  refine⟨some ⟨b,pre.length,none⟩,c,w.setRow b (pre++(cs++bc str.data.toList)++post.drop str.size).toArray,?_,?_⟩
  ·have qk:(storeCells ⟨b,pre.length+k,none⟩ (bc str.data.toList) 0).run P w=.ok () (w.setRow b (((pre++cs++post).take (pre.length+k)++bc str.data.toList)++(pre++cs++post).drop (pre.length+k+0+(bc str.data.toList).length)).toArray):=aQ;rw[e1,e2]at qk;have jk:(Builtin.firstCells 1 str.size (.string str)).run P w=.ok (bc str.data.toList).toArray w:=hf;simp[Builtin.append_,eM ht,eM hu,sizeOf,typeInfo,kS,Builtin.lenOf,m6,kR,kn,jk,qk,dw]
  ·exact V.iF (pre:=pre) (post:=post.drop str.size) s2.setRow (by simp[zj];omega) (by omega) (by simp;omega)
 ·have OA:k+str.size≤140737488355328:=gO (Nat.le_mul_of_pos_right _ hb) aE;have m7:=grownCap_ge w (k+str.size) c e;have OB:(Builtin.zeroCells z.cells (grownCap w (k+str.size) c e-(k+str.size))).toList.length=(grownCap w (k+str.size) c e-(k+str.size))*1:=wD e (aX:=aX) hz _;have holds:∀ j v,cs[j]?=some v→w.cell? ((⟨b,pre.length,none⟩:Addr).add j)=some v:=by
   intro j v hj;rw[kR,s2.cell];have:j<cs.length:=(a1.1 hj).1;rw[lM (by simp;omega),getElem?_append_right (by omega)];simpa using hj
  have e8:Builtin.nextslicecap (k+str.size) c*i.bytes≤281474976710656:=by rw[pG];exact growslice_fits (by omega) aE
  have hr:=Lib.run_append_grow_string (P:=P) w t u ty e i z ht hu kS dK ⟨b,pre.length,none⟩ k c cs (by rw[kn];exact dD) holds str (by omega) (by omega) e8;refine⟨_,_,_,hr,?_⟩;have uN:=(s.tail.drew).alloc (.cells (cs.toArray++(bc str.data.toList).toArray++Builtin.zeroCells z.cells (grownCap w (k+str.size) c e-(k+str.size))) e)
  have Bu : V W (w.drew.alloc (.cells (cs.toArray ++ (bc str.data.toList).toArray ++ Builtin.zeroCells z.cells (grownCap w (k + str.size) c e - (k + str.size))) e))
      (aa w.heap.size e ([]++(cs++bc str.data.toList)++(Builtin.zeroCells z.cells (grownCap w (k+str.size) c e-(k+str.size))).toList)::L):=by
   have:(cs.toArray++(bc str.data.toList).toArray++Builtin.zeroCells z.cells (grownCap w (k+str.size) c e-(k+str.size)))=([]++(cs++bc str.data.toList)++(Builtin.zeroCells z.cells (grownCap w (k+str.size) c e-(k+str.size))).toList).toArray:=by
    apply Array.ext';simp
   rw[this]at uN ⊢;exact uN
  exact V.iF (pre:=[]) Bu (by simp[zj];omega) m7 (by omega)
theorem Ut {s x t u z aX str e ad k c ty ps af g}{cs:List Value}(E:Fr a n l)(hw:Region.wanted ⟨some d,.call ⟨.builtin .append,#[s,x],#[t,u]⟩,ty,ps,af,g⟩ (yielded ops a.tmps)=true)(I:V W w L)
   (ht:P.underlying t=some (.slice e)) (hu:P.underlying u=some .string) (hi:TI P e z 1 aX) (hz:z.cells.size=1) (hf:okB d n l=true)
   [e1:Ev l s (.slice ad k c)] [pk:fL L ad k c e 1 cs R] [e2:Ev l x (.string str)] (hc:0<c) (hb:0<aX) (aE:(k+str.size)*aX≤140737488355328)
   (h:∀ av c' a' w',Fr a' n ((d,.slice av (k+str.size) c')::l)→V W w' (Sl e 1 av (k+str.size) c' (cs++bc str.data.toList)::R)→K a' w') :
   cI P ops Q ⟨some d,.call ⟨.builtin .append,#[s,x],#[t,u]⟩,ty,ps,af,g⟩ K a w:=by
 obtain⟨av,c',w',h2,h3⟩:=Us (P:=P) (ty:=ty) ht hu hi hz (I.perm pk.perm) hc str hb aE;exact bz E hw (by simp[execOp,resolve,e1.ev a n E,e2.ev a n E,invoke,builtin,h2]) hf λa' dg=>h _ _ a' _ dg h3
end
theorem wrap_u64 (x:Int):IntKind.u64.wrap x=x%18446744073709551616:=by simp[IntKind.wrap,IntKind.signed,IntKind.bits]
theorem wrap_u32 (x:Int):IntKind.u32.wrap x=x%4294967296:=by simp[IntKind.wrap,IntKind.signed,IntKind.bits]
theorem wrap_u8 (x:Int):IntKind.u8.wrap x=x%256:=by simp[IntKind.wrap,IntKind.signed,IntKind.bits]
theorem ID {x:Nat}(h:x<18446744073709551616):IntKind.u64.wrap ((BitVec.ofInt IntKind.u64.bits (if IntKind.u64.signed then -1 else IntKind.u64.max) ^^^ BitVec.ofInt IntKind.u64.bits (x:Int)).toNat)=((18446744073709551615-x:Nat):Int):=by
 have e:BitVec.ofInt IntKind.u64.bits (if IntKind.u64.signed then -1 else IntKind.u64.max)=BitVec.allOnes 64:=by
  show BitVec.ofInt 64 IntKind.u64.max=_;decide
 rw[e];have e2:BitVec.ofInt IntKind.u64.bits (x:Int)=BitVec.ofNat 64 x:=by
  show BitVec.ofInt 64 (x:Int)=_;exact BitVec.ofInt_natCast 64 x
 rw[e2];show IntKind.u64.wrap (((BitVec.allOnes 64 ^^^ BitVec.ofNat 64 x).toNat:Nat):Int)=_;rw[BitVec.allOnes_xor,BitVec.toNat_not,BitVec.toNat_ofNat,wrap_u64];rw[Nat.mod_eq_of_lt (show x<2 ^ 64 from h)];omega
theorem Uu {x:Nat}(h:x<256):IntKind.u8.wrap ((BitVec.ofInt IntKind.u8.bits (x:Int) ||| BitVec.ofInt IntKind.u8.bits 128).toNat)=((x%128+128:Nat):Int):=by
 have:∀ y:Fin 256,IntKind.u8.wrap ((BitVec.ofInt IntKind.u8.bits ((y.val:Nat):Int) ||| BitVec.ofInt IntKind.u8.bits 128).toNat)=((y.val%128+128:Nat):Int):=by decide +kernel
 exact this ⟨x,h⟩
theorem kC (x j:Nat):(x:Int).fdiv (j:Int)=((x/j:Nat):Int):=by
 rw[Int.natCast_ediv,Int.fdiv_eq_ediv_of_nonneg _ (by omega)]
def aL (u:Nat):List UInt8:=if h:u≤127 then [UInt8.ofNat u] else UInt8.ofNat (u%128+128)::aL (u/128)
termination_by u
decreasing_by omega
theorem pV {u:Nat}(h:u≤127):aL u=[UInt8.ofNat u]:=by rw[aL,dif_pos h]
theorem vj {u:Nat}(h:¬ u≤127):aL u=UInt8.ofNat (u%128+128)::aL (u/128):=by rw[aL,dif_neg h]
theorem qJ (u:Nat):1≤(aL u).length:=by
 rw[aL];split <;> simp
theorem pW:∀ (k u:Nat),u<128 ^ (k+1)→(aL u).length≤k+1
 | 0,u,h=>by rw[pV (by simpa using (by omega:u≤127))];simp
 | k+1,u,h=>by
  by_cases hu:u≤127
  ·rw[pV hu];simp
  ·rw[vj hu,e9];have:=pW k (u/128) (by rw[Nat.pow_succ]at h;omega);omega
def zz (n:Int):Nat:=if n<0 then (-2*n-1).toNat else (2*n).toNat
section
variable {W w:World}{L:List SP}{c:Nat}{ad:Option Addr}{bs:List UInt8}
theorem sa {N:Int}(I:V W w (Sl 5 1 ad bs.length c (bc bs)::L))(h1:-9223372036854775808≤N)(h2:N≤9223372036854775807)(hb:bs.length≤1099511627776) :
   Calls prog 198 #[.slice ad bs.length c,.int .i64 N] w λe w'=>∃ av c',e=.returned (.slice av (bs++aL (zz N)).length c')∧V W w' (Sl 5 1 av (bs++aL (zz N)).length c' (bc (bs++aL (zz N)))::L):=by
 refine EN func198 ntmps198 rfl rfl λa E=>?_;refine RN 4 E I λa E=>?_;refine SS E (gd E underlying2 underlying319) λa E=>?_;refine RN 1 E I λa E=>?_;rw[wrap_u64,wrap_u64]at E;refine RN 1 E I λa E=>?_;obtain⟨U0,CJ⟩:∃ U0:Nat,(N%18446744073709551616*2 ^ 1)%18446744073709551616=(U0:Int):=⟨((N%18446744073709551616*2 ^ 1)%18446744073709551616).toNat,by omega⟩;rw[CJ]at E;have CK:U0<18446744073709551616:=by omega
 refine bZ (M:=λa w=>Fr a 28 [(0,.slice ad bs.length c),(5,.int .u64 ((zz N:Nat):Int))]∧V W w (Sl 5 1 ad bs.length c (bc bs)::L)) ?_ ?_
 ·
  refine IF 3 E I (λaj a E=>?_) λaj a E=>?_
  ·
   refine RN 2 E I λa E=>?_;rw[ID CK]at E;refine RN 1 E I λa E=>?_;rw[show 18446744073709551615-U0=zz N from by rw[zz,al aj];omega]at E;exact⟨E.ab [0,5],I⟩
  refine RN 0 E I λa E=>?_;rw[show U0=zz N from by rw[zz,ae (by omega)];omega]at E;exact⟨E.ab [0,5],I⟩
 clear E;(try clear I);rintro a w ⟨E,I⟩;refine RN 1 E I λa E=>?_;refine aS (λμ a w=>∃ (ec c':Nat) (av:Option Addr) (dn:List UInt8),(μ=ec∧dn++aL ec=bs++aL (zz N)∧ec≤zz N)∧Fr a 28 [(0,.slice av dn.length c'),(5,.int .u64 (ec:Int))]∧V W w (Sl 5 1 av dn.length c' (bc dn)::L)) (zz N) (⟨zz N,c,ad,bs,⟨rfl,rfl,by omega⟩,E.ab [0,5],I⟩) ?_;clear E I;rintro μ a w ⟨ec,c',av,dn,⟨xd,da,Uv⟩,E,I⟩;refine RN 2 E I λa E=>?_;have c5:zz N<18446744073709551616:=by rw[zz];split <;> omega
 have gv:=pW 9 (zz N) (by simp;omega);have l5:dn.length≤bs.length+10:=by
  have:=congrArg List.length da;rw[aK,aK]at this;omega
 clear gv;refine IF 2 E I (λan a E=>?_) λan a E=>?_
 ·
  refine RN 3 E I λa E=>?_;refine SS E (gd E underlying319 underlying5) λa E=>?_;rw[wrap_u8,show (ec:Int)%256=((ec%256:Nat):Int) from by omega]at E;refine RN 1 E I λa E=>?_;rw[Uu (Nat.mod_lt _ (by decide)),show ec%256%128=ec%128 from by omega]at E;refine cm E rfl I underlying22 Ty.t5 rfl rfl rfl rfl (by decide) (by decide) λcR a w E I ho=>?_;clear ho;refine RN 0 E I λa E=>?_;refine cJ E rfl I underlying22 Ty.t5 rfl rfl I.ai rfl (by simp[Value.oneCell']) (by decide) (by decide) (by omega) λxe CM a w E I=>?_;have aQ:bc dn++[[Value.int .u8 ((ec%128+128:Nat):Int)]].flatten=bc (dn++[UInt8.ofNat (ec%128+128)]):=by
   simp[bc,UInt8.toNat_ofNat'];omega
  rw[aQ]at I;refine RN 4 E I λa E=>?_;rw[show ((ec:Int).fdiv (2 ^ 7))=((ec/128:Nat):Int) from kC ec 128]at E;exact⟨ec/128,by omega,ec/128,_,xe,dn++[UInt8.ofNat (ec%128+128)],⟨rfl,by rw[← da,vj (u:=ec) (by omega),dw];rfl,by omega⟩,by rw[aK];exact E.ab [0,5],by rw[aK];exact I.sub⟩
 refine RN 3 E I λa E=>?_;refine SS E (gd E underlying319 underlying5) λa E=>?_;rw[wrap_u8,show (ec:Int)%256=((ec:Nat):Int) from by omega]at E;refine RN 0 E I λa E=>?_;refine cm E rfl I underlying22 Ty.t5 rfl rfl rfl rfl (by decide) (by decide) λIE a w E I ho=>?_;clear ho;refine RN 0 E I λa E=>?_;refine cJ E rfl I underlying22 Ty.t5 rfl rfl I.ai rfl (by simp[Value.oneCell']) (by decide) (by decide) (by omega) λCO CP a w E I=>?_;have aQ:bc dn++[[Value.int .u8 ((ec:Nat):Int)]].flatten=bc (dn++[UInt8.ofNat ec]):=by
  simp[bc,UInt8.toNat_ofNat'];omega
 rw[aQ,← pV (by omega),da]at I;refine RT 1 E I ?_;have hl:dn.length+1=(bs++aL (zz N)).length:=by rw[← da,pV (by omega),aK];rfl
 rw[hl]at I ⊢;exact⟨_,_,rfl,I.sub⟩
theorem Uw {s:ByteArray}(I:V W w L)(aE:s.size≤1099511627776) :
   Calls prog 199 #[.slice none 0 0,.string s] w λe w'=>∃ av c',e=.returned (.slice av (aL (zz s.size)++s.data.toList).length c')∧V W w' (Sl 5 1 av (aL (zz s.size)++s.data.toList).length c' (bc (aL (zz s.size)++s.data.toList))::L):=by
 have xf:s.data.toList.length=s.size:=rfl;refine EN func199 ntmps199 rfl rfl λa E=>?_;refine a2 6 E I (sa (bs:=[]) (N:=s.size) (I.bH 5 1 none) (by omega) (by omega) (by simp)) λc0 dQ a w E I=>?_;rw[nil_append]at E I;have gv:=qJ (zz s.size);have hR:=pW 9 (zz s.size) (by rw[zz];split <;> (simp;omega));have HS:=(I.sl c0).2;refine RN 1 E I λa E=>?_;refine Ut E rfl I underlying22 underlying9 Ty.t5 rfl rfl (by omega) (by decide) (by omega) λadK zk a w E I=>?_;rw[show (aL (zz s.size)).length+s.size=(aL (zz s.size)++s.data.toList).length from by rw[aK];rfl]at E I;rw[show bc (aL (zz s.size))++bc s.data.toList=bc (aL (zz s.size)++s.data.toList) from by simp[bc]]at I;refine RT 1 E I ?_;exact⟨_,_,rfl,I.sub⟩
end
end
section
section
variable {W w:World}{L:List SP}{n:Nat}{s:ByteArray}
theorem Ux {r:Nat}(I:V W w L):Calls prog 239 #[.int .i32 r] w λe w'=>e=.returned (.int .i64 (nh r))∧V W w' L:=by
 refine EN func239 ntmps239 rfl rfl λa E=>?_;refine IF 7 E I (λaj a E=>?_) λaj a E=>?_
 ·
  refine RT 2 E I ?_;exact⟨by rw[nh,al (by omega)];rfl,I⟩
 refine IF 4 E I (λan a E=>?_) λan a E=>?_
 ·
  refine RT 2 E I ?_;exact⟨by rw[nh,ae (by omega),al (by omega)];rfl,I⟩
 refine IF 4 E I (λay a E=>?_) λay a E=>?_
 ·
  refine RT 2 E I ?_;exact⟨by rw[nh,ae (by omega),ae (by omega),al (by omega)];rfl,I⟩
 refine RT 2 E I ?_;exact⟨by rw[nh,ae (by omega),ae (by omega),ae (by omega)];rfl,I⟩
theorem IG {α:Type}(l:List α)(x:α)(f:α→Bool):(l++[x]).all f=(l.all f&&f x):=by simp
theorem Uy (I:V W w L)(aE:s.size≤1099511627776):Calls prog 228 #[.string s] w λe w'=>e=.returned (.bool ((eb s 0).all lZ))∧V W w' L:=by
 refine EN func228 ntmps228 rfl rfl λa E=>?_;refine RN 7 E I λa E=>?_;refine BQ E rfl I underlying9 rfl λdq a w E I ho=>?_;clear ho;refine RN 0 E I λa E=>?_;refine aS (λμ a w=>∃ (pos n:Nat) (dn:List (Nat×Nat)),(μ=s.size-pos∧pos≤s.size∧eb s 0=dn++eb s pos∧((dn.all lZ=true∧n=pos)∨(dn.all lZ=false∧n=pos+2)))∧Fr a 23 [(0,.string s),(3,.int .i64 n),(7,pt dq)]∧V W w (km dq (.stringIter s pos)::L)) (s.size) (⟨0,0,[],⟨by simp,by simp,by simp,.inl ⟨rfl,rfl⟩⟩,E.ab [0,3,7],I⟩) ?_;clear E I;rintro μ a w ⟨pos,n,dn,⟨rfl,pK,da,hg⟩,E,I⟩;refine RN 1 E I λa E=>?_;refine BS E rfl I rfl λa w E I=>?_;refine RN 0 E I λa E=>?_;refine SS E (nF E (BN s pos)) λa E=>?_;refine IF 1 E I (λaj a E=>?_) λaj a E=>?_
 ·
  have mI:=qE aj;have iY:=Cu pK;have oV:dZ s pos=pos+(Utf8.decode s pos).2:=by rw[dZ,al aj]
  have kY:=tu s pos;refine RN 1 E I λa E=>?_;refine SS E (nF E (PE aj)) λa E=>?_;refine RN 0 E I λa E=>?_;refine SS E (nF E (BO aj)) λa E=>?_;refine IF 7 E I (λan a E=>?_) λan a E=>?_
  ·
   have Uz:dn.all lZ=false:=by
    rcases hg with ⟨_,h⟩ | ⟨h,_⟩
    ·omega
    ·exact h
   refine RT 2 E I ?_;exact⟨by rw[da,List.all_append,Uz,Bool.false_and],I.sub⟩
  obtain⟨mJ,hn⟩:=hg.resolve_right (λh=>by omega);have UA:nh (Utf8.decode s pos).1≤4:=by unfold nh;(repeat' split) <;> omega
  refine CL 2 E I (Ux I) λa w E I=>?_;refine RN 2 E I λa E=>?_;refine⟨s.size-dZ s pos,by omega,dZ s pos,n+nh (Utf8.decode s pos).1,dn++[Utf8.decode s pos],⟨rfl,iY,by rw[da,mI,dw];rfl,?_⟩,E.ab [0,3,7],I.sub⟩;rw[IG,mJ,Bool.true_and];rcases Im s pos with h | h
  ·refine .inl ⟨?_,by omega⟩;simp only[lZ,Bool.not_eq_true',decide_eq_false_iff_not];intro e;rw[e]at h;simp[nh]at h
  ·refine .inr ⟨by simp[lZ,h],?_⟩;rw[oV,h];simp[nh];omega
 refine RN 1 E I λa E=>?_;have gz:pos=s.size:=by omega
 have gA:=qF (s:=s) (pos:=pos) (by omega);rw[gA,append_nil]at da;refine RT 5 E I ?_;refine⟨?_,I.sub⟩;rw[da];rcases hg with ⟨h,h2⟩ | ⟨h,h2⟩
 ·rw[h,dd (by omega)]
 ·rw[h,bq (by omega)]
theorem UB (I:V W w L)(aE:s.size≤1099511627776):Calls prog 197 #[.string s] w λe w'=>e=.returned (.bool (oT s))∧V W w' L:=by
 refine EN func197 ntmps197 rfl rfl λa E=>?_;refine RN 7 E I λa E=>?_;refine BQ E rfl I underlying9 rfl λdq a w E I ho=>?_;clear ho;refine RN 0 E I λa E=>?_;refine aS (λμ a w=>∃ (pos:Nat) (dn:List (Nat×Nat)),(μ=s.size-pos∧pos≤s.size∧eb s 0=dn++eb s pos∧dn.all kc=true∧dn.length≤pos)∧Fr a 29 [(0,.string s),(3,.int .i64 dn.length),(7,pt dq)]∧V W w (km dq (.stringIter s pos)::L)) (s.size) (⟨0,[],⟨by simp,by simp,by simp,rfl,by simp⟩,E.ab [0,3,7],I⟩) ?_;clear E I;rintro μ a w ⟨pos,dn,⟨rfl,pK,da,hg,l5⟩,E,I⟩;refine RN 1 E I λa E=>?_;refine BS E rfl I rfl λa w E I=>?_;refine RN 0 E I λa E=>?_;refine SS E (nF E (BN s pos)) λa E=>?_;refine IF 1 E I (λaj a E=>?_) λaj a E=>?_
 ·
  have mI:=qE aj;have iY:=Cu pK;have oV:dZ s pos=pos+(Utf8.decode s pos).2:=by rw[dZ,al aj]
  have kY:=tu s pos;refine RN 1 E I λa E=>?_;refine SS E (nF E (BO aj)) λa E=>?_;refine BY 6 E I (λbw a E=>?_) λbw a E=>?_
  ·
   have jL:kc (Utf8.decode s pos)=false:=by simp[kc];omega
   refine RT 6 E I ?_;refine⟨?_,I.sub⟩;have:(eb s 0).all kc=false:=by rw[da,mI,List.all_append,List.all_cons,jL];simp
   rw[oT,this];simp
  refine IF 3 E I (λan a E=>?_) λan a E=>?_
  ·
   have jL:kc (Utf8.decode s pos)=false:=by simp[kc];omega
   refine RT 2 E I ?_;refine⟨?_,I.sub⟩;have:(eb s 0).all kc=false:=by rw[da,mI,List.all_append,List.all_cons,jL];simp
   rw[oT,this];simp
  refine RN 3 E I λa E=>?_;exact⟨s.size-dZ s pos,by omega,dZ s pos,dn++[Utf8.decode s pos],⟨rfl,iY,by rw[da,mI,dw];rfl,by rw[IG,hg];simp[kc];omega,by rw[aK];simp;omega⟩,by rw[aK];exact E.ab [0,3,7],I.sub⟩
 refine RN 1 E I λa E=>?_;have gA:=qF (s:=s) (pos:=pos) (by omega);rw[gA,append_nil]at da;have nT:oT s=(decide (1≤dn.length)&&decide (dn.length≤20)&&(eb s 0).all lZ):=by rw[oT,da,hg];simp
 refine BY 3 E I (λbw a E=>?_) λbw a E=>?_
 ·
  refine BY 4 E I (λjM a E=>?_) λjM a E=>?_
  ·
   refine CL 1 E I (Uy I aE) λa w E I=>?_;refine RT 2 E I ?_;refine⟨?_,I.sub⟩;rw[nT]
   first
    | (rw[bq (show ¬ 1≤dn.length by omega)];rfl)
    | (rw[bq (show ¬ dn.length≤20 by omega)];simp;done)
    | (rw[dd (show 1≤dn.length by omega),dd (show dn.length≤20 by omega)];rfl)
  refine RT 4 E I ?_;refine⟨?_,I.sub⟩;rw[nT]
  first
   | (rw[bq (show ¬ 1≤dn.length by omega)];rfl)
   | (rw[bq (show ¬ dn.length≤20 by omega)];simp;done)
   | (rw[dd (show 1≤dn.length by omega),dd (show dn.length≤20 by omega)];rfl)
 refine RT 8 E I ?_;refine⟨?_,I.sub⟩;rw[nT]
 first
  | (rw[bq (show ¬ 1≤dn.length by omega)];rfl)
  | (rw[bq (show ¬ dn.length≤20 by omega)];simp;done)
  | (rw[dd (show 1≤dn.length by omega),dd (show dn.length≤20 by omega)];rfl)
def kZ (k:Int):Int:=if k=0 then 0 else if k=9∨k=15 then 1 else if k=1∨k=2∨(10≤k∧k≤14) then 2 else if 3≤k∧k≤8 then 3 else -1
theorem CQ (k:Int):(k=0∧kZ k=0)∨((k=9∨k=15)∧kZ k=1)∨((k=1∨k=2∨(10≤k∧k≤14))∧kZ k=2)∨(3≤k∧k≤8∧kZ k=3)∨((k<0∨15<k)∧kZ k = -1):=by
 unfold kZ
 repeat' split
 all_goals omega
theorem UC {k:Int}(I:V W w L):Calls prog 201 #[.int .i64 k] w λe w'=>e=.returned (.int .i64 (kZ k))∧V W w' L:=by
 have hk:=CQ k;have ft:∀ (z:Int) (w':World),V W w' L→z=kZ k→Ending.returned (Value.int .i64 z)=.returned (.int .i64 (kZ k))∧V W w' L:=λz w' h e=>⟨by rw[e],h⟩;refine EN func201 ntmps201 rfl rfl λa E=>?_;refine IF 8 E I (λaj a E=>?_) λaj a E=>?_
 ·
  refine RT 2 E I ?_;exact ft _ _ I (by omega)
 refine IF 4 E I (λan a E=>?_) λan a E=>?_
 ·
  refine RT 3 E I ?_;exact ft _ _ I (by omega)
 refine IF 2 E I (λay a E=>?_) λay a E=>?_
 ·
  refine RT 2 E I ?_;exact ft _ _ I (by omega)
 refine IF 4 E I (λbg a E=>?_) λbg a E=>?_
 ·
  refine RT 3 E I ?_;exact ft _ _ I (by omega)
 refine IF 3 E I (λbM a E=>?_) λbM a E=>?_
 ·
  refine RT 3 E I ?_;exact ft _ _ I (by omega)
 refine IF 3 E I (λeP a E=>?_) λeP a E=>?_
 ·
  refine RT 3 E I ?_;exact ft _ _ I (by omega)
 refine IF 3 E I (λmK a E=>?_) λmK a E=>?_
 ·
  refine RT 3 E I ?_;exact ft _ _ I (by omega)
 refine IF 3 E I (λl6 a E=>?_) λl6 a E=>?_
 ·
  refine RT 3 E I ?_;exact ft _ _ I (by omega)
 refine IF 3 E I (λl7 a E=>?_) λl7 a E=>?_
 ·
  refine RT 3 E I ?_;exact ft _ _ I (by omega)
 refine IF 2 E I (λk0 a E=>?_) λk0 a E=>?_
 ·
  refine RT 2 E I ?_;exact ft _ _ I (by omega)
 refine IF 4 E I (λvk a E=>?_) λvk a E=>?_
 ·
  refine RT 3 E I ?_;exact ft _ _ I (by omega)
 refine IF 3 E I (λsb a E=>?_) λsb a E=>?_
 ·
  refine RT 3 E I ?_;exact ft _ _ I (by omega)
 refine IF 3 E I (λxg a E=>?_) λxg a E=>?_
 ·
  refine RT 3 E I ?_;exact ft _ _ I (by omega)
 refine IF 3 E I (λvl a E=>?_) λvl a E=>?_
 ·
  refine RT 3 E I ?_;exact ft _ _ I (by omega)
 refine IF 3 E I (λUD a E=>?_) λUD a E=>?_
 ·
  refine RT 3 E I ?_;exact ft _ _ I (by omega)
 refine IF 2 E I (λUE a E=>?_) λUE a E=>?_
 ·
  refine RT 2 E I ?_;exact ft _ _ I (by omega)
 refine RT 2 E I ?_;exact ft _ _ I (by omega)
def zl (l:List Int):Prop:=∀ x∈l,eW x
theorem CR {zs:List Int}{b e:Nat}(I:V W w (aa b e (zs.map (.int .i64))::L))(hl:zs.length≤10) :
   Calls prog 202 #[.slice (some ⟨b,0,none⟩) zs.length zs.length] w λe' w'=>∃ r:Bool,e'=.returned (.bool r)∧(r=true↔zl zs)∧V W w' (aa b e (zs.map (.int .i64))::L):=by
 refine EN func202 ntmps202 rfl rfl λa E=>?_;refine RN 7 E I λa E=>?_;refine aS (λμ a w=>∃ i:Nat,(μ=zs.length-i∧i≤zs.length∧∀ j x,j<i→zs[j]?=some x→eW x)∧Fr a 18 [(5,.slice (some ⟨b,0,none⟩) zs.length zs.length),(6,.int .i64 zs.length),(7,.int .i64 i)]∧V W w (aa b e (zs.map (.int .i64))::L)) (zs.length) (⟨0,⟨by simp,by simp,λj x h=>absurd h (by omega)⟩,E.ab [5,6,7],I⟩) ?_;clear E I;rintro μ a w ⟨i,⟨rfl,hi,cD⟩,E,I⟩;refine IF 3 E I (λaj a E=>?_) λaj a E=>?_
 ·
  obtain⟨x,hx⟩:∃ x,zs[i]?=some x:=⟨_,aO (by omega)⟩;refine RN 3 E I λa E=>?_;refine SS E (ag E (I.bu (v:=.int .i64 x) (by rw[bn,hx];rfl))) λa E=>?_;refine BY 5 E I (λbw a E=>?_) λbw a E=>?_
  ·
   refine RT 6 E I ?_;refine⟨false,rfl,⟨λh=>(by cases h),λh=>?_⟩,I.sub⟩;have:=h x (bE hx);unfold eW at this;omega
  refine IF 3 E I (λan a E=>?_) λan a E=>?_
  ·
   refine RT 2 E I ?_;refine⟨false,rfl,⟨λh=>(by cases h),λh=>?_⟩,I.sub⟩;have:=h x (bE hx);unfold eW at this;omega
  refine RN 2 E I λa E=>?_;refine⟨zs.length-(i+1),by omega,i+1,⟨rfl,by omega,λj y hj hy=>?_⟩,E.ab [5,6,7],I.sub⟩;by_cases e:j=i
  ·subst e;rw[hx]at hy;cases hy;unfold eW;omega
  ·exact cD j y (by omega) hy
 refine RT 2 E I ?_;refine⟨true,rfl,⟨λ_ x hx=>?_,λ_=>rfl⟩,I.sub⟩;obtain⟨j,hj⟩:=jH.1 hx;exact cD j x (by have:=(a1.1 hj).1;omega) hj
theorem IH {k n:Int}{b e:Nat}(I:V W w (aa b e [.int .i64 n]::L)) :
   Calls prog 200 #[.int .i64 k,pt b] w λe' w'=>e'=.returned (.bool (decide (0≤k∧k≤n)))∧V W w' (aa b e [.int .i64 n]::L):=by
 refine EN func200 ntmps200 rfl rfl λa E=>?_;refine BY 6 E I (λbw a E=>?_) λbw a E=>?_
 ·
  refine RT 5 E I ?_;refine⟨?_,I.sub⟩
  first
   | (rw[bq (show ¬ (0≤k∧k≤n) by omega)])
   | (congr 2;rw[decide_eq_decide];omega)
 refine RT 5 E I ?_;refine⟨?_,I.sub⟩
 first
  | (rw[bq (show ¬ (0≤k∧k≤n) by omega)])
  | (congr 2;rw[decide_eq_decide];omega)
end
end
section
section
variable {W w:World}{L:List SP}{c:Nat}{ad:Option Addr}
theorem UF {o:gy}{m:Int}(h:o.code=0):eX m o↔(o.a=0∧o.b=0∧o.c=0):=by
 simp only[eX,eW];exact⟨λh=>by omega,λh2=>.inl ⟨h,h2⟩⟩
theorem UG {o:gy}{m:Int}(h:o.code=1):eX m o↔(eW o.a∧o.c=0):=by
 simp only[eX,eW];exact⟨λh=>by omega,λh2=>.inr (.inl ⟨h,h2⟩)⟩
theorem UH {o:gy}{m:Int}(h:o.code=9):eX m o↔(0≤o.a∧o.a≤m∧o.b=0∧o.c=0):=by
 simp only[eX,eW];exact⟨λh=>by omega,λh2=>.inr (.inr (.inl ⟨h,h2⟩))⟩
theorem UI {o:gy}{m:Int}(h:o.code=15):eX m o↔(eW o.a∧o.b=0∧o.c=0):=by
 simp only[eX,eW];exact⟨λh=>by omega,λh2=>.inr (.inr (.inr (.inl ⟨h,h2⟩)))⟩
theorem II {o:gy}{m:Int}(h:o.code=10):eX m o↔(eW o.a∧0≤o.b∧o.b≤m∧o.c=0):=by
 simp only[eX,eW];exact⟨λh=>by omega,λh2=>.inr (.inr (.inr (.inr (.inl ⟨h,h2⟩))))⟩
theorem UJ {o:gy}{m:Int}(h:o.code=2∨(11≤o.code∧o.code≤14)):eX m o↔(eW o.a∧eW o.b∧o.c=0):=by
 simp only[eX,eW];exact⟨λh=>by omega,λh2=>.inr (.inr (.inr (.inr (.inr (.inl ⟨h,h2⟩)))))⟩
theorem UK {o:gy}{m:Int}(h:3≤o.code∧o.code≤8):eX m o↔(eW o.a∧eW o.b∧eW o.c):=by
 simp only[eX,eW];exact⟨λh=>by omega,λh2=>.inr (.inr (.inr (.inr (.inr (.inr ⟨h.1,h.2,h2⟩)))))⟩
theorem sd {o:gy}{m:Int}(h:eX m o):0≤kZ o.code∧(kZ o.code<3→o.c=0)∧(kZ o.code<2→o.b=0)∧(kZ o.code<1→o.a=0):=by
 have hk:=CQ o.code;simp only[eX,eW]at h;omega
theorem UL {o:gy}{m:Nat}(I:V W w L):Calls prog 170 #[.agg (dO o).toArray,.int .i64 m] w λe w'=>∃ r:Bool,e=.returned (.bool r)∧(r=true↔eX m o)∧V W w' L:=by
 have hk:=CQ o.code;have ft:∀ (r:Bool) (P:Prop) (w':World),V W w' L→(r=true↔P)→(P↔eX m o)→∃ r':Bool,Ending.returned (Value.bool r)=.returned (.bool r')∧(r'=true↔eX m o)∧V W w' L:=λr P w' h e1 e2=>⟨r,rfl,e1.trans e2,h⟩;refine EN func170 ntmps170 rfl rfl λa E=>?_;refine BX 1 E I λb2 a w E I=>?_;change V W w (aa b2 114 (dO o)::_) at I;refine BX 0 E I λb3 a w E I=>?_;refine CL 7 E I (UC I) λa w E I=>?_;refine RN 1 E I λa E=>?_;refine bZ (M:=λa w=>(0≤kZ o.code∧(kZ o.code<3→o.c=0)∧(kZ o.code<2→o.b=0)∧(kZ o.code<1→o.a=0))∧Fr a 76 [(2,pt b2),(3,pt b3),(5,.func (.func 200) #[] (List.toArray [pt b3]))]∧V W w (aa b3 3 [.int .i64 m]::aa b2 114 (dO o)::L)) ?_ ?_
 ·
  refine BY 4 E I (λbw a E=>?_) λbw a E=>?_
  ·
   refine RT 29 E I ?_;exact ft false False _ I.sub (by simp) ⟨λh=>h.elim,λh=>by have h5:=sd h;omega⟩
  refine BY 3 E I (λiM a E=>?_) λiM a E=>?_
  ·
   refine BY 6 E I (λkA a E=>?_) λkA a E=>?_
   ·
    refine RT 20 E I ?_;exact ft false False _ I.sub (by simp) ⟨λh=>h.elim,λh=>by have h5:=sd h;omega⟩
   refine BY 3 E I (λkz a E=>?_) λkz a E=>?_
   ·
    refine BY 6 E I (λCS a E=>?_) λCS a E=>?_
    ·
     refine RT 11 E I ?_;exact ft false False _ I.sub (by simp) ⟨λh=>h.elim,λh=>by have h5:=sd h;omega⟩
    refine BY 3 E I (λl8 a E=>?_) λl8 a E=>?_
    ·
     refine IF 5 E I (λaj a E=>?_) λaj a E=>?_
     ·
      refine RT 2 E I ?_;exact ft false False _ I.sub (by simp) ⟨λh=>h.elim,λh=>by have h5:=sd h;omega⟩
     refine RN 0 E I λa E=>?_;exact⟨by omega,E.ab [2,3,5],I.sub⟩
    refine RN 6 E I λa E=>?_;exact⟨by omega,E.ab [2,3,5],I.sub⟩
   refine BY 9 E I (λl8 a E=>?_) λl8 a E=>?_
   ·
    refine IF 5 E I (λaj a E=>?_) λaj a E=>?_
    ·
     refine RT 2 E I ?_;exact ft false False _ I.sub (by simp) ⟨λh=>h.elim,λh=>by have h5:=sd h;omega⟩
    refine RN 0 E I λa E=>?_;exact⟨by omega,E.ab [2,3,5],I.sub⟩
   refine RN 6 E I λa E=>?_;exact⟨by omega,E.ab [2,3,5],I.sub⟩
  refine BY 9 E I (λkz a E=>?_) λkz a E=>?_
  ·
   refine BY 6 E I (λCS a E=>?_) λCS a E=>?_
   ·
    refine RT 11 E I ?_;exact ft false False _ I.sub (by simp) ⟨λh=>h.elim,λh=>by have h5:=sd h;omega⟩
   refine BY 3 E I (λl8 a E=>?_) λl8 a E=>?_
   ·
    refine IF 5 E I (λaj a E=>?_) λaj a E=>?_
    ·
     refine RT 2 E I ?_;exact ft false False _ I.sub (by simp) ⟨λh=>h.elim,λh=>by have h5:=sd h;omega⟩
    refine RN 0 E I λa E=>?_;exact⟨by omega,E.ab [2,3,5],I.sub⟩
   refine RN 6 E I λa E=>?_;exact⟨by omega,E.ab [2,3,5],I.sub⟩
  refine BY 9 E I (λl8 a E=>?_) λl8 a E=>?_
  ·
   refine IF 5 E I (λaj a E=>?_) λaj a E=>?_
   ·
    refine RT 2 E I ?_;exact ft false False _ I.sub (by simp) ⟨λh=>h.elim,λh=>by have h5:=sd h;omega⟩
   refine RN 0 E I λa E=>?_;exact⟨by omega,E.ab [2,3,5],I.sub⟩
  refine RN 6 E I λa E=>?_;exact⟨by omega,E.ab [2,3,5],I.sub⟩
 clear E;(try clear I);rintro a w ⟨nT,E,I⟩;refine IF 7 E I (λan a E=>?_) λan a E=>?_
 ·
  refine RT 2 E I ?_;exact ft true True _ I.sub (by simp) ⟨λ_=>(UF an).2 (by omega),λ_=>trivial⟩
 refine IF 3 E I (λay a E=>?_) λay a E=>?_
 ·
  refine RN 3 E I λa E=>?_;refine cm E rfl I underlying53 Ty.t3 rfl rfl rfl rfl (by decide) (by decide) λb48 a w E I ho=>?_;clear ho;refine bd 0 E I (CR (zs:=[o.a]) I (by simp)) λr a w E ⟨hr,I⟩=>?_;refine RT 1 E I ?_;exact ft r _ _ I.sub hr (by rw[UG ay];simp only[zl,forall_mem_cons,not_mem_nil,false_imp_iff,implies_true,and_true];exact⟨λh=>⟨h,by omega⟩,λh=>h.1⟩)
 refine IF 3 E I (λbg a E=>?_) λbg a E=>?_
 ·
  refine CL 4 E I (IH (I.jy b3)) λa w E I=>?_;refine RT 1 E I ?_;exact ft _ _ _ I.sub cn (by rw[UH bg];omega)
 refine IF 3 E I (λbM a E=>?_) λbM a E=>?_
 ·
  refine RN 3 E I λa E=>?_;refine cm E rfl I underlying53 Ty.t3 rfl rfl rfl rfl (by decide) (by decide) λP0 a w E I ho=>?_;clear ho;refine bd 0 E I (CR (zs:=[o.a]) I (by simp)) λr a w E ⟨hr,I⟩=>?_;simp only[zl,forall_mem_cons,not_mem_nil,false_imp_iff,implies_true,and_true]at hr;refine BY 1 E I (λdE a E=>?_) λdE a E=>?_
  ·
   refine CL 3 E I (IH (I.jy b3)) λa w E I=>?_;refine RT 2 E I ?_;exact ft _ _ _ I.sub cn (by rw[II bM];exact⟨λh=>⟨hr.1 dE,h.1,h.2,by omega⟩,λh=>⟨h.2.1,h.2.2.1⟩⟩)
  refine RT 6 E I ?_;exact ft _ False _ I.sub (by simp) (by rw[II bM];exact⟨λh=>h.elim,λh=>by rw[hr.2 h.1]at dE;cases dE⟩)
 refine RN 7 E I λa E=>?_;refine cm E rfl I underlying53 Ty.t3 rfl rfl rfl rfl (by decide) (by decide) λb74 a w E I ho=>?_;clear ho;refine bd 0 E I (CR (zs:=[o.a,o.b,o.c]) I (by simp)) λr a w E ⟨hr,I⟩=>?_;refine RT 1 E I ?_;refine ft r _ _ I.sub hr ?_;simp only[zl,forall_mem_cons,not_mem_nil,false_imp_iff,implies_true,and_true];have CT:eW 0:=⟨by decide,by decide⟩;rcases hk with hk | ⟨hk,cc⟩ | ⟨hk,cc⟩ | hk | hk
 ·omega
 ·have CU:o.code=15:=by omega
  have vm:o.b=0:=by omega
  have CV:o.c=0:=by omega
  rw[UI CU,vm,CV];exact⟨λh=>⟨h.1,rfl,rfl⟩,λh=>⟨h.1,CT,CT⟩⟩
 ·have CV:o.c=0:=by omega
  rw[UJ (by omega),CV];exact⟨λh=>⟨h.1,h.2.1,rfl⟩,λh=>⟨h.1,h.2.1,CT⟩⟩
 ·rw[UK ⟨hk.1,hk.2.1⟩]
 ·omega
abbrev bJ (p:Pr)(ad:Option Addr)(c:Nat):List Value:=[.string p.title,.slice ad p.ops.length c]
abbrev aA (W:World)(p:Pr)(ad:Option Addr)(c:Nat):SP:=Ro W 114 4 ad p.ops.length c (rows dO p.ops)
def tA (o:gy)(k:Nat):Int:=[o.code,o.a,o.b,o.c].getD k 0
theorem UM (o:gy){k:Nat}(h:k<4):(dO o)[k]?=some (.int .i64 (tA o k)):=by
 rcases (by omega:k=0∨k=1∨k=2∨k=3) with rfl | rfl | rfl | rfl <;> rfl
set_option maxHeartbeats 4000000 in
theorem UN {p:Pr}(I:V W w (aA W p ad c::L))(aE:p.title.size≤1000000000)(dX:p.ops.length≤1000000000) :
   Calls prog 169 #[.agg (bJ p ad c).toArray] w λe w'=>∃ av n' c',e=.returned (.slice av n' c')∧(av.isNone=true↔¬ vd p)∧V W w' (aA W p ad c::L):=by
 refine EN func169 ntmps169 rfl rfl λa E=>?_;refine BX 1 E I λb1 a w E I=>?_;change V W w (aa b1 45 (bJ p ad c)::_) at I;refine RN 1 E I λa E=>?_;refine bZ (M:=λa w=>(oT p.title=true∧1≤p.ops.length∧p.ops.length≤64)∧Fr a 62 [(1,pt b1)]∧V W w (aa b1 45 (bJ p ad c)::aA W p ad c::L)) ?_ ?_
 ·
  refine CL 3 E I (UB I (by omega)) λa w E I=>?_;refine BY 2 E I (λht a E=>?_) λht a E=>?_
  ·
   refine RT 14 E I ?_;exact⟨none,0,0,rfl,⟨λ_ h=>(by
    obtain⟨h1,h2,h3,_⟩:=h
    first
     | (rw[h1]at ht;cases ht;done)
     | omega),λ_=>rfl⟩,I.sub⟩
  refine BY 6 E I (λlr a E=>?_) λlr a E=>?_
  ·
   refine RT 8 E I ?_;exact⟨none,0,0,rfl,⟨λ_ h=>(by
    obtain⟨h1,h2,h3,_⟩:=h
    first
     | (rw[h1]at ht;cases ht;done)
     | omega),λ_=>rfl⟩,I.sub⟩
  refine IF 5 E I (λaj a E=>?_) λaj a E=>?_
  ·
   refine RT 2 E I ?_;exact⟨none,0,0,rfl,⟨λ_ h=>(by
    obtain⟨h1,h2,h3,_⟩:=h
    first
     | (rw[h1]at ht;cases ht;done)
     | omega),λ_=>rfl⟩,I.sub⟩
  refine RN 0 E I λa E=>?_;exact⟨⟨ht,by omega,by omega⟩,E.ab [1],I.sub⟩
 clear E;(try clear I);rintro a w ⟨lv,E,I⟩;refine bZ (M:=λa w=>∃ (bs:List UInt8) (hX:Option Addr) (cb:Nat),(1≤bs.length∧bs.length≤p.title.size+30)∧Fr a 62 [(1,pt b1),(3,.slice hX bs.length cb)]∧V W w (Sl 5 1 hX bs.length cb (bc bs)::aa b1 45 (bJ p ad c)::aA W p ad c::L)) ?_ ?_
 ·
  refine aY 0 (λw0 w'=>w'.cell? ⟨b1,1,none⟩=some (.slice ad p.ops.length c)∧w'.cell? ⟨b1,0,none⟩=some (.string p.title)) [2,4,5] [0,3,3001,3004,3005,1002,1006,7] E I λa w E I hH=>?_;have an:w.cell? ⟨b1,1,none⟩=some (.slice ad p.ops.length c):=I.bu rfl;have UO:w.cell? ⟨b1,0,none⟩=some (.string p.title):=I.bu rfl;have U:=And.intro an UO;refine RH 2 E I hH U λa E=>?_;refine QH E (λw hc=>ag E (hc.2)) U λa E=>?_;refine QH E (λw hc=>ag E (hc.1)) U λa E=>?_;refine RH 1 E I hH U λa E=>?_;refine a2 0 E I (Uw I (by omega)) λc0 dQ a w E I=>?_;replace U:=hH.at w (And.intro (I.bu rfl) (I.bu rfl));have hR:=pW 9 (zz p.title.size) (by rw[zz];split <;> (simp;omega));have xf:p.title.data.toList.length=p.title.size:=rfl;refine RH 0 E I hH U λa E=>?_;refine a2 0 E I (sa (N:=p.ops.length) (I.pick (Sl 5 1 c0 (aL (zz p.title.size)++p.title.data.toList).length dQ (bc (aL (zz p.title.size)++p.title.data.toList)))) (by omega) (by omega) (by rw[aK];omega)) λadq cq a w E I=>?_;refine RN 1 E I λa E=>?_;have r0:=pW 9 (zz p.ops.length) (by rw[zz];split <;> (simp;omega));have u3:=qJ (zz p.ops.length);exact⟨_,adq,cq,⟨by rw[aK];omega,by rw[aK,aK];omega⟩,E.ab [1,3],I.sub⟩
 clear E;(try clear I);rintro a w ⟨bs,hX,cb,⟨nU,oH⟩,E,I⟩;refine RN 6 E I λa E=>?_;refine aS (λμ a w=>∃ (i:Nat) (bs:List UInt8) (hX:Option Addr) (cb:Nat),(μ=p.ops.length-i∧i≤p.ops.length∧1≤bs.length∧bs.length≤p.title.size+30+40*i∧∀ j o,j<i→p.ops[j]?=some o→qG o)∧Fr a 62 [(3,.slice hX bs.length cb),(32,.slice ad p.ops.length c),(33,.int .i64 p.ops.length),(34,.int .i64 i)]∧V W w (Sl 5 1 hX bs.length cb (bc bs)::aA W p ad c::L)) (p.ops.length) (⟨0,bs,hX,cb,⟨by simp,by simp,nU,by omega,λj o h=>absurd h (by omega)⟩,E.ab [3,32,33,34],I.sub⟩) ?_;clear E I;rintro μ a w ⟨i,bs,hX,cb,⟨rfl,hi,nU,oH,cD⟩,E,I⟩;refine IF 3 E I (λan a E=>?_) λan a E=>?_
 ·
  obtain⟨o,ho⟩:∃ o,p.ops[i]?=some o:=⟨_,aO (by omega)⟩;obtain⟨kq,oo,gU,gA⟩:=I.qH ad (by omega);rw[gU]at E;refine RN 3 E I λa E=>?_;refine SS E (bO E underlying114 rfl Ty.t114 (ve gA ho)) λa E=>?_;refine AL 0 E I λb5 a w E I=>?_;refine SA 0 E I λa w E I=>?_;refine RN 9 E I λa E=>?_;refine SS E (BL E underlying230 Ty.t230 Ty.t3 rfl rfl) λa E=>?_;change Fr a 62 ((46,.agg (dO o).toArray)::_) at E;refine RN 1 E I λa E=>?_;rw[← gU]at E;refine aS (λμ a w=>∃ (k:Nat) (bs:List UInt8) (hX:Option Addr) (cb:Nat),(μ=4-k∧k≤4∧1≤bs.length∧bs.length≤p.title.size+30+40*i+10*k∧∀ j,j<k→dp (tA o j))∧Fr a 62 [(3,.slice hX bs.length cb),(32,.slice ad p.ops.length c),(33,.int .i64 p.ops.length),(34,.int .i64 i),(46,.agg (dO o).toArray),(47,.int .i64 k)]∧V W w (Sl 5 1 hX bs.length cb (bc bs)::aA W p ad c::L)) (4) (⟨0,bs,hX,cb,⟨by simp,by simp,nU,by omega,λj h=>absurd h (by omega)⟩,E.ab [3,32,33,34,46,47],I.sub⟩) ?_;clear E I;rintro μ a w ⟨k,bs,hX,cb,⟨rfl,hk,nU,oH,oW⟩,E,I⟩;refine IF 3 E I (λay a E=>?_) λay a E=>?_
  ·
   refine RN 2 E I λa E=>?_;refine SS E (rI E underlying230 underlying3 rfl Ty.t3 (by omega) (UM o (by omega))) λa E=>?_;refine BY 6 E I (λbw a E=>?_) λbw a E=>?_
   ·
    refine RT 6 E I ?_;refine⟨none,0,0,rfl,⟨λ_ h=>?_,λ_=>rfl⟩,I.sub⟩;obtain⟨_,_,_,h4⟩:=h;have h5:=h4 o (bE ho);have h6:dp (tA o k):=by
     rcases (by omega:k=0∨k=1∨k=2∨k=3) with rfl | rfl | rfl | rfl
     ·exact h5.1
     ·exact h5.2.1
     ·exact h5.2.2.1
     ·exact h5.2.2.2
    simp only[dp]at h6;omega
   refine IF 3 E I (λbg a E=>?_) λbg a E=>?_
   ·
    refine RT 2 E I ?_;refine⟨none,0,0,rfl,⟨λ_ h=>?_,λ_=>rfl⟩,I.sub⟩;obtain⟨_,_,_,h4⟩:=h;have h5:=h4 o (bE ho);have h6:dp (tA o k):=by
     rcases (by omega:k=0∨k=1∨k=2∨k=3) with rfl | rfl | rfl | rfl
     ·exact h5.1
     ·exact h5.2.1
     ·exact h5.2.2.1
     ·exact h5.2.2.2
    simp only[dp]at h6;omega
   refine a2 2 E I (sa (N:=tA o k) (I.pick (Sl 5 1 hX bs.length cb (bc bs))) (by omega) (by omega) (by omega)) λadq cq a w E I=>?_;refine RN 3 E I λa E=>?_;have r0:=pW 9 (zz (tA o k)) (by rw[zz];split <;> (simp;omega));refine⟨4-(k+1),by omega,k+1,bs++aL (zz (tA o k)),adq,cq,⟨rfl,by omega,by rw[aK];omega,by rw[aK];omega,λj hj=>?_⟩,E.ab [3,32,33,34,46,47],I.sub⟩;rcases Nat.lt_or_ge j k with h | h
   ·exact oW j h
   ·obtain rfl:j=k:=by omega
    simp only[dp];omega
  refine RN 0 E I λa E=>?_;obtain rfl:k=4:=by omega
  refine RN 2 E I λa E=>?_;refine⟨p.ops.length-(i+1),by omega,i+1,bs,hX,cb,⟨rfl,by omega,nU,by omega,λj o' hj j2=>?_⟩,E.ab [3,32,33,34],I.sub⟩;rcases Nat.lt_or_ge j i with h | h
  ·exact cD j o' h j2
  ·obtain rfl:j=i:=by omega
   rw[ho]at j2;cases j2;exact⟨oW 0 (by omega),oW 1 (by omega),oW 2 (by omega),oW 3 (by omega)⟩
 refine RT 3 E I ?_;obtain⟨l9,ox,CW,_⟩:=I.bY hX (by omega);refine⟨hX,bs.length,cb,rfl,⟨λh=>(by rw[CW]at h;cases h),λh=>?_⟩,I.sub⟩;exact absurd ⟨lv.1,lv.2.1,lv.2.2,λo' j2=>(by
  obtain⟨j,hj⟩:=jH.1 j2;exact cD j o' (by have:=(a1.1 hj).1;omega) hj)⟩ h
theorem UP {p:Pr}(I:V W w (aA W p ad c::L))(aE:p.title.size≤1000000000)(dX:p.ops.length≤1000000000) :
   Calls prog 132 #[.agg (bJ p ad c).toArray] w λe w'=>∃ r:Int,e=.returned (.int .i64 r)∧(r = -1↔dj p)∧V W w' (aA W p ad c::L):=by
 refine EN func132 ntmps132 rfl rfl λa E=>?_;refine BX 1 E I λb1 a w E I=>?_;change V W w (aa b1 45 (bJ p ad c)::_) at I;refine jD 4 E I (UN (I.pick (aA W p ad c)) aE dX) λadM ne ce a w E ⟨bN,I⟩=>?_;refine IF 1 E I (λaj a E=>?_) λaj a E=>?_
 ·
  refine RT 2 E I ?_;exact⟨-2,rfl,⟨λh=>absurd h (by decide),λh=>absurd h.1 (bN.1 aj)⟩,I.sub⟩
 have lv:vd p:=Classical.byContradiction λh=>by rw[bN.2 h]at aj;cases aj
 refine RN 6 E I λa E=>?_;refine aS (λμ a w=>∃ i:Nat,(μ=p.ops.length-i∧i≤p.ops.length∧∀ j o,j<i→p.ops[j]?=some o→eX p.ops.length o)∧Fr a 24 [(1,pt b1),(9,.slice ad p.ops.length c),(10,.int .i64 p.ops.length),(11,.int .i64 i)]∧V W w (aa b1 45 (bJ p ad c)::aA W p ad c::L)) (p.ops.length) (⟨0,⟨by simp,by simp,λj o h=>absurd h (by omega)⟩,E.ab [1,9,10,11],I.sub⟩) ?_;clear E I;rintro μ a w ⟨i,⟨rfl,hi,cD⟩,E,I⟩;refine IF 3 E I (λan a E=>?_) λan a E=>?_
 ·
  obtain⟨o,ho⟩:∃ o,p.ops[i]?=some o:=⟨_,aO (by omega)⟩;obtain⟨kq,oo,gU,gA⟩:=I.qH ad (by omega);rw[gU]at E;refine RN 4 E I λa E=>?_;refine SS E (bO E underlying114 rfl Ty.t114 (ve gA ho)) λa E=>?_;refine AL 0 E I λb4 a w E I=>?_;refine SA 1 E I λa w E I=>?_;refine bd 5 E I (UL (o:=o) (m:=p.ops.length) I) λr a w E ⟨hr,I⟩=>?_;refine IF 1 E I (λay a E=>?_) λay a E=>?_
  ·
   refine RT 3 E I ?_;refine⟨i,rfl,⟨λh=>absurd h (by omega),λh=>?_⟩,I.sub⟩;rw[hr.2 (h.2 o (bE ho))]at ay;cases ay
  have oX:r=true:=by simpa using ay
  refine RN 2 E I λa E=>?_;rw[← gU]at E;refine⟨p.ops.length-(i+1),by omega,i+1,⟨rfl,by omega,λj o' hj j2=>?_⟩,E.ab [1,9,10,11],I.sub⟩;rcases Nat.lt_or_ge j i with h | h
  ·exact cD j o' h j2
  ·obtain rfl:j=i:=by omega
   rw[ho]at j2;cases j2;exact hr.1 oX
 refine RT 2 E I ?_;refine⟨-1,rfl,⟨λ_=>⟨lv,λo ho=>?_⟩,λ_=>rfl⟩,I.sub⟩;obtain⟨j,hj⟩:=jH.1 ho;exact cD j o (by have:=(a1.1 hj).1;omega) hj
theorem CX {p:Pr}(I:V W w (aA W p ad c::L))(aE:p.title.size≤1000000000)(dX:p.ops.length≤1000000000) :
   Calls prog 97 #[.agg (bJ p ad c).toArray] w λe w'=>∃ r:Bool,e=.returned (.bool r)∧(r=true↔dj p)∧V W w' (aA W p ad c::L):=by
 refine EN func97 ntmps97 rfl rfl λa E=>?_;refine BX 1 E I λb1 a w E I=>?_;change V W w (aa b1 45 (bJ p ad c)::_) at I;refine bd 3 E I (UP (I.pick (aA W p ad c)) aE dX) λr a w E ⟨hr,I⟩=>?_;refine RT 2 E I ?_;exact⟨_,rfl,by rw[cn];exact hr,I.sub⟩
end
end
end Go.Proofs.YteoldcfapaiobaaGreat
