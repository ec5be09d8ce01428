/- The walks of package job. -/
import Derived.Test.YteoldcfapaiobaaGreatC01Row
import Derived.Test.YteoldcfapaiobaaGreatC03Snap2
import Derived.Lib.AppendStr
namespace Go.Proofs.YteoldcfapaiobaaGreat
open Tryz
open List (mem_cons_self drop_zero take_succ_cons getElem?_take getElem?_drop set_eq_take_append_cons_drop perm_middle getElem?_append_right drop_drop drop_left take_zero take_append nil_append map_cons length_nil cons_append getElem_set_self eraseIdx_set_eq take_length append_nil ext_getElem? mem_or_eq_of_mem_set getElem_mem map_nil length_filter_le flatMap_cons forall_mem_cons not_mem_nil)
open Go.RowKit
set_option linter.unusedVariables false
set_option linter.unusedSimpArgs false
set_option maxRecDepth 10000
set_option synthInstance.maxSize 4000
set_option synthInstance.maxHeartbeats 400000
section
def jc (l:List (Int×Int)):List Value:=l.flatMap λj=>[.int .i64 j.1,.int .i64 j.2]
theorem o3 (l:List (Int×Int)):(jc l).length=l.length*2:=by
 induction l with
 | nil=>rfl
 | cons x l ih=>simp only[jc,flatMap_cons,aL,e7,length_nil] at *;omega
theorem IC (l m:List (Int×Int)):jc (l++m)=jc l++jc m:=by simp[jc]
theorem ID (l:List (Int×Int))(i:Nat):(jc l).drop (i*2)=jc (l.drop i):=by
 induction i generalizing l with
 | zero=>simp
 | succ i ih =>
  cases l with
  | nil=>simp[jc]
  | cons x l =>
   have:(i+1)*2=i*2+2:=by omega
   rw[this];simp only[jc,flatMap_cons,List.drop_succ_cons] at *;rw[← ih l];simp
theorem IE (l:List (Int×Int))(i:Nat):(jc l).take (i*2)=jc (l.take i):=by
 induction i generalizing l with
 | zero=>simp[jc]
 | succ i ih =>
  cases l with
  | nil=>simp[jc]
  | cons x l =>
   have:(i+1)*2=i*2+2:=by omega
   rw[this];simp only[jc,flatMap_cons,take_succ_cons] at *;rw[← ih l];simp
theorem CT (l:List (Int×Int))(i:Nat)(h:i<l.length):((jc l).drop (i*2)).take 2=[.int .i64 l[i].1,.int .i64 l[i].2]:=by
 rw[ID,ka h];simp only[jc,flatMap_cons,cons_append,nil_append,take_succ_cons,take_zero]
def fi (p:Int×Int→Bool)(l:List (Int×Int)):Int:=if l.findIdx p<l.length then (l.findIdx p:Int) else -1
theorem Uw (p:Int×Int→Bool)(l:List (Int×Int)):decide (0≤fi p l)=l.any p:=by
 unfold fi;split <;> rename_i h
 ·have:=List.findIdx_lt_length.1 h;simp only[List.any_eq_true.2 this];simp
 ·rw[List.findIdx_lt_length]at h;have:l.any p=false:=by rw[← Bool.not_eq_true,List.any_eq_true];exact h
  simp[this]
theorem Ux (p:Int×Int→Bool)(l:List (Int×Int))(i:Nat)(hi:i<l.length)(h0:∀ j,(h:j<i)→p (l[j]'(by omega))=false)(h1:p l[i]=true):fi p l=i:=by
 have:l.findIdx p=i:=(List.findIdx_eq hi).2 ⟨h1,λj hj=>h0 j hj⟩;simp[fi,this,hi]
theorem Uy (p:Int×Int→Bool)(l:List (Int×Int))(h0:∀ j,(h:j<l.length)→p l[j]=false):fi p l = -1:=by
 have:¬ l.findIdx p<l.length:=by
  rw[List.findIdx_lt_length];rintro⟨x,hx,hp⟩;obtain⟨j,hj,rfl⟩:=List.mem_iff_getElem.1 hx;rw[h0 j hj]at hp;cases hp
 simp[fi,this]
theorem Uz {q:Nat→Prop}{i:Nat}(h:∀ j,j<i→q j)(h1:q i):∀ j,j<i+1→q j:=λj hj=>by
 rcases Nat.lt_or_ge j i with h' | h'
 ·exact h j h'
 ·obtain rfl:j=i:=by omega
  exact h1
def vw (W:World)(L:List SP)(f:Nat)(us:List Value)(p:Int×Int→Bool):Prop :=
 ∀ w (x:Int×Int),U W w L→Calls prog f ([Value.agg #[.int .i64 x.1,.int .i64 x.2]]++us).toArray w λe V=>e=.returned (.bool (p x))∧U W V L
theorem zr {W w:World}{L R:List SP}{a e:Nat}{s:Option Addr}{n c:Nat}(I:U W w L) [fC L a e [.slice s n c] R] :
   Calls prog 207 #[pt a] w λe V=>e=.returned (.int .i64 n)∧U W V L:=by
 refine EN func207 ntmps207 rfl rfl λa E=>?_;refine RN 6 E I λa E=>?_;replace E:=E.aN 4;refine RT 8 E I ?_;exact⟨rfl,I⟩
theorem UA {W:World}{L R:List SP}{b e:Nat}{x1 x2:Int} [fC L b e [.int .i64 x1,.int .i64 x2] R] :
   vw W L 210 [pt b] (λy=>decide (y.1=x1)):=by
 rintro w ⟨UB,UC⟩ I;refine EN func210 ntmps210 rfl rfl λa E=>?_;refine BX 1 E I λb2 a w E I=>?_;refine RT 8 E I ?_;exact⟨rfl,I.tail⟩
theorem IG {W w:World}{L R:List SP}{ad:Option Addr}{c f:Nat}{us:List Value}{l:List (Int×Int)}{p:Int×Int→Bool}(I:U W w L)[pk:fL L ad l.length c 245 2 (jc l) R]
   (hc:g4 prog f=true) (hf:vw W L f us p) (hl:l.length≤140737488355328) :
   Calls prog 232 #[.slice ad l.length c,.func (.func f) #[] us.toArray] w λe V=>e=.returned (.int .i64 (fi p l))∧U W V L:=by
 refine EN func232 ntmps232 rfl rfl λa E=>?_;refine RN 7 E I λa E=>?_;refine aR (λμ a w=>∃ i:Nat,(μ=l.length-i∧i≤l.length∧(∀ j,j<i→∀ h:j<l.length,p l[j]=false))∧Fr a 19 [(0,.slice ad l.length c),(1,.func (.func f) #[] us.toArray),(4,.int .i64 0),(7,.int .i64 l.length),(8,.int .i64 i)]∧U W w L) (l.length) (⟨0,⟨by simp,by simp,λj h=>by omega⟩,E.ab [0,1,4,7,8],I⟩) ?_;clear E I;rintro μ a w ⟨i,⟨rfl,hi,hp⟩,E,I⟩;refine IF 3 E I (λaj a E=>?_) λaj a E=>?_
 ·
  obtain⟨b,off,rfl,de⟩:=I.bY ad (by omega);have aJ:i<l.length:=by omega
  have hr:=de.part (i*2) 2;rw[CT l i aJ]at hr;refine RN 9 E I λa E=>?_;refine SS E (bT E underlying245 rfl Ty.t245 (hr)) λa E=>?_;refine CL 0 E I (hf _ l[i] I) (hf:=hc) λa w E I=>?_;refine IF 0 E I (λao a E=>?_) λao a E=>?_
  ·
   refine RT 3 E I ?_;exact⟨by rw[Ux p l i aJ (λj hj=>hp j hj (by omega)) ao],I⟩
  refine RN 2 E I λa E=>?_;exact⟨l.length-(i+1),by omega,i+1,⟨rfl,by omega,Uz hp (λ_=>ao)⟩,E.ab [0,1,4,7,8],I⟩
 refine RT 2 E I ?_;exact⟨by rw[Uy p l (λj hj=>hp j (by omega) hj)],I⟩
theorem UD {W w:World}{L R:List SP}{ad:Option Addr}{c f:Nat}{us:List Value}{l:List (Int×Int)}{p:Int×Int→Bool}(I:U W w L)[pk:fL L ad l.length c 245 2 (jc l) R]
   (hc:g4 prog f=true) (hf:vw W L f us p) (hl:l.length≤140737488355328) :
   Calls prog 209 #[.slice ad l.length c,.func (.func f) #[] us.toArray] w λe V=>e=.returned (.bool (l.any p))∧U W V L:=by
 refine EN func209 ntmps209 rfl rfl λa E=>?_;refine CL 5 E I (IG I hc hf hl) λa w E I=>?_;refine RT 2 E I ?_;exact⟨by rw[Uw],I⟩
def bI (q:Nat)(l:List (Int×Int)):SP:=λh=>∃ i:Option Addr×Nat,cm [aa q 243 [.slice i.1 l.length i.2],Sl 245 2 i.1 l.length i.2 (jc l)] h
theorem bI.open {W w:World}{L:List SP}{q:Nat}{l:List (Int×Int)}(I:U W w (bI q l::L)) :
   ∃ ad c,U W w (aa q 243 [.slice ad l.length c]::Sl 245 2 ad l.length c (jc l)::L):=by
 obtain⟨i,_,h⟩:=I.jo (p:=λ_=>True) (B:=λi:Option Addr×Nat=>cm [aa q 243 [.slice i.1 l.length i.2],Sl 245 2 i.1 l.length i.2 (jc l)]) (λ_ ⟨i,h⟩=>⟨i,trivial,h⟩);exact⟨i.1,i.2,h.open (λ_ x=>x)⟩
theorem bI.shut {W w:World}{L R R2:List SP}{q n c:Nat}{ad:Option Addr}{cs:List Value}{l:List (Int×Int)}(I:U W w L)[k:fC L q 243 [.slice ad n c] R][k2:fL R ad n c 245 2 cs R2]
   (hn:n=l.length) (hc:cs=jc l):U W w (bI q l::R2):=by
 subst hn;subst hc;have h1:=(I.perm k.perm).perm (List.Perm.cons _ k2.perm);exact U.shut (M:=[_,_]) h1 λ_ x=>⟨(ad,c),x⟩
theorem UE {W w:World}{L:List SP}(I:U W w L) :
   Calls prog 90 #[] w λe V=>∃ q,e=.returned (pt q)∧U W V (bI q []::L):=by
 refine EN func90 ntmps90 rfl rfl λa E=>?_;refine BX 4 E I λb2 a w E I=>?_;refine RT 1 E I ?_;exact⟨_,rfl,by
  have h1:=(I.bM 245 2 none);exact (bI.shut (q:=b2) (l:=[]) h1 rfl rfl).sub⟩
def p6 (l:List (Int×Int))(b:Int):Bool:=decide (l.length<16)&&!l.any (λy=>decide (y.1=b))
theorem zt {W w:World}{L:List SP}{q:Nat}{l:List (Int×Int)}{b e:Int}(I:U W w (bI q l::L))(hl:l.length≤16) :
   Calls prog 182 #[pt q,.agg #[.int .i64 b,.int .i64 e]] w λr V =>
    r=.returned (.bool (p6 l b))∧U W V (bI q (if p6 l b then l++[(b,e)] else l)::L):=by
 obtain⟨ad,c,I⟩:=bI.open I;refine EN func182 ntmps182 rfl rfl λa E=>?_;refine BX 1 E I λb3 a w E I=>?_;refine RN 6 E I λa E=>?_;replace E:=E.aN 7;refine BY 8 E I (λlz a E=>?_) λlz a E=>?_
 ·
  have hm:p6 l b=false:=by simp only[p6,Bool.and_eq_false_iff,decide_eq_false_iff_not];left;omega
  refine RT 10 E I ?_;exact⟨by rw[hm],by rw[hm,ae (by decide)];exact (bI.shut (q:=q) (ad:=ad) (l:=l) I rfl rfl).sub⟩
 refine CL 5 E I (UD I (by kernel_rfl) UA (by omega)) λa w E I=>?_;refine IF 1 E I (λaj a E=>?_) λaj a E=>?_
 ·
  have hm:p6 l b=false:=by simp only[p6,aj,Bool.not_true,Bool.and_false]
  refine RT 2 E I ?_;exact⟨by rw[hm],by rw[hm,ae (by decide)];exact (bI.shut (q:=q) (ad:=ad) (l:=l) I rfl rfl).sub⟩
 have hm:p6 l b=true:=by simp only[p6,aj,Bool.not_false,Bool.and_true,decide_eq_true_eq];omega
 refine bQ 1 [5,6] [0,1,2,3,3004,1005,1006,1007,8,9,1010] E I λa w E I hH hC=>?_;refine RH 6 E I hH hC λa E=>?_;refine cn E rfl I underlying241 Ty.t245 rfl rfl rfl rfl (by decide) (by decide) λUF a w E I ho=>?_;replace hC:=hC.trans ho;clear ho;refine RH 0 E I hH hC λa E=>?_;refine cI E rfl I underlying241 Ty.t245 rfl rfl I.ai rfl (by simp[Value.oneCell']) (by decide) (by decide) (by omega) λIH II a w E I=>?_;refine ST 2 E I (λa w E I=>?_);refine RT 2 E I ?_;exact⟨by rw[hm],by rw[hm,ak rfl];exact (bI.shut (q:=q) (l:=l++[(b,e)]) I (by simp) (by simp[IC,jc])).sub⟩
theorem UG {W w:World}{L:List SP}{q:Nat}(I:U W w (bI q []::L)) :
   Calls prog 180 #[pt q] w λr V =>
    r=.returned (.tuple #[.agg #[.int .i64 0,.int .i64 0],.bool false])∧U W V (bI q []::L):=by
 obtain⟨ad,c,I⟩:=bI.open I;refine EN func180 ntmps180 rfl rfl λa E=>?_;refine AL 1 E I λb2 a w E I=>?_;refine CL 4 E I (zr (a:=q) I) λa w E I=>?_;refine IF 1 E I (λaj a E=>?_) λaj a E=>?_
 ·
  skip
  refine SA 2 E I λa w E I=>?_;refine RT 1 E I ?_;exact⟨rfl,(bI.shut (q:=q) (ad:=ad) (l:=[]) I rfl rfl).sub⟩
 exact absurd rfl aj
theorem UH {W w:World}{L:List SP}{q:Nat}{x:Int×Int}{l:List (Int×Int)}(I:U W w (bI q (x::l)::L)) :
   Calls prog 180 #[pt q] w λr V =>
    r=.returned (.tuple #[.agg #[.int .i64 x.1,.int .i64 x.2],.bool true])∧U W V (bI q l::L):=by
 obtain⟨ad,c,I⟩:=bI.open I;have cg:=(I.sl ad).2;refine EN func180 ntmps180 rfl rfl λa E=>?_;refine AL 1 E I λb2 a w E I=>?_;refine CL 4 E I (zr (a:=q) I) λa w E I=>?_;refine IF 1 E I (λaj a E=>?_) λaj a E=>?_
 ·
  simp at aj;omega
 refine RN 1 E I λa E=>?_;obtain⟨b,off,rfl,de⟩:=I.bY ad (by simp);have hr:=de.part 0 2;rw[show 0=0*2 from rfl,CT (x::l) 0 (by simp)]at hr;refine SX 4 E I (by simp) λa E=>?_;refine RN 0 E I λa E=>?_;refine SS E (bT E underlying245 rfl Ty.t245 (hr)) λa E=>?_;refine AL 0 E I λb4 a w E I=>?_;refine SA 0 E I λa w E I=>?_;refine SX 6 E I (by simp) λa E=>?_;replace I:=I.BR (some ⟨b,off,none⟩) 1 (x::l).length (by simp) (bf _);refine ST 2 E I (λa w E I=>?_);refine SA 2 E I λa w E I=>?_;refine RT 1 E I ?_;exact⟨rfl,(bI.shut (q:=q) (l:=l) I (by simp) (by simp[jc];rw[fX];exact Nat.le_of_eq (o3 l))).sub⟩
def kept (p:Int×Int→Bool)(l:List (Int×Int)):List (Int×Int):=l.filter λx=>!p x
theorem CU (p:Int×Int→Bool)(l:List (Int×Int))(j:Nat)(h:j<l.length):kept p (l.take (j+1))=kept p (l.take j)++(if p l[j] then [] else [l[j]]):=by
 rw[iX h,kept,List.filter_append];cases hp:p l[j] <;> simp[kept,hp]
theorem IJ (p:Int×Int→Bool)(l:List (Int×Int))(h:fi p l = -1):kept p l=l:=by
 unfold fi at h;split at h
 ·omega
 ·rename_i h1;rw[List.findIdx_lt_length]at h1;exact List.filter_eq_self.2 λx hx=>by
   cases hp:p x with
   | false=>rfl
   | true=>exact absurd ⟨x,hx,hp⟩ h1
theorem UI (p:Int×Int→Bool)(l:List (Int×Int))(h:¬ fi p l = -1):∃ k:Nat,fi p l=(k:Int)∧k<l.length∧kept p (l.take (k+1))=l.take k:=by
 unfold fi at h ⊢;split at h
 ·rename_i h1;refine⟨l.findIdx p,by rw[ak h1],h1,?_⟩;rw[CU p l _ h1,List.findIdx_getElem (w:=h1),ak rfl,append_nil];refine List.filter_eq_self.2 λx hx=>?_;obtain⟨j,hj,rfl⟩:=List.mem_iff_getElem.1 hx;simp only[et]at hj;have:=List.not_of_lt_findIdx (p:=p) (xs:=l) (i:=j) (by omega);simp at this ⊢;exact this
 ·exact absurd rfl h
theorem UJ {pre post:List Value}(l:List (Int×Int))(i:Nat)(h:i<l.length):((pre++jc l++post).drop (pre.length+i*2)).take 2=[.int .i64 l[i].1,.int .i64 l[i].2]:=by
 rw[dv,← drop_drop,drop_left,List.drop_append_of_le_length (by rw[o3];omega),List.take_append_of_le_length (by simp[o3];omega)];exact CT l i h
theorem UK {pre post:List Value}(l:List (Int×Int))(i:Nat)(x:Int×Int)(h:i<l.length) :
   cB (pre++jc l++post) (pre.length+i*2) [.int .i64 x.1,.int .i64 x.2]=pre++jc (l.set i x)++post:=by
 have tJ:l.set i x=l.take i++x::l.drop (i+1):=by rw[set_eq_take_append_cons_drop,ak h]
 have e1:(pre++jc l++post).take (pre.length+i*2)=pre++jc (l.take i):=by
  rw[dv,take_append,fX (by omega),show pre.length+i*2-pre.length=i*2 from by omega,List.take_append_of_le_length (by rw[o3];omega),IE]
 have e2:(pre++jc l++post).drop (pre.length+i*2+2)=jc (l.drop (i+1))++post:=by
  rw[dv,Nat.add_assoc,← drop_drop,drop_left,show i*2+2=(i+1)*2 from by omega,List.drop_append_of_le_length (by rw[o3];omega),ID]
 rw[cB,e1];show _++_++(pre++jc l++post).drop (pre.length+i*2+2)=_;rw[e2,tJ,IC];simp[jc]
structure Dl (p:Int×Int→Bool)(l l':List (Int×Int))(i j:Nat):Prop where
 len:l'.length=l.length
 le:j≤l.length
 lt:i<j
 cJ:i=(kept p (l.take j)).length
 fst:l'.take i=kept p (l.take j)
 snd:l'.drop j=l.drop j
theorem Dl.get {p l l' i j}(d:Dl p l l' i j)(h:j<l.length):l'[j]'(by have:=d.len;omega)=l[j]:=by
 have h1:=d.snd;rw[ka (by have:=d.len;omega),ka h]at h1;exact (List.cons.inj h1).1
theorem Dl.ab {p l l' i j}(d:Dl p l l' i j)(h:j<l.length)(hp:p l[j]=false):Dl p l (l'.set i l[j]) (i+1) (j+1):=by
 have hi:i<l'.length:=by have:=d.len;have:=d.lt;omega
 have hk:=CU p l j h;rw[hp]at hk;refine⟨by simp[d.len],by omega,by have:=d.lt;omega,?_,?_,?_⟩
 ·rw[hk];simp[← d.cJ]
 ·rw[hk,← d.fst,set_eq_take_append_cons_drop,ak hi,take_append,fX (by simp;omega)];have:(l'.take i).length=i:=by simp;omega
  simp[this]
 ·have h1:=d.snd;rw[List.drop_set_of_lt (by have:=d.lt;omega)];have:=congrArg (List.drop 1) h1;simpa [drop_drop] using this
theorem Dl.skip {p l l' i j}(d:Dl p l l' i j)(h:j<l.length)(hp:p l[j]=true):Dl p l l' i (j+1):=by
 have hk:=CU p l j h;rw[hp]at hk;simp only[if_true,append_nil]at hk;refine⟨d.len,by omega,by have:=d.lt;omega,by rw[hk];exact d.cJ,by rw[hk];exact d.fst,?_⟩;have:=congrArg (List.drop 1) d.snd;simpa [drop_drop] using this
theorem UL {W w:World}{L:List SP}{ad:Option Addr}{c f:Nat}{us:List Value}{l:List (Int×Int)}{p:Int×Int→Bool}(I:U W w (Sl 245 2 ad l.length c (jc l)::L))
   (hc:g4 prog f=true) (hf:∀ A,vw W (A::L) f us p) (jr:∀ A B,vw W (A::B::L) f us p) (hl:l.length≤140737488355328) :
   Calls prog 321 #[.slice ad l.length c,.func (.func f) #[] us.toArray] w λe V =>
    ∃ av c',e=.returned (.slice av (kept p l).length c')∧U W V (Sl 245 2 av (kept p l).length c' (jc (kept p l))::L):=by
 refine EN func321 ntmps321 rfl rfl λa E=>?_;refine CL 5 E I (IG (p:=p) I hc (hf _) hl) λa w E I=>?_;refine IF 5 E I (λaj a E=>?_) λaj a E=>?_
 ·
  refine RT 3 E I ?_;exact⟨ad,c,by rw[IJ p l aj],by rw[IJ p l aj];exact I⟩
 obtain⟨k,hk,eH,jM⟩:=UI p l aj;rw[hk]at E;have cg:=(I.sl ad).2;have hA:=E;obtain⟨b,pre,post,⟨cZ,dT,rfl,a4⟩,j7⟩:=I.lv (by omega);have E:=hA;have I:=j7;refine RN 5 E I λa E=>?_;refine aR (λμ a w=>∃ i j:Nat,∃ l':List (Int×Int),(μ=l.length-j∧Dl p l l' i j)∧Fr a 42 [(0,.slice (some ⟨b,pre.length,none⟩) l.length c),(1,.func (.func f) #[] us.toArray),(4,.slice none 0 0),(5,.int .i64 i),(6,.int .i64 j)]∧U W w (aa b 245 (pre++jc l'++post)::L)) (l.length-(k+1)) (⟨k,k+1,l,⟨rfl,rfl,by omega,by omega,by rw[jM];simp;omega,by rw[jM],rfl⟩,E.ab [0,1,4,5,6],I⟩) ?_;clear E I;rintro μ a w ⟨i,j,l',⟨rfl,hd⟩,E,I⟩;have se:=hd.len;have kf:=hd.le;have hd3:=hd.lt;refine IF 6 E I (λao a E=>?_) λao a E=>?_
 ·
  have dG:j<l.length:=by omega
  have UM:=hd.get dG;have hr:Rd w b (pre.length+j*2) [.int .i64 l[j].1,.int .i64 l[j].2]:=by
   intro q v hq;rw[I.cell];have:=UJ (pre:=pre) (post:=post) l' j (by omega);rw[UM]at this;rw[← this]at hq;rw[getElem?_take]at hq;split at hq
   ·rw[getElem?_drop]at hq;exact hq
   ·cases hq
  refine RN 5 E I λa E=>?_;refine SS E (bT E underlying245 rfl Ty.t245 (hr)) λa E=>?_;refine AL 0 E I λdr a w E I=>?_;refine SA 0 E I λa w E I=>?_;refine CL 3 E I (jr _ _ _ l[j] I) (hf:=hc) λa w E I=>?_;refine IF 1 E I (λay a E=>?_) λay a E=>?_
  ·
   refine RN 5 E I λa E=>?_;refine qt E rfl I Ty.t245 (by simp[Value.oneCell']) (by simp[o3];omega) λa w E I=>?_;rw[UK l' i l[j] (by omega)]at I;refine RN 6 E I λa E=>?_;exact⟨l.length-(j+1),by omega,i+1,j+1,_,⟨rfl,hd.ab dG ay⟩,E.ab [0,1,4,5,6],I.sub⟩
  refine RN 3 E I λa E=>?_;exact⟨l.length-(j+1),by omega,i,j+1,l',⟨rfl,hd.skip dG ay⟩,E.ab [0,1,4,5,6],I.sub⟩
 obtain rfl:j=l.length:=by omega
 have w9:=hd.cJ;have IK:=hd.fst;rw[take_length]at w9 IK;refine RN 4 E I λa E=>?_;rw[oP (by omega)]at E;have hle:pre.length+i*2+(l.length-i)*2≤(pre++jc l'++post).length:=by simp only[aL,o3,se];omega
 refine Hn E rfl I underlying241 Ty.t245 rfl rfl hle λa w E I=>?_;refine RN 4 E I λa E=>?_;rw[oP (by omega)]at E;refine RT 1 E I ?_;refine⟨some ⟨b,pre.length+0*2,none⟩,c,by rw[w9];rfl,?_⟩;generalize hz:(Builtin.zeroCells (Value.cells (.agg #[.int .i64 0,.int .i64 0])) (l.length-i)).toList=zs at I;have iU:zs.length=(l.length-i)*2:=by rw[← hz];exact wQ 0 (aX:=0) rfl _
 have he:cB (pre++jc l'++post) (pre.length+i*2) zs=pre++jc (kept p l)++(zs++post):=by
  have e1:(pre++jc l'++post).take (pre.length+i*2)=pre++jc (kept p l):=by
   rw[dv,take_append,fX (by omega),show pre.length+i*2-pre.length=i*2 from by omega,List.take_append_of_le_length (by rw[o3];omega),IE,IK]
  have e2:(pre++jc l'++post).drop (pre.length+i*2+zs.length)=post:=by
   rw[iU,List.drop_append,List.drop_of_length_le (by simp only[aL,o3];omega),nil_append];simp only[aL,o3,se];have:pre.length+i*2+(l.length-i)*2-(pre.length+l.length*2)=0:=by omega
   rw[this,drop_zero]
  rw[cB,e1,e2];simp
 rw[he]at I;exact U.iG I (o3 _) (by omega) (by rw[← w9,aL,iU];omega)
theorem IL {W:World}{L R:List SP}{b t:Nat}{x:Int} [fC L b t [.int .i64 x] R] :
   vw W L 322 [pt b] (λy=>decide (y.2<x)):=by
 rintro w ⟨UB,UC⟩ I;refine EN func322 ntmps322 rfl rfl λa E=>?_;refine BX 1 E I λb2 a w E I=>?_;refine RT 7 E I ?_;exact⟨rfl,I.tail⟩
theorem UN {W w:World}{L:List SP}{q:Nat}{l:List (Int×Int)}{e:Int}(I:U W w (bI q l::L))(hl:l.length≤16) :
   Calls prog 307 #[pt q,.int .i64 e] w λr V =>
    r=.returned (.int .i64 ((l.length:Int)-(kept (λy=>decide (y.2<e)) l).length))∧U W V (bI q (kept (λy=>decide (y.2<e)) l)::L):=by
 obtain⟨ad,c,I⟩:=bI.open I;have hk:(kept (λy=>decide (y.2<e)) l).length≤l.length:=length_filter_le _ _;refine EN func307 ntmps307 rfl rfl λa E=>?_;refine BX 1 E I λb3 a w E I=>?_;refine CL 3 E I (zr (a:=q) I) λa w E I=>?_;refine RN 5 E I λa E=>?_;replace E:=E.ef 9;refine aY 7 E I (UL (I.pick (Sl 245 2 ad l.length c (jc l))) (by kernel_rfl) (p:=λy=>decide (y.2<e)) (λA=>IL) (λA B=>IL) (by omega)) λav c' a w E I=>?_;refine ST 2 E I (λa w E I=>?_);refine CL 3 E I (zr (a:=q) I) λa w E I=>?_;refine RT 2 E I ?_;exact⟨rfl,(bI.shut (q:=q) (ad:=av) (l:=kept (λy=>decide (y.2<e)) l) I rfl rfl).sub⟩
theorem UO {W w:World}{L:List SP}{q:Nat}{l:List (Int×Int)}(I:U W w (bI q l::L)) :
   Calls prog 180 #[pt q] w λr V =>
    r=.returned (.tuple #[.agg #[.int .i64 (l.headD (0,0)).1,.int .i64 (l.headD (0,0)).2],.bool (!l.isEmpty)])∧U W V (bI q l.tail::L):=by
 cases l with
 | nil=>exact UG I
 | cons x l=>exact UH I
class vx (L:List SP)(q:Nat)(l:outParam (List (Int×Int)))(R:outParam (List SP)):Prop where perm:L.Perm (bI q l::R)
instance vx.head {L q l}:vx (bI q l::L) q l L:=⟨List.Perm.refl _⟩
instance (priority:=low) vx.tail {A L q l R}[h:vx L q l R]:vx (A::L) q l (A::R):=⟨(List.Perm.cons A h.perm).trans (List.Perm.swap _ _ _)⟩
theorem U.tK {W w:World}{L R:List SP}{l:List (Int×Int)}(I:U W w L)(q:Nat)[k:vx L q l R]:U W w (bI q l::R):=I.perm k.perm
theorem IM {x:Int}:decide (x≠x)=false:=by simp
end
section
structure Wk where
 busy:Bool
 jb:Int
 je:Int
 x:Nat
 done:Nat
 l9:Bool
def kH:Wk:=⟨false,0,0,0,0,false⟩
abbrev Js:=List (Int×Int)
def lA (J:Js)(b e:Int):Js:=if p6 J b then J++[(b,e)] else J
inductive k5 (p:Pr)(A:Sn)(T:Tr)(J:Js)(k:Wk):Bool→Sn→Tr→Js→Wk→Prop
 | idle:k.busy=false→J=[]→k5 p A T J k false A T J k
 | xm {j:Int×Int} {J':Js}:k.busy=false→J=j::J'→(j.2≠T.epoch∨(∀ y∈T.l,(y.id:Int)≠j.1)∨∃ x∈T.l,(x.id:Int)=j.1∧x.al.length≤x.done)→k5 p A T J k true A T J' k
 | CV {j : Int × Int} {J' : Js} {i : Nat} {x : Br} {px : aC} : k.busy = false → J = j :: J' → j.2 = T.epoch → x ∈ T.l → (x.id : Int) = j.1 → x.done < x.al.length → A.au[i]? = some px → px.id = x.snap →
     k5 p A T J k true (A.add px.g px.p) T J' ⟨true,j.1,j.2,A.last+1,x.done,false⟩
 | gone:k.busy=true→(k.je≠T.epoch∨∀ y∈T.l,(y.id:Int)≠k.jb)→k5 p A T J k true (A.eu k.x) T J { k with busy:=false }
 | l9 {x : Br} {i : Nat} {px : aC} {p' : Nat → Nat} {b : List UInt8} : k.busy = true → k.je = T.epoch → x ∈ T.l → (x.id : Int) = k.jb → k.l9 = false → A.au[i]? = some px → px.id = k.x → x.al[k.done]? = some b →
     dM (eW p (x.frm+k.done) b px.g)→k5 p A T J k true { A with au:=A.au.set i ⟨px.id,px.refs,eW p (x.frm+k.done) b px.g,p'⟩ } T J { k with l9:=true }
 | failed {x:Br}:k.busy=true→k.je=T.epoch→x∈T.l→(x.id:Int)=k.jb→k.l9=false→¬ 4*A.au.length≤A.room→k5 p A T J k true (A.eu k.x) T (lA J k.jb k.je) { k with busy:=false }
 | ix {x : Br} {kk : Nat} : k.busy = true → k.je = T.epoch → T.l[kk]? = some x → (x.id : Int) = k.jb → k.l9 = true → x.done < k.done + 1 → k.done + 1 ≤ x.al.length →
     k5 p A T J k true (A.eu x.snap) (T.ix kk x (k.done+1) k.x) (if k.done+1<x.al.length then lA J k.jb k.je else J) { k with busy:=false }
 | lost {x:Br}:k.busy=true→k.je=T.epoch→x∈T.l→(x.id:Int)=k.jb→k.l9=true→k.done+1≤x.done→k5 p A T J k true (A.eu k.x) T (if x.done<x.al.length then lA J k.jb k.je else J) { k with busy:=false }
def ja (ws:List Wk):List Nat:=(ws.filter (·.busy)).map (·.x)
structure Inv (p:Pr)(F:Int)(g0:Nat→Int)(t:Nat→Nat)(base:Nat)(A:Sn)(T:Tr)(ws:List Wk):Prop where
 perm:(A.au.map (·.id)).Perm (base::(T.l.map (·.snap)++ja ws))
 au:∀ x∈A.au,x.refs=1∧dM x.g
 base:∀ x∈A.au,x.id=base→x.g=g0∧x.p=t
 fY:∀ y∈T.l,y.frm=F∧∀ x∈A.au,x.id=y.snap→x.g=foldI p F g0 (y.al.take y.done)
 k6:∀ k∈ws,k.jb≤T.last∧(k.busy=true→∀ y∈T.l,(y.id:Int)=k.jb→k.done<y.al.length∧∀ x∈A.au,x.id=k.x→x.g=foldI p F g0 (y.al.take (k.done+if k.l9 then 1 else 0)))
theorem jQ {α:Type}{f:α→Bool}{l:List α}{x:α}(h:x∈l.filter f):x∈l:=(List.mem_filter.1 h).1
theorem WF.n0 {A:Sn}(h:WF A):(A.au.map (·.id)).Nodup:=h.sorted.imp (λh=>Nat.ne_of_lt h)
theorem WT.same {T:Tr}(h:WT T){x y:Br}(hx:x∈T.l)(hy:y∈T.l)(he:x.id=y.id):x=y:=by
 obtain⟨i,hi⟩:=jN.1 hx;obtain⟨j,hj⟩:=jN.1 hy;obtain rfl:=h.unique hj hi he;rw[hi]at hj;cases hj;rfl
theorem UP {α:Type}{f:α→Nat}:∀ {l:List α} {i:Nat} (hd:(l.map f).Nodup) (hi:i<l.length),l.filter (λx=>f x != f l[i])=l.eraseIdx i:=by
 intro l
 induction l with
 | nil=>intro i _ hi;simp at hi
 | cons a l ih =>
  intro i hd hi;rw[map_cons,List.nodup_cons]at hd;cases i with
  | zero =>
   rw[List.getElem_cons_zero,List.filter_cons_of_neg (by simp),List.eraseIdx_cons_zero,List.filter_eq_self];intro y hy;simp only[bne_iff_ne,ne_eq];intro e;exact hd.1 (e ▸ c1.2 ⟨y,hy,rfl⟩)
  | succ i =>
   have u7:i<l.length:=by simpa using hi
   rw[List.getElem_cons_succ,List.filter_cons_of_pos,List.eraseIdx_cons_succ,ih hd.2 u7];simp only[bne_iff_ne,ne_eq];intro e;exact hd.1 (e ▸ c1.2 ⟨l[i],getElem_mem _,rfl⟩)
theorem zu {A:Sn}(hw:WF A)(hr:∀ x∈A.au,x.refs=1)(id:Nat):A.eu id={ A with au:=A.au.filter (λx=>x.id != id) }:=by
 by_cases h:∃ px∈A.au,px.id=id
 ·obtain⟨px,h1,rfl⟩:=h;obtain⟨i,hi⟩:=jN.1 h1;obtain⟨hl,he⟩:=a2.1 hi;have h2:=UP hw.n0 hl;rw[he]at h2;rw[xi hw hi,Sn.drop,ak (hr px h1),h2]
 ·rw[CO (λy hy e=>h ⟨y,hy,e⟩),List.filter_eq_self.2];intro y hy;simp only[bne_iff_ne,ne_eq];exact λe=>h ⟨y,hy,e⟩
theorem CW {a:Nat}{l L M:List Nat}(h1:l.Perm L)(h2:L.Perm (a::M))(n0:l.Nodup):(l.filter (· != a)).Perm M:=by
 have h3:=(h1.trans h2).filter (· != a);have h4:=(h1.trans h2).nodup_iff.1 n0;rw[List.nodup_cons]at h4;have h5:M.filter (· != a)=M:=List.filter_eq_self.2 (λy hy=>by simp only[bne_iff_ne,ne_eq];intro e;exact h4.1 (e ▸ hy));rw[List.filter_cons_of_neg (by simp),h5]at h3;exact h3
theorem CX (l:List aC)(id:Nat):(l.filter (λx=>x.id != id)).map (·.id)=(l.map (·.id)).filter (· != id):=by
 rw[List.filter_map];rfl
theorem vy {k:Wk}{ws:List Wk}(h:k.busy=true):ja (k::ws)=k.x::ja ws:=by rw[ja,List.filter_cons_of_pos h,map_cons];rfl
theorem CY {k:Wk}{ws:List Wk}(h:k.busy=false):ja (k::ws)=ja ws:=by rw[ja,List.filter_cons_of_neg (by simp[h])];rfl
theorem zw {k:Wk}{ws:List Wk}(h:k∈ws)(hb:k.busy=true):k.x∈ja ws:=c1.2 ⟨k,List.mem_filter.2 ⟨h,hb⟩,rfl⟩
theorem Inv.vz {p:Pr}{F:Int}{g0:Nat→Int}{t:Nat→Nat}{base:Nat}{A:Sn}{T:Tr}{ws IN:List Wk}(h:Inv p F g0 t base A T ws)(hp:ws.Perm IN):Inv p F g0 t base A T IN :=
 ⟨h.perm.trans ((((hp.filter _).map _).append_left _).cons _),h.au,h.base,h.fY,λk hk=>h.k6 k (hp.mem_iff.2 hk)⟩
section
variable {p:Pr}{F:Int}{g0:Nat→Int}{t:Nat→Nat}{base:Nat}{A A':Sn}{T T':Tr}{J J':Js}{ws:List Wk}{k k':Wk}{r:Bool}
theorem Inv.n0 (h:Inv p F g0 t base A T ws)(hA:WF A):(base::(T.l.map (·.snap)++ja ws)).Nodup:=h.perm.nodup_iff.1 hA.n0
theorem Inv.lZ (h:Inv p F g0 t base A T ws){id:Nat}(hm:id∈base::(T.l.map (·.snap)++ja ws)):∃ (i:Nat) (px:aC),A.au[i]?=some px∧px.id=id:=by
 obtain⟨px,h1,h2⟩:=c1.1 (h.perm.mem_iff.2 hm);obtain⟨i,hi⟩:=jN.1 h1;exact⟨i,px,hi,h2⟩
theorem Inv.IP (h:Inv p F g0 t base A T ws){x:Br}(hx:x∈T.l):∃ (i:Nat) (px:aC),A.au[i]?=some px∧px.id=x.snap :=
 h.lZ (gO _ (List.mem_append_left _ (c1.2 ⟨x,hx,rfl⟩)))
theorem Inv.UQ (h:Inv p F g0 t base A T ws)(hk:k∈ws)(hb:k.busy=true):∃ (i:Nat) (px:aC),A.au[i]?=some px∧px.id=k.x :=
 h.lZ (gO _ (List.mem_append_right _ (zw hk hb)))
theorem Inv.rest (h:Inv p F g0 t base A T (k::ws))(hA:WF A)(hb:k.busy=true)(hj:k'.busy=false)(hl:k'.jb=k.jb):Inv p F g0 t base (A.eu k.x) T (k'::ws):=by
 rw[zu hA (λx hx=>(h.au x hx).1)];refine⟨?_,λx hx=>h.au x (jQ hx),λx hx=>h.base x (jQ hx),λy hy=>⟨(h.fY y hy).1,λx hx=>(h.fY y hy).2 x (jQ hx)⟩,λk2 ch=>?_⟩
 ·simp only;rw[CX,CY hj];refine CW h.perm ?_ hA.n0;rw[vy hb];exact (List.Perm.cons _ perm_middle).trans (List.Perm.swap _ _ _)
 ·rcases List.mem_cons.1 ch with rfl | ch
  ·exact⟨by rw[hl];exact (h.k6 k (mem_cons_self ..)).1,λe=>by rw[hj]at e;cases e⟩
  ·refine⟨(h.k6 k2 (gO _ ch)).1,λe y hy bO=>?_⟩;obtain⟨h1,h2⟩:=(h.k6 k2 (gO _ ch)).2 e y hy bO;exact⟨h1,λx hx=>h2 x (jQ hx)⟩
theorem xn {A:Sn}(hA:WF A){i:Nat}{px v z:aC}(hi:A.au[i]?=some px)(hz:z∈A.au.set i v):z=v∨(z∈A.au∧z.id≠px.id):=by
 obtain⟨j,hj⟩:=jN.1 hz;rw[jF]at hj;split at hj
 ·split at hj
  ·cases hj;exact .inl rfl
  ·cases hj
 ·rename_i bN;exact .inr ⟨bK hj,λe=>bN (hA.ids hi hj e.symm)⟩
theorem Inv.bit (h:Inv p F g0 t base A T (k::ws))(hA:WF A)(hT:WT T)(hb:k5 p A T J k r A' T' J' k'):Inv p F g0 t base A' T' (k'::ws):=by
 cases hb with
 | idle=>exact h
 | xm=>exact h
 | @CV j J' i x px h1 h2 h3 h4 h5 h6 h7 h8 =>
  have tL:∀ z∈A.au,z.id≠A.last+1:=λz hz e=>by have:=(hA.lZ z hz).2.1;omega
  have g9:=bK h7;have hlt:∀ id∈base::(T.l.map (·.snap)++ja (k::ws)),id≠A.last+1:=λid bO e=>by
   obtain⟨z,hz,he⟩:=c1.1 (h.perm.mem_iff.2 bO);exact tL z hz (by rw[he,e])
  refine⟨?_,λz hz=>?_,λz hz he=>?_,λy hy=>⟨(h.fY y hy).1,λz hz he=>?_⟩,λk2 ch=>?_⟩
  ·simp only[Sn.add,cQ,map_cons,map_nil];rw[vy rfl];have hp:=h.perm;rw[CY h1]at hp;refine (hp.append_right _).trans ((List.perm_append_singleton _ _).trans ?_);exact (List.Perm.swap _ _ _).trans (List.Perm.cons _ perm_middle.symm)
  ·simp only[Sn.add]at hz;rcases eM.1 hz with hz | hz
   ·exact h.au z hz
   ·simp at hz;subst hz;exact⟨rfl,(h.au px g9).2⟩
  ·simp only[Sn.add]at hz;rcases eM.1 hz with hz | hz
   ·exact h.base z hz he
   ·simp at hz;subst hz;exact absurd he.symm (hlt base (mem_cons_self ..))
  ·simp only[Sn.add]at hz;rcases eM.1 hz with hz | hz
   ·exact (h.fY y hy).2 z hz he
   ·simp at hz;subst hz;exact absurd he.symm (hlt y.snap (gO _ (List.mem_append_left _ (c1.2 ⟨y,hy,rfl⟩))))
  ·rcases List.mem_cons.1 ch with rfl | ch
   ·refine⟨?_,λ_ y hy bO=>?_⟩
    ·have:=(hT.ok x h4).2.2.2;simp only;omega
    ·obtain rfl:y=x:=hT.same hy h4 (by simp only at bO;omega);refine⟨h6,λz hz he=>?_⟩;simp only[Sn.add]at hz;rcases eM.1 hz with hz | hz
     ·exact absurd he (tL z hz)
     ·simp at hz;subst hz;exact (h.fY y hy).2 px g9 h8
   ·refine⟨(h.k6 k2 (gO _ ch)).1,λe y hy bO=>?_⟩;obtain⟨h9,fF⟩:=(h.k6 k2 (gO _ ch)).2 e y hy bO;refine⟨h9,λz hz he=>?_⟩;simp only[Sn.add]at hz;rcases eM.1 hz with hz | hz
    ·exact fF z hz he
    ·simp at hz;subst hz;exact absurd he.symm (hlt k2.x (gO _ (List.mem_append_right _ (zw (gO _ ch) e))))
 | gone h1 h2=>exact h.rest hA h1 rfl rfl
 | failed h1=>exact h.rest hA h1 rfl rfl
 | lost h1=>exact h.rest hA h1 rfl rfl
 | @l9 x i px p' b h1 h2 h3 h4 h5 h6 h7 h8 h9 =>
  have g9:=bK h6;have CZ:=h.n0 hA;rw[vy h1]at CZ;have C0:(base::(T.l.map (·.snap)++k.x::ja ws)).Perm (k.x::(base::(T.l.map (·.snap)++ja ws))):=(List.Perm.cons _ perm_middle).trans (List.Perm.swap _ _ _);have bU:=(List.nodup_cons.1 (C0.nodup_iff.1 CZ)).1;have UR:(A.au.set i ⟨px.id,px.refs,eW p (x.frm+k.done) b px.g,p'⟩).map (·.id)=A.au.map (·.id):=H4 h6 rfl;refine⟨?_,λz hz=>?_,λz hz he=>?_,λy hy=>⟨(h.fY y hy).1,λz hz he=>?_⟩,λk2 ch=>?_⟩
  ·simp only;rw[UR,vy (by exact h1)];have hp:=h.perm;rw[vy h1]at hp;exact hp
  ·rcases xn hA h6 hz with rfl | hz
   ·exact⟨(h.au px g9).1,h9⟩
   ·exact h.au z hz.1
  ·rcases xn hA h6 hz with rfl | hz
   ·exact absurd (List.mem_cons.2 (.inl (by simp only at he;rw[← he,h7]))) bU
   ·exact h.base z hz.1 he
  ·rcases xn hA h6 hz with rfl | hz
   ·refine absurd (gO _ (List.mem_append_left _ (c1.2 ⟨y,hy,?_⟩))) bU;simp only at he;rw[← he,h7]
   ·exact (h.fY y hy).2 z hz.1 he
  ·rcases List.mem_cons.1 ch with rfl | ch
   ·have hk:=h.k6 k (mem_cons_self ..);refine⟨hk.1,λ_ y hy bO=>?_⟩;obtain rfl:y=x:=hT.same hy h3 (by simp only at bO;omega);obtain⟨fF,mO⟩:=hk.2 h1 y hy h4;refine⟨fF,λz hz he=>?_⟩;rcases xn hA h6 hz with rfl | hz
    ·have Cl:=mO px g9 h7;rw[h5]at Cl;have IQ:y.al.take (k.done+1)=y.al.take k.done++[b]:=by
      rw[List.take_add_one,h8];rfl
     show eW p (y.frm+k.done) b px.g=foldI p F g0 (y.al.take (k.done+1));rw[IQ,CR,et,Nat.min_eq_left (by omega),(h.fY y hy).1,Cl];simp
    ·simp only at he;exact absurd (by rw[he,h7]) hz.2
   ·have hk:=h.k6 k2 (gO _ ch);refine⟨hk.1,λe y hy bO=>?_⟩;obtain⟨fF,mO⟩:=hk.2 e y hy bO;refine⟨fF,λz hz he=>?_⟩;rcases xn hA h6 hz with rfl | hz
    ·refine absurd (gO _ (List.mem_append_right _ ?_)) bU;simp only at he;rw[← h7,he];exact zw ch e
    ·exact mO z hz.1 he
 | @ix x kk h1 h2 h3 h4 h5 h6 h7 =>
  rw[zu hA (λx hx=>(h.au x hx).1)];have hx:=bK h3;obtain⟨eH,xp⟩:=a2.1 h3;have hk:=h.k6 k (mem_cons_self ..);refine⟨?_,λz hz=>h.au z (jQ hz),λz hz=>h.base z (jQ hz),λy hy=>?_,λk2 ch=>?_⟩
  ·simp only[Tr.ix];rw[CX,CY (by rfl)];refine CW h.perm ?_ hA.n0;rw[vy h1];have e1:(T.l.map (·.snap)).Perm (x.snap::(T.l.eraseIdx kk).map (·.snap)):=by
    have:=(rN T.l eH).map (·.snap);rw[map_cons,xp]at this;exact this
   have e2:((T.l.set kk { x with done:=k.done+1,snap:=k.x }).map (·.snap)).Perm (k.x::(T.l.eraseIdx kk).map (·.snap)):=by
    have:=(rN (T.l.set kk { x with done:=k.done+1,snap:=k.x }) (by simpa using eH)).map (·.snap);rw[map_cons,getElem_set_self,eraseIdx_set_eq]at this;exact this
   have e3:(base::(T.l.map (·.snap)++k.x::ja ws)).Perm (base::(x.snap::((T.l.eraseIdx kk).map (·.snap)++k.x::ja ws))):=(e1.append_right _).cons _;refine e3.trans ((List.Perm.swap _ _ _).trans (List.Perm.cons _ (List.Perm.cons _ ?_)));exact perm_middle.trans (e2.append_right _).symm
  ·simp only[Tr.ix]at hy;rcases mem_or_eq_of_mem_set hy with hy | rfl
   ·exact⟨(h.fY y hy).1,λz hz=>(h.fY y hy).2 z (jQ hz)⟩
   ·refine⟨(h.fY x hx).1,λz hz he=>?_⟩;have:=(hk.2 h1 x hx h4).2 z (jQ hz) he;rw[h5]at this;exact this
  ·have xq : ∀ y ∈ (T.ix kk x (k.done + 1) k.x).l, ∃ zx ∈ T.l, zx.id = y.id ∧ zx.al = y.al := fun y hy => by
    simp only[Tr.ix]at hy;rcases mem_or_eq_of_mem_set hy with hy | rfl
    ·exact⟨y,hy,rfl,rfl⟩
    ·exact⟨x,hx,rfl,rfl⟩
   rcases List.mem_cons.1 ch with rfl | ch
   ·exact⟨hk.1,λe=>by cases e⟩
   ·have mL:=h.k6 k2 (gO _ ch);refine⟨mL.1,λe y hy bO=>?_⟩;obtain⟨zx,US,e1,e2⟩:=xq y hy;obtain⟨fF,mO⟩:=mL.2 e zx US (by rw[e1];exact bO);rw[e2]at fF mO;exact⟨fF,λz hz=>mO z (jQ hz)⟩
theorem zy {b e:Int}(h:J.length≤16):(lA J b e).length≤16:=by
 unfold lA;split
 ·rename_i h1;simp only[p6,fB,decide_eq_true_eq]at h1;simp;omega
 ·exact h
theorem n1 (A:Sn)(id:Nat):(A.eu id).room=A.room∧(A.eu id).n=A.n∧(A.eu id).last=A.last:=by
 unfold Sn.eu;split
 ·split
  ·simp[Sn.drop]
  ·exact⟨rfl,rfl,rfl⟩
 ·exact⟨rfl,rfl,rfl⟩
structure zA (A:Sn)(T:Tr)(J:Js)(A':Sn)(T':Tr)(J':Js):Prop where
 room:A'.room=A.room
 n:A'.n≤A.n+1
 most:T'.most=T.most
 last:T'.last=T.last
 epoch:T'.epoch=T.epoch
 l:T'.l.map (λy=>(y.id,y.al))=T.l.map (λy=>(y.id,y.al))
 len:J.length≤16→J'.length≤16
theorem k5.UT (hb:k5 p A T J k r A' T' J' k'):zA A T J A' T' J':=by
 cases hb with
 | idle=>exact⟨rfl,by omega,rfl,rfl,rfl,rfl,λh=>h⟩
 | xm h1 h2=>exact⟨rfl,by omega,rfl,rfl,rfl,rfl,λh=>by rw[h2,e7]at h;omega⟩
 | CV h1 h2=>exact⟨rfl,by simp[Sn.add],rfl,rfl,rfl,rfl,λh=>by rw[h2,e7]at h;omega⟩
 | gone=>exact⟨(n1 A _).1,by rw[(n1 A _).2.1];omega,rfl,rfl,rfl,rfl,λh=>h⟩
 | l9=>exact⟨rfl,by simp,rfl,rfl,rfl,rfl,λh=>h⟩
 | failed=>exact⟨(n1 A _).1,by rw[(n1 A _).2.1];omega,rfl,rfl,rfl,rfl,zy⟩
 | lost=>exact⟨(n1 A _).1,by rw[(n1 A _).2.1];omega,rfl,rfl,rfl,rfl,λh=>by split <;> first | exact zy h | exact h⟩
 | @ix x kk h1 h2 h3 =>
  refine⟨(n1 A _).1,by rw[(n1 A _).2.1];omega,rfl,rfl,rfl,?_,λh=>by split <;> first | exact zy h | exact h⟩;obtain⟨eH,xp⟩:=a2.1 h3;simp only[Tr.ix];apply ext_getElem?;intro j;simp only[bm,jF];by_cases hj:kk=j
  ·subst hj;simp[eH,xp]
  ·rw[ae hj]
end
end
section
theorem UU {α:Type}{f:α→Nat}:∀ {l:List α},(l.map f).Nodup→∀ {x y:α},x∈l→y∈l→f x=f y→x=y:=by
 intro l
 induction l with
 | nil=>intro _ x y hx;cases hx
 | cons a l ih =>
  intro hd x y hx hy he;rw[map_cons,List.nodup_cons]at hd;rcases List.mem_cons.1 hx with tM | hx
  ·rcases List.mem_cons.1 hy with C1 | hy
   ·rw[tM,C1]
   ·exact absurd (c1.2 ⟨y,hy,by rw[← he,tM]⟩) hd.1
  ·rcases List.mem_cons.1 hy with C1 | hy
   ·exact absurd (c1.2 ⟨x,hx,by rw[he,C1]⟩) hd.1
   ·exact ih hd.2 hx hy he
theorem WF.eu {A:Sn}(hw:WF A)(hr:∀ x∈A.au,x.refs=1)(id:Nat):WF (A.eu id):=by
 by_cases h:∃ px∈A.au,px.id=id
 ·obtain⟨px,h1,rfl⟩:=h;obtain⟨i,hi⟩:=jN.1 h1;rw[xi hw hi,Sn.drop,ak (hr px h1)];exact hw.erase i
 ·rw[CO (λy hy e=>h ⟨y,hy,e⟩)];exact hw
theorem UW:∀ (l:List Br) {A:Sn},WF A→(∀ x∈A.au,x.refs=1)→A.gH l={ A with au:=A.au.filter (λx=>!(l.map (·.snap)).contains x.id) }:=by
 intro l
 induction l with
 | nil =>
  intro A hw hr;have:A.au.filter (λx=>!(([]:List Br).map (·.snap)).contains x.id)=A.au:=List.filter_eq_self.2 λx _=>rfl;rw[this];rfl
 | cons y l ih =>
  intro A hw hr;have h1:A.gH (y::l)=(A.eu y.snap).gH l:=rfl;have h2:=zu hw hr y.snap;have h3:∀ x∈(A.eu y.snap).au,x.refs=1:=by rw[h2];exact λx hx=>hr x (jQ hx)
  rw[h1,ih (hw.eu hr _) h3,h2];simp only[List.filter_filter]
  congr 1
  refine List.filter_congr λx _=>?_;simp only[map_cons,List.contains_cons,Bool.not_or];rw[Bool.and_comm];rfl
theorem UX {base:Nat}{l:List Br}{f:Br→Bool}{H M:List Nat}(hp:M.Perm (base::(l.map (·.snap)++H)))(n0:M.Nodup) :
   (M.filter (λid=>!((l.filter f).map (·.snap)).contains id)).Perm (base::((l.filter (λx=>!f x)).map (·.snap)++H)):=by
 have h1:=hp.nodup_iff.1 n0;have h2:=hp.filter (λid=>!((l.filter f).map (·.snap)).contains id);have h3:=List.nodup_cons.1 h1;have h4:=List.nodup_append.1 h3.2;have xr:∀ id,id∈(l.filter f).map (·.snap)→id∈l.map (·.snap):=λid h=>by
  obtain⟨y,hy,rfl⟩:=c1.1 h;exact c1.2 ⟨y,jQ hy,rfl⟩
 have hb:(!((l.filter f).map (·.snap)).contains base)=true:=by
  simp only[Bool.not_eq_true',List.contains_eq_mem,decide_eq_false_iff_not];exact λh=>h3.1 (List.mem_append_left _ (xr _ h))
 have hH:H.filter (λid=>!((l.filter f).map (·.snap)).contains id)=H:=List.filter_eq_self.2 λz hz=>by
  simp only[Bool.not_eq_true',List.contains_eq_mem,decide_eq_false_iff_not];exact λh=>h4.2.2 z (xr _ h) z hz rfl
 have hl:(l.map (·.snap)).filter (λid=>!((l.filter f).map (·.snap)).contains id)=(l.filter (λx=>!f x)).map (·.snap):=by
  rw[List.filter_map]
  congr 1
  refine List.filter_congr λy hy=>?_;simp only[Function.comp]
  congr 1
  cases hf:f y with
  | true =>
   simp only[List.contains_eq_mem,decide_eq_true_eq];exact c1.2 ⟨y,List.mem_filter.2 ⟨hy,hf⟩,rfl⟩
  | false =>
   simp only[List.contains_eq_mem,decide_eq_false_iff_not];intro h;obtain⟨z,hz,he⟩:=c1.1 h;obtain⟨c0,eL⟩:=List.mem_filter.1 hz;have:=UU h4.1 c0 hy he;rw[this,hf]at eL;cases eL
 rw[List.filter_cons,ak hb,List.filter_append,hl,hH]at h2;exact h2
section
variable {p:Pr}{F:Int}{g0:Nat→Int}{t:Nat→Nat}{base:Nat}{A:Sn}{T:Tr}{ws:List Wk}{k:Wk}{px:aC}{P:List (List UInt8)}{i:Nat}
theorem Inv.cut (h:Inv p F g0 t base A T ws)(hA:WF A)(f:Br→Bool):Inv p F g0 t base (A.gH (T.l.filter f)) (T.cut f) ws:=by
 rw[UW _ hA (λx hx=>(h.au x hx).1)];refine⟨?_,λx hx=>h.au x (jQ hx),λx hx=>h.base x (jQ hx),λy hy=>⟨(h.fY y (jQ hy)).1,λx hx=>(h.fY y (jQ hy)).2 x (jQ hx)⟩,λk hk=>⟨(h.k6 k hk).1,λe y hy bO=>?_⟩⟩
 ·simp only[Tr.cut];have h1:=UX (f:=f) h.perm hA.n0;have h2:(A.au.filter (λx=>!((T.l.filter f).map (·.snap)).contains x.id)).map (·.id)=(A.au.map (·.id)).filter (λid=>!((T.l.filter f).map (·.snap)).contains id):=by
   rw[List.filter_map];rfl
  rw[h2];exact h1
 ·obtain⟨h1,h2⟩:=(h.k6 k hk).2 e y (jQ hy) bO;exact⟨h1,λx hx=>h2 x (jQ hx)⟩
theorem Inv.UY (h:Inv p F g0 t base A T ws)(hA:WF A)(hT:WT T)(hi:A.au[i]?=some px)(hb:px.id=base):Inv p F g0 t base (A.add px.g px.p) (T.add F P (A.last+1)) ws:=by
 have g9:=bK hi;have tL:∀ z∈A.au,z.id≠A.last+1:=λz hz e=>by have:=(hA.lZ z hz).2.1;omega
 have hlt:∀ id∈base::(T.l.map (·.snap)++ja ws),id≠A.last+1:=λid bO e=>by
  obtain⟨z,hz,he⟩:=c1.1 (h.perm.mem_iff.2 bO);exact tL z hz (by rw[he,e])
 have cD:∀ z∈(A.add px.g px.p).au,z∈A.au∨z=⟨A.last+1,1,px.g,px.p⟩:=λz hz=>by
  simp only[Sn.add]at hz;rcases eM.1 hz with hz | hz
  ·exact .inl hz
  ·simp at hz;exact .inr hz
 refine⟨?_,λz hz=>?_,λz hz he=>?_,λy hy=>?_,λk hk=>⟨?_,λe y hy bO=>?_⟩⟩
 ·simp only[Sn.add,Tr.add,cQ,map_cons,map_nil];refine (h.perm.append_right _).trans ((List.perm_append_singleton _ _).trans ((List.Perm.swap _ _ _).trans (List.Perm.cons _ ?_)));rw[dv];exact perm_middle.symm
 ·rcases cD z hz with hz | rfl
  ·exact h.au z hz
  ·exact⟨rfl,(h.au px g9).2⟩
 ·rcases cD z hz with hz | rfl
  ·exact h.base z hz he
  ·exact absurd he.symm (hlt base (mem_cons_self ..))
 ·simp only[Tr.add]at hy;rcases eM.1 hy with hy | hy
  ·refine⟨(h.fY y hy).1,λz hz he=>?_⟩;rcases cD z hz with hz | rfl
   ·exact (h.fY y hy).2 z hz he
   ·exact absurd he.symm (hlt y.snap (gO _ (List.mem_append_left _ (c1.2 ⟨y,hy,rfl⟩))))
  ·simp at hy;subst hy;refine⟨rfl,λz hz he=>?_⟩;rcases cD z hz with hz | rfl
   ·exact absurd he (tL z hz)
   ·exact (h.base px g9 hb).1
 ·have:=(h.k6 k hk).1;simp only[Tr.add];omega
 ·have gU:=(h.k6 k hk).1;simp only[Tr.add]at hy;rcases eM.1 hy with hy | hy
  ·obtain⟨h1,h2⟩:=(h.k6 k hk).2 e y hy bO;refine⟨h1,λz hz he=>?_⟩;rcases cD z hz with hz | rfl
   ·exact h2 z hz he
   ·exact absurd he.symm (hlt k.x (gO _ (List.mem_append_right _ (zw hk e))))
  ·simp at hy;subst hy;simp only at bO;omega
theorem Inv.len (h:Inv p F g0 t base A T ws):A.au.length=1+T.l.length+(ja ws).length:=by
 have:=h.perm.length_eq;simp only[bd,e7,aL]at this;omega
end
end
section
section
variable {P:Program}{ops:Array Oper}{Q:Exit→Act→World→Prop}{a:Act}{w V W:World}{K:Act→World→Prop}{n d:Nat}{l:List (Nat×Value)}{v:Value}{L R:List SP}
theorem UZ {t u ty e:TypeId}{k c aX:Nat}{z:Value}{ad:Option Addr}{cs:List Value}(ht:P.underlying t=some (.slice e))(hu:P.underlying u=some .string)(hi:TI P e z 1 aX)(hz:z.cells.size=1)(s:U W w (Sl e 1 ad k c cs::L))
   (hc:0<c) (str:ByteArray) (hb:0<aX) (aE:(k+str.size)*aX≤140737488355328) :
   ∃ av c' V,(Builtin.append_ #[t,u] ty #[.slice ad k c,.string str]).run P w=.ok (.slice av (k+str.size) c') V∧U W V (Sl e 1 av (k+str.size) c' (cs++bc str.data.toList)::L):=by
 obtain⟨i,kX,dF,kx,pR⟩:=info_parts hi.h;have pS:=s.sl ad;have zB:(bc str.data.toList).length=str.size:=Lib.strCells_length str;obtain⟨b,pre,post,⟨cZ,dT,rfl,a4⟩,s2⟩:=s.lv hc;by_cases nf:k+str.size≤c
 ·have eB:(c-k)*1 ≥ str.size:=by omega
  have hf:=Lib.run_firstCells_string (P:=P) w 1 str;have aQ:=run_storeCells_at (P:=P) b (pre.length+k) e (bc str.data.toList) 0 (pre++cs++post).toArray w s2.has.2 (by simp[zB];omega) (ep _);have e1:(pre++cs++post).take (pre.length+k)=pre++cs:=by
   have:pre.length+k=(pre++cs).length:=by simp;omega
   rw[this,List.take_left]
  have e2:(pre++cs++post).drop (pre.length+k+0+(bc str.data.toList).length)=post.drop str.size:=by
   have:pre.length+k=(pre++cs).length:=by simp;omega
   rw[this,Nat.add_zero,zB,← drop_drop,drop_left]
  refine⟨some ⟨b,pre.length,none⟩,c,w.setRow b (pre++(cs++bc str.data.toList)++post.drop str.size).toArray,?_,?_⟩
  ·have qv:(storeCells ⟨b,pre.length+k,none⟩ (bc str.data.toList) 0).run P w=.ok () (w.setRow b (((pre++cs++post).take (pre.length+k)++bc str.data.toList)++(pre++cs++post).drop (pre.length+k+0+(bc str.data.toList).length)).toArray):=aQ;rw[e1,e2]at qv;have jr:(Builtin.firstCells 1 str.size (.string str)).run P w=.ok (bc str.data.toList).toArray w:=hf;simp[Builtin.append_,eK ht,eK hu,sizeOf,typeInfo,kX,Builtin.lenOf,nf,kv,kx,jr,qv,dv]
  ·exact U.iG (pre:=pre) (post:=post.drop str.size) s2.setRow (by simp[zB];omega) (by omega) (by simp;omega)
 ·have O4:k+str.size≤140737488355328:=gN (Nat.le_mul_of_pos_right _ hb) aE;have ng:=grownCap_ge w (k+str.size) c e;have O5:(Builtin.zeroCells z.cells (grownCap w (k+str.size) c e-(k+str.size))).toList.length=(grownCap w (k+str.size) c e-(k+str.size))*1:=wQ e (aX:=aX) hz _;have holds:∀ j v,cs[j]?=some v→w.cell? ((⟨b,pre.length,none⟩:Addr).add j)=some v:=by
   intro j v hj;rw[kv,s2.cell];have:j<cs.length:=(a2.1 hj).1;rw[lS (by simp;omega),getElem?_append_right (by omega)];simpa using hj
  have e6:Builtin.nextslicecap (k+str.size) c*i.bytes≤281474976710656:=by rw[pR];exact growslice_fits (by omega) aE
  have hr:=Lib.run_append_grow_string (P:=P) w t u ty e i z ht hu kX dF ⟨b,pre.length,none⟩ k c cs (by rw[kx];exact cZ) holds str (by omega) (by omega) e6;refine⟨_,_,_,hr,?_⟩;have u3:=(s.tail.drew).alloc (.cells (cs.toArray++(bc str.data.toList).toArray++Builtin.zeroCells z.cells (grownCap w (k+str.size) c e-(k+str.size))) e)
  have BQ : U W (w.drew.alloc (.cells (cs.toArray ++ (bc str.data.toList).toArray ++ Builtin.zeroCells z.cells (grownCap w (k + str.size) c e - (k + str.size))) e))
      (aa w.heap.size e ([]++(cs++bc str.data.toList)++(Builtin.zeroCells z.cells (grownCap w (k+str.size) c e-(k+str.size))).toList)::L):=by
   have:(cs.toArray++(bc str.data.toList).toArray++Builtin.zeroCells z.cells (grownCap w (k+str.size) c e-(k+str.size)))=([]++(cs++bc str.data.toList)++(Builtin.zeroCells z.cells (grownCap w (k+str.size) c e-(k+str.size))).toList).toArray:=by
    apply Array.ext';simp
   rw[this]at u3 ⊢;exact u3
  exact U.iG (pre:=[]) BQ (by simp[zB];omega) ng (by omega)
theorem U1 {s x t u z aX str e ad k c ty ps af g}{cs:List Value}(E:Fr a n l)(hw:Region.wanted ⟨some d,.call ⟨.builtin .append,#[s,x],#[t,u]⟩,ty,ps,af,g⟩ (yielded ops a.tmps)=true)(I:U W w L)
   (ht:P.underlying t=some (.slice e)) (hu:P.underlying u=some .string) (hi:TI P e z 1 aX) (hz:z.cells.size=1) (hf:okB d n l=true)
   [e1:Ev l s (.slice ad k c)] [pk:fL L ad k c e 1 cs R] [e2:Ev l x (.string str)] (hc:0<c) (hb:0<aX) (aE:(k+str.size)*aX≤140737488355328)
   (h:∀ av c' a' V,Fr a' n ((d,.slice av (k+str.size) c')::l)→U W V (Sl e 1 av (k+str.size) c' (cs++bc str.data.toList)::R)→K a' V) :
   cH P ops Q ⟨some d,.call ⟨.builtin .append,#[s,x],#[t,u]⟩,ty,ps,af,g⟩ K a w:=by
 obtain⟨av,c',V,h2,h3⟩:=UZ (P:=P) (ty:=ty) ht hu hi hz (I.perm pk.perm) hc str hb aE;exact bE E hw (by simp[execOp,resolve,e1.ev a n E,e2.ev a n E,invoke,builtin,h2]) hf λa' dc=>h _ _ a' _ dc h3
end
theorem wrap_u64 (x:Int):IntKind.u64.wrap x=x%18446744073709551616:=by simp[IntKind.wrap,IntKind.signed,IntKind.bits]
theorem wrap_u32 (x:Int):IntKind.u32.wrap x=x%4294967296:=by simp[IntKind.wrap,IntKind.signed,IntKind.bits]
theorem wrap_u8 (x:Int):IntKind.u8.wrap x=x%256:=by simp[IntKind.wrap,IntKind.signed,IntKind.bits]
theorem IS {x:Nat}(h:x<18446744073709551616):IntKind.u64.wrap ((BitVec.ofInt IntKind.u64.bits (if IntKind.u64.signed then -1 else IntKind.u64.max) ^^^ BitVec.ofInt IntKind.u64.bits (x:Int)).toNat)=((18446744073709551615-x:Nat):Int):=by
 have e:BitVec.ofInt IntKind.u64.bits (if IntKind.u64.signed then -1 else IntKind.u64.max)=BitVec.allOnes 64:=by
  show BitVec.ofInt 64 IntKind.u64.max=_;decide
 rw[e];have e2:BitVec.ofInt IntKind.u64.bits (x:Int)=BitVec.ofNat 64 x:=by
  show BitVec.ofInt 64 (x:Int)=_;exact BitVec.ofInt_natCast 64 x
 rw[e2];show IntKind.u64.wrap (((BitVec.allOnes 64 ^^^ BitVec.ofNat 64 x).toNat:Nat):Int)=_;rw[BitVec.allOnes_xor,BitVec.toNat_not,BitVec.toNat_ofNat,wrap_u64];rw[Nat.mod_eq_of_lt (show x<2 ^ 64 from h)];omega
theorem U6 {x:Nat}(h:x<256):IntKind.u8.wrap ((BitVec.ofInt IntKind.u8.bits (x:Int) ||| BitVec.ofInt IntKind.u8.bits 128).toNat)=((x%128+128:Nat):Int):=by
 have:∀ y:Fin 256,IntKind.u8.wrap ((BitVec.ofInt IntKind.u8.bits ((y.val:Nat):Int) ||| BitVec.ofInt IntKind.u8.bits 128).toNat)=((y.val%128+128:Nat):Int):=by decide +kernel
 exact this ⟨x,h⟩
theorem kI (x j:Nat):(x:Int).fdiv (j:Int)=((x/j:Nat):Int):=by
 rw[Int.natCast_ediv,Int.fdiv_eq_ediv_of_nonneg _ (by omega)]
def aO (u:Nat):List UInt8:=if h:u≤127 then [UInt8.ofNat u] else UInt8.ofNat (u%128+128)::aO (u/128)
termination_by u
decreasing_by omega
theorem p7 {u:Nat}(h:u≤127):aO u=[UInt8.ofNat u]:=by rw[aO,dif_pos h]
theorem vA {u:Nat}(h:¬ u≤127):aO u=UInt8.ofNat (u%128+128)::aO (u/128):=by rw[aO,dif_neg h]
theorem qR (u:Nat):1≤(aO u).length:=by
 rw[aO];split <;> simp
theorem p8:∀ (k u:Nat),u<128 ^ (k+1)→(aO u).length≤k+1
 | 0,u,h=>by rw[p7 (by simpa using (by omega:u≤127))];simp
 | k+1,u,h=>by
  by_cases hu:u≤127
  ·rw[p7 hu];simp
  ·rw[vA hu,e7];have:=p8 k (u/128) (by rw[Nat.pow_succ]at h;omega);omega
def zz (n:Int):Nat:=if n<0 then (-2*n-1).toNat else (2*n).toNat
section
variable {W w:World}{L:List SP}{c:Nat}{ad:Option Addr}{bs:List UInt8}
theorem sf {N:Int}(I:U W w (Sl 5 1 ad bs.length c (bc bs)::L))(h1:-9223372036854775808≤N)(h2:N≤9223372036854775807)(hb:bs.length≤1099511627776) :
   Calls prog 198 #[.slice ad bs.length c,.int .i64 N] w λe V=>∃ av c',e=.returned (.slice av (bs++aO (zz N)).length c')∧U W V (Sl 5 1 av (bs++aO (zz N)).length c' (bc (bs++aO (zz N)))::L):=by
 refine EN func198 ntmps198 rfl rfl λa E=>?_;refine RN 4 E I λa E=>?_;refine SS E (gg E underlying2 underlying319) λa E=>?_;refine RN 1 E I λa E=>?_;rw[wrap_u64,wrap_u64]at E;refine RN 1 E I λa E=>?_;obtain⟨U0,C3⟩:∃ U0:Nat,(N%18446744073709551616*2 ^ 1)%18446744073709551616=(U0:Int):=⟨((N%18446744073709551616*2 ^ 1)%18446744073709551616).toNat,by omega⟩;rw[C3]at E;have C4:U0<18446744073709551616:=by omega
 refine b7 (M:=λa w=>Fr a 28 [(0,.slice ad bs.length c),(5,.int .u64 ((zz N:Nat):Int))]∧U W w (Sl 5 1 ad bs.length c (bc bs)::L)) ?_ ?_
 ·
  refine IF 3 E I (λaj a E=>?_) λaj a E=>?_
  ·
   refine RN 2 E I λa E=>?_;rw[IS C4]at E;refine RN 1 E I λa E=>?_;rw[show 18446744073709551615-U0=zz N from by rw[zz,ak aj];omega]at E;exact⟨E.ab [0,5],I⟩
  refine RN 0 E I λa E=>?_;rw[show U0=zz N from by rw[zz,ae (by omega)];omega]at E;exact⟨E.ab [0,5],I⟩
 clear E;(try clear I);rintro a w ⟨E,I⟩;refine RN 1 E I λa E=>?_;refine aR (λμ a w=>∃ (ec c':Nat) (av:Option Addr) (dn:List UInt8),(μ=ec∧dn++aO ec=bs++aO (zz N)∧ec≤zz N)∧Fr a 28 [(0,.slice av dn.length c'),(5,.int .u64 (ec:Int))]∧U W w (Sl 5 1 av dn.length c' (bc dn)::L)) (zz N) (⟨zz N,c,ad,bs,⟨rfl,rfl,by omega⟩,E.ab [0,5],I⟩) ?_;clear E I;rintro μ a w ⟨ec,c',av,dn,⟨xt,c8,U7⟩,E,I⟩;refine RN 2 E I λa E=>?_;have c0:zz N<18446744073709551616:=by rw[zz];split <;> omega
 have gv:=p8 9 (zz N) (by simp;omega);have ma:dn.length≤bs.length+10:=by
  have:=congrArg List.length c8;rw[aL,aL]at this;omega
 clear gv;refine IF 2 E I (λao a E=>?_) λao a E=>?_
 ·
  refine RN 3 E I λa E=>?_;refine SS E (gg E underlying319 underlying5) λa E=>?_;rw[wrap_u8,show (ec:Int)%256=((ec%256:Nat):Int) from by omega]at E;refine RN 1 E I λa E=>?_;rw[U6 (Nat.mod_lt _ (by decide)),show ec%256%128=ec%128 from by omega]at E;refine cn E rfl I underlying22 Ty.t5 rfl rfl rfl rfl (by decide) (by decide) λmP a w E I ho=>?_;clear ho;refine RN 0 E I λa E=>?_;refine cI E rfl I underlying22 Ty.t5 rfl rfl I.ai rfl (by simp[Value.oneCell']) (by decide) (by decide) (by omega) λxu C5 a w E I=>?_;have aQ:bc dn++[[Value.int .u8 ((ec%128+128:Nat):Int)]].flatten=bc (dn++[UInt8.ofNat (ec%128+128)]):=by
   simp[bc,UInt8.toNat_ofNat'];omega
  rw[aQ]at I;refine RN 4 E I λa E=>?_;rw[show ((ec:Int).fdiv (2 ^ 7))=((ec/128:Nat):Int) from kI ec 128]at E;exact⟨ec/128,by omega,ec/128,_,xu,dn++[UInt8.ofNat (ec%128+128)],⟨rfl,by rw[← c8,vA (u:=ec) (by omega),dv];rfl,by omega⟩,by rw[aL];exact E.ab [0,5],by rw[aL];exact I.sub⟩
 refine RN 3 E I λa E=>?_;refine SS E (gg E underlying319 underlying5) λa E=>?_;rw[wrap_u8,show (ec:Int)%256=((ec:Nat):Int) from by omega]at E;refine RN 0 E I λa E=>?_;refine cn E rfl I underlying22 Ty.t5 rfl rfl rfl rfl (by decide) (by decide) λIT a w E I ho=>?_;clear ho;refine RN 0 E I λa E=>?_;refine cI E rfl I underlying22 Ty.t5 rfl rfl I.ai rfl (by simp[Value.oneCell']) (by decide) (by decide) (by omega) λC6 C7 a w E I=>?_;have aQ:bc dn++[[Value.int .u8 ((ec:Nat):Int)]].flatten=bc (dn++[UInt8.ofNat ec]):=by
  simp[bc,UInt8.toNat_ofNat'];omega
 rw[aQ,← p7 (by omega),c8]at I;refine RT 1 E I ?_;have hl:dn.length+1=(bs++aO (zz N)).length:=by rw[← c8,p7 (by omega),aL];rfl
 rw[hl]at I ⊢;exact⟨_,_,rfl,I.sub⟩
theorem U8 {s:ByteArray}(I:U W w L)(aE:s.size≤1099511627776) :
   Calls prog 199 #[.slice none 0 0,.string s] w λe V=>∃ av c',e=.returned (.slice av (aO (zz s.size)++s.data.toList).length c')∧U W V (Sl 5 1 av (aO (zz s.size)++s.data.toList).length c' (bc (aO (zz s.size)++s.data.toList))::L):=by
 have xv:s.data.toList.length=s.size:=rfl;refine EN func199 ntmps199 rfl rfl λa E=>?_;refine aY 6 E I (sf (bs:=[]) (N:=s.size) (I.bM 5 1 none) (by omega) (by omega) (by simp)) λcV dN a w E I=>?_;rw[nil_append]at E I;have gv:=qR (zz s.size);have hR:=p8 9 (zz s.size) (by rw[zz];split <;> (simp;omega));have H5:=(I.sl cV).2;refine RN 1 E I λa E=>?_;refine U1 E rfl I underlying22 underlying9 Ty.t5 rfl rfl (by omega) (by decide) (by omega) λael zC a w E I=>?_;rw[show (aO (zz s.size)).length+s.size=(aO (zz s.size)++s.data.toList).length from by rw[aL];rfl]at E I;rw[show bc (aO (zz s.size))++bc s.data.toList=bc (aO (zz s.size)++s.data.toList) from by simp[bc]]at I;refine RT 1 E I ?_;exact⟨_,_,rfl,I.sub⟩
end
end
section
section
variable {W w:World}{L:List SP}{n:Nat}{s:ByteArray}
theorem Va {r:Nat}(I:U W w L):Calls prog 239 #[.int .i32 r] w λe V=>e=.returned (.int .i64 (nt r))∧U W V L:=by
 refine EN func239 ntmps239 rfl rfl λa E=>?_;refine IF 7 E I (λaj a E=>?_) λaj a E=>?_
 ·
  refine RT 2 E I ?_;exact⟨by rw[nt,ak (by omega)];rfl,I⟩
 refine IF 4 E I (λao a E=>?_) λao a E=>?_
 ·
  refine RT 2 E I ?_;exact⟨by rw[nt,ae (by omega),ak (by omega)];rfl,I⟩
 refine IF 4 E I (λay a E=>?_) λay a E=>?_
 ·
  refine RT 2 E I ?_;exact⟨by rw[nt,ae (by omega),ae (by omega),ak (by omega)];rfl,I⟩
 refine RT 2 E I ?_;exact⟨by rw[nt,ae (by omega),ae (by omega),ae (by omega)];rfl,I⟩
theorem IU {α:Type}(l:List α)(x:α)(f:α→Bool):(l++[x]).all f=(l.all f&&f x):=by simp
theorem Vb (I:U W w L)(aE:s.size≤1099511627776):Calls prog 228 #[.string s] w λe V=>e=.returned (.bool ((eb s 0).all l7))∧U W V L:=by
 refine EN func228 ntmps228 rfl rfl λa E=>?_;refine RN 7 E I λa E=>?_;refine Cc E rfl I underlying9 rfl λdr a w E I ho=>?_;clear ho;refine RN 0 E I λa E=>?_;refine aR (λμ a w=>∃ (pos n:Nat) (dn:List (Nat×Nat)),(μ=s.size-pos∧pos≤s.size∧eb s 0=dn++eb s pos∧((dn.all l7=true∧n=pos)∨(dn.all l7=false∧n=pos+2)))∧Fr a 23 [(0,.string s),(3,.int .i64 n),(7,pt dr)]∧U W w (ku dr (.stringIter s pos)::L)) (s.size) (⟨0,0,[],⟨by simp,by simp,by simp,.inl ⟨rfl,rfl⟩⟩,E.ab [0,3,7],I⟩) ?_;clear E I;rintro μ a w ⟨pos,n,dn,⟨rfl,pV,c8,hg⟩,E,I⟩;refine RN 1 E I λa E=>?_;refine Ce E rfl I rfl λa w E I=>?_;refine RN 0 E I λa E=>?_;refine SS E (nN E (Ca s pos)) λa E=>?_;refine IF 1 E I (λaj a E=>?_) λaj a E=>?_
 ·
  have mQ:=qN aj;have jd:=CP pV;have o4:dZ s pos=pos+(Utf8.decode s pos).2:=by rw[dZ,ak aj]
  have k7:=tH s pos;refine RN 1 E I λa E=>?_;refine SS E (nN E (P9 aj)) λa E=>?_;refine RN 0 E I λa E=>?_;refine SS E (nN E (Cb aj)) λa E=>?_;refine IF 7 E I (λao a E=>?_) λao a E=>?_
  ·
   have Vc:dn.all l7=false:=by
    rcases hg with ⟨_,h⟩ | ⟨h,_⟩
    ·omega
    ·exact h
   refine RT 2 E I ?_;exact⟨by rw[c8,List.all_append,Vc,Bool.false_and],I.sub⟩
  obtain⟨mR,hn⟩:=hg.resolve_right (λh=>by omega);have Vd:nt (Utf8.decode s pos).1≤4:=by unfold nt;(repeat' split) <;> omega
  refine CL 2 E I (Va I) λa w E I=>?_;refine RN 2 E I λa E=>?_;refine⟨s.size-dZ s pos,by omega,dZ s pos,n+nt (Utf8.decode s pos).1,dn++[Utf8.decode s pos],⟨rfl,jd,by rw[c8,mQ,dv];rfl,?_⟩,E.ab [0,3,7],I.sub⟩;rw[IU,mR,Bool.true_and];rcases Iz s pos with h | h
  ·refine .inl ⟨?_,by omega⟩;simp only[l7,Bool.not_eq_true',decide_eq_false_iff_not];intro e;rw[e]at h;simp[nt]at h
  ·refine .inr ⟨by simp[l7,h],?_⟩;rw[o4,h];simp[nt];omega
 refine RN 1 E I λa E=>?_;have gz:pos=s.size:=by omega
 have gA:=qO (s:=s) (pos:=pos) (by omega);rw[gA,append_nil]at c8;refine RT 5 E I ?_;refine⟨?_,I.sub⟩;rw[c8];rcases hg with ⟨h,h2⟩ | ⟨h,h2⟩
 ·rw[h,dk (by omega)]
 ·rw[h,bn (by omega)]
theorem Ve (I:U W w L)(aE:s.size≤1099511627776):Calls prog 197 #[.string s] w λe V=>e=.returned (.bool (o2 s))∧U W V L:=by
 refine EN func197 ntmps197 rfl rfl λa E=>?_;refine RN 7 E I λa E=>?_;refine Cc E rfl I underlying9 rfl λdr a w E I ho=>?_;clear ho;refine RN 0 E I λa E=>?_;refine aR (λμ a w=>∃ (pos:Nat) (dn:List (Nat×Nat)),(μ=s.size-pos∧pos≤s.size∧eb s 0=dn++eb s pos∧dn.all kg=true∧dn.length≤pos)∧Fr a 29 [(0,.string s),(3,.int .i64 dn.length),(7,pt dr)]∧U W w (ku dr (.stringIter s pos)::L)) (s.size) (⟨0,[],⟨by simp,by simp,by simp,rfl,by simp⟩,E.ab [0,3,7],I⟩) ?_;clear E I;rintro μ a w ⟨pos,dn,⟨rfl,pV,c8,hg,ma⟩,E,I⟩;refine RN 1 E I λa E=>?_;refine Ce E rfl I rfl λa w E I=>?_;refine RN 0 E I λa E=>?_;refine SS E (nN E (Ca s pos)) λa E=>?_;refine IF 1 E I (λaj a E=>?_) λaj a E=>?_
 ·
  have mQ:=qN aj;have jd:=CP pV;have o4:dZ s pos=pos+(Utf8.decode s pos).2:=by rw[dZ,ak aj]
  have k7:=tH s pos;refine RN 1 E I λa E=>?_;refine SS E (nN E (Cb aj)) λa E=>?_;refine BY 6 E I (λbA a E=>?_) λbA a E=>?_
  ·
   have jR:kg (Utf8.decode s pos)=false:=by simp[kg];omega
   refine RT 6 E I ?_;refine⟨?_,I.sub⟩;have:(eb s 0).all kg=false:=by rw[c8,mQ,List.all_append,List.all_cons,jR];simp
   rw[o2,this];simp
  refine IF 3 E I (λao a E=>?_) λao a E=>?_
  ·
   have jR:kg (Utf8.decode s pos)=false:=by simp[kg];omega
   refine RT 2 E I ?_;refine⟨?_,I.sub⟩;have:(eb s 0).all kg=false:=by rw[c8,mQ,List.all_append,List.all_cons,jR];simp
   rw[o2,this];simp
  refine RN 3 E I λa E=>?_;exact⟨s.size-dZ s pos,by omega,dZ s pos,dn++[Utf8.decode s pos],⟨rfl,jd,by rw[c8,mQ,dv];rfl,by rw[IU,hg];simp[kg];omega,by rw[aL];simp;omega⟩,by rw[aL];exact E.ab [0,3,7],I.sub⟩
 refine RN 1 E I λa E=>?_;have gA:=qO (s:=s) (pos:=pos) (by omega);rw[gA,append_nil]at c8;have n2:o2 s=(decide (1≤dn.length)&&decide (dn.length≤20)&&(eb s 0).all l7):=by rw[o2,c8,hg];simp
 refine BY 3 E I (λbA a E=>?_) λbA a E=>?_
 ·
  refine BY 4 E I (λjS a E=>?_) λjS a E=>?_
  ·
   refine CL 1 E I (Vb I aE) λa w E I=>?_;refine RT 2 E I ?_;refine⟨?_,I.sub⟩;rw[n2]
   first
    | (rw[bn (show ¬ 1≤dn.length by omega)];rfl)
    | (rw[bn (show ¬ dn.length≤20 by omega)];simp;done)
    | (rw[dk (show 1≤dn.length by omega),dk (show dn.length≤20 by omega)];rfl)
  refine RT 4 E I ?_;refine⟨?_,I.sub⟩;rw[n2]
  first
   | (rw[bn (show ¬ 1≤dn.length by omega)];rfl)
   | (rw[bn (show ¬ dn.length≤20 by omega)];simp;done)
   | (rw[dk (show 1≤dn.length by omega),dk (show dn.length≤20 by omega)];rfl)
 refine RT 8 E I ?_;refine⟨?_,I.sub⟩;rw[n2]
 first
  | (rw[bn (show ¬ 1≤dn.length by omega)];rfl)
  | (rw[bn (show ¬ dn.length≤20 by omega)];simp;done)
  | (rw[dk (show 1≤dn.length by omega),dk (show dn.length≤20 by omega)];rfl)
def k8 (k:Int):Int:=if k=0 then 0 else if k=9∨k=15 then 1 else if k=1∨k=2∨(10≤k∧k≤14) then 2 else if 3≤k∧k≤8 then 3 else -1
theorem C8 (k:Int):(k=0∧k8 k=0)∨((k=9∨k=15)∧k8 k=1)∨((k=1∨k=2∨(10≤k∧k≤14))∧k8 k=2)∨(3≤k∧k≤8∧k8 k=3)∨((k<0∨15<k)∧k8 k = -1):=by
 unfold k8
 repeat' split
 all_goals omega
theorem Vf {k:Int}(I:U W w L):Calls prog 201 #[.int .i64 k] w λe V=>e=.returned (.int .i64 (k8 k))∧U W V L:=by
 have hk:=C8 k;have ft:∀ (z:Int) (V:World),U W V L→z=k8 k→Ending.returned (Value.int .i64 z)=.returned (.int .i64 (k8 k))∧U W V L:=λz V h e=>⟨by rw[e],h⟩;refine EN func201 ntmps201 rfl rfl λa E=>?_;refine IF 8 E I (λaj a E=>?_) λaj a E=>?_
 ·
  refine RT 2 E I ?_;exact ft _ _ I (by omega)
 refine IF 4 E I (λao a E=>?_) λao a E=>?_
 ·
  refine RT 3 E I ?_;exact ft _ _ I (by omega)
 refine IF 2 E I (λay a E=>?_) λay a E=>?_
 ·
  refine RT 2 E I ?_;exact ft _ _ I (by omega)
 refine IF 4 E I (λbh a E=>?_) λbh a E=>?_
 ·
  refine RT 3 E I ?_;exact ft _ _ I (by omega)
 refine IF 3 E I (λbR a E=>?_) λbR a E=>?_
 ·
  refine RT 3 E I ?_;exact ft _ _ I (by omega)
 refine IF 3 E I (λeE a E=>?_) λeE a E=>?_
 ·
  refine RT 3 E I ?_;exact ft _ _ I (by omega)
 refine IF 3 E I (λmS a E=>?_) λmS a E=>?_
 ·
  refine RT 3 E I ?_;exact ft _ _ I (by omega)
 refine IF 3 E I (λki a E=>?_) λki a E=>?_
 ·
  refine RT 3 E I ?_;exact ft _ _ I (by omega)
 refine IF 3 E I (λmc a E=>?_) λmc a E=>?_
 ·
  refine RT 3 E I ?_;exact ft _ _ I (by omega)
 refine IF 2 E I (λk9 a E=>?_) λk9 a E=>?_
 ·
  refine RT 2 E I ?_;exact ft _ _ I (by omega)
 refine IF 4 E I (λvB a E=>?_) λvB a E=>?_
 ·
  refine RT 3 E I ?_;exact ft _ _ I (by omega)
 refine IF 3 E I (λsg a E=>?_) λsg a E=>?_
 ·
  refine RT 3 E I ?_;exact ft _ _ I (by omega)
 refine IF 3 E I (λxw a E=>?_) λxw a E=>?_
 ·
  refine RT 3 E I ?_;exact ft _ _ I (by omega)
 refine IF 3 E I (λvC a E=>?_) λvC a E=>?_
 ·
  refine RT 3 E I ?_;exact ft _ _ I (by omega)
 refine IF 3 E I (λVg a E=>?_) λVg a E=>?_
 ·
  refine RT 3 E I ?_;exact ft _ _ I (by omega)
 refine IF 2 E I (λVh a E=>?_) λVh a E=>?_
 ·
  refine RT 2 E I ?_;exact ft _ _ I (by omega)
 refine RT 2 E I ?_;exact ft _ _ I (by omega)
def zD (l:List Int):Prop:=∀ x∈l,eU x
theorem C9 {zs:List Int}{b e:Nat}(I:U W w (aa b e (zs.map (.int .i64))::L))(hl:zs.length≤10) :
   Calls prog 202 #[.slice (some ⟨b,0,none⟩) zs.length zs.length] w λe' V=>∃ r:Bool,e'=.returned (.bool r)∧(r=true↔zD zs)∧U W V (aa b e (zs.map (.int .i64))::L):=by
 refine EN func202 ntmps202 rfl rfl λa E=>?_;refine RN 7 E I λa E=>?_;refine aR (λμ a w=>∃ i:Nat,(μ=zs.length-i∧i≤zs.length∧∀ j x,j<i→zs[j]?=some x→eU x)∧Fr a 18 [(5,.slice (some ⟨b,0,none⟩) zs.length zs.length),(6,.int .i64 zs.length),(7,.int .i64 i)]∧U W w (aa b e (zs.map (.int .i64))::L)) (zs.length) (⟨0,⟨by simp,by simp,λj x h=>absurd h (by omega)⟩,E.ab [5,6,7],I⟩) ?_;clear E I;rintro μ a w ⟨i,⟨rfl,hi,cD⟩,E,I⟩;refine IF 3 E I (λaj a E=>?_) λaj a E=>?_
 ·
  obtain⟨x,hx⟩:∃ x,zs[i]?=some x:=⟨_,aI (by omega)⟩;refine RN 3 E I λa E=>?_;refine SS E (ag E (I.bB (v:=.int .i64 x) (by rw[bm,hx];rfl))) λa E=>?_;refine BY 5 E I (λbA a E=>?_) λbA a E=>?_
  ·
   refine RT 6 E I ?_;refine⟨false,rfl,⟨λh=>(by cases h),λh=>?_⟩,I.sub⟩;have:=h x (bK hx);unfold eU at this;omega
  refine IF 3 E I (λao a E=>?_) λao a E=>?_
  ·
   refine RT 2 E I ?_;refine⟨false,rfl,⟨λh=>(by cases h),λh=>?_⟩,I.sub⟩;have:=h x (bK hx);unfold eU at this;omega
  refine RN 2 E I λa E=>?_;refine⟨zs.length-(i+1),by omega,i+1,⟨rfl,by omega,λj y hj hy=>?_⟩,E.ab [5,6,7],I.sub⟩;by_cases e:j=i
  ·subst e;rw[hx]at hy;cases hy;unfold eU;omega
  ·exact cD j y (by omega) hy
 refine RT 2 E I ?_;refine⟨true,rfl,⟨λ_ x hx=>?_,λ_=>rfl⟩,I.sub⟩;obtain⟨j,hj⟩:=jN.1 hx;exact cD j x (by have:=(a2.1 hj).1;omega) hj
theorem IV {k n:Int}{b e:Nat}(I:U W w (aa b e [.int .i64 n]::L)) :
   Calls prog 200 #[.int .i64 k,pt b] w λe' V=>e'=.returned (.bool (decide (0≤k∧k≤n)))∧U W V (aa b e [.int .i64 n]::L):=by
 refine EN func200 ntmps200 rfl rfl λa E=>?_;refine BY 6 E I (λbA a E=>?_) λbA a E=>?_
 ·
  refine RT 5 E I ?_;refine⟨?_,I.sub⟩
  first
   | (rw[bn (show ¬ (0≤k∧k≤n) by omega)])
   | (congr 2;rw[decide_eq_decide];omega)
 refine RT 5 E I ?_;refine⟨?_,I.sub⟩
 first
  | (rw[bn (show ¬ (0≤k∧k≤n) by omega)])
  | (congr 2;rw[decide_eq_decide];omega)
end
end
section
section
variable {W w:World}{L:List SP}{c:Nat}{ad:Option Addr}
theorem Vi {o:gy}{m:Int}(h:o.code=0):eV m o↔(o.a=0∧o.b=0∧o.c=0):=by
 simp only[eV,eU];exact⟨λh=>by omega,λh2=>.inl ⟨h,h2⟩⟩
theorem Vj {o:gy}{m:Int}(h:o.code=1):eV m o↔(eU o.a∧o.c=0):=by
 simp only[eV,eU];exact⟨λh=>by omega,λh2=>.inr (.inl ⟨h,h2⟩)⟩
theorem Vk {o:gy}{m:Int}(h:o.code=9):eV m o↔(0≤o.a∧o.a≤m∧o.b=0∧o.c=0):=by
 simp only[eV,eU];exact⟨λh=>by omega,λh2=>.inr (.inr (.inl ⟨h,h2⟩))⟩
theorem Vl {o:gy}{m:Int}(h:o.code=15):eV m o↔(eU o.a∧o.b=0∧o.c=0):=by
 simp only[eV,eU];exact⟨λh=>by omega,λh2=>.inr (.inr (.inr (.inl ⟨h,h2⟩)))⟩
theorem IW {o:gy}{m:Int}(h:o.code=10):eV m o↔(eU o.a∧0≤o.b∧o.b≤m∧o.c=0):=by
 simp only[eV,eU];exact⟨λh=>by omega,λh2=>.inr (.inr (.inr (.inr (.inl ⟨h,h2⟩))))⟩
theorem Vm {o:gy}{m:Int}(h:o.code=2∨(11≤o.code∧o.code≤14)):eV m o↔(eU o.a∧eU o.b∧o.c=0):=by
 simp only[eV,eU];exact⟨λh=>by omega,λh2=>.inr (.inr (.inr (.inr (.inr (.inl ⟨h,h2⟩)))))⟩
theorem Vn {o:gy}{m:Int}(h:3≤o.code∧o.code≤8):eV m o↔(eU o.a∧eU o.b∧eU o.c):=by
 simp only[eV,eU];exact⟨λh=>by omega,λh2=>.inr (.inr (.inr (.inr (.inr (.inr ⟨h.1,h.2,h2⟩)))))⟩
theorem sh {o:gy}{m:Int}(h:eV m o):0≤k8 o.code∧(k8 o.code<3→o.c=0)∧(k8 o.code<2→o.b=0)∧(k8 o.code<1→o.a=0):=by
 have hk:=C8 o.code;simp only[eV,eU]at h;omega
theorem Vo {o:gy}{m:Nat}(I:U W w L):Calls prog 170 #[.agg (dL o).toArray,.int .i64 m] w λe V=>∃ r:Bool,e=.returned (.bool r)∧(r=true↔eV m o)∧U W V L:=by
 have hk:=C8 o.code;have ft:∀ (r:Bool) (P:Prop) (V:World),U W V L→(r=true↔P)→(P↔eV m o)→∃ r':Bool,Ending.returned (Value.bool r)=.returned (.bool r')∧(r'=true↔eV m o)∧U W V L:=λr P V h e1 e2=>⟨r,rfl,e1.trans e2,h⟩;refine EN func170 ntmps170 rfl rfl λa E=>?_;refine BX 1 E I λb2 a w E I=>?_;change U W w (aa b2 114 (dL o)::_) at I;refine BX 0 E I λb3 a w E I=>?_;refine CL 7 E I (Vf I) λa w E I=>?_;refine RN 1 E I λa E=>?_;refine b7 (M:=λa w=>(0≤k8 o.code∧(k8 o.code<3→o.c=0)∧(k8 o.code<2→o.b=0)∧(k8 o.code<1→o.a=0))∧Fr a 76 [(2,pt b2),(3,pt b3),(5,.func (.func 200) #[] (List.toArray [pt b3]))]∧U W w (aa b3 3 [.int .i64 m]::aa b2 114 (dL o)::L)) ?_ ?_
 ·
  refine BY 4 E I (λbA a E=>?_) λbA a E=>?_
  ·
   refine RT 29 E I ?_;exact ft false False _ I.sub (by simp) ⟨λh=>h.elim,λh=>by have h5:=sh h;omega⟩
  refine BY 3 E I (λiO a E=>?_) λiO a E=>?_
  ·
   refine BY 6 E I (λkG a E=>?_) λkG a E=>?_
   ·
    refine RT 20 E I ?_;exact ft false False _ I.sub (by simp) ⟨λh=>h.elim,λh=>by have h5:=sh h;omega⟩
   refine BY 3 E I (λkF a E=>?_) λkF a E=>?_
   ·
    refine BY 6 E I (λDa a E=>?_) λDa a E=>?_
    ·
     refine RT 11 E I ?_;exact ft false False _ I.sub (by simp) ⟨λh=>h.elim,λh=>by have h5:=sh h;omega⟩
    refine BY 3 E I (λmf a E=>?_) λmf a E=>?_
    ·
     refine IF 5 E I (λaj a E=>?_) λaj a E=>?_
     ·
      refine RT 2 E I ?_;exact ft false False _ I.sub (by simp) ⟨λh=>h.elim,λh=>by have h5:=sh h;omega⟩
     refine RN 0 E I λa E=>?_;exact⟨by omega,E.ab [2,3,5],I.sub⟩
    refine RN 6 E I λa E=>?_;exact⟨by omega,E.ab [2,3,5],I.sub⟩
   refine BY 9 E I (λmf a E=>?_) λmf a E=>?_
   ·
    refine IF 5 E I (λaj a E=>?_) λaj a E=>?_
    ·
     refine RT 2 E I ?_;exact ft false False _ I.sub (by simp) ⟨λh=>h.elim,λh=>by have h5:=sh h;omega⟩
    refine RN 0 E I λa E=>?_;exact⟨by omega,E.ab [2,3,5],I.sub⟩
   refine RN 6 E I λa E=>?_;exact⟨by omega,E.ab [2,3,5],I.sub⟩
  refine BY 9 E I (λkF a E=>?_) λkF a E=>?_
  ·
   refine BY 6 E I (λDa a E=>?_) λDa a E=>?_
   ·
    refine RT 11 E I ?_;exact ft false False _ I.sub (by simp) ⟨λh=>h.elim,λh=>by have h5:=sh h;omega⟩
   refine BY 3 E I (λmf a E=>?_) λmf a E=>?_
   ·
    refine IF 5 E I (λaj a E=>?_) λaj a E=>?_
    ·
     refine RT 2 E I ?_;exact ft false False _ I.sub (by simp) ⟨λh=>h.elim,λh=>by have h5:=sh h;omega⟩
    refine RN 0 E I λa E=>?_;exact⟨by omega,E.ab [2,3,5],I.sub⟩
   refine RN 6 E I λa E=>?_;exact⟨by omega,E.ab [2,3,5],I.sub⟩
  refine BY 9 E I (λmf a E=>?_) λmf a E=>?_
  ·
   refine IF 5 E I (λaj a E=>?_) λaj a E=>?_
   ·
    refine RT 2 E I ?_;exact ft false False _ I.sub (by simp) ⟨λh=>h.elim,λh=>by have h5:=sh h;omega⟩
   refine RN 0 E I λa E=>?_;exact⟨by omega,E.ab [2,3,5],I.sub⟩
  refine RN 6 E I λa E=>?_;exact⟨by omega,E.ab [2,3,5],I.sub⟩
 clear E;(try clear I);rintro a w ⟨n2,E,I⟩;refine IF 7 E I (λao a E=>?_) λao a E=>?_
 ·
  refine RT 2 E I ?_;exact ft true True _ I.sub (by simp) ⟨λ_=>(Vi ao).2 (by omega),λ_=>trivial⟩
 refine IF 3 E I (λay a E=>?_) λay a E=>?_
 ·
  refine RN 3 E I λa E=>?_;refine cn E rfl I underlying53 Ty.t3 rfl rfl rfl rfl (by decide) (by decide) λb48 a w E I ho=>?_;clear ho;refine bg 0 E I (C9 (zs:=[o.a]) I (by simp)) λr a w E ⟨hr,I⟩=>?_;refine RT 1 E I ?_;exact ft r _ _ I.sub hr (by rw[Vj ay];simp only[zD,forall_mem_cons,not_mem_nil,false_imp_iff,implies_true,and_true];exact⟨λh=>⟨h,by omega⟩,λh=>h.1⟩)
 refine IF 3 E I (λbh a E=>?_) λbh a E=>?_
 ·
  refine CL 4 E I (IV (I.jD b3)) λa w E I=>?_;refine RT 1 E I ?_;exact ft _ _ _ I.sub cp (by rw[Vk bh];omega)
 refine IF 3 E I (λbR a E=>?_) λbR a E=>?_
 ·
  refine RN 3 E I λa E=>?_;refine cn E rfl I underlying53 Ty.t3 rfl rfl rfl rfl (by decide) (by decide) λQv a w E I ho=>?_;clear ho;refine bg 0 E I (C9 (zs:=[o.a]) I (by simp)) λr a w E ⟨hr,I⟩=>?_;simp only[zD,forall_mem_cons,not_mem_nil,false_imp_iff,implies_true,and_true]at hr;refine BY 1 E I (λdp a E=>?_) λdp a E=>?_
  ·
   refine CL 3 E I (IV (I.jD b3)) λa w E I=>?_;refine RT 2 E I ?_;exact ft _ _ _ I.sub cp (by rw[IW bR];exact⟨λh=>⟨hr.1 dp,h.1,h.2,by omega⟩,λh=>⟨h.2.1,h.2.2.1⟩⟩)
  refine RT 6 E I ?_;exact ft _ False _ I.sub (by simp) (by rw[IW bR];exact⟨λh=>h.elim,λh=>by rw[hr.2 h.1]at dp;cases dp⟩)
 refine RN 7 E I λa E=>?_;refine cn E rfl I underlying53 Ty.t3 rfl rfl rfl rfl (by decide) (by decide) λb74 a w E I ho=>?_;clear ho;refine bg 0 E I (C9 (zs:=[o.a,o.b,o.c]) I (by simp)) λr a w E ⟨hr,I⟩=>?_;refine RT 1 E I ?_;refine ft r _ _ I.sub hr ?_;simp only[zD,forall_mem_cons,not_mem_nil,false_imp_iff,implies_true,and_true];have Db:eU 0:=⟨by decide,by decide⟩;rcases hk with hk | ⟨hk,ch⟩ | ⟨hk,ch⟩ | hk | hk
 ·omega
 ·have Dc:o.code=15:=by omega
  have sj:o.b=0:=by omega
  have Dd:o.c=0:=by omega
  rw[Vl Dc,sj,Dd];exact⟨λh=>⟨h.1,rfl,rfl⟩,λh=>⟨h.1,Db,Db⟩⟩
 ·have Dd:o.c=0:=by omega
  rw[Vm (by omega),Dd];exact⟨λh=>⟨h.1,h.2.1,rfl⟩,λh=>⟨h.1,h.2.1,Db⟩⟩
 ·rw[Vn ⟨hk.1,hk.2.1⟩]
 ·omega
abbrev bP (p:Pr)(ad:Option Addr)(c:Nat):List Value:=[.string p.title,.slice ad p.ops.length c]
abbrev aA (W:World)(p:Pr)(ad:Option Addr)(c:Nat):SP:=Ro W 114 4 ad p.ops.length c (rows dL p.ops)
def tN (o:gy)(k:Nat):Int:=[o.code,o.a,o.b,o.c].getD k 0
theorem Vp (o:gy){k:Nat}(h:k<4):(dL o)[k]?=some (.int .i64 (tN o k)):=by
 rcases (by omega:k=0∨k=1∨k=2∨k=3) with rfl | rfl | rfl | rfl <;> rfl
set_option maxHeartbeats 4000000 in
theorem Vq {p:Pr}(I:U W w (aA W p ad c::L))(aE:p.title.size≤1000000000)(dW:p.ops.length≤1000000000) :
   Calls prog 169 #[.agg (bP p ad c).toArray] w λe V=>∃ av n' c',e=.returned (.slice av n' c')∧(av.isNone=true↔¬ vu p)∧U W V (aA W p ad c::L):=by
 refine EN func169 ntmps169 rfl rfl λa E=>?_;refine BX 1 E I λb1 a w E I=>?_;change U W w (aa b1 45 (bP p ad c)::_) at I;refine RN 1 E I λa E=>?_;refine b7 (M:=λa w=>(o2 p.title=true∧1≤p.ops.length∧p.ops.length≤64)∧Fr a 62 [(1,pt b1)]∧U W w (aa b1 45 (bP p ad c)::aA W p ad c::L)) ?_ ?_
 ·
  refine CL 3 E I (Ve I (by omega)) λa w E I=>?_;refine BY 2 E I (λht a E=>?_) λht a E=>?_
  ·
   refine RT 14 E I ?_;exact⟨none,0,0,rfl,⟨λ_ h=>(by
    obtain⟨h1,h2,h3,_⟩:=h
    first
     | (rw[h1]at ht;cases ht;done)
     | omega),λ_=>rfl⟩,I.sub⟩
  refine BY 6 E I (λlz a E=>?_) λlz a E=>?_
  ·
   refine RT 8 E I ?_;exact⟨none,0,0,rfl,⟨λ_ h=>(by
    obtain⟨h1,h2,h3,_⟩:=h
    first
     | (rw[h1]at ht;cases ht;done)
     | omega),λ_=>rfl⟩,I.sub⟩
  refine IF 5 E I (λaj a E=>?_) λaj a E=>?_
  ·
   refine RT 2 E I ?_;exact⟨none,0,0,rfl,⟨λ_ h=>(by
    obtain⟨h1,h2,h3,_⟩:=h
    first
     | (rw[h1]at ht;cases ht;done)
     | omega),λ_=>rfl⟩,I.sub⟩
  refine RN 0 E I λa E=>?_;exact⟨⟨ht,by omega,by omega⟩,E.ab [1],I.sub⟩
 clear E;(try clear I);rintro a w ⟨lB,E,I⟩;refine b7 (M:=λa w=>∃ (bs:List UInt8) (hX:Option Addr) (cb:Nat),(1≤bs.length∧bs.length≤p.title.size+30)∧Fr a 62 [(1,pt b1),(3,.slice hX bs.length cb)]∧U W w (Sl 5 1 hX bs.length cb (bc bs)::aa b1 45 (bP p ad c)::aA W p ad c::L)) ?_ ?_
 ·
  refine aZ 0 (λw0 V=>V.cell? ⟨b1,1,none⟩=some (.slice ad p.ops.length c)∧V.cell? ⟨b1,0,none⟩=some (.string p.title)) [2,4,5] [0,3,3001,3004,3005,1002,1006,7] E I λa w E I hH=>?_;have ao:w.cell? ⟨b1,1,none⟩=some (.slice ad p.ops.length c):=I.bB rfl;have Vr:w.cell? ⟨b1,0,none⟩=some (.string p.title):=I.bB rfl;have hC:=And.intro ao Vr;refine RH 2 E I hH hC λa E=>?_;refine QH E (λw hc=>ag E (hc.2)) hC λa E=>?_;refine QH E (λw hc=>ag E (hc.1)) hC λa E=>?_;refine RH 1 E I hH hC λa E=>?_;refine aY 0 E I (U8 I (by omega)) λcV dN a w E I=>?_;replace hC:=hH.at w (And.intro (I.bB rfl) (I.bB rfl));have hR:=p8 9 (zz p.title.size) (by rw[zz];split <;> (simp;omega));have xv:p.title.data.toList.length=p.title.size:=rfl;refine RH 0 E I hH hC λa E=>?_;refine aY 0 E I (sf (N:=p.ops.length) (I.pick (Sl 5 1 cV (aO (zz p.title.size)++p.title.data.toList).length dN (bc (aO (zz p.title.size)++p.title.data.toList)))) (by omega) (by omega) (by rw[aL];omega)) λadq cq a w E I=>?_;refine RN 1 E I λa E=>?_;have r8:=p8 9 (zz p.ops.length) (by rw[zz];split <;> (simp;omega));have vk:=qR (zz p.ops.length);exact⟨_,adq,cq,⟨by rw[aL];omega,by rw[aL,aL];omega⟩,E.ab [1,3],I.sub⟩
 clear E;(try clear I);rintro a w ⟨bs,hX,cb,⟨nu,nM⟩,E,I⟩;refine RN 6 E I λa E=>?_;refine aR (λμ a w=>∃ (i:Nat) (bs:List UInt8) (hX:Option Addr) (cb:Nat),(μ=p.ops.length-i∧i≤p.ops.length∧1≤bs.length∧bs.length≤p.title.size+30+40*i∧∀ j o,j<i→p.ops[j]?=some o→qP o)∧Fr a 62 [(3,.slice hX bs.length cb),(32,.slice ad p.ops.length c),(33,.int .i64 p.ops.length),(34,.int .i64 i)]∧U W w (Sl 5 1 hX bs.length cb (bc bs)::aA W p ad c::L)) (p.ops.length) (⟨0,bs,hX,cb,⟨by simp,by simp,nu,by omega,λj o h=>absurd h (by omega)⟩,E.ab [3,32,33,34],I.sub⟩) ?_;clear E I;rintro μ a w ⟨i,bs,hX,cb,⟨rfl,hi,nu,nM,cD⟩,E,I⟩;refine IF 3 E I (λao a E=>?_) λao a E=>?_
 ·
  obtain⟨o,ho⟩:∃ o,p.ops[i]?=some o:=⟨_,aI (by omega)⟩;obtain⟨kz,oo,gT,gA⟩:=I.qQ ad (by omega);rw[gT]at E;refine RN 3 E I λa E=>?_;refine SS E (bT E underlying114 rfl Ty.t114 (vv gA ho)) λa E=>?_;refine AL 0 E I λb5 a w E I=>?_;refine SA 0 E I λa w E I=>?_;refine RN 9 E I λa E=>?_;refine SS E (B8 E underlying230 Ty.t230 Ty.t3 rfl rfl) λa E=>?_;change Fr a 62 ((46,.agg (dL o).toArray)::_) at E;refine RN 1 E I λa E=>?_;rw[← gT]at E;refine aR (λμ a w=>∃ (k:Nat) (bs:List UInt8) (hX:Option Addr) (cb:Nat),(μ=4-k∧k≤4∧1≤bs.length∧bs.length≤p.title.size+30+40*i+10*k∧∀ j,j<k→dq (tN o j))∧Fr a 62 [(3,.slice hX bs.length cb),(32,.slice ad p.ops.length c),(33,.int .i64 p.ops.length),(34,.int .i64 i),(46,.agg (dL o).toArray),(47,.int .i64 k)]∧U W w (Sl 5 1 hX bs.length cb (bc bs)::aA W p ad c::L)) (4) (⟨0,bs,hX,cb,⟨by simp,by simp,nu,by omega,λj h=>absurd h (by omega)⟩,E.ab [3,32,33,34,46,47],I.sub⟩) ?_;clear E I;rintro μ a w ⟨k,bs,hX,cb,⟨rfl,hk,nu,nM,o5⟩,E,I⟩;refine IF 3 E I (λay a E=>?_) λay a E=>?_
  ·
   refine RN 2 E I λa E=>?_;refine SS E (rM E underlying230 underlying3 rfl Ty.t3 (by omega) (Vp o (by omega))) λa E=>?_;refine BY 6 E I (λbA a E=>?_) λbA a E=>?_
   ·
    refine RT 6 E I ?_;refine⟨none,0,0,rfl,⟨λ_ h=>?_,λ_=>rfl⟩,I.sub⟩;obtain⟨_,_,_,h4⟩:=h;have h5:=h4 o (bK ho);have h6:dq (tN o k):=by
     rcases (by omega:k=0∨k=1∨k=2∨k=3) with rfl | rfl | rfl | rfl
     ·exact h5.1
     ·exact h5.2.1
     ·exact h5.2.2.1
     ·exact h5.2.2.2
    simp only[dq]at h6;omega
   refine IF 3 E I (λbh a E=>?_) λbh a E=>?_
   ·
    refine RT 2 E I ?_;refine⟨none,0,0,rfl,⟨λ_ h=>?_,λ_=>rfl⟩,I.sub⟩;obtain⟨_,_,_,h4⟩:=h;have h5:=h4 o (bK ho);have h6:dq (tN o k):=by
     rcases (by omega:k=0∨k=1∨k=2∨k=3) with rfl | rfl | rfl | rfl
     ·exact h5.1
     ·exact h5.2.1
     ·exact h5.2.2.1
     ·exact h5.2.2.2
    simp only[dq]at h6;omega
   refine aY 2 E I (sf (N:=tN o k) (I.pick (Sl 5 1 hX bs.length cb (bc bs))) (by omega) (by omega) (by omega)) λadq cq a w E I=>?_;refine RN 3 E I λa E=>?_;have r8:=p8 9 (zz (tN o k)) (by rw[zz];split <;> (simp;omega));refine⟨4-(k+1),by omega,k+1,bs++aO (zz (tN o k)),adq,cq,⟨rfl,by omega,by rw[aL];omega,by rw[aL];omega,λj hj=>?_⟩,E.ab [3,32,33,34,46,47],I.sub⟩;rcases Nat.lt_or_ge j k with h | h
   ·exact o5 j h
   ·obtain rfl:j=k:=by omega
    simp only[dq];omega
  refine RN 0 E I λa E=>?_;obtain rfl:k=4:=by omega
  refine RN 2 E I λa E=>?_;refine⟨p.ops.length-(i+1),by omega,i+1,bs,hX,cb,⟨rfl,by omega,nu,by omega,λj o' hj j6=>?_⟩,E.ab [3,32,33,34],I.sub⟩;rcases Nat.lt_or_ge j i with h | h
  ·exact cD j o' h j6
  ·obtain rfl:j=i:=by omega
   rw[ho]at j6;cases j6;exact⟨o5 0 (by omega),o5 1 (by omega),o5 2 (by omega),o5 3 (by omega)⟩
 refine RT 3 E I ?_;obtain⟨mg,ox,De,_⟩:=I.bY hX (by omega);refine⟨hX,bs.length,cb,rfl,⟨λh=>(by rw[De]at h;cases h),λh=>?_⟩,I.sub⟩;exact absurd ⟨lB.1,lB.2.1,lB.2.2,λo' j6=>(by
  obtain⟨j,hj⟩:=jN.1 j6;exact cD j o' (by have:=(a2.1 hj).1;omega) hj)⟩ h
theorem Vs {p:Pr}(I:U W w (aA W p ad c::L))(aE:p.title.size≤1000000000)(dW:p.ops.length≤1000000000) :
   Calls prog 132 #[.agg (bP p ad c).toArray] w λe V=>∃ r:Int,e=.returned (.int .i64 r)∧(r = -1↔dg p)∧U W V (aA W p ad c::L):=by
 refine EN func132 ntmps132 rfl rfl λa E=>?_;refine BX 1 E I λb1 a w E I=>?_;change U W w (aa b1 45 (bP p ad c)::_) at I;refine jI 4 E I (Vq (I.pick (aA W p ad c)) aE dW) λaem ne ce a w E ⟨bN,I⟩=>?_;refine IF 1 E I (λaj a E=>?_) λaj a E=>?_
 ·
  refine RT 2 E I ?_;exact⟨-2,rfl,⟨λh=>absurd h (by decide),λh=>absurd h.1 (bN.1 aj)⟩,I.sub⟩
 have lB:vu p:=Classical.byContradiction λh=>by rw[bN.2 h]at aj;cases aj
 refine RN 6 E I λa E=>?_;refine aR (λμ a w=>∃ i:Nat,(μ=p.ops.length-i∧i≤p.ops.length∧∀ j o,j<i→p.ops[j]?=some o→eV p.ops.length o)∧Fr a 24 [(1,pt b1),(9,.slice ad p.ops.length c),(10,.int .i64 p.ops.length),(11,.int .i64 i)]∧U W w (aa b1 45 (bP p ad c)::aA W p ad c::L)) (p.ops.length) (⟨0,⟨by simp,by simp,λj o h=>absurd h (by omega)⟩,E.ab [1,9,10,11],I.sub⟩) ?_;clear E I;rintro μ a w ⟨i,⟨rfl,hi,cD⟩,E,I⟩;refine IF 3 E I (λao a E=>?_) λao a E=>?_
 ·
  obtain⟨o,ho⟩:∃ o,p.ops[i]?=some o:=⟨_,aI (by omega)⟩;obtain⟨kz,oo,gT,gA⟩:=I.qQ ad (by omega);rw[gT]at E;refine RN 4 E I λa E=>?_;refine SS E (bT E underlying114 rfl Ty.t114 (vv gA ho)) λa E=>?_;refine AL 0 E I λb4 a w E I=>?_;refine SA 1 E I λa w E I=>?_;refine bg 5 E I (Vo (o:=o) (m:=p.ops.length) I) λr a w E ⟨hr,I⟩=>?_;refine IF 1 E I (λay a E=>?_) λay a E=>?_
  ·
   refine RT 3 E I ?_;refine⟨i,rfl,⟨λh=>absurd h (by omega),λh=>?_⟩,I.sub⟩;rw[hr.2 (h.2 o (bK ho))]at ay;cases ay
  have tO:r=true:=by simpa using ay
  refine RN 2 E I λa E=>?_;rw[← gT]at E;refine⟨p.ops.length-(i+1),by omega,i+1,⟨rfl,by omega,λj o' hj j6=>?_⟩,E.ab [1,9,10,11],I.sub⟩;rcases Nat.lt_or_ge j i with h | h
  ·exact cD j o' h j6
  ·obtain rfl:j=i:=by omega
   rw[ho]at j6;cases j6;exact hr.1 tO
 refine RT 2 E I ?_;refine⟨-1,rfl,⟨λ_=>⟨lB,λo ho=>?_⟩,λ_=>rfl⟩,I.sub⟩;obtain⟨j,hj⟩:=jN.1 ho;exact cD j o (by have:=(a2.1 hj).1;omega) hj
theorem Df {p:Pr}(I:U W w (aA W p ad c::L))(aE:p.title.size≤1000000000)(dW:p.ops.length≤1000000000) :
   Calls prog 97 #[.agg (bP p ad c).toArray] w λe V=>∃ r:Bool,e=.returned (.bool r)∧(r=true↔dg p)∧U W V (aA W p ad c::L):=by
 refine EN func97 ntmps97 rfl rfl λa E=>?_;refine BX 1 E I λb1 a w E I=>?_;change U W w (aa b1 45 (bP p ad c)::_) at I;refine bg 3 E I (Vs (I.pick (aA W p ad c)) aE dW) λr a w E ⟨hr,I⟩=>?_;refine RT 2 E I ?_;exact⟨_,rfl,by rw[cp];exact hr,I.sub⟩
end
end
end Go.Proofs.YteoldcfapaiobaaGreat
