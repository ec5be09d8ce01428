/- The walks of package job. -/
import Derived.Test.YteoldcfapaiobaaGreatH01Row
import Derived.Test.YteoldcfapaiobaaGreatH03Snap2
import Derived.Lib.AppendStr
namespace Go.Proofs.YteoldcfapaiobaaGreat
open Tryz
open List (drop_zero take_succ_cons drop_left take_zero nil_append map_cons length_nil cons_append eraseIdx_set_eq append_nil ext_getElem? map_nil flatMap_cons not_mem_nil)
open Go.RowKit
set_option linter.unusedVariables false
set_option linter.unusedSimpArgs false
set_option maxRecDepth 10000
set_option synthInstance.maxSize 4000
set_option synthInstance.maxHeartbeats 400000
section
def jc (l:List (Int×Int)):List Value:=l.flatMap λj=>[.int .i64 j.1,.int .i64 j.2]
theorem pL (l:List (Int×Int)):(jc l).length=l.length*2:=by
 induction l with
 | nil=>rfl
 | cons x l ih=>simp only[jc,flatMap_cons,aN,fm,length_nil] at *;omega
theorem J7 (l m:List (Int×Int)):jc (l++m)=jc l++jc m:=by simp[jc]
theorem J8 (l:List (Int×Int))(i:Nat):(jc l).drop (i*2)=jc (l.drop i):=by
 induction i generalizing l with
 | zero=>simp
 | succ i ih =>
  cases l with
  | nil=>simp[jc]
  | cons x l =>
   have:(i+1)*2=i*2+2:=by omega
   rw[this];simp only[jc,flatMap_cons,List.drop_succ_cons] at *;rw[← ih l];simp
theorem J9 (l:List (Int×Int))(i:Nat):(jc l).take (i*2)=jc (l.take i):=by
 induction i generalizing l with
 | zero=>simp[jc]
 | succ i ih =>
  cases l with
  | nil=>simp[jc]
  | cons x l =>
   have:(i+1)*2=i*2+2:=by omega
   rw[this];simp only[jc,flatMap_cons,take_succ_cons] at *;rw[← ih l];simp
theorem Ew (l:List (Int×Int))(i:Nat)(h:i<l.length):((jc l).drop (i*2)).take 2=[.int .i64 l[i].1,.int .i64 l[i].2]:=by
 rw[J8,kA h];simp only[jc,flatMap_cons,cons_append,nil_append,take_succ_cons,take_zero]
def fi (p:Int×Int→Bool)(l:List (Int×Int)):Int:=if l.findIdx p<l.length then (l.findIdx p:Int) else -1
theorem V3 (p:Int×Int→Bool)(l:List (Int×Int)):decide (0≤fi p l)=l.any p:=by
 unfold fi;split <;> rename_i h
 ·have:=List.findIdx_lt_length.1 h;simp only[List.any_eq_true.2 this];simp
 ·rw[List.findIdx_lt_length]at h;have:l.any p=false:=by rw[← Bool.not_eq_true,List.any_eq_true];exact h
  simp[this]
theorem V4 (p:Int×Int→Bool)(l:List (Int×Int))(i:Nat)(hi:i<l.length)(h0:∀ j,(h:j<i)→p (l[j]'(by omega))=false)(h1:p l[i]=true):fi p l=i:=by
 have:l.findIdx p=i:=(List.findIdx_eq hi).2 ⟨h1,λj hj=>h0 j hj⟩;simp[fi,this,hi]
theorem V5 (p:Int×Int→Bool)(l:List (Int×Int))(h0:∀ j,(h:j<l.length)→p l[j]=false):fi p l = -1:=by
 have:¬ l.findIdx p<l.length:=by
  rw[List.findIdx_lt_length];rintro⟨x,hx,hp⟩;obtain⟨j,hj,rfl⟩:=List.mem_iff_getElem.1 hx;rw[h0 j hj]at hp;cases hp
 simp[fi,this]
theorem V6 {q:Nat→Prop}{i:Nat}(h:∀ j,j<i→q j)(h1:q i):∀ j,j<i+1→q j:=λj hj=>by
 rcases gE j i with h' | h'
 ·exact h j h'
 ·obtain rfl:j=i:=by omega
  exact h1
def wG (W:World)(L:List SP)(f:Nat)(us:List Value)(p:Int×Int→Bool):Prop :=
 ∀ w (x:Int×Int),U W w L→Calls prog f ([Value.agg #[.int .i64 x.1,.int .i64 x.2]]++us).toArray w λe V=>e=.returned (.bool (p x))∧U W V L
theorem AW {W w:World}{L R:List SP}{a e:Nat}{s:Option Addr}{n c:Nat}(I:U W w L) [fM L a e [.slice s n c] R] :
   Calls prog 207 #[pt a] w λe V=>e=.returned (.int .i64 n)∧U W V L:=by
 refine EN func207 ntmps207 rfl rfl λa E=>?_;refine RN 6 E I λa E=>?_;replace E:=E.aK 4;refine RT 8 E I ?_;exact⟨rfl,I⟩
theorem V7 {W:World}{L R:List SP}{b e:Nat}{x1 x2:Int} [fM L b e [.int .i64 x1,.int .i64 x2] R] :
   wG W L 210 [pt b] (λy=>decide (y.1=x1)):=by
 rintro w ⟨Ka,V8⟩ I;refine EN func210 ntmps210 rfl rfl λa E=>?_;refine BX 1 E I λb2 a w E I=>?_;refine RT 8 E I ?_;exact⟨rfl,I.tail⟩
theorem Kb {W w:World}{L R:List SP}{ad:Option Addr}{c f:Nat}{us:List Value}{l:List (Int×Int)}{p:Int×Int→Bool}(I:U W w L)[pk:fk L ad l.length c 245 2 (jc l) R]
   (hc:hE prog f=true) (hf:wG W L f us p) (hl:l.length≤140737488355328) :
   Calls prog 232 #[.slice ad l.length c,.func (.func f) #[] us.toArray] w λe V=>e=.returned (.int .i64 (fi p l))∧U W V L:=by
 refine EN func232 ntmps232 rfl rfl λa E=>?_;refine RN 7 E I λa E=>?_;refine aQ (λμ a w=>∃ i:Nat,(μ=l.length-i∧i≤l.length∧(∀ j,j<i→∀ h:j<l.length,p l[j]=false))∧Fr a 19 [(0,.slice ad l.length c),(1,.func (.func f) #[] us.toArray),(4,.int .i64 0),(7,.int .i64 l.length),(8,.int .i64 i)]∧U W w L) (l.length) (⟨0,⟨by simp,by simp,λj h=>by omega⟩,E.ab [0,1,4,7,8],I⟩) ?_;clear E I;rintro μ a w ⟨i,⟨rfl,hi,hp⟩,E,I⟩;refine IF 3 E I (λaj a E=>?_) λaj a E=>?_
 ·
  obtain⟨b,off,rfl,dh⟩:=I.bY ad (by omega);have aF:i<l.length:=by omega
  have hr:=dh.part (i*2) 2;rw[Ew l i aF]at hr;refine RN 9 E I λa E=>?_;refine SS E (bQ E underlying245 rfl Ty.t245 (hr)) λa E=>?_;refine CL 0 E I (hf _ l[i] I) (hf:=hc) λa w E I=>?_;refine IF 0 E I (λao a E=>?_) λao a E=>?_
  ·
   refine RT 3 E I ?_;exact⟨by rw[V4 p l i aF (λj hj=>hp j hj (by omega)) ao],I⟩
  refine RN 2 E I λa E=>?_;exact⟨l.length-(i+1),by omega,i+1,⟨rfl,by omega,V6 hp (λ_=>ao)⟩,E.ab [0,1,4,7,8],I⟩
 refine RT 2 E I ?_;exact⟨by rw[V5 p l (λj hj=>hp j (by omega) hj)],I⟩
theorem V9 {W w:World}{L R:List SP}{ad:Option Addr}{c f:Nat}{us:List Value}{l:List (Int×Int)}{p:Int×Int→Bool}(I:U W w L)[pk:fk L ad l.length c 245 2 (jc l) R]
   (hc:hE prog f=true) (hf:wG W L f us p) (hl:l.length≤140737488355328) :
   Calls prog 209 #[.slice ad l.length c,.func (.func f) #[] us.toArray] w λe V=>e=.returned (.bool (l.any p))∧U W V L:=by
 refine EN func209 ntmps209 rfl rfl λa E=>?_;refine CL 5 E I (Kb I hc hf hl) λa w E I=>?_;refine RT 2 E I ?_;exact⟨by rw[V3],I⟩
def bL (q:Nat)(l:List (Int×Int)):SP:=λh=>∃ i:Option Addr×Nat,cp [aa q 243 [.slice i.1 l.length i.2],Sl 245 2 i.1 l.length i.2 (jc l)] h
theorem bL.open {W w:World}{L:List SP}{q:Nat}{l:List (Int×Int)}(I:U W w (bL q l::L)) :
   ∃ ad c,U W w (aa q 243 [.slice ad l.length c]::Sl 245 2 ad l.length c (jc l)::L):=by
 obtain⟨i,_,h⟩:=I.jL (p:=λ_=>True) (B:=λi:Option Addr×Nat=>cp [aa q 243 [.slice i.1 l.length i.2],Sl 245 2 i.1 l.length i.2 (jc l)]) (λ_ ⟨i,h⟩=>⟨i,trivial,h⟩);exact⟨i.1,i.2,h.open (λ_ x=>x)⟩
theorem bL.shut {W w:World}{L R R2:List SP}{q n c:Nat}{ad:Option Addr}{cs:List Value}{l:List (Int×Int)}(I:U W w L)[k:fM L q 243 [.slice ad n c] R][k2:fk R ad n c 245 2 cs R2]
   (hn:n=l.length) (hc:cs=jc l):U W w (bL q l::R2):=by
 subst hn;subst hc;have h1:=(I.perm k.perm).perm (kq _ k2.perm);exact U.shut (M:=[_,_]) h1 λ_ x=>⟨(ad,c),x⟩
theorem Wa {W w:World}{L:List SP}(I:U W w L) :
   Calls prog 90 #[] w λe V=>∃ q,e=.returned (pt q)∧U W V (bL q []::L):=by
 refine EN func90 ntmps90 rfl rfl λa E=>?_;refine BX 4 E I λb2 a w E I=>?_;refine RT 1 E I ?_;exact⟨_,rfl,by
  have h1:=(I.bR 245 2 none);exact (bL.shut (q:=b2) (l:=[]) h1 rfl rfl).sub⟩
def qH (l:List (Int×Int))(b:Int):Bool:=decide (l.length<16)&&!l.any (λy=>decide (y.1=b))
theorem AX {W w:World}{L:List SP}{q:Nat}{l:List (Int×Int)}{b e:Int}(I:U W w (bL q l::L))(hl:l.length≤16) :
   Calls prog 182 #[pt q,.agg #[.int .i64 b,.int .i64 e]] w λr V =>
    r=.returned (.bool (qH l b))∧U W V (bL q (if qH l b then l++[(b,e)] else l)::L):=by
 obtain⟨ad,c,I⟩:=bL.open I;refine EN func182 ntmps182 rfl rfl λa E=>?_;refine BX 1 E I λb3 a w E I=>?_;refine RN 6 E I λa E=>?_;replace E:=E.aK 7;refine BY 8 E I (λl5 a E=>?_) λl5 a E=>?_
 ·
  have hm:qH l b=false:=by simp only[qH,Bool.and_eq_false_iff,rO];left;omega
  refine RT 10 E I ?_;exact⟨by rw[hm],by rw[hm,ag (by decide)];exact (bL.shut (q:=q) (ad:=ad) (l:=l) I rfl rfl).sub⟩
 refine CL 5 E I (V9 I (by kernel_rfl) V7 (by omega)) λa w E I=>?_;refine IF 1 E I (λaj a E=>?_) λaj a E=>?_
 ·
  have hm:qH l b=false:=by simp only[qH,aj,Bool.not_true,Bool.and_false]
  refine RT 2 E I ?_;exact⟨by rw[hm],by rw[hm,ag (by decide)];exact (bL.shut (q:=q) (ad:=ad) (l:=l) I rfl rfl).sub⟩
 have hm:qH l b=true:=by simp only[qH,aj,Bool.not_false,Bool.and_true,qs];omega
 refine bW 1 [5,6] [0,1,2,3,3004,1005,1006,1007,8,9,1010] E I λa w E I hH hC=>?_;refine RH 6 E I hH hC λa E=>?_;refine cn E rfl I underlying241 Ty.t245 rfl rfl rfl rfl (by decide) (by decide) λWb a w E I ho=>?_;replace hC:=hC.trans ho;clear ho;refine RH 0 E I hH hC λa E=>?_;refine cK E rfl I underlying241 Ty.t245 rfl rfl I.ai rfl (by simp[Value.oneCell']) (by decide) (by decide) (by omega) λKc Kd a w E I=>?_;refine ST 2 E I (λa w E I=>?_);refine RT 2 E I ?_;exact⟨by rw[hm],by rw[hm,ak rfl];exact (bL.shut (q:=q) (l:=l++[(b,e)]) I (by simp) (by simp[J7,jc])).sub⟩
theorem We {W w:World}{L:List SP}{q:Nat}(I:U W w (bL q []::L)) :
   Calls prog 180 #[pt q] w λr V =>
    r=.returned (.tuple #[.agg #[.int .i64 0,.int .i64 0],.bool false])∧U W V (bL q []::L):=by
 obtain⟨ad,c,I⟩:=bL.open I;refine EN func180 ntmps180 rfl rfl λa E=>?_;refine AL 1 E I λb2 a w E I=>?_;refine CL 4 E I (AW (a:=q) I) λa w E I=>?_;refine IF 1 E I (λaj a E=>?_) λaj a E=>?_
 ·
  skip
  refine SA 2 E I λa w E I=>?_;refine RT 1 E I ?_;exact⟨rfl,(bL.shut (q:=q) (ad:=ad) (l:=[]) I rfl rfl).sub⟩
 exact absurd rfl aj
theorem Wf {W w:World}{L:List SP}{q:Nat}{x:Int×Int}{l:List (Int×Int)}(I:U W w (bL q (x::l)::L)) :
   Calls prog 180 #[pt q] w λr V =>
    r=.returned (.tuple #[.agg #[.int .i64 x.1,.int .i64 x.2],.bool true])∧U W V (bL q l::L):=by
 obtain⟨ad,c,I⟩:=bL.open I;have cm:=(I.sl ad).2;refine EN func180 ntmps180 rfl rfl λa E=>?_;refine AL 1 E I λb2 a w E I=>?_;refine CL 4 E I (AW (a:=q) I) λa w E I=>?_;refine IF 1 E I (λaj a E=>?_) λaj a E=>?_
 ·
  simp at aj;omega
 refine RN 1 E I λa E=>?_;obtain⟨b,off,rfl,dh⟩:=I.bY ad (by simp);have hr:=dh.part 0 2;rw[show 0=0*2 from rfl,Ew (x::l) 0 (by simp)]at hr;refine SX 4 E I (by simp) λa E=>?_;refine RN 0 E I λa E=>?_;refine SS E (bQ E underlying245 rfl Ty.t245 (hr)) λa E=>?_;refine AL 0 E I λb4 a w E I=>?_;refine SA 0 E I λa w E I=>?_;refine SX 6 E I (by simp) λa E=>?_;replace I:=I.Dw (some ⟨b,off,none⟩) 1 (x::l).length (by simp) (bh _);refine ST 2 E I (λa w E I=>?_);refine SA 2 E I λa w E I=>?_;refine RT 1 E I ?_;exact⟨rfl,(bL.shut (q:=q) (l:=l) I (by simp) (by simp[jc];rw[fO];exact Nat.le_of_eq (pL l))).sub⟩
def kept (p:Int×Int→Bool)(l:List (Int×Int)):List (Int×Int):=l.filter λx=>!p x
theorem Ey (p:Int×Int→Bool)(l:List (Int×Int))(j:Nat)(h:j<l.length):kept p (l.take (j+1))=kept p (l.take j)++(if p l[j] then [] else [l[j]]):=by
 rw[jv h,kept,yy];cases hp:p l[j] <;> simp[kept,hp]
theorem Ke (p:Int×Int→Bool)(l:List (Int×Int))(h:fi p l = -1):kept p l=l:=by
 unfold fi at h;split at h
 ·omega
 ·rename_i h1;rw[List.findIdx_lt_length]at h1;exact List.filter_eq_self.2 λx hx=>by
   cases hp:p x with
   | false=>rfl
   | true=>exact absurd ⟨x,hx,hp⟩ h1
theorem Wg (p:Int×Int→Bool)(l:List (Int×Int))(h:¬ fi p l = -1):∃ k:Nat,fi p l=(k:Int)∧k<l.length∧kept p (l.take (k+1))=l.take k:=by
 unfold fi at h ⊢;split at h
 ·rename_i h1;refine⟨l.findIdx p,by rw[ak h1],h1,?_⟩;rw[Ey p l _ h1,List.findIdx_getElem (w:=h1),ak rfl,append_nil];refine List.filter_eq_self.2 λx hx=>?_;obtain⟨j,hj,rfl⟩:=List.mem_iff_getElem.1 hx;simp only[dH]at hj;have:=List.not_of_lt_findIdx (p:=p) (xs:=l) (i:=j) (by omega);simp at this ⊢;exact this
 ·exact absurd rfl h
theorem Wh {pre post:List Value}(l:List (Int×Int))(i:Nat)(h:i<l.length):((pre++jc l++post).drop (pre.length+i*2)).take 2=[.int .i64 l[i].1,.int .i64 l[i].2]:=by
 rw[dA,← kr,drop_left,List.drop_append_of_le_length (by rw[pL];omega),List.take_append_of_le_length (by simp[pL];omega)];exact Ew l i h
theorem Wi {pre post:List Value}(l:List (Int×Int))(i:Nat)(x:Int×Int)(h:i<l.length) :
   cD (pre++jc l++post) (pre.length+i*2) [.int .i64 x.1,.int .i64 x.2]=pre++jc (l.set i x)++post:=by
 have uM:l.set i x=l.take i++x::l.drop (i+1):=by rw[ri,ak h]
 have e1:(pre++jc l++post).take (pre.length+i*2)=pre++jc (l.take i):=by
  rw[dA,ur,fO (by omega),show pre.length+i*2-pre.length=i*2 from by omega,List.take_append_of_le_length (by rw[pL];omega),J9]
 have e2:(pre++jc l++post).drop (pre.length+i*2+2)=jc (l.drop (i+1))++post:=by
  rw[dA,Nat.add_assoc,← kr,drop_left,show i*2+2=(i+1)*2 from by omega,List.drop_append_of_le_length (by rw[pL];omega),J8]
 rw[cD,e1];show _++_++(pre++jc l++post).drop (pre.length+i*2+2)=_;rw[e2,uM,J7];simp[jc]
structure Dl (p:Int×Int→Bool)(l l':List (Int×Int))(i j:Nat):Prop where
 len:l'.length=l.length
 le:j≤l.length
 lt:i<j
 cQ:i=(kept p (l.take j)).length
 fst:l'.take i=kept p (l.take j)
 snd:l'.drop j=l.drop j
theorem Dl.get {p l l' i j}(d:Dl p l l' i j)(h:j<l.length):l'[j]'(by have:=d.len;omega)=l[j]:=by
 have h1:=d.snd;rw[kA (by have:=d.len;omega),kA h]at h1;exact (List.cons.inj h1).1
theorem Dl.ab {p l l' i j}(d:Dl p l l' i j)(h:j<l.length)(hp:p l[j]=false):Dl p l (l'.set i l[j]) (i+1) (j+1):=by
 have hi:i<l'.length:=by have:=d.len;have:=d.lt;omega
 have hk:=Ey p l j h;rw[hp]at hk;refine⟨by simp[d.len],by omega,by have:=d.lt;omega,?_,?_,?_⟩
 ·rw[hk];simp[← d.cQ]
 ·rw[hk,← d.fst,ri,ak hi,ur,fO (by simp;omega)];have:(l'.take i).length=i:=by simp;omega
  simp[this]
 ·have h1:=d.snd;rw[List.drop_set_of_lt (by have:=d.lt;omega)];have:=dG (List.drop 1) h1;simpa [kr] using this
theorem Dl.skip {p l l' i j}(d:Dl p l l' i j)(h:j<l.length)(hp:p l[j]=true):Dl p l l' i (j+1):=by
 have hk:=Ey p l j h;rw[hp]at hk;simp only[if_true,append_nil]at hk;refine⟨d.len,by omega,by have:=d.lt;omega,by rw[hk];exact d.cQ,by rw[hk];exact d.fst,?_⟩;have:=dG (List.drop 1) d.snd;simpa [kr] using this
theorem Wj {W w:World}{L:List SP}{ad:Option Addr}{c f:Nat}{us:List Value}{l:List (Int×Int)}{p:Int×Int→Bool}(I:U W w (Sl 245 2 ad l.length c (jc l)::L))
   (hc:hE prog f=true) (hf:∀ A,wG W (A::L) f us p) (jM:∀ A B,wG W (A::B::L) f us p) (hl:l.length≤140737488355328) :
   Calls prog 321 #[.slice ad l.length c,.func (.func f) #[] us.toArray] w λe V =>
    ∃ au c',e=.returned (.slice au (kept p l).length c')∧U W V (Sl 245 2 au (kept p l).length c' (jc (kept p l))::L):=by
 refine EN func321 ntmps321 rfl rfl λa E=>?_;refine CL 5 E I (Kb (p:=p) I hc (hf _) hl) λa w E I=>?_;refine IF 5 E I (λaj a E=>?_) λaj a E=>?_
 ·
  refine RT 3 E I ?_;exact⟨ad,c,by rw[Ke p l aj],by rw[Ke p l aj];exact I⟩
 obtain⟨k,hk,dS,j4⟩:=Wg p l aj;rw[hk]at E;have cm:=(I.sl ad).2;have hA:=E;obtain⟨b,pre,post,⟨df,dz,rfl,a4⟩,kv⟩:=I.lZ (by omega);have E:=hA;have I:=kv;refine RN 5 E I λa E=>?_;refine aQ (λμ a w=>∃ i j:Nat,∃ l':List (Int×Int),(μ=l.length-j∧Dl p l l' i j)∧Fr a 42 [(0,.slice (some ⟨b,pre.length,none⟩) l.length c),(1,.func (.func f) #[] us.toArray),(4,.slice none 0 0),(5,.int .i64 i),(6,.int .i64 j)]∧U W w (aa b 245 (pre++jc l'++post)::L)) (l.length-(k+1)) (⟨k,k+1,l,⟨rfl,rfl,by omega,by omega,by rw[j4];simp;omega,by rw[j4],rfl⟩,E.ab [0,1,4,5,6],I⟩) ?_;clear E I;rintro μ a w ⟨i,j,l',⟨rfl,hd⟩,E,I⟩;have tf:=hd.len;have kG:=hd.le;have hd3:=hd.lt;refine IF 6 E I (λao a E=>?_) λao a E=>?_
 ·
  have ea:j<l.length:=by omega
  have Wl:=hd.get ea;have hr:Rd w b (pre.length+j*2) [.int .i64 l[j].1,.int .i64 l[j].2]:=by
   intro q v hq;rw[I.cell];have:=Wh (pre:=pre) (post:=post) l' j (by omega);rw[Wl]at this;rw[← this]at hq;rw[rh]at hq;split at hq
   ·rw[pj]at hq;exact hq
   ·cases hq
  refine RN 5 E I λa E=>?_;refine SS E (bQ E underlying245 rfl Ty.t245 (hr)) λa E=>?_;refine AL 0 E I λdv a w E I=>?_;refine SA 0 E I λa w E I=>?_;refine CL 3 E I (jM _ _ _ l[j] I) (hf:=hc) λa w E I=>?_;refine IF 1 E I (λay a E=>?_) λay a E=>?_
  ·
   refine RN 5 E I λa E=>?_;refine rj E rfl I Ty.t245 (by simp[Value.oneCell']) (by simp[pL];omega) λa w E I=>?_;rw[Wi l' i l[j] (by omega)]at I;refine RN 6 E I λa E=>?_;exact⟨l.length-(j+1),by omega,i+1,j+1,_,⟨rfl,hd.ab ea ay⟩,E.ab [0,1,4,5,6],I.sub⟩
  refine RN 3 E I λa E=>?_;exact⟨l.length-(j+1),by omega,i,j+1,l',⟨rfl,hd.skip ea ay⟩,E.ab [0,1,4,5,6],I.sub⟩
 obtain rfl:j=l.length:=by omega
 have yp:=hd.cQ;have Kf:=hd.fst;rw[k0]at yp Kf;refine RN 4 E I λa E=>?_;rw[po (by omega)]at E;have hle:pre.length+i*2+(l.length-i)*2≤(pre++jc l'++post).length:=by simp only[aN,pL,tf];omega
 refine IW E rfl I underlying241 Ty.t245 rfl rfl hle λa w E I=>?_;refine RN 4 E I λa E=>?_;rw[po (by omega)]at E;refine RT 1 E I ?_;refine⟨some ⟨b,pre.length+0*2,none⟩,c,by rw[yp];rfl,?_⟩;generalize hz:(Builtin.zeroCells (Value.cells (.agg #[.int .i64 0,.int .i64 0])) (l.length-i)).toList=zs at I;have jt:zs.length=(l.length-i)*2:=by rw[← hz];exact x5 0 (a6:=0) rfl _
 have he:cD (pre++jc l'++post) (pre.length+i*2) zs=pre++jc (kept p l)++(zs++post):=by
  have e1:(pre++jc l'++post).take (pre.length+i*2)=pre++jc (kept p l):=by
   rw[dA,ur,fO (by omega),show pre.length+i*2-pre.length=i*2 from by omega,List.take_append_of_le_length (by rw[pL];omega),J9,Kf]
  have e2:(pre++jc l'++post).drop (pre.length+i*2+zs.length)=post:=by
   rw[jt,List.drop_append,List.drop_of_length_le (by simp only[aN,pL];omega),nil_append];simp only[aN,pL,tf];have:pre.length+i*2+(l.length-i)*2-(pre.length+l.length*2)=0:=by omega
   rw[this,drop_zero]
  rw[cD,e1,e2];simp
 rw[he]at I;exact U.iY I (pL _) (by omega) (by rw[← yp,aN,jt];omega)
theorem Kg {W:World}{L R:List SP}{b t:Nat}{x:Int} [fM L b t [.int .i64 x] R] :
   wG W L 322 [pt b] (λy=>decide (y.2<x)):=by
 rintro w ⟨Ka,V8⟩ I;refine EN func322 ntmps322 rfl rfl λa E=>?_;refine BX 1 E I λb2 a w E I=>?_;refine RT 7 E I ?_;exact⟨rfl,I.tail⟩
theorem Wm {W w:World}{L:List SP}{q:Nat}{l:List (Int×Int)}{e:Int}(I:U W w (bL q l::L))(hl:l.length≤16) :
   Calls prog 307 #[pt q,.int .i64 e] w λr V =>
    r=.returned (.int .i64 ((l.length:Int)-(kept (λy=>decide (y.2<e)) l).length))∧U W V (bL q (kept (λy=>decide (y.2<e)) l)::L):=by
 obtain⟨ad,c,I⟩:=bL.open I;have hk:(kept (λy=>decide (y.2<e)) l).length≤l.length:=qE _ _;refine EN func307 ntmps307 rfl rfl λa E=>?_;refine BX 1 E I λb3 a w E I=>?_;refine CL 3 E I (AW (a:=q) I) λa w E I=>?_;refine RN 5 E I λa E=>?_;replace E:=E.eG 9;refine aX 7 E I (Wj (I.pick (Sl 245 2 ad l.length c (jc l))) (by kernel_rfl) (p:=λy=>decide (y.2<e)) (λA=>Kg) (λA B=>Kg) (by omega)) λau c' a w E I=>?_;refine ST 2 E I (λa w E I=>?_);refine CL 3 E I (AW (a:=q) I) λa w E I=>?_;refine RT 2 E I ?_;exact⟨rfl,(bL.shut (q:=q) (ad:=au) (l:=kept (λy=>decide (y.2<e)) l) I rfl rfl).sub⟩
theorem Wn {W w:World}{L:List SP}{q:Nat}{l:List (Int×Int)}(I:U W w (bL q l::L)) :
   Calls prog 180 #[pt q] w λr V =>
    r=.returned (.tuple #[.agg #[.int .i64 (l.headD (0,0)).1,.int .i64 (l.headD (0,0)).2],.bool (!l.isEmpty)])∧U W V (bL q l.tail::L):=by
 cases l with
 | nil=>exact We I
 | cons x l=>exact Wf I
class wH (L:List SP)(q:Nat)(l:outParam (List (Int×Int)))(R:outParam (List SP)):Prop where perm:L.Perm (bL q l::R)
instance wH.head {L q l}:wH (bL q l::L) q l L:=⟨lA _⟩
instance (priority:=low) wH.tail {A L q l R}[h:wH L q l R]:wH (A::L) q l (A::R):=⟨(kq A h.perm).trans (cW _ _ _)⟩
theorem U.uN {W w:World}{L R:List SP}{l:List (Int×Int)}(I:U W w L)(q:Nat)[k:wH L q l R]:U W w (bL q l::R):=I.perm k.perm
theorem Kh {x:Int}:decide (x≠x)=false:=by simp
end
section
structure Wk where
 busy:Bool
 jb:Int
 je:Int
 x:Nat
 done:Nat
 mK:Bool
def la:Wk:=⟨false,0,0,0,0,false⟩
abbrev Js:=List (Int×Int)
def l6 (J:Js)(b e:Int):Js:=if qH J b then J++[(b,e)] else J
inductive lG (p:Pr)(A:Sn)(T:Tr)(J:Js)(k:Wk):Bool→Sn→Tr→Js→Wk→Prop
 | idle:k.busy=false→J=[]→lG p A T J k false A T J k
 | yB {j:Int×Int} {J':Js}:k.busy=false→J=j::J'→(j.2≠T.epoch∨(∀ y∈T.l,(y.id:Int)≠j.1)∨∃ x∈T.l,(x.id:Int)=j.1∧x.al.length≤x.done)→lG p A T J k true A T J' k
 | Ez {j : Int × Int} {J' : Js} {i : Nat} {x : Br} {px : aC} : k.busy = false → J = j :: J' → j.2 = T.epoch → x ∈ T.l → (x.id : Int) = j.1 → x.done < x.al.length → A.av[i]? = some px → px.id = x.snap →
     lG p A T J k true (A.add px.g px.p) T J' ⟨true,j.1,j.2,A.last+1,x.done,false⟩
 | gone:k.busy=true→(k.je≠T.epoch∨∀ y∈T.l,(y.id:Int)≠k.jb)→lG p A T J k true (A.eI k.x) T J { k with busy:=false }
 | mK {x : Br} {i : Nat} {px : aC} {p' : Nat → Nat} {b : List UInt8} : k.busy = true → k.je = T.epoch → x ∈ T.l → (x.id : Int) = k.jb → k.mK = false → A.av[i]? = some px → px.id = k.x → x.al[k.done]? = some b →
     dT (fa p (x.frm+k.done) b px.g)→lG p A T J k true { A with av:=A.av.set i ⟨px.id,px.refs,fa p (x.frm+k.done) b px.g,p'⟩ } T J { k with mK:=true }
 | failed {x:Br}:k.busy=true→k.je=T.epoch→x∈T.l→(x.id:Int)=k.jb→k.mK=false→¬ 4*A.av.length≤A.room→lG p A T J k true (A.eI k.x) T (l6 J k.jb k.je) { k with busy:=false }
 | iL {x : Br} {kk : Nat} : k.busy = true → k.je = T.epoch → T.l[kk]? = some x → (x.id : Int) = k.jb → k.mK = true → x.done < k.done + 1 → k.done + 1 ≤ x.al.length →
     lG p A T J k true (A.eI x.snap) (T.iL kk x (k.done+1) k.x) (if k.done+1<x.al.length then l6 J k.jb k.je else J) { k with busy:=false }
 | lost {x:Br}:k.busy=true→k.je=T.epoch→x∈T.l→(x.id:Int)=k.jb→k.mK=true→k.done+1≤x.done→lG p A T J k true (A.eI k.x) T (if x.done<x.al.length then l6 J k.jb k.je else J) { k with busy:=false }
def jz (ws:List Wk):List Nat:=(ws.filter (·.busy)).map (·.x)
structure Inv (p:Pr)(F:Int)(g0:Nat→Int)(t:Nat→Nat)(base:Nat)(A:Sn)(T:Tr)(ws:List Wk):Prop where
 perm:(A.av.map (·.id)).Perm (base::(T.l.map (·.snap)++jz ws))
 av:∀ x∈A.av,x.refs=1∧dT x.g
 base:∀ x∈A.av,x.id=base→x.g=g0∧x.p=t
 gk:∀ y∈T.l,y.frm=F∧∀ x∈A.av,x.id=y.snap→x.g=foldI p F g0 (y.al.take y.done)
 lH:∀ k∈ws,k.jb≤T.last∧(k.busy=true→∀ y∈T.l,(y.id:Int)=k.jb→k.done<y.al.length∧∀ x∈A.av,x.id=k.x→x.g=foldI p F g0 (y.al.take (k.done+if k.mK then 1 else 0)))
theorem j7 {α:Type}{f:α→Bool}{l:List α}{x:α}(h:x∈l.filter f):x∈l:=(List.mem_filter.1 h).1
theorem WF.oI {A:Sn}(h:WF A):(A.av.map (·.id)).Nodup:=h.sorted.imp (λh=>Nat.ne_of_lt h)
theorem WT.same {T:Tr}(h:WT T){x y:Br}(hx:x∈T.l)(hy:y∈T.l)(he:x.id=y.id):x=y:=by
 obtain⟨i,hi⟩:=j5.1 hx;obtain⟨j,hj⟩:=j5.1 hy;obtain rfl:=h.unique hj hi he;rw[hi]at hj;cases hj;rfl
theorem Wo {α:Type}{f:α→Nat}:∀ {l:List α} {i:Nat} (hd:(l.map f).Nodup) (hi:i<l.length),l.filter (λx=>f x != f l[i])=l.eraseIdx i:=by
 intro l
 induction l with
 | nil=>intro i _ hi;simp at hi
 | cons a l ih =>
  intro i hd hi;rw[map_cons,List.nodup_cons]at hd;cases i with
  | zero =>
   rw[List.getElem_cons_zero,List.filter_cons_of_neg (by simp),List.eraseIdx_cons_zero,List.filter_eq_self];intro y hy;simp only[bne_iff_ne,ne_eq];intro e;exact hd.1 (e ▸ cV.2 ⟨y,hy,rfl⟩)
  | succ i =>
   have vY:i<l.length:=by simpa using hi
   rw[List.getElem_cons_succ,List.filter_cons_of_pos,List.eraseIdx_cons_succ,ih hd.2 vY];simp only[bne_iff_ne,ne_eq];intro e;exact hd.1 (e ▸ cV.2 ⟨l[i],iI _,rfl⟩)
theorem AY {A:Sn}(hw:WF A)(hr:∀ x∈A.av,x.refs=1)(id:Nat):A.eI id={ A with av:=A.av.filter (λx=>x.id != id) }:=by
 by_cases h:∃ px∈A.av,px.id=id
 ·obtain⟨px,h1,rfl⟩:=h;obtain⟨i,hi⟩:=j5.1 h1;obtain⟨hl,he⟩:=aZ.1 hi;have h2:=Wo hw.oI hl;rw[he]at h2;rw[yw hw hi,Sn.drop,ak (hr px h1),h2]
 ·rw[Es (λy hy e=>h ⟨y,hy,e⟩),List.filter_eq_self.2];intro y hy;simp only[bne_iff_ne,ne_eq];exact λe=>h ⟨y,hy,e⟩
theorem EA {a:Nat}{l L M:List Nat}(h1:l.Perm L)(h2:L.Perm (a::M))(oI:l.Nodup):(l.filter (· != a)).Perm M:=by
 have h3:=(h1.trans h2).filter (· != a);have h4:=(h1.trans h2).nodup_iff.1 oI;rw[List.nodup_cons]at h4;have h5:M.filter (· != a)=M:=List.filter_eq_self.2 (λy hy=>by simp only[bne_iff_ne,ne_eq];intro e;exact h4.1 (e ▸ hy));rw[List.filter_cons_of_neg (by simp),h5]at h3;exact h3
theorem EB (l:List aC)(id:Nat):(l.filter (λx=>x.id != id)).map (·.id)=(l.map (·.id)).filter (· != id):=by
 rw[List.filter_map];rfl
theorem wI {k:Wk}{ws:List Wk}(h:k.busy=true):jz (k::ws)=k.x::jz ws:=by rw[jz,List.filter_cons_of_pos h,map_cons];rfl
theorem EC {k:Wk}{ws:List Wk}(h:k.busy=false):jz (k::ws)=jz ws:=by rw[jz,List.filter_cons_of_neg (by simp[h])];rfl
theorem AZ {k:Wk}{ws:List Wk}(h:k∈ws)(hb:k.busy=true):k.x∈jz ws:=cV.2 ⟨k,List.mem_filter.2 ⟨h,hb⟩,rfl⟩
theorem Inv.wJ {p:Pr}{F:Int}{g0:Nat→Int}{t:Nat→Nat}{base:Nat}{A:Sn}{T:Tr}{ws Ki:List Wk}(h:Inv p F g0 t base A T ws)(hp:ws.Perm Ki):Inv p F g0 t base A T Ki :=
 ⟨h.perm.trans ((((hp.filter _).map _).append_left _).cons _),h.av,h.base,h.gk,λk hk=>h.lH k (hp.mem_iff.2 hk)⟩
section
variable {p:Pr}{F:Int}{g0:Nat→Int}{t:Nat→Nat}{base:Nat}{A A':Sn}{T T':Tr}{J J':Js}{ws:List Wk}{k k':Wk}{r:Bool}
theorem Inv.oI (h:Inv p F g0 t base A T ws)(hA:WF A):(base::(T.l.map (·.snap)++jz ws)).Nodup:=h.perm.nodup_iff.1 hA.oI
theorem Inv.mD (h:Inv p F g0 t base A T ws){id:Nat}(hm:id∈base::(T.l.map (·.snap)++jz ws)):∃ (i:Nat) (px:aC),A.av[i]?=some px∧px.id=id:=by
 obtain⟨px,h1,h2⟩:=cV.1 (h.perm.mem_iff.2 hm);obtain⟨i,hi⟩:=j5.1 h1;exact⟨i,px,hi,h2⟩
theorem Inv.Kj (h:Inv p F g0 t base A T ws){x:Br}(hx:x∈T.l):∃ (i:Nat) (px:aC),A.av[i]?=some px∧px.id=x.snap :=
 h.mD (gU _ (List.mem_append_left _ (cV.2 ⟨x,hx,rfl⟩)))
theorem Inv.Wp (h:Inv p F g0 t base A T ws)(hk:k∈ws)(hb:k.busy=true):∃ (i:Nat) (px:aC),A.av[i]?=some px∧px.id=k.x :=
 h.mD (gU _ (List.mem_append_right _ (AZ hk hb)))
theorem Inv.rest (h:Inv p F g0 t base A T (k::ws))(hA:WF A)(hb:k.busy=true)(hj:k'.busy=false)(hl:k'.jb=k.jb):Inv p F g0 t base (A.eI k.x) T (k'::ws):=by
 rw[AY hA (λx hx=>(h.av x hx).1)];refine⟨?_,λx hx=>h.av x (j7 hx),λx hx=>h.base x (j7 hx),λy hy=>⟨(h.gk y hy).1,λx hx=>(h.gk y hy).2 x (j7 hx)⟩,λk2 ca=>?_⟩
 ·simp only;rw[EB,EC hj];refine EA h.perm ?_ hA.oI;rw[wI hb];exact (kq _ nH).trans (cW _ _ _)
 ·rcases List.mem_cons.1 ca with rfl | ca
  ·exact⟨by rw[hl];exact (h.lH k (jo ..)).1,λe=>by rw[hj]at e;cases e⟩
  ·refine⟨(h.lH k2 (gU _ ca)).1,λe y hy bX=>?_⟩;obtain⟨h1,h2⟩:=(h.lH k2 (gU _ ca)).2 e y hy bX;exact⟨h1,λx hx=>h2 x (j7 hx)⟩
theorem yC {A:Sn}(hA:WF A){i:Nat}{px v z:aC}(hi:A.av[i]?=some px)(hz:z∈A.av.set i v):z=v∨(z∈A.av∧z.id≠px.id):=by
 obtain⟨j,hj⟩:=j5.1 hz;rw[jX]at hj;split at hj
 ·split at hj
  ·cases hj;exact .inl rfl
  ·cases hj
 ·rename_i bT;exact .inr ⟨bH hj,λe=>bT (hA.ids hi hj e.symm)⟩
theorem Inv.bit (h:Inv p F g0 t base A T (k::ws))(hA:WF A)(hT:WT T)(hb:lG p A T J k r A' T' J' k'):Inv p F g0 t base A' T' (k'::ws):=by
 cases hb with
 | idle=>exact h
 | yB=>exact h
 | @Ez j J' i x px h1 h2 h3 h4 h5 h6 h7 h8 =>
  have uO:∀ z∈A.av,z.id≠A.last+1:=λz hz e=>by have:=(hA.mD z hz).2.1;omega
  have hQ:=bH h7;have hlt:∀ id∈base::(T.l.map (·.snap)++jz (k::ws)),id≠A.last+1:=λid bX e=>by
   obtain⟨z,hz,he⟩:=cV.1 (h.perm.mem_iff.2 bX);exact uO z hz (by rw[he,e])
  refine⟨?_,λz hz=>?_,λz hz he=>?_,λy hy=>⟨(h.gk y hy).1,λz hz he=>?_⟩,λk2 ca=>?_⟩
  ·simp only[Sn.add,cS,map_cons,map_nil];rw[wI rfl];have hp:=h.perm;rw[EC h1]at hp;refine (hp.append_right _).trans ((List.perm_append_singleton _ _).trans ?_);exact (cW _ _ _).trans (kq _ nH.symm)
  ·simp only[Sn.add]at hz;rcases eX.1 hz with hz | hz
   ·exact h.av z hz
   ·simp at hz;subst hz;exact⟨rfl,(h.av px hQ).2⟩
  ·simp only[Sn.add]at hz;rcases eX.1 hz with hz | hz
   ·exact h.base z hz he
   ·simp at hz;subst hz;exact absurd he.symm (hlt base (jo ..))
  ·simp only[Sn.add]at hz;rcases eX.1 hz with hz | hz
   ·exact (h.gk y hy).2 z hz he
   ·simp at hz;subst hz;exact absurd he.symm (hlt y.snap (gU _ (List.mem_append_left _ (cV.2 ⟨y,hy,rfl⟩))))
  ·rcases List.mem_cons.1 ca with rfl | ca
   ·refine⟨?_,λ_ y hy bX=>?_⟩
    ·have:=(hT.ok x h4).2.2.2;simp only;omega
    ·obtain rfl:y=x:=hT.same hy h4 (by simp only at bX;omega);refine⟨h6,λz hz he=>?_⟩;simp only[Sn.add]at hz;rcases eX.1 hz with hz | hz
     ·exact absurd he (uO z hz)
     ·simp at hz;subst hz;exact (h.gk y hy).2 px hQ h8
   ·refine⟨(h.lH k2 (gU _ ca)).1,λe y hy bX=>?_⟩;obtain⟨h9,fP⟩:=(h.lH k2 (gU _ ca)).2 e y hy bX;refine⟨h9,λz hz he=>?_⟩;simp only[Sn.add]at hz;rcases eX.1 hz with hz | hz
    ·exact fP z hz he
    ·simp at hz;subst hz;exact absurd he.symm (hlt k2.x (gU _ (List.mem_append_right _ (AZ (gU _ ca) e))))
 | gone h1 h2=>exact h.rest hA h1 rfl rfl
 | failed h1=>exact h.rest hA h1 rfl rfl
 | lost h1=>exact h.rest hA h1 rfl rfl
 | @mK x i px p' b h1 h2 h3 h4 h5 h6 h7 h8 h9 =>
  have hQ:=bH h6;have ED:=h.oI hA;rw[wI h1]at ED;have EE:(base::(T.l.map (·.snap)++k.x::jz ws)).Perm (k.x::(base::(T.l.map (·.snap)++jz ws))):=(kq _ nH).trans (cW _ _ _);have b6:=(List.nodup_cons.1 (EE.nodup_iff.1 ED)).1;have Wq:(A.av.set i ⟨px.id,px.refs,fa p (x.frm+k.done) b px.g,p'⟩).map (·.id)=A.av.map (·.id):=JD h6 rfl;refine⟨?_,λz hz=>?_,λz hz he=>?_,λy hy=>⟨(h.gk y hy).1,λz hz he=>?_⟩,λk2 ca=>?_⟩
  ·simp only;rw[Wq,wI (by exact h1)];have hp:=h.perm;rw[wI h1]at hp;exact hp
  ·rcases yC hA h6 hz with rfl | hz
   ·exact⟨(h.av px hQ).1,h9⟩
   ·exact h.av z hz.1
  ·rcases yC hA h6 hz with rfl | hz
   ·exact absurd (List.mem_cons.2 (.inl (by simp only at he;rw[← he,h7]))) b6
   ·exact h.base z hz.1 he
  ·rcases yC hA h6 hz with rfl | hz
   ·refine absurd (gU _ (List.mem_append_left _ (cV.2 ⟨y,hy,?_⟩))) b6;simp only at he;rw[← he,h7]
   ·exact (h.gk y hy).2 z hz.1 he
  ·rcases List.mem_cons.1 ca with rfl | ca
   ·have hk:=h.lH k (jo ..);refine⟨hk.1,λ_ y hy bX=>?_⟩;obtain rfl:y=x:=hT.same hy h3 (by simp only at bX;omega);obtain⟨fP,m9⟩:=hk.2 h1 y hy h4;refine⟨fP,λz hz he=>?_⟩;rcases yC hA h6 hz with rfl | hz
    ·have DY:=m9 px hQ h7;rw[h5]at DY;have Kk:y.al.take (k.done+1)=y.al.take k.done++[b]:=by
      rw[List.take_add_one,h8];rfl
     show fa p (y.frm+k.done) b px.g=foldI p F g0 (y.al.take (k.done+1));rw[Kk,Eu,dH,Nat.min_eq_left (by omega),(h.gk y hy).1,DY];simp
    ·simp only at he;exact absurd (by rw[he,h7]) hz.2
   ·have hk:=h.lH k2 (gU _ ca);refine⟨hk.1,λe y hy bX=>?_⟩;obtain⟨fP,m9⟩:=hk.2 e y hy bX;refine⟨fP,λz hz he=>?_⟩;rcases yC hA h6 hz with rfl | hz
    ·refine absurd (gU _ (List.mem_append_right _ ?_)) b6;simp only at he;rw[← h7,he];exact AZ ca e
    ·exact m9 z hz.1 he
 | @iL x kk h1 h2 h3 h4 h5 h6 h7 =>
  rw[AY hA (λx hx=>(h.av x hx).1)];have hx:=bH h3;obtain⟨dS,yD⟩:=aZ.1 h3;have hk:=h.lH k (jo ..);refine⟨?_,λz hz=>h.av z (j7 hz),λz hz=>h.base z (j7 hz),λy hy=>?_,λk2 ca=>?_⟩
  ·simp only[Tr.iL];rw[EB,EC (by rfl)];refine EA h.perm ?_ hA.oI;rw[wI h1];have e1:(T.l.map (·.snap)).Perm (x.snap::(T.l.eraseIdx kk).map (·.snap)):=by
    have:=(sQ T.l dS).map (·.snap);rw[map_cons,yD]at this;exact this
   have e2:((T.l.set kk { x with done:=k.done+1,snap:=k.x }).map (·.snap)).Perm (k.x::(T.l.eraseIdx kk).map (·.snap)):=by
    have:=(sQ (T.l.set kk { x with done:=k.done+1,snap:=k.x }) (by simpa using dS)).map (·.snap);rw[map_cons,ou,eraseIdx_set_eq]at this;exact this
   have e3:(base::(T.l.map (·.snap)++k.x::jz ws)).Perm (base::(x.snap::((T.l.eraseIdx kk).map (·.snap)++k.x::jz ws))):=(e1.append_right _).cons _;refine e3.trans ((cW _ _ _).trans (kq _ (kq _ ?_)));exact nH.trans (e2.append_right _).symm
  ·simp only[Tr.iL]at hy;rcases qA hy with hy | rfl
   ·exact⟨(h.gk y hy).1,λz hz=>(h.gk y hy).2 z (j7 hz)⟩
   ·refine⟨(h.gk x hx).1,λz hz he=>?_⟩;have:=(hk.2 h1 x hx h4).2 z (j7 hz) he;rw[h5]at this;exact this
  ·have yE : ∀ y ∈ (T.iL kk x (k.done + 1) k.x).l, ∃ y0 ∈ T.l, y0.id = y.id ∧ y0.al = y.al := fun y hy => by
    simp only[Tr.iL]at hy;rcases qA hy with hy | rfl
    ·exact⟨y,hy,rfl,rfl⟩
    ·exact⟨x,hx,rfl,rfl⟩
   rcases List.mem_cons.1 ca with rfl | ca
   ·exact⟨hk.1,λe=>by cases e⟩
   ·have mC:=h.lH k2 (gU _ ca);refine⟨mC.1,λe y hy bX=>?_⟩;obtain⟨y0,Wr,e1,e2⟩:=yE y hy;obtain⟨fP,m9⟩:=mC.2 e y0 Wr (by rw[e1];exact bX);rw[e2]at fP m9;exact⟨fP,λz hz=>m9 z (j7 hz)⟩
theorem A4 {b e:Int}(h:J.length≤16):(l6 J b e).length≤16:=by
 unfold l6;split
 ·rename_i h1;simp only[qH,fL,qs]at h1;simp;omega
 ·exact h
theorem oJ (A:Sn)(id:Nat):(A.eI id).room=A.room∧(A.eI id).n=A.n∧(A.eI id).last=A.last:=by
 unfold Sn.eI;split
 ·split
  ·simp[Sn.drop]
  ·exact⟨rfl,rfl,rfl⟩
 ·exact⟨rfl,rfl,rfl⟩
structure A5 (A:Sn)(T:Tr)(J:Js)(A':Sn)(T':Tr)(J':Js):Prop where
 room:A'.room=A.room
 n:A'.n≤A.n+1
 most:T'.most=T.most
 last:T'.last=T.last
 epoch:T'.epoch=T.epoch
 l:T'.l.map (λy=>(y.id,y.al))=T.l.map (λy=>(y.id,y.al))
 len:J.length≤16→J'.length≤16
theorem lG.Ws (hb:lG p A T J k r A' T' J' k'):A5 A T J A' T' J':=by
 cases hb with
 | idle=>exact⟨rfl,by omega,rfl,rfl,rfl,rfl,λh=>h⟩
 | yB h1 h2=>exact⟨rfl,by omega,rfl,rfl,rfl,rfl,λh=>by rw[h2,fm]at h;omega⟩
 | Ez h1 h2=>exact⟨rfl,by simp[Sn.add],rfl,rfl,rfl,rfl,λh=>by rw[h2,fm]at h;omega⟩
 | gone=>exact⟨(oJ A _).1,by rw[(oJ A _).2.1];omega,rfl,rfl,rfl,rfl,λh=>h⟩
 | mK=>exact⟨rfl,by simp,rfl,rfl,rfl,rfl,λh=>h⟩
 | failed=>exact⟨(oJ A _).1,by rw[(oJ A _).2.1];omega,rfl,rfl,rfl,rfl,A4⟩
 | lost=>exact⟨(oJ A _).1,by rw[(oJ A _).2.1];omega,rfl,rfl,rfl,rfl,λh=>by split <;> first | exact A4 h | exact h⟩
 | @iL x kk h1 h2 h3 =>
  refine⟨(oJ A _).1,by rw[(oJ A _).2.1];omega,rfl,rfl,rfl,?_,λh=>by split <;> first | exact A4 h | exact h⟩;obtain⟨dS,yD⟩:=aZ.1 h3;simp only[Tr.iL];apply ext_getElem?;intro j;simp only[bm,jX];by_cases hj:kk=j
  ·subst hj;simp[dS,yD]
  ·rw[ag hj]
end
end
section
theorem Wt {α:Type}{f:α→Nat}:∀ {l:List α},(l.map f).Nodup→∀ {x y:α},x∈l→y∈l→f x=f y→x=y:=by
 intro l
 induction l with
 | nil=>intro _ x y hx;cases hx
 | cons a l ih =>
  intro hd x y hx hy he;rw[map_cons,List.nodup_cons]at hd;rcases List.mem_cons.1 hx with uP | hx
  ·rcases List.mem_cons.1 hy with EF | hy
   ·rw[uP,EF]
   ·exact absurd (cV.2 ⟨y,hy,by rw[← he,uP]⟩) hd.1
  ·rcases List.mem_cons.1 hy with EF | hy
   ·exact absurd (cV.2 ⟨x,hx,by rw[he,EF]⟩) hd.1
   ·exact ih hd.2 hx hy he
theorem WF.eI {A:Sn}(hw:WF A)(hr:∀ x∈A.av,x.refs=1)(id:Nat):WF (A.eI id):=by
 by_cases h:∃ px∈A.av,px.id=id
 ·obtain⟨px,h1,rfl⟩:=h;obtain⟨i,hi⟩:=j5.1 h1;rw[yw hw hi,Sn.drop,ak (hr px h1)];exact hw.erase i
 ·rw[Es (λy hy e=>h ⟨y,hy,e⟩)];exact hw
theorem Wu:∀ (l:List Br) {A:Sn},WF A→(∀ x∈A.av,x.refs=1)→A.gQ l={ A with av:=A.av.filter (λx=>!(l.map (·.snap)).contains x.id) }:=by
 intro l
 induction l with
 | nil =>
  intro A hw hr;have:A.av.filter (λx=>!(([]:List Br).map (·.snap)).contains x.id)=A.av:=List.filter_eq_self.2 λx _=>rfl;rw[this];rfl
 | cons y l ih =>
  intro A hw hr;have h1:A.gQ (y::l)=(A.eI y.snap).gQ l:=rfl;have h2:=AY hw hr y.snap;have h3:∀ x∈(A.eI y.snap).av,x.refs=1:=by rw[h2];exact λx hx=>hr x (j7 hx)
  rw[h1,ih (hw.eI hr _) h3,h2];simp only[List.filter_filter]
  congr 1
  refine List.filter_congr λx _=>?_;simp only[map_cons,List.contains_cons,Bool.not_or];rw[Bool.and_comm];rfl
theorem Wv {base:Nat}{l:List Br}{f:Br→Bool}{H M:List Nat}(hp:M.Perm (base::(l.map (·.snap)++H)))(oI:M.Nodup) :
   (M.filter (λid=>!((l.filter f).map (·.snap)).contains id)).Perm (base::((l.filter (λx=>!f x)).map (·.snap)++H)):=by
 have h1:=hp.nodup_iff.1 oI;have h2:=hp.filter (λid=>!((l.filter f).map (·.snap)).contains id);have h3:=List.nodup_cons.1 h1;have h4:=List.nodup_append.1 h3.2;have yF:∀ id,id∈(l.filter f).map (·.snap)→id∈l.map (·.snap):=λid h=>by
  obtain⟨y,hy,rfl⟩:=cV.1 h;exact cV.2 ⟨y,j7 hy,rfl⟩
 have hb:(!((l.filter f).map (·.snap)).contains base)=true:=by
  simp only[Bool.not_eq_true',List.contains_eq_mem,rO];exact λh=>h3.1 (List.mem_append_left _ (yF _ h))
 have hH:H.filter (λid=>!((l.filter f).map (·.snap)).contains id)=H:=List.filter_eq_self.2 λz hz=>by
  simp only[Bool.not_eq_true',List.contains_eq_mem,rO];exact λh=>h4.2.2 z (yF _ h) z hz rfl
 have hl:(l.map (·.snap)).filter (λid=>!((l.filter f).map (·.snap)).contains id)=(l.filter (λx=>!f x)).map (·.snap):=by
  rw[List.filter_map]
  congr 1
  refine List.filter_congr λy hy=>?_;simp only[Function.comp]
  congr 1
  cases hf:f y with
  | true =>
   simp only[List.contains_eq_mem,qs];exact cV.2 ⟨y,List.mem_filter.2 ⟨hy,hf⟩,rfl⟩
  | false =>
   simp only[List.contains_eq_mem,rO];intro h;obtain⟨z,hz,he⟩:=cV.1 h;obtain⟨cv,ew⟩:=List.mem_filter.1 hz;have:=Wt h4.1 cv hy he;rw[this,hf]at ew;cases ew
 rw[List.filter_cons,ak hb,yy,hl,hH]at h2;exact h2
section
variable {p:Pr}{F:Int}{g0:Nat→Int}{t:Nat→Nat}{base:Nat}{A:Sn}{T:Tr}{ws:List Wk}{k:Wk}{px:aC}{P:List (List UInt8)}{i:Nat}
theorem Inv.cut (h:Inv p F g0 t base A T ws)(hA:WF A)(f:Br→Bool):Inv p F g0 t base (A.gQ (T.l.filter f)) (T.cut f) ws:=by
 rw[Wu _ hA (λx hx=>(h.av x hx).1)];refine⟨?_,λx hx=>h.av x (j7 hx),λx hx=>h.base x (j7 hx),λy hy=>⟨(h.gk y (j7 hy)).1,λx hx=>(h.gk y (j7 hy)).2 x (j7 hx)⟩,λk hk=>⟨(h.lH k hk).1,λe y hy bX=>?_⟩⟩
 ·simp only[Tr.cut];have h1:=Wv (f:=f) h.perm hA.oI;have h2:(A.av.filter (λx=>!((T.l.filter f).map (·.snap)).contains x.id)).map (·.id)=(A.av.map (·.id)).filter (λid=>!((T.l.filter f).map (·.snap)).contains id):=by
   rw[List.filter_map];rfl
  rw[h2];exact h1
 ·obtain⟨h1,h2⟩:=(h.lH k hk).2 e y (j7 hy) bX;exact⟨h1,λx hx=>h2 x (j7 hx)⟩
theorem Inv.Ww (h:Inv p F g0 t base A T ws)(hA:WF A)(hT:WT T)(hi:A.av[i]?=some px)(hb:px.id=base):Inv p F g0 t base (A.add px.g px.p) (T.add F P (A.last+1)) ws:=by
 have hQ:=bH hi;have uO:∀ z∈A.av,z.id≠A.last+1:=λz hz e=>by have:=(hA.mD z hz).2.1;omega
 have hlt:∀ id∈base::(T.l.map (·.snap)++jz ws),id≠A.last+1:=λid bX e=>by
  obtain⟨z,hz,he⟩:=cV.1 (h.perm.mem_iff.2 bX);exact uO z hz (by rw[he,e])
 have cF:∀ z∈(A.add px.g px.p).av,z∈A.av∨z=⟨A.last+1,1,px.g,px.p⟩:=λz hz=>by
  simp only[Sn.add]at hz;rcases eX.1 hz with hz | hz
  ·exact .inl hz
  ·simp at hz;exact .inr hz
 refine⟨?_,λz hz=>?_,λz hz he=>?_,λy hy=>?_,λk hk=>⟨?_,λe y hy bX=>?_⟩⟩
 ·simp only[Sn.add,Tr.add,cS,map_cons,map_nil];refine (h.perm.append_right _).trans ((List.perm_append_singleton _ _).trans ((cW _ _ _).trans (kq _ ?_)));rw[dA];exact nH.symm
 ·rcases cF z hz with hz | rfl
  ·exact h.av z hz
  ·exact⟨rfl,(h.av px hQ).2⟩
 ·rcases cF z hz with hz | rfl
  ·exact h.base z hz he
  ·exact absurd he.symm (hlt base (jo ..))
 ·simp only[Tr.add]at hy;rcases eX.1 hy with hy | hy
  ·refine⟨(h.gk y hy).1,λz hz he=>?_⟩;rcases cF z hz with hz | rfl
   ·exact (h.gk y hy).2 z hz he
   ·exact absurd he.symm (hlt y.snap (gU _ (List.mem_append_left _ (cV.2 ⟨y,hy,rfl⟩))))
  ·simp at hy;subst hy;refine⟨rfl,λz hz he=>?_⟩;rcases cF z hz with hz | rfl
   ·exact absurd he (uO z hz)
   ·exact (h.base px hQ hb).1
 ·have:=(h.lH k hk).1;simp only[Tr.add];omega
 ·have gZ:=(h.lH k hk).1;simp only[Tr.add]at hy;rcases eX.1 hy with hy | hy
  ·obtain⟨h1,h2⟩:=(h.lH k hk).2 e y hy bX;refine⟨h1,λz hz he=>?_⟩;rcases cF z hz with hz | rfl
   ·exact h2 z hz he
   ·exact absurd he.symm (hlt k.x (gU _ (List.mem_append_right _ (AZ hk e))))
  ·simp at hy;subst hy;simp only at bX;omega
theorem Inv.len (h:Inv p F g0 t base A T ws):A.av.length=1+T.l.length+(jz ws).length:=by
 have:=h.perm.length_eq;simp only[bf,fm,aN]at this;omega
end
end
section
section
variable {P:Program}{ops:Array Oper}{Q:Exit→Act→World→Prop}{a:Act}{w V W:World}{K:Act→World→Prop}{n d:Nat}{l:List (Nat×Value)}{v:Value}{L R:List SP}
theorem Wx {t u ty e:TypeId}{k c a6:Nat}{z:Value}{ad:Option Addr}{cs:List Value}(ht:P.underlying t=some (.slice e))(hu:P.underlying u=some .string)(hi:TI P e z 1 a6)(hz:z.cells.size=1)(s:U W w (Sl e 1 ad k c cs::L))
   (hc:0<c) (str:ByteArray) (hb:0<a6) (aE:(k+str.size)*a6≤140737488355328) :
   ∃ au c' V,(Builtin.append_ #[t,u] ty #[.slice ad k c,.string str]).run P w=.ok (.slice au (k+str.size) c') V∧U W V (Sl e 1 au (k+str.size) c' (cs++bc str.data.toList)::L):=by
 obtain⟨i,lB,dN,kW,mw⟩:=info_parts hi.h;have qp:=s.sl ad;have A6:(bc str.data.toList).length=str.size:=Lib.strCells_length str;obtain⟨b,pre,post,⟨df,dz,rfl,a4⟩,s2⟩:=s.lZ hc;by_cases nI:k+str.size≤c
 ·have eO:(c-k)*1 ≥ str.size:=by omega
  have hf:=Lib.run_firstCells_string (P:=P) w 1 str;have aT:=run_storeCells_at (P:=P) b (pre.length+k) e (bc str.data.toList) 0 (pre++cs++post).toArray w s2.has.2 (by simp[A6];omega) (eF _);have e1:(pre++cs++post).take (pre.length+k)=pre++cs:=by
   have:pre.length+k=(pre++cs).length:=by simp;omega
   rw[this,List.take_left]
  have e2:(pre++cs++post).drop (pre.length+k+0+(bc str.data.toList).length)=post.drop str.size:=by
   have:pre.length+k=(pre++cs).length:=by simp;omega
   rw[this,Nat.add_zero,A6,← kr,drop_left]
  refine⟨some ⟨b,pre.length,none⟩,c,w.setRow b (pre++(cs++bc str.data.toList)++post.drop str.size).toArray,?_,?_⟩
  ·have rk:(storeCells ⟨b,pre.length+k,none⟩ (bc str.data.toList) 0).run P w=.ok () (w.setRow b (((pre++cs++post).take (pre.length+k)++bc str.data.toList)++(pre++cs++post).drop (pre.length+k+0+(bc str.data.toList).length)).toArray):=aT;rw[e1,e2]at rk;have jM:(Builtin.firstCells 1 str.size (.string str)).run P w=.ok (bc str.data.toList).toArray w:=hf;simp[Builtin.append_,eW ht,eW hu,sizeOf,typeInfo,lB,Builtin.lenOf,nI,jU,kW,jM,rk,dA]
  ·exact U.iY (pre:=pre) (post:=post.drop str.size) s2.setRow (by simp[A6];omega) (by omega) (by simp;omega)
 ·have QG:k+str.size≤140737488355328:=gC (Nat.le_mul_of_pos_right _ hb) aE;have nK:=grownCap_ge w (k+str.size) c e;have QI:(Builtin.zeroCells z.cells (grownCap w (k+str.size) c e-(k+str.size))).toList.length=(grownCap w (k+str.size) c e-(k+str.size))*1:=x5 e (a6:=a6) hz _;have holds:∀ j v,cs[j]?=some v→w.cell? ((⟨b,pre.length,none⟩:Addr).add j)=some v:=by
   intro j v hj;rw[jU,s2.cell];have:j<cs.length:=(aZ.1 hj).1;rw[mv (by simp;omega),pn (by omega)];simpa using hj
  have fl:Builtin.nextslicecap (k+str.size) c*i.bytes≤281474976710656:=by rw[mw];exact growslice_fits (by omega) aE
  have hr:=Lib.run_append_grow_string (P:=P) w t u ty e i z ht hu lB dN ⟨b,pre.length,none⟩ k c cs (by rw[kW];exact df) holds str (by omega) (by omega) fl;refine⟨_,_,_,hr,?_⟩;have s3:=(s.tail.drew).alloc (.cells (cs.toArray++(bc str.data.toList).toArray++Builtin.zeroCells z.cells (grownCap w (k+str.size) c e-(k+str.size))) e)
  have Dv : U W (w.drew.alloc (.cells (cs.toArray ++ (bc str.data.toList).toArray ++ Builtin.zeroCells z.cells (grownCap w (k + str.size) c e - (k + str.size))) e))
      (aa w.heap.size e ([]++(cs++bc str.data.toList)++(Builtin.zeroCells z.cells (grownCap w (k+str.size) c e-(k+str.size))).toList)::L):=by
   have:(cs.toArray++(bc str.data.toList).toArray++Builtin.zeroCells z.cells (grownCap w (k+str.size) c e-(k+str.size)))=([]++(cs++bc str.data.toList)++(Builtin.zeroCells z.cells (grownCap w (k+str.size) c e-(k+str.size))).toList).toArray:=by
    apply Array.ext';simp
   rw[this]at s3 ⊢;exact s3
  exact U.iY (pre:=[]) Dv (by simp[A6];omega) nK (by omega)
theorem Wy {s x t u z a6 str e ad k c ty ps af g}{cs:List Value}(E:Fr a n l)(hw:Region.wanted ⟨some d,.call ⟨.builtin .append,#[s,x],#[t,u]⟩,ty,ps,af,g⟩ (yielded ops a.tmps)=true)(I:U W w L)
   (ht:P.underlying t=some (.slice e)) (hu:P.underlying u=some .string) (hi:TI P e z 1 a6) (hz:z.cells.size=1) (hf:okB d n l=true)
   [e1:Ev l s (.slice ad k c)] [pk:fk L ad k c e 1 cs R] [e2:Ev l x (.string str)] (hc:0<c) (hb:0<a6) (aE:(k+str.size)*a6≤140737488355328)
   (h:∀ au c' a' V,Fr a' n ((d,.slice au (k+str.size) c')::l)→U W V (Sl e 1 au (k+str.size) c' (cs++bc str.data.toList)::R)→K a' V) :
   cH P ops Q ⟨some d,.call ⟨.builtin .append,#[s,x],#[t,u]⟩,ty,ps,af,g⟩ K a w:=by
 obtain⟨au,c',V,h2,h3⟩:=Wx (P:=P) (ty:=ty) ht hu hi hz (I.perm pk.perm) hc str hb aE;exact bu E hw (by simp[execOp,resolve,e1.ev a n E,e2.ev a n E,invoke,builtin,h2]) hf λa' de=>h _ _ a' _ de h3
end
theorem wrap_u64 (x:Int):IntKind.u64.wrap x=x%18446744073709551616:=by simp[IntKind.wrap,IntKind.signed,IntKind.bits]
theorem wrap_u32 (x:Int):IntKind.u32.wrap x=x%4294967296:=by simp[IntKind.wrap,IntKind.signed,IntKind.bits]
theorem wrap_u8 (x:Int):IntKind.u8.wrap x=x%256:=by simp[IntKind.wrap,IntKind.signed,IntKind.bits]
theorem Kl {x:Nat}(h:x<18446744073709551616):IntKind.u64.wrap ((BitVec.ofInt IntKind.u64.bits (if IntKind.u64.signed then -1 else IntKind.u64.max) ^^^ BitVec.ofInt IntKind.u64.bits (x:Int)).toNat)=((18446744073709551615-x:Nat):Int):=by
 have e:BitVec.ofInt IntKind.u64.bits (if IntKind.u64.signed then -1 else IntKind.u64.max)=BitVec.allOnes 64:=by
  show BitVec.ofInt 64 IntKind.u64.max=_;decide
 rw[e];have e2:BitVec.ofInt IntKind.u64.bits (x:Int)=BitVec.ofNat 64 x:=by
  show BitVec.ofInt 64 (x:Int)=_;exact BitVec.ofInt_natCast 64 x
 rw[e2];show IntKind.u64.wrap (((BitVec.allOnes 64 ^^^ BitVec.ofNat 64 x).toNat:Nat):Int)=_;rw[BitVec.allOnes_xor,BitVec.toNat_not,BitVec.toNat_ofNat,wrap_u64];rw[kX (show x<2 ^ 64 from h)];omega
theorem Wz {x:Nat}(h:x<256):IntKind.u8.wrap ((BitVec.ofInt IntKind.u8.bits (x:Int) ||| BitVec.ofInt IntKind.u8.bits 128).toNat)=((x%128+128:Nat):Int):=by
 have:∀ y:Fin 256,IntKind.u8.wrap ((BitVec.ofInt IntKind.u8.bits ((y.val:Nat):Int) ||| BitVec.ofInt IntKind.u8.bits 128).toNat)=((y.val%128+128:Nat):Int):=by decide +kernel
 exact this ⟨x,h⟩
theorem ld (x j:Nat):(x:Int).fdiv (j:Int)=((x/j:Nat):Int):=by
 rw[Int.natCast_ediv,Int.fdiv_eq_ediv_of_nonneg _ (by omega)]
def aO (u:Nat):List UInt8:=if h:u≤127 then [UInt8.ofNat u] else UInt8.ofNat (u%128+128)::aO (u/128)
termination_by u
decreasing_by omega
theorem qI {u:Nat}(h:u≤127):aO u=[UInt8.ofNat u]:=by rw[aO,dif_pos h]
theorem wK {u:Nat}(h:¬ u≤127):aO u=UInt8.ofNat (u%128+128)::aO (u/128):=by rw[aO,dif_neg h]
theorem rP (u:Nat):1≤(aO u).length:=by
 rw[aO];split <;> simp
theorem qJ:∀ (k u:Nat),u<128 ^ (k+1)→(aO u).length≤k+1
 | 0,u,h=>by rw[qI (by simpa using (by omega:u≤127))];simp
 | k+1,u,h=>by
  by_cases hu:u≤127
  ·rw[qI hu];simp
  ·rw[wK hu,fm];have:=qJ k (u/128) (by rw[Nat.pow_succ]at h;omega);omega
def zz (n:Int):Nat:=if n<0 then (-2*n-1).toNat else (2*n).toNat
section
variable {W w:World}{L:List SP}{c:Nat}{ad:Option Addr}{bs:List UInt8}
theorem tg {N:Int}(I:U W w (Sl 5 1 ad bs.length c (bc bs)::L))(h1:-9223372036854775808≤N)(h2:N≤9223372036854775807)(hb:bs.length≤1099511627776) :
   Calls prog 198 #[.slice ad bs.length c,.int .i64 N] w λe V=>∃ au c',e=.returned (.slice au (bs++aO (zz N)).length c')∧U W V (Sl 5 1 au (bs++aO (zz N)).length c' (bc (bs++aO (zz N)))::L):=by
 refine EN func198 ntmps198 rfl rfl λa E=>?_;refine RN 4 E I λa E=>?_;refine SS E (gr E underlying2 underlying319) λa E=>?_;refine RN 1 E I λa E=>?_;rw[wrap_u64,wrap_u64]at E;refine RN 1 E I λa E=>?_;obtain⟨U0,EG⟩:∃ U0:Nat,(N%18446744073709551616*2 ^ 1)%18446744073709551616=(U0:Int):=⟨((N%18446744073709551616*2 ^ 1)%18446744073709551616).toNat,by omega⟩;rw[EG]at E;have EH:U0<18446744073709551616:=by omega
 refine cc (M:=λa w=>Fr a 28 [(0,.slice ad bs.length c),(5,.int .u64 ((zz N:Nat):Int))]∧U W w (Sl 5 1 ad bs.length c (bc bs)::L)) ?_ ?_
 ·
  refine IF 3 E I (λaj a E=>?_) λaj a E=>?_
  ·
   refine RN 2 E I λa E=>?_;rw[Kl EH]at E;refine RN 1 E I λa E=>?_;rw[show 18446744073709551615-U0=zz N from by rw[zz,ak aj];omega]at E;exact⟨E.ab [0,5],I⟩
  refine RN 0 E I λa E=>?_;rw[show U0=zz N from by rw[zz,ag (by omega)];omega]at E;exact⟨E.ab [0,5],I⟩
 clear E;(try clear I);rintro a w ⟨E,I⟩;refine RN 1 E I λa E=>?_;refine aQ (λμ a w=>∃ (ej c':Nat) (au:Option Addr) (dn:List UInt8),(μ=ej∧dn++aO ej=bs++aO (zz N)∧ej≤zz N)∧Fr a 28 [(0,.slice au dn.length c'),(5,.int .u64 (ej:Int))]∧U W w (Sl 5 1 au dn.length c' (bc dn)::L)) (zz N) (⟨zz N,c,ad,bs,⟨rfl,rfl,by omega⟩,E.ab [0,5],I⟩) ?_;clear E I;rintro μ a w ⟨ej,c',au,dn,⟨yG,c7,WA⟩,E,I⟩;refine RN 2 E I λa E=>?_;have cv:zz N<18446744073709551616:=by rw[zz];split <;> omega
 have gF:=qJ 9 (zz N) (by simp;omega);have mL:dn.length≤bs.length+10:=by
  have:=dG List.length c7;rw[aN,aN]at this;omega
 clear gF;refine IF 2 E I (λao a E=>?_) λao a E=>?_
 ·
  refine RN 3 E I λa E=>?_;refine SS E (gr E underlying319 underlying5) λa E=>?_;rw[wrap_u8,show (ej:Int)%256=((ej%256:Nat):Int) from by omega]at E;refine RN 1 E I λa E=>?_;rw[Wz (Nat.mod_lt _ (by decide)),show ej%256%128=ej%128 from by omega]at E;refine cn E rfl I underlying22 Ty.t5 rfl rfl rfl rfl (by decide) (by decide) λna a w E I ho=>?_;clear ho;refine RN 0 E I λa E=>?_;refine cK E rfl I underlying22 Ty.t5 rfl rfl I.ai rfl (by simp[Value.oneCell']) (by decide) (by decide) (by omega) λyH EI a w E I=>?_;have aT:bc dn++[[Value.int .u8 ((ej%128+128:Nat):Int)]].flatten=bc (dn++[UInt8.ofNat (ej%128+128)]):=by
   simp[bc,UInt8.toNat_ofNat'];omega
  rw[aT]at I;refine RN 4 E I λa E=>?_;rw[show ((ej:Int).fdiv (2 ^ 7))=((ej/128:Nat):Int) from ld ej 128]at E;exact⟨ej/128,by omega,ej/128,_,yH,dn++[UInt8.ofNat (ej%128+128)],⟨rfl,by rw[← c7,wK (u:=ej) (by omega),dA];rfl,by omega⟩,by rw[aN];exact E.ab [0,5],by rw[aN];exact I.sub⟩
 refine RN 3 E I λa E=>?_;refine SS E (gr E underlying319 underlying5) λa E=>?_;rw[wrap_u8,show (ej:Int)%256=((ej:Nat):Int) from by omega]at E;refine RN 0 E I λa E=>?_;refine cn E rfl I underlying22 Ty.t5 rfl rfl rfl rfl (by decide) (by decide) λKm a w E I ho=>?_;clear ho;refine RN 0 E I λa E=>?_;refine cK E rfl I underlying22 Ty.t5 rfl rfl I.ai rfl (by simp[Value.oneCell']) (by decide) (by decide) (by omega) λEJ EK a w E I=>?_;have aT:bc dn++[[Value.int .u8 ((ej:Nat):Int)]].flatten=bc (dn++[UInt8.ofNat ej]):=by
  simp[bc,UInt8.toNat_ofNat'];omega
 rw[aT,← qI (by omega),c7]at I;refine RT 1 E I ?_;have hl:dn.length+1=(bs++aO (zz N)).length:=by rw[← c7,qI (by omega),aN];rfl
 rw[hl]at I ⊢;exact⟨_,_,rfl,I.sub⟩
theorem WB {s:ByteArray}(I:U W w L)(aE:s.size≤1099511627776) :
   Calls prog 199 #[.slice none 0 0,.string s] w λe V=>∃ au c',e=.returned (.slice au (aO (zz s.size)++s.data.toList).length c')∧U W V (Sl 5 1 au (aO (zz s.size)++s.data.toList).length c' (bc (aO (zz s.size)++s.data.toList))::L):=by
 have yI:s.data.toList.length=s.size:=rfl;refine EN func199 ntmps199 rfl rfl λa E=>?_;refine aX 6 E I (tg (bs:=[]) (N:=s.size) (I.bR 5 1 none) (by omega) (by omega) (by simp)) λcX dU a w E I=>?_;rw[nil_append]at E I;have gF:=rP (zz s.size);have hZ:=qJ 9 (zz s.size) (by rw[zz];split <;> (simp;omega));have JE:=(I.sl cX).2;refine RN 1 E I λa E=>?_;refine Wy E rfl I underlying22 underlying9 Ty.t5 rfl rfl (by omega) (by decide) (by omega) λafN A7 a w E I=>?_;rw[show (aO (zz s.size)).length+s.size=(aO (zz s.size)++s.data.toList).length from by rw[aN];rfl]at E I;rw[show bc (aO (zz s.size))++bc s.data.toList=bc (aO (zz s.size)++s.data.toList) from by simp[bc]]at I;refine RT 1 E I ?_;exact⟨_,_,rfl,I.sub⟩
end
end
section
section
variable {W w:World}{L:List SP}{n:Nat}{s:ByteArray}
theorem WD {r:Nat}(I:U W w L):Calls prog 239 #[.int .i32 r] w λe V=>e=.returned (.int .i64 (nV r))∧U W V L:=by
 refine EN func239 ntmps239 rfl rfl λa E=>?_;refine IF 7 E I (λaj a E=>?_) λaj a E=>?_
 ·
  refine RT 2 E I ?_;exact⟨by rw[nV,ak (by omega)];rfl,I⟩
 refine IF 4 E I (λao a E=>?_) λao a E=>?_
 ·
  refine RT 2 E I ?_;exact⟨by rw[nV,ag (by omega),ak (by omega)];rfl,I⟩
 refine IF 4 E I (λay a E=>?_) λay a E=>?_
 ·
  refine RT 2 E I ?_;exact⟨by rw[nV,ag (by omega),ag (by omega),ak (by omega)];rfl,I⟩
 refine RT 2 E I ?_;exact⟨by rw[nV,ag (by omega),ag (by omega),ag (by omega)];rfl,I⟩
theorem Kn {α:Type}(l:List α)(x:α)(f:α→Bool):(l++[x]).all f=(l.all f&&f x):=by simp
theorem WE (I:U W w L)(aE:s.size≤1099511627776):Calls prog 228 #[.string s] w λe V=>e=.returned (.bool ((ei s 0).all mI))∧U W V L:=by
 refine EN func228 ntmps228 rfl rfl λa E=>?_;refine RN 7 E I λa E=>?_;refine DP E rfl I underlying9 rfl λdv a w E I ho=>?_;clear ho;refine RN 0 E I λa E=>?_;refine aQ (λμ a w=>∃ (pos n:Nat) (dn:List (Nat×Nat)),(μ=s.size-pos∧pos≤s.size∧ei s 0=dn++ei s pos∧((dn.all mI=true∧n=pos)∨(dn.all mI=false∧n=pos+2)))∧Fr a 23 [(0,.string s),(3,.int .i64 n),(7,pt dv)]∧U W w (kV dv (.stringIter s pos)::L)) (s.size) (⟨0,0,[],⟨by simp,by simp,by simp,.inl ⟨rfl,rfl⟩⟩,E.ab [0,3,7],I⟩) ?_;clear E I;rintro μ a w ⟨pos,n,dn,⟨rfl,qv,c7,hg⟩,E,I⟩;refine RN 1 E I λa E=>?_;refine DR E rfl I rfl λa w E I=>?_;refine RN 0 E I λa E=>?_;refine SS E (om E (DM s pos)) λa E=>?_;refine IF 1 E I (λaj a E=>?_) λaj a E=>?_
 ·
  have nc:=rK aj;have jA:=Et qv;have pM:ee s pos=pos+(Utf8.decode s pos).2:=by rw[ee,ak aj]
  have lI:=uK s pos;refine RN 1 E I λa E=>?_;refine SS E (om E (RF aj)) λa E=>?_;refine RN 0 E I λa E=>?_;refine SS E (om E (DO aj)) λa E=>?_;refine IF 7 E I (λao a E=>?_) λao a E=>?_
  ·
   have WG:dn.all mI=false:=by
    rcases hg with ⟨_,h⟩ | ⟨h,_⟩
    ·omega
    ·exact h
   refine RT 2 E I ?_;exact⟨by rw[c7,List.all_append,WG,Bool.false_and],I.sub⟩
  obtain⟨nd,hn⟩:=hg.resolve_right (λh=>by omega);have WH:nV (Utf8.decode s pos).1≤4:=by unfold nV;(repeat' split) <;> omega
  refine CL 2 E I (WD I) λa w E I=>?_;refine RN 2 E I λa E=>?_;refine⟨s.size-ee s pos,by omega,ee s pos,n+nV (Utf8.decode s pos).1,dn++[Utf8.decode s pos],⟨rfl,jA,by rw[c7,nc,dA];rfl,?_⟩,E.ab [0,3,7],I.sub⟩;rw[Kn,nd,Bool.true_and];rcases J3 s pos with h | h
  ·refine .inl ⟨?_,by omega⟩;simp only[mI,Bool.not_eq_true',rO];intro e;rw[e]at h;simp[nV]at h
  ·refine .inr ⟨by simp[mI,h],?_⟩;rw[pM,h];simp[nV];omega
 refine RN 1 E I λa E=>?_;have gH:pos=s.size:=by omega
 have gI:=rL (s:=s) (pos:=pos) (by omega);rw[gI,append_nil]at c7;refine RT 5 E I ?_;refine⟨?_,I.sub⟩;rw[c7];rcases hg with ⟨h,h2⟩ | ⟨h,h2⟩
 ·rw[h,dp (by omega)]
 ·rw[h,bn (by omega)]
theorem WI (I:U W w L)(aE:s.size≤1099511627776):Calls prog 197 #[.string s] w λe V=>e=.returned (.bool (pK s))∧U W V L:=by
 refine EN func197 ntmps197 rfl rfl λa E=>?_;refine RN 7 E I λa E=>?_;refine DP E rfl I underlying9 rfl λdv a w E I ho=>?_;clear ho;refine RN 0 E I λa E=>?_;refine aQ (λμ a w=>∃ (pos:Nat) (dn:List (Nat×Nat)),(μ=s.size-pos∧pos≤s.size∧ei s 0=dn++ei s pos∧dn.all kH=true∧dn.length≤pos)∧Fr a 29 [(0,.string s),(3,.int .i64 dn.length),(7,pt dv)]∧U W w (kV dv (.stringIter s pos)::L)) (s.size) (⟨0,[],⟨by simp,by simp,by simp,rfl,by simp⟩,E.ab [0,3,7],I⟩) ?_;clear E I;rintro μ a w ⟨pos,dn,⟨rfl,qv,c7,hg,mL⟩,E,I⟩;refine RN 1 E I λa E=>?_;refine DR E rfl I rfl λa w E I=>?_;refine RN 0 E I λa E=>?_;refine SS E (om E (DM s pos)) λa E=>?_;refine IF 1 E I (λaj a E=>?_) λaj a E=>?_
 ·
  have nc:=rK aj;have jA:=Et qv;have pM:ee s pos=pos+(Utf8.decode s pos).2:=by rw[ee,ak aj]
  have lI:=uK s pos;refine RN 1 E I λa E=>?_;refine SS E (om E (DO aj)) λa E=>?_;refine BY 6 E I (λbA a E=>?_) λbA a E=>?_
  ·
   have j8:kH (Utf8.decode s pos)=false:=by simp[kH];omega
   refine RT 6 E I ?_;refine⟨?_,I.sub⟩;have:(ei s 0).all kH=false:=by rw[c7,nc,List.all_append,List.all_cons,j8];simp
   rw[pK,this];simp
  refine IF 3 E I (λao a E=>?_) λao a E=>?_
  ·
   have j8:kH (Utf8.decode s pos)=false:=by simp[kH];omega
   refine RT 2 E I ?_;refine⟨?_,I.sub⟩;have:(ei s 0).all kH=false:=by rw[c7,nc,List.all_append,List.all_cons,j8];simp
   rw[pK,this];simp
  refine RN 3 E I λa E=>?_;exact⟨s.size-ee s pos,by omega,ee s pos,dn++[Utf8.decode s pos],⟨rfl,jA,by rw[c7,nc,dA];rfl,by rw[Kn,hg];simp[kH];omega,by rw[aN];simp;omega⟩,by rw[aN];exact E.ab [0,3,7],I.sub⟩
 refine RN 1 E I λa E=>?_;have gI:=rL (s:=s) (pos:=pos) (by omega);rw[gI,append_nil]at c7;have oK:pK s=(decide (1≤dn.length)&&decide (dn.length≤20)&&(ei s 0).all mI):=by rw[pK,c7,hg];simp
 refine BY 3 E I (λbA a E=>?_) λbA a E=>?_
 ·
  refine BY 4 E I (λj9 a E=>?_) λj9 a E=>?_
  ·
   refine CL 1 E I (WE I aE) λa w E I=>?_;refine RT 2 E I ?_;refine⟨?_,I.sub⟩;rw[oK]
   first
    | (rw[bn (show ¬ 1≤dn.length by omega)];rfl)
    | (rw[bn (show ¬ dn.length≤20 by omega)];simp;done)
    | (rw[dp (show 1≤dn.length by omega),dp (show dn.length≤20 by omega)];rfl)
  refine RT 4 E I ?_;refine⟨?_,I.sub⟩;rw[oK]
  first
   | (rw[bn (show ¬ 1≤dn.length by omega)];rfl)
   | (rw[bn (show ¬ dn.length≤20 by omega)];simp;done)
   | (rw[dp (show 1≤dn.length by omega),dp (show dn.length≤20 by omega)];rfl)
 refine RT 8 E I ?_;refine⟨?_,I.sub⟩;rw[oK]
 first
  | (rw[bn (show ¬ 1≤dn.length by omega)];rfl)
  | (rw[bn (show ¬ dn.length≤20 by omega)];simp;done)
  | (rw[dp (show 1≤dn.length by omega),dp (show dn.length≤20 by omega)];rfl)
def lJ (k:Int):Int:=if k=0 then 0 else if k=9∨k=15 then 1 else if k=1∨k=2∨(10≤k∧k≤14) then 2 else if 3≤k∧k≤8 then 3 else -1
theorem EL (k:Int):(k=0∧lJ k=0)∨((k=9∨k=15)∧lJ k=1)∨((k=1∨k=2∨(10≤k∧k≤14))∧lJ k=2)∨(3≤k∧k≤8∧lJ k=3)∨((k<0∨15<k)∧lJ k = -1):=by
 unfold lJ
 repeat' split
 all_goals omega
theorem WJ {k:Int}(I:U W w L):Calls prog 201 #[.int .i64 k] w λe V=>e=.returned (.int .i64 (lJ k))∧U W V L:=by
 have hk:=EL k;have fE:∀ (z:Int) (V:World),U W V L→z=lJ k→Ending.returned (Value.int .i64 z)=.returned (.int .i64 (lJ k))∧U W V L:=λz V h e=>⟨by rw[e],h⟩;refine EN func201 ntmps201 rfl rfl λa E=>?_;refine IF 8 E I (λaj a E=>?_) λaj a E=>?_
 ·
  refine RT 2 E I ?_;exact fE _ _ I (by omega)
 refine IF 4 E I (λao a E=>?_) λao a E=>?_
 ·
  refine RT 3 E I ?_;exact fE _ _ I (by omega)
 refine IF 2 E I (λay a E=>?_) λay a E=>?_
 ·
  refine RT 2 E I ?_;exact fE _ _ I (by omega)
 refine IF 4 E I (λbj a E=>?_) λbj a E=>?_
 ·
  refine RT 3 E I ?_;exact fE _ _ I (by omega)
 refine IF 3 E I (λbO a E=>?_) λbO a E=>?_
 ·
  refine RT 3 E I ?_;exact fE _ _ I (by omega)
 refine IF 3 E I (λeZ a E=>?_) λeZ a E=>?_
 ·
  refine RT 3 E I ?_;exact fE _ _ I (by omega)
 refine IF 3 E I (λnf a E=>?_) λnf a E=>?_
 ·
  refine RT 3 E I ?_;exact fE _ _ I (by omega)
 refine IF 3 E I (λmM a E=>?_) λmM a E=>?_
 ·
  refine RT 3 E I ?_;exact fE _ _ I (by omega)
 refine IF 3 E I (λmN a E=>?_) λmN a E=>?_
 ·
  refine RT 3 E I ?_;exact fE _ _ I (by omega)
 refine IF 2 E I (λka a E=>?_) λka a E=>?_
 ·
  refine RT 2 E I ?_;exact fE _ _ I (by omega)
 refine IF 4 E I (λwL a E=>?_) λwL a E=>?_
 ·
  refine RT 3 E I ?_;exact fE _ _ I (by omega)
 refine IF 3 E I (λth a E=>?_) λth a E=>?_
 ·
  refine RT 3 E I ?_;exact fE _ _ I (by omega)
 refine IF 3 E I (λyJ a E=>?_) λyJ a E=>?_
 ·
  refine RT 3 E I ?_;exact fE _ _ I (by omega)
 refine IF 3 E I (λwM a E=>?_) λwM a E=>?_
 ·
  refine RT 3 E I ?_;exact fE _ _ I (by omega)
 refine IF 3 E I (λWK a E=>?_) λWK a E=>?_
 ·
  refine RT 3 E I ?_;exact fE _ _ I (by omega)
 refine IF 2 E I (λWL a E=>?_) λWL a E=>?_
 ·
  refine RT 2 E I ?_;exact fE _ _ I (by omega)
 refine RT 2 E I ?_;exact fE _ _ I (by omega)
def A8 (l:List Int):Prop:=∀ x∈l,e8 x
theorem EM {zs:List Int}{b e:Nat}(I:U W w (aa b e (zs.map (.int .i64))::L))(hl:zs.length≤10) :
   Calls prog 202 #[.slice (some ⟨b,0,none⟩) zs.length zs.length] w λe' V=>∃ r:Bool,e'=.returned (.bool r)∧(r=true↔A8 zs)∧U W V (aa b e (zs.map (.int .i64))::L):=by
 refine EN func202 ntmps202 rfl rfl λa E=>?_;refine RN 7 E I λa E=>?_;refine aQ (λμ a w=>∃ i:Nat,(μ=zs.length-i∧i≤zs.length∧∀ j x,j<i→zs[j]?=some x→e8 x)∧Fr a 18 [(5,.slice (some ⟨b,0,none⟩) zs.length zs.length),(6,.int .i64 zs.length),(7,.int .i64 i)]∧U W w (aa b e (zs.map (.int .i64))::L)) (zs.length) (⟨0,⟨by simp,by simp,λj x h=>absurd h (by omega)⟩,E.ab [5,6,7],I⟩) ?_;clear E I;rintro μ a w ⟨i,⟨rfl,hi,cF⟩,E,I⟩;refine IF 3 E I (λaj a E=>?_) λaj a E=>?_
 ·
  obtain⟨x,hx⟩:∃ x,zs[i]?=some x:=⟨_,aD (by omega)⟩;refine RN 3 E I λa E=>?_;refine SS E (ae E (I.bz (v:=.int .i64 x) (by rw[bm,hx];rfl))) λa E=>?_;refine BY 5 E I (λbA a E=>?_) λbA a E=>?_
  ·
   refine RT 6 E I ?_;refine⟨false,rfl,⟨λh=>(by cases h),λh=>?_⟩,I.sub⟩;have:=h x (bH hx);unfold e8 at this;omega
  refine IF 3 E I (λao a E=>?_) λao a E=>?_
  ·
   refine RT 2 E I ?_;refine⟨false,rfl,⟨λh=>(by cases h),λh=>?_⟩,I.sub⟩;have:=h x (bH hx);unfold e8 at this;omega
  refine RN 2 E I λa E=>?_;refine⟨zs.length-(i+1),by omega,i+1,⟨rfl,by omega,λj y hj hy=>?_⟩,E.ab [5,6,7],I.sub⟩;by_cases e:j=i
  ·subst e;rw[hx]at hy;cases hy;unfold e8;omega
  ·exact cF j y (by omega) hy
 refine RT 2 E I ?_;refine⟨true,rfl,⟨λ_ x hx=>?_,λ_=>rfl⟩,I.sub⟩;obtain⟨j,hj⟩:=j5.1 hx;exact cF j x (by have:=(aZ.1 hj).1;omega) hj
theorem Ko {k n:Int}{b e:Nat}(I:U W w (aa b e [.int .i64 n]::L)) :
   Calls prog 200 #[.int .i64 k,pt b] w λe' V=>e'=.returned (.bool (decide (0≤k∧k≤n)))∧U W V (aa b e [.int .i64 n]::L):=by
 refine EN func200 ntmps200 rfl rfl λa E=>?_;refine BY 6 E I (λbA a E=>?_) λbA a E=>?_
 ·
  refine RT 5 E I ?_;refine⟨?_,I.sub⟩
  first
   | (rw[bn (show ¬ (0≤k∧k≤n) by omega)])
   | (congr 2;rw[decide_eq_decide];omega)
 refine RT 5 E I ?_;refine⟨?_,I.sub⟩
 first
  | (rw[bn (show ¬ (0≤k∧k≤n) by omega)])
  | (congr 2;rw[decide_eq_decide];omega)
end
end
section
section
variable {W w:World}{L:List SP}{c:Nat}{ad:Option Addr}
theorem WM {o:fZ}{m:Int}(h:o.code=0):e9 m o↔(o.a=0∧o.b=0∧o.c=0):=by
 simp only[e9,e8];exact⟨λh=>by omega,λh2=>.inl ⟨h,h2⟩⟩
theorem WN {o:fZ}{m:Int}(h:o.code=1):e9 m o↔(e8 o.a∧o.c=0):=by
 simp only[e9,e8];exact⟨λh=>by omega,λh2=>.inr (.inl ⟨h,h2⟩)⟩
theorem WO {o:fZ}{m:Int}(h:o.code=9):e9 m o↔(0≤o.a∧o.a≤m∧o.b=0∧o.c=0):=by
 simp only[e9,e8];exact⟨λh=>by omega,λh2=>.inr (.inr (.inl ⟨h,h2⟩))⟩
theorem WQ {o:fZ}{m:Int}(h:o.code=15):e9 m o↔(e8 o.a∧o.b=0∧o.c=0):=by
 simp only[e9,e8];exact⟨λh=>by omega,λh2=>.inr (.inr (.inr (.inl ⟨h,h2⟩)))⟩
theorem Kp {o:fZ}{m:Int}(h:o.code=10):e9 m o↔(e8 o.a∧0≤o.b∧o.b≤m∧o.c=0):=by
 simp only[e9,e8];exact⟨λh=>by omega,λh2=>.inr (.inr (.inr (.inr (.inl ⟨h,h2⟩))))⟩
theorem WR {o:fZ}{m:Int}(h:o.code=2∨(11≤o.code∧o.code≤14)):e9 m o↔(e8 o.a∧e8 o.b∧o.c=0):=by
 simp only[e9,e8];exact⟨λh=>by omega,λh2=>.inr (.inr (.inr (.inr (.inr (.inl ⟨h,h2⟩)))))⟩
theorem WS {o:fZ}{m:Int}(h:3≤o.code∧o.code≤8):e9 m o↔(e8 o.a∧e8 o.b∧e8 o.c):=by
 simp only[e9,e8];exact⟨λh=>by omega,λh2=>.inr (.inr (.inr (.inr (.inr (.inr ⟨h.1,h.2,h2⟩)))))⟩
theorem ti {o:fZ}{m:Int}(h:e9 m o):0≤lJ o.code∧(lJ o.code<3→o.c=0)∧(lJ o.code<2→o.b=0)∧(lJ o.code<1→o.a=0):=by
 have hk:=EL o.code;simp only[e9,e8]at h;omega
theorem WU {o:fZ}{m:Nat}(I:U W w L):Calls prog 170 #[.agg (c6 o).toArray,.int .i64 m] w λe V=>∃ r:Bool,e=.returned (.bool r)∧(r=true↔e9 m o)∧U W V L:=by
 have hk:=EL o.code;have fE:∀ (r:Bool) (P:Prop) (V:World),U W V L→(r=true↔P)→(P↔e9 m o)→∃ r':Bool,Ending.returned (Value.bool r)=.returned (.bool r')∧(r'=true↔e9 m o)∧U W V L:=λr P V h e1 e2=>⟨r,rfl,e1.trans e2,h⟩;refine EN func170 ntmps170 rfl rfl λa E=>?_;refine BX 1 E I λb2 a w E I=>?_;change U W w (aa b2 114 (c6 o)::_) at I;refine BX 0 E I λb3 a w E I=>?_;refine CL 7 E I (WJ I) λa w E I=>?_;refine RN 1 E I λa E=>?_;refine cc (M:=λa w=>(0≤lJ o.code∧(lJ o.code<3→o.c=0)∧(lJ o.code<2→o.b=0)∧(lJ o.code<1→o.a=0))∧Fr a 76 [(2,pt b2),(3,pt b3),(5,.func (.func 200) #[] (List.toArray [pt b3]))]∧U W w (aa b3 3 [.int .i64 m]::aa b2 114 (c6 o)::L)) ?_ ?_
 ·
  refine BY 4 E I (λbA a E=>?_) λbA a E=>?_
  ·
   refine RT 29 E I ?_;exact fE false False _ I.sub (by simp) ⟨λh=>h.elim,λh=>by have h5:=ti h;omega⟩
  refine BY 3 E I (λjg a E=>?_) λjg a E=>?_
  ·
   refine BY 6 E I (λk9 a E=>?_) λk9 a E=>?_
   ·
    refine RT 20 E I ?_;exact fE false False _ I.sub (by simp) ⟨λh=>h.elim,λh=>by have h5:=ti h;omega⟩
   refine BY 3 E I (λjO a E=>?_) λjO a E=>?_
   ·
    refine BY 6 E I (λEO a E=>?_) λEO a E=>?_
    ·
     refine RT 11 E I ?_;exact fE false False _ I.sub (by simp) ⟨λh=>h.elim,λh=>by have h5:=ti h;omega⟩
    refine BY 3 E I (λkJ a E=>?_) λkJ a E=>?_
    ·
     refine IF 5 E I (λaj a E=>?_) λaj a E=>?_
     ·
      refine RT 2 E I ?_;exact fE false False _ I.sub (by simp) ⟨λh=>h.elim,λh=>by have h5:=ti h;omega⟩
     refine RN 0 E I λa E=>?_;exact⟨by omega,E.ab [2,3,5],I.sub⟩
    refine RN 6 E I λa E=>?_;exact⟨by omega,E.ab [2,3,5],I.sub⟩
   refine BY 9 E I (λkJ a E=>?_) λkJ a E=>?_
   ·
    refine IF 5 E I (λaj a E=>?_) λaj a E=>?_
    ·
     refine RT 2 E I ?_;exact fE false False _ I.sub (by simp) ⟨λh=>h.elim,λh=>by have h5:=ti h;omega⟩
    refine RN 0 E I λa E=>?_;exact⟨by omega,E.ab [2,3,5],I.sub⟩
   refine RN 6 E I λa E=>?_;exact⟨by omega,E.ab [2,3,5],I.sub⟩
  refine BY 9 E I (λjO a E=>?_) λjO a E=>?_
  ·
   refine BY 6 E I (λEO a E=>?_) λEO a E=>?_
   ·
    refine RT 11 E I ?_;exact fE false False _ I.sub (by simp) ⟨λh=>h.elim,λh=>by have h5:=ti h;omega⟩
   refine BY 3 E I (λkJ a E=>?_) λkJ a E=>?_
   ·
    refine IF 5 E I (λaj a E=>?_) λaj a E=>?_
    ·
     refine RT 2 E I ?_;exact fE false False _ I.sub (by simp) ⟨λh=>h.elim,λh=>by have h5:=ti h;omega⟩
    refine RN 0 E I λa E=>?_;exact⟨by omega,E.ab [2,3,5],I.sub⟩
   refine RN 6 E I λa E=>?_;exact⟨by omega,E.ab [2,3,5],I.sub⟩
  refine BY 9 E I (λkJ a E=>?_) λkJ a E=>?_
  ·
   refine IF 5 E I (λaj a E=>?_) λaj a E=>?_
   ·
    refine RT 2 E I ?_;exact fE false False _ I.sub (by simp) ⟨λh=>h.elim,λh=>by have h5:=ti h;omega⟩
   refine RN 0 E I λa E=>?_;exact⟨by omega,E.ab [2,3,5],I.sub⟩
  refine RN 6 E I λa E=>?_;exact⟨by omega,E.ab [2,3,5],I.sub⟩
 clear E;(try clear I);rintro a w ⟨oK,E,I⟩;refine IF 7 E I (λao a E=>?_) λao a E=>?_
 ·
  refine RT 2 E I ?_;exact fE true True _ I.sub (by simp) ⟨λ_=>(WM ao).2 (by omega),λ_=>trivial⟩
 refine IF 3 E I (λay a E=>?_) λay a E=>?_
 ·
  refine RN 3 E I λa E=>?_;refine cn E rfl I underlying53 Ty.t3 rfl rfl rfl rfl (by decide) (by decide) λb48 a w E I ho=>?_;clear ho;refine aW 0 E I (EM (zs:=[o.a]) I (by simp)) λr a w E ⟨hr,I⟩=>?_;refine RT 1 E I ?_;exact fE r _ _ I.sub hr (by rw[WN ay];simp only[A8,wN,not_mem_nil,false_imp_iff,implies_true,and_true];exact⟨λh=>⟨h,by omega⟩,λh=>h.1⟩)
 refine IF 3 E I (λbj a E=>?_) λbj a E=>?_
 ·
  refine CL 4 E I (Ko (I.jV b3)) λa w E I=>?_;refine RT 1 E I ?_;exact fE _ _ _ I.sub ct (by rw[WO bj];omega)
 refine IF 3 E I (λbO a E=>?_) λbO a E=>?_
 ·
  refine RN 3 E I λa E=>?_;refine cn E rfl I underlying53 Ty.t3 rfl rfl rfl rfl (by decide) (by decide) λR9 a w E I ho=>?_;clear ho;refine aW 0 E I (EM (zs:=[o.a]) I (by simp)) λr a w E ⟨hr,I⟩=>?_;simp only[A8,wN,not_mem_nil,false_imp_iff,implies_true,and_true]at hr;refine BY 1 E I (λdk a E=>?_) λdk a E=>?_
  ·
   refine CL 3 E I (Ko (I.jV b3)) λa w E I=>?_;refine RT 2 E I ?_;exact fE _ _ _ I.sub ct (by rw[Kp bO];exact⟨λh=>⟨hr.1 dk,h.1,h.2,by omega⟩,λh=>⟨h.2.1,h.2.2.1⟩⟩)
  refine RT 6 E I ?_;exact fE _ False _ I.sub (by simp) (by rw[Kp bO];exact⟨λh=>h.elim,λh=>by rw[hr.2 h.1]at dk;cases dk⟩)
 refine RN 7 E I λa E=>?_;refine cn E rfl I underlying53 Ty.t3 rfl rfl rfl rfl (by decide) (by decide) λb74 a w E I ho=>?_;clear ho;refine aW 0 E I (EM (zs:=[o.a,o.b,o.c]) I (by simp)) λr a w E ⟨hr,I⟩=>?_;refine RT 1 E I ?_;refine fE r _ _ I.sub hr ?_;simp only[A8,wN,not_mem_nil,false_imp_iff,implies_true,and_true];have EP:e8 0:=⟨by decide,by decide⟩;rcases hk with hk | ⟨hk,ca⟩ | ⟨hk,ca⟩ | hk | hk
 ·omega
 ·have ER:o.code=15:=by omega
  have uQ:o.b=0:=by omega
  have ES:o.c=0:=by omega
  rw[WQ ER,uQ,ES];exact⟨λh=>⟨h.1,rfl,rfl⟩,λh=>⟨h.1,EP,EP⟩⟩
 ·have ES:o.c=0:=by omega
  rw[WR (by omega),ES];exact⟨λh=>⟨h.1,h.2.1,rfl⟩,λh=>⟨h.1,h.2.1,EP⟩⟩
 ·rw[WS ⟨hk.1,hk.2.1⟩]
 ·omega
abbrev bx (p:Pr)(ad:Option Addr)(c:Nat):List Value:=[.string p.title,.slice ad p.ops.length c]
abbrev az (W:World)(p:Pr)(ad:Option Addr)(c:Nat):SP:=Ro W 114 4 ad p.ops.length c (rows c6 p.ops)
def uR (o:fZ)(k:Nat):Int:=[o.code,o.a,o.b,o.c].getD k 0
theorem WV (o:fZ){k:Nat}(h:k<4):(c6 o)[k]?=some (.int .i64 (uR o k)):=by
 rcases (by omega:k=0∨k=1∨k=2∨k=3) with rfl | rfl | rfl | rfl <;> rfl
set_option maxHeartbeats 4000000 in
theorem WW {p:Pr}(I:U W w (az W p ad c::L))(aE:p.title.size≤1000000000)(dO:p.ops.length≤1000000000) :
   Calls prog 169 #[.agg (bx p ad c).toArray] w λe V=>∃ au n' c',e=.returned (.slice au n' c')∧(au.isNone=true↔¬ wE p)∧U W V (az W p ad c::L):=by
 refine EN func169 ntmps169 rfl rfl λa E=>?_;refine BX 1 E I λb1 a w E I=>?_;change U W w (aa b1 45 (bx p ad c)::_) at I;refine RN 1 E I λa E=>?_;refine cc (M:=λa w=>(pK p.title=true∧1≤p.ops.length∧p.ops.length≤64)∧Fr a 62 [(1,pt b1)]∧U W w (aa b1 45 (bx p ad c)::az W p ad c::L)) ?_ ?_
 ·
  refine CL 3 E I (WI I (by omega)) λa w E I=>?_;refine BY 2 E I (λht a E=>?_) λht a E=>?_
  ·
   refine RT 14 E I ?_;exact⟨none,0,0,rfl,⟨λ_ h=>(by
    obtain⟨h1,h2,h3,_⟩:=h
    first
     | (rw[h1]at ht;cases ht;done)
     | omega),λ_=>rfl⟩,I.sub⟩
  refine BY 6 E I (λl5 a E=>?_) λl5 a E=>?_
  ·
   refine RT 8 E I ?_;exact⟨none,0,0,rfl,⟨λ_ h=>(by
    obtain⟨h1,h2,h3,_⟩:=h
    first
     | (rw[h1]at ht;cases ht;done)
     | omega),λ_=>rfl⟩,I.sub⟩
  refine IF 5 E I (λaj a E=>?_) λaj a E=>?_
  ·
   refine RT 2 E I ?_;exact⟨none,0,0,rfl,⟨λ_ h=>(by
    obtain⟨h1,h2,h3,_⟩:=h
    first
     | (rw[h1]at ht;cases ht;done)
     | omega),λ_=>rfl⟩,I.sub⟩
  refine RN 0 E I λa E=>?_;exact⟨⟨ht,by omega,by omega⟩,E.ab [1],I.sub⟩
 clear E;(try clear I);rintro a w ⟨l7,E,I⟩;refine cc (M:=λa w=>∃ (bs:List UInt8) (ik:Option Addr) (cb:Nat),(1≤bs.length∧bs.length≤p.title.size+30)∧Fr a 62 [(1,pt b1),(3,.slice ik bs.length cb)]∧U W w (Sl 5 1 ik bs.length cb (bc bs)::aa b1 45 (bx p ad c)::az W p ad c::L)) ?_ ?_
 ·
  refine a1 0 (λw0 V=>V.cell? ⟨b1,1,none⟩=some (.slice ad p.ops.length c)∧V.cell? ⟨b1,0,none⟩=some (.string p.title)) [2,4,5] [0,3,3001,3004,3005,1002,1006,7] E I λa w E I hH=>?_;have ao:w.cell? ⟨b1,1,none⟩=some (.slice ad p.ops.length c):=I.bz rfl;have WX:w.cell? ⟨b1,0,none⟩=some (.string p.title):=I.bz rfl;have hC:=And.intro ao WX;refine RH 2 E I hH hC λa E=>?_;refine QH E (λw hc=>ae E (hc.2)) hC λa E=>?_;refine QH E (λw hc=>ae E (hc.1)) hC λa E=>?_;refine RH 1 E I hH hC λa E=>?_;refine aX 0 E I (WB I (by omega)) λcX dU a w E I=>?_;replace hC:=hH.at w (And.intro (I.bz rfl) (I.bz rfl));have hZ:=qJ 9 (zz p.title.size) (by rw[zz];split <;> (simp;omega));have yI:p.title.data.toList.length=p.title.size:=rfl;refine RH 0 E I hH hC λa E=>?_;refine aX 0 E I (tg (N:=p.ops.length) (I.pick (Sl 5 1 cX (aO (zz p.title.size)++p.title.data.toList).length dU (bc (aO (zz p.title.size)++p.title.data.toList)))) (by omega) (by omega) (by rw[aN];omega)) λadq cq a w E I=>?_;refine RN 1 E I λa E=>?_;have s9:=qJ 9 (zz p.ops.length) (by rw[zz];split <;> (simp;omega));have wq:=rP (zz p.ops.length);exact⟨_,adq,cq,⟨by rw[aN];omega,by rw[aN,aN];omega⟩,E.ab [1,3],I.sub⟩
 clear E;(try clear I);rintro a w ⟨bs,ik,cb,⟨oL,pq⟩,E,I⟩;refine RN 6 E I λa E=>?_;refine aQ (λμ a w=>∃ (i:Nat) (bs:List UInt8) (ik:Option Addr) (cb:Nat),(μ=p.ops.length-i∧i≤p.ops.length∧1≤bs.length∧bs.length≤p.title.size+30+40*i∧∀ j o,j<i→p.ops[j]?=some o→rM o)∧Fr a 62 [(3,.slice ik bs.length cb),(32,.slice ad p.ops.length c),(33,.int .i64 p.ops.length),(34,.int .i64 i)]∧U W w (Sl 5 1 ik bs.length cb (bc bs)::az W p ad c::L)) (p.ops.length) (⟨0,bs,ik,cb,⟨by simp,by simp,oL,by omega,λj o h=>absurd h (by omega)⟩,E.ab [3,32,33,34],I.sub⟩) ?_;clear E I;rintro μ a w ⟨i,bs,ik,cb,⟨rfl,hi,oL,pq,cF⟩,E,I⟩;refine IF 3 E I (λao a E=>?_) λao a E=>?_
 ·
  obtain⟨o,ho⟩:∃ o,p.ops[i]?=some o:=⟨_,aD (by omega)⟩;obtain⟨kZ,oo,gY,gI⟩:=I.rN ad (by omega);rw[gY]at E;refine RN 3 E I λa E=>?_;refine SS E (bQ E underlying114 rfl Ty.t114 (wF gI ho)) λa E=>?_;refine AL 0 E I λb5 a w E I=>?_;refine SA 0 E I λa w E I=>?_;refine RN 9 E I λa E=>?_;refine SS E (DL E underlying230 Ty.t230 Ty.t3 rfl rfl) λa E=>?_;change Fr a 62 ((46,.agg (c6 o).toArray)::_) at E;refine RN 1 E I λa E=>?_;rw[← gY]at E;refine aQ (λμ a w=>∃ (k:Nat) (bs:List UInt8) (ik:Option Addr) (cb:Nat),(μ=4-k∧k≤4∧1≤bs.length∧bs.length≤p.title.size+30+40*i+10*k∧∀ j,j<k→du (uR o j))∧Fr a 62 [(3,.slice ik bs.length cb),(32,.slice ad p.ops.length c),(33,.int .i64 p.ops.length),(34,.int .i64 i),(46,.agg (c6 o).toArray),(47,.int .i64 k)]∧U W w (Sl 5 1 ik bs.length cb (bc bs)::az W p ad c::L)) (4) (⟨0,bs,ik,cb,⟨by simp,by simp,oL,by omega,λj h=>absurd h (by omega)⟩,E.ab [3,32,33,34,46,47],I.sub⟩) ?_;clear E I;rintro μ a w ⟨k,bs,ik,cb,⟨rfl,hk,oL,pq,pN⟩,E,I⟩;refine IF 3 E I (λay a E=>?_) λay a E=>?_
  ·
   refine RN 2 E I λa E=>?_;refine SS E (sP E underlying230 underlying3 rfl Ty.t3 (by omega) (WV o (by omega))) λa E=>?_;refine BY 6 E I (λbA a E=>?_) λbA a E=>?_
   ·
    refine RT 6 E I ?_;refine⟨none,0,0,rfl,⟨λ_ h=>?_,λ_=>rfl⟩,I.sub⟩;obtain⟨_,_,_,h4⟩:=h;have h5:=h4 o (bH ho);have h6:du (uR o k):=by
     rcases (by omega:k=0∨k=1∨k=2∨k=3) with rfl | rfl | rfl | rfl
     ·exact h5.1
     ·exact h5.2.1
     ·exact h5.2.2.1
     ·exact h5.2.2.2
    simp only[du]at h6;omega
   refine IF 3 E I (λbj a E=>?_) λbj a E=>?_
   ·
    refine RT 2 E I ?_;refine⟨none,0,0,rfl,⟨λ_ h=>?_,λ_=>rfl⟩,I.sub⟩;obtain⟨_,_,_,h4⟩:=h;have h5:=h4 o (bH ho);have h6:du (uR o k):=by
     rcases (by omega:k=0∨k=1∨k=2∨k=3) with rfl | rfl | rfl | rfl
     ·exact h5.1
     ·exact h5.2.1
     ·exact h5.2.2.1
     ·exact h5.2.2.2
    simp only[du]at h6;omega
   refine aX 2 E I (tg (N:=uR o k) (I.pick (Sl 5 1 ik bs.length cb (bc bs))) (by omega) (by omega) (by omega)) λadq cq a w E I=>?_;refine RN 3 E I λa E=>?_;have s9:=qJ 9 (zz (uR o k)) (by rw[zz];split <;> (simp;omega));refine⟨4-(k+1),by omega,k+1,bs++aO (zz (uR o k)),adq,cq,⟨rfl,by omega,by rw[aN];omega,by rw[aN];omega,λj hj=>?_⟩,E.ab [3,32,33,34,46,47],I.sub⟩;rcases gE j k with h | h
   ·exact pN j h
   ·obtain rfl:j=k:=by omega
    simp only[du];omega
  refine RN 0 E I λa E=>?_;obtain rfl:k=4:=by omega
  refine RN 2 E I λa E=>?_;refine⟨p.ops.length-(i+1),by omega,i+1,bs,ik,cb,⟨rfl,by omega,oL,by omega,λj o' hj ku=>?_⟩,E.ab [3,32,33,34],I.sub⟩;rcases gE j i with h | h
  ·exact cF j o' h ku
  ·obtain rfl:j=i:=by omega
   rw[ho]at ku;cases ku;exact⟨pN 0 (by omega),pN 1 (by omega),pN 2 (by omega),pN 3 (by omega)⟩
 refine RT 3 E I ?_;obtain⟨kK,ox,ET,_⟩:=I.bY ik (by omega);refine⟨ik,bs.length,cb,rfl,⟨λh=>(by rw[ET]at h;cases h),λh=>?_⟩,I.sub⟩;exact absurd ⟨l7.1,l7.2.1,l7.2.2,λo' ku=>(by
  obtain⟨j,hj⟩:=j5.1 ku;exact cF j o' (by have:=(aZ.1 hj).1;omega) hj)⟩ h
theorem WY {p:Pr}(I:U W w (az W p ad c::L))(aE:p.title.size≤1000000000)(dO:p.ops.length≤1000000000) :
   Calls prog 132 #[.agg (bx p ad c).toArray] w λe V=>∃ r:Int,e=.returned (.int .i64 r)∧(r = -1↔dq p)∧U W V (az W p ad c::L):=by
 refine EN func132 ntmps132 rfl rfl λa E=>?_;refine BX 1 E I λb1 a w E I=>?_;change U W w (aa b1 45 (bx p ad c)::_) at I;refine j1 4 E I (WW (I.pick (az W p ad c)) aE dO) λafO ne ce a w E ⟨bT,I⟩=>?_;refine IF 1 E I (λaj a E=>?_) λaj a E=>?_
 ·
  refine RT 2 E I ?_;exact⟨-2,rfl,⟨λh=>absurd h (by decide),λh=>absurd h.1 (bT.1 aj)⟩,I.sub⟩
 have l7:wE p:=Classical.byContradiction λh=>by rw[bT.2 h]at aj;cases aj
 refine RN 6 E I λa E=>?_;refine aQ (λμ a w=>∃ i:Nat,(μ=p.ops.length-i∧i≤p.ops.length∧∀ j o,j<i→p.ops[j]?=some o→e9 p.ops.length o)∧Fr a 24 [(1,pt b1),(9,.slice ad p.ops.length c),(10,.int .i64 p.ops.length),(11,.int .i64 i)]∧U W w (aa b1 45 (bx p ad c)::az W p ad c::L)) (p.ops.length) (⟨0,⟨by simp,by simp,λj o h=>absurd h (by omega)⟩,E.ab [1,9,10,11],I.sub⟩) ?_;clear E I;rintro μ a w ⟨i,⟨rfl,hi,cF⟩,E,I⟩;refine IF 3 E I (λao a E=>?_) λao a E=>?_
 ·
  obtain⟨o,ho⟩:∃ o,p.ops[i]?=some o:=⟨_,aD (by omega)⟩;obtain⟨kZ,oo,gY,gI⟩:=I.rN ad (by omega);rw[gY]at E;refine RN 4 E I λa E=>?_;refine SS E (bQ E underlying114 rfl Ty.t114 (wF gI ho)) λa E=>?_;refine AL 0 E I λb4 a w E I=>?_;refine SA 1 E I λa w E I=>?_;refine aW 5 E I (WU (o:=o) (m:=p.ops.length) I) λr a w E ⟨hr,I⟩=>?_;refine IF 1 E I (λay a E=>?_) λay a E=>?_
  ·
   refine RT 3 E I ?_;refine⟨i,rfl,⟨λh=>absurd h (by omega),λh=>?_⟩,I.sub⟩;rw[hr.2 (h.2 o (bH ho))]at ay;cases ay
  have uS:r=true:=by simpa using ay
  refine RN 2 E I λa E=>?_;rw[← gY]at E;refine⟨p.ops.length-(i+1),by omega,i+1,⟨rfl,by omega,λj o' hj ku=>?_⟩,E.ab [1,9,10,11],I.sub⟩;rcases gE j i with h | h
  ·exact cF j o' h ku
  ·obtain rfl:j=i:=by omega
   rw[ho]at ku;cases ku;exact hr.1 uS
 refine RT 2 E I ?_;refine⟨-1,rfl,⟨λ_=>⟨l7,λo ho=>?_⟩,λ_=>rfl⟩,I.sub⟩;obtain⟨j,hj⟩:=j5.1 ho;exact cF j o (by have:=(aZ.1 hj).1;omega) hj
theorem EU {p:Pr}(I:U W w (az W p ad c::L))(aE:p.title.size≤1000000000)(dO:p.ops.length≤1000000000) :
   Calls prog 97 #[.agg (bx p ad c).toArray] w λe V=>∃ r:Bool,e=.returned (.bool r)∧(r=true↔dq p)∧U W V (az W p ad c::L):=by
 refine EN func97 ntmps97 rfl rfl λa E=>?_;refine BX 1 E I λb1 a w E I=>?_;change U W w (aa b1 45 (bx p ad c)::_) at I;refine aW 3 E I (WY (I.pick (az W p ad c)) aE dO) λr a w E ⟨hr,I⟩=>?_;refine RT 2 E I ?_;exact⟨_,rfl,by rw[ct];exact hr,I.sub⟩
end
end
end Go.Proofs.YteoldcfapaiobaaGreat
