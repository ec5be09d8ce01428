/- The walks of package job. -/
import Derived.Test.YteoldcfapaiobaaGreatF01Row
import Derived.Test.YteoldcfapaiobaaGreatF03Snap2
import Derived.Lib.AppendStr
namespace Go.Proofs.YteoldcfapaiobaaGreat
open Tryz
open List (drop_zero take_succ_cons drop_left take_zero nil_append map_cons length_nil cons_append eraseIdx_set_eq append_nil ext_getElem? map_nil flatMap_cons mem_append_left not_mem_nil)
open Go.RowKit
set_option linter.unusedVariables false
set_option linter.unusedSimpArgs false
set_option maxRecDepth 10000
set_option synthInstance.maxSize 4000
set_option synthInstance.maxHeartbeats 400000
section
def jc (l:List (Int×Int)):List Value:=l.flatMap λj=>[.int .i64 j.1,.int .i64 j.2]
theorem pR (l:List (Int×Int)):(jc l).length=l.length*2:=by
 induction l with
 | nil=>rfl
 | cons x l ih=>simp only[jc,flatMap_cons,aI,eR,length_nil] at *;omega
theorem J3 (l m:List (Int×Int)):jc (l++m)=jc l++jc m:=by simp[jc]
theorem J4 (l:List (Int×Int))(i:Nat):(jc l).drop (i*2)=jc (l.drop i):=by
 induction i generalizing l with
 | zero=>simp
 | succ i ih =>
  cases l with
  | nil=>simp[jc]
  | cons x l =>
   have:(i+1)*2=i*2+2:=by omega
   rw[this];simp only[jc,flatMap_cons,List.drop_succ_cons] at *;rw[← ih l];simp
theorem J5 (l:List (Int×Int))(i:Nat):(jc l).take (i*2)=jc (l.take i):=by
 induction i generalizing l with
 | zero=>simp[jc]
 | succ i ih =>
  cases l with
  | nil=>simp[jc]
  | cons x l =>
   have:(i+1)*2=i*2+2:=by omega
   rw[this];simp only[jc,flatMap_cons,take_succ_cons] at *;rw[← ih l];simp
theorem Eh (l:List (Int×Int))(i:Nat)(h:i<l.length):((jc l).drop (i*2)).take 2=[.int .i64 l[i].1,.int .i64 l[i].2]:=by
 rw[J4,kF h];simp only[jc,flatMap_cons,cons_append,nil_append,take_succ_cons,take_zero]
def fi (p:Int×Int→Bool)(l:List (Int×Int)):Int:=if l.findIdx p<l.length then (l.findIdx p:Int) else -1
theorem V6 (p:Int×Int→Bool)(l:List (Int×Int)):decide (0≤fi p l)=l.any p:=by
 unfold fi;split <;> rename_i h
 ·have:=List.findIdx_lt_length.1 h;simp only[List.any_eq_true.2 this];simp
 ·rw[List.findIdx_lt_length]at h;have:l.any p=false:=by rw[← Bool.not_eq_true,List.any_eq_true];exact h
  simp[this]
theorem V7 (p:Int×Int→Bool)(l:List (Int×Int))(i:Nat)(hi:i<l.length)(h0:∀ j,(h:j<i)→p (l[j]'(by omega))=false)(h1:p l[i]=true):fi p l=i:=by
 have:l.findIdx p=i:=(List.findIdx_eq hi).2 ⟨h1,λj hj=>h0 j hj⟩;simp[fi,this,hi]
theorem V8 (p:Int×Int→Bool)(l:List (Int×Int))(h0:∀ j,(h:j<l.length)→p l[j]=false):fi p l = -1:=by
 have:¬ l.findIdx p<l.length:=by
  rw[List.findIdx_lt_length];rintro⟨x,hx,hp⟩;obtain⟨j,hj,rfl⟩:=List.mem_iff_getElem.1 hx;rw[h0 j hj]at hp;cases hp
 simp[fi,this]
theorem V9 {q:Nat→Prop}{i:Nat}(h:∀ j,j<i→q j)(h1:q i):∀ j,j<i+1→q j:=λj hj=>by
 rcases gQ j i with h' | h'
 ·exact h j h'
 ·obtain rfl:j=i:=by omega
  exact h1
def wD (W:World)(L:List SP)(f:Nat)(us:List Value)(p:Int×Int→Bool):Prop :=
 ∀ w (x:Int×Int),U W w L→Calls prog f ([Value.agg #[.int .i64 x.1,.int .i64 x.2]]++us).toArray w λe w'=>e=.returned (.bool (p x))∧U W w' L
theorem AK {W w:World}{L R:List SP}{a e:Nat}{s:Option Addr}{n c:Nat}(I:U W w L) [fI L a e [.slice s n c] R] :
   Calls prog 207 #[pt a] w λe w'=>e=.returned (.int .i64 n)∧U W w' L:=by
 refine EN func207 ntmps207 rfl rfl λa E=>?_;refine RN 6 E I λa E=>?_;replace E:=E.aM 4;refine RT 8 E I ?_;exact⟨rfl,I⟩
theorem Wa {W:World}{L R:List SP}{b e:Nat}{x1 x2:Int} [fI L b e [.int .i64 x1,.int .i64 x2] R] :
   wD W L 210 [pt b] (λy=>decide (y.1=x1)):=by
 rintro w ⟨Wb,We⟩ I;refine EN func210 ntmps210 rfl rfl λa E=>?_;refine BX 1 E I λb2 a w E I=>?_;refine RT 8 E I ?_;exact⟨rfl,I.tail⟩
theorem J6 {W w:World}{L R:List SP}{ad:Option Addr}{c f:Nat}{us:List Value}{l:List (Int×Int)}{p:Int×Int→Bool}(I:U W w L)[pk:fQ L ad l.length c 245 2 (jc l) R]
   (hc:hQ prog f=true) (hf:wD W L f us p) (hl:l.length≤140737488355328) :
   Calls prog 232 #[.slice ad l.length c,.func (.func f) #[] us.toArray] w λe w'=>e=.returned (.int .i64 (fi p l))∧U W w' L:=by
 refine EN func232 ntmps232 rfl rfl λa E=>?_;refine RN 7 E I λa E=>?_;refine aQ (λμ a w=>∃ i:Nat,(μ=l.length-i∧i≤l.length∧(∀ j,j<i→∀ h:j<l.length,p l[j]=false))∧Fr a 19 [(0,.slice ad l.length c),(1,.func (.func f) #[] us.toArray),(4,.int .i64 0),(7,.int .i64 l.length),(8,.int .i64 i)]∧U W w L) (l.length) (⟨0,⟨by simp,by simp,λj h=>by omega⟩,E.ab [0,1,4,7,8],I⟩) ?_;clear E I;rintro μ a w ⟨i,⟨rfl,hi,hp⟩,E,I⟩;refine IF 3 E I (λaj a E=>?_) λaj a E=>?_
 ·
  obtain⟨b,off,rfl,c7⟩:=I.bU ad (by omega);have aF:i<l.length:=by omega
  have hr:=c7.part (i*2) 2;rw[Eh l i aF]at hr;refine RN 9 E I λa E=>?_;refine SS E (bT E underlying245 rfl Ty.t245 (hr)) λa E=>?_;refine CL 0 E I (hf _ l[i] I) (hf:=hc) λa w E I=>?_;refine IF 0 E I (λao a E=>?_) λao a E=>?_
  ·
   refine RT 3 E I ?_;exact⟨by rw[V7 p l i aF (λj hj=>hp j hj (by omega)) ao],I⟩
  refine RN 2 E I λa E=>?_;exact⟨l.length-(i+1),by omega,i+1,⟨rfl,by omega,V9 hp (λ_=>ao)⟩,E.ab [0,1,4,7,8],I⟩
 refine RT 2 E I ?_;exact⟨by rw[V8 p l (λj hj=>hp j (by omega) hj)],I⟩
theorem Wf {W w:World}{L R:List SP}{ad:Option Addr}{c f:Nat}{us:List Value}{l:List (Int×Int)}{p:Int×Int→Bool}(I:U W w L)[pk:fQ L ad l.length c 245 2 (jc l) R]
   (hc:hQ prog f=true) (hf:wD W L f us p) (hl:l.length≤140737488355328) :
   Calls prog 209 #[.slice ad l.length c,.func (.func f) #[] us.toArray] w λe w'=>e=.returned (.bool (l.any p))∧U W w' L:=by
 refine EN func209 ntmps209 rfl rfl λa E=>?_;refine CL 5 E I (J6 I hc hf hl) λa w E I=>?_;refine RT 2 E I ?_;exact⟨by rw[V6],I⟩
def bI (q:Nat)(l:List (Int×Int)):SP:=λh=>∃ i:Option Addr×Nat,cn [aa q 243 [.slice i.1 l.length i.2],Sl 245 2 i.1 l.length i.2 (jc l)] h
theorem bI.open {W w:World}{L:List SP}{q:Nat}{l:List (Int×Int)}(I:U W w (bI q l::L)) :
   ∃ ad c,U W w (aa q 243 [.slice ad l.length c]::Sl 245 2 ad l.length c (jc l)::L):=by
 obtain⟨i,_,h⟩:=I.jL (p:=λ_=>True) (B:=λi:Option Addr×Nat=>cn [aa q 243 [.slice i.1 l.length i.2],Sl 245 2 i.1 l.length i.2 (jc l)]) (λ_ ⟨i,h⟩=>⟨i,trivial,h⟩);exact⟨i.1,i.2,h.open (λ_ x=>x)⟩
theorem bI.shut {W w:World}{L R R2:List SP}{q n c:Nat}{ad:Option Addr}{cs:List Value}{l:List (Int×Int)}(I:U W w L)[k:fI L q 243 [.slice ad n c] R][k2:fQ R ad n c 245 2 cs R2]
   (hn:n=l.length) (hc:cs=jc l):U W w (bI q l::R2):=by
 subst hn;subst hc;have h1:=(I.perm k.perm).perm (kx _ k2.perm);exact U.shut (M:=[_,_]) h1 λ_ x=>⟨(ad,c),x⟩
theorem Wg {W w:World}{L:List SP}(I:U W w L) :
   Calls prog 90 #[] w λe w'=>∃ q,e=.returned (pt q)∧U W w' (bI q []::L):=by
 refine EN func90 ntmps90 rfl rfl λa E=>?_;refine BX 4 E I λb2 a w E I=>?_;refine RT 1 E I ?_;exact⟨_,rfl,by
  have h1:=(I.bN 245 2 none);exact (bI.shut (q:=b2) (l:=[]) h1 rfl rfl).sub⟩
def qM (l:List (Int×Int))(b:Int):Bool:=decide (l.length<16)&&!l.any (λy=>decide (y.1=b))
theorem AM {W w:World}{L:List SP}{q:Nat}{l:List (Int×Int)}{b e:Int}(I:U W w (bI q l::L))(hl:l.length≤16) :
   Calls prog 182 #[pt q,.agg #[.int .i64 b,.int .i64 e]] w λr w' =>
    r=.returned (.bool (qM l b))∧U W w' (bI q (if qM l b then l++[(b,e)] else l)::L):=by
 obtain⟨ad,c,I⟩:=bI.open I;refine EN func182 ntmps182 rfl rfl λa E=>?_;refine BX 1 E I λb3 a w E I=>?_;refine RN 6 E I λa E=>?_;replace E:=E.aM 7;refine BY 8 E I (λl8 a E=>?_) λl8 a E=>?_
 ·
  have hm:qM l b=false:=by simp only[qM,Bool.and_eq_false_iff,rR];left;omega
  refine RT 10 E I ?_;exact⟨by rw[hm],by rw[hm,ag (by decide)];exact (bI.shut (q:=q) (ad:=ad) (l:=l) I rfl rfl).sub⟩
 refine CL 5 E I (Wf I (by kernel_rfl) Wa (by omega)) λa w E I=>?_;refine IF 1 E I (λaj a E=>?_) λaj a E=>?_
 ·
  have hm:qM l b=false:=by simp only[qM,aj,Bool.not_true,Bool.and_false]
  refine RT 2 E I ?_;exact⟨by rw[hm],by rw[hm,ag (by decide)];exact (bI.shut (q:=q) (ad:=ad) (l:=l) I rfl rfl).sub⟩
 have hm:qM l b=true:=by simp only[qM,aj,Bool.not_false,Bool.and_true,oA];omega
 refine bS 1 [5,6] [0,1,2,3,3004,1005,1006,1007,8,9,1010] E I λa w E I hH hC=>?_;refine RH 6 E I hH hC λa E=>?_;refine cr E rfl I underlying241 Ty.t245 rfl rfl rfl rfl (by decide) (by decide) λWh a w E I ho=>?_;replace hC:=hC.trans ho;clear ho;refine RH 0 E I hH hC λa E=>?_;refine cQ E rfl I underlying241 Ty.t245 rfl rfl I.ai rfl (by simp[Value.oneCell']) (by decide) (by decide) (by omega) λJ7 J8 a w E I=>?_;refine ST 2 E I (λa w E I=>?_);refine RT 2 E I ?_;exact⟨by rw[hm],by rw[hm,ak rfl];exact (bI.shut (q:=q) (l:=l++[(b,e)]) I (by simp) (by simp[J3,jc])).sub⟩
theorem Wi {W w:World}{L:List SP}{q:Nat}(I:U W w (bI q []::L)) :
   Calls prog 180 #[pt q] w λr w' =>
    r=.returned (.tuple #[.agg #[.int .i64 0,.int .i64 0],.bool false])∧U W w' (bI q []::L):=by
 obtain⟨ad,c,I⟩:=bI.open I;refine EN func180 ntmps180 rfl rfl λa E=>?_;refine AL 1 E I λb2 a w E I=>?_;refine CL 4 E I (AK (a:=q) I) λa w E I=>?_;refine IF 1 E I (λaj a E=>?_) λaj a E=>?_
 ·
  skip
  refine SA 2 E I λa w E I=>?_;refine RT 1 E I ?_;exact⟨rfl,(bI.shut (q:=q) (ad:=ad) (l:=[]) I rfl rfl).sub⟩
 exact absurd rfl aj
theorem Wj {W w:World}{L:List SP}{q:Nat}{x:Int×Int}{l:List (Int×Int)}(I:U W w (bI q (x::l)::L)) :
   Calls prog 180 #[pt q] w λr w' =>
    r=.returned (.tuple #[.agg #[.int .i64 x.1,.int .i64 x.2],.bool true])∧U W w' (bI q l::L):=by
 obtain⟨ad,c,I⟩:=bI.open I;have cp:=(I.sl ad).2;refine EN func180 ntmps180 rfl rfl λa E=>?_;refine AL 1 E I λb2 a w E I=>?_;refine CL 4 E I (AK (a:=q) I) λa w E I=>?_;refine IF 1 E I (λaj a E=>?_) λaj a E=>?_
 ·
  simp at aj;omega
 refine RN 1 E I λa E=>?_;obtain⟨b,off,rfl,c7⟩:=I.bU ad (by simp);have hr:=c7.part 0 2;rw[show 0=0*2 from rfl,Eh (x::l) 0 (by simp)]at hr;refine SX 4 E I (by simp) λa E=>?_;refine RN 0 E I λa E=>?_;refine SS E (bT E underlying245 rfl Ty.t245 (hr)) λa E=>?_;refine AL 0 E I λb4 a w E I=>?_;refine SA 0 E I λa w E I=>?_;refine SX 6 E I (by simp) λa E=>?_;replace I:=I.Dd (some ⟨b,off,none⟩) 1 (x::l).length (by simp) (bf _);refine ST 2 E I (λa w E I=>?_);refine SA 2 E I λa w E I=>?_;refine RT 1 E I ?_;exact⟨rfl,(bI.shut (q:=q) (l:=l) I (by simp) (by simp[jc];rw[gg];exact Nat.le_of_eq (pR l))).sub⟩
def kept (p:Int×Int→Bool)(l:List (Int×Int)):List (Int×Int):=l.filter λx=>!p x
theorem Ei (p:Int×Int→Bool)(l:List (Int×Int))(j:Nat)(h:j<l.length):kept p (l.take (j+1))=kept p (l.take j)++(if p l[j] then [] else [l[j]]):=by
 rw[jw h,kept,yl];cases hp:p l[j] <;> simp[kept,hp]
theorem J9 (p:Int×Int→Bool)(l:List (Int×Int))(h:fi p l = -1):kept p l=l:=by
 unfold fi at h;split at h
 ·omega
 ·rename_i h1;rw[List.findIdx_lt_length]at h1;exact List.filter_eq_self.2 λx hx=>by
   cases hp:p x with
   | false=>rfl
   | true=>exact absurd ⟨x,hx,hp⟩ h1
theorem Wl (p:Int×Int→Bool)(l:List (Int×Int))(h:¬ fi p l = -1):∃ k:Nat,fi p l=(k:Int)∧k<l.length∧kept p (l.take (k+1))=l.take k:=by
 unfold fi at h ⊢;split at h
 ·rename_i h1;refine⟨l.findIdx p,by rw[ak h1],h1,?_⟩;rw[Ei p l _ h1,List.findIdx_getElem (w:=h1),ak rfl,append_nil];refine List.filter_eq_self.2 λx hx=>?_;obtain⟨j,hj,rfl⟩:=List.mem_iff_getElem.1 hx;simp only[et]at hj;have:=List.not_of_lt_findIdx (p:=p) (xs:=l) (i:=j) (by omega);simp at this ⊢;exact this
 ·exact absurd rfl h
theorem Wm {pre post:List Value}(l:List (Int×Int))(i:Nat)(h:i<l.length):((pre++jc l++post).drop (pre.length+i*2)).take 2=[.int .i64 l[i].1,.int .i64 l[i].2]:=by
 rw[dx,← ky,drop_left,List.drop_append_of_le_length (by rw[pR];omega),List.take_append_of_le_length (by simp[pR];omega)];exact Eh l i h
theorem Wn {pre post:List Value}(l:List (Int×Int))(i:Nat)(x:Int×Int)(h:i<l.length) :
   cG (pre++jc l++post) (pre.length+i*2) [.int .i64 x.1,.int .i64 x.2]=pre++jc (l.set i x)++post:=by
 have uO:l.set i x=l.take i++x::l.drop (i+1):=by rw[rp,ak h]
 have e1:(pre++jc l++post).take (pre.length+i*2)=pre++jc (l.take i):=by
  rw[dx,ur,gg (by omega),show pre.length+i*2-pre.length=i*2 from by omega,List.take_append_of_le_length (by rw[pR];omega),J5]
 have e2:(pre++jc l++post).drop (pre.length+i*2+2)=jc (l.drop (i+1))++post:=by
  rw[dx,Nat.add_assoc,← ky,drop_left,show i*2+2=(i+1)*2 from by omega,List.drop_append_of_le_length (by rw[pR];omega),J4]
 rw[cG,e1];show _++_++(pre++jc l++post).drop (pre.length+i*2+2)=_;rw[e2,uO,J3];simp[jc]
structure Dl (p:Int×Int→Bool)(l l':List (Int×Int))(i j:Nat):Prop where
 len:l'.length=l.length
 le:j≤l.length
 lt:i<j
 cS:i=(kept p (l.take j)).length
 fst:l'.take i=kept p (l.take j)
 snd:l'.drop j=l.drop j
theorem Dl.get {p l l' i j}(d:Dl p l l' i j)(h:j<l.length):l'[j]'(by have:=d.len;omega)=l[j]:=by
 have h1:=d.snd;rw[kF (by have:=d.len;omega),kF h]at h1;exact (List.cons.inj h1).1
theorem Dl.ab {p l l' i j}(d:Dl p l l' i j)(h:j<l.length)(hp:p l[j]=false):Dl p l (l'.set i l[j]) (i+1) (j+1):=by
 have hi:i<l'.length:=by have:=d.len;have:=d.lt;omega
 have hk:=Ei p l j h;rw[hp]at hk;refine⟨by simp[d.len],by omega,by have:=d.lt;omega,?_,?_,?_⟩
 ·rw[hk];simp[← d.cS]
 ·rw[hk,← d.fst,rp,ak hi,ur,gg (by simp;omega)];have:(l'.take i).length=i:=by simp;omega
  simp[this]
 ·have h1:=d.snd;rw[List.drop_set_of_lt (by have:=d.lt;omega)];have:=di (List.drop 1) h1;simpa [ky] using this
theorem Dl.skip {p l l' i j}(d:Dl p l l' i j)(h:j<l.length)(hp:p l[j]=true):Dl p l l' i (j+1):=by
 have hk:=Ei p l j h;rw[hp]at hk;simp only[if_true,append_nil]at hk;refine⟨d.len,by omega,by have:=d.lt;omega,by rw[hk];exact d.cS,by rw[hk];exact d.fst,?_⟩;have:=di (List.drop 1) d.snd;simpa [ky] using this
theorem Wo {W w:World}{L:List SP}{ad:Option Addr}{c f:Nat}{us:List Value}{l:List (Int×Int)}{p:Int×Int→Bool}(I:U W w (Sl 245 2 ad l.length c (jc l)::L))
   (hc:hQ prog f=true) (hf:∀ A,wD W (A::L) f us p) (jM:∀ A B,wD W (A::B::L) f us p) (hl:l.length≤140737488355328) :
   Calls prog 321 #[.slice ad l.length c,.func (.func f) #[] us.toArray] w λe w' =>
    ∃ av c',e=.returned (.slice av (kept p l).length c')∧U W w' (Sl 245 2 av (kept p l).length c' (jc (kept p l))::L):=by
 refine EN func321 ntmps321 rfl rfl λa E=>?_;refine CL 5 E I (J6 (p:=p) I hc (hf _) hl) λa w E I=>?_;refine IF 5 E I (λaj a E=>?_) λaj a E=>?_
 ·
  refine RT 3 E I ?_;exact⟨ad,c,by rw[J9 p l aj],by rw[J9 p l aj];exact I⟩
 obtain⟨k,hk,dH,j5⟩:=Wl p l aj;rw[hk]at E;have cp:=(I.sl ad).2;have hA:=E;obtain⟨b,pre,post,⟨cH,dq,rfl,a4⟩,kC⟩:=I.l4 (by omega);have E:=hA;have I:=kC;refine RN 5 E I λa E=>?_;refine aQ (λμ a w=>∃ i j:Nat,∃ l':List (Int×Int),(μ=l.length-j∧Dl p l l' i j)∧Fr a 42 [(0,.slice (some ⟨b,pre.length,none⟩) l.length c),(1,.func (.func f) #[] us.toArray),(4,.slice none 0 0),(5,.int .i64 i),(6,.int .i64 j)]∧U W w (aa b 245 (pre++jc l'++post)::L)) (l.length-(k+1)) (⟨k,k+1,l,⟨rfl,rfl,by omega,by omega,by rw[j5];simp;omega,by rw[j5],rfl⟩,E.ab [0,1,4,5,6],I⟩) ?_;clear E I;rintro μ a w ⟨i,j,l',⟨rfl,hd⟩,E,I⟩;have ti:=hd.len;have kL:=hd.le;have hd3:=hd.lt;refine IF 6 E I (λao a E=>?_) λao a E=>?_
 ·
  have eT:j<l.length:=by omega
  have Wp:=hd.get eT;have hr:Rd w b (pre.length+j*2) [.int .i64 l[j].1,.int .i64 l[j].2]:=by
   intro q v hq;rw[I.cell];have:=Wm (pre:=pre) (post:=post) l' j (by omega);rw[Wp]at this;rw[← this]at hq;rw[vP]at hq;split at hq
   ·rw[qs]at hq;exact hq
   ·cases hq
  refine RN 5 E I λa E=>?_;refine SS E (bT E underlying245 rfl Ty.t245 (hr)) λa E=>?_;refine AL 0 E I λdt a w E I=>?_;refine SA 0 E I λa w E I=>?_;refine CL 3 E I (jM _ _ _ l[j] I) (hf:=hc) λa w E I=>?_;refine IF 1 E I (λay a E=>?_) λay a E=>?_
  ·
   refine RN 5 E I λa E=>?_;refine rq E rfl I Ty.t245 (by simp[Value.oneCell']) (by simp[pR];omega) λa w E I=>?_;rw[Wn l' i l[j] (by omega)]at I;refine RN 6 E I λa E=>?_;exact⟨l.length-(j+1),by omega,i+1,j+1,_,⟨rfl,hd.ab eT ay⟩,E.ab [0,1,4,5,6],I.sub⟩
  refine RN 3 E I λa E=>?_;exact⟨l.length-(j+1),by omega,i,j+1,l',⟨rfl,hd.skip eT ay⟩,E.ab [0,1,4,5,6],I.sub⟩
 obtain rfl:j=l.length:=by omega
 have yd:=hd.cS;have Ka:=hd.fst;rw[k4]at yd Ka;refine RN 4 E I λa E=>?_;rw[pB (by omega)]at E;have hle:pre.length+i*2+(l.length-i)*2≤(pre++jc l'++post).length:=by simp only[aI,pR,ti];omega
 refine IP E rfl I underlying241 Ty.t245 rfl rfl hle λa w E I=>?_;refine RN 4 E I λa E=>?_;rw[pB (by omega)]at E;refine RT 1 E I ?_;refine⟨some ⟨b,pre.length+0*2,none⟩,c,by rw[yd];rfl,?_⟩;generalize hz:(Builtin.zeroCells (Value.cells (.agg #[.int .i64 0,.int .i64 0])) (l.length-i)).toList=zs at I;have iI:zs.length=(l.length-i)*2:=by rw[← hz];exact xR 0 (a1:=0) rfl _
 have he:cG (pre++jc l'++post) (pre.length+i*2) zs=pre++jc (kept p l)++(zs++post):=by
  have e1:(pre++jc l'++post).take (pre.length+i*2)=pre++jc (kept p l):=by
   rw[dx,ur,gg (by omega),show pre.length+i*2-pre.length=i*2 from by omega,List.take_append_of_le_length (by rw[pR];omega),J5,Ka]
  have e2:(pre++jc l'++post).drop (pre.length+i*2+zs.length)=post:=by
   rw[iI,List.drop_append,List.drop_of_length_le (by simp only[aI,pR];omega),nil_append];simp only[aI,pR,ti];have:pre.length+i*2+(l.length-i)*2-(pre.length+l.length*2)=0:=by omega
   rw[this,drop_zero]
  rw[cG,e1,e2];simp
 rw[he]at I;exact U.iX I (pR _) (by omega) (by rw[← yd,aI,iI];omega)
theorem Kb {W:World}{L R:List SP}{b t:Nat}{x:Int} [fI L b t [.int .i64 x] R] :
   wD W L 322 [pt b] (λy=>decide (y.2<x)):=by
 rintro w ⟨Wb,We⟩ I;refine EN func322 ntmps322 rfl rfl λa E=>?_;refine BX 1 E I λb2 a w E I=>?_;refine RT 7 E I ?_;exact⟨rfl,I.tail⟩
theorem Wq {W w:World}{L:List SP}{q:Nat}{l:List (Int×Int)}{e:Int}(I:U W w (bI q l::L))(hl:l.length≤16) :
   Calls prog 307 #[pt q,.int .i64 e] w λr w' =>
    r=.returned (.int .i64 ((l.length:Int)-(kept (λy=>decide (y.2<e)) l).length))∧U W w' (bI q (kept (λy=>decide (y.2<e)) l)::L):=by
 obtain⟨ad,c,I⟩:=bI.open I;have hk:(kept (λy=>decide (y.2<e)) l).length≤l.length:=pO _ _;refine EN func307 ntmps307 rfl rfl λa E=>?_;refine BX 1 E I λb3 a w E I=>?_;refine CL 3 E I (AK (a:=q) I) λa w E I=>?_;refine RN 5 E I λa E=>?_;replace E:=E.ei 9;refine aY 7 E I (Wo (I.pick (Sl 245 2 ad l.length c (jc l))) (by kernel_rfl) (p:=λy=>decide (y.2<e)) (λA=>Kb) (λA B=>Kb) (by omega)) λav c' a w E I=>?_;refine ST 2 E I (λa w E I=>?_);refine CL 3 E I (AK (a:=q) I) λa w E I=>?_;refine RT 2 E I ?_;exact⟨rfl,(bI.shut (q:=q) (ad:=av) (l:=kept (λy=>decide (y.2<e)) l) I rfl rfl).sub⟩
theorem Wr {W w:World}{L:List SP}{q:Nat}{l:List (Int×Int)}(I:U W w (bI q l::L)) :
   Calls prog 180 #[pt q] w λr w' =>
    r=.returned (.tuple #[.agg #[.int .i64 (l.headD (0,0)).1,.int .i64 (l.headD (0,0)).2],.bool (!l.isEmpty)])∧U W w' (bI q l.tail::L):=by
 cases l with
 | nil=>exact Wi I
 | cons x l=>exact Wj I
class wE (L:List SP)(q:Nat)(l:outParam (List (Int×Int)))(R:outParam (List SP)):Prop where perm:L.Perm (bI q l::R)
instance wE.head {L q l}:wE (bI q l::L) q l L:=⟨lD _⟩
instance (priority:=low) wE.tail {A L q l R}[h:wE L q l R]:wE (A::L) q l (A::R):=⟨(kx A h.perm).trans (cZ _ _ _)⟩
theorem U.uP {W w:World}{L R:List SP}{l:List (Int×Int)}(I:U W w L)(q:Nat)[k:wE L q l R]:U W w (bI q l::R):=I.perm k.perm
theorem Kc {x:Int}:decide (x≠x)=false:=by simp
end
section
structure Wk where
 busy:Bool
 jb:Int
 je:Int
 x:Nat
 done:Nat
 mM:Bool
def ld:Wk:=⟨false,0,0,0,0,false⟩
abbrev Js:=List (Int×Int)
def l9 (J:Js)(b e:Int):Js:=if qM J b then J++[(b,e)] else J
inductive lL (p:Pr)(A:Sn)(T:Tr)(J:Js)(k:Wk):Bool→Sn→Tr→Js→Wk→Prop
 | idle:k.busy=false→J=[]→lL p A T J k false A T J k
 | yo {j:Int×Int} {J':Js}:k.busy=false→J=j::J'→(j.2≠T.epoch∨(∀ y∈T.l,(y.id:Int)≠j.1)∨∃ x∈T.l,(x.id:Int)=j.1∧x.al.length≤x.done)→lL p A T J k true A T J' k
 | Ej {j : Int × Int} {J' : Js} {i : Nat} {x : Br} {px : aC} : k.busy = false → J = j :: J' → j.2 = T.epoch → x ∈ T.l → (x.id : Int) = j.1 → x.done < x.al.length → A.ar[i]? = some px → px.id = x.snap →
     lL p A T J k true (A.add px.g px.p) T J' ⟨true,j.1,j.2,A.last+1,x.done,false⟩
 | gone:k.busy=true→(k.je≠T.epoch∨∀ y∈T.l,(y.id:Int)≠k.jb)→lL p A T J k true (A.ey k.x) T J { k with busy:=false }
 | mM {x : Br} {i : Nat} {px : aC} {p' : Nat → Nat} {b : List UInt8} : k.busy = true → k.je = T.epoch → x ∈ T.l → (x.id : Int) = k.jb → k.mM = false → A.ar[i]? = some px → px.id = k.x → x.al[k.done]? = some b →
     dR (e8 p (x.frm+k.done) b px.g)→lL p A T J k true { A with ar:=A.ar.set i ⟨px.id,px.refs,e8 p (x.frm+k.done) b px.g,p'⟩ } T J { k with mM:=true }
 | failed {x:Br}:k.busy=true→k.je=T.epoch→x∈T.l→(x.id:Int)=k.jb→k.mM=false→¬ 4*A.ar.length≤A.room→lL p A T J k true (A.ey k.x) T (l9 J k.jb k.je) { k with busy:=false }
 | iM {x : Br} {kk : Nat} : k.busy = true → k.je = T.epoch → T.l[kk]? = some x → (x.id : Int) = k.jb → k.mM = true → x.done < k.done + 1 → k.done + 1 ≤ x.al.length →
     lL p A T J k true (A.ey x.snap) (T.iM kk x (k.done+1) k.x) (if k.done+1<x.al.length then l9 J k.jb k.je else J) { k with busy:=false }
 | lost {x:Br}:k.busy=true→k.je=T.epoch→x∈T.l→(x.id:Int)=k.jb→k.mM=true→k.done+1≤x.done→lL p A T J k true (A.ey k.x) T (if x.done<x.al.length then l9 J k.jb k.je else J) { k with busy:=false }
def jA (ws:List Wk):List Nat:=(ws.filter (·.busy)).map (·.x)
structure Inv (p:Pr)(F:Int)(g0:Nat→Int)(t:Nat→Nat)(base:Nat)(A:Sn)(T:Tr)(ws:List Wk):Prop where
 perm:(A.ar.map (·.id)).Perm (base::(T.l.map (·.snap)++jA ws))
 ar:∀ x∈A.ar,x.refs=1∧dR x.g
 base:∀ x∈A.ar,x.id=base→x.g=g0∧x.p=t
 gi:∀ y∈T.l,y.frm=F∧∀ x∈A.ar,x.id=y.snap→x.g=foldI p F g0 (y.al.take y.done)
 lM:∀ k∈ws,k.jb≤T.last∧(k.busy=true→∀ y∈T.l,(y.id:Int)=k.jb→k.done<y.al.length∧∀ x∈A.ar,x.id=k.x→x.g=foldI p F g0 (y.al.take (k.done+if k.mM then 1 else 0)))
theorem j9 {α:Type}{f:α→Bool}{l:List α}{x:α}(h:x∈l.filter f):x∈l:=(List.mem_filter.1 h).1
theorem WF.oQ {A:Sn}(h:WF A):(A.ar.map (·.id)).Nodup:=h.sorted.imp (λh=>Nat.ne_of_lt h)
theorem WT.same {T:Tr}(h:WT T){x y:Br}(hx:x∈T.l)(hy:y∈T.l)(he:x.id=y.id):x=y:=by
 obtain⟨i,hi⟩:=j6.1 hx;obtain⟨j,hj⟩:=j6.1 hy;obtain rfl:=h.unique hj hi he;rw[hi]at hj;cases hj;rfl
theorem Ws {α:Type}{f:α→Nat}:∀ {l:List α} {i:Nat} (hd:(l.map f).Nodup) (hi:i<l.length),l.filter (λx=>f x != f l[i])=l.eraseIdx i:=by
 intro l
 induction l with
 | nil=>intro i _ hi;simp at hi
 | cons a l ih =>
  intro i hd hi;rw[map_cons,List.nodup_cons]at hd;cases i with
  | zero =>
   rw[List.getElem_cons_zero,List.filter_cons_of_neg (by simp),List.eraseIdx_cons_zero,List.filter_eq_self];intro y hy;simp only[bne_iff_ne,ne_eq];intro e;exact hd.1 (e ▸ cR.2 ⟨y,hy,rfl⟩)
  | succ i =>
   have vV:i<l.length:=by simpa using hi
   rw[List.getElem_cons_succ,List.filter_cons_of_pos,List.eraseIdx_cons_succ,ih hd.2 vV];simp only[bne_iff_ne,ne_eq];intro e;exact hd.1 (e ▸ cR.2 ⟨l[i],iZ _,rfl⟩)
theorem AN {A:Sn}(hw:WF A)(hr:∀ x∈A.ar,x.refs=1)(id:Nat):A.ey id={ A with ar:=A.ar.filter (λx=>x.id != id) }:=by
 by_cases h:∃ px∈A.ar,px.id=id
 ·obtain⟨px,h1,rfl⟩:=h;obtain⟨i,hi⟩:=j6.1 h1;obtain⟨hl,he⟩:=a2.1 hi;have h2:=Ws hw.oQ hl;rw[he]at h2;rw[yj hw hi,Sn.drop,ak (hr px h1),h2]
 ·rw[Ec (λy hy e=>h ⟨y,hy,e⟩),List.filter_eq_self.2];intro y hy;simp only[bne_iff_ne,ne_eq];exact λe=>h ⟨y,hy,e⟩
theorem Ek {a:Nat}{l L M:List Nat}(h1:l.Perm L)(h2:L.Perm (a::M))(oQ:l.Nodup):(l.filter (· != a)).Perm M:=by
 have h3:=(h1.trans h2).filter (· != a);have h4:=(h1.trans h2).nodup_iff.1 oQ;rw[List.nodup_cons]at h4;have h5:M.filter (· != a)=M:=List.filter_eq_self.2 (λy hy=>by simp only[bne_iff_ne,ne_eq];intro e;exact h4.1 (e ▸ hy));rw[List.filter_cons_of_neg (by simp),h5]at h3;exact h3
theorem El (l:List aC)(id:Nat):(l.filter (λx=>x.id != id)).map (·.id)=(l.map (·.id)).filter (· != id):=by
 rw[List.filter_map];rfl
theorem wF {k:Wk}{ws:List Wk}(h:k.busy=true):jA (k::ws)=k.x::jA ws:=by rw[jA,List.filter_cons_of_pos h,map_cons];rfl
theorem Em {k:Wk}{ws:List Wk}(h:k.busy=false):jA (k::ws)=jA ws:=by rw[jA,List.filter_cons_of_neg (by simp[h])];rfl
theorem AO {k:Wk}{ws:List Wk}(h:k∈ws)(hb:k.busy=true):k.x∈jA ws:=cR.2 ⟨k,List.mem_filter.2 ⟨h,hb⟩,rfl⟩
theorem Inv.wG {p:Pr}{F:Int}{g0:Nat→Int}{t:Nat→Nat}{base:Nat}{A:Sn}{T:Tr}{ws Kd:List Wk}(h:Inv p F g0 t base A T ws)(hp:ws.Perm Kd):Inv p F g0 t base A T Kd :=
 ⟨h.perm.trans ((((hp.filter _).map _).append_left _).cons _),h.ar,h.base,h.gi,λk hk=>h.lM k (hp.mem_iff.2 hk)⟩
section
variable {p:Pr}{F:Int}{g0:Nat→Int}{t:Nat→Nat}{base:Nat}{A A':Sn}{T T':Tr}{J J':Js}{ws:List Wk}{k k':Wk}{r:Bool}
theorem Inv.oQ (h:Inv p F g0 t base A T ws)(hA:WF A):(base::(T.l.map (·.snap)++jA ws)).Nodup:=h.perm.nodup_iff.1 hA.oQ
theorem Inv.mH (h:Inv p F g0 t base A T ws){id:Nat}(hm:id∈base::(T.l.map (·.snap)++jA ws)):∃ (i:Nat) (px:aC),A.ar[i]?=some px∧px.id=id:=by
 obtain⟨px,h1,h2⟩:=cR.1 (h.perm.mem_iff.2 hm);obtain⟨i,hi⟩:=j6.1 h1;exact⟨i,px,hi,h2⟩
theorem Inv.Ke (h:Inv p F g0 t base A T ws){x:Br}(hx:x∈T.l):∃ (i:Nat) (px:aC),A.ar[i]?=some px∧px.id=x.snap :=
 h.mH (gP _ (mem_append_left _ (cR.2 ⟨x,hx,rfl⟩)))
theorem Inv.Wt (h:Inv p F g0 t base A T ws)(hk:k∈ws)(hb:k.busy=true):∃ (i:Nat) (px:aC),A.ar[i]?=some px∧px.id=k.x :=
 h.mH (gP _ (List.mem_append_right _ (AO hk hb)))
theorem Inv.rest (h:Inv p F g0 t base A T (k::ws))(hA:WF A)(hb:k.busy=true)(hj:k'.busy=false)(hl:k'.jb=k.jb):Inv p F g0 t base (A.ey k.x) T (k'::ws):=by
 rw[AN hA (λx hx=>(h.ar x hx).1)];refine⟨?_,λx hx=>h.ar x (j9 hx),λx hx=>h.base x (j9 hx),λy hy=>⟨(h.gi y hy).1,λx hx=>(h.gi y hy).2 x (j9 hx)⟩,λk2 b9=>?_⟩
 ·simp only;rw[El,Em hj];refine Ek h.perm ?_ hA.oQ;rw[wF hb];exact (kx _ nQ).trans (cZ _ _ _)
 ·rcases List.mem_cons.1 b9 with rfl | b9
  ·exact⟨by rw[hl];exact (h.lM k (gY ..)).1,λe=>by rw[hj]at e;cases e⟩
  ·refine⟨(h.lM k2 (gP _ b9)).1,λe y hy b6=>?_⟩;obtain⟨h1,h2⟩:=(h.lM k2 (gP _ b9)).2 e y hy b6;exact⟨h1,λx hx=>h2 x (j9 hx)⟩
theorem yp {A:Sn}(hA:WF A){i:Nat}{px v z:aC}(hi:A.ar[i]?=some px)(hz:z∈A.ar.set i v):z=v∨(z∈A.ar∧z.id≠px.id):=by
 obtain⟨j,hj⟩:=j6.1 hz;rw[jZ]at hj;split at hj
 ·split at hj
  ·cases hj;exact .inl rfl
  ·cases hj
 ·rename_i bD;exact .inr ⟨bH hj,λe=>bD (hA.ids hi hj e.symm)⟩
theorem Inv.bit (h:Inv p F g0 t base A T (k::ws))(hA:WF A)(hT:WT T)(hb:lL p A T J k r A' T' J' k'):Inv p F g0 t base A' T' (k'::ws):=by
 cases hb with
 | idle=>exact h
 | yo=>exact h
 | @Ej j J' i x px h1 h2 h3 h4 h5 h6 h7 h8 =>
  have uQ:∀ z∈A.ar,z.id≠A.last+1:=λz hz e=>by have:=(hA.mH z hz).2.1;omega
  have hW:=bH h7;have hlt:∀ id∈base::(T.l.map (·.snap)++jA (k::ws)),id≠A.last+1:=λid b6 e=>by
   obtain⟨z,hz,he⟩:=cR.1 (h.perm.mem_iff.2 b6);exact uQ z hz (by rw[he,e])
  refine⟨?_,λz hz=>?_,λz hz he=>?_,λy hy=>⟨(h.gi y hy).1,λz hz he=>?_⟩,λk2 b9=>?_⟩
  ·simp only[Sn.add,cW,map_cons,map_nil];rw[wF rfl];have hp:=h.perm;rw[Em h1]at hp;refine (hp.append_right _).trans ((List.perm_append_singleton _ _).trans ?_);exact (cZ _ _ _).trans (kx _ nQ.symm)
  ·simp only[Sn.add]at hz;rcases eS.1 hz with hz | hz
   ·exact h.ar z hz
   ·simp at hz;subst hz;exact⟨rfl,(h.ar px hW).2⟩
  ·simp only[Sn.add]at hz;rcases eS.1 hz with hz | hz
   ·exact h.base z hz he
   ·simp at hz;subst hz;exact absurd he.symm (hlt base (gY ..))
  ·simp only[Sn.add]at hz;rcases eS.1 hz with hz | hz
   ·exact (h.gi y hy).2 z hz he
   ·simp at hz;subst hz;exact absurd he.symm (hlt y.snap (gP _ (mem_append_left _ (cR.2 ⟨y,hy,rfl⟩))))
  ·rcases List.mem_cons.1 b9 with rfl | b9
   ·refine⟨?_,λ_ y hy b6=>?_⟩
    ·have:=(hT.ok x h4).2.2.2;simp only;omega
    ·obtain rfl:y=x:=hT.same hy h4 (by simp only at b6;omega);refine⟨h6,λz hz he=>?_⟩;simp only[Sn.add]at hz;rcases eS.1 hz with hz | hz
     ·exact absurd he (uQ z hz)
     ·simp at hz;subst hz;exact (h.gi y hy).2 px hW h8
   ·refine⟨(h.lM k2 (gP _ b9)).1,λe y hy b6=>?_⟩;obtain⟨h9,fh⟩:=(h.lM k2 (gP _ b9)).2 e y hy b6;refine⟨h9,λz hz he=>?_⟩;simp only[Sn.add]at hz;rcases eS.1 hz with hz | hz
    ·exact fh z hz he
    ·simp at hz;subst hz;exact absurd he.symm (hlt k2.x (gP _ (List.mem_append_right _ (AO (gP _ b9) e))))
 | gone h1 h2=>exact h.rest hA h1 rfl rfl
 | failed h1=>exact h.rest hA h1 rfl rfl
 | lost h1=>exact h.rest hA h1 rfl rfl
 | @mM x i px p' b h1 h2 h3 h4 h5 h6 h7 h8 h9 =>
  have hW:=bH h6;have En:=h.oQ hA;rw[wF h1]at En;have Eo:(base::(T.l.map (·.snap)++k.x::jA ws)).Perm (k.x::(base::(T.l.map (·.snap)++jA ws))):=(kx _ nQ).trans (cZ _ _ _);have bR:=(List.nodup_cons.1 (Eo.nodup_iff.1 En)).1;have Wu:(A.ar.set i ⟨px.id,px.refs,e8 p (x.frm+k.done) b px.g,p'⟩).map (·.id)=A.ar.map (·.id):=Jy h6 rfl;refine⟨?_,λz hz=>?_,λz hz he=>?_,λy hy=>⟨(h.gi y hy).1,λz hz he=>?_⟩,λk2 b9=>?_⟩
  ·simp only;rw[Wu,wF (by exact h1)];have hp:=h.perm;rw[wF h1]at hp;exact hp
  ·rcases yp hA h6 hz with rfl | hz
   ·exact⟨(h.ar px hW).1,h9⟩
   ·exact h.ar z hz.1
  ·rcases yp hA h6 hz with rfl | hz
   ·exact absurd (List.mem_cons.2 (.inl (by simp only at he;rw[← he,h7]))) bR
   ·exact h.base z hz.1 he
  ·rcases yp hA h6 hz with rfl | hz
   ·refine absurd (gP _ (mem_append_left _ (cR.2 ⟨y,hy,?_⟩))) bR;simp only at he;rw[← he,h7]
   ·exact (h.gi y hy).2 z hz.1 he
  ·rcases List.mem_cons.1 b9 with rfl | b9
   ·have hk:=h.lM k (gY ..);refine⟨hk.1,λ_ y hy b6=>?_⟩;obtain rfl:y=x:=hT.same hy h3 (by simp only at b6;omega);obtain⟨fh,lN⟩:=hk.2 h1 y hy h4;refine⟨fh,λz hz he=>?_⟩;rcases yp hA h6 hz with rfl | hz
    ·have DH:=lN px hW h7;rw[h5]at DH;have Kf:y.al.take (k.done+1)=y.al.take k.done++[b]:=by
      rw[List.take_add_one,h8];rfl
     show e8 p (y.frm+k.done) b px.g=foldI p F g0 (y.al.take (k.done+1));rw[Kf,Ef,et,Nat.min_eq_left (by omega),(h.gi y hy).1,DH];simp
    ·simp only at he;exact absurd (by rw[he,h7]) hz.2
   ·have hk:=h.lM k2 (gP _ b9);refine⟨hk.1,λe y hy b6=>?_⟩;obtain⟨fh,lN⟩:=hk.2 e y hy b6;refine⟨fh,λz hz he=>?_⟩;rcases yp hA h6 hz with rfl | hz
    ·refine absurd (gP _ (List.mem_append_right _ ?_)) bR;simp only at he;rw[← h7,he];exact AO b9 e
    ·exact lN z hz.1 he
 | @iM x kk h1 h2 h3 h4 h5 h6 h7 =>
  rw[AN hA (λx hx=>(h.ar x hx).1)];have hx:=bH h3;obtain⟨dH,yq⟩:=a2.1 h3;have hk:=h.lM k (gY ..);refine⟨?_,λz hz=>h.ar z (j9 hz),λz hz=>h.base z (j9 hz),λy hy=>?_,λk2 b9=>?_⟩
  ·simp only[Tr.iM];rw[El,Em (by rfl)];refine Ek h.perm ?_ hA.oQ;rw[wF h1];have e1:(T.l.map (·.snap)).Perm (x.snap::(T.l.eraseIdx kk).map (·.snap)):=by
    have:=(sS T.l dH).map (·.snap);rw[map_cons,yq]at this;exact this
   have e2:((T.l.set kk { x with done:=k.done+1,snap:=k.x }).map (·.snap)).Perm (k.x::(T.l.eraseIdx kk).map (·.snap)):=by
    have:=(sS (T.l.set kk { x with done:=k.done+1,snap:=k.x }) (by simpa using dH)).map (·.snap);rw[map_cons,oG,eraseIdx_set_eq]at this;exact this
   have e3:(base::(T.l.map (·.snap)++k.x::jA ws)).Perm (base::(x.snap::((T.l.eraseIdx kk).map (·.snap)++k.x::jA ws))):=(e1.append_right _).cons _;refine e3.trans ((cZ _ _ _).trans (kx _ (kx _ ?_)));exact nQ.trans (e2.append_right _).symm
  ·simp only[Tr.iM]at hy;rcases rI hy with hy | rfl
   ·exact⟨(h.gi y hy).1,λz hz=>(h.gi y hy).2 z (j9 hz)⟩
   ·refine⟨(h.gi x hx).1,λz hz he=>?_⟩;have:=(hk.2 h1 x hx h4).2 z (j9 hz) he;rw[h5]at this;exact this
  ·have yr : ∀ y ∈ (T.iM kk x (k.done + 1) k.x).l, ∃ AP ∈ T.l, AP.id = y.id ∧ AP.al = y.al := fun y hy => by
    simp only[Tr.iM]at hy;rcases rI hy with hy | rfl
    ·exact⟨y,hy,rfl,rfl⟩
    ·exact⟨x,hx,rfl,rfl⟩
   rcases List.mem_cons.1 b9 with rfl | b9
   ·exact⟨hk.1,λe=>by cases e⟩
   ·have kI:=h.lM k2 (gP _ b9);refine⟨kI.1,λe y hy b6=>?_⟩;obtain⟨AP,Wv,e1,e2⟩:=yr y hy;obtain⟨fh,lN⟩:=kI.2 e AP Wv (by rw[e1];exact b6);rw[e2]at fh lN;exact⟨fh,λz hz=>lN z (j9 hz)⟩
theorem AQ {b e:Int}(h:J.length≤16):(l9 J b e).length≤16:=by
 unfold l9;split
 ·rename_i h1;simp only[qM,fq,oA]at h1;simp;omega
 ·exact h
theorem oR (A:Sn)(id:Nat):(A.ey id).room=A.room∧(A.ey id).n=A.n∧(A.ey id).last=A.last:=by
 unfold Sn.ey;split
 ·split
  ·simp[Sn.drop]
  ·exact⟨rfl,rfl,rfl⟩
 ·exact⟨rfl,rfl,rfl⟩
structure AR (A:Sn)(T:Tr)(J:Js)(A':Sn)(T':Tr)(J':Js):Prop where
 room:A'.room=A.room
 n:A'.n≤A.n+1
 most:T'.most=T.most
 last:T'.last=T.last
 epoch:T'.epoch=T.epoch
 l:T'.l.map (λy=>(y.id,y.al))=T.l.map (λy=>(y.id,y.al))
 len:J.length≤16→J'.length≤16
theorem lL.Ww (hb:lL p A T J k r A' T' J' k'):AR A T J A' T' J':=by
 cases hb with
 | idle=>exact⟨rfl,by omega,rfl,rfl,rfl,rfl,λh=>h⟩
 | yo h1 h2=>exact⟨rfl,by omega,rfl,rfl,rfl,rfl,λh=>by rw[h2,eR]at h;omega⟩
 | Ej h1 h2=>exact⟨rfl,by simp[Sn.add],rfl,rfl,rfl,rfl,λh=>by rw[h2,eR]at h;omega⟩
 | gone=>exact⟨(oR A _).1,by rw[(oR A _).2.1];omega,rfl,rfl,rfl,rfl,λh=>h⟩
 | mM=>exact⟨rfl,by simp,rfl,rfl,rfl,rfl,λh=>h⟩
 | failed=>exact⟨(oR A _).1,by rw[(oR A _).2.1];omega,rfl,rfl,rfl,rfl,AQ⟩
 | lost=>exact⟨(oR A _).1,by rw[(oR A _).2.1];omega,rfl,rfl,rfl,rfl,λh=>by split <;> first | exact AQ h | exact h⟩
 | @iM x kk h1 h2 h3 =>
  refine⟨(oR A _).1,by rw[(oR A _).2.1];omega,rfl,rfl,rfl,?_,λh=>by split <;> first | exact AQ h | exact h⟩;obtain⟨dH,yq⟩:=a2.1 h3;simp only[Tr.iM];apply ext_getElem?;intro j;simp only[bn,jZ];by_cases hj:kk=j
  ·subst hj;simp[dH,yq]
  ·rw[ag hj]
end
end
section
theorem Wx {α:Type}{f:α→Nat}:∀ {l:List α},(l.map f).Nodup→∀ {x y:α},x∈l→y∈l→f x=f y→x=y:=by
 intro l
 induction l with
 | nil=>intro _ x y hx;cases hx
 | cons a l ih =>
  intro hd x y hx hy he;rw[map_cons,List.nodup_cons]at hd;rcases List.mem_cons.1 hx with uR | hx
  ·rcases List.mem_cons.1 hy with Ep | hy
   ·rw[uR,Ep]
   ·exact absurd (cR.2 ⟨y,hy,by rw[← he,uR]⟩) hd.1
  ·rcases List.mem_cons.1 hy with Ep | hy
   ·exact absurd (cR.2 ⟨x,hx,by rw[he,Ep]⟩) hd.1
   ·exact ih hd.2 hx hy he
theorem WF.ey {A:Sn}(hw:WF A)(hr:∀ x∈A.ar,x.refs=1)(id:Nat):WF (A.ey id):=by
 by_cases h:∃ px∈A.ar,px.id=id
 ·obtain⟨px,h1,rfl⟩:=h;obtain⟨i,hi⟩:=j6.1 h1;rw[yj hw hi,Sn.drop,ak (hr px h1)];exact hw.erase i
 ·rw[Ec (λy hy e=>h ⟨y,hy,e⟩)];exact hw
theorem Wy:∀ (l:List Br) {A:Sn},WF A→(∀ x∈A.ar,x.refs=1)→A.gU l={ A with ar:=A.ar.filter (λx=>!(l.map (·.snap)).contains x.id) }:=by
 intro l
 induction l with
 | nil =>
  intro A hw hr;have:A.ar.filter (λx=>!(([]:List Br).map (·.snap)).contains x.id)=A.ar:=List.filter_eq_self.2 λx _=>rfl;rw[this];rfl
 | cons y l ih =>
  intro A hw hr;have h1:A.gU (y::l)=(A.ey y.snap).gU l:=rfl;have h2:=AN hw hr y.snap;have h3:∀ x∈(A.ey y.snap).ar,x.refs=1:=by rw[h2];exact λx hx=>hr x (j9 hx)
  rw[h1,ih (hw.ey hr _) h3,h2];simp only[List.filter_filter]
  congr 1
  refine List.filter_congr λx _=>?_;simp only[map_cons,List.contains_cons,Bool.not_or];rw[Bool.and_comm];rfl
theorem Wz {base:Nat}{l:List Br}{f:Br→Bool}{H M:List Nat}(hp:M.Perm (base::(l.map (·.snap)++H)))(oQ:M.Nodup) :
   (M.filter (λid=>!((l.filter f).map (·.snap)).contains id)).Perm (base::((l.filter (λx=>!f x)).map (·.snap)++H)):=by
 have h1:=hp.nodup_iff.1 oQ;have h2:=hp.filter (λid=>!((l.filter f).map (·.snap)).contains id);have h3:=List.nodup_cons.1 h1;have h4:=List.nodup_append.1 h3.2;have yt:∀ id,id∈(l.filter f).map (·.snap)→id∈l.map (·.snap):=λid h=>by
  obtain⟨y,hy,rfl⟩:=cR.1 h;exact cR.2 ⟨y,j9 hy,rfl⟩
 have hb:(!((l.filter f).map (·.snap)).contains base)=true:=by
  simp only[Bool.not_eq_true',List.contains_eq_mem,rR];exact λh=>h3.1 (mem_append_left _ (yt _ h))
 have hH:H.filter (λid=>!((l.filter f).map (·.snap)).contains id)=H:=List.filter_eq_self.2 λz hz=>by
  simp only[Bool.not_eq_true',List.contains_eq_mem,rR];exact λh=>h4.2.2 z (yt _ h) z hz rfl
 have hl:(l.map (·.snap)).filter (λid=>!((l.filter f).map (·.snap)).contains id)=(l.filter (λx=>!f x)).map (·.snap):=by
  rw[List.filter_map]
  congr 1
  refine List.filter_congr λy hy=>?_;simp only[Function.comp]
  congr 1
  cases hf:f y with
  | true =>
   simp only[List.contains_eq_mem,oA];exact cR.2 ⟨y,List.mem_filter.2 ⟨hy,hf⟩,rfl⟩
  | false =>
   simp only[List.contains_eq_mem,rR];intro h;obtain⟨z,hz,he⟩:=cR.1 h;obtain⟨cV,eQ⟩:=List.mem_filter.1 hz;have:=Wx h4.1 cV hy he;rw[this,hf]at eQ;cases eQ
 rw[List.filter_cons,ak hb,yl,hl,hH]at h2;exact h2
section
variable {p:Pr}{F:Int}{g0:Nat→Int}{t:Nat→Nat}{base:Nat}{A:Sn}{T:Tr}{ws:List Wk}{k:Wk}{px:aC}{P:List (List UInt8)}{i:Nat}
theorem Inv.cut (h:Inv p F g0 t base A T ws)(hA:WF A)(f:Br→Bool):Inv p F g0 t base (A.gU (T.l.filter f)) (T.cut f) ws:=by
 rw[Wy _ hA (λx hx=>(h.ar x hx).1)];refine⟨?_,λx hx=>h.ar x (j9 hx),λx hx=>h.base x (j9 hx),λy hy=>⟨(h.gi y (j9 hy)).1,λx hx=>(h.gi y (j9 hy)).2 x (j9 hx)⟩,λk hk=>⟨(h.lM k hk).1,λe y hy b6=>?_⟩⟩
 ·simp only[Tr.cut];have h1:=Wz (f:=f) h.perm hA.oQ;have h2:(A.ar.filter (λx=>!((T.l.filter f).map (·.snap)).contains x.id)).map (·.id)=(A.ar.map (·.id)).filter (λid=>!((T.l.filter f).map (·.snap)).contains id):=by
   rw[List.filter_map];rfl
  rw[h2];exact h1
 ·obtain⟨h1,h2⟩:=(h.lM k hk).2 e y (j9 hy) b6;exact⟨h1,λx hx=>h2 x (j9 hx)⟩
theorem Inv.WA (h:Inv p F g0 t base A T ws)(hA:WF A)(hT:WT T)(hi:A.ar[i]?=some px)(hb:px.id=base):Inv p F g0 t base (A.add px.g px.p) (T.add F P (A.last+1)) ws:=by
 have hW:=bH hi;have uQ:∀ z∈A.ar,z.id≠A.last+1:=λz hz e=>by have:=(hA.mH z hz).2.1;omega
 have hlt:∀ id∈base::(T.l.map (·.snap)++jA ws),id≠A.last+1:=λid b6 e=>by
  obtain⟨z,hz,he⟩:=cR.1 (h.perm.mem_iff.2 b6);exact uQ z hz (by rw[he,e])
 have cC:∀ z∈(A.add px.g px.p).ar,z∈A.ar∨z=⟨A.last+1,1,px.g,px.p⟩:=λz hz=>by
  simp only[Sn.add]at hz;rcases eS.1 hz with hz | hz
  ·exact .inl hz
  ·simp at hz;exact .inr hz
 refine⟨?_,λz hz=>?_,λz hz he=>?_,λy hy=>?_,λk hk=>⟨?_,λe y hy b6=>?_⟩⟩
 ·simp only[Sn.add,Tr.add,cW,map_cons,map_nil];refine (h.perm.append_right _).trans ((List.perm_append_singleton _ _).trans ((cZ _ _ _).trans (kx _ ?_)));rw[dx];exact nQ.symm
 ·rcases cC z hz with hz | rfl
  ·exact h.ar z hz
  ·exact⟨rfl,(h.ar px hW).2⟩
 ·rcases cC z hz with hz | rfl
  ·exact h.base z hz he
  ·exact absurd he.symm (hlt base (gY ..))
 ·simp only[Tr.add]at hy;rcases eS.1 hy with hy | hy
  ·refine⟨(h.gi y hy).1,λz hz he=>?_⟩;rcases cC z hz with hz | rfl
   ·exact (h.gi y hy).2 z hz he
   ·exact absurd he.symm (hlt y.snap (gP _ (mem_append_left _ (cR.2 ⟨y,hy,rfl⟩))))
  ·simp at hy;subst hy;refine⟨rfl,λz hz he=>?_⟩;rcases cC z hz with hz | rfl
   ·exact absurd he (uQ z hz)
   ·exact (h.base px hW hb).1
 ·have:=(h.lM k hk).1;simp only[Tr.add];omega
 ·have g8:=(h.lM k hk).1;simp only[Tr.add]at hy;rcases eS.1 hy with hy | hy
  ·obtain⟨h1,h2⟩:=(h.lM k hk).2 e y hy b6;refine⟨h1,λz hz he=>?_⟩;rcases cC z hz with hz | rfl
   ·exact h2 z hz he
   ·exact absurd he.symm (hlt k.x (gP _ (List.mem_append_right _ (AO hk e))))
  ·simp at hy;subst hy;simp only at b6;omega
theorem Inv.len (h:Inv p F g0 t base A T ws):A.ar.length=1+T.l.length+(jA ws).length:=by
 have:=h.perm.length_eq;simp only[a8,eR,aI]at this;omega
end
end
section
section
variable {P:Program}{ops:Array Oper}{Q:Exit→Act→World→Prop}{a:Act}{w w' W:World}{K:Act→World→Prop}{n d:Nat}{l:List (Nat×Value)}{v:Value}{L R:List SP}
theorem WB {t u ty e:TypeId}{k c a1:Nat}{z:Value}{ad:Option Addr}{cs:List Value}(ht:P.underlying t=some (.slice e))(hu:P.underlying u=some .string)(hi:TI P e z 1 a1)(hz:z.cells.size=1)(s:U W w (Sl e 1 ad k c cs::L))
   (hc:0<c) (str:ByteArray) (hb:0<a1) (aH:(k+str.size)*a1≤140737488355328) :
   ∃ av c' w',(Builtin.append_ #[t,u] ty #[.slice ad k c,.string str]).run P w=.ok (.slice av (k+str.size) c') w'∧U W w' (Sl e 1 av (k+str.size) c' (cs++bc str.data.toList)::L):=by
 obtain⟨i,lF,dL,kX,qw⟩:=info_parts hi.h;have qx:=s.sl ad;have AS:(bc str.data.toList).length=str.size:=Lib.strCells_length str;obtain⟨b,pre,post,⟨cH,dq,rfl,a4⟩,s2⟩:=s.l4 hc;by_cases nR:k+str.size≤c
 ·have eF:(c-k)*1 ≥ str.size:=by omega
  have hf:=Lib.run_firstCells_string (P:=P) w 1 str;have aR:=run_storeCells_at (P:=P) b (pre.length+k) e (bc str.data.toList) 0 (pre++cs++post).toArray w s2.has.2 (by simp[AS];omega) (ep _);have e1:(pre++cs++post).take (pre.length+k)=pre++cs:=by
   have:pre.length+k=(pre++cs).length:=by simp;omega
   rw[this,List.take_left]
  have e2:(pre++cs++post).drop (pre.length+k+0+(bc str.data.toList).length)=post.drop str.size:=by
   have:pre.length+k=(pre++cs).length:=by simp;omega
   rw[this,Nat.add_zero,AS,← ky,drop_left]
  refine⟨some ⟨b,pre.length,none⟩,c,w.setRow b (pre++(cs++bc str.data.toList)++post.drop str.size).toArray,?_,?_⟩
  ·have rr:(storeCells ⟨b,pre.length+k,none⟩ (bc str.data.toList) 0).run P w=.ok () (w.setRow b (((pre++cs++post).take (pre.length+k)++bc str.data.toList)++(pre++cs++post).drop (pre.length+k+0+(bc str.data.toList).length)).toArray):=aR;rw[e1,e2]at rr;have jM:(Builtin.firstCells 1 str.size (.string str)).run P w=.ok (bc str.data.toList).toArray w:=hf;simp[Builtin.append_,eO ht,eO hu,sizeOf,typeInfo,lF,Builtin.lenOf,nR,lE,kX,jM,rr,dx]
  ·exact U.iX (pre:=pre) (post:=post.drop str.size) s2.setRow (by simp[AS];omega) (by omega) (by simp;omega)
 ·have QD:k+str.size≤140737488355328:=fG (Nat.le_mul_of_pos_right _ hb) aH;have nS:=grownCap_ge w (k+str.size) c e;have QE:(Builtin.zeroCells z.cells (grownCap w (k+str.size) c e-(k+str.size))).toList.length=(grownCap w (k+str.size) c e-(k+str.size))*1:=xR e (a1:=a1) hz _;have holds:∀ j v,cs[j]?=some v→w.cell? ((⟨b,pre.length,none⟩:Addr).add j)=some v:=by
   intro j v hj;rw[lE,s2.cell];have:j<cs.length:=(a2.1 hj).1;rw[mA (by simp;omega),pA (by omega)];simpa using hj
  have eP:Builtin.nextslicecap (k+str.size) c*i.bytes≤281474976710656:=by rw[qw];exact growslice_fits (by omega) aH
  have hr:=Lib.run_append_grow_string (P:=P) w t u ty e i z ht hu lF dL ⟨b,pre.length,none⟩ k c cs (by rw[kX];exact cH) holds str (by omega) (by omega) eP;refine⟨_,_,_,hr,?_⟩;have vQ:=(s.tail.drew).alloc (.cells (cs.toArray++(bc str.data.toList).toArray++Builtin.zeroCells z.cells (grownCap w (k+str.size) c e-(k+str.size))) e)
  have Dc : U W (w.drew.alloc (.cells (cs.toArray ++ (bc str.data.toList).toArray ++ Builtin.zeroCells z.cells (grownCap w (k + str.size) c e - (k + str.size))) e))
      (aa w.heap.size e ([]++(cs++bc str.data.toList)++(Builtin.zeroCells z.cells (grownCap w (k+str.size) c e-(k+str.size))).toList)::L):=by
   have:(cs.toArray++(bc str.data.toList).toArray++Builtin.zeroCells z.cells (grownCap w (k+str.size) c e-(k+str.size)))=([]++(cs++bc str.data.toList)++(Builtin.zeroCells z.cells (grownCap w (k+str.size) c e-(k+str.size))).toList).toArray:=by
    apply Array.ext';simp
   rw[this]at vQ ⊢;exact vQ
  exact U.iX (pre:=[]) Dc (by simp[AS];omega) nS (by omega)
theorem WD {s x t u z a1 str e ad k c ty ps af g}{cs:List Value}(E:Fr a n l)(hw:Region.wanted ⟨some d,.call ⟨.builtin .append,#[s,x],#[t,u]⟩,ty,ps,af,g⟩ (yielded ops a.tmps)=true)(I:U W w L)
   (ht:P.underlying t=some (.slice e)) (hu:P.underlying u=some .string) (hi:TI P e z 1 a1) (hz:z.cells.size=1) (hf:okB d n l=true)
   [e1:Ev l s (.slice ad k c)] [pk:fQ L ad k c e 1 cs R] [e2:Ev l x (.string str)] (hc:0<c) (hb:0<a1) (aH:(k+str.size)*a1≤140737488355328)
   (h:∀ av c' a' w',Fr a' n ((d,.slice av (k+str.size) c')::l)→U W w' (Sl e 1 av (k+str.size) c' (cs++bc str.data.toList)::R)→K a' w') :
   cJ P ops Q ⟨some d,.call ⟨.builtin .append,#[s,x],#[t,u]⟩,ty,ps,af,g⟩ K a w:=by
 obtain⟨av,c',w',h2,h3⟩:=WB (P:=P) (ty:=ty) ht hu hi hz (I.perm pk.perm) hc str hb aH;exact bm E hw (by simp[execOp,resolve,e1.ev a n E,e2.ev a n E,invoke,builtin,h2]) hf λa' de=>h _ _ a' _ de h3
end
theorem wrap_u64 (x:Int):IntKind.u64.wrap x=x%18446744073709551616:=by simp[IntKind.wrap,IntKind.signed,IntKind.bits]
theorem wrap_u32 (x:Int):IntKind.u32.wrap x=x%4294967296:=by simp[IntKind.wrap,IntKind.signed,IntKind.bits]
theorem wrap_u8 (x:Int):IntKind.u8.wrap x=x%256:=by simp[IntKind.wrap,IntKind.signed,IntKind.bits]
theorem Kg {x:Nat}(h:x<18446744073709551616):IntKind.u64.wrap ((BitVec.ofInt IntKind.u64.bits (if IntKind.u64.signed then -1 else IntKind.u64.max) ^^^ BitVec.ofInt IntKind.u64.bits (x:Int)).toNat)=((18446744073709551615-x:Nat):Int):=by
 have e:BitVec.ofInt IntKind.u64.bits (if IntKind.u64.signed then -1 else IntKind.u64.max)=BitVec.allOnes 64:=by
  show BitVec.ofInt 64 IntKind.u64.max=_;decide
 rw[e];have e2:BitVec.ofInt IntKind.u64.bits (x:Int)=BitVec.ofNat 64 x:=by
  show BitVec.ofInt 64 (x:Int)=_;exact BitVec.ofInt_natCast 64 x
 rw[e2];show IntKind.u64.wrap (((BitVec.allOnes 64 ^^^ BitVec.ofNat 64 x).toNat:Nat):Int)=_;rw[BitVec.allOnes_xor,BitVec.toNat_not,BitVec.toNat_ofNat,wrap_u64];rw[kY (show x<2 ^ 64 from h)];omega
theorem WE {x:Nat}(h:x<256):IntKind.u8.wrap ((BitVec.ofInt IntKind.u8.bits (x:Int) ||| BitVec.ofInt IntKind.u8.bits 128).toNat)=((x%128+128:Nat):Int):=by
 have:∀ y:Fin 256,IntKind.u8.wrap ((BitVec.ofInt IntKind.u8.bits ((y.val:Nat):Int) ||| BitVec.ofInt IntKind.u8.bits 128).toNat)=((y.val%128+128:Nat):Int):=by decide +kernel
 exact this ⟨x,h⟩
theorem lf (x j:Nat):(x:Int).fdiv (j:Int)=((x/j:Nat):Int):=by
 rw[Int.natCast_ediv,Int.fdiv_eq_ediv_of_nonneg _ (by omega)]
def aO (u:Nat):List UInt8:=if h:u≤127 then [UInt8.ofNat u] else UInt8.ofNat (u%128+128)::aO (u/128)
termination_by u
decreasing_by omega
theorem qN {u:Nat}(h:u≤127):aO u=[UInt8.ofNat u]:=by rw[aO,dif_pos h]
theorem wH {u:Nat}(h:¬ u≤127):aO u=UInt8.ofNat (u%128+128)::aO (u/128):=by rw[aO,dif_neg h]
theorem rS (u:Nat):1≤(aO u).length:=by
 rw[aO];split <;> simp
theorem qO:∀ (k u:Nat),u<128 ^ (k+1)→(aO u).length≤k+1
 | 0,u,h=>by rw[qN (by simpa using (by omega:u≤127))];simp
 | k+1,u,h=>by
  by_cases hu:u≤127
  ·rw[qN hu];simp
  ·rw[wH hu,eR];have:=qO k (u/128) (by rw[Nat.pow_succ]at h;omega);omega
def zz (n:Int):Nat:=if n<0 then (-2*n-1).toNat else (2*n).toNat
section
variable {W w:World}{L:List SP}{c:Nat}{ad:Option Addr}{bs:List UInt8}
theorem tj {N:Int}(I:U W w (Sl 5 1 ad bs.length c (bc bs)::L))(h1:-9223372036854775808≤N)(h2:N≤9223372036854775807)(hb:bs.length≤1099511627776) :
   Calls prog 198 #[.slice ad bs.length c,.int .i64 N] w λe w'=>∃ av c',e=.returned (.slice av (bs++aO (zz N)).length c')∧U W w' (Sl 5 1 av (bs++aO (zz N)).length c' (bc (bs++aO (zz N)))::L):=by
 refine EN func198 ntmps198 rfl rfl λa E=>?_;refine RN 4 E I λa E=>?_;refine SS E (gn E underlying2 underlying319) λa E=>?_;refine RN 1 E I λa E=>?_;rw[wrap_u64,wrap_u64]at E;refine RN 1 E I λa E=>?_;obtain⟨U0,Er⟩:∃ U0:Nat,(N%18446744073709551616*2 ^ 1)%18446744073709551616=(U0:Int):=⟨((N%18446744073709551616*2 ^ 1)%18446744073709551616).toNat,by omega⟩;rw[Er]at E;have Es:U0<18446744073709551616:=by omega
 refine cd (M:=λa w=>Fr a 28 [(0,.slice ad bs.length c),(5,.int .u64 ((zz N:Nat):Int))]∧U W w (Sl 5 1 ad bs.length c (bc bs)::L)) ?_ ?_
 ·
  refine IF 3 E I (λaj a E=>?_) λaj a E=>?_
  ·
   refine RN 2 E I λa E=>?_;rw[Kg Es]at E;refine RN 1 E I λa E=>?_;rw[show 18446744073709551615-U0=zz N from by rw[zz,ak aj];omega]at E;exact⟨E.ab [0,5],I⟩
  refine RN 0 E I λa E=>?_;rw[show U0=zz N from by rw[zz,ag (by omega)];omega]at E;exact⟨E.ab [0,5],I⟩
 clear E;(try clear I);rintro a w ⟨E,I⟩;refine RN 1 E I λa E=>?_;refine aQ (λμ a w=>∃ (ef c':Nat) (av:Option Addr) (dn:List UInt8),(μ=ef∧dn++aO ef=bs++aO (zz N)∧ef≤zz N)∧Fr a 28 [(0,.slice av dn.length c'),(5,.int .u64 (ef:Int))]∧U W w (Sl 5 1 av dn.length c' (bc dn)::L)) (zz N) (⟨zz N,c,ad,bs,⟨rfl,rfl,by omega⟩,E.ab [0,5],I⟩) ?_;clear E I;rintro μ a w ⟨ef,c',av,dn,⟨yu,c9,WG⟩,E,I⟩;refine RN 2 E I λa E=>?_;have cV:zz N<18446744073709551616:=by rw[zz];split <;> omega
 have gE:=qO 9 (zz N) (by simp;omega);have mN:dn.length≤bs.length+10:=by
  have:=di List.length c9;rw[aI,aI]at this;omega
 clear gE;refine IF 2 E I (λao a E=>?_) λao a E=>?_
 ·
  refine RN 3 E I λa E=>?_;refine SS E (gn E underlying319 underlying5) λa E=>?_;rw[wrap_u8,show (ef:Int)%256=((ef%256:Nat):Int) from by omega]at E;refine RN 1 E I λa E=>?_;rw[WE (Nat.mod_lt _ (by decide)),show ef%256%128=ef%128 from by omega]at E;refine cr E rfl I underlying22 Ty.t5 rfl rfl rfl rfl (by decide) (by decide) λnh a w E I ho=>?_;clear ho;refine RN 0 E I λa E=>?_;refine cQ E rfl I underlying22 Ty.t5 rfl rfl I.ai rfl (by simp[Value.oneCell']) (by decide) (by decide) (by omega) λyv Et a w E I=>?_;have aR:bc dn++[[Value.int .u8 ((ef%128+128:Nat):Int)]].flatten=bc (dn++[UInt8.ofNat (ef%128+128)]):=by
   simp[bc,UInt8.toNat_ofNat'];omega
  rw[aR]at I;refine RN 4 E I λa E=>?_;rw[show ((ef:Int).fdiv (2 ^ 7))=((ef/128:Nat):Int) from lf ef 128]at E;exact⟨ef/128,by omega,ef/128,_,yv,dn++[UInt8.ofNat (ef%128+128)],⟨rfl,by rw[← c9,wH (u:=ef) (by omega),dx];rfl,by omega⟩,by rw[aI];exact E.ab [0,5],by rw[aI];exact I.sub⟩
 refine RN 3 E I λa E=>?_;refine SS E (gn E underlying319 underlying5) λa E=>?_;rw[wrap_u8,show (ef:Int)%256=((ef:Nat):Int) from by omega]at E;refine RN 0 E I λa E=>?_;refine cr E rfl I underlying22 Ty.t5 rfl rfl rfl rfl (by decide) (by decide) λKh a w E I ho=>?_;clear ho;refine RN 0 E I λa E=>?_;refine cQ E rfl I underlying22 Ty.t5 rfl rfl I.ai rfl (by simp[Value.oneCell']) (by decide) (by decide) (by omega) λEu Ew a w E I=>?_;have aR:bc dn++[[Value.int .u8 ((ef:Nat):Int)]].flatten=bc (dn++[UInt8.ofNat ef]):=by
  simp[bc,UInt8.toNat_ofNat'];omega
 rw[aR,← qN (by omega),c9]at I;refine RT 1 E I ?_;have hl:dn.length+1=(bs++aO (zz N)).length:=by rw[← c9,qN (by omega),aI];rfl
 rw[hl]at I ⊢;exact⟨_,_,rfl,I.sub⟩
theorem WH {s:ByteArray}(I:U W w L)(aH:s.size≤1099511627776) :
   Calls prog 199 #[.slice none 0 0,.string s] w λe w'=>∃ av c',e=.returned (.slice av (aO (zz s.size)++s.data.toList).length c')∧U W w' (Sl 5 1 av (aO (zz s.size)++s.data.toList).length c' (bc (aO (zz s.size)++s.data.toList))::L):=by
 have yw:s.data.toList.length=s.size:=rfl;refine EN func199 ntmps199 rfl rfl λa E=>?_;refine aY 6 E I (tj (bs:=[]) (N:=s.size) (I.bN 5 1 none) (by omega) (by omega) (by simp)) λc0 dS a w E I=>?_;rw[nil_append]at E I;have gE:=rS (zz s.size);have ik:=qO 9 (zz s.size) (by rw[zz];split <;> (simp;omega));have Jz:=(I.sl c0).2;refine RN 1 E I λa E=>?_;refine WD E rfl I underlying22 underlying9 Ty.t5 rfl rfl (by omega) (by decide) (by omega) λafF AT a w E I=>?_;rw[show (aO (zz s.size)).length+s.size=(aO (zz s.size)++s.data.toList).length from by rw[aI];rfl]at E I;rw[show bc (aO (zz s.size))++bc s.data.toList=bc (aO (zz s.size)++s.data.toList) from by simp[bc]]at I;refine RT 1 E I ?_;exact⟨_,_,rfl,I.sub⟩
end
end
section
section
variable {W w:World}{L:List SP}{n:Nat}{s:ByteArray}
theorem WI {r:Nat}(I:U W w L):Calls prog 239 #[.int .i32 r] w λe w'=>e=.returned (.int .i64 (n0 r))∧U W w' L:=by
 refine EN func239 ntmps239 rfl rfl λa E=>?_;refine IF 7 E I (λaj a E=>?_) λaj a E=>?_
 ·
  refine RT 2 E I ?_;exact⟨by rw[n0,ak (by omega)];rfl,I⟩
 refine IF 4 E I (λao a E=>?_) λao a E=>?_
 ·
  refine RT 2 E I ?_;exact⟨by rw[n0,ag (by omega),ak (by omega)];rfl,I⟩
 refine IF 4 E I (λay a E=>?_) λay a E=>?_
 ·
  refine RT 2 E I ?_;exact⟨by rw[n0,ag (by omega),ag (by omega),ak (by omega)];rfl,I⟩
 refine RT 2 E I ?_;exact⟨by rw[n0,ag (by omega),ag (by omega),ag (by omega)];rfl,I⟩
theorem Ki {α:Type}(l:List α)(x:α)(f:α→Bool):(l++[x]).all f=(l.all f&&f x):=by simp
theorem WJ (I:U W w L)(aH:s.size≤1099511627776):Calls prog 228 #[.string s] w λe w'=>e=.returned (.bool ((ee s 0).all mK))∧U W w' L:=by
 refine EN func228 ntmps228 rfl rfl λa E=>?_;refine RN 7 E I λa E=>?_;refine Dy E rfl I underlying9 rfl λdt a w E I ho=>?_;clear ho;refine RN 0 E I λa E=>?_;refine aQ (λμ a w=>∃ (pos n:Nat) (dn:List (Nat×Nat)),(μ=s.size-pos∧pos≤s.size∧ee s 0=dn++ee s pos∧((dn.all mK=true∧n=pos)∨(dn.all mK=false∧n=pos+2)))∧Fr a 23 [(0,.string s),(3,.int .i64 n),(7,pt dt)]∧U W w (kW dt (.stringIter s pos)::L)) (s.size) (⟨0,0,[],⟨by simp,by simp,by simp,.inl ⟨rfl,rfl⟩⟩,E.ab [0,3,7],I⟩) ?_;clear E I;rintro μ a w ⟨pos,n,dn,⟨rfl,qA,c9,hg⟩,E,I⟩;refine RN 1 E I λa E=>?_;refine DA E rfl I rfl λa w E I=>?_;refine RN 0 E I λa E=>?_;refine SS E (oB E (Dw s pos)) λa E=>?_;refine IF 1 E I (λaj a E=>?_) λaj a E=>?_
 ·
  have ni:=rN aj;have jB:=Ed qA;have pS:eb s pos=pos+(Utf8.decode s pos).2:=by rw[eb,ak aj]
  have lO:=uM s pos;refine RN 1 E I λa E=>?_;refine SS E (oB E (RG aj)) λa E=>?_;refine RN 0 E I λa E=>?_;refine SS E (oB E (Dx aj)) λa E=>?_;refine IF 7 E I (λao a E=>?_) λao a E=>?_
  ·
   have WK:dn.all mK=false:=by
    rcases hg with ⟨_,h⟩ | ⟨h,_⟩
    ·omega
    ·exact h
   refine RT 2 E I ?_;exact⟨by rw[c9,List.all_append,WK,Bool.false_and],I.sub⟩
  obtain⟨nm,hn⟩:=hg.resolve_right (λh=>by omega);have WL:n0 (Utf8.decode s pos).1≤4:=by unfold n0;(repeat' split) <;> omega
  refine CL 2 E I (WI I) λa w E I=>?_;refine RN 2 E I λa E=>?_;refine⟨s.size-eb s pos,by omega,eb s pos,n+n0 (Utf8.decode s pos).1,dn++[Utf8.decode s pos],⟨rfl,jB,by rw[c9,ni,dx];rfl,?_⟩,E.ab [0,3,7],I.sub⟩;rw[Ki,nm,Bool.true_and];rcases J0 s pos with h | h
  ·refine .inl ⟨?_,by omega⟩;simp only[mK,Bool.not_eq_true',rR];intro e;rw[e]at h;simp[n0]at h
  ·refine .inr ⟨by simp[mK,h],?_⟩;rw[pS,h];simp[n0];omega
 refine RN 1 E I λa E=>?_;have gH:pos=s.size:=by omega
 have gI:=rO (s:=s) (pos:=pos) (by omega);rw[gI,append_nil]at c9;refine RT 5 E I ?_;refine⟨?_,I.sub⟩;rw[c9];rcases hg with ⟨h,h2⟩ | ⟨h,h2⟩
 ·rw[h,dh (by omega)]
 ·rw[h,bo (by omega)]
theorem WM (I:U W w L)(aH:s.size≤1099511627776):Calls prog 197 #[.string s] w λe w'=>e=.returned (.bool (pQ s))∧U W w' L:=by
 refine EN func197 ntmps197 rfl rfl λa E=>?_;refine RN 7 E I λa E=>?_;refine Dy E rfl I underlying9 rfl λdt a w E I ho=>?_;clear ho;refine RN 0 E I λa E=>?_;refine aQ (λμ a w=>∃ (pos:Nat) (dn:List (Nat×Nat)),(μ=s.size-pos∧pos≤s.size∧ee s 0=dn++ee s pos∧dn.all kM=true∧dn.length≤pos)∧Fr a 29 [(0,.string s),(3,.int .i64 dn.length),(7,pt dt)]∧U W w (kW dt (.stringIter s pos)::L)) (s.size) (⟨0,[],⟨by simp,by simp,by simp,rfl,by simp⟩,E.ab [0,3,7],I⟩) ?_;clear E I;rintro μ a w ⟨pos,dn,⟨rfl,qA,c9,hg,mN⟩,E,I⟩;refine RN 1 E I λa E=>?_;refine DA E rfl I rfl λa w E I=>?_;refine RN 0 E I λa E=>?_;refine SS E (oB E (Dw s pos)) λa E=>?_;refine IF 1 E I (λaj a E=>?_) λaj a E=>?_
 ·
  have ni:=rN aj;have jB:=Ed qA;have pS:eb s pos=pos+(Utf8.decode s pos).2:=by rw[eb,ak aj]
  have lO:=uM s pos;refine RN 1 E I λa E=>?_;refine SS E (oB E (Dx aj)) λa E=>?_;refine BY 6 E I (λbA a E=>?_) λbA a E=>?_
  ·
   have ka:kM (Utf8.decode s pos)=false:=by simp[kM];omega
   refine RT 6 E I ?_;refine⟨?_,I.sub⟩;have:(ee s 0).all kM=false:=by rw[c9,ni,List.all_append,List.all_cons,ka];simp
   rw[pQ,this];simp
  refine IF 3 E I (λao a E=>?_) λao a E=>?_
  ·
   have ka:kM (Utf8.decode s pos)=false:=by simp[kM];omega
   refine RT 2 E I ?_;refine⟨?_,I.sub⟩;have:(ee s 0).all kM=false:=by rw[c9,ni,List.all_append,List.all_cons,ka];simp
   rw[pQ,this];simp
  refine RN 3 E I λa E=>?_;exact⟨s.size-eb s pos,by omega,eb s pos,dn++[Utf8.decode s pos],⟨rfl,jB,by rw[c9,ni,dx];rfl,by rw[Ki,hg];simp[kM];omega,by rw[aI];simp;omega⟩,by rw[aI];exact E.ab [0,3,7],I.sub⟩
 refine RN 1 E I λa E=>?_;have gI:=rO (s:=s) (pos:=pos) (by omega);rw[gI,append_nil]at c9;have jC:pQ s=(decide (1≤dn.length)&&decide (dn.length≤20)&&(ee s 0).all mK):=by rw[pQ,c9,hg];simp
 refine BY 3 E I (λbA a E=>?_) λbA a E=>?_
 ·
  refine BY 4 E I (λkb a E=>?_) λkb a E=>?_
  ·
   refine CL 1 E I (WJ I aH) λa w E I=>?_;refine RT 2 E I ?_;refine⟨?_,I.sub⟩;rw[jC]
   first
    | (rw[bo (show ¬ 1≤dn.length by omega)];rfl)
    | (rw[bo (show ¬ dn.length≤20 by omega)];simp;done)
    | (rw[dh (show 1≤dn.length by omega),dh (show dn.length≤20 by omega)];rfl)
  refine RT 4 E I ?_;refine⟨?_,I.sub⟩;rw[jC]
  first
   | (rw[bo (show ¬ 1≤dn.length by omega)];rfl)
   | (rw[bo (show ¬ dn.length≤20 by omega)];simp;done)
   | (rw[dh (show 1≤dn.length by omega),dh (show dn.length≤20 by omega)];rfl)
 refine RT 8 E I ?_;refine⟨?_,I.sub⟩;rw[jC]
 first
  | (rw[bo (show ¬ 1≤dn.length by omega)];rfl)
  | (rw[bo (show ¬ dn.length≤20 by omega)];simp;done)
  | (rw[dh (show 1≤dn.length by omega),dh (show dn.length≤20 by omega)];rfl)
def lP (k:Int):Int:=if k=0 then 0 else if k=9∨k=15 then 1 else if k=1∨k=2∨(10≤k∧k≤14) then 2 else if 3≤k∧k≤8 then 3 else -1
theorem Ey (k:Int):(k=0∧lP k=0)∨((k=9∨k=15)∧lP k=1)∨((k=1∨k=2∨(10≤k∧k≤14))∧lP k=2)∨(3≤k∧k≤8∧lP k=3)∨((k<0∨15<k)∧lP k = -1):=by
 unfold lP
 repeat' split
 all_goals omega
theorem WN {k:Int}(I:U W w L):Calls prog 201 #[.int .i64 k] w λe w'=>e=.returned (.int .i64 (lP k))∧U W w' L:=by
 have hk:=Ey k;have fz:∀ (z:Int) (w':World),U W w' L→z=lP k→Ending.returned (Value.int .i64 z)=.returned (.int .i64 (lP k))∧U W w' L:=λz w' h e=>⟨by rw[e],h⟩;refine EN func201 ntmps201 rfl rfl λa E=>?_;refine IF 8 E I (λaj a E=>?_) λaj a E=>?_
 ·
  refine RT 2 E I ?_;exact fz _ _ I (by omega)
 refine IF 4 E I (λao a E=>?_) λao a E=>?_
 ·
  refine RT 3 E I ?_;exact fz _ _ I (by omega)
 refine IF 2 E I (λay a E=>?_) λay a E=>?_
 ·
  refine RT 2 E I ?_;exact fz _ _ I (by omega)
 refine IF 4 E I (λbd a E=>?_) λbd a E=>?_
 ·
  refine RT 3 E I ?_;exact fz _ _ I (by omega)
 refine IF 3 E I (λbF a E=>?_) λbF a E=>?_
 ·
  refine RT 3 E I ?_;exact fz _ _ I (by omega)
 refine IF 3 E I (λeU a E=>?_) λeU a E=>?_
 ·
  refine RT 3 E I ?_;exact fz _ _ I (by omega)
 refine IF 3 E I (λnn a E=>?_) λnn a E=>?_
 ·
  refine RT 3 E I ?_;exact fz _ _ I (by omega)
 refine IF 3 E I (λmO a E=>?_) λmO a E=>?_
 ·
  refine RT 3 E I ?_;exact fz _ _ I (by omega)
 refine IF 3 E I (λmP a E=>?_) λmP a E=>?_
 ·
  refine RT 3 E I ?_;exact fz _ _ I (by omega)
 refine IF 2 E I (λkc a E=>?_) λkc a E=>?_
 ·
  refine RT 2 E I ?_;exact fz _ _ I (by omega)
 refine IF 4 E I (λwI a E=>?_) λwI a E=>?_
 ·
  refine RT 3 E I ?_;exact fz _ _ I (by omega)
 refine IF 3 E I (λtl a E=>?_) λtl a E=>?_
 ·
  refine RT 3 E I ?_;exact fz _ _ I (by omega)
 refine IF 3 E I (λyx a E=>?_) λyx a E=>?_
 ·
  refine RT 3 E I ?_;exact fz _ _ I (by omega)
 refine IF 3 E I (λwJ a E=>?_) λwJ a E=>?_
 ·
  refine RT 3 E I ?_;exact fz _ _ I (by omega)
 refine IF 3 E I (λWO a E=>?_) λWO a E=>?_
 ·
  refine RT 3 E I ?_;exact fz _ _ I (by omega)
 refine IF 2 E I (λWQ a E=>?_) λWQ a E=>?_
 ·
  refine RT 2 E I ?_;exact fz _ _ I (by omega)
 refine RT 2 E I ?_;exact fz _ _ I (by omega)
def AU (l:List Int):Prop:=∀ x∈l,e6 x
theorem Ez {zs:List Int}{b e:Nat}(I:U W w (aa b e (zs.map (.int .i64))::L))(hl:zs.length≤10) :
   Calls prog 202 #[.slice (some ⟨b,0,none⟩) zs.length zs.length] w λe' w'=>∃ r:Bool,e'=.returned (.bool r)∧(r=true↔AU zs)∧U W w' (aa b e (zs.map (.int .i64))::L):=by
 refine EN func202 ntmps202 rfl rfl λa E=>?_;refine RN 7 E I λa E=>?_;refine aQ (λμ a w=>∃ i:Nat,(μ=zs.length-i∧i≤zs.length∧∀ j x,j<i→zs[j]?=some x→e6 x)∧Fr a 18 [(5,.slice (some ⟨b,0,none⟩) zs.length zs.length),(6,.int .i64 zs.length),(7,.int .i64 i)]∧U W w (aa b e (zs.map (.int .i64))::L)) (zs.length) (⟨0,⟨by simp,by simp,λj x h=>absurd h (by omega)⟩,E.ab [5,6,7],I⟩) ?_;clear E I;rintro μ a w ⟨i,⟨rfl,hi,cC⟩,E,I⟩;refine IF 3 E I (λaj a E=>?_) λaj a E=>?_
 ·
  obtain⟨x,hx⟩:∃ x,zs[i]?=some x:=⟨_,aD (by omega)⟩;refine RN 3 E I λa E=>?_;refine SS E (ae E (I.bz (v:=.int .i64 x) (by rw[bn,hx];rfl))) λa E=>?_;refine BY 5 E I (λbA a E=>?_) λbA a E=>?_
  ·
   refine RT 6 E I ?_;refine⟨false,rfl,⟨λh=>(by cases h),λh=>?_⟩,I.sub⟩;have:=h x (bH hx);unfold e6 at this;omega
  refine IF 3 E I (λao a E=>?_) λao a E=>?_
  ·
   refine RT 2 E I ?_;refine⟨false,rfl,⟨λh=>(by cases h),λh=>?_⟩,I.sub⟩;have:=h x (bH hx);unfold e6 at this;omega
  refine RN 2 E I λa E=>?_;refine⟨zs.length-(i+1),by omega,i+1,⟨rfl,by omega,λj y hj hy=>?_⟩,E.ab [5,6,7],I.sub⟩;by_cases e:j=i
  ·subst e;rw[hx]at hy;cases hy;unfold e6;omega
  ·exact cC j y (by omega) hy
 refine RT 2 E I ?_;refine⟨true,rfl,⟨λ_ x hx=>?_,λ_=>rfl⟩,I.sub⟩;obtain⟨j,hj⟩:=j6.1 hx;exact cC j x (by have:=(a2.1 hj).1;omega) hj
theorem Kj {k n:Int}{b e:Nat}(I:U W w (aa b e [.int .i64 n]::L)) :
   Calls prog 200 #[.int .i64 k,pt b] w λe' w'=>e'=.returned (.bool (decide (0≤k∧k≤n)))∧U W w' (aa b e [.int .i64 n]::L):=by
 refine EN func200 ntmps200 rfl rfl λa E=>?_;refine BY 6 E I (λbA a E=>?_) λbA a E=>?_
 ·
  refine RT 5 E I ?_;refine⟨?_,I.sub⟩
  first
   | (rw[bo (show ¬ (0≤k∧k≤n) by omega)])
   | (congr 2;rw[decide_eq_decide];omega)
 refine RT 5 E I ?_;refine⟨?_,I.sub⟩
 first
  | (rw[bo (show ¬ (0≤k∧k≤n) by omega)])
  | (congr 2;rw[decide_eq_decide];omega)
end
end
section
section
variable {W w:World}{L:List SP}{c:Nat}{ad:Option Addr}
theorem WR {o:gG}{m:Int}(h:o.code=0):e7 m o↔(o.a=0∧o.b=0∧o.c=0):=by
 simp only[e7,e6];exact⟨λh=>by omega,λh2=>.inl ⟨h,h2⟩⟩
theorem WS {o:gG}{m:Int}(h:o.code=1):e7 m o↔(e6 o.a∧o.c=0):=by
 simp only[e7,e6];exact⟨λh=>by omega,λh2=>.inr (.inl ⟨h,h2⟩)⟩
theorem WU {o:gG}{m:Int}(h:o.code=9):e7 m o↔(0≤o.a∧o.a≤m∧o.b=0∧o.c=0):=by
 simp only[e7,e6];exact⟨λh=>by omega,λh2=>.inr (.inr (.inl ⟨h,h2⟩))⟩
theorem WV {o:gG}{m:Int}(h:o.code=15):e7 m o↔(e6 o.a∧o.b=0∧o.c=0):=by
 simp only[e7,e6];exact⟨λh=>by omega,λh2=>.inr (.inr (.inr (.inl ⟨h,h2⟩)))⟩
theorem Kk {o:gG}{m:Int}(h:o.code=10):e7 m o↔(e6 o.a∧0≤o.b∧o.b≤m∧o.c=0):=by
 simp only[e7,e6];exact⟨λh=>by omega,λh2=>.inr (.inr (.inr (.inr (.inl ⟨h,h2⟩))))⟩
theorem WW {o:gG}{m:Int}(h:o.code=2∨(11≤o.code∧o.code≤14)):e7 m o↔(e6 o.a∧e6 o.b∧o.c=0):=by
 simp only[e7,e6];exact⟨λh=>by omega,λh2=>.inr (.inr (.inr (.inr (.inr (.inl ⟨h,h2⟩)))))⟩
theorem WX {o:gG}{m:Int}(h:3≤o.code∧o.code≤8):e7 m o↔(e6 o.a∧e6 o.b∧e6 o.c):=by
 simp only[e7,e6];exact⟨λh=>by omega,λh2=>.inr (.inr (.inr (.inr (.inr (.inr ⟨h.1,h.2,h2⟩)))))⟩
theorem tm {o:gG}{m:Int}(h:e7 m o):0≤lP o.code∧(lP o.code<3→o.c=0)∧(lP o.code<2→o.b=0)∧(lP o.code<1→o.a=0):=by
 have hk:=Ey o.code;simp only[e7,e6]at h;omega
theorem WY {o:gG}{m:Nat}(I:U W w L):Calls prog 170 #[.agg (dQ o).toArray,.int .i64 m] w λe w'=>∃ r:Bool,e=.returned (.bool r)∧(r=true↔e7 m o)∧U W w' L:=by
 have hk:=Ey o.code;have fz:∀ (r:Bool) (P:Prop) (w':World),U W w' L→(r=true↔P)→(P↔e7 m o)→∃ r':Bool,Ending.returned (Value.bool r)=.returned (.bool r')∧(r'=true↔e7 m o)∧U W w' L:=λr P w' h e1 e2=>⟨r,rfl,e1.trans e2,h⟩;refine EN func170 ntmps170 rfl rfl λa E=>?_;refine BX 1 E I λb2 a w E I=>?_;change U W w (aa b2 114 (dQ o)::_) at I;refine BX 0 E I λb3 a w E I=>?_;refine CL 7 E I (WN I) λa w E I=>?_;refine RN 1 E I λa E=>?_;refine cd (M:=λa w=>(0≤lP o.code∧(lP o.code<3→o.c=0)∧(lP o.code<2→o.b=0)∧(lP o.code<1→o.a=0))∧Fr a 76 [(2,pt b2),(3,pt b3),(5,.func (.func 200) #[] (List.toArray [pt b3]))]∧U W w (aa b3 3 [.int .i64 m]::aa b2 114 (dQ o)::L)) ?_ ?_
 ·
  refine BY 4 E I (λbA a E=>?_) λbA a E=>?_
  ·
   refine RT 29 E I ?_;exact fz false False _ I.sub (by simp) ⟨λh=>h.elim,λh=>by have h5:=tm h;omega⟩
  refine BY 3 E I (λji a E=>?_) λji a E=>?_
  ·
   refine BY 6 E I (λla a E=>?_) λla a E=>?_
   ·
    refine RT 20 E I ?_;exact fz false False _ I.sub (by simp) ⟨λh=>h.elim,λh=>by have h5:=tm h;omega⟩
   refine BY 3 E I (λk9 a E=>?_) λk9 a E=>?_
   ·
    refine BY 6 E I (λEA a E=>?_) λEA a E=>?_
    ·
     refine RT 11 E I ?_;exact fz false False _ I.sub (by simp) ⟨λh=>h.elim,λh=>by have h5:=tm h;omega⟩
    refine BY 3 E I (λmQ a E=>?_) λmQ a E=>?_
    ·
     refine IF 5 E I (λaj a E=>?_) λaj a E=>?_
     ·
      refine RT 2 E I ?_;exact fz false False _ I.sub (by simp) ⟨λh=>h.elim,λh=>by have h5:=tm h;omega⟩
     refine RN 0 E I λa E=>?_;exact⟨by omega,E.ab [2,3,5],I.sub⟩
    refine RN 6 E I λa E=>?_;exact⟨by omega,E.ab [2,3,5],I.sub⟩
   refine BY 9 E I (λmQ a E=>?_) λmQ a E=>?_
   ·
    refine IF 5 E I (λaj a E=>?_) λaj a E=>?_
    ·
     refine RT 2 E I ?_;exact fz false False _ I.sub (by simp) ⟨λh=>h.elim,λh=>by have h5:=tm h;omega⟩
    refine RN 0 E I λa E=>?_;exact⟨by omega,E.ab [2,3,5],I.sub⟩
   refine RN 6 E I λa E=>?_;exact⟨by omega,E.ab [2,3,5],I.sub⟩
  refine BY 9 E I (λk9 a E=>?_) λk9 a E=>?_
  ·
   refine BY 6 E I (λEA a E=>?_) λEA a E=>?_
   ·
    refine RT 11 E I ?_;exact fz false False _ I.sub (by simp) ⟨λh=>h.elim,λh=>by have h5:=tm h;omega⟩
   refine BY 3 E I (λmQ a E=>?_) λmQ a E=>?_
   ·
    refine IF 5 E I (λaj a E=>?_) λaj a E=>?_
    ·
     refine RT 2 E I ?_;exact fz false False _ I.sub (by simp) ⟨λh=>h.elim,λh=>by have h5:=tm h;omega⟩
    refine RN 0 E I λa E=>?_;exact⟨by omega,E.ab [2,3,5],I.sub⟩
   refine RN 6 E I λa E=>?_;exact⟨by omega,E.ab [2,3,5],I.sub⟩
  refine BY 9 E I (λmQ a E=>?_) λmQ a E=>?_
  ·
   refine IF 5 E I (λaj a E=>?_) λaj a E=>?_
   ·
    refine RT 2 E I ?_;exact fz false False _ I.sub (by simp) ⟨λh=>h.elim,λh=>by have h5:=tm h;omega⟩
   refine RN 0 E I λa E=>?_;exact⟨by omega,E.ab [2,3,5],I.sub⟩
  refine RN 6 E I λa E=>?_;exact⟨by omega,E.ab [2,3,5],I.sub⟩
 clear E;(try clear I);rintro a w ⟨jC,E,I⟩;refine IF 7 E I (λao a E=>?_) λao a E=>?_
 ·
  refine RT 2 E I ?_;exact fz true True _ I.sub (by simp) ⟨λ_=>(WR ao).2 (by omega),λ_=>trivial⟩
 refine IF 3 E I (λay a E=>?_) λay a E=>?_
 ·
  refine RN 3 E I λa E=>?_;refine cr E rfl I underlying53 Ty.t3 rfl rfl rfl rfl (by decide) (by decide) λb48 a w E I ho=>?_;clear ho;refine bj 0 E I (Ez (zs:=[o.a]) I (by simp)) λr a w E ⟨hr,I⟩=>?_;refine RT 1 E I ?_;exact fz r _ _ I.sub hr (by rw[WS ay];simp only[AU,wK,not_mem_nil,false_imp_iff,implies_true,and_true];exact⟨λh=>⟨h,by omega⟩,λh=>h.1⟩)
 refine IF 3 E I (λbd a E=>?_) λbd a E=>?_
 ·
  refine CL 4 E I (Kj (I.jX b3)) λa w E I=>?_;refine RT 1 E I ?_;exact fz _ _ _ I.sub ct (by rw[WU bd];omega)
 refine IF 3 E I (λbF a E=>?_) λbF a E=>?_
 ·
  refine RN 3 E I λa E=>?_;refine cr E rfl I underlying53 Ty.t3 rfl rfl rfl rfl (by decide) (by decide) λR9 a w E I ho=>?_;clear ho;refine bj 0 E I (Ez (zs:=[o.a]) I (by simp)) λr a w E ⟨hr,I⟩=>?_;simp only[AU,wK,not_mem_nil,false_imp_iff,implies_true,and_true]at hr;refine BY 1 E I (λdE a E=>?_) λdE a E=>?_
  ·
   refine CL 3 E I (Kj (I.jX b3)) λa w E I=>?_;refine RT 2 E I ?_;exact fz _ _ _ I.sub ct (by rw[Kk bF];exact⟨λh=>⟨hr.1 dE,h.1,h.2,by omega⟩,λh=>⟨h.2.1,h.2.2.1⟩⟩)
  refine RT 6 E I ?_;exact fz _ False _ I.sub (by simp) (by rw[Kk bF];exact⟨λh=>h.elim,λh=>by rw[hr.2 h.1]at dE;cases dE⟩)
 refine RN 7 E I λa E=>?_;refine cr E rfl I underlying53 Ty.t3 rfl rfl rfl rfl (by decide) (by decide) λb74 a w E I ho=>?_;clear ho;refine bj 0 E I (Ez (zs:=[o.a,o.b,o.c]) I (by simp)) λr a w E ⟨hr,I⟩=>?_;refine RT 1 E I ?_;refine fz r _ _ I.sub hr ?_;simp only[AU,wK,not_mem_nil,false_imp_iff,implies_true,and_true];have yy:e6 0:=⟨by decide,by decide⟩;rcases hk with hk | ⟨hk,b9⟩ | ⟨hk,b9⟩ | hk | hk
 ·omega
 ·have EB:o.code=15:=by omega
  have wL:o.b=0:=by omega
  have EC:o.c=0:=by omega
  rw[WV EB,wL,EC];exact⟨λh=>⟨h.1,rfl,rfl⟩,λh=>⟨h.1,yy,yy⟩⟩
 ·have EC:o.c=0:=by omega
  rw[WW (by omega),EC];exact⟨λh=>⟨h.1,h.2.1,rfl⟩,λh=>⟨h.1,h.2.1,yy⟩⟩
 ·rw[WX ⟨hk.1,hk.2.1⟩]
 ·omega
abbrev bP (p:Pr)(ad:Option Addr)(c:Nat):List Value:=[.string p.title,.slice ad p.ops.length c]
abbrev aA (W:World)(p:Pr)(ad:Option Addr)(c:Nat):SP:=Ro W 114 4 ad p.ops.length c (rows dQ p.ops)
def uS (o:gG)(k:Nat):Int:=[o.code,o.a,o.b,o.c].getD k 0
theorem WZ (o:gG){k:Nat}(h:k<4):(dQ o)[k]?=some (.int .i64 (uS o k)):=by
 rcases (by omega:k=0∨k=1∨k=2∨k=3) with rfl | rfl | rfl | rfl <;> rfl
set_option maxHeartbeats 4000000 in
theorem W0 {p:Pr}(I:U W w (aA W p ad c::L))(aH:p.title.size≤1000000000)(dY:p.ops.length≤1000000000) :
   Calls prog 169 #[.agg (bP p ad c).toArray] w λe w'=>∃ av n' c',e=.returned (.slice av n' c')∧(av.isNone=true↔¬ wB p)∧U W w' (aA W p ad c::L):=by
 refine EN func169 ntmps169 rfl rfl λa E=>?_;refine BX 1 E I λb1 a w E I=>?_;change U W w (aa b1 45 (bP p ad c)::_) at I;refine RN 1 E I λa E=>?_;refine cd (M:=λa w=>(pQ p.title=true∧1≤p.ops.length∧p.ops.length≤64)∧Fr a 62 [(1,pt b1)]∧U W w (aa b1 45 (bP p ad c)::aA W p ad c::L)) ?_ ?_
 ·
  refine CL 3 E I (WM I (by omega)) λa w E I=>?_;refine BY 2 E I (λht a E=>?_) λht a E=>?_
  ·
   refine RT 14 E I ?_;exact⟨none,0,0,rfl,⟨λ_ h=>(by
    obtain⟨h1,h2,h3,_⟩:=h
    first
     | (rw[h1]at ht;cases ht;done)
     | omega),λ_=>rfl⟩,I.sub⟩
  refine BY 6 E I (λl8 a E=>?_) λl8 a E=>?_
  ·
   refine RT 8 E I ?_;exact⟨none,0,0,rfl,⟨λ_ h=>(by
    obtain⟨h1,h2,h3,_⟩:=h
    first
     | (rw[h1]at ht;cases ht;done)
     | omega),λ_=>rfl⟩,I.sub⟩
  refine IF 5 E I (λaj a E=>?_) λaj a E=>?_
  ·
   refine RT 2 E I ?_;exact⟨none,0,0,rfl,⟨λ_ h=>(by
    obtain⟨h1,h2,h3,_⟩:=h
    first
     | (rw[h1]at ht;cases ht;done)
     | omega),λ_=>rfl⟩,I.sub⟩
  refine RN 0 E I λa E=>?_;exact⟨⟨ht,by omega,by omega⟩,E.ab [1],I.sub⟩
 clear E;(try clear I);rintro a w ⟨ma,E,I⟩;refine cd (M:=λa w=>∃ (bs:List UInt8) (iv:Option Addr) (cb:Nat),(1≤bs.length∧bs.length≤p.title.size+30)∧Fr a 62 [(1,pt b1),(3,.slice iv bs.length cb)]∧U W w (Sl 5 1 iv bs.length cb (bc bs)::aa b1 45 (bP p ad c)::aA W p ad c::L)) ?_ ?_
 ·
  refine aX 0 (λw0 w'=>w'.cell? ⟨b1,1,none⟩=some (.slice ad p.ops.length c)∧w'.cell? ⟨b1,0,none⟩=some (.string p.title)) [2,4,5] [0,3,3001,3004,3005,1002,1006,7] E I λa w E I hH=>?_;have ao:w.cell? ⟨b1,1,none⟩=some (.slice ad p.ops.length c):=I.bz rfl;have W1:w.cell? ⟨b1,0,none⟩=some (.string p.title):=I.bz rfl;have hC:=And.intro ao W1;refine RH 2 E I hH hC λa E=>?_;refine QH E (λw hc=>ae E (hc.2)) hC λa E=>?_;refine QH E (λw hc=>ae E (hc.1)) hC λa E=>?_;refine RH 1 E I hH hC λa E=>?_;refine aY 0 E I (WH I (by omega)) λc0 dS a w E I=>?_;replace hC:=hH.at w (And.intro (I.bz rfl) (I.bz rfl));have ik:=qO 9 (zz p.title.size) (by rw[zz];split <;> (simp;omega));have yw:p.title.data.toList.length=p.title.size:=rfl;refine RH 0 E I hH hC λa E=>?_;refine aY 0 E I (tj (N:=p.ops.length) (I.pick (Sl 5 1 c0 (aO (zz p.title.size)++p.title.data.toList).length dS (bc (aO (zz p.title.size)++p.title.data.toList)))) (by omega) (by omega) (by rw[aI];omega)) λadq cq a w E I=>?_;refine RN 1 E I λa E=>?_;have tc:=qO 9 (zz p.ops.length) (by rw[zz];split <;> (simp;omega));have wk:=rS (zz p.ops.length);exact⟨_,adq,cq,⟨by rw[aI];omega,by rw[aI,aI];omega⟩,E.ab [1,3],I.sub⟩
 clear E;(try clear I);rintro a w ⟨bs,iv,cb,⟨oS,pC⟩,E,I⟩;refine RN 6 E I λa E=>?_;refine aQ (λμ a w=>∃ (i:Nat) (bs:List UInt8) (iv:Option Addr) (cb:Nat),(μ=p.ops.length-i∧i≤p.ops.length∧1≤bs.length∧bs.length≤p.title.size+30+40*i∧∀ j o,j<i→p.ops[j]?=some o→rP o)∧Fr a 62 [(3,.slice iv bs.length cb),(32,.slice ad p.ops.length c),(33,.int .i64 p.ops.length),(34,.int .i64 i)]∧U W w (Sl 5 1 iv bs.length cb (bc bs)::aA W p ad c::L)) (p.ops.length) (⟨0,bs,iv,cb,⟨by simp,by simp,oS,by omega,λj o h=>absurd h (by omega)⟩,E.ab [3,32,33,34],I.sub⟩) ?_;clear E I;rintro μ a w ⟨i,bs,iv,cb,⟨rfl,hi,oS,pC,cC⟩,E,I⟩;refine IF 3 E I (λao a E=>?_) λao a E=>?_
 ·
  obtain⟨o,ho⟩:∃ o,p.ops[i]?=some o:=⟨_,aD (by omega)⟩;obtain⟨k0,oo,g7,gI⟩:=I.rQ ad (by omega);rw[g7]at E;refine RN 3 E I λa E=>?_;refine SS E (bT E underlying114 rfl Ty.t114 (wC gI ho)) λa E=>?_;refine AL 0 E I λb5 a w E I=>?_;refine SA 0 E I λa w E I=>?_;refine RN 9 E I λa E=>?_;refine SS E (Dv E underlying230 Ty.t230 Ty.t3 rfl rfl) λa E=>?_;change Fr a 62 ((46,.agg (dQ o).toArray)::_) at E;refine RN 1 E I λa E=>?_;rw[← g7]at E;refine aQ (λμ a w=>∃ (k:Nat) (bs:List UInt8) (iv:Option Addr) (cb:Nat),(μ=4-k∧k≤4∧1≤bs.length∧bs.length≤p.title.size+30+40*i+10*k∧∀ j,j<k→ds (uS o j))∧Fr a 62 [(3,.slice iv bs.length cb),(32,.slice ad p.ops.length c),(33,.int .i64 p.ops.length),(34,.int .i64 i),(46,.agg (dQ o).toArray),(47,.int .i64 k)]∧U W w (Sl 5 1 iv bs.length cb (bc bs)::aA W p ad c::L)) (4) (⟨0,bs,iv,cb,⟨by simp,by simp,oS,by omega,λj h=>absurd h (by omega)⟩,E.ab [3,32,33,34,46,47],I.sub⟩) ?_;clear E I;rintro μ a w ⟨k,bs,iv,cb,⟨rfl,hk,oS,pC,pT⟩,E,I⟩;refine IF 3 E I (λay a E=>?_) λay a E=>?_
  ·
   refine RN 2 E I λa E=>?_;refine SS E (sR E underlying230 underlying3 rfl Ty.t3 (by omega) (WZ o (by omega))) λa E=>?_;refine BY 6 E I (λbA a E=>?_) λbA a E=>?_
   ·
    refine RT 6 E I ?_;refine⟨none,0,0,rfl,⟨λ_ h=>?_,λ_=>rfl⟩,I.sub⟩;obtain⟨_,_,_,h4⟩:=h;have h5:=h4 o (bH ho);have h6:ds (uS o k):=by
     rcases (by omega:k=0∨k=1∨k=2∨k=3) with rfl | rfl | rfl | rfl
     ·exact h5.1
     ·exact h5.2.1
     ·exact h5.2.2.1
     ·exact h5.2.2.2
    simp only[ds]at h6;omega
   refine IF 3 E I (λbd a E=>?_) λbd a E=>?_
   ·
    refine RT 2 E I ?_;refine⟨none,0,0,rfl,⟨λ_ h=>?_,λ_=>rfl⟩,I.sub⟩;obtain⟨_,_,_,h4⟩:=h;have h5:=h4 o (bH ho);have h6:ds (uS o k):=by
     rcases (by omega:k=0∨k=1∨k=2∨k=3) with rfl | rfl | rfl | rfl
     ·exact h5.1
     ·exact h5.2.1
     ·exact h5.2.2.1
     ·exact h5.2.2.2
    simp only[ds]at h6;omega
   refine aY 2 E I (tj (N:=uS o k) (I.pick (Sl 5 1 iv bs.length cb (bc bs))) (by omega) (by omega) (by omega)) λadq cq a w E I=>?_;refine RN 3 E I λa E=>?_;have tc:=qO 9 (zz (uS o k)) (by rw[zz];split <;> (simp;omega));refine⟨4-(k+1),by omega,k+1,bs++aO (zz (uS o k)),adq,cq,⟨rfl,by omega,by rw[aI];omega,by rw[aI];omega,λj hj=>?_⟩,E.ab [3,32,33,34,46,47],I.sub⟩;rcases gQ j k with h | h
   ·exact pT j h
   ·obtain rfl:j=k:=by omega
    simp only[ds];omega
  refine RN 0 E I λa E=>?_;obtain rfl:k=4:=by omega
  refine RN 2 E I λa E=>?_;refine⟨p.ops.length-(i+1),by omega,i+1,bs,iv,cb,⟨rfl,by omega,oS,by omega,λj o' hj kB=>?_⟩,E.ab [3,32,33,34],I.sub⟩;rcases gQ j i with h | h
  ·exact cC j o' h kB
  ·obtain rfl:j=i:=by omega
   rw[ho]at kB;cases kB;exact⟨pT 0 (by omega),pT 1 (by omega),pT 2 (by omega),pT 3 (by omega)⟩
 refine RT 3 E I ?_;obtain⟨mR,oT,ED,_⟩:=I.bU iv (by omega);refine⟨iv,bs.length,cb,rfl,⟨λh=>(by rw[ED]at h;cases h),λh=>?_⟩,I.sub⟩;exact absurd ⟨ma.1,ma.2.1,ma.2.2,λo' kB=>(by
  obtain⟨j,hj⟩:=j6.1 kB;exact cC j o' (by have:=(a2.1 hj).1;omega) hj)⟩ h
theorem W3 {p:Pr}(I:U W w (aA W p ad c::L))(aH:p.title.size≤1000000000)(dY:p.ops.length≤1000000000) :
   Calls prog 132 #[.agg (bP p ad c).toArray] w λe w'=>∃ r:Int,e=.returned (.int .i64 r)∧(r = -1↔dk p)∧U W w' (aA W p ad c::L):=by
 refine EN func132 ntmps132 rfl rfl λa E=>?_;refine BX 1 E I λb1 a w E I=>?_;change U W w (aa b1 45 (bP p ad c)::_) at I;refine j2 4 E I (W0 (I.pick (aA W p ad c)) aH dY) λafG ne ce a w E ⟨bD,I⟩=>?_;refine IF 1 E I (λaj a E=>?_) λaj a E=>?_
 ·
  refine RT 2 E I ?_;exact⟨-2,rfl,⟨λh=>absurd h (by decide),λh=>absurd h.1 (bD.1 aj)⟩,I.sub⟩
 have ma:wB p:=Classical.byContradiction λh=>by rw[bD.2 h]at aj;cases aj
 refine RN 6 E I λa E=>?_;refine aQ (λμ a w=>∃ i:Nat,(μ=p.ops.length-i∧i≤p.ops.length∧∀ j o,j<i→p.ops[j]?=some o→e7 p.ops.length o)∧Fr a 24 [(1,pt b1),(9,.slice ad p.ops.length c),(10,.int .i64 p.ops.length),(11,.int .i64 i)]∧U W w (aa b1 45 (bP p ad c)::aA W p ad c::L)) (p.ops.length) (⟨0,⟨by simp,by simp,λj o h=>absurd h (by omega)⟩,E.ab [1,9,10,11],I.sub⟩) ?_;clear E I;rintro μ a w ⟨i,⟨rfl,hi,cC⟩,E,I⟩;refine IF 3 E I (λao a E=>?_) λao a E=>?_
 ·
  obtain⟨o,ho⟩:∃ o,p.ops[i]?=some o:=⟨_,aD (by omega)⟩;obtain⟨k0,oo,g7,gI⟩:=I.rQ ad (by omega);rw[g7]at E;refine RN 4 E I λa E=>?_;refine SS E (bT E underlying114 rfl Ty.t114 (wC gI ho)) λa E=>?_;refine AL 0 E I λb4 a w E I=>?_;refine SA 1 E I λa w E I=>?_;refine bj 5 E I (WY (o:=o) (m:=p.ops.length) I) λr a w E ⟨hr,I⟩=>?_;refine IF 1 E I (λay a E=>?_) λay a E=>?_
  ·
   refine RT 3 E I ?_;refine⟨i,rfl,⟨λh=>absurd h (by omega),λh=>?_⟩,I.sub⟩;rw[hr.2 (h.2 o (bH ho))]at ay;cases ay
  have pU:r=true:=by simpa using ay
  refine RN 2 E I λa E=>?_;rw[← g7]at E;refine⟨p.ops.length-(i+1),by omega,i+1,⟨rfl,by omega,λj o' hj kB=>?_⟩,E.ab [1,9,10,11],I.sub⟩;rcases gQ j i with h | h
  ·exact cC j o' h kB
  ·obtain rfl:j=i:=by omega
   rw[ho]at kB;cases kB;exact hr.1 pU
 refine RT 2 E I ?_;refine⟨-1,rfl,⟨λ_=>⟨ma,λo ho=>?_⟩,λ_=>rfl⟩,I.sub⟩;obtain⟨j,hj⟩:=j6.1 ho;exact cC j o (by have:=(a2.1 hj).1;omega) hj
theorem EE {p:Pr}(I:U W w (aA W p ad c::L))(aH:p.title.size≤1000000000)(dY:p.ops.length≤1000000000) :
   Calls prog 97 #[.agg (bP p ad c).toArray] w λe w'=>∃ r:Bool,e=.returned (.bool r)∧(r=true↔dk p)∧U W w' (aA W p ad c::L):=by
 refine EN func97 ntmps97 rfl rfl λa E=>?_;refine BX 1 E I λb1 a w E I=>?_;change U W w (aa b1 45 (bP p ad c)::_) at I;refine bj 3 E I (W3 (I.pick (aA W p ad c)) aH dY) λr a w E ⟨hr,I⟩=>?_;refine RT 2 E I ?_;exact⟨_,rfl,by rw[ct];exact hr,I.sub⟩
end
end
end Go.Proofs.YteoldcfapaiobaaGreat
