/- The walks of package job. -/
import Derived.Test.YteoldcfapaiobaaGreatG01Row
import Derived.Test.YteoldcfapaiobaaGreatG03Snap2
import Derived.Lib.AppendStr
namespace Go.Proofs.YteoldcfapaiobaaGreat
open Tryz
open List (drop_zero take_succ_cons drop_left take_zero nil_append map_cons length_nil cons_append eraseIdx_set_eq append_nil ext_getElem? map_nil flatMap_cons mem_append_left not_mem_nil)
open Go.RowKit
set_option linter.unusedVariables false
set_option linter.unusedSimpArgs false
set_option maxRecDepth 10000
set_option synthInstance.maxSize 4000
set_option synthInstance.maxHeartbeats 400000
section
def jc (l:List (Int×Int)):List Value:=l.flatMap λj=>[.int .i64 j.1,.int .i64 j.2]
theorem pU (l:List (Int×Int)):(jc l).length=l.length*2:=by
 induction l with
 | nil=>rfl
 | cons x l ih=>simp only[jc,flatMap_cons,aJ,eH,length_nil] at *;omega
theorem Kd (l m:List (Int×Int)):jc (l++m)=jc l++jc m:=by simp[jc]
theorem Ke (l:List (Int×Int))(i:Nat):(jc l).drop (i*2)=jc (l.drop i):=by
 induction i generalizing l with
 | zero=>simp
 | succ i ih =>
  cases l with
  | nil=>simp[jc]
  | cons x l =>
   have:(i+1)*2=i*2+2:=by omega
   rw[this];simp only[jc,flatMap_cons,List.drop_succ_cons] at *;rw[← ih l];simp
theorem Kf (l:List (Int×Int))(i:Nat):(jc l).take (i*2)=jc (l.take i):=by
 induction i generalizing l with
 | zero=>simp[jc]
 | succ i ih =>
  cases l with
  | nil=>simp[jc]
  | cons x l =>
   have:(i+1)*2=i*2+2:=by omega
   rw[this];simp only[jc,flatMap_cons,take_succ_cons] at *;rw[← ih l];simp
theorem El (l:List (Int×Int))(i:Nat)(h:i<l.length):((jc l).drop (i*2)).take 2=[.int .i64 l[i].1,.int .i64 l[i].2]:=by
 rw[Ke,kH h];simp only[jc,flatMap_cons,cons_append,nil_append,take_succ_cons,take_zero]
def fi (p:Int×Int→Bool)(l:List (Int×Int)):Int:=if l.findIdx p<l.length then (l.findIdx p:Int) else -1
theorem V8 (p:Int×Int→Bool)(l:List (Int×Int)):decide (0≤fi p l)=l.any p:=by
 unfold fi;split <;> rename_i h
 ·have:=List.findIdx_lt_length.1 h;simp only[List.any_eq_true.2 this];simp
 ·rw[List.findIdx_lt_length]at h;have:l.any p=false:=by rw[← Bool.not_eq_true,List.any_eq_true];exact h
  simp[this]
theorem V9 (p:Int×Int→Bool)(l:List (Int×Int))(i:Nat)(hi:i<l.length)(h0:∀ j,(h:j<i)→p (l[j]'(by omega))=false)(h1:p l[i]=true):fi p l=i:=by
 have:l.findIdx p=i:=(List.findIdx_eq hi).2 ⟨h1,λj hj=>h0 j hj⟩;simp[fi,this,hi]
theorem Wa (p:Int×Int→Bool)(l:List (Int×Int))(h0:∀ j,(h:j<l.length)→p l[j]=false):fi p l = -1:=by
 have:¬ l.findIdx p<l.length:=by
  rw[List.findIdx_lt_length];rintro⟨x,hx,hp⟩;obtain⟨j,hj,rfl⟩:=List.mem_iff_getElem.1 hx;rw[h0 j hj]at hp;cases hp
 simp[fi,this]
theorem Wb {q:Nat→Prop}{i:Nat}(h:∀ j,j<i→q j)(h1:q i):∀ j,j<i+1→q j:=λj hj=>by
 rcases gR j i with h' | h'
 ·exact h j h'
 ·obtain rfl:j=i:=by omega
  exact h1
def wJ (W:World)(L:List SP)(f:Nat)(us:List Value)(p:Int×Int→Bool):Prop :=
 ∀ w (x:Int×Int),U W w L→Calls prog f ([Value.agg #[.int .i64 x.1,.int .i64 x.2]]++us).toArray w λe w'=>e=.returned (.bool (p x))∧U W w' L
theorem AP {W w:World}{L R:List SP}{a e:Nat}{s:Option Addr}{n c:Nat}(I:U W w L) [fH L a e [.slice s n c] R] :
   Calls prog 207 #[pt a] w λe w'=>e=.returned (.int .i64 n)∧U W w' L:=by
 refine EN func207 ntmps207 rfl rfl λa E=>?_;refine RN 6 E I λa E=>?_;replace E:=E.aP 4;refine RT 8 E I ?_;exact⟨rfl,I⟩
theorem We {W:World}{L R:List SP}{b e:Nat}{x1 x2:Int} [fH L b e [.int .i64 x1,.int .i64 x2] R] :
   wJ W L 210 [pt b] (λy=>decide (y.1=x1)):=by
 rintro w ⟨Wf,Wg⟩ I;refine EN func210 ntmps210 rfl rfl λa E=>?_;refine BX 1 E I λb2 a w E I=>?_;refine RT 8 E I ?_;exact⟨rfl,I.tail⟩
theorem Kg {W w:World}{L R:List SP}{ad:Option Addr}{c f:Nat}{us:List Value}{l:List (Int×Int)}{p:Int×Int→Bool}(I:U W w L)[pk:fS L ad l.length c 245 2 (jc l) R]
   (hc:hQ prog f=true) (hf:wJ W L f us p) (hl:l.length≤140737488355328) :
   Calls prog 232 #[.slice ad l.length c,.func (.func f) #[] us.toArray] w λe w'=>e=.returned (.int .i64 (fi p l))∧U W w' L:=by
 refine EN func232 ntmps232 rfl rfl λa E=>?_;refine RN 7 E I λa E=>?_;refine aN (λμ a w=>∃ i:Nat,(μ=l.length-i∧i≤l.length∧(∀ j,j<i→∀ h:j<l.length,p l[j]=false))∧Fr a 19 [(0,.slice ad l.length c),(1,.func (.func f) #[] us.toArray),(4,.int .i64 0),(7,.int .i64 l.length),(8,.int .i64 i)]∧U W w L) (l.length) (⟨0,⟨by simp,by simp,λj h=>by omega⟩,E.ab [0,1,4,7,8],I⟩) ?_;clear E I;rintro μ a w ⟨i,⟨rfl,hi,hp⟩,E,I⟩;refine IF 3 E I (λaj a E=>?_) λaj a E=>?_
 ·
  obtain⟨b,off,rfl,c9⟩:=I.bU ad (by omega);have aI:i<l.length:=by omega
  have hr:=c9.part (i*2) 2;rw[El l i aI]at hr;refine RN 9 E I λa E=>?_;refine SS E (bT E underlying245 rfl Ty.t245 (hr)) λa E=>?_;refine CL 0 E I (hf _ l[i] I) (hf:=hc) λa w E I=>?_;refine IF 0 E I (λao a E=>?_) λao a E=>?_
  ·
   refine RT 3 E I ?_;exact⟨by rw[V9 p l i aI (λj hj=>hp j hj (by omega)) ao],I⟩
  refine RN 2 E I λa E=>?_;exact⟨l.length-(i+1),by omega,i+1,⟨rfl,by omega,Wb hp (λ_=>ao)⟩,E.ab [0,1,4,7,8],I⟩
 refine RT 2 E I ?_;exact⟨by rw[Wa p l (λj hj=>hp j (by omega) hj)],I⟩
theorem Wh {W w:World}{L R:List SP}{ad:Option Addr}{c f:Nat}{us:List Value}{l:List (Int×Int)}{p:Int×Int→Bool}(I:U W w L)[pk:fS L ad l.length c 245 2 (jc l) R]
   (hc:hQ prog f=true) (hf:wJ W L f us p) (hl:l.length≤140737488355328) :
   Calls prog 209 #[.slice ad l.length c,.func (.func f) #[] us.toArray] w λe w'=>e=.returned (.bool (l.any p))∧U W w' L:=by
 refine EN func209 ntmps209 rfl rfl λa E=>?_;refine CL 5 E I (Kg I hc hf hl) λa w E I=>?_;refine RT 2 E I ?_;exact⟨by rw[V8],I⟩
def bI (q:Nat)(l:List (Int×Int)):SP:=λh=>∃ i:Option Addr×Nat,cm [aa q 243 [.slice i.1 l.length i.2],Sl 245 2 i.1 l.length i.2 (jc l)] h
theorem bI.open {W w:World}{L:List SP}{q:Nat}{l:List (Int×Int)}(I:U W w (bI q l::L)) :
   ∃ ad c,U W w (aa q 243 [.slice ad l.length c]::Sl 245 2 ad l.length c (jc l)::L):=by
 obtain⟨i,_,h⟩:=I.jM (p:=λ_=>True) (B:=λi:Option Addr×Nat=>cm [aa q 243 [.slice i.1 l.length i.2],Sl 245 2 i.1 l.length i.2 (jc l)]) (λ_ ⟨i,h⟩=>⟨i,trivial,h⟩);exact⟨i.1,i.2,h.open (λ_ x=>x)⟩
theorem bI.shut {W w:World}{L R R2:List SP}{q n c:Nat}{ad:Option Addr}{cs:List Value}{l:List (Int×Int)}(I:U W w L)[k:fH L q 243 [.slice ad n c] R][k2:fS R ad n c 245 2 cs R2]
   (hn:n=l.length) (hc:cs=jc l):U W w (bI q l::R2):=by
 subst hn;subst hc;have h1:=(I.perm k.perm).perm (kz _ k2.perm);exact U.shut (M:=[_,_]) h1 λ_ x=>⟨(ad,c),x⟩
theorem Wi {W w:World}{L:List SP}(I:U W w L) :
   Calls prog 90 #[] w λe w'=>∃ q,e=.returned (pt q)∧U W w' (bI q []::L):=by
 refine EN func90 ntmps90 rfl rfl λa E=>?_;refine BX 4 E I λb2 a w E I=>?_;refine RT 1 E I ?_;exact⟨_,rfl,by
  have h1:=(I.bM 245 2 none);exact (bI.shut (q:=b2) (l:=[]) h1 rfl rfl).sub⟩
def qQ (l:List (Int×Int))(b:Int):Bool:=decide (l.length<16)&&!l.any (λy=>decide (y.1=b))
theorem AQ {W w:World}{L:List SP}{q:Nat}{l:List (Int×Int)}{b e:Int}(I:U W w (bI q l::L))(hl:l.length≤16) :
   Calls prog 182 #[pt q,.agg #[.int .i64 b,.int .i64 e]] w λr w' =>
    r=.returned (.bool (qQ l b))∧U W w' (bI q (if qQ l b then l++[(b,e)] else l)::L):=by
 obtain⟨ad,c,I⟩:=bI.open I;refine EN func182 ntmps182 rfl rfl λa E=>?_;refine BX 1 E I λb3 a w E I=>?_;refine RN 6 E I λa E=>?_;replace E:=E.aP 7;refine BY 8 E I (λmg a E=>?_) λmg a E=>?_
 ·
  have hm:qQ l b=false:=by simp only[qQ,Bool.and_eq_false_iff,rU];left;omega
  refine RT 10 E I ?_;exact⟨by rw[hm],by rw[hm,ag (by decide)];exact (bI.shut (q:=q) (ad:=ad) (l:=l) I rfl rfl).sub⟩
 refine CL 5 E I (Wh I (by kernel_rfl) We (by omega)) λa w E I=>?_;refine IF 1 E I (λaj a E=>?_) λaj a E=>?_
 ·
  have hm:qQ l b=false:=by simp only[qQ,aj,Bool.not_true,Bool.and_false]
  refine RT 2 E I ?_;exact⟨by rw[hm],by rw[hm,ag (by decide)];exact (bI.shut (q:=q) (ad:=ad) (l:=l) I rfl rfl).sub⟩
 have hm:qQ l b=true:=by simp only[qQ,aj,Bool.not_false,Bool.and_true,oB];omega
 refine bR 1 [5,6] [0,1,2,3,3004,1005,1006,1007,8,9,1010] E I λa w E I hH hC=>?_;refine RH 6 E I hH hC λa E=>?_;refine cp E rfl I underlying241 Ty.t245 rfl rfl rfl rfl (by decide) (by decide) λWj a w E I ho=>?_;replace hC:=hC.trans ho;clear ho;refine RH 0 E I hH hC λa E=>?_;refine cQ E rfl I underlying241 Ty.t245 rfl rfl I.ai rfl (by simp[Value.oneCell']) (by decide) (by decide) (by omega) λKh Ki a w E I=>?_;refine ST 2 E I (λa w E I=>?_);refine RT 2 E I ?_;exact⟨by rw[hm],by rw[hm,ak rfl];exact (bI.shut (q:=q) (l:=l++[(b,e)]) I (by simp) (by simp[Kd,jc])).sub⟩
theorem Wl {W w:World}{L:List SP}{q:Nat}(I:U W w (bI q []::L)) :
   Calls prog 180 #[pt q] w λr w' =>
    r=.returned (.tuple #[.agg #[.int .i64 0,.int .i64 0],.bool false])∧U W w' (bI q []::L):=by
 obtain⟨ad,c,I⟩:=bI.open I;refine EN func180 ntmps180 rfl rfl λa E=>?_;refine AL 1 E I λb2 a w E I=>?_;refine CL 4 E I (AP (a:=q) I) λa w E I=>?_;refine IF 1 E I (λaj a E=>?_) λaj a E=>?_
 ·
  skip
  refine SA 2 E I λa w E I=>?_;refine RT 1 E I ?_;exact⟨rfl,(bI.shut (q:=q) (ad:=ad) (l:=[]) I rfl rfl).sub⟩
 exact absurd rfl aj
theorem Wm {W w:World}{L:List SP}{q:Nat}{x:Int×Int}{l:List (Int×Int)}(I:U W w (bI q (x::l)::L)) :
   Calls prog 180 #[pt q] w λr w' =>
    r=.returned (.tuple #[.agg #[.int .i64 x.1,.int .i64 x.2],.bool true])∧U W w' (bI q l::L):=by
 obtain⟨ad,c,I⟩:=bI.open I;have cn:=(I.sl ad).2;refine EN func180 ntmps180 rfl rfl λa E=>?_;refine AL 1 E I λb2 a w E I=>?_;refine CL 4 E I (AP (a:=q) I) λa w E I=>?_;refine IF 1 E I (λaj a E=>?_) λaj a E=>?_
 ·
  simp at aj;omega
 refine RN 1 E I λa E=>?_;obtain⟨b,off,rfl,c9⟩:=I.bU ad (by simp);have hr:=c9.part 0 2;rw[show 0=0*2 from rfl,El (x::l) 0 (by simp)]at hr;refine SX 4 E I (by simp) λa E=>?_;refine RN 0 E I λa E=>?_;refine SS E (bT E underlying245 rfl Ty.t245 (hr)) λa E=>?_;refine AL 0 E I λb4 a w E I=>?_;refine SA 0 E I λa w E I=>?_;refine SX 6 E I (by simp) λa E=>?_;replace I:=I.Dh (some ⟨b,off,none⟩) 1 (x::l).length (by simp) (a7 _);refine ST 2 E I (λa w E I=>?_);refine SA 2 E I λa w E I=>?_;refine RT 1 E I ?_;exact⟨rfl,(bI.shut (q:=q) (l:=l) I (by simp) (by simp[jc];rw[gi];exact Nat.le_of_eq (pU l))).sub⟩
def kept (p:Int×Int→Bool)(l:List (Int×Int)):List (Int×Int):=l.filter λx=>!p x
theorem Em (p:Int×Int→Bool)(l:List (Int×Int))(j:Nat)(h:j<l.length):kept p (l.take (j+1))=kept p (l.take j)++(if p l[j] then [] else [l[j]]):=by
 rw[jx h,kept,yq];cases hp:p l[j] <;> simp[kept,hp]
theorem Kj (p:Int×Int→Bool)(l:List (Int×Int))(h:fi p l = -1):kept p l=l:=by
 unfold fi at h;split at h
 ·omega
 ·rename_i h1;rw[List.findIdx_lt_length]at h1;exact List.filter_eq_self.2 λx hx=>by
   cases hp:p x with
   | false=>rfl
   | true=>exact absurd ⟨x,hx,hp⟩ h1
theorem Wn (p:Int×Int→Bool)(l:List (Int×Int))(h:¬ fi p l = -1):∃ k:Nat,fi p l=(k:Int)∧k<l.length∧kept p (l.take (k+1))=l.take k:=by
 unfold fi at h ⊢;split at h
 ·rename_i h1;refine⟨l.findIdx p,by rw[ak h1],h1,?_⟩;rw[Em p l _ h1,List.findIdx_getElem (w:=h1),ak rfl,append_nil];refine List.filter_eq_self.2 λx hx=>?_;obtain⟨j,hj,rfl⟩:=List.mem_iff_getElem.1 hx;simp only[eA]at hj;have:=List.not_of_lt_findIdx (p:=p) (xs:=l) (i:=j) (by omega);simp at this ⊢;exact this
 ·exact absurd rfl h
theorem Wo {pre post:List Value}(l:List (Int×Int))(i:Nat)(h:i<l.length):((pre++jc l++post).drop (pre.length+i*2)).take 2=[.int .i64 l[i].1,.int .i64 l[i].2]:=by
 rw[dx,← kA,drop_left,List.drop_append_of_le_length (by rw[pU];omega),List.take_append_of_le_length (by simp[pU];omega)];exact El l i h
theorem Wp {pre post:List Value}(l:List (Int×Int))(i:Nat)(x:Int×Int)(h:i<l.length) :
   cG (pre++jc l++post) (pre.length+i*2) [.int .i64 x.1,.int .i64 x.2]=pre++jc (l.set i x)++post:=by
 have uT:l.set i x=l.take i++x::l.drop (i+1):=by rw[rr,ak h]
 have e1:(pre++jc l++post).take (pre.length+i*2)=pre++jc (l.take i):=by
  rw[dx,uy,gi (by omega),show pre.length+i*2-pre.length=i*2 from by omega,List.take_append_of_le_length (by rw[pU];omega),Kf]
 have e2:(pre++jc l++post).drop (pre.length+i*2+2)=jc (l.drop (i+1))++post:=by
  rw[dx,Nat.add_assoc,← kA,drop_left,show i*2+2=(i+1)*2 from by omega,List.drop_append_of_le_length (by rw[pU];omega),Ke]
 rw[cG,e1];show _++_++(pre++jc l++post).drop (pre.length+i*2+2)=_;rw[e2,uT,Kd];simp[jc]
structure Dl (p:Int×Int→Bool)(l l':List (Int×Int))(i j:Nat):Prop where
 len:l'.length=l.length
 le:j≤l.length
 lt:i<j
 cS:i=(kept p (l.take j)).length
 fst:l'.take i=kept p (l.take j)
 snd:l'.drop j=l.drop j
theorem Dl.get {p l l' i j}(d:Dl p l l' i j)(h:j<l.length):l'[j]'(by have:=d.len;omega)=l[j]:=by
 have h1:=d.snd;rw[kH (by have:=d.len;omega),kH h]at h1;exact (List.cons.inj h1).1
theorem Dl.ab {p l l' i j}(d:Dl p l l' i j)(h:j<l.length)(hp:p l[j]=false):Dl p l (l'.set i l[j]) (i+1) (j+1):=by
 have hi:i<l'.length:=by have:=d.len;have:=d.lt;omega
 have hk:=Em p l j h;rw[hp]at hk;refine⟨by simp[d.len],by omega,by have:=d.lt;omega,?_,?_,?_⟩
 ·rw[hk];simp[← d.cS]
 ·rw[hk,← d.fst,rr,ak hi,uy,gi (by simp;omega)];have:(l'.take i).length=i:=by simp;omega
  simp[this]
 ·have h1:=d.snd;rw[List.drop_set_of_lt (by have:=d.lt;omega)];have:=dd (List.drop 1) h1;simpa [kA] using this
theorem Dl.skip {p l l' i j}(d:Dl p l l' i j)(h:j<l.length)(hp:p l[j]=true):Dl p l l' i (j+1):=by
 have hk:=Em p l j h;rw[hp]at hk;simp only[if_true,append_nil]at hk;refine⟨d.len,by omega,by have:=d.lt;omega,by rw[hk];exact d.cS,by rw[hk];exact d.fst,?_⟩;have:=dd (List.drop 1) d.snd;simpa [kA] using this
theorem Wq {W w:World}{L:List SP}{ad:Option Addr}{c f:Nat}{us:List Value}{l:List (Int×Int)}{p:Int×Int→Bool}(I:U W w (Sl 245 2 ad l.length c (jc l)::L))
   (hc:hQ prog f=true) (hf:∀ A,wJ W (A::L) f us p) (jN:∀ A B,wJ W (A::B::L) f us p) (hl:l.length≤140737488355328) :
   Calls prog 321 #[.slice ad l.length c,.func (.func f) #[] us.toArray] w λe w' =>
    ∃ av c',e=.returned (.slice av (kept p l).length c')∧U W w' (Sl 245 2 av (kept p l).length c' (jc (kept p l))::L):=by
 refine EN func321 ntmps321 rfl rfl λa E=>?_;refine CL 5 E I (Kg (p:=p) I hc (hf _) hl) λa w E I=>?_;refine IF 5 E I (λaj a E=>?_) λaj a E=>?_
 ·
  refine RT 3 E I ?_;exact⟨ad,c,by rw[Kj p l aj],by rw[Kj p l aj];exact I⟩
 obtain⟨k,hk,dI,j6⟩:=Wn p l aj;rw[hk]at E;have cn:=(I.sl ad).2;have hA:=E;obtain⟨b,pre,post,⟨c0,cU,rfl,a4⟩,kE⟩:=I.l8 (by omega);have E:=hA;have I:=kE;refine RN 5 E I λa E=>?_;refine aN (λμ a w=>∃ i j:Nat,∃ l':List (Int×Int),(μ=l.length-j∧Dl p l l' i j)∧Fr a 42 [(0,.slice (some ⟨b,pre.length,none⟩) l.length c),(1,.func (.func f) #[] us.toArray),(4,.slice none 0 0),(5,.int .i64 i),(6,.int .i64 j)]∧U W w (aa b 245 (pre++jc l'++post)::L)) (l.length-(k+1)) (⟨k,k+1,l,⟨rfl,rfl,by omega,by omega,by rw[j6];simp;omega,by rw[j6],rfl⟩,E.ab [0,1,4,5,6],I⟩) ?_;clear E I;rintro μ a w ⟨i,j,l',⟨rfl,hd⟩,E,I⟩;have tp:=hd.len;have kM:=hd.le;have hd3:=hd.lt;refine IF 6 E I (λao a E=>?_) λao a E=>?_
 ·
  have dQ:j<l.length:=by omega
  have Wr:=hd.get dQ;have hr:Rd w b (pre.length+j*2) [.int .i64 l[j].1,.int .i64 l[j].2]:=by
   intro q v hq;rw[I.cell];have:=Wo (pre:=pre) (post:=post) l' j (by omega);rw[Wr]at this;rw[← this]at hq;rw[vV]at hq;split at hq
   ·rw[qw]at hq;exact hq
   ·cases hq
  refine RN 5 E I λa E=>?_;refine SS E (bT E underlying245 rfl Ty.t245 (hr)) λa E=>?_;refine AL 0 E I λdt a w E I=>?_;refine SA 0 E I λa w E I=>?_;refine CL 3 E I (jN _ _ _ l[j] I) (hf:=hc) λa w E I=>?_;refine IF 1 E I (λay a E=>?_) λay a E=>?_
  ·
   refine RN 5 E I λa E=>?_;refine ru E rfl I Ty.t245 (by simp[Value.oneCell']) (by simp[pU];omega) λa w E I=>?_;rw[Wp l' i l[j] (by omega)]at I;refine RN 6 E I λa E=>?_;exact⟨l.length-(j+1),by omega,i+1,j+1,_,⟨rfl,hd.ab dQ ay⟩,E.ab [0,1,4,5,6],I.sub⟩
  refine RN 3 E I λa E=>?_;exact⟨l.length-(j+1),by omega,i,j+1,l',⟨rfl,hd.skip dQ ay⟩,E.ab [0,1,4,5,6],I.sub⟩
 obtain rfl:j=l.length:=by omega
 have yj:=hd.cS;have Kk:=hd.fst;rw[k4]at yj Kk;refine RN 4 E I λa E=>?_;rw[pE (by omega)]at E;have hle:pre.length+i*2+(l.length-i)*2≤(pre++jc l'++post).length:=by simp only[aJ,pU,tp];omega
 refine I1 E rfl I underlying241 Ty.t245 rfl rfl hle λa w E I=>?_;refine RN 4 E I λa E=>?_;rw[pE (by omega)]at E;refine RT 1 E I ?_;refine⟨some ⟨b,pre.length+0*2,none⟩,c,by rw[yj];rfl,?_⟩;generalize hz:(Builtin.zeroCells (Value.cells (.agg #[.int .i64 0,.int .i64 0])) (l.length-i)).toList=zs at I;have iL:zs.length=(l.length-i)*2:=by rw[← hz];exact xX 0 (a2:=0) rfl _
 have he:cG (pre++jc l'++post) (pre.length+i*2) zs=pre++jc (kept p l)++(zs++post):=by
  have e1:(pre++jc l'++post).take (pre.length+i*2)=pre++jc (kept p l):=by
   rw[dx,uy,gi (by omega),show pre.length+i*2-pre.length=i*2 from by omega,List.take_append_of_le_length (by rw[pU];omega),Kf,Kk]
  have e2:(pre++jc l'++post).drop (pre.length+i*2+zs.length)=post:=by
   rw[iL,List.drop_append,List.drop_of_length_le (by simp only[aJ,pU];omega),nil_append];simp only[aJ,pU,tp];have:pre.length+i*2+(l.length-i)*2-(pre.length+l.length*2)=0:=by omega
   rw[this,drop_zero]
  rw[cG,e1,e2];simp
 rw[he]at I;exact U.iZ I (pU _) (by omega) (by rw[← yj,aJ,iL];omega)
theorem Kl {W:World}{L R:List SP}{b t:Nat}{x:Int} [fH L b t [.int .i64 x] R] :
   wJ W L 322 [pt b] (λy=>decide (y.2<x)):=by
 rintro w ⟨Wf,Wg⟩ I;refine EN func322 ntmps322 rfl rfl λa E=>?_;refine BX 1 E I λb2 a w E I=>?_;refine RT 7 E I ?_;exact⟨rfl,I.tail⟩
theorem Ws {W w:World}{L:List SP}{q:Nat}{l:List (Int×Int)}{e:Int}(I:U W w (bI q l::L))(hl:l.length≤16) :
   Calls prog 307 #[pt q,.int .i64 e] w λr w' =>
    r=.returned (.int .i64 ((l.length:Int)-(kept (λy=>decide (y.2<e)) l).length))∧U W w' (bI q (kept (λy=>decide (y.2<e)) l)::L):=by
 obtain⟨ad,c,I⟩:=bI.open I;have hk:(kept (λy=>decide (y.2<e)) l).length≤l.length:=pR _ _;refine EN func307 ntmps307 rfl rfl λa E=>?_;refine BX 1 E I λb3 a w E I=>?_;refine CL 3 E I (AP (a:=q) I) λa w E I=>?_;refine RN 5 E I λa E=>?_;replace E:=E.ed 9;refine aZ 7 E I (Wq (I.pick (Sl 245 2 ad l.length c (jc l))) (by kernel_rfl) (p:=λy=>decide (y.2<e)) (λA=>Kl) (λA B=>Kl) (by omega)) λav c' a w E I=>?_;refine ST 2 E I (λa w E I=>?_);refine CL 3 E I (AP (a:=q) I) λa w E I=>?_;refine RT 2 E I ?_;exact⟨rfl,(bI.shut (q:=q) (ad:=av) (l:=kept (λy=>decide (y.2<e)) l) I rfl rfl).sub⟩
theorem Wt {W w:World}{L:List SP}{q:Nat}{l:List (Int×Int)}(I:U W w (bI q l::L)) :
   Calls prog 180 #[pt q] w λr w' =>
    r=.returned (.tuple #[.agg #[.int .i64 (l.headD (0,0)).1,.int .i64 (l.headD (0,0)).2],.bool (!l.isEmpty)])∧U W w' (bI q l.tail::L):=by
 cases l with
 | nil=>exact Wl I
 | cons x l=>exact Wm I
class wK (L:List SP)(q:Nat)(l:outParam (List (Int×Int)))(R:outParam (List SP)):Prop where perm:L.Perm (bI q l::R)
instance wK.head {L q l}:wK (bI q l::L) q l L:=⟨lE _⟩
instance (priority:=low) wK.tail {A L q l R}[h:wK L q l R]:wK (A::L) q l (A::R):=⟨(kz A h.perm).trans (cZ _ _ _)⟩
theorem U.uU {W w:World}{L R:List SP}{l:List (Int×Int)}(I:U W w L)(q:Nat)[k:wK L q l R]:U W w (bI q l::R):=I.perm k.perm
theorem Km {x:Int}:decide (x≠x)=false:=by simp
end
section
structure Wk where
 busy:Bool
 jb:Int
 je:Int
 x:Nat
 done:Nat
 mS:Bool
def ld:Wk:=⟨false,0,0,0,0,false⟩
abbrev Js:=List (Int×Int)
def mh (J:Js)(b e:Int):Js:=if qQ J b then J++[(b,e)] else J
inductive lN (p:Pr)(A:Sn)(T:Tr)(J:Js)(k:Wk):Bool→Sn→Tr→Js→Wk→Prop
 | idle:k.busy=false→J=[]→lN p A T J k false A T J k
 | yu {j:Int×Int} {J':Js}:k.busy=false→J=j::J'→(j.2≠T.epoch∨(∀ y∈T.l,(y.id:Int)≠j.1)∨∃ x∈T.l,(x.id:Int)=j.1∧x.al.length≤x.done)→lN p A T J k true A T J' k
 | En {j : Int × Int} {J' : Js} {i : Nat} {x : Br} {px : aC} : k.busy = false → J = j :: J' → j.2 = T.epoch → x ∈ T.l → (x.id : Int) = j.1 → x.done < x.al.length → A.ar[i]? = some px → px.id = x.snap →
     lN p A T J k true (A.add px.g px.p) T J' ⟨true,j.1,j.2,A.last+1,x.done,false⟩
 | gone:k.busy=true→(k.je≠T.epoch∨∀ y∈T.l,(y.id:Int)≠k.jb)→lN p A T J k true (A.eB k.x) T J { k with busy:=false }
 | mS {x : Br} {i : Nat} {px : aC} {p' : Nat → Nat} {b : List UInt8} : k.busy = true → k.je = T.epoch → x ∈ T.l → (x.id : Int) = k.jb → k.mS = false → A.ar[i]? = some px → px.id = k.x → x.al[k.done]? = some b →
     dS (e7 p (x.frm+k.done) b px.g)→lN p A T J k true { A with ar:=A.ar.set i ⟨px.id,px.refs,e7 p (x.frm+k.done) b px.g,p'⟩ } T J { k with mS:=true }
 | failed {x:Br}:k.busy=true→k.je=T.epoch→x∈T.l→(x.id:Int)=k.jb→k.mS=false→¬ 4*A.ar.length≤A.room→lN p A T J k true (A.eB k.x) T (mh J k.jb k.je) { k with busy:=false }
 | iO {x : Br} {kk : Nat} : k.busy = true → k.je = T.epoch → T.l[kk]? = some x → (x.id : Int) = k.jb → k.mS = true → x.done < k.done + 1 → k.done + 1 ≤ x.al.length →
     lN p A T J k true (A.eB x.snap) (T.iO kk x (k.done+1) k.x) (if k.done+1<x.al.length then mh J k.jb k.je else J) { k with busy:=false }
 | lost {x:Br}:k.busy=true→k.je=T.epoch→x∈T.l→(x.id:Int)=k.jb→k.mS=true→k.done+1≤x.done→lN p A T J k true (A.eB k.x) T (if x.done<x.al.length then mh J k.jb k.je else J) { k with busy:=false }
def jC (ws:List Wk):List Nat:=(ws.filter (·.busy)).map (·.x)
structure Inv (p:Pr)(F:Int)(g0:Nat→Int)(t:Nat→Nat)(base:Nat)(A:Sn)(T:Tr)(ws:List Wk):Prop where
 perm:(A.ar.map (·.id)).Perm (base::(T.l.map (·.snap)++jC ws))
 ar:∀ x∈A.ar,x.refs=1∧dS x.g
 base:∀ x∈A.ar,x.id=base→x.g=g0∧x.p=t
 gk:∀ y∈T.l,y.frm=F∧∀ x∈A.ar,x.id=y.snap→x.g=foldI p F g0 (y.al.take y.done)
 lO:∀ k∈ws,k.jb≤T.last∧(k.busy=true→∀ y∈T.l,(y.id:Int)=k.jb→k.done<y.al.length∧∀ x∈A.ar,x.id=k.x→x.g=foldI p F g0 (y.al.take (k.done+if k.mS then 1 else 0)))
theorem ka {α:Type}{f:α→Bool}{l:List α}{x:α}(h:x∈l.filter f):x∈l:=(List.mem_filter.1 h).1
theorem WF.oR {A:Sn}(h:WF A):(A.ar.map (·.id)).Nodup:=h.sorted.imp (λh=>Nat.ne_of_lt h)
theorem WT.same {T:Tr}(h:WT T){x y:Br}(hx:x∈T.l)(hy:y∈T.l)(he:x.id=y.id):x=y:=by
 obtain⟨i,hi⟩:=j7.1 hx;obtain⟨j,hj⟩:=j7.1 hy;obtain rfl:=h.unique hj hi he;rw[hi]at hj;cases hj;rfl
theorem Wu {α:Type}{f:α→Nat}:∀ {l:List α} {i:Nat} (hd:(l.map f).Nodup) (hi:i<l.length),l.filter (λx=>f x != f l[i])=l.eraseIdx i:=by
 intro l
 induction l with
 | nil=>intro i _ hi;simp at hi
 | cons a l ih =>
  intro i hd hi;rw[map_cons,List.nodup_cons]at hd;cases i with
  | zero =>
   rw[List.getElem_cons_zero,List.filter_cons_of_neg (by simp),List.eraseIdx_cons_zero,List.filter_eq_self];intro y hy;simp only[bne_iff_ne,ne_eq];intro e;exact hd.1 (e ▸ cR.2 ⟨y,hy,rfl⟩)
  | succ i =>
   have v8:i<l.length:=by simpa using hi
   rw[List.getElem_cons_succ,List.filter_cons_of_pos,List.eraseIdx_cons_succ,ih hd.2 v8];simp only[bne_iff_ne,ne_eq];intro e;exact hd.1 (e ▸ cR.2 ⟨l[i],jd _,rfl⟩)
theorem AR {A:Sn}(hw:WF A)(hr:∀ x∈A.ar,x.refs=1)(id:Nat):A.eB id={ A with ar:=A.ar.filter (λx=>x.id != id) }:=by
 by_cases h:∃ px∈A.ar,px.id=id
 ·obtain⟨px,h1,rfl⟩:=h;obtain⟨i,hi⟩:=j7.1 h1;obtain⟨hl,he⟩:=aY.1 hi;have h2:=Wu hw.oR hl;rw[he]at h2;rw[yp hw hi,Sn.drop,ak (hr px h1),h2]
 ·rw[Eg (λy hy e=>h ⟨y,hy,e⟩),List.filter_eq_self.2];intro y hy;simp only[bne_iff_ne,ne_eq];exact λe=>h ⟨y,hy,e⟩
theorem Eo {a:Nat}{l L M:List Nat}(h1:l.Perm L)(h2:L.Perm (a::M))(oR:l.Nodup):(l.filter (· != a)).Perm M:=by
 have h3:=(h1.trans h2).filter (· != a);have h4:=(h1.trans h2).nodup_iff.1 oR;rw[List.nodup_cons]at h4;have h5:M.filter (· != a)=M:=List.filter_eq_self.2 (λy hy=>by simp only[bne_iff_ne,ne_eq];intro e;exact h4.1 (e ▸ hy));rw[List.filter_cons_of_neg (by simp),h5]at h3;exact h3
theorem Ep (l:List aC)(id:Nat):(l.filter (λx=>x.id != id)).map (·.id)=(l.map (·.id)).filter (· != id):=by
 rw[List.filter_map];rfl
theorem wL {k:Wk}{ws:List Wk}(h:k.busy=true):jC (k::ws)=k.x::jC ws:=by rw[jC,List.filter_cons_of_pos h,map_cons];rfl
theorem Er {k:Wk}{ws:List Wk}(h:k.busy=false):jC (k::ws)=jC ws:=by rw[jC,List.filter_cons_of_neg (by simp[h])];rfl
theorem AS {k:Wk}{ws:List Wk}(h:k∈ws)(hb:k.busy=true):k.x∈jC ws:=cR.2 ⟨k,List.mem_filter.2 ⟨h,hb⟩,rfl⟩
theorem Inv.wM {p:Pr}{F:Int}{g0:Nat→Int}{t:Nat→Nat}{base:Nat}{A:Sn}{T:Tr}{ws Kn:List Wk}(h:Inv p F g0 t base A T ws)(hp:ws.Perm Kn):Inv p F g0 t base A T Kn :=
 ⟨h.perm.trans ((((hp.filter _).map _).append_left _).cons _),h.ar,h.base,h.gk,λk hk=>h.lO k (hp.mem_iff.2 hk)⟩
section
variable {p:Pr}{F:Int}{g0:Nat→Int}{t:Nat→Nat}{base:Nat}{A A':Sn}{T T':Tr}{J J':Js}{ws:List Wk}{k k':Wk}{r:Bool}
theorem Inv.oR (h:Inv p F g0 t base A T ws)(hA:WF A):(base::(T.l.map (·.snap)++jC ws)).Nodup:=h.perm.nodup_iff.1 hA.oR
theorem Inv.mM (h:Inv p F g0 t base A T ws){id:Nat}(hm:id∈base::(T.l.map (·.snap)++jC ws)):∃ (i:Nat) (px:aC),A.ar[i]?=some px∧px.id=id:=by
 obtain⟨px,h1,h2⟩:=cR.1 (h.perm.mem_iff.2 hm);obtain⟨i,hi⟩:=j7.1 h1;exact⟨i,px,hi,h2⟩
theorem Inv.Ko (h:Inv p F g0 t base A T ws){x:Br}(hx:x∈T.l):∃ (i:Nat) (px:aC),A.ar[i]?=some px∧px.id=x.snap :=
 h.mM (gF _ (mem_append_left _ (cR.2 ⟨x,hx,rfl⟩)))
theorem Inv.Wv (h:Inv p F g0 t base A T ws)(hk:k∈ws)(hb:k.busy=true):∃ (i:Nat) (px:aC),A.ar[i]?=some px∧px.id=k.x :=
 h.mM (gF _ (List.mem_append_right _ (AS hk hb)))
theorem Inv.rest (h:Inv p F g0 t base A T (k::ws))(hA:WF A)(hb:k.busy=true)(hj:k'.busy=false)(hl:k'.jb=k.jb):Inv p F g0 t base (A.eB k.x) T (k'::ws):=by
 rw[AR hA (λx hx=>(h.ar x hx).1)];refine⟨?_,λx hx=>h.ar x (ka hx),λx hx=>h.base x (ka hx),λy hy=>⟨(h.gk y hy).1,λx hx=>(h.gk y hy).2 x (ka hx)⟩,λk2 b0=>?_⟩
 ·simp only;rw[Ep,Er hj];refine Eo h.perm ?_ hA.oR;rw[wL hb];exact (kz _ nP).trans (cZ _ _ _)
 ·rcases List.mem_cons.1 b0 with rfl | b0
  ·exact⟨by rw[hl];exact (h.lO k (iJ ..)).1,λe=>by rw[hj]at e;cases e⟩
  ·refine⟨(h.lO k2 (gF _ b0)).1,λe y hy b6=>?_⟩;obtain⟨h1,h2⟩:=(h.lO k2 (gF _ b0)).2 e y hy b6;exact⟨h1,λx hx=>h2 x (ka hx)⟩
theorem yv {A:Sn}(hA:WF A){i:Nat}{px v z:aC}(hi:A.ar[i]?=some px)(hz:z∈A.ar.set i v):z=v∨(z∈A.ar∧z.id≠px.id):=by
 obtain⟨j,hj⟩:=j7.1 hz;rw[jO]at hj;split at hj
 ·split at hj
  ·cases hj;exact .inl rfl
  ·cases hj
 ·rename_i bD;exact .inr ⟨bF hj,λe=>bD (hA.ids hi hj e.symm)⟩
theorem Inv.bit (h:Inv p F g0 t base A T (k::ws))(hA:WF A)(hT:WT T)(hb:lN p A T J k r A' T' J' k'):Inv p F g0 t base A' T' (k'::ws):=by
 cases hb with
 | idle=>exact h
 | yu=>exact h
 | @En j J' i x px h1 h2 h3 h4 h5 h6 h7 h8 =>
  have uV:∀ z∈A.ar,z.id≠A.last+1:=λz hz e=>by have:=(hA.mM z hz).2.1;omega
  have hY:=bF h7;have hlt:∀ id∈base::(T.l.map (·.snap)++jC (k::ws)),id≠A.last+1:=λid b6 e=>by
   obtain⟨z,hz,he⟩:=cR.1 (h.perm.mem_iff.2 b6);exact uV z hz (by rw[he,e])
  refine⟨?_,λz hz=>?_,λz hz he=>?_,λy hy=>⟨(h.gk y hy).1,λz hz he=>?_⟩,λk2 b0=>?_⟩
  ·simp only[Sn.add,cW,map_cons,map_nil];rw[wL rfl];have hp:=h.perm;rw[Er h1]at hp;refine (hp.append_right _).trans ((List.perm_append_singleton _ _).trans ?_);exact (cZ _ _ _).trans (kz _ nP.symm)
  ·simp only[Sn.add]at hz;rcases eT.1 hz with hz | hz
   ·exact h.ar z hz
   ·simp at hz;subst hz;exact⟨rfl,(h.ar px hY).2⟩
  ·simp only[Sn.add]at hz;rcases eT.1 hz with hz | hz
   ·exact h.base z hz he
   ·simp at hz;subst hz;exact absurd he.symm (hlt base (iJ ..))
  ·simp only[Sn.add]at hz;rcases eT.1 hz with hz | hz
   ·exact (h.gk y hy).2 z hz he
   ·simp at hz;subst hz;exact absurd he.symm (hlt y.snap (gF _ (mem_append_left _ (cR.2 ⟨y,hy,rfl⟩))))
  ·rcases List.mem_cons.1 b0 with rfl | b0
   ·refine⟨?_,λ_ y hy b6=>?_⟩
    ·have:=(hT.ok x h4).2.2.2;simp only;omega
    ·obtain rfl:y=x:=hT.same hy h4 (by simp only at b6;omega);refine⟨h6,λz hz he=>?_⟩;simp only[Sn.add]at hz;rcases eT.1 hz with hz | hz
     ·exact absurd he (uV z hz)
     ·simp at hz;subst hz;exact (h.gk y hy).2 px hY h8
   ·refine⟨(h.lO k2 (gF _ b0)).1,λe y hy b6=>?_⟩;obtain⟨h9,fg⟩:=(h.lO k2 (gF _ b0)).2 e y hy b6;refine⟨h9,λz hz he=>?_⟩;simp only[Sn.add]at hz;rcases eT.1 hz with hz | hz
    ·exact fg z hz he
    ·simp at hz;subst hz;exact absurd he.symm (hlt k2.x (gF _ (List.mem_append_right _ (AS (gF _ b0) e))))
 | gone h1 h2=>exact h.rest hA h1 rfl rfl
 | failed h1=>exact h.rest hA h1 rfl rfl
 | lost h1=>exact h.rest hA h1 rfl rfl
 | @mS x i px p' b h1 h2 h3 h4 h5 h6 h7 h8 h9 =>
  have hY:=bF h6;have Es:=h.oR hA;rw[wL h1]at Es;have Et:(base::(T.l.map (·.snap)++k.x::jC ws)).Perm (k.x::(base::(T.l.map (·.snap)++jC ws))):=(kz _ nP).trans (cZ _ _ _);have bQ:=(List.nodup_cons.1 (Et.nodup_iff.1 Es)).1;have Ww:(A.ar.set i ⟨px.id,px.refs,e7 p (x.frm+k.done) b px.g,p'⟩).map (·.id)=A.ar.map (·.id):=JI h6 rfl;refine⟨?_,λz hz=>?_,λz hz he=>?_,λy hy=>⟨(h.gk y hy).1,λz hz he=>?_⟩,λk2 b0=>?_⟩
  ·simp only;rw[Ww,wL (by exact h1)];have hp:=h.perm;rw[wL h1]at hp;exact hp
  ·rcases yv hA h6 hz with rfl | hz
   ·exact⟨(h.ar px hY).1,h9⟩
   ·exact h.ar z hz.1
  ·rcases yv hA h6 hz with rfl | hz
   ·exact absurd (List.mem_cons.2 (.inl (by simp only at he;rw[← he,h7]))) bQ
   ·exact h.base z hz.1 he
  ·rcases yv hA h6 hz with rfl | hz
   ·refine absurd (gF _ (mem_append_left _ (cR.2 ⟨y,hy,?_⟩))) bQ;simp only at he;rw[← he,h7]
   ·exact (h.gk y hy).2 z hz.1 he
  ·rcases List.mem_cons.1 b0 with rfl | b0
   ·have hk:=h.lO k (iJ ..);refine⟨hk.1,λ_ y hy b6=>?_⟩;obtain rfl:y=x:=hT.same hy h3 (by simp only at b6;omega);obtain⟨fg,lP⟩:=hk.2 h1 y hy h4;refine⟨fg,λz hz he=>?_⟩;rcases yv hA h6 hz with rfl | hz
    ·have DL:=lP px hY h7;rw[h5]at DL;have Kp:y.al.take (k.done+1)=y.al.take k.done++[b]:=by
      rw[List.take_add_one,h8];rfl
     show e7 p (y.frm+k.done) b px.g=foldI p F g0 (y.al.take (k.done+1));rw[Kp,Ej,eA,Nat.min_eq_left (by omega),(h.gk y hy).1,DL];simp
    ·simp only at he;exact absurd (by rw[he,h7]) hz.2
   ·have hk:=h.lO k2 (gF _ b0);refine⟨hk.1,λe y hy b6=>?_⟩;obtain⟨fg,lP⟩:=hk.2 e y hy b6;refine⟨fg,λz hz he=>?_⟩;rcases yv hA h6 hz with rfl | hz
    ·refine absurd (gF _ (List.mem_append_right _ ?_)) bQ;simp only at he;rw[← h7,he];exact AS b0 e
    ·exact lP z hz.1 he
 | @iO x kk h1 h2 h3 h4 h5 h6 h7 =>
  rw[AR hA (λx hx=>(h.ar x hx).1)];have hx:=bF h3;obtain⟨dI,yw⟩:=aY.1 h3;have hk:=h.lO k (iJ ..);refine⟨?_,λz hz=>h.ar z (ka hz),λz hz=>h.base z (ka hz),λy hy=>?_,λk2 b0=>?_⟩
  ·simp only[Tr.iO];rw[Ep,Er (by rfl)];refine Eo h.perm ?_ hA.oR;rw[wL h1];have e1:(T.l.map (·.snap)).Perm (x.snap::(T.l.eraseIdx kk).map (·.snap)):=by
    have:=(sY T.l dI).map (·.snap);rw[map_cons,yw]at this;exact this
   have e2:((T.l.set kk { x with done:=k.done+1,snap:=k.x }).map (·.snap)).Perm (k.x::(T.l.eraseIdx kk).map (·.snap)):=by
    have:=(sY (T.l.set kk { x with done:=k.done+1,snap:=k.x }) (by simpa using dI)).map (·.snap);rw[map_cons,oH,eraseIdx_set_eq]at this;exact this
   have e3:(base::(T.l.map (·.snap)++k.x::jC ws)).Perm (base::(x.snap::((T.l.eraseIdx kk).map (·.snap)++k.x::jC ws))):=(e1.append_right _).cons _;refine e3.trans ((cZ _ _ _).trans (kz _ (kz _ ?_)));exact nP.trans (e2.append_right _).symm
  ·simp only[Tr.iO]at hy;rcases rK hy with hy | rfl
   ·exact⟨(h.gk y hy).1,λz hz=>(h.gk y hy).2 z (ka hz)⟩
   ·refine⟨(h.gk x hx).1,λz hz he=>?_⟩;have:=(hk.2 h1 x hx h4).2 z (ka hz) he;rw[h5]at this;exact this
  ·have yx : ∀ y ∈ (T.iO kk x (k.done + 1) k.x).l, ∃ AT ∈ T.l, AT.id = y.id ∧ AT.al = y.al := fun y hy => by
    simp only[Tr.iO]at hy;rcases rK hy with hy | rfl
    ·exact⟨y,hy,rfl,rfl⟩
    ·exact⟨x,hx,rfl,rfl⟩
   rcases List.mem_cons.1 b0 with rfl | b0
   ·exact⟨hk.1,λe=>by cases e⟩
   ·have mK:=h.lO k2 (gF _ b0);refine⟨mK.1,λe y hy b6=>?_⟩;obtain⟨AT,Wx,e1,e2⟩:=yx y hy;obtain⟨fg,lP⟩:=mK.2 e AT Wx (by rw[e1];exact b6);rw[e2]at fg lP;exact⟨fg,λz hz=>lP z (ka hz)⟩
theorem AU {b e:Int}(h:J.length≤16):(mh J b e).length≤16:=by
 unfold mh;split
 ·rename_i h1;simp only[qQ,fq,oB]at h1;simp;omega
 ·exact h
theorem oS (A:Sn)(id:Nat):(A.eB id).room=A.room∧(A.eB id).n=A.n∧(A.eB id).last=A.last:=by
 unfold Sn.eB;split
 ·split
  ·simp[Sn.drop]
  ·exact⟨rfl,rfl,rfl⟩
 ·exact⟨rfl,rfl,rfl⟩
structure AV (A:Sn)(T:Tr)(J:Js)(A':Sn)(T':Tr)(J':Js):Prop where
 room:A'.room=A.room
 n:A'.n≤A.n+1
 most:T'.most=T.most
 last:T'.last=T.last
 epoch:T'.epoch=T.epoch
 l:T'.l.map (λy=>(y.id,y.al))=T.l.map (λy=>(y.id,y.al))
 len:J.length≤16→J'.length≤16
theorem lN.Wy (hb:lN p A T J k r A' T' J' k'):AV A T J A' T' J':=by
 cases hb with
 | idle=>exact⟨rfl,by omega,rfl,rfl,rfl,rfl,λh=>h⟩
 | yu h1 h2=>exact⟨rfl,by omega,rfl,rfl,rfl,rfl,λh=>by rw[h2,eH]at h;omega⟩
 | En h1 h2=>exact⟨rfl,by simp[Sn.add],rfl,rfl,rfl,rfl,λh=>by rw[h2,eH]at h;omega⟩
 | gone=>exact⟨(oS A _).1,by rw[(oS A _).2.1];omega,rfl,rfl,rfl,rfl,λh=>h⟩
 | mS=>exact⟨rfl,by simp,rfl,rfl,rfl,rfl,λh=>h⟩
 | failed=>exact⟨(oS A _).1,by rw[(oS A _).2.1];omega,rfl,rfl,rfl,rfl,AU⟩
 | lost=>exact⟨(oS A _).1,by rw[(oS A _).2.1];omega,rfl,rfl,rfl,rfl,λh=>by split <;> first | exact AU h | exact h⟩
 | @iO x kk h1 h2 h3 =>
  refine⟨(oS A _).1,by rw[(oS A _).2.1];omega,rfl,rfl,rfl,?_,λh=>by split <;> first | exact AU h | exact h⟩;obtain⟨dI,yw⟩:=aY.1 h3;simp only[Tr.iO];apply ext_getElem?;intro j;simp only[bl,jO];by_cases hj:kk=j
  ·subst hj;simp[dI,yw]
  ·rw[ag hj]
end
end
section
theorem Wz {α:Type}{f:α→Nat}:∀ {l:List α},(l.map f).Nodup→∀ {x y:α},x∈l→y∈l→f x=f y→x=y:=by
 intro l
 induction l with
 | nil=>intro _ x y hx;cases hx
 | cons a l ih =>
  intro hd x y hx hy he;rw[map_cons,List.nodup_cons]at hd;rcases List.mem_cons.1 hx with uW | hx
  ·rcases List.mem_cons.1 hy with Eu | hy
   ·rw[uW,Eu]
   ·exact absurd (cR.2 ⟨y,hy,by rw[← he,uW]⟩) hd.1
  ·rcases List.mem_cons.1 hy with Eu | hy
   ·exact absurd (cR.2 ⟨x,hx,by rw[he,Eu]⟩) hd.1
   ·exact ih hd.2 hx hy he
theorem WF.eB {A:Sn}(hw:WF A)(hr:∀ x∈A.ar,x.refs=1)(id:Nat):WF (A.eB id):=by
 by_cases h:∃ px∈A.ar,px.id=id
 ·obtain⟨px,h1,rfl⟩:=h;obtain⟨i,hi⟩:=j7.1 h1;rw[yp hw hi,Sn.drop,ak (hr px h1)];exact hw.erase i
 ·rw[Eg (λy hy e=>h ⟨y,hy,e⟩)];exact hw
theorem WA:∀ (l:List Br) {A:Sn},WF A→(∀ x∈A.ar,x.refs=1)→A.gV l={ A with ar:=A.ar.filter (λx=>!(l.map (·.snap)).contains x.id) }:=by
 intro l
 induction l with
 | nil =>
  intro A hw hr;have:A.ar.filter (λx=>!(([]:List Br).map (·.snap)).contains x.id)=A.ar:=List.filter_eq_self.2 λx _=>rfl;rw[this];rfl
 | cons y l ih =>
  intro A hw hr;have h1:A.gV (y::l)=(A.eB y.snap).gV l:=rfl;have h2:=AR hw hr y.snap;have h3:∀ x∈(A.eB y.snap).ar,x.refs=1:=by rw[h2];exact λx hx=>hr x (ka hx)
  rw[h1,ih (hw.eB hr _) h3,h2];simp only[List.filter_filter]
  congr 1
  refine List.filter_congr λx _=>?_;simp only[map_cons,List.contains_cons,Bool.not_or];rw[Bool.and_comm];rfl
theorem WB {base:Nat}{l:List Br}{f:Br→Bool}{H M:List Nat}(hp:M.Perm (base::(l.map (·.snap)++H)))(oR:M.Nodup) :
   (M.filter (λid=>!((l.filter f).map (·.snap)).contains id)).Perm (base::((l.filter (λx=>!f x)).map (·.snap)++H)):=by
 have h1:=hp.nodup_iff.1 oR;have h2:=hp.filter (λid=>!((l.filter f).map (·.snap)).contains id);have h3:=List.nodup_cons.1 h1;have h4:=List.nodup_append.1 h3.2;have yy:∀ id,id∈(l.filter f).map (·.snap)→id∈l.map (·.snap):=λid h=>by
  obtain⟨y,hy,rfl⟩:=cR.1 h;exact cR.2 ⟨y,ka hy,rfl⟩
 have hb:(!((l.filter f).map (·.snap)).contains base)=true:=by
  simp only[Bool.not_eq_true',List.contains_eq_mem,rU];exact λh=>h3.1 (mem_append_left _ (yy _ h))
 have hH:H.filter (λid=>!((l.filter f).map (·.snap)).contains id)=H:=List.filter_eq_self.2 λz hz=>by
  simp only[Bool.not_eq_true',List.contains_eq_mem,rU];exact λh=>h4.2.2 z (yy _ h) z hz rfl
 have hl:(l.map (·.snap)).filter (λid=>!((l.filter f).map (·.snap)).contains id)=(l.filter (λx=>!f x)).map (·.snap):=by
  rw[List.filter_map]
  congr 1
  refine List.filter_congr λy hy=>?_;simp only[Function.comp]
  congr 1
  cases hf:f y with
  | true =>
   simp only[List.contains_eq_mem,oB];exact cR.2 ⟨y,List.mem_filter.2 ⟨hy,hf⟩,rfl⟩
  | false =>
   simp only[List.contains_eq_mem,rU];intro h;obtain⟨z,hz,he⟩:=cR.1 h;obtain⟨cV,eS⟩:=List.mem_filter.1 hz;have:=Wz h4.1 cV hy he;rw[this,hf]at eS;cases eS
 rw[List.filter_cons,ak hb,yq,hl,hH]at h2;exact h2
section
variable {p:Pr}{F:Int}{g0:Nat→Int}{t:Nat→Nat}{base:Nat}{A:Sn}{T:Tr}{ws:List Wk}{k:Wk}{px:aC}{P:List (List UInt8)}{i:Nat}
theorem Inv.cut (h:Inv p F g0 t base A T ws)(hA:WF A)(f:Br→Bool):Inv p F g0 t base (A.gV (T.l.filter f)) (T.cut f) ws:=by
 rw[WA _ hA (λx hx=>(h.ar x hx).1)];refine⟨?_,λx hx=>h.ar x (ka hx),λx hx=>h.base x (ka hx),λy hy=>⟨(h.gk y (ka hy)).1,λx hx=>(h.gk y (ka hy)).2 x (ka hx)⟩,λk hk=>⟨(h.lO k hk).1,λe y hy b6=>?_⟩⟩
 ·simp only[Tr.cut];have h1:=WB (f:=f) h.perm hA.oR;have h2:(A.ar.filter (λx=>!((T.l.filter f).map (·.snap)).contains x.id)).map (·.id)=(A.ar.map (·.id)).filter (λid=>!((T.l.filter f).map (·.snap)).contains id):=by
   rw[List.filter_map];rfl
  rw[h2];exact h1
 ·obtain⟨h1,h2⟩:=(h.lO k hk).2 e y (ka hy) b6;exact⟨h1,λx hx=>h2 x (ka hx)⟩
theorem Inv.WD (h:Inv p F g0 t base A T ws)(hA:WF A)(hT:WT T)(hi:A.ar[i]?=some px)(hb:px.id=base):Inv p F g0 t base (A.add px.g px.p) (T.add F P (A.last+1)) ws:=by
 have hY:=bF hi;have uV:∀ z∈A.ar,z.id≠A.last+1:=λz hz e=>by have:=(hA.mM z hz).2.1;omega
 have hlt:∀ id∈base::(T.l.map (·.snap)++jC ws),id≠A.last+1:=λid b6 e=>by
  obtain⟨z,hz,he⟩:=cR.1 (h.perm.mem_iff.2 b6);exact uV z hz (by rw[he,e])
 have cD:∀ z∈(A.add px.g px.p).ar,z∈A.ar∨z=⟨A.last+1,1,px.g,px.p⟩:=λz hz=>by
  simp only[Sn.add]at hz;rcases eT.1 hz with hz | hz
  ·exact .inl hz
  ·simp at hz;exact .inr hz
 refine⟨?_,λz hz=>?_,λz hz he=>?_,λy hy=>?_,λk hk=>⟨?_,λe y hy b6=>?_⟩⟩
 ·simp only[Sn.add,Tr.add,cW,map_cons,map_nil];refine (h.perm.append_right _).trans ((List.perm_append_singleton _ _).trans ((cZ _ _ _).trans (kz _ ?_)));rw[dx];exact nP.symm
 ·rcases cD z hz with hz | rfl
  ·exact h.ar z hz
  ·exact⟨rfl,(h.ar px hY).2⟩
 ·rcases cD z hz with hz | rfl
  ·exact h.base z hz he
  ·exact absurd he.symm (hlt base (iJ ..))
 ·simp only[Tr.add]at hy;rcases eT.1 hy with hy | hy
  ·refine⟨(h.gk y hy).1,λz hz he=>?_⟩;rcases cD z hz with hz | rfl
   ·exact (h.gk y hy).2 z hz he
   ·exact absurd he.symm (hlt y.snap (gF _ (mem_append_left _ (cR.2 ⟨y,hy,rfl⟩))))
  ·simp at hy;subst hy;refine⟨rfl,λz hz he=>?_⟩;rcases cD z hz with hz | rfl
   ·exact absurd he (uV z hz)
   ·exact (h.base px hY hb).1
 ·have:=(h.lO k hk).1;simp only[Tr.add];omega
 ·have g7:=(h.lO k hk).1;simp only[Tr.add]at hy;rcases eT.1 hy with hy | hy
  ·obtain⟨h1,h2⟩:=(h.lO k hk).2 e y hy b6;refine⟨h1,λz hz he=>?_⟩;rcases cD z hz with hz | rfl
   ·exact h2 z hz he
   ·exact absurd he.symm (hlt k.x (gF _ (List.mem_append_right _ (AS hk e))))
  ·simp at hy;subst hy;simp only at b6;omega
theorem Inv.len (h:Inv p F g0 t base A T ws):A.ar.length=1+T.l.length+(jC ws).length:=by
 have:=h.perm.length_eq;simp only[a8,eH,aJ]at this;omega
end
end
section
section
variable {P:Program}{ops:Array Oper}{Q:Exit→Act→World→Prop}{a:Act}{w w' W:World}{K:Act→World→Prop}{n d:Nat}{l:List (Nat×Value)}{v:Value}{L R:List SP}
theorem WE {t u ty e:TypeId}{k c a2:Nat}{z:Value}{ad:Option Addr}{cs:List Value}(ht:P.underlying t=some (.slice e))(hu:P.underlying u=some .string)(hi:TI P e z 1 a2)(hz:z.cells.size=1)(s:U W w (Sl e 1 ad k c cs::L))
   (hc:0<c) (str:ByteArray) (hb:0<a2) (aH:(k+str.size)*a2≤140737488355328) :
   ∃ av c' w',(Builtin.append_ #[t,u] ty #[.slice ad k c,.string str]).run P w=.ok (.slice av (k+str.size) c') w'∧U W w' (Sl e 1 av (k+str.size) c' (cs++bc str.data.toList)::L):=by
 obtain⟨i,lG,dL,kX,qz⟩:=info_parts hi.h;have qA:=s.sl ad;have AW:(bc str.data.toList).length=str.size:=Lib.strCells_length str;obtain⟨b,pre,post,⟨c0,cU,rfl,a4⟩,s2⟩:=s.l8 hc;by_cases nQ:k+str.size≤c
 ·have eo:(c-k)*1 ≥ str.size:=by omega
  have hf:=Lib.run_firstCells_string (P:=P) w 1 str;have aS:=run_storeCells_at (P:=P) b (pre.length+k) e (bc str.data.toList) 0 (pre++cs++post).toArray w s2.has.2 (by simp[AW];omega) (ez _);have e1:(pre++cs++post).take (pre.length+k)=pre++cs:=by
   have:pre.length+k=(pre++cs).length:=by simp;omega
   rw[this,List.take_left]
  have e2:(pre++cs++post).drop (pre.length+k+0+(bc str.data.toList).length)=post.drop str.size:=by
   have:pre.length+k=(pre++cs).length:=by simp;omega
   rw[this,Nat.add_zero,AW,← kA,drop_left]
  refine⟨some ⟨b,pre.length,none⟩,c,w.setRow b (pre++(cs++bc str.data.toList)++post.drop str.size).toArray,?_,?_⟩
  ·have rv:(storeCells ⟨b,pre.length+k,none⟩ (bc str.data.toList) 0).run P w=.ok () (w.setRow b (((pre++cs++post).take (pre.length+k)++bc str.data.toList)++(pre++cs++post).drop (pre.length+k+0+(bc str.data.toList).length)).toArray):=aS;rw[e1,e2]at rv;have jN:(Builtin.firstCells 1 str.size (.string str)).run P w=.ok (bc str.data.toList).toArray w:=hf;simp[Builtin.append_,eQ ht,eQ hu,sizeOf,typeInfo,lG,Builtin.lenOf,nQ,lF,kX,jN,rv,dx]
  ·exact U.iZ (pre:=pre) (post:=post.drop str.size) s2.setRow (by simp[AW];omega) (by omega) (by simp;omega)
 ·have QF:k+str.size≤140737488355328:=fG (Nat.le_mul_of_pos_right _ hb) aH;have nR:=grownCap_ge w (k+str.size) c e;have QG:(Builtin.zeroCells z.cells (grownCap w (k+str.size) c e-(k+str.size))).toList.length=(grownCap w (k+str.size) c e-(k+str.size))*1:=xX e (a2:=a2) hz _;have holds:∀ j v,cs[j]?=some v→w.cell? ((⟨b,pre.length,none⟩:Addr).add j)=some v:=by
   intro j v hj;rw[lF,s2.cell];have:j<cs.length:=(aY.1 hj).1;rw[mF (by simp;omega),pD (by omega)];simpa using hj
  have eR:Builtin.nextslicecap (k+str.size) c*i.bytes≤281474976710656:=by rw[qz];exact growslice_fits (by omega) aH
  have hr:=Lib.run_append_grow_string (P:=P) w t u ty e i z ht hu lG dL ⟨b,pre.length,none⟩ k c cs (by rw[kX];exact c0) holds str (by omega) (by omega) eR;refine⟨_,_,_,hr,?_⟩;have vW:=(s.tail.drew).alloc (.cells (cs.toArray++(bc str.data.toList).toArray++Builtin.zeroCells z.cells (grownCap w (k+str.size) c e-(k+str.size))) e)
  have Dg : U W (w.drew.alloc (.cells (cs.toArray ++ (bc str.data.toList).toArray ++ Builtin.zeroCells z.cells (grownCap w (k + str.size) c e - (k + str.size))) e))
      (aa w.heap.size e ([]++(cs++bc str.data.toList)++(Builtin.zeroCells z.cells (grownCap w (k+str.size) c e-(k+str.size))).toList)::L):=by
   have:(cs.toArray++(bc str.data.toList).toArray++Builtin.zeroCells z.cells (grownCap w (k+str.size) c e-(k+str.size)))=([]++(cs++bc str.data.toList)++(Builtin.zeroCells z.cells (grownCap w (k+str.size) c e-(k+str.size))).toList).toArray:=by
    apply Array.ext';simp
   rw[this]at vW ⊢;exact vW
  exact U.iZ (pre:=[]) Dg (by simp[AW];omega) nR (by omega)
theorem WG {s x t u z a2 str e ad k c ty ps af g}{cs:List Value}(E:Fr a n l)(hw:Region.wanted ⟨some d,.call ⟨.builtin .append,#[s,x],#[t,u]⟩,ty,ps,af,g⟩ (yielded ops a.tmps)=true)(I:U W w L)
   (ht:P.underlying t=some (.slice e)) (hu:P.underlying u=some .string) (hi:TI P e z 1 a2) (hz:z.cells.size=1) (hf:okB d n l=true)
   [e1:Ev l s (.slice ad k c)] [pk:fS L ad k c e 1 cs R] [e2:Ev l x (.string str)] (hc:0<c) (hb:0<a2) (aH:(k+str.size)*a2≤140737488355328)
   (h:∀ av c' a' w',Fr a' n ((d,.slice av (k+str.size) c')::l)→U W w' (Sl e 1 av (k+str.size) c' (cs++bc str.data.toList)::R)→K a' w') :
   cJ P ops Q ⟨some d,.call ⟨.builtin .append,#[s,x],#[t,u]⟩,ty,ps,af,g⟩ K a w:=by
 obtain⟨av,c',w',h2,h3⟩:=WE (P:=P) (ty:=ty) ht hu hi hz (I.perm pk.perm) hc str hb aH;exact bw E hw (by simp[execOp,resolve,e1.ev a n E,e2.ev a n E,invoke,builtin,h2]) hf λa' dh=>h _ _ a' _ dh h3
end
theorem wrap_u64 (x:Int):IntKind.u64.wrap x=x%18446744073709551616:=by simp[IntKind.wrap,IntKind.signed,IntKind.bits]
theorem wrap_u32 (x:Int):IntKind.u32.wrap x=x%4294967296:=by simp[IntKind.wrap,IntKind.signed,IntKind.bits]
theorem wrap_u8 (x:Int):IntKind.u8.wrap x=x%256:=by simp[IntKind.wrap,IntKind.signed,IntKind.bits]
theorem Kq {x:Nat}(h:x<18446744073709551616):IntKind.u64.wrap ((BitVec.ofInt IntKind.u64.bits (if IntKind.u64.signed then -1 else IntKind.u64.max) ^^^ BitVec.ofInt IntKind.u64.bits (x:Int)).toNat)=((18446744073709551615-x:Nat):Int):=by
 have e:BitVec.ofInt IntKind.u64.bits (if IntKind.u64.signed then -1 else IntKind.u64.max)=BitVec.allOnes 64:=by
  show BitVec.ofInt 64 IntKind.u64.max=_;decide
 rw[e];have e2:BitVec.ofInt IntKind.u64.bits (x:Int)=BitVec.ofNat 64 x:=by
  show BitVec.ofInt 64 (x:Int)=_;exact BitVec.ofInt_natCast 64 x
 rw[e2];show IntKind.u64.wrap (((BitVec.allOnes 64 ^^^ BitVec.ofNat 64 x).toNat:Nat):Int)=_;rw[BitVec.allOnes_xor,BitVec.toNat_not,BitVec.toNat_ofNat,wrap_u64];rw[kY (show x<2 ^ 64 from h)];omega
theorem WH {x:Nat}(h:x<256):IntKind.u8.wrap ((BitVec.ofInt IntKind.u8.bits (x:Int) ||| BitVec.ofInt IntKind.u8.bits 128).toNat)=((x%128+128:Nat):Int):=by
 have:∀ y:Fin 256,IntKind.u8.wrap ((BitVec.ofInt IntKind.u8.bits ((y.val:Nat):Int) ||| BitVec.ofInt IntKind.u8.bits 128).toNat)=((y.val%128+128:Nat):Int):=by decide +kernel
 exact this ⟨x,h⟩
theorem lf (x j:Nat):(x:Int).fdiv (j:Int)=((x/j:Nat):Int):=by
 rw[Int.natCast_ediv,Int.fdiv_eq_ediv_of_nonneg _ (by omega)]
def aQ (u:Nat):List UInt8:=if h:u≤127 then [UInt8.ofNat u] else UInt8.ofNat (u%128+128)::aQ (u/128)
termination_by u
decreasing_by omega
theorem qR {u:Nat}(h:u≤127):aQ u=[UInt8.ofNat u]:=by rw[aQ,dif_pos h]
theorem wN {u:Nat}(h:¬ u≤127):aQ u=UInt8.ofNat (u%128+128)::aQ (u/128):=by rw[aQ,dif_neg h]
theorem rV (u:Nat):1≤(aQ u).length:=by
 rw[aQ];split <;> simp
theorem qS:∀ (k u:Nat),u<128 ^ (k+1)→(aQ u).length≤k+1
 | 0,u,h=>by rw[qR (by simpa using (by omega:u≤127))];simp
 | k+1,u,h=>by
  by_cases hu:u≤127
  ·rw[qR hu];simp
  ·rw[wN hu,eH];have:=qS k (u/128) (by rw[Nat.pow_succ]at h;omega);omega
def zz (n:Int):Nat:=if n<0 then (-2*n-1).toNat else (2*n).toNat
section
variable {W w:World}{L:List SP}{c:Nat}{ad:Option Addr}{bs:List UInt8}
theorem tr {N:Int}(I:U W w (Sl 5 1 ad bs.length c (bc bs)::L))(h1:-9223372036854775808≤N)(h2:N≤9223372036854775807)(hb:bs.length≤1099511627776) :
   Calls prog 198 #[.slice ad bs.length c,.int .i64 N] w λe w'=>∃ av c',e=.returned (.slice av (bs++aQ (zz N)).length c')∧U W w' (Sl 5 1 av (bs++aQ (zz N)).length c' (bc (bs++aQ (zz N)))::L):=by
 refine EN func198 ntmps198 rfl rfl λa E=>?_;refine RN 4 E I λa E=>?_;refine SS E (gr E underlying2 underlying319) λa E=>?_;refine RN 1 E I λa E=>?_;rw[wrap_u64,wrap_u64]at E;refine RN 1 E I λa E=>?_;obtain⟨U0,Ew⟩:∃ U0:Nat,(N%18446744073709551616*2 ^ 1)%18446744073709551616=(U0:Int):=⟨((N%18446744073709551616*2 ^ 1)%18446744073709551616).toNat,by omega⟩;rw[Ew]at E;have Ey:U0<18446744073709551616:=by omega
 refine cc (M:=λa w=>Fr a 28 [(0,.slice ad bs.length c),(5,.int .u64 ((zz N:Nat):Int))]∧U W w (Sl 5 1 ad bs.length c (bc bs)::L)) ?_ ?_
 ·
  refine IF 3 E I (λaj a E=>?_) λaj a E=>?_
  ·
   refine RN 2 E I λa E=>?_;rw[Kq Ey]at E;refine RN 1 E I λa E=>?_;rw[show 18446744073709551615-U0=zz N from by rw[zz,ak aj];omega]at E;exact⟨E.ab [0,5],I⟩
  refine RN 0 E I λa E=>?_;rw[show U0=zz N from by rw[zz,ag (by omega)];omega]at E;exact⟨E.ab [0,5],I⟩
 clear E;(try clear I);rintro a w ⟨E,I⟩;refine RN 1 E I λa E=>?_;refine aN (λμ a w=>∃ (eh c':Nat) (av:Option Addr) (dn:List UInt8),(μ=eh∧dn++aQ eh=bs++aQ (zz N)∧eh≤zz N)∧Fr a 28 [(0,.slice av dn.length c'),(5,.int .u64 (eh:Int))]∧U W w (Sl 5 1 av dn.length c' (bc dn)::L)) (zz N) (⟨zz N,c,ad,bs,⟨rfl,rfl,by omega⟩,E.ab [0,5],I⟩) ?_;clear E I;rintro μ a w ⟨eh,c',av,dn,⟨yz,db,WI⟩,E,I⟩;refine RN 2 E I λa E=>?_;have cV:zz N<18446744073709551616:=by rw[zz];split <;> omega
 have gH:=qS 9 (zz N) (by simp;omega);have mT:dn.length≤bs.length+10:=by
  have:=dd List.length db;rw[aJ,aJ]at this;omega
 clear gH;refine IF 2 E I (λao a E=>?_) λao a E=>?_
 ·
  refine RN 3 E I λa E=>?_;refine SS E (gr E underlying319 underlying5) λa E=>?_;rw[wrap_u8,show (eh:Int)%256=((eh%256:Nat):Int) from by omega]at E;refine RN 1 E I λa E=>?_;rw[WH (Nat.mod_lt _ (by decide)),show eh%256%128=eh%128 from by omega]at E;refine cp E rfl I underlying22 Ty.t5 rfl rfl rfl rfl (by decide) (by decide) λnn a w E I ho=>?_;clear ho;refine RN 0 E I λa E=>?_;refine cQ E rfl I underlying22 Ty.t5 rfl rfl I.ai rfl (by simp[Value.oneCell']) (by decide) (by decide) (by omega) λyA Ez a w E I=>?_;have aS:bc dn++[[Value.int .u8 ((eh%128+128:Nat):Int)]].flatten=bc (dn++[UInt8.ofNat (eh%128+128)]):=by
   simp[bc,UInt8.toNat_ofNat'];omega
  rw[aS]at I;refine RN 4 E I λa E=>?_;rw[show ((eh:Int).fdiv (2 ^ 7))=((eh/128:Nat):Int) from lf eh 128]at E;exact⟨eh/128,by omega,eh/128,_,yA,dn++[UInt8.ofNat (eh%128+128)],⟨rfl,by rw[← db,wN (u:=eh) (by omega),dx];rfl,by omega⟩,by rw[aJ];exact E.ab [0,5],by rw[aJ];exact I.sub⟩
 refine RN 3 E I λa E=>?_;refine SS E (gr E underlying319 underlying5) λa E=>?_;rw[wrap_u8,show (eh:Int)%256=((eh:Nat):Int) from by omega]at E;refine RN 0 E I λa E=>?_;refine cp E rfl I underlying22 Ty.t5 rfl rfl rfl rfl (by decide) (by decide) λKr a w E I ho=>?_;clear ho;refine RN 0 E I λa E=>?_;refine cQ E rfl I underlying22 Ty.t5 rfl rfl I.ai rfl (by simp[Value.oneCell']) (by decide) (by decide) (by omega) λEA EB a w E I=>?_;have aS:bc dn++[[Value.int .u8 ((eh:Nat):Int)]].flatten=bc (dn++[UInt8.ofNat eh]):=by
  simp[bc,UInt8.toNat_ofNat'];omega
 rw[aS,← qR (by omega),db]at I;refine RT 1 E I ?_;have hl:dn.length+1=(bs++aQ (zz N)).length:=by rw[← db,qR (by omega),aJ];rfl
 rw[hl]at I ⊢;exact⟨_,_,rfl,I.sub⟩
theorem WJ {s:ByteArray}(I:U W w L)(aH:s.size≤1099511627776) :
   Calls prog 199 #[.slice none 0 0,.string s] w λe w'=>∃ av c',e=.returned (.slice av (aQ (zz s.size)++s.data.toList).length c')∧U W w' (Sl 5 1 av (aQ (zz s.size)++s.data.toList).length c' (bc (aQ (zz s.size)++s.data.toList))::L):=by
 have yB:s.data.toList.length=s.size:=rfl;refine EN func199 ntmps199 rfl rfl λa E=>?_;refine aZ 6 E I (tr (bs:=[]) (N:=s.size) (I.bM 5 1 none) (by omega) (by omega) (by simp)) λc1 dT a w E I=>?_;rw[nil_append]at E I;have gH:=rV (zz s.size);have im:=qS 9 (zz s.size) (by rw[zz];split <;> (simp;omega));have JJ:=(I.sl c1).2;refine RN 1 E I λa E=>?_;refine WG E rfl I underlying22 underlying9 Ty.t5 rfl rfl (by omega) (by decide) (by omega) λafJ AX a w E I=>?_;rw[show (aQ (zz s.size)).length+s.size=(aQ (zz s.size)++s.data.toList).length from by rw[aJ];rfl]at E I;rw[show bc (aQ (zz s.size))++bc s.data.toList=bc (aQ (zz s.size)++s.data.toList) from by simp[bc]]at I;refine RT 1 E I ?_;exact⟨_,_,rfl,I.sub⟩
end
end
section
section
variable {W w:World}{L:List SP}{n:Nat}{s:ByteArray}
theorem WK {r:Nat}(I:U W w L):Calls prog 239 #[.int .i32 r] w λe w'=>e=.returned (.int .i64 (nZ r))∧U W w' L:=by
 refine EN func239 ntmps239 rfl rfl λa E=>?_;refine IF 7 E I (λaj a E=>?_) λaj a E=>?_
 ·
  refine RT 2 E I ?_;exact⟨by rw[nZ,ak (by omega)];rfl,I⟩
 refine IF 4 E I (λao a E=>?_) λao a E=>?_
 ·
  refine RT 2 E I ?_;exact⟨by rw[nZ,ag (by omega),ak (by omega)];rfl,I⟩
 refine IF 4 E I (λay a E=>?_) λay a E=>?_
 ·
  refine RT 2 E I ?_;exact⟨by rw[nZ,ag (by omega),ag (by omega),ak (by omega)];rfl,I⟩
 refine RT 2 E I ?_;exact⟨by rw[nZ,ag (by omega),ag (by omega),ag (by omega)];rfl,I⟩
theorem Kt {α:Type}(l:List α)(x:α)(f:α→Bool):(l++[x]).all f=(l.all f&&f x):=by simp
theorem WL (I:U W w L)(aH:s.size≤1099511627776):Calls prog 228 #[.string s] w λe w'=>e=.returned (.bool ((eg s 0).all mQ))∧U W w' L:=by
 refine EN func228 ntmps228 rfl rfl λa E=>?_;refine RN 7 E I λa E=>?_;refine DD E rfl I underlying9 rfl λdt a w E I ho=>?_;clear ho;refine RN 0 E I λa E=>?_;refine aN (λμ a w=>∃ (pos n:Nat) (dn:List (Nat×Nat)),(μ=s.size-pos∧pos≤s.size∧eg s 0=dn++eg s pos∧((dn.all mQ=true∧n=pos)∨(dn.all mQ=false∧n=pos+2)))∧Fr a 23 [(0,.string s),(3,.int .i64 n),(7,pt dt)]∧U W w (kW dt (.stringIter s pos)::L)) (s.size) (⟨0,0,[],⟨by simp,by simp,by simp,.inl ⟨rfl,rfl⟩⟩,E.ab [0,3,7],I⟩) ?_;clear E I;rintro μ a w ⟨pos,n,dn,⟨rfl,qD,db,hg⟩,E,I⟩;refine RN 1 E I λa E=>?_;refine DF E rfl I rfl λa w E I=>?_;refine RN 0 E I λa E=>?_;refine SS E (oC E (DA s pos)) λa E=>?_;refine IF 1 E I (λaj a E=>?_) λaj a E=>?_
 ·
  have np:=rQ aj;have jD:=Eh qD;have pV:ec s pos=pos+(Utf8.decode s pos).2:=by rw[ec,ak aj]
  have lQ:=uR s pos;refine RN 1 E I λa E=>?_;refine SS E (oC E (RK aj)) λa E=>?_;refine RN 0 E I λa E=>?_;refine SS E (oC E (DB aj)) λa E=>?_;refine IF 7 E I (λao a E=>?_) λao a E=>?_
  ·
   have WM:dn.all mQ=false:=by
    rcases hg with ⟨_,h⟩ | ⟨h,_⟩
    ·omega
    ·exact h
   refine RT 2 E I ?_;exact⟨by rw[db,List.all_append,WM,Bool.false_and],I.sub⟩
  obtain⟨nq,hn⟩:=hg.resolve_right (λh=>by omega);have WN:nZ (Utf8.decode s pos).1≤4:=by unfold nZ;(repeat' split) <;> omega
  refine CL 2 E I (WK I) λa w E I=>?_;refine RN 2 E I λa E=>?_;refine⟨s.size-ec s pos,by omega,ec s pos,n+nZ (Utf8.decode s pos).1,dn++[Utf8.decode s pos],⟨rfl,jD,by rw[db,np,dx];rfl,?_⟩,E.ab [0,3,7],I.sub⟩;rw[Kt,nq,Bool.true_and];rcases Ka s pos with h | h
  ·refine .inl ⟨?_,by omega⟩;simp only[mQ,Bool.not_eq_true',rU];intro e;rw[e]at h;simp[nZ]at h
  ·refine .inr ⟨by simp[mQ,h],?_⟩;rw[pV,h];simp[nZ];omega
 refine RN 1 E I λa E=>?_;have fL:pos=s.size:=by omega
 have gK:=rR (s:=s) (pos:=pos) (by omega);rw[gK,append_nil]at db;refine RT 5 E I ?_;refine⟨?_,I.sub⟩;rw[db];rcases hg with ⟨h,h2⟩ | ⟨h,h2⟩
 ·rw[h,dk (by omega)]
 ·rw[h,bo (by omega)]
theorem WO (I:U W w L)(aH:s.size≤1099511627776):Calls prog 197 #[.string s] w λe w'=>e=.returned (.bool (pT s))∧U W w' L:=by
 refine EN func197 ntmps197 rfl rfl λa E=>?_;refine RN 7 E I λa E=>?_;refine DD E rfl I underlying9 rfl λdt a w E I ho=>?_;clear ho;refine RN 0 E I λa E=>?_;refine aN (λμ a w=>∃ (pos:Nat) (dn:List (Nat×Nat)),(μ=s.size-pos∧pos≤s.size∧eg s 0=dn++eg s pos∧dn.all kN=true∧dn.length≤pos)∧Fr a 29 [(0,.string s),(3,.int .i64 dn.length),(7,pt dt)]∧U W w (kW dt (.stringIter s pos)::L)) (s.size) (⟨0,[],⟨by simp,by simp,by simp,rfl,by simp⟩,E.ab [0,3,7],I⟩) ?_;clear E I;rintro μ a w ⟨pos,dn,⟨rfl,qD,db,hg,mT⟩,E,I⟩;refine RN 1 E I λa E=>?_;refine DF E rfl I rfl λa w E I=>?_;refine RN 0 E I λa E=>?_;refine SS E (oC E (DA s pos)) λa E=>?_;refine IF 1 E I (λaj a E=>?_) λaj a E=>?_
 ·
  have np:=rQ aj;have jD:=Eh qD;have pV:ec s pos=pos+(Utf8.decode s pos).2:=by rw[ec,ak aj]
  have lQ:=uR s pos;refine RN 1 E I λa E=>?_;refine SS E (oC E (DB aj)) λa E=>?_;refine BY 6 E I (λbA a E=>?_) λbA a E=>?_
  ·
   have kb:kN (Utf8.decode s pos)=false:=by simp[kN];omega
   refine RT 6 E I ?_;refine⟨?_,I.sub⟩;have:(eg s 0).all kN=false:=by rw[db,np,List.all_append,List.all_cons,kb];simp
   rw[pT,this];simp
  refine IF 3 E I (λao a E=>?_) λao a E=>?_
  ·
   have kb:kN (Utf8.decode s pos)=false:=by simp[kN];omega
   refine RT 2 E I ?_;refine⟨?_,I.sub⟩;have:(eg s 0).all kN=false:=by rw[db,np,List.all_append,List.all_cons,kb];simp
   rw[pT,this];simp
  refine RN 3 E I λa E=>?_;exact⟨s.size-ec s pos,by omega,ec s pos,dn++[Utf8.decode s pos],⟨rfl,jD,by rw[db,np,dx];rfl,by rw[Kt,hg];simp[kN];omega,by rw[aJ];simp;omega⟩,by rw[aJ];exact E.ab [0,3,7],I.sub⟩
 refine RN 1 E I λa E=>?_;have gK:=rR (s:=s) (pos:=pos) (by omega);rw[gK,append_nil]at db;have jE:pT s=(decide (1≤dn.length)&&decide (dn.length≤20)&&(eg s 0).all mQ):=by rw[pT,db,hg];simp
 refine BY 3 E I (λbA a E=>?_) λbA a E=>?_
 ·
  refine BY 4 E I (λkc a E=>?_) λkc a E=>?_
  ·
   refine CL 1 E I (WL I aH) λa w E I=>?_;refine RT 2 E I ?_;refine⟨?_,I.sub⟩;rw[jE]
   first
    | (rw[bo (show ¬ 1≤dn.length by omega)];rfl)
    | (rw[bo (show ¬ dn.length≤20 by omega)];simp;done)
    | (rw[dk (show 1≤dn.length by omega),dk (show dn.length≤20 by omega)];rfl)
  refine RT 4 E I ?_;refine⟨?_,I.sub⟩;rw[jE]
  first
   | (rw[bo (show ¬ 1≤dn.length by omega)];rfl)
   | (rw[bo (show ¬ dn.length≤20 by omega)];simp;done)
   | (rw[dk (show 1≤dn.length by omega),dk (show dn.length≤20 by omega)];rfl)
 refine RT 8 E I ?_;refine⟨?_,I.sub⟩;rw[jE]
 first
  | (rw[bo (show ¬ 1≤dn.length by omega)];rfl)
  | (rw[bo (show ¬ dn.length≤20 by omega)];simp;done)
  | (rw[dk (show 1≤dn.length by omega),dk (show dn.length≤20 by omega)];rfl)
def lR (k:Int):Int:=if k=0 then 0 else if k=9∨k=15 then 1 else if k=1∨k=2∨(10≤k∧k≤14) then 2 else if 3≤k∧k≤8 then 3 else -1
theorem EC (k:Int):(k=0∧lR k=0)∨((k=9∨k=15)∧lR k=1)∨((k=1∨k=2∨(10≤k∧k≤14))∧lR k=2)∨(3≤k∧k≤8∧lR k=3)∨((k<0∨15<k)∧lR k = -1):=by
 unfold lR
 repeat' split
 all_goals omega
theorem WQ {k:Int}(I:U W w L):Calls prog 201 #[.int .i64 k] w λe w'=>e=.returned (.int .i64 (lR k))∧U W w' L:=by
 have hk:=EC k;have fz:∀ (z:Int) (w':World),U W w' L→z=lR k→Ending.returned (Value.int .i64 z)=.returned (.int .i64 (lR k))∧U W w' L:=λz w' h e=>⟨by rw[e],h⟩;refine EN func201 ntmps201 rfl rfl λa E=>?_;refine IF 8 E I (λaj a E=>?_) λaj a E=>?_
 ·
  refine RT 2 E I ?_;exact fz _ _ I (by omega)
 refine IF 4 E I (λao a E=>?_) λao a E=>?_
 ·
  refine RT 3 E I ?_;exact fz _ _ I (by omega)
 refine IF 2 E I (λay a E=>?_) λay a E=>?_
 ·
  refine RT 2 E I ?_;exact fz _ _ I (by omega)
 refine IF 4 E I (λbk a E=>?_) λbk a E=>?_
 ·
  refine RT 3 E I ?_;exact fz _ _ I (by omega)
 refine IF 3 E I (λbN a E=>?_) λbN a E=>?_
 ·
  refine RT 3 E I ?_;exact fz _ _ I (by omega)
 refine IF 3 E I (λeN a E=>?_) λeN a E=>?_
 ·
  refine RT 3 E I ?_;exact fz _ _ I (by omega)
 refine IF 3 E I (λmi a E=>?_) λmi a E=>?_
 ·
  refine RT 3 E I ?_;exact fz _ _ I (by omega)
 refine IF 3 E I (λmU a E=>?_) λmU a E=>?_
 ·
  refine RT 3 E I ?_;exact fz _ _ I (by omega)
 refine IF 3 E I (λlS a E=>?_) λlS a E=>?_
 ·
  refine RT 3 E I ?_;exact fz _ _ I (by omega)
 refine IF 2 E I (λke a E=>?_) λke a E=>?_
 ·
  refine RT 2 E I ?_;exact fz _ _ I (by omega)
 refine IF 4 E I (λwO a E=>?_) λwO a E=>?_
 ·
  refine RT 3 E I ?_;exact fz _ _ I (by omega)
 refine IF 3 E I (λts a E=>?_) λts a E=>?_
 ·
  refine RT 3 E I ?_;exact fz _ _ I (by omega)
 refine IF 3 E I (λyC a E=>?_) λyC a E=>?_
 ·
  refine RT 3 E I ?_;exact fz _ _ I (by omega)
 refine IF 3 E I (λwP a E=>?_) λwP a E=>?_
 ·
  refine RT 3 E I ?_;exact fz _ _ I (by omega)
 refine IF 3 E I (λWR a E=>?_) λWR a E=>?_
 ·
  refine RT 3 E I ?_;exact fz _ _ I (by omega)
 refine IF 2 E I (λWS a E=>?_) λWS a E=>?_
 ·
  refine RT 2 E I ?_;exact fz _ _ I (by omega)
 refine RT 2 E I ?_;exact fz _ _ I (by omega)
def AY (l:List Int):Prop:=∀ x∈l,e5 x
theorem ED {zs:List Int}{b e:Nat}(I:U W w (aa b e (zs.map (.int .i64))::L))(hl:zs.length≤10) :
   Calls prog 202 #[.slice (some ⟨b,0,none⟩) zs.length zs.length] w λe' w'=>∃ r:Bool,e'=.returned (.bool r)∧(r=true↔AY zs)∧U W w' (aa b e (zs.map (.int .i64))::L):=by
 refine EN func202 ntmps202 rfl rfl λa E=>?_;refine RN 7 E I λa E=>?_;refine aN (λμ a w=>∃ i:Nat,(μ=zs.length-i∧i≤zs.length∧∀ j x,j<i→zs[j]?=some x→e5 x)∧Fr a 18 [(5,.slice (some ⟨b,0,none⟩) zs.length zs.length),(6,.int .i64 zs.length),(7,.int .i64 i)]∧U W w (aa b e (zs.map (.int .i64))::L)) (zs.length) (⟨0,⟨by simp,by simp,λj x h=>absurd h (by omega)⟩,E.ab [5,6,7],I⟩) ?_;clear E I;rintro μ a w ⟨i,⟨rfl,hi,cD⟩,E,I⟩;refine IF 3 E I (λaj a E=>?_) λaj a E=>?_
 ·
  obtain⟨x,hx⟩:∃ x,zs[i]?=some x:=⟨_,aD (by omega)⟩;refine RN 3 E I λa E=>?_;refine SS E (ae E (I.bz (v:=.int .i64 x) (by rw[bl,hx];rfl))) λa E=>?_;refine BY 5 E I (λbA a E=>?_) λbA a E=>?_
  ·
   refine RT 6 E I ?_;refine⟨false,rfl,⟨λh=>(by cases h),λh=>?_⟩,I.sub⟩;have:=h x (bF hx);unfold e5 at this;omega
  refine IF 3 E I (λao a E=>?_) λao a E=>?_
  ·
   refine RT 2 E I ?_;refine⟨false,rfl,⟨λh=>(by cases h),λh=>?_⟩,I.sub⟩;have:=h x (bF hx);unfold e5 at this;omega
  refine RN 2 E I λa E=>?_;refine⟨zs.length-(i+1),by omega,i+1,⟨rfl,by omega,λj y hj hy=>?_⟩,E.ab [5,6,7],I.sub⟩;by_cases e:j=i
  ·subst e;rw[hx]at hy;cases hy;unfold e5;omega
  ·exact cD j y (by omega) hy
 refine RT 2 E I ?_;refine⟨true,rfl,⟨λ_ x hx=>?_,λ_=>rfl⟩,I.sub⟩;obtain⟨j,hj⟩:=j7.1 hx;exact cD j x (by have:=(aY.1 hj).1;omega) hj
theorem Ku {k n:Int}{b e:Nat}(I:U W w (aa b e [.int .i64 n]::L)) :
   Calls prog 200 #[.int .i64 k,pt b] w λe' w'=>e'=.returned (.bool (decide (0≤k∧k≤n)))∧U W w' (aa b e [.int .i64 n]::L):=by
 refine EN func200 ntmps200 rfl rfl λa E=>?_;refine BY 6 E I (λbA a E=>?_) λbA a E=>?_
 ·
  refine RT 5 E I ?_;refine⟨?_,I.sub⟩
  first
   | (rw[bo (show ¬ (0≤k∧k≤n) by omega)])
   | (congr 2;rw[decide_eq_decide];omega)
 refine RT 5 E I ?_;refine⟨?_,I.sub⟩
 first
  | (rw[bo (show ¬ (0≤k∧k≤n) by omega)])
  | (congr 2;rw[decide_eq_decide];omega)
end
end
section
section
variable {W w:World}{L:List SP}{c:Nat}{ad:Option Addr}
theorem WU {o:gJ}{m:Int}(h:o.code=0):e6 m o↔(o.a=0∧o.b=0∧o.c=0):=by
 simp only[e6,e5];exact⟨λh=>by omega,λh2=>.inl ⟨h,h2⟩⟩
theorem WV {o:gJ}{m:Int}(h:o.code=1):e6 m o↔(e5 o.a∧o.c=0):=by
 simp only[e6,e5];exact⟨λh=>by omega,λh2=>.inr (.inl ⟨h,h2⟩)⟩
theorem WW {o:gJ}{m:Int}(h:o.code=9):e6 m o↔(0≤o.a∧o.a≤m∧o.b=0∧o.c=0):=by
 simp only[e6,e5];exact⟨λh=>by omega,λh2=>.inr (.inr (.inl ⟨h,h2⟩))⟩
theorem WX {o:gJ}{m:Int}(h:o.code=15):e6 m o↔(e5 o.a∧o.b=0∧o.c=0):=by
 simp only[e6,e5];exact⟨λh=>by omega,λh2=>.inr (.inr (.inr (.inl ⟨h,h2⟩)))⟩
theorem Kv {o:gJ}{m:Int}(h:o.code=10):e6 m o↔(e5 o.a∧0≤o.b∧o.b≤m∧o.c=0):=by
 simp only[e6,e5];exact⟨λh=>by omega,λh2=>.inr (.inr (.inr (.inr (.inl ⟨h,h2⟩))))⟩
theorem WY {o:gJ}{m:Int}(h:o.code=2∨(11≤o.code∧o.code≤14)):e6 m o↔(e5 o.a∧e5 o.b∧o.c=0):=by
 simp only[e6,e5];exact⟨λh=>by omega,λh2=>.inr (.inr (.inr (.inr (.inr (.inl ⟨h,h2⟩)))))⟩
theorem WZ {o:gJ}{m:Int}(h:3≤o.code∧o.code≤8):e6 m o↔(e5 o.a∧e5 o.b∧e5 o.c):=by
 simp only[e6,e5];exact⟨λh=>by omega,λh2=>.inr (.inr (.inr (.inr (.inr (.inr ⟨h.1,h.2,h2⟩)))))⟩
theorem tt {o:gJ}{m:Int}(h:e6 m o):0≤lR o.code∧(lR o.code<3→o.c=0)∧(lR o.code<2→o.b=0)∧(lR o.code<1→o.a=0):=by
 have hk:=EC o.code;simp only[e6,e5]at h;omega
theorem W0 {o:gJ}{m:Nat}(I:U W w L):Calls prog 170 #[.agg (dR o).toArray,.int .i64 m] w λe w'=>∃ r:Bool,e=.returned (.bool r)∧(r=true↔e6 m o)∧U W w' L:=by
 have hk:=EC o.code;have fz:∀ (r:Bool) (P:Prop) (w':World),U W w' L→(r=true↔P)→(P↔e6 m o)→∃ r':Bool,Ending.returned (Value.bool r)=.returned (.bool r')∧(r'=true↔e6 m o)∧U W w' L:=λr P w' h e1 e2=>⟨r,rfl,e1.trans e2,h⟩;refine EN func170 ntmps170 rfl rfl λa E=>?_;refine BX 1 E I λb2 a w E I=>?_;change U W w (aa b2 114 (dR o)::_) at I;refine BX 0 E I λb3 a w E I=>?_;refine CL 7 E I (WQ I) λa w E I=>?_;refine RN 1 E I λa E=>?_;refine cc (M:=λa w=>(0≤lR o.code∧(lR o.code<3→o.c=0)∧(lR o.code<2→o.b=0)∧(lR o.code<1→o.a=0))∧Fr a 76 [(2,pt b2),(3,pt b3),(5,.func (.func 200) #[] (List.toArray [pt b3]))]∧U W w (aa b3 3 [.int .i64 m]::aa b2 114 (dR o)::L)) ?_ ?_
 ·
  refine BY 4 E I (λbA a E=>?_) λbA a E=>?_
  ·
   refine RT 29 E I ?_;exact fz false False _ I.sub (by simp) ⟨λh=>h.elim,λh=>by have h5:=tt h;omega⟩
  refine BY 3 E I (λjj a E=>?_) λjj a E=>?_
  ·
   refine BY 6 E I (λla a E=>?_) λla a E=>?_
   ·
    refine RT 20 E I ?_;exact fz false False _ I.sub (by simp) ⟨λh=>h.elim,λh=>by have h5:=tt h;omega⟩
   refine BY 3 E I (λk9 a E=>?_) λk9 a E=>?_
   ·
    refine BY 6 E I (λEE a E=>?_) λEE a E=>?_
    ·
     refine RT 11 E I ?_;exact fz false False _ I.sub (by simp) ⟨λh=>h.elim,λh=>by have h5:=tt h;omega⟩
    refine BY 3 E I (λmV a E=>?_) λmV a E=>?_
    ·
     refine IF 5 E I (λaj a E=>?_) λaj a E=>?_
     ·
      refine RT 2 E I ?_;exact fz false False _ I.sub (by simp) ⟨λh=>h.elim,λh=>by have h5:=tt h;omega⟩
     refine RN 0 E I λa E=>?_;exact⟨by omega,E.ab [2,3,5],I.sub⟩
    refine RN 6 E I λa E=>?_;exact⟨by omega,E.ab [2,3,5],I.sub⟩
   refine BY 9 E I (λmV a E=>?_) λmV a E=>?_
   ·
    refine IF 5 E I (λaj a E=>?_) λaj a E=>?_
    ·
     refine RT 2 E I ?_;exact fz false False _ I.sub (by simp) ⟨λh=>h.elim,λh=>by have h5:=tt h;omega⟩
    refine RN 0 E I λa E=>?_;exact⟨by omega,E.ab [2,3,5],I.sub⟩
   refine RN 6 E I λa E=>?_;exact⟨by omega,E.ab [2,3,5],I.sub⟩
  refine BY 9 E I (λk9 a E=>?_) λk9 a E=>?_
  ·
   refine BY 6 E I (λEE a E=>?_) λEE a E=>?_
   ·
    refine RT 11 E I ?_;exact fz false False _ I.sub (by simp) ⟨λh=>h.elim,λh=>by have h5:=tt h;omega⟩
   refine BY 3 E I (λmV a E=>?_) λmV a E=>?_
   ·
    refine IF 5 E I (λaj a E=>?_) λaj a E=>?_
    ·
     refine RT 2 E I ?_;exact fz false False _ I.sub (by simp) ⟨λh=>h.elim,λh=>by have h5:=tt h;omega⟩
    refine RN 0 E I λa E=>?_;exact⟨by omega,E.ab [2,3,5],I.sub⟩
   refine RN 6 E I λa E=>?_;exact⟨by omega,E.ab [2,3,5],I.sub⟩
  refine BY 9 E I (λmV a E=>?_) λmV a E=>?_
  ·
   refine IF 5 E I (λaj a E=>?_) λaj a E=>?_
   ·
    refine RT 2 E I ?_;exact fz false False _ I.sub (by simp) ⟨λh=>h.elim,λh=>by have h5:=tt h;omega⟩
   refine RN 0 E I λa E=>?_;exact⟨by omega,E.ab [2,3,5],I.sub⟩
  refine RN 6 E I λa E=>?_;exact⟨by omega,E.ab [2,3,5],I.sub⟩
 clear E;(try clear I);rintro a w ⟨jE,E,I⟩;refine IF 7 E I (λao a E=>?_) λao a E=>?_
 ·
  refine RT 2 E I ?_;exact fz true True _ I.sub (by simp) ⟨λ_=>(WU ao).2 (by omega),λ_=>trivial⟩
 refine IF 3 E I (λay a E=>?_) λay a E=>?_
 ·
  refine RN 3 E I λa E=>?_;refine cp E rfl I underlying53 Ty.t3 rfl rfl rfl rfl (by decide) (by decide) λb48 a w E I ho=>?_;clear ho;refine bh 0 E I (ED (zs:=[o.a]) I (by simp)) λr a w E ⟨hr,I⟩=>?_;refine RT 1 E I ?_;exact fz r _ _ I.sub hr (by rw[WV ay];simp only[AY,wQ,not_mem_nil,false_imp_iff,implies_true,and_true];exact⟨λh=>⟨h,by omega⟩,λh=>h.1⟩)
 refine IF 3 E I (λbk a E=>?_) λbk a E=>?_
 ·
  refine CL 4 E I (Ku (I.jZ b3)) λa w E I=>?_;refine RT 1 E I ?_;exact fz _ _ _ I.sub cr (by rw[WW bk];omega)
 refine IF 3 E I (λbN a E=>?_) λbN a E=>?_
 ·
  refine RN 3 E I λa E=>?_;refine cp E rfl I underlying53 Ty.t3 rfl rfl rfl rfl (by decide) (by decide) λSb a w E I ho=>?_;clear ho;refine bh 0 E I (ED (zs:=[o.a]) I (by simp)) λr a w E ⟨hr,I⟩=>?_;simp only[AY,wQ,not_mem_nil,false_imp_iff,implies_true,and_true]at hr;refine BY 1 E I (λdE a E=>?_) λdE a E=>?_
  ·
   refine CL 3 E I (Ku (I.jZ b3)) λa w E I=>?_;refine RT 2 E I ?_;exact fz _ _ _ I.sub cr (by rw[Kv bN];exact⟨λh=>⟨hr.1 dE,h.1,h.2,by omega⟩,λh=>⟨h.2.1,h.2.2.1⟩⟩)
  refine RT 6 E I ?_;exact fz _ False _ I.sub (by simp) (by rw[Kv bN];exact⟨λh=>h.elim,λh=>by rw[hr.2 h.1]at dE;cases dE⟩)
 refine RN 7 E I λa E=>?_;refine cp E rfl I underlying53 Ty.t3 rfl rfl rfl rfl (by decide) (by decide) λb74 a w E I ho=>?_;clear ho;refine bh 0 E I (ED (zs:=[o.a,o.b,o.c]) I (by simp)) λr a w E ⟨hr,I⟩=>?_;refine RT 1 E I ?_;refine fz r _ _ I.sub hr ?_;simp only[AY,wQ,not_mem_nil,false_imp_iff,implies_true,and_true];have yD:e5 0:=⟨by decide,by decide⟩;rcases hk with hk | ⟨hk,b0⟩ | ⟨hk,b0⟩ | hk | hk
 ·omega
 ·have EF:o.code=15:=by omega
  have wR:o.b=0:=by omega
  have EG:o.c=0:=by omega
  rw[WX EF,wR,EG];exact⟨λh=>⟨h.1,rfl,rfl⟩,λh=>⟨h.1,yD,yD⟩⟩
 ·have EG:o.c=0:=by omega
  rw[WY (by omega),EG];exact⟨λh=>⟨h.1,h.2.1,rfl⟩,λh=>⟨h.1,h.2.1,yD⟩⟩
 ·rw[WZ ⟨hk.1,hk.2.1⟩]
 ·omega
abbrev bO (p:Pr)(ad:Option Addr)(c:Nat):List Value:=[.string p.title,.slice ad p.ops.length c]
abbrev aA (W:World)(p:Pr)(ad:Option Addr)(c:Nat):SP:=Ro W 114 4 ad p.ops.length c (rows dR p.ops)
def uX (o:gJ)(k:Nat):Int:=[o.code,o.a,o.b,o.c].getD k 0
theorem W1 (o:gJ){k:Nat}(h:k<4):(dR o)[k]?=some (.int .i64 (uX o k)):=by
 rcases (by omega:k=0∨k=1∨k=2∨k=3) with rfl | rfl | rfl | rfl <;> rfl
set_option maxHeartbeats 4000000 in
theorem W3 {p:Pr}(I:U W w (aA W p ad c::L))(aH:p.title.size≤1000000000)(ea:p.ops.length≤1000000000) :
   Calls prog 169 #[.agg (bO p ad c).toArray] w λe w'=>∃ av n' c',e=.returned (.slice av n' c')∧(av.isNone=true↔¬ wH p)∧U W w' (aA W p ad c::L):=by
 refine EN func169 ntmps169 rfl rfl λa E=>?_;refine BX 1 E I λb1 a w E I=>?_;change U W w (aa b1 45 (bO p ad c)::_) at I;refine RN 1 E I λa E=>?_;refine cc (M:=λa w=>(pT p.title=true∧1≤p.ops.length∧p.ops.length≤64)∧Fr a 62 [(1,pt b1)]∧U W w (aa b1 45 (bO p ad c)::aA W p ad c::L)) ?_ ?_
 ·
  refine CL 3 E I (WO I (by omega)) λa w E I=>?_;refine BY 2 E I (λht a E=>?_) λht a E=>?_
  ·
   refine RT 14 E I ?_;exact⟨none,0,0,rfl,⟨λ_ h=>(by
    obtain⟨h1,h2,h3,_⟩:=h
    first
     | (rw[h1]at ht;cases ht;done)
     | omega),λ_=>rfl⟩,I.sub⟩
  refine BY 6 E I (λmg a E=>?_) λmg a E=>?_
  ·
   refine RT 8 E I ?_;exact⟨none,0,0,rfl,⟨λ_ h=>(by
    obtain⟨h1,h2,h3,_⟩:=h
    first
     | (rw[h1]at ht;cases ht;done)
     | omega),λ_=>rfl⟩,I.sub⟩
  refine IF 5 E I (λaj a E=>?_) λaj a E=>?_
  ·
   refine RT 2 E I ?_;exact⟨none,0,0,rfl,⟨λ_ h=>(by
    obtain⟨h1,h2,h3,_⟩:=h
    first
     | (rw[h1]at ht;cases ht;done)
     | omega),λ_=>rfl⟩,I.sub⟩
  refine RN 0 E I λa E=>?_;exact⟨⟨ht,by omega,by omega⟩,E.ab [1],I.sub⟩
 clear E;(try clear I);rintro a w ⟨mj,E,I⟩;refine cc (M:=λa w=>∃ (bs:List UInt8) (ix:Option Addr) (cb:Nat),(1≤bs.length∧bs.length≤p.title.size+30)∧Fr a 62 [(1,pt b1),(3,.slice ix bs.length cb)]∧U W w (Sl 5 1 ix bs.length cb (bc bs)::aa b1 45 (bO p ad c)::aA W p ad c::L)) ?_ ?_
 ·
  refine aV 0 (λw0 w'=>w'.cell? ⟨b1,1,none⟩=some (.slice ad p.ops.length c)∧w'.cell? ⟨b1,0,none⟩=some (.string p.title)) [2,4,5] [0,3,3001,3004,3005,1002,1006,7] E I λa w E I hH=>?_;have ao:w.cell? ⟨b1,1,none⟩=some (.slice ad p.ops.length c):=I.bz rfl;have W4:w.cell? ⟨b1,0,none⟩=some (.string p.title):=I.bz rfl;have hC:=And.intro ao W4;refine RH 2 E I hH hC λa E=>?_;refine QH E (λw hc=>ae E (hc.2)) hC λa E=>?_;refine QH E (λw hc=>ae E (hc.1)) hC λa E=>?_;refine RH 1 E I hH hC λa E=>?_;refine aZ 0 E I (WJ I (by omega)) λc1 dT a w E I=>?_;replace hC:=hH.at w (And.intro (I.bz rfl) (I.bz rfl));have im:=qS 9 (zz p.title.size) (by rw[zz];split <;> (simp;omega));have yB:p.title.data.toList.length=p.title.size:=rfl;refine RH 0 E I hH hC λa E=>?_;refine aZ 0 E I (tr (N:=p.ops.length) (I.pick (Sl 5 1 c1 (aQ (zz p.title.size)++p.title.data.toList).length dT (bc (aQ (zz p.title.size)++p.title.data.toList)))) (by omega) (by omega) (by rw[aJ];omega)) λadq cq a w E I=>?_;refine RN 1 E I λa E=>?_;have ti:=qS 9 (zz p.ops.length) (by rw[zz];split <;> (simp;omega));have wx:=rV (zz p.ops.length);exact⟨_,adq,cq,⟨by rw[aJ];omega,by rw[aJ,aJ];omega⟩,E.ab [1,3],I.sub⟩
 clear E;(try clear I);rintro a w ⟨bs,ix,cb,⟨oT,pF⟩,E,I⟩;refine RN 6 E I λa E=>?_;refine aN (λμ a w=>∃ (i:Nat) (bs:List UInt8) (ix:Option Addr) (cb:Nat),(μ=p.ops.length-i∧i≤p.ops.length∧1≤bs.length∧bs.length≤p.title.size+30+40*i∧∀ j o,j<i→p.ops[j]?=some o→rS o)∧Fr a 62 [(3,.slice ix bs.length cb),(32,.slice ad p.ops.length c),(33,.int .i64 p.ops.length),(34,.int .i64 i)]∧U W w (Sl 5 1 ix bs.length cb (bc bs)::aA W p ad c::L)) (p.ops.length) (⟨0,bs,ix,cb,⟨by simp,by simp,oT,by omega,λj o h=>absurd h (by omega)⟩,E.ab [3,32,33,34],I.sub⟩) ?_;clear E I;rintro μ a w ⟨i,bs,ix,cb,⟨rfl,hi,oT,pF,cD⟩,E,I⟩;refine IF 3 E I (λao a E=>?_) λao a E=>?_
 ·
  obtain⟨o,ho⟩:∃ o,p.ops[i]?=some o:=⟨_,aD (by omega)⟩;obtain⟨k0,oo,g6,gK⟩:=I.rT ad (by omega);rw[g6]at E;refine RN 3 E I λa E=>?_;refine SS E (bT E underlying114 rfl Ty.t114 (wI gK ho)) λa E=>?_;refine AL 0 E I λb5 a w E I=>?_;refine SA 0 E I λa w E I=>?_;refine RN 9 E I λa E=>?_;refine SS E (Dz E underlying230 Ty.t230 Ty.t3 rfl rfl) λa E=>?_;change Fr a 62 ((46,.agg (dR o).toArray)::_) at E;refine RN 1 E I λa E=>?_;rw[← g6]at E;refine aN (λμ a w=>∃ (k:Nat) (bs:List UInt8) (ix:Option Addr) (cb:Nat),(μ=4-k∧k≤4∧1≤bs.length∧bs.length≤p.title.size+30+40*i+10*k∧∀ j,j<k→ds (uX o j))∧Fr a 62 [(3,.slice ix bs.length cb),(32,.slice ad p.ops.length c),(33,.int .i64 p.ops.length),(34,.int .i64 i),(46,.agg (dR o).toArray),(47,.int .i64 k)]∧U W w (Sl 5 1 ix bs.length cb (bc bs)::aA W p ad c::L)) (4) (⟨0,bs,ix,cb,⟨by simp,by simp,oT,by omega,λj h=>absurd h (by omega)⟩,E.ab [3,32,33,34,46,47],I.sub⟩) ?_;clear E I;rintro μ a w ⟨k,bs,ix,cb,⟨rfl,hk,oT,pF,pW⟩,E,I⟩;refine IF 3 E I (λay a E=>?_) λay a E=>?_
  ·
   refine RN 2 E I λa E=>?_;refine SS E (sX E underlying230 underlying3 rfl Ty.t3 (by omega) (W1 o (by omega))) λa E=>?_;refine BY 6 E I (λbA a E=>?_) λbA a E=>?_
   ·
    refine RT 6 E I ?_;refine⟨none,0,0,rfl,⟨λ_ h=>?_,λ_=>rfl⟩,I.sub⟩;obtain⟨_,_,_,h4⟩:=h;have h5:=h4 o (bF ho);have h6:ds (uX o k):=by
     rcases (by omega:k=0∨k=1∨k=2∨k=3) with rfl | rfl | rfl | rfl
     ·exact h5.1
     ·exact h5.2.1
     ·exact h5.2.2.1
     ·exact h5.2.2.2
    simp only[ds]at h6;omega
   refine IF 3 E I (λbk a E=>?_) λbk a E=>?_
   ·
    refine RT 2 E I ?_;refine⟨none,0,0,rfl,⟨λ_ h=>?_,λ_=>rfl⟩,I.sub⟩;obtain⟨_,_,_,h4⟩:=h;have h5:=h4 o (bF ho);have h6:ds (uX o k):=by
     rcases (by omega:k=0∨k=1∨k=2∨k=3) with rfl | rfl | rfl | rfl
     ·exact h5.1
     ·exact h5.2.1
     ·exact h5.2.2.1
     ·exact h5.2.2.2
    simp only[ds]at h6;omega
   refine aZ 2 E I (tr (N:=uX o k) (I.pick (Sl 5 1 ix bs.length cb (bc bs))) (by omega) (by omega) (by omega)) λadq cq a w E I=>?_;refine RN 3 E I λa E=>?_;have ti:=qS 9 (zz (uX o k)) (by rw[zz];split <;> (simp;omega));refine⟨4-(k+1),by omega,k+1,bs++aQ (zz (uX o k)),adq,cq,⟨rfl,by omega,by rw[aJ];omega,by rw[aJ];omega,λj hj=>?_⟩,E.ab [3,32,33,34,46,47],I.sub⟩;rcases gR j k with h | h
   ·exact pW j h
   ·obtain rfl:j=k:=by omega
    simp only[ds];omega
  refine RN 0 E I λa E=>?_;obtain rfl:k=4:=by omega
  refine RN 2 E I λa E=>?_;refine⟨p.ops.length-(i+1),by omega,i+1,bs,ix,cb,⟨rfl,by omega,oT,by omega,λj o' hj kD=>?_⟩,E.ab [3,32,33,34],I.sub⟩;rcases gR j i with h | h
  ·exact cD j o' h kD
  ·obtain rfl:j=i:=by omega
   rw[ho]at kD;cases kD;exact⟨pW 0 (by omega),pW 1 (by omega),pW 2 (by omega),pW 3 (by omega)⟩
 refine RT 3 E I ?_;obtain⟨mW,oU,EH,_⟩:=I.bU ix (by omega);refine⟨ix,bs.length,cb,rfl,⟨λh=>(by rw[EH]at h;cases h),λh=>?_⟩,I.sub⟩;exact absurd ⟨mj.1,mj.2.1,mj.2.2,λo' kD=>(by
  obtain⟨j,hj⟩:=j7.1 kD;exact cD j o' (by have:=(aY.1 hj).1;omega) hj)⟩ h
theorem W5 {p:Pr}(I:U W w (aA W p ad c::L))(aH:p.title.size≤1000000000)(ea:p.ops.length≤1000000000) :
   Calls prog 132 #[.agg (bO p ad c).toArray] w λe w'=>∃ r:Int,e=.returned (.int .i64 r)∧(r = -1↔dm p)∧U W w' (aA W p ad c::L):=by
 refine EN func132 ntmps132 rfl rfl λa E=>?_;refine BX 1 E I λb1 a w E I=>?_;change U W w (aa b1 45 (bO p ad c)::_) at I;refine j3 4 E I (W3 (I.pick (aA W p ad c)) aH ea) λafK ne ce a w E ⟨bD,I⟩=>?_;refine IF 1 E I (λaj a E=>?_) λaj a E=>?_
 ·
  refine RT 2 E I ?_;exact⟨-2,rfl,⟨λh=>absurd h (by decide),λh=>absurd h.1 (bD.1 aj)⟩,I.sub⟩
 have mj:wH p:=Classical.byContradiction λh=>by rw[bD.2 h]at aj;cases aj
 refine RN 6 E I λa E=>?_;refine aN (λμ a w=>∃ i:Nat,(μ=p.ops.length-i∧i≤p.ops.length∧∀ j o,j<i→p.ops[j]?=some o→e6 p.ops.length o)∧Fr a 24 [(1,pt b1),(9,.slice ad p.ops.length c),(10,.int .i64 p.ops.length),(11,.int .i64 i)]∧U W w (aa b1 45 (bO p ad c)::aA W p ad c::L)) (p.ops.length) (⟨0,⟨by simp,by simp,λj o h=>absurd h (by omega)⟩,E.ab [1,9,10,11],I.sub⟩) ?_;clear E I;rintro μ a w ⟨i,⟨rfl,hi,cD⟩,E,I⟩;refine IF 3 E I (λao a E=>?_) λao a E=>?_
 ·
  obtain⟨o,ho⟩:∃ o,p.ops[i]?=some o:=⟨_,aD (by omega)⟩;obtain⟨k0,oo,g6,gK⟩:=I.rT ad (by omega);rw[g6]at E;refine RN 4 E I λa E=>?_;refine SS E (bT E underlying114 rfl Ty.t114 (wI gK ho)) λa E=>?_;refine AL 0 E I λb4 a w E I=>?_;refine SA 1 E I λa w E I=>?_;refine bh 5 E I (W0 (o:=o) (m:=p.ops.length) I) λr a w E ⟨hr,I⟩=>?_;refine IF 1 E I (λay a E=>?_) λay a E=>?_
  ·
   refine RT 3 E I ?_;refine⟨i,rfl,⟨λh=>absurd h (by omega),λh=>?_⟩,I.sub⟩;rw[hr.2 (h.2 o (bF ho))]at ay;cases ay
  have pX:r=true:=by simpa using ay
  refine RN 2 E I λa E=>?_;rw[← g6]at E;refine⟨p.ops.length-(i+1),by omega,i+1,⟨rfl,by omega,λj o' hj kD=>?_⟩,E.ab [1,9,10,11],I.sub⟩;rcases gR j i with h | h
  ·exact cD j o' h kD
  ·obtain rfl:j=i:=by omega
   rw[ho]at kD;cases kD;exact hr.1 pX
 refine RT 2 E I ?_;refine⟨-1,rfl,⟨λ_=>⟨mj,λo ho=>?_⟩,λ_=>rfl⟩,I.sub⟩;obtain⟨j,hj⟩:=j7.1 ho;exact cD j o (by have:=(aY.1 hj).1;omega) hj
theorem EI {p:Pr}(I:U W w (aA W p ad c::L))(aH:p.title.size≤1000000000)(ea:p.ops.length≤1000000000) :
   Calls prog 97 #[.agg (bO p ad c).toArray] w λe w'=>∃ r:Bool,e=.returned (.bool r)∧(r=true↔dm p)∧U W w' (aA W p ad c::L):=by
 refine EN func97 ntmps97 rfl rfl λa E=>?_;refine BX 1 E I λb1 a w E I=>?_;change U W w (aa b1 45 (bO p ad c)::_) at I;refine bh 3 E I (W5 (I.pick (aA W p ad c)) aH ea) λr a w E ⟨hr,I⟩=>?_;refine RT 2 E I ?_;exact⟨_,rfl,by rw[cr];exact hr,I.sub⟩
end
end
end Go.Proofs.YteoldcfapaiobaaGreat
