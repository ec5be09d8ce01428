/- The walks of package job. -/
import Derived.Test.YtdilfdkendjjhaaGreatA04Ty
import Derived.Test.YtdilfdkendjjhaaGreatA10Branch2
namespace Go.Proofs.YtdilfdkendjjhaaGreat
open Go.RowKit
set_option linter.unusedVariables false
set_option linter.unusedSimpArgs false
set_option maxRecDepth 10000
set_option synthInstance.maxSize 4000
set_option synthInstance.maxHeartbeats 400000
section
def jc (l:List (Int×Int)):List Value:=l.flatMap λj=>[.int .i64 j.1,.int .i64 j.2]
theorem jc_len (l:List (Int×Int)):(jc l).length=l.length*2:=by
 induction l with
 | nil=>rfl
 | cons x l ih=>simp only[jc,List.flatMap_cons,List.length_append,List.length_cons,List.length_nil] at *;omega
theorem jc_app (l m:List (Int×Int)):jc (l++m)=jc l++jc m:=by simp[jc]
theorem jc_drop (l:List (Int×Int))(i:Nat):(jc l).drop (i*2)=jc (l.drop i):=by
 induction i generalizing l with
 | zero=>simp
 | succ i ih =>
   cases l with
   | nil=>simp[jc]
   | cons x l =>
     have:(i+1)*2=i*2+2:=by omega
     rw[this]
     simp only[jc,List.flatMap_cons,List.drop_succ_cons] at *
     rw[← ih l];simp
theorem jc_take (l:List (Int×Int))(i:Nat):(jc l).take (i*2)=jc (l.take i):=by
 induction i generalizing l with
 | zero=>simp[jc]
 | succ i ih =>
   cases l with
   | nil=>simp[jc]
   | cons x l =>
     have:(i+1)*2=i*2+2:=by omega
     rw[this]
     simp only[jc,List.flatMap_cons,List.take_succ_cons] at *
     rw[← ih l];simp
theorem jc_at (l:List (Int×Int))(i:Nat)(h:i<l.length):((jc l).drop (i*2)).take 2=[.int .i64 l[i].1,.int .i64 l[i].2]:=by
 rw[jc_drop,List.drop_eq_getElem_cons h];simp only[jc,List.flatMap_cons,List.cons_append,List.nil_append,List.take_succ_cons,List.take_zero]
def fi (p:Int×Int→Bool)(l:List (Int×Int)):Int:=if l.findIdx p<l.length then (l.findIdx p:Int) else -1
theorem fi_any (p:Int×Int→Bool)(l:List (Int×Int)):decide (0≤fi p l)=l.any p:=by
 unfold fi
 split <;> rename_i h
 · have:=List.findIdx_lt_length.1 h
   simp only[List.any_eq_true.2 this]
   simp
 · rw[List.findIdx_lt_length]at h
   have:l.any p=false:=by rw[← Bool.not_eq_true,List.any_eq_true];exact h
   simp[this]
theorem fi_hit (p:Int×Int→Bool)(l:List (Int×Int))(i:Nat)(hi:i<l.length)(h0:∀ j,(h:j<i)→p (l[j]'(by omega))=false)(h1:p l[i]=true):fi p l=i:=by
 have:l.findIdx p=i:=(List.findIdx_eq hi).2 ⟨h1,λj hj=>h0 j hj⟩
 simp[fi,this,hi]
theorem fi_miss (p:Int×Int→Bool)(l:List (Int×Int))(h0:∀ j,(h:j<l.length)→p l[j]=false):fi p l = -1:=by
 have:¬ l.findIdx p<l.length:=by
   rw[List.findIdx_lt_length];rintro⟨x,hx,hp⟩
   obtain⟨j,hj,rfl⟩:=List.mem_iff_getElem.1 hx
   rw[h0 j hj]at hp;cases hp
 simp[fi,this]
theorem upto_succ {q:Nat→Prop}{i:Nat}(h:∀ j,j<i→q j)(h1:q i):∀ j,j<i+1→q j:=λj hj=>by
 rcases Nat.lt_or_ge j i with h' | h'
 · exact h j h'
 · obtain rfl:j=i:=by omega
   exact h1
def Asks (W:World)(L:List SP)(f:Nat)(us:List Value)(p:Int×Int→Bool):Prop :=
 ∀ w (x:Int×Int),St W w L→Calls Tryz.prog f ([Value.agg #[.int .i64 x.1,.int .i64 x.2]]++us).toArray w λe w'=>e=.returned (.bool (p x))∧St W w' L
theorem len_some {W w:World}{L R:List SP}{a e:Nat}{s:Option Addr}{n c:Nat}(hs:St W w L) [Blk L a e [.slice s n c] R] :
   Calls Tryz.prog 227 #[pt a] w λe w'=>e=.returned (.int .i64 n)∧St W w' L:=by
 refine EN Tryz.func227 Tryz.ntmps227 rfl rfl λa ha=>?_
 refine RN 6 ha hs λa ha=>?_
 replace ha:=ha.isF 4
 refine RT 8 ha hs ?_
 exact⟨rfl,hs⟩
theorem put1 {W:World}{L R:List SP}{b e:Nat}{x1 x2:Int} [Blk L b e [.int .i64 x1,.int .i64 x2] R] :
   Asks W L 231 [pt b] (λy=>decide (y.1=x1)):=by
 rintro w ⟨y1,y2⟩ hs
 refine EN Tryz.func231 Tryz.ntmps231 rfl rfl λa ha=>?_
 refine BX 1 ha hs λb2 a w ha hs=>?_
 refine RT 8 ha hs ?_
 exact⟨rfl,hs.tail⟩
theorem indexFunc {W w:World}{L R:List SP}{ad:Option Addr}{c f:Nat}{us:List Value}{l:List (Int×Int)}{p:Int×Int→Bool}(hs:St W w L)[pk:PickSl L ad l.length c 186 2 (jc l) R]
   (hc:callable Tryz.prog f=true) (hf:Asks W L f us p) (hl:l.length≤140737488355328) :
   Calls Tryz.prog 269 #[.slice ad l.length c,.func (.func f) #[] us.toArray] w λe w'=>e=.returned (.int .i64 (fi p l))∧St W w' L:=by
 refine EN Tryz.func269 Tryz.ntmps269 rfl rfl λa ha=>?_
 refine RN 7 ha hs λa ha=>?_
 refine wp_loop_ghost (λμ a w=>∃ i:Nat,(μ=l.length-i∧i≤l.length∧(∀ j,j<i→∀ h:j<l.length,p l[j]=false))∧Fr a 19 [(0,.slice ad l.length c),(1,.func (.func f) #[] us.toArray),(4,.int .i64 0),(7,.int .i64 l.length),(8,.int .i64 i)]∧St W w L) (l.length) (⟨0,⟨by simp,by simp,λj h=>by omega⟩,ha.keep [0,1,4,7,8],hs⟩) ?_
 clear ha hs
 rintro μ a w ⟨i,⟨rfl,hi,hp⟩,ha,hs⟩
 refine IF 3 ha hs (λhc0 a ha=>?_) λhc0 a ha=>?_
 ·
  obtain⟨b,off,rfl,hrd⟩:=hs.slRd ad (by omega)
  have hil:i<l.length:=by omega
  have hr:=hrd.part (i*2) 2
  rw[jc_at l i hil]at hr
  refine RN 9 ha hs λa ha=>?_
  refine SS ha (ex_loadN ha Tryz.underlying186 rfl Ty.t186 (hr)) λa ha=>?_
  refine CL 0 ha hs (hf _ l[i] hs) (hf:=hc) λa w ha hs=>?_
  refine IF 0 ha hs (λhc1 a ha=>?_) λhc1 a ha=>?_
  ·
   refine RT 3 ha hs ?_
   exact⟨by rw[fi_hit p l i hil (λj hj=>hp j hj (by omega)) hc1],hs⟩
  refine RN 2 ha hs λa ha=>?_
  exact⟨l.length-(i+1),by omega,i+1,⟨rfl,by omega,upto_succ hp (λ_=>hc1)⟩,ha.keep [0,1,4,7,8],hs⟩
 refine RT 2 ha hs ?_
 exact⟨by rw[fi_miss p l (λj hj=>hp j (by omega) hj)],hs⟩
theorem containsFunc {W w:World}{L R:List SP}{ad:Option Addr}{c f:Nat}{us:List Value}{l:List (Int×Int)}{p:Int×Int→Bool}(hs:St W w L)[pk:PickSl L ad l.length c 186 2 (jc l) R]
   (hc:callable Tryz.prog f=true) (hf:Asks W L f us p) (hl:l.length≤140737488355328) :
   Calls Tryz.prog 230 #[.slice ad l.length c,.func (.func f) #[] us.toArray] w λe w'=>e=.returned (.bool (l.any p))∧St W w' L:=by
 refine EN Tryz.func230 Tryz.ntmps230 rfl rfl λa ha=>?_
 refine CL 5 ha hs (indexFunc hs hc hf hl) λa w ha hs=>?_
 refine RT 2 ha hs ?_
 exact⟨by rw[fi_any],hs⟩
def Jobs (q:Nat)(l:List (Int×Int)):SP:=λh=>∃ i:Option Addr×Nat,sepL [blk q 184 [.slice i.1 l.length i.2],Sl 186 2 i.1 l.length i.2 (jc l)] h
theorem Jobs.open {W w:World}{L:List SP}{q:Nat}{l:List (Int×Int)}(hs:St W w (Jobs q l::L)) :
   ∃ ad c,St W w (blk q 184 [.slice ad l.length c]::Sl 186 2 ad l.length c (jc l)::L):=by
 obtain⟨i,_,h⟩:=hs.exi (p:=λ_=>True) (B:=λi:Option Addr×Nat=>sepL [blk q 184 [.slice i.1 l.length i.2],Sl 186 2 i.1 l.length i.2 (jc l)]) (λ_ ⟨i,h⟩=>⟨i,trivial,h⟩)
 exact⟨i.1,i.2,h.open (λ_ x=>x)⟩
theorem Jobs.shut {W w:World}{L R R2:List SP}{q n c:Nat}{ad:Option Addr}{cs:List Value}{l:List (Int×Int)}(hs:St W w L)[k:Blk L q 184 [.slice ad n c] R][k2:PickSl R ad n c 186 2 cs R2]
   (hn:n=l.length) (hc:cs=jc l):St W w (Jobs q l::R2):=by
 subst hn;subst hc
 have h1:=(hs.perm k.perm).perm (List.Perm.cons _ k2.perm)
 exact St.shut (M:=[_,_]) h1 λ_ x=>⟨(ad,c),x⟩
theorem new_spec {W w:World}{L:List SP}(hs:St W w L) :
   Calls Tryz.prog 49 #[] w λe w'=>∃ q,e=.returned (pt q)∧St W w' (Jobs q []::L):=by
 refine EN Tryz.func49 Tryz.ntmps49 rfl rfl λa ha=>?_
 refine BX 4 ha hs λb2 a w ha hs=>?_
 refine RT 1 ha hs ?_
 exact⟨_,rfl,by
   have h1:=(hs.sl0 186 2 none)
   exact (Jobs.shut (q:=b2) (l:=[]) h1 rfl rfl).sub⟩
def mayPut (l:List (Int×Int))(b:Int):Bool:=decide (l.length<16)&&!l.any (λy=>decide (y.1=b))
theorem put_spec {W w:World}{L:List SP}{q:Nat}{l:List (Int×Int)}{b e:Int}(hs:St W w (Jobs q l::L))(hl:l.length≤16) :
   Calls Tryz.prog 187 #[pt q,.agg #[.int .i64 b,.int .i64 e]] w λr w' =>
     r=.returned (.bool (mayPut l b))∧St W w' (Jobs q (if mayPut l b then l++[(b,e)] else l)::L):=by
 obtain⟨ad,c,hs⟩:=Jobs.open hs
 refine EN Tryz.func187 Tryz.ntmps187 rfl rfl λa ha=>?_
 refine BX 1 ha hs λb3 a w ha hs=>?_
 refine RN 6 ha hs λa ha=>?_
 replace ha:=ha.isF 7
 refine BY 8 ha hs (λhg10 a ha=>?_) λhg10 a ha=>?_
 ·
  have hm:mayPut l b=false:=by simp only[mayPut,Bool.and_eq_false_iff,decide_eq_false_iff_not];left;omega
  refine RT 10 ha hs ?_
  exact⟨by rw[hm],by rw[hm,if_neg (by decide)];exact (Jobs.shut (q:=q) (ad:=ad) (l:=l) hs rfl rfl).sub⟩
 refine CL 5 ha hs (containsFunc hs (by kernel_rfl) put1 (by omega)) λa w ha hs=>?_
 refine IF 1 ha hs (λhc0 a ha=>?_) λhc0 a ha=>?_
 ·
  have hm:mayPut l b=false:=by simp only[mayPut,hc0,Bool.not_true,Bool.and_false]
  refine RT 2 ha hs ?_
  exact⟨by rw[hm],by rw[hm,if_neg (by decide)];exact (Jobs.shut (q:=q) (ad:=ad) (l:=l) hs rfl rfl).sub⟩
 have hm:mayPut l b=true:=by simp only[mayPut,hc0,Bool.not_false,Bool.and_true,decide_eq_true_eq];omega
 refine DWO 1 [5,6] [0,1,2,3,3004,1005,1006,1007,8,9,1010] ha hs λa w ha hs hH hC=>?_
 refine RH 6 ha hs hH hC λa ha=>?_
 refine st_buildSlice ha rfl hs Tryz.underlying182 Ty.t186 rfl rfl rfl rfl (by decide) (by decide) λb29 a w ha hs ho=>?_
 replace hC:=hC.trans ho
 clear ho
 refine RH 0 ha hs hH hC λa ha=>?_
 refine st_append ha rfl hs Tryz.underlying182 Ty.t186 rfl rfl hs.rdAll rfl (by simp[Value.oneCell']) (by decide) (by decide) (by omega) λad30 c30 a w ha hs=>?_
 refine ST 2 ha hs (λa w ha hs=>?_)
 refine RT 2 ha hs ?_
 exact⟨by rw[hm],by rw[hm,if_pos rfl];exact (Jobs.shut (q:=q) (l:=l++[(b,e)]) hs (by simp) (by simp[jc_app,jc])).sub⟩
theorem take_none {W w:World}{L:List SP}{q:Nat}(hs:St W w (Jobs q []::L)) :
   Calls Tryz.prog 188 #[pt q] w λr w' =>
     r=.returned (.tuple #[.agg #[.int .i64 0,.int .i64 0],.bool false])∧St W w' (Jobs q []::L):=by
 obtain⟨ad,c,hs⟩:=Jobs.open hs
 refine EN Tryz.func188 Tryz.ntmps188 rfl rfl λa ha=>?_
 refine AL 1 ha hs λb2 a w ha hs=>?_
 refine CL 4 ha hs (len_some (a:=q) hs) λa w ha hs=>?_
 refine IF 1 ha hs (λhc0 a ha=>?_) λhc0 a ha=>?_
 ·
  skip
  refine SA 2 ha hs λa w ha hs=>?_
  refine RT 1 ha hs ?_
  exact⟨rfl,(Jobs.shut (q:=q) (ad:=ad) (l:=[]) hs rfl rfl).sub⟩
 exact absurd rfl hc0
theorem take_some {W w:World}{L:List SP}{q:Nat}{x:Int×Int}{l:List (Int×Int)}(hs:St W w (Jobs q (x::l)::L)) :
   Calls Tryz.prog 188 #[pt q] w λr w' =>
     r=.returned (.tuple #[.agg #[.int .i64 x.1,.int .i64 x.2],.bool true])∧St W w' (Jobs q l::L):=by
 obtain⟨ad,c,hs⟩:=Jobs.open hs
 have hcl:=(hs.sl ad).2
 refine EN Tryz.func188 Tryz.ntmps188 rfl rfl λa ha=>?_
 refine AL 1 ha hs λb2 a w ha hs=>?_
 refine CL 4 ha hs (len_some (a:=q) hs) λa w ha hs=>?_
 refine IF 1 ha hs (λhc0 a ha=>?_) λhc0 a ha=>?_
 ·
  simp at hc0;omega
 refine RN 1 ha hs λa ha=>?_
 obtain⟨b,off,rfl,hrd⟩:=hs.slRd ad (by simp)
 have hr:=hrd.part 0 2
 rw[show 0=0*2 from rfl,jc_at (x::l) 0 (by simp)]at hr
 refine SX 4 ha hs (by simp) λa ha=>?_
 refine RN 0 ha hs λa ha=>?_
 refine SS ha (ex_loadN ha Tryz.underlying186 rfl Ty.t186 (hr)) λa ha=>?_
 refine AL 0 ha hs λb4 a w ha hs=>?_
 refine SA 0 ha hs λa w ha hs=>?_
 refine SX 6 ha hs (by simp) λa ha=>?_
 replace hs:=hs.cutSl (some ⟨b,off,none⟩) 1 (x::l).length (by simp) (Nat.le_refl _)
 refine ST 2 ha hs (λa w ha hs=>?_)
 refine SA 2 ha hs λa w ha hs=>?_
 refine RT 1 ha hs ?_
 exact⟨rfl,(Jobs.shut (q:=q) (l:=l) hs (by simp) (by simp[jc];rw[List.take_of_length_le];exact Nat.le_of_eq (jc_len l))).sub⟩
def kept (p:Int×Int→Bool)(l:List (Int×Int)):List (Int×Int):=l.filter λx=>!p x
theorem kept_snoc (p:Int×Int→Bool)(l:List (Int×Int))(j:Nat)(h:j<l.length):kept p (l.take (j+1))=kept p (l.take j)++(if p l[j] then [] else [l[j]]):=by
 rw[List.take_succ_eq_append_getElem h,kept,List.filter_append]
 cases hp:p l[j] <;> simp[kept,hp]
theorem fi_neg (p:Int×Int→Bool)(l:List (Int×Int))(h:fi p l = -1):kept p l=l:=by
 unfold fi at h
 split at h
 · omega
 · rename_i h1
   rw[List.findIdx_lt_length]at h1
   exact List.filter_eq_self.2 λx hx=>by
     cases hp:p x with
     | false=>rfl
     | true=>exact absurd ⟨x,hx,hp⟩ h1
theorem fi_pos (p:Int×Int→Bool)(l:List (Int×Int))(h:¬ fi p l = -1):∃ k:Nat,fi p l=(k:Int)∧k<l.length∧kept p (l.take (k+1))=l.take k:=by
 unfold fi at h ⊢
 split at h
 · rename_i h1
   refine⟨l.findIdx p,by rw[if_pos h1],h1,?_⟩
   rw[kept_snoc p l _ h1,List.findIdx_getElem (w:=h1),if_pos rfl,List.append_nil]
   refine List.filter_eq_self.2 λx hx=>?_
   obtain⟨j,hj,rfl⟩:=List.mem_iff_getElem.1 hx
   simp only[List.length_take]at hj
   have:=List.not_of_lt_findIdx (p:=p) (xs:=l) (i:=j) (by omega)
   simp at this ⊢;exact this
 · exact absurd rfl h
theorem jc_mid {pre post:List Value}(l:List (Int×Int))(i:Nat)(h:i<l.length):((pre++jc l++post).drop (pre.length+i*2)).take 2=[.int .i64 l[i].1,.int .i64 l[i].2]:=by
 rw[List.append_assoc,← List.drop_drop,List.drop_left,List.drop_append_of_le_length (by rw[jc_len];omega),List.take_append_of_le_length (by simp[jc_len];omega)]
 exact jc_at l i h
theorem jc_spl {pre post:List Value}(l:List (Int×Int))(i:Nat)(x:Int×Int)(h:i<l.length) :
   splice (pre++jc l++post) (pre.length+i*2) [.int .i64 x.1,.int .i64 x.2]=pre++jc (l.set i x)++post:=by
 have e0:l.set i x=l.take i++x::l.drop (i+1):=by rw[List.set_eq_take_append_cons_drop,if_pos h]
 have e1:(pre++jc l++post).take (pre.length+i*2)=pre++jc (l.take i):=by
   rw[List.append_assoc,List.take_append,List.take_of_length_le (by omega),show pre.length+i*2-pre.length=i*2 from by omega,List.take_append_of_le_length (by rw[jc_len];omega),jc_take]
 have e2:(pre++jc l++post).drop (pre.length+i*2+2)=jc (l.drop (i+1))++post:=by
   rw[List.append_assoc,Nat.add_assoc,← List.drop_drop,List.drop_left,show i*2+2=(i+1)*2 from by omega,List.drop_append_of_le_length (by rw[jc_len];omega),jc_drop]
 rw[splice,e1]
 show _++_++(pre++jc l++post).drop (pre.length+i*2+2)=_
 rw[e2,e0,jc_app]
 simp[jc]
structure Dl (p:Int×Int→Bool)(l l':List (Int×Int))(i j:Nat):Prop where
 len:l'.length=l.length
 le:j≤l.length
 lt:i<j
 cnt:i=(kept p (l.take j)).length
 fst:l'.take i=kept p (l.take j)
 snd:l'.drop j=l.drop j
theorem Dl.get {p l l' i j}(d:Dl p l l' i j)(h:j<l.length):l'[j]'(by have:=d.len;omega)=l[j]:=by
 have h1:=d.snd
 rw[List.drop_eq_getElem_cons (by have:=d.len;omega),List.drop_eq_getElem_cons h]at h1
 exact (List.cons.inj h1).1
theorem Dl.keep {p l l' i j}(d:Dl p l l' i j)(h:j<l.length)(hp:p l[j]=false):Dl p l (l'.set i l[j]) (i+1) (j+1):=by
 have hi:i<l'.length:=by have:=d.len;have:=d.lt;omega
 have hk:=kept_snoc p l j h
 rw[hp]at hk
 refine⟨by simp[d.len],by omega,by have:=d.lt;omega,?_,?_,?_⟩
 · rw[hk];simp[← d.cnt]
 · rw[hk,← d.fst,List.set_eq_take_append_cons_drop,if_pos hi,List.take_append,List.take_of_length_le (by simp;omega)]
   have:(l'.take i).length=i:=by simp;omega
   simp[this]
 · have h1:=d.snd
   rw[List.drop_set_of_lt (by have:=d.lt;omega)]
   have:=congrArg (List.drop 1) h1
   simpa [List.drop_drop] using this
theorem Dl.skip {p l l' i j}(d:Dl p l l' i j)(h:j<l.length)(hp:p l[j]=true):Dl p l l' i (j+1):=by
 have hk:=kept_snoc p l j h
 rw[hp]at hk
 simp only[if_true,List.append_nil]at hk
 refine⟨d.len,by omega,by have:=d.lt;omega,by rw[hk];exact d.cnt,by rw[hk];exact d.fst,?_⟩
 have:=congrArg (List.drop 1) d.snd
 simpa [List.drop_drop] using this
theorem deleteFunc {W w:World}{L:List SP}{ad:Option Addr}{c f:Nat}{us:List Value}{l:List (Int×Int)}{p:Int×Int→Bool}(hs:St W w (Sl 186 2 ad l.length c (jc l)::L))
   (hc:callable Tryz.prog f=true) (hf:∀ A,Asks W (A::L) f us p) (hf2:∀ A B,Asks W (A::B::L) f us p) (hl:l.length≤140737488355328) :
   Calls Tryz.prog 228 #[.slice ad l.length c,.func (.func f) #[] us.toArray] w λe w' =>
     ∃ ad' c',e=.returned (.slice ad' (kept p l).length c')∧St W w' (Sl 186 2 ad' (kept p l).length c' (jc (kept p l))::L):=by
 refine EN Tryz.func228 Tryz.ntmps228 rfl rfl λa ha=>?_
 refine CL 5 ha hs (indexFunc (p:=p) hs hc (hf _) hl) λa w ha hs=>?_
 refine IF 5 ha hs (λhc0 a ha=>?_) λhc0 a ha=>?_
 ·
  refine RT 3 ha hs ?_
  exact⟨ad,c,by rw[fi_neg p l hc0],by rw[fi_neg p l hc0];exact hs⟩
 obtain⟨k,hk,hkl,hkk⟩:=fi_pos p l hc0
 rw[hk]at ha
 have hcl:=(hs.sl ad).2
 have hA:=ha
 obtain⟨b,pre,post,⟨a1,a2,rfl,a4⟩,hQ⟩:=hs.slOpen (by omega)
 have ha:=hA
 have hs:=hQ
 refine RN 5 ha hs λa ha=>?_
 refine wp_loop_ghost (λμ a w=>∃ i j:Nat,∃ l':List (Int×Int),(μ=l.length-j∧Dl p l l' i j)∧Fr a 42 [(0,.slice (some ⟨b,pre.length,none⟩) l.length c),(1,.func (.func f) #[] us.toArray),(4,.slice none 0 0),(5,.int .i64 i),(6,.int .i64 j)]∧St W w (blk b 186 (pre++jc l'++post)::L)) (l.length-(k+1)) (⟨k,k+1,l,⟨rfl,rfl,by omega,by omega,by rw[hkk];simp;omega,by rw[hkk],rfl⟩,ha.keep [0,1,4,5,6],hs⟩) ?_
 clear ha hs
 rintro μ a w ⟨i,j,l',⟨rfl,hd⟩,ha,hs⟩
 have hd1:=hd.len
 have hd2:=hd.le
 have hd3:=hd.lt
 refine IF 6 ha hs (λhc1 a ha=>?_) λhc1 a ha=>?_
 ·
  have hjl:j<l.length:=by omega
  have hget:=hd.get hjl
  have hr:Rd w b (pre.length+j*2) [.int .i64 l[j].1,.int .i64 l[j].2]:=by
    intro q v hq
    rw[hs.cell]
    have:=jc_mid (pre:=pre) (post:=post) l' j (by omega)
    rw[hget]at this
    rw[← this]at hq
    rw[List.getElem?_take]at hq
    split at hq
    · rw[List.getElem?_drop]at hq;exact hq
    · cases hq
  refine RN 5 ha hs λa ha=>?_
  refine SS ha (ex_loadN ha Tryz.underlying186 rfl Ty.t186 (hr)) λa ha=>?_
  refine AL 0 ha hs λb7 a w ha hs=>?_
  refine SA 0 ha hs λa w ha hs=>?_
  refine CL 3 ha hs (hf2 _ _ _ l[j] hs) (hf:=hc) λa w ha hs=>?_
  refine IF 1 ha hs (λhc2 a ha=>?_) λhc2 a ha=>?_
  ·
   refine RN 5 ha hs λa ha=>?_
   refine st_storeN ha rfl hs Ty.t186 (by simp[Value.oneCell']) (by simp[jc_len];omega) λa w ha hs=>?_
   rw[jc_spl l' i l[j] (by omega)]at hs
   refine RN 6 ha hs λa ha=>?_
   exact⟨l.length-(j+1),by omega,i+1,j+1,_,⟨rfl,hd.keep hjl hc2⟩,ha.keep [0,1,4,5,6],hs.sub⟩
  refine RN 3 ha hs λa ha=>?_
  exact⟨l.length-(j+1),by omega,i,j+1,l',⟨rfl,hd.skip hjl hc2⟩,ha.keep [0,1,4,5,6],hs.sub⟩
 obtain rfl:j=l.length:=by omega
 have hcnt:=hd.cnt
 have hfst:=hd.fst
 rw[List.take_length]at hcnt hfst
 refine RN 4 ha hs λa ha=>?_
 rw[cutAd_some (by omega)]at ha
 have hle:pre.length+i*2+(l.length-i)*2≤(pre++jc l'++post).length:=by simp only[List.length_append,jc_len,hd1];omega
 refine st_clear ha rfl hs Tryz.underlying182 Ty.t186 rfl rfl hle λa w ha hs=>?_
 refine RN 4 ha hs λa ha=>?_
 rw[cutAd_some (by omega)]at ha
 refine RT 1 ha hs ?_
 refine⟨some ⟨b,pre.length+0*2,none⟩,c,by rw[hcnt];rfl,?_⟩
 generalize hz:(Builtin.zeroCells (Value.cells (.agg #[.int .i64 0,.int .i64 0])) (l.length-i)).toList=zs at hs
 have hzl:zs.length=(l.length-i)*2:=by rw[← hz];exact zero_size 0 (by':=0) rfl _
 have he:splice (pre++jc l'++post) (pre.length+i*2) zs=pre++jc (kept p l)++(zs++post):=by
   have e1:(pre++jc l'++post).take (pre.length+i*2)=pre++jc (kept p l):=by
     rw[List.append_assoc,List.take_append,List.take_of_length_le (by omega),show pre.length+i*2-pre.length=i*2 from by omega,List.take_append_of_le_length (by rw[jc_len];omega),jc_take,hfst]
   have e2:(pre++jc l'++post).drop (pre.length+i*2+zs.length)=post:=by
     rw[hzl,List.drop_append,List.drop_of_length_le (by simp only[List.length_append,jc_len];omega),List.nil_append]
     simp only[List.length_append,jc_len,hd1]
     have:pre.length+i*2+(l.length-i)*2-(pre.length+l.length*2)=0:=by omega
     rw[this,List.drop_zero]
   rw[splice,e1,e2];simp
 rw[he]at hs
 exact St.slShut hs (jc_len _) (by omega) (by rw[← hcnt,List.length_append,hzl];omega)
theorem canc1 {W:World}{L R:List SP}{b t:Nat}{x:Int} [Blk L b t [.int .i64 x] R] :
   Asks W L 229 [pt b] (λy=>decide (y.2<x)):=by
 rintro w ⟨y1,y2⟩ hs
 refine EN Tryz.func229 Tryz.ntmps229 rfl rfl λa ha=>?_
 refine BX 1 ha hs λb2 a w ha hs=>?_
 refine RT 7 ha hs ?_
 exact⟨rfl,hs.tail⟩
theorem cancel_spec {W w:World}{L:List SP}{q:Nat}{l:List (Int×Int)}{e:Int}(hs:St W w (Jobs q l::L))(hl:l.length≤16) :
   Calls Tryz.prog 186 #[pt q,.int .i64 e] w λr w' =>
     r=.returned (.int .i64 ((l.length:Int)-(kept (λy=>decide (y.2<e)) l).length))∧St W w' (Jobs q (kept (λy=>decide (y.2<e)) l)::L):=by
 obtain⟨ad,c,hs⟩:=Jobs.open hs
 have hk:(kept (λy=>decide (y.2<e)) l).length≤l.length:=List.length_filter_le _ _
 refine EN Tryz.func186 Tryz.ntmps186 rfl rfl λa ha=>?_
 refine BX 1 ha hs λb3 a w ha hs=>?_
 refine CL 3 ha hs (len_some (a:=q) hs) λa w ha hs=>?_
 refine RN 5 ha hs λa ha=>?_
 replace ha:=ha.isT 9
 refine CL2 7 ha hs (deleteFunc (hs.pick (Sl 186 2 ad l.length c (jc l))) (by kernel_rfl) (p:=λy=>decide (y.2<e)) (λA=>canc1) (λA B=>canc1) (by omega)) λad' c' a w ha hs=>?_
 refine ST 2 ha hs (λa w ha hs=>?_)
 refine CL 3 ha hs (len_some (a:=q) hs) λa w ha hs=>?_
 refine RT 2 ha hs ?_
 exact⟨rfl,(Jobs.shut (q:=q) (ad:=ad') (l:=kept (λy=>decide (y.2<e)) l) hs rfl rfl).sub⟩
theorem take_any {W w:World}{L:List SP}{q:Nat}{l:List (Int×Int)}(hs:St W w (Jobs q l::L)) :
   Calls Tryz.prog 188 #[pt q] w λr w' =>
     r=.returned (.tuple #[.agg #[.int .i64 (l.headD (0,0)).1,.int .i64 (l.headD (0,0)).2],.bool (!l.isEmpty)])∧St W w' (Jobs q l.tail::L):=by
 cases l with
 | nil=>exact take_none hs
 | cons x l=>exact take_some hs
class PickJ (L:List SP)(q:Nat)(l:outParam (List (Int×Int)))(R:outParam (List SP)):Prop where perm:L.Perm (Jobs q l::R)
instance PickJ.head {L q l}:PickJ (Jobs q l::L) q l L:=⟨List.Perm.refl _⟩
instance (priority:=low) PickJ.tail {A L q l R}[h:PickJ L q l R]:PickJ (A::L) q l (A::R):=⟨(List.Perm.cons A h.perm).trans (List.Perm.swap _ _ _)⟩
theorem St.jobs {W w:World}{L R:List SP}{l:List (Int×Int)}(hs:St W w L)(q:Nat)[k:PickJ L q l R]:St W w (Jobs q l::R):=hs.perm k.perm
theorem dne {x:Int}:decide (x≠x)=false:=by simp
end
section
structure Wk where
 busy:Bool
 jb:Int
 je:Int
 x:Nat
 done:Nat
 played:Bool
def wk0:Wk:=⟨false,0,0,0,0,false⟩
abbrev Js:=List (Int×Int)
def putJ (J:Js)(b e:Int):Js:=if mayPut J b then J++[(b,e)] else J
inductive Bit (p:Pr)(A:Sn)(T:Tr)(J:Js)(k:Wk):Bool→Sn→Tr→Js→Wk→Prop
 | idle:k.busy=false→J=[]→Bit p A T J k false A T J k
 | stale {j:Int×Int} {J':Js}:k.busy=false→J=j::J'→(j.2≠T.epoch∨(∀ y∈T.l,(y.id:Int)≠j.1)∨∃ x∈T.l,(x.id:Int)=j.1∧x.press.length≤x.done)→Bit p A T J k true A T J' k
 | took {j : Int × Int} {J' : Js} {i : Nat} {x : Br} {px : Pic} : k.busy = false → J = j :: J' → j.2 = T.epoch → x ∈ T.l → (x.id : Int) = j.1 → x.done < x.press.length → A.pics[i]? = some px → px.id = x.snap →
     Bit p A T J k true (A.add px.g px.p) T J' ⟨true,j.1,j.2,A.last+1,x.done,false⟩
 | gone:k.busy=true→(k.je≠T.epoch∨∀ y∈T.l,(y.id:Int)≠k.jb)→Bit p A T J k true (A.dropId k.x) T J { k with busy:=false }
 | played {x : Br} {i : Nat} {px : Pic} {p' : Nat → Nat} {b : List UInt8} : k.busy = true → k.je = T.epoch → x ∈ T.l → (x.id : Int) = k.jb → k.played = false → A.pics[i]? = some px → px.id = k.x → x.press[k.done]? = some b →
     gOk (frameI p (x.frm+k.done) b px.g)→Bit p A T J k true { A with pics:=A.pics.set i ⟨px.id,px.refs,frameI p (x.frm+k.done) b px.g,p'⟩ } T J { k with played:=true }
 | failed {x:Br}:k.busy=true→k.je=T.epoch→x∈T.l→(x.id:Int)=k.jb→k.played=false→¬ 4*A.pics.length≤A.room→Bit p A T J k true (A.dropId k.x) T (putJ J k.jb k.je) { k with busy:=false }
 | pub {x : Br} {kk : Nat} : k.busy = true → k.je = T.epoch → T.l[kk]? = some x → (x.id : Int) = k.jb → k.played = true → x.done < k.done + 1 → k.done + 1 ≤ x.press.length →
     Bit p A T J k true (A.dropId x.snap) (T.pub kk x (k.done+1) k.x) (if k.done+1<x.press.length then putJ J k.jb k.je else J) { k with busy:=false }
 | lost {x:Br}:k.busy=true→k.je=T.epoch→x∈T.l→(x.id:Int)=k.jb→k.played=true→k.done+1≤x.done→Bit p A T J k true (A.dropId k.x) T (if x.done<x.press.length then putJ J k.jb k.je else J) { k with busy:=false }
def heldW (ws:List Wk):List Nat:=(ws.filter (·.busy)).map (·.x)
structure Inv (p:Pr)(F:Int)(g0:Nat→Int)(t:Nat→Nat)(base:Nat)(A:Sn)(T:Tr)(ws:List Wk):Prop where
 perm:(A.pics.map (·.id)).Perm (base::(T.l.map (·.snap)++heldW ws))
 pics:∀ x∈A.pics,x.refs=1∧gOk x.g
 base:∀ x∈A.pics,x.id=base→x.g=g0∧x.p=t
 brs:∀ y∈T.l,y.frm=F∧∀ x∈A.pics,x.id=y.snap→x.g=foldI p F g0 (y.press.take y.done)
 wks:∀ k∈ws,k.jb≤T.last∧(k.busy=true→∀ y∈T.l,(y.id:Int)=k.jb→k.done<y.press.length∧∀ x∈A.pics,x.id=k.x→x.g=foldI p F g0 (y.press.take (k.done+if k.played then 1 else 0)))
theorem memF {α:Type}{f:α→Bool}{l:List α}{x:α}(h:x∈l.filter f):x∈l:=(List.mem_filter.1 h).1
theorem WF.nd {A:Sn}(h:WF A):(A.pics.map (·.id)).Nodup:=h.sorted.imp (λh=>Nat.ne_of_lt h)
theorem WT.same {T:Tr}(h:WT T){x y:Br}(hx:x∈T.l)(hy:y∈T.l)(he:x.id=y.id):x=y:=by
 obtain⟨i,hi⟩:=List.mem_iff_getElem?.1 hx
 obtain⟨j,hj⟩:=List.mem_iff_getElem?.1 hy
 obtain rfl:=h.unique hj hi he
 rw[hi]at hj;cases hj;rfl
theorem filter_erase {α:Type}{f:α→Nat}:∀ {l:List α} {i:Nat} (hd:(l.map f).Nodup) (hi:i<l.length),l.filter (λx=>f x != f l[i])=l.eraseIdx i:=by
 intro l
 induction l with
 | nil=>intro i _ hi;simp at hi
 | cons a l ih =>
   intro i hd hi
   rw[List.map_cons,List.nodup_cons]at hd
   cases i with
   | zero =>
     rw[List.getElem_cons_zero,List.filter_cons_of_neg (by simp),List.eraseIdx_cons_zero,List.filter_eq_self]
     intro y hy
     simp only[bne_iff_ne,ne_eq]
     intro e
     exact hd.1 (e ▸ List.mem_map.2 ⟨y,hy,rfl⟩)
   | succ i =>
     have hi':i<l.length:=by simpa using hi
     rw[List.getElem_cons_succ,List.filter_cons_of_pos,List.eraseIdx_cons_succ,ih hd.2 hi']
     simp only[bne_iff_ne,ne_eq]
     intro e
     exact hd.1 (e ▸ List.mem_map.2 ⟨l[i],List.getElem_mem _,rfl⟩)
theorem dropId_pics {A:Sn}(hw:WF A)(hr:∀ x∈A.pics,x.refs=1)(id:Nat):A.dropId id={ A with pics:=A.pics.filter (λx=>x.id != id) }:=by
 by_cases h:∃ px∈A.pics,px.id=id
 · obtain⟨px,h1,rfl⟩:=h
   obtain⟨i,hi⟩:=List.mem_iff_getElem?.1 h1
   obtain⟨hl,he⟩:=List.getElem?_eq_some_iff.1 hi
   have h2:=filter_erase hw.nd hl
   rw[he]at h2
   rw[dropId_some hw hi,Sn.drop,if_pos (hr px h1),h2]
 · rw[dropId_none (λy hy e=>h ⟨y,hy,e⟩),List.filter_eq_self.2]
   intro y hy
   simp only[bne_iff_ne,ne_eq]
   exact λe=>h ⟨y,hy,e⟩
theorem perm_drop {a:Nat}{l L M:List Nat}(h1:l.Perm L)(h2:L.Perm (a::M))(nd:l.Nodup):(l.filter (· != a)).Perm M:=by
 have h3:=(h1.trans h2).filter (· != a)
 have h4:=(h1.trans h2).nodup_iff.1 nd
 rw[List.nodup_cons]at h4
 have h5:M.filter (· != a)=M:=List.filter_eq_self.2 (λy hy=>by simp only[bne_iff_ne,ne_eq];intro e;exact h4.1 (e ▸ hy))
 rw[List.filter_cons_of_neg (by simp),h5]at h3
 exact h3
theorem map_filter_id (l:List Pic)(id:Nat):(l.filter (λx=>x.id != id)).map (·.id)=(l.map (·.id)).filter (· != id):=by
 rw[List.filter_map];rfl
theorem heldW_busy {k:Wk}{ws:List Wk}(h:k.busy=true):heldW (k::ws)=k.x::heldW ws:=by rw[heldW,List.filter_cons_of_pos h,List.map_cons];rfl
theorem heldW_idle {k:Wk}{ws:List Wk}(h:k.busy=false):heldW (k::ws)=heldW ws:=by rw[heldW,List.filter_cons_of_neg (by simp[h])];rfl
theorem mem_heldW {k:Wk}{ws:List Wk}(h:k∈ws)(hb:k.busy=true):k.x∈heldW ws:=List.mem_map.2 ⟨k,List.mem_filter.2 ⟨h,hb⟩,rfl⟩
theorem Inv.permW {p:Pr}{F:Int}{g0:Nat→Int}{t:Nat→Nat}{base:Nat}{A:Sn}{T:Tr}{ws ws':List Wk}(h:Inv p F g0 t base A T ws)(hp:ws.Perm ws'):Inv p F g0 t base A T ws' :=
 ⟨h.perm.trans ((((hp.filter _).map _).append_left _).cons _),h.pics,h.base,h.brs,λk hk=>h.wks k (hp.mem_iff.2 hk)⟩
section
variable {p:Pr}{F:Int}{g0:Nat→Int}{t:Nat→Nat}{base:Nat}{A A':Sn}{T T':Tr}{J J':Js}{ws:List Wk}{k k':Wk}{r:Bool}
theorem Inv.nd (h:Inv p F g0 t base A T ws)(hA:WF A):(base::(T.l.map (·.snap)++heldW ws)).Nodup:=h.perm.nodup_iff.1 hA.nd
theorem Inv.pic (h:Inv p F g0 t base A T ws){id:Nat}(hm:id∈base::(T.l.map (·.snap)++heldW ws)):∃ (i:Nat) (px:Pic),A.pics[i]?=some px∧px.id=id:=by
 obtain⟨px,h1,h2⟩:=List.mem_map.1 (h.perm.mem_iff.2 hm)
 obtain⟨i,hi⟩:=List.mem_iff_getElem?.1 h1
 exact⟨i,px,hi,h2⟩
theorem Inv.ofBr (h:Inv p F g0 t base A T ws){x:Br}(hx:x∈T.l):∃ (i:Nat) (px:Pic),A.pics[i]?=some px∧px.id=x.snap :=
 h.pic (List.mem_cons_of_mem _ (List.mem_append_left _ (List.mem_map.2 ⟨x,hx,rfl⟩)))
theorem Inv.ofWk (h:Inv p F g0 t base A T ws)(hk:k∈ws)(hb:k.busy=true):∃ (i:Nat) (px:Pic),A.pics[i]?=some px∧px.id=k.x :=
 h.pic (List.mem_cons_of_mem _ (List.mem_append_right _ (mem_heldW hk hb)))
theorem Inv.rest (h:Inv p F g0 t base A T (k::ws))(hA:WF A)(hb:k.busy=true)(hj:k'.busy=false)(hl:k'.jb=k.jb):Inv p F g0 t base (A.dropId k.x) T (k'::ws):=by
 rw[dropId_pics hA (λx hx=>(h.pics x hx).1)]
 refine⟨?_,λx hx=>h.pics x (memF hx),λx hx=>h.base x (memF hx),λy hy=>⟨(h.brs y hy).1,λx hx=>(h.brs y hy).2 x (memF hx)⟩,λk2 hk2=>?_⟩
 · simp only
   rw[map_filter_id,heldW_idle hj]
   refine perm_drop h.perm ?_ hA.nd
   rw[heldW_busy hb]
   exact (List.Perm.cons _ List.perm_middle).trans (List.Perm.swap _ _ _)
 · rcases List.mem_cons.1 hk2 with rfl | hk2
   · exact⟨by rw[hl];exact (h.wks k (List.mem_cons_self ..)).1,λe=>by rw[hj]at e;cases e⟩
   · refine⟨(h.wks k2 (List.mem_cons_of_mem _ hk2)).1,λe y hy hid=>?_⟩
     obtain⟨h1,h2⟩:=(h.wks k2 (List.mem_cons_of_mem _ hk2)).2 e y hy hid
     exact⟨h1,λx hx=>h2 x (memF hx)⟩
theorem mem_set_id {A:Sn}(hA:WF A){i:Nat}{px v z:Pic}(hi:A.pics[i]?=some px)(hz:z∈A.pics.set i v):z=v∨(z∈A.pics∧z.id≠px.id):=by
 obtain⟨j,hj⟩:=List.mem_iff_getElem?.1 hz
 rw[List.getElem?_set]at hj
 split at hj
 · split at hj
   · cases hj;exact .inl rfl
   · cases hj
 · rename_i hne
   exact .inr ⟨List.mem_of_getElem? hj,λe=>hne (hA.ids hi hj e.symm)⟩
theorem Inv.bit (h:Inv p F g0 t base A T (k::ws))(hA:WF A)(hT:WT T)(hb:Bit p A T J k r A' T' J' k'):Inv p F g0 t base A' T' (k'::ws):=by
 cases hb with
 | idle=>exact h
 | stale=>exact h
 | @took j J' i x px h1 h2 h3 h4 h5 h6 h7 h8 =>
   have hnew:∀ z∈A.pics,z.id≠A.last+1:=λz hz e=>by have:=(hA.pic z hz).2.1;omega
   have hpx:=List.mem_of_getElem? h7
   have hlt:∀ id∈base::(T.l.map (·.snap)++heldW (k::ws)),id≠A.last+1:=λid hid e=>by
     obtain⟨z,hz,he⟩:=List.mem_map.1 (h.perm.mem_iff.2 hid)
     exact hnew z hz (by rw[he,e])
   refine⟨?_,λz hz=>?_,λz hz he=>?_,λy hy=>⟨(h.brs y hy).1,λz hz he=>?_⟩,λk2 hk2=>?_⟩
   · simp only[Sn.add,List.map_append,List.map_cons,List.map_nil]
     rw[heldW_busy rfl]
     have hp:=h.perm
     rw[heldW_idle h1]at hp
     refine (hp.append_right _).trans ((List.perm_append_singleton _ _).trans ?_)
     exact (List.Perm.swap _ _ _).trans (List.Perm.cons _ List.perm_middle.symm)
   · simp only[Sn.add]at hz
     rcases List.mem_append.1 hz with hz | hz
     · exact h.pics z hz
     · simp at hz;subst hz
       exact⟨rfl,(h.pics px hpx).2⟩
   · simp only[Sn.add]at hz
     rcases List.mem_append.1 hz with hz | hz
     · exact h.base z hz he
     · simp at hz;subst hz
       exact absurd he.symm (hlt base (List.mem_cons_self ..))
   · simp only[Sn.add]at hz
     rcases List.mem_append.1 hz with hz | hz
     · exact (h.brs y hy).2 z hz he
     · simp at hz;subst hz
       exact absurd he.symm (hlt y.snap (List.mem_cons_of_mem _ (List.mem_append_left _ (List.mem_map.2 ⟨y,hy,rfl⟩))))
   · rcases List.mem_cons.1 hk2 with rfl | hk2
     · refine⟨?_,λ_ y hy hid=>?_⟩
       · have:=(hT.ok x h4).2.2.2
         simp only;omega
       · obtain rfl:y=x:=hT.same hy h4 (by simp only at hid;omega)
         refine⟨h6,λz hz he=>?_⟩
         simp only[Sn.add]at hz
         rcases List.mem_append.1 hz with hz | hz
         · exact absurd he (hnew z hz)
         · simp at hz;subst hz
           exact (h.brs y hy).2 px hpx h8
     · refine⟨(h.wks k2 (List.mem_cons_of_mem _ hk2)).1,λe y hy hid=>?_⟩
       obtain⟨h9,h10⟩:=(h.wks k2 (List.mem_cons_of_mem _ hk2)).2 e y hy hid
       refine⟨h9,λz hz he=>?_⟩
       simp only[Sn.add]at hz
       rcases List.mem_append.1 hz with hz | hz
       · exact h10 z hz he
       · simp at hz;subst hz
         exact absurd he.symm (hlt k2.x (List.mem_cons_of_mem _ (List.mem_append_right _ (mem_heldW (List.mem_cons_of_mem _ hk2) e))))
 | gone h1 h2=>exact h.rest hA h1 rfl rfl
 | failed h1=>exact h.rest hA h1 rfl rfl
 | lost h1=>exact h.rest hA h1 rfl rfl
 | @played x i px p' b h1 h2 h3 h4 h5 h6 h7 h8 h9 =>
   have hpx:=List.mem_of_getElem? h6
   have hnd:=h.nd hA
   rw[heldW_busy h1]at hnd
   have hmid:(base::(T.l.map (·.snap)++k.x::heldW ws)).Perm (k.x::(base::(T.l.map (·.snap)++heldW ws))):=(List.Perm.cons _ List.perm_middle).trans (List.Perm.swap _ _ _)
   have hno:=(List.nodup_cons.1 (hmid.nodup_iff.1 hnd)).1
   have hids:(A.pics.set i ⟨px.id,px.refs,frameI p (x.frm+k.done) b px.g,p'⟩).map (·.id)=A.pics.map (·.id):=map_set_id h6 rfl
   refine⟨?_,λz hz=>?_,λz hz he=>?_,λy hy=>⟨(h.brs y hy).1,λz hz he=>?_⟩,λk2 hk2=>?_⟩
   · simp only
     rw[hids,heldW_busy (by exact h1)]
     have hp:=h.perm
     rw[heldW_busy h1]at hp
     exact hp
   · rcases mem_set_id hA h6 hz with rfl | hz
     · exact⟨(h.pics px hpx).1,h9⟩
     · exact h.pics z hz.1
   · rcases mem_set_id hA h6 hz with rfl | hz
     · exact absurd (List.mem_cons.2 (.inl (by simp only at he;rw[← he,h7]))) hno
     · exact h.base z hz.1 he
   · rcases mem_set_id hA h6 hz with rfl | hz
     · refine absurd (List.mem_cons_of_mem _ (List.mem_append_left _ (List.mem_map.2 ⟨y,hy,?_⟩))) hno
       simp only at he;rw[← he,h7]
     · exact (h.brs y hy).2 z hz.1 he
   · rcases List.mem_cons.1 hk2 with rfl | hk2
     · have hk:=h.wks k (List.mem_cons_self ..)
       refine⟨hk.1,λ_ y hy hid=>?_⟩
       obtain rfl:y=x:=hT.same hy h3 (by simp only at hid;omega)
       obtain⟨h10,h11⟩:=hk.2 h1 y hy h4
       refine⟨h10,λz hz he=>?_⟩
       rcases mem_set_id hA h6 hz with rfl | hz
       · have h12:=h11 px hpx h7
         rw[h5]at h12
         have h13:y.press.take (k.done+1)=y.press.take k.done++[b]:=by
           rw[List.take_add_one,h8];rfl
         show frameI p (y.frm+k.done) b px.g=foldI p F g0 (y.press.take (k.done+1))
         rw[h13,foldI_snoc,List.length_take,Nat.min_eq_left (by omega),(h.brs y hy).1,h12]
         simp
       · simp only at he
         exact absurd (by rw[he,h7]) hz.2
     · have hk:=h.wks k2 (List.mem_cons_of_mem _ hk2)
       refine⟨hk.1,λe y hy hid=>?_⟩
       obtain⟨h10,h11⟩:=hk.2 e y hy hid
       refine⟨h10,λz hz he=>?_⟩
       rcases mem_set_id hA h6 hz with rfl | hz
       · refine absurd (List.mem_cons_of_mem _ (List.mem_append_right _ ?_)) hno
         simp only at he
         rw[← h7,he]
         exact mem_heldW hk2 e
       · exact h11 z hz.1 he
 | @pub x kk h1 h2 h3 h4 h5 h6 h7 =>
   rw[dropId_pics hA (λx hx=>(h.pics x hx).1)]
   have hx:=List.mem_of_getElem? h3
   obtain⟨hkl,hke⟩:=List.getElem?_eq_some_iff.1 h3
   have hk:=h.wks k (List.mem_cons_self ..)
   refine⟨?_,λz hz=>h.pics z (memF hz),λz hz=>h.base z (memF hz),λy hy=>?_,λk2 hk2=>?_⟩
   · simp only[Tr.pub]
     rw[map_filter_id,heldW_idle (by rfl)]
     refine perm_drop h.perm ?_ hA.nd
     rw[heldW_busy h1]
     have e1:(T.l.map (·.snap)).Perm (x.snap::(T.l.eraseIdx kk).map (·.snap)):=by
       have:=(erase_perm T.l hkl).map (·.snap)
       rw[List.map_cons,hke]at this;exact this
     have e2:((T.l.set kk { x with done:=k.done+1,snap:=k.x }).map (·.snap)).Perm (k.x::(T.l.eraseIdx kk).map (·.snap)):=by
       have:=(erase_perm (T.l.set kk { x with done:=k.done+1,snap:=k.x }) (by simpa using hkl)).map (·.snap)
       rw[List.map_cons,List.getElem_set_self,List.eraseIdx_set_eq]at this;exact this
     have e3:(base::(T.l.map (·.snap)++k.x::heldW ws)).Perm (base::(x.snap::((T.l.eraseIdx kk).map (·.snap)++k.x::heldW ws))):=(e1.append_right _).cons _
     refine e3.trans ((List.Perm.swap _ _ _).trans (List.Perm.cons _ (List.Perm.cons _ ?_)))
     exact List.perm_middle.trans (e2.append_right _).symm
   · simp only[Tr.pub]at hy
     rcases List.mem_or_eq_of_mem_set hy with hy | rfl
     · exact⟨(h.brs y hy).1,λz hz=>(h.brs y hy).2 z (memF hz)⟩
     · refine⟨(h.brs x hx).1,λz hz he=>?_⟩
       have:=(hk.2 h1 x hx h4).2 z (memF hz) he
       rw[h5]at this
       exact this
   · have hset : ∀ y ∈ (T.pub kk x (k.done + 1) k.x).l, ∃ y0 ∈ T.l, y0.id = y.id ∧ y0.press = y.press := fun y hy => by
       simp only[Tr.pub]at hy
       rcases List.mem_or_eq_of_mem_set hy with hy | rfl
       · exact⟨y,hy,rfl,rfl⟩
       · exact⟨x,hx,rfl,rfl⟩
     rcases List.mem_cons.1 hk2 with rfl | hk2
     · exact⟨hk.1,λe=>by cases e⟩
     · have hk3:=h.wks k2 (List.mem_cons_of_mem _ hk2)
       refine⟨hk3.1,λe y hy hid=>?_⟩
       obtain⟨y0,hy0,e1,e2⟩:=hset y hy
       obtain⟨h10,h11⟩:=hk3.2 e y0 hy0 (by rw[e1];exact hid)
       rw[e2]at h10 h11
       exact⟨h10,λz hz=>h11 z (memF hz)⟩
theorem putJ_len {b e:Int}(h:J.length≤16):(putJ J b e).length≤16:=by
 unfold putJ
 split
 · rename_i h1
   simp only[mayPut,Bool.and_eq_true,decide_eq_true_eq]at h1
   simp;omega
 · exact h
theorem dropId_same (A:Sn)(id:Nat):(A.dropId id).room=A.room∧(A.dropId id).n=A.n∧(A.dropId id).last=A.last:=by
 unfold Sn.dropId
 split
 · split
   · simp[Sn.drop]
   · exact⟨rfl,rfl,rfl⟩
 · exact⟨rfl,rfl,rfl⟩
structure Near (A:Sn)(T:Tr)(J:Js)(A':Sn)(T':Tr)(J':Js):Prop where
 room:A'.room=A.room
 n:A'.n≤A.n+1
 most:T'.most=T.most
 last:T'.last=T.last
 epoch:T'.epoch=T.epoch
 l:T'.l.map (λy=>(y.id,y.press))=T.l.map (λy=>(y.id,y.press))
 len:J.length≤16→J'.length≤16
theorem Bit.near (hb:Bit p A T J k r A' T' J' k'):Near A T J A' T' J':=by
 cases hb with
 | idle=>exact⟨rfl,by omega,rfl,rfl,rfl,rfl,λh=>h⟩
 | stale h1 h2=>exact⟨rfl,by omega,rfl,rfl,rfl,rfl,λh=>by rw[h2,List.length_cons]at h;omega⟩
 | took h1 h2=>exact⟨rfl,by simp[Sn.add],rfl,rfl,rfl,rfl,λh=>by rw[h2,List.length_cons]at h;omega⟩
 | gone=>exact⟨(dropId_same A _).1,by rw[(dropId_same A _).2.1];omega,rfl,rfl,rfl,rfl,λh=>h⟩
 | played=>exact⟨rfl,by simp,rfl,rfl,rfl,rfl,λh=>h⟩
 | failed=>exact⟨(dropId_same A _).1,by rw[(dropId_same A _).2.1];omega,rfl,rfl,rfl,rfl,putJ_len⟩
 | lost=>exact⟨(dropId_same A _).1,by rw[(dropId_same A _).2.1];omega,rfl,rfl,rfl,rfl,λh=>by split <;> first | exact putJ_len h | exact h⟩
 | @pub x kk h1 h2 h3 =>
   refine⟨(dropId_same A _).1,by rw[(dropId_same A _).2.1];omega,rfl,rfl,rfl,?_,λh=>by split <;> first | exact putJ_len h | exact h⟩
   obtain⟨hkl,hke⟩:=List.getElem?_eq_some_iff.1 h3
   simp only[Tr.pub]
   apply List.ext_getElem?
   intro j
   simp only[List.getElem?_map,List.getElem?_set]
   by_cases hj:kk=j
   · subst hj;simp[hkl,hke]
   · rw[if_neg hj]
end
end
section
theorem nodup_inj {α:Type}{f:α→Nat}:∀ {l:List α},(l.map f).Nodup→∀ {x y:α},x∈l→y∈l→f x=f y→x=y:=by
 intro l
 induction l with
 | nil=>intro _ x y hx;cases hx
 | cons a l ih =>
   intro hd x y hx hy he
   rw[List.map_cons,List.nodup_cons]at hd
   rcases List.mem_cons.1 hx with hxa | hx
   · rcases List.mem_cons.1 hy with hya | hy
     · rw[hxa,hya]
     · exact absurd (List.mem_map.2 ⟨y,hy,by rw[← he,hxa]⟩) hd.1
   · rcases List.mem_cons.1 hy with hya | hy
     · exact absurd (List.mem_map.2 ⟨x,hx,by rw[he,hya]⟩) hd.1
     · exact ih hd.2 hx hy he
theorem WF.dropId {A:Sn}(hw:WF A)(hr:∀ x∈A.pics,x.refs=1)(id:Nat):WF (A.dropId id):=by
 by_cases h:∃ px∈A.pics,px.id=id
 · obtain⟨px,h1,rfl⟩:=h
   obtain⟨i,hi⟩:=List.mem_iff_getElem?.1 h1
   rw[dropId_some hw hi,Sn.drop,if_pos (hr px h1)]
   exact hw.erase i
 · rw[dropId_none (λy hy e=>h ⟨y,hy,e⟩)];exact hw
theorem dropAll_pics:∀ (l:List Br) {A:Sn},WF A→(∀ x∈A.pics,x.refs=1)→A.dropAll l={ A with pics:=A.pics.filter (λx=>!(l.map (·.snap)).contains x.id) }:=by
 intro l
 induction l with
 | nil =>
   intro A hw hr
   have:A.pics.filter (λx=>!(([]:List Br).map (·.snap)).contains x.id)=A.pics:=List.filter_eq_self.2 λx _=>rfl
   rw[this];rfl
 | cons y l ih =>
   intro A hw hr
   have h1:A.dropAll (y::l)=(A.dropId y.snap).dropAll l:=rfl
   have h2:=dropId_pics hw hr y.snap
   have h3:∀ x∈(A.dropId y.snap).pics,x.refs=1:=by rw[h2];exact λx hx=>hr x (memF hx)
   rw[h1,ih (hw.dropId hr _) h3,h2]
   simp only[List.filter_filter]
   congr 1
   refine List.filter_congr λx _=>?_
   simp only[List.map_cons,List.contains_cons,Bool.not_or]
   rw[Bool.and_comm];rfl
theorem perm_cut {base:Nat}{l:List Br}{f:Br→Bool}{H M:List Nat}(hp:M.Perm (base::(l.map (·.snap)++H)))(nd:M.Nodup) :
   (M.filter (λid=>!((l.filter f).map (·.snap)).contains id)).Perm (base::((l.filter (λx=>!f x)).map (·.snap)++H)):=by
 have h1:=hp.nodup_iff.1 nd
 have h2:=hp.filter (λid=>!((l.filter f).map (·.snap)).contains id)
 have h3:=List.nodup_cons.1 h1
 have h4:=List.nodup_append.1 h3.2
 have hsub:∀ id,id∈(l.filter f).map (·.snap)→id∈l.map (·.snap):=λid h=>by
   obtain⟨y,hy,rfl⟩:=List.mem_map.1 h
   exact List.mem_map.2 ⟨y,memF hy,rfl⟩
 have hb:(!((l.filter f).map (·.snap)).contains base)=true:=by
   simp only[Bool.not_eq_true',List.contains_eq_mem,decide_eq_false_iff_not]
   exact λh=>h3.1 (List.mem_append_left _ (hsub _ h))
 have hH:H.filter (λid=>!((l.filter f).map (·.snap)).contains id)=H:=List.filter_eq_self.2 λz hz=>by
   simp only[Bool.not_eq_true',List.contains_eq_mem,decide_eq_false_iff_not]
   exact λh=>h4.2.2 z (hsub _ h) z hz rfl
 have hl:(l.map (·.snap)).filter (λid=>!((l.filter f).map (·.snap)).contains id)=(l.filter (λx=>!f x)).map (·.snap):=by
   rw[List.filter_map]
   congr 1
   refine List.filter_congr λy hy=>?_
   simp only[Function.comp]
   congr 1
   cases hf:f y with
   | true =>
     simp only[List.contains_eq_mem,decide_eq_true_eq]
     exact List.mem_map.2 ⟨y,List.mem_filter.2 ⟨hy,hf⟩,rfl⟩
   | false =>
     simp only[List.contains_eq_mem,decide_eq_false_iff_not]
     intro h
     obtain⟨z,hz,he⟩:=List.mem_map.1 h
     obtain⟨hz1,hz2⟩:=List.mem_filter.1 hz
     have:=nodup_inj h4.1 hz1 hy he
     rw[this,hf]at hz2;cases hz2
 rw[List.filter_cons,if_pos hb,List.filter_append,hl,hH]at h2
 exact h2
section
variable {p:Pr}{F:Int}{g0:Nat→Int}{t:Nat→Nat}{base:Nat}{A:Sn}{T:Tr}{ws:List Wk}{k:Wk}{px:Pic}{P:List (List UInt8)}{i:Nat}
theorem Inv.cut (h:Inv p F g0 t base A T ws)(hA:WF A)(f:Br→Bool):Inv p F g0 t base (A.dropAll (T.l.filter f)) (T.cut f) ws:=by
 rw[dropAll_pics _ hA (λx hx=>(h.pics x hx).1)]
 refine⟨?_,λx hx=>h.pics x (memF hx),λx hx=>h.base x (memF hx),λy hy=>⟨(h.brs y (memF hy)).1,λx hx=>(h.brs y (memF hy)).2 x (memF hx)⟩,λk hk=>⟨(h.wks k hk).1,λe y hy hid=>?_⟩⟩
 · simp only[Tr.cut]
   have h1:=perm_cut (f:=f) h.perm hA.nd
   have h2:(A.pics.filter (λx=>!((T.l.filter f).map (·.snap)).contains x.id)).map (·.id)=(A.pics.map (·.id)).filter (λid=>!((T.l.filter f).map (·.snap)).contains id):=by
     rw[List.filter_map];rfl
   rw[h2];exact h1
 · obtain⟨h1,h2⟩:=(h.wks k hk).2 e y (memF hy) hid
   exact⟨h1,λx hx=>h2 x (memF hx)⟩
theorem Inv.addBr (h:Inv p F g0 t base A T ws)(hA:WF A)(hT:WT T)(hi:A.pics[i]?=some px)(hb:px.id=base):Inv p F g0 t base (A.add px.g px.p) (T.add F P (A.last+1)) ws:=by
 have hpx:=List.mem_of_getElem? hi
 have hnew:∀ z∈A.pics,z.id≠A.last+1:=λz hz e=>by have:=(hA.pic z hz).2.1;omega
 have hlt:∀ id∈base::(T.l.map (·.snap)++heldW ws),id≠A.last+1:=λid hid e=>by
   obtain⟨z,hz,he⟩:=List.mem_map.1 (h.perm.mem_iff.2 hid)
   exact hnew z hz (by rw[he,e])
 have hin:∀ z∈(A.add px.g px.p).pics,z∈A.pics∨z=⟨A.last+1,1,px.g,px.p⟩:=λz hz=>by
   simp only[Sn.add]at hz
   rcases List.mem_append.1 hz with hz | hz
   · exact .inl hz
   · simp at hz;exact .inr hz
 refine⟨?_,λz hz=>?_,λz hz he=>?_,λy hy=>?_,λk hk=>⟨?_,λe y hy hid=>?_⟩⟩
 · simp only[Sn.add,Tr.add,List.map_append,List.map_cons,List.map_nil]
   refine (h.perm.append_right _).trans ((List.perm_append_singleton _ _).trans ((List.Perm.swap _ _ _).trans (List.Perm.cons _ ?_)))
   rw[List.append_assoc]
   exact List.perm_middle.symm
 · rcases hin z hz with hz | rfl
   · exact h.pics z hz
   · exact⟨rfl,(h.pics px hpx).2⟩
 · rcases hin z hz with hz | rfl
   · exact h.base z hz he
   · exact absurd he.symm (hlt base (List.mem_cons_self ..))
 · simp only[Tr.add]at hy
   rcases List.mem_append.1 hy with hy | hy
   · refine⟨(h.brs y hy).1,λz hz he=>?_⟩
     rcases hin z hz with hz | rfl
     · exact (h.brs y hy).2 z hz he
     · exact absurd he.symm (hlt y.snap (List.mem_cons_of_mem _ (List.mem_append_left _ (List.mem_map.2 ⟨y,hy,rfl⟩))))
   · simp at hy;subst hy
     refine⟨rfl,λz hz he=>?_⟩
     rcases hin z hz with hz | rfl
     · exact absurd he (hnew z hz)
     · exact (h.base px hpx hb).1
 · have:=(h.wks k hk).1
   simp only[Tr.add];omega
 · have hk1:=(h.wks k hk).1
   simp only[Tr.add]at hy
   rcases List.mem_append.1 hy with hy | hy
   · obtain⟨h1,h2⟩:=(h.wks k hk).2 e y hy hid
     refine⟨h1,λz hz he=>?_⟩
     rcases hin z hz with hz | rfl
     · exact h2 z hz he
     · exact absurd he.symm (hlt k.x (List.mem_cons_of_mem _ (List.mem_append_right _ (mem_heldW hk e))))
   · simp at hy;subst hy
     simp only at hid;omega
theorem Inv.len (h:Inv p F g0 t base A T ws):A.pics.length=1+T.l.length+(heldW ws).length:=by
 have:=h.perm.length_eq
 simp only[List.length_map,List.length_cons,List.length_append]at this
 omega
end
end
end Go.Proofs.YtdilfdkendjjhaaGreat
