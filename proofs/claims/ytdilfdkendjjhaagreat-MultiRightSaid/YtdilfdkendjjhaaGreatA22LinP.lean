/- Plain side of lines of presses, of guesses: what is put, the front, the joint presses, weights, the first value, chains. -/
import Derived.Test.YtdilfdkendjjhaaGreatA18PktP
import Derived.Test.YtdilfdkendjjhaaGreatA21Pkt3
import Derived.Test.YtdilfdkendjjhaaGreatA02More2
namespace Go.Proofs.YtdilfdkendjjhaaGreat
open Go.RowKit
set_option linter.unusedVariables false
set_option linter.unusedSimpArgs false
set_option maxRecDepth 10000
set_option synthInstance.maxSize 4000
set_option synthInstance.maxHeartbeats 400000
section
def putLn (l:List UInt8)(f:Nat)(b:List UInt8):List UInt8:=if l.length<f then l else l++(b.drop (l.length-f)).take (1000-l.length)
theorem putLn_len {l:List UInt8}{f:Nat}{b:List UInt8}(h:l.length≤1000):l.length≤(putLn l f b).length∧(putLn l f b).length≤1000:=by
 unfold putLn
 split
 · omega
 · rw[List.length_append,List.length_take];omega
theorem putLn_add {l b:List UInt8}{f i:Nat}(hf:f≤l.length)(hi:i<b.length)(h1:l.length-f≤i)(h2:l.length+(i-(l.length-f))<1000) :
   l++(b.drop (l.length-f)).take (i+1-(l.length-f))=(l++(b.drop (l.length-f)).take (i-(l.length-f)))++[b[i]]:=by
 rw[show i+1-(l.length-f)=(i-(l.length-f))+1 from by omega,List.append_assoc]
 congr 1
 rw[List.take_succ_eq_append_getElem (by rw[List.length_drop];omega)]
 congr 2
 rw[List.getElem_drop]
 congr 1
 omega
def frontN (ls:List (List UInt8)):Nat→Nat
 | 0=>(ls.headD []).length
 | i+1=>min (frontN ls i) (ls.getD i []).length
def frontL (ls:List (List UInt8)):Nat:=frontN ls ls.length
theorem frontN_one (ls:List (List UInt8)):frontN ls 1=frontN ls 0:=by
 rw[frontN,frontN]
 cases ls <;> simp[frontN]
theorem frontN_le {ls:List (List UInt8)}:∀ {i j:Nat},j<i→frontN ls i≤(ls.getD j []).length
 | 0,_,h=>absurd h (by omega)
 | i+1,j,h=>by
   rw[frontN]
   by_cases hj:j=i
   · subst hj;exact Nat.min_le_right _ _
   · exact Nat.le_trans (Nat.min_le_left _ _) (frontN_le (by omega))
theorem frontL_le {ls:List (List UInt8)}{l:List UInt8}(h:l∈ls):frontL ls≤l.length:=by
 obtain⟨i,hi,rfl⟩:=List.getElem_of_mem h
 have:=frontN_le (ls:=ls) (i:=ls.length) hi
 rwa [List.getD_eq_getElem?_getD,List.getElem?_eq_getElem hi]at this
theorem frontN_some (ls:List (List UInt8)):∀ i,i≤ls.length→ls≠[]→∃ l∈ls,frontN ls i=l.length
 | 0,_,h=>by
   cases ls with
   | nil=>exact absurd rfl h
   | cons a r=>exact⟨a,by simp,rfl⟩
 | i+1,hi,h=>by
   obtain⟨l,hl,e⟩:=frontN_some ls i (by omega) h
   rw[frontN]
   rcases Nat.le_total (frontN ls i) (ls.getD i []).length with h1 | h1
   · rw[Nat.min_eq_left h1];exact⟨l,hl,e⟩
   · rw[Nat.min_eq_right h1,List.getD_eq_getElem?_getD,List.getElem?_eq_getElem (by omega)]
     exact⟨ls[i],List.getElem_mem _,rfl⟩
theorem frontL_some {ls:List (List UInt8)}(h:ls≠[]):∃ l∈ls,frontL ls=l.length:=frontN_some ls _ (Nat.le_refl _) h
theorem frontL_ge {ls:List (List UInt8)}{n:Nat}(h:ls≠[])(hn:∀ l∈ls,n≤l.length):n≤frontL ls:=by
 obtain⟨l,hl,e⟩:=frontL_some h
 rw[e];exact hn l hl
def jointN (ls:List (List UInt8))(f i:Nat):List UInt8:=(ls.take i).map (·.getD f 0)
def jointL (ls:List (List UInt8))(f:Nat):List UInt8:=ls.map (·.getD f 0)
theorem jointN_all (ls:List (List UInt8))(f:Nat):jointN ls f ls.length=jointL ls f:=by rw[jointN,List.take_length,jointL]
theorem jointN_succ {ls:List (List UInt8)}{f i:Nat}(h:i<ls.length):jointN ls f (i+1)=jointN ls f i++[ls[i].getD f 0]:=by
 rw[jointN,List.take_succ_eq_append_getElem h,List.map_append];rfl
theorem jointN_len {ls:List (List UInt8)}{f i:Nat}(h:i≤ls.length):(jointN ls f i).length=i:=by
 rw[jointN,List.length_map,List.length_take];omega
theorem jointL_len (ls:List (List UInt8))(f:Nat):(jointL ls f).length=ls.length:=by rw[jointL,List.length_map]
structure Gs where
 kind:Int
 order:Int
 table:List UInt8
def mayGs (b:Gs):Prop:=(b.kind=1∧b.order=0∧b.table.length=0)∨(b.kind=2∧0≤b.order∧b.order≤3∧b.table.length=0)∨(b.kind=3∧b.order=0∧1≤b.table.length∧b.table.length≤1000)
instance (b:Gs):Decidable (mayGs b):=inferInstanceAs (Decidable (_∨_))
def endsB (o:Nat)(past:List UInt8)(i:Nat):Bool:=(past.drop (i-o)).take o==past.drop (past.length-o)
def wtN (o:Nat)(past:List UInt8):Nat→Nat→Int
 | 0=>λ_=>0
 | i+1=>if o≤i∧endsB o past i=true then upd (wtN o past i) (past.getD i 0).toNat (wtN o past i (past.getD i 0).toNat+1) else wtN o past i
theorem wtN_low {o:Nat}{past:List UInt8}:∀ {i:Nat},i≤o→wtN o past i=λ_=>0
 | 0,_=>rfl
 | i+1,h=>by rw[wtN,if_neg (by omega),wtN_low (by omega)]
theorem wtN_bd (o:Nat)(past:List UInt8):∀ (i v:Nat),0≤wtN o past i v∧wtN o past i v≤i
 | 0,v=>⟨Int.le_refl _,Int.le_refl _⟩
 | i+1,v=>by
   have h:=wtN_bd o past i v
   have h2:=wtN_bd o past i (past.getD i 0).toNat
   rw[wtN]
   split
   · unfold upd
     split <;> omega
   · omega
def wtL (b:Gs)(past:List UInt8):Nat→Int:=if b.kind=2 then wtN b.order.toNat past past.length else λ_=>0
def lastB (past:List UInt8):UInt8:=past.getLastD 0
def bestN (w:Nat→Int)(last:Nat):Nat→Nat
 | 0=>last
 | i+1=>if w (bestN w last i)<w i then i else bestN w last i
theorem bestN_lt {w:Nat→Int}{last:Nat}(hl:last<256):∀ {i:Nat},i≤256→bestN w last i<256
 | 0,_=>hl
 | i+1,h=>by
   rw[bestN]
   split
   · omega
   · exact bestN_lt hl (by omega)
theorem bestN_last {w:Nat→Int}{last:Nat}:∀ {i:Nat},(∀ v,v<i→w v≤w last)→bestN w last i=last
 | 0,_=>rfl
 | i+1,h=>by
   have ih:=bestN_last (i:=i) λv hv=>h v (by omega)
   rw[bestN,ih,if_neg]
   have:=h i (by omega)
   omega
theorem bestN_of {w:Nat→Int}{last x:Nat}(h0:w last<w x)(h1:∀ v,v<x→w v<w x):∀ {i:Nat},(∀ v,v<i→w v≤w x)→(i≤x→w (bestN w last i)<w x)∧(x<i→bestN w last i=x)
 | 0,_=>⟨λ_=>h0,λh=>absurd h (by omega)⟩
 | i+1,h=>by
   have ih:=bestN_of h0 h1 (i:=i) λv hv=>h v (by omega)
   rw[bestN]
   refine⟨λhi=>?_,λhi=>?_⟩
   · have:=ih.1 (by omega)
     have:=h1 i (by omega)
     split <;> assumption
   · by_cases hx:x=i
     · subst hx
       rw[if_pos (ih.1 (by omega))]
     · rw[ih.2 (by omega),if_neg]
       have:=h i (by omega)
       omega
def firstB (b:Gs)(past:List UInt8):UInt8:=if b.kind=3 then b.table.getD (past.length%b.table.length) 0 else UInt8.ofNat (bestN (wtL b past) (lastB past).toNat 256)
def chainN (b:Gs)(past:List UInt8):Nat→List UInt8
 | 0=>past
 | i+1=>chainN b past i++[firstB b (chainN b past i)]
theorem chainN_len (b:Gs)(past:List UInt8):∀ i,(chainN b past i).length=past.length+i
 | 0=>rfl
 | i+1=>by rw[chainN,List.length_append,chainN_len b past i];rfl
theorem chainN_take (b:Gs)(past:List UInt8):∀ i,(chainN b past i).take past.length=past
 | 0=>List.take_length
 | i+1=>by
   rw[chainN,List.take_append_of_le_length (by rw[chainN_len];omega),chainN_take b past i]
def chainB (b:Gs)(past:List UInt8)(n:Nat):List UInt8:=(chainN b past n).drop past.length
theorem chainB_len (b:Gs)(past:List UInt8)(n:Nat):(chainB b past n).length=n:=by rw[chainB,List.length_drop,chainN_len];omega
theorem chain_all (b:Gs)(past:List UInt8)(n:Nat):past++chainB b past n=chainN b past n:=by
 conv=>lhs;lhs;rw[← chainN_take b past n]
 rw[chainB,List.take_append_drop]
theorem chainB_succ (b:Gs)(past:List UInt8)(n:Nat):chainB b past (n+1)=chainB b past n++[firstB b (past++chainB b past n)]:=by
 rw[chain_all,chainB,chainN,List.drop_append_of_le_length (by rw[chainN_len];omega)];rfl
def fullB (b:Gs)(past:List UInt8)(to:Nat):List UInt8:=chainN b past (to-past.length)
def fullL (b:Gs)(ls:List (List UInt8))(to:Nat):List (List UInt8):=ls.map λl=>fullB b l to
theorem fullB_len (b:Gs)(past:List UInt8)(to:Nat):to≤(fullB b past to).length:=by rw[fullB,chainN_len];omega
def aheadL (b:Gs)(ls:List (List UInt8))(to:Nat):List (List UInt8):=(List.range (to-frontL ls)).map λi=>jointL (fullL b ls to) (frontL ls+i)
theorem aheadL_len (b:Gs)(ls:List (List UInt8))(to:Nat):(aheadL b ls to).length=to-frontL ls:=by simp[aheadL]
end
section
abbrev Lx:=Nat×List UInt8
def Ln (x:Lx):SP:=λh=>∃ (ad:Option Addr) (c:Nat),sepL [blk x.1 296 [.slice ad x.2.length c],Sl 5 1 ad x.2.length c (bc x.2)] h
section
variable {W w:World}{L L' R:List SP}{n c m lb:Nat}{ad:Option Addr}{l bs:List UInt8}{x:UInt8}
theorem Ln.open (hs:St W w (Ln (lb,l)::L)):∃ (ad:Option Addr) (c:Nat),St W w (blk lb 296 [.slice ad l.length c]::Sl 5 1 ad l.length c (bc l)::L):=by
 obtain⟨ad,_,hs⟩:=hs.exi (p:=λ_=>True) (B:=λad h=>∃ c,sepL [blk lb 296 [.slice ad l.length c],Sl 5 1 ad l.length c (bc l)] h) λ_ ⟨ad,c,h⟩=>⟨ad,trivial,c,h⟩
 obtain⟨c,_,hs⟩:=hs.exi (p:=λ_=>True) (B:=λc h=>sepL [blk lb 296 [.slice ad l.length c],Sl 5 1 ad l.length c (bc l)] h) λ_ ⟨c,h⟩=>⟨c,trivial,h⟩
 exact⟨ad,c,hs.open (M:=[_,_]) λ_ h=>h⟩
theorem Ln.close (hs:St W w (blk lb 296 [.slice ad l.length c]::Sl 5 1 ad l.length c (bc l)::L)):St W w (Ln (lb,l)::L) :=
 St.shut (M:=[_,_]) hs λ_ h=>⟨ad,c,h⟩
theorem Ln.mk' (hs:St W w L)(ad:Option Addr)(c:Nat)[k:Arr L (blk lb 296 [.slice ad l.length c]::Sl 5 1 ad l.length c (bc l)::L') R]:St W w (Ln (lb,l)::L'):=Ln.close (ad:=ad) (c:=c) hs.sub
theorem made8 (d:Nat):(madeCells (Value.int .u8 0).cells (d*1)).toList=bc (List.replicate d 0):=by
 apply List.ext_getElem?
 intro i
 by_cases h:i<d
 · rw[bc_at (by simpa using h)]
   rw[madeCells,Array.getElem?_toList,Array.getElem?_map,Array.getElem?_range]
   simp[h,Value.cells,Nat.mod_one]
 · rw[List.getElem?_eq_none (by simp[madeCells];omega),List.getElem?_eq_none (by rw[bc_len];simp;omega)]
theorem St.slWhole {b e sz m:Nat}{cs:List Value}(hs:St W w (blk b e cs::L))(h:cs.length=m*sz):St W w (Sl e sz (some ⟨b,0,none⟩) m m cs::L) :=
 St.slShut (pre:=[]) (post:=[]) (n:=m) (c:=m) (sz:=sz) (cs:=cs) (by simpa using hs) h (Nat.le_refl _) (by rw[Nat.sub_self,Nat.zero_mul];exact Nat.zero_le _)
theorem RdB.cutLH {w:World}{ad:Option Addr}{bs:List UInt8}{c lo n:Nat}(h:RdB w ad bs.length bs)(hl:lo+n≤bs.length)(hc:bs.length≤c):RdB w (cutAd ad lo c 1) n ((bs.drop lo).take n) :=
 (h.cutL (lo:=lo) (by omega) hc).cutH (by rw[List.length_drop];omega)
theorem line_new {d:Nat}(hs:St W w L)(hd:d≤8):Calls Tryz.prog 221 #[.int .i64 d] w λe w'=>∃ lb,e=.returned (pt lb)∧St W w' (Ln (lb,List.replicate d 0)::L):=by
 refine EN Tryz.func221 Tryz.ntmps221 rfl rfl λa ha=>?_
 refine RN 6 ha hs λa ha=>?_
 rw[show min (max (d:Int) 0) 8=(d:Int) from by omega]at ha
 refine st_makeSlice ha rfl hs Tryz.underlying22 Ty.t5 rfl (by omega) (by omega) λb6 a w ha hs ho=>?_
 clear ho
 rw[made8]at hs
 replace hs:=hs.slWhole (m:=d) (sz:=1) (by rw[bc_len,List.length_replicate,Nat.mul_one])
 refine BX 1 ha hs λb8 a w ha hs=>?_
 refine RN 1 ha hs λa ha=>?_
 replace hs:St W w (blk b8 296 [.slice (some ⟨b6,0,none⟩) (List.replicate d (0:UInt8)).length d]::Sl 5 1 (some ⟨b6,0,none⟩) (List.replicate d (0:UInt8)).length d (bc (List.replicate d 0))::L):=by
   rw[List.length_replicate];exact hs
 refine RT 0 ha hs ?_
 exact⟨b8,rfl,Ln.close hs⟩
theorem line_len (hs:St W w (Ln (lb,l)::L)):Calls Tryz.prog 148 #[pt lb] w λe w'=>e=.returned (.int .i64 l.length)∧St W w' (Ln (lb,l)::L):=by
 obtain⟨ad,c,hs⟩:=Ln.open hs
 refine EN Tryz.func148 Tryz.ntmps148 rfl rfl λa ha=>?_
 refine RN 6 ha hs λa ha=>?_
 replace ha:=ha.isF 4
 refine RT 8 ha hs ?_
 exact⟨rfl,Ln.close hs⟩
theorem line_at {f:Nat}(hs:St W w (Ln (lb,l)::L)):Calls Tryz.prog 183 #[pt lb,.int .i64 f] w λe w'=>e=.returned (.tuple #[.int .u8 ((l.getD f 0).toNat:Nat),.bool (decide (f<l.length))])∧St W w' (Ln (lb,l)::L):=by
 refine EN Tryz.func183 Tryz.ntmps183 rfl rfl λa ha=>?_
 refine RN 8 ha hs λa ha=>?_
 rw[decide_eq_false (by omega)]at ha
 refine CL 2 ha hs (line_len hs) λa w ha hs=>?_
 refine IF 2 ha hs (λhc0 a ha=>?_) λhc0 a ha=>?_
 ·
  refine RT 3 ha hs ?_
  exact⟨by rw[List.getD_eq_getElem?_getD,List.getElem?_eq_none (by omega),decide_eq_false (by omega)];rfl,hs⟩
 obtain⟨ad,c,hs⟩:=Ln.open hs
 have hfl:f<l.length:=by omega
 obtain⟨b,o,rfl,hr⟩:=(hs.rdB ad l rfl rfl).get (by omega)
 refine RN 7 ha hs λa ha=>?_
 refine SS ha (ld1 ha (hr f _ (bc_atD hfl))) λa ha=>?_
 refine RT 2 ha hs ?_
 exact⟨by rw[decide_eq_true hfl],Ln.close hs⟩
theorem line_add (hs:St W w (Ln (lb,l)::L))(hl:l.length≤1000):Calls Tryz.prog 177 #[pt lb,.int .u8 (x.toNat:Nat)] w λe w'=>e=.returned (.int .i64 (if l.length<1000 then 0 else 4))∧St W w' (Ln (lb,if l.length<1000 then l++[x] else l)::L):=by
 obtain⟨ad,c,hs⟩:=Ln.open hs
 refine EN Tryz.func177 Tryz.ntmps177 rfl rfl λa ha=>?_
 refine RN 7 ha hs λa ha=>?_
 replace ha:=ha.isF 5
 refine IF 9 ha hs (λhc1 a ha=>?_) λhc1 a ha=>?_
 ·
  refine RT 2 ha hs ?_
  exact⟨by rw[if_neg (by omega)],by rw[if_neg (by omega)];exact Ln.close hs⟩
 refine RN 7 ha hs λa ha=>?_
 refine st_buildSlice ha rfl hs Tryz.underlying22 Ty.t5 rfl rfl rfl rfl (by decide) (by decide) λb21 a w ha hs ho=>?_
 clear ho
 refine RN 0 ha hs λa ha=>?_
 refine st_append ha rfl hs Tryz.underlying22 Ty.t5 rfl rfl hs.rdAll rfl (bc_one [x]) (by decide) (by decide) (by omega) λad22 c22 a w ha hs=>?_
 rw[show bc l++_=bc (l++[x]) from (bc_app l [x]).symm]at hs
 refine ST 2 ha hs (λa w ha hs=>?_)
 refine RN 0 ha hs λa ha=>?_
 rw[show l.length+1=(l++[x]).length from by simp]at hs
 replace hs:=hs.sub (M:=blk lb 296 [.slice ad22 (l++[x]).length c22]::Sl 5 1 ad22 (l++[x]).length c22 (bc (l++[x]))::L)
 refine RT 2 ha hs ?_
 exact⟨by rw[if_pos (by omega)],by rw[if_pos (by omega)];exact Ln.close hs⟩
theorem line_put {f:Nat}(hs:St W w (Ln (lb,l)::L))(hl:l.length≤1000)(hb:bs.length≤65536)(hp:∀ w',St W w' L→RdB w' ad bs.length bs) :
   Calls Tryz.prog 205 #[pt lb,.int .i64 f,.slice ad bs.length c] w λe w'=>∃ n er:Int,e=.returned (.tuple #[.int .i64 n,.int .i64 er])∧St W w' (Ln (lb,putLn l f bs)::L):=by
 refine EN Tryz.func205 Tryz.ntmps205 rfl rfl λa ha=>?_
 refine RN 8 ha hs λa ha=>?_
 replace ha:=ha.isF 11
 refine RN 5 ha hs λa ha=>?_
 rw[decide_eq_false (by omega)]at ha
 refine RN 2 ha hs λa ha=>?_
 obtain⟨adl,cl,hs⟩:=Ln.open hs
 refine IF 8 ha hs (λhc2 a ha=>?_) λhc2 a ha=>?_
 ·
  replace hs:=Ln.close hs
  refine RT 3 ha hs ?_
  exact⟨_,_,rfl,by rw[putLn,if_pos (by omega)];exact hs⟩
 refine RN 11 ha hs λa ha=>?_
 rw[show ((l.length:Nat):Int)-(f:Int)=((l.length-f:Nat):Int) from by omega]at ha
 refine RN 1 ha hs λa ha=>?_
 replace hs:=Ln.close hs
 have hfl:f≤l.length:=by omega
 refine wp_loop_ghost (λμ a w=>∃ (i:Nat),(μ=bs.length-i∧l.length-f≤i∧(i≤bs.length∨i=l.length-f)∧l.length+(i-(l.length-f))≤1000)∧Fr a 51 [(0,pt lb),(2,.slice ad bs.length c),(8,.int .i64 (i-(l.length-f):Nat)),(9,.int .i64 i)]∧St W w (Ln (lb,l++(bs.drop (l.length-f)).take (i-(l.length-f)))::L)) (bs.length-(l.length-f)) (⟨l.length-f,⟨rfl,Nat.le_refl _,.inr rfl,by omega⟩,by rw[Nat.sub_self];exact ha.keep [0,2,8,9],by rw[Nat.sub_self,List.take_zero,List.append_nil];exact hs⟩) ?_
 clear ha hs
 rintro μ a w ⟨i,⟨rfl,hi,hib,hi1⟩,ha,hs⟩
 refine IF 6 ha hs (λhc3 a ha=>?_) λhc3 a ha=>?_
 ·
  obtain⟨bb,oo,rfl,hr⟩:=(hp _ hs.tail).get (by omega)
  have hil:i<bs.length:=by omega
  have hlen:(l++(bs.drop (l.length-f)).take (i-(l.length-f))).length=l.length+(i-(l.length-f)):=by rw[List.length_append,List.length_take,List.length_drop];omega
  refine RN 7 ha hs λa ha=>?_
  refine SS ha (ld1 ha (hr i _ (bc_at hil))) λa ha=>?_
  refine CL 0 ha hs (line_add hs (by rw[hlen];omega)) λa w ha hs=>?_
  rw[hlen]at ha hs
  refine IF 4 ha hs (λhc4 a ha=>?_) λhc4 a ha=>?_
  ·
   have h9:¬ l.length+(i-(l.length-f))<1000:=λh=>hc4 (if_pos h)
   rw[if_neg h9]at hs
   refine RT 5 ha hs ?_
   exact⟨_,_,rfl,by rw[putLn,if_neg (by omega),show 1000-l.length=i-(l.length-f) from by omega];exact hs⟩
  have h9:l.length+(i-(l.length-f))<1000:=Decidable.of_not_not λh=>by rw[if_neg h]at hc4;cases hc4
  rw[if_pos h9]at hs
  refine RN 6 ha hs λa ha=>?_
  exact⟨bs.length-(i+1),by omega,i+1,⟨rfl,by omega,by omega,by omega⟩,by rw[show ((i+1-(l.length-f):Nat):Int)=((i-(l.length-f):Nat):Int)+1 from by omega];exact ha.keep [0,2,8,9],by rw[putLn_add hfl hil hi h9];exact hs⟩
 refine RT 4 ha hs ?_
 exact⟨_,_,rfl,by rw[putLn,if_neg (by omega),List.take_of_length_le (by rw[List.length_drop];omega)];rw[List.take_of_length_le (by rw[List.length_drop];omega)]at hs;exact hs⟩
theorem line_from {f k:Nat}(hs:St W w (Ln (lb,l)::L))(hl:l.length≤1000)(hf:f≤1000)(hk:1≤k∧k≤1000) :
   Calls Tryz.prog 207 #[pt lb,.int .i64 f,.int .i64 k] w λe w'=>∃ ad' c',e=.returned (.slice ad' ((l.drop f).take k).length c')∧St W w' (Sl 5 1 ad' ((l.drop f).take k).length c' (bc ((l.drop f).take k))::Ln (lb,l)::L):=by
 have htl:((l.drop f).take k).length=min l.length (f+k)-f:=by rw[List.length_take,List.length_drop];omega
 refine EN Tryz.func207 Tryz.ntmps207 rfl rfl λa ha=>?_
 refine RN 7 ha hs λa ha=>?_
 rw[decide_eq_false (by omega)]at ha
 refine CL 2 ha hs (line_len hs) λa w ha hs=>?_
 refine BY 3 ha hs (λhg8 a ha=>?_) λhg8 a ha=>?_
 ·
  have hz:(l.drop f).take k=[]:=by rw[List.drop_eq_nil_of_le (by omega),List.take_nil]
  refine RT 6 ha hs ?_
  rw[hz];exact⟨_,_,rfl,hs.sl0 _ _ none⟩
 refine RN 3 ha hs λa ha=>?_
 rw[decide_eq_false (by omega)]at ha
 refine RN 2 ha hs λa ha=>?_
 obtain⟨adl,cl,hs⟩:=Ln.open hs
 have hcl:=(hs.sl adl).2
 refine DWO 0 [8,9,14] [0,1,2,4,5,6,7,10,11,12,13,3003,1008,1009,1014,15,1016,17] ha hs λa w ha hs hH hC=>?_
 refine RH 10 ha hs hH hC λa ha=>?_
 rw[show min (k:Int) 1000=(k:Int) from by omega]at ha
 refine RH 5 ha hs hH hC λa ha=>?_
 rw[show min (l.length:Int) ((f:Int)+(k:Int))=((min l.length (f+k):Nat):Int) from by omega]at ha
 refine RH 1 ha hs hH hC λa ha=>?_
 refine CL2 0 ha hs (bytes_clone (bs:=(l.drop f).take k) hs (λw' hw=>by have h1:=(hw.rdB adl l rfl rfl).cutLH (c:=cl) (lo:=f) (n:=min l.length (f+k)-f) (by omega) hcl;rw[show (l.drop f).take (min l.length (f+k)-f)=(l.drop f).take k from by rw[← htl,List.take_eq_take_iff,List.length_take,List.length_drop];omega]at h1;exact h1) (by omega)) λad3 c3 a w ha hs=>?_
 refine RN 1 ha hs λa ha=>?_
 refine RT 0 ha hs ?_
 exact⟨ad3,c3,by rw[htl],by rw[htl];exact (Ln.mk' (L':=Sl 5 1 ad3 (min l.length (f+k)-f) c3 (bc ((l.drop f).take k))::L) hs adl cl).perm (List.Perm.swap _ _ _)⟩
theorem line_all (hs:St W w (Ln (lb,l)::L))(hl:l.length≤1000) :
   Calls Tryz.prog 150 #[pt lb] w λe w'=>∃ ad' c',e=.returned (.slice ad' l.length c')∧St W w' (Sl 5 1 ad' l.length c' (bc l)::Ln (lb,l)::L):=by
 have hta:(l.drop 0).take 1000=l:=by rw[List.drop_zero,List.take_of_length_le hl]
 refine EN Tryz.func150 Tryz.ntmps150 rfl rfl λa ha=>?_
 refine CL2 4 ha hs (line_from (f:=0) (k:=1000) hs hl (by decide) (by decide)) λad3 c3 a w ha hs=>?_
 rw[hta]at ha hs
 refine RT 1 ha hs ?_
 exact⟨_,_,rfl,hs⟩
end
end
section
def lpt (x:Lx):Value:=pt x.1
def Qu (qb:Nat)(lbs:List Nat)(ls:List (List UInt8)):SP:=λh=>∃ (ad:Option Addr) (c:Nat),lbs.length=ls.length∧sepL [blk qb 234 [.slice ad ls.length c],Sl 226 1 ad ls.length c ((lbs.zip ls).map lpt),All Ln (lbs.zip ls)] h
section
variable {W w:World}{L L' R:List SP}{n c qb lb i f:Nat}{ad:Option Addr}{ls:List (List UInt8)}{lbs:List Nat}{l:List UInt8}{x:UInt8}
theorem Qu.open (hs:St W w (Qu qb lbs ls::L)):∃ (ad:Option Addr) (c:Nat),lbs.length=ls.length∧St W w (blk qb 234 [.slice ad ls.length c]::Sl 226 1 ad ls.length c ((lbs.zip ls).map lpt)::All Ln (lbs.zip ls)::L):=by
 obtain⟨⟨ad,c⟩,hl,hs⟩:=hs.exi (ι:=Option Addr×Nat) (p:=λ_=>lbs.length=ls.length) (B:=λy h=>sepL [blk qb 234 [.slice y.1 ls.length y.2],Sl 226 1 y.1 ls.length y.2 ((lbs.zip ls).map lpt),All Ln (lbs.zip ls)] h) λ_ ⟨ad,c,hl,h⟩=>⟨(ad,c),hl,h⟩
 exact⟨ad,c,hl,hs.open (M:=[_,_,_]) λ_ h=>h⟩
theorem Qu.close (hs:St W w (blk qb 234 [.slice ad ls.length c]::Sl 226 1 ad ls.length c ((lbs.zip ls).map lpt)::All Ln (lbs.zip ls)::L))(hl:lbs.length=ls.length):St W w (Qu qb lbs ls::L) :=
 St.shut (M:=[_,_,_]) hs λ_ h=>⟨ad,c,hl,h⟩
theorem Qu.mk' (hs:St W w L)(ad:Option Addr)(c:Nat)[k:Arr L (blk qb 234 [.slice ad ls.length c]::Sl 226 1 ad ls.length c ((lbs.zip ls).map lpt)::All Ln (lbs.zip ls)::L') R](hl:lbs.length=ls.length):St W w (Qu qb lbs ls::L'):=Qu.close (ad:=ad) (c:=c) hs.sub hl
theorem zip_at {lbs:List Nat}{ls:List (List UInt8)}(hl:lbs.length=ls.length){i:Nat}(h:i<ls.length):(lbs.zip ls)[i]?=some (lbs.getD i 0,ls.getD i []):=by
 rw[List.getElem?_zip_eq_some]
 simp only[List.getD_eq_getElem?_getD]
 rw[List.getElem?_eq_getElem h,List.getElem?_eq_getElem (by omega)]
 exact⟨rfl,rfl⟩
def QuH (qb:Nat)(lbs:List Nat)(ls:List (List UInt8))(i:Nat):SP:=λh=>∃ (ad:Option Addr) (c:Nat),lbs.length=ls.length∧sepL [blk qb 234 [.slice ad ls.length c],Sl 226 1 ad ls.length c ((lbs.zip ls).map lpt),All Ln ((lbs.zip ls).eraseIdx i)] h
theorem Qu.out (hs:St W w (Qu qb lbs ls::L))(h:i<ls.length):St W w (Ln (lbs.getD i 0,ls.getD i [])::QuH qb lbs ls i::L):=by
 obtain⟨ad,c,hl,hs⟩:=Qu.open hs
 have hz:=zip_at hl h
 obtain⟨hi,he⟩:=List.getElem?_eq_some_iff.1 hz
 replace hs:=(hs.pick (All Ln (lbs.zip ls))).allOut hi
 rw[he]at hs
 have h2:St W w (blk qb 234 [.slice ad ls.length c]::Sl 226 1 ad ls.length c ((lbs.zip ls).map lpt)::All Ln ((lbs.zip ls).eraseIdx i)::Ln (lbs.getD i 0,ls.getD i [])::L):=hs.sub
 exact (St.shut (M:=[_,_,_]) h2 λ_ h=>⟨ad,c,hl,h⟩:St W w (QuH qb lbs ls i::Ln (lbs.getD i 0,ls.getD i [])::L)).perm (List.Perm.swap _ _ _)
theorem map_set {α β:Type}(f:α→β)(l:List α)(i:Nat)(x:α):(l.set i x).map f=(l.map f).set i (f x):=by
 apply List.ext_getElem? ;intro j
 simp only[List.getElem?_map,List.getElem?_set,List.length_map]
 split
 · split <;> rfl
 · rfl
theorem zip_set {lbs:List Nat}{ls:List (List UInt8)}(hl:lbs.length=ls.length){i:Nat}(h:i<ls.length)(l:List UInt8):lbs.zip (ls.set i l)=(lbs.zip ls).set i (lbs.getD i 0,l):=by
 apply List.ext_getElem?;intro j
 by_cases hj:j<ls.length
 · rw[zip_at (by simpa using hl) (by simpa using hj),List.getElem?_set]
   by_cases hij:i=j
   · subst hij
     rw[if_pos rfl,if_pos (by simp;omega)]
     simp[List.getD_eq_getElem?_getD,h]
   · rw[if_neg hij,zip_at hl hj]
     simp[List.getD_eq_getElem?_getD,List.getElem?_set_ne hij]
 · rw[List.getElem?_eq_none (by simp;omega),List.getElem?_eq_none (by simp;omega)]
theorem Qu.in (hs:St W w (Ln (lbs.getD i 0,l)::QuH qb lbs ls i::L))(h:i<ls.length):St W w (Qu qb lbs (ls.set i l)::L):=by
 obtain⟨⟨ad,c⟩,hl,hs⟩:=(hs.pick (QuH qb lbs ls i)).exi (ι:=Option Addr×Nat) (p:=λ_=>lbs.length=ls.length) (B:=λy h=>sepL [blk qb 234 [.slice y.1 ls.length y.2],Sl 226 1 y.1 ls.length y.2 ((lbs.zip ls).map lpt),All Ln ((lbs.zip ls).eraseIdx i)] h) λ_ ⟨ad,c,hl,h⟩=>⟨(ad,c),hl,h⟩
 replace hs:St W w (blk qb 234 [.slice ad ls.length c]::Sl 226 1 ad ls.length c ((lbs.zip ls).map lpt)::All Ln ((lbs.zip ls).eraseIdx i)::Ln (lbs.getD i 0,l)::L):=hs.open (M:=[_,_,_]) λ_ h=>h
 have hz:=zip_at hl h
 obtain⟨hi,he⟩:=List.getElem?_eq_some_iff.1 hz
 have h1:St W w (Ln (lbs.getD i 0,l)::All Ln ((lbs.zip ls).eraseIdx i)::blk qb 234 [.slice ad ls.length c]::Sl 226 1 ad ls.length c ((lbs.zip ls).map lpt)::L):=hs.sub
 replace h1:=h1.allPut hi
 rw[← zip_set hl h]at h1
 have hls:ls.length=(ls.set i l).length:=by rw[List.length_set]
 have hp:(lbs.zip ls).map lpt=(lbs.zip (ls.set i l)).map lpt:=by
   rw[zip_set hl h,map_set]
   symm
   apply List.ext_getElem?;intro j
   rw[List.getElem?_set]
   split
   · rename_i hj;subst hj
     split
     · rw[List.getElem?_map,hz];rfl
     · rw[List.getElem?_eq_none (by omega)]
   · rfl
 rw[hp,hls]at h1
 exact Qu.mk' h1 ad c (by rw[← hls];exact hl)
theorem set_sameQ {ls:List (List UInt8)}{i:Nat}:ls.set i (ls.getD i [])=ls:=by
 apply List.ext_getElem?;intro j
 rw[List.getElem?_set]
 split
 · rename_i h;subst h
   split
   · rename_i h;rw[List.getD_eq_getElem?_getD,List.getElem?_eq_getElem h];rfl
   · rw[List.getElem?_eq_none (by omega)]
 · rfl
theorem Qu.back (hs:St W w (Ln (lbs.getD i 0,ls.getD i [])::QuH qb lbs ls i::L))(h:i<ls.length):St W w (Qu qb lbs ls::L):=by
 have:=Qu.in hs h
 rwa [set_sameQ]at this
theorem q_len (hs:St W w (Qu qb lbs ls::L))(h:i<ls.length):Calls Tryz.prog 148 #[.pointer (some ⟨lbs.getD i 0,0,none⟩)] w λe w'=>e=.returned (.int .i64 (ls.getD i []).length)∧St W w' (Qu qb lbs ls::L) :=
 (line_len (Qu.out hs h)).mono λ_ _ ⟨he,hs⟩=>⟨he,Qu.back hs h⟩
theorem q_at (hs:St W w (Qu qb lbs ls::L))(h:i<ls.length):Calls Tryz.prog 183 #[.pointer (some ⟨lbs.getD i 0,0,none⟩),.int .i64 f] w λe w'=>e=.returned (.tuple #[.int .u8 (((ls.getD i []).getD f 0).toNat:Nat),.bool (decide (f<(ls.getD i []).length))])∧St W w' (Qu qb lbs ls::L) :=
 (line_at (Qu.out hs h)).mono λ_ _ ⟨he,hs⟩=>⟨he,Qu.back hs h⟩
theorem q_add (hs:St W w (Qu qb lbs ls::L))(h:i<ls.length)(hl:(ls.getD i []).length<1000):Calls Tryz.prog 177 #[.pointer (some ⟨lbs.getD i 0,0,none⟩),.int .u8 (x.toNat:Nat)] w λe w'=>e=.returned (.int .i64 0)∧St W w' (Qu qb lbs (ls.set i (ls.getD i []++[x]))::L) :=
 (line_add (Qu.out hs h) (by omega)).mono λ_ _ ⟨he,hs⟩=>by
   rw[if_pos hl]at he hs
   exact⟨he,Qu.in hs h⟩
theorem q_put {fr:Nat}{bs:List UInt8}(hs:St W w (Qu qb lbs ls::L))(h:i<ls.length)(hl:(ls.getD i []).length≤1000)(hb:bs.length≤65536)(hp:∀ w',St W w' L→RdB w' ad bs.length bs) :
   Calls Tryz.prog 205 #[.pointer (some ⟨lbs.getD i 0,0,none⟩),.int .i64 fr,.slice ad bs.length c] w λe w'=>∃ n er:Int,e=.returned (.tuple #[.int .i64 n,.int .i64 er])∧St W w' (Qu qb lbs (ls.set i (putLn (ls.getD i []) fr bs))::L) :=
 (line_put (Qu.out hs h) hl hb (λw' hw=>hp w' hw.tail)).mono λ_ _ ⟨n,er,he,hs⟩=>⟨n,er,he,Qu.in hs h⟩
theorem q_from {fr k:Nat}(hs:St W w (Qu qb lbs ls::L))(h:i<ls.length)(hl:(ls.getD i []).length≤1000)(hf:fr≤1000)(hk:1≤k∧k≤1000) :
   Calls Tryz.prog 207 #[.pointer (some ⟨lbs.getD i 0,0,none⟩),.int .i64 fr,.int .i64 k] w λe w'=>∃ ad' c',e=.returned (.slice ad' (((ls.getD i []).drop fr).take k).length c')∧St W w' (Sl 5 1 ad' (((ls.getD i []).drop fr).take k).length c' (bc (((ls.getD i []).drop fr).take k))::Qu qb lbs ls::L) :=
 (line_from (Qu.out hs h) hl hf hk).mono λ_ _ ⟨ad',c',he,hs⟩=>⟨ad',c',he,(Qu.back (L:=Sl 5 1 ad' _ c' _::L) hs.sub h).perm (List.Perm.swap _ _ _)⟩
theorem q_all (hs:St W w (Qu qb lbs ls::L))(h:i<ls.length)(hl:(ls.getD i []).length≤1000) :
   Calls Tryz.prog 150 #[.pointer (some ⟨lbs.getD i 0,0,none⟩)] w λe w'=>∃ ad' c',e=.returned (.slice ad' (ls.getD i []).length c')∧St W w' (Sl 5 1 ad' (ls.getD i []).length c' (bc (ls.getD i []))::Qu qb lbs ls::L) :=
 (line_all (Qu.out hs h) hl).mono λ_ _ ⟨ad',c',he,hs⟩=>⟨ad',c',he,(Qu.back (L:=Sl 5 1 ad' _ c' _::L) hs.sub h).perm (List.Perm.swap _ _ _)⟩
theorem queue_n (hs:St W w (Qu qb lbs ls::L)):Calls Tryz.prog 149 #[pt qb] w λe w'=>e=.returned (.int .i64 ls.length)∧St W w' (Qu qb lbs ls::L):=by
 obtain⟨ad,c,hl,hs⟩:=Qu.open hs
 refine EN Tryz.func149 Tryz.ntmps149 rfl rfl λa ha=>?_
 refine RN 6 ha hs λa ha=>?_
 replace ha:=ha.isF 4
 refine RT 8 ha hs ?_
 exact⟨rfl,Qu.close hs hl⟩
theorem zp_at {lbs:List Nat}{ls:List (List UInt8)}(hl:lbs.length=ls.length){i:Nat}(h:i<ls.length):((lbs.zip ls).map lpt)[i]?=some (.pointer (some ⟨lbs.getD i 0,0,none⟩)):=by
 rw[List.getElem?_map,zip_at hl h];rfl
theorem queue_line (hs:St W w (Qu qb lbs ls::L))(h:i<ls.length):Calls Tryz.prog 146 #[pt qb,.int .i64 i] w λe w'=>e=.returned (.pointer (some ⟨lbs.getD i 0,0,none⟩))∧St W w' (Qu qb lbs ls::L):=by
 refine EN Tryz.func146 Tryz.ntmps146 rfl rfl λa ha=>?_
 refine RN 7 ha hs λa ha=>?_
 rw[decide_eq_false (by omega)]at ha
 refine CL 2 ha hs (queue_n hs) λa w ha hs=>?_
 refine RN 2 ha hs λa ha=>?_
 rw[decide_eq_false (by omega)]at ha
 refine RN 2 ha hs λa ha=>?_
 obtain⟨ad,c,hl,hs⟩:=Qu.open hs
 obtain⟨b,o,rfl,hr⟩:=hs.slRd ad (by omega)
 refine RN 6 ha hs λa ha=>?_
 refine SS ha (ld1 ha (hr i _ (zp_at hl h))) λa ha=>?_
 refine RT 1 ha hs ?_
 exact⟨rfl,Qu.close hs hl⟩
theorem queue_front (hs:St W w (Qu qb lbs ls::L))(h0:ls≠[])(hl8:ls.length≤8):Calls Tryz.prog 84 #[pt qb] w λe w'=>e=.returned (.int .i64 (frontL ls))∧St W w' (Qu qb lbs ls::L):=by
 have hpos:0<ls.length:=List.length_pos_iff.2 h0
 refine EN Tryz.func84 Tryz.ntmps84 rfl rfl λa ha=>?_
 refine CL 5 ha hs (queue_n hs) λa w ha hs=>?_
 refine RN 1 ha hs λa ha=>?_
 rw[decide_eq_false (by omega)]at ha
 refine RN 2 ha hs λa ha=>?_
 obtain⟨ad,c,hl,hs⟩:=Qu.open hs
 obtain⟨b,o,rfl,hr⟩:=hs.slRd ad (by omega)
 refine RN 5 ha hs λa ha=>?_
 refine SS ha (ld1 ha (hr 0 _ (zp_at hl hpos))) λa ha=>?_
 replace hs:St W w (Qu qb lbs ls::L):=Qu.close hs hl
 refine CL 0 ha hs (q_len hs hpos) λa w ha hs=>?_
 refine RN 3 ha hs λa ha=>?_
 obtain⟨ad,c,hl,hs⟩:=Qu.open hs
 rw[show ((ls.getD 0 []).length:Int)=(frontN ls 0:Nat) from by rw[frontN,List.headD_eq_getD]]at ha
 refine RN 6 ha hs λa ha=>?_
 replace hs:St W w (blk qb 234 [.slice ad ls.length c]::Sl 226 1 ad ls.length c ((lbs.zip ls).map lpt)::All Ln (lbs.zip ls)::L):=hs
 refine wp_loop_ghost (λμ a w=>∃ (i:Nat),(μ=ls.length-i∧i≤ls.length)∧Fr a 31 [(3,.int .i64 (frontN ls i:Nat)),(19,.slice ad ls.length c),(20,.int .i64 ls.length),(21,.int .i64 i)]∧St W w (blk qb 234 [.slice ad ls.length c]::Sl 226 1 ad ls.length c ((lbs.zip ls).map lpt)::All Ln (lbs.zip ls)::L)) (ls.length) (⟨0,⟨rfl,by omega⟩,ha.keep [3,19,20,21],hs⟩) ?_
 clear ha hs
 rintro μ a w ⟨i,⟨rfl,hi⟩,ha,hs⟩
 refine IF 3 ha hs (λhc1 a ha=>?_) λhc1 a ha=>?_
 ·
  obtain⟨b2,o2,rfl,hr2⟩:=hs.slRd ad (by omega)
  have hil:i<ls.length:=by omega
  have hz:=zip_at hl hil
  obtain⟨hzi,hze⟩:=List.getElem?_eq_some_iff.1 hz
  refine RN 3 ha hs λa ha=>?_
  refine SS ha (ld1 ha (hr2 i _ (zp_at hl hil))) λa ha=>?_
  refine RN 1 ha hs λa ha=>?_
  replace hs:=(hs.pick (All Ln (lbs.zip ls))).allOut hzi
  rw[hze]at hs
  refine CL 2 ha hs (line_len hs) λa w ha hs=>?_
  replace hs:=(hze ▸ hs:St W w (Ln (lbs.zip ls)[i]::_)).allPut hzi
  rw[List.set_getElem_self]at hs
  refine RN 1 ha hs λa ha=>?_
  rw[show min ((frontN ls i:Nat):Int) ((ls.getD i []).length:Int)=((frontN ls (i+1):Nat):Int) from by rw[frontN];omega]at ha
  refine RN 3 ha hs λa ha=>?_
  exact⟨ls.length-(i+1),by omega,i+1,⟨rfl,by omega⟩,ha.keep [3,19,20,21],hs.sub⟩
 obtain rfl:i=ls.length:=by omega
 refine RT 3 ha hs ?_
 exact⟨rfl,Qu.close hs hl⟩
theorem queue_joint (hs:St W w (Qu qb lbs ls::L))(h0:ls≠[])(hf:f<frontL ls)(hl8:ls.length≤8):Calls Tryz.prog 173 #[pt qb,.int .i64 f] w λe w'=>∃ ad' c',e=.returned (.tuple #[.slice ad' (jointL ls f).length c',.bool true]) ∧
   St W w' (Sl 5 1 ad' (jointL ls f).length c' (bc (jointL ls f))::Qu qb lbs ls::L):=by
 refine EN Tryz.func173 Tryz.ntmps173 rfl rfl λa ha=>?_
 refine RN 8 ha hs λa ha=>?_
 rw[decide_eq_false (by omega)]at ha
 refine CL 2 ha hs (queue_front hs h0 hl8) λa w ha hs=>?_
 refine RN 2 ha hs λa ha=>?_
 rw[decide_eq_false (by omega)]at ha
 refine RN 5 ha hs λa ha=>?_
 obtain⟨ad,c,hl,hs⟩:=Qu.open hs
 refine RN 6 ha hs λa ha=>?_
 refine wp_loop_ghost (λμ a w=>∃ (i:Nat) (ad2:Option Addr) (c2:Nat),(μ=ls.length-i∧i≤ls.length)∧Fr a 40 [(1,.int .i64 f),(6,.slice ad2 (jointN ls f i).length c2),(22,.slice ad ls.length c),(23,.int .i64 ls.length),(24,.int .i64 i)]∧St W w (Sl 5 1 ad2 (jointN ls f i).length c2 (bc (jointN ls f i))::blk qb 234 [.slice ad ls.length c]::Sl 226 1 ad ls.length c ((lbs.zip ls).map lpt)::All Ln (lbs.zip ls)::L)) (ls.length) (⟨0,none,0,⟨rfl,by omega⟩,ha.keep [1,6,22,23,24],hs.sl0 5 1 none⟩) ?_
 clear ha hs
 rintro μ a w ⟨i,ad2,c2,⟨rfl,hi⟩,ha,hs⟩
 refine IF 3 ha hs (λhc1 a ha=>?_) λhc1 a ha=>?_
 ·
  obtain⟨b2,o2,rfl,hr2⟩:=hs.slRd ad (by omega)
  have hil:i<ls.length:=by omega
  have hz:=zip_at hl hil
  obtain⟨hzi,hze⟩:=List.getElem?_eq_some_iff.1 hz
  have hjl:=jointN_len (ls:=ls) (f:=f) (i:=i) hi
  refine RN 3 ha hs λa ha=>?_
  refine SS ha (ld1 ha (hr2 i _ (zp_at hl hil))) λa ha=>?_
  refine RN 2 ha hs λa ha=>?_
  replace hs:=(hs.pick (All Ln (lbs.zip ls))).allOut hzi
  rw[hze]at hs
  refine CL 2 ha hs (line_at hs) λa w ha hs=>?_
  replace hs:=(hze ▸ hs:St W w (Ln (lbs.zip ls)[i]::_)).allPut hzi
  rw[List.set_getElem_self]at hs
  refine RN 7 ha hs λa ha=>?_
  refine st_buildSlice ha rfl hs Tryz.underlying22 Ty.t5 rfl rfl rfl rfl (by decide) (by decide) λb36 a w ha hs ho=>?_
  clear ho
  refine RN 0 ha hs λa ha=>?_
  refine st_append ha rfl hs Tryz.underlying22 Ty.t5 rfl rfl hs.rdAll rfl (bc_one [(ls.getD i []).getD f 0]) (by decide) (by decide) (by omega) λad37 c37 a w ha hs=>?_
  rw[show bc (jointN ls f i)++_=bc (jointN ls f (i+1)) from by rw[jointN_succ hil,bc_app,List.getD_eq_getElem?_getD (l:=ls),List.getElem?_eq_getElem hil];rfl,show (jointN ls f i).length+1=(jointN ls f (i+1)).length from by rw[jointN_len hi,jointN_len (by omega)]]at hs
  rw[show (jointN ls f i).length+1=(jointN ls f (i+1)).length from by rw[jointN_len hi,jointN_len (by omega)]]at ha
  refine RN 3 ha hs λa ha=>?_
  exact⟨ls.length-(i+1),by omega,i+1,_,_,⟨rfl,by omega⟩,ha.keep [1,6,22,23,24],hs.sub⟩
 obtain rfl:i=ls.length:=by omega
 rw[jointN_all]at ha hs
 refine RT 4 ha hs ?_
 exact⟨_,_,rfl,(Qu.mk' (L':=Sl 5 1 ad2 (jointL ls f).length c2 (bc (jointL ls f))::L) hs ad c hl).perm (List.Perm.swap _ _ _)⟩
theorem queue_new {d:Nat}(hs:St W w L)(hn:2≤n∧n≤8)(hd:d≤8):Calls Tryz.prog 170 #[.int .i64 n,.int .i64 d] w λe w'=>∃ qb lbs,e=.returned (pt qb)∧St W w' (Qu qb lbs (List.replicate n (List.replicate d 0))::L):=by
 refine EN Tryz.func170 Tryz.ntmps170 rfl rfl λa ha=>?_
 refine BX 4 ha hs λb7 a w ha hs=>?_
 refine RN 6 ha hs λa ha=>?_
 rw[show min (max (n:Int) 2) 8=(n:Int) from by omega]at ha
 refine RN 1 ha hs λa ha=>?_
 replace hs:=hs.sl0 226 1 none
 replace hs:=St.allNil (f:=Ln) hs
 refine wp_loop_ghost (λμ a w=>∃ (i:Nat) (xs:List Lx) (ad:Option Addr) (c:Nat),(μ=n-i∧i≤n∧xs.map (·.2)=List.replicate i (List.replicate d 0))∧Fr a 26 [(1,.int .i64 d),(5,pt b7),(10,.int .i64 n),(11,.int .i64 i)]∧St W w (blk b7 234 [.slice ad i c]::Sl 226 1 ad i c (xs.map lpt)::All Ln xs::L)) (n) (⟨0,[],none,0,⟨rfl,by omega,rfl⟩,ha.keep [1,5,10,11],(hs.sub:St W w (blk b7 234 [.slice none 0 0]::Sl 226 1 none 0 0 []::All Ln []::L))⟩) ?_
 clear ha hs
 rintro μ a w ⟨i,xs,ad,c,⟨rfl,hi,hxs⟩,ha,hs⟩
 refine IF 3 ha hs (λhc0 a ha=>?_) λhc0 a ha=>?_
 ·
  refine DWC 1 (λw0 w'=>Rd w' b7 0 [.slice ad i c]) [6,7] [0,1,2,3,5,3004,1006,1007,1008,9,10,1011] ha hs λa w ha hs hH=>?_
  have hC:=hH.at w hs.rdAll
  refine RH 5 ha hs hH hC λa ha=>?_
  refine QH ha (λw hc=>ld1 ha (hc 0 _ rfl)) hC λa ha=>?_
  refine RH 0 ha hs hH hC λa ha=>?_
  refine CL1 0 ha hs (line_new hs hd) λlb a w ha hs=>?_
  replace hC:=hH.at w hs.rdAll
  refine RH 0 ha hs hH hC λa ha=>?_
  refine st_buildSlice ha rfl hs Tryz.underlying232 Ty.t226 rfl rfl rfl rfl (by decide) (by decide) λb20 a w ha hs ho=>?_
  clear ho
  replace hC:=hH.at w hs.rdAll
  refine RH 0 ha hs hH hC λa ha=>?_
  refine st_append ha rfl hs Tryz.underlying232 Ty.t226 rfl rfl hs.rdAll rfl (by simp[Value.oneCell']) (by decide) (by decide) (by omega) λad21 c21 a w ha hs=>?_
  rw[show List.map lpt xs++_=List.map lpt (xs++[(lb,List.replicate d 0)]) from by rw[List.map_append];rfl]at hs
  refine ST 2 ha hs (λa w ha hs=>?_)
  refine RN 2 ha hs λa ha=>?_
  have hs2:=St.allPush (x:=(lb,List.replicate d 0)) (hs.sub (M:=Ln (lb,List.replicate d 0)::All Ln xs::blk b7 234 [.slice ad21 (i+1) c21]::Sl 226 1 ad21 (i+1) c21 ((xs++[(lb,List.replicate d 0)]).map lpt)::L))
  exact⟨n-(i+1),by omega,i+1,xs++[(lb,List.replicate d 0)],ad21,c21,⟨rfl,by omega,by rw[List.map_append,hxs,List.replicate_succ'];rfl⟩,ha.keep [1,5,10,11],hs2.sub⟩
 obtain rfl:i=n:=by omega
 refine RT 3 ha hs ?_
 have hxl:xs.length=i:=by rw[← List.length_map (f:=(·.2)),hxs,List.length_replicate]
 have hz:(xs.map (·.1)).zip (List.replicate i (List.replicate d 0))=xs:=by
   rw[← hxs]
   clear hxs hs ha hxl
   induction xs with
   | nil=>rfl
   | cons x xs ih=>rw[List.map_cons,List.map_cons,List.zip_cons_cons,ih]
 have hll:(List.replicate i (List.replicate d (0:UInt8))).length=i:=List.length_replicate
 refine⟨b7,xs.map (·.1),rfl,?_⟩
 refine Qu.close (ad:=ad) (c:=c) ?_ (by rw[List.length_map,hxl,hll])
 rw[hll,hz];exact hs
end
end
end Go.Proofs.YtdilfdkendjjhaaGreat
