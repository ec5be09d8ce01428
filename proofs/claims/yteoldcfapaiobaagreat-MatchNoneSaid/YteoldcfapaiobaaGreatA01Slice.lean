/- Slices whose memory is the call's own. -/
import Derived.Test.YteoldcfapaiobaaGreatA00Sl
import Derived.OrdersHeld
import Derived.Laws.BytesString
import Derived.Lib.SliceRun
namespace Go.Proofs.YteoldcfapaiobaaGreat
open Go.RowKit
set_option linter.unusedVariables false
set_option linter.unusedSimpArgs false
set_option maxRecDepth 10000
set_option synthInstance.maxSize 4000
set_option synthInstance.maxHeartbeats 400000
section
def Sl (e sz:Nat)(ad:Option Addr)(n c:Nat)(cs:List Value):SP:=λh =>
 cs.length=n*sz∧n≤c∧(c=0∨∃ b pre post,ad=some ⟨b,pre.length,none⟩∧(c-n)*sz≤post.length∧blk b e (pre++cs++post) h)
class PickSl (L:List SP)(ad:Option Addr)(n c e sz:outParam Nat)(cs:outParam (List Value))(R:outParam (List SP)):Prop where perm:L.Perm (Sl e sz ad n c cs::R)
instance PickSl.head {L ad n c e sz cs}:PickSl (Sl e sz ad n c cs::L) ad n c e sz cs L:=⟨List.Perm.refl _⟩
instance (priority:=low) PickSl.tail {A L ad n c e sz cs R}[h:PickSl L ad n c e sz cs R]:PickSl (A::L) ad n c e sz cs (A::R) :=
 ⟨(List.Perm.cons A h.perm).trans (List.Perm.swap _ _ _)⟩
class Pick (L:List SP)(A:SP)(R:outParam (List SP)):Prop where perm:L.Perm (A::R)
instance Pick.head {A L}:Pick (A::L) A L:=⟨List.Perm.refl _⟩
instance (priority:=low) Pick.tail {B L A R}[h:Pick L A R]:Pick (B::L) A (B::R):=⟨(List.Perm.cons B h.perm).trans (List.Perm.swap _ _ _)⟩
class Arr (L M:List SP)(R:outParam (List SP)):Prop where perm:L.Perm (M++R)
instance Arr.nil {L}:Arr L [] L:=⟨List.Perm.refl _⟩
instance (priority:=high) Arr.refl {L}:Arr L L []:=⟨by simp⟩
instance (priority:=low) Arr.skip {A L M R}[h:Arr L M R]:Arr (A::L) M (A::R):=⟨(List.Perm.cons A h.perm).trans (by
 have:=List.perm_middle (a:=A) (l₁:=M) (l₂:=R)
 exact this.symm)⟩
instance Arr.cons {L A M R R'}[h:Pick L A R][k:Arr R M R']:Arr L (A::M) R':=⟨h.perm.trans (List.Perm.cons A k.perm)⟩
section
variable {P:Program}{W w:World}{L R:List SP}{e sz n c:Nat}{ad:Option Addr}{cs:List Value}
theorem St.pick (s:St W w L)(A:SP)[k:Pick L A R]:St W w (A::R):=s.perm k.perm
theorem St.sub {M:List SP}(s:St W w L)[k:Arr L M R]:St W w M:=by
 have:=(s.perm k.perm).perm (List.perm_append_comm)
 exact this.drop
theorem St.sl (s:St W w L)(ad:Option Addr)[k:PickSl L ad n c e sz cs R]:cs.length=n*sz∧n≤c:=(s.perm k.perm).tell λ_ h=>⟨h.1,h.2.1⟩
theorem St.slOpen (s:St W w (Sl e sz ad n c cs::L))(h0:0<c):∃ b pre post,(cs.length=n*sz∧n≤c∧ad=some ⟨b,List.length pre,none⟩∧(c-n)*sz≤List.length post)∧St W w (blk b e (pre++cs++post)::L):=by
 obtain⟨⟨b,pre,post⟩,h1,h2⟩:=s.exi (ι:=Nat×List Value×List Value) (p:=λi=>cs.length=n*sz∧n≤c∧ad=some ⟨i.1,i.2.1.length,none⟩∧(c-n)*sz≤i.2.2.length)
   (B:=λi=>blk i.1 e (i.2.1++cs++i.2.2)) (λh hx=>by
     obtain⟨a1,a2,a3⟩:=hx
     rcases a3 with a3 | ⟨b,pre,post,x,y,z⟩
     · omega
     · exact⟨⟨b,pre,post⟩,⟨a1,a2,x,y⟩,z⟩)
 exact⟨b,pre,post,h1,h2⟩
theorem St.slShut {b:Nat}{pre post:List Value}(s:St W w (blk b e (pre++cs++post)::L))(h1:cs.length=n*sz)(h2:n≤c)(h3:(c-n)*sz≤post.length) :
   St W w (Sl e sz (some ⟨b,pre.length,none⟩) n c cs::L) :=
 St.imp s λ_ ⟨h1',h2',d,a,k,x,q⟩=>⟨h1',h2',d,a,k,⟨h1,h2,.inr ⟨b,pre,post,rfl,h3,x⟩⟩,q⟩
theorem St.sl0 (s:St W w L)(e sz:Nat)(ad:Option Addr):St W w (Sl e sz ad 0 0 []::L) :=
 ⟨s.below,let ⟨h,p,q⟩:=s.sat;⟨h,p,λ_=>none,h,λ_=>.inl rfl,λ_ _ e=>(by cases e),Hp.Sub.refl _,⟨by simp,Nat.le_refl _,.inl rfl⟩,q⟩⟩
theorem St.slRd (s:St W w L)(ad:Option Addr)[k:PickSl L ad n c e sz cs R](h0:0<n):∃ b off,ad=some ⟨b,off,none⟩∧Rd w b off cs:=by
 have s':=s.perm k.perm
 have hn:=s.sl ad
 obtain⟨b,pre,post,⟨h1,h2,h3,h4⟩,s2⟩:=s'.slOpen (by omega)
 refine⟨b,pre.length,h3,λj v hj=>?_⟩
 rw[s2.cell]
 have:j<cs.length:=by
   rcases Nat.lt_or_ge j cs.length with h | h
   · exact h
   · rw[List.getElem?_eq_none h]at hj;cases hj
 rw[List.getElem?_append_left (by simp;omega),List.getElem?_append_right (by omega)]
 simpa using hj
theorem St.slRdAt (s:St W w L)(b:Nat)(off:Nat)[k:PickSl L (some ⟨b,off,none⟩) n c e sz cs R](h0:0<n):Rd w b off cs:=by
 obtain⟨b2,off2,h,hr⟩:=s.slRd (some ⟨b,off,none⟩) h0
 cases h;exact hr
theorem Rd.part {b off:Nat}{vs:List Value}(h:Rd w b off vs)(i m:Nat):Rd w b (off+i) ((vs.drop i).take m):=by
 intro j v hj
 rw[List.getElem?_take]at hj
 by_cases hm:j<m
 · rw[if_pos hm,List.getElem?_drop]at hj
   have:=h _ _ hj
   rwa [← Nat.add_assoc]at this
 · rw[if_neg hm]at hj;cases hj
theorem zero_size (e:TypeId){z:Value}{by':Nat}(hz:z.cells.size=sz)(m:Nat):(Builtin.zeroCells z.cells m).toList.length=m*sz:=by
 rw[Array.length_toList,size_zeroCells,hz]
theorem run_append_sl {t ty:TypeId}{z:Value}{by':Nat}(ht:P.underlying t=some (.slice e))(hi:TI P e z sz by')(hz:z.cells.size=sz)(s:St W w (Sl e sz ad n c cs::L))
   (hnil:ad=none→c=0) {b2 off2 m c2:Nat} {news:List Value} (hr:Rd w b2 off2 news) (hl:news.length=m*sz) (h1:∀ v∈news,v.oneCell'=true) (hm:0<m) (hb:0<by') (hsz:(n+m)*by'≤140737488355328) :
   ∃ ad' c' w',(Builtin.append_ #[t,t] ty #[.slice ad n c,.slice (some ⟨b2,off2,none⟩) m c2]).run P w=.ok (.slice ad' (n+m) c') w'∧St W w' (Sl e sz ad' (n+m) c' (cs++news)::L)∧(ad'=none→c'=0):=by
 obtain⟨i,hi1,hi2,hi3,hi4⟩:=info_parts hi.h
 have hsl:=s.sl ad
 have hn63:n+m≤140737488355328:=Nat.le_trans (Nat.le_mul_of_pos_right _ hb) hsz
 have hnews:∀ j v,news[j]?=some v→w.cell? ((⟨b2,off2,none⟩:Addr).add j)=some v:=λj v hj=>by rw[add_off];exact hr j v hj
 by_cases hfit:n+m≤c
 · obtain⟨b,pre,post,⟨a1,a2,rfl,a4⟩,s2⟩:=s.slOpen (by omega)
   have hpl:(c-n)*sz ≥ m*sz:=Nat.mul_le_mul_right _ (by omega)
   have hf:=run_firstCells_some (P:=P) w i.size m ⟨b2,off2,none⟩ m c2 news (by rw[hi3];exact hl) hnews
   have hst:=run_storeCells_at (P:=P) b (pre.length+n*sz) e news 0 (pre++cs++post).toArray w s2.has.2 (by simp;omega) h1
   have e1:(pre++cs++post).take (pre.length+n*sz)=pre++cs:=by rw[← a1,← List.length_append,List.take_left]
   have e2:(pre++cs++post).drop (pre.length+n*sz+0+news.length)=post.drop news.length:=by
     rw[← a1,Nat.add_zero,← List.length_append,← List.drop_drop,List.drop_left]
   refine⟨some ⟨b,pre.length,none⟩,c,w.setRow b (pre++(cs++news)++post.drop news.length).toArray,?_,?_,λh=>by cases h⟩
   · have hst2:(storeCells ⟨b,pre.length+n*sz,none⟩ news 0).run P w=.ok () (w.setRow b (((pre++cs++post).take (pre.length+n*sz)++news)++(pre++cs++post).drop (pre.length+n*sz+0+news.length)).toArray):=hst
     rw[e1,e2]at hst2
     simp[Builtin.append_,run_underlying ht,sizeOf,typeInfo,hi1,Builtin.lenOf,hfit,add_off,hi3]
     rw[hi3]at hf
     simp[hf,hst2,List.append_assoc]
   · refine St.slShut (pre:=pre) (post:=post.drop news.length) s2.setRow (by simp;rw[hl,a1,Nat.add_mul]) (by omega) ?_
     simp only[List.length_drop]
     have:(c-(n+m))*sz=(c-n)*sz-m*sz:=by rw[← Nat.sub_mul];congr 1;omega
     omega
 · have hgz:(Builtin.zeroCells z.cells (grownCap w (n+m) c e-(n+m))).toList.length=(grownCap w (n+m) c e-(n+m))*sz:=zero_size e (by':=by') hz _
   have hge:=grownCap_ge w (n+m) c e
   have hnx:Builtin.nextslicecap (n+m) c*i.bytes≤281474976710656:=by rw[hi4];exact growslice_fits (by omega) hsz
   have done : ∀ old : List Value, old = cs → St W (w.drew.alloc (.cells (old.toArray ++ news.toArray ++ Builtin.zeroCells z.cells (grownCap w (n + m) c e - (n + m))) e))
       (Sl e sz (some ⟨w.heap.size,0,none⟩) (n+m) (grownCap w (n+m) c e) (cs++news)::L):=by
     intro old ho
     have s3:=(s.tail.drew).alloc (.cells (old.toArray++news.toArray++Builtin.zeroCells z.cells (grownCap w (n+m) c e-(n+m))) e)
     have s4 : St W (w.drew.alloc (.cells (old.toArray ++ news.toArray ++ Builtin.zeroCells z.cells (grownCap w (n + m) c e - (n + m))) e))
         (blk w.heap.size e ([]++(cs++news)++(Builtin.zeroCells z.cells (grownCap w (n+m) c e-(n+m))).toList)::L):=by
       have:(old.toArray++news.toArray++Builtin.zeroCells z.cells (grownCap w (n+m) c e-(n+m)))=([]++(cs++news)++(Builtin.zeroCells z.cells (grownCap w (n+m) c e-(n+m))).toList).toArray:=by
         apply Array.ext';simp[ho]
       rw[this]at s3 ⊢
       exact s3
     exact St.slShut (pre:=[]) s4 (by simp;rw[hl,hsl.1,Nat.add_mul]) hge (by omega)
   by_cases hc:c=0
   · subst hc
     have hn0:n=0:=by omega
     subst hn0
     have hcs:cs=[]:=List.eq_nil_of_length_eq_zero (by rw[hsl.1];simp)
     subst hcs
     cases ad with
     | none =>
       have:=run_append_nil (P:=P) w t ty e i z ht hi1 hi2 ⟨b2,off2,none⟩ m c2 news (by rw[hi3];exact hl) hnews hm (by omega) (by rw[hi4];rw[Nat.zero_add]at hsz;omega)
       refine⟨_,_,_,by simpa using this,?_,λh=>by cases h⟩
       have:=done [] rfl
       simpa using this
     | some b =>
       have:=run_append_grow (P:=P) w t ty e i z ht hi1 hi2 b 0 0 [] (by simp) (λj v hj=>by simp at hj) ⟨b2,off2,none⟩ m c2 news (by rw[hi3];exact hl) hnews (by omega) (by omega) hnx
       refine⟨_,_,_,by simpa using this,?_,λh=>by cases h⟩
       have:=done [] rfl
       simpa using this
   · obtain⟨b,pre,post,⟨a1,a2,rfl,a4⟩,s2⟩:=s.slOpen (by omega)
     have holds:∀ j v,cs[j]?=some v→w.cell? ((⟨b,pre.length,none⟩:Addr).add j)=some v:=by
       intro j v hj
       rw[add_off,s2.cell]
       have:j<cs.length:=by
         rcases Nat.lt_or_ge j cs.length with h | h
         · exact h
         · rw[List.getElem?_eq_none h]at hj;cases hj
       rw[List.getElem?_append_left (by simp;omega),List.getElem?_append_right (by omega)]
       simpa using hj
     have:=run_append_grow (P:=P) w t ty e i z ht hi1 hi2 ⟨b,pre.length,none⟩ n c cs (by rw[hi3];exact a1) holds ⟨b2,off2,none⟩ m c2 news (by rw[hi3];exact hl) hnews (by omega) (by omega) hnx
     exact⟨_,_,_,this,done cs rfl,λh=>by cases h⟩
def cutAd (ad:Option Addr)(lo c sz:Nat):Option Addr:=if c=lo then ad else ad.map (·.add (lo*sz))
theorem cutAd_some {b o lo c sz:Nat}(h:c≠lo):cutAd (some ⟨b,o,none⟩) lo c sz=some ⟨b,o+lo*sz,none⟩:=by simp[cutAd,h,add_off]
theorem St.slCut (s:St W w (Sl e sz ad n c cs::L)){lo hi:Nat}(h1:lo≤hi)(h2:hi≤n) :
   St W w (Sl e sz (cutAd ad lo c sz) (hi-lo) (c-lo) ((cs.drop (lo*sz)).take ((hi-lo)*sz))::L):=by
 have hsl:=s.sl ad
 have hm1:(hi-lo)*sz+lo*sz=hi*sz:=by rw[← Nat.add_mul];congr 1;omega
 have hm2:hi*sz≤n*sz:=Nat.mul_le_mul_right _ h2
 have hlen:((cs.drop (lo*sz)).take ((hi-lo)*sz)).length=(hi-lo)*sz:=by simp;omega
 by_cases hc:c=lo
 · have hz:hi-lo=0:=by omega
   have hz2:c-lo=0:=by omega
   rw[hz,hz2]
   simp only[Nat.zero_mul,List.take_zero]
   exact s.tail.sl0 e sz _
 · obtain⟨b,pre,post,⟨a1,a2,rfl,a4⟩,s2⟩:=s.slOpen (by omega)
   have he:pre++cs++post=(pre++cs.take (lo*sz))++((cs.drop (lo*sz)).take ((hi-lo)*sz))++(cs.drop (hi*sz)++post):=by
     have e1:cs=cs.take (lo*sz)++(cs.drop (lo*sz)).take ((hi-lo)*sz)++cs.drop (hi*sz):=by
       have:cs.drop (hi*sz)=(cs.drop (lo*sz)).drop ((hi-lo)*sz):=by rw[List.drop_drop];congr 1;omega
       rw[this,List.append_assoc,List.take_append_drop,List.take_append_drop]
     conv=>lhs;rw[e1]
     simp[List.append_assoc]
   rw[he]at s2
   have hpl:(pre++cs.take (lo*sz)).length=pre.length+lo*sz:=by simp;omega
   have:=St.slShut (n:=hi-lo) (c:=c-lo) (sz:=sz) s2 hlen (by omega) (by
     simp only[List.length_append,List.length_drop]
     have:(c-lo-(hi-lo))*sz=(c-n)*sz+(n*sz-hi*sz):=by rw[← Nat.sub_mul,← Nat.add_mul];congr 1;omega
     omega)
   rw[hpl]at this
   simpa [cutAd,hc,add_off] using this
theorem St.cutSl (s:St W w L)(ad:Option Addr)(lo hi:Nat)[k:PickSl L ad n c e sz cs R](h1:lo≤hi)(h2:hi≤n) :
   St W w (Sl e sz (cutAd ad lo c sz) (hi-lo) (c-lo) ((cs.drop (lo*sz)).take ((hi-lo)*sz))::R):=(s.perm k.perm).slCut h1 h2
end
section
variable {P:Program}{ops:Array Oper}{Q:Exit→Act→World→Prop}{a:Act}{w w' W:World}{K:Act→World→Prop}{o:Oper}{n d:Nat}{l:List (Nat×Value)}{v:Value}{L R:List SP}
theorem elem_of {t el:TypeId}(ht:P.underlying t=some (.slice el)):P.underlying t=some (.slice (P.elem t))∧P.elem t=el:=by
 constructor <;> simp[Program.elem,ht]
theorem ex_sliceL {x y k i j ad m c t el z sz by' dst ty ps af g}(ha:Fr a n l)(ht:P.underlying t=some (.slice el))(hi:TI P el z sz by')[ev:Ev l x (.slice ad m c)][ey:Ev l y (.int k i)][nj:NatOf i j](h:j≤m) :
   (execOp a.eval ⟨dst,.slice t x (some y) none none,ty,ps,af,g⟩).run P w=.ok (.value (.slice (cutAd ad j c sz) (m-j) (c-j))) w:=by
 have hj:=nj.h
 subst hj
 have e1:=(elem_of ht).1
 have e2:=(elem_of ht).2
 have:=run_slice_l (P:=P) (w:=w) t ad m c e1 k (j:Int) (by omega) (by omega)
 rw[e2,run_size hi]at this
 simp only[Result.andThen_ok,Int.toNat_natCast]at this
 simp[execOp,ev.ev a n ha,ey.ev a n ha,run_sliceAt_slice (P:=P) (w:=w) t _ _ _ _ e1,this,sliced,cutAd]
theorem ex_sliceH {x y k i j ad m c t el z sz by' dst ty ps af g}(ha:Fr a n l)(ht:P.underlying t=some (.slice el))(hi:TI P el z sz by')[ev:Ev l x (.slice ad m c)][ey:Ev l y (.int k i)][nj:NatOf i j](h:j≤c) :
   (execOp a.eval ⟨dst,.slice t x none (some y) none,ty,ps,af,g⟩).run P w=.ok (.value (.slice (cutAd ad 0 c sz) (j-0) (c-0))) w:=by
 have hj:=nj.h
 subst hj
 have e1:=(elem_of ht).1
 have e2:=(elem_of ht).2
 have:=run_slice_h (P:=P) (w:=w) t ad m c e1 k (j:Int) (by omega) (by omega)
 rw[e2,run_size hi]at this
 simp only[Result.andThen_ok,Int.toNat_natCast]at this
 simp[execOp,ev.ev a n ha,ey.ev a n ha,run_sliceAt_slice (P:=P) (w:=w) t _ _ _ _ e1,this,sliced,cutAd]
theorem ex_sliceLH {x y u k k' i i' j j' ad m c t el z sz by' dst ty ps af g}(ha:Fr a n l)(ht:P.underlying t=some (.slice el))(hi:TI P el z sz by')[ev:Ev l x (.slice ad m c)][ey:Ev l y (.int k i)][eu:Ev l u (.int k' i')][nj:NatOf i j][nj':NatOf i' j'](h:j≤j')(h':j'≤c) :
   (execOp a.eval ⟨dst,.slice t x (some y) (some u) none,ty,ps,af,g⟩).run P w=.ok (.value (.slice (cutAd ad j c sz) (j'-j) (c-j))) w:=by
 have hj:=nj.h
 subst hj
 have hj':=nj'.h
 subst hj'
 have e1:=(elem_of ht).1
 have e2:=(elem_of ht).2
 have:=run_slice_lh (P:=P) (w:=w) t ad m c e1 k k' (j:Int) (j':Int) (by omega) (by omega) (by omega)
 rw[e2,run_size hi]at this
 simp only[Result.andThen_ok,Int.toNat_natCast]at this
 simp[execOp,ev.ev a n ha,ey.ev a n ha,eu.ev a n ha,run_sliceAt_slice (P:=P) (w:=w) t _ _ _ _ e1,this,sliced,cutAd]
theorem ex_append {s x t z by' b2 off2 m c2 news e sz ad k c dst ty ps af g}{cs:List Value}(ha:Fr a n l)(hs:St W w L)(ht:P.underlying t=some (.slice e))(hi:TI P e z sz by')(hz:z.cells.size=sz)
   [e1:Ev l s (.slice ad k c)] [pk:PickSl L ad k c e sz cs R] [e2:Ev l x (.slice (some ⟨b2,off2,none⟩) m c2)] (hr:Rd w b2 off2 news) (hl:news.length=m*sz) (h1:∀ v∈news,v.oneCell'=true) (hm:0<m) (hb:0<by')
   (hsz:(k+m)*by'≤140737488355328) :
   ∃ ad' c' w',(execOp a.eval ⟨dst,.call ⟨.builtin .append,#[s,x],#[t,t]⟩,ty,ps,af,g⟩).run P w=.ok (.value (.slice ad' (k+m) c')) w'∧St W w' (Sl e sz ad' (k+m) c' (cs++news)::R):=by
 have hs':=hs.perm pk.perm
 have hnil:ad=none→c=0:=hs'.tell λ_ hx=>by
   rintro rfl
   rcases hx.2.2 with h | ⟨_,_,_,h,_⟩
   · exact h
   · cases h
 obtain⟨ad',c',w',h2,h3,_⟩:=run_append_sl (P:=P) (ty:=ty) ht hi hz hs' hnil (c2:=c2) hr hl h1 hm hb hsz
 exact⟨ad',c',w',by simp[execOp,resolve,e1.ev a n ha,e2.ev a n ha,invoke,builtin,h2],h3⟩
theorem st_append {s x t z by' b2 off2 m c2 news e sz ad k c ty ps af g}{cs:List Value}(ha:Fr a n l)(hw:Region.wanted ⟨some d,.call ⟨.builtin .append,#[s,x],#[t,t]⟩,ty,ps,af,g⟩ (yielded ops a.tmps)=true)(hs:St W w L)
   (ht:P.underlying t=some (.slice e)) (hi:TI P e z sz by') (hz:z.cells.size=sz) (hf:okB d n l=true)
   [e1:Ev l s (.slice ad k c)] [pk:PickSl L ad k c e sz cs R] [e2:Ev l x (.slice (some ⟨b2,off2,none⟩) m c2)] (hr:Rd w b2 off2 news) (hl:news.length=m*sz) (h1:∀ v∈news,v.oneCell'=true) (hm:0<m) (hb:0<by')
   (hsz:(k+m)*by'≤140737488355328)
   (h:∀ ad' c' a' w',Fr a' n ((d,.slice ad' (k+m) c')::l)→St W w' (Sl e sz ad' (k+m) c' (cs++news)::R)→K a' w') :
   StepK P ops Q ⟨some d,.call ⟨.builtin .append,#[s,x],#[t,t]⟩,ty,ps,af,g⟩ K a w:=by
 obtain⟨ad',c',w',h2,h3⟩:=ex_append (P:=P) (dst:=some d) (ty:=ty) (ps:=ps) (af:=af) (g:=g) ha hs ht hi hz (s:=s) (x:=x) hr hl h1 hm hb hsz
 exact st_set ha hw h2 hf λa' ha'=>h _ _ a' _ ha' h3
class EvP (l:List (Nat×Value))(parts:List (Nat×Operand))(i:Nat)(css:outParam (List (List Value))):Prop where
 h:∀ a n,Fr a n l→∃ vs:List Value,parts.map (λp=>(p.1,a.eval p.2))=(List.range' i css.length).zip vs∧vs.map (·.cells)=css.map (·.toArray)
instance EvP.nil {l i}:EvP l [] i []:=⟨λ_ _ _=>⟨[],rfl,rfl⟩⟩
instance EvP.cons {l i o v c ps css}[h1:Ev l o v][h2:Cells v c][h3:EvP l ps (i+1) css]:EvP l ((i,o)::ps) i (c::css):=⟨λa n ha=>by
 obtain⟨vs,e1,e2⟩:=h3.h a n ha
 exact⟨v::vs,by simp[List.range'_succ,e1,h1.ev a n ha],by simp[e2,h2.h]⟩⟩
theorem foldl_set (c:List Value):∀ (k:Nat) (off:Nat) (cells:List Value),off+k+c.length≤cells.length →
   (c.zipIdx k).foldl (λ(cs:Array Value) (p:Value×Nat)=>cs.setIfInBounds (off+p.2) p.1) cells.toArray=(cells.take (off+k)++c++cells.drop (off+k+c.length)).toArray:=by
 induction c with
 | nil=>intro k off cells h;simp
 | cons x c ih =>
   intro k off cells h
   simp only[List.length_cons]at h
   simp only[List.zipIdx_cons,List.foldl_cons,List.setIfInBounds_toArray]
   rw[ih (k+1) off (cells.set (off+k) x) (by simp;omega)]
   congr 1
   rw[List.set_eq_take_append_cons_drop,if_pos (by omega)]
   have hl:(cells.take (off+k)).length=off+k:=by simp;omega
   have e1:(cells.take (off+k)++x::cells.drop (off+k+1)).take (off+(k+1))=cells.take (off+k)++[x]:=by
     rw[List.take_append,hl,List.take_of_length_le (by omega)]
     congr 1
     rw[show off+(k+1)-(off+k)=1 from by omega];simp
   have e2:(cells.take (off+k)++x::cells.drop (off+k+1)).drop (off+(k+1)+c.length)=cells.drop (off+k+(c.length+1)):=by
     rw[List.drop_append,hl,List.drop_of_length_le (by rw[hl];omega),List.nil_append,show off+(k+1)+c.length-(off+k)=c.length+1 from by omega,List.drop_succ_cons,List.drop_drop]
     congr 1;omega
   rw[e1,e2];simp
theorem fill_row {sz:Nat}:∀ (css:List (List Value)) (vs:List Value) (i:Nat) (pre rst:List Value),vs.map (·.cells)=css.map (·.toArray)→(∀ c∈css,c.length=sz)→pre.length=i*sz→rst.length=css.length*sz →
   Instr.fill (λi=>some (i*sz,sz)) (pre++rst).toArray ((List.range' i css.length).zip vs)=some (pre++css.flatten).toArray
 | [],vs,i,pre,rst,h,_,_,hr=>by
   have:rst=[]:=List.eq_nil_of_length_eq_zero (by simpa using hr)
   subst this;simp[Instr.fill]
 | c::css,[],_,_,_,h,_,_,_=>by simp at h
 | c::css,v::vs,i,pre,rst,h,hc,hp,hr=>by
   simp only[List.map_cons,List.cons.injEq]at h
   have hcl:=hc c (by simp)
   simp only[List.length_cons,Nat.succ_mul]at hr
   have hcs:v.cells.size=sz:=by rw[h.1];simpa using hcl
   have ih:=fill_row (sz:=sz) css vs (i+1) (pre++c) (rst.drop sz) h.2 (λx hx=>hc x (by simp[hx])) (by simp[hp,hcl,Nat.succ_mul]) (by simp;omega)
   simp only[List.length_cons,List.range'_succ,List.zip_cons_cons,Instr.fill]
   rw[if_neg (by simp[hcs,hp];omega)]
   have:=foldl_set c 0 (i*sz) (pre++rst) (by simp[hp];omega)
   have e1:(pre++rst).take (i*sz)=pre:=by rw[← hp,List.take_left]
   have e2:(pre++rst).drop (i*sz+c.length)=rst.drop sz:=by rw[← hp,← List.drop_drop,List.drop_left,hcl]
   simp only[Nat.add_zero]at this
   rw[e1,e2]at this
   have e3:(v.cells.zipIdx.foldl (λ(cs:Array Value) (x:Value×Nat)=>cs.setIfInBounds (i*sz+x.2) x.1) (pre++rst).toArray)=(pre++c++rst.drop sz).toArray:=by
     rw[h.1,← Array.foldl_toList,Array.toList_zipIdx]
     exact this
   have e4:=ih
   simp only[List.flatten_cons] at *
   rw[← List.append_assoc,← e4]
   congr 1
theorem st_buildSlice {t el z sz by' m parts css ty ps af g}(ha:Fr a n l)(hw:Region.wanted ⟨some d,.buildSlice t m (List.toArray parts),ty,ps,af,g⟩ (yielded ops a.tmps)=true)(hs:St W w L)(ht:P.underlying t=some (.slice el))
   (hi:TI P el z sz by') (hz:z.cells.size=sz) (hf:okB d n l=true) [ep:EvP l parts 0 css] (hm:css.length=m) (hc:(css.all λc=>c.length==sz)=true) (h24:m*sz≤16777216) (h0:0<m*sz)
   (h:∀ b a' w',Fr a' n ((d,.slice (some ⟨b,0,none⟩) m m)::l)→St W w' (blk b el css.flatten::L)→Old w w'→K a' w') :
   StepK P ops Q ⟨some d,.buildSlice t m (List.toArray parts),ty,ps,af,g⟩ K a w:=by
 obtain⟨vs,e1,e2⟩:=ep.h a n ha
 have hf2:=fill_row (sz:=sz) css vs 0 [] ((List.range (m*sz)).map (λi=>z.cells[i%z.cells.size]!)) e2 (λc hc'=>by simpa using List.all_eq_true.1 hc c hc') (by simp) (by simp[hm])
 simp only[List.nil_append]at hf2
 refine st_set (v:=.slice (some ⟨w.heap.size,0,none⟩) m m) (w':=w.alloc (.cells css.flatten.toArray el)) ha hw ?_ hf (λa' ha'=>h _ _ _ ha' (hs.alloc _) (Old.alloc _ _))
 have h24':¬ (16777216<m*sz):=by omega
 have h0':¬ (m*sz=0):=by omega
 have e3:(Array.range (m*sz)).map (λi=>z.cells[i%z.cells.size]!)=((List.range (m*sz)).map (λi=>z.cells[i%z.cells.size]!)).toArray:=by
   apply Array.ext';simp
 simp only[execOp,Sem.run_bind,Instr.buildSlice,run_underlying ht,Result.andThen_ok,run_size hi,List.map_toArray,e1,hm]
 simp only[hm]at hf2
 simp[h24',run_zero hi,e3,hf2,newRow,newObj,Sem.run,if_neg h0']
theorem st_storeS {t z by' x y b off k o' e sz m c cs v ty ps af g}(ha:Fr a n l)(hw:Region.wanted ⟨none,.store t x y,ty,ps,af,g⟩ (yielded ops a.tmps)=true)(hs:St W w L)
   (hi:TI P t z 1 by') [ev:Ev l x (.pointer (some ⟨b,o',none⟩))] [ew:Ev l y v] [kc:Cells v [v]] [pk:PickSl L (some ⟨b,off,none⟩) m c e sz cs R] (h1:v.oneCell'=true) (ho:o'=off+k) (hk:k<cs.length)
   (h:∀ a' w',Fr a' n l→St W w' (Sl e sz (some ⟨b,off,none⟩) m c (cs.set k v)::R)→K a' w'):StepK P ops Q ⟨none,.store t x y,ty,ps,af,g⟩ K a w:=by
 subst ho
 have hs1:=hs.perm pk.perm
 have hsl:=hs1.sl (some ⟨b,off,none⟩)
 have hc:0<c:=by
   rcases Nat.eq_zero_or_pos c with h0 | h0
   · have:m=0:=by omega
     subst this;rw[Nat.zero_mul]at hsl;omega
   · exact h0
 obtain⟨b2,pre,post,⟨a1,a2,a3,a4⟩,s2⟩:=hs1.slOpen hc
 cases a3
 refine st_store (cs:=pre++cs++post) (R:=R) ha hw s2 hi h1 (by simp only[List.length_append];omega) (λa' w' ha' hs'=>h a' w' ha' ?_)
 have e1:(pre++cs++post).set (pre.length+k) v=pre++cs.set k v++post:=by
   rw[List.append_assoc,List.set_append_right _ _ (by omega),show pre.length+k-pre.length=k from by omega,List.set_append_left _ _ hk,List.append_assoc]
 rw[e1]at hs'
 exact St.slShut hs' (by rw[List.length_set];exact a1) a2 a4
end
end
section
def wpN (P:Program)(ops:Array Oper)(Q:Exit→Act→World→Prop)(C:World→Prop)(need:List Nat):Nat→Array Bool→Act→World→Prop
 | 0,listed,a,w=>Region.ready .any ops listed=[]∧Q .normal a w
 | fuel+1,listed,a,w =>
   (Region.ready .any ops listed=[]→Q .normal a w) ∧
   ∀ i∈Region.ready .any ops listed,wpOp P ops Q i (λa' w'=>(need.contains i=true→C w')∧wpN P ops Q C need fuel (listed.setIfInBounds i true) a' w') a w
def maskOf (acc:List Nat)(es:List Edge):Nat:=es.foldl (λs e=>if Region.binds .any e then s ||| 2 ^ e.on ||| acc.getD e.on 0 else s) 0
def masks:List Oper→List Nat→List Nat
 | [],acc=>acc
 | o::r,acc=>masks r (acc++[maskOf acc o.after.toList])
def dcB (ops:Array Oper)(listed:Array Bool):Bool :=
 (List.range ops.size).all λj=>!listed.getD j false||match ops[j]? with
   | none=>true
   | some o=>o.after.all λe=>!Region.binds .any e||listed.getD e.on false
def DC (ops:Array Oper)(listed:Array Bool):Prop:=∀ j o,ops[j]?=some o→listed.getD j false=true→∀ e∈o.after,Region.binds .any e=true→listed.getD e.on false=true
def takeB (ops:Array Oper)(listed:Array Bool)(need:List Nat)(pure:Bool)(i:Nat):Bool :=
 Region.noSelect ops&&dcB ops listed&&(Region.ready .any ops listed).contains i&&match ops[i]? with
   | none=>false
   | some oi=>(List.range ops.size).all λj=>j==i||listed.getD j true||((masks ops.toList []).getD j 0).testBit i||match ops[j]? with
     | none=>true
     | some oj=>oi.apart ops oj&&(pure||need.contains j)
def lb (n m:Nat):Array Bool:=((List.range n).map m.testBit).toArray
def PanOk (Q:Exit→Act→World→Prop):Prop:=∀ c a (o:Option Tmp) v w,Q (.panic c) (a.put o v) w→Q (.panic c) a w
theorem pk_then {K Q}(h:PanOk Q):PanOk (Exit.then K Q):=h
theorem pk_blk {i Q}(h:PanOk Q):PanOk (Exit.inBlock i Q):=h
theorem pk_body {P fn X}:PanOk (bodyPost P fn X):=λc a o v w h=>by
 cases o <;> exact h
section
variable {P:Program}{ops:Array Oper}{Q:Exit→Act→World→Prop}{C:World→Prop}{need:List Nat}{a:Act}{w:World}{n d:Nat}{l:List (Nat×Value)}{v:Value}
theorem wpN_any:∀ (fuel:Nat) (listed:Array Bool) (a:Act) (w:World),wpN P ops Q C need fuel listed a w→wpAny P .any ops Q fuel listed a w
 | 0,_,_,_,h=>h
 | fuel+1,_,_,_,h=>⟨h.1,λi hi=>wpOp_mono (λa' w' h'=>wpN_any fuel _ a' w' h'.2) (h.2 i hi)⟩
theorem dc_of {listed:Array Bool}(h:dcB ops listed=true):DC ops listed:=by
 intro j o hj hl e he hb
 have hlt:j<ops.size:=(Array.getElem?_eq_some_iff.1 hj).1
 have h1:=List.all_eq_true.1 h j (List.mem_range.2 hlt)
 simp only[hl,hj,Bool.not_true,Bool.false_or]at h1
 have h2:=Array.all_eq_true_iff_forall_mem.1 h1 e he
 simpa [hb] using h2
theorem DC.set {listed:Array Bool}(h:DC ops listed){i:Nat}(hi:i∈Region.ready .any ops listed):DC ops (listed.setIfInBounds i true):=by
 intro j o hj hl e he hb
 obtain⟨_,oi,hoi,hall⟩:=mem_ready.1 hi
 by_cases hji:j=i
 · subst hji
   rw[hoi]at hj;cases hj
   exact getD_set_true (hall e he hb)
 · rw[getD_set_ne false (Ne.symm hji)]at hl
   exact getD_set_true (h j o hj hl e he hb)
theorem maskOf_bit {acc:List Nat}{i:Nat}:∀ (es:List Edge) (s:Nat),(es.foldl (λs e=>if Region.binds .any e then s ||| 2 ^ e.on ||| acc.getD e.on 0 else s) s).testBit i=true →
   s.testBit i=true∨∃ e∈es,Region.binds .any e=true∧(e.on=i∨(acc.getD e.on 0).testBit i=true)
 | [],s,h=>.inl h
 | e::es,s,h=>by
   simp only[List.foldl_cons]at h
   rcases maskOf_bit es _ h with h1 | ⟨x,hx,hb,hi⟩
   · cases hb:Region.binds .any e with
     | false=>rw[hb]at h1;exact .inl (by simpa using h1)
     | true =>
       rw[hb,if_pos rfl]at h1
       simp only[Nat.testBit_or,Bool.or_eq_true,Nat.testBit_two_pow,decide_eq_true_eq]at h1
       rcases h1 with (h1 | h1) | h1
       · exact .inl h1
       · exact .inr ⟨e,List.mem_cons_self,hb,.inl h1⟩
       · exact .inr ⟨e,List.mem_cons_self,hb,.inr h1⟩
   · exact .inr ⟨x,List.mem_cons_of_mem _ hx,hb,hi⟩
theorem masks_in {listed:Array Bool}(h:DC ops listed):∀ (r:List Oper) (acc:List Nat),(∀ j,r[j]?=ops[acc.length+j]?) →
   (∀ k,k<acc.length→(∀ o,ops[k]?=some o→∀ e∈o.after,Region.binds .any e=true→listed.getD e.on false=true)→∀ i,(acc.getD k 0).testBit i=true→listed.getD i false=true) →
   ∀ k,(∀ o,ops[k]?=some o→∀ e∈o.after,Region.binds .any e=true→listed.getD e.on false=true)→∀ i,((masks r acc).getD k 0).testBit i=true→listed.getD i false=true
 | [],acc,_,hinv,k,hk,i,hb=>by
   rcases Nat.lt_or_ge k acc.length with hlt | hge
   · exact hinv k hlt hk i hb
   · simp[masks,List.getD_eq_getElem?_getD,List.getElem?_eq_none hge]at hb
 | o::r,acc,hr,hinv,k,hk,i,hb=>by
   refine masks_in h r (acc++[maskOf acc o.after.toList]) (λj=>?_) ?_ k hk i hb
   · have:=hr (j+1)
     simp only[List.getElem?_cons_succ]at this
     rw[this];congr 1;simp;omega
   · intro k' hk' hk2 i' hb'
     simp only[List.length_append,List.length_cons,List.length_nil]at hk'
     rcases Nat.lt_or_ge k' acc.length with hlt | hge
     · rw[List.getD_eq_getElem?_getD,List.getElem?_append_left hlt,← List.getD_eq_getElem?_getD]at hb'
       exact hinv k' hlt hk2 i' hb'
     · obtain rfl:k'=acc.length:=by omega
       rw[List.getD_eq_getElem?_getD,List.getElem?_append_right (Nat.le_refl _)]at hb'
       simp only[Nat.sub_self,List.getElem?_cons_zero,Option.getD_some]at hb'
       have ho:ops[acc.length]?=some o:=by have:=hr 0;simpa using this.symm
       rcases maskOf_bit _ _ hb' with h1 | ⟨e,he,hbd,h1⟩
       · simp at h1
       · have hle:=hk2 o ho e (Array.mem_toList_iff.1 he) hbd
         rcases h1 with h1 | h1
         · rw[← h1];exact hle
         · rcases Nat.lt_or_ge e.on acc.length with hlt | hge2
           · exact hinv e.on hlt (λo' ho' e' he' hb2=>h e.on o' ho' hle e' he' hb2) i' h1
           · simp[List.getD_eq_getElem?_getD,List.getElem?_eq_none hge2]at h1
theorem not_waits {listed:Array Bool}(h:DC ops listed){i:Nat}(hi:listed.getD i false=false)(k:Nat)(hk:∀ o,ops[k]?=some o→∀ e∈o.after,Region.binds .any e=true→listed.getD e.on false=true) :
   ((masks ops.toList []).getD k 0).testBit i=false:=by
 cases hb:((masks ops.toList []).getD k 0).testBit i with
 | false=>rfl
 | true =>
   have:=masks_in h ops.toList [] (λj=>by simp) (λk hk=>by simp at hk) k hk i hb
   rw[hi]at this;cases this
theorem wpN_first {T:World→Prop}{i:Nat}{oi:Oper}(hi:ops[i]?=some oi)(hs:Region.noSelect ops=true)(hQ:PanOk Q) :
   ∀ (fuel:Nat) (listed:Array Bool) (a:Act) (w:World),
     (∀ j oj,ops[j]?=some oj→j≠i→listed.getD j true=false→((masks ops.toList []).getD j 0).testBit i=false→oi.apart ops oj=true∧∀ w',(need.contains j=true→C w')→T w') →
     DC ops listed→i∈Region.ready .any ops listed→YieldsIf P ops T oi v a→T w→(∀ w',T w'→need.contains i=true→C w') →
     wpN P ops Q C need fuel (listed.setIfInBounds i true) (a.put oi.dst v) w→wpN P ops Q C need (fuel+1) listed a w:=by
 have hsel:=Region.noSelect_spec hs
 intro fuel
 induction fuel with
 | zero =>
   intro listed a w _ _ hr hy hT hTC H
   refine⟨λh=>(by rw[h]at hr;cases hr),λj hj=>?_⟩
   by_cases hji:j=i
   · subst hji;exact hy.wpOp hi hT ⟨hTC w hT,H⟩
   · have:=ready_mono hj hji
     rw[H.1]at this
     cases this
 | succ fuel ih =>
   intro listed a w hfree hdc hr hy hT hTC H
   refine⟨λh=>(by rw[h]at hr;cases hr),λj hj=>?_⟩
   by_cases hji:j=i
   · subst hji;exact hy.wpOp hi hT ⟨hTC w hT,H⟩
   · have h1:=H.2 j (ready_mono hj hji)
     obtain⟨hjun,oj,hoj,hall⟩:=mem_ready.1 hj
     have hiun:listed.getD i false=false:=by
       have h0:=(mem_ready.1 hr).1
       rcases Nat.lt_or_ge i listed.size with h' | h'
       · simp[h']at h0 ⊢;exact h0
       · simp[Array.getElem?_eq_none h']
     have hnw:=not_waits hdc hiun j (λo ho e he hb=>by rw[hoj]at ho;cases ho;exact hall e he hb)
     obtain⟨hap,hst⟩:=hfree j oj hoj hji hjun hnw
     have h2:=wpOp_putIf (S:=T) hoj hap (λcs b=>hsel i oi cs b hi) (λcs b=>hsel j oj cs b hoj) (λc a w=>hQ c a oi.dst v w) hy h1
     have hfree':∀ k ok,ops[k]?=some ok→k≠i→(listed.setIfInBounds j true).getD k true=false→((masks ops.toList []).getD k 0).testBit i=false→oi.apart ops ok=true∧∀ w',(need.contains k=true→C w')→T w':=λk ok hk hki hun hno=>by
       refine hfree k ok hk hki ?_ hno
       by_cases hjk:j=k
       · subst hjk;exact hjun
       · rw[getD_set_ne true hjk]at hun;exact hun
     refine wpOp_mono (λa' w' h3=>⟨h3.2.1,ih (listed.setIfInBounds j true) a' w' hfree' (hdc.set hj) (ready_mono hr (Ne.symm hji)) h3.1 (hst w' h3.2.1) hTC ?_⟩) h2
     rw[Array.setIfInBounds_comm _ _ hji]
     exact h3.2.2
theorem wpN_pure {i fuel:Nat}{listed:Array Bool}{oi:Oper}(hi:ops[i]?=some oi)(ht:takeB ops listed need true i=true)(hn:need.contains i=false)(hQ:PanOk Q)
   (hy:YieldsIf P ops (λ_=>True) oi v a)
   (h:wpN P ops Q C need fuel (listed.setIfInBounds i true) (a.put oi.dst v) w):wpN P ops Q C need (fuel+1) listed a w:=by
 simp only[takeB,hi,Bool.and_eq_true,List.all_eq_true,List.mem_range]at ht
 obtain⟨⟨⟨h1,h2⟩,h3⟩,h4⟩:=ht
 refine wpN_first (T:=λ_=>True) hi h1 hQ fuel listed a w (λj oj hj hne hun hnw=>?_) (dc_of h2) (by simpa using h3) hy trivial (λ_ _ h=>by rw[hn]at h;cases h) h
 have h5:=h4 j (Array.getElem?_eq_some_iff.1 hj).1
 simp only[hj,hnw,hun,Bool.or_eq_true,beq_iff_eq,hne,Bool.false_eq_true,Bool.and_eq_true,false_or,or_false]at h5
 exact⟨h5.1,λ_ _=>trivial⟩
theorem wpN_held {i fuel:Nat}{listed:Array Bool}{oi:Oper}(hi:ops[i]?=some oi)(ht:takeB ops listed need false i=true)(hQ:PanOk Q)
   (hy:YieldsIf P ops C oi v a) (hC:C w)
   (h:wpN P ops Q C need fuel (listed.setIfInBounds i true) (a.put oi.dst v) w):wpN P ops Q C need (fuel+1) listed a w:=by
 simp only[takeB,hi,Bool.and_eq_true,List.all_eq_true,List.mem_range]at ht
 obtain⟨⟨⟨h1,h2⟩,h3⟩,h4⟩:=ht
 refine wpN_first (T:=C) hi h1 hQ fuel listed a w (λj oj hj hne hun hnw=>?_) (dc_of h2) (by simpa using h3) hy hC (λ_ h _=>h) h
 have h5:=h4 j (Array.getElem?_eq_some_iff.1 hj).1
 simp only[hj,hnw,hun,Bool.or_eq_true,beq_iff_eq,hne,Bool.false_eq_true,Bool.and_eq_true,false_or,or_false]at h5
 exact⟨h5.1,λw' hw'=>hw' h5.2⟩
theorem nt_pure {i fuel:Nat}{listed listed':Array Bool}(hl:listed.setIfInBounds i true=listed') {op ty ps af g}(hi:ops[i]?=some ⟨some d,op,ty,ps,af,g⟩)(ht:takeB ops listed need true i=true)(hn:need.contains i=false)(hQ:PanOk Q)
   (ha:Fr a n l) (hw:Region.wanted ⟨some d,op,ty,ps,af,g⟩ (yielded ops a.tmps)=true) (hr:∀ w,(execOp a.eval ⟨some d,op,ty,ps,af,g⟩).run P w=.ok (.value v) w) (hf:okB d n l=true)
   (h:∀ a',Fr a' n ((d,v)::l)→wpN P ops Q C need fuel listed' a' w):wpN P ops Q C need (fuel+1) listed a w:=by
 subst hl;exact wpN_pure hi ht hn hQ (.inl ⟨hw,λw _=>hr w⟩) (h _ (ha.put hf v))
theorem nt_held {i fuel:Nat}{listed listed':Array Bool}(hl:listed.setIfInBounds i true=listed') {op ty ps af g}(hi:ops[i]?=some ⟨some d,op,ty,ps,af,g⟩)(ht:takeB ops listed need false i=true)(hQ:PanOk Q)
   (ha:Fr a n l) (hw:Region.wanted ⟨some d,op,ty,ps,af,g⟩ (yielded ops a.tmps)=true) (hr:∀ w,C w→(execOp a.eval ⟨some d,op,ty,ps,af,g⟩).run P w=.ok (.value v) w) (hC:C w) (hf:okB d n l=true)
   (h:∀ a',Fr a' n ((d,v)::l)→wpN P ops Q C need fuel listed' a' w):wpN P ops Q C need (fuel+1) listed a w:=by
 subst hl;exact wpN_held hi ht hQ (.inl ⟨hw,hr⟩) hC (h _ (ha.put hf v))
theorem nt_offU {i fuel:Nat}{listed listed':Array Bool}(hl:listed.setIfInBounds i true=listed') {op ty ps af g}(hi:ops[i]?=some ⟨some d,op,ty,ps,af,g⟩)(ht:takeB ops listed need true i=true)(hn:need.contains i=false)(hQ:PanOk Q)
   (ha:Fr a n l) (hw:Region.wanted ⟨some d,op,ty,ps,af,g⟩ (yielded ops a.tmps)=false) (hf:okB d n l=true)
   (h:∀ a',Fr a' n ((d,undef)::l)→wpN P ops Q C need fuel listed' a' w):wpN P ops Q C need (fuel+1) listed a w:=by
 subst hl;exact wpN_pure hi ht hn hQ (.inr ⟨hw,rfl⟩) (h _ (ha.put hf undef))
theorem nt_offUH {i fuel:Nat}{listed listed':Array Bool}(hl:listed.setIfInBounds i true=listed') {op ty ps af g}(hi:ops[i]?=some ⟨some d,op,ty,ps,af,g⟩)(ht:takeB ops listed need false i=true)(hQ:PanOk Q)
   (ha:Fr a n l) (hw:Region.wanted ⟨some d,op,ty,ps,af,g⟩ (yielded ops a.tmps)=false) (hC:C w) (hf:okB d n l=true)
   (h:∀ a',Fr a' n ((d,undef)::l)→wpN P ops Q C need fuel listed' a' w):wpN P ops Q C need (fuel+1) listed a w:=by
 subst hl;exact wpN_held hi ht hQ (.inr ⟨hw,rfl⟩) hC (h _ (ha.put hf undef))
theorem nt_one {i fuel:Nat}{listed listed':Array Bool}(hl:listed.setIfInBounds i true=listed'){o:Oper}(hr:Region.ready .any ops listed=[i])(hi:ops[i]?=some o)
   (h:StepK P ops Q o (λa' w'=>(need.contains i=true→C w')∧wpN P ops Q C need fuel listed' a' w') a w):wpN P ops Q C need (fuel+1) listed a w:=by
 subst hl
 refine⟨λh0=>(by rw[hr]at h0;cases h0),λj hj=>?_⟩
 rw[hr]at hj
 obtain rfl:j=i:=by simpa using hj
 simp only[wpOp,hi]
 exact h
theorem nt_done {listed:Array Bool}(hr:Region.ready .any ops listed=[])(h:Q .normal a w):∀ fuel,wpN P ops Q C need fuel listed a w
 | 0=>⟨hr,h⟩
 | _+1=>⟨λ_=>h,by rw[hr];simp⟩
theorem wp_draw {id m:Nat}{l0:Array Bool}(C:World→Prop)(need:List Nat)(hm:P.follows .mixedOrders=true)(hn:ops.size=m)(hl:Array.replicate m false=l0)(hQ:PanOk Q)(h:PanOk Q→wpN P ops Q C need m l0 a w.drew):(Code.region id ops true).wp P Q a w:=by
 subst hl;subst hn
 exact wp_region_any hm (wpN_any _ _ _ _ (h hQ))
theorem Old.rd {w0 w:World}(h:Old w0 w){b off:Nat}{vs:List Value}(hc:Rd w0 b off vs):Rd w b off vs:=λj v hj=>h.cell (hc j v hj)
end
end
section
class BuildT (P:Program)(t:TypeId)(places:outParam (List (Nat×Nat))):Prop where
 h:∃ fs,P.underlying t=some (.struct fs)∧∀ w,(fs.mapM (λf=>do pure (f.offset,← sizeOf f.type)):Sem (Array (Nat×Nat))).run P w=.ok places.toArray w
class NthP (ps:List (Nat×Nat))(i:Nat)(off sz:outParam Nat):Prop where h:ps[i]?=some (off,sz)
instance NthP.zero {off sz ps}:NthP ((off,sz)::ps) 0 off sz:=⟨rfl⟩
instance NthP.succ {p ps i off sz}[h:NthP ps i off sz]:NthP (p::ps) (i+1) off sz:=⟨by rw[List.getElem?_cons_succ];exact h.h⟩
class SplC (cs:List Value)(off:Nat)(vs:List Value)(out:outParam (List Value)):Prop where h:off+vs.length≤cs.length→splice cs off vs=out
theorem splice_cons {cs vs:List Value}{off:Nat}{v:Value}(h:off+(vs.length+1)≤cs.length):splice cs off (v::vs)=splice (cs.set off v) (off+1) vs:=by
 have hl:(cs.take off).length=off:=by simp;omega
 simp only[splice,List.length_cons]
 rw[List.set_eq_take_append_cons_drop,if_pos (by omega)]
 have e1:(cs.take off++v::cs.drop (off+1)).take (off+1)=cs.take off++[v]:=by
   rw[List.take_append,hl,List.take_of_length_le (by omega),show off+1-off=1 from by omega];simp
 have e2:(cs.take off++v::cs.drop (off+1)).drop (off+1+vs.length)=cs.drop (off+(vs.length+1)):=by
   rw[List.drop_append,hl,List.drop_of_length_le (by rw[hl];omega),List.nil_append,show off+1+vs.length-off=vs.length+1 from by omega,List.drop_succ_cons,List.drop_drop]
   congr 1;omega
 rw[e1,e2];simp
instance (priority:=low) SplC.any {cs off vs}:SplC cs off vs (splice cs off vs):=⟨λ_=>rfl⟩
instance SplC.nil {cs off}:SplC cs off [] cs:=⟨λ_=>by simp[splice]⟩
instance SplC.cons {cs off v vs cs1 out}[h1:SetC cs off v cs1][h2:SplC cs1 (off+1) vs out]:SplC cs off (v::vs) out:=⟨λh=>by
 simp only[List.length_cons]at h
 rw[splice_cons h,h1.h]
 exact h2.h (by rw[← h1.h];simp;omega)⟩
theorem splice_len {cs vs:List Value}{off:Nat}(h:off+vs.length≤cs.length):(splice cs off vs).length=cs.length:=by simp[splice];omega
class LenEq (c:List Value)(n:Nat):Prop where h:c.length=n
instance LenEq.nil:LenEq [] 0:=⟨rfl⟩
instance LenEq.cons {x c n}[h:LenEq c n]:LenEq (x::c) (n+1):=⟨by simp[h.h]⟩
class FillQ (places:List (Nat×Nat))(zs:List Value)(l:List (Nat×Value))(parts:List (Nat×Operand))(out:outParam (List Value)):Prop where
 h:(∀ p∈places,p.1+p.2≤zs.length)→∀ a n,Fr a n l→Instr.fill (places.toArray[·]?) zs.toArray (parts.map λp=>(p.1,a.eval p.2))=some out.toArray
instance FillQ.nil {places zs l}:FillQ places zs l [] zs:=⟨λ_ _ _ _=>rfl⟩
instance FillQ.cons {places zs l i o ps off sz v c zs1 out}[h1:NthP places i off sz][h2:Ev l o v][h3:Cells v c][h4:LenEq c sz][h5:SplC zs off c zs1][h6:FillQ places zs1 l ps out] :
   FillQ places zs l ((i,o)::ps) out:=⟨λhp a n ha=>by
 have hin:=hp _ (List.mem_of_getElem? h1.h)
 simp only at hin
 have hl:=h4.h
 have e1:=h5.h (by rw[hl];exact hin)
 have hz1:zs1.length=zs.length:=by rw[← e1];exact splice_len (by rw[hl];exact hin)
 have ih:=h6.h (by rw[hz1];exact hp) a n ha
 simp only[List.map_cons,Instr.fill,h2.ev a n ha]
 have hg:places.toArray[i]?=some (off,sz):=by rw[List.getElem?_toArray];exact h1.h
 simp only[hg]
 have hcs:v.cells.size=sz:=by rw[h3.h];simpa using hl
 rw[if_neg (by simp[hcs];omega)]
 have hf:=foldl_set c 0 off zs (by rw[hl];omega)
 have e3:(v.cells.zipIdx.foldl (λ(cs:Array Value) (x:Value×Nat)=>cs.setIfInBounds (off+x.2) x.1) zs.toArray)=zs1.toArray:=by
   rw[h3.h,← Array.foldl_toList,Array.toList_zipIdx,← e1]
   simpa [splice] using hf
 rw[← ih]
 congr 1⟩
section
variable {P:Program}{ops:Array Oper}{Q:Exit→Act→World→Prop}{a:Act}{w w' W:World}{K:Act→World→Prop}{n:Nat}{l:List (Nat×Value)}{v:Value}{L R:List SP}
theorem ex_build {t places z zs sz by' parts cs dst ty ps af g}(ha:Fr a n l)(hb:BuildT P t places)(hi:TI P t z sz by')[kz:Cells z zs][fq:FillQ places zs l parts cs](hp:(places.all λp=>Nat.ble (p.1+p.2) zs.length)=true) :
   (execOp a.eval ⟨dst,.build t (List.toArray parts),ty,ps,af,g⟩).run P w=.ok (.value (.agg cs.toArray)) w:=by
 obtain⟨fs,hu,hm⟩:=hb.h
 have hf:=fq.h (λp hpm=>Nat.le_of_ble_eq_true (List.all_eq_true.1 hp p hpm)) a n ha
 simp only[execOp,Sem.run_bind,Instr.build,run_zero hi,Result.andThen_ok,run_underlying hu,hm,kz.h]
 simp only[List.getElem?_toArray]at hf
 simp[hf]
theorem ex_extract {x i vs dst ty ps af g}(ha:Fr a n l)[e:Ev l x (.tuple (List.toArray vs))](h:vs[i]?=some v):(execOp a.eval ⟨dst,.extract x i,ty,ps,af,g⟩).run P w=.ok (.value v) w:=by
 simp[execOp,e.ev a n ha,Instr.extract,h]
theorem run_equalIn_bool {t:TypeId}(ht:P.underlying t=some .bool)(i j:Bool)(k:Nat):(Op.equalIn (k+1) t (.bool i) (.bool j)).run P w=.ok (i==j) w:=by
 simp[Op.equalIn,run_underlying ht]
theorem run_equal_bool {t:TypeId}(ht:P.underlying t=some .bool)(i j:Bool):(Op.equal t (.bool i) (.bool j)).run P w=.ok (i==j) w:=run_equalIn_bool ht i j 9999
theorem run_neq_bool {t:TypeId}(ht:P.underlying t=some .bool)(i j:Bool):(binOp .neq t (.bool i) (.bool j)).run P w=.ok (.bool (i != j)) w:=by
 simp only[binOp]
 simp[run_equal_bool ht,bne]
theorem ex_neqB {x y i j t u dst ty ps af g}(ha:Fr a n l)(ht:P.underlying t=some .bool)[e:Ev l x (.bool i)][f:Ev l y (.bool j)] :
   (execOp a.eval ⟨dst,.binOp .neq t x y u,ty,ps,af,g⟩).run P w=.ok (.value (.bool (i != j))) w:=by
 simp only[execOp,e.ev a n ha,f.ev a n ha,Sem.run_bind];simp[eqGuard,run_neq_bool ht]
theorem ex_min {x y k i j ty' dst ty ps af g}(ha:Fr a n l)[e:Ev l x (.int k i)][f:Ev l y (.int k j)] :
   (execOp a.eval ⟨dst,.call ⟨.builtin .min,#[x,y],ty'⟩,ty,ps,af,g⟩).run P w=.ok (.value (.int k (min i j))) w:=by
 simp[execOp,resolve,e.ev a n ha,f.ev a n ha,invoke,builtin,Builtin.min_,Builtin.min2]
 rw[Int.min_def];split <;> split <;> omega
theorem ex_max {x y k i j ty' dst ty ps af g}(ha:Fr a n l)[e:Ev l x (.int k i)][f:Ev l y (.int k j)] :
   (execOp a.eval ⟨dst,.call ⟨.builtin .max,#[x,y],ty'⟩,ty,ps,af,g⟩).run P w=.ok (.value (.int k (max i j))) w:=by
 simp[execOp,resolve,e.ev a n ha,f.ev a n ha,invoke,builtin,Builtin.max_,Builtin.max2]
 rw[Int.max_def];split <;> split <;> omega
theorem st_clear {x t el z sz by' b off m c e cs ty ps af g}(ha:Fr a n l)(hw:Region.wanted ⟨none,.call ⟨.builtin .clear,#[x],#[t]⟩,ty,ps,af,g⟩ (yielded ops a.tmps)=true)(hs:St W w L)
   (ht:P.underlying t=some (.slice el)) (hi:TI P el z sz by') (hz:z.cells.size=sz) (h1:z.cells.toList.all (·.oneCell')=true) [ev:Ev l x (.slice (some ⟨b,off,none⟩) m c)] [k:Blk L b e cs R] (hle:off+m*sz≤cs.length)
   (h:∀ a' w',Fr a' n l→St W w' (blk b e (splice cs off (Builtin.zeroCells z.cells m).toList)::R)→K a' w') :
   StepK P ops Q ⟨none,.call ⟨.builtin .clear,#[x],#[t]⟩,ty,ps,af,g⟩ K a w:=by
 have hs':=hs.bring b
 have hzl:=zero_size (sz:=sz) e (z:=z) (by':=by') hz m
 have hone:∀ v∈(Builtin.zeroCells z.cells m).toList,v.oneCell'=true:=by
   intro v hv
   simp only[Builtin.zeroCells,Array.toList_map,List.mem_map]at hv
   obtain⟨i,hi',rfl⟩:=hv
   have:i<m*z.cells.size:=by simpa using hi'
   have hpos : 0 < z.cells.size := by rcases Nat.eq_zero_or_pos z.cells.size with h | h; · rw [h] at this; omega
                                      · exact h
   have hlt:i%z.cells.size<z.cells.size:=Nat.mod_lt _ hpos
   rw[getElem!_pos z.cells _ hlt]
   exact List.all_eq_true.1 h1 _ (Array.mem_toList_iff.2 (Array.getElem_mem hlt))
 have hst:=run_storeCells_at (P:=P) b off e (Builtin.zeroCells z.cells m).toList 0 cs.toArray w hs'.has.2 (by rw[hzl];simpa using hle) hone
 by_cases hm:m=0
 · subst hm
   refine st_none (v:=.tuple #[]) (w':=w) ha hw ?_ λa' ha'=>h a' w ha' ?_
   · simp[execOp,resolve,ev.ev a n ha,invoke,builtin,Builtin.clear_,run_underlying ht]
   · have:(Builtin.zeroCells z.cells 0).toList=[]:=List.eq_nil_of_length_eq_zero (by rw[hzl];simp)
     rw[this]
     simpa [splice] using hs'
 · refine st_none (v:=.tuple #[]) (w':=w.setRow b (splice cs off (Builtin.zeroCells z.cells m).toList).toArray) ha hw ?_ λa' ha'=>h a' _ ha' hs'.setRow
   have:(storeCells ⟨b,off,none⟩ (Builtin.zeroCells z.cells m).toList).run P w=.ok () (w.setRow b (splice cs off (Builtin.zeroCells z.cells m).toList).toArray):=by
     simpa [splice] using hst
   obtain⟨m',rfl⟩:∃ m',m=m'+1:=⟨m-1,by omega⟩
   simp[execOp,resolve,ev.ev a n ha,invoke,builtin,Builtin.clear_,run_underlying ht,run_zero hi,this]
end
end
section
def bc (bs:List UInt8):List Value:=bs.map λb=>.int .u8 b.toNat
theorem bc_len (bs:List UInt8):(bc bs).length=bs.length:=by simp[bc]
theorem bc_one (bs:List UInt8):∀ v∈bc bs,v.oneCell'=true:=by
 intro v hv
 simp only[bc,List.mem_map]at hv
 obtain⟨b,_,rfl⟩:=hv;rfl
section
variable {P:Program}{ops:Array Oper}{Q:Exit→Act→World→Prop}{a:Act}{w w' W:World}{K:Act→World→Prop}{n d:Nat}{l:List (Nat×Value)}{v:Value}{L R:List SP}
theorem ex_sliceLHM {x y u z3 k k' k'' i i' i'' j j' j'' ad m c t el z sz by' dst ty ps af g}(ha:Fr a n l)(ht:P.underlying t=some (.slice el))(hi:TI P el z sz by')[ev:Ev l x (.slice ad m c)][ey:Ev l y (.int k i)][eu:Ev l u (.int k' i')][ez:Ev l z3 (.int k'' i'')]
   [nj:NatOf i j] [nj':NatOf i' j'] [nj'':NatOf i'' j''] (h:j≤j') (h':j'≤j'') (h'':j''≤c) :
   (execOp a.eval ⟨dst,.slice t x (some y) (some u) (some z3),ty,ps,af,g⟩).run P w=.ok (.value (.slice (cutAd ad j j'' sz) (j'-j) (j''-j))) w:=by
 have hj:=nj.h
 subst hj
 have hj':=nj'.h
 subst hj'
 have hj'':=nj''.h
 subst hj''
 have e1:=(elem_of ht).1
 have e2:=(elem_of ht).2
 have:=run_slice_lhm (P:=P) (w:=w) t ad m c e1 k k' k'' (j:Int) (j':Int) (j'':Int) (by omega) (by omega) (by omega) (by omega)
 rw[e2,run_size hi]at this
 simp only[Result.andThen_ok,Int.toNat_natCast]at this
 simp[execOp,ev.ev a n ha,ey.ev a n ha,eu.ev a n ha,ez.ev a n ha,run_sliceAt_slice (P:=P) (w:=w) t _ _ _ _ e1,this,sliced,cutAd]
theorem ex_eqnilS {x ad m c t el u dst ty ps af g}(ha:Fr a n l)(ht:P.underlying t=some (.slice el))[e:Ev l x (.slice ad m c)] :
   (execOp a.eval ⟨dst,.binOp .eql t x (.const (.slice none 0 0)) u,ty,ps,af,g⟩).run P w=.ok (.value (.bool ad.isNone)) w:=by
 have hc:a.eval (.const (.slice none 0 0))=.slice none 0 0:=rfl
 have:=Lib.run_eql_slice_nil (P:=P) w t el ad m c 0 0 ht
 simp only[execOp,e.ev a n ha,hc,Sem.run_bind];simp[eqGuard,this]
theorem st_appendIn {s x t z sz by' b off el e k c b2 off2 m c2 news ty ps af g}{cs:List Value}(ha:Fr a n l)(hw:Region.wanted ⟨some d,.call ⟨.builtin .append,#[s,x],#[t,t]⟩,ty,ps,af,g⟩ (yielded ops a.tmps)=true)(hs:St W w L)
   (ht:P.underlying t=some (.slice el)) (hi:TI P el z sz by') (hf:okB d n l=true) [e1:Ev l s (.slice (some ⟨b,off,none⟩) k c)] [kb:Blk L b e cs R] [e2:Ev l x (.slice (some ⟨b2,off2,none⟩) m c2)]
   (hr:Rd w b2 off2 news) (hl:news.length=m*sz) (h1:∀ v∈news,v.oneCell'=true) (hfit:k+m≤c) (hle:off+k*sz+news.length≤cs.length)
   (h:∀ a' w',Fr a' n ((d,.slice (some ⟨b,off,none⟩) (k+m) c)::l)→St W w' (blk b e (splice cs (off+k*sz) news)::R)→K a' w') :
   StepK P ops Q ⟨some d,.call ⟨.builtin .append,#[s,x],#[t,t]⟩,ty,ps,af,g⟩ K a w:=by
 obtain⟨i,hi1,hi2,hi3,hi4⟩:=info_parts hi.h
 have hs':=hs.bring b
 have hnews:∀ j v,news[j]?=some v→w.cell? ((⟨b2,off2,none⟩:Addr).add j)=some v:=λj v hj=>by rw[add_off];exact hr j v hj
 have hf1:=run_firstCells_some (P:=P) w sz m ⟨b2,off2,none⟩ m c2 news hl hnews
 have hst:=run_storeCells_at (P:=P) b (off+k*sz) e news 0 cs.toArray w hs'.has.2 (by simpa using hle) h1
 have hst2:(storeCells ⟨b,off+k*sz,none⟩ news).run P w=.ok () (w.setRow b (splice cs (off+k*sz) news).toArray):=by simpa [splice] using hst
 refine st_set (v:=.slice (some ⟨b,off,none⟩) (k+m) c) (w':=w.setRow b (splice cs (off+k*sz) news).toArray) ha hw ?_ hf (λa' ha'=>h a' _ ha' hs'.setRow)
 simp[execOp,resolve,e1.ev a n ha,e2.ev a n ha,invoke,builtin,Builtin.append_,run_underlying ht,sizeOf,typeInfo,hi1,hi3,Builtin.lenOf,hfit,add_off,hf1,hst2]
def RdB (w:World)(ad:Option Addr)(m:Nat)(bs:List UInt8):Prop :=
 bs.length=m∧(ad=none→m=0)∧∀ x,ad=some x→0<m→∃ b off,x=⟨b,off,none⟩∧Rd w b off (bc bs)
theorem push_all (bs:List UInt8):∀ r:List UInt8,(bs.map λb=>(b.toNat:Int)).foldl (λ(r:ByteArray) n=>r.push (UInt8.ofNat n.toNat)) ⟨r.toArray⟩=⟨(r++bs).toArray⟩:=by
 induction bs with
 | nil=>intro r;simp
 | cons b bs ih =>
   intro r
   simp only[List.map_cons,List.foldl_cons]
   have:(ByteArray.mk r.toArray).push (UInt8.ofNat (b.toNat:Int).toNat)=ByteArray.mk (r++[b]).toArray:=by
     simp[ByteArray.push]
   rw[this,ih];simp
theorem ex_toString {x t u el ad m c bs dst ty ps af g}(ha:Fr a n l)(ht:P.underlying t=some (.slice el))(hu:P.underlying el=some (.int .u8))(hs':P.underlying u=some .string)[ev:Ev l x (.slice ad m c)]
   (hr:RdB w ad m bs):(execOp a.eval ⟨dst,.convert t u x,ty,ps,af,g⟩).run P w=.ok (.value (.string ⟨bs.toArray⟩)) w:=by
 have h0:=run_convert_bytes_string (P:=P) w t u el ad m c ht hu hs'
 obtain⟨h1,h2,h3⟩:=hr
 have h4:(Conv.bytesToString (.slice ad m c)).run P w=.ok (.string ⟨bs.toArray⟩) w:=by
   cases ad with
   | none =>
     have:bs=[]:=List.eq_nil_of_length_eq_zero (by rw[h1];exact h2 rfl)
     subst this
     rfl
   | some x =>
     have hl:(loadCells x m).run P w=.ok ((bs.map λb=>(b.toNat:Int)).map (Value.int .u8)).toArray w:=by
       have:=run_loadCells_list (P:=P) w x ((bs.map λb=>(b.toNat:Int)).map (Value.int .u8)) (λj v hj=>by
         have hm:0<m:=by
           rcases Nat.eq_zero_or_pos m with h | h
           · rw[h]at h1
             rw[List.eq_nil_of_length_eq_zero h1]at hj;simp at hj
           · exact h
         obtain⟨b,off,rfl,hrd⟩:=h3 x rfl hm
         rw[add_off]
         refine hrd j v ?_
         simpa [bc] using hj)
       simpa [h1] using this
     have:=run_bytesToString (P:=P) w x m c _ hl
     rw[this]
     have h5:=push_all bs []
     simp only[List.nil_append]at h5
     exact congrArg (λs=>Result.ok (Value.string s) w) h5
 simp[execOp,ev.ev a n ha,h0,h4]
theorem ex_eqlS {x y i j t u dst ty ps af g}(ha:Fr a n l)[e:Ev l x (.string i)][f:Ev l y (.string j)] :
   (execOp a.eval ⟨dst,.binOp .eql t x y u,ty,ps,af,g⟩).run P w=.ok (.value (.bool (i.data.toList==j.data.toList))) w:=by
 simp[execOp,e.ev a n ha,f.ev a n ha,eqGuard,binOp,Op.stringOp,ByteArray.toList_eq]
theorem xor_u8 (x y:UInt8):IntKind.u8.wrap ((x.toNat ^^^ y.toNat:Nat):Int)=((x ^^^ y).toNat:Int):=by
 rw[UInt8.toNat_xor]
 have h:=(x ^^^ y).toNat_lt
 rw[UInt8.toNat_xor]at h
 simp only[IntKind.wrap,IntKind.bits,IntKind.signed,Bool.false_and,Bool.false_eq_true,if_false]
 omega
theorem ex_xor8 {x y t u dst ty ps af g}{i j:UInt8}(ha:Fr a n l)[e:Ev l x (.int .u8 (i.toNat:Int))][f:Ev l y (.int .u8 (j.toNat:Int))] :
   (execOp a.eval ⟨dst,.binOp .xor t x y u,ty,ps,af,g⟩).run P w=.ok (.value (.int .u8 ((i ^^^ j).toNat:Int))) w:=by
 rw[← xor_u8]
 simp[execOp,e.ev a n ha,f.ev a n ha,eqGuard,binOp,Op.intBits]
 have h1:i.toNat%2 ^ IntKind.u8.bits=i.toNat:=Nat.mod_eq_of_lt i.toNat_lt
 have h2:j.toNat%2 ^ IntKind.u8.bits=j.toNat:=Nat.mod_eq_of_lt j.toNat_lt
 rw[h1,h2]
theorem st_buildSlice0 {t el z sz by' ty ps af g}(ha:Fr a n l)(hw:Region.wanted ⟨some d,.buildSlice t 0 #[],ty,ps,af,g⟩ (yielded ops a.tmps)=true)(hs:St W w L)(ht:P.underlying t=some (.slice el))
   (hi:TI P el z sz by') (hf:okB d n l=true)
   (h:∀ b a' w',Fr a' n ((d,.slice (some ⟨b,0,none⟩) 0 0)::l)→St W w' (Sl el sz (some ⟨b,0,none⟩) 0 0 []::L)→Old w w'→K a' w') :
   StepK P ops Q ⟨some d,.buildSlice t 0 #[],ty,ps,af,g⟩ K a w:=by
 refine st_set (v:=.slice (some ⟨w.heap.size,0,none⟩) 0 0) (w':=w.alloc (.cells #[] el)) ha hw ?_ hf (λa' ha'=>h _ _ _ ha' ((hs.alloc (.cells #[] el)).tail.sl0 _ _ _) (Old.alloc _ _))
 simp[execOp,Sem.run_bind,Instr.buildSlice,run_underlying ht,Result.andThen_ok,run_size hi,Instr.fill,newRow,newObj,Sem.run]
 rw[show Array.range 0=#[] from Array.eq_empty_of_size_eq_zero (by simp)];simp
theorem st_append0 {s x t z by' e sz ad k c ad2 c2 ty ps af g}(ha:Fr a n l)(hw:Region.wanted ⟨some d,.call ⟨.builtin .append,#[s,x],#[t,t]⟩,ty,ps,af,g⟩ (yielded ops a.tmps)=true)
   (ht:P.underlying t=some (.slice e)) (hi:TI P e z sz by') (hf:okB d n l=true) [e1:Ev l s (.slice ad k c)] [e2:Ev l x (.slice ad2 0 c2)] (hkc:k≤c)
   (h:∀ a',Fr a' n ((d,.slice ad k c)::l)→K a' w):StepK P ops Q ⟨some d,.call ⟨.builtin .append,#[s,x],#[t,t]⟩,ty,ps,af,g⟩ K a w:=by
 obtain⟨i,hi1,hi2,hi3,hi4⟩:=info_parts hi.h
 have hf1:(Builtin.firstCells sz 0 (.slice ad2 0 c2)).run P w=.ok #[] w:=by
   cases ad2 with
   | none=>exact run_firstCells_none (P:=P) w sz 0 0 c2
   | some b=>exact run_firstCells_some (P:=P) w sz 0 b 0 c2 [] (by simp) (λj v hj=>by simp at hj)
 refine st_set (v:=.slice ad k c) (w':=w) ha hw ?_ hf h
 cases ad <;> simp[execOp,resolve,e1.ev a n ha,e2.ev a n ha,invoke,builtin,Builtin.append_,run_underlying ht,sizeOf,typeInfo,hi1,hi3,Builtin.lenOf,hkc,hf1,storeCells]
end
end
section
class UPtr (P:Program)(t:TypeId):Prop where h:∃ el,P.underlying t=some (.pointer el)
class USl (P:Program)(t:TypeId):Prop where h:∃ el,P.underlying t=some (.slice el)
class UOne (P:Program)(t:TypeId):Prop where h:∃ dd,P.underlying t=some dd∧isOne dd=true
class UFld (P:Program)(t:TypeId)(f:Nat)(k:outParam Nat):Prop where h:∃ fs fl z sz by',P.underlying t=some (.struct fs)∧fs[f]?=some fl∧TI P fl.type z (sz+1) by'∧fl.offset=k
class Ex (P:Program)(l:List (Nat×Value))(op:Go.Op)(v:outParam Value):Prop where
 ex:∀ (a:Act) (n:Nat),Fr a n l→∀ (w:World) (dst ty ps af g),(execOp a.eval ⟨dst,op,ty,ps,af,g⟩).run P w=.ok (.value v) w
section
variable {P:Program}{l:List (Nat×Value)}{v v1 v2:Value}{x y c:Operand}{t u:TypeId}{k:IntKind}{i j:Int}{b:Bool}
instance Ex.move [Ev l x v]:Ex P l (.move x) v:=⟨λ_ _ ha _ _ _ _ _ _=>ex_move ha⟩
instance Ex.assign [Ev l x v]:Ex P l (.assign x) v:=⟨λ_ _ ha _ _ _ _ _ _=>ex_assign ha⟩
instance Ex.nilCheck [Ev l x v] [NotNil v]:Ex P l (.nilCheck x) v:=⟨λ_ _ ha _ _ _ _ _ _=>ex_nilCheck ha⟩
instance Ex.not [Ev l x (.bool b)]:Ex P l (.unOp .not t x) (.bool (!b)):=⟨λ_ _ ha _ _ _ _ _ _=>ex_not ha⟩
instance Ex.lss [Ev l x (.int k i)] [Ev l y (.int k j)]:Ex P l (.binOp .lss t x y u) (.bool (decide (i<j))):=⟨λ_ _ ha _ _ _ _ _ _=>ex_lss ha⟩
instance Ex.leq [Ev l x (.int k i)] [Ev l y (.int k j)]:Ex P l (.binOp .leq t x y u) (.bool (decide (i≤j))):=⟨λ_ _ ha _ _ _ _ _ _=>ex_leq ha⟩
instance Ex.gtr [Ev l x (.int k i)] [Ev l y (.int k j)]:Ex P l (.binOp .gtr t x y u) (.bool (decide (j<i))):=⟨λ_ _ ha _ _ _ _ _ _=>ex_gtr ha⟩
instance Ex.geq [Ev l x (.int k i)] [Ev l y (.int k j)]:Ex P l (.binOp .geq t x y u) (.bool (decide (j≤i))):=⟨λ_ _ ha _ _ _ _ _ _=>ex_geq ha⟩
instance Ex.eql [Ev l x (.int k i)] [Ev l y (.int k j)]:Ex P l (.binOp .eql t x y u) (.bool (decide (i=j))):=⟨λ_ _ ha _ _ _ _ _ _=>ex_eql ha⟩
instance Ex.neq [Ev l x (.int k i)] [Ev l y (.int k j)]:Ex P l (.binOp .neq t x y u) (.bool (decide (i≠j))):=⟨λ_ _ ha _ _ _ _ _ _=>ex_neq ha⟩
instance Ex.eqnil [UPtr P t] [Ev l x v] [IsNil v b]:Ex P l (.binOp .eql t x (.const (.pointer none)) u) (.bool b):=⟨λ_ _ ha _ _ _ _ _ _=>(UPtr.h (P:=P) (t:=t)).elim λ_ h=>ex_eqnil ha h⟩
instance Ex.neqnil [UPtr P t] [Ev l x v] [IsNil v b]:Ex P l (.binOp .neq t x (.const (.pointer none)) u) (.bool (!b)):=⟨λ_ _ ha _ _ _ _ _ _=>(UPtr.h (P:=P) (t:=t)).elim λ_ h=>ex_neqnil ha h⟩
instance Ex.extr0 [Ev l x (.tuple #[v1,v2])]:Ex P l (.extract x 0) v1:=⟨λ_ _ ha _ _ _ _ _ _=>ex_extract ha rfl⟩
instance Ex.extr1 [Ev l x (.tuple #[v1,v2])]:Ex P l (.extract x 1) v2:=⟨λ_ _ ha _ _ _ _ _ _=>ex_extract ha rfl⟩
instance Ex.len {ad:Option Addr}{m c:Nat} [USl P t] [Ev l x (.slice ad m c)]:Ex P l (.call ⟨.builtin .len,#[x],#[t]⟩) (.int .i64 m):=⟨λ_ _ ha _ _ _ _ _ _=>(USl.h (P:=P) (t:=t)).elim λ_ h=>ex_len ha h⟩
instance Ex.field {bb off f kk r:Nat} [Ev l x (.pointer (some ⟨bb,off,none⟩))] [UFld P t f kk] [AddOff off kk r]:Ex P l (.fieldAddr t x f) (.pointer (some ⟨bb,r,none⟩)):=⟨λ_ _ ha _ _ _ _ _ _=>by
 obtain⟨fs,fl,z,sz,by',h1,h2,h3,h4⟩:=UFld.h (P:=P) (t:=t) (f:=f) (k:=kk)
 exact ex_fieldAddr ha h1 h2 h3 h4⟩
end
class BP (b:Bool)(p q:outParam Prop):Prop where
 t:b=true→p
 f:b=false→q
instance BP.lt {i j:Int}:BP (decide (i<j)) (i<j) (j≤i):=⟨of_decide_eq_true,λh=>Int.not_lt.1 (of_decide_eq_false h)⟩
instance BP.le {i j:Int}:BP (decide (i≤j)) (i≤j) (j<i):=⟨of_decide_eq_true,λh=>Int.not_le.1 (of_decide_eq_false h)⟩
instance BP.eq {i j:Int}:BP (decide (i=j)) (i=j) (¬ i=j):=⟨of_decide_eq_true,of_decide_eq_false⟩
instance BP.ne {i j:Int}:BP (decide (i≠j)) (¬ i=j) (i=j):=⟨of_decide_eq_true,λh=>Decidable.of_not_not (of_decide_eq_false h)⟩
instance BP.not {b:Bool}{p q:Prop}[h:BP b p q]:BP (!b) q p:=⟨λe=>h.f (by simpa using e),λe=>h.t (by simpa using e)⟩
instance (priority:=low) BP.dec {p:Prop} [Decidable p]:BP (decide p) p (¬ p):=⟨of_decide_eq_true,of_decide_eq_false⟩
instance (priority:=10) BP.any {b:Bool}:BP b (b=true) (b=false):=⟨id,id⟩
section
variable {P:Program}{ops:Array Oper}{Q:Exit→Act→World→Prop}{a:Act}{w w':World}{K:Act→World→Prop}{o:Oper}{n d:Nat}{l l':List (Nat×Value)}{v:Value}{op:Go.Op}{ty:TypeId}{ps:String}{af:Array Edge}{rest:List Oper}
theorem S1 (ha:Fr a n l)[e:Ex P l op v](h:∀ a',Fr a' n ((d,v)::l)→wpList P ops Q rest a' w)(hf:okB d n l=true:=by rfl):wpList P ops Q (⟨some d,op,ty,ps,af,none⟩::rest) a w :=
 wpList_k (st_set ha rfl (e.ex a n ha w _ _ _ _ _) hf h)
theorem SK (h:StepK P ops Q o (wpList P ops Q rest) a w):wpList P ops Q (o::rest) a w:=h
theorem LN (h:Q .normal a w):wpList P ops Q [] a w:=h
theorem TN {K:Act→World→Prop}(h:K a w):Exit.then K Q .normal a w:=h
theorem TR {K:Act→World→Prop}(h:Q .ret a w):Exit.then K Q .ret a w:=h
theorem TE {K:Act→World→Prop}{i:Nat}(h:Q (.exit i) a w):Exit.then K Q (.exit i) a w:=h
theorem BN {i:Nat}(h:Q .normal a w):Exit.inBlock i Q .normal a w:=h
theorem BR {i:Nat}(h:Q .ret a w):Exit.inBlock i Q .ret a w:=h
theorem Fr.by {s:Nat}{c:Bool} {l'}{p q:Prop}(ha:Fr a n l)[k:Get l s (.bool c)][e:Del l s l'][B:BP c p q]{G:Prop}
   (ht:p→Fr a n ((s,.bool true)::l')→G) (hf:q→Fr a n ((s,.bool false)::l')→G):G :=
 ha.bool (s:=s) (λh=>ht (B.t h)) (λh=>hf (B.f h))
variable {C:World→Prop}{need:List Nat}{i fuel m:Nat}{od:List Nat}
def wpO (P:Program)(ops:Array Oper)(Q:Exit→Act→World→Prop)(C:World→Prop)(need:List Nat)(_od:List Nat)(fuel m:Nat)(a:Act)(w:World):Prop:=wpN P ops Q C need fuel (lb ops.size m) a w
def bitOn (m i:Nat):Nat:=m ||| 2 ^ i
theorem lb_on (k m i:Nat):(lb k m).setIfInBounds i true=lb k (bitOn m i):=by
 apply Array.ext_getElem?
 intro j
 simp only[lb,List.setIfInBounds_toArray,List.getElem?_toArray,List.getElem?_set,List.getElem?_map,List.length_map,List.length_range]
 by_cases hj:i=j
 · subst hj
   rw[if_pos rfl]
   by_cases hi:i<k
   · rw[if_pos hi,List.getElem?_range hi];simp[bitOn]
   · rw[if_neg hi,List.getElem?_eq_none (by simpa using hi)];rfl
 · rw[if_neg hj]
   by_cases hk:j<k
   · rw[List.getElem?_range hk]
     simp[bitOn,Nat.testBit_two_pow,hj]
   · rw[List.getElem?_eq_none (by simpa using hk)];rfl
theorem DW {id m:Nat}(C:World→Prop)(need od:List Nat)(hm:P.follows .mixedOrders=true)(hQ:PanOk Q)(h:PanOk Q→wpO P ops Q C need od m 0 a w.drew)(hn:ops.size=m:=by kernel_rfl):(Code.region id ops true).wp P Q a w:=by
 subst hn
 refine wp_draw (m:=ops.size) (l0:=lb ops.size 0) C need hm rfl ?_ hQ h
 apply Array.ext_getElem?
 intro j
 simp only[lb,Nat.zero_testBit,List.getElem?_toArray,List.getElem?_map,Array.getElem?_replicate]
 by_cases hj:j<ops.size
 · rw[if_pos hj,List.getElem?_range hj];simp
 · rw[if_neg hj,List.getElem?_eq_none (by simpa using hj)];rfl
theorem D1 (hi:ops[i]?=some o)(h:StepK P ops Q o (λa' w'=>(need.contains i=true→C w')∧wpO P ops Q C need od fuel (bitOn m i) a' w') a w)(hr:Region.ready .any ops (lb ops.size m)=[i]:=by kernel_rfl):wpO P ops Q C need (i::od) (fuel+1) m a w :=
 nt_one (lb_on _ _ _) hr hi h
theorem DD (h:Q .normal a w)(hr:Region.ready .any ops (lb ops.size m)=[]:=by kernel_rfl):wpO P ops Q C need [] fuel m a w:=nt_done hr h fuel
end
end
end Go.Proofs.YteoldcfapaiobaaGreat
