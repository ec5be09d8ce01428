/- Players of whom none lies, plainly: the document's R3. -/
import Derived.Test.YteoldcfapaiobaaGreatB09CoQ
import Derived.Test.YteoldcfapaiobaaGreatB15MulN
namespace Go.Proofs.YteoldcfapaiobaaGreat
open Tryz
open List (getElem?_append_right drop_drop drop_left nil_append length_nil mem_range getElem?_range getElem_map eraseIdx_eq_take_drop_succ append_nil mem_or_eq_of_mem_set getElem_mem map_take map_drop mem_singleton mem_of_mem_eraseIdx range_succ getElem?_set_ne getElem?_set_self set_getElem_self getLastD_eq_getLast? map_replicate)
open Go.RowKit
set_option linter.unusedVariables false
set_option linter.unusedSimpArgs false
set_option maxRecDepth 10000
set_option synthInstance.maxSize 4000
set_option synthInstance.maxHeartbeats 400000
section
def lT (p:Pr)(G:List (List UInt8))(f s:Nat):Prop:=f≤aW G∧(0<f→s=ky p G (f-1))
theorem lT.ext {p:Pr}{G G':List (List UInt8)}{f s:Nat}(h:lT p G f s)(he:Ext G G')(h0:G≠[]):lT p G' f s :=
 ⟨gF h.1 (he.front h0),λhf=>by rw[he.ky (by have:=h.1;omega)];exact h.2 hf⟩
theorem BJ {p:Pr}{k:Ks}(hm:k.mr=(List.range k.mr.length).map (ky p k.ls)){f:Nat}(hf:f<k.mr.length):k.mr.getD f 0=ky p k.ls f:=by
 rw[hm,bl,bn,getElem?_range hf];rfl
theorem NF {p:Pr}{G:List (List UInt8)}{k:Ks}(hm:k.mr=(List.range k.mr.length).map (ky p k.ls))(hl:k.mr.length≤aW k.ls)(he:Ext k.ls G)
   (hw:∀ i,i<k.ps.length→lT p G (ar k i).frame (ar k i).sum):held k:=λi hi ⟨_,h1,h2,h3⟩=>h3 (by
 rw[BJ hm (by omega),← he.ky (p:=p) (f:=(ar k i).frame-1) (by omega)];exact ((hw i hi).2 (by omega)).symm)
theorem NG {p:Pr}{G:List (List UInt8)}:∀ (n:Nat) {s:Pl},WP p s→Ext s.k.ls G→(∀ i,i<s.k.ps.length→lT p G (ar s.k i).frame (ar s.k i).sum)→n≤aw s.k-s.k.mr.length →
   ∃ mr,(il p n s).k={ s.k with mr:=mr }
 | 0,s,_,_,_,_=>⟨s.k.mr,rfl⟩
 | n+1,s,h,he,hw,hn=>by
  have h9:=h.wc.m7;have h8:=h.wc.lr;obtain⟨h1,h2,h3⟩:=h.one (by omega);have hg:e0 p s.k.mr.length (bL s.k.ls s.k.mr.length) s.g=lv p s.k.ls (s.k.mr.length+1):=by rw[KV,h.rq]
  have hk:(nE p s).k={ s.k with mr:=s.k.mr++[ky p s.k.ls s.k.mr.length] }:=by
   show lq s.k _=_;rw[lq,al (by omega),hg];refine held.kZ (NF (p:=p) (G:=G) ?_ ?_ he hw)
   ·show s.k.mr++[_]=(List.range (s.k.mr++[_]).length).map (ky p s.k.ls);rw[aM,ji,range_succ,cX,← h.marks];rfl
   ·show (s.k.mr++[_]).length≤aW s.k.ls;rw[aM,ji];simp only[aw]at hn;omega
  obtain⟨mr,h4⟩:=NG n h1 (by rw[h2];exact he) (λi hi=>by rw[hk]at hi ⊢;exact hw i hi) (by rw[aw,h2,h3];simp only[aw]at hn;omega);exact⟨mr,by rw[il,h4,hk]⟩
theorem GG {p:Pr}{G:List (List UInt8)}{s:Pl}(h:WP p s)(he:Ext s.k.ls G)(hw:∀ i,i<s.k.ps.length→lT p G (ar s.k i).frame (ar s.k i).sum):∃ mr,(eC p s).k={ s.k with mr:=mr } :=
 NG _ h he hw (bk _)
structure fa (p:Pr)(G:List (List UInt8))(s:Pl):Prop where
 wf:cv p s
 ext:Ext s.k.ls G
 own:s.k.ls.getD s.k.me []=G.getD s.k.me []
 pe:∀ i,i<s.k.ps.length→(ar s.k i).apart=false∧lT p G (ar s.k i).frame (ar s.k i).sum
structure tc (p:Pr)(G:List (List UInt8))(q:Pk):Prop where
 may:hs q
 sum:q.sum<4294967296
 uS:q.kind=1→q.first.toNat+q.ak.length≤(G.getD q.aZ.toNat []).length∧q.ak=((G.getD q.aZ.toNat []).drop q.first.toNat).take q.ak.length
 word:q.kind=1→lT p G q.frame.toNat q.sum
theorem tc.ext {p:Pr}{G G':List (List UInt8)}{q:Pk}(h:tc p G q)(he:Ext G G')(h0:G≠[])(hq:q.aZ.toNat<G.length):tc p G' q:=by
 refine⟨h.may,h.sum,λhk=>?_,λhk=>(h.word hk).ext he h0⟩;obtain⟨h1,h2⟩:=h.uS hk;obtain⟨t,ht⟩:=he.2 _ hq;rw[ht,aM];refine⟨by omega,?_⟩;rw[List.drop_append_of_le_length (by omega),List.take_append_of_le_length (by rw[c8];omega)];exact h2
section
variable {p:Pr}{G G':List (List UInt8)}{s:Pl}{b:UInt8}{q:Pk}
theorem fa.words (h:fa p G s):∀ i,i<s.k.ps.length→lT p G (ar s.k i).frame (ar s.k i).sum:=λi hi=>(h.pe i hi).2
theorem fa.lens (h:fa p G s):G.length=s.k.n:=by rw[h.ext.1];exact h.wf.wc.ls
theorem fa.GH (h:fa p G s):G≠[]:=λe=>by
 have h1:=h.lens;have h2:=h.wf.wc.n;rw[e,length_nil]at h1;omega
theorem fa.more (h:fa p G s)(he:Ext G G')(ho:G'.getD s.k.me []=G.getD s.k.me []):fa p G' s :=
 ⟨h.wf,h.ext.trans he,h.own.trans ho.symm,λi hi=>⟨(h.pe i hi).1,(h.pe i hi).2.ext he h.GH⟩⟩
theorem fa.ak (h:fa p G s)(h0:(dH p b s).1=0) :
   fa p (G.set s.k.me (G.getD s.k.me []++[b])) (dH p b s).2∧∃ mr,(dH p b s).2.k={ s.k with ls:=s.k.ls.set s.k.me (s.k.ls.getD s.k.me []++[b]),mr:=mr }:=by
 obtain⟨h1,h2,h3,h4⟩:=uj (k:=s.k) (b:=b) h0;have he:=uo b s.k;have lk:=h.wf.toWP.more (h.wf.wc.ak b) (h.wf.held.ak b) he.1 he.2;have ej:s.k.me<s.k.ls.length:=by rw[h.wf.wc.ls];exact h.wf.wc.me
 have NH:s.k.me<G.length:=by rw[h.ext.1];exact ej
 have kB:Ext G (G.set s.k.me (G.getD s.k.me []++[b])):=Ext.set;have hx:Ext (c3 b s.k).2.ls (G.set s.k.me (G.getD s.k.me []++[b])):=by
  rw[h4];refine⟨by simp only[bu];exact h.ext.1,λi hi=>?_⟩;simp only[bu]at hi;by_cases e:i=s.k.me
  ·subst e;refine⟨[],?_⟩;simp only;rw[bl,getElem?_set_self NH,bl (l:=s.k.ls.set _ _),getElem?_set_self ej,h.own];simp
  ·obtain⟨t,ht⟩:=h.ext.2 i hi;refine⟨t,?_⟩;simp only;rw[bl,getElem?_set_ne (λe2=>e e2.symm),bl (l:=s.k.ls.set _ _),getElem?_set_ne (λe2=>e e2.symm),← bl,← bl];exact ht
 have gz:(c3 b s.k).2.ps=s.k.ps:=by rw[h4]
 have zg:∀ i,i<s.k.ps.length→lT p (G.set s.k.me (G.getD s.k.me []++[b])) (ar (c3 b s.k).2 i).frame (ar (c3 b s.k).2 i).sum:=λi hi=>by
  have:=(h.words i hi).ext kB h.GH;rw[ar,gz];exact this
 obtain⟨mr,hk⟩:=GG (s:=⟨(c3 b s.k).2,s.g⟩) lk hx (λi hi=>zg i (by rw[← gz];exact hi));have ca:(dH p b s).2.k={ (c3 b s.k).2 with mr:=mr }:=hk;refine⟨⟨h.wf.ak b,by rw[ca];exact hx,?_,λi hi=>?_⟩,mr,by rw[ca,h4]⟩
 ·rw[ca];show (c3 b s.k).2.ls.getD (c3 b s.k).2.me []=(G.set s.k.me (G.getD s.k.me []++[b])).getD (c3 b s.k).2.me [];rw[h4];simp only;rw[bl,getElem?_set_self ej,bl (l:=G.set _ _),getElem?_set_self NH,h.own]
 ·rw[ca]at hi ⊢;have dJ:i<s.k.ps.length:=by rw[← gz];exact hi
  refine⟨?_,zg i dJ⟩;show (ar (c3 b s.k).2 i).apart=false;rw[ar,gz];exact (h.pe i dJ).1
theorem NI (h:cv p s)(h0:(dH p b s).1≠0):(dH p b s).2=s:=by
 show eC p ⟨(c3 b s.k).2,s.g⟩=s;rw[uk h0];exact h.eC
theorem ab5 {bs:List UInt8}(h:cv p s)(h0:(dI p bs s).1≠0):(dI p bs s).2=s:=by
 show eC p ⟨(dD bs s.k).2,s.g⟩=s;rw[v7 h0];exact h.eC
theorem ab6 {l t P:List UInt8}{f:Nat}(I:f+P.length≤(l++t).length)(hP:P=((l++t).drop f).take P.length):∃ u,l++t=dw l f P++u:=by
 unfold dw;split
 ·exact⟨t,rfl⟩
 ·rename_i hf;have h1:P.drop (l.length-f)=t.take (P.length-(l.length-f)):=by
   conv=>lhs;rw[hP]
   rw[List.drop_take,drop_drop,show f+(l.length-f)=l.length from by omega,drop_left]
  rw[h1,List.take_take];exact⟨t.drop (min (1000-l.length) (P.length-(l.length-f))),by rw[dA,jE]⟩
theorem NJ (h:cv p s)(hq:hs q)(I:q.sum<4294967296)(hc:s.k.cl=false)(ht:q.to=s.k.me)(hf:q.aZ<s.k.n)(bT:q.id=s.k.id):dD (aS q) s.k=(0,fS s.k q):=by
 rw[dD,ag (by rw[hc];decide),J2 hq I];show (if _ then _ else _)=_;rw[ag];rintro (h | h | h)
 ·exact h ht
 ·omega
 ·exact h bT
theorem fa.yf (h:fa p G s)(hq:tc p G q)(hc:s.k.cl=false)(ht:q.to=s.k.me)(hf:q.aZ<s.k.n)(bT:q.id=s.k.id)(h1:q.kind=1) :
   fa p G (dI p (aS q) s).2∧(dI p (aS q) s).1=0∧∃ mr,(dI p (aS q) s).2.k={ s.k with ls:=s.k.ls.set q.aZ.toNat (dw (s.k.ls.getD q.aZ.toNat []) q.first.toNat q.ak),ps:=s.k.ps.set q.aZ.toNat (fR s.k.now (aI s.k) q (ar s.k q.aZ.toNat)),mr:=mr }:=by
 have hr:=NJ h.wf hq.may hq.sum hc ht hf bT;have fq:q.aZ.toNat<s.k.n:=by have:=hq.may.1;omega
 have bP:q.aZ.toNat≠s.k.me:=λe=>hq.may.2.2.1 (by have:=hq.may.1;have:=hq.may.2.1;omega);have aG:q.aZ.toNat<s.k.ls.length:=by rw[h.wf.wc.ls];exact fq
 have rJ:q.aZ.toNat<s.k.ps.length:=by rw[h.wf.wc.ps];exact fq
 obtain⟨t,NK⟩:=h.ext.2 _ aG;obtain⟨kF,c6⟩:=hq.uS h1;rw[NK]at kF c6;obtain⟨u,hu⟩:=ab6 kF c6;have hx:Ext (s.k.ls.set q.aZ.toNat (dw (s.k.ls.getD q.aZ.toNat []) q.first.toNat q.ak)) G:=by
  refine⟨by rw[bu];exact h.ext.1,λi hi=>?_⟩;rw[bu]at hi;by_cases e:i=q.aZ.toNat
  ·subst e;refine⟨u,?_⟩;rw[bl (l:=s.k.ls.set _ _),getElem?_set_self aG,NK];exact hu
  ·obtain⟨t2,FI⟩:=h.ext.2 i hi;refine⟨t2,?_⟩;rw[bl (l:=s.k.ls.set _ _),getElem?_set_ne (λe2=>e e2.symm),← bl];exact FI
 have NL:∀ i,i<s.k.ps.length→(if i=q.aZ.toNat then fR s.k.now (aI s.k) q (ar s.k q.aZ.toNat) else ar s.k i).apart=false∧lT p G (if i=q.aZ.toNat then fR s.k.now (aI s.k) q (ar s.k q.aZ.toNat) else ar s.k i).frame (if i=q.aZ.toNat then fR s.k.now (aI s.k) q (ar s.k q.aZ.toNat) else ar s.k i).sum:=λi hi=>by
  by_cases e:i=q.aZ.toNat
  ·rw[al e];have h9:=h.pe _ rJ;unfold fR;simp only;split
   ·exact⟨h9.1,hq.word h1⟩
   ·exact⟨h9.1,h9.2⟩
  ·rw[ag e];exact h.pe i hi
 have tG:∀ i,i<s.k.ps.length→lT p G (ar ({ s.k with ls:=s.k.ls.set q.aZ.toNat (dw (s.k.ls.getD q.aZ.toNat []) q.first.toNat q.ak),ps:=s.k.ps.set q.aZ.toNat (fR s.k.now (aI s.k) q (ar s.k q.aZ.toNat)) }:Ks) i).frame (ar ({ s.k with ls:=s.k.ls.set q.aZ.toNat (dw (s.k.ls.getD q.aZ.toNat []) q.first.toNat q.ak),ps:=s.k.ps.set q.aZ.toNat (fR s.k.now (aI s.k) q (ar s.k q.aZ.toNat)) }:Ks) i).sum:=λi hi=>by
  rw[ar,vZ rJ];exact (NL i hi).2
 have hh:fS s.k q={ s.k with ls:=s.k.ls.set q.aZ.toNat (dw (s.k.ls.getD q.aZ.toNat []) q.first.toNat q.ak),ps:=s.k.ps.set q.aZ.toNat (fR s.k.now (aI s.k) q (ar s.k q.aZ.toNat)) }:=by
  rw[fS,ag (by omega)];refine held.kZ (NF (p:=p) (G:=G) ?_ ?_ hx (λi hi=>tG i (by simpa using hi)))
  ·have ee:=(rr (aS q) s.k).2;rw[hr]at ee;have h5:=EY (k:=s.k) (p:=q);rw[fS,ag (by omega)]at h5;obtain⟨ps,ev,h6,_⟩:=vY { s.k with ls:=s.k.ls.set q.aZ.toNat (dw (s.k.ls.getD q.aZ.toNat []) q.first.toNat q.ak),ps:=s.k.ps.set q.aZ.toNat (fR s.k.now (aI s.k) q (ar s.k q.aZ.toNat)) };rw[h6]at h5;have h7:Ext s.k.ls (s.k.ls.set q.aZ.toNat (dw (s.k.ls.getD q.aZ.toNat []) q.first.toNat q.ak)):=h5.2;show s.k.mr=_
   conv=>lhs;rw[h.wf.marks]
   refine List.map_congr_left λi hi=>?_;rw[mem_range]at hi;have hl:=h.wf.low;simp only[aw]at hl;rw[h7.ky (by omega)]
  ·have h5:=(EY (k:=s.k) (p:=q)).2;rw[fS,ag (by omega)]at h5;obtain⟨ps,ev,h6,_⟩:=vY { s.k with ls:=s.k.ls.set q.aZ.toNat (dw (s.k.ls.getD q.aZ.toNat []) q.first.toNat q.ak),ps:=s.k.ps.set q.aZ.toNat (fR s.k.now (aI s.k) q (ar s.k q.aZ.toNat)) };rw[h6]at h5;have h7:Ext s.k.ls (s.k.ls.set q.aZ.toNat (dw (s.k.ls.getD q.aZ.toNat []) q.first.toNat q.ak)):=h5;exact gF h.wf.low (h7.front h.wf.wc.k0)
 have he:=rr (aS q) s.k;have lk:=h.wf.toWP.more (h.wf.wc.recv (aS q)).1 ((h.wf.wc.recv (aS q)).2 h.wf.held) he.1 he.2;have fQ:(dD (aS q) s.k).2=fS s.k q:=by rw[hr]
 obtain⟨mr,hk⟩:=GG (G:=G) (s:=⟨(dD (aS q) s.k).2,s.g⟩) lk (by show Ext (dD (aS q) s.k).2.ls G;rw[fQ,hh];exact hx) (λi hi=>by
  change i<(dD (aS q) s.k).2.ps.length at hi;show lT p G (ar (dD (aS q) s.k).2 i).frame (ar (dD (aS q) s.k).2 i).sum;rw[fQ,hh]at hi ⊢;exact tG i (by simpa using hi))
 have ca:(dI p (aS q) s).2.k={ fS s.k q with mr:=mr }:=by
  have:(dI p (aS q) s).2.k={ (dD (aS q) s.k).2 with mr:=mr }:=hk;rw[this,fQ]
 rw[hh]at ca;refine⟨⟨h.wf.recv _,by rw[ca];exact hx,?_,λi hi=>?_⟩,by show (dD (aS q) s.k).1=0;rw[hr],mr,ca⟩
 ·rw[ca];show (s.k.ls.set q.aZ.toNat _).getD s.k.me []=_;rw[bl (l:=s.k.ls.set _ _),getElem?_set_ne bP,← bl];exact h.own
 ·rw[ca]at hi ⊢;have dJ:i<s.k.ps.length:=by simpa using hi
  have:=NL i dJ;rw[ar,vZ rJ];exact this
theorem fa.bye (h:fa p G s)(hq:tc p G q)(hc:s.k.cl=false)(ht:q.to=s.k.me)(hf:q.aZ<s.k.n)(bT:q.id=s.k.id)(h1:q.kind=2) :
   fa p G (dI p (aS q) s).2∧(dI p (aS q) s).1=0∧(dI p (aS q) s).2.k={ s.k with ps:=s.k.ps.set q.aZ.toNat { ar s.k q.aZ.toNat with heard:=s.k.now },ev:=s.k.ev++[(1,q.aZ.toNat,0)],cl:=true }:=by
 have hr:=NJ h.wf hq.may hq.sum hc ht hf bT;have fq:q.aZ.toNat<s.k.n:=by have:=hq.may.1;omega
 have rJ:q.aZ.toNat<s.k.ps.length:=by rw[h.wf.wc.ps];exact fq
 have hh:fS s.k q={ s.k with ps:=s.k.ps.set q.aZ.toNat { ar s.k q.aZ.toNat with heard:=s.k.now },ev:=s.k.ev++[(1,q.aZ.toNat,0)],cl:=true }:=by
  rw[fS,al h1]
 have zl:=h.wf.with (k':=fS s.k q) (by have:=(h.wf.wc.recv (aS q)).1;rw[hr]at this;exact this) (by have:=(h.wf.wc.recv (aS q)).2 h.wf.held;rw[hr]at this;exact this) (by rw[hh]) (by rw[hh]);have hk:(dI p (aS q) s).2=⟨fS s.k q,s.g⟩:=by
  show eC p ⟨(dD (aS q) s.k).2,s.g⟩=_;rw[hr];exact zl.eC
 refine⟨⟨by rw[hk];exact zl,by rw[hk,hh];exact h.ext,by rw[hk,hh];exact h.own,λi hi=>?_⟩,by show (dD (aS q) s.k).1=0;rw[hr],by rw[hk,hh]⟩;rw[hk,hh]at hi ⊢;have dJ:i<s.k.ps.length:=by simpa using hi
 rw[ar,vZ rJ];by_cases e:i=q.aZ.toNat
 ·rw[al e];exact h.pe _ rJ
 ·rw[ag e];exact h.pe i dJ
theorem fa.yE (h:fa p G s){i:Nat}(hi:i<s.k.n)(bP:i≠s.k.me)(hh:(ar s.k i).has≤aI s.k):tc p G (dT s.k i):=by
 have rK:=h.wf.wc;have hn:=rK.n;have ej:=rK.me;have bT:=rK.id;have ik:=rK.pw hi;have gL:=rK.lr;have u6:=rK.lS hi;have Lb:=rK.mr;have e1:(dT s.k i).aZ.toNat=s.k.me:=Int.toNat_natCast _;have e2:(dT s.k i).first.toNat=(ar s.k i).has:=Int.toNat_natCast _;have e3:(dT s.k i).frame.toNat=s.k.mr.length:=Int.toNat_natCast _;have zo:=h.own;have lP:s.k.mr.getLastD 0<4294967296:=by
  rw[getLastD_eq_getLast?];cases hl:s.k.mr.getLast? with
  | none=>simp
  | some x=>simpa using rK.rp x (List.mem_of_getLast? hl)
 refine⟨?_,lP,λ_=>?_,λ_=>?_⟩
 ·refine⟨⟨?_,?_⟩,⟨?_,?_⟩,?_,?_,.inl ⟨rfl,⟨?_,?_⟩,⟨?_,?_⟩,⟨?_,?_⟩,?_⟩⟩
  all_goals first | (simp only[dT];omega) | skip
  ·show (((s.k.ls.getD s.k.me []).drop (ar s.k i).has).take 32).length≤32;rw[ez];omega
 ·rw[e1,e2,← zo];show _+(((s.k.ls.getD s.k.me []).drop (ar s.k i).has).take 32).length≤_∧((s.k.ls.getD s.k.me []).drop (ar s.k i).has).take 32=((s.k.ls.getD s.k.me []).drop _).take (((s.k.ls.getD s.k.me []).drop (ar s.k i).has).take 32).length;rw[ez,c8];simp only[aI]at hh;refine⟨by omega,?_⟩;rw[List.take_eq_take_iff,c8];omega
 ·rw[e3];have eS:s.k.mr.length=aW s.k.ls:=h.wf.full;refine⟨by rw[eS];exact h.ext.front rK.k0,λh0=>?_⟩;have tF:s.k.mr.getLastD 0=s.k.mr.getD (s.k.mr.length-1) 0:=by
   rw[getLastD_eq_getLast?,List.getLast?_eq_getElem?,bl]
  show s.k.mr.getLastD 0=_;rw[tF,BJ h.wf.marks (by omega),h.ext.ky (by omega)]
theorem fa.ab7 (h:fa p G s){i:Nat}(hi:i<s.k.n)(bP:i≠s.k.me):tc p G (gp s.k i):=by
 have hn:=h.wf.wc.n;have ej:=h.wf.wc.me;have bT:=h.wf.wc.id;refine⟨?_,by show 0<4294967296;decide,λe=>absurd (show (2:Int)=1 from e) (by decide),λe=>absurd (show (2:Int)=1 from e) (by decide)⟩;refine⟨⟨?_,?_⟩,⟨?_,?_⟩,?_,?_,.inr ?_⟩
 all_goals first | (simp only[gp];omega) | skip
 all_goals first | exact bT | (simp[gp])
theorem fa.agree {s2:Pl}(h:fa p G s)(h2:fa p G s2){f:Nat}(h1:f<aw s.k)(h3:f<aw s2.k):bL s.k.ls f=bL s2.k.ls f∧s.k.mr.getD f 0=s2.k.mr.getD f 0:=by
 have My:=h.wf.full;have zb:=h2.wf.full;refine⟨(h.ext.EX h1).symm.trans (h2.ext.EX h3),?_⟩;rw[BJ h.wf.marks (by omega),BJ h2.wf.marks (by omega),← h.ext.ky h1,← h2.ext.ky h3]
theorem fa.told (h:fa p G s):fa p G ⟨{ s.k with ev:=[] },s.g⟩:=⟨h.wf.told,h.ext,h.own,h.pe⟩
theorem fa.tick (h:fa p G s):fa p G ⟨(bo s.k).2,s.g⟩:=by
 have h1:=AF s.k;have h2:(bo s.k).2.me=s.k.me∧(bo s.k).2.ps=s.k.ps:=by
  rcases v8 s.k with e | ⟨_,e | ⟨i,_,e⟩⟩ <;> rw[e] <;> exact⟨rfl,rfl⟩
 refine⟨h.wf.tick,by show Ext (bo s.k).2.ls G;rw[h1.2];exact h.ext,?_,λi hi=>?_⟩
 ·show (bo s.k).2.ls.getD (bo s.k).2.me []=G.getD (bo s.k).2.me [];rw[h1.2,h2.1];exact h.own
 ·change i<(bo s.k).2.ps.length at hi;rw[h2.2]at hi;show (ar (bo s.k).2 i).apart=false∧lT p G (ar (bo s.k).2 i).frame (ar (bo s.k).2 i).sum;rw[ar,h2.2];exact h.pe i hi
theorem fa.lu (h:fa p G s):fa p G ⟨(bG s.k).2,s.g⟩:=by
 have h1:=AG s.k;have h2:(bG s.k).2.me=s.k.me∧(bG s.k).2.ps=s.k.ps:=by
  unfold bG;split <;> exact⟨rfl,rfl⟩
 refine⟨h.wf.lu,by show Ext (bG s.k).2.ls G;rw[h1.2];exact h.ext,?_,λi hi=>?_⟩
 ·show (bG s.k).2.ls.getD (bG s.k).2.me []=G.getD (bG s.k).2.me [];rw[h1.2,h2.1];exact h.own
 ·change i<(bG s.k).2.ps.length at hi;rw[h2.2]at hi;show (ar (bG s.k).2 i).apart=false∧lT p G (ar (bG s.k).2 i).frame (ar (bG s.k).2 i).sum;rw[ar,h2.2];exact h.pe i hi
end
end
section
def bH (v:Wd)(i j:Nat):Nat:=((an v i).k.ls.getD j []).length
def pJ (v:Wd)(i j:Nat):Nat:=(ar (an v i).k j).has
noncomputable def rL (m:Ml):Nat:=match eB m.2.2 with
 | some q=>if q.kind=1 then q.first.toNat+q.ak.length else 0
 | none=>0
structure oL (p:Pr)(cf:Cf)(K:Int→Prop)(G:List (List UInt8))(v:Wd)(m:Ml)(q:Pk):Prop where
 lB:tc p G q
 kind:K q.kind
 fr:q.aZ=m.1
 to:q.to=m.2.1
 bs:m.2.2=aS q
 lt:m.1<v.ps.length∧m.2.1<v.ps.length
 id:q.id=cf.id
 uS:q.kind=1→q.dd.toNat≤bH v m.1 m.2.1∧q.first.toNat≤bH v m.2.1 m.1∧q.first.toNat+q.ak.length≤q.dd.toNat+cf.bm.toNat
structure dh (p:Pr)(cf:Cf)(K:Int→Prop)(G:List (List UInt8))(v:Wd):Prop where
 pl:∀ i,i<v.ps.length→fa p G (an v i)
 ac:∀ i j,i<v.ps.length→j<v.ps.length→i≠j→pJ v i j≤bH v j i∧bH v i j≤pJ v i j+cf.bm.toNat
 hd:∀ i,i<v.ps.length→bH v i i≤aw (an v i).k+cf.bm.toNat
 net:∀ m∈v.net,∃ q,oL p cf K G v m q
 bx:∀ l∈v.ev,∀ e∈l,e.1≠3
 td:∀ i,i<v.ps.length→∀ e∈(an v i).k.ev,e.1≠3
section
variable {p:Pr}{cf:Cf}{K:Int→Prop}{G G':List (List UInt8)}{v u:Wd}{c i j x y:Nat}{s':Pl}{net:List Ml}{ev:List (List jZ)}{m:Ml}{q:Pk}{t:ft}{b:UInt8}
theorem bB.pK (h:bB p cf c v)(hi:i<v.ps.length):(an v i).k.me=i∧(an v i).k.bm=cf.bm.toNat∧(an v i).k.id=cf.id∧(an v i).k.n=v.ps.length∧(an v i).k.aE=cf.aE.toNat:=by
 have h1:=(h.pl i hi).2.1;have h2:(fg (an v i).k).me=(i:Int):=by rw[h1]
 have h3:(fg (an v i).k).bm=cf.bm:=by rw[h1]
 have h4:(fg (an v i).k).id=cf.id:=by rw[h1]
 have h5:(fg (an v i).k).aE=cf.aE:=by rw[h1]
 simp only[fg]at h2 h3 h4 h5;exact⟨by omega,by omega,h4,h.ta hi,by omega⟩
theorem bB.win (h:bB p cf c v):1≤cf.bm.toNat∧cf.bm.toNat≤16:=by
 have h1:=h.may.2.1.2.1;unfold dE at h1;omega
theorem te (hi:i<v.ps.length):bH ⟨v.ps.set i s',net,ev⟩ x y=if i=x then (s'.k.ls.getD y []).length else bH v x y:=by
 rw[bH,qw hi];split <;> rfl
theorem ab8 (hi:i<v.ps.length):pJ ⟨v.ps.set i s',net,ev⟩ x y=if i=x then (ar s'.k y).has else pJ v x y:=by
 rw[pJ,qw hi];split <;> rfl
theorem NM (hi:i<v.ps.length):v.ps.set i (an v i)=v.ps:=by
 rw[an,bl,aF hi];exact set_getElem_self _
theorem NN {l:List (List UInt8)}{a:List UInt8}(hi:i<l.length):((l.set i a).getD j []).length=if i=j then a.length else (l.getD j []).length:=by
 rw[bl,jF];split
 ·rename_i h;subst h;rfl
 ·rw[bl]
theorem ab9 {l a:List UInt8}{f:Nat}(h1:f≤l.length)(h2:f+a.length≤1000)(h3:l.length≤1000):(dw l f a).length=max l.length (f+a.length):=by
 rw[dw,ag (by omega),aM,ez,c8];omega
theorem aca (now head:Nat)(q:Pk)(z:Pe):(fR now head q z).has=if z.has<q.dd.toNat∧q.dd.toNat≤head then q.dd.toNat else z.has:=by
 unfold fR;simp only;split <;> rfl
theorem dh.GI (h:dh p cf K G v)(hv:bB p cf c v)(hi:i<v.ps.length)(hj:j<v.ps.length):bH v i j≤bH v j j∧(G.getD j []).length=bH v j j:=by
 have h1:=(h.pl j hj).own;rw[(hv.pK hj).1]at h1;obtain⟨t,ht⟩:=(h.pl i hi).ext.2 j (by rw[(hv.pl i hi).1.wc.ls,(hv.pK hi).2.2.2.1];exact hj);have h2:(G.getD j []).length=bH v j j:=by rw[← h1];rfl
 refine⟨?_,h2⟩;rw[← h2,ht,aM,bH];omega
theorem dh.NO (h:dh p cf K G v)(hv:bB p cf c v):G.length=v.ps.length∧G≠[]:=by
 have h0:=hv.len;have h1:=h.pl 0 (by omega);exact⟨by rw[h1.lens,hv.ta (by omega)],h1.GH⟩
theorem oL.more (h:oL p cf K G v m q)(wK:Ext G G')(h0:G≠[])(kB:G.length=v.ps.length)(hl:u.ps.length=v.ps.length)(hk:∀ a b,bH v a b≤bH u a b):oL p cf K G' u m q:=by
 refine⟨h.lB.ext wK h0 (by have:=h.lt.1;have:=h.fr;omega),h.kind,h.fr,h.to,h.bs,by rw[hl];exact h.lt,h.id,λh1=>?_⟩;obtain⟨dj,dW,a3⟩:=h.uS h1;exact⟨gF dj (hk _ _),gF dW (hk _ _),a3⟩
theorem oL.dec (h:oL p cf K G v m q):eB m.2.2=some q:=by rw[h.bs];exact J2 h.lB.may h.lB.sum
theorem oL.val (h:oL p cf K G v m q):rL m=if q.kind=1 then q.first.toNat+q.ak.length else 0:=by rw[rL,h.dec]
theorem dh.put (h:dh p cf K G v)(hv:bB p cf c v)(hi:i<v.ps.length)(hH:fa p G' s')(wK:Ext G G')(ng:∀ j,j≠i→G'.getD j []=G.getD j [])(hk:∀ j,bH v i j≤(s'.k.ls.getD j []).length)
   (jS:∀ j,j<v.ps.length→j≠i→(ar s'.k j).has≤bH v j i∧(s'.k.ls.getD j []).length≤(ar s'.k j).has+cf.bm.toNat) (gL:(s'.k.ls.getD i []).length≤aw s'.k+cf.bm.toNat)
   (GJ:∀ e∈s'.k.ev,e.1≠3) (GK:∀ m∈net,m∈v.net∨∃ q,oL p cf K G' ⟨v.ps.set i s',net,ev⟩ m q) (pA:∀ l∈ev,∀ e∈l,e.1≠3):dh p cf K G' ⟨v.ps.set i s',net,ev⟩:=by
 have hg:=h.NO hv;have hl:(⟨v.ps.set i s',net,ev⟩:Wd).ps.length=v.ps.length:=bu;have hm:∀ a b,bH v a b≤bH ⟨v.ps.set i s',net,ev⟩ a b:=λa b=>by
  rw[te hi];split
  ·rename_i e;subst e;exact hk b
  ·exact bk _
 refine⟨λj hj=>?_,λa b E hb BK=>?_,λj hj=>?_,λm gH=>?_,pA,λj hj=>?_⟩
 ·rw[hl]at hj;rw[qw hi];split
  ·exact hH
  ·rename_i e;exact (h.pl j hj).more wK (by rw[(hv.pK hj).1];exact ng j (λe2=>e e2.symm))
 ·rw[hl]at E hb;rw[te hi,te hi,ab8 hi];by_cases h1:i=a
  ·subst h1;rw[al rfl,ag BK,al rfl];exact jS b hb (Ne.symm BK)
  ·rw[ag h1,ag h1];have h3:=h.ac a b E hb BK;by_cases h2:i=b
   ·subst h2;rw[al rfl];exact⟨gF h3.1 (hk a),h3.2⟩
   ·rw[ag h2];exact h3
 ·rw[hl]at hj;rw[te hi,qw hi];split
  ·rename_i e;subst e;exact gL
  ·exact h.hd j hj
 ·rcases GK m gH with h1 | h1
  ·obtain⟨q,hq⟩:=h.net m h1;exact⟨q,hq.more wK hg.2 hg.1 hl hm⟩
  ·exact h1
 ·rw[hl]at hj;rw[qw hi];split
  ·exact GJ
  ·exact h.td j hj
theorem dh.ak (h:dh p cf K G v)(hv:bB p cf c v)(hi:i<v.ps.length)(b:UInt8):(∃ G',dh p cf K G' { v with ps:=v.ps.set i (dH p b (an v i)).2 }) ∧
   ∀ x y,bH { v with ps:=v.ps.set i (dH p b (an v i)).2 } x y=bH v x y+if (x=i∧y=i)∧(dH p b (an v i)).1=0 then 1 else 0:=by
 obtain⟨ej,uT,bT,hn,_⟩:=hv.pK hi;by_cases h0:(dH p b (an v i)).1=0
 ·obtain⟨hH,mr,hk⟩:=(h.pl i hi).ak h0;obtain⟨g1,kH,nr,pY⟩:=uj (k:=(an v i).k) (b:=b) h0;rw[ej]at hH hk;have aG:i<(an v i).k.ls.length:=by rw[(hv.pl i hi).1.wc.ls,hn];exact hi
  have e6:(dH p b (an v i)).2.k.ls=(an v i).k.ls.set i ((an v i).k.ls.getD i []++[b]):=by rw[hk]
  have gz:∀ j,ar (dH p b (an v i)).2.k j=ar (an v i).k j:=λj=>by rw[ar,hk];rfl
  have hG:∀ j,((dH p b (an v i)).2.k.ls.getD j []).length=bH v i j+if i=j then 1 else 0:=λj=>by
   rw[e6,NN aG];split
   ·rename_i e;subst e;rw[aM];rfl
   ·rfl
  have fq:aw (an v i).k≤aw (dH p b (an v i)).2.k:=by
   rw[aw,aw,e6];exact Ext.set.front (hv.pl i hi).1.wc.k0
  have gL:aI (an v i).k=bH v i i:=by rw[aI,ej];rfl
  refine⟨⟨_,h.put hv hi hH Ext.set (λj hj=>?_) (λj=>?_) (λj hj gI=>?_) ?_ ?_ (λm hm=>.inl hm) h.bx⟩,λx y=>?_⟩
  ·rw[bl,getElem?_set_ne (Ne.symm hj),← bl]
  ·rw[hG];omega
  ·rw[hG,gz,ag (Ne.symm gI),Nat.add_zero];exact h.ac i j hi hj (Ne.symm gI)
  ·rw[hG,al rfl];omega
  ·rw[hk];exact h.td i hi
  ·rw[te hi];by_cases e:i=x
   ·subst e;rw[al rfl,hG];by_cases e2:i=y
    ·rw[al e2,al ⟨⟨rfl,e2.symm⟩,h0⟩]
    ·rw[ag e2,ag (λh=>e2 h.1.2.symm)]
   ·rw[ag e,ag (λh=>e h.1.1.symm),Nat.add_zero]
 ·rw[NI (hv.pl i hi).1 h0,NM hi];exact⟨⟨G,h⟩,λx y=>by rw[ag (λh=>h0 h.2)];rfl⟩
theorem dh.NP (h:dh p cf K G v)(hn:∀ m∈net,m∈v.net):dh p cf K G { v with net:=net } :=
 ⟨h.pl,h.ac,h.hd,λm hm=>(h.net m (hn m hm)).imp λq hq=>⟨hq.lB,hq.kind,hq.fr,hq.to,hq.bs,hq.lt,hq.id,hq.uS⟩,h.bx,h.td⟩
theorem dh.recv (h:dh p cf K G v)(hv:bB p cf c v)(hm:m∈v.net)(hn:∀ m∈net,m∈v.net):dh p cf K G { v with ps:=v.ps.set m.2.1 (dI p m.2.2 (an v m.2.1)).2,net:=net } ∧
   ∀ x y,bH { v with ps:=v.ps.set m.2.1 (dI p m.2.2 (an v m.2.1)).2,net:=net } x y=if (x=m.2.1∧y=m.1)∧(an v m.2.1).k.cl=false then max (bH v x y) (rL m) else bH v x y:=by
 obtain⟨q,hq⟩:=h.net m hm;obtain⟨eS,hi⟩:=hq.lt;obtain⟨ej,uT,bT,qW,_⟩:=hv.pK hi;have EU:q.aZ.toNat=m.1:=by have:=hq.fr;omega
 have jz:m.1≠m.2.1:=λe=>hq.lB.may.2.2.1 (by rw[hq.fr,hq.to,e]);rw[hq.bs];generalize I:an v m.2.1=s at *;have yu:=h.pl _ hi;have rM:=hv.pl _ hi;rw[I]at yu rM;cases hc:s.k.cl with
 | true =>
  have h0:(dI p (aS q) s).1≠0:=by
   show (dD (aS q) s.k).1≠0;rw[dD,al hc];show (6:Int)≠0;decide
  rw[ab5 rM.1 h0,← I,NM hi];exact⟨h.NP hn,λx y=>by rw[ag (λh=>by have:=h.2;cases this)];rfl⟩
 | false =>
  have rJ:m.1<s.k.ps.length:=by rw[rM.1.wc.ps,qW];exact eS
  have aG:m.1<s.k.ls.length:=by rw[rM.1.wc.ls,qW];exact eS
  have jS:=h.ac _ _ hi eS (Ne.symm jz);have n3:=h.GI hv eS hi;have oO:=h.GI hv hi eS;have kM:=(hv.pl _ eS).1.wc.lS (i:=m.1) (by rw[hv.ta eS];exact eS);have ma:=rM.1.wc.lS (i:=m.1) (by rw[qW];exact eS);have NQ:aI s.k=bH v m.2.1 m.2.1:=by rw[aI,ej,bH,I]
  rcases hq.lB.may.2.2.2.2 with ⟨h1,_⟩ | ⟨h1,_⟩
  ·obtain⟨hH,h0,mr,hk⟩:=yu.yf hq.lB hc (by rw[hq.to,ej]) (by rw[hq.fr,qW];omega) (by rw[hq.id,bT]) h1;obtain⟨s1,s2,s3⟩:=hq.uS h1;obtain⟨g1,kH⟩:=hq.lB.uS h1;rw[EU]at hk g1;have yi:bH v m.2.1 m.1=(s.k.ls.getD m.1 []).length:=by rw[bH,I]
   have eF:=ab9 (l:=s.k.ls.getD m.1 []) (a:=q.ak) (f:=q.first.toNat) (by rw[← yi];exact s2) (by rw[oO.2]at g1;rw[bH]at g1;omega) ma;have e6:(dI p (aS q) s).2.k.ls=s.k.ls.set m.1 (dw (s.k.ls.getD m.1 []) q.first.toNat q.ak):=by rw[hk]
   have hG:∀ j,((dI p (aS q) s).2.k.ls.getD j []).length=if m.1=j then max (bH v m.2.1 m.1) (q.first.toNat+q.ak.length) else bH v m.2.1 j:=λj=>by
    rw[e6,NN aG,eF,bH,bH,I]
   have gz:∀ j,ar (dI p (aS q) s).2.k j=if j=m.1 then fR s.k.now (aI s.k) q (ar s.k m.1) else ar s.k j:=λj=>by
    rw[ar,hk];exact vZ rJ
   have fq:aw s.k≤aw (dI p (aS q) s).2.k:=by
    have h5:=rr (aS q) s.k;obtain⟨t5,h6⟩:=KX (s.k.ls.getD m.1 []) q.first.toNat q.ak;rw[aw,aw,e6,h6];exact Ext.set.front rM.1.wc.k0
   refine⟨h.put hv hi hH (Ext.refl _) (λ_ _=>rfl) (λj=>?_) (λj hj gI=>?_) ?_ ?_ (λm hm=>.inl (hn m hm)) h.bx,λx y=>?_⟩
   ·rw[hG];split
    ·rename_i e;subst e;omega
    ·exact bk _
   ·rw[hG,gz];have wL:=h.ac _ _ hi hj (Ne.symm gI);by_cases e:j=m.1
    ·subst e;rw[al rfl,al rfl,aca];rw[pJ,I]at wL;rw[bH]at n3;simp only[bH] at *;split <;> omega
    ·rw[ag (Ne.symm e),ag e];rw[pJ,I]at wL;exact wL
   ·rw[hG,ag jz];have:=h.hd _ hi;rw[I]at this;omega
   ·rw[hk];have:=h.td _ hi;rw[I]at this;exact this
   ·rw[te hi,hG,hq.val,al h1];by_cases e:m.2.1=x
    ·subst e;rw[al rfl];by_cases e2:m.1=y
     ·subst e2;rw[al rfl,al ⟨⟨rfl,rfl⟩,rfl⟩]
     ·rw[ag e2,ag (λh=>e2 h.1.2.symm)]
    ·rw[ag e,ag (λh=>e h.1.1.symm)]
  ·obtain⟨hH,h0,hk⟩:=yu.bye hq.lB hc (by rw[hq.to,ej]) (by rw[hq.fr,qW];omega) (by rw[hq.id,bT]) h1;rw[EU]at hk;have e6:(dI p (aS q) s).2.k.ls=s.k.ls:=by rw[hk]
   have hG:∀ j,((dI p (aS q) s).2.k.ls.getD j []).length=bH v m.2.1 j:=λj=>by rw[e6,bH,I]
   have gz:∀ j,(ar (dI p (aS q) s).2.k j).has=(ar s.k j).has:=λj=>by
    rw[ar,hk];show ((s.k.ps.set _ _).getD j (fy 0)).has=_;rw[vZ rJ];split
    ·rename_i e;subst e;rfl
    ·rfl
   refine⟨h.put hv hi hH (Ext.refl _) (λ_ _=>rfl) (λj=>?_) (λj hj gI=>?_) ?_ ?_ (λm hm=>.inl (hn m hm)) h.bx,λx y=>?_⟩
   ·rw[hG];exact bk _
   ·have wL:=h.ac _ _ hi hj (Ne.symm gI);rw[pJ,I]at wL;rw[hG,gz];exact wL
   ·have:=h.hd _ hi;rw[I]at this;rw[hG,aw,e6];exact this
   ·rw[hk];intro e he;rcases eR.1 he with he | he
    ·have:=h.td _ hi;rw[I]at this;exact this e he
    ·rw[mem_singleton.1 he];show (1:Nat)≠3;decide
   ·have tH:rL m=0:=by rw[hq.val,ag (by omega)]
    rw[te hi,hG,tH,Nat.max_zero];by_cases e:m.2.1=x
    ·subst e;rw[al rfl];split <;> rfl
    ·rw[ag e,ag (λh=>e h.1.1.symm)]
theorem acb {k:Ks}(h:m∈(bo k).1):∃ j,j<k.n∧j≠k.me∧m=(k.me,j,aS (dT k j)):=by
 unfold bo at h;split at h
 ·cases h
 ·simp only at h;split at h
  ·cases h
  ·obtain⟨j,hj,rfl⟩:=c0.1 h;obtain⟨h1,h2⟩:=um.1 hj;exact⟨j,h1,h2,rfl⟩
theorem acd {k:Ks}(h:m∈(bG k).1):∃ j,j<k.n∧j≠k.me∧m=(k.me,j,aS (gp k j)):=by
 unfold bG at h;split at h
 ·cases h
 ·obtain⟨j,hj,rfl⟩:=c0.1 h;obtain⟨h1,h2⟩:=um.1 hj;exact⟨j,h1,h2,rfl⟩
theorem dh.same (h:dh p cf K G v)(hv:bB p cf c v)(hi:i<v.ps.length)(hH:fa p G s')(e6:s'.k.ls=(an v i).k.ls)(gz:s'.k.ps=(an v i).k.ps)(GJ:∀ e∈s'.k.ev,e.1≠3)
   (GK:∀ m∈net,m∈v.net∨∃ q,oL p cf K G v m q) (pA:∀ l∈ev,∀ e∈l,e.1≠3):dh p cf K G ⟨v.ps.set i s',net,ev⟩∧∀ x y,bH ⟨v.ps.set i s',net,ev⟩ x y=bH v x y:=by
 have uA:∀ x y,bH ⟨v.ps.set i s',net,ev⟩ x y=bH v x y:=λx y=>by
  rw[te hi];split
  ·rename_i e;subst e;rw[e6];rfl
  ·rfl
 have hg:=h.NO hv;refine⟨h.put hv hi hH (Ext.refl _) (λ_ _=>rfl) (λj=>by rw[e6];exact bk _) (λj hj gI=>?_) ?_ GJ (λm hm=>(GK m hm).imp_right λ⟨q,hq⟩=>⟨q,hq.more (Ext.refl _) hg.2 hg.1 bu λa b=>by rw[uA];exact bk _⟩) pA,uA⟩
 ·rw[e6,ar,gz];exact h.ac i j hi hj (Ne.symm gI)
 ·rw[aw,e6];exact h.hd i hi
theorem dh.NR (h:dh p cf K G v)(hv:bB p cf c v)(hi:i<v.ps.length)(yR:K 1)(hm:m∈(bo (an v i).k).1):∃ q,oL p cf K G v m q∧rL m=bH v i i:=by
 obtain⟨ej,uT,bT,hn,_⟩:=hv.pK hi;obtain⟨j,hj,bP,rfl⟩:=acb hm;rw[hn]at hj;rw[ej]at bP;have jS:=h.ac i j hi hj (Ne.symm bP);have hb:=h.GI hv hj hi;have gL:=h.hd i hi;have eS:aw (an v i).k≤bH v i j:=vV (ui (by rw[(hv.pl i hi).1.wc.ls,hn];exact hj));have NQ:aI (an v i).k=bH v i i:=by rw[aI,ej];rfl
 have hw:=hv.win;have lB:=(h.pl i hi).yE (i:=j) (by rw[hn];exact hj) (by rw[ej];exact bP) (by rw[NQ];rw[pJ]at jS;omega);have hG:(dT (an v i).k j).first.toNat+(dT (an v i).k j).ak.length=bH v i i:=by
  show (((ar (an v i).k j).has:Nat):Int).toNat+((((an v i).k.ls.getD (an v i).k.me []).drop (ar (an v i).k j).has).take 32).length=_;rw[pJ]at jS;rw[ez,c8,ej,Int.toNat_natCast];show _+min 32 (bH v i i-_)=_;omega
 have hq:oL p cf K G v ((an v i).k.me,j,aS (dT (an v i).k j)) (dT (an v i).k j):=by
  refine⟨lB,yR,rfl,rfl,rfl,⟨by rw[ej];exact hi,hj⟩,bT,λ_=>⟨?_,?_,?_⟩⟩
  ·show ((((an v i).k.ls.getD j []).length:Nat):Int).toNat≤bH v (an v i).k.me j;rw[ej,Int.toNat_natCast];exact bk _
  ·show (((ar (an v i).k j).has:Nat):Int).toNat≤bH v j (an v i).k.me;rw[ej,Int.toNat_natCast];exact jS.1
  ·rw[hG];show _≤((((an v i).k.ls.getD j []).length:Nat):Int).toNat+_;rw[Int.toNat_natCast];show _≤bH v i j+_;omega
 exact⟨_,hq,by rw[hq.val,al (show (dT (an v i).k j).kind=1 from rfl),hG]⟩
theorem ace (k:Ks):(bo k).2.ls=k.ls∧(bo k).2.ps=k.ps∧∀ e∈(bo k).2.ev,e∈k.ev∨e.1=2:=by
 rcases v8 k with h1 | ⟨_,h1 | ⟨i,_,h1⟩⟩ <;> rw[h1]
 ·exact⟨rfl,rfl,λe he=>.inl he⟩
 ·exact⟨rfl,rfl,λe he=>.inl he⟩
 ·refine⟨rfl,rfl,λe he=>?_⟩;rcases eR.1 he with he | he
  ·exact .inl he
  ·rw[mem_singleton.1 he];exact .inr rfl
theorem acf (k:Ks):(bG k).2.ls=k.ls∧(bG k).2.ps=k.ps∧(bG k).2.ev=k.ev:=by
 unfold bG;split <;> exact⟨rfl,rfl,rfl⟩
theorem dh.tick (h:dh p cf K G v)(hv:bB p cf c v)(hi:i<v.ps.length)(yR:K 1):dh p cf K G { v with ps:=v.ps.set i ⟨(bo (an v i).k).2,(an v i).g⟩,net:=eo v.net (bo (an v i).k).1 } ∧
   ∀ x y,bH { v with ps:=v.ps.set i ⟨(bo (an v i).k).2,(an v i).g⟩,net:=eo v.net (bo (an v i).k).1 } x y=bH v x y:=by
 obtain⟨h1,h2,h3⟩:=ace (an v i).k;refine h.same hv hi (h.pl i hi).tick h1 h2 (λe he=>?_) (λm hm=>(Bs hm).imp_right λhm=>(h.NR hv hi yR hm).imp λq hq=>hq.1) h.bx;rcases h3 e he with h4 | h4
 ·exact h.td i hi e h4
 ·omega
theorem dh.lu (h:dh p cf K G v)(hv:bB p cf c v)(hi:i<v.ps.length)(yR:K 2):dh p cf K G { v with ps:=v.ps.set i ⟨(bG (an v i).k).2,(an v i).g⟩,net:=eo v.net (bG (an v i).k).1 } ∧
   ∀ x y,bH { v with ps:=v.ps.set i ⟨(bG (an v i).k).2,(an v i).g⟩,net:=eo v.net (bG (an v i).k).1 } x y=bH v x y:=by
 obtain⟨h1,h2,h3⟩:=acf (an v i).k;refine h.same hv hi (h.pl i hi).lu h1 h2 (λe he=>h.td i hi e (by rw[← h3];exact he)) (λm hm=>(Bs hm).imp_right λhm=>?_) h.bx;obtain⟨ej,uT,bT,hn,_⟩:=hv.pK hi;obtain⟨j,hj,bP,rfl⟩:=acd hm;refine⟨gp (an v i).k j,(h.pl i hi).ab7 hj bP,yR,rfl,rfl,rfl,⟨by rw[ej];exact hi,by rw[← hn];exact hj⟩,bT,λe=>absurd (show (2:Int)=1 from e) (by decide)⟩
theorem dh.s9 (h:dh p cf K G v)(hv:bB p cf c v)(hi:i<v.ps.length):dh p cf K G (s9 i v)∧∀ x y,bH (Go.Proofs.YteoldcfapaiobaaGreat.s9 i v) x y=bH v x y:=by
 refine h.same hv hi (h.pl i hi).told rfl rfl (λe he=>by cases he) (λm hm=>.inl hm) (λl hl e he=>?_);rcases mem_or_eq_of_mem_set hl with h1 | h1
 ·exact h.bx l h1 e he
 ·rw[h1]at he;rcases eR.1 he with he | he
  ·by_cases h2:i<v.ev.length
   ·exact h.bx _ (wE (d:=[]) h2) e he
   ·rw[bl,iw (by omega)]at he;cases he
  ·exact h.td i hi e he
theorem dh.cj (h:dh p cf K G v)(hv:bB p cf c v):∀ i,i≤v.ps.length→dh p cf K G (cj v i)∧∀ x y,bH (Go.Proofs.YteoldcfapaiobaaGreat.cj v i) x y=bH v x y
 | 0,_=>⟨h,λ_ _=>rfl⟩
 | i+1,hi=>by
  obtain⟨h1,h2⟩:=h.cj hv i (by omega);obtain⟨h3,h4⟩:=h1.s9 (i:=i) (hv.cj (by omega)) (by rw[(qx v i).1];omega);exact⟨h3,λx y=>(h4 x y).trans (h2 x y)⟩
theorem dh.drain (h:dh p cf K G v)(hv:bB p cf c v):dh p cf K G (kA v)∧∀ x y,bH (kA v) x y=bH v x y:=h.cj hv _ (bk _)
theorem dh.yE (h:dh p cf K G v)(hv:bB p cf c v)(hf:t.fn≠6):dh p cf K G (gg p t v).2:=by
 unfold gg;split
 ·exact h
 ·rename_i hr;split
  ·exact h.NP λm hm=>mem_of_mem_eraseIdx hm
  ·refine (h.recv hv (m:=v.net.getD t.n.toNat (0,0,[])) (wE (by omega)) (λm hm=>?_)).1;split at hm
   ·exact hm
   ·exact mem_of_mem_eraseIdx hm
theorem dh.one (h:dh p cf K G v)(hv:bB p cf c v)(h1:K 1)(h2:K 2):∃ G',dh p cf K G' (fW p t v).2:=by
 unfold fW;split
 ·exact⟨G,h⟩
 ·have hi:t.a.toNat<v.ps.length:=by omega
  split
  ·exact (h.ak hv hi _).1
  ·split
   ·exact⟨G,(h.tick hv hi h1).1⟩
   ·split
    ·exact⟨G,(h.lu hv hi h2).1⟩
    ·exact⟨G,h⟩
theorem dh.go (h:dh p cf K G v)(hv:bB p cf c v)(h1:K 1)(h2:K 2)(hf:t.fn≠6):∃ G',dh p cf K G' (dz p t v):=by
 unfold dz;split
 ·exact⟨G,h⟩
 ·have h3 : ∃ G', dh p cf K G' (bt p t v).2 := by
   unfold bt;split
   ·exact⟨G,h⟩
   ·split
    ·exact⟨G,h.yE hv hf⟩
    ·exact h.one hv h1 h2
  obtain⟨G',h4⟩:=h3;exact⟨G',(h4.drain hv.step).1⟩
theorem uU (p:Pr){cf:Cf}(h:eO cf):∃ mr,(eD p cf).k={ fh cf with mr:=mr }:=by
 refine GG (G:=(fh cf).ls) (wa (p:=p) h) (Ext.refl _) λi hi=>?_;have oV:ar (fh cf) i=fy cf.aE.toNat∨ar (fh cf) i=fy 0:=by
  rw[ar,bl];show ((List.replicate cf.n.toNat (fy cf.aE.toNat))[i]?).getD (fy 0)=_∨((List.replicate cf.n.toNat (fy cf.aE.toNat))[i]?).getD (fy 0)=_;rw[List.getElem?_replicate];split
  ·exact .inl rfl
  ·exact .inr rfl
 have h2:(ar (fh cf) i).frame=0:=by rcases oV with e | e <;> rw[e] <;> rfl
 show lT p _ (ar (fh cf) i).frame _;rw[h2];exact⟨Nat.zero_le _,λh=>absurd h (by omega)⟩
end
end
section
def fK.yS:fK→Bool
 | .mu _=>true
 | .pl _=>false
def cV (cf:Cf)(i:Nat):Cf:={ cf with me:=i }
def gE (p:Pr)(cf:Cf)(n:Nat):Wd:=⟨(List.range n).map λi=>eD p (cV cf i),[],List.replicate n []⟩
def uV (fu:List fB)(cf:Cf)(tb:List UInt8)(hK:Bool)(n:Nat):Prop:=fu.map (·.cf)=(List.range n).map (cV cf)∧∀ x∈fu,x.z.gs=⟨cf.aX,cf.order,tb⟩∧x.z.yS=hK
theorem acg {cf:Cf}{i:Nat}(h:eO (cV cf 0))(hi:(i:Int)<cf.n):eO (cV cf i):=by
 obtain⟨⟨h1,h2,h3⟩,h4⟩:=h;refine⟨⟨h1,?_,h3⟩,h4⟩;show dE (i:Int) 0 (cf.n-1);unfold dE;omega
theorem NS {cf:Cf}{p:Pr}{tb:List UInt8}{i:Nat}(h:j3 (cV cf 0) p tb)(hi:(i:Int)<cf.n):j3 (cV cf i) p tb:=⟨acg h.1 hi,h.2⟩
section
variable {W w:World}{L:List SP}{n c cP cT i:Nat}{ad adP adT:Option Addr}{p:Pr}{tb:List UInt8}{cf:Cf}{hK:Bool}
theorem ach (eb:j3 cf p tb)(I:U W w (ay W p adP cP::L))(hn:tb.length=n)(aC:p.title.size≤1000000000)(cS:p.ops.length≤1000000000)(de:tb.length≤1099511627776)(hT:∀ V,U W V (ay W p adP cP::L)→aQ V adT tb.length tb) :
   Calls prog 60 #[.agg (br cf).toArray,.agg (bw p adP cP).toArray,.slice adT n cT] w λr V=>∃ B:iT,r=.returned (.tuple #[pt B.pb,.int .i64 0])∧B.gs=⟨cf.aX,cf.order,tb⟩∧U W V (aO W B p (eD p cf)::ay W p adP cP::L) :=
 (Nl I hn aC cS de hT).mono λr V h=>h.elim (λh=>h.2) λh=>absurd eb h.1
theorem aci (eb:¬ j3 cf p tb)(I:U W w (ay W p adP cP::L))(hn:tb.length=n)(aC:p.title.size≤1000000000)(cS:p.ops.length≤1000000000)(de:tb.length≤1099511627776)(hT:∀ V,U W V (ay W p adP cP::L)→aQ V adT tb.length tb) :
   Calls prog 60 #[.agg (br cf).toArray,.agg (bw p adP cP).toArray,.slice adT n cT] w λr V=>r=.returned (.tuple #[.pointer none,.int .i64 1])∧U W V (ay W p adP cP::L) :=
 (Nl I hn aC cS de hT).mono λr V h=>h.elim (λh=>absurd h.1 eb) λh=>h.2
theorem acj (eb:j3 cf p tb)(I:U W w (ay W p adP cP::L))(hn:tb.length=n)(aC:p.title.size≤1000000000)(cS:p.ops.length≤1000000000)(de:tb.length≤1099511627776)(hT:∀ V,U W V (ay W p adP cP::L)→aQ V adT tb.length tb) :
   Calls prog 43 #[.agg (br cf).toArray,.agg (bw p adP cP).toArray,.slice adT n cT,.bool hK] w λr V=>∃ z:fK,r=.returned (.tuple #[.iface z.t (.pointer (some z.ad)),.int .i64 0])∧(z.gs=⟨cf.aX,cf.order,tb⟩∧z.yS=hK)∧U W V (fB.J W p ⟨cf,z⟩ 0 (eD p cf)::ay W p adP cP::L):=by
 refine EN func43 ntmps43 rfl rfl λa E=>?_;refine BX 1 E I λb4 a w E I=>?_;change U W w (aa b4 28 (br cf)::_) at I;refine BX 0 E I λb5 a w E I=>?_;change U W w (aa b5 45 (bw p adP cP)::_) at I;refine IF 5 E I (λaj a E=>?_) λaj a E=>?_
 ·
  refine aR 4 E I (abA eb (I.pick (ay W p adP cP)) hn aC cS de (λV cJ=>hT _ cJ.sub)) λM a w E ⟨hg,I⟩=>?_;refine RT 11 E I ?_;exact⟨.mu M,rfl,⟨hg,by rw[show hK=true from by simpa using aj];rfl⟩,(show U W w (fB.J W p ⟨cf,.mu M⟩ 0 (eD p cf)::_) from I).sub⟩
 refine aR 4 E I (ach eb (I.pick (ay W p adP cP)) hn aC cS de (λV cJ=>hT _ cJ.sub)) λB a w E ⟨hg,I⟩=>?_;refine RT 11 E I ?_;exact⟨.pl B,rfl,⟨hg,by rw[show hK=false from by simpa using aj];rfl⟩,(show U W w (fB.J W p ⟨cf,.pl B⟩ 0 (eD p cf)::_) from I).sub⟩
theorem ack (eb:¬ j3 cf p tb)(I:U W w (ay W p adP cP::L))(hn:tb.length=n)(aC:p.title.size≤1000000000)(cS:p.ops.length≤1000000000)(de:tb.length≤1099511627776)(hT:∀ V,U W V (ay W p adP cP::L)→aQ V adT tb.length tb) :
   Calls prog 43 #[.agg (br cf).toArray,.agg (bw p adP cP).toArray,.slice adT n cT,.bool hK] w λr V=>∃ t:TypeId,r=.returned (.tuple #[.iface t (.pointer none),.int .i64 1])∧U W V (ay W p adP cP::L):=by
 refine EN func43 ntmps43 rfl rfl λa E=>?_;refine BX 1 E I λb4 a w E I=>?_;change U W w (aa b4 28 (br cf)::_) at I;refine BX 0 E I λb5 a w E I=>?_;change U W w (aa b5 45 (bw p adP cP)::_) at I;refine IF 5 E I (λaj a E=>?_) λaj a E=>?_
 ·
  refine CL 4 E I (abC eb (I.pick (ay W p adP cP)) hn aC cS de (λV cJ=>hT _ cJ.sub)) λa w E I=>?_;refine RT 11 E I ?_;exact⟨_,rfl,I.sub⟩
 refine CL 4 E I (aci eb (I.pick (ay W p adP cP)) hn aC cS de (λV cJ=>hT _ cJ.sub)) λa w E I=>?_;refine RT 11 E I ?_;exact⟨_,rfl,I.sub⟩
theorem NT (I:U W w L):∀ n:Nat,U W w (ah eE (List.replicate n (none,0,[]))::L)
 | 0=>U.iM I
 | n+1=>U.ve (f:=eE) (x:=(none,0,[])) ((NT I n).bO 135 1 none)
theorem NU (eb:j3 (cV cf 0) p tb)(I:U W w (ay W p adP cP::L))(hn:tb.length=n)(aC:p.title.size≤1000000000)(cS:p.ops.length≤1000000000)(de:tb.length≤1099511627776)(hT:∀ V,U W V (ay W p adP cP::L)→aQ V adT tb.length tb) :
   Calls prog 24 #[.agg (br cf).toArray,.agg (bw p adP cP).toArray,.slice adT n cT,.bool hK] w λr V=>∃ B:jr,r=.returned (.tuple #[pt B.mb,.int .i64 0])∧uV B.fu cf tb hK cf.n.toNat∧U W V (aU W B p 0 (gE p cf cf.n.toNat)::ay W p adP cP::L):=by
 have o7:=eb.1.1.1;unfold dE at o7;obtain⟨N,hN⟩:∃ N:Nat,(cV cf 0).n=N:=⟨(cV cf 0).n.toNat,by omega⟩;replace hN:cf.n=N:=hN;have hN2:2≤N∧N≤8:=by
  have h1:(cV cf 0).n=cf.n:=rfl;omega
 rw[show cf.n.toNat=N from by omega];refine EN func24 ntmps24 rfl rfl λa E=>?_;refine BX 1 E I λb4 a w E I=>?_;change U W w (aa b4 28 (br cf)::_) at I;refine BX 0 E I λb5 a w E I=>?_;change U W w (aa b5 45 (bw p adP cP)::_) at I;refine aR 3 E I (M9 I) λq a w E I=>?_;refine BX 1 E I λrf a w E I=>?_;refine RN 1 E I λa E=>?_;replace I:=U.iM (f:=cA W p 0) (I.bO 81 1 none);refine RN 7 E I λa E=>?_;rw[hN,show min (max (N:Int) 1) 8=(N:Int) from by omega]at E;refine aP (λμ a w=>∃ (i:Nat) (adL:Option Addr) (cL:Nat) (xs:List (fB×Pl)) (me:Int),(μ=N-i∧(i≤N∧xs.length=i)∧xs.map (·.2)=(List.range i).map (λi=>eD p (cV cf i))∧uV (xs.map (·.1)) cf tb hK i)∧Fr a 58 [(2,.slice adT n cT),(3,.bool hK),(4,pt b4),(5,pt b5),(10,pt rf),(20,.int .i64 N),(21,.int .i64 i)]∧U W w (aa rf 107 [.slice adL i cL,pt q,.slice none 0 0]::Sl 81 1 adL i cL (xs.map cC)::ah (cA W p 0) xs::bM q []::aa b4 28 (br { cf with me:=me })::aa b5 45 (bw p adP cP)::ay W p adP cP::L)) (N) (⟨0,none,0,[],cf.me,⟨rfl,⟨by omega,rfl⟩,rfl,rfl,λx h=>by cases h⟩,E.ab [2,3,4,5,10,20,21],(show U W w (ah (cA W p 0) []::Sl 81 1 none 0 0 (([]:List (fB×Pl)).map cC)::_) from I).sub⟩) ?_;clear E I;rintro μ a w ⟨i,adL,cL,xs,me,⟨rfl,⟨hi,b0⟩,dp,eN⟩,E,I⟩;refine IF 3 E I (λaj a E=>?_) λaj a E=>?_
 ·
  have aG:i<N:=by omega
  have GL:=NS (i:=i) eb (by omega);refine ST 7 E I (λa w E I=>?_);refine RN 0 E I λa E=>?_;change U W w (aa b4 28 (br (cV cf i))::_) at I;refine aR 5 E I (acj GL (I.pick (ay W p adP cP)) hn aC cS de (λV cJ=>hT _ cJ.sub)) λz a w E ⟨hz,I⟩=>?_;refine RN 9 E I λa E=>?_;replace E:=E.aK 35;refine RN 7 E I λa E=>?_;refine cp E rfl I underlying104 Ty.t81 rfl rfl rfl rfl (by decide) (by decide) λb43 a w E I ho=>?_;clear ho;replace I:=I.pick (Sl 81 1 adL i cL (xs.map cC));refine RN 0 E I λa E=>?_;refine cQ E rfl I underlying104 Ty.t81 rfl rfl I.ai rfl (by simp[Value.oneCell']) (by decide) (by decide) (by omega) λnf k7 a w E I=>?_;rw[show List.map cC xs++_=(xs++[((⟨cV cf i,z⟩:fB),eD p (cV cf i))]).map cC from by rw[cX];rfl]at I;refine ST 2 E I (λa w E I=>?_);refine RN 2 E I λa E=>?_;have ko:=(I.pick (ah (cA W p 0) xs)).pick (fB.J W p ⟨cV cf i,z⟩ 0 (eD p (cV cf i)));have hA:=U.jG (f:=cA W p 0) (x:=(⟨cV cf i,z⟩,eD p (cV cf i))) ko;refine⟨N-(i+1),by omega,i+1,nf,k7,xs++[(⟨cV cf i,z⟩,eD p (cV cf i))],i,⟨rfl,⟨by omega,by rw[aM,b0];rfl⟩,?_,?_⟩,E.ab [2,3,4,5,10,20,21],?_⟩
  ·rw[cX,dp,range_succ,cX];rfl
  ·refine⟨?_,λx hx=>?_⟩
   ·rw[cX,cX,range_succ,cX,eN.1];rfl
   ·rw[cX]at hx;rcases eR.1 hx with hx | hx
    ·exact eN.2 x hx
    ·rw[mem_singleton.1 hx];exact hz
  ·rw[show ({ cf with me:=(i:Int) }:Cf)=cV cf i from rfl];exact hA.sub
 obtain rfl:i=N:=by omega
 refine RN 7 E I λa E=>?_;refine qE E rfl I underlying105 Ty.t90 rfl (by omega) (by omega) λBL a w E I ho=>?_;clear ho;rw[Be _ rfl]at I;refine ST 2 E I (λa w E I=>?_);refine RT 4 E I ?_;refine⟨⟨rf,q,xs.map (·.1)⟩,rfl,eN,?_⟩;have h1:=I.jD BL;rw[show List.replicate i (Value.slice none 0 0)=[]++(List.replicate i ((none,0,[]):j4)).map bx++[] from by rw[nil_append,append_nil,map_replicate];rfl]at h1;have h2:=NT (U.iL (n:=i) (c:=i) (sz:=1) h1 (by rw[bg,ke,Nat.mul_one]) (bk _) (by simp)) i;refine aU.uR (adL:=adL) (cL:=cL) (adE:=some ⟨BL,0,none⟩) (cE:=i) (xs:=xs) (es:=List.replicate i (none,0,[])) ?_ rfl dp (by rw[map_replicate];rfl);rw[b0,ke];simp only[length_nil]at h2;show U W w (aa rf 107 [.slice adL i cL,pt q,.slice (some ⟨BL,0,none⟩) i i]::Sl 81 1 adL i cL (xs.map cC)::ah (cA W p 0) xs::bM q []::Sl 90 1 (some ⟨BL,0,none⟩) i i ((List.replicate i ((none,0,[]):j4)).map bx)::ah eE (List.replicate i (none,0,[]))::ay W p adP cP::L);exact h2.sub
set_option maxHeartbeats 1000000 in
theorem acm (eb:¬ j3 (cV cf 0) p tb)(I:U W w (ay W p adP cP::L))(hn:tb.length=n)(aC:p.title.size≤1000000000)(cS:p.ops.length≤1000000000)(de:tb.length≤1099511627776)(hT:∀ V,U W V (ay W p adP cP::L)→aQ V adT tb.length tb) :
   Calls prog 24 #[.agg (br cf).toArray,.agg (bw p adP cP).toArray,.slice adT n cT,.bool hK] w λr V=>r=.returned (.tuple #[.pointer none,.int .i64 1])∧U W V (ay W p adP cP::L):=by
 refine EN func24 ntmps24 rfl rfl λa E=>?_;refine BX 1 E I λb4 a w E I=>?_;change U W w (aa b4 28 (br cf)::_) at I;refine BX 0 E I λb5 a w E I=>?_;change U W w (aa b5 45 (bw p adP cP)::_) at I;refine aR 3 E I (M9 I) λq a w E I=>?_;refine BX 1 E I λrf a w E I=>?_;refine RN 8 E I λa E=>?_;obtain⟨M,hM,hM1⟩:∃ M:Nat,min (max cf.n 1) 8=(M:Int)∧1≤M:=⟨(min (max cf.n 1) 8).toNat,by omega,by omega⟩;rw[hM]at E;refine aP (λμ a w=>(μ=0∧True)∧Fr a 58 [(2,.slice adT n cT),(3,.bool hK),(4,pt b4),(5,pt b5),(10,pt rf),(20,.int .i64 M),(21,.int .i64 0)]∧U W w (aa b4 28 (br cf)::aa b5 45 (bw p adP cP)::ay W p adP cP::L)) (0) (⟨⟨rfl,trivial⟩,E.ab [2,3,4,5,10,20,21],I.sub⟩) ?_;clear E I;rintro μ a w ⟨⟨rfl,_⟩,E,I⟩;refine IF 3 E I (λaj a E=>?_) λaj a E=>?_
 ·
  skip
  refine ST 7 E I (λa w E I=>?_);refine RN 0 E I λa E=>?_;change U W w (aa b4 28 (br (cV cf 0))::_) at I;refine aR 5 E I (ack eb (I.pick (ay W p adP cP)) hn aC cS de (λV cJ=>hT _ cJ.sub)) λQJ a w E I=>?_;refine RN 9 E I λa E=>?_;replace E:=E.dX 35;refine RT 5 E I ?_;exact⟨rfl,I.sub⟩
 omega
end
end
section
abbrev dM (x:fU×Pl):Value:=pt x.1.pb
def ds (W:World)(p:Pr)(x:fU×Pl):SP:=bZ W x.1 p x.2
def fk (x:j4):SP:=Sl 102 3 x.1 x.2.2.length x.2.1 (rows bU x.2.2)
structure nK where
 wb:Nat
 mb:Nat
 mG:List fU
def bV (W:World)(D:nK)(p:Pr)(v:Wd):SP:=λh=>∃ i:(Option Addr×Nat)×(Option Addr×Nat)×(Option Addr×Nat)×List (fU×Pl)×List j4,(i.2.2.2.1.map (·.1)=D.mG∧i.2.2.2.1.map (·.2)=v.ps∧i.2.2.2.2.map (·.2.2)=v.ev) ∧
 cn [aa D.wb 40 [pt D.mb,.slice i.1.1 i.2.2.2.1.length i.1.2,.slice i.2.1.1 v.net.length i.2.1.2,.slice i.2.2.1.1 i.2.2.2.2.length i.2.2.1.2],
  Sl 34 1 i.1.1 i.2.2.2.1.length i.1.2 (i.2.2.2.1.map dM),ah (ds W p) i.2.2.2.1,ct 60 i.2.1.1 v.net.length i.2.1.2 v.net,Sl 70 1 i.2.2.1.1 i.2.2.2.2.length i.2.2.1.2 (i.2.2.2.2.map bx),ah fk i.2.2.2.2] h
section
variable {W w:World}{L:List SP}{n c k cP cN cE wb i:Nat}{ad adP adN adE:Option Addr}{p:Pr}{v:Wd}{D:nK}{x0 x1 x3:Value}{l net:List Ml}{xs:List (fU×Pl)}{es:List j4}
theorem bV.open (I:U W w (bV W D p v::L)):∃ (adP:Option Addr) (cP:Nat) (adN:Option Addr) (cN:Nat) (adE:Option Addr) (cE:Nat) (xs:List (fU×Pl)) (es:List j4),(xs.map (·.1)=D.mG∧xs.map (·.2)=v.ps∧es.map (·.2.2)=v.ev) ∧
   U W w (aa D.wb 40 [pt D.mb,.slice adP xs.length cP,.slice adN v.net.length cN,.slice adE es.length cE] ::
    Sl 34 1 adP xs.length cP (xs.map dM)::ah (ds W p) xs::ct 60 adN v.net.length cN v.net::Sl 70 1 adE es.length cE (es.map bx)::ah fk es::L):=by
 obtain⟨i,h1,I⟩:=I.jt (ι:=(Option Addr×Nat)×(Option Addr×Nat)×(Option Addr×Nat)×List (fU×Pl)×List j4) (p:=λi=>i.2.2.2.1.map (·.1)=D.mG∧i.2.2.2.1.map (·.2)=v.ps∧i.2.2.2.2.map (·.2.2)=v.ev)
  (B:=λi h=>cn [aa D.wb 40 [pt D.mb,.slice i.1.1 i.2.2.2.1.length i.1.2,.slice i.2.1.1 v.net.length i.2.1.2,.slice i.2.2.1.1 i.2.2.2.2.length i.2.2.1.2],
  Sl 34 1 i.1.1 i.2.2.2.1.length i.1.2 (i.2.2.2.1.map dM),ah (ds W p) i.2.2.2.1,ct 60 i.2.1.1 v.net.length i.2.1.2 v.net,Sl 70 1 i.2.2.1.1 i.2.2.2.2.length i.2.2.1.2 (i.2.2.2.2.map bx),ah fk i.2.2.2.2] h) λ_ h=>h
 obtain⟨⟨adP,cP⟩,⟨adN,cN⟩,⟨adE,cE⟩,xs,es⟩:=i;exact⟨adP,cP,adN,cN,adE,cE,xs,es,h1,I.open (M:=[_,_,_,_,_,_]) λ_ h=>h⟩
theorem bV.close (I:U W w (aa D.wb 40 [pt D.mb,.slice adP xs.length cP,.slice adN v.net.length cN,.slice adE es.length cE] ::
     Sl 34 1 adP xs.length cP (xs.map dM)::ah (ds W p) xs::ct 60 adN v.net.length cN v.net::Sl 70 1 adE es.length cE (es.map bx)::ah fk es::L))
 (h1:xs.map (·.1)=D.mG) (h2:xs.map (·.2)=v.ps) (h3:es.map (·.2.2)=v.ev):U W w (bV W D p v::L) :=
 U.shut (M:=[_,_,_,_,_,_]) I λ_ h=>⟨((adP,cP),(adN,cN),(adE,cE),xs,es),⟨h1,h2,h3⟩,h⟩
theorem NV (I:U W w (ct 60 ad n c l::ct 60 adN k cN net::aa wb 40 [x0,x1,.slice adN k cN,x3]::L))(hn:n≤1000)(hk:net.length≤300) :
   Calls prog 72 #[pt wb,.slice ad n c] w λe V=>e=.returned (.tuple #[])∧∃ NW NX,U W V (ct 60 NW (eo net l).length NX (eo net l)::aa wb 40 [x0,x1,.slice NW (eo net l).length NX,x3]::L):=by
 obtain⟨xs,eG,b0,I⟩:=ct.open I;have bd:xs.length=n:=by rw[← b0,← eG,bg]
 subst bd;obtain⟨ys,nL,jB,I⟩:=ct.open (I.pick (ct 60 adN k cN net));subst jB;refine EN func72 ntmps72 rfl rfl λa E=>?_;refine RN 2 E I λa E=>?_;refine aP (λμ a w=>∃ (i:Nat) (adN:Option Addr) (cN:Nat) (ys:List Mx) (N:List Ml),(μ=xs.length-i∧i≤xs.length∧N=eo net (l.take i)∧ys.map (·.2.2)=N)∧Fr a 30 [(0,pt wb),(1,.slice ad xs.length c),(4,.int .i64 i)]∧U W w (aa wb 40 [x0,x1,.slice adN N.length cN,x3]::Sl 60 3 adN N.length cN (rows b6 ys)::ah b7 ys::Sl 60 3 ad xs.length c (rows b6 xs)::ah b7 (xs.drop i)::L)) (xs.length) (⟨0,adN,cN,ys,net,⟨rfl,by omega,rfl,nL⟩,E.ab [0,1,4],(show U W w (Sl 60 3 adN net.length cN (rows b6 ys)::ah b7 ys::Sl 60 3 ad xs.length c (rows b6 xs)::ah b7 (xs.drop 0)::_) from I).sub⟩) ?_;clear E I;rintro μ a w ⟨i,adN,cN,ys,N,⟨rfl,hi,hN,oM⟩,E,I⟩;refine IF 6 E I (λaj a E=>?_) λaj a E=>?_
 ·
  have aG:i<xs.length:=by omega
  have yJ:i<l.length:=by omega
  have hNl:N.length≤300:=by rw[hN];exact Gn hk
  have GM:=MY net yJ;rw[← hN]at GM;obtain⟨x,hx⟩:∃ x,x=xs[i]:=⟨_,rfl⟩;have acn:x.2.2=l[i]:=by
   have h1:(xs.map (·.2.2))[i]?=l[i]?:=by rw[eG]
   rw[bn,aF aG,aF yJ,← hx]at h1;simpa using h1
  have e4:xs[i]?=some x:=by rw[hx];exact aF aG
  refine IF 8 E I (λao a E=>?_) λao a E=>?_
  ·
   refine RN 0 E I λa E=>?_;obtain⟨bi,oi,rfl,pc⟩:=(I.drew.pick (Sl 60 3 ad xs.length c (rows b6 xs))).bW ad (by omega);replace pc:=jk oz pc (aF aG);rw[← hx]at pc;refine qJ 0 (λV=>Rd V wb 0 [x0,x1,.slice adN N.length cN,x3]∧Rd V bi (oi+i*3) (b6 x)) [8,9] [0,1,2,3,5,6,7,3004,1008,1009,1010,11,12,1013] E I λa E=>?_;replace I:=I.drew;generalize w.drew=w at I pc ⊢;have hC:Rd w wb 0 [x0,x1,.slice adN N.length cN,x3]∧Rd w bi (oi+i*3) (b6 x):=⟨I.ai (b:=wb),pc⟩;have hH:=Hd.any (λV=>Rd V wb 0 [x0,x1,.slice adN N.length cN,x3]∧Rd V bi (oi+i*3) (b6 x));refine RH 7 E I hH hC λa E=>?_;refine QH E (λw hc=>ae E (hc.1 2 _ rfl)) hC λa E=>?_;refine RH 0 E I hH hC λa E=>?_;refine SS E (bR E underlying60 rfl Ty.t60 (hC.2)) λa E=>?_;refine RH 0 E I hH hC λa E=>?_;refine cp E rfl I underlying37 Ty.t60 rfl rfl rfl rfl (by decide) (by decide) λJf a w E I ho=>?_;clear ho;replace hC:=hH.at w ⟨I.ai (b:=wb),jk oz (I.cK bi oi (by omega)) e4⟩;refine RH 0 E I hH hC λa E=>?_;refine cQ E rfl I underlying37 Ty.t60 rfl rfl I.ai rfl (by simp[Value.oneCell']) (by decide) (by decide) (by omega) λDu Dv a w E I=>?_;rw[show rows b6 ys++_=rows b6 (ys++[x]) from by rw[ka];rfl]at I;refine ST 2 E I (λa w E I=>?_);refine RN 3 E I λa E=>?_;rw[kb aG,← hx]at I;have h1:U W w (b7 x::ah b7 (xs.drop (i+1))::_):=U.fv (l:=x::xs.drop (i+1)) (i:=0) (I.pick (ah b7 (x::xs.drop (i+1)))) (by simp);have h3:=U.jG (f:=b7) (x:=x) ((h1.pick (ah b7 ys)).pick (b7 x));refine⟨xs.length-(i+1),by omega,i+1,Du,Dv,ys++[x],N++[l[i]],⟨rfl,by omega,by rw[GM,oG,al (by omega)],by rw[cX,oM,← acn];rfl⟩,E.ab [0,1,4],?_⟩;rw[aM,ji];exact h3.sub
  refine RN 3 E I λa E=>?_;rw[kb aG,← hx]at I;have h1:U W w (b7 x::ah b7 (xs.drop (i+1))::_):=U.fv (l:=x::xs.drop (i+1)) (i:=0) (I.pick (ah b7 (x::xs.drop (i+1)))) (by simp);exact⟨xs.length-(i+1),by omega,i+1,adN,cN,ys,N,⟨rfl,by omega,by rw[GM,oG,ag (by omega)],oM⟩,E.ab [0,1,4],h1.sub⟩
 refine RT 0 E I ?_;obtain rfl:i=xs.length:=by omega
 rw[fY (by omega)]at hN;subst hN;exact⟨rfl,adN,cN,(ct.close (I.sub (M:=Sl 60 3 adN (eo net l).length cN (rows b6 ys)::ah b7 ys::aa wb 40 [x0,x1,.slice adN (eo net l).length cN,x3]::L)) oM rfl)⟩
end
end
section
section
variable {W w:World}{L:List SP}{c k cP cN cE wb i:Nat}{adP adN adE:Option Addr}{p:Pr}{v:Wd}{D:nK}{net:List Ml}{xs:List (fU×Pl)}{es:List j4}{x:fU}{s wu s':Pl}{t:ft}{cf:Cf}
theorem BM {ps:List Pl}(h2:xs.map (·.2)=ps)(hi:i<xs.length):∃ x,xs[i]?=some (x,ps.getD i Bq):=by
 refine⟨xs[i].1,?_⟩;rw[aF hi,bl,← h2,bn,aF hi];rfl
theorem BN (I:U W w (ah (ds W p) xs::L))(hx:xs[i]?=some (x,s)):U W w (bZ W x p s::ah (ds W p) (xs.eraseIdx i)::L):=by
 obtain⟨hi,h1⟩:=a8.1 hx;have h2:=I.fv hi;rw[h1]at h2;exact h2
theorem BO (I:U W w (bZ W x p s::ah (ds W p) (xs.eraseIdx i)::L))(hx:xs[i]?=some (x,s)):U W w (ah (ds W p) xs::L):=by
 obtain⟨hi,h1⟩:=a8.1 hx;refine U.wG hi ?_;rw[h1];exact I
theorem BQ (hx:xs[i]?=some (x,s)):(xs.set i (x,s')).map dM=xs.map dM∧(xs.set i (x,s')).map (·.1)=xs.map (·.1):=by
 obtain⟨hi,h1⟩:=a8.1 hx;constructor
 ·rw[List.map_set,show dM (x,s')=(xs.map dM)[i]'(by rw[bg];exact hi) from by rw[getElem_map,h1],set_getElem_self]
 ·rw[List.map_set];show (xs.map (·.1)).set i x=_;rw[show x=(xs.map (·.1))[i]'(by rw[bg];exact hi) from by rw[getElem_map,h1],set_getElem_self]
theorem bV.put (h1:xs.map (·.1)=D.mG)(h2:xs.map (·.2)=v.ps)(h3:es.map (·.2.2)=v.ev)(hx:xs[i]?=some (x,wu))(net:List Ml)
   (I:U W w (bZ W x p s'::ah (ds W p) (xs.eraseIdx i)::aa D.wb 40 [pt D.mb,.slice adP xs.length cP,.slice adN net.length cN,.slice adE es.length cE] ::
    Sl 34 1 adP xs.length cP (xs.map dM)::ct 60 adN net.length cN net::Sl 70 1 adE es.length cE (es.map bx)::ah fk es::L)) :
   U W w (bV W D p { v with ps:=v.ps.set i s',net:=net }::L):=by
 obtain⟨hi,_⟩:=a8.1 hx;have h4:=U.kG (f:=ds W p) (x:=(x,s')) hi I;refine bV.close (adP:=adP) (cP:=cP) (adN:=adN) (cN:=cN) (adE:=adE) (cE:=cE) (xs:=xs.set i (x,s')) (es:=es) ?_ ((BQ hx).2.trans h1) (by rw[List.map_set,h2]) h3;rw[bu,(BQ hx).1];exact h4.sub
theorem NY (b:Int):IntKind.u8.wrap (IntKind.i64.wrap ((BitVec.ofInt IntKind.i64.bits b &&& BitVec.ofInt IntKind.i64.bits 255).toNat))=((fV b).toNat:Int):=by
 have h1:(BitVec.ofInt IntKind.i64.bits b &&& BitVec.ofInt IntKind.i64.bits 255).toNat=(b%256).toNat:=by
  have h2:(BitVec.ofInt 64 b &&& BitVec.ofInt 64 255).toNat=(BitVec.ofInt 64 b).toNat%256:=by
   rw[BitVec.toNat_and,show (BitVec.ofInt 64 255).toNat=2 ^ 8-1 from rfl,Nat.and_two_pow_sub_one_eq_mod]
  show (BitVec.ofInt 64 b &&& BitVec.ofInt 64 255).toNat=_;rw[h2,BitVec.toNat_ofInt];omega
 rw[h1,ft.u8,fV,fV];have h3:=Int.emod_nonneg b (show (256:Int)≠0 by decide);have h4:=Int.emod_lt_of_pos b (show (0:Int)<256 by decide);have h5:IntKind.i64.wrap ((b%256).toNat:Int)=b%256:=by rw[gi (by omega) (by omega)];omega
 rw[h5,Int.emod_emod_of_dvd _ (by decide)]
set_option maxHeartbeats 1000000 in
theorem aco (I:U W w (bV W D p v::L))(hv:bB p cf c v)(a7:db p)(aC:p.title.size≤1000000000)(hc:c≤1000000)(hf:¬ (3≤t.fn∧t.fn≤6)) :
   Calls prog 50 #[pt D.wb,.agg (dV t).toArray] w λe V=>e=.returned (.int .i64 (bt p t v).1)∧U W V (bV W D p (bt p t v).2::L):=by
 replace I:=bV.open I;obtain⟨adP,cP,adN,cN,adE,cE,xs,es,⟨eL,dp,eN⟩,I⟩:=I;have b0:xs.length=v.ps.length:=by rw[← dp,bg]
 have b9:∀ V,U W V (aa D.wb 40 [pt D.mb,.slice adP xs.length cP,.slice adN v.net.length cN,.slice adE es.length cE]::Sl 34 1 adP xs.length cP (xs.map dM)::ah (ds W p) xs::ct 60 adN v.net.length cN v.net::Sl 70 1 adE es.length cE (es.map bx)::ah fk es::L)→U W V (bV W D p v::L):=λV h=>bV.close h eL dp eN;refine EN func50 ntmps50 rfl rfl λa E=>?_;refine BX 1 E I λb3 a w E I=>?_;change U W w (aa b3 58 (dV t)::_) at I;refine BY 7 E I (λbF a E=>?_) λbF a E=>?_
 ·
  refine RT 7 E I ?_;rw[bt,al (by omega)];exact⟨rfl,b9 _ I.sub⟩
 refine IF 4 E I (λaj a E=>?_) λaj a E=>?_
 ·
  refine RT 2 E I ?_;rw[bt,al (by omega)];exact⟨rfl,b9 _ I.sub⟩
 refine RN 0 E I λa E=>?_;refine cc (M:=λa w=>(¬ (t.fn<1∨8<t.fn)∧Fr a 74 [(0,pt D.wb),(3,pt b3),(4,.int .i64 0)])∧U W w (aa b3 58 (dV t)::aa D.wb 40 [pt D.mb,.slice adP xs.length cP,.slice adN v.net.length cN,.slice adE es.length cE]::Sl 34 1 adP xs.length cP (xs.map dM)::ah (ds W p) xs::ct 60 adN v.net.length cN v.net::Sl 70 1 adE es.length cE (es.map bx)::ah fk es::L)) ?_ ?_
 ·
  refine BY 5 E I (λbF a E=>?_) λbF a E=>?_
  ·
   refine RN 4 E I λa E=>?_;rw[bq (by omega)]at E;refine RN 1 E I λa E=>?_;exact⟨⟨by omega,E.ab [0,3,4]⟩,I.sub⟩
  refine RN 5 E I λa E=>?_;exact⟨⟨by omega,E.ab [0,3,4]⟩,I.sub⟩
 clear E;(try clear I);rintro a w ⟨⟨gZ,E⟩,I⟩;refine cc (M:=λa w=>(∃ i:Nat,(t.a=i∧i<v.ps.length)∧Fr a 74 [(0,pt D.wb),(3,pt b3),(4,.int .i64 0)])∧U W w (aa b3 58 (dV t)::aa D.wb 40 [pt D.mb,.slice adP xs.length cP,.slice adN v.net.length cN,.slice adE es.length cE]::Sl 34 1 adP xs.length cP (xs.map dM)::ah (ds W p) xs::ct 60 adN v.net.length cN v.net::Sl 70 1 adE es.length cE (es.map bx)::ah fk es::L)) ?_ ?_
 ·
  refine aY 1 (λw0 V=>Rd V b3 0 (dV t)∧Rd V D.wb 0 [pt D.mb,.slice adP xs.length cP,.slice adN v.net.length cN,.slice adE es.length cE]) [9,10] [0,1001,2,3,4,6,7,8,3005,1009,1010,11,12] E I λa w E I hH=>?_;have hC:=hH.at w ⟨I.ai (b:=b3),I.ai (b:=D.wb)⟩;refine RH 1 E I hH hC λa E=>?_;refine SS E (ae E (hC.1 1 _ rfl)) λa E=>?_;refine RH 2 E I hH hC λa E=>?_;refine E.by (s:=28) (λbF E=>?_) (λbF E=>?_)
  ·
   refine RH 9 E I hH hC λa E=>?_;refine RT 3 E I ?_;have ho:t.a<0∨(v.ps.length:Int)≤t.a:=by omega
   have aT:bt p t v=(7,v):=by rw[bt,ag (by omega),ag hf,fW,al ho]
   rw[aT];exact⟨rfl,b9 _ I.sub⟩
  refine RH 4 E I hH hC λa E=>?_;refine QH E (λw hc=>ae E (hc.1 1 _ rfl)) hC λa E=>?_;refine RH 0 E I hH hC λa E=>?_;refine bC E (cI E rfl (s:=28)) (ae E (hC.2 1 _ rfl)) rfl λa E=>?_;refine RH 3 E I hH hC λa E=>?_;refine IF 0 E I (λaz a E=>?_) λaz a E=>?_
  ·
   refine RT 2 E I ?_;have ho:t.a<0∨(v.ps.length:Int)≤t.a:=by omega
   have aT:bt p t v=(7,v):=by rw[bt,ag (by omega),ag hf,fW,al ho]
   rw[aT];exact⟨rfl,b9 _ I.sub⟩
  refine RN 0 E I λa E=>?_;exact⟨⟨t.a.toNat,⟨by omega,by omega⟩,E.ab [0,3,4]⟩,I.sub⟩
 clear E;(try clear I);rintro a w ⟨⟨i,⟨fX,hi⟩,E⟩,I⟩;refine RN 1 E I λa E=>?_;obtain⟨x,hx⟩:∃ x,xs[i]?=some (x,an v i):=BM dp (by omega);have aT:bt p t v=fW p t v:=by rw[bt,ag gZ,ag hf]
 obtain⟨hw,cw,wI⟩:=hv.pl i hi;have tf:(xs.map dM)[i]?=some (pt x.pb):=by rw[bn,hx];rfl
 obtain⟨bp,op,rfl,_⟩:=(I.pick (Sl 34 1 adP xs.length cP (xs.map dM))).bW adP (by omega);refine aY 0 (λw0 V=>(Rd V b3 0 (dV t)∧Rd V D.wb 0 [pt D.mb,.slice (some ⟨bp,op,none⟩) xs.length cP,.slice adN v.net.length cN,.slice adE es.length cE])∧Rd V bp op (xs.map dM)) [5] [0,1,2,4,3003,1005,6,1007,8] E I λa w E I hH=>?_;have hC:=hH.at w ⟨⟨I.ai (b:=b3),I.ai (b:=D.wb)⟩,I.cK bp op (by omega)⟩;refine RH 4 E I hH hC λa E=>?_;refine QH E (λw hc=>ae E (hc.1.2 1 _ rfl)) hC λa E=>?_;refine RH 0 E I hH hC λa E=>?_;refine SS E (ae E (hC.1.1 1 _ rfl)) λa E=>?_;rw[fX]at E;refine RH 1 E I hH hC λa E=>?_;refine SS E (ae E (hC.2 i _ tf)) λa E=>?_;refine RH 1 E I hH hC λa E=>?_;refine RN 2 E I λa E=>?_;replace I:=BN (I.pick (ah (ds W p) xs)) hx;refine IF 5 E I (λbh a E=>?_) λbh a E=>?_
 ·
  refine RN 5 E I λa E=>?_;refine SS E (gj E underlying3 underlying5) λa E=>?_;rw[NY]at E;refine CL 0 E I (aaN (x:=fV t.b) (I.pick (bZ W x p (an v i))) hw a7 aC) λa w E I=>?_;refine RT 1 E I ?_;rw[aT,BB (by assumption) fX hi];exact⟨rfl,bV.put (adP:=some ⟨bp,op,none⟩) (cP:=cP) (adN:=adN) (cN:=cN) (adE:=adE) (cE:=cE) eL dp eN hx v.net I.sub⟩
 refine IF 3 E I (λbQ a E=>?_) λbQ a E=>?_
 ·
  replace I:=bZ.open (I.pick (bZ W x p (an v i)));refine a6 5 E I (aaD (I.pick (a1 x.core (an v i).k)) hw.wc (by omega)) λGN oj a w E I=>?_;refine CL 0 E I (NV (((I.pick (aa D.wb 40 [pt D.mb,.slice (some ⟨bp,op,none⟩) xs.length cP,.slice adN v.net.length cN,.slice adE es.length cE])).pick (ct 60 adN v.net.length cN v.net)).pick (ct 60 GN (bo (an v i).k).1.length oj (bo (an v i).k).1)) (MW hw.wc) hv.net.1) λa w E ⟨uW,uX,I⟩=>?_;refine RN 0 E I λa E=>?_;replace I:=bZ.fold I x p ⟨(bo (an v i).k).2,(an v i).g⟩;refine RT 2 E I ?_;rw[aT]
  first
   | (rw[wH (by assumption) fX hi];exact⟨rfl,bV.put (adP:=some ⟨bp,op,none⟩) (cP:=cP) (adN:=uW) (cN:=uX) (adE:=adE) (cE:=cE) eL dp eN hx (eo v.net (bo (an v i).k).1) I.sub⟩)
   | (rw[yK (by assumption) fX hi];exact⟨rfl,bV.put (adP:=some ⟨bp,op,none⟩) (cP:=cP) (adN:=uW) (cN:=uX) (adE:=adE) (cE:=cE) eL dp eN hx (eo v.net (bG (an v i).k).1) I.sub⟩)
   | (rw[yL (by omega) fX hi];exact⟨rfl,b9 _ (BO ((I.pick (ah (ds W p) (xs.eraseIdx i))).pick (bZ W x p (an v i))) hx).sub⟩)
 refine IF 3 E I (λeT a E=>?_) λeT a E=>?_
 ·
  replace I:=bZ.open (I.pick (bZ W x p (an v i)));refine a6 5 E I (aaA (I.pick (a1 x.core (an v i).k)) hw.wc) λGN oj a w E I=>?_;refine CL 0 E I (NV (((I.pick (aa D.wb 40 [pt D.mb,.slice (some ⟨bp,op,none⟩) xs.length cP,.slice adN v.net.length cN,.slice adE es.length cE])).pick (ct 60 adN v.net.length cN v.net)).pick (ct 60 GN (bG (an v i).k).1.length oj (bG (an v i).k).1)) (MX hw.wc) hv.net.1) λa w E ⟨uW,uX,I⟩=>?_;refine RN 0 E I λa E=>?_;replace I:=bZ.fold I x p ⟨(bG (an v i).k).2,(an v i).g⟩;refine RT 2 E I ?_;rw[aT]
  first
   | (rw[wH (by assumption) fX hi];exact⟨rfl,bV.put (adP:=some ⟨bp,op,none⟩) (cP:=cP) (adN:=uW) (cN:=uX) (adE:=adE) (cE:=cE) eL dp eN hx (eo v.net (bo (an v i).k).1) I.sub⟩)
   | (rw[yK (by assumption) fX hi];exact⟨rfl,bV.put (adP:=some ⟨bp,op,none⟩) (cP:=cP) (adN:=uW) (cN:=uX) (adE:=adE) (cE:=cE) eL dp eN hx (eo v.net (bG (an v i).k).1) I.sub⟩)
   | (rw[yL (by omega) fX hi];exact⟨rfl,b9 _ (BO ((I.pick (ah (ds W p) (xs.eraseIdx i))).pick (bZ W x p (an v i))) hx).sub⟩)
 refine RT 2 E I ?_;rw[aT]
 first
  | (rw[wH (by assumption) fX hi];exact⟨rfl,bV.put (adP:=some ⟨bp,op,none⟩) (cP:=cP) (adN:=uW) (cN:=uX) (adE:=adE) (cE:=cE) eL dp eN hx (eo v.net (bo (an v i).k).1) I.sub⟩)
  | (rw[yK (by assumption) fX hi];exact⟨rfl,bV.put (adP:=some ⟨bp,op,none⟩) (cP:=cP) (adN:=uW) (cN:=uX) (adE:=adE) (cE:=cE) eL dp eN hx (eo v.net (bG (an v i).k).1) I.sub⟩)
  | (rw[yL (by omega) fX hi];exact⟨rfl,b9 _ (BO ((I.pick (ah (ds W p) (xs.eraseIdx i))).pick (bZ W x p (an v i))) hx).sub⟩)
end
end
section
section
variable {W w:World}{L L':List SP}{n c k cP cN cE wb i j:Nat}{adP adN adE:Option Addr}{p:Pr}{v:Wd}{D:nK}{net:List Ml}{xs:List (fU×Pl)}{es:List j4}{x:fU}{s:Pl}{t:ft}{cf:Cf}{m:Ml}
theorem acp (I:U W w (bV W D p v::L))(ho:t.n<0∨(v.net.length:Int)≤t.n) :
   Calls prog 70 #[pt D.wb,.agg (dV t).toArray] w λe V=>e=.returned (.int .i64 3)∧U W V (bV W D p v::L):=by
 replace I:=bV.open I;obtain⟨adP,cP,adN,cN,adE,cE,xs,es,⟨eL,dp,eN⟩,I⟩:=I;have b9:∀ V,U W V (aa D.wb 40 [pt D.mb,.slice adP xs.length cP,.slice adN v.net.length cN,.slice adE es.length cE]::Sl 34 1 adP xs.length cP (xs.map dM)::ah (ds W p) xs::ct 60 adN v.net.length cN v.net::Sl 70 1 adE es.length cE (es.map bx)::ah fk es::L)→U W V (bV W D p v::L):=λV h=>bV.close h eL dp eN;refine EN func70 ntmps70 rfl rfl λa E=>?_;refine BX 1 E I λb3 a w E I=>?_;change U W w (aa b3 58 (dV t)::_) at I;refine aY 3 (λw0 V=>Rd V b3 0 (dV t)∧Rd V D.wb 0 [pt D.mb,.slice adP xs.length cP,.slice adN v.net.length cN,.slice adE es.length cE]) [9,10] [0,1001,2,3,4,6,7,8,3005,1009,1010,11,12] E I λa w E I hH=>?_;have hC:=hH.at w ⟨I.ai (b:=b3),I.ai (b:=D.wb)⟩;refine RH 1 E I hH hC λa E=>?_;refine SS E (ae E (hC.1 3 _ rfl)) λa E=>?_;refine RH 2 E I hH hC λa E=>?_;refine E.by (s:=10) (λbF E=>?_) (λbF E=>?_)
 ·
  refine RH 9 E I hH hC λa E=>?_;refine RT 3 E I ?_;exact⟨rfl,b9 _ I.sub⟩
 refine RH 4 E I hH hC λa E=>?_;refine QH E (λw hc=>ae E (hc.1 3 _ rfl)) hC λa E=>?_;refine RH 0 E I hH hC λa E=>?_;refine bC E (cI E rfl (s:=10)) (ae E (hC.2 2 _ rfl)) rfl λa E=>?_;refine RH 3 E I hH hC λa E=>?_;rw[dq (by omega)]at E;refine RT 3 E I ?_;exact⟨rfl,b9 _ I.sub⟩
theorem bV.BR {ys:List Mx}(h1:xs.map (·.1)=D.mG)(h2:xs.map (·.2)=v.ps)(h3:es.map (·.2.2)=v.ev)(hy:ys.map (·.2.2)=net)
   (I:U W w (Sl 60 3 adN net.length cN (rows b6 ys)::ah b7 ys::aa D.wb 40 [pt D.mb,.slice adP xs.length cP,.slice adN net.length cN,.slice adE es.length cE]::Sl 34 1 adP xs.length cP (xs.map dM)::ah (ds W p) xs::Sl 70 1 adE es.length cE (es.map bx)::ah fk es::L)) :
   U W w (bV W D p { v with net:=net }::L):=by
 have h4:=ct.close I hy rfl;exact bV.close (v:={ v with net:=net }) (h4.sub (M:=aa D.wb 40 [pt D.mb,.slice adP xs.length cP,.slice adN net.length cN,.slice adE es.length cE]::Sl 34 1 adP xs.length cP (xs.map dM)::ah (ds W p) xs::ct 60 adN net.length cN net::Sl 70 1 adE es.length cE (es.map bx)::ah fk es::L)) h1 h2 h3
theorem GO {ys:List Mx}{y:Mx}(I:U W w (ah b7 ys::L))(hy:ys[j]?=some y):aQ w y.1 y.2.2.2.2.length y.2.2.2.2:=by
 obtain⟨h1,h2⟩:=a8.1 hy;have h3:=I.fv h1;rw[h2]at h3;exact U.cu (L:=b7 y::_) h3 _ _ (k:=(fL.head:fL (Sl 5 1 y.1 y.2.2.2.2.length y.2.1 (bc y.2.2.2.2)::_) y.1 _ _ _ _ _ _)) rfl rfl
set_option maxHeartbeats 2000000 in
theorem acq (I:U W w (bV W D p v::L))(hv:bB p cf c v)(a7:db p)(aC:p.title.size≤1000000000)(hf:t.fn=3∨t.fn=4∨t.fn=5∨t.fn=6)(gD:t.n=j)(hm:v.net[j]?=some m) :
   Calls prog 70 #[pt D.wb,.agg (dV t).toArray] w λe V=>e=.returned (.int .i64 (gg p t v).1)∧U W V (bV W D p (gg p t v).2::L):=by
 have eH:=(a8.1 hm).1;have eb:=hv.Gp eH;rw[BD hm]at eb;obtain⟨hw,cw,wI⟩:=hv.pl m.2.1 eb.1;have o6:=hv.net.1;replace I:=bV.open I;obtain⟨adP,cP,adN,cN,adE,cE,xs,es,⟨eL,dp,eN⟩,I⟩:=I;have b0:xs.length=v.ps.length:=by rw[← dp,bg]
 obtain⟨ys,nL,jB,I⟩:=ct.open (I.pick (ct 60 adN v.net.length cN v.net));have oM:ys.length=v.net.length:=by rw[← nL,bg]
 obtain⟨y,hy,kg⟩:∃ y,ys[j]?=some y∧y.2.2=m:=by
  have h1:(ys.map (·.2.2))[j]?=some m:=by rw[nL,hm]
  rw[bn,aF (by omega)]at h1;exact⟨_,aF (by omega),by simpa using h1⟩
 subst kg;obtain⟨bD,on,rfl,_⟩:=(I.pick (Sl 60 3 adN v.net.length cN (rows b6 ys))).bW adN (by omega);refine EN func70 ntmps70 rfl rfl λa E=>?_;refine BX 1 E I λb3 a w E I=>?_;change U W w (aa b3 58 (dV t)::_) at I;refine aY 3 (λw0 V=>Rd V b3 0 (dV t)∧Rd V D.wb 0 [pt D.mb,.slice adP xs.length cP,.slice (some ⟨bD,on,none⟩) v.net.length cN,.slice adE es.length cE]) [9,10] [0,1001,2,3,4,6,7,8,3005,1009,1010,11,12] E I λa w E I hH=>?_;have hC:=hH.at w ⟨I.ai (b:=b3),I.ai (b:=D.wb)⟩;refine RH 1 E I hH hC λa E=>?_;refine SS E (ae E (hC.1 3 _ rfl)) λa E=>?_;refine RH 2 E I hH hC λa E=>?_;rw[bq (by omega)]at E;refine RH 4 E I hH hC λa E=>?_;refine QH E (λw hc=>ae E (hc.1 3 _ rfl)) hC λa E=>?_;refine RH 0 E I hH hC λa E=>?_;refine bC E (cI E rfl (s:=10)) (ae E (hC.2 2 _ rfl)) rfl λa E=>?_;refine RH 3 E I hH hC λa E=>?_;rw[bq (by omega)]at E;refine aY 2 (λw0 V=>(Rd V b3 0 (dV t)∧Rd V D.wb 0 [pt D.mb,.slice adP xs.length cP,.slice (some ⟨bD,on,none⟩) v.net.length cN,.slice adE es.length cE])∧Rd V bD (on+j*3) (b6 y)) [5,8] [0,1,2,4,3003,3005,6,3007,1008,1009] E I λa w E I hH=>?_;have hC:=hH.at w ⟨⟨I.ai (b:=b3),I.ai (b:=D.wb)⟩,jk oz (I.cK bD on (by omega)) hy⟩;refine RH 4 E I hH hC λa E=>?_;refine QH E (λw hc=>ae E (hc.1.2 2 _ rfl)) hC λa E=>?_;refine QH E (λw hc=>ae E (hc.1.1 3 _ rfl)) hC λa E=>?_;rw[gD]at E;refine RH 1 E I hH hC λa E=>?_;refine QH E (λw hc=>bR E underlying60 rfl Ty.t60 (hc.2)) hC λa E=>?_;refine RH 0 E I hH hC λa E=>?_;refine eW E rfl I Ty.t60 rfl λb5 a w E I ho=>?_;clear ho;replace hC:=hH.at w ⟨⟨I.ai (b:=b3),I.ai (b:=D.wb)⟩,jk oz (I.cK bD on (by omega)) hy⟩;refine RH 0 E I hH hC λa E=>?_;refine SA 0 E I λa w E I=>?_;refine RN 0 E I λa E=>?_;refine IF 5 E I (λao a E=>?_) λao a E=>?_
 ·
  refine BY 6 E I (λbF a E=>?_) λbF a E=>?_
  ·
   refine RT 10 E I ?_;have ho:t.a<0∨(y.2.2.2.2.length:Int)≤t.a:=by omega
   rw[uQ (by assumption) gD hm,al ho];exact⟨rfl,bV.BR (adP:=adP) (cP:=cP) (adN:=some ⟨bD,on,none⟩) (cN:=cN) (adE:=adE) (cE:=cE) (net:=v.net) (ys:=ys) eL dp eN nL I.sub⟩
  refine IF 7 E I (λaz a E=>?_) λaz a E=>?_
  ·
   refine RT 2 E I ?_;have ho:t.a<0∨(y.2.2.2.2.length:Int)≤t.a:=by omega
   rw[uQ (by assumption) gD hm,al ho];exact⟨rfl,bV.BR (adP:=adP) (cP:=cP) (adN:=some ⟨bD,on,none⟩) (cN:=cN) (adE:=adE) (cE:=cE) (net:=v.net) (ys:=ys) eL dp eN nL I.sub⟩
  refine RN 1 E I λa E=>?_;have ho:¬ (t.a<0∨(y.2.2.2.2.length:Int)≤t.a):=by omega
  obtain⟨A,hA⟩:∃ A:Nat,t.a=A:=⟨t.a.toNat,by omega⟩;have BS:A<y.2.2.2.2.length:=by omega
  have Ah:=GO (I.pick (ah b7 ys)) hy;replace I:=I.bO 5 1 none;refine RN 2 E I λa E=>?_;refine gU E rfl I underlying22 Ty.t5 rfl rfl (by decide) (λh0=>Ah.get h0) (by rw[dB];omega) (ey _) (by omega) λnf k7 a w E I=>?_;rw[nil_append,Nat.zero_add]at I;rw[Nat.zero_add]at E;refine RN 2 E I λa E=>?_;have afa:=((I.pick (Sl 5 1 nf y.2.2.2.2.length k7 (bc y.2.2.2.2))).sl nf).2;obtain⟨bb,pre,post,⟨h3,h4,rfl,h6⟩,gx⟩:=(I.pick (Sl 5 1 nf y.2.2.2.2.length k7 (bc y.2.2.2.2))).lC (by omega);replace I:=gx;clear gx;have hb:(pre++bc y.2.2.2.2++post)[pre.length+A]?=some (.int .u8 (y.2.2.2.2[A].toNat:Int)):=by
   rw[dA,getElem?_append_right (by omega),show pre.length+A-pre.length=A from by omega,lX (by rw[dB];exact BS)];simp[bc,BS]
  refine aY 0 (λw0 V=>Rd V b3 0 (dV t)∧V.cell? ⟨bb,pre.length+A,none⟩=some (.int .u8 (y.2.2.2.2[A].toNat:Int))) [6,7,8] [0,1,5,3002,3,3004,1006,1007,1008,9,10,1011] E I λa w E I hH=>?_;have hC:=hH.at w ⟨I.ai (b:=b3),I.bz (b:=bb) hb⟩;refine RH 3 E I hH hC λa E=>?_;refine QH E (λw hc=>ae E (hc.1 1 _ rfl)) hC λa E=>?_;rw[hA]at E;refine RH 1 E I hH hC λa E=>?_;refine QH E (λw hc=>ae E (hc.2)) hC λa E=>?_;refine RH 0 E I hH hC λa E=>?_;refine SS E (ae E (hC.1 2 _ rfl)) λa E=>?_;refine RH 1 E I hH hC λa E=>?_;refine SS E (gj E underlying3 underlying5) λa E=>?_;rw[NY]at E;refine RH 2 E I hH hC λa E=>?_;refine ST 0 E I (λa w E I=>?_) (hlt:=(by simp only[aM,dB];omega));refine RN 0 E I λa E=>?_;rw[yG (by rw[dB];exact BS),Nc]at I;have NZ:=U.iL (n:=y.2.2.2.2.length) (c:=k7) (sz:=1) (I.jD bb) (by rw[dB,bu,Nat.mul_one]) h4 h6;replace I:=NZ;clear NZ;have o7:=((I.pick (Sl 60 3 (some ⟨bD,on,none⟩) v.net.length cN (rows b6 ys))).sl (some ⟨bD,on,none⟩)).2;obtain⟨iU,uY,N0,⟨nr,pY,vO,N1⟩,gx⟩:=(I.pick (Sl 60 3 (some ⟨bD,on,none⟩) v.net.length cN (rows b6 ys))).lC (by omega);replace I:=gx;clear gx;obtain⟨rfl,rfl⟩:bD=iU∧on=uY.length:=by simpa using vO
  refine aY 1 (λw0 V=>Rd V b3 0 (dV t)∧Rd V D.wb 0 [pt D.mb,.slice adP xs.length cP,.slice (some ⟨bD,uY.length,none⟩) v.net.length cN,.slice adE es.length cE]) [5] [0,1,2,4,6,3003,1005,7,8,1009] E I λa w E I hH=>?_;have hC:=hH.at w ⟨I.ai (b:=b3),I.ai (b:=D.wb)⟩;refine RH 5 E I hH hC λa E=>?_;refine QH E (λw hc=>ae E (hc.2 2 _ rfl)) hC λa E=>?_;refine RH 0 E I hH hC λa E=>?_;refine SS E (ae E (hC.1 3 _ rfl)) λa E=>?_;rw[gD]at E;refine RH 2 E I hH hC λa E=>?_;refine ST 0 E I (λa w E I=>?_) (hlt:=(by simp only[aM];omega));refine RT 2 E I ?_;rw[uQ (by assumption) gD hm,ag ho];refine⟨rfl,?_⟩;rw[hA,Int.toNat_natCast,bl,aF BS,Option.getD_some];obtain⟨qe,yT⟩:=a8.1 hy;obtain⟨Y,vu⟩:∃ Y:Mx,Y=(some ⟨bb,pre.length,none⟩,k7,(y.2.2.1,y.2.2.2.1,y.2.2.2.2.set A (y.2.2.2.2[A] ^^^ fV t.b))):=⟨_,rfl⟩;have e1:(rows b6 ys).set (j*3+2) (.slice (some ⟨bb,pre.length,none⟩) y.2.2.2.2.length k7)=rows b6 (ys.set j Y):=pX oz ys (i:=j) (k:=2) Y qe (by decide) (by rw[yT,vu];simp[b6,bu]);rw[Nat.add_assoc,yG (by rw[nr];omega),e1]at I;have h8:=U.iL (n:=v.net.length) (c:=cN) (sz:=3) (I.jD bD) (by rw[iY oz,bu,oM]) pY N1;have h9:=((h8.pick (ah b7 ys)).fv qe).tail;have Gu:Sl 5 1 (some ⟨bb,pre.length,none⟩) y.2.2.2.2.length k7 (bc (y.2.2.2.2.set A (y.2.2.2.2[A] ^^^ fV t.b)))=b7 Y:=by rw[vu,b7];simp only[bu]
  have fF:=(h9.pick (ah b7 (ys.eraseIdx j))).pick (Sl 5 1 (some ⟨bb,pre.length,none⟩) y.2.2.2.2.length k7 (bc (y.2.2.2.2.set A (y.2.2.2.2[A] ^^^ fV t.b))));rw[Gu]at fF;have mQ:=U.kG (f:=b7) qe fF;refine bV.BR (adP:=adP) (cP:=cP) (adN:=some ⟨bD,uY.length,none⟩) (cN:=cN) (adE:=adE) (cE:=cE) (ys:=ys.set j Y) eL dp eN (by rw[List.map_set,nL,vu]) ?_;rw[bu];exact mQ.sub
 refine RN 0 E I λa E=>?_;refine cc (M:=λa w=>∃ (ch:Option Addr) (cM:Nat) (zs:List Mx) (Z:SP),((zs.map (·.2.2)=(if t.fn=5 then v.net else v.net.eraseIdx j)∧(∀ V L',U W V (ah b7 zs::Z::L')→aQ V y.1 y.2.2.2.2.length y.2.2.2.2)∧y.2.2.2.2.length≤y.2.1)∧Fr a 103 [(0,pt D.wb),(3,pt b3),(5,pt b5)])∧U W w (aa b5 60 (b6 y)::aa b3 58 (dV t)::Sl 60 3 ch zs.length cM (rows b6 zs)::ah b7 zs::Z::aa D.wb 40 [pt D.mb,.slice adP xs.length cP,.slice ch zs.length cM,.slice adE es.length cE]::Sl 34 1 adP xs.length cP (xs.map dM)::ah (ds W p) xs::Sl 70 1 adE es.length cE (es.map bx)::ah fk es::L)) ?_ ?_
 ·
  refine IF 4 E I (λbh a E=>?_) λbh a E=>?_
  ·
   refine RN 0 E I λa E=>?_;have o7:=((I.pick (Sl 60 3 (some ⟨bD,on,none⟩) v.net.length cN (rows b6 ys))).sl (some ⟨bD,on,none⟩)).2;refine aY 0 (λw0 V=>Rd V b3 0 (dV t)∧Rd V D.wb 0 [pt D.mb,.slice adP xs.length cP,.slice (some ⟨bD,on,none⟩) v.net.length cN,.slice adE es.length cE]) [6,8,13,15,16,17] [0,1,2,3,5,7,10,11,12,14,3004,3006,3008,9,3013,1015,1016,1017,1018,19,20,1021] E I λa w E I hH=>?_;have hC:=hH.at w ⟨I.ai (b:=b3),I.ai (b:=D.wb)⟩;refine RH 10 E I hH hC λa E=>?_;refine QH E (λw hc=>ae E (hc.2 2 _ rfl)) hC λa E=>?_;refine QH E (λw hc=>ae E (hc.1 3 _ rfl)) hC λa E=>?_;rw[gD]at E;refine RH 0 E I hH hC λa E=>?_;refine QH E (λw hc=>ae E (hc.1 3 _ rfl)) hC λa E=>?_;rw[gD]at E;refine RH 1 E I hH hC λa E=>?_;refine QH E (λw hc=>ae E (hc.2 2 _ rfl)) hC λa E=>?_;refine RH 0 E I hH hC λa E=>?_;refine SS E (ae E (hC.1 3 _ rfl)) λa E=>?_;rw[gD]at E;refine RH 2 E I hH hC λa E=>?_;have acr:fm (some ⟨bD,on,none⟩) 0 j 3=some ⟨bD,on,none⟩:=by
    by_cases h0:j=0
    ·subst h0;rfl
    ·rw[oN h0,Nat.zero_mul,Nat.add_zero]
   have wA:rows b6 ys=rows b6 (ys.take j)++rows b6 (ys.drop j):=by rw[← ka,jE]
   have acs:rows b6 ys=rows b6 (ys.take (j+1))++rows b6 (ys.drop (j+1)):=by rw[← ka,jE]
   have dk:Rd w bD (on+(j+1)*3) (rows b6 (ys.drop (j+1))):=by
    have h1:Rd w bD on (rows b6 ys):=I.cK bD on (by omega);have h2:=h1.part ((j+1)*3) ((ys.length-(j+1))*3);rw[acs,List.drop_left' (by rw[iY oz,ez];omega),fY (by rw[iY oz,c8];omega)]at h2;exact h2
   obtain⟨iU,uY,N0,⟨nr,pY,vO,N1⟩,gx⟩:=(I.pick (Sl 60 3 (some ⟨bD,on,none⟩) v.net.length cN (rows b6 ys))).lC (by omega);obtain⟨rfl,rfl⟩:bD=iU∧on=uY.length:=by simpa using vO
   rw[wA,← dA uY,dA _ _ N0]at gx;replace I:=U.iL (n:=j) (c:=j) (sz:=3) gx (by rw[iY oz,ez];omega) (bk _) (by omega);clear gx;rw[acr]at E;refine gU E rfl I underlying37 Ty.t60 rfl rfl (by decide) (λh0=>⟨bD,uY.length+(j+1)*3,oN (by omega),dk⟩) (by rw[iY oz,c8];omega) (y8 YF _) (by omega) λacu c86 a w E I=>?_;rw[← ka,← eraseIdx_eq_take_drop_succ]at I;have rI:j+(v.net.length-(j+1))=(ys.eraseIdx j).length:=by rw[List.length_eraseIdx_of_lt (by omega)];omega
   rw[rI]at I E;refine ST 2 E I (λa w E I=>?_);refine RN 0 E I λa E=>?_;obtain⟨qe,yT⟩:=a8.1 hy;have h1:=(I.pick (ah b7 ys)).fv qe;rw[yT]at h1;have oA:y.2.2.2.2.length≤y.2.1:=(U.sl (L:=b7 y::_) (k:=(fL.head:fL (Sl 5 1 y.1 y.2.2.2.2.length y.2.1 (bc y.2.2.2.2)::_) y.1 _ _ _ _ _ _)) h1 y.1).2;refine⟨acu,c86,ys.eraseIdx j,b7 y,⟨⟨?_,λV L' h=>?_,oA⟩,E.ab [0,3,5]⟩,h1.sub⟩
   ·rw[ag (by omega),← nL];simp only[eraseIdx_eq_take_drop_succ,cX,map_take,map_drop]
   ·have h2:=h.pick (b7 y);exact U.cu (L:=b7 y::_) h2 _ _ (k:=(fL.head:fL (Sl 5 1 y.1 y.2.2.2.2.length y.2.1 (bc y.2.2.2.2)::_) y.1 _ _ _ _ _ _)) rfl rfl
  refine RN 0 E I λa E=>?_;obtain⟨qe,yT⟩:=a8.1 hy;have oA:y.2.2.2.2.length≤y.2.1:=by
   have h1:=(I.pick (ah b7 ys)).fv qe;rw[yT]at h1;exact (U.sl (L:=b7 y::_) (k:=(fL.head:fL (Sl 5 1 y.1 y.2.2.2.2.length y.2.1 (bc y.2.2.2.2)::_) y.1 _ _ _ _ _ _)) h1 y.1).2
  refine⟨some ⟨bD,on,none⟩,cN,ys,Sl 5 1 none 0 0 [],⟨⟨by rw[al (by omega)];exact nL,λV L' h=>GO h hy,oA⟩,E.ab [0,3,5]⟩,?_⟩;rw[oM];exact (I.bO 5 1 none).sub
 clear E;(try clear I);rintro a w ⟨ch,cM,zs,Z,⟨⟨qt,acv,oA⟩,E⟩,I⟩;refine IF 5 E I (λbQ a E=>?_) λbQ a E=>?_
 ·
  refine RT 2 E I ?_;have iW:zs.length=(v.net.eraseIdx j).length:=by rw[← bg (f:=(·.2.2)),qt,ag (by omega)]
  rw[GA (by assumption) gD hm];rw[ag (by omega)]at qt;refine⟨rfl,?_⟩;refine bV.BR (adP:=adP) (cP:=cP) (adN:=ch) (cN:=cM) (adE:=adE) (cE:=cE) (ys:=zs) eL dp eN qt ?_;rw[← iW];exact I.sub
 refine RN 1 E I λa E=>?_;obtain⟨x,hx⟩:∃ x,xs[y.2.2.2.1]?=some (x,an v y.2.2.2.1):=BM dp (by omega);have tf:(xs.map dM)[y.2.2.2.1]?=some (pt x.pb):=by rw[bn,hx];rfl
 obtain⟨bp,op,rfl,_⟩:=(I.pick (Sl 34 1 adP xs.length cP (xs.map dM))).bW adP (by omega);refine aY 0 (λw0 V=>(Rd V b5 0 (b6 y)∧Rd V D.wb 0 [pt D.mb,.slice (some ⟨bp,op,none⟩) xs.length cP,.slice ch zs.length cM,.slice adE es.length cE])∧Rd V bp op (xs.map dM)) [5,9] [0,1,2,4,8,3003,3005,6,3007,1009,1010,11] E I λa w E I hH=>?_;have hC:=hH.at w ⟨⟨I.ai (b:=b5),I.ai (b:=D.wb)⟩,I.cK bp op (by omega)⟩;refine RH 5 E I hH hC λa E=>?_;refine QH E (λw hc=>ae E (hc.1.2 1 _ rfl)) hC λa E=>?_;refine QH E (λw hc=>ae E (hc.1.1 1 _ rfl)) hC λa E=>?_;refine RH 1 E I hH hC λa E=>?_;refine QH E (λw hc=>ae E (hc.2 _ _ tf)) hC λa E=>?_;refine RH 0 E I hH hC λa E=>?_;refine SS E (ae E (hC.1.1 2 _ rfl)) λa E=>?_;replace I:=BN (I.pick (ah (ds W p) xs)) hx;refine RH 0 E I hH hC λa E=>?_;refine CL 0 E I (aaO (bs:=y.2.2.2.2) (I.pick (bZ W x p (an v y.2.2.2.1))) hw a7 aC (by omega) oA (λV cJ=>acv V _ ((cJ.pick Z).pick (ah b7 zs)))) λa w E I=>?_;refine RN 1 E I λa E=>?_;refine RT 0 E I ?_;rw[BE (by omega) (by omega) gD hm];refine⟨rfl,?_⟩;have iW:zs.length=(if t.fn=5 then v.net else v.net.eraseIdx j).length:=by rw[← bg (f:=(·.2.2)),qt]
 have h1:=ct.close ((I.pick (ah b7 zs)).pick (Sl 60 3 ch zs.length cM (rows b6 zs))) qt iW.symm;refine bV.put (adP:=some ⟨bp,op,none⟩) (cP:=cP) (adN:=ch) (cN:=cM) (adE:=adE) (cE:=cE) eL dp eN hx (if t.fn=5 then v.net else v.net.eraseIdx j) ?_;rw[← iW];exact h1.sub
end
end
section
section
variable {W w:World}{L:List SP}{c:Nat}{p:Pr}{v:Wd}{D:nK}{t:ft}{cf:Cf}
theorem acw (I:U W w (bV W D p v::L))(hv:bB p cf c v)(a7:db p)(aC:p.title.size≤1000000000)(hf:t.fn=3∨t.fn=4∨t.fn=5∨t.fn=6) :
   Calls prog 70 #[pt D.wb,.agg (dV t).toArray] w λe V=>e=.returned (.int .i64 (gg p t v).1)∧U W V (bV W D p (gg p t v).2::L):=by
 by_cases h0:t.n<0∨(v.net.length:Int)≤t.n
 ·rw[NA h0];exact acp I h0
 ·exact acq (j:=t.n.toNat) I hv a7 aC hf (by omega) (aF (by omega))
theorem acx (I:U W w (bV W D p v::L))(hv:bB p cf c v)(a7:db p)(aC:p.title.size≤1000000000)(hf:3≤t.fn∧t.fn≤6) :
   Calls prog 50 #[pt D.wb,.agg (dV t).toArray] w λe V=>e=.returned (.int .i64 (bt p t v).1)∧U W V (bV W D p (bt p t v).2::L):=by
 have aT:bt p t v=gg p t v:=by rw[bt,ag (by omega),al hf]
 rw[aT];refine EN func50 ntmps50 rfl rfl λa E=>?_;refine BX 1 E I λb3 a w E I=>?_;change U W w (aa b3 58 (dV t)::_) at I;refine RN 7 E I λa E=>?_;rw[bq (by omega)]at E;refine RN 4 E I λa E=>?_;rw[bq (by omega)]at E;refine RN 7 E I λa E=>?_;rw[dq (by omega)]at E;refine RN 4 E I λa E=>?_;rw[dq (by omega)]at E;refine CL 4 E I (acw (I.pick (bV W D p v)) hv a7 aC (by omega)) λa w E I=>?_;refine RT 1 E I ?_;exact⟨rfl,I.sub⟩
theorem acy (I:U W w (bV W D p v::L))(hv:bB p cf c v)(a7:db p)(aC:p.title.size≤1000000000)(hc:c≤1000000) :
   Calls prog 50 #[pt D.wb,.agg (dV t).toArray] w λe V=>e=.returned (.int .i64 (bt p t v).1)∧U W V (bV W D p (bt p t v).2::L):=by
 by_cases hf:3≤t.fn∧t.fn≤6
 ·exact acx I hv a7 aC hf
 ·exact aco I hv a7 aC hc hf
end
end
section
section
variable {W w:World}{L:List SP}{c i:Nat}{p:Pr}{v:Wd}{B:jr}
theorem acz (I:U W w (aU W B p c v::L))(hi:i<v.ps.length)(rI:v.ev.length=v.ps.length)(hl:(v.ev.getD i []).length≤1000000000) :
   Calls prog 34 #[pt B.mb,.int .i64 i] w λe V=>∃ ad c',e=.returned (.slice ad (v.ev.getD i []).length c')∧U W V (Sl 135 1 ad (v.ev.getD i []).length c' ((v.ev.getD i []).map cz)::aU W B p c v::L):=by
 replace I:=aU.wJ I;obtain⟨adL,cL,adE,cE,xs,es,⟨h1,h2,h3⟩,I⟩:=I;have b0:xs.length=v.ps.length:=by rw[← h2,bg]
 have acA:es.length=v.ps.length:=by rw[← rI,← h3,bg]
 obtain⟨iq,iu,l,k8⟩:∃ iq iu l,es[i]?=some (iq,iu,l):=⟨_,_,_,aF (by omega)⟩;obtain⟨wM,oK⟩:=a8.1 k8;have qk:v.ev.getD i []=l:=by rw[← h3,bl,bn,k8];rfl
 rw[qk]at hl ⊢;refine EN func34 ntmps34 rfl rfl λa E=>?_;refine CL 6 E I (rH ((I.pick (Sl 81 1 adL xs.length cL (xs.map cC))).pick (aa B.mb 107 [.slice adL xs.length cL,pt B.q,.slice adE es.length cE])) (by omega)) λa w E I=>?_;refine RN 1 E I λa E=>?_;replace E:=E.aK 8;refine RN 2 E I λa E=>?_;obtain⟨iI,oE,rfl,hS⟩:=(I.pick (Sl 90 1 adE es.length cE (es.map bx))).bW adE (by omega);have lJ:=hS i (.slice iq l.length iu) (by rw[bn,k8];rfl);refine RN 6 E I λa E=>?_;refine SS E (ae E (lJ)) λa E=>?_;replace I:=(I.pick (ah eE es)).fv wM;rw[oK]at I;change U W w (Sl 135 1 iq l.length iu (l.map cz)::_) at I;refine a6 0 E I (Nv I hl) λad2 c2 a w E I=>?_;refine RT 1 E I ?_;refine⟨ad2,c2,rfl,?_⟩;have h4:=(I.pick (ah eE (es.eraseIdx i))).pick (Sl 135 1 iq l.length iu (l.map cz));have h5:U W w (ah eE es::_):=U.wG (f:=eE) wM (by rw[oK];exact h4);have h6:U W w (aU W B p c v::Sl 135 1 ad2 l.length c2 (l.map cz)::L):=aU.uR (adL:=adL) (cL:=cL) (adE:=some ⟨iI,oE,none⟩) (cE:=cE) (xs:=xs) (es:=es) h5.sub h1 h2 h3;exact h6.sub
end
end
section
def pL (v:Wd):Prop:=∀ i,i<v.ps.length→(an v i).k.ev=[]
theorem acB {v:Wd}{i:Nat}(hi:i<v.ps.length)(hl:v.ev.length=v.ps.length)(h:(an v i).k.ev=[]):s9 i v=v:=by
 have h1:(⟨{ (an v i).k with ev:=[] },(an v i).g⟩:Pl)=v.ps[i]:=by
  rw[show ({ (an v i).k with ev:=[] }:Ks)=(an v i).k from by rw[← h]];show an v i=_;rw[an,bl,aF hi];rfl
 have h2:v.ev.getD i []++(an v i).k.ev=v.ev[i]'(by omega):=by
  rw[h,append_nil,bl,aF (by omega)];rfl
 rw[s9,h1,h2,set_getElem_self,set_getElem_self]
theorem N2 {v:Wd}(hl:v.ev.length=v.ps.length)(h:pL v):∀ i,i≤v.ps.length→cj v i=v
 | 0,_=>rfl
 | i+1,hi=>by
  show s9 i (cj v i)=v;rw[N2 hl h i (by omega)];exact acB (by omega) hl (h i (by omega))
theorem N3 {v:Wd}(hl:v.ev.length=v.ps.length)(h:pL v):kA v=v:=N2 hl h _ (bk _)
theorem N4 (v:Wd):pL (kA v):=λi hi=>by
 have h1:i<v.ps.length:=by rw[kA,(qx v _).1]at hi;exact hi
 rw[kA,yF v (bk _),al h1]
theorem acC {p:Pr}{t:ft}{v:Wd}(h:t.fn=7):(bt p t v).2=v:=by
 rw[bt,ag (by omega),ag (by omega),fW];split
 ·rfl
 ·rw[ag (by omega),ag (by omega),ag (by omega)]
theorem acD {p:Pr}{t:ft}{v:Wd}(h:pL v):pL (dz p t v):=by
 unfold dz;split
 ·exact h
 ·exact N4 _
section
variable {W w:World}{L:List SP}{c i:Nat}{p:Pr}{v:Wd}{B:jr}{D:nK}{t:ft}{cf:Cf}
theorem N5 {mb:Nat}(hmb:mb=B.mb)(I:U W w (aU W B p c v::L))(hB:B.Ok p (c+10))(hv:bB p cf c v)(jR:9*c+100≤1000000000) :
   Calls prog 29 #[pt mb,.agg (dV t).toArray] w λe V=>∃ z:Int,e=.returned (.int .i64 z)∧(t.fn≠7→z=(bt p t v).1)∧(t.fn=7→BG B t v z)∧U W V (aU W B p (c+10) (kA (bt p t v).2)::L):=by
 subst hmb;exact NC I hB hv jR
set_option maxHeartbeats 2000000 in
theorem acE (I:U W w (aU W B p c v::bV W D p v::L))(wN:D.mb=B.mb)(hB:B.Ok p (c+10))(hv:bB p cf c v)(BT:pL v)(jR:9*c+100≤1000000000)
   (N6:∀ (w:World) (u:Wd),bB p cf (c+10) u→pL u→U W w (aU W B p (c+10) u::bV W D p u::L)→Calls prog 33 #[pt D.wb] w λe V=>e=.returned (.bool true)∧U W V (aU W B p (c+10) u::bV W D p u::L)) :
   Calls prog 32 #[pt D.wb,.agg (dV t).toArray] w λe V=>e=.returned (.bool true)∧U W V (aU W B p (c+10) (dz p t v)::bV W D p (dz p t v)::L):=by
 have mo:=hB.c;have hu:=hv.step (s:=t);refine EN func32 ntmps32 rfl rfl λa E=>?_;refine BX 1 E I λb3 a w E I=>?_;change U W w (aa b3 58 (dV t)::_) at I;refine IF 6 E I (λaj a E=>?_) λaj a E=>?_
 ·
  refine RN 1 E I λa E=>?_;replace I:=bV.open (I.pick (bV W D p v));obtain⟨adP,cP,adN,cN,adE,cE,xs,es,⟨eL,dp,eN⟩,I⟩:=I;refine bS 0 [4] [0,1,2,3003,1004,1005] E I λa w E I hH hC=>?_;refine RH 5 E I hH hC λa E=>?_;refine aR 0 E I (N5 wN (I.pick (aU W B p c v)) hB hv jR) λz a w E ⟨_,_,I⟩=>?_;refine RN 1 E I λa E=>?_;rw[acC (by assumption),N3 hv.ev BT]at I;replace I:=bV.close (v:=v) (D:=D) (I.sub (M:=aa D.wb 40 [pt D.mb,.slice adP xs.length cP,.slice adN v.net.length cN,.slice adE es.length cE]::Sl 34 1 adP xs.length cP (xs.map dM)::ah (ds W p) xs::ct 60 adN v.net.length cN v.net::Sl 70 1 adE es.length cE (es.map bx)::ah fk es::aU W B p (c+10) v::L)) eL dp eN;refine CL 1 E I (N6 _ v (hv.more (by omega)) BT (I.pick (aU W B p (c+10) v))) λa w E I=>?_;refine RT 1 E I ?_;rw[dz,al (by assumption)];exact⟨rfl,I⟩
 refine CL 3 E I (acy (I.pick (bV W D p v)) hv hB.pr hB.sz (by omega)) λa w E I=>?_;refine RN 3 E I λa E=>?_;generalize N7:(bt p t v).2=u at I hu;replace I:=bV.open (I.pick (bV W D p u));obtain⟨adP,cP,adN,cN,adE,cE,yN,yO,⟨eL,dp,eN⟩,I⟩:=I;have b0:yN.length=u.ps.length:=by rw[← dp,bg]
 have rI:yO.length=u.ps.length:=by rw[← hu.ev,← eN,bg]
 have wy:=hu.len;refine bS 0 [4] [0,1,2,6,3003,1004,1005,7] E I λa w E I hH hC=>?_;refine RH 6 E I hH hC λa E=>?_;refine aR 0 E I (N5 wN (I.pick (aU W B p c v)) hB hv jR) λz a w E ⟨cW,_,I⟩=>?_;rw[cW (by assumption)]at E;rw[N7]at I;refine RN 1 E I λa E=>?_;rw[bq (by simp)]at E;refine RN 4 E I λa E=>?_;refine aP (λμ a w=>∃ (i:Nat) (xs:List (fU×Pl)) (es:List j4),(μ=u.ps.length-i∧(i≤u.ps.length∧xs.length=u.ps.length∧es.length=u.ps.length)∧xs.map (·.1)=D.mG∧xs.map (·.2)=(cj u i).ps∧es.map (·.2.2)=(cj u i).ev)∧Fr a 65 [(0,pt D.wb),(6,.int .i64 i)]∧U W w (aa D.wb 40 [pt D.mb,.slice adP u.ps.length cP,.slice adN u.net.length cN,.slice adE u.ps.length cE]::Sl 34 1 adP u.ps.length cP (xs.map dM)::ah (ds W p) xs::ct 60 adN u.net.length cN u.net::Sl 70 1 adE u.ps.length cE (es.map bx)::ah fk es::aU W B p (c+10) (kA u)::L)) (u.ps.length) (⟨0,yN,yO,⟨rfl,⟨by omega,b0,rI⟩,eL,dp,eN⟩,E.ab [0,6],(by rw[b0,rI]at I;exact I.sub)⟩) ?_;clear E I;rintro μ a w ⟨i,xs,es,⟨rfl,⟨hi,yP,yQ⟩,ud,sK,qj⟩,E,I⟩;refine IF 9 E I (λaz a E=>?_) λaz a E=>?_
 ·
  have aG:i<u.ps.length:=by omega
  obtain⟨x,hx⟩:∃ x,xs[i]?=some (x,(an (cj u i) i)):=BM sK (by omega);have tf:(xs.map dM)[i]?=some (pt x.pb):=by rw[bn,hx];rfl
  have hd:=hu.cj (i:=i) (by omega);obtain⟨hw,cw,wI⟩:=hd.pl i (by rw[(qx u i).1];exact aG);have GD:=hd.kx;have ND:=hw.wc.kx;obtain⟨iq,iu,l,k8⟩:∃ iq iu l,es[i]?=some (iq,iu,l):=⟨_,_,_,aF (by omega)⟩;obtain⟨_,oK⟩:=a8.1 k8;have gW:l.length≤9*(c+2):=(GD l (by rw[← qj];exact c0.2 ⟨(iq,iu,l),by rw[← oK];exact getElem_mem _,rfl⟩)).1;refine RN 1 E I λa E=>?_;obtain⟨bp,op,rfl,_⟩:=(I.pick (Sl 34 1 adP u.ps.length cP (xs.map dM))).bW adP (by omega);obtain⟨iI,oE,rfl,_⟩:=(I.pick (Sl 70 1 adE u.ps.length cE (es.map bx))).bW adE (by omega);replace I:=bZ.open (BN (I.pick (ah (ds W p) xs)) hx);refine aY 0 (λw0 V=>(Rd V D.wb 0 [pt D.mb,.slice (some ⟨bp,op,none⟩) u.ps.length cP,.slice adN u.net.length cN,.slice (some ⟨iI,oE,none⟩) u.ps.length cE]∧Rd V iI oE (es.map bx))∧Rd V bp op (xs.map dM)∧Rd V x.pb 0 (eV p x (an (cj u i) i).g)) [8,10,11,15,17,18,19,20,21,22,23] [0,1,2,4,5,6,7,9,12,13,14,16,3003,3008,3010,3011,1015,1017,1018,1019,1020,1021,1022,1023,24,1025] E I λa w E I hH=>?_;have hC:=hH.at w ⟨⟨I.ai (b:=D.wb),I.cK iI oE (by omega)⟩,I.cK bp op (by omega),I.ai (b:=x.pb)⟩;refine RH 12 E I hH hC λa E=>?_;refine QH E (λw hc=>ae E (hc.1.1 3 _ rfl)) hC λa E=>?_;refine QH E (λw hc=>ae E (hc.1.1 3 _ rfl)) hC λa E=>?_;refine RH 1 E I hH hC λa E=>?_;refine QH E (λw hc=>ae E (hc.1.2 i (.slice iq l.length iu) (by rw[bn,k8];rfl))) hC λa E=>?_;refine RH 0 E I hH hC λa E=>?_;refine SS E (ae E (hC.1.1 1 _ rfl)) λa E=>?_;refine RH 1 E I hH hC λa E=>?_;refine SS E (ae E (hC.2.1 i _ tf)) λa E=>?_;refine RH 2 E I hH hC λa E=>?_;refine SS E (ae E (hC.2.2 0 _ rfl)) λa E=>?_;refine RH 0 E I hH hC λa E=>?_;refine a6 0 E I (aap (I.pick (a1 x.core (an (cj u i) i).k))) λam js a w E I=>?_;replace hC:=hH.at w ⟨⟨I.ai (b:=D.wb),I.cK iI oE (by omega)⟩,I.cK bp op (by omega),I.ai (b:=x.pb)⟩;replace I:=(I.pick (ah fk es)).fv (i:=i) (by omega);rw[oK]at I;change U W w (Sl 102 3 iq l.length iu (rows bU l)::_) at I;refine RH 0 E I hH hC λa E=>?_;refine gU E rfl I underlying70 Ty.t102 rfl rfl (by decide) (λh0=>(I.pick (Sl 102 3 am (an (cj u i) i).k.ev.length js (rows bU (an (cj u i) i).k.ev))).bW am h0) (by rw[iY AI]) (y8 E3 _) (by omega) λwO wP a w E I=>?_;replace hC:=hH.at w ⟨⟨I.ai (b:=D.wb),I.cK iI oE (by omega)⟩,I.cK bp op (by omega),I.ai (b:=x.pb)⟩;have hcE:=((I.pick (Sl 70 1 (some ⟨iI,oE,none⟩) u.ps.length cE (es.map bx))).sl (some ⟨iI,oE,none⟩)).2;obtain⟨iU,pre,post,⟨h3,h4,h5,h6⟩,gx⟩:=(I.pick (Sl 70 1 (some ⟨iI,oE,none⟩) u.ps.length cE (es.map bx))).lC (by omega);replace I:=gx;clear gx;obtain⟨rfl,rfl⟩:iI=iU∧oE=pre.length:=by simpa using h5
  refine RH 1 E I hH hC λa E=>?_;refine ST 0 E I (λa w E I=>?_) (hlt:=(by simp only[aM,bg];omega));refine RN 3 E I λa E=>?_;have qk:(cj u i).ev.getD i []=l:=by rw[← qj,bl,bn,k8];rfl
  have GF:(es.map bx).set i (.slice wO (l.length+(an (cj u i) i).k.ev.length) wP)=(es.set i (wO,wP,l++(an (cj u i) i).k.ev)).map bx:=by
   rw[List.map_set,bx,aM]
  have c6:=I;rw[yG (by rw[bg];omega),GF]at c6;replace c6:=U.iL (n:=u.ps.length) (c:=cE) (sz:=1) (c6.jD iI) (by rw[bg,bu];omega) h4 h6;have yH:=bZ.fold c6 x p ⟨{ (an (cj u i) i).k with ev:=[] },(an (cj u i) i).g⟩;have hk:=U.kG (f:=ds W p) (x:=(x,⟨{ (an (cj u i) i).k with ev:=[] },(an (cj u i) i).g⟩)) (i:=i) (by omega) ((yH.pick (ah (ds W p) (xs.eraseIdx i))).pick (bZ W x p ⟨{ (an (cj u i) i).k with ev:=[] },(an (cj u i) i).g⟩));have pA:Sl 102 3 wO (l.length+(an (cj u i) i).k.ev.length) wP (rows bU l++rows bU (an (cj u i) i).k.ev)=fk (wO,wP,l++(an (cj u i) i).k.ev):=by
   rw[fk,aM,ka]
  have hq:=(hk.pick (ah fk (es.eraseIdx i))).pick (Sl 102 3 wO (l.length+(an (cj u i) i).k.ev.length) wP (rows bU l++rows bU (an (cj u i) i).k.ev));rw[pA]at hq;have eQ:=U.kG (f:=fk) (i:=i) (by omega) hq;refine⟨u.ps.length-(i+1),by omega,i+1,xs.set i (x,⟨{ (an (cj u i) i).k with ev:=[] },(an (cj u i) i).g⟩),es.set i (wO,wP,l++(an (cj u i) i).k.ev),⟨rfl,⟨by omega,by rw[bu];exact yP,by rw[bu];exact yQ⟩,(BQ hx).2.trans ud,?_,?_⟩,E.ab [0,6],?_⟩
  ·rw[List.map_set,sK];rfl
  ·rw[List.map_set,qj,← qk];rfl
  ·rw[(BQ hx).1];exact eQ.sub
 refine RN 1 E I λa E=>?_;obtain rfl:i=u.ps.length:=by omega
 have eJ:dz p t v=kA u:=by rw[dz,ag (by assumption),N7]
 rw[eJ];have hD:U W w (bV W D p (kA u)::aU W B p (c+10) (kA u)::L):=by
  refine bV.close (adP:=adP) (cP:=cP) (adN:=adN) (cN:=cN) (adE:=adE) (cE:=cE) (xs:=xs) (es:=es) ?_ ud sK qj;rw[yP,yQ,show (kA u).net=u.net from (qx u _).2.1];exact I.sub
 replace I:=hD.pick (aU W B p (c+10) (kA u));refine CL 1 E I (N6 _ (kA u) (hu.drain.more (by omega)) (N4 u) I) λa w E I=>?_;refine RT 1 E I ?_;exact⟨rfl,I⟩
end
end
end Go.Proofs.YteoldcfapaiobaaGreat
