/- A match that begins, plainly; and matches that go on: nobody quits, nobody is late. -/
import Derived.Test.YteoldcfapaiobaaGreatB16Hon
import Derived.Test.YteoldcfapaiobaaGreatB15MulN
import Derived.Test.YteoldcfapaiobaaGreatB13RefC
import Derived.Test.YteoldcfapaiobaaGreatB14RefG
import Derived.Test.YteoldcfapaiobaaGreatRows
import Derived.KernelRfl
import Derived.JoinedOf
namespace Go.Proofs.YteoldcfapaiobaaGreat
open List (mem_cons_self length_range nil_append map_cons length_nil getElem?_range take_length append_nil getElem_mem mem_singleton range_succ length_filter_le map_replicate)
open Go.RowKit
set_option linter.unusedVariables false
set_option linter.unusedSimpArgs false
set_option maxRecDepth 10000
set_option synthInstance.maxSize 4000
set_option synthInstance.maxHeartbeats 400000
section
section
variable {p:Pr}{cf:Cf}{K:Int→Prop}{G G':List (List UInt8)}{v:Wd}{c i j x y:Nat}{n:Nat}{T:Nat→Nat}{net:List Ml}{ev:List (List jZ)}{m:Ml}{q:Pk}{b:UInt8}
theorem uZ (hi:i<n):an (gE p cf n) i=eD p (cV cf i):=by
 rw[an,gE,bl,bn,getElem?_range hi];rfl
theorem u0:(gE p cf n).ps.length=n:=by rw[gE,bg,length_range]
theorem tg (h:eO cf)(hi:i<cf.n.toNat):eO (cV cf i):=by
 obtain⟨⟨h1,h2,h3⟩,h4⟩:=h;refine⟨⟨h1,?_,h3⟩,h4⟩;show dE (i:Int) 0 (cf.n-1);unfold dE at h1 ⊢;omega
theorem GP (h:eO cf):bB p cf 0 (gE p cf cf.n.toNat):=by
 refine⟨h,u0,?_,λi hi=>?_,⟨Nat.zero_le _,λm hm=>by cases hm⟩,λe he=>?_⟩
 ·rw[u0];exact ke
 ·rw[u0]at hi;rw[uZ hi];have h1:=tg h hi;obtain⟨mr,h2⟩:=uU p h1;refine⟨cv.new h1,?_,by rw[h2];exact bk _⟩;rw[h2];exact (WC.new h1).2.2
 ·have h1:=List.eq_of_mem_replicate (show e∈List.replicate _ [] from he);subst h1;exact⟨Nat.zero_le _,λx hx=>by cases hx⟩
theorem N8 (h:eO cf):pL (gE p cf cf.n.toNat):=λi hi=>by
 rw[u0]at hi;rw[uZ hi];obtain⟨mr,h2⟩:=uU p (tg h hi);rw[h2];rfl
theorem BU (h:eO cf)(hi:i<cf.n.toNat)(hj:j<cf.n.toNat):bH (gE p cf cf.n.toNat) i j=cf.aE.toNat:=by
 rw[bH,uZ hi];obtain⟨mr,h2⟩:=uU p (tg h hi);rw[h2];show ((List.replicate cf.n.toNat (List.replicate cf.aE.toNat (0:UInt8))).getD j []).length=_;rw[bl,List.getElem?_replicate,al hj];exact ke
theorem N9 (h:eO cf)(hi:i<cf.n.toNat)(hj:j<cf.n.toNat):ar (eD p (cV cf i)).k j=fy cf.aE.toNat:=by
 obtain⟨mr,h2⟩:=uU p (tg h hi);rw[h2,ar,bl];show ((List.replicate cf.n.toNat (fy cf.aE.toNat))[j]?).getD _=_;rw[List.getElem?_replicate,al hj];rfl
theorem dh.new (h:eO cf):dh p cf K (List.replicate cf.n.toNat (List.replicate cf.aE.toNat 0)) (gE p cf cf.n.toNat):=by
 have hl:=u0 (p:=p) (cf:=cf) (n:=cf.n.toNat);refine⟨λi hi=>?_,λa b E hb BK=>?_,λi hi=>?_,λm hm=>(by cases hm),λl hl e he=>?_,λi hi=>?_⟩
 ·rw[hl]at hi;rw[uZ hi];have h1:=tg h hi;obtain⟨mr,h2⟩:=uU p h1;refine⟨cv.new h1,by rw[h2];exact Ext.refl _,by rw[h2];rfl,λj hj=>?_⟩;have la:j<cf.n.toNat:=by
   rw[h2]at hj;have:j<(List.replicate cf.n.toNat (fy cf.aE.toNat)).length:=hj
   rwa [ke]at this
  rw[N9 h hi la];exact⟨rfl,Nat.zero_le _,λh=>absurd h (by show ¬ 0<0;omega)⟩
 ·rw[hl]at E hb;rw[BU h hb E,BU h E hb,pJ,uZ E,N9 h E hb];exact⟨bk _,Nat.le_add_right _ _⟩
 ·rw[hl]at hi;rw[BU h hi hi];have h1:cf.aE.toNat≤aw (an (gE p cf cf.n.toNat) i).k:=by
   rw[uZ hi];obtain⟨mr,h2⟩:=uU p (tg h hi);rw[h2];have hc:=(WC.new (tg h hi)).1;refine EO hc.k0 λl hl=>?_;have:=List.eq_of_mem_replicate (show l∈List.replicate cf.n.toNat (List.replicate cf.aE.toNat (0:UInt8)) from hl);rw[this,ke];exact bk _
  omega
 ·have h1:=List.eq_of_mem_replicate (show l∈List.replicate _ [] from hl);subst h1;cases he
 ·rw[N8 h i hi] ;intro e he;cases he
structure Lv (p:Pr)(cf:Cf)(T:Nat→Nat)(v:Wd):Prop where
 ok:∃ c,bB p cf c v
 lB:∃ G,dh p cf (·=1) G v
 op:∀ i,i<v.ps.length→(an v i).k.cl=false∧(an v i).k.now≤T i∧(an v i).k.ev=[]
 ev:∀ l∈v.ev,l=[]
theorem Lv.calm (h:Lv p cf T v):pL v:=λi hi=>(h.op i hi).2.2
theorem Lv.still (h:Lv p cf T v):kA v=v:=by
 obtain⟨c,hv⟩:=h.ok;exact N3 hv.ev h.calm
theorem Lv.new (h:eO cf):Lv p cf (λ_=>0) (gE p cf cf.n.toNat):=⟨⟨0,GP h⟩,⟨_,dh.new h⟩,λi hi=>by
 rw[u0]at hi;rw[uZ hi];obtain⟨mr,h2⟩:=uU p (tg h hi);rw[h2];exact⟨rfl,bk _,rfl⟩,λl hl=>List.eq_of_mem_replicate (show l∈List.replicate _ [] from hl)⟩
theorem Lv.acF (h:Lv p cf T v)(hi:i<v.ps.length)(hj:j<v.ps.length):aw (an v i).k≤bH v i j:=by
 obtain⟨c,hv⟩:=h.ok;exact vV (ui (by rw[(hv.pl i hi).1.wc.ls,hv.ta hi];exact hj))
theorem Lv.acG (h:Lv p cf T v)(hi:i<v.ps.length)(hx:∀ j,j<v.ps.length→x≤bH v i j):x≤aw (an v i).k:=by
 obtain⟨c,hv⟩:=h.ok;refine EO (hv.pl i hi).1.wc.k0 λl hl=>?_;obtain⟨j,hj,rfl⟩:=List.getElem_of_mem hl;rw[(hv.pl i hi).1.wc.ls,hv.ta hi]at hj;have:=hx j hj;rw[bH,bl,aF (by rw[(hv.pl i hi).1.wc.ls,hv.ta hi];exact hj)]at this;exact this
theorem Lv.front {h:Nat}(q8:Lv p cf T v)(hi:i<v.ps.length)(hx:∀ j,j<v.ps.length→h≤bH v i j)(hy:j<v.ps.length)(he:bH v i j=h):aw (an v i).k=h :=
 Nat.le_antisymm (he ▸ q8.acF hi hy) (q8.acG hi hx)
theorem Lv.head (h:Lv p cf T v)(hi:i<v.ps.length):aI (an v i).k=bH v i i:=by
 obtain⟨c,hv⟩:=h.ok;rw[aI,(hv.pK hi).1];rfl
theorem Lv.ak (h:Lv p cf T v)(hi:i<v.ps.length)(b n:Int):Lv p cf T (dz p ⟨1,i,b,n⟩ v)∧(dz p ⟨1,i,b,n⟩ v).net=v.net∧(dz p ⟨1,i,b,n⟩ v).ps.length=v.ps.length ∧
   (∀ x y,bH (dz p ⟨1,i,b,n⟩ v) x y=bH v x y+if (x=i∧y=i)∧bH v i i<1000∧bH v i i<cf.bm.toNat+aw (an v i).k then 1 else 0) ∧
   (bH v i i<1000∧bH v i i<cf.bm.toNat+aw (an v i).k→(bt p ⟨1,i,b,n⟩ v).1=0):=by
 obtain⟨c,hv⟩:=h.ok;obtain⟨G,kB⟩:=h.lB;obtain⟨ej,uT,bT,hn,_⟩:=hv.pK hi;have aT:bt p ⟨1,i,b,n⟩ v=((dH p (fV b) (an v i)).1,{ v with ps:=v.ps.set i (dH p (fV b) (an v i)).2 }):=by
  rw[bt,ag (by show ¬ ((1:Int)<1∨(8:Int)<1);omega),ag (by show ¬ ((3:Int)≤1∧(1:Int)≤6);omega),BB rfl rfl hi]
 obtain⟨⟨G',h1⟩,h2⟩:=kB.ak hv hi (fV b);have rv:=hv.ak hi (fV b);have vk:(dH p (fV b) (an v i)).2.k.cl=(an v i).k.cl∧(dH p (fV b) (an v i)).2.k.now=(an v i).k.now∧(dH p (fV b) (an v i)).2.k.ev=(an v i).k.ev:=by
  by_cases h0:(dH p (fV b) (an v i)).1=0
  ·obtain⟨_,mr,hk⟩:=(kB.pl i hi).ak h0;rw[hk];exact⟨rfl,rfl,rfl⟩
  ·rw[NI (hv.pl i hi).1 h0];exact⟨rfl,rfl,rfl⟩
 have q8:Lv p cf T { v with ps:=v.ps.set i (dH p (fV b) (an v i)).2 }:=⟨⟨_,rv⟩,⟨G',h1⟩,λj hj=>by
  have la:j<v.ps.length:=by have:j<(v.ps.set i _).length:=hj;rwa [bu]at this
  rw[qw hi];split
  ·rename_i e;subst e;rw[vk.1,vk.2.1,vk.2.2];exact h.op _ hi
  ·exact h.op j la,h.ev⟩
 have eJ:dz p ⟨1,i,b,n⟩ v={ v with ps:=v.ps.set i (dH p (fV b) (an v i)).2 }:=by
  rw[dz,ag (by show ¬ (1:Int)=7;omega),aT,q8.still]
 have GQ:(dH p (fV b) (an v i)).1=0↔bH v i i<1000∧bH v i i<cf.bm.toNat+aw (an v i).k:=by
  have hd:=h.head hi;show (c3 (fV b) (an v i).k).1=0↔_;rw[c3,ag (by rw[(h.op i hi).1];decide),← hd,← uT];split
  ·exact⟨λh=>absurd h (by intro e;cases e),λh=>by omega⟩
  ·split
   ·exact⟨λh=>absurd h (by intro e;cases e),λh=>by omega⟩
   ·exact⟨λ_=>by omega,λ_=>rfl⟩
 rw[eJ];refine⟨q8,rfl,bu,λx y=>?_,λh=>by rw[aT];exact GQ.2 h⟩;rw[h2];by_cases e:x=i∧y=i
 ·by_cases e2:(dH p (fV b) (an v i)).1=0
  ·rw[al ⟨e,e2⟩,al ⟨e,GQ.1 e2⟩]
  ·rw[ag (λh=>e2 h.2),ag (λh=>e2 (GQ.2 h.2))]
 ·rw[ag (λh=>e h.1),ag (λh=>e h.1)]
noncomputable def th (v:Wd)(i:Nat):List Ml:=((List.range v.ps.length).filter (·≠i)).map λj=>(i,j,aS (dT (an v i).k j))
theorem acH {k:Ks}(hc:k.cl=false)(hn:k.now<39):bo k=((bI k).map λi=>(k.me,i,aS (dT k i)),{ k with now:=k.now+1 }):=by
 rw[bo,ag (by rw[hc];decide)];simp only;have:(bI { k with now:=k.now+1 }).find? (λi=>decide (jj { k with now:=k.now+1 } i))=none:=by
  rw[List.find?_eq_none];intro i _;rw[decide_eq_true_eq,jj];show ¬ (_+40≤k.now+1);omega
 rw[this];rfl
theorem Oa:∀ {l net:List Ml},net.length+l.length≤300→eo net l=net++l
 | [],net,_=>by rw[append_nil];rfl
 | m::l,net,h=>by
  rw[fc]at h;show eo (oG net m) l=_;rw[oG,al (by omega),Oa (by rw[aM,ji];omega),dA];rfl
theorem Lv.tick (h:Lv p cf T v)(hT:T i<39)(hi:i<v.ps.length)(hf:v.net.length+v.ps.length≤300)(b n:Int):Lv p cf (λj=>if j=i then T j+1 else T j) (dz p ⟨2,i,b,n⟩ v)∧(dz p ⟨2,i,b,n⟩ v).net=v.net++th v i∧(dz p ⟨2,i,b,n⟩ v).ps.length=v.ps.length ∧
   (∀ x y,bH (dz p ⟨2,i,b,n⟩ v) x y=bH v x y)∧(∀ m∈th v i,rL m=bH v i i)∧(bt p ⟨2,i,b,n⟩ v).1=0:=by
 obtain⟨c,hv⟩:=h.ok;obtain⟨G,kB⟩:=h.lB;obtain⟨ej,uT,bT,hn,_⟩:=hv.pK hi;have ho:=h.op i hi;have fX:=acH ho.1 (by omega);have gH:(bo (an v i).k).1=th v i:=by rw[fX,th,bI,hn,ej]
 have l4:(th v i).length≤v.ps.length:=by
  rw[th,bg];exact gF (length_filter_le _ _) (by rw[length_range];exact bk _)
 have aT:bt p ⟨2,i,b,n⟩ v=(0,{ v with ps:=v.ps.set i ⟨(bo (an v i).k).2,(an v i).g⟩,net:=eo v.net (bo (an v i).k).1 }):=by
  rw[bt,ag (by show ¬ ((2:Int)<1∨(8:Int)<2);omega),ag (by show ¬ ((3:Int)≤2∧(2:Int)≤6);omega),wH rfl rfl hi]
 obtain⟨h1,h2⟩:=kB.tick hv hi rfl;have q8:Lv p cf (λj=>if j=i then T j+1 else T j) { v with ps:=v.ps.set i ⟨(bo (an v i).k).2,(an v i).g⟩,net:=eo v.net (bo (an v i).k).1 }:=⟨⟨_,hv.tick hi⟩,⟨G,h1⟩,λj hj=>by
  have la:j<v.ps.length:=by have:j<(v.ps.set i _).length:=hj;rwa [bu]at this
  rw[qw hi];split
  ·rename_i e;subst e;show (bo (an v i).k).2.cl=false∧(bo (an v i).k).2.now≤_∧(bo (an v i).k).2.ev=[];rw[fX];exact⟨ho.1,by show (an v i).k.now+1≤if i=i then _ else _;rw[al rfl];omega,ho.2.2⟩
  ·have:=h.op j la;exact⟨this.1,by split <;> omega,this.2.2⟩,h.ev⟩
 have eJ:dz p ⟨2,i,b,n⟩ v={ v with ps:=v.ps.set i ⟨(bo (an v i).k).2,(an v i).g⟩,net:=eo v.net (bo (an v i).k).1 }:=by
  rw[dz,ag (by show ¬ (2:Int)=7;omega),aT,q8.still]
 rw[eJ];refine⟨q8,?_,bu,λx y=>h2 x y,λm hm=>?_,by rw[aT]⟩
 ·show eo v.net (bo (an v i).k).1=_;rw[gH,Oa (by omega)]
 ·rw[← gH]at hm;obtain⟨q,_,hq⟩:=kB.NR hv hi rfl hm;exact hq
theorem Lv.acI (h:Lv p cf T v)(vv:m∈v.net)(xA:∀ m∈net,m∈v.net)(hl:net.length≤v.net.length):Lv p cf T { v with ps:=v.ps.set m.2.1 (dI p m.2.2 (an v m.2.1)).2,net:=net }∧(dI p m.2.2 (an v m.2.1)).1=0 ∧
   (∀ x y,bH { v with ps:=v.ps.set m.2.1 (dI p m.2.2 (an v m.2.1)).2,net:=net } x y=if x=m.2.1∧y=m.1 then max (bH v x y) (rL m) else bH v x y)∧m.1<v.ps.length∧m.2.1<v.ps.length∧m.1≠m.2.1:=by
 obtain⟨c,hv⟩:=h.ok;obtain⟨G,kB⟩:=h.lB;obtain⟨q,hq⟩:=kB.net m vv;obtain⟨h1,h2⟩:=kB.recv hv vv xA;have hi:=hq.lt.2;obtain⟨ej,uT,bT,hn,_⟩:=hv.pK hi;obtain⟨_,h0,mr,hk⟩:=(kB.pl _ hi).yf hq.lB (h.op _ hi).1 (by rw[hq.to,ej]) (by rw[hq.fr,hn];have:=hq.lt.1;omega) (by rw[hq.id,bT]) hq.kind;rw[← hq.bs]at h0 hk;have o6:=hv.net.1;refine⟨⟨⟨_,hv.recv hi m.2.2 (net:=net) (by omega) λm hm=>hv.net.2 m (xA m hm)⟩,⟨G,h1⟩,λj hj=>?_,h.ev⟩,h0,λx y=>?_,hq.lt.1,hi,λe=>hq.lB.may.2.2.1 (by rw[hq.fr,hq.to,e])⟩
 ·have la:j<v.ps.length:=by have:j<(v.ps.set m.2.1 _).length:=hj;rwa [bu]at this
  rw[qw hi];split
  ·rename_i e;subst e;rw[hk];exact h.op _ hi
  ·exact h.op j la
 ·rw[h2];by_cases e:x=m.2.1∧y=m.1
  ·rw[al ⟨e,(h.op _ hi).1⟩,al e]
  ·rw[ag (λh=>e h.1),ag e]
theorem Ob (p:Pr){r:List Ml}(hm:v.net=m::r)(a b:Int):bt p ⟨3,a,b,0⟩ v=((dI p m.2.2 (an v m.2.1)).1,{ v with ps:=v.ps.set m.2.1 (dI p m.2.2 (an v m.2.1)).2,net:=r }):=by
 rw[bt,ag (by show ¬ ((3:Int)<1∨(8:Int)<3);omega),al (by show (3:Int)≤3∧(3:Int)≤6;omega),BE (j:=0) (m:=m) (by show (3:Int)≠4;omega) (by show (3:Int)≠6;omega) rfl (by rw[hm];rfl)];show (_,Wd.mk _ (if (3:Int)=5 then v.net else v.net.eraseIdx 0) _)=_;rw[ag (by omega),hm];rfl
theorem Lv.send (h:Lv p cf T v){r:List Ml}(hm:v.net=m::r)(a b:Int):Lv p cf T (dz p ⟨3,a,b,0⟩ v)∧(dz p ⟨3,a,b,0⟩ v).net=r∧(dz p ⟨3,a,b,0⟩ v).ps.length=v.ps.length ∧
   (∀ x y,bH (dz p ⟨3,a,b,0⟩ v) x y=if x=m.2.1∧y=m.1 then max (bH v x y) (rL m) else bH v x y)∧(bt p ⟨3,a,b,0⟩ v).1=0∧m.1<v.ps.length∧m.2.1<v.ps.length∧m.1≠m.2.1:=by
 obtain⟨h1,h2,h3,h4⟩:=h.acI (m:=m) (net:=r) (by rw[hm];exact mem_cons_self) (λm' wF=>by rw[hm];exact gM _ wF) (by rw[hm,fc];omega);have eJ:dz p ⟨3,a,b,0⟩ v={ v with ps:=v.ps.set m.2.1 (dI p m.2.2 (an v m.2.1)).2,net:=r }:=by
  rw[dz,ag (by show ¬ (3:Int)=7;omega),Ob p hm,h1.still]
 rw[eJ];exact⟨h1,rfl,bu,h3,by rw[Ob p hm];exact h2,h4⟩
end
end
section
section
variable {W w:World}{L:List SP}{c c' m i:Nat}{ad av:Option Addr}{ev:List (Nat×Nat×Nat)}{e:jZ}{M:jm}{p:Pr}{s:Pl}{cf:Cf}
theorem acJ (I:U W w (Sl 135 1 ad ev.length c (ev.map cz)::L))(hn:ev.length≤1000000000)(ho:∀ e∈ev,sN e):Calls Tryz.prog 55 #[.slice ad ev.length c] w λr V=>∃ av c',r=.returned (.slice av ev.length c')∧U W V (Sl 102 3 av ev.length c' (rows bU ev)::L):=by
 refine EN Tryz.func55 Tryz.ntmps55 rfl rfl λa E=>?_;refine RN 7 E I λa E=>?_;replace I:=I.bO 102 3 none;refine aP (λμ a w=>∃ (i:Nat) (mA:Option Addr) (co:Nat),(μ=ev.length-i∧i≤ev.length)∧Fr a 20 [(0,.slice ad ev.length c),(3,.slice mA i co),(4,.int .i64 i)]∧U W w (Sl 102 3 mA i co (rows bU (ev.take i))::Sl 135 1 ad ev.length c (ev.map cz)::L)) (ev.length) (⟨0,none,0,⟨rfl,by omega⟩,E.ab [0,3,4],(show U W w (Sl 102 3 none 0 0 (rows bU (ev.take 0))::_) from I).sub⟩) ?_;clear E I;rintro μ a w ⟨i,mA,co,⟨rfl,hi⟩,E,I⟩;refine IF 6 E I (λaj a E=>?_) λaj a E=>?_
 ·
  have aG:i<ev.length:=by omega
  obtain⟨bi,oi,rfl,pc⟩:=(I.pick (Sl 135 1 ad ev.length c (ev.map cz))).bW ad (by omega);have fe:=pc i (cz ev[i]) (by rw[bn,aF aG];rfl);have Oc:=ho _ (getElem_mem aG);generalize yA:ev[i]=x at fe Oc;have lJ:Rd w bi (oi+i) [cz x]:=by
   intro k v hk;cases k with
   | zero=>simp at hk;subst hk;exact fe
   | succ k=>simp at hk
  refine RN 5 E I λa E=>?_;refine SS E (bR E Tryz.underlying135 rfl Ty.t135 (lJ)) λa E=>?_;refine CL 0 E I (Yy I Oc) λa w E I=>?_;refine RN 0 E I λa E=>?_;refine cp E rfl I Tryz.underlying70 Ty.t102 rfl rfl rfl rfl (by decide) (by decide) λib a w E I ho=>?_;clear ho;refine RN 0 E I λa E=>?_;refine cQ E rfl I Tryz.underlying70 Ty.t102 rfl rfl I.ai rfl (λv hv=>E3 x v (by simpa using hv)) (by decide) (by decide) (by omega) λF1 F2 a w E I=>?_;rw[show rows bU (ev.take i)++_=rows bU (ev.take (i+1)) from by rw[← List.take_append_getElem aG,ka,yA];rfl]at I;refine RN 4 E I λa E=>?_;exact⟨ev.length-(i+1),by omega,i+1,F1,F2,⟨rfl,by omega⟩,E.ab [0,3,4],I.sub⟩
 refine RT 3 E I ?_;obtain rfl:i=ev.length:=by omega
 rw[take_length]at I;exact⟨mA,co,rfl,I.sub⟩
theorem acK (I:U W w (Sl 102 3 ad ev.length c (rows bU ev)::Sl 102 3 av ev.length c' (rows bU ev)::L))(hn:ev.length≤1000000000):Calls Tryz.prog 54 #[.slice ad ev.length c,.slice av ev.length c'] w λr V=>r=.returned (.bool true)∧U W V (Sl 102 3 ad ev.length c (rows bU ev)::Sl 102 3 av ev.length c' (rows bU ev)::L):=by
 refine EN Tryz.func54 Tryz.ntmps54 rfl rfl λa E=>?_;refine RN 9 E I λa E=>?_;rw[bq (by omega)]at E;refine RN 4 E I λa E=>?_;refine aP (λμ a w=>∃ (i:Nat),(μ=ev.length-i∧i≤ev.length)∧Fr a 27 [(0,.slice ad ev.length c),(1,.slice av ev.length c'),(5,.int .i64 i)]∧U W w (Sl 102 3 ad ev.length c (rows bU ev)::Sl 102 3 av ev.length c' (rows bU ev)::L)) (ev.length) (⟨0,⟨rfl,by omega⟩,E.ab [0,1,5],I⟩) ?_;clear E I;rintro μ a w ⟨i,⟨rfl,hi⟩,E,I⟩;refine IF 6 E I (λao a E=>?_) λao a E=>?_
 ·
  have aG:i<ev.length:=by omega
  refine RN 2 E I λa E=>?_;obtain⟨mn,ox,rfl,fG⟩:=I.drew.bW ad (by omega);obtain⟨GR,GS,rfl,pE⟩:=I.drew.tail.bW av (by omega);replace fG:=jk AI fG (aF aG);replace pE:=jk AI pE (aF aG);generalize ev[i]=x at fG pE;refine qJ 0 (λV=>Rd V mn (ox+i*3) (bU x)∧Rd V GR (GS+i*3) (bU x)) [7] [0,1,2,4,5,6,3003,1007,1008,9] E I λa E=>?_;replace I:=I.drew;generalize w.drew=w at I fG pE ⊢;have hC:Rd w mn (ox+i*3) (bU x)∧Rd w GR (GS+i*3) (bU x):=⟨fG,pE⟩;have hH:=Hd.any (λV=>Rd V mn (ox+i*3) (bU x)∧Rd V GR (GS+i*3) (bU x));refine RH 6 E I hH hC λa E=>?_;refine QH E (λw hc=>bR E Tryz.underlying102 rfl Ty.t102 (hc.1)) hC λa E=>?_;refine RH 0 E I hH hC λa E=>?_;refine SS E (bR E Tryz.underlying102 rfl Ty.t102 (hC.2)) λa E=>?_;refine RH 0 E I hH hC λa E=>?_;refine CL 0 E I (aaR I) λa w E I=>?_;refine RN 1 E I λa E=>?_;replace E:=E.aK 26;refine RN 4 E I λa E=>?_;exact⟨ev.length-(i+1),by omega,i+1,⟨rfl,by omega⟩,E.ab [0,1,5],I⟩
 refine RT 2 E I ?_;exact⟨rfl,I⟩
theorem acL (I:U W w (fj W M p cf i s::L)) :
   Calls Tryz.prog 56 #[pt M.mb,.agg (br cf).toArray] w λe V=>e=.returned (.bool true)∧U W V (fj W M p cf i s::L):=by
 replace I:=fj.open I;obtain⟨m,⟨rfl,hI,hc⟩,I⟩:=I;exact (abQ I hI hc).mono λe V ⟨h1,h2⟩=>⟨h1,fj.close h2 hI (bk _) rfl hc⟩
end
end
section
def yU (W:World)(p:Pr)(ad:Option Addr)(c:Nat):Prop:=(rows dP p.ops).length=p.ops.length*4∧p.ops.length≤c∧(0<p.ops.length→∃ b off,ad=some ⟨b,off,none⟩∧b<W.heap.size∧Rd W b off (rows dP p.ops))
def BV (W:World)(mG:List fU)(cf:Cf)(tb:List UInt8):Prop:=∀ r∈mG,r.gs=⟨cf.aX,cf.order,tb⟩∧aQ W r.adT tb.length tb
section
variable {W w:World}{L:List SP}{n c cP cT i:Nat}{ad adP adT:Option Addr}{p:Pr}{tb:List UInt8}{cf:Cf}{hK:Bool}
theorem yU.ro (h:yU W p ad c)(I:U W w L):U W w (ay W p ad c::L):=I.UQ h.1 h.2.1 h.2.2
theorem Rd.lt {b off:Nat}{v:Value}{vs:List Value}(h:Rd w b off (v::vs)):b<w.heap.size:=by
 have h1:=h 0 v rfl;rcases Nat.lt_or_ge b w.heap.size with h2 | h2
 ·exact h2
 ·rw[World.cell?]at h1;simp[h2]at h1
theorem U.roW (I:U W w (ay W p ad c::L)):yU w p ad c:=by
 obtain⟨h1,h2⟩:=I.ro ad;refine⟨h1,h2,λh0=>?_⟩;obtain⟨b,off,rfl,hr⟩:=I.qT ad h0;refine⟨b,off,rfl,?_,hr⟩;cases hl:rows dP p.ops with
 | nil=>rw[hl]at h1;simp at h1;omega
 | cons v vs=>rw[hl]at hr;exact hr.lt
theorem Od (I:U W w L):∀ n:Nat,U W w (ah fk (List.replicate n (none,0,[]))::L)
 | 0=>U.iM I
 | n+1=>U.ve (f:=fk) (x:=(none,0,[])) ((Od I n).bO 102 3 none)
set_option maxHeartbeats 1000000 in
theorem acM (eb:j3 (cV cf 0) p tb)(I:U W w L)(yV:yU W p adP cP)(hn:tb.length=n)(a7:db p)(aC:p.title.size≤1000000000)(cS:p.ops.length≤1000000000)(de:tb.length≤1099511627776)(hT:∀ V,U W V []→aQ V adT tb.length tb) :
   Calls Tryz.prog 30 #[.agg (br cf).toArray,.agg (bw p adP cP).toArray,.slice adT n cT,.bool hK] w λr V=>∃ (B:jr) (D:nK),r=.returned (pt D.wb)∧(D.mb=B.mb∧uV B.fu cf tb hK cf.n.toNat∧BV W D.mG cf tb)∧U W V (aU W B p 0 (gE p cf cf.n.toNat)::bV W D p (gE p cf cf.n.toNat)::L):=by
 have o7:=eb.1.1.1;unfold dE at o7;obtain⟨N,hN⟩:∃ N:Nat,(cV cf 0).n=N:=⟨(cV cf 0).n.toNat,by omega⟩;replace hN:cf.n=N:=hN;have hN2:2≤N∧N≤8:=by
  have h1:(cV cf 0).n=cf.n:=rfl;omega
 have hTW:aQ W adT tb.length tb:=hT W (U.start W);rw[show cf.n.toNat=N from by omega];refine EN Tryz.func30 Tryz.ntmps30 rfl rfl λa E=>?_;refine BX 1 E I λb4 a w E I=>?_;change U W w (aa b4 28 (br cf)::_) at I;refine BX 0 E I λb5 a w E I=>?_;change U W w (aa b5 45 (bw p adP cP)::_) at I;refine ST 3 E I (λa w E I=>?_);refine RN 0 E I λa E=>?_;change U W w (aa b4 28 (br (cV cf 0))::_) at I;refine RN 5 E I λa E=>?_;replace I:=yV.ro I;refine aR 0 E I (NU (cf:=cV cf 0) eb I hn aC cS de (λV cJ=>hT _ cJ.nil)) λB a w E ⟨hB,I⟩=>?_;refine RN 5 E I λa E=>?_;rw[show (cV cf 0).n.toNat=N from by show cf.n.toNat=N;omega]at I hB;replace I:U W w (aU W B p 0 (gE p cf N)::ay W p adP cP::_):=I;replace I:=I.sub (M:=aU W B p 0 (gE p cf N)::aa b4 28 (br (cV cf 0))::aa b5 45 (bw p adP cP)::L);refine RN 5 E I λa E=>?_;replace E:=E.aK 24;refine RN 3 E I λa E=>?_;replace E:=E.aK 27;refine RN 5 E I λa E=>?_;rw[show (cV cf 0).n=(N:Int) from hN]at E;refine qE E rfl I Tryz.underlying38 Ty.t70 rfl (by omega) (by omega) λti a w E I ho=>?_;clear ho;rw[Be _ rfl]at I;refine BX 1 E I λjW a w E I=>?_;refine RN 1 E I λa E=>?_;replace I:=U.iM (f:=ds W p) (I.bO 34 1 none);refine RN 3 E I λa E=>?_;refine aP (λμ a w=>∃ (i:Nat) (adL:Option Addr) (cL:Nat) (rs:List (fU×Pl)) (me:Int),(μ=N-i∧(i≤N∧rs.length=i)∧rs.map (·.2)=(List.range i).map (λi=>eD p (cV cf i))∧BV W (rs.map (·.1)) cf tb)∧Fr a 56 [(2,.slice adT n cT),(4,pt b4),(5,pt b5),(11,pt jW),(12,.int .i64 i)]∧U W w (aa jW 40 [pt B.mb,.slice adL i cL,.slice none 0 0,.slice (some ⟨ti,0,none⟩) N N]::Sl 34 1 adL i cL (rs.map dM)::ah (ds W p) rs::aa ti 70 (List.replicate N (.slice none 0 0))::aa b4 28 (br { cf with me:=me })::aa b5 45 (bw p adP cP)::aU W B p 0 (gE p cf N)::L)) (N) (⟨0,none,0,[],0,⟨rfl,⟨by omega,rfl⟩,rfl,λr h=>by cases h⟩,E.ab [2,4,5,11,12],(show U W w (ah (ds W p) []::Sl 34 1 none 0 0 (([]:List (fU×Pl)).map dM)::aa jW 40 _::aa ti 70 _::aU W B p 0 (gE p cf N)::aa b4 28 (br { cf with me:=0 })::_) from I).sub⟩) ?_;clear E I;rintro μ a w ⟨i,adL,cL,rs,me,⟨rfl,⟨hi,hS⟩,ee,gT⟩,E,I⟩;refine RN 5 E I λa E=>?_;rw[hN]at E;refine IF 1 E I (λao a E=>?_) λao a E=>?_
 ·
  have aG:i<N:=by omega
  have GL:=NS (i:=i) eb (by show (i:Int)<(cV cf 0).n;rw[show (cV cf 0).n=(N:Int) from hN];omega);refine ST 4 E I (λa w E I=>?_);refine RN 0 E I λa E=>?_;replace I:U W w (aa b4 28 (br (cV cf i))::_):=I;refine aY 0 (λw0 V=>Rd V jW 0 [pt B.mb,.slice adL i cL,.slice none 0 0,.slice (some ⟨ti,0,none⟩) N N]∧Rd V b4 0 (br (cV cf i))∧Rd V b5 0 (bw p adP cP)) [5,6,8,9] [0,1,2,3,7,3004,3005,1006,1008,1009,1010,11,12,1013] E I λa w E I hH=>?_;have hC:=hH.at w ⟨I.ai (b:=jW),I.ai (b:=b4),I.ai (b:=b5)⟩;refine RH 5 E I hH hC λa E=>?_;refine QH E (λw hc=>ae E (hc.1 1 _ rfl)) hC λa E=>?_;refine QH E (λw hc=>bR E Tryz.underlying28 rfl Ty.t28 (hc.2.1)) hC λa E=>?_;refine RH 0 E I hH hC λa E=>?_;refine SS E (bR E Tryz.underlying45 rfl Ty.t45 (hC.2.2)) λa E=>?_;replace I:=yV.ro I;refine RH 0 E I hH hC λa E=>?_;refine aR 0 E I (abB (cf:=cV cf i) GL.1 I hn a7 aC) λr a w E ⟨hr,I⟩=>?_;replace hC:=hH.at w ⟨I.ai (b:=jW),I.ai (b:=b4),I.ai (b:=b5)⟩;refine RH 0 E I hH hC λa E=>?_;refine cp E rfl I Tryz.underlying36 Ty.t34 rfl rfl rfl rfl (by decide) (by decide) λQR a w E I ho=>?_;clear ho;replace hC:=hH.at w ⟨I.ai (b:=jW),I.ai (b:=b4),I.ai (b:=b5)⟩;refine RH 0 E I hH hC λa E=>?_;refine cQ E rfl I Tryz.underlying36 Ty.t34 rfl rfl I.ai rfl (by simp[Value.oneCell']) (by decide) (by decide) (by omega) λra re a w E I=>?_;rw[show List.map dM rs++_=(rs++[((r:fU),eD p (cV cf i))]).map dM from by rw[cX];rfl]at I;refine ST 2 E I (λa w E I=>?_);refine RN 3 E I λa E=>?_;have ko:U W w (ds W p (r,eD p (cV cf i))::_):=(I.pick (ah (ds W p) rs)).pick (bZ W r p (eD p (cV cf i)));have hA:=U.jG (f:=ds W p) (x:=(r,eD p (cV cf i))) ko;refine⟨N-(i+1),by omega,i+1,ra,re,rs++[(r,eD p (cV cf i))],i,⟨rfl,⟨by omega,by rw[aM,hS];rfl⟩,?_,?_⟩,E.ab [2,4,5,11,12],?_⟩
  ·rw[cX,ee,range_succ,cX];rfl
  ·intro x hx;rw[cX]at hx;rcases eR.1 hx with hx | hx
   ·exact gT x hx
   ·rw[mem_singleton.1 hx,hr.2];exact⟨hr.1,hTW⟩
  ·rw[show ({ cf with me:=(i:Int) }:Cf)=cV cf i from rfl];exact hA.sub
 obtain rfl:i=N:=by omega
 refine RT 3 E I ?_;have h1:=I.jD ti;rw[show List.replicate i (Value.slice none 0 0)=[]++(List.replicate i ((none,0,[]):j4)).map bx++[] from by rw[nil_append,append_nil,map_replicate];rfl]at h1;have h2:=Od (U.iL (n:=i) (c:=i) (sz:=1) h1 (by rw[bg,ke,Nat.mul_one]) (bk _) (by simp)) i;simp only[length_nil]at h2;have h3:=ct.nil (e:=60) h2;refine⟨B,⟨jW,B.mb,rs.map (·.1)⟩,rfl,⟨rfl,hB,gT⟩,?_⟩;have h4:U W w (bV W ⟨jW,B.mb,rs.map (·.1)⟩ p (gE p cf i)::aU W B p 0 (gE p cf i)::L):=by
  refine bV.close (adP:=adL) (cP:=cL) (adN:=none) (cN:=0) (adE:=some ⟨ti,0,none⟩) (cE:=i) (xs:=rs) (es:=List.replicate i (none,0,[])) ?_ rfl ee (by rw[map_replicate];rfl);rw[hS,ke];exact h3.sub (M:=aa jW 40 [pt B.mb,.slice adL i cL,.slice none 0 0,.slice (some ⟨ti,0,none⟩) i i]::Sl 34 1 adL i cL (rs.map dM)::ah (ds W p) rs::ct 60 none 0 0 []::Sl 70 1 (some ⟨ti,0,none⟩) i i ((List.replicate i ((none,0,[]):j4)).map bx)::ah fk (List.replicate i (none,0,[]))::aU W B p 0 (gE p cf i)::L)
 exact h4.sub
theorem acN (eb:¬ j3 (cV cf 0) p tb)(I:U W w (ay W p adP cP::L))(hn:tb.length=n)(a7:db p)(aC:p.title.size≤1000000000)(cS:p.ops.length≤1000000000)(de:tb.length≤1099511627776)(hT:∀ V,U W V (ay W p adP cP::L)→aQ V adT tb.length tb) :
   Calls Tryz.prog 30 #[.agg (br cf).toArray,.agg (bw p adP cP).toArray,.slice adT n cT,.bool hK] w λr V=>r=.returned (.pointer none)∧U W V (ay W p adP cP::L):=by
 refine EN Tryz.func30 Tryz.ntmps30 rfl rfl λa E=>?_;refine BX 1 E I λb4 a w E I=>?_;change U W w (aa b4 28 (br cf)::_) at I;refine BX 0 E I λb5 a w E I=>?_;change U W w (aa b5 45 (bw p adP cP)::_) at I;refine ST 3 E I (λa w E I=>?_);refine RN 0 E I λa E=>?_;change U W w (aa b4 28 (br (cV cf 0))::_) at I;refine CL 5 E I (acm (cf:=cV cf 0) eb (I.pick (ay W p adP cP)) hn aC cS de (λV cJ=>hT _ cJ.sub)) λa w E I=>?_;refine RN 10 E I λa E=>?_;replace E:=E.dX 24;refine RT 6 E I ?_;exact⟨rfl,I.sub⟩
end
end
section
abbrev rN:=(fU×Pl)×(mF×List ed)
def kC (W:World)(p:Pr)(y:rN):SP:=λh=>bj y.2.2=y.1.2.k.ls∧cn [aa y.1.1.pb 51 (eV p y.1.1 y.1.2.g),aa y.1.1.core.cb 72 (cZ y.1.2.k y.1.1.core y.2.1),Sl 65 1 (some ⟨y.1.1.core.lb,y.1.1.core.lo,none⟩) y.1.2.k.ls.length y.1.1.core.cL (y.2.2.map aL),ah ba y.2.2,
 aa y.1.1.core.hb 3 (e7 y.1.2.k.ps),aa y.1.1.core.dZ 3 (eU y.1.2.k.ps),aa y.1.1.core.wb 313 (rows e9 y.1.2.k.ps),aa y.1.1.core.xb 4 (e8 y.1.2.k.ps),Sl 100 1 y.2.1.ch y.1.2.k.mr.length y.2.1.cM (c4 y.1.2.k.mr),Sl 102 3 y.2.1.adE y.1.2.k.ev.length y.2.1.cE (rows bU y.1.2.k.ev),ay W p y.1.1.aq y.1.1.cO] h
structure BW (w:World)(p:Pr)(y:rN):Prop where
 pb:Rd w y.1.1.pb 0 (eV p y.1.1 y.1.2.g)
 cb:Rd w y.1.1.core.cb 0 (cZ y.1.2.k y.1.1.core y.2.1)
 ls:ix w (some ⟨y.1.1.core.lb,y.1.1.core.lo,none⟩) y.2.2
 eq:bj y.2.2=y.1.2.k.ls
 mr:0<y.1.2.k.mr.length→∃ b o,y.2.1.ch=some ⟨b,o,none⟩∧Rd w b o (c4 y.1.2.k.mr)
section
variable {W w:World}{L:List SP}{n i:Nat}{p:Pr}{xs:List (fU×Pl)}{ys:List rN}{y:rN}{k:Ks}{C:nH}{A:mF}{xl:List ed}
theorem acO {x:fU×Pl}(I:U W w (ds W p x::L)):∃ z,U W w (kC W p (x,z)::L):=by
 replace I:U W w (bZ W x.1 p x.2::L):=I;obtain⟨A,I⟩:=a1.open ((bZ.open I).pick (a1 x.1.core x.2.k));obtain⟨xl,b0,I⟩:=bN.open (I.pick (bN x.1.core.lb x.1.core.lo x.1.core.cL x.2.k.ls));refine⟨(A,xl),U.shut (M:=[_,_,_,_,_,_,_,_,_,_,_]) (I.sub (M:=aa x.1.pb 51 (eV p x.1 x.2.g)::aa x.1.core.cb 72 (cZ x.2.k x.1.core A)::Sl 65 1 (some ⟨x.1.core.lb,x.1.core.lo,none⟩) x.2.k.ls.length x.1.core.cL (xl.map aL)::ah ba xl::aa x.1.core.hb 3 (e7 x.2.k.ps)::aa x.1.core.dZ 3 (eU x.2.k.ps)::aa x.1.core.wb 313 (rows e9 x.2.k.ps)::aa x.1.core.xb 4 (e8 x.2.k.ps)::Sl 100 1 A.ch x.2.k.mr.length A.cM (c4 x.2.k.mr)::Sl 102 3 A.adE x.2.k.ev.length A.cE (rows bU x.2.k.ev)::ay W p x.1.aq x.1.cO::L)) λ_ h=>⟨b0,h⟩⟩
theorem kC.open (I:U W w (kC W p y::L)):bj y.2.2=y.1.2.k.ls∧U W w (aa y.1.1.pb 51 (eV p y.1.1 y.1.2.g)::aa y.1.1.core.cb 72 (cZ y.1.2.k y.1.1.core y.2.1)::Sl 65 1 (some ⟨y.1.1.core.lb,y.1.1.core.lo,none⟩) y.1.2.k.ls.length y.1.1.core.cL (y.2.2.map aL)::ah ba y.2.2 ::
 aa y.1.1.core.hb 3 (e7 y.1.2.k.ps)::aa y.1.1.core.dZ 3 (eU y.1.2.k.ps)::aa y.1.1.core.wb 313 (rows e9 y.1.2.k.ps)::aa y.1.1.core.xb 4 (e8 y.1.2.k.ps)::Sl 100 1 y.2.1.ch y.1.2.k.mr.length y.2.1.cM (c4 y.1.2.k.mr)::Sl 102 3 y.2.1.adE y.1.2.k.ev.length y.2.1.cE (rows bU y.1.2.k.ev)::ay W p y.1.1.aq y.1.1.cO::L) :=
 ⟨I.tell λ_ h=>h.1,I.open (M:=[_,_,_,_,_,_,_,_,_,_,_]) λ_ h=>h.2⟩
theorem acP (I:U W w (kC W p y::L)):U W w (ds W p y.1::L):=by
 obtain⟨b0,I⟩:=kC.open I;replace I:=bN.close ((I.pick (ah ba y.2.2)).pick (Sl 65 1 (some ⟨y.1.1.core.lb,y.1.1.core.lo,none⟩) y.1.2.k.ls.length y.1.1.core.cL (y.2.2.map aL))) b0;replace I:=a1.fold I y.1.1.core y.1.2.k y.2.1;exact bZ.fold I y.1.1 p y.1.2
theorem GU:∀ {xs:List (fU×Pl)} {L:List SP},U W w (ah (ds W p) xs::L)→∃ ys:List rN,ys.map (·.1)=xs∧U W w (ah (kC W p) ys::L)
 | [],_,I=>⟨[],rfl,U.iM I.tail⟩
 | x::xs,L,I=>by
  have h1:U W w (ds W p x::ah (ds W p) xs::L):=U.fv (l:=x::xs) (i:=0) I (by simp);obtain⟨z,h2⟩:=acO h1;obtain⟨ys,h3,h4⟩:=GU (h2.pick (ah (ds W p) xs));exact⟨(x,z)::ys,by rw[map_cons,h3],U.ve (h4.pick (kC W p (x,z)))⟩
theorem GV:∀ {ys:List rN} {L:List SP},U W w (ah (kC W p) ys::L)→U W w (ah (ds W p) (ys.map (·.1))::L)
 | [],_,I=>U.iM I.tail
 | y::ys,L,I=>by
  have h1:U W w (kC W p y::ah (kC W p) ys::L):=U.fv (l:=y::ys) (i:=0) I (by simp);have h2:=GV ((acP h1).pick (ah (kC W p) ys));exact U.ve (h2.pick (ds W p y.1))
theorem GW (I:U W w (ah (kC W p) ys::L))(hy:ys[i]?=some y):BW w p y:=by
 obtain⟨hi,h1⟩:=a8.1 hy;replace I:=I.fv hi;rw[h1]at I;obtain⟨h2,I⟩:=kC.open I;refine⟨I.ai (b:=y.1.1.pb),I.ai (b:=y.1.1.core.cb),?_,h2,λh0=>?_⟩
 ·exact U.oD ((I.pick (ah ba y.2.2)).pick (Sl 65 1 (some ⟨y.1.1.core.lb,y.1.1.core.lo,none⟩) y.1.2.k.ls.length y.1.1.core.cL (y.2.2.map aL)))
 ·exact (I.pick (Sl 100 1 y.2.1.ch y.1.2.k.mr.length y.2.1.cM (c4 y.1.2.k.mr))).bW y.2.1.ch h0
theorem Oe (I:U W w L)(hk:WC k)(b0:bj xl=k.ls)(hp:∀ V,U W V L→Rd V C.cb 0 (cZ k C A)∧ix V (some ⟨C.lb,C.lo,none⟩) xl) :
   Calls Tryz.prog 19 #[pt C.cb] w λr V=>r=.returned (.int .i64 (aw k))∧U W V L:=by
 have hn:=hk.n;have e6:=hk.ls;have gW:k.ls.length=xl.length:=by rw[← b0,gf]
 refine EN Tryz.func19 Tryz.ntmps19 rfl rfl λa E=>?_;refine RN 6 E I λa E=>?_;refine SS E (ae E ((hp _ I).1 10 _ rfl)) λa E=>?_;rw[gW]at E;refine CL 0 E I (A6 (xs:=xl) I (by omega) (by omega) (λV hw=>(hp V hw).2)) λa w E I=>?_;rw[b0]at E;refine RT 1 E I ?_;exact⟨rfl,I⟩
end
end
section
section
variable {W w:World}{L:List SP}{c i:Nat}{p:Pr}{v:Wd}{B:jr}{D:nK}{t:ft}{cf:Cf}{tb:List UInt8}{hK:Bool}
instance fK.isNil (z:fK):tl z.mul (!z.yS):=⟨by
 cases z with
 | mu M=>exact .inr ⟨⟨_,rfl⟩,rfl⟩
 | pl B=>exact .inl ⟨rfl,rfl⟩⟩
theorem fK.acQ {z:fK}(h:z.yS=true):∃ M,z=.mu M:=by
 cases z with
 | mu M=>exact⟨M,rfl⟩
 | pl B=>cases h
theorem acR {adL adE iq:Option Addr}{cL cE iu:Nat}{xs:List (fB×Pl)}{es:List j4}{l:List jZ}(I:U W w (aa B.mb 107 [.slice adL xs.length cL,pt B.q,.slice adE es.length cE]::Sl 81 1 adL xs.length cL (xs.map cC)::Sl 90 1 adE es.length cE (es.map bx)::ah eE es::L))(hi:i<xs.length)(k8:es[i]?=some (iq,iu,l))(hl:l.length≤1000000000) :
   Calls Tryz.prog 34 #[pt B.mb,.int .i64 i] w λe V=>∃ ad c',e=.returned (.slice ad l.length c')∧U W V (Sl 135 1 ad l.length c' (l.map cz)::aa B.mb 107 [.slice adL xs.length cL,pt B.q,.slice adE es.length cE]::Sl 81 1 adL xs.length cL (xs.map cC)::Sl 90 1 adE es.length cE (es.map bx)::ah eE es::L):=by
 obtain⟨wM,oK⟩:=a8.1 k8;refine EN Tryz.func34 Tryz.ntmps34 rfl rfl λa E=>?_;refine CL 6 E I (rH I hi) λa w E I=>?_;refine RN 1 E I λa E=>?_;replace E:=E.aK 8;refine RN 2 E I λa E=>?_;obtain⟨iI,oE,rfl,hS⟩:=(I.pick (Sl 90 1 adE es.length cE (es.map bx))).bW adE (by omega);have lJ:=hS i (.slice iq l.length iu) (by rw[bn,k8];rfl);refine RN 6 E I λa E=>?_;refine SS E (ae E (lJ)) λa E=>?_;replace I:=(I.pick (ah eE es)).fv wM;rw[oK]at I;change U W w (Sl 135 1 iq l.length iu (l.map cz)::_) at I;refine a6 0 E I (Nv I hl) λad2 c2 a w E I=>?_;refine RT 1 E I ?_;refine⟨ad2,c2,rfl,?_⟩;have h4:=(I.pick (ah eE (es.eraseIdx i))).pick (Sl 135 1 iq l.length iu (l.map cz));have h5:U W w (ah eE es::_):=U.wG (f:=eE) wM (by rw[oK];exact h4);exact h5.sub
theorem GX {xs:List (fB×Pl)}{x:fB}{s:Pl}(I:U W w (x.J W p c s::ah (cA W p c) (xs.eraseIdx i)::L))(hx:xs[i]?=some (x,s)):U W w (ah (cA W p c) xs::L):=by
 obtain⟨hi,h1⟩:=a8.1 hx;refine U.wG hi ?_;rw[h1];exact I
set_option maxHeartbeats 2000000 in
theorem acS (I:U W w (aU W B p c v::bV W D p v::L))(wN:D.mb=B.mb)(hB:B.Ok p c)(hv:bB p cf c v)(hP:uV B.fu cf tb hK v.ps.length)(ry:BV W D.mG cf tb)(fA:cY ⟨cf.aX,cf.order,tb⟩)(jR:9*c+100≤1000000000) :
   Calls Tryz.prog 33 #[pt D.wb] w λe V=>e=.returned (.bool true)∧U W V (aU W B p c v::bV W D p v::L):=by
 replace I:=aU.wJ I;obtain⟨adL,cL,adE,cE,xs,es,⟨eL,dp,eN⟩,I⟩:=I;replace I:=bV.open (I.pick (bV W D p v));obtain⟨adP,cP,adN,cN,iJ,iv,rs,fs,⟨hU,kg,na⟩,I⟩:=I;rw[wN]at I;obtain⟨ys,nL,jB,I⟩:=ct.open (I.pick (ct 60 adN v.net.length cN v.net));have b0:xs.length=v.ps.length:=by rw[← dp,bg]
 have hS:rs.length=v.ps.length:=by rw[← kg,bg]
 have oM:ys.length=v.net.length:=by rw[← nL,bg]
 have o6:=hv.net.1;have acA:es.length=v.ps.length:=by rw[← hv.ev,← eN,bg]
 have afb:fs.length=v.ps.length:=by rw[← hv.ev,← na,bg]
 have ND:=hv.ev;have wy:=hv.len;replace I:U W w (aa B.mb 107 [.slice adL xs.length cL,pt B.q,.slice adE es.length cE]::Sl 81 1 adL xs.length cL (xs.map cC)::ah (cA W p c) xs::bM B.q (v.net.map cU)::Sl 90 1 adE es.length cE (es.map bx)::ah eE es::aa D.wb 40 [pt B.mb,.slice adP rs.length cP,.slice adN v.net.length cN,.slice iJ fs.length iv]::Sl 34 1 adP rs.length cP (rs.map dM)::ah (ds W p) rs::Sl 60 3 adN v.net.length cN (rows b6 ys)::ah b7 ys::Sl 70 1 iJ fs.length iv (fs.map bx)::ah fk fs::L):=I.sub;refine EN Tryz.func33 Tryz.ntmps33 rfl rfl λa E=>?_;refine aY 4 (λw0 V=>Rd V D.wb 0 [pt B.mb,.slice adP rs.length cP,.slice adN v.net.length cN,.slice iJ fs.length iv]) [4,5,9,10] [0,1,2,6,7,8,3003,3009,3010,1004,1005,11] E I λa w E I hH=>?_;have hC:=hH.at w (I.ai (b:=D.wb));refine RH 6 E I hH hC λa E=>?_;refine QH E (λw hc=>ae E (hc 0 _ rfl)) hC λa E=>?_;refine QH E (λw hc=>ae E (hc 2 _ rfl)) hC λa E=>?_;refine RH 1 E I hH hC λa E=>?_;refine CL 0 E I (BA (I.pick (aa B.mb 107 [.slice adL xs.length cL,pt B.q,.slice adE es.length cE]))) λa w E I=>?_;replace hC:=hH.at w (I.ai (b:=D.wb));refine RH 0 E I hH hC λa E=>?_;refine CL 0 E I (M8 (I.pick (bM B.q (v.net.map cU)))) λa w E I=>?_;replace hC:=hH.at w (I.ai (b:=D.wb));rw[bg]at E;refine RH 1 E I hH hC λa E=>?_;rw[bq (by simp)]at E;refine RN 4 E I λa E=>?_;refine aP (λμ a w=>∃ (i:Nat),(μ=v.net.length-i∧i≤v.net.length)∧Fr a 150 [(0,pt D.wb),(3,.int .i64 i)]∧U W w (aa B.mb 107 [.slice adL xs.length cL,pt B.q,.slice adE es.length cE]::Sl 81 1 adL xs.length cL (xs.map cC)::ah (cA W p c) xs::bM B.q (v.net.map cU)::Sl 90 1 adE es.length cE (es.map bx)::ah eE es::aa D.wb 40 [pt B.mb,.slice adP rs.length cP,.slice adN v.net.length cN,.slice iJ fs.length iv]::Sl 34 1 adP rs.length cP (rs.map dM)::ah (ds W p) rs::Sl 60 3 adN v.net.length cN (rows b6 ys)::ah b7 ys::Sl 70 1 iJ fs.length iv (fs.map bx)::ah fk fs::L)) (v.net.length) (⟨0,⟨rfl,by omega⟩,E.ab [0,3],I.sub⟩) ?_;clear E I;rintro μ a w ⟨i,⟨rfl,hi⟩,E,I⟩;refine IF 9 E I (λao a E=>?_) λao a E=>?_
 ·
  have aG:i<v.net.length:=by omega
  obtain⟨y,hy,acT⟩:∃ y,ys[i]?=some y∧v.net[i]?=some y.2.2:=by
   refine⟨_,aF (by omega),?_⟩;rw[← nL,bn,aF (by omega)];rfl
  obtain⟨bD,on,rfl,_⟩:=(I.pick (Sl 60 3 adN v.net.length cN (rows b6 ys))).bW adN (by omega);refine CL 6 E I (BA (I.pick (aa B.mb 107 [.slice adL xs.length cL,pt B.q,.slice adE es.length cE]))) λa w E I=>?_;refine a6 1 E I (Gz (I.pick (bM B.q (v.net.map cU))) acT) λam js a w E I=>?_;refine AL 3 E I λb4 a w E I=>?_;refine SA 0 E I λa w E I=>?_;refine aY 2 (λw0 V=>(Rd V b4 0 [.int .i64 y.2.2.1,.int .i64 y.2.2.2.1,.slice am y.2.2.2.2.length js]∧Rd V D.wb 0 [pt B.mb,.slice adP rs.length cP,.slice (some ⟨bD,on,none⟩) v.net.length cN,.slice iJ fs.length iv])∧Rd V bD (on+i*3) (b6 y)∧aQ V am y.2.2.2.2.length y.2.2.2.2∧aQ V y.1 y.2.2.2.2.length y.2.2.2.2) [8,10,11,12,21,23,24,25,35,37,38,39,40] [0,1,2,3,5,6,7,9,3004,1008,1010,1011,1012,13,14,15,16,18,19,20,22,3017,1021,1023,1024,1025,26,27,28,29,32,33,34,36,3030,3031,1035,1037,1038,1039,1040,41,42] E I λa w E I hH=>?_;have hC:=hH.at w ⟨⟨I.ai (b:=b4),I.ai (b:=D.wb)⟩,jk oz (I.cK bD on (by omega)) hy,I.cu am _ rfl rfl,GO (I.pick (ah b7 ys)) hy⟩;refine RH 3 E I hH hC λa E=>?_;replace E:=E.aK 41;refine RH 5 E I hH hC λa E=>?_;refine QH E (λw hc=>ae E (hc.1.1 0 _ rfl)) hC λa E=>?_;refine RH 0 E I hH hC λa E=>?_;refine bC E (cI E rfl (s:=41)) (ae E (hC.1.2 2 _ rfl)) rfl λa E=>?_;refine RH 2 E I hH hC λa E=>?_;refine bC E (cI E rfl (s:=41)) (ae E (hC.2.1 0 _ rfl)) rfl λa E=>?_;refine RH 3 E I hH hC λa E=>?_;rw[bq (by omega)]at E;refine RH 5 E I hH hC λa E=>?_;refine QH E (λw hc=>ae E (hc.1.1 1 _ rfl)) hC λa E=>?_;refine RH 0 E I hH hC λa E=>?_;refine bC E (cI E rfl (s:=54)) (ae E (hC.1.2 2 _ rfl)) rfl λa E=>?_;refine RH 2 E I hH hC λa E=>?_;refine bC E (cI E rfl (s:=54)) (ae E (hC.2.1 1 _ rfl)) rfl λa E=>?_;refine RH 3 E I hH hC λa E=>?_;rw[bq (by omega)]at E;refine RH 5 E I hH hC λa E=>?_;refine QH E (λw hc=>ae E (hc.1.1 2 _ rfl)) hC λa E=>?_;refine QH E (λw hc=>lg E Tryz.underlying22 Tryz.underlying5 Tryz.underlying9 (hc.2.2.1)) hC λa E=>?_;refine RH 0 E I hH hC λa E=>?_;refine bC E (cI E rfl (s:=67)) (ae E (hC.1.2 2 _ rfl)) rfl λa E=>?_;refine RH 2 E I hH hC λa E=>?_;refine bC E (cI E rfl (s:=67)) (ae E (hC.2.1 2 _ rfl)) rfl λa E=>?_;refine RH 0 E I hH hC λa E=>?_;refine bC E (cI E rfl (s:=67)) (lg E Tryz.underlying22 Tryz.underlying5 Tryz.underlying9 (hC.2.2.2)) rfl λa E=>?_;refine RH 0 E I hH hC λa E=>?_;refine QP E (λw=>JN E) λa E=>?_;rw[p0,beq_self_eq_true,Bool.not_true]at E;refine RH 1 E I hH hC λa E=>?_;replace E:=E.aK 81;refine RN 4 E I λa E=>?_;exact⟨v.net.length-(i+1),by omega,i+1,⟨rfl,by omega⟩,E.ab [0,3],I.sub⟩
 refine RN 3 E I λa E=>?_;refine aP (λμ a w=>∃ (i:Nat),(μ=v.ps.length-i∧i≤v.ps.length)∧Fr a 150 [(0,pt D.wb),(6,.int .i64 i)]∧U W w (aa B.mb 107 [.slice adL xs.length cL,pt B.q,.slice adE es.length cE]::Sl 81 1 adL xs.length cL (xs.map cC)::ah (cA W p c) xs::bM B.q (v.net.map cU)::Sl 90 1 adE es.length cE (es.map bx)::ah eE es::aa D.wb 40 [pt B.mb,.slice adP rs.length cP,.slice adN v.net.length cN,.slice iJ fs.length iv]::Sl 34 1 adP rs.length cP (rs.map dM)::ah (ds W p) rs::Sl 60 3 adN v.net.length cN (rows b6 ys)::ah b7 ys::Sl 70 1 iJ fs.length iv (fs.map bx)::ah fk fs::L)) (v.ps.length) (⟨0,⟨rfl,by omega⟩,E.ab [0,6],I.sub⟩) ?_;clear E I;rintro μ a w ⟨i,⟨rfl,hi⟩,E,I⟩;refine IF 9 E I (λbh a E=>?_) λbh a E=>?_
 ·
  have aG:i<v.ps.length:=by omega
  obtain⟨x,hx,oJ⟩:∃ x,xs[i]?=some (x,an v i)∧B.fu[i]?=some x:=GC eL dp (by omega);obtain⟨_,gQ⟩:=a8.1 hx;obtain⟨r,hr⟩:∃ r,rs[i]?=some (r,an v i):=BM kg (by omega);have tf:(rs.map dM)[i]?=some (pt r.pb):=by rw[bn,hr];rfl
  have ly:r∈D.mG:=by rw[← hU];exact c0.2 ⟨_,bJ hr,rfl⟩
  obtain⟨GY,DV⟩:=ry r ly;have hxG:=hP.2 x (bJ oJ);have hM:=x.ql (W:=W) (p:=p) hB.pr hB.sz (hB.gs x (bJ oJ));obtain⟨hw,cw,wI⟩:=hv.pl i aG;have mo:=hB.c;obtain⟨iq,iu,l,k8⟩:∃ iq iu l,es[i]?=some (iq,iu,l):=⟨_,_,_,aF (by omega)⟩;obtain⟨wM,oK⟩:=a8.1 k8;have qk:v.ev.getD i []=l:=by rw[← eN,bl,bn,k8];rfl
  obtain⟨yW,yX,oq⟩:∃ yW yX,fs[i]?=some (yW,yX,l):=by
   have h1:(fs.map (·.2.2))[i]?=some l:=by rw[na,← qk,bl,aF (by omega)];rfl
   rw[bn,aF (by omega)]at h1;refine⟨fs[i].1,fs[i].2.1,?_⟩;rw[aF (by omega),← Option.some.inj h1]
  obtain⟨wg,Of⟩:=a8.1 oq;obtain⟨gW,hlo⟩:=hv.kx l (by rw[← qk];exact wE (by omega));have hG:l.length≤1000000000:=by omega
  obtain⟨bp,op,rfl,_⟩:=(I.pick (Sl 34 1 adP rs.length cP (rs.map dM))).bW adP (by omega);obtain⟨iU,oF,rfl,_⟩:=(I.pick (Sl 70 1 iJ fs.length iv (fs.map bx))).bW iJ (by omega);refine aY 3 (λw0 V=>(Rd V D.wb 0 [pt B.mb,.slice (some ⟨bp,op,none⟩) rs.length cP,.slice adN v.net.length cN,.slice (some ⟨iU,oF,none⟩) fs.length iv]∧Rd V bp op (rs.map dM))∧Rd V iU oF (fs.map bx)) [5,9,11,12,21,22,26,28,29] [0,1,2,4,6,7,8,10,3003,3009,3011,3012,1005,1013,14,15,16,17,18,20,23,24,25,27,3019,3026,3028,3029,1021,1022,1030,31,32] E I λa w E I hH=>?_;have hC:=hH.at w ⟨⟨I.ai (b:=D.wb),I.cK bp op (by omega)⟩,I.cK iU oF (by omega)⟩;refine RH 8 E I hH hC λa E=>?_;refine QH E (λw hc=>ae E (hc.1.1 0 _ rfl)) hC λa E=>?_;refine QH E (λw hc=>ae E (hc.1.1 1 _ rfl)) hC λa E=>?_;refine RH 1 E I hH hC λa E=>?_;refine QH E (λw hc=>ae E (hc.1.2 i _ tf)) hC λa E=>?_;refine RH 0 E I hH hC λa E=>?_;refine CL 0 E I (rH ((I.pick (Sl 81 1 adL xs.length cL (xs.map cC))).pick (aa B.mb 107 [.slice adL xs.length cL,pt B.q,.slice adE es.length cE])) (by omega)) λa w E I=>?_;replace hC:=hH.at w ⟨⟨I.ai (b:=D.wb),I.cK bp op (by omega)⟩,I.cK iU oF (by omega)⟩;rw[show cC xs[i]=.iface x.z.t (.pointer (some x.z.ad)) from by rw[gQ]]at E;replace I:=BN (I.pick (ah (ds W p) rs)) hr;replace I:=BF (I.pick (ah (cA W p c) xs)) hx;refine RH 0 E I hH hC λa E=>?_;refine CL 0 E I (aaX hM (by omega) ((I.pick (bZ W r p (an v i))).pick (x.J W p c (an v i))) hw hB.pr hB.sz (by rw[GY];exact fA) (by rw[GY,hxG.1]) (by rw[GY];exact DV)) λa w E I=>?_;replace hC:=hH.at w ⟨⟨I.ai (b:=D.wb),I.cK bp op (by omega)⟩,I.cK iU oF (by omega)⟩;replace I:=GX ((I.pick (ah (cA W p c) (xs.eraseIdx i))).pick (x.J W p c (an v i))) hx;replace I:=BO ((I.pick (ah (ds W p) (rs.eraseIdx i))).pick (bZ W r p (an v i))) hr;refine RH 2 E I hH hC λa E=>?_;replace E:=E.aK 106;refine RH 8 E I hH hC λa E=>?_;refine QH E (λw hc=>ae E (hc.1.1 0 _ rfl)) hC λa E=>?_;refine QH E (λw hc=>ae E (hc.1.1 3 _ rfl)) hC λa E=>?_;refine RH 1 E I hH hC λa E=>?_;refine QH E (λw hc=>ae E (hc.2 i (.slice yW l.length yX) (by rw[bn,oq];rfl))) hC λa E=>?_;replace I:=I.sub (M:=aa B.mb 107 [.slice adL xs.length cL,pt B.q,.slice adE es.length cE]::Sl 81 1 adL xs.length cL (xs.map cC)::Sl 90 1 adE es.length cE (es.map bx)::ah eE es::ah (ds W p) rs::ah (cA W p c) xs::bM B.q (v.net.map cU)::aa D.wb 40 [pt B.mb,.slice (some ⟨bp,op,none⟩) rs.length cP,.slice adN v.net.length cN,.slice (some ⟨iU,oF,none⟩) fs.length iv]::Sl 34 1 (some ⟨bp,op,none⟩) rs.length cP (rs.map dM)::Sl 60 3 adN v.net.length cN (rows b6 ys)::ah b7 ys::Sl 70 1 (some ⟨iU,oF,none⟩) fs.length iv (fs.map bx)::ah fk fs::L);refine RH 0 E I hH hC λa E=>?_;refine a6 0 E I (acR I (by omega) k8 hG) λlp dN a w E I=>?_;replace hC:=hH.at w ⟨⟨I.ai (b:=D.wb),I.cK bp op (by omega)⟩,I.cK iU oF (by omega)⟩;refine RH 0 E I hH hC λa E=>?_;refine a6 0 E I (acJ I hG hlo) λad2 c2 a w E I=>?_;replace hC:=hH.at w ⟨⟨I.ai (b:=D.wb),I.cK bp op (by omega)⟩,I.cK iU oF (by omega)⟩;replace I:=(I.pick (ah fk fs)).fv wg;rw[Of]at I;change U W w (Sl 102 3 yW l.length yX (rows bU l)::_) at I;refine RH 0 E I hH hC λa E=>?_;refine CL 0 E I (acK (I.pick (Sl 102 3 ad2 l.length c2 (rows bU l))) hG) λa w E I=>?_;have uN:U W w (ah fk fs::_):=U.wG (f:=fk) wg (by rw[Of];exact ((I.pick (ah fk (fs.eraseIdx i))).pick (Sl 102 3 yW l.length yX (rows bU l))));replace I:=uN;clear uN;refine RN 2 E I λa E=>?_;replace E:=E.aK 123;refine CL 7 E I (Gx ((I.pick (Sl 81 1 adL xs.length cL (xs.map cC))).pick (aa B.mb 107 [.slice adL xs.length cL,pt B.q,.slice adE es.length cE])) (by omega)) λa w E I=>?_;rw[show xs[i].1.z.mul=x.z.mul from by rw[gQ]]at E;refine BY 5 E I (λbA a E=>?_) λbA a E=>?_
  ·
   obtain⟨M,Og⟩:∃ M,x.z=.mu M:=fK.acQ (by simpa using bA);have Oh:x.J W p c (an v i)=fj W M p x.cf c (an v i):=by unfold fB.J;rw[Og]
   have acU:fg (an v i).k=x.cf:=by
    have h1:(B.fu.map (·.cf))[i]?=some x.cf:=by rw[bn,oJ];rfl
    rw[hP.1,bn,getElem?_range aG]at h1;rw[cw];exact Option.some.inj h1
   replace I:=BF (I.pick (ah (cA W p c) xs)) hx;rw[Oh]at I;obtain⟨zs,sV,I⟩:=GU (I.pick (ah (ds W p) rs));obtain⟨z,hz,wQ⟩:∃ z,zs[i]?=some z∧z.1=(r,an v i):=by
    rw[← sV,bn]at hr;cases h1:zs[i]? with
    | none=>rw[h1]at hr;cases hr
    | some z=>rw[h1]at hr;exact⟨z,rfl,Option.some.inj hr⟩
   rw[show x.z.mul=pt M.mb from by rw[Og];rfl]at E;refine RN 7 E I λa E=>?_;refine bC E (cI E rfl (s:=132)) (ae E ((I.cK bp op (by omega)) i _ tf)) rfl λa E=>?_;refine RN 2 E I λa E=>?_;refine bC E (cI E rfl (s:=132)) (ae E (by have h9:=(GW (I.pick (ah (kC W p) zs)) hz).pb 0 _ rfl;rw[wQ]at h9;exact h9)) rfl λa E=>?_;refine RN 2 E I λa E=>?_;refine bC E (cI E rfl (s:=132)) (bR E Tryz.underlying28 rfl Ty.t28 (by have h9:=((GW (I.pick (ah (kC W p) zs)) hz).cb).part 0 10;rw[wQ]at h9;exact h9)) rfl λa E=>?_;rw[show List.take 10 (List.drop 0 (cZ (r,an v i).2.k (r,an v i).1.core z.2.1))=br x.cf from by rw[← acU];rfl]at E;refine CL 0 E I (acL (I.pick (fj W M p x.cf c (an v i)))) λa w E I=>?_;rw[← Oh]at I;have uN:=GV (I.pick (ah (kC W p) zs));rw[sV]at uN;replace I:=GX ((uN.pick (ah (cA W p c) (xs.eraseIdx i))).pick (x.J W p c (an v i))) hx;refine RN 2 E I λa E=>?_;replace E:=E.aK 149;refine RN 4 E I λa E=>?_;exact⟨v.ps.length-(i+1),by omega,i+1,⟨rfl,by omega⟩,E.ab [0,6],I.sub⟩
  refine RN 21 E I λa E=>?_;exact⟨v.ps.length-(i+1),by omega,i+1,⟨rfl,by omega⟩,E.ab [0,6],I.sub⟩
 refine RT 2 E I ?_;have h8:=ct.close (n:=v.net.length) (c:=cN) ((I.pick (ah b7 ys)).pick (Sl 60 3 adN v.net.length cN (rows b6 ys))) nL rfl;rw[← wN]at h8;have h9:U W w (bV W D p v::_):=bV.close (h8.sub (M:=aa D.wb 40 [pt D.mb,.slice adP rs.length cP,.slice adN v.net.length cN,.slice iJ fs.length iv]::Sl 34 1 adP rs.length cP (rs.map dM)::ah (ds W p) rs::ct 60 adN v.net.length cN v.net::Sl 70 1 iJ fs.length iv (fs.map bx)::ah fk fs::aa D.mb 107 [.slice adL xs.length cL,pt B.q,.slice adE es.length cE]::Sl 81 1 adL xs.length cL (xs.map cC)::ah (cA W p c) xs::bM B.q (v.net.map cU)::Sl 90 1 adE es.length cE (es.map bx)::ah eE es::L)) hU kg na;rw[wN]at h9;refine⟨rfl,aU.uR (adL:=adL) (cL:=cL) (adE:=adE) (cE:=cE) (xs:=xs) (es:=es) ?_ eL dp eN⟩;exact h9.sub
end
end
section
section
variable {W w:World}{L:List SP}{c i:Nat}{p:Pr}{v:Wd}{B:jr}{t:ft}{cf:Cf}
def mH:Cf:=⟨2,0,0,0,4,1,0,2,1,5⟩
theorem yY (I:U W w (aU W B p c v::L))(hB:B.Ok p (c+10))(hv:bB p cf c v)(jR:9*c+100≤1000000000)(hf:t.fn≠7) :
   Calls Tryz.prog 29 #[pt B.mb,.agg (dV t).toArray] w λe V=>e=.returned (.int .i64 (bt p t v).1)∧U W V (aU W B p (c+10) (dz p t v)::L) :=
 (NC I hB hv jR).mono λe V ⟨z,h1,h2,_,I⟩=>⟨by rw[h1,h2 hf],by rw[dz,ag hf];exact I⟩
theorem Oi (hf:t.fn<1∨8<t.fn):bt p t v=(1,v):=by rw[bt,al hf]
set_option maxHeartbeats 2000000 in
theorem Oj (I:U W w L):Calls Tryz.prog 26 #[] w λe V=>e=.returned (.bool true)∧U W V L:=by
 have rD:eO mH:=by decide
 have eb:j3 (cV mH 0) cy []:=⟨rD,qv,by decide⟩;refine EN Tryz.func26 Tryz.ntmps26 rfl rfl λa E=>?_;refine aR 4 E I (Bj I) λadP a w E I=>?_;refine aR 0 E I (NU (cf:=mH) (tb:=[]) (adT:=none) (cT:=0) eb I rfl (by decide) (by decide) (by decide) (λV h=>aQ.nil)) λB a w E ⟨hP,I⟩=>?_;refine RN 5 E I λa E=>?_;have fA:∀ x∈B.fu,cY x.z.gs:=λx hx=>by rw[(hP.2 x hx).1];decide
 have L0:Lv cy mH (λ_=>0) (gE cy mH mH.n.toNat):=Lv.new rD;have wR:(gE cy mH mH.n.toNat).ps.length=2:=u0;have qU:(gE cy mH mH.n.toNat).net=[]:=rfl;have pv:∀ x y,x<2→y<2→bH (gE cy mH mH.n.toNat) x y=0:=λx y hx hy=>BU rD hx hy;have BZ:=GP (p:=cy) rD;generalize gE cy mH mH.n.toNat=v0 at I L0 wR qU pv BZ;have Vw:mH.bm.toNat=4:=rfl;obtain⟨Ol,e1,vN,k1,z1⟩:=L0.ak (i:=0) (by omega) 5 0;have k00:=pv 0 0 (by omega) (by omega);replace z1:=z1 (by omega);have o1:=BZ.go (s:=⟨1,(0:Nat),5,0⟩);obtain⟨Om,e2,sw,k2,z2⟩:=Ol.ak (i:=1) (by omega) 6 0;have B0:=pv 1 1 (by omega) (by omega);have On:=k1 1 1;rw[ag (by omega)]at On;replace z2:=z2 (by omega);have p1:=o1.go (s:=⟨1,(1:Nat),6,0⟩);obtain⟨Oo,e3,Oq,k3,Ot,z3⟩:=Om.tick (i:=0) (by decide) (by omega) (by rw[e2,e1,qU,sw,vN,wR];decide) 0 0;have GZ:=p1.go (s:=⟨2,(0:Nat),0,0⟩);have t3:th (dz cy ⟨1,(1:Nat),6,0⟩ (dz cy ⟨1,(0:Nat),5,0⟩ v0)) 0=[(0,1,aS (dT (an (dz cy ⟨1,(1:Nat),6,0⟩ (dz cy ⟨1,(0:Nat),5,0⟩ v0)) 0).k 1))]:=by
  rw[th,sw,vN,wR];rfl
 rw[e2,e1,qU,t3]at e3;obtain⟨L4,iV,Ou,k4,z4,_⟩:=Oo.send e3 0 0;have wS:=GZ.go (s:=⟨3,0,0,0⟩);have h5:rL (0,1,aS (dT (an (dz cy ⟨1,(1:Nat),6,0⟩ (dz cy ⟨1,(0:Nat),5,0⟩ v0)) 0).k 1))=1:=by
  rw[Ot _ (by rw[t3];exact mem_cons_self),k2 0 0,ag (by omega),k1 0 0,al (by omega),k00]
 have f4:aw (an (dz cy ⟨3,0,0,0⟩ (dz cy ⟨2,(0:Nat),0,0⟩ (dz cy ⟨1,(1:Nat),6,0⟩ (dz cy ⟨1,(0:Nat),5,0⟩ v0)))) 1).k=1:=by
  have q0:=k4 1 0;rw[al ⟨rfl,rfl⟩,k3,k2,ag (by omega),k1,ag (by omega),pv 1 0 (by omega) (by omega),h5]at q0;have q1:=k4 1 1;rw[ag (by show ¬ ((1:Nat)=1∧(1:Nat)=0);omega),k3,k2,al (by omega),On]at q1;refine L4.front (j:=0) (by omega) (λj hj=>?_) (by omega) (by rw[q0];rfl);have:j=0∨j=1:=by omega
  rcases this with rfl | rfl
  ·rw[q0];decide
  ·rw[q1];omega
 clear pv k1 k2 k3 k4 t3 h5 Ot;refine RN 2 E I λa E=>?_;obtain⟨adL,cL,adE,cE,xs,es,⟨eL,dp,eN⟩,I⟩:=aU.wJ I;have b0:xs.length=2:=by rw[← wR,← dp,bg]
 have IE:xs[1].1.z.yS=true:=(hP.2 _ (by rw[← eL];exact c0.2 ⟨xs[1],getElem_mem _,rfl⟩)).2;refine RN 3 E I λa E=>?_;replace E:=E.aK 17;refine RN 4 E I λa E=>?_;replace E:=E.aK 21;refine CL 1 E I (rH (i:=0) ((I.pick (Sl 81 1 adL xs.length cL (xs.map cC))).pick (aa B.mb 107 [.slice adL xs.length cL,pt B.q,.slice adE es.length cE])) (by omega)) λa w E I=>?_;refine RN 3 E I λa E=>?_;replace E:=E.aK 26;refine CL 1 E I (Gx (i:=1) ((I.pick (Sl 81 1 adL xs.length cL (xs.map cC))).pick (aa B.mb 107 [.slice adL xs.length cL,pt B.q,.slice adE es.length cE])) (by omega)) λa w E I=>?_;refine RN 1 E I λa E=>?_;rw[IE,Bool.not_true]at E;refine RN 2 E I λa E=>?_;replace E:=E.aK 31;refine CL 1 E I (BA (I.pick (aa B.mb 107 [.slice adL xs.length cL,pt B.q,.slice adE es.length cE]))) λa w E I=>?_;refine RN 2 E I λa E=>?_;replace E:=E.aK 35;refine RN 2 E I λa E=>?_;replace I:=aU.uR (I.sub (M:=aa B.mb 107 [.slice adL xs.length cL,pt B.q,.slice adE es.length cE]::Sl 81 1 adL xs.length cL (xs.map cC)::ah (cA W cy 0) xs::bM B.q (v0.net.map cU)::Sl 90 1 adE es.length cE (es.map bx)::ah eE es::L)) eL dp eN;refine CL 2 E I (yY (t:=⟨1,(0:Nat),5,0⟩) I ⟨qv,by decide,fA,by decide⟩ BZ (by decide) (by decide)) λa w E I=>?_;rw[z1]at E;refine CL 4 E I (yY (t:=⟨1,(1:Nat),6,0⟩) I ⟨qv,by decide,fA,by decide⟩ (o1.more (by decide)) (by decide) (by decide)) λa w E I=>?_;rw[z2]at E;refine CL 4 E I (yY (t:=⟨2,(0:Nat),0,0⟩) I ⟨qv,by decide,fA,by decide⟩ (p1.more (by decide)) (by decide) (by decide)) λa w E I=>?_;rw[z3]at E;refine CL 4 E I (yY (t:=⟨3,0,0,0⟩) I ⟨qv,by decide,fA,by decide⟩ (GZ.more (by decide)) (by decide) (by decide)) λa w E I=>?_;rw[z4]at E;have n5:=Ou.trans (Oq.trans (sw.trans (vN.trans wR)));clear BZ o1 p1 GZ L0 Ol Om Oo z1 z2 z3 z4 e1 e2 e3 wR vN sw Oq Ou;generalize dz cy ⟨3,0,0,0⟩ (dz cy ⟨2,(0:Nat),0,0⟩ (dz cy ⟨1,(1:Nat),6,0⟩ (dz cy ⟨1,(0:Nat),5,0⟩ v0)))=v at I wS L4 f4 iV n5;refine RN 2 E I λa E=>?_;obtain⟨adL,cL,adE,cE,xs,es,⟨eL,dp,eN⟩,I⟩:=aU.wJ I;have b0:xs.length=2:=by rw[← n5,← dp,bg]
 obtain⟨x,hx,oJ⟩:∃ x,xs[1]?=some (x,an v 1)∧B.fu[1]?=some x:=GC eL dp (by omega);obtain⟨_,gQ⟩:=a8.1 hx;have hM:=x.ql (W:=W) (p:=cy) qv (by decide) (fA x (bJ oJ));have hw:=(wS.pl 1 (by omega)).1;refine CL 1 E I (rH (i:=1) ((I.pick (Sl 81 1 adL xs.length cL (xs.map cC))).pick (aa B.mb 107 [.slice adL xs.length cL,pt B.q,.slice adE es.length cE])) (by omega)) λa w E I=>?_;rw[show cC xs[1]=.iface x.z.t (.pointer (some x.z.ad)) from by rw[gQ]]at E;replace I:=BF (I.pick (ah (cA W cy 40) xs)) hx;refine RN 0 E I λa E=>?_;refine jv E rfl hM.Bn hM.Bo rfl (hM.Bp _ _ 40 (an v 1) (by decide) hw (I.pick (x.J W cy 40 (an v 1)))) (by rfl) ?_;clear E I;rintro e w ⟨lp,dN,rfl,I⟩;refine⟨_,rfl,λa E=>?_⟩;refine RN 5 E I λa E=>?_;rw[show (lx (an v 1)).2=1 from f4]at E;replace I:=GX ((I.pick (ah (cA W cy 40) (xs.eraseIdx 1))).pick (x.J W cy 40 (an v 1))) hx;replace I:=aU.uR (I.sub (M:=aa B.mb 107 [.slice adL xs.length cL,pt B.q,.slice adE es.length cE]::Sl 81 1 adL xs.length cL (xs.map cC)::ah (cA W cy 40) xs::bM B.q (v.net.map cU)::Sl 90 1 adE es.length cE (es.map bx)::ah eE es::L)) eL dp eN;refine RN 4 E I λa E=>?_;replace E:=E.dX 56;refine RN 4 E I λa E=>?_;replace E:=E.dX 60;refine RN 4 E I λa E=>?_;replace E:=E.dX 64;refine RN 4 E I λa E=>?_;replace E:=E.dX 68;refine RN 4 E I λa E=>?_;replace E:=E.dX 72;refine RN 1 E I λa E=>?_;obtain⟨adL,cL,adE,cE,xs,es,⟨eL,dp,eN⟩,I⟩:=aU.wJ I;refine CL 0 E I (BA (I.pick (aa B.mb 107 [.slice adL xs.length cL,pt B.q,.slice adE es.length cE]))) λa w E I=>?_;refine CL 0 E I (M8 (I.pick (bM B.q (v.net.map cU)))) λa w E I=>?_;rw[bg,iV]at E;replace I:=aU.uR (I.sub (M:=aa B.mb 107 [.slice adL xs.length cL,pt B.q,.slice adE es.length cE]::Sl 81 1 adL xs.length cL (xs.map cC)::ah (cA W cy 40) xs::bM B.q (v.net.map cU)::Sl 90 1 adE es.length cE (es.map bx)::ah eE es::L)) eL dp eN;refine RN 3 E I λa E=>?_;replace E:=E.dX 78;refine CL 2 E I (yY (t:=⟨0,0,0,0⟩) I ⟨qv,by decide,fA,by decide⟩ (wS.more (by decide)) (by decide) (by decide)) λa w E I=>?_;rw[Oi (.inl (by decide))]at E;rw[dz,ag (by decide),Oi (.inl (by decide)),L4.still]at I;refine RN 3 E I λa E=>?_;replace E:=E.dX 84;refine a6 1 E I (acz (i:=0) I (by omega) wS.ev (by rw[L4.ev _ (wE (d:=[]) (by rw[wS.ev];omega))];decide)) λad2 c2 a w E I=>?_;rw[L4.ev _ (wE (d:=[]) (by rw[wS.ev];omega))]at E;refine RT 4 E I ?_;exact⟨rfl,I.sub⟩
end
end
section
structure yZ (W:World)(p:Pr)(B:jr)(D:nK)(cf:Cf)(tb:List UInt8)(hK:Bool):Prop where
 mb:D.mb=B.mb
 fu:uV B.fu cf tb hK cf.n.toNat
 mG:BV W D.mG cf tb
 gs:cY ⟨cf.aX,cf.order,tb⟩
 pr:db p
 sz:p.title.size≤1000000000
section
variable {W w:World}{L:List SP}{c:Nat}{p:Pr}{v:Wd}{B:jr}{D:nK}{t:ft}{cf:Cf}{tb:List UInt8}{hK:Bool}
theorem uV.gs {fu:List fB}{n:Nat}(h:uV fu cf tb hK n)(hg:cY ⟨cf.aX,cf.order,tb⟩):∀ x∈fu,cY x.z.gs:=λx hx=>by rw[(h.2 x hx).1];exact hg
theorem yZ.ok (h:yZ W p B D cf tb hK)(hc:c≤1000000):B.Ok p c:=⟨h.pr,h.sz,h.fu.gs h.gs,hc⟩
theorem acV (I:U W w (aU W B p c v::bV W D p v::L))(ng:yZ W p B D cf tb hK)(hv:bB p cf c v)(hc:c≤1000000) :
   Calls Tryz.prog 33 #[pt D.wb] w λe V=>e=.returned (.bool true)∧U W V (aU W B p c v::bV W D p v::L) :=
 acS I ng.mb (ng.ok hc) hv (by rw[hv.n];exact ng.fu) ng.mG ng.gs (by omega)
theorem acW (I:U W w (aU W B p c v::bV W D p v::L))(ng:yZ W p B D cf tb hK)(hv:bB p cf c v)(BT:pL v)(hc:c≤900000) :
   Calls Tryz.prog 32 #[pt D.wb,.agg (dV t).toArray] w λe V=>e=.returned (.bool true)∧U W V (aU W B p (c+10) (dz p t v)::bV W D p (dz p t v)::L) :=
 acE I ng.mb (ng.ok (by omega)) hv BT (by omega) λw u hu hcu I=>acV I ng hu (by omega)
structure Wc (p:Pr)(cf:Cf)(c:Nat)(v:Wd):Prop where
 ok:bB p cf c v
 calm:pL v
theorem Wc.go (h:Wc p cf c v):Wc p cf (c+10) (dz p t v):=⟨h.ok.go.more (by omega),acD h.calm⟩
theorem Wc.new (h:eO cf):Wc p cf 0 (gE p cf cf.n.toNat):=⟨GP h,N8 h⟩
end
end
section
open Go.RowKit Go.ChangeShapes Go.WideShapes Go.ChangeAt
set_option linter.constructorNameAsVariable false
set_option maxRecDepth 100000
theorem stepOf {H:Type}{enc:TypeId×Value→H}{W:World}{m:Nat}{cs:List Value}{y:DataW H×List MemPlace}(h:DataW.trod enc Tryz.prog W 0 (λ_=>true) true m 58 cs=some y):∃ t:ft,cs=dV t:=by
 obtain⟨xs,n,_,_,b9,hlen,hf⟩:=DataW.trod_struct Tryz.underlying58 h;rw[show Tryz.prog.cellsOf 58=4 from by kernel_rfl]at b9
 match cs,b9,xs,hlen with
 | [uO,dN,c2,c7],_,[y0,De,Df,acX],_ =>
  have qU:DataW.trod enc Tryz.prog W 0 (λ_=>true) true n 3 [uO]=some y0:=hf 0 _ rfl;have e1:DataW.trod enc Tryz.prog W 0 (λ_=>true) true n 3 [dN]=some De:=hf 1 _ rfl;have e2:DataW.trod enc Tryz.prog W 0 (λ_=>true) true n 3 [c2]=some Df:=hf 2 _ rfl;have e3:DataW.trod enc Tryz.prog W 0 (λ_=>true) true n 3 [c7]=some acX:=hf 3 _ rfl;obtain⟨z0,h0,_,_⟩:=DataW.trod_int Tryz.underlying3 qU;obtain⟨z1,h1,_,_⟩:=DataW.trod_int Tryz.underlying3 e1;obtain⟨z2,h2,_,_⟩:=DataW.trod_int Tryz.underlying3 e2;obtain⟨z3,h3,_,_⟩:=DataW.trod_int Tryz.underlying3 e3;simp at h0 h1 h2 h3;subst h0 h1 h2 h3;exact⟨⟨z0,z1,z2,z3⟩,rfl⟩
def u1 (W:World)(ad:Option Addr)(len:Nat):Prop :=
 len≤9223372036854775807∧(len=0∨∃ b off,ad=some ⟨b,off,none⟩∧b<W.heap.size∧∀ i,i<len→∃ t:ft,Rd W b (off+i*4) (dV t))
theorem acY {H:Type}{enc:TypeId×Value→H}{W:World}{len cap:Nat}{ad:Option Addr}{d:DataW H}{p:List MemPlace}
   (h:DataW.Trod enc Tryz.prog W 0 (λ_=>true) true 84 (.slice ad len cap) d p):u1 W ad len:=by
 obtain⟨h1,h2⟩:=WL (sz:=4) Tryz.underlying84 (by kernel_rfl) (by decide) h;refine⟨h1,h2.imp id ?_⟩;rintro⟨b,off,h3,h4,h5⟩;refine⟨b,off,h3,h4,λi hi=>?_⟩;obtain⟨cs,m,x,g1,kH,nr⟩:=h5 i hi;obtain⟨t,ht⟩:=stepOf nr;refine⟨t,?_⟩;rw[← ht];exact kH
section
variable {W W' w:World}{L:List SP}
theorem u1.below {ad:Option Addr}{len:Nat}(h:u1 W ad len)(hb:Below W.heap.size W W'):u1 W' ad len:=by
 refine⟨h.1,h.2.imp id ?_⟩;rintro⟨b,off,h3,h4,h5⟩;refine⟨b,off,h3,wU h4 hb.size,λi hi=>?_⟩;obtain⟨t,ht⟩:=h5 i hi;exact⟨t,λj v hj=>(hb.cell h4).trans (ht j v hj)⟩
theorem u1.at {ad:Option Addr}{len i:Nat}(h:u1 W ad len)(hi:i<len):∃ (b off:Nat) (t:ft),ad=some ⟨b,off,none⟩∧∀ V L,U W V L→Rd V b (off+i*4) (dV t):=by
 rcases h.2 with h2 | ⟨b,off,h3,h4,h5⟩
 ·omega
 ·obtain⟨t,ht⟩:=h5 i hi;exact⟨b,off,t,h3,λV L I j v hj=>(I.below.cell h4).trans (ht j v hj)⟩
theorem Ov {L:List SP}(hb:Below W.heap.size W W')(I:U W' w L):Below W.heap.size W w:=hb.trans (I.below.mono hb.size)
end
end
section
structure afc where
 tb:Nat
 n:Nat
 B:jr
 D:nK
end
section
section
variable {W w:World}{L:List SP}{n c i f:Nat}{p:Pr}{cf:Cf}{v:Wd}{D:nK}
theorem G0 {w:World}{y:rN}{p:Pr}(h:BW w p y)(hf:f<y.1.2.k.mr.length):∃ b o,y.2.1.ch=some ⟨b,o,none⟩∧w.cell? ⟨b,o+f,none⟩=some (.int .u32 (y.1.2.k.mr.getD f 0:Nat)):=by
 obtain⟨b,o,h1,h2⟩:=h.mr (by omega);refine⟨b,o,h1,h2 f _ ?_⟩;rw[c4,bn,aF hf,bl,aF hf];rfl
theorem Ow {w:World}{y:rN}{p:Pr}{b o:Nat}(h:BW w p y)(he:y.2.1.ch=some ⟨b,o,none⟩)(hf:f<y.1.2.k.mr.length):w.cell? ⟨b,o+f,none⟩=some (.int .u32 (y.1.2.k.mr.getD f 0:Nat)):=by
 obtain⟨b',o',h1,h2⟩:=G0 h hf;rw[he]at h1;cases h1;exact h2
theorem Ox {P:Program}{ops:Array Oper}{Q:Exit→Act→World→Prop}{C C':World→Prop}{bf:List Nat}(k:∀ w,C' w→C w):∀ (fuel:Nat) (bE:Array Bool) (a:Act) (w:World),g6 P ops Q C' bf fuel bE a w→g6 P ops Q C bf fuel bE a w
 | 0,_,_,_,h=>h
 | fuel+1,_,_,_,h=>⟨h.1,λi hi=>wpOp_mono (λa' V h'=>⟨λhn=>k _ (h'.1 hn),Ox k fuel _ a' V h'.2⟩) (h.2 i hi)⟩
theorem Oy {P:Program}{ops:Array Oper}{Q:Exit→Act→World→Prop}{C:World→Prop}{bf od:List Nat}{fuel m:Nat}{a:Act}{w:World}{b:Bool}(C':World→Prop)(k:∀ w,C' w→C w)(hC:C w)(h:fZ P ops Q C' bf od fuel m a w):CN b C (fZ P ops Q C bf od fuel m) a w :=
 ⟨λ_=>hC,Ox k _ _ _ _ h⟩
set_option maxHeartbeats 2000000 in
theorem acZ (I:U W w (bV W D p v::L))(hv:bB p cf c v)(hA:∀ i j f,i<v.ps.length→j<v.ps.length→f<aw (an v i).k→f<aw (an v j).k→bL (an v i).k.ls f=bL (an v j).k.ls f∧(an v i).k.mr.getD f 0=(an v j).k.mr.getD f 0)
   (wK:∀ l∈v.ev,∀ e∈l,e.1≠3) (jR:9*c+100≤1000000000):Calls Tryz.prog 18 #[pt D.wb] w λe V=>e=.returned (.bool true)∧U W V (bV W D p v::L):=by
 replace I:=bV.open I;obtain⟨adP,cP,adN,cN,iJ,iv,rs,fs,⟨hU,kg,na⟩,I⟩:=I;obtain⟨ys,oM,I⟩:=GU (I.pick (ah (ds W p) rs));have hS:rs.length=v.ps.length:=by rw[← kg,bg]
 have jB:ys.length=v.ps.length:=by rw[← hS,← oM,bg]
 have eS:fs.length=v.ps.length:=by rw[← hv.ev,← na,bg]
 have hn:=hv.len;have s7:∀ i,i<v.ps.length→∃ y,ys[i]?=some y∧y.1.2=an v i∧(rs.map dM)[i]?=some (pt y.1.1.pb):=λi hi=>by
  refine⟨ys[i],aF (by omega),?_,?_⟩
  ·rw[an,← kg,← oM,List.map_map,bl,bn,aF (by omega)];rfl
  ·rw[← oM,List.map_map,bn,aF (by omega)];rfl
 have b9:∀ V,U W V (ah (kC W p) ys::aa D.wb 40 [pt D.mb,.slice adP rs.length cP,.slice adN v.net.length cN,.slice iJ fs.length iv]::Sl 34 1 adP rs.length cP (rs.map dM)::ct 60 adN v.net.length cN v.net::Sl 70 1 iJ fs.length iv (fs.map bx)::ah fk fs::L)→U W V (bV W D p v::L):=λV h=>by
  have h1:=GV h;rw[oM]at h1;exact bV.close (h1.sub (M:=aa D.wb 40 [pt D.mb,.slice adP rs.length cP,.slice adN v.net.length cN,.slice iJ fs.length iv]::Sl 34 1 adP rs.length cP (rs.map dM)::ah (ds W p) rs::ct 60 adN v.net.length cN v.net::Sl 70 1 iJ fs.length iv (fs.map bx)::ah fk fs::L)) hU kg na
 replace I:=I.sub (M:=ah (kC W p) ys::aa D.wb 40 [pt D.mb,.slice adP rs.length cP,.slice adN v.net.length cN,.slice iJ fs.length iv]::Sl 34 1 adP rs.length cP (rs.map dM)::ct 60 adN v.net.length cN v.net::Sl 70 1 iJ fs.length iv (fs.map bx)::ah fk fs::L);generalize hM:(ah (kC W p) ys::aa D.wb 40 [pt D.mb,.slice adP rs.length cP,.slice adN v.net.length cN,.slice iJ fs.length iv]::Sl 34 1 adP rs.length cP (rs.map dM)::ct 60 adN v.net.length cN v.net::Sl 70 1 iJ fs.length iv (fs.map bx)::ah fk fs::L)=M at I b9;obtain⟨bp,op,CE⟩:∃ bp op,adP=some ⟨bp,op,none⟩:=by
  rw[← hM]at I;obtain⟨bp,op,h,_⟩:=(I.pick (Sl 34 1 adP rs.length cP (rs.map dM))).bW adP (by omega);exact⟨bp,op,h⟩
 obtain⟨iU,oF,hbF⟩:∃ iU oF,iJ=some ⟨iU,oF,none⟩:=by
  rw[← hM]at I;obtain⟨bp,op,h,_⟩:=(I.pick (Sl 70 1 iJ fs.length iv (fs.map bx))).bW iJ (by omega);exact⟨bp,op,h⟩
 have Oz:=I;clear I;subst CE hbF;have rW:∀ V,U W V M→Rd V D.wb 0 [pt D.mb,.slice (some ⟨bp,op,none⟩) rs.length cP,.slice adN v.net.length cN,.slice (some ⟨iU,oF,none⟩) fs.length iv]:=λV h=>by
  rw[← hM]at h;exact h.ai (b:=D.wb)
 have wT:∀ V,U W V M→Rd V bp op (rs.map dM):=λV h=>by
  rw[← hM]at h;exact h.cK bp op (by omega)
 have OA:∀ V,U W V M→Rd V iU oF (fs.map bx):=λV h=>by
  rw[← hM]at h;exact h.cK iU oF (by omega)
 have rY:∀ {i:Nat} {y:rN} {V:World},U W V M→ys[i]?=some y→BW V p y:=λh hy=>by
  rw[← hM]at h;exact GW h hy
 have ac0:∀ {i:Nat} {x:j4} {V:World},U W V M→fs[i]?=some x→0<x.2.2.length→∃ b o,x.1=some ⟨b,o,none⟩∧Rd V b o (rows bU x.2.2):=λ{i x V} h hx h0=>by
  rw[← hM]at h;obtain⟨hi,h1⟩:=a8.1 hx;have h2:=(h.pick (ah fk fs)).fv hi;rw[h1]at h2;replace h2:U W V (Sl 102 3 x.1 x.2.2.length x.2.1 (rows bU x.2.2)::_):=h2;exact h2.bW x.1 h0
 clear hM;have I:=Oz;clear Oz;refine EN Tryz.func18 Tryz.ntmps18 rfl rfl λa E=>?_;refine RN 5 E I λa E=>?_;refine aP (λμ a w=>∃ (i:Nat),(μ=v.ps.length-i∧i≤v.ps.length)∧Fr a 142 [(0,pt D.wb),(3,.int .i64 i)]∧U W w M) (v.ps.length) (⟨0,⟨rfl,by omega⟩,E.ab [0,3],I⟩) ?_;clear E I;rintro μ a w ⟨i,⟨rfl,hi⟩,E,I⟩;refine RN 6 E I λa E=>?_;refine SS E (ae E ((rW _ I) 1 _ rfl)) λa E=>?_;refine IF 2 E I (λaj a E=>?_) λaj a E=>?_
 ·
  have aG:i<v.ps.length:=by omega
  obtain⟨y,hy,s5,G1⟩:=s7 i aG;have u2:cv p y.1.2:=by rw[s5];exact (hv.pl i aG).1
  have B1:bj y.2.2=y.1.2.k.ls:=(rY I hy).eq;refine RN 4 E I λa E=>?_;refine aP (λμ a w=>∃ (k:Nat),(μ=i-k∧k≤i)∧Fr a 142 [(0,pt D.wb),(3,.int .i64 i),(4,.int .i64 k)]∧U W w M) (i) (⟨0,⟨rfl,by omega⟩,E.ab [0,3,4],I⟩) ?_;clear E I;rintro μ a w ⟨k,⟨rfl,hk⟩,E,I⟩;refine IF 5 E I (λao a E=>?_) λao a E=>?_
  ·
   have dO:k<v.ps.length:=by omega
   obtain⟨z,hz,qg,wQ⟩:=s7 k dO;have y1:cv p z.1.2:=by rw[qg];exact (hv.pl k dO).1
   have B2:bj z.2.2=z.1.2.k.ls:=(rY I hz).eq;refine aY 2 (λw0 V=>U W V M) [10,14,16,17,18,19,20] [0,1,2,4,11,12,13,15,3003,5,3006,7,8,3009,3014,3016,3017,3018,3019,3020,1010,1021,22,23] E I λa w E I hH=>?_;have hC:=hH.at w I;refine RH 8 E I hH hC λa E=>?_;refine QH E (λw hc=>ae E (rW _ hc 1 _ rfl)) hC λa E=>?_;refine RH 1 E I hH hC λa E=>?_;refine QH E (λw hc=>ae E (wT _ hc i _ G1)) hC λa E=>?_;refine RH 2 E I hH hC λa E=>?_;refine QH E (λw hc=>ae E ((rY hc hy).pb 0 _ rfl)) hC λa E=>?_;refine QH E (λw hc=>ae E (rW _ hc 1 _ rfl)) hC λa E=>?_;refine RH 1 E I hH hC λa E=>?_;refine QH E (λw hc=>ae E (wT _ hc k _ wQ)) hC λa E=>?_;refine RH 2 E I hH hC λa E=>?_;refine QH E (λw hc=>ae E ((rY hc hz).pb 0 _ rfl)) hC λa E=>?_;refine RH 0 E I hH hC λa E=>?_;refine CL 0 E I (Oe (A:=y.2.1) I u2.wc B1 λV h=>⟨(rY h hy).cb,(rY h hy).ls⟩) λa w E I=>?_;replace hC:=hH.at w I;refine RH 0 E I hH hC λa E=>?_;refine CL 0 E I (Oe (A:=z.2.1) I y1.wc B2 λV h=>⟨(rY h hz).cb,(rY h hz).ls⟩) λa w E I=>?_;refine RN 1 E I λa E=>?_;rw[show min ((aw y.1.2.k:Nat):Int) ((aw z.1.2.k:Nat):Int)=((min (aw y.1.2.k) (aw z.1.2.k):Nat):Int) from by omega]at E;refine RN 1 E I λa E=>?_;refine RN 2 E I λa E=>?_;refine aP (λμ a w=>∃ (f:Nat),(μ=min (aw y.1.2.k) (aw z.1.2.k)-f∧f≤min (aw y.1.2.k) (aw z.1.2.k))∧Fr a 142 [(0,pt D.wb),(3,.int .i64 i),(4,.int .i64 k),(5,.int .i64 (min (aw y.1.2.k) (aw z.1.2.k):Nat)),(6,.int .i64 f)]∧U W w M) (min (aw y.1.2.k) (aw z.1.2.k)) (⟨0,⟨rfl,by omega⟩,E.ab [0,3,4,5,6],I⟩) ?_;clear E I;rintro μ a w ⟨f,⟨rfl,hf⟩,E,I⟩;refine IF 5 E I (λaz a E=>?_) λaz a E=>?_
   ·
    have eS:f<aw y.1.2.k∧f<aw z.1.2.k:=by omega
    obtain⟨yo,qe⟩:bL y.1.2.k.ls f=bL z.1.2.k.ls f∧y.1.2.k.mr.getD f 0=z.1.2.k.mr.getD f 0:=by
     rw[s5,qg]at eS ⊢;exact hA i k f aG dO eS.1 eS.2
    have ac1:y.1.2.k.ls.length=y.2.2.length:=by rw[← B1,gf]
    have ac2:z.1.2.k.ls.length=z.2.2.length:=by rw[← B2,gf]
    have A9:=u2.full;have Ko:=y1.full;have hy8:=u2.wc.ls;have hz8:=y1.wc.ls;have hyn:=u2.wc.n;have Jy:=y1.wc.n;have s8:=gF u2.wc.m7 u2.wc.lr;obtain⟨by1,oy1,hU,_⟩:=G0 (f:=f) (rY I hy) (by rw[u2.full];exact eS.1);obtain⟨bz1,oz1,cW,_⟩:=G0 (f:=f) (rY I hz) (by rw[y1.full];exact eS.2);refine RN 2 E I λa E=>?_;simp only[List.append];refine aY 0 (λw0 V=>U W V M) [14,15,19,21,22,23,24,25,26,27,28,30,31,53,55,56,57,58,59,60,61,62,64,65] [0,1,2,4,13,16,17,18,20,29,3003,5,3006,7,8,3009,10,11,3012,3019,3021,3022,3023,3024,3025,3026,3027,3028,1014,3015,1030,1031,32,33,34,35,36,38,47,50,51,52,54,63,3037,39,3040,41,42,3043,44,45,3046,48,3049,1053,1055,1056,1057,1058,1059,1060,1061,1062,1064,1065,66,67] E I λa w E I hH=>?_;have hC:=hH.at w I;refine RH 10 E I hH hC λa E=>?_;refine QH E (λw hc=>ae E (rW _ hc 1 _ rfl)) hC λa E=>?_;refine RH 1 E I hH hC λa E=>?_;refine QH E (λw hc=>ae E (wT _ hc i _ G1)) hC λa E=>?_;refine RH 2 E I hH hC λa E=>?_;refine QH E (λw hc=>ae E ((rY hc hy).pb 0 _ rfl)) hC λa E=>?_;refine RH 2 E I hH hC λa E=>?_;refine QH E (λw hc=>ae E ((rY hc hy).cb 10 _ rfl)) hC λa E=>?_;rw[ac1]at E;refine RH 0 E I hH hC λa E=>?_;refine QH E (λw hc=>ae E (rW _ hc 1 _ rfl)) hC λa E=>?_;refine RH 1 E I hH hC λa E=>?_;refine QH E (λw hc=>ae E (wT _ hc k _ wQ)) hC λa E=>?_;refine RH 2 E I hH hC λa E=>?_;refine QH E (λw hc=>ae E ((rY hc hz).pb 0 _ rfl)) hC λa E=>?_;refine RH 2 E I hH hC λa E=>?_;refine QH E (λw hc=>ae E ((rY hc hz).cb 10 _ rfl)) hC λa E=>?_;rw[ac2]at E;refine RH 0 E I hH hC λa E=>?_;refine a6 0 E I (FJ (xs:=y.2.2) (f:=f) I (by omega) (by omega) (λV hw=>(rY hw hy).ls) (by rw[B1];exact eS.1)) λu3 iS a w E I=>?_;rw[B1,yo]at E I;refine Oy (λV=>U W V M∧aQ V u3 (bL z.1.2.k.ls f).length (bL z.1.2.k.ls f)) (λ_ h=>h.1) I.tail ?_;have hH:=Hd.any (λV=>U W V M∧aQ V u3 (bL z.1.2.k.ls f).length (bL z.1.2.k.ls f));have hC:=hH.at w ⟨I.tail,I.cu u3 _ rfl rfl⟩;refine RH 0 E I hH hC λa E=>?_;refine QH E (λw hc=>lg E Tryz.underlying22 Tryz.underlying5 Tryz.underlying9 (hc.2)) hC λa E=>?_;refine RH 0 E I hH hC λa E=>?_;refine a6 0 E I (FJ (xs:=z.2.2) (f:=f) I (by omega) (by omega) (λV hw=>(rY hw.tail hz).ls) (by rw[B2];exact eS.2)) λjl afd a w E I=>?_;rw[B2]at E I;refine Oy (λV=>(U W V M∧aQ V u3 (bL z.1.2.k.ls f).length (bL z.1.2.k.ls f))∧aQ V jl (bL z.1.2.k.ls f).length (bL z.1.2.k.ls f)) (λ_ h=>h.1) ⟨I.tail.tail,I.cu u3 _ rfl rfl⟩ ?_;have hH:=Hd.any (λV=>(U W V M∧aQ V u3 (bL z.1.2.k.ls f).length (bL z.1.2.k.ls f))∧aQ V jl (bL z.1.2.k.ls f).length (bL z.1.2.k.ls f));have hC:=hH.at w ⟨⟨I.tail.tail,I.cu u3 _ rfl rfl⟩,I.cu jl _ rfl rfl⟩;refine RH 0 E I hH hC λa E=>?_;refine SS E (lg E Tryz.underlying22 Tryz.underlying5 Tryz.underlying9 (hC.2)) λa E=>?_;refine RH 0 E I hH hC λa E=>?_;refine QP E (λw=>JN E) λa E=>?_;rw[p0,beq_self_eq_true,Bool.not_true]at E;refine RH 1 E I hH hC λa E=>?_;replace E:=E.aK 83;refine RH 10 E I hH hC λa E=>?_;refine QH E (λw hc=>ae E (rW _ hc.1.1 1 _ rfl)) hC λa E=>?_;refine RH 1 E I hH hC λa E=>?_;refine QH E (λw hc=>ae E (wT _ hc.1.1 i _ G1)) hC λa E=>?_;refine RH 2 E I hH hC λa E=>?_;refine QH E (λw hc=>ae E ((rY hc.1.1 hy).pb 0 _ rfl)) hC λa E=>?_;refine RH 2 E I hH hC λa E=>?_;refine QH E (λw hc=>ae E ((rY hc.1.1 hy).cb 16 _ rfl)) hC λa E=>?_;rw[hU]at E;refine RH 1 E I hH hC λa E=>?_;refine QH E (λw hc=>ae E (Ow (rY hc.1.1 hy) hU (by omega))) hC λa E=>?_;rw[qe]at E;refine RH 0 E I hH hC λa E=>?_;refine bC E (cI E rfl (s:=83)) (ae E (rW _ hC.1.1 1 _ rfl)) rfl λa E=>?_;refine RH 1 E I hH hC λa E=>?_;refine bC E (cI E rfl (s:=83)) (ae E (wT _ hC.1.1 k _ wQ)) rfl λa E=>?_;refine RH 2 E I hH hC λa E=>?_;refine bC E (cI E rfl (s:=83)) (ae E ((rY hC.1.1 hz).pb 0 _ rfl)) rfl λa E=>?_;refine RH 2 E I hH hC λa E=>?_;refine bC E (cI E rfl (s:=83)) (ae E ((rY hC.1.1 hz).cb 16 _ rfl)) rfl λa E=>?_;rw[cW]at E;refine RH 1 E I hH hC λa E=>?_;refine bC E (cI E rfl (s:=83)) (ae E (Ow (rY hC.1.1 hz) cW (by omega))) rfl λa E=>?_;refine RH 2 E I hH hC λa E=>?_;rw[bq (by simp)]at E;refine RN 4 E I λa E=>?_;exact⟨min (aw y.1.2.k) (aw z.1.2.k)-(f+1),by omega,f+1,⟨rfl,by omega⟩,E.ab [0,3,4,5,6],I.sub⟩
   refine RN 3 E I λa E=>?_;exact⟨i-(k+1),by omega,k+1,⟨rfl,by omega⟩,E.ab [0,3,4],I⟩
  obtain⟨x,hx⟩:∃ x,fs[i]?=some x:=⟨_,aF (by omega)⟩;have vn:(fs.map bx)[i]?=some (.slice x.1 x.2.2.length x.2.1):=by rw[bn,hx];rfl
  have b0:=(hv.kx x.2.2 (by rw[← na];exact c0.2 ⟨x,bJ hx,rfl⟩)).1;have hxE:∀ e∈x.2.2,e.1≠3:=wK x.2.2 (by rw[← na];exact c0.2 ⟨x,bJ hx,rfl⟩);refine RN 2 E I λa E=>?_;refine aP (λμ a w=>∃ (k:Nat),(μ=x.2.2.length-k∧k≤x.2.2.length)∧Fr a 142 [(0,pt D.wb),(3,.int .i64 i),(7,.int .i64 k)]∧U W w M) (x.2.2.length) (⟨0,⟨rfl,by omega⟩,E.ab [0,3,7],I⟩) ?_;clear E I;rintro μ a w ⟨k,⟨rfl,hk⟩,E,I⟩;refine RN 6 E I λa E=>?_;refine SS E (ae E ((rW _ I) 3 _ rfl)) λa E=>?_;refine RN 2 E I λa E=>?_;refine SS E (ae E ((OA _ I) i _ vn)) λa E=>?_;refine IF 2 E I (λbQ a E=>?_) λbQ a E=>?_
  ·
   have dO:k<x.2.2.length:=by omega
   obtain⟨be,afe,yz,lJ⟩:=ac0 I hx (by omega);replace lJ:=jk AI lJ (aF dO);have l7:=hxE _ (getElem_mem dO);refine RN 5 E I λa E=>?_;refine SS E (ae E ((rW _ I) 3 _ rfl)) λa E=>?_;refine RN 2 E I λa E=>?_;refine SS E (ae E ((OA _ I) i _ vn)) λa E=>?_;rw[yz]at E;refine RN 3 E I λa E=>?_;refine SS E (ae E (lJ 0 _ rfl)) λa E=>?_;refine RN 1 E I λa E=>?_;rw[bq (by omega)]at E;refine RN 4 E I λa E=>?_;exact⟨x.2.2.length-(k+1),by omega,k+1,⟨rfl,by omega⟩,E.ab [0,3,7],I⟩
  refine RN 3 E I λa E=>?_;exact⟨v.ps.length-(i+1),by omega,i+1,⟨rfl,by omega⟩,E.ab [0,3],I⟩
 refine RT 2 E I ?_;exact⟨rfl,b9 _ I⟩
end
end
section
section
variable {W w:World}{L:List SP}{c i:Nat}{p:Pr}{v:Wd}{cf:Cf}{G:List (List UInt8)}{ac3:Int→Prop}{D:nK}
theorem ac4 (I:U W w (bV W D p v::L))(hv:bB p cf c v)(kB:dh p cf ac3 G v)(jR:9*c+100≤1000000000):Calls Tryz.prog 18 #[pt D.wb] w λe V=>e=.returned (.bool true)∧U W V (bV W D p v::L) :=
 acZ I hv (λi j f hi hj h1 h2=>(kB.pl i hi).agree (kB.pl j hj) h1 h2) kB.bx jR
end
end
section
set_option maxHeartbeats 2000000 in
theorem ac5 (tj:Cf)(dj:Option Addr)(pM B3:Nat)(W:World)(w1:u1 W dj pM) :
   Calls Tryz.prog 7 #[.agg (br tj).toArray,.slice dj pM B3] W λe V=>e=.returned (.bool true)∧Below W.heap.size W V:=by
 have I:=U.start W;obtain⟨cf,cw⟩:∃ cf,cf=cV tj 0:=⟨_,rfl⟩;by_cases eb:j3 (cV cf 0) cy []
 ·have rD:=eb.1;refine EN Tryz.func7 Tryz.ntmps7 rfl rfl λa E=>?_;refine BX 1 E I λb2 a w E I=>?_;change U W w (aa b2 28 (br tj)::_) at I;refine CL 2 E I (Oj I) λa w E I=>?_;refine RN 5 E I λa E=>?_;replace E:=E.aK 10;refine ST 3 E I (λa w E I=>?_);refine RN 0 E I λa E=>?_;replace I:U W w (aa b2 28 (br (cV tj 0))::_):=I;rw[← cw]at I;refine aY 1 (λw0 V=>Rd V b2 0 (br cf)) [1] [3000,1001,1002,3] E I λa w E I hH=>?_;have hC:=hH.at w (I.ai (b:=b2));refine RH 0 E I hH hC λa E=>?_;refine QH E (λw hc=>bR E Tryz.underlying28 rfl Ty.t28 (hc)) hC λa E=>?_;refine RH 0 E I hH hC λa E=>?_;refine aR 0 E I (Bj I) λadP a w E I=>?_;replace hC:=hH.at w (I.ai (b:=b2));have yV:yU w cy adP 12:=U.roW (I.pick (ay W cy adP 12));have tO:=I.below;obtain⟨W2,OB⟩:∃ W2,W2=w:=⟨_,rfl⟩;replace I:U W2 w []:=by rw[OB];exact U.start w
  rw[← OB]at yV tO;refine RH 0 E I hH hC λa E=>?_;refine a6 0 E I (acM (cf:=cf) (tb:=[]) (adT:=none) (cT:=0) eb I yV rfl qv (by decide) (by decide) (by decide) (λV h=>aQ.nil)) λB D a w E ⟨hN,I⟩=>?_;refine RN 1 E I λa E=>?_;have ng:yZ W2 cy B D cf [] true:=⟨hN.1,hN.2.1,hN.2.2,eb.2.2,qv,by decide⟩;have aj:Wc cy (cV cf 0) 0 (gE cy cf cf.n.toNat):=Wc.new (p:=cy) rD;have G2:dh cy (cV cf 0) (λ_=>True) _ (gE cy cf cf.n.toNat):=dh.new (p:=cy) rD;rw[show cV cf 0=cf from by rw[cw];rfl]at aj G2;replace w1:=w1.below tO;generalize gE cy cf cf.n.toNat=v0 at I aj G2;generalize W2=W at I ng w1 tO;refine RN 4 E I λa E=>?_;replace E:=E.aK 16;refine RN 4 E I λa E=>?_;refine aP (λμ a w=>∃ (i c:Nat) (v:Wd) (G:List (List UInt8)),(μ=pM-i∧(i≤pM∧i≤80∧c≤10*i)∧Wc cy cf c v∧dh cy cf (λ_=>True) G v)∧Fr a 49 [(1,.slice dj pM B3),(6,pt D.wb),(7,.int .i64 i)]∧U W w (aU W B cy c v::bV W D cy v::[])) (pM) (⟨0,0,v0,_,⟨rfl,⟨by omega,by omega,by omega⟩,aj,G2⟩,E.ab [1,6,7],I⟩) ?_;clear E I;rintro μ a w ⟨i,c,v,G,⟨rfl,⟨hi,aff,mo⟩,hc,kB⟩,E,I⟩;refine BY 7 E I (λda a E=>?_) λda a E=>?_
  ·
   refine IF 3 E I (λaz a E=>?_) λaz a E=>?_
   ·
    have aG:i<pM∧i<80:=by omega
    obtain⟨Ly,Lz,t,rfl,ht⟩:=w1.at aG.1;refine RN 7 E I λa E=>?_;refine SS E (ae E ((ht _ _ I) 0 _ rfl)) λa E=>?_;refine IF 1 E I (λbh a E=>?_) λbh a E=>?_
    ·
     refine RN 3 E I λa E=>?_;exact⟨pM-(i+1),by omega,i+1,c,v,G,⟨rfl,⟨by omega,by omega,by omega⟩,hc,kB⟩,E.ab [1,6,7],I⟩
    refine RN 5 E I λa E=>?_;refine SS E (bR E Tryz.underlying58 rfl Ty.t58 (ht _ _ I)) λa E=>?_;refine CL 0 E I (acW I ng hc.ok hc.calm (by omega)) λa w E I=>?_;obtain⟨G',OC⟩:=kB.go (t:=t) hc.ok trivial trivial (by assumption);have OD:=hc.go (t:=t);refine RN 2 E I λa E=>?_;replace E:=E.aK 44;refine CL 1 E I (ac4 (I.pick (bV W D cy (dz cy t v))) OD.ok OC (by omega)) λa w E I=>?_;refine RN 2 E I λa E=>?_;replace E:=E.aK 48;refine RN 4 E I λa E=>?_;exact⟨pM-(i+1),by omega,i+1,c+10,dz cy t v,G',⟨rfl,⟨by omega,by omega,by omega⟩,OD,OC⟩,E.ab [1,6,7],I.sub⟩
   refine RT 2 E I ?_;exact⟨rfl,Ov tO I⟩
  refine RT 6 E I ?_;exact⟨rfl,Ov tO I⟩
 ·skip
  refine EN Tryz.func7 Tryz.ntmps7 rfl rfl λa E=>?_;refine BX 1 E I λb2 a w E I=>?_;change U W w (aa b2 28 (br tj)::_) at I;refine CL 2 E I (Oj I) λa w E I=>?_;refine RN 5 E I λa E=>?_;replace E:=E.aK 10;refine ST 3 E I (λa w E I=>?_);refine RN 0 E I λa E=>?_;replace I:U W w (aa b2 28 (br (cV tj 0))::_):=I;rw[← cw]at I;refine aY 1 (λw0 V=>Rd V b2 0 (br cf)) [1] [3000,1001,1002,3] E I λa w E I hH=>?_;have hC:=hH.at w (I.ai (b:=b2));refine RH 0 E I hH hC λa E=>?_;refine QH E (λw hc=>bR E Tryz.underlying28 rfl Ty.t28 (hc)) hC λa E=>?_;refine RH 0 E I hH hC λa E=>?_;refine aR 0 E I (Bj I) λadP a w E I=>?_;replace hC:=hH.at w (I.ai (b:=b2));refine RH 0 E I hH hC λa E=>?_;refine CL 0 E I (acN (cf:=cf) (tb:=[]) (adT:=none) (cT:=0) eb I rfl qv (by decide) (by decide) (by decide) (λV h=>aQ.nil)) λa w E I=>?_;replace hC:=hH.at w (I.ai (b:=b2));refine RH 1 E I hH hC λa E=>?_;refine RN 4 E I λa E=>?_;replace E:=E.dX 16;refine aY 2 (λw0 V=>Rd V b2 0 (br cf)) [1] [3000,1001,1002,3,4] E I λa w E I hH=>?_;have hC:=hH.at w (I.ai (b:=b2));refine RH 0 E I hH hC λa E=>?_;refine QH E (λw hc=>bR E Tryz.underlying28 rfl Ty.t28 (hc)) hC λa E=>?_;refine RH 0 E I hH hC λa E=>?_;refine aR 0 E I (Bj I) λafg a w E I=>?_;replace hC:=hH.at w (I.ai (b:=b2));refine RH 0 E I hH hC λa E=>?_;refine aR 0 E I (abv (cf:=cf) (tb:=[]) (adT:=none) (cT:=0) I (by decide) (by decide) rfl) λr a w E ⟨hr,I⟩=>?_;replace hC:=hH.at w (I.ai (b:=b2));refine RH 2 E I hH hC λa E=>?_;refine RT 0 E I ?_;have Et:r=false:=by
   cases r with
   | false=>rfl
   | true=>exact absurd (show j3 (cV cf 0) cy [] by rw[show cV cf 0=cf from by rw[cw];rfl];exact hr.1 rfl) eb
  rw[Et];exact⟨rfl,I.below⟩
end
section
set_option maxRecDepth 100000
theorem gh {x y:Bool}(h:x=true)(k:y=true):(x&&y)=true:=by rw[h,k];rfl
theorem ac6 {P:Program}{f:FuncId}{fn:Func}{s:ChangeSpec}{c:OpenClaim}(k1:c.wf (OpenSpec.ofChange s)=true)(k2:laidOutB P=true)(k3:mapsRowed P=true)(k4:fn.params.all (P.readableRec ·)=true)(x7:namedTie P c.named s.vars=true)
   (ac7:(c.stops==[])=true) (ac8:(P.stops==[])=true) (ac9:(c.knobs==[])=true) (ada:(P.stopKnobs==[])=true) (G3:(c.inPlace==P.inPlace f)=true) (B0:(c.unfollowed==P.unfollowed f)=true) (G4:(c.recurses==P.recurses f)=true) (G5:(c.named==P.varsNamed f)=true)
   (k14:(c.maps==(fn.params.toList++s.plain.varTypes P).any (P.mapsRec ·))=true) (k15:(c.ifaces==(fn.params.toList++s.plain.varTypes P).any (P.ifacesRec ·))=true) (k16:(c.mapsOut==P.mapsAmong fn.resultTypes.toList)=true)
   (k17:(c.loops==(fn.params.toList++s.plain.varTypes P).any (P.loopsFrom ·))=true) (k18:(c.wideKeys==(fn.params.toList++s.plain.varTypes P++fn.resultTypes.toList).any (P.wideKeysFrom ·))=true) (k19:s.vars.all (P.varReadable ·)=true) (k20:fn.resultTypes.all (λt=>P.readableRec t&&decide (t<P.types.size))=true)
   (k21:(c.ifacesOut==fn.resultTypes.toList.any (P.ifacesRec ·))=true) (k22:(c.loopsOut==fn.resultTypes.toList.any (P.loopsFrom ·))=true) (k23:(c.plainKeys==P.plainKeys)=true) (k24:c.shortTexts.isNone=true) (k25:P.stopsHeard=true) (k26:P.mayEnter=true) (k27:(c.lifted==P.liftsFinal)=true) (k28:(P.make==some c.make)=true)
   (k29:(c.kinds==(if c.domain.isEmpty then [] else fn.params.toList.map λt=>match P.underlying t with | some (.int k)=>some k | _=>none))=true) (k30:(c.pinned==c.pinnedBy)=true) (k31:(c.veiled==(fn.params.toList++s.plain.varTypes P++fn.resultTypes.toList).any (P.veiledRec ·))=true) (k32:c.veiledFits P fn.params.toList (fn.params.toList++s.plain.varTypes P++fn.resultTypes.toList)=true):joinedFacts P f fn s c=true:=by
 unfold joinedFacts;exact gh (gh (gh (gh (gh (gh (gh (gh (gh (gh (gh (gh (gh (gh (gh (gh (gh (gh (gh (gh (gh (gh (gh (gh (gh (gh (gh (gh (gh (gh (gh k1 k2) k3) k4) x7) ac7) ac8) ac9) ada) G3) B0) G4) G5) k14) k15) k16) k17) k18) k19) k20) k21) k22) k23) k24) k25) k26) k27) k28) k29) k30) k31) k32
theorem OE:laidOutB Tryz.prog=true:=by kernel_rfl
theorem adb:mapsRowed Tryz.prog=true:=by kernel_rfl
theorem ade:Tryz.prog.stopsHeard=true:=by kernel_rfl
theorem adf:Tryz.prog.mayEnter=true:=by kernel_rfl
theorem adg (c:OpenClaim)(h:c.plainKeys=Rows.matchNoneRow.plainKeys):(c.plainKeys==Tryz.prog.plainKeys)=true:=by
 rw[h];kernel_rfl
theorem adh (c:OpenClaim)(h:c.lifted=Rows.matchNoneRow.lifted):(c.lifted==Tryz.prog.liftsFinal)=true:=by
 rw[h];kernel_rfl
theorem adi (c:OpenClaim)(h:c.make=Rows.matchNoneRow.make):(Tryz.prog.make==some c.make)=true:=by
 rw[h];kernel_rfl
end
end Go.Proofs.YteoldcfapaiobaaGreat
