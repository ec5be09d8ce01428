/- A configuration and a way to guess that came in as arguments; quintainlaw5.Cut, quintainref21.MayAll. -/
import Derived.Test.YteoldcfapaiobaaGreatG06Ref
import Derived.Test.YteoldcfapaiobaaGreatG05Vm
import Derived.ChangeSame
import Derived.Test.YteoldcfapaiobaaGreatG12RefC
import Derived.Test.YteoldcfapaiobaaGreatG10Rank
import Derived.Test.YteoldcfapaiobaaGreatG13RefG
import Derived.Test.YteoldcfapaiobaaGreatG11Mul
import Derived.Test.YteoldcfapaiobaaGreatG08Pkt4
namespace Go.Proofs.YteoldcfapaiobaaGreat
open Tryz
open List (length_range drop_left take_zero nil_append length_nil mem_range getElem?_range ext_getElem getElem_map map_take map_drop range_succ getElem?_set_ne getElem?_set_self getLastD_eq_getLast?)
open Go.RowKit
set_option linter.unusedVariables false
set_option linter.unusedSimpArgs false
set_option maxRecDepth 10000
set_option synthInstance.maxSize 4000
set_option synthInstance.maxHeartbeats 400000
section
open Go.RowKit Go.ChangeShapes Go.WideShapes Go.ChangeAt
set_option linter.constructorNameAsVariable false
set_option maxRecDepth 100000
section
variable {W w:World}{L:List SP}{n cP cT:Nat}{adP adT:Option Addr}{p:Pr}{tb:List UInt8}{cf:Cf}
def nM (cf:Cf)(p:Pr)(tb:List UInt8):Prop:=eV cf∧dm p∧cY ⟨cf.bf,cf.order,tb⟩
theorem ack (I:U W w (aA W p adP cP::L))(hn:tb.length=n)(aH:p.title.size≤1000000000)(ea:p.ops.length≤1000000000)(eP:tb.length≤1099511627776)(hT:∀ w',U W w' (aA W p adP cP::L)→aX w' adT tb.length tb) :
   Calls prog 60 #[.agg (bV cf).toArray,.agg (bO p adP cP).toArray,.slice adT n cT] w λr w'=>(nM cf p tb∧∃ B:jr,r=.returned (.tuple #[pt B.pb,.int .i64 0])∧B.gs=⟨cf.bf,cf.order,tb⟩∧U W w' (aR W B p (eD p cf)::aA W p adP cP::L)) ∨
    (¬ nM cf p tb∧r=.returned (.tuple #[.pointer none,.int .i64 1])∧U W w' (aA W p adP cP::L)):=by
 subst hn;by_cases h1:eV cf
 ·obtain⟨n,me,aL,bq,df⟩:=Nb h1;generalize hg:cf.bf=bf at df;generalize ho:cf.order=order at df;by_cases h2:dm p∧cY ⟨bf,order,tb⟩
  ·have gf:nM cf p tb:=⟨h1,h2.1,by rw[hg,ho];exact h2.2⟩;rw[df]at h1 gf ⊢;exact (Nc (adT:=adT) (cT:=cT) I h1 h2.1 h2.2 aH ea eP hT).mono λr w' ⟨B,h3,h4,h5⟩=>.inl ⟨gf,B,h3,h4,h5⟩
  ·have gf:¬ nM cf p tb:=λh=>h2 ⟨h.2.1,by have:=h.2.2;rw[hg,ho]at this;exact this⟩;rw[df]at h1 gf ⊢;exact (aau (adT:=adT) (cT:=cT) I h1 h2 aH ea eP hT).mono λr w' ⟨h3,h4⟩=>.inr ⟨gf,h3,h4⟩
 ·exact (aat (adT:=adT) (cT:=cT) I h1 eP hT).mono λr w' ⟨h3,h4⟩=>.inr ⟨λh=>h1 h.1,h3,h4⟩
end
end
section
def fo (W:World)(M:jJ)(p:Pr)(cf:Cf)(i:Nat)(s:Pl):SP:=λh=>∃ m:Mu,(m.s=s∧MI p M (20*i+1) m∧fk s.k=cf)∧aF W M p m h
section
variable {W w:World}{L:List SP}{n c i N cP cT:Nat}{adP adT:Option Addr}{M:jJ}{x:UInt8}{p:Pr}{s:Pl}{m:Mu}{bs tb:List UInt8}{cf:Cf}{y:Int}
theorem fo.open (I:U W w (fo W M p cf i s::L)):∃ m:Mu,(m.s=s∧MI p M (20*i+1) m∧fk s.k=cf)∧U W w (aF W M p m::L):=I.jM λ_ h=>h
theorem fo.close (I:U W w (aF W M p m::L))(h:MI p M N m)(hN:N≤20*i+1)(hm:m.s=s)(hc:fk s.k=cf):U W w (fo W M p cf i s::L) :=
 U.shut (M:=zq W M p m) (aF.open I) λ_ q=>⟨m,⟨hm,h.more hN,hc⟩,q⟩
theorem acm (a6:dm p)(aH:p.title.size≤1000000000):Cp W 78 ⟨M.mb,0,none⟩ 267 269 270 268 266 264 265 101 p M.B.gs (fo W M p cf) where
 Hh:=λad w=>by kernel_rfl
 cP:=(by kernel_rfl)
 Hi:=λad w=>by kernel_rfl
 Hj:=(by kernel_rfl)
 Hk:=λad w=>by kernel_rfl
 cT:=(by kernel_rfl)
 Hl:=λad w=>by kernel_rfl
 Hm:=(by kernel_rfl)
 Hn:=λad w=>by kernel_rfl
 cE:=(by kernel_rfl)
 Cq:=λad w=>by kernel_rfl
 Cr:=(by kernel_rfl)
 Ho:=λad w=>by kernel_rfl
 Hq:=(by kernel_rfl)
 Hr:=λad w=>by kernel_rfl
 Hs:=(by kernel_rfl)
 al:=λw L i s x hi hw I=>by
  replace I:=fo.open I;obtain⟨m,⟨rfl,hI,hc⟩,I⟩:=I;exact (aa6 (x:=x) I hI a6 aH (by omega)).mono λr w' ⟨m',h1,⟨h2,h3,_⟩,I⟩=>⟨h1,fo.close I h3 (by omega) h2 ((l7.al hI.wf x).cf.trans hc)⟩
 recv:=λw L i s bs a c hi hw hb hc hp I=>by
  replace I:=fo.open I;obtain⟨m,⟨rfl,hI,df⟩,I⟩:=I;exact (aa7 I hI a6 aH (by omega) hb hc hp).mono λr w' ⟨m',h1,⟨h2,h3⟩,I⟩=>⟨h1,fo.close I h3 (by omega) h2 ((l7.recv hI.wf bs).cf.trans df)⟩
 tick:=λw L i s hi hw hn I=>by
  replace I:=fo.open I;obtain⟨m,⟨rfl,hI,hc⟩,I⟩:=I;exact (aa8 I hI hn).mono λr w' ⟨a,c,h1,h2,I⟩=>⟨a,c,h1,(fo.close (I.perm (cZ _ _ _)) h2 (by omega) rfl ((GZ _).trans hc)).perm (cZ _ _ _)⟩
 o7:=λw L i s hi hw I=>by
  replace I:=fo.open I;obtain⟨m,⟨rfl,hI,hc⟩,I⟩:=I;exact (aa9 I hI).mono λr w' ⟨a,c,h1,h2,I⟩=>⟨a,c,h1,(fo.close (I.perm (cZ _ _ _)) h2 (by omega) rfl ((G0 _).trans hc)).perm (cZ _ _ _)⟩
 events:=λw L i s hi hw I=>by
  replace I:=fo.open I;obtain⟨m,⟨rfl,hI,hc⟩,I⟩:=I;exact (aba I hI).mono λr w' ⟨a,c,h1,h2,I⟩=>⟨a,c,h1,(fo.close (I.perm (cZ _ _ _)) h2 (by omega) rfl hc).perm (cZ _ _ _)⟩
 Cs:=λw L i s hi hw I=>by
  replace I:=fo.open I;obtain⟨m,⟨rfl,hI,hc⟩,I⟩:=I;exact (abb I hI).mono λr w' ⟨a,c,h1,I⟩=>⟨a,c,h1,(fo.close (I.perm (cZ _ _ _)) hI (a7 _) rfl hc).perm (cZ _ _ _)⟩
 Ht:=λw L i s hi hw I=>by
  replace I:=fo.open I;obtain⟨m,⟨rfl,hI,hc⟩,I⟩:=I;exact (ace I hI a6 aH).mono λr w' ⟨a,c,h1,I⟩=>⟨a,c,h1,(fo.close (I.perm (cZ _ _ _)) hI (a7 _) rfl hc).perm (cZ _ _ _)⟩
 closed:=λw L i s hi hw I=>by
  replace I:=fo.open I;obtain⟨m,⟨rfl,hI,hc⟩,I⟩:=I;exact (zr I).mono λr w' ⟨h1,I⟩=>⟨h1,fo.close I hI (a7 _) rfl hc⟩
theorem acn (I:U W w (fo W M p cf i s::L))(a6:dm p)(aH:p.title.size≤1000000000)(hi:i≤1000000) :
   Calls prog 62 #[pt M.mb,.int .i64 y] w λe w'=>∃ z:Bool,e=.returned (.bool z)∧(z=true→s.k.cl=false∧0≤y∧y<s.k.workers)∧U W w' (fo W M p cf (i+1) s::L):=by
 replace I:=fo.open I;obtain⟨m,⟨rfl,hI,hc⟩,I⟩:=I;have h4:=hI.ks;by_cases hn:m.s.k.cl=true∨y<0∨(m.ks.length:Int)≤y
 ·exact (abc I hn h4).mono λe w' ⟨h1,I⟩=>⟨false,h1,λh=>(by cases h),fo.close I hI (by omega) rfl hc⟩
 ·have cn : m.s.k.cl = false := by
   cases h:m.s.k.cl with
   | false=>rfl
   | true=>exact absurd (.inl h) hn
  have hy:0≤y∧y<(m.ks.length:Int):=⟨by
   rcases Int.lt_or_le y 0 with h | h
   ·exact absurd (.inr (.inl h)) hn
   ·exact h,by
   rcases Int.lt_or_le y (m.ks.length:Int) with h | h
   ·exact h
   ·exact absurd (.inr (.inr h)) hn⟩
  obtain⟨j,rfl⟩:=su hy.1;obtain⟨⟨k,wb⟩,hk⟩:∃ z,m.ks[j]?=some z:=⟨_,aD (by omega)⟩;exact (abd I hI cn hk a6 aH (by omega)).mono λe w' ⟨z,A',T',J',k',h1,⟨_,h2⟩,I⟩=>⟨z,h1,λ_=>⟨cn,hy.1,by rw[hI.workers];exact hy.2⟩,fo.close I h2 (by omega) rfl hc⟩
theorem aco (h:eV cf):∃ n me aL bq nb nw rm:Nat,cf=⟨n,me,cf.id,aL,bq,cf.bf,cf.order,nb,nw,rm⟩:=by
 obtain⟨n,me,id,aL,bq,bf,order,cv,workers,room⟩:=cf;simp only[eV,fB]at h;obtain⟨⟨h1,h2,h3⟩,⟨h4,h5,h6,h7⟩,h8,h9,fg,lP⟩:=h;exact⟨n.toNat,me.toNat,aL.toNat,bq.toNat,cv.toNat,workers.toNat,room.toNat,by
  simp only[Cf.mk.injEq];refine⟨?_,?_,?_,?_,?_,?_,?_,?_,?_,?_⟩ <;> first | trivial | omega⟩
theorem acp (h:eV cf):fk (eD p cf).k=cf:=by
 obtain⟨ps,ev,mr,hk⟩:∃ ps ev mr,(eD p cf).k={ fl cf with ps:=ps,ev:=ev,mr:=mr }:=(xn (p:=p) (c:=cf) h).eC.2.2;rw[hk];exact (WC.new h).2.2
theorem acq (gf:nM cf p tb)(I:U W w (aA W p adP cP::L))(hn:tb.length=n)(aH:p.title.size≤1000000000)(ea:p.ops.length≤1000000000)(eP:tb.length≤1099511627776)(hT:∀ w',U W w' (aA W p adP cP::L)→aX w' adT tb.length tb) :
   Calls prog 59 #[.agg (bV cf).toArray,.agg (bO p adP cP).toArray,.slice adT n cT] w λr w'=>∃ M:jJ,r=.returned (.tuple #[pt M.mb,.int .i64 0])∧M.B.gs=⟨cf.bf,cf.order,tb⟩∧U W w' (fo W M p cf 0 (eD p cf)::aA W p adP cP::L):=by
 subst hn;obtain⟨h1,h2,h3⟩:=gf;have Oo:=acp (p:=p) h1;obtain⟨n,me,aL,bq,nb,nw,rm,df⟩:=aco h1;generalize cf.bf=bf at df h3 ⊢;generalize cf.order=order at df h3 ⊢;generalize cf.id=id at df;rw[df]at h1 Oo ⊢;exact (aci (adT:=adT) (cT:=cT) I h1 h2 h3 aH ea eP hT).mono λr w' ⟨M,m,h4,⟨h5,h6,h7,_⟩,I⟩=>⟨M,h4,h5,fo.close I h7 (by omega) h6 Oo⟩
theorem acr (hm:eV cf)(I:U W w (aA W p adP cP::L))(hn:tb.length=n)(a6:dm p)(aH:p.title.size≤1000000000) :
   Calls prog 46 #[.agg (bV cf).toArray,.agg (bO p adP cP).toArray,.slice adT n cT] w λr w'=>∃ B:gd,r=.returned (pt B.pb)∧(B.gs=⟨cf.bf,cf.order,tb⟩∧B.adT=adT)∧U W w' (bZ W B p (eD p cf)::L):=by
 subst hn;obtain⟨n,me,aL,bq,df⟩:=Nb hm;generalize cf.bf=bf at df ⊢;generalize cf.order=order at df ⊢;rw[df]at hm ⊢;exact abM I hm a6 aH
end
end
section
theorem Sn.acs (A:Sn):A.used≤A.room:=by
 have:=List.countP_le_length (p:=λp=>decide (0<cS A.ar p)) (l:=List.range A.room);rw[length_range]at this;exact this
theorem Oq {p:Nat}:∀ (l:List aC),(∀ x∈l,∀ k,k<4→x.p k≠p)→cS l p=0
 | [],_=>rfl
 | x::l,h=>by
  rw[tg,DY (h x (iJ ..)),Oq l λy hy=>h y (gF _ hy)]
theorem Ot {A:Sn}{p:Nat}(h:∀ x∈A.ar,∀ k,k<4→x.p k<A.room)(hp:A.room≤p):cS A.ar p=0 :=
 Oq _ λx hx k hk e=>by have:=h x hx k hk;omega
def vG (l:List aC)(m:Nat):Nat:=(List.range m).countP λp=>decide (0<cS l p)
theorem Ou (l:List aC)(m:Nat):vG l (m+1)=vG l m+if 0<cS l m then 1 else 0:=by
 rw[vG,range_succ,List.countP_append,List.countP_singleton,vG];by_cases h:0<cS l m <;> simp[h]
theorem acu (l:List aC)(m:Nat):vG l m≤m:=by
 have:=List.countP_le_length (p:=λp=>decide (0<cS l p)) (l:=List.range m);rw[length_range]at this;exact this
theorem acv {A:Sn}(h:∀ x∈A.ar,∀ k,k<4→x.p k<A.room){m:Nat}(hm:A.room≤m):vG A.ar m=A.used:=by
 induction m with
 | zero=>rw[Sn.used,show A.room=0 from by omega];rfl
 | succ m ih =>
  rcases gR m A.room with h1 | h1
  ·rw[Sn.used,show A.room=m+1 from by omega];rfl
  ·rw[Ou,ih h1,Ot h h1];rfl
def pq (l:List aC)(j:Nat):Int:=if j=0 then 0 else (cS l (j-1):Nat)
def om (l:List aC)(x:aC)(k j:Nat):Int:=if j=0 then 0 else ((cS l (j-1)+jf x (j-1) k:Nat):Int)
theorem acw:pq []=λ_=>0:=by
 funext j;unfold pq;split <;> rfl
theorem acx (l:List aC)(x:aC):om l x 0=pq l:=by
 funext j;unfold om pq;simp[AB]
theorem acy {l:List aC}{i:Nat}{x:aC}(h:l[i]?=some x):om (l.take i) x 4=pq (l.take (i+1)):=by
 obtain⟨hi,rfl⟩:=aY.1 h
 funext j
 unfold om pq;rw[jx hi,yf,tg,DZ];rfl
theorem acz (l:List aC)(x:aC)(k:Nat):(λj=>if j=x.p k+1 then om l x k (x.p k+1)+1 else om l x k j)=om l x (k+1):=by
 funext j
 by_cases h:j=x.p k+1
 ·subst h;rw[ak rfl];simp only[om,ag (Nat.succ_ne_zero _),yM];rw[k7,ak rfl];omega
 ·rw[ag h];unfold om;split
  ·rfl
  ·rw[k7,ag (by omega)];simp
theorem acA (l:List aC)(x:aC)(k j:Nat)(hk:k≤4):0≤om l x k j∧om l x k j≤4*l.length+4:=by
 unfold om;have h1:=D1 l (j-1);have h2:=te x (j-1) hk;have h3:=JD x (j-1);have h4:jf x (j-1) 4=hU x (j-1):=rfl;split <;> omega
theorem acB (l:List aC)(p:Nat):pq l (p+1)=(cS l p:Nat):=by simp[pq]
section
variable {W w:World}{L:List SP}{q b i r:Nat}{ps:List Pg}{A:Sn}
theorem acC (I:U W w (Room q b ps::L))(hn:∀ h:i<ps.length,ps[i].refs=0)(hi:i<1000) :
   Calls prog 122 #[pt q,.int .i64 ((i:Int)+1)] w λe w'=>e=.returned (.pointer none)∧U W w' (Room q b ps::L):=by
 obtain⟨hp,I⟩:=Room.open I;by_cases aI:i<ps.length
 ·have hr:=hn aI;refine EN func122 ntmps122 rfl rfl λa E=>?_;refine RN 7 E I λa E=>?_;replace E:=E.aP 7;refine RN 4 E I λa E=>?_;rw[bo (by omega)]at E;refine RN 9 E I λa E=>?_;rw[bo (by omega)]at E;refine RN 6 E I λa E=>?_;rw[show (i:Int)+1-1=(i:Int) from by omega]at E;refine RN 2 E I λa E=>?_;refine bw E (cw E rfl (s:=20)) (ae E (I.bz (s9 aI))) rfl λa E=>?_;refine RN 2 E I λa E=>?_;rw[dk (by omega)]at E;refine RT 3 E I ?_;exact⟨rfl,(Room.close (n:=_) I rfl hp)⟩
 ·
   refine EN func122 ntmps122 rfl rfl λa E=>?_;refine RN 7 E I λa E=>?_;replace E:=E.aP 7;refine RN 4 E I λa E=>?_;rw[bo (by omega)]at E;refine RN 9 E I λa E=>?_;rw[dk (by omega)]at E;refine RT 14 E I ?_;exact⟨rfl,(Room.close (n:=_) I rfl hp)⟩
theorem acD (I:U W w (Room q b ps::L))(hn:∀ h:i<ps.length,ps[i].refs=0)(hi:i<1000) :
   Calls prog 86 #[pt q,.int .i64 ((i:Int)+1)] w λe w'=>e=.returned (.int .i64 0)∧U W w' (Room q b ps::L):=by
 refine EN func86 ntmps86 rfl rfl λa E=>?_;refine CL 5 E I (acC I hn hi) λa w E I=>?_;refine RN 5 E I λa E=>?_;replace E:=E.ed 10;refine RT 3 E I ?_;exact⟨rfl,I⟩
theorem acE (I:U W w (ax q r A::L))(hi:i<1000) :
   Calls prog 86 #[pt r,.int .i64 ((i:Int)+1)] w λe w'=>e=.returned (.int .i64 (cS A.ar i))∧U W w' (ax q r A::L):=by
 have hf:=(ax.facts I).2;obtain⟨b,m,ps,xs,h1,hw,hr,I⟩:=ax.open I;by_cases hl:∃ h:i<ps.length,0<ps[i].refs
 ·obtain⟨h3,h4⟩:=hl;refine (As (I.pick (Room r b ps)) h3 h4).mono λe w' ⟨h2,I⟩=>?_;rw[hr.refs _ _ (aD h3)]at h2;exact⟨h2,ax.close (b:=b) (m:=m) (ps:=ps) I h1 hw hr⟩
 ·have hn : ∀ h : i < ps.length, ps[i].refs = 0 := fun h => by
   rcases lI ps[i].refs with h2 | h2
   ·exact h2
   ·exact absurd ⟨h,h2⟩ hl
  have h0:cS A.ar i=0:=by
   by_cases h:i<ps.length
   ·rw[← hr.refs _ _ (aD h)];exact hn h
   ·exact Ot hf (by rw[← hr.len];omega)
  refine (acD (I.pick (Room r b ps)) hn hi).mono λe w' ⟨h2,I⟩=>?_;rw[h0];exact⟨h2,ax.close (b:=b) (m:=m) (ps:=ps) I h1 hw hr⟩
end
end
section
theorem acF (k:IntKind)(m:Nat)(x:Int):List.replicate m (Value.int k x)=ints k m (λ_=>x):=by
 rw[ints,fn];exact (ext_getElem (by simp) (by simp))
section
variable {W w:World}{L:List SP}{N:Nat}{M:jJ}{p:Pr}{m:Mu}{cf:Cf}{x:Int}
set_option maxHeartbeats 4000000 in
theorem acG (I:U W w (aF W M p m::L))(h:MI p M N m)(df:fk m.s.k=cf) :
   Calls prog 56 #[pt M.mb,.agg (bV cf).toArray] w λe w'=>e=.returned (.bool true)∧U W w' (aF W M p m::L):=by
 have Gq:cf.cv=(m.T.most:Int):=by rw[← df];exact h.most
 have oe:cf.workers=(m.ks.length:Int):=by rw[← df];exact h.workers
 have rW:(m.A.room:Int)=4*cf.room:=by rw[← df];exact h.room.1
 have mX:=h.ks;obtain⟨t,hI⟩:=h.inv;have hlen:=hI.len;have NQ:(jC (m.ks.map (·.1))).length≤m.ks.length:=by
  have h1:=pR (λk:Wk=>k.busy) (m.ks.map (·.1));rw[a8]at h1;rw[jC,a8];exact h1
 clear df;replace I:=aF.open I;have lj:=(Tree.wt (I.tree M.tq)).most;have Cy:=ax.facts (I.store M.sq);have pM:=ax.wq (I.store M.sq);have hur:=Sn.acs m.A;have l5:=Cy.1.room;obtain⟨s,A,T,J,ks,base,front⟩:=m;dsimp only at Gq oe rW mX hlen NQ lj Cy pM hur l5 I;have ik:=acv Cy.2 (m:=200) l5;refine EN func56 ntmps56 rfl rfl λa E=>?_;refine BX 1 E I λb3 a w E I=>?_;change U W w (aa b3 28 (bV cf)::_) at I;refine RN 3 E I λa E=>?_;replace I:=aF.fold I M p ⟨s,A,T,J,ks,base,front⟩;refine CL 0 E I (aaA I) λa w E I=>?_;refine RN 3 E I λa E=>?_;replace I:=aF.open I;dsimp only at I;refine aZ 0 E I (Vw (I.store M.sq)) λec zH a w E I=>?_;refine aV 3 (λw0 w'=>Rd w' b3 0 (bV cf)) [5,25,26] [0,1,2,4,3003,1005,6,7,8,9,10,11,12,13,14,17,18,19,1015,1016,20,21,22,23,24,27,3028,29,1025,1026,30,31] E I λa w E I hH=>?_;have hC:=hH.at w (I.ai (b:=b3));refine RH 4 E I hH hC λa E=>?_;refine QH E (λw hc=>ae E (hc 7 _ rfl)) hC λa E=>?_;refine RH 0 E I hH hC λa E=>?_;refine SS E (ae E (hC 8 _ rfl)) λa E=>?_;refine RH 4 E I hH hC λa E=>?_;rw[bo (by omega)]at E;refine RH 4 E I hH hC λa E=>?_;rw[dk (by omega)]at E;refine RH 4 E I hH hC λa E=>?_;refine CL 0 E I (AJ (I.store M.sq)) λa w E I=>?_;refine CL 0 E I (D8 (I.store M.sq)) λa w E I=>?_;refine RN 4 E I λa E=>?_;rw[bo (by omega)]at E;refine RN 2 E I λa E=>?_;replace hC:Rd w b3 0 (bV cf):=I.ai (b:=b3);refine QH E (λw hc=>ae E (hc 9 _ rfl)) hC λa E=>?_;refine CL 1 E I (AJ (I.store M.sq)) λa w E I=>?_;replace hC:=hH.at w (I.ai (b:=b3));refine RH 0 E I hH hC λa E=>?_;refine CL 0 E I (D8 (I.store M.sq)) λa w E I=>?_;replace hC:=hH.at w (I.ai (b:=b3));refine RH 2 E I hH hC λa E=>?_;rw[bo (by omega)]at E;refine AL 2 E I λdt a w E I=>?_;rw[acF]at I;refine RN 3 E I λa E=>?_;refine aN (λμ a w=>∃ (i:Nat),(μ=A.ar.length-i∧i≤A.ar.length)∧Fr a 120 [(0,pt M.mb),(3,pt b3),(5,pt M.sq),(6,.slice ec A.ar.length zH),(7,pt dt),(8,.int .i64 i)]∧U W w (aa dt 164 (ints .i64 201 (pq (A.ar.take i)))::Sl 166 1 ec A.ar.length zH (A.ar.map λx=>.int .i64 x.id)::ax M.sq M.r A::aa b3 28 (bV cf)::aa M.mb 177 (dV p M ks.length base front)::aR W M.B p s::aA W p M.aq M.cO::Sl 179 1 M.dw ks.length M.dG (gW ks)::ah (e9 p M.aq M.cO M.tq M.jq M.sq) ks::Tree M.tq M.sq T::bI M.jq J::L)) (A.ar.length) (⟨0,⟨rfl,by omega⟩,E.ab [0,3,5,6,7,8],by rw[take_zero,acw];exact I.sub⟩) ?_;clear E I;rintro μ a w ⟨i,⟨rfl,hi⟩,E,I⟩;refine IF 6 E I (λao a E=>?_) λao a E=>?_
 ·
  obtain⟨x,hx⟩:∃ x,A.ar[i]?=some x:=⟨_,aD (by omega)⟩;obtain⟨bv,Ov,rfl,Ce⟩:=(I.pick (Sl 166 1 ec A.ar.length zH (A.ar.map λx=>.int .i64 x.id))).bU ec (by omega);have zy:=Ce i (.int .i64 x.id) (by rw[bl,hx];rfl);have AN:=Cy.2 x (bF hx);have bN:=acy hx;have eP:(A.ar.take i).length≤200:=by rw[eA];omega
  clear Ce;refine RN 6 E I λa E=>?_;refine SS E (ae E (zy)) λa E=>?_;refine aZ 0 E I (JQ (I.store M.sq) hx) λc1 dT a w E I=>?_;refine RN 6 E I λa E=>?_;replace E:=E.aP 63;refine RN 3 E I λa E=>?_;refine aN (λμ a w=>∃ (k:Nat),(μ=4-k∧k≤4)∧Fr a 120 [(0,pt M.mb),(3,pt b3),(5,pt M.sq),(6,.slice (some ⟨bv,Ov,none⟩) A.ar.length zH),(7,pt dt),(8,.int .i64 i),(9,.slice c1 4 dT),(10,.int .i64 k)]∧U W w (aa dt 164 (ints .i64 201 (om (A.ar.take i) x k))::Sl 3 1 c1 4 dT (ints .i64 4 (λk=>(x.p k:Int)+1))::Sl 166 1 (some ⟨bv,Ov,none⟩) A.ar.length zH (A.ar.map λx=>.int .i64 x.id)::ax M.sq M.r A::aa b3 28 (bV cf)::aa M.mb 177 (dV p M ks.length base front)::aR W M.B p s::aA W p M.aq M.cO::Sl 179 1 M.dw ks.length M.dG (gW ks)::ah (e9 p M.aq M.cO M.tq M.jq M.sq) ks::Tree M.tq M.sq T::bI M.jq J::L)) (4) (⟨0,⟨rfl,by omega⟩,E.ab [0,3,5,6,7,8,9,10],by rw[acx];exact I.sub⟩) ?_;clear E I;rintro μ a w ⟨k,⟨rfl,hk⟩,E,I⟩;refine IF 4 E I (λbk a E=>?_) λbk a E=>?_
  ·
   obtain⟨bp,op,rfl,fj⟩:=(I.pick (Sl 3 1 c1 4 dT (ints .i64 4 (λk=>(x.p k:Int)+1)))).bU c1 (by omega);have vk:=fj k _ (fV _ (by omega));have eo:=AN k (by omega);have MS:=acA (A.ar.take i) x k (x.p k+1) (by omega);clear fj;refine RN 6 E I λa E=>?_;refine SS E (ae E (vk)) λa E=>?_;refine RN 2 E I λa E=>?_;rw[bo (by omega)]at E;refine RN 3 E I λa E=>?_;refine bw E (cw E rfl (s:=73)) (ae E (vk)) rfl λa E=>?_;refine RN 2 E I λa E=>?_;rw[bo (by omega)]at E;refine RN 4 E I λa E=>?_;refine SS E (ae E (vk)) λa E=>?_;rw[show ((x.p k:Nat):Int)+1=((x.p k+1:Nat):Int) from rfl]at E;refine RN 1 E I λa E=>?_;refine SS E (ae E (I.bz (fV _ (by omega)))) λa E=>?_;refine ST 2 E I (λa w E I=>?_) (hlt:=(by rw[dj];omega));rw[ints_set,acz]at I;refine RN 3 E I λa E=>?_;exact⟨4-(k+1),by omega,k+1,⟨rfl,by omega⟩,E.ab [0,3,5,6,7,8,9,10],I.sub⟩
  refine RN 3 E I λa E=>?_;obtain rfl:k=4:=by omega
  rw[bN]at I;exact⟨A.ar.length-(i+1),by omega,i+1,⟨rfl,by omega⟩,E.ab [0,3,5,6,7,8],I.sub⟩
 obtain rfl:i=A.ar.length:=by omega
 rw[k4]at I;refine RN 5 E I λa E=>?_;refine aN (λμ a w=>∃ (q:Nat),(μ=200-q∧q≤200)∧Fr a 120 [(0,pt M.mb),(3,pt b3),(5,pt M.sq),(7,pt dt),(11,.int .i64 (vG A.ar q:Nat)),(12,.int .i64 ((q:Int)+1))]∧U W w (ax M.sq M.r A::aa dt 164 (ints .i64 201 (pq A.ar))::aa b3 28 (bV cf)::aa M.mb 177 (dV p M ks.length base front)::aR W M.B p s::aA W p M.aq M.cO::Sl 179 1 M.dw ks.length M.dG (gW ks)::ah (e9 p M.aq M.cO M.tq M.jq M.sq) ks::Tree M.tq M.sq T::bI M.jq J::L)) (200) (⟨0,⟨rfl,by omega⟩,by have h9:=E.ab [0,3,5,7,11,12];exact h9,I.sub⟩) ?_;clear E I;rintro μ a w ⟨q,⟨rfl,hq⟩,E,I⟩;refine IF 4 E I (λeN a E=>?_) λeN a E=>?_
 ·
  have Ow:=acB A.ar q;have fL:=Ou A.ar q;have eo:=acu A.ar q;have cn:=D1 A.ar q;have mn:q<200:=by omega
  refine aV 3 (λw0 w'=>w'.cell? ⟨dt,q+1,none⟩=some (.int .i64 (pq A.ar (q+1)))) [1,3] [0,2,4,5,3006,1001,1003,7] E I λa w E I hH=>?_;have hC:=hH.at w (I.bz (b:=dt) (fV _ (by omega)));refine RH 3 E I hH hC λa E=>?_;rw[show ((q:Nat):Int)+1=((q+1:Nat):Int) from rfl]at E;refine RH 1 E I hH hC λa E=>?_;refine QH E (λw hc=>ae E (hc)) hC λa E=>?_;refine RH 0 E I hH hC λa E=>?_;refine CL 0 E I (AJ I) λa w E I=>?_;replace hC:=hH.at w (I.bz (b:=dt) (fV _ (by omega)));refine RH 0 E I hH hC λa E=>?_;refine CL 0 E I (acE I (by omega)) λa w E I=>?_;replace hC:=hH.at w (I.bz (b:=dt) (fV _ (by omega)));refine RH 1 E I hH hC λa E=>?_;rw[Ow,show decide ((cS A.ar q:Nat)≠((cS A.ar q:Nat):Int))=false from by simp]at E;replace E:=E.aP 99;refine RN 4 E I λa E=>?_;refine SS E (ae E (I.bz (b:=dt) (fV _ (by omega)))) λa E=>?_;rw[Ow]at E;refine IF 1 E I (λmU a E=>?_) λmU a E=>?_
  ·
   refine RN 6 E I λa E=>?_;exact⟨200-(q+1),by omega,q+1,⟨rfl,by omega⟩,by rw[fL,ak (by omega)];exact E.ab [0,3,5,7,11,12],I.sub⟩
  refine RN 3 E I λa E=>?_;exact⟨200-(q+1),by omega,q+1,⟨rfl,by omega⟩,by rw[fL,ag (by omega)];exact E.ab [0,3,5,7,11,12],I.sub⟩
 obtain rfl:q=200:=by omega
 rw[ik]at E;refine aV 1 (λw0 w'=>Rd w' b3 0 (bV cf)) [7,8,9] [0,1,1002,1003,4,5,6,10,3011,1007,1008,1009,12,13,14] E I λa w E I hH=>?_;have hC:=hH.at w (I.ai (b:=b3));refine RH 2 E I hH hC λa E=>?_;refine CL 0 E I (AJ I) λa w E I=>?_;refine CL 0 E I (D8 I) λa w E I=>?_;refine RN 2 E I λa E=>?_;rw[dk (by omega)]at E;refine RN 2 E I λa E=>?_;replace hC:Rd w b3 0 (bV cf):=I.ai (b:=b3);refine QH E (λw hc=>ae E (hc 7 _ rfl)) hC λa E=>?_;replace I:=aF.fold I M p ⟨s,A,T,J,ks,base,front⟩;refine CL 0 E I (aaB I) λa w E I=>?_;replace hC:=hH.at w (I.ai (b:=b3));replace I:=aF.open I;dsimp only at I;refine RH 0 E I hH hC λa E=>?_;refine aZ 0 E I (AM (I.tree M.tq)) λub re a w E I=>?_;replace hC:=hH.at w (I.ai (b:=b3));refine RH 4 E I hH hC λa E=>?_;refine RT 0 E I ?_;exact⟨by rw[dk (by omega)],(aF.fold I.tail M p ⟨s,A,T,J,ks,base,front⟩).sub⟩
end
end
section
section
variable {W w:World}{L:List SP}{c i cP cT:Nat}{p:Pr}{s:Pl}{B:jr}
theorem acH (a6:dm p)(aH:p.title.size≤1000000000)(fE:cY B.gs):Cp W 139 ⟨B.pb,0,none⟩ 282 284 285 283 281 273 276 141 p B.gs (λ_ s=>aR W B p s) where
 Hh:=λad w=>by kernel_rfl
 cP:=(by kernel_rfl)
 Hi:=λad w=>by kernel_rfl
 Hj:=(by kernel_rfl)
 Hk:=λad w=>by kernel_rfl
 cT:=(by kernel_rfl)
 Hl:=λad w=>by kernel_rfl
 Hm:=(by kernel_rfl)
 Hn:=λad w=>by kernel_rfl
 cE:=(by kernel_rfl)
 Cq:=λad w=>by kernel_rfl
 Cr:=(by kernel_rfl)
 Ho:=λad w=>by kernel_rfl
 Hq:=(by kernel_rfl)
 Hr:=λad w=>by kernel_rfl
 Hs:=(by kernel_rfl)
 al:=λw L i s x _ hw I=>M3 I hw a6 aH
 recv:=λw L i s bs a c _ hw hb hc hp I=>M4 I hw a6 aH hb hc hp
 tick:=λw L i s _ hw hn I=>M5 I hw hn
 o7:=λw L i s _ hw I=>M6 I hw
 events:=λw L i s _ hw I=>M7 I
 Cs:=λw L i s _ hw I=>M9 I hw
 Ht:=λw L i s _ hw I=>Na I hw a6 aH fE
 closed:=λw L i s _ hw I=>M8 I
end
end
section
inductive fP where
 | mu (M:jJ)
 | pl (B:jr)
structure fF where
 cf:Cf
 z:fP
def fP.t:fP→TypeId
 | .mu _=>78
 | .pl _=>139
def fP.ad:fP→Addr
 | .mu M=>⟨M.mb,0,none⟩
 | .pl B=>⟨B.pb,0,none⟩
def fP.gs:fP→Gs
 | .mu M=>M.B.gs
 | .pl B=>B.gs
def fP.f (a b:FuncId):fP→FuncId
 | .mu _=>a
 | .pl _=>b
def fF.J (W:World)(p:Pr)(x:fF)(i:Nat)(s:Pl):SP:=match x.z with
 | .mu M=>fo W M p x.cf i s
 | .pl B=>aR W B p s
def vu (z:fP):=z.f 267 282
def vv (z:fP):=z.f 269 284
def vw (z:fP):=z.f 270 285
def vx (z:fP):=z.f 268 283
def vy (z:fP):=z.f 266 281
def vz (z:fP):=z.f 264 273
def vA (z:fP):=z.f 265 276
def vB (z:fP):=z.f 101 141
abbrev cC (x:fF×Pl):Value:=.iface x.1.z.t (.pointer (some x.1.z.ad))
def cA (W:World)(p:Pr)(c:Nat)(x:fF×Pl):SP:=x.1.J W p c x.2
abbrev kx:=Option Addr×Nat×List ko
abbrev bx (x:kx):Value:=.slice x.1 x.2.2.length x.2.1
def ew (x:kx):SP:=Sl 135 1 x.1 x.2.2.length x.2.1 (x.2.2.map cB)
structure iV where
 mb:Nat
 q:Nat
 fx:List fF
structure oq where
 adL:Option Addr
 cL:Nat
 adE:Option Addr
 cE:Nat
 xs:List (fF×Pl)
 es:List kx
def cI (m:Ml):po:=((m.1:Int),(m.2.1:Int),m.2.2)
abbrev jY (B:iV)(A:oq):List Value:=[.slice A.adL A.xs.length A.cL,pt B.q,.slice A.adE A.es.length A.cE]
structure oq.Ok (A:oq)(B:iV)(v:Wd):Prop where
 fx:A.xs.map (·.1)=B.fx
 ps:A.xs.map (·.2)=v.ps
 ev:A.es.map (·.2.2)=v.ev
def aE (W:World)(B:iV)(p:Pr)(c:Nat)(v:Wd):SP:=λh=>∃ A:oq,A.Ok B v ∧
 cm [aa B.mb 107 (jY B A),Sl 81 1 A.adL A.xs.length A.cL (A.xs.map cC),ah (cA W p c) A.xs,bG B.q (v.net.map cI),Sl 90 1 A.adE A.es.length A.cE (A.es.map bx),ah ew A.es] h
section
variable {W w:World}{L R:List SP}{n c i:Nat}{ad adE:Option Addr}{p:Pr}{B:iV}{A:oq}{v:Wd}{x:fF}{s:Pl}{y:Int}
theorem fF.q5 (x:fF)(a6:dm p)(aH:p.title.size≤1000000000)(fE:cY x.z.gs):Cp W x.z.t x.z.ad (vu x.z) (vv x.z) (vw x.z) (vx x.z) (vy x.z) (vz x.z) (vA x.z) (vB x.z) p x.z.gs (x.J W p):=by
 obtain⟨cf,z⟩:=x;cases z with
 | mu M=>exact acm a6 aH
 | pl B=>exact acH a6 aH fE
theorem fF.more {j:Nat}(x:fF)(h:i≤j):∀ hp,x.J W p i s hp→x.J W p j s hp:=by
 obtain⟨cf,z⟩:=x;cases z with
 | mu M=>exact λhp ⟨m,⟨h1,h2,h3⟩,h4⟩=>⟨m,⟨h1,h2.more (by omega),h3⟩,h4⟩
 | pl B=>exact λhp h=>h
theorem Ox {α:Type}{f g:α→SP}(k:∀ x h,f x h→g x h):∀ {l:List α} {h:Hp},cm (l.map f) h→cm (l.map g) h
 | [],_,h=>h
 | _::l,_,⟨h1,h2,d,a,b,p,q⟩=>⟨h1,h2,d,a,b,k _ _ p,Ox k q⟩
theorem U.acI {A A':SP}(I:U W w (A::L))(k:∀ h,A h→A' h):U W w (A'::L):=⟨I.below,let ⟨h,p,h1,h2,d,a,b,x,y⟩:=I.sat;⟨h,p,h1,h2,d,a,b,k _ x,y⟩⟩
theorem U.sE {xs:List (fF×Pl)}{d:Nat}(I:U W w (ah (cA W p c) xs::L))(h:c≤d):U W w (ah (cA W p d) xs::L) :=
 I.acI λ_ h1=>Ox (λx h2 h3=>x.1.more h h2 h3) h1
theorem aE.open (I:U W w (aE W B p c v::L)):∃ A:oq,A.Ok B v∧U W w (aa B.mb 107 (jY B A)::Sl 81 1 A.adL A.xs.length A.cL (A.xs.map cC)::ah (cA W p c) A.xs::bG B.q (v.net.map cI)::Sl 90 1 A.adE A.es.length A.cE (A.es.map bx)::ah ew A.es::L):=by
 obtain⟨A,h1,I⟩:=I.jM (ι:=oq) (p:=λA=>A.Ok B v) (B:=λA h=>cm [aa B.mb 107 (jY B A),Sl 81 1 A.adL A.xs.length A.cL (A.xs.map cC),ah (cA W p c) A.xs,bG B.q (v.net.map cI),Sl 90 1 A.adE A.es.length A.cE (A.es.map bx),ah ew A.es] h) λ_ h=>h;exact⟨A,h1,I.open (M:=[_,_,_,_,_,_]) λ_ h=>h⟩
theorem aE.fold (I:U W w L)(B:iV)(p:Pr)(c:Nat)(v:Wd)(A:oq)(h:A.Ok B v)[kk:fI L [aa B.mb 107 (jY B A),Sl 81 1 A.adL A.xs.length A.cL (A.xs.map cC),ah (cA W p c) A.xs,bG B.q (v.net.map cI),Sl 90 1 A.adE A.es.length A.cE (A.es.map bx),ah ew A.es] R]:U W w (aE W B p c v::R) :=
 U.shut (M:=[_,_,_,_,_,_]) (I.perm kk.perm) λ_ h1=>⟨A,h,h1⟩
theorem acJ {P:Program}{t:TypeId} {ms}(ht:P.underlying t=some (.interface ms))(k:Nat):(Op.equalIn (k+1) t .nilIface .nilIface).run P w=.ok true w:=by
 simp[Op.equalIn,eQ ht]
theorem acK {P:Program}{a:Act}{l:List (Nat×Value)} {x t ms u dst ty ps af g}(E:Fr a n l)(ht:P.underlying t=some (.interface ms))[e:Ev l x .nilIface] :
   (execOp a.eval ⟨dst,.binOp .eql t x (.const .nilIface) u,ty,ps,af,g⟩).run P w=.ok (.value (.bool true)) w:=by
 have hc:a.eval (.const .nilIface)=.nilIface:=rfl;have h2:(Op.equal t .nilIface .nilIface).run P w=.ok true w:=acJ ht 9999;simp only[execOp,e.ev a n E,hc,Sem.run_bind];simp[eqGuard,binOp,h2]
theorem Oy {P:Program}{a:Act}{l:List (Nat×Value)} {x t u ok dst ty ps af g}{z z2:Value}(E:Fr a n l)(h:(Instr.typeAssert z t u ok).run P w=.ok z2 w)[e:Ev l x z] :
   (execOp a.eval ⟨dst,.typeAssert x t u ok,ty,ps,af,g⟩).run P w=.ok (.value z2) w:=by
 simp[execOp,e.ev a n E,h]
end
end
section
def fP.mul:fP→Value
 | .mu M=>pt M.mb
 | .pl _=>.pointer none
section
variable {W w:World}{L:List SP}{n cL mb i:Nat}{ad:Option Addr}{B:iV}{y:Int}{x2 x3:Value}{xs:List (fF×Pl)}
theorem acL (I:U W w (aa mb 107 [.slice ad n cL,x2,x3]::L))(hy:y<0∨(n:Int)≤y):Calls prog 28 #[pt mb,.int .i64 y] w λe w'=>e=.returned .nilIface∧U W w' (aa mb 107 [.slice ad n cL,x2,x3]::L):=by
 refine EN func28 ntmps28 rfl rfl λa E=>?_;refine RN 7 E I λa E=>?_;replace E:=E.aP 7;refine BY 4 E I (λkc a E=>?_) λkc a E=>?_
 ·
  refine RT 11 E I ?_;exact⟨rfl,I⟩
 refine RN 8 E I λa E=>?_;rw[dk (by omega)]at E;refine RT 3 E I ?_;exact⟨rfl,I⟩
theorem sF (I:U W w (aa mb 107 [.slice ad xs.length cL,x2,x3]::Sl 81 1 ad xs.length cL (xs.map cC)::L))(hi:i<xs.length):Calls prog 28 #[pt mb,.int .i64 i] w λe w'=>e=.returned (cC xs[i])∧U W w' (aa mb 107 [.slice ad xs.length cL,x2,x3]::Sl 81 1 ad xs.length cL (xs.map cC)::L):=by
 refine EN func28 ntmps28 rfl rfl λa E=>?_;refine RN 7 E I λa E=>?_;replace E:=E.aP 7;refine RN 4 E I λa E=>?_;rw[bo (by omega)]at E;refine RN 8 E I λa E=>?_;rw[bo (by omega)]at E;refine RN 2 E I λa E=>?_;obtain⟨b,o,rfl,hr⟩:=(I.pick (Sl 81 1 ad xs.length cL (xs.map cC))).bU ad (by omega);have ff:=hr i (cC xs[i]) (by rw[bl,aD hi];rfl);refine RN 6 E I λa E=>?_;refine SS E (ae E (ff)) λa E=>?_;refine RT 1 E I ?_;exact⟨rfl,I.sub⟩
theorem fP.assert (z:fP)(w:World):(Instr.typeAssert (.iface z.t (.pointer (some z.ad))) 81 78 true).run prog w=.ok (.tuple #[z.mul,.bool (match z with | .mu _=>true | .pl _=>false)]) w:=by
 cases z with
 | mu M=>kernel_rfl
 | pl B=>kernel_rfl
theorem HF (I:U W w (aa mb 107 [.slice ad xs.length cL,x2,x3]::Sl 81 1 ad xs.length cL (xs.map cC)::L))(hi:i<xs.length):Calls prog 27 #[pt mb,.int .i64 i] w λe w'=>e=.returned xs[i].1.z.mul∧U W w' (aa mb 107 [.slice ad xs.length cL,x2,x3]::Sl 81 1 ad xs.length cL (xs.map cC)::L):=by
 have has:=xs[i].1.z.assert;cases hz:xs[i].1.z with
 | mu M =>
  rw[hz]at has;refine EN func27 ntmps27 rfl rfl λa E=>?_;refine CL 5 E I (sF I hi) λa w E I=>?_;rw[show cC xs[i]=.iface (fP.mu M).t (.pointer (some (fP.mu M).ad)) from by rw[← hz]]at E;refine RN 0 E I λa E=>?_;refine SK (bw E rfl (Oy E (has w)) rfl ?_);clear E a;intro a E;refine RN 9 E I λa E=>?_;replace E:=E.aP 15;refine RT 4 E I ?_;exact⟨rfl,I⟩
 | pl B =>
  rw[hz]at has;refine EN func27 ntmps27 rfl rfl λa E=>?_;refine CL 5 E I (sF I hi) λa w E I=>?_;rw[show cC xs[i]=.iface (fP.pl B).t (.pointer (some (fP.pl B).ad)) from by rw[← hz]]at E;refine RN 0 E I λa E=>?_;refine SK (bw E rfl (Oy E (has w)) rfl ?_);clear E a;intro a E;refine RN 9 E I λa E=>?_;replace E:=E.ed 15;refine RT 3 E I ?_;exact⟨rfl,I⟩
theorem zI (I:U W w (aa mb 107 [x2,pt i,x3]::L)):Calls prog 22 #[pt mb] w λe w'=>e=.returned (pt i)∧U W w' (aa mb 107 [x2,pt i,x3]::L):=by
 refine EN func22 ntmps22 rfl rfl λa E=>?_;refine RN 6 E I λa E=>?_;replace E:=E.aP 4;refine RT 7 E I ?_;exact⟨rfl,I⟩
end
end
section
section
variable {W w:World}{L:List SP}{n c mb i q:Nat}{ad:Option Addr}{v:Wd}{x1 x3:Value}{xs:List (fF×Pl)}{l net:List Ml}{e:List ko}
theorem U.xG {α:Type}{f:α→SP}{l:List α}{i:Nat}(h:i<l.length)(I:U W w (f l[i]::ah f (l.eraseIdx i)::L)):U W w (ah f l::L):=by
 have h1:=U.kZ h I
 rwa [mN]at h1
theorem Oz (l:List ko):∀ v∈l.map cB,v.oneCell'=true:=by
 intro v hv;obtain⟨e,_,rfl⟩:=cR.1 hv;exact F3 e
theorem OA (I:U W w (Sl 135 1 ad e.length c (e.map cB)::L))(hl:e.length≤1000000000):Calls prog 57 #[.slice ad e.length c] w λr w'=>∃ av c',r=.returned (.slice av e.length c')∧U W w' (Sl 135 1 av e.length c' (e.map cB)::Sl 135 1 ad e.length c (e.map cB)::L):=by
 cases pV:ad with
 | none =>
  subst pV;have h0:e=[]:=by
   rcases lI e.length with h0 | h0
   ·exact gG h0
   ·obtain⟨b,o,h1,_⟩:=I.bU none h0;cases h1
  subst h0;refine EN func57 ntmps57 rfl rfl λa E=>?_;refine RN 6 E I λa E=>?_;replace E:=E.ed 4;refine RT 3 E I ?_;exact⟨_,_,rfl,I.bM _ _ _⟩
 | some a =>
  rw[← pV];refine EN func57 ntmps57 rfl rfl λa E=>?_;refine RN 6 E I λa E=>?_;rw[show ad.isNone=false from by rw[pV];rfl]at E;replace E:=E.aP 4;refine RN 2 E I λa E=>?_;refine uC E rfl I underlying90 Ty.t135 rfl λb5 a w E I ho=>?_;clear ho;replace I:U W w (Sl 135 1 (some ⟨b5,0,none⟩) 0 0 []::Sl 135 1 ad e.length c (e.map cB)::L):=I.tail.bM _ _ _;refine RN 1 E I λa E=>?_;refine g8 E rfl I underlying90 Ty.t135 rfl rfl (by decide) (λh0=>I.tail.bU ad h0) (by rw[a8,fW]) (Oz _) (by omega) λs7 rJ a w E I=>?_;rw[nil_append,eG]at I;rw[eG]at E;refine RT 1 E I ?_;exact⟨_,_,rfl,I⟩
theorem acM {m:Ml}(h:m.2.2.length≤1000):(if qp (net.map cI) m.2.2.length then net.map cI++[cI m] else net.map cI)=(pn net m).map cI:=by
 have h1:qp (net.map cI) m.2.2.length=decide (net.length<300):=by
  rw[qp,a8,dk h,Bool.and_true]
 rw[h1,pn];by_cases h2:net.length<300
 ·rw[dk h2,ak rfl,ak h2,cW];rfl
 ·rw[bo h2,ag (by decide),ag h2]
theorem OB (I:U W w (cd 124 ad n c l::bG q (net.map cI)::aa mb 107 [x1,pt q,x3]::L))(hn:n≤1000)(hl:∀ m∈l,m.2.2.length≤1000) :
   Calls prog 61 #[pt mb,.slice ad n c] w λe w'=>e=.returned (.int .i64 0)∧U W w' (bG q ((eF net l).map cI)::aa mb 107 [x1,pt q,x3]::L):=by
 obtain⟨xs,eI,b9,I⟩:=cd.open I;have bd:xs.length=n:=by rw[← b9,← eI,a8]
 subst bd;refine EN func61 ntmps61 rfl rfl λa E=>?_;refine RN 7 E I λa E=>?_;refine aN (λμ a w=>∃ (i:Nat),(μ=xs.length-i∧i≤xs.length)∧Fr a 20 [(0,pt mb),(7,.slice ad xs.length c),(8,.int .i64 xs.length),(9,.int .i64 i)]∧U W w (bG q ((eF net (l.take i)).map cI)::Sl 124 3 ad xs.length c (rows b7 xs)::ah ca xs::aa mb 107 [x1,pt q,x3]::L)) (xs.length) (⟨0,⟨rfl,by omega⟩,E.ab [0,7,8,9],(show U W w (Sl 124 3 ad xs.length c (rows b7 xs)::ah ca xs::bG q ((eF net (l.take 0)).map cI)::_) from I).sub⟩) ?_;clear E I;rintro μ a w ⟨i,⟨rfl,hi⟩,E,I⟩;refine IF 3 E I (λaj a E=>?_) λaj a E=>?_
 ·
  have aI:i<xs.length:=by omega
  have zJ:i<l.length:=by omega
  refine RN 2 E I λa E=>?_;obtain⟨bi,oi,rfl,p3⟩:=(I.pick (Sl 124 3 ad xs.length c (rows b7 xs))).bU ad (by omega);have fj:=jl oc p3 (aD aI);obtain⟨m,hm⟩:∃ m,m=l[i]:=⟨_,rfl⟩;obtain⟨xa,OC,hx⟩:∃ a c,xs[i]=(a,c,m):=⟨xs[i].1,xs[i].2.1,by
   have h1:(xs.map (·.2.2))[i]?=l[i]?:=by rw[eI]
   rw[bl,aD aI,aD zJ]at h1;have h2:xs[i].2.2=l[i]:=by simpa using h1
   rw[hm,← h2]⟩
  have lM:=hl m (by rw[hm];exact jd _);rw[hx]at fj;refine RN 1 E I λa E=>?_;refine SS E (bT E underlying124 rfl Ty.t124 (fj)) λa E=>?_;refine AL 0 E I λcH a w E I=>?_;refine SA 0 E I λa w E I=>?_;refine bR 0 [4] [0,1,2,3003,1004,1005] E I λa w E I hH hC=>?_;refine RH 5 E I hH hC λa E=>?_;refine CL 0 E I (ab4 (bs:=m.2.2) (I.pick (bG q ((eF net (l.take i)).map cI))) (λw' di=>by
   have h1:=(di.pick (ah ca xs)).fy aI;rw[hx]at h1;exact U.cu (L:=ca (xa,OC,m)::_) h1 _ _ (k:=(fS.head:fS (Sl 5 1 xa m.2.2.length OC (bc m.2.2)::_) xa _ _ _ _ _ _)) rfl rfl)) λa w E I=>?_
  refine RN 0 E I λa E=>?_;rw[show ((m.1:Int),(m.2.1:Int),m.2.2)=cI m from rfl,acM lM,hm,← N5 net zJ]at I;refine RN 2 E I λa E=>?_;exact⟨xs.length-(i+1),by omega,i+1,⟨rfl,by omega⟩,E.ab [0,7,8,9],I.sub⟩
 refine RT 2 E I ?_;obtain rfl:i=xs.length:=by omega
 rw[gi (by omega)]at I;exact⟨rfl,I.sub⟩
end
end
section
abbrev dW (s:fN):List Value:=[.int .i64 s.fn,.int .i64 s.a,.int .i64 s.b,.int .i64 s.n]
section
variable {W w:World}{L:List SP}{c d cL mb i q:Nat}{ad adE:Option Addr}{p:Pr}{B:iV}{A:oq}{v:Wd}{x:fF}{s xy s':Pl}{t:fN}{y:Int}{net:List Ml}{cf:Cf}
theorem oq.Ok.at (h:A.Ok B v)(hi:i<v.ps.length):∃ x,A.xs[i]?=some (x,an v i)∧i<A.xs.length∧B.fx[i]?=some x:=by
 have hl:A.xs.length=v.ps.length:=by rw[← h.ps,a8]
 have dL:i<A.xs.length:=by omega
 refine⟨A.xs[i].1,?_,dL,by rw[← h.fx,bl,aD dL];rfl⟩;rw[aD dL,an,bm,← h.ps,bl,aD dL];rfl
theorem aE.out (I:U W w (ah (cA W p c) A.xs::L))(hx:A.xs[i]?=some (x,s)):U W w (x.J W p c s::ah (cA W p c) (A.xs.eraseIdx i)::L):=by
 obtain⟨hi,h1⟩:=aY.1 hx;have h2:=I.fy hi;rw[h1]at h2;exact h2
theorem aE.put (hA:A.Ok B v)(hx:A.xs[i]?=some (x,xy))(EF:c≤d)(net:List Ml)
   (I:U W w (x.J W p d s'::ah (cA W p c) (A.xs.eraseIdx i)::aa B.mb 107 (jY B A)::Sl 81 1 A.adL A.xs.length A.cL (A.xs.map cC)::bG B.q (net.map cI)::Sl 90 1 A.adE A.es.length A.cE (A.es.map bx)::ah ew A.es::L)) :
   U W w (aE W B p d { v with ps:=v.ps.set i s',net:=net }::L):=by
 obtain⟨hi,h1⟩:=aY.1 hx;have h2:=(I.pick (ah (cA W p c) (A.xs.eraseIdx i))).sE EF;have h3:=U.kZ (f:=cA W p d) (x:=(x,s')) hi (h2.pick (x.J W p d s'));have e1:(A.xs.set i (x,s')).map cC=A.xs.map cC:=by
  rw[jz,show cC (x,s')=(A.xs.map cC)[i]'(by rw[a8];exact hi) from by rw[getElem_map,h1],mN]
 have e2:(A.xs.set i (x,s')).length=A.xs.length:=bt ..;have hA':oq.Ok { A with xs:=A.xs.set i (x,s') } B { v with ps:=v.ps.set i s',net:=net }:=by
  refine⟨?_,?_,hA.ev⟩
  ·show (A.xs.set i (x,s')).map (·.1)=_;rw[jz,← hA.fx];show (A.xs.map (·.1)).set i x=_;rw[show x=(A.xs.map (·.1))[i]'(by rw[a8];exact hi) from by rw[getElem_map,h1],mN]
  ·show (A.xs.set i (x,s')).map (·.2)=v.ps.set i s';rw[jz,hA.ps]
 have h4:U W w (ah (cA W p d) (A.xs.set i (x,s'))::aa B.mb 107 (jY B { A with xs:=A.xs.set i (x,s') })::Sl 81 1 A.adL (A.xs.set i (x,s')).length A.cL ((A.xs.set i (x,s')).map cC)::bG B.q (net.map cI)::Sl 90 1 A.adE A.es.length A.cE (A.es.map bx)::ah ew A.es::L):=by
  simp only[jY,e1,e2];exact h3.sub
 exact (aE.fold h4 B p d { v with ps:=v.ps.set i s',net:=net } { A with xs:=A.xs.set i (x,s') } hA').sub
theorem fN.u8 (b:Int):IntKind.u8.wrap b=((fm b).toNat:Int):=by rw[wrap_u8,N4]
structure iV.Ok (B:iV)(p:Pr)(c:Nat):Prop where
 pr:dm p
 sz:p.title.size≤1000000000
 gs:∀ x∈B.fx,cY x.z.gs
 c:c≤1000000
theorem acN (I:U W w L):Calls prog 62 #[.pointer none,.int .i64 y] w λe w'=>e=.returned (.bool false)∧U W w' L:=by
 refine EN func62 ntmps62 rfl rfl λa E=>?_;refine RN 7 E I λa E=>?_;replace E:=E.ed 7;refine RT 19 E I ?_;exact⟨rfl,I⟩
theorem acO (I:U W w (ah (cA W p c) A.xs::L))(hx:A.xs[i]?=some (x,s))(a6:dm p)(aH:p.title.size≤1000000000)(hc:c≤1000000) :
   Calls prog 62 #[x.z.mul,.int .i64 y] w λe w'=>∃ z:Bool,e=.returned (.bool z)∧(z=true→0≤y∧y<s.k.workers∧∃ M,x.z=.mu M)∧U W w' (ah (cA W p (c+1)) A.xs::L):=by
 obtain⟨hi,h1⟩:=aY.1 hx;have h2:=aE.out I hx;obtain⟨cf,z⟩:=x;cases z with
 | pl B=>exact (acN I).mono λe w' ⟨h,I⟩=>⟨false,h,(λh=>by cases h),I.sE (gY c)⟩
 | mu M =>
  refine (acn h2 a6 aH hc).mono λe w' ⟨z,h,h3,I⟩=>⟨z,h,λhz=>⟨(h3 hz).2.1,(h3 hz).2.2,M,rfl⟩,?_⟩;have h4:=(I.pick (ah (cA W p c) (A.xs.eraseIdx i))).sE (gY c);refine U.xG hi ?_;rw[h1];exact h4.pick (fo W M p cf (c+1) s)
theorem Cz {t:fN}(h:t.fn=1)(gg:t.a=i)(hi:i<v.ps.length):gC p t v=((dK p (fm t.b) (an v i)).1,{ v with ps:=v.ps.set i (dK p (fm t.b) (an v i)).2 }):=by
 rw[gC,ag (by omega),ak h,gg,c8]
theorem xH {t:fN}(h:t.fn=2)(gg:t.a=i)(hi:i<v.ps.length):gC p t v=(0,{ v with ps:=v.ps.set i ⟨(br (an v i).k).2,(an v i).g⟩,net:=eF v.net (br (an v i).k).1 }):=by
 rw[gC,ag (by omega),ag (by omega),ak h,gg,c8]
theorem zK {t:fN}(h:t.fn=8)(gg:t.a=i)(hi:i<v.ps.length):gC p t v=(0,{ v with ps:=v.ps.set i ⟨(cy (an v i).k).2,(an v i).g⟩,net:=eF v.net (cy (an v i).k).1 }):=by
 rw[gC,ag (by omega),ag (by omega),ag (by omega),ak h,gg,c8]
theorem zL {t:fN}(h:t.fn=7)(gg:t.a=i)(hi:i<v.ps.length):gC p t v=(0,v):=by
 rw[gC,ag (by omega),ag (by omega),ag (by omega),ag (by omega)]
theorem acP (I:U W w (aE W B p c v::L))(ha0:t.a<0∨(v.ps.length:Int)≤t.a) :
   Calls prog 44 #[pt B.mb,.agg (dW t).toArray] w λe w'=>e=.returned (.int .i64 7)∧U W w' (aE W B p c v::L):=by
 replace I:=aE.open I;obtain⟨A,hA,I⟩:=I;have hl:A.xs.length=v.ps.length:=by rw[← hA.ps,a8]
 refine EN func44 ntmps44 rfl rfl λa E=>?_;refine BX 1 E I λb3 a w E I=>?_;change U W w (aa b3 58 (dW t)::_) at I;refine CL 5 E I (acL (I.pick (aa B.mb 107 (jY B A))) (by omega)) λa w E I=>?_;refine RN 4 E I λa E=>?_;refine SK (bw E rfl (acK E underlying81) rfl ?_);clear E a;intro a E;refine RN 0 E I λa E=>?_;replace E:=E.ed 11;refine RT 3 E I ?_;exact⟨rfl,(aE.fold I B p c v A hA).sub⟩
set_option maxHeartbeats 1000000 in
theorem acQ (I:U W w (aE W B p c v::L))(hB:B.Ok p c)(hv:bK p cf c v)(hi:i<v.ps.length)(hf:t.fn=1∨t.fn=2∨t.fn=8∨t.fn=7)(gg:t.a=i) :
   Calls prog 44 #[pt B.mb,.agg (dW t).toArray] w λe w'=>∃ z:Int,e=.returned (.int .i64 z)∧(t.fn≠7→z=(gC p t v).1) ∧
    (t.fn=7→z=7∨(z=0∧0≤t.b∧t.b<(an v i).k.workers∧∃ x M,B.fx[i]?=some x∧x.z=.mu M))∧U W w' (aE W B p (c+1) (gC p t v).2::L):=by
 replace I:=aE.open I;obtain⟨A,hA,I⟩:=I;obtain⟨x,hx,CA,pv⟩:=hA.at hi;obtain⟨_,g4⟩:=aY.1 hx;have hM:=x.q5 (W:=W) (p:=p) hB.pr hB.sz (hB.gs x (bF pv));obtain⟨hw,df,xI⟩:=hv.pl i hi;have jS:=hB.c;have zM:cC A.xs[i]=.iface x.z.t (.pointer (some x.z.ad)):=by rw[g4]
 refine EN func44 ntmps44 rfl rfl λa E=>?_;refine BX 1 E I λb3 a w E I=>?_;change U W w (aa b3 58 (dW t)::_) at I;refine RN 5 E I λa E=>?_;rw[gg]at E;refine CL 0 E I (sF ((I.pick (Sl 81 1 A.adL A.xs.length A.cL (A.xs.map cC))).pick (aa B.mb 107 (jY B A))) CA) λa w E I=>?_;refine RN 1 E I λa E=>?_;rw[zM]at E;refine RN 4 E I λa E=>?_;replace E:=E.aP 11;refine IF 8 E I (λao a E=>?_) λao a E=>?_
 ·
  refine RN 1 E I λa E=>?_;replace I:=aE.out (I.pick (ah (cA W p c) A.xs)) hx;refine RN 3 E I λa E=>?_;refine SS E (gr E underlying3 underlying5) λa E=>?_;rw[fN.u8]at E;refine RN 0 E I λa E=>?_;refine jP E rfl hM.Hh hM.cP rfl (hM.al _ _ c (an v i) (fm t.b) jS hw (I.pick (x.J W p c (an v i)))) (by rfl) ?_;clear E I;rintro e w ⟨rfl,I⟩;refine⟨_,rfl,λa E=>?_⟩;refine RT 1 E I ?_;exact⟨_,rfl,λ_=>by rw[Cz (by assumption) gg hi],λh=>by omega,by
   have h1:=aE.put hA hx (gY c) v.net (I.sub (M:=x.J W p (c+1) (dK p (fm t.b) (an v i)).2::ah (cA W p c) (A.xs.eraseIdx i)::aa B.mb 107 (jY B A)::Sl 81 1 A.adL A.xs.length A.cL (A.xs.map cC)::bG B.q (v.net.map cI)::Sl 90 1 A.adE A.es.length A.cE (A.es.map bx)::ah ew A.es::L));rw[Cz (by assumption) gg hi];exact h1⟩
 refine IF 3 E I (λay a E=>?_) λay a E=>?_
 ·
  refine RN 1 E I λa E=>?_;replace I:=aE.out (I.pick (ah (cA W p c) A.xs)) hx;refine RN 2 E I λa E=>?_;refine jP E rfl hM.Hk hM.cT rfl (hM.tick _ _ c (an v i) jS hw (by omega) (I.pick (x.J W p c (an v i)))) (by rfl) ?_;clear E I;rintro e w ⟨am,jL,rfl,I⟩;refine⟨_,rfl,λa E=>?_⟩;refine CL 0 E I (OB (((I.pick (aa B.mb 107 (jY B A))).pick (bG B.q (v.net.map cI))).pick (cd 124 am (br (an v i).k).1.length jL (br (an v i).k).1)) (N2 hw.wc) (λm hm=>(N6 hw.wc m hm).2)) λa w E I=>?_;refine RT 1 E I ?_;exact⟨_,rfl,λ_=>by rw[xH (by assumption) gg hi],λh=>by omega,by
   have h1:=aE.put hA hx (gY c) (eF v.net (br (an v i).k).1) (I.sub (M:=x.J W p (c+1) ⟨(br (an v i).k).2,(an v i).g⟩::ah (cA W p c) (A.xs.eraseIdx i)::aa B.mb 107 (jY B A)::Sl 81 1 A.adL A.xs.length A.cL (A.xs.map cC)::bG B.q ((eF v.net (br (an v i).k).1).map cI)::Sl 90 1 A.adE A.es.length A.cE (A.es.map bx)::ah ew A.es::L));rw[xH (by assumption) gg hi];exact h1⟩
 refine IF 3 E I (λbk a E=>?_) λbk a E=>?_
 ·
  refine RN 1 E I λa E=>?_;replace I:=aE.out (I.pick (ah (cA W p c) A.xs)) hx;refine RN 2 E I λa E=>?_;refine jP E rfl hM.Hl hM.Hm rfl (hM.o7 _ _ c (an v i) jS hw (I.pick (x.J W p c (an v i)))) (by rfl) ?_;clear E I;rintro e w ⟨am,jL,rfl,I⟩;refine⟨_,rfl,λa E=>?_⟩;refine CL 0 E I (OB (((I.pick (aa B.mb 107 (jY B A))).pick (bG B.q (v.net.map cI))).pick (cd 124 am (cy (an v i).k).1.length jL (cy (an v i).k).1)) (N3 hw.wc) (λm hm=>(N7 hw.wc m hm).2)) λa w E I=>?_;refine RT 1 E I ?_;exact⟨_,rfl,λ_=>by rw[zK (by assumption) gg hi],λh=>by omega,by
   have h1:=aE.put hA hx (gY c) (eF v.net (cy (an v i).k).1) (I.sub (M:=x.J W p (c+1) ⟨(cy (an v i).k).2,(an v i).g⟩::ah (cA W p c) (A.xs.eraseIdx i)::aa B.mb 107 (jY B A)::Sl 81 1 A.adL A.xs.length A.cL (A.xs.map cC)::bG B.q ((eF v.net (cy (an v i).k).1).map cI)::Sl 90 1 A.adE A.es.length A.cE (A.es.map bx)::ah ew A.es::L));rw[zK (by assumption) gg hi];exact h1⟩
 refine aV 2 (λw0 w'=>Rd w' b3 0 (dW t)) [3,5] [0,1,4,3002,3005,1003,1006,7] E I λa w E I hH=>?_;have hC:=hH.at w (I.ai (b:=b3));refine RH 3 E I hH hC λa E=>?_;refine QH E (λw hc=>ae E (hc 1 _ rfl)) hC λa E=>?_;rw[gg]at E;refine RH 0 E I hH hC λa E=>?_;refine QH E (λw hc=>ae E (hc 2 _ rfl)) hC λa E=>?_;refine RH 0 E I hH hC λa E=>?_;refine CL 0 E I (HF ((I.pick (Sl 81 1 A.adL A.xs.length A.cL (A.xs.map cC))).pick (aa B.mb 107 (jY B A))) CA) λa w E I=>?_;replace hC:=hH.at w (I.ai (b:=b3));rw[show A.xs[i].1.z.mul=x.z.mul from by rw[g4]]at E;refine RH 0 E I hH hC λa E=>?_;refine bh 0 E I (acO (x:=x) (y:=t.b) (I.pick (ah (cA W p c) A.xs)) hx hB.pr hB.sz jS) λz a w E ⟨hz,I⟩=>?_;refine RN 1 E I λa E=>?_;refine IF 0 E I (λbN a E=>?_) λbN a E=>?_
 ·
  have kR:z=false:=by cases z <;> simp_all
  refine RT 2 E I ?_;exact⟨7,rfl,λh=>absurd (by omega) h,λ_=>.inl rfl,by
   rw[zL (by omega) gg hi];exact (aE.fold I B p (c+1) v A hA).sub⟩
 have kR:z=true:=by cases z <;> simp_all
 refine RT 2 E I ?_;exact⟨0,rfl,λh=>absurd (by omega) h,λ_=>.inr ⟨rfl,(hz kR).1,(hz kR).2.1,x,(hz kR).2.2.choose,pv,(hz kR).2.2.choose_spec⟩,by
  rw[zL (by omega) gg hi];exact (aE.fold I B p (c+1) v A hA).sub⟩
end
end
section
section
variable {W w:World}{L:List SP}{n c cL mb j q:Nat}{ad adE:Option Addr}{p:Pr}{B:iV}{A:oq}{v:Wd}{x:fF}{t:fN}{y:Int}{net:List Ml}{m:Ml}{cf:Cf}{z:UInt8}
theorem HG (h:net[j]?=some m):∃ h2:j<(net.map cI).length,(net.map cI)[j]=cI m:=by
 obtain⟨h1,h2⟩:=aY.1 h;exact⟨by rw[a8];exact h1,by rw[getElem_map,h2]⟩
theorem HH (I:U W w (bG q (net.map cI)::L))(h:net[j]?=some m):Calls prog 52 #[pt q,.int .i64 j] w λe w'=>∃ ad c,e=.returned (.tuple #[.agg #[.int .i64 m.1,.int .i64 m.2.1,.slice ad m.2.2.length c],.bool true])∧U W w' (Sl 5 1 ad m.2.2.length c (bc m.2.2)::bG q (net.map cI)::L):=by
 obtain⟨h1,h2⟩:=HG h;have h3:=ab6 I h1;rw[h2]at h3;exact h3
theorem OD (I:U W w (bG q (net.map cI)::L))(h:y<0∨(net.length:Int)≤y):Calls prog 52 #[pt q,.int .i64 y] w λe w'=>e=.returned (.tuple #[.agg #[.int .i64 0,.int .i64 0,.slice none 0 0],.bool false])∧U W w' (bG q (net.map cI)::L) :=
 ab5 I (by rw[a8];simp;omega)
theorem OE (I:U W w (bG q (net.map cI)::L))(h:net[j]?=some m):Calls prog 63 #[pt q,.int .i64 j] w λe w'=>e=.returned (.bool true)∧U W w' (bG q ((net.eraseIdx j).map cI)::L):=by
 obtain⟨h1,h2⟩:=HG h;have h3:=ab8 I h1;rw[show (net.map cI).eraseIdx j=(net.eraseIdx j).map cI from by simp only[sZ,cW,map_take,map_drop]]at h3;exact h3
theorem acR (I:U W w (bG q (net.map cI)::L))(h:net[j]?=some m):Calls prog 64 #[pt q,.int .i64 j,.int .i64 y,.int .u8 (z.toNat:Int)] w λe w' =>
   e=.returned (.bool (decide (0≤y)&&decide (y<m.2.2.length)))∧U W w' (bG q ((if y<0∨(m.2.2.length:Int)≤y then net else net.set j (m.1,m.2.1,m.2.2.set y.toNat (m.2.2.getD y.toNat 0 ^^^ z))).map cI)::L):=by
 obtain⟨h1,h2⟩:=HG h;have h3:=ab9 (aO:=y) (x:=z) I h1;rw[h2]at h3;refine h3.mono λe w' ⟨h4,h5⟩=>⟨h4,?_⟩;by_cases h6:y<0∨(m.2.2.length:Int)≤y
 ·rw[ak h6];rw[ag (by show ¬ (decide (0≤y)&&decide (y<(m.2.2.length:Int)))=true;simp;omega)]at h5;exact h5
 ·rw[ag h6,jz];rw[ak (by show (decide (0≤y)&&decide (y<(m.2.2.length:Int)))=true;simp;omega)]at h5;exact h5
theorem OF {t:fN}(h:t.n<0∨(v.net.length:Int)≤t.n):gO p t v=(3,v):=by rw[gO,ak h]
theorem CB (h:v.net[j]?=some m):v.net.getD j (0,0,[])=m:=by rw[bm,h];rfl
theorem HI {t:fN}(h:t.fn=4)(gP:t.n=j)(hm:v.net[j]?=some m):gO p t v=(0,{ v with net:=v.net.eraseIdx j }):=by
 have h1:=(aY.1 hm).1;rw[gO,ag (by omega),ag (by omega),ak h,gP,c8]
theorem uf {t:fN}(h:t.fn=6)(gP:t.n=j)(hm:v.net[j]?=some m):gO p t v=if t.a<0∨(m.2.2.length:Int)≤t.a then (3,v) else (0,{ v with net:=v.net.set j (m.1,m.2.1,m.2.2.set t.a.toNat (m.2.2.getD t.a.toNat 0 ^^^ fm t.b)) }):=by
 have h1:=(aY.1 hm).1;rw[gO,ag (by omega),ak h,gP,c8,CB hm]
theorem CC {t:fN}(h:t.fn≠4)(h':t.fn≠6)(gP:t.n=j)(hm:v.net[j]?=some m):gO p t v=((dB p m.2.2 (an v m.2.1)).1,{ v with ps:=v.ps.set m.2.1 (dB p m.2.2 (an v m.2.1)).2,net:=if t.fn=5 then v.net else v.net.eraseIdx j }):=by
 have h1:=(aY.1 hm).1;rw[gO,ag (by omega),ag h',ag h,gP,c8,CB hm]
theorem acS (I:U W w (aE W B p c v::L))(vX:t.n<0∨(v.net.length:Int)≤t.n) :
   Calls prog 45 #[pt B.mb,.agg (dW t).toArray] w λe w'=>e=.returned (.int .i64 3)∧U W w' (aE W B p c v::L):=by
 replace I:=aE.open I;obtain⟨A,hA,I⟩:=I;refine EN func45 ntmps45 rfl rfl λa E=>?_;refine BX 1 E I λb3 a w E I=>?_;change U W w (aa b3 58 (dW t)::_) at I;refine RN 1 E I λa E=>?_;refine cc (M:=λa w=>∃ b5:Nat,Fr a 61 [(0,pt B.mb),(3,pt b3),(5,pt b5),(6,.bool false)]∧U W w (aa b5 124 [.int .i64 0,.int .i64 0,.slice none 0 0]::aa b3 58 (dW t)::aa B.mb 107 (jY B A)::Sl 81 1 A.adL A.xs.length A.cL (A.xs.map cC)::ah (cA W p c) A.xs::bG B.q (v.net.map cI)::Sl 90 1 A.adE A.es.length A.cE (A.es.map bx)::ah ew A.es::L)) ?_ ?_
 ·
  refine aV 0 (λw0 w'=>Rd w' B.mb 0 (jY B A)∧Rd w' b3 0 (dW t)) [5,10] [0,1,2,4,3003,3005,2006,7,8,9,1010,1011,12] E I λa w E I hH=>?_;have hC:=hH.at w ⟨I.ai (b:=B.mb),I.ai (b:=b3)⟩;refine RH 4 E I hH hC λa E=>?_;refine QH E (λw hc=>ae E (hc.1 1 _ rfl)) hC λa E=>?_;refine QH E (λw hc=>ae E (hc.2 3 _ rfl)) hC λa E=>?_;refine RH 0 E I hH hC λa E=>?_;refine DN [(6,[7,8,9,1010,1011,12]),(10,[1006,7,8,9,1011,12])] (by kernel_rfl) rfl ⟨⟨_,rfl,?_⟩,⟨_,rfl,?_⟩,trivial⟩
  ·
   refine RH 0 E I hH hC λa E=>?_;refine CL 0 E I (OD (I.pick (bG B.q (v.net.map cI))) vX) λa w E I=>?_;refine RN 3 E I λa E=>?_;refine eZ E rfl I Ty.t124 rfl λb5 a w E I ho=>?_;clear ho;replace hC:=hH.at w ⟨I.ai (b:=B.mb),I.ai (b:=b3)⟩;refine RH 0 E I hH hC λa E=>?_;refine SA 0 E I λa w E I=>?_;refine RN 1 E I λa E=>?_;exact⟨b5,E.ab [0,3,5,6],I.sub⟩
  refine RH 0 E I hH hC λa E=>?_;refine eZ E rfl I Ty.t124 rfl λb5 a w E I ho=>?_;clear ho;replace hC:=hH.at w ⟨I.ai (b:=B.mb),I.ai (b:=b3)⟩;refine RH 0 E I hH hC λa E=>?_;refine CL 0 E I (OD (I.pick (bG B.q (v.net.map cI))) vX) λa w E I=>?_;refine SA 3 E I λa w E I=>?_;refine RN 1 E I λa E=>?_;exact⟨b5,E.ab [0,3,5,6],I.sub⟩
 clear E;(try clear I);rintro a w ⟨b5,E,I⟩;refine RN 4 E I λa E=>?_;replace E:=E.ed 18;refine RT 3 E I ?_;exact⟨rfl,(aE.fold I B p c v A hA).sub⟩
set_option maxHeartbeats 1000000 in
theorem acT (I:U W w (aE W B p c v::L))(hB:B.Ok p c)(hv:bK p cf c v)(hf:t.fn=3∨t.fn=4∨t.fn=5∨t.fn=6)(gP:t.n=j)(hm:v.net[j]?=some m) :
   Calls prog 45 #[pt B.mb,.agg (dW t).toArray] w λe w'=>e=.returned (.int .i64 (gO p t v).1)∧U W w' (aE W B p (c+1) (gO p t v).2::L):=by
 replace I:=aE.open I;obtain⟨A,hA,I⟩:=I;have dQ:=(aY.1 hm).1;have gf:=hv.Hw dQ;rw[CB hm]at gf;obtain⟨x,hx,CA,pv⟩:=hA.at gf.1;obtain⟨_,g4⟩:=aY.1 hx;have hM:=x.q5 (W:=W) (p:=p) hB.pr hB.sz (hB.gs x (bF pv));obtain⟨hw,df,xI⟩:=hv.pl m.2.1 gf.1;have jS:=hB.c;have zM:cC A.xs[m.2.1]=.iface x.z.t (.pointer (some x.z.ad)):=by rw[g4]
 refine EN func45 ntmps45 rfl rfl λa E=>?_;refine BX 1 E I λb3 a w E I=>?_;change U W w (aa b3 58 (dW t)::_) at I;refine RN 1 E I λa E=>?_;refine cc (M:=λa w=>∃ (b5:Nat) (am:Option Addr) (jL:Nat),Fr a 61 [(0,pt B.mb),(3,pt b3),(5,pt b5),(6,.bool true)]∧U W w (aa b5 124 [.int .i64 m.1,.int .i64 m.2.1,.slice am m.2.2.length jL]::Sl 5 1 am m.2.2.length jL (bc m.2.2)::aa b3 58 (dW t)::aa B.mb 107 (jY B A)::Sl 81 1 A.adL A.xs.length A.cL (A.xs.map cC)::ah (cA W p c) A.xs::bG B.q (v.net.map cI)::Sl 90 1 A.adE A.es.length A.cE (A.es.map bx)::ah ew A.es::L)) ?_ ?_
 ·
  refine aV 0 (λw0 w'=>Rd w' B.mb 0 (jY B A)∧Rd w' b3 0 (dW t)) [5,10] [0,1,2,4,3003,3005,2006,7,8,9,1010,1011,12] E I λa w E I hH=>?_;have hC:=hH.at w ⟨I.ai (b:=B.mb),I.ai (b:=b3)⟩;refine RH 4 E I hH hC λa E=>?_;refine QH E (λw hc=>ae E (hc.1 1 _ rfl)) hC λa E=>?_;refine QH E (λw hc=>ae E (hc.2 3 _ rfl)) hC λa E=>?_;rw[gP]at E;refine RH 0 E I hH hC λa E=>?_;refine DN [(6,[7,8,9,1010,1011,12]),(10,[1006,7,8,9,1011,12])] (by kernel_rfl) rfl ⟨⟨_,rfl,?_⟩,⟨_,rfl,?_⟩,trivial⟩
  ·
   refine RH 0 E I hH hC λa E=>?_;refine aZ 0 E I (HH (I.pick (bG B.q (v.net.map cI))) hm) λam jL a w E I=>?_;refine RN 3 E I λa E=>?_;refine eZ E rfl I Ty.t124 rfl λb5 a w E I ho=>?_;clear ho;replace hC:=hH.at w ⟨I.ai (b:=B.mb),I.ai (b:=b3)⟩;refine RH 0 E I hH hC λa E=>?_;refine SA 0 E I λa w E I=>?_;refine RN 1 E I λa E=>?_;exact⟨b5,am,jL,E.ab [0,3,5,6],I.sub⟩
  refine RH 0 E I hH hC λa E=>?_;refine eZ E rfl I Ty.t124 rfl λb5 a w E I ho=>?_;clear ho;replace hC:=hH.at w ⟨I.ai (b:=B.mb),I.ai (b:=b3)⟩;refine RH 0 E I hH hC λa E=>?_;refine aZ 0 E I (HH (I.pick (bG B.q (v.net.map cI))) hm) λam jL a w E I=>?_;refine SA 3 E I λa w E I=>?_;refine RN 1 E I λa E=>?_;exact⟨b5,am,jL,E.ab [0,3,5,6],I.sub⟩
 clear E;(try clear I);rintro a w ⟨b5,am,jL,E,I⟩;refine RN 4 E I λa E=>?_;replace E:=E.aP 18;refine RN 1 E I λa E=>?_;refine cc (M:=λa w=>((t.fn≠4∧t.fn≠6)∧Fr a 61 [(0,pt B.mb),(5,pt b5)])∧U W w (aa b5 124 [.int .i64 m.1,.int .i64 m.2.1,.slice am m.2.2.length jL]::Sl 5 1 am m.2.2.length jL (bc m.2.2)::aa B.mb 107 (jY B A)::Sl 81 1 A.adL A.xs.length A.cL (A.xs.map cC)::ah (cA W p c) A.xs::bG B.q ((if t.fn=5 then v.net else v.net.eraseIdx j).map cI)::Sl 90 1 A.adE A.es.length A.cE (A.es.map bx)::ah ew A.es::L)) ?_ ?_
 ·
  refine IF 6 E I (λao a E=>?_) λao a E=>?_
  ·
   refine bR 1 [5] [0,1,2,4,3003,1005,1006] E I λa w E I hH hC=>?_;refine RH 6 E I hH hC λa E=>?_;rw[gP]at E;refine CL 0 E I (OE (I.pick (bG B.q (v.net.map cI))) hm) λa w E I=>?_;refine RT 2 E I ?_;exact⟨by rw[HI (by assumption) gP hm],by
    rw[HI (by assumption) gP hm];exact (aE.fold ((I.pick (ah (cA W p c) A.xs)).sE (gY c)) B p (c+1) { v with net:=v.net.eraseIdx j } A ⟨hA.fx,hA.ps,hA.ev⟩).sub⟩
  refine IF 3 E I (λay a E=>?_) λay a E=>?_
  ·
   refine bR 2 [5,7,9,10] [0,1,2,4,6,8,3003,3005,3007,1009,1010,1011,12] E I λa w E I hH hC=>?_;refine RH 10 E I hH hC λa E=>?_;refine SS E (gr E underlying3 underlying5) λa E=>?_;rw[fN.u8,gP]at E;refine RH 0 E I hH hC λa E=>?_;refine CL 0 E I (acR (I.pick (bG B.q (v.net.map cI))) hm) λa w E I=>?_;refine RN 1 E I λa E=>?_;refine IF 0 E I (λbk a E=>?_) λbk a E=>?_
   ·
    have ho:t.a<0∨(m.2.2.length:Int)≤t.a:=by
     by_cases h1:t.a<0
     ·exact .inl h1
     ·by_cases h2:(m.2.2.length:Int)≤t.a
      ·exact .inr h2
      ·simp at bk;omega
    refine RT 2 E I ?_;exact⟨by rw[uf (by assumption) gP hm,ak ho],by
     rw[uf (by assumption) gP hm,ak ho];rw[ak ho]at I;exact (aE.fold ((I.pick (ah (cA W p c) A.xs)).sE (gY c)) B p (c+1) v A hA).sub⟩
   have ho:¬ (t.a<0∨(m.2.2.length:Int)≤t.a):=by
    simp at bk;omega
   refine RT 2 E I ?_;exact⟨by rw[uf (by assumption) gP hm,ag ho],by
    rw[uf (by assumption) gP hm,ag ho];rw[ag ho]at I;exact (aE.fold ((I.pick (ah (cA W p c) A.xs)).sE (gY c)) B p (c+1) { v with net:=v.net.set j (m.1,m.2.1,m.2.2.set t.a.toNat (m.2.2.getD t.a.toNat 0 ^^^ fm t.b)) } A ⟨hA.fx,hA.ps,hA.ev⟩).sub⟩
  refine IF 3 E I (λbN a E=>?_) λbN a E=>?_
  ·
   refine bR 0 [5] [0,1,2,4,3003,1005,1006] E I λa w E I hH hC=>?_;refine RH 6 E I hH hC λa E=>?_;rw[gP]at E;refine CL 0 E I (OE (I.pick (bG B.q (v.net.map cI))) hm) λa w E I=>?_;refine RN 0 E I λa E=>?_;rw[ag (by omega)];exact⟨⟨⟨by omega,by omega⟩,E.ab [0,5]⟩,I.sub⟩
  refine RN 0 E I λa E=>?_;rw[ak (by omega)];exact⟨⟨⟨by omega,by omega⟩,E.ab [0,5]⟩,I.sub⟩
 clear E;(try clear I);rintro a w ⟨⟨jN,E⟩,I⟩;refine aV 1 (λw0 w'=>Rd w' b5 0 [.int .i64 m.1,.int .i64 m.2.1,.slice am m.2.2.length jL]) [3,5] [0,1,4,3002,3005,1003,1006,7] E I λa w E I hH=>?_;have hC:=hH.at w (I.ai (b:=b5));refine RH 3 E I hH hC λa E=>?_;refine QH E (λw hc=>ae E (hc 1 _ rfl)) hC λa E=>?_;refine QH E (λw hc=>ae E (hc 2 _ rfl)) hC λa E=>?_;refine RH 0 E I hH hC λa E=>?_;refine CL 0 E I (sF ((I.pick (Sl 81 1 A.adL A.xs.length A.cL (A.xs.map cC))).pick (aa B.mb 107 (jY B A))) CA) λa w E I=>?_;replace hC:=hH.at w (I.ai (b:=b5));rw[zM]at E;replace I:=aE.out (I.pick (ah (cA W p c) A.xs)) hx;refine RH 0 E I hH hC λa E=>?_;refine jP E rfl hM.Hi hM.Hj rfl (hM.recv _ _ c (an v m.2.1) m.2.2 am jL jS hw (by omega) (I.sl am).2 (λw' di=>(di.pick (Sl 5 1 am m.2.2.length jL (bc m.2.2))).cu am _ rfl rfl) (I.pick (x.J W p c (an v m.2.1)))) (by rfl) ?_;clear E I;rintro e w ⟨rfl,I⟩;refine⟨_,rfl,λa E=>?_⟩;refine RN 1 E I λa E=>?_;refine RT 0 E I ?_;exact⟨by rw[CC jN.1 jN.2 gP hm],by
  rw[CC jN.1 jN.2 gP hm];exact aE.put hA hx (gY c) (if t.fn=5 then v.net else v.net.eraseIdx j) I.sub⟩
end
end
section
section
variable {W w:World}{L:List SP}{n c d cL cE mb i j q:Nat}{ad adL adE:Option Addr}{p:Pr}{B:iV}{A:oq}{v u:Wd}{x:fF}{s s':Pl}{t:fN}{net:List Ml}{cf:Cf}{xs:List (fF×Pl)}{es:List kx}
theorem iV.Ok.less (h:B.Ok p d)(hc:c≤d):B.Ok p c:=⟨h.pr,h.sz,h.gs,fG hc h.c⟩
theorem aE.more (I:U W w (aE W B p c v::L))(h:c≤d):U W w (aE W B p d v::L):=by
 replace I:=aE.open I;obtain⟨A,hA,I⟩:=I;exact (aE.fold ((I.pick (ah (cA W p c) A.xs)).sE h) B p d v A hA).sub
theorem aE.ug (I:U W w (aE W B p c v::L)):∃ (adL:Option Addr) (cL:Nat) (adE:Option Addr) (cE:Nat) (xs:List (fF×Pl)) (es:List kx),(xs.map (·.1)=B.fx∧xs.map (·.2)=v.ps∧es.map (·.2.2)=v.ev) ∧
   U W w (aa B.mb 107 [.slice adL xs.length cL,pt B.q,.slice adE es.length cE]::Sl 81 1 adL xs.length cL (xs.map cC)::ah (cA W p c) xs::bG B.q (v.net.map cI)::Sl 90 1 adE es.length cE (es.map bx)::ah ew es::L):=by
 replace I:=aE.open I;obtain⟨⟨adL,cL,adE,cE,xs,es⟩,hA,I⟩:=I;exact⟨adL,cL,adE,cE,xs,es,⟨hA.fx,hA.ps,hA.ev⟩,I⟩
theorem aE.sG (I:U W w (aa B.mb 107 [.slice adL xs.length cL,pt B.q,.slice adE es.length cE]::Sl 81 1 adL xs.length cL (xs.map cC)::ah (cA W p c) xs::bG B.q (v.net.map cI)::Sl 90 1 adE es.length cE (es.map bx)::ah ew es::L))
   (h1:xs.map (·.1)=B.fx) (h2:xs.map (·.2)=v.ps) (h3:es.map (·.2.2)=v.ev):U W w (aE W B p c v::L) :=
 U.shut (M:=[_,_,_,_,_,_]) I λ_ h=>⟨⟨adL,cL,adE,cE,xs,es⟩,⟨h1,h2,h3⟩,h⟩
theorem HJ {ps:List Pl}{fx:List fF}(h1:xs.map (·.1)=fx)(h2:xs.map (·.2)=ps)(hi:i<xs.length):∃ x,xs[i]?=some (x,ps.getD i Ct)∧fx[i]?=some x:=by
 refine⟨xs[i].1,?_,by rw[← h1,bl,aD hi];rfl⟩;rw[aD hi,bm,← h2,bl,aD hi];rfl
theorem CD (I:U W w (ah (cA W p c) xs::L))(hx:xs[i]?=some (x,s)):U W w (x.J W p c s::ah (cA W p c) (xs.eraseIdx i)::L):=by
 obtain⟨hi,h1⟩:=aY.1 hx;have h2:=I.fy hi;rw[h1]at h2;exact h2
theorem acU (I:U W w (x.J W p d s'::ah (cA W p c) (xs.eraseIdx i)::L))(hx:xs[i]?=some (x,s))(h:c≤d):U W w (ah (cA W p d) (xs.set i (x,s'))::L):=by
 obtain⟨hi,h1⟩:=aY.1 hx;exact U.kZ (f:=cA W p d) (x:=(x,s')) hi (((I.pick (ah (cA W p c) (xs.eraseIdx i))).sE h).pick (x.J W p d s'))
theorem OG (hx:xs[i]?=some (x,s)):(xs.set i (x,s')).map cC=xs.map cC∧(xs.set i (x,s')).map (·.1)=xs.map (·.1):=by
 obtain⟨hi,h1⟩:=aY.1 hx;constructor
 ·rw[jz,show cC (x,s')=(xs.map cC)[i]'(by rw[a8];exact hi) from by rw[getElem_map,h1],mN]
 ·rw[jz];show (xs.map (·.1)).set i x=_;rw[show x=(xs.map (·.1))[i]'(by rw[a8];exact hi) from by rw[getElem_map,h1],mN]
def CE (B:iV)(t:fN)(v:Wd)(z:Int):Prop:=z=7∨(z=0∧(0≤t.a∧t.a<v.ps.length)∧0≤t.b∧t.b<(an v t.a.toNat).k.workers∧∃ x M,B.fx[t.a.toNat]?=some x∧x.z=.mu M)
theorem CF (I:U W w (aE W B p c v::L))(hB:B.Ok p c)(hv:bK p cf c v)(hf:t.fn=1∨t.fn=2∨t.fn=8∨t.fn=7) :
   Calls prog 44 #[pt B.mb,.agg (dW t).toArray] w λe w'=>∃ z:Int,e=.returned (.int .i64 z)∧(t.fn≠7→z=(gC p t v).1)∧(t.fn=7→CE B t v z)∧U W w' (aE W B p (c+1) (gC p t v).2::L):=by
 by_cases h0:t.a<0∨(v.ps.length:Int)≤t.a
 ·refine (acP I h0).mono λe w' ⟨h,I⟩=>⟨7,h,λ_=>?_,λ_=>.inl rfl,?_⟩
  ·rw[gC,ak h0]
  ·rw[gC,ak h0];exact aE.more I (gY c)
 ·refine (acQ (i:=t.a.toNat) I hB hv (by omega) hf (by omega)).mono λe w' ⟨z,h,h1,h2,I⟩=>⟨z,h,h1,λh7=>?_,I⟩;rcases h2 h7 with h3 | ⟨h3,h4,h5,h6⟩
  ·exact .inl h3
  ·exact .inr ⟨h3,by omega,h4,h5,h6⟩
theorem CG (I:U W w (aE W B p c v::L))(hB:B.Ok p c)(hv:bK p cf c v)(hf:t.fn=3∨t.fn=4∨t.fn=5∨t.fn=6) :
   Calls prog 45 #[pt B.mb,.agg (dW t).toArray] w λe w'=>e=.returned (.int .i64 (gO p t v).1)∧U W w' (aE W B p (c+1) (gO p t v).2::L):=by
 by_cases h0:t.n<0∨(v.net.length:Int)≤t.n
 ·rw[OF h0];exact (acS I h0).mono λe w' ⟨h,I⟩=>⟨h,aE.more I (gY c)⟩
 ·exact acT (j:=t.n.toNat) I hB hv hf (by omega) (aD (by omega))
set_option maxHeartbeats 2000000 in
theorem OH (I:U W w (aE W B p c v::L))(hB:B.Ok p (c+10))(hv:bK p cf c v)(ke:9*c+100≤1000000000) :
   Calls prog 29 #[pt B.mb,.agg (dW t).toArray] w λe w'=>∃ z:Int,e=.returned (.int .i64 z)∧(t.fn≠7→z=(bu p t v).1)∧(t.fn=7→CE B t v z)∧U W w' (aE W B p (c+10) (lz (bu p t v).2)::L):=by
 have hu:=hv.step (s:=t);refine EN func29 ntmps29 rfl rfl λa E=>?_;refine BX 1 E I λb3 a w E I=>?_;change U W w (aa b3 58 (dW t)::_) at I;refine RN 5 E I λa E=>?_;replace E:=E.aP 9;refine RN 3 E I λa E=>?_;refine cc (M:=λa w=>(∃ z:Int,((t.fn≠7→z=(bu p t v).1)∧(t.fn=7→CE B t v z))∧Fr a 56 [(0,pt B.mb),(5,.int .i64 z)])∧U W w (aE W B p (c+1) (bu p t v).2::L)) ?_ ?_
 ·
  refine IF 7 E I (λao a E=>?_) λao a E=>?_
  ·
   refine bh 3 E I (CF (I.pick (aE W B p c v)) (hB.less (by omega)) hv (by omega)) λz a w E ⟨cV,eS,I⟩=>?_;refine RN 1 E I λa E=>?_
   first
    | (have aS : bu p t v = gC p t v := by rw [bu, ag (by omega), ag (by omega)]
       rw[aS];exact⟨⟨z,⟨cV,eS⟩,E.ab [0,5]⟩,I.sub⟩)
    | (have aS : bu p t v = gO p t v := by rw [bu, ag (by omega), ak (by omega)]
       rw[aS];exact⟨⟨_,⟨λ_=>rfl,λh=>by omega⟩,E.ab [0,5]⟩,I.sub⟩)
    | (have aS : bu p t v = (1, v) := by rw [bu, ak (by omega)]
       rw[aS];exact⟨⟨1,⟨λ_=>rfl,λh=>by omega⟩,E.ab [0,5]⟩,(aE.more (I.pick (aE W B p c v)) (gY c)).sub⟩)
  refine IF 3 E I (λay a E=>?_) λay a E=>?_
  ·
   refine bh 3 E I (CF (I.pick (aE W B p c v)) (hB.less (by omega)) hv (by omega)) λz a w E ⟨cV,eS,I⟩=>?_;refine RN 1 E I λa E=>?_
   first
    | (have aS : bu p t v = gC p t v := by rw [bu, ag (by omega), ag (by omega)]
       rw[aS];exact⟨⟨z,⟨cV,eS⟩,E.ab [0,5]⟩,I.sub⟩)
    | (have aS : bu p t v = gO p t v := by rw [bu, ag (by omega), ak (by omega)]
       rw[aS];exact⟨⟨_,⟨λ_=>rfl,λh=>by omega⟩,E.ab [0,5]⟩,I.sub⟩)
    | (have aS : bu p t v = (1, v) := by rw [bu, ak (by omega)]
       rw[aS];exact⟨⟨1,⟨λ_=>rfl,λh=>by omega⟩,E.ab [0,5]⟩,(aE.more (I.pick (aE W B p c v)) (gY c)).sub⟩)
  refine IF 3 E I (λbk a E=>?_) λbk a E=>?_
  ·
   refine bh 3 E I (CF (I.pick (aE W B p c v)) (hB.less (by omega)) hv (by omega)) λz a w E ⟨cV,eS,I⟩=>?_;refine RN 1 E I λa E=>?_
   first
    | (have aS : bu p t v = gC p t v := by rw [bu, ag (by omega), ag (by omega)]
       rw[aS];exact⟨⟨z,⟨cV,eS⟩,E.ab [0,5]⟩,I.sub⟩)
    | (have aS : bu p t v = gO p t v := by rw [bu, ag (by omega), ak (by omega)]
       rw[aS];exact⟨⟨_,⟨λ_=>rfl,λh=>by omega⟩,E.ab [0,5]⟩,I.sub⟩)
    | (have aS : bu p t v = (1, v) := by rw [bu, ak (by omega)]
       rw[aS];exact⟨⟨1,⟨λ_=>rfl,λh=>by omega⟩,E.ab [0,5]⟩,(aE.more (I.pick (aE W B p c v)) (gY c)).sub⟩)
  refine IF 2 E I (λbN a E=>?_) λbN a E=>?_
  ·
   refine bh 2 E I (CF (I.pick (aE W B p c v)) (hB.less (by omega)) hv (by omega)) λz a w E ⟨cV,eS,I⟩=>?_;refine RN 1 E I λa E=>?_
   first
    | (have aS : bu p t v = gC p t v := by rw [bu, ag (by omega), ag (by omega)]
       rw[aS];exact⟨⟨z,⟨cV,eS⟩,E.ab [0,5]⟩,I.sub⟩)
    | (have aS : bu p t v = gO p t v := by rw [bu, ag (by omega), ak (by omega)]
       rw[aS];exact⟨⟨_,⟨λ_=>rfl,λh=>by omega⟩,E.ab [0,5]⟩,I.sub⟩)
    | (have aS : bu p t v = (1, v) := by rw [bu, ak (by omega)]
       rw[aS];exact⟨⟨1,⟨λ_=>rfl,λh=>by omega⟩,E.ab [0,5]⟩,(aE.more (I.pick (aE W B p c v)) (gY c)).sub⟩)
  refine IF 4 E I (λeN a E=>?_) λeN a E=>?_
  ·
   refine CL 3 E I (CG (I.pick (aE W B p c v)) (hB.less (by omega)) hv (by omega)) λa w E I=>?_;refine RN 1 E I λa E=>?_
   first
    | (have aS : bu p t v = gC p t v := by rw [bu, ag (by omega), ag (by omega)]
       rw[aS];exact⟨⟨z,⟨cV,eS⟩,E.ab [0,5]⟩,I.sub⟩)
    | (have aS : bu p t v = gO p t v := by rw [bu, ag (by omega), ak (by omega)]
       rw[aS];exact⟨⟨_,⟨λ_=>rfl,λh=>by omega⟩,E.ab [0,5]⟩,I.sub⟩)
    | (have aS : bu p t v = (1, v) := by rw [bu, ak (by omega)]
       rw[aS];exact⟨⟨1,⟨λ_=>rfl,λh=>by omega⟩,E.ab [0,5]⟩,(aE.more (I.pick (aE W B p c v)) (gY c)).sub⟩)
  refine IF 3 E I (λmi a E=>?_) λmi a E=>?_
  ·
   refine CL 3 E I (CG (I.pick (aE W B p c v)) (hB.less (by omega)) hv (by omega)) λa w E I=>?_;refine RN 1 E I λa E=>?_
   first
    | (have aS : bu p t v = gC p t v := by rw [bu, ag (by omega), ag (by omega)]
       rw[aS];exact⟨⟨z,⟨cV,eS⟩,E.ab [0,5]⟩,I.sub⟩)
    | (have aS : bu p t v = gO p t v := by rw [bu, ag (by omega), ak (by omega)]
       rw[aS];exact⟨⟨_,⟨λ_=>rfl,λh=>by omega⟩,E.ab [0,5]⟩,I.sub⟩)
    | (have aS : bu p t v = (1, v) := by rw [bu, ak (by omega)]
       rw[aS];exact⟨⟨1,⟨λ_=>rfl,λh=>by omega⟩,E.ab [0,5]⟩,(aE.more (I.pick (aE W B p c v)) (gY c)).sub⟩)
  refine IF 3 E I (λmU a E=>?_) λmU a E=>?_
  ·
   refine CL 3 E I (CG (I.pick (aE W B p c v)) (hB.less (by omega)) hv (by omega)) λa w E I=>?_;refine RN 1 E I λa E=>?_
   first
    | (have aS : bu p t v = gC p t v := by rw [bu, ag (by omega), ag (by omega)]
       rw[aS];exact⟨⟨z,⟨cV,eS⟩,E.ab [0,5]⟩,I.sub⟩)
    | (have aS : bu p t v = gO p t v := by rw [bu, ag (by omega), ak (by omega)]
       rw[aS];exact⟨⟨_,⟨λ_=>rfl,λh=>by omega⟩,E.ab [0,5]⟩,I.sub⟩)
    | (have aS : bu p t v = (1, v) := by rw [bu, ak (by omega)]
       rw[aS];exact⟨⟨1,⟨λ_=>rfl,λh=>by omega⟩,E.ab [0,5]⟩,(aE.more (I.pick (aE W B p c v)) (gY c)).sub⟩)
  refine IF 2 E I (λlS a E=>?_) λlS a E=>?_
  ·
   refine CL 2 E I (CG (I.pick (aE W B p c v)) (hB.less (by omega)) hv (by omega)) λa w E I=>?_;refine RN 1 E I λa E=>?_
   first
    | (have aS : bu p t v = gC p t v := by rw [bu, ag (by omega), ag (by omega)]
       rw[aS];exact⟨⟨z,⟨cV,eS⟩,E.ab [0,5]⟩,I.sub⟩)
    | (have aS : bu p t v = gO p t v := by rw [bu, ag (by omega), ak (by omega)]
       rw[aS];exact⟨⟨_,⟨λ_=>rfl,λh=>by omega⟩,E.ab [0,5]⟩,I.sub⟩)
    | (have aS : bu p t v = (1, v) := by rw [bu, ak (by omega)]
       rw[aS];exact⟨⟨1,⟨λ_=>rfl,λh=>by omega⟩,E.ab [0,5]⟩,(aE.more (I.pick (aE W B p c v)) (gY c)).sub⟩)
  refine RN 0 E I λa E=>?_
  first
   | (have aS : bu p t v = gC p t v := by rw [bu, ag (by omega), ag (by omega)]
      rw[aS];exact⟨⟨z,⟨cV,eS⟩,E.ab [0,5]⟩,I.sub⟩)
   | (have aS : bu p t v = gO p t v := by rw [bu, ag (by omega), ak (by omega)]
      rw[aS];exact⟨⟨_,⟨λ_=>rfl,λh=>by omega⟩,E.ab [0,5]⟩,I.sub⟩)
   | (have aS : bu p t v = (1, v) := by rw [bu, ak (by omega)]
      rw[aS];exact⟨⟨1,⟨λ_=>rfl,λh=>by omega⟩,E.ab [0,5]⟩,(aE.more (I.pick (aE W B p c v)) (gY c)).sub⟩)
 clear E;(try clear I);rintro a w ⟨⟨z,hz,E⟩,I⟩;refine RN 2 E I λa E=>?_;generalize (bu p t v).2=u at I hu ⊢;replace I:=aE.ug I;obtain⟨adL,cL,adE,cE,zN,zO,⟨dX,c6,ek⟩,I⟩:=I;have b9:zN.length=u.ps.length:=by rw[← c6,a8]
 have sH:zO.length=u.ps.length:=by rw[← hu.ev,← ek,a8]
 have xB:=hu.len;have jS:=hB.c;refine RN 6 E I λa E=>?_;refine aN (λμ a w=>∃ (i:Nat) (xs:List (fF×Pl)) (es:List kx),(μ=u.ps.length-i∧(i≤u.ps.length∧xs.length=u.ps.length∧es.length=u.ps.length)∧xs.map (·.1)=B.fx∧xs.map (·.2)=(cz u i).ps∧es.map (·.2.2)=(cz u i).ev)∧Fr a 56 [(0,pt B.mb),(5,.int .i64 z),(31,.slice adL u.ps.length cL),(32,.int .i64 u.ps.length),(33,.int .i64 i)]∧U W w (aa B.mb 107 [.slice adL u.ps.length cL,pt B.q,.slice adE u.ps.length cE]::Sl 81 1 adL u.ps.length cL (xs.map cC)::ah (cA W p (c+1+i)) xs::bG B.q (u.net.map cI)::Sl 90 1 adE u.ps.length cE (es.map bx)::ah ew es::L)) (u.ps.length) (⟨0,zN,zO,⟨rfl,⟨by omega,b9,sH⟩,dX,c6,ek⟩,(by rw[b9]at E;exact E.ab [0,5,31,32,33]),(by rw[b9,sH]at I;exact I.sub)⟩) ?_;clear E I;rintro μ a w ⟨i,xs,es,⟨rfl,⟨hi,zP,zQ⟩,u9,tI,q3⟩,E,I⟩;refine IF 3 E I (λke a E=>?_) λke a E=>?_
 ·
  have aI:i<u.ps.length:=by omega
  obtain⟨x,hx,pv⟩:∃ x,xs[i]?=some (x,an (cz u i) i)∧B.fx[i]?=some x:=HJ u9 tI (by omega);obtain⟨_,g4⟩:=aY.1 hx;have hM:=x.q5 (W:=W) (p:=p) hB.pr hB.sz (hB.gs x (bF pv));have hd:=hu.cz (i:=i) (by omega);obtain⟨hw,df,xI⟩:=hd.pl i (by rw[(rk u i).1];exact aI);have HK:=hd.kT;obtain⟨iH,iI,l,lA⟩:∃ iH iI l,es[i]?=some (iH,iI,l):=⟨_,_,_,aD (by omega)⟩;obtain⟨_,pw⟩:=aY.1 lA;have ha:l.length≤9*(c+2):=(HK l (by rw[← q3];exact cR.2 ⟨(iH,iI,l),by rw[← pw];exact jd _,rfl⟩)).1;have zM:(xs.map cC)[i]?=some (.iface x.z.t (.pointer (some x.z.ad))):=by rw[bl,hx];rfl
  refine RN 2 E I λa E=>?_;obtain⟨na,ol,rfl,gv⟩:=(I.pick (Sl 81 1 adL u.ps.length cL (xs.map cC))).bU adL (by omega);have fJ:=gv i _ zM;refine RN 2 E I λa E=>?_;refine SS E (ae E (fJ)) λa E=>?_;refine RN 2 E I λa E=>?_;obtain⟨iW,oE,rfl,_⟩:=(I.pick (Sl 90 1 adE u.ps.length cE (es.map bx))).bU adE (by omega);refine aV 0 (λw0 w'=>Rd w' B.mb 0 [.slice (some ⟨na,ol,none⟩) u.ps.length cL,pt B.q,.slice (some ⟨iW,oE,none⟩) u.ps.length cE]∧Rd w' iW oE (es.map bx)) [8,10,11,13,14] [0,1,2,4,5,6,7,9,12,3003,3008,3010,3011,1013,1014,15,1016] E I λa w E I hH=>?_;have hC:=hH.at w ⟨I.ai (b:=B.mb),I.cK iW oE (by omega)⟩;refine RH 9 E I hH hC λa E=>?_;refine QH E (λw hc=>ae E (hc.1 2 _ rfl)) hC λa E=>?_;refine QH E (λw hc=>ae E (hc.1 2 _ rfl)) hC λa E=>?_;refine RH 1 E I hH hC λa E=>?_;refine QH E (λw hc=>ae E (hc.2 i (.slice iH l.length iI) (by rw[bl,lA];rfl))) hC λa E=>?_;replace I:=CD (I.pick (ah (cA W p (c+1+i)) xs)) hx;refine RH 0 E I hH hC λa E=>?_;refine jP E rfl hM.Hn hM.cE rfl (hM.events _ _ (c+1+i) (an (cz u i) i) (by omega) hw (I.pick (x.J W p (c+1+i) (an (cz u i) i)))) (by rfl) ?_;clear E I;rintro e w ⟨am,jL,rfl,I⟩;refine⟨_,rfl,λa E=>?_⟩;replace hC:=hH.at w ⟨I.ai (b:=B.mb),I.cK iW oE (by omega)⟩;replace I:=(I.pick (ah ew es)).fy (i:=i) (by omega);rw[pw]at I;change U W w (Sl 135 1 iH l.length iI (l.map cB)::_) at I;have OI:=hw.wc.kT;refine RH 0 E I hH hC λa E=>?_;refine g8 E rfl I underlying90 Ty.t135 rfl rfl (by decide) (λh0=>(I.pick (Sl 135 1 am (an (cz u i) i).k.ev.length jL ((an (cz u i) i).k.ev.map cB))).bU am h0) (by rw[a8,fW]) (Oz _) (by omega) λsb sd a w E I=>?_;replace hC:=hH.at w ⟨I.ai (b:=B.mb),I.cK iW oE (by omega)⟩;have hcE:=((I.pick (Sl 90 1 (some ⟨iW,oE,none⟩) u.ps.length cE (es.map bx))).sl (some ⟨iW,oE,none⟩)).2;obtain⟨js,pre,post,⟨h3,h4,h5,h6⟩,gI⟩:=(I.pick (Sl 90 1 (some ⟨iW,oE,none⟩) u.ps.length cE (es.map bx))).l8 (by omega);replace I:=gI;clear gI;obtain⟨rfl,rfl⟩:iW=js∧oE=pre.length:=by simpa using h5
  refine RH 1 E I hH hC λa E=>?_;refine ST 0 E I (λa w E I=>?_) (hlt:=(by simp only[aJ,a8];omega));refine RN 2 E I λa E=>?_;have q4:(cz u i).ev.getD i []=l:=by rw[← q3,bm,bl,lA];rfl
  have HL:(es.map bx).set i (.slice sb (l.length+(an (cz u i) i).k.ev.length) sd)=(es.set i (sb,sd,l++(an (cz u i) i).k.ev)).map bx:=by
   rw[jz,bx,aJ]
  have dz:=I;rw[zF (by rw[a8];omega),HL]at dz;replace dz:=U.iZ (n:=u.ps.length) (c:=cE) (sz:=1) (dz.jZ iW) (by rw[a8,bt];omega) h4 h6;have hj:=dz.pick (ah (cA W p (c+1+i)) (xs.eraseIdx i));have hk:=acU (s':=⟨{ (an (cz u i) i).k with ev:=[] },(an (cz u i) i).g⟩) (hj.pick (x.J W p (c+1+i+1) ⟨{ (an (cz u i) i).k with ev:=[] },(an (cz u i) i).g⟩)) hx (gY _);have qh:Sl 135 1 sb (l.length+(an (cz u i) i).k.ev.length) sd (l.map cB++(an (cz u i) i).k.ev.map cB)=ew (sb,sd,l++(an (cz u i) i).k.ev):=by
   rw[ew,aJ,cW]
  have hq:=(hk.pick (ah ew (es.eraseIdx i))).pick (Sl 135 1 sb (l.length+(an (cz u i) i).k.ev.length) sd (l.map cB++(an (cz u i) i).k.ev.map cB));rw[qh]at hq;have eS:=U.kZ (f:=ew) (i:=i) (by omega) hq;refine⟨u.ps.length-(i+1),by omega,i+1,xs.set i (x,⟨{ (an (cz u i) i).k with ev:=[] },(an (cz u i) i).g⟩),es.set i (sb,sd,l++(an (cz u i) i).k.ev),⟨rfl,⟨by omega,by rw[bt];exact zP,by rw[bt];exact zQ⟩,(OG hx).2.trans u9,?_,?_⟩,E.ab [0,5,31,32,33],?_⟩
  ·rw[jz,tI];rfl
  ·rw[jz,q3,← q4];rfl
  ·rw[(OG hx).1];exact eS.sub
 refine RT 3 E I ?_;obtain rfl:i=u.ps.length:=by omega
 refine⟨z,rfl,hz.1,hz.2,?_⟩;have dz:=(I.pick (ah (cA W p (c+1+u.ps.length)) xs)).sE (d:=c+10) (by omega);refine aE.sG (adL:=adL) (cL:=cL) (adE:=adE) (cE:=cE) (xs:=xs) (es:=es) ?_ u9 tI q3;rw[zP,zQ,show (lz u).net=u.net from (rk u _).2.1];exact dz.sub
end
end
section
def m7 (p:Pr)(G:List (List UInt8))(f s:Nat):Prop:=f≤aU G∧(0<f→s=kU p G (f-1))
theorem m7.ext {p:Pr}{G G':List (List UInt8)}{f s:Nat}(h:m7 p G f s)(he:Ext G G')(h0:G≠[]):m7 p G' f s :=
 ⟨fG h.1 (he.front h0),λhf=>by rw[he.kU (by have:=h.1;omega)];exact h.2 hf⟩
theorem CH {p:Pr}{k:Ks}(hm:k.mr=(List.range k.mr.length).map (kU p k.ls)){f:Nat}(hf:f<k.mr.length):k.mr.getD f 0=kU p k.ls f:=by
 rw[hm,bm,bl,getElem?_range hf];rfl
theorem OJ {p:Pr}{G:List (List UInt8)}{k:Ks}(hm:k.mr=(List.range k.mr.length).map (kU p k.ls))(hl:k.mr.length≤aU k.ls)(he:Ext k.ls G)
   (hw:∀ i,i<k.ps.length→m7 p G (au k i).frame (au k i).sum):held k:=λi hi ⟨_,h1,h2,h3⟩=>h3 (by
 rw[CH hm (by omega),← he.kU (p:=p) (f:=(au k i).frame-1) (by omega)];exact ((hw i hi).2 (by omega)).symm)
theorem OK {p:Pr}{G:List (List UInt8)}:∀ (n:Nat) {s:Pl},WP p s→Ext s.k.ls G→(∀ i,i<s.k.ps.length→m7 p G (au s.k i).frame (au s.k i).sum)→n≤aw s.k-s.k.mr.length →
   ∃ mr,(iF p n s).k={ s.k with mr:=mr }
 | 0,s,_,_,_,_=>⟨s.k.mr,rfl⟩
 | n+1,s,h,he,hw,hn=>by
  have h9:=h.wc.nG;have h8:=h.wc.lZ;obtain⟨h1,h2,h3⟩:=h.one (by omega);have hg:e7 p s.k.mr.length (bJ s.k.ls s.k.mr.length) s.g=l3 p s.k.ls (s.k.mr.length+1):=by rw[Mb,h.sm]
  have hk:(ob p s).k={ s.k with mr:=s.k.mr++[kU p s.k.ls s.k.mr.length] }:=by
   show lY s.k _=_;rw[lY,ak (by omega),hg];refine held.lr (OJ (p:=p) (G:=G) ?_ ?_ he hw)
   ·show s.k.mr++[_]=(List.range (s.k.mr++[_]).length).map (kU p s.k.ls);rw[aJ,jF,range_succ,cW,← h.marks];rfl
   ·show (s.k.mr++[_]).length≤aU s.k.ls;rw[aJ,jF];simp only[aw]at hn;omega
  obtain⟨mr,h4⟩:=OK n h1 (by rw[h2];exact he) (λi hi=>by rw[hk]at hi ⊢;exact hw i hi) (by rw[aw,h2,h3];simp only[aw]at hn;omega);exact⟨mr,by rw[iF,h4,hk]⟩
theorem HM {p:Pr}{G:List (List UInt8)}{s:Pl}(h:WP p s)(he:Ext s.k.ls G)(hw:∀ i,i<s.k.ps.length→m7 p G (au s.k i).frame (au s.k i).sum):∃ mr,(eC p s).k={ s.k with mr:=mr } :=
 OK _ h he hw (a7 _)
structure gQ (p:Pr)(G:List (List UInt8))(s:Pl):Prop where
 wf:ct p s
 ext:Ext s.k.ls G
 own:s.k.ls.getD s.k.me []=G.getD s.k.me []
 pe:∀ i,i<s.k.ps.length→(au s.k i).apart=false∧m7 p G (au s.k i).frame (au s.k i).sum
structure vH (p:Pr)(G:List (List UInt8))(q:Pk):Prop where
 may:ia q
 sum:q.sum<4294967296
 vI:q.kind=1→q.first.toNat+q.al.length≤(G.getD q.aW.toNat []).length∧q.al=((G.getD q.aW.toNat []).drop q.first.toNat).take q.al.length
 word:q.kind=1→m7 p G q.frame.toNat q.sum
theorem vH.ext {p:Pr}{G G':List (List UInt8)}{q:Pk}(h:vH p G q)(he:Ext G G')(h0:G≠[])(hq:q.aW.toNat<G.length):vH p G' q:=by
 refine⟨h.may,h.sum,λhk=>?_,λhk=>(h.word hk).ext he h0⟩;obtain⟨h1,h2⟩:=h.vI hk;obtain⟨t,ht⟩:=he.2 _ hq;rw[ht,aJ];refine⟨by omega,?_⟩;rw[List.drop_append_of_le_length (by omega),List.take_append_of_le_length (by rw[c7];omega)];exact h2
section
variable {p:Pr}{G G':List (List UInt8)}{s:Pl}{b:UInt8}{q:Pk}
theorem gQ.words (h:gQ p G s):∀ i,i<s.k.ps.length→m7 p G (au s.k i).frame (au s.k i).sum:=λi hi=>(h.pe i hi).2
theorem gQ.lens (h:gQ p G s):G.length=s.k.n:=by rw[h.ext.1];exact h.wf.wc.ls
theorem gQ.HN (h:gQ p G s):G≠[]:=λe=>by
 have h1:=h.lens;have h2:=h.wf.wc.n;rw[e,length_nil]at h1;omega
theorem gQ.more (h:gQ p G s)(he:Ext G G')(ho:G'.getD s.k.me []=G.getD s.k.me []):gQ p G' s :=
 ⟨h.wf,h.ext.trans he,h.own.trans ho.symm,λi hi=>⟨(h.pe i hi).1,(h.pe i hi).2.ext he h.HN⟩⟩
theorem gQ.al (h:gQ p G s)(h0:(dK p b s).1=0) :
   gQ p (G.set s.k.me (G.getD s.k.me []++[b])) (dK p b s).2∧∃ mr,(dK p b s).2.k={ s.k with ls:=s.k.ls.set s.k.me (s.k.ls.getD s.k.me []++[b]),mr:=mr }:=by
 obtain⟨h1,h2,h3,h4⟩:=vf (k:=s.k) (b:=b) h0;have he:=vh b s.k;have lQ:=h.wf.toWP.more (h.wf.wc.al b) (h.wf.held.al b) he.1 he.2;have eE:s.k.me<s.k.ls.length:=by rw[h.wf.wc.ls];exact h.wf.wc.me
 have OL:s.k.me<G.length:=by rw[h.ext.1];exact eE
 have hG:Ext G (G.set s.k.me (G.getD s.k.me []++[b])):=Ext.set;have hx:Ext (c3 b s.k).2.ls (G.set s.k.me (G.getD s.k.me []++[b])):=by
  rw[h4];refine⟨by simp only[bt];exact h.ext.1,λi hi=>?_⟩;simp only[bt]at hi;by_cases e:i=s.k.me
  ·subst e;refine⟨[],?_⟩;simp only;rw[bm,getElem?_set_self OL,bm (l:=s.k.ls.set _ _),getElem?_set_self eE,h.own];simp
  ·obtain⟨t,ht⟩:=h.ext.2 i hi;refine⟨t,?_⟩;simp only;rw[bm,getElem?_set_ne (λe2=>e e2.symm),bm (l:=s.k.ls.set _ _),getElem?_set_ne (λe2=>e e2.symm),← bm,← bm];exact ht
 have fL:(c3 b s.k).2.ps=s.k.ps:=by rw[h4]
 have Ar:∀ i,i<s.k.ps.length→m7 p (G.set s.k.me (G.getD s.k.me []++[b])) (au (c3 b s.k).2 i).frame (au (c3 b s.k).2 i).sum:=λi hi=>by
  have:=(h.words i hi).ext hG h.HN;rw[au,fL];exact this
 obtain⟨mr,hk⟩:=HM (s:=⟨(c3 b s.k).2,s.g⟩) lQ hx (λi hi=>Ar i (by rw[← fL];exact hi));have b0:(dK p b s).2.k={ (c3 b s.k).2 with mr:=mr }:=hk;refine⟨⟨h.wf.al b,by rw[b0];exact hx,?_,λi hi=>?_⟩,mr,by rw[b0,h4]⟩
 ·rw[b0];show (c3 b s.k).2.ls.getD (c3 b s.k).2.me []=(G.set s.k.me (G.getD s.k.me []++[b])).getD (c3 b s.k).2.me [];rw[h4];simp only;rw[bm,getElem?_set_self eE,bm (l:=G.set _ _),getElem?_set_self OL,h.own]
 ·rw[b0]at hi ⊢;have dL:i<s.k.ps.length:=by rw[← fL];exact hi
  refine⟨?_,Ar i dL⟩;show (au (c3 b s.k).2 i).apart=false;rw[au,fL];exact (h.pe i dL).1
theorem OM (h:ct p s)(h0:(dK p b s).1≠0):(dK p b s).2=s:=by
 show eC p ⟨(c3 b s.k).2,s.g⟩=s;rw[vg h0];exact h.eC
theorem ON {bs:List UInt8}(h:ct p s)(h0:(dB p bs s).1≠0):(dB p bs s).2=s:=by
 show eC p ⟨(dp bs s.k).2,s.g⟩=s;rw[xj h0];exact h.eC
theorem acV {l t P:List UInt8}{f:Nat}(I:f+P.length≤(l++t).length)(hP:P=((l++t).drop f).take P.length):∃ u,l++t=du l f P++u:=by
 unfold du;split
 ·exact⟨t,rfl⟩
 ·rename_i hf;have h1:P.drop (l.length-f)=t.take (P.length-(l.length-f)):=by
   conv=>lhs;rw[hP]
   rw[List.drop_take,kA,show f+(l.length-f)=l.length from by omega,drop_left]
  rw[h1,List.take_take];exact⟨t.drop (min (1000-l.length) (P.length-(l.length-f))),by rw[dx,j0]⟩
theorem OO (h:ct p s)(hq:ia q)(I:q.sum<4294967296)(hc:s.k.cl=false)(ht:q.to=s.k.me)(hf:q.aW<s.k.n)(b6:q.id=s.k.id):dp (aT q) s.k=(0,fZ s.k q):=by
 rw[dp,ag (by rw[hc];decide),Lc hq I];show (if _ then _ else _)=_;rw[ag];rintro (h | h | h)
 ·exact h ht
 ·omega
 ·exact h b6
theorem gQ.za (h:gQ p G s)(hq:vH p G q)(hc:s.k.cl=false)(ht:q.to=s.k.me)(hf:q.aW<s.k.n)(b6:q.id=s.k.id)(h1:q.kind=1) :
   gQ p G (dB p (aT q) s).2∧(dB p (aT q) s).1=0∧∃ mr,(dB p (aT q) s).2.k={ s.k with ls:=s.k.ls.set q.aW.toNat (du (s.k.ls.getD q.aW.toNat []) q.first.toNat q.al),ps:=s.k.ps.set q.aW.toNat (fY s.k.now (aG s.k) q (au s.k q.aW.toNat)),mr:=mr }:=by
 have hr:=OO h.wf hq.may hq.sum hc ht hf b6;have fw:q.aW.toNat<s.k.n:=by have:=hq.may.1;omega
 have bD:q.aW.toNat≠s.k.me:=λe=>hq.may.2.2.1 (by have:=hq.may.1;have:=hq.may.2.1;omega);have aI:q.aW.toNat<s.k.ls.length:=by rw[h.wf.wc.ls];exact fw
 have sI:q.aW.toNat<s.k.ps.length:=by rw[h.wf.wc.ps];exact fw
 obtain⟨t,OP⟩:=h.ext.2 _ aI;obtain⟨oA,dz⟩:=hq.vI h1;rw[OP]at oA dz;obtain⟨u,hu⟩:=acV oA dz;have hx:Ext (s.k.ls.set q.aW.toNat (du (s.k.ls.getD q.aW.toNat []) q.first.toNat q.al)) G:=by
  refine⟨by rw[bt];exact h.ext.1,λi hi=>?_⟩;rw[bt]at hi;by_cases e:i=q.aW.toNat
  ·subst e;refine⟨u,?_⟩;rw[bm (l:=s.k.ls.set _ _),getElem?_set_self aI,OP];exact hu
  ·obtain⟨t2,GO⟩:=h.ext.2 i hi;refine⟨t2,?_⟩;rw[bm (l:=s.k.ls.set _ _),getElem?_set_ne (λe2=>e e2.symm),← bm];exact GO
 have OQ:∀ i,i<s.k.ps.length→(if i=q.aW.toNat then fY s.k.now (aG s.k) q (au s.k q.aW.toNat) else au s.k i).apart=false∧m7 p G (if i=q.aW.toNat then fY s.k.now (aG s.k) q (au s.k q.aW.toNat) else au s.k i).frame (if i=q.aW.toNat then fY s.k.now (aG s.k) q (au s.k q.aW.toNat) else au s.k i).sum:=λi hi=>by
  by_cases e:i=q.aW.toNat
  ·rw[ak e];have h9:=h.pe _ sI;unfold fY;simp only;split
   ·exact⟨h9.1,hq.word h1⟩
   ·exact⟨h9.1,h9.2⟩
  ·rw[ag e];exact h.pe i hi
 have uO:∀ i,i<s.k.ps.length→m7 p G (au ({ s.k with ls:=s.k.ls.set q.aW.toNat (du (s.k.ls.getD q.aW.toNat []) q.first.toNat q.al),ps:=s.k.ps.set q.aW.toNat (fY s.k.now (aG s.k) q (au s.k q.aW.toNat)) }:Ks) i).frame (au ({ s.k with ls:=s.k.ls.set q.aW.toNat (du (s.k.ls.getD q.aW.toNat []) q.first.toNat q.al),ps:=s.k.ps.set q.aW.toNat (fY s.k.now (aG s.k) q (au s.k q.aW.toNat)) }:Ks) i).sum:=λi hi=>by
  rw[au,xi sI];exact (OQ i hi).2
 have hh:fZ s.k q={ s.k with ls:=s.k.ls.set q.aW.toNat (du (s.k.ls.getD q.aW.toNat []) q.first.toNat q.al),ps:=s.k.ps.set q.aW.toNat (fY s.k.now (aG s.k) q (au s.k q.aW.toNat)) }:=by
  rw[fZ,ag (by omega)];refine held.lr (OJ (p:=p) (G:=G) ?_ ?_ hx (λi hi=>uO i (by simpa using hi)))
  ·have e4:=(so (aT q) s.k).2;rw[hr]at e4;have h5:=FY (k:=s.k) (p:=q);rw[fZ,ag (by omega)]at h5;obtain⟨ps,ev,h6,_⟩:=xh { s.k with ls:=s.k.ls.set q.aW.toNat (du (s.k.ls.getD q.aW.toNat []) q.first.toNat q.al),ps:=s.k.ps.set q.aW.toNat (fY s.k.now (aG s.k) q (au s.k q.aW.toNat)) };rw[h6]at h5;have h7:Ext s.k.ls (s.k.ls.set q.aW.toNat (du (s.k.ls.getD q.aW.toNat []) q.first.toNat q.al)):=h5.2;show s.k.mr=_
   conv=>lhs;rw[h.wf.marks]
   refine List.map_congr_left λi hi=>?_;rw[mem_range]at hi;have hl:=h.wf.low;simp only[aw]at hl;rw[h7.kU (by omega)]
  ·have h5:=(FY (k:=s.k) (p:=q)).2;rw[fZ,ag (by omega)]at h5;obtain⟨ps,ev,h6,_⟩:=xh { s.k with ls:=s.k.ls.set q.aW.toNat (du (s.k.ls.getD q.aW.toNat []) q.first.toNat q.al),ps:=s.k.ps.set q.aW.toNat (fY s.k.now (aG s.k) q (au s.k q.aW.toNat)) };rw[h6]at h5;have h7:Ext s.k.ls (s.k.ls.set q.aW.toNat (du (s.k.ls.getD q.aW.toNat []) q.first.toNat q.al)):=h5;exact fG h.wf.low (h7.front h.wf.wc.lu)
 have he:=so (aT q) s.k;have lQ:=h.wf.toWP.more (h.wf.wc.recv (aT q)).1 ((h.wf.wc.recv (aT q)).2 h.wf.held) he.1 he.2;have fX:(dp (aT q) s.k).2=fZ s.k q:=by rw[hr]
 obtain⟨mr,hk⟩:=HM (G:=G) (s:=⟨(dp (aT q) s.k).2,s.g⟩) lQ (by show Ext (dp (aT q) s.k).2.ls G;rw[fX,hh];exact hx) (λi hi=>by
  change i<(dp (aT q) s.k).2.ps.length at hi;show m7 p G (au (dp (aT q) s.k).2 i).frame (au (dp (aT q) s.k).2 i).sum;rw[fX,hh]at hi ⊢;exact uO i (by simpa using hi))
 have b0:(dB p (aT q) s).2.k={ fZ s.k q with mr:=mr }:=by
  have:(dB p (aT q) s).2.k={ (dp (aT q) s.k).2 with mr:=mr }:=hk;rw[this,fX]
 rw[hh]at b0;refine⟨⟨h.wf.recv _,by rw[b0];exact hx,?_,λi hi=>?_⟩,by show (dp (aT q) s.k).1=0;rw[hr],mr,b0⟩
 ·rw[b0];show (s.k.ls.set q.aW.toNat _).getD s.k.me []=_;rw[bm (l:=s.k.ls.set _ _),getElem?_set_ne bD,← bm];exact h.own
 ·rw[b0]at hi ⊢;have dL:i<s.k.ps.length:=by simpa using hi
  have:=OQ i dL;rw[au,xi sI];exact this
theorem gQ.bye (h:gQ p G s)(hq:vH p G q)(hc:s.k.cl=false)(ht:q.to=s.k.me)(hf:q.aW<s.k.n)(b6:q.id=s.k.id)(h1:q.kind=2) :
   gQ p G (dB p (aT q) s).2∧(dB p (aT q) s).1=0∧(dB p (aT q) s).2.k={ s.k with ps:=s.k.ps.set q.aW.toNat { au s.k q.aW.toNat with heard:=s.k.now },ev:=s.k.ev++[(1,q.aW.toNat,0)],cl:=true }:=by
 have hr:=OO h.wf hq.may hq.sum hc ht hf b6;have fw:q.aW.toNat<s.k.n:=by have:=hq.may.1;omega
 have sI:q.aW.toNat<s.k.ps.length:=by rw[h.wf.wc.ps];exact fw
 have hh:fZ s.k q={ s.k with ps:=s.k.ps.set q.aW.toNat { au s.k q.aW.toNat with heard:=s.k.now },ev:=s.k.ev++[(1,q.aW.toNat,0)],cl:=true }:=by
  rw[fZ,ak h1]
 have Ax:=h.wf.with (k':=fZ s.k q) (by have:=(h.wf.wc.recv (aT q)).1;rw[hr]at this;exact this) (by have:=(h.wf.wc.recv (aT q)).2 h.wf.held;rw[hr]at this;exact this) (by rw[hh]) (by rw[hh]);have hk:(dB p (aT q) s).2=⟨fZ s.k q,s.g⟩:=by
  show eC p ⟨(dp (aT q) s.k).2,s.g⟩=_;rw[hr];exact Ax.eC
 refine⟨⟨by rw[hk];exact Ax,by rw[hk,hh];exact h.ext,by rw[hk,hh];exact h.own,λi hi=>?_⟩,by show (dp (aT q) s.k).1=0;rw[hr],by rw[hk,hh]⟩;rw[hk,hh]at hi ⊢;have dL:i<s.k.ps.length:=by simpa using hi
 rw[au,xi sI];by_cases e:i=q.aW.toNat
 ·rw[ak e];exact h.pe _ sI
 ·rw[ag e];exact h.pe i dL
theorem gQ.zD (h:gQ p G s){i:Nat}(hi:i<s.k.n)(bD:i≠s.k.me)(hh:(au s.k i).has≤aG s.k):vH p G (dP s.k i):=by
 have sJ:=h.wf.wc;have hn:=sJ.n;have eE:=sJ.me;have b6:=sJ.id;have iE:=sJ.qe hi;have gX:=sJ.lZ;have vZ:=sJ.mz hi;have Ms:=sJ.mr;have e1:(dP s.k i).aW.toNat=s.k.me:=c8 _;have e2:(dP s.k i).first.toNat=(au s.k i).has:=c8 _;have e3:(dP s.k i).frame.toNat=s.k.mr.length:=c8 _;have AA:=h.own;have mx:s.k.mr.getLastD 0<4294967296:=by
  rw[getLastD_eq_getLast?];cases hl:s.k.mr.getLast? with
  | none=>simp
  | some x=>simpa using sJ.sk x (List.mem_of_getLast? hl)
 refine⟨?_,mx,λ_=>?_,λ_=>?_⟩
 ·refine⟨⟨?_,?_⟩,⟨?_,?_⟩,?_,?_,.inl ⟨rfl,⟨?_,?_⟩,⟨?_,?_⟩,⟨?_,?_⟩,?_⟩⟩
  all_goals first | (simp only[dP];omega) | skip
  ·show (((s.k.ls.getD s.k.me []).drop (au s.k i).has).take 32).length≤32;rw[eA];omega
 ·rw[e1,e2,← AA];show _+(((s.k.ls.getD s.k.me []).drop (au s.k i).has).take 32).length≤_∧((s.k.ls.getD s.k.me []).drop (au s.k i).has).take 32=((s.k.ls.getD s.k.me []).drop _).take (((s.k.ls.getD s.k.me []).drop (au s.k i).has).take 32).length;rw[eA,c7];simp only[aG]at hh;refine⟨by omega,?_⟩;rw[List.take_eq_take_iff,c7];omega
 ·rw[e3];have ef:s.k.mr.length=aU s.k.ls:=h.wf.full;refine⟨by rw[ef];exact h.ext.front sJ.lu,λh0=>?_⟩;have uN:s.k.mr.getLastD 0=s.k.mr.getD (s.k.mr.length-1) 0:=by
   rw[getLastD_eq_getLast?,List.getLast?_eq_getElem?,bm]
  show s.k.mr.getLastD 0=_;rw[uN,CH h.wf.marks (by omega),h.ext.kU (by omega)]
theorem gQ.agree {s2:Pl}(h:gQ p G s)(h2:gQ p G s2){f:Nat}(h1:f<aw s.k)(h3:f<aw s2.k):bJ s.k.ls f=bJ s2.k.ls f∧s.k.mr.getD f 0=s2.k.mr.getD f 0:=by
 have ND:=h.wf.full;have Am:=h2.wf.full;refine⟨(h.ext.FX h1).symm.trans (h2.ext.FX h3),?_⟩;rw[CH h.wf.marks (by omega),CH h2.wf.marks (by omega),← h.ext.kU h1,← h2.ext.kU h3]
theorem gQ.tick (h:gQ p G s):gQ p G ⟨(br s.k).2,s.g⟩:=by
 have h1:=BN s.k;have h2:(br s.k).2.me=s.k.me∧(br s.k).2.ps=s.k.ps:=by
  rcases xm s.k with e | ⟨_,e | ⟨i,_,e⟩⟩ <;> rw[e] <;> exact⟨rfl,rfl⟩
 refine⟨h.wf.tick,by show Ext (br s.k).2.ls G;rw[h1.2];exact h.ext,?_,λi hi=>?_⟩
 ·show (br s.k).2.ls.getD (br s.k).2.me []=G.getD (br s.k).2.me [];rw[h1.2,h2.1];exact h.own
 ·change i<(br s.k).2.ps.length at hi;rw[h2.2]at hi;show (au (br s.k).2 i).apart=false∧m7 p G (au (br s.k).2 i).frame (au (br s.k).2 i).sum;rw[au,h2.2];exact h.pe i hi
end
end
end Go.Proofs.YteoldcfapaiobaaGreat
