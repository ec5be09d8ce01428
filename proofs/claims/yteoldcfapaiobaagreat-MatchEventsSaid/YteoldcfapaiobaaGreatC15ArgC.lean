/- A configuration and a way to guess that came in as arguments; quintainlaw5.Cut, quintainref21.MayAll. -/
import Derived.Test.YteoldcfapaiobaaGreatC06Ref
import Derived.Test.YteoldcfapaiobaaGreatC05Vm
import Derived.ChangeSame
import Derived.Test.YteoldcfapaiobaaGreatC13RefC
import Derived.Test.YteoldcfapaiobaaGreatC11Rank
import Derived.Test.YteoldcfapaiobaaGreatC14RefG
import Derived.Test.YteoldcfapaiobaaGreatC12Mul
import Derived.Test.YteoldcfapaiobaaGreatC09CoQ
namespace Go.Proofs.YteoldcfapaiobaaGreat
open Tryz
open List (mem_cons_self length_range drop_drop drop_left take_zero nil_append length_nil mem_range getElem?_range ext_getElem getElem_map eraseIdx_eq_take_drop_succ take_length getElem_mem map_take map_drop range_succ getElem?_set_ne getElem?_set_self set_getElem_self length_filter_le getLastD_eq_getLast?)
open Go.RowKit
set_option linter.unusedVariables false
set_option linter.unusedSimpArgs false
set_option maxRecDepth 10000
set_option synthInstance.maxSize 4000
set_option synthInstance.maxHeartbeats 400000
section
open Go.RowKit Go.ChangeShapes Go.WideShapes Go.ChangeAt
set_option linter.constructorNameAsVariable false
set_option maxRecDepth 100000
section
variable {W w:World}{L:List SP}{n cP cT:Nat}{adP adT:Option Addr}{p:Pr}{tb:List UInt8}{cf:Cf}
def oI (cf:Cf)(p:Pr)(tb:List UInt8):Prop:=eN cf∧dg p∧cR ⟨cf.ba,cf.order,tb⟩
theorem abn (I:U W w (aA W p adP cP::L))(hn:tb.length=n)(aE:p.title.size≤1000000000)(dW:p.ops.length≤1000000000)(eJ:tb.length≤1099511627776)(hT:∀ V,U W V (aA W p adP cP::L)→a6 V adT tb.length tb) :
   Calls prog 60 #[.agg (cc cf).toArray,.agg (bP p adP cP).toArray,.slice adT n cT] w λr V=>(oI cf p tb∧∃ B:iR,r=.returned (.tuple #[pt B.pb,.int .i64 0])∧B.gs=⟨cf.ba,cf.order,tb⟩∧U W V (aP W B p (ez p cf)::aA W p adP cP::L)) ∨
    (¬ oI cf p tb∧r=.returned (.tuple #[.pointer none,.int .i64 1])∧U W V (aA W p adP cP::L)):=by
 subst hn;by_cases h1:eN cf
 ·obtain⟨n,me,aK,bt,c5⟩:=Lu h1;generalize hg:cf.ba=ba at c5;generalize ho:cf.order=order at c5;by_cases h2:dg p∧cR ⟨ba,order,tb⟩
  ·have gM:oI cf p tb:=⟨h1,h2.1,by rw[hg,ho];exact h2.2⟩;rw[c5]at h1 gM ⊢;exact (Lw (adT:=adT) (cT:=cT) I h1 h2.1 h2.2 aE dW eJ hT).mono λr V ⟨B,h3,h4,h5⟩=>.inl ⟨gM,B,h3,h4,h5⟩
  ·have gM:¬ oI cf p tb:=λh=>h2 ⟨h.2.1,by have:=h.2.2;rw[hg,ho]at this;exact this⟩;rw[c5]at h1 gM ⊢;exact (Zj (adT:=adT) (cT:=cT) I h1 h2 aE dW eJ hT).mono λr V ⟨h3,h4⟩=>.inr ⟨gM,h3,h4⟩
 ·exact (Zi (adT:=adT) (cT:=cT) I h1 eJ hT).mono λr V ⟨h3,h4⟩=>.inr ⟨λh=>h1 h.1,h3,h4⟩
end
end
section
def fh (W:World)(M:ji)(p:Pr)(cf:Cf)(i:Nat)(s:Pl):SP:=λh=>∃ m:Mu,(m.s=s∧MI p M (20*i+1) m∧ff s.k=cf)∧aD W M p m h
section
variable {W w:World}{L:List SP}{n c i N cP cT:Nat}{adP adT:Option Addr}{M:ji}{x:UInt8}{p:Pr}{s:Pl}{m:Mu}{bs tb:List UInt8}{cf:Cf}{y:Int}
theorem fh.open (I:U W w (fh W M p cf i s::L)):∃ m:Mu,(m.s=s∧MI p M (20*i+1) m∧ff s.k=cf)∧U W w (aD W M p m::L):=I.jo λ_ h=>h
theorem fh.close (I:U W w (aD W M p m::L))(h:MI p M N m)(hN:N≤20*i+1)(hm:m.s=s)(hc:ff s.k=cf):U W w (fh W M p cf i s::L) :=
 U.shut (M:=yk W M p m) (aD.open I) λ_ q=>⟨m,⟨hm,h.more hN,hc⟩,q⟩
theorem abo (a1:dg p)(aE:p.title.size≤1000000000):A5 W 78 ⟨M.mb,0,none⟩ 267 269 270 268 266 264 265 101 p M.B.gs (fh W M p cf) where
 FQ:=λad w=>by kernel_rfl
 cP:=(by kernel_rfl)
 FR:=λad w=>by kernel_rfl
 FT:=(by kernel_rfl)
 FU:=λad w=>by kernel_rfl
 cT:=(by kernel_rfl)
 FV:=λad w=>by kernel_rfl
 FW:=(by kernel_rfl)
 FX:=λad w=>by kernel_rfl
 cE:=(by kernel_rfl)
 A6:=λad w=>by kernel_rfl
 A7:=(by kernel_rfl)
 FY:=λad w=>by kernel_rfl
 FZ:=(by kernel_rfl)
 F0:=λad w=>by kernel_rfl
 F1:=(by kernel_rfl)
 al:=λw L i s x hi hw I=>by
  replace I:=fh.open I;obtain⟨m,⟨rfl,hI,hc⟩,I⟩:=I;exact (aaa (x:=x) I hI a1 aE (by omega)).mono λr V ⟨m',h1,⟨h2,h3,_⟩,I⟩=>⟨h1,fh.close I h3 (by omega) h2 ((lp.al hI.wf x).cf.trans hc)⟩
 recv:=λw L i s bs a c hi hw hb hc hp I=>by
  replace I:=fh.open I;obtain⟨m,⟨rfl,hI,c5⟩,I⟩:=I;exact (aab I hI a1 aE (by omega) hb hc hp).mono λr V ⟨m',h1,⟨h2,h3⟩,I⟩=>⟨h1,fh.close I h3 (by omega) h2 ((lp.recv hI.wf bs).cf.trans c5)⟩
 tick:=λw L i s hi hw hn I=>by
  replace I:=fh.open I;obtain⟨m,⟨rfl,hI,hc⟩,I⟩:=I;exact (aac I hI hn).mono λr V ⟨a,c,h1,h2,I⟩=>⟨a,c,h1,(fh.close (I.perm (List.Perm.swap _ _ _)) h2 (by omega) rfl ((Fy _).trans hc)).perm (List.Perm.swap _ _ _)⟩
 ko:=λw L i s hi hw I=>by
  replace I:=fh.open I;obtain⟨m,⟨rfl,hI,hc⟩,I⟩:=I;exact (aad I hI).mono λr V ⟨a,c,h1,h2,I⟩=>⟨a,c,h1,(fh.close (I.perm (List.Perm.swap _ _ _)) h2 (by omega) rfl ((Fz _).trans hc)).perm (List.Perm.swap _ _ _)⟩
 events:=λw L i s hi hw I=>by
  replace I:=fh.open I;obtain⟨m,⟨rfl,hI,hc⟩,I⟩:=I;exact (aae I hI).mono λr V ⟨a,c,h1,h2,I⟩=>⟨a,c,h1,(fh.close (I.perm (List.Perm.swap _ _ _)) h2 (by omega) rfl hc).perm (List.Perm.swap _ _ _)⟩
 A8:=λw L i s hi hw I=>by
  replace I:=fh.open I;obtain⟨m,⟨rfl,hI,hc⟩,I⟩:=I;exact (aaf I hI).mono λr V ⟨a,c,h1,I⟩=>⟨a,c,h1,(fh.close (I.perm (List.Perm.swap _ _ _)) hI (bf _) rfl hc).perm (List.Perm.swap _ _ _)⟩
 F2:=λw L i s hi hw I=>by
  replace I:=fh.open I;obtain⟨m,⟨rfl,hI,hc⟩,I⟩:=I;exact (abh I hI a1 aE).mono λr V ⟨a,c,h1,I⟩=>⟨a,c,h1,(fh.close (I.perm (List.Perm.swap _ _ _)) hI (bf _) rfl hc).perm (List.Perm.swap _ _ _)⟩
 closed:=λw L i s hi hw I=>by
  replace I:=fh.open I;obtain⟨m,⟨rfl,hI,hc⟩,I⟩:=I;exact (yl I).mono λr V ⟨h1,I⟩=>⟨h1,fh.close I hI (bf _) rfl hc⟩
theorem abp (I:U W w (fh W M p cf i s::L))(a1:dg p)(aE:p.title.size≤1000000000)(hi:i≤1000000) :
   Calls prog 62 #[pt M.mb,.int .i64 y] w λe V=>∃ z:Bool,e=.returned (.bool z)∧(z=true→s.k.cl=false∧0≤y∧y<s.k.workers)∧U W V (fh W M p cf (i+1) s::L):=by
 replace I:=fh.open I;obtain⟨m,⟨rfl,hI,hc⟩,I⟩:=I;have h4:=hI.ks;by_cases hn:m.s.k.cl=true∨y<0∨(m.ks.length:Int)≤y
 ·exact (aag I hn h4).mono λe V ⟨h1,I⟩=>⟨false,h1,λh=>(by cases h),fh.close I hI (by omega) rfl hc⟩
 ·have cg : m.s.k.cl = false := by
   cases h:m.s.k.cl with
   | false=>rfl
   | true=>exact absurd (.inl h) hn
  have hy:0≤y∧y<(m.ks.length:Int):=⟨by
   rcases Int.lt_or_le y 0 with h | h
   ·exact absurd (.inr (.inl h)) hn
   ·exact h,by
   rcases Int.lt_or_le y (m.ks.length:Int) with h | h
   ·exact h
   ·exact absurd (.inr (.inr h)) hn⟩
  obtain⟨j,rfl⟩:=Int.eq_ofNat_of_zero_le hy.1;obtain⟨⟨k,wb⟩,hk⟩:∃ z,m.ks[j]?=some z:=⟨_,aI (by omega)⟩;exact (aah I hI cg hk a1 aE (by omega)).mono λe V ⟨z,A',T',J',k',h1,⟨_,h2⟩,I⟩=>⟨z,h1,λ_=>⟨cg,hy.1,by rw[hI.workers];exact hy.2⟩,fh.close I h2 (by omega) rfl hc⟩
theorem abq (h:eN cf):∃ n me aK bt nb nw rm:Nat,cf=⟨n,me,cf.id,aK,bt,cf.ba,cf.order,nb,nw,rm⟩:=by
 obtain⟨n,me,id,aK,bt,ba,order,ct,workers,room⟩:=cf;simp only[eN,fv]at h;obtain⟨⟨h1,h2,h3⟩,⟨h4,h5,h6,h7⟩,h8,h9,fF,mO⟩:=h;exact⟨n.toNat,me.toNat,aK.toNat,bt.toNat,ct.toNat,workers.toNat,room.toNat,by
  simp only[Cf.mk.injEq];refine⟨?_,?_,?_,?_,?_,?_,?_,?_,?_,?_⟩ <;> first | trivial | omega⟩
theorem abr (h:eN cf):ff (ez p cf).k=cf:=by
 obtain⟨ps,ev,mr,hk⟩:∃ ps ev mr,(ez p cf).k={ fg cf with ps:=ps,ev:=ev,mr:=mr }:=(vZ (p:=p) (c:=cf) h).ey.2.2;rw[hk];exact (WC.new h).2.2
theorem abt (gM:oI cf p tb)(I:U W w (aA W p adP cP::L))(hn:tb.length=n)(aE:p.title.size≤1000000000)(dW:p.ops.length≤1000000000)(eJ:tb.length≤1099511627776)(hT:∀ V,U W V (aA W p adP cP::L)→a6 V adT tb.length tb) :
   Calls prog 59 #[.agg (cc cf).toArray,.agg (bP p adP cP).toArray,.slice adT n cT] w λr V=>∃ M:ji,r=.returned (.tuple #[pt M.mb,.int .i64 0])∧M.B.gs=⟨cf.ba,cf.order,tb⟩∧U W V (fh W M p cf 0 (ez p cf)::aA W p adP cP::L):=by
 subst hn;obtain⟨h1,h2,h3⟩:=gM;have MP:=abr (p:=p) h1;obtain⟨n,me,aK,bt,nb,nw,rm,c5⟩:=abq h1;generalize cf.ba=ba at c5 h3 ⊢;generalize cf.order=order at c5 h3 ⊢;generalize cf.id=id at c5;rw[c5]at h1 MP ⊢;exact (abl (adT:=adT) (cT:=cT) I h1 h2 h3 aE dW eJ hT).mono λr V ⟨M,m,h4,⟨h5,h6,h7,_⟩,I⟩=>⟨M,h4,h5,fh.close I h7 (by omega) h6 MP⟩
theorem abu (hm:eN cf)(I:U W w (aA W p adP cP::L))(hn:tb.length=n)(a1:dg p)(aE:p.title.size≤1000000000) :
   Calls prog 46 #[.agg (cc cf).toArray,.agg (bP p adP cP).toArray,.slice adT n cT] w λr V=>∃ B:fT,r=.returned (pt B.pb)∧(B.gs=⟨cf.ba,cf.order,tb⟩∧B.adT=adT)∧U W V (bX W B p (ez p cf)::L):=by
 subst hn;obtain⟨n,me,aK,bt,c5⟩:=Lu hm;generalize cf.ba=ba at c5 ⊢;generalize cf.order=order at c5 ⊢;rw[c5]at hm ⊢;exact aaP I hm a1 aE
end
end
section
theorem Sn.abv (A:Sn):A.used≤A.room:=by
 have:=List.countP_le_length (p:=λp=>decide (0<cJ A.au p)) (l:=List.range A.room);rw[length_range]at this;exact this
theorem MQ {p:Nat}:∀ (l:List aC),(∀ x∈l,∀ k,k<4→x.p k≠p)→cJ l p=0
 | [],_=>rfl
 | x::l,h=>by
  rw[r5,Cv (h x (mem_cons_self ..)),MQ l λy hy=>h y (gO _ hy)]
theorem MR {A:Sn}{p:Nat}(h:∀ x∈A.au,∀ k,k<4→x.p k<A.room)(hp:A.room≤p):cJ A.au p=0 :=
 MQ _ λx hx k hk e=>by have:=h x hx k hk;omega
def uP (l:List aC)(m:Nat):Nat:=(List.range m).countP λp=>decide (0<cJ l p)
theorem MS (l:List aC)(m:Nat):uP l (m+1)=uP l m+if 0<cJ l m then 1 else 0:=by
 rw[uP,range_succ,List.countP_append,List.countP_singleton,uP];by_cases h:0<cJ l m <;> simp[h]
theorem abw (l:List aC)(m:Nat):uP l m≤m:=by
 have:=List.countP_le_length (p:=λp=>decide (0<cJ l p)) (l:=List.range m);rw[length_range]at this;exact this
theorem abx {A:Sn}(h:∀ x∈A.au,∀ k,k<4→x.p k<A.room){m:Nat}(hm:A.room≤m):uP A.au m=A.used:=by
 induction m with
 | zero=>rw[Sn.used,show A.room=0 from by omega];rfl
 | succ m ih =>
  rcases Nat.lt_or_ge m A.room with h1 | h1
  ·rw[Sn.used,show A.room=m+1 from by omega];rfl
  ·rw[MS,ih h1,MR h h1];rfl
def pI (l:List aC)(j:Nat):Int:=if j=0 then 0 else (cJ l (j-1):Nat)
def nF (l:List aC)(x:aC)(k j:Nat):Int:=if j=0 then 0 else ((cJ l (j-1)+iK x (j-1) k:Nat):Int)
theorem aby:pI []=λ_=>0:=by
 funext j;unfold pI;split <;> rfl
theorem abz (l:List aC)(x:aC):nF l x 0=pI l:=by
 funext j;unfold nF pI;simp[zf]
theorem abA {l:List aC}{i:Nat}{x:aC}(h:l[i]?=some x):nF (l.take i) x 4=pI (l.take (i+1)):=by
 obtain⟨hi,rfl⟩:=a2.1 h
 funext j
 unfold nF pI;rw[iX hi,w5,r5,Cw];rfl
theorem abB (l:List aC)(x:aC)(k:Nat):(λj=>if j=x.p k+1 then nF l x k (x.p k+1)+1 else nF l x k j)=nF l x (k+1):=by
 funext j
 by_cases h:j=x.p k+1
 ·subst h;rw[ak rfl];simp only[nF,ae (Nat.succ_ne_zero _),Nat.add_sub_cancel];rw[kC,ak rfl];omega
 ·rw[ae h];unfold nF;split
  ·rfl
  ·rw[kC,ae (by omega)];simp
theorem abC (l:List aC)(x:aC)(k j:Nat)(hk:k≤4):0≤nF l x k j∧nF l x k j≤4*l.length+4:=by
 unfold nF;have h1:=Cy l (j-1);have h2:=r0 x (j-1) hk;have h3:=HY x (j-1);have h4:iK x (j-1) 4=g6 x (j-1):=rfl;split <;> omega
theorem abD (l:List aC)(p:Nat):pI l (p+1)=(cJ l p:Nat):=by simp[pI]
section
variable {W w:World}{L:List SP}{q b i r:Nat}{ps:List Pg}{A:Sn}
theorem abE (I:U W w (Room q b ps::L))(hn:∀ h:i<ps.length,ps[i].refs=0)(hi:i<1000) :
   Calls prog 122 #[pt q,.int .i64 ((i:Int)+1)] w λe V=>e=.returned (.pointer none)∧U W V (Room q b ps::L):=by
 obtain⟨hp,I⟩:=Room.open I;by_cases aJ:i<ps.length
 ·have hr:=hn aJ;refine EN func122 ntmps122 rfl rfl λa E=>?_;refine RN 7 E I λa E=>?_;replace E:=E.aN 7;refine RN 4 E I λa E=>?_;rw[bn (by omega)]at E;refine RN 9 E I λa E=>?_;rw[bn (by omega)]at E;refine RN 6 E I λa E=>?_;rw[show (i:Int)+1-1=(i:Int) from by omega]at E;refine RN 2 E I λa E=>?_;refine bE E (cS E rfl (s:=20)) (ag E (I.bB (rW aJ))) rfl λa E=>?_;refine RN 2 E I λa E=>?_;rw[dk (by omega)]at E;refine RT 3 E I ?_;exact⟨rfl,(Room.close (n:=_) I rfl hp)⟩
 ·
   refine EN func122 ntmps122 rfl rfl λa E=>?_;refine RN 7 E I λa E=>?_;replace E:=E.aN 7;refine RN 4 E I λa E=>?_;rw[bn (by omega)]at E;refine RN 9 E I λa E=>?_;rw[dk (by omega)]at E;refine RT 14 E I ?_;exact⟨rfl,(Room.close (n:=_) I rfl hp)⟩
theorem abF (I:U W w (Room q b ps::L))(hn:∀ h:i<ps.length,ps[i].refs=0)(hi:i<1000) :
   Calls prog 86 #[pt q,.int .i64 ((i:Int)+1)] w λe V=>e=.returned (.int .i64 0)∧U W V (Room q b ps::L):=by
 refine EN func86 ntmps86 rfl rfl λa E=>?_;refine CL 5 E I (abE I hn hi) λa w E I=>?_;refine RN 5 E I λa E=>?_;replace E:=E.ef 10;refine RT 3 E I ?_;exact⟨rfl,I⟩
theorem abG (I:U W w (aw q r A::L))(hi:i<1000) :
   Calls prog 86 #[pt r,.int .i64 ((i:Int)+1)] w λe V=>e=.returned (.int .i64 (cJ A.au i))∧U W V (aw q r A::L):=by
 have hf:=(aw.facts I).2;obtain⟨b,m,ps,xs,h1,hw,hr,I⟩:=aw.open I;by_cases hl:∃ h:i<ps.length,0<ps[i].refs
 ·obtain⟨h3,h4⟩:=hl;refine (y7 (I.pick (Room r b ps)) h3 h4).mono λe V ⟨h2,I⟩=>?_;rw[hr.refs _ _ (aI h3)]at h2;exact⟨h2,aw.close (b:=b) (m:=m) (ps:=ps) I h1 hw hr⟩
 ·have hn : ∀ h : i < ps.length, ps[i].refs = 0 := fun h => by
   rcases Nat.eq_zero_or_pos ps[i].refs with h2 | h2
   ·exact h2
   ·exact absurd ⟨h,h2⟩ hl
  have h0:cJ A.au i=0:=by
   by_cases h:i<ps.length
   ·rw[← hr.refs _ _ (aI h)];exact hn h
   ·exact MR hf (by rw[← hr.len];omega)
  refine (abF (I.pick (Room r b ps)) hn hi).mono λe V ⟨h2,I⟩=>?_;rw[h0];exact⟨h2,aw.close (b:=b) (m:=m) (ps:=ps) I h1 hw hr⟩
end
end
section
theorem abH (k:IntKind)(m:Nat)(x:Int):List.replicate m (Value.int k x)=ints k m (λ_=>x):=by
 rw[ints,fn];exact (ext_getElem (by simp) (by simp))
section
variable {W w:World}{L:List SP}{N:Nat}{M:ji}{p:Pr}{m:Mu}{cf:Cf}{x:Int}
set_option maxHeartbeats 4000000 in
theorem abI (I:U W w (aD W M p m::L))(h:MI p M N m)(c5:ff m.s.k=cf) :
   Calls prog 56 #[pt M.mb,.agg (cc cf).toArray] w λe V=>e=.returned (.bool true)∧U W V (aD W M p m::L):=by
 have E1:cf.ct=(m.T.most:Int):=by rw[← c5];exact h.most
 have sP:cf.workers=(m.ks.length:Int):=by rw[← c5];exact h.workers
 have qT:(m.A.room:Int)=4*cf.room:=by rw[← c5];exact h.room.1
 have oe:=h.ks;obtain⟨t,hI⟩:=h.inv;have hlen:=hI.len;have Md:(ja (m.ks.map (·.1))).length≤m.ks.length:=by
  have h1:=length_filter_le (λk:Wk=>k.busy) (m.ks.map (·.1));rw[bd]at h1;rw[ja,bd];exact h1
 clear c5;replace I:=aD.open I;have kL:=(Tree.wt (I.tree M.tq)).most;have Bf:=aw.facts (I.store M.sq);have nS:=aw.vh (I.store M.sq);have hur:=Sn.abv m.A;have ll:=Bf.1.room;obtain⟨s,A,T,J,ks,base,front⟩:=m;dsimp only at E1 sP qT oe hlen Md kL Bf nS hur ll I;have hO:=abx Bf.2 (m:=200) ll;refine EN func56 ntmps56 rfl rfl λa E=>?_;refine BX 1 E I λb3 a w E I=>?_;change U W w (aa b3 28 (cc cf)::_) at I;refine RN 3 E I λa E=>?_;replace I:=aD.fold I M p ⟨s,A,T,J,ks,base,front⟩;refine CL 0 E I (Zs I) λa w E I=>?_;refine RN 3 E I λa E=>?_;replace I:=aD.open I;dsimp only at I;refine aY 0 E I (TP (I.store M.sq)) λdZ yy a w E I=>?_;refine aZ 3 (λw0 V=>Rd V b3 0 (cc cf)) [5,25,26] [0,1,2,4,3003,1005,6,7,8,9,10,11,12,13,14,17,18,19,1015,1016,20,21,22,23,24,27,3028,29,1025,1026,30,31] E I λa w E I hH=>?_;have hC:=hH.at w (I.ai (b:=b3));refine RH 4 E I hH hC λa E=>?_;refine QH E (λw hc=>ag E (hc 7 _ rfl)) hC λa E=>?_;refine RH 0 E I hH hC λa E=>?_;refine SS E (ag E (hC 8 _ rfl)) λa E=>?_;refine RH 4 E I hH hC λa E=>?_;rw[bn (by omega)]at E;refine RH 4 E I hH hC λa E=>?_;rw[dk (by omega)]at E;refine RH 4 E I hH hC λa E=>?_;refine CL 0 E I (zm (I.store M.sq)) λa w E I=>?_;refine CL 0 E I (CE (I.store M.sq)) λa w E I=>?_;refine RN 4 E I λa E=>?_;rw[bn (by omega)]at E;refine RN 2 E I λa E=>?_;replace hC:Rd w b3 0 (cc cf):=I.ai (b:=b3);refine QH E (λw hc=>ag E (hc 9 _ rfl)) hC λa E=>?_;refine CL 1 E I (zm (I.store M.sq)) λa w E I=>?_;replace hC:=hH.at w (I.ai (b:=b3));refine RH 0 E I hH hC λa E=>?_;refine CL 0 E I (CE (I.store M.sq)) λa w E I=>?_;replace hC:=hH.at w (I.ai (b:=b3));refine RH 2 E I hH hC λa E=>?_;rw[bn (by omega)]at E;refine AL 2 E I λdr a w E I=>?_;rw[abH]at I;refine RN 3 E I λa E=>?_;refine aR (λμ a w=>∃ (i:Nat),(μ=A.au.length-i∧i≤A.au.length)∧Fr a 120 [(0,pt M.mb),(3,pt b3),(5,pt M.sq),(6,.slice dZ A.au.length yy),(7,pt dr),(8,.int .i64 i)]∧U W w (aa dr 164 (ints .i64 201 (pI (A.au.take i)))::Sl 166 1 dZ A.au.length yy (A.au.map λx=>.int .i64 x.id)::aw M.sq M.r A::aa b3 28 (cc cf)::aa M.mb 177 (dR p M ks.length base front)::aP W M.B p s::aA W p M.aq M.cO::Sl 179 1 M.du ks.length M.dA (gI ks)::ah (eY p M.aq M.cO M.tq M.jq M.sq) ks::Tree M.tq M.sq T::bI M.jq J::L)) (A.au.length) (⟨0,⟨rfl,by omega⟩,E.ab [0,3,5,6,7,8],by rw[take_zero,aby];exact I.sub⟩) ?_;clear E I;rintro μ a w ⟨i,⟨rfl,hi⟩,E,I⟩;refine IF 6 E I (λao a E=>?_) λao a E=>?_
 ·
  obtain⟨x,hx⟩:∃ x,A.au[i]?=some x:=⟨_,aI (by omega)⟩;obtain⟨bv,MT,rfl,AS⟩:=(I.pick (Sl 166 1 dZ A.au.length yy (A.au.map λx=>.int .i64 x.id))).bY dZ (by omega);have yr:=AS i (.int .i64 x.id) (by rw[bm,hx];rfl);have zp:=Bf.2 x (bK hx);have bR:=abA hx;have eJ:(A.au.take i).length≤200:=by rw[et];omega
  clear AS;refine RN 6 E I λa E=>?_;refine SS E (ag E (yr)) λa E=>?_;refine aY 0 E I (Ic (I.store M.sq) hx) λcV dN a w E I=>?_;refine RN 6 E I λa E=>?_;replace E:=E.aN 63;refine RN 3 E I λa E=>?_;refine aR (λμ a w=>∃ (k:Nat),(μ=4-k∧k≤4)∧Fr a 120 [(0,pt M.mb),(3,pt b3),(5,pt M.sq),(6,.slice (some ⟨bv,MT,none⟩) A.au.length yy),(7,pt dr),(8,.int .i64 i),(9,.slice cV 4 dN),(10,.int .i64 k)]∧U W w (aa dr 164 (ints .i64 201 (nF (A.au.take i) x k))::Sl 3 1 cV 4 dN (ints .i64 4 (λk=>(x.p k:Int)+1))::Sl 166 1 (some ⟨bv,MT,none⟩) A.au.length yy (A.au.map λx=>.int .i64 x.id)::aw M.sq M.r A::aa b3 28 (cc cf)::aa M.mb 177 (dR p M ks.length base front)::aP W M.B p s::aA W p M.aq M.cO::Sl 179 1 M.du ks.length M.dA (gI ks)::ah (eY p M.aq M.cO M.tq M.jq M.sq) ks::Tree M.tq M.sq T::bI M.jq J::L)) (4) (⟨0,⟨rfl,by omega⟩,E.ab [0,3,5,6,7,8,9,10],by rw[abz];exact I.sub⟩) ?_;clear E I;rintro μ a w ⟨k,⟨rfl,hk⟩,E,I⟩;refine IF 4 E I (λbh a E=>?_) λbh a E=>?_
  ·
   obtain⟨bp,op,rfl,fb⟩:=(I.pick (Sl 3 1 cV 4 dN (ints .i64 4 (λk=>(x.p k:Int)+1)))).bY cV (by omega);have uu:=fb k _ (fO _ (by omega));have eB:=zp k (by omega);have K9:=abC (A.au.take i) x k (x.p k+1) (by omega);clear fb;refine RN 6 E I λa E=>?_;refine SS E (ag E (uu)) λa E=>?_;refine RN 2 E I λa E=>?_;rw[bn (by omega)]at E;refine RN 3 E I λa E=>?_;refine bE E (cS E rfl (s:=73)) (ag E (uu)) rfl λa E=>?_;refine RN 2 E I λa E=>?_;rw[bn (by omega)]at E;refine RN 4 E I λa E=>?_;refine SS E (ag E (uu)) λa E=>?_;rw[show ((x.p k:Nat):Int)+1=((x.p k+1:Nat):Int) from rfl]at E;refine RN 1 E I λa E=>?_;refine SS E (ag E (I.bB (fO _ (by omega)))) λa E=>?_;refine ST 2 E I (λa w E I=>?_) (hlt:=(by rw[df];omega));rw[ints_set,abB]at I;refine RN 3 E I λa E=>?_;exact⟨4-(k+1),by omega,k+1,⟨rfl,by omega⟩,E.ab [0,3,5,6,7,8,9,10],I.sub⟩
  refine RN 3 E I λa E=>?_;obtain rfl:k=4:=by omega
  rw[bR]at I;exact⟨A.au.length-(i+1),by omega,i+1,⟨rfl,by omega⟩,E.ab [0,3,5,6,7,8],I.sub⟩
 obtain rfl:i=A.au.length:=by omega
 rw[take_length]at I;refine RN 5 E I λa E=>?_;refine aR (λμ a w=>∃ (q:Nat),(μ=200-q∧q≤200)∧Fr a 120 [(0,pt M.mb),(3,pt b3),(5,pt M.sq),(7,pt dr),(11,.int .i64 (uP A.au q:Nat)),(12,.int .i64 ((q:Int)+1))]∧U W w (aw M.sq M.r A::aa dr 164 (ints .i64 201 (pI A.au))::aa b3 28 (cc cf)::aa M.mb 177 (dR p M ks.length base front)::aP W M.B p s::aA W p M.aq M.cO::Sl 179 1 M.du ks.length M.dA (gI ks)::ah (eY p M.aq M.cO M.tq M.jq M.sq) ks::Tree M.tq M.sq T::bI M.jq J::L)) (200) (⟨0,⟨rfl,by omega⟩,by have h9:=E.ab [0,3,5,7,11,12];exact h9,I.sub⟩) ?_;clear E I;rintro μ a w ⟨q,⟨rfl,hq⟩,E,I⟩;refine IF 4 E I (λeE a E=>?_) λeE a E=>?_
 ·
  have MU:=abD A.au q;have gz:=MS A.au q;have eB:=abw A.au q;have cg:=Cy A.au q;have lE:q<200:=by omega
  refine aZ 3 (λw0 V=>V.cell? ⟨dr,q+1,none⟩=some (.int .i64 (pI A.au (q+1)))) [1,3] [0,2,4,5,3006,1001,1003,7] E I λa w E I hH=>?_;have hC:=hH.at w (I.bB (b:=dr) (fO _ (by omega)));refine RH 3 E I hH hC λa E=>?_;rw[show ((q:Nat):Int)+1=((q+1:Nat):Int) from rfl]at E;refine RH 1 E I hH hC λa E=>?_;refine QH E (λw hc=>ag E (hc)) hC λa E=>?_;refine RH 0 E I hH hC λa E=>?_;refine CL 0 E I (zm I) λa w E I=>?_;replace hC:=hH.at w (I.bB (b:=dr) (fO _ (by omega)));refine RH 0 E I hH hC λa E=>?_;refine CL 0 E I (abG I (by omega)) λa w E I=>?_;replace hC:=hH.at w (I.bB (b:=dr) (fO _ (by omega)));refine RH 1 E I hH hC λa E=>?_;rw[MU,show decide ((cJ A.au q:Nat)≠((cJ A.au q:Nat):Int))=false from by simp]at E;replace E:=E.aN 99;refine RN 4 E I λa E=>?_;refine SS E (ag E (I.bB (b:=dr) (fO _ (by omega)))) λa E=>?_;rw[MU]at E;refine IF 1 E I (λki a E=>?_) λki a E=>?_
  ·
   refine RN 6 E I λa E=>?_;exact⟨200-(q+1),by omega,q+1,⟨rfl,by omega⟩,by rw[gz,ak (by omega)];exact E.ab [0,3,5,7,11,12],I.sub⟩
  refine RN 3 E I λa E=>?_;exact⟨200-(q+1),by omega,q+1,⟨rfl,by omega⟩,by rw[gz,ae (by omega)];exact E.ab [0,3,5,7,11,12],I.sub⟩
 obtain rfl:q=200:=by omega
 rw[hO]at E;refine aZ 1 (λw0 V=>Rd V b3 0 (cc cf)) [7,8,9] [0,1,1002,1003,4,5,6,10,3011,1007,1008,1009,12,13,14] E I λa w E I hH=>?_;have hC:=hH.at w (I.ai (b:=b3));refine RH 2 E I hH hC λa E=>?_;refine CL 0 E I (zm I) λa w E I=>?_;refine CL 0 E I (CE I) λa w E I=>?_;refine RN 2 E I λa E=>?_;rw[dk (by omega)]at E;refine RN 2 E I λa E=>?_;replace hC:Rd w b3 0 (cc cf):=I.ai (b:=b3);refine QH E (λw hc=>ag E (hc 7 _ rfl)) hC λa E=>?_;replace I:=aD.fold I M p ⟨s,A,T,J,ks,base,front⟩;refine CL 0 E I (Zt I) λa w E I=>?_;replace hC:=hH.at w (I.ai (b:=b3));replace I:=aD.open I;dsimp only at I;refine RH 0 E I hH hC λa E=>?_;refine aY 0 E I (zo (I.tree M.tq)) λs0 qo a w E I=>?_;replace hC:=hH.at w (I.ai (b:=b3));refine RH 4 E I hH hC λa E=>?_;refine RT 0 E I ?_;exact⟨by rw[dk (by omega)],(aD.fold I.tail M p ⟨s,A,T,J,ks,base,front⟩).sub⟩
end
end
section
section
variable {W w:World}{L:List SP}{c i cP cT:Nat}{p:Pr}{s:Pl}{B:iR}
theorem abJ (a1:dg p)(aE:p.title.size≤1000000000)(fy:cR B.gs):A5 W 139 ⟨B.pb,0,none⟩ 282 284 285 283 281 273 276 141 p B.gs (λ_ s=>aP W B p s) where
 FQ:=λad w=>by kernel_rfl
 cP:=(by kernel_rfl)
 FR:=λad w=>by kernel_rfl
 FT:=(by kernel_rfl)
 FU:=λad w=>by kernel_rfl
 cT:=(by kernel_rfl)
 FV:=λad w=>by kernel_rfl
 FW:=(by kernel_rfl)
 FX:=λad w=>by kernel_rfl
 cE:=(by kernel_rfl)
 A6:=λad w=>by kernel_rfl
 A7:=(by kernel_rfl)
 FY:=λad w=>by kernel_rfl
 FZ:=(by kernel_rfl)
 F0:=λad w=>by kernel_rfl
 F1:=(by kernel_rfl)
 al:=λw L i s x _ hw I=>Ll I hw a1 aE
 recv:=λw L i s bs a c _ hw hb hc hp I=>Lm I hw a1 aE hb hc hp
 tick:=λw L i s _ hw hn I=>Lo I hw hn
 ko:=λw L i s _ hw I=>Lp I hw
 events:=λw L i s _ hw I=>Lq I
 A8:=λw L i s _ hw I=>Ls I hw
 F2:=λw L i s _ hw I=>Lt I hw a1 aE fy
 closed:=λw L i s _ hw I=>Lr I
end
end
section
inductive fJ where
 | mu (M:ji)
 | pl (B:iR)
structure fz where
 cf:Cf
 z:fJ
def fJ.t:fJ→TypeId
 | .mu _=>78
 | .pl _=>139
def fJ.ad:fJ→Addr
 | .mu M=>⟨M.mb,0,none⟩
 | .pl B=>⟨B.pb,0,none⟩
def fJ.gs:fJ→Gs
 | .mu M=>M.B.gs
 | .pl B=>B.gs
def fJ.f (a b:FuncId):fJ→FuncId
 | .mu _=>a
 | .pl _=>b
def fz.J (W:World)(p:Pr)(x:fz)(i:Nat)(s:Pl):SP:=match x.z with
 | .mu M=>fh W M p x.cf i s
 | .pl B=>aP W B p s
def uD (z:fJ):=z.f 267 282
def uE (z:fJ):=z.f 269 284
def uF (z:fJ):=z.f 270 285
def uG (z:fJ):=z.f 268 283
def uH (z:fJ):=z.f 266 281
def uI (z:fJ):=z.f 264 273
def uJ (z:fJ):=z.f 265 276
def uK (z:fJ):=z.f 101 141
abbrev cA (x:fz×Pl):Value:=.iface x.1.z.t (.pointer (some x.1.z.ad))
def cy (W:World)(p:Pr)(c:Nat)(x:fz×Pl):SP:=x.1.J W p c x.2
abbrev kr:=Option Addr×Nat×List jy
abbrev bx (x:kr):Value:=.slice x.1 x.2.2.length x.2.1
def eA (x:kr):SP:=Sl 135 1 x.1 x.2.2.length x.2.1 (x.2.2.map cx)
structure jk where
 mb:Nat
 q:Nat
 fp:List fz
structure nG where
 adL:Option Addr
 cL:Nat
 adE:Option Addr
 cE:Nat
 xs:List (fz×Pl)
 es:List kr
def cK (m:Ml):oH:=((m.1:Int),(m.2.1:Int),m.2.2)
abbrev jC (B:jk)(A:nG):List Value:=[.slice A.adL A.xs.length A.cL,pt B.q,.slice A.adE A.es.length A.cE]
structure nG.Ok (A:nG)(B:jk)(v:Wd):Prop where
 fp:A.xs.map (·.1)=B.fp
 ps:A.xs.map (·.2)=v.ps
 ev:A.es.map (·.2.2)=v.ev
def aH (W:World)(B:jk)(p:Pr)(c:Nat)(v:Wd):SP:=λh=>∃ A:nG,A.Ok B v ∧
 cm [aa B.mb 107 (jC B A),Sl 81 1 A.adL A.xs.length A.cL (A.xs.map cA),ah (cy W p c) A.xs,bJ B.q (v.net.map cK),Sl 90 1 A.adE A.es.length A.cE (A.es.map bx),ah eA A.es] h
section
variable {W w:World}{L R:List SP}{n c i:Nat}{ad adE:Option Addr}{p:Pr}{B:jk}{A:nG}{v:Wd}{x:fz}{s:Pl}{y:Int}
theorem fz.qi (x:fz)(a1:dg p)(aE:p.title.size≤1000000000)(fy:cR x.z.gs):A5 W x.z.t x.z.ad (uD x.z) (uE x.z) (uF x.z) (uG x.z) (uH x.z) (uI x.z) (uJ x.z) (uK x.z) p x.z.gs (x.J W p):=by
 obtain⟨cf,z⟩:=x;cases z with
 | mu M=>exact abo a1 aE
 | pl B=>exact abJ a1 aE fy
theorem fz.more {j:Nat}(x:fz)(h:i≤j):∀ hp,x.J W p i s hp→x.J W p j s hp:=by
 obtain⟨cf,z⟩:=x;cases z with
 | mu M=>exact λhp ⟨m,⟨h1,h2,h3⟩,h4⟩=>⟨m,⟨h1,h2.more (by omega),h3⟩,h4⟩
 | pl B=>exact λhp h=>h
theorem MV {α:Type}{f g:α→SP}(k:∀ x h,f x h→g x h):∀ {l:List α} {h:Hp},cm (l.map f) h→cm (l.map g) h
 | [],_,h=>h
 | _::l,_,⟨h1,h2,d,a,b,p,q⟩=>⟨h1,h2,d,a,b,k _ _ p,MV k q⟩
theorem U.abK {A A':SP}(I:U W w (A::L))(k:∀ h,A h→A' h):U W w (A'::L):=⟨I.below,let ⟨h,p,h1,h2,d,a,b,x,y⟩:=I.sat;⟨h,p,h1,h2,d,a,b,k _ x,y⟩⟩
theorem U.rz {xs:List (fz×Pl)}{d:Nat}(I:U W w (ah (cy W p c) xs::L))(h:c≤d):U W w (ah (cy W p d) xs::L) :=
 I.abK λ_ h1=>MV (λx h2 h3=>x.1.more h h2 h3) h1
theorem aH.open (I:U W w (aH W B p c v::L)):∃ A:nG,A.Ok B v∧U W w (aa B.mb 107 (jC B A)::Sl 81 1 A.adL A.xs.length A.cL (A.xs.map cA)::ah (cy W p c) A.xs::bJ B.q (v.net.map cK)::Sl 90 1 A.adE A.es.length A.cE (A.es.map bx)::ah eA A.es::L):=by
 obtain⟨A,h1,I⟩:=I.jo (ι:=nG) (p:=λA=>A.Ok B v) (B:=λA h=>cm [aa B.mb 107 (jC B A),Sl 81 1 A.adL A.xs.length A.cL (A.xs.map cA),ah (cy W p c) A.xs,bJ B.q (v.net.map cK),Sl 90 1 A.adE A.es.length A.cE (A.es.map bx),ah eA A.es] h) λ_ h=>h;exact⟨A,h1,I.open (M:=[_,_,_,_,_,_]) λ_ h=>h⟩
theorem aH.fold (I:U W w L)(B:jk)(p:Pr)(c:Nat)(v:Wd)(A:nG)(h:A.Ok B v)[kk:fD L [aa B.mb 107 (jC B A),Sl 81 1 A.adL A.xs.length A.cL (A.xs.map cA),ah (cy W p c) A.xs,bJ B.q (v.net.map cK),Sl 90 1 A.adE A.es.length A.cE (A.es.map bx),ah eA A.es] R]:U W w (aH W B p c v::R) :=
 U.shut (M:=[_,_,_,_,_,_]) (I.perm kk.perm) λ_ h1=>⟨A,h,h1⟩
theorem abL {P:Program}{t:TypeId} {ms}(ht:P.underlying t=some (.interface ms))(k:Nat):(Op.equalIn (k+1) t .nilIface .nilIface).run P w=.ok true w:=by
 simp[Op.equalIn,eK ht]
theorem MW {P:Program}{a:Act}{l:List (Nat×Value)} {x t ms u dst ty ps af g}(E:Fr a n l)(ht:P.underlying t=some (.interface ms))[e:Ev l x .nilIface] :
   (execOp a.eval ⟨dst,.binOp .eql t x (.const .nilIface) u,ty,ps,af,g⟩).run P w=.ok (.value (.bool true)) w:=by
 have hc:a.eval (.const .nilIface)=.nilIface:=rfl;have h2:(Op.equal t .nilIface .nilIface).run P w=.ok true w:=abL ht 9999;simp only[execOp,e.ev a n E,hc,Sem.run_bind];simp[eqGuard,binOp,h2]
theorem MX {P:Program}{a:Act}{l:List (Nat×Value)} {x t u ok dst ty ps af g}{z z2:Value}(E:Fr a n l)(h:(Instr.typeAssert z t u ok).run P w=.ok z2 w)[e:Ev l x z] :
   (execOp a.eval ⟨dst,.typeAssert x t u ok,ty,ps,af,g⟩).run P w=.ok (.value z2) w:=by
 simp[execOp,e.ev a n E,h]
end
end
section
def fJ.mul:fJ→Value
 | .mu M=>pt M.mb
 | .pl _=>.pointer none
section
variable {W w:World}{L:List SP}{n cL mb i:Nat}{ad:Option Addr}{B:jk}{y:Int}{x2 x3:Value}{xs:List (fz×Pl)}
theorem MY (I:U W w (aa mb 107 [.slice ad n cL,x2,x3]::L))(hy:y<0∨(n:Int)≤y):Calls prog 28 #[pt mb,.int .i64 y] w λe V=>e=.returned .nilIface∧U W V (aa mb 107 [.slice ad n cL,x2,x3]::L):=by
 refine EN func28 ntmps28 rfl rfl λa E=>?_;refine RN 7 E I λa E=>?_;replace E:=E.aN 7;refine BY 4 E I (λjS a E=>?_) λjS a E=>?_
 ·
  refine RT 11 E I ?_;exact⟨rfl,I⟩
 refine RN 8 E I λa E=>?_;rw[dk (by omega)]at E;refine RT 3 E I ?_;exact⟨rfl,I⟩
theorem rA (I:U W w (aa mb 107 [.slice ad xs.length cL,x2,x3]::Sl 81 1 ad xs.length cL (xs.map cA)::L))(hi:i<xs.length):Calls prog 28 #[pt mb,.int .i64 i] w λe V=>e=.returned (cA xs[i])∧U W V (aa mb 107 [.slice ad xs.length cL,x2,x3]::Sl 81 1 ad xs.length cL (xs.map cA)::L):=by
 refine EN func28 ntmps28 rfl rfl λa E=>?_;refine RN 7 E I λa E=>?_;replace E:=E.aN 7;refine RN 4 E I λa E=>?_;rw[bn (by omega)]at E;refine RN 8 E I λa E=>?_;rw[bn (by omega)]at E;refine RN 2 E I λa E=>?_;obtain⟨b,o,rfl,hr⟩:=(I.pick (Sl 81 1 ad xs.length cL (xs.map cA))).bY ad (by omega);have e8:=hr i (cA xs[i]) (by rw[bm,aI hi];rfl);refine RN 6 E I λa E=>?_;refine SS E (ag E (e8)) λa E=>?_;refine RT 1 E I ?_;exact⟨rfl,I.sub⟩
theorem fJ.assert (z:fJ)(w:World):(Instr.typeAssert (.iface z.t (.pointer (some z.ad))) 81 78 true).run prog w=.ok (.tuple #[z.mul,.bool (match z with | .mu _=>true | .pl _=>false)]) w:=by
 cases z with
 | mu M=>kernel_rfl
 | pl B=>kernel_rfl
theorem Ga (I:U W w (aa mb 107 [.slice ad xs.length cL,x2,x3]::Sl 81 1 ad xs.length cL (xs.map cA)::L))(hi:i<xs.length):Calls prog 27 #[pt mb,.int .i64 i] w λe V=>e=.returned xs[i].1.z.mul∧U W V (aa mb 107 [.slice ad xs.length cL,x2,x3]::Sl 81 1 ad xs.length cL (xs.map cA)::L):=by
 have has:=xs[i].1.z.assert;cases hz:xs[i].1.z with
 | mu M =>
  rw[hz]at has;refine EN func27 ntmps27 rfl rfl λa E=>?_;refine CL 5 E I (rA I hi) λa w E I=>?_;rw[show cA xs[i]=.iface (fJ.mu M).t (.pointer (some (fJ.mu M).ad)) from by rw[← hz]]at E;refine RN 0 E I λa E=>?_;refine SK (bE E rfl (MX E (has w)) rfl ?_);clear E a;intro a E;refine RN 9 E I λa E=>?_;replace E:=E.aN 15;refine RT 4 E I ?_;exact⟨rfl,I⟩
 | pl B =>
  rw[hz]at has;refine EN func27 ntmps27 rfl rfl λa E=>?_;refine CL 5 E I (rA I hi) λa w E I=>?_;rw[show cA xs[i]=.iface (fJ.pl B).t (.pointer (some (fJ.pl B).ad)) from by rw[← hz]]at E;refine RN 0 E I λa E=>?_;refine SK (bE E rfl (MX E (has w)) rfl ?_);clear E a;intro a E;refine RN 9 E I λa E=>?_;replace E:=E.ef 15;refine RT 3 E I ?_;exact⟨rfl,I⟩
theorem Bg (I:U W w (aa mb 107 [x2,pt i,x3]::L)):Calls prog 22 #[pt mb] w λe V=>e=.returned (pt i)∧U W V (aa mb 107 [x2,pt i,x3]::L):=by
 refine EN func22 ntmps22 rfl rfl λa E=>?_;refine RN 6 E I λa E=>?_;replace E:=E.aN 4;refine RT 7 E I ?_;exact⟨rfl,I⟩
end
end
section
section
variable {W w:World}{L:List SP}{n c mb i q:Nat}{ad:Option Addr}{v:Wd}{x1 x3:Value}{xs:List (fz×Pl)}{l net:List Ml}{e:List jy}
theorem U.wC {α:Type}{f:α→SP}{l:List α}{i:Nat}(h:i<l.length)(I:U W w (f l[i]::ah f (l.eraseIdx i)::L)):U W w (ah f l::L):=by
 have h1:=U.ky h I
 rwa [set_getElem_self]at h1
theorem MZ (l:List jy):∀ v∈l.map cx,v.oneCell'=true:=by
 intro v hv;obtain⟨e,_,rfl⟩:=c1.1 hv;exact EE e
theorem M0 (I:U W w (Sl 135 1 ad e.length c (e.map cx)::L))(hl:e.length≤1000000000):Calls prog 57 #[.slice ad e.length c] w λr V=>∃ av c',r=.returned (.slice av e.length c')∧U W V (Sl 135 1 av e.length c' (e.map cx)::Sl 135 1 ad e.length c (e.map cx)::L):=by
 cases o4:ad with
 | none =>
  subst o4;have h0:e=[]:=by
   rcases Nat.eq_zero_or_pos e.length with h0 | h0
   ·exact g5 h0
   ·obtain⟨b,o,h1,_⟩:=I.bY none h0;cases h1
  subst h0;refine EN func57 ntmps57 rfl rfl λa E=>?_;refine RN 6 E I λa E=>?_;replace E:=E.ef 4;refine RT 3 E I ?_;exact⟨_,_,rfl,I.bM _ _ _⟩
 | some a =>
  rw[← o4];refine EN func57 ntmps57 rfl rfl λa E=>?_;refine RN 6 E I λa E=>?_;rw[show ad.isNone=false from by rw[o4];rfl]at E;replace E:=E.aN 4;refine RN 2 E I λa E=>?_;refine tp E rfl I underlying90 Ty.t135 rfl λb5 a w E I ho=>?_;clear ho;replace I:U W w (Sl 135 1 (some ⟨b5,0,none⟩) 0 0 []::Sl 135 1 ad e.length c (e.map cx)::L):=I.tail.bM _ _ _;refine RN 1 E I λa E=>?_;refine gV E rfl I underlying90 Ty.t135 rfl rfl (by decide) (λh0=>I.tail.bY ad h0) (by rw[bd,Nat.mul_one]) (MZ _) (by omega) λrU qH a w E I=>?_;rw[nil_append,Nat.zero_add]at I;rw[Nat.zero_add]at E;refine RT 1 E I ?_;exact⟨_,_,rfl,I⟩
theorem abM {m:Ml}(h:m.2.2.length≤1000):(if pH (net.map cK) m.2.2.length then net.map cK++[cK m] else net.map cK)=(oF net m).map cK:=by
 have h1:pH (net.map cK) m.2.2.length=decide (net.length<300):=by
  rw[pH,bd,dk h,Bool.and_true]
 rw[h1,oF];by_cases h2:net.length<300
 ·rw[dk h2,ak rfl,ak h2,cQ];rfl
 ·rw[bn h2,ae (by decide),ae h2]
theorem M1 (I:U W w (cu 124 ad n c l::bJ q (net.map cK)::aa mb 107 [x1,pt q,x3]::L))(hn:n≤1000)(hl:∀ m∈l,m.2.2.length≤1000) :
   Calls prog 61 #[pt mb,.slice ad n c] w λe V=>e=.returned (.int .i64 0)∧U W V (bJ q ((dY net l).map cK)::aa mb 107 [x1,pt q,x3]::L):=by
 obtain⟨xs,eC,cj,I⟩:=cu.open I;have a8:xs.length=n:=by rw[← cj,← eC,bd]
 subst a8;refine EN func61 ntmps61 rfl rfl λa E=>?_;refine RN 7 E I λa E=>?_;refine aR (λμ a w=>∃ (i:Nat),(μ=xs.length-i∧i≤xs.length)∧Fr a 20 [(0,pt mb),(7,.slice ad xs.length c),(8,.int .i64 xs.length),(9,.int .i64 i)]∧U W w (bJ q ((dY net (l.take i)).map cK)::Sl 124 3 ad xs.length c (rows bZ xs)::ah b0 xs::aa mb 107 [x1,pt q,x3]::L)) (xs.length) (⟨0,⟨rfl,by omega⟩,E.ab [0,7,8,9],(show U W w (Sl 124 3 ad xs.length c (rows bZ xs)::ah b0 xs::bJ q ((dY net (l.take 0)).map cK)::_) from I).sub⟩) ?_;clear E I;rintro μ a w ⟨i,⟨rfl,hi⟩,E,I⟩;refine IF 3 E I (λaj a E=>?_) λaj a E=>?_
 ·
  have aJ:i<xs.length:=by omega
  have yz:i<l.length:=by omega
  refine RN 2 E I λa E=>?_;obtain⟨bi,oi,rfl,pa⟩:=(I.pick (Sl 124 3 ad xs.length c (rows bZ xs))).bY ad (by omega);have fb:=jA oy pa (aI aJ);obtain⟨m,hm⟩:∃ m,m=l[i]:=⟨_,rfl⟩;obtain⟨xa,M3,hx⟩:∃ a c,xs[i]=(a,c,m):=⟨xs[i].1,xs[i].2.1,by
   have h1:(xs.map (·.2.2))[i]?=l[i]?:=by rw[eC]
   rw[bm,aI aJ,aI yz]at h1;have h2:xs[i].2.2=l[i]:=by simpa using h1
   rw[hm,← h2]⟩
  have lX:=hl m (by rw[hm];exact getElem_mem _);rw[hx]at fb;refine RN 1 E I λa E=>?_;refine SS E (bT E underlying124 rfl Ty.t124 (fb)) λa E=>?_;refine AL 0 E I λcG a w E I=>?_;refine SA 0 E I λa w E I=>?_;refine bQ 0 [4] [0,1,2,3003,1004,1005] E I λa w E I hH hC=>?_;refine RH 5 E I hH hC λa E=>?_;refine CL 0 E I (aa8 (bs:=m.2.2) (I.pick (bJ q ((dY net (l.take i)).map cK))) (λV dd=>by
   have h1:=(dd.pick (ah b0 xs)).fE aJ;rw[hx]at h1;exact U.cF (L:=b0 (xa,M3,m)::_) h1 _ _ (k:=(fL.head:fL (Sl 5 1 xa m.2.2.length M3 (bc m.2.2)::_) xa _ _ _ _ _ _)) rfl rfl)) λa w E I=>?_
  refine RN 0 E I λa E=>?_;rw[show ((m.1:Int),(m.2.1:Int),m.2.2)=cK m from rfl,abM lX,hm,← Ms net yz]at I;refine RN 2 E I λa E=>?_;exact⟨xs.length-(i+1),by omega,i+1,⟨rfl,by omega⟩,E.ab [0,7,8,9],I.sub⟩
 refine RT 2 E I ?_;obtain rfl:i=xs.length:=by omega
 rw[fX (by omega)]at I;exact⟨rfl,I.sub⟩
end
end
section
abbrev ei (s:fU):List Value:=[.int .i64 s.fn,.int .i64 s.a,.int .i64 s.b,.int .i64 s.n]
section
variable {W w:World}{L:List SP}{c d cL mb i q:Nat}{ad adE:Option Addr}{p:Pr}{B:jk}{A:nG}{v:Wd}{x:fz}{s wm s':Pl}{t:fU}{y:Int}{net:List Ml}{cf:Cf}
theorem nG.Ok.at (h:A.Ok B v)(hi:i<v.ps.length):∃ x,A.xs[i]?=some (x,an v i)∧i<A.xs.length∧B.fp[i]?=some x:=by
 have hl:A.xs.length=v.ps.length:=by rw[← h.ps,bd]
 have dF:i<A.xs.length:=by omega
 refine⟨A.xs[i].1,?_,dF,by rw[← h.fp,bm,aI dF];rfl⟩;rw[aI dF,an,bl,← h.ps,bm,aI dF];rfl
theorem aH.out (I:U W w (ah (cy W p c) A.xs::L))(hx:A.xs[i]?=some (x,s)):U W w (x.J W p c s::ah (cy W p c) (A.xs.eraseIdx i)::L):=by
 obtain⟨hi,h1⟩:=a2.1 hx;have h2:=I.fE hi;rw[h1]at h2;exact h2
theorem aH.put (hA:A.Ok B v)(hx:A.xs[i]?=some (x,wm))(Dc:c≤d)(net:List Ml)
   (I:U W w (x.J W p d s'::ah (cy W p c) (A.xs.eraseIdx i)::aa B.mb 107 (jC B A)::Sl 81 1 A.adL A.xs.length A.cL (A.xs.map cA)::bJ B.q (net.map cK)::Sl 90 1 A.adE A.es.length A.cE (A.es.map bx)::ah eA A.es::L)) :
   U W w (aH W B p d { v with ps:=v.ps.set i s',net:=net }::L):=by
 obtain⟨hi,h1⟩:=a2.1 hx;have h2:=(I.pick (ah (cy W p c) (A.xs.eraseIdx i))).rz Dc;have h3:=U.ky (f:=cy W p d) (x:=(x,s')) hi (h2.pick (x.J W p d s'));have e1:(A.xs.set i (x,s')).map cA=A.xs.map cA:=by
  rw[List.map_set,show cA (x,s')=(A.xs.map cA)[i]'(by rw[bd];exact hi) from by rw[getElem_map,h1],set_getElem_self]
 have e2:(A.xs.set i (x,s')).length=A.xs.length:=br ..;have hA':nG.Ok { A with xs:=A.xs.set i (x,s') } B { v with ps:=v.ps.set i s',net:=net }:=by
  refine⟨?_,?_,hA.ev⟩
  ·show (A.xs.set i (x,s')).map (·.1)=_;rw[List.map_set,← hA.fp];show (A.xs.map (·.1)).set i x=_;rw[show x=(A.xs.map (·.1))[i]'(by rw[bd];exact hi) from by rw[getElem_map,h1],set_getElem_self]
  ·show (A.xs.set i (x,s')).map (·.2)=v.ps.set i s';rw[List.map_set,hA.ps]
 have h4:U W w (ah (cy W p d) (A.xs.set i (x,s'))::aa B.mb 107 (jC B { A with xs:=A.xs.set i (x,s') })::Sl 81 1 A.adL (A.xs.set i (x,s')).length A.cL ((A.xs.set i (x,s')).map cA)::bJ B.q (net.map cK)::Sl 90 1 A.adE A.es.length A.cE (A.es.map bx)::ah eA A.es::L):=by
  simp only[jC,e1,e2];exact h3.sub
 exact (aH.fold h4 B p d { v with ps:=v.ps.set i s',net:=net } { A with xs:=A.xs.set i (x,s') } hA').sub
theorem fU.u8 (b:Int):IntKind.u8.wrap b=((fV b).toNat:Int):=by rw[wrap_u8,aaX]
structure jk.Ok (B:jk)(p:Pr)(c:Nat):Prop where
 pr:dg p
 sz:p.title.size≤1000000000
 gs:∀ x∈B.fp,cR x.z.gs
 c:c≤1000000
theorem abN (I:U W w L):Calls prog 62 #[.pointer none,.int .i64 y] w λe V=>e=.returned (.bool false)∧U W V L:=by
 refine EN func62 ntmps62 rfl rfl λa E=>?_;refine RN 7 E I λa E=>?_;replace E:=E.ef 7;refine RT 19 E I ?_;exact⟨rfl,I⟩
theorem abO (I:U W w (ah (cy W p c) A.xs::L))(hx:A.xs[i]?=some (x,s))(a1:dg p)(aE:p.title.size≤1000000000)(hc:c≤1000000) :
   Calls prog 62 #[x.z.mul,.int .i64 y] w λe V=>∃ z:Bool,e=.returned (.bool z)∧(z=true→0≤y∧y<s.k.workers∧∃ M,x.z=.mu M)∧U W V (ah (cy W p (c+1)) A.xs::L):=by
 obtain⟨hi,h1⟩:=a2.1 hx;have h2:=aH.out I hx;obtain⟨cf,z⟩:=x;cases z with
 | pl B=>exact (abN I).mono λe V ⟨h,I⟩=>⟨false,h,(λh=>by cases h),I.rz (Nat.le_succ c)⟩
 | mu M =>
  refine (abp h2 a1 aE hc).mono λe V ⟨z,h,h3,I⟩=>⟨z,h,λhz=>⟨(h3 hz).2.1,(h3 hz).2.2,M,rfl⟩,?_⟩;have h4:=(I.pick (ah (cy W p c) (A.xs.eraseIdx i))).rz (Nat.le_succ c);refine U.wC hi ?_;rw[h1];exact h4.pick (fh W M p cf (c+1) s)
theorem Bh {t:fU}(h:t.fn=1)(fW:t.a=i)(hi:i<v.ps.length):gq p t v=((dE p (fV t.b) (an v i)).1,{ v with ps:=v.ps.set i (dE p (fV t.b) (an v i)).2 }):=by
 rw[gq,ae (by omega),ak h,fW,Int.toNat_natCast]
theorem wD {t:fU}(h:t.fn=2)(fW:t.a=i)(hi:i<v.ps.length):gq p t v=(0,{ v with ps:=v.ps.set i ⟨(bo (an v i).k).2,(an v i).g⟩,net:=dY v.net (bo (an v i).k).1 }):=by
 rw[gq,ae (by omega),ae (by omega),ak h,fW,Int.toNat_natCast]
theorem uQ {t:fU}(h:t.fn=8)(fW:t.a=i)(hi:i<v.ps.length):gq p t v=(0,{ v with ps:=v.ps.set i ⟨(bu (an v i).k).2,(an v i).g⟩,net:=dY v.net (bu (an v i).k).1 }):=by
 rw[gq,ae (by omega),ae (by omega),ae (by omega),ak h,fW,Int.toNat_natCast]
theorem yA {t:fU}(h:t.fn=7)(fW:t.a=i)(hi:i<v.ps.length):gq p t v=(0,v):=by
 rw[gq,ae (by omega),ae (by omega),ae (by omega),ae (by omega)]
theorem abP (I:U W w (aH W B p c v::L))(Zl:t.a<0∨(v.ps.length:Int)≤t.a) :
   Calls prog 44 #[pt B.mb,.agg (ei t).toArray] w λe V=>e=.returned (.int .i64 7)∧U W V (aH W B p c v::L):=by
 replace I:=aH.open I;obtain⟨A,hA,I⟩:=I;have hl:A.xs.length=v.ps.length:=by rw[← hA.ps,bd]
 refine EN func44 ntmps44 rfl rfl λa E=>?_;refine BX 1 E I λb3 a w E I=>?_;change U W w (aa b3 58 (ei t)::_) at I;refine CL 5 E I (MY (I.pick (aa B.mb 107 (jC B A))) (by omega)) λa w E I=>?_;refine RN 4 E I λa E=>?_;refine SK (bE E rfl (MW E underlying81) rfl ?_);clear E a;intro a E;refine RN 0 E I λa E=>?_;replace E:=E.ef 11;refine RT 3 E I ?_;exact⟨rfl,(aH.fold I B p c v A hA).sub⟩
set_option maxHeartbeats 1000000 in
theorem abQ (I:U W w (aH W B p c v::L))(hB:B.Ok p c)(hv:bD p cf c v)(hi:i<v.ps.length)(hf:t.fn=1∨t.fn=2∨t.fn=8∨t.fn=7)(fW:t.a=i) :
   Calls prog 44 #[pt B.mb,.agg (ei t).toArray] w λe V=>∃ z:Int,e=.returned (.int .i64 z)∧(t.fn≠7→z=(gq p t v).1) ∧
    (t.fn=7→z=7∨(z=0∧0≤t.b∧t.b<(an v i).k.workers∧∃ x M,B.fp[i]?=some x∧x.z=.mu M))∧U W V (aH W B p (c+1) (gq p t v).2::L):=by
 replace I:=aH.open I;obtain⟨A,hA,I⟩:=I;obtain⟨x,hx,Bi,oJ⟩:=hA.at hi;obtain⟨_,gS⟩:=a2.1 hx;have hM:=x.qi (W:=W) (p:=p) hB.pr hB.sz (hB.gs x (bK oJ));obtain⟨hw,c5,wE⟩:=hv.pl i hi;have mh:=hB.c;have yB:cA A.xs[i]=.iface x.z.t (.pointer (some x.z.ad)):=by rw[gS]
 refine EN func44 ntmps44 rfl rfl λa E=>?_;refine BX 1 E I λb3 a w E I=>?_;change U W w (aa b3 58 (ei t)::_) at I;refine RN 5 E I λa E=>?_;rw[fW]at E;refine CL 0 E I (rA ((I.pick (Sl 81 1 A.adL A.xs.length A.cL (A.xs.map cA))).pick (aa B.mb 107 (jC B A))) Bi) λa w E I=>?_;refine RN 1 E I λa E=>?_;rw[yB]at E;refine RN 4 E I λa E=>?_;replace E:=E.aN 11;refine IF 8 E I (λao a E=>?_) λao a E=>?_
 ·
  refine RN 1 E I λa E=>?_;replace I:=aH.out (I.pick (ah (cy W p c) A.xs)) hx;refine RN 3 E I λa E=>?_;refine SS E (gg E underlying3 underlying5) λa E=>?_;rw[fU.u8]at E;refine RN 0 E I λa E=>?_;refine js E rfl hM.FQ hM.cP rfl (hM.al _ _ c (an v i) (fV t.b) mh hw (I.pick (x.J W p c (an v i)))) (by rfl) ?_;clear E I;rintro e w ⟨rfl,I⟩;refine⟨_,rfl,λa E=>?_⟩;refine RT 1 E I ?_;exact⟨_,rfl,λ_=>by rw[Bh (by assumption) fW hi],λh=>by omega,by
   have h1:=aH.put hA hx (Nat.le_succ c) v.net (I.sub (M:=x.J W p (c+1) (dE p (fV t.b) (an v i)).2::ah (cy W p c) (A.xs.eraseIdx i)::aa B.mb 107 (jC B A)::Sl 81 1 A.adL A.xs.length A.cL (A.xs.map cA)::bJ B.q (v.net.map cK)::Sl 90 1 A.adE A.es.length A.cE (A.es.map bx)::ah eA A.es::L));rw[Bh (by assumption) fW hi];exact h1⟩
 refine IF 3 E I (λay a E=>?_) λay a E=>?_
 ·
  refine RN 1 E I λa E=>?_;replace I:=aH.out (I.pick (ah (cy W p c) A.xs)) hx;refine RN 2 E I λa E=>?_;refine js E rfl hM.FU hM.cT rfl (hM.tick _ _ c (an v i) mh hw (by omega) (I.pick (x.J W p c (an v i)))) (by rfl) ?_;clear E I;rintro e w ⟨am,jl,rfl,I⟩;refine⟨_,rfl,λa E=>?_⟩;refine CL 0 E I (M1 (((I.pick (aa B.mb 107 (jC B A))).pick (bJ B.q (v.net.map cK))).pick (cu 124 am (bo (an v i).k).1.length jl (bo (an v i).k).1)) (Mq hw.wc) (λm hm=>(Mt hw.wc m hm).2)) λa w E I=>?_;refine RT 1 E I ?_;exact⟨_,rfl,λ_=>by rw[wD (by assumption) fW hi],λh=>by omega,by
   have h1:=aH.put hA hx (Nat.le_succ c) (dY v.net (bo (an v i).k).1) (I.sub (M:=x.J W p (c+1) ⟨(bo (an v i).k).2,(an v i).g⟩::ah (cy W p c) (A.xs.eraseIdx i)::aa B.mb 107 (jC B A)::Sl 81 1 A.adL A.xs.length A.cL (A.xs.map cA)::bJ B.q ((dY v.net (bo (an v i).k).1).map cK)::Sl 90 1 A.adE A.es.length A.cE (A.es.map bx)::ah eA A.es::L));rw[wD (by assumption) fW hi];exact h1⟩
 refine IF 3 E I (λbh a E=>?_) λbh a E=>?_
 ·
  refine RN 1 E I λa E=>?_;replace I:=aH.out (I.pick (ah (cy W p c) A.xs)) hx;refine RN 2 E I λa E=>?_;refine js E rfl hM.FV hM.FW rfl (hM.ko _ _ c (an v i) mh hw (I.pick (x.J W p c (an v i)))) (by rfl) ?_;clear E I;rintro e w ⟨am,jl,rfl,I⟩;refine⟨_,rfl,λa E=>?_⟩;refine CL 0 E I (M1 (((I.pick (aa B.mb 107 (jC B A))).pick (bJ B.q (v.net.map cK))).pick (cu 124 am (bu (an v i).k).1.length jl (bu (an v i).k).1)) (Mr hw.wc) (λm hm=>(Mv hw.wc m hm).2)) λa w E I=>?_;refine RT 1 E I ?_;exact⟨_,rfl,λ_=>by rw[uQ (by assumption) fW hi],λh=>by omega,by
   have h1:=aH.put hA hx (Nat.le_succ c) (dY v.net (bu (an v i).k).1) (I.sub (M:=x.J W p (c+1) ⟨(bu (an v i).k).2,(an v i).g⟩::ah (cy W p c) (A.xs.eraseIdx i)::aa B.mb 107 (jC B A)::Sl 81 1 A.adL A.xs.length A.cL (A.xs.map cA)::bJ B.q ((dY v.net (bu (an v i).k).1).map cK)::Sl 90 1 A.adE A.es.length A.cE (A.es.map bx)::ah eA A.es::L));rw[uQ (by assumption) fW hi];exact h1⟩
 refine aZ 2 (λw0 V=>Rd V b3 0 (ei t)) [3,5] [0,1,4,3002,3005,1003,1006,7] E I λa w E I hH=>?_;have hC:=hH.at w (I.ai (b:=b3));refine RH 3 E I hH hC λa E=>?_;refine QH E (λw hc=>ag E (hc 1 _ rfl)) hC λa E=>?_;rw[fW]at E;refine RH 0 E I hH hC λa E=>?_;refine QH E (λw hc=>ag E (hc 2 _ rfl)) hC λa E=>?_;refine RH 0 E I hH hC λa E=>?_;refine CL 0 E I (Ga ((I.pick (Sl 81 1 A.adL A.xs.length A.cL (A.xs.map cA))).pick (aa B.mb 107 (jC B A))) Bi) λa w E I=>?_;replace hC:=hH.at w (I.ai (b:=b3));rw[show A.xs[i].1.z.mul=x.z.mul from by rw[gS]]at E;refine RH 0 E I hH hC λa E=>?_;refine bg 0 E I (abO (x:=x) (y:=t.b) (I.pick (ah (cy W p c) A.xs)) hx hB.pr hB.sz mh) λz a w E ⟨hz,I⟩=>?_;refine RN 1 E I λa E=>?_;refine IF 0 E I (λbR a E=>?_) λbR a E=>?_
 ·
  have km:z=false:=by cases z <;> simp_all
  refine RT 2 E I ?_;exact⟨7,rfl,λh=>absurd (by omega) h,λ_=>.inl rfl,by
   rw[yA (by omega) fW hi];exact (aH.fold I B p (c+1) v A hA).sub⟩
 have km:z=true:=by cases z <;> simp_all
 refine RT 2 E I ?_;exact⟨0,rfl,λh=>absurd (by omega) h,λ_=>.inr ⟨rfl,(hz km).1,(hz km).2.1,x,(hz km).2.2.choose,oJ,(hz km).2.2.choose_spec⟩,by
  rw[yA (by omega) fW hi];exact (aH.fold I B p (c+1) v A hA).sub⟩
end
end
section
section
variable {W w:World}{L:List SP}{n c cL mb j q:Nat}{ad adE:Option Addr}{p:Pr}{B:jk}{A:nG}{v:Wd}{x:fz}{t:fU}{y:Int}{net:List Ml}{m:Ml}{cf:Cf}{z:UInt8}
theorem Gb (h:net[j]?=some m):∃ h2:j<(net.map cK).length,(net.map cK)[j]=cK m:=by
 obtain⟨h1,h2⟩:=a2.1 h;exact⟨by rw[bd];exact h1,by rw[getElem_map,h2]⟩
theorem Gc (I:U W w (bJ q (net.map cK)::L))(h:net[j]?=some m):Calls prog 52 #[pt q,.int .i64 j] w λe V=>∃ ad c,e=.returned (.tuple #[.agg #[.int .i64 m.1,.int .i64 m.2.1,.slice ad m.2.2.length c],.bool true])∧U W V (Sl 5 1 ad m.2.2.length c (bc m.2.2)::bJ q (net.map cK)::L):=by
 obtain⟨h1,h2⟩:=Gb h;have h3:=aba I h1;rw[h2]at h3;exact h3
theorem M4 (I:U W w (bJ q (net.map cK)::L))(h:y<0∨(net.length:Int)≤y):Calls prog 52 #[pt q,.int .i64 y] w λe V=>e=.returned (.tuple #[.agg #[.int .i64 0,.int .i64 0,.slice none 0 0],.bool false])∧U W V (bJ q (net.map cK)::L) :=
 aa9 I (by rw[bd];simp;omega)
theorem M5 (I:U W w (bJ q (net.map cK)::L))(h:net[j]?=some m):Calls prog 63 #[pt q,.int .i64 j] w λe V=>e=.returned (.bool true)∧U W V (bJ q ((net.eraseIdx j).map cK)::L):=by
 obtain⟨h1,h2⟩:=Gb h;have h3:=abc I h1;rw[show (net.map cK).eraseIdx j=(net.eraseIdx j).map cK from by simp only[eraseIdx_eq_take_drop_succ,cQ,map_take,map_drop]]at h3;exact h3
theorem abR (I:U W w (bJ q (net.map cK)::L))(h:net[j]?=some m):Calls prog 64 #[pt q,.int .i64 j,.int .i64 y,.int .u8 (z.toNat:Int)] w λe V =>
   e=.returned (.bool (decide (0≤y)&&decide (y<m.2.2.length)))∧U W V (bJ q ((if y<0∨(m.2.2.length:Int)≤y then net else net.set j (m.1,m.2.1,m.2.2.set y.toNat (m.2.2.getD y.toNat 0 ^^^ z))).map cK)::L):=by
 obtain⟨h1,h2⟩:=Gb h;have h3:=abd (aT:=y) (x:=z) I h1;rw[h2]at h3;refine h3.mono λe V ⟨h4,h5⟩=>⟨h4,?_⟩;by_cases h6:y<0∨(m.2.2.length:Int)≤y
 ·rw[ak h6];rw[ae (by show ¬ (decide (0≤y)&&decide (y<(m.2.2.length:Int)))=true;simp;omega)]at h5;exact h5
 ·rw[ae h6,List.map_set];rw[ak (by show (decide (0≤y)&&decide (y<(m.2.2.length:Int)))=true;simp;omega)]at h5;exact h5
theorem M6 {t:fU}(h:t.n<0∨(v.net.length:Int)≤t.n):gb p t v=(3,v):=by rw[gb,ak h]
theorem Bj (h:v.net[j]?=some m):v.net.getD j (0,0,[])=m:=by rw[bl,h];rfl
theorem Ge {t:fU}(h:t.fn=4)(gD:t.n=j)(hm:v.net[j]?=some m):gb p t v=(0,{ v with net:=v.net.eraseIdx j }):=by
 have h1:=(a2.1 hm).1;rw[gb,ae (by omega),ae (by omega),ak h,gD,Int.toNat_natCast]
theorem uR {t:fU}(h:t.fn=6)(gD:t.n=j)(hm:v.net[j]?=some m):gb p t v=if t.a<0∨(m.2.2.length:Int)≤t.a then (3,v) else (0,{ v with net:=v.net.set j (m.1,m.2.1,m.2.2.set t.a.toNat (m.2.2.getD t.a.toNat 0 ^^^ fV t.b)) }):=by
 have h1:=(a2.1 hm).1;rw[gb,ae (by omega),ak h,gD,Int.toNat_natCast,Bj hm]
theorem Bk {t:fU}(h:t.fn≠4)(h':t.fn≠6)(gD:t.n=j)(hm:v.net[j]?=some m):gb p t v=((dz p m.2.2 (an v m.2.1)).1,{ v with ps:=v.ps.set m.2.1 (dz p m.2.2 (an v m.2.1)).2,net:=if t.fn=5 then v.net else v.net.eraseIdx j }):=by
 have h1:=(a2.1 hm).1;rw[gb,ae (by omega),ae h',ae h,gD,Int.toNat_natCast,Bj hm]
theorem abS (I:U W w (aH W B p c v::L))(yV:t.n<0∨(v.net.length:Int)≤t.n) :
   Calls prog 45 #[pt B.mb,.agg (ei t).toArray] w λe V=>e=.returned (.int .i64 3)∧U W V (aH W B p c v::L):=by
 replace I:=aH.open I;obtain⟨A,hA,I⟩:=I;refine EN func45 ntmps45 rfl rfl λa E=>?_;refine BX 1 E I λb3 a w E I=>?_;change U W w (aa b3 58 (ei t)::_) at I;refine RN 1 E I λa E=>?_;refine b7 (M:=λa w=>∃ b5:Nat,Fr a 61 [(0,pt B.mb),(3,pt b3),(5,pt b5),(6,.bool false)]∧U W w (aa b5 124 [.int .i64 0,.int .i64 0,.slice none 0 0]::aa b3 58 (ei t)::aa B.mb 107 (jC B A)::Sl 81 1 A.adL A.xs.length A.cL (A.xs.map cA)::ah (cy W p c) A.xs::bJ B.q (v.net.map cK)::Sl 90 1 A.adE A.es.length A.cE (A.es.map bx)::ah eA A.es::L)) ?_ ?_
 ·
  refine aZ 0 (λw0 V=>Rd V B.mb 0 (jC B A)∧Rd V b3 0 (ei t)) [5,10] [0,1,2,4,3003,3005,2006,7,8,9,1010,1011,12] E I λa w E I hH=>?_;have hC:=hH.at w ⟨I.ai (b:=B.mb),I.ai (b:=b3)⟩;refine RH 4 E I hH hC λa E=>?_;refine QH E (λw hc=>ag E (hc.1 1 _ rfl)) hC λa E=>?_;refine QH E (λw hc=>ag E (hc.2 3 _ rfl)) hC λa E=>?_;refine RH 0 E I hH hC λa E=>?_;refine DN [(6,[7,8,9,1010,1011,12]),(10,[1006,7,8,9,1011,12])] (by kernel_rfl) rfl ⟨⟨_,rfl,?_⟩,⟨_,rfl,?_⟩,trivial⟩
  ·
   refine RH 0 E I hH hC λa E=>?_;refine CL 0 E I (M4 (I.pick (bJ B.q (v.net.map cK))) yV) λa w E I=>?_;refine RN 3 E I λa E=>?_;refine eR E rfl I Ty.t124 rfl λb5 a w E I ho=>?_;clear ho;replace hC:=hH.at w ⟨I.ai (b:=B.mb),I.ai (b:=b3)⟩;refine RH 0 E I hH hC λa E=>?_;refine SA 0 E I λa w E I=>?_;refine RN 1 E I λa E=>?_;exact⟨b5,E.ab [0,3,5,6],I.sub⟩
  refine RH 0 E I hH hC λa E=>?_;refine eR E rfl I Ty.t124 rfl λb5 a w E I ho=>?_;clear ho;replace hC:=hH.at w ⟨I.ai (b:=B.mb),I.ai (b:=b3)⟩;refine RH 0 E I hH hC λa E=>?_;refine CL 0 E I (M4 (I.pick (bJ B.q (v.net.map cK))) yV) λa w E I=>?_;refine SA 3 E I λa w E I=>?_;refine RN 1 E I λa E=>?_;exact⟨b5,E.ab [0,3,5,6],I.sub⟩
 clear E;(try clear I);rintro a w ⟨b5,E,I⟩;refine RN 4 E I λa E=>?_;replace E:=E.ef 18;refine RT 3 E I ?_;exact⟨rfl,(aH.fold I B p c v A hA).sub⟩
set_option maxHeartbeats 1000000 in
theorem abT (I:U W w (aH W B p c v::L))(hB:B.Ok p c)(hv:bD p cf c v)(hf:t.fn=3∨t.fn=4∨t.fn=5∨t.fn=6)(gD:t.n=j)(hm:v.net[j]?=some m) :
   Calls prog 45 #[pt B.mb,.agg (ei t).toArray] w λe V=>e=.returned (.int .i64 (gb p t v).1)∧U W V (aH W B p (c+1) (gb p t v).2::L):=by
 replace I:=aH.open I;obtain⟨A,hA,I⟩:=I;have dG:=(a2.1 hm).1;have gM:=hv.F4 dG;rw[Bj hm]at gM;obtain⟨x,hx,Bi,oJ⟩:=hA.at gM.1;obtain⟨_,gS⟩:=a2.1 hx;have hM:=x.qi (W:=W) (p:=p) hB.pr hB.sz (hB.gs x (bK oJ));obtain⟨hw,c5,wE⟩:=hv.pl m.2.1 gM.1;have mh:=hB.c;have yB:cA A.xs[m.2.1]=.iface x.z.t (.pointer (some x.z.ad)):=by rw[gS]
 refine EN func45 ntmps45 rfl rfl λa E=>?_;refine BX 1 E I λb3 a w E I=>?_;change U W w (aa b3 58 (ei t)::_) at I;refine RN 1 E I λa E=>?_;refine b7 (M:=λa w=>∃ (b5:Nat) (am:Option Addr) (jl:Nat),Fr a 61 [(0,pt B.mb),(3,pt b3),(5,pt b5),(6,.bool true)]∧U W w (aa b5 124 [.int .i64 m.1,.int .i64 m.2.1,.slice am m.2.2.length jl]::Sl 5 1 am m.2.2.length jl (bc m.2.2)::aa b3 58 (ei t)::aa B.mb 107 (jC B A)::Sl 81 1 A.adL A.xs.length A.cL (A.xs.map cA)::ah (cy W p c) A.xs::bJ B.q (v.net.map cK)::Sl 90 1 A.adE A.es.length A.cE (A.es.map bx)::ah eA A.es::L)) ?_ ?_
 ·
  refine aZ 0 (λw0 V=>Rd V B.mb 0 (jC B A)∧Rd V b3 0 (ei t)) [5,10] [0,1,2,4,3003,3005,2006,7,8,9,1010,1011,12] E I λa w E I hH=>?_;have hC:=hH.at w ⟨I.ai (b:=B.mb),I.ai (b:=b3)⟩;refine RH 4 E I hH hC λa E=>?_;refine QH E (λw hc=>ag E (hc.1 1 _ rfl)) hC λa E=>?_;refine QH E (λw hc=>ag E (hc.2 3 _ rfl)) hC λa E=>?_;rw[gD]at E;refine RH 0 E I hH hC λa E=>?_;refine DN [(6,[7,8,9,1010,1011,12]),(10,[1006,7,8,9,1011,12])] (by kernel_rfl) rfl ⟨⟨_,rfl,?_⟩,⟨_,rfl,?_⟩,trivial⟩
  ·
   refine RH 0 E I hH hC λa E=>?_;refine aY 0 E I (Gc (I.pick (bJ B.q (v.net.map cK))) hm) λam jl a w E I=>?_;refine RN 3 E I λa E=>?_;refine eR E rfl I Ty.t124 rfl λb5 a w E I ho=>?_;clear ho;replace hC:=hH.at w ⟨I.ai (b:=B.mb),I.ai (b:=b3)⟩;refine RH 0 E I hH hC λa E=>?_;refine SA 0 E I λa w E I=>?_;refine RN 1 E I λa E=>?_;exact⟨b5,am,jl,E.ab [0,3,5,6],I.sub⟩
  refine RH 0 E I hH hC λa E=>?_;refine eR E rfl I Ty.t124 rfl λb5 a w E I ho=>?_;clear ho;replace hC:=hH.at w ⟨I.ai (b:=B.mb),I.ai (b:=b3)⟩;refine RH 0 E I hH hC λa E=>?_;refine aY 0 E I (Gc (I.pick (bJ B.q (v.net.map cK))) hm) λam jl a w E I=>?_;refine SA 3 E I λa w E I=>?_;refine RN 1 E I λa E=>?_;exact⟨b5,am,jl,E.ab [0,3,5,6],I.sub⟩
 clear E;(try clear I);rintro a w ⟨b5,am,jl,E,I⟩;refine RN 4 E I λa E=>?_;replace E:=E.aN 18;refine RN 1 E I λa E=>?_;refine b7 (M:=λa w=>((t.fn≠4∧t.fn≠6)∧Fr a 61 [(0,pt B.mb),(5,pt b5)])∧U W w (aa b5 124 [.int .i64 m.1,.int .i64 m.2.1,.slice am m.2.2.length jl]::Sl 5 1 am m.2.2.length jl (bc m.2.2)::aa B.mb 107 (jC B A)::Sl 81 1 A.adL A.xs.length A.cL (A.xs.map cA)::ah (cy W p c) A.xs::bJ B.q ((if t.fn=5 then v.net else v.net.eraseIdx j).map cK)::Sl 90 1 A.adE A.es.length A.cE (A.es.map bx)::ah eA A.es::L)) ?_ ?_
 ·
  refine IF 6 E I (λao a E=>?_) λao a E=>?_
  ·
   refine bQ 1 [5] [0,1,2,4,3003,1005,1006] E I λa w E I hH hC=>?_;refine RH 6 E I hH hC λa E=>?_;rw[gD]at E;refine CL 0 E I (M5 (I.pick (bJ B.q (v.net.map cK))) hm) λa w E I=>?_;refine RT 2 E I ?_;exact⟨by rw[Ge (by assumption) gD hm],by
    rw[Ge (by assumption) gD hm];exact (aH.fold ((I.pick (ah (cy W p c) A.xs)).rz (Nat.le_succ c)) B p (c+1) { v with net:=v.net.eraseIdx j } A ⟨hA.fp,hA.ps,hA.ev⟩).sub⟩
  refine IF 3 E I (λay a E=>?_) λay a E=>?_
  ·
   refine bQ 2 [5,7,9,10] [0,1,2,4,6,8,3003,3005,3007,1009,1010,1011,12] E I λa w E I hH hC=>?_;refine RH 10 E I hH hC λa E=>?_;refine SS E (gg E underlying3 underlying5) λa E=>?_;rw[fU.u8,gD]at E;refine RH 0 E I hH hC λa E=>?_;refine CL 0 E I (abR (I.pick (bJ B.q (v.net.map cK))) hm) λa w E I=>?_;refine RN 1 E I λa E=>?_;refine IF 0 E I (λbh a E=>?_) λbh a E=>?_
   ·
    have ho:t.a<0∨(m.2.2.length:Int)≤t.a:=by
     by_cases h1:t.a<0
     ·exact .inl h1
     ·by_cases h2:(m.2.2.length:Int)≤t.a
      ·exact .inr h2
      ·simp at bh;omega
    refine RT 2 E I ?_;exact⟨by rw[uR (by assumption) gD hm,ak ho],by
     rw[uR (by assumption) gD hm,ak ho];rw[ak ho]at I;exact (aH.fold ((I.pick (ah (cy W p c) A.xs)).rz (Nat.le_succ c)) B p (c+1) v A hA).sub⟩
   have ho:¬ (t.a<0∨(m.2.2.length:Int)≤t.a):=by
    simp at bh;omega
   refine RT 2 E I ?_;exact⟨by rw[uR (by assumption) gD hm,ae ho],by
    rw[uR (by assumption) gD hm,ae ho];rw[ae ho]at I;exact (aH.fold ((I.pick (ah (cy W p c) A.xs)).rz (Nat.le_succ c)) B p (c+1) { v with net:=v.net.set j (m.1,m.2.1,m.2.2.set t.a.toNat (m.2.2.getD t.a.toNat 0 ^^^ fV t.b)) } A ⟨hA.fp,hA.ps,hA.ev⟩).sub⟩
  refine IF 3 E I (λbR a E=>?_) λbR a E=>?_
  ·
   refine bQ 0 [5] [0,1,2,4,3003,1005,1006] E I λa w E I hH hC=>?_;refine RH 6 E I hH hC λa E=>?_;rw[gD]at E;refine CL 0 E I (M5 (I.pick (bJ B.q (v.net.map cK))) hm) λa w E I=>?_;refine RN 0 E I λa E=>?_;rw[ae (by omega)];exact⟨⟨⟨by omega,by omega⟩,E.ab [0,5]⟩,I.sub⟩
  refine RN 0 E I λa E=>?_;rw[ak (by omega)];exact⟨⟨⟨by omega,by omega⟩,E.ab [0,5]⟩,I.sub⟩
 clear E;(try clear I);rintro a w ⟨⟨jr,E⟩,I⟩;refine aZ 1 (λw0 V=>Rd V b5 0 [.int .i64 m.1,.int .i64 m.2.1,.slice am m.2.2.length jl]) [3,5] [0,1,4,3002,3005,1003,1006,7] E I λa w E I hH=>?_;have hC:=hH.at w (I.ai (b:=b5));refine RH 3 E I hH hC λa E=>?_;refine QH E (λw hc=>ag E (hc 1 _ rfl)) hC λa E=>?_;refine QH E (λw hc=>ag E (hc 2 _ rfl)) hC λa E=>?_;refine RH 0 E I hH hC λa E=>?_;refine CL 0 E I (rA ((I.pick (Sl 81 1 A.adL A.xs.length A.cL (A.xs.map cA))).pick (aa B.mb 107 (jC B A))) Bi) λa w E I=>?_;replace hC:=hH.at w (I.ai (b:=b5));rw[yB]at E;replace I:=aH.out (I.pick (ah (cy W p c) A.xs)) hx;refine RH 0 E I hH hC λa E=>?_;refine js E rfl hM.FR hM.FT rfl (hM.recv _ _ c (an v m.2.1) m.2.2 am jl mh hw (by omega) (I.sl am).2 (λV dd=>(dd.pick (Sl 5 1 am m.2.2.length jl (bc m.2.2))).cF am _ rfl rfl) (I.pick (x.J W p c (an v m.2.1)))) (by rfl) ?_;clear E I;rintro e w ⟨rfl,I⟩;refine⟨_,rfl,λa E=>?_⟩;refine RN 1 E I λa E=>?_;refine RT 0 E I ?_;exact⟨by rw[Bk jr.1 jr.2 gD hm],by
  rw[Bk jr.1 jr.2 gD hm];exact aH.put hA hx (Nat.le_succ c) (if t.fn=5 then v.net else v.net.eraseIdx j) I.sub⟩
end
end
section
section
variable {W w:World}{L:List SP}{n c d cL cE mb i j q:Nat}{ad adL adE:Option Addr}{p:Pr}{B:jk}{A:nG}{v u:Wd}{x:fz}{s s':Pl}{t:fU}{net:List Ml}{cf:Cf}{xs:List (fz×Pl)}{es:List kr}
theorem jk.Ok.less (h:B.Ok p d)(hc:c≤d):B.Ok p c:=⟨h.pr,h.sz,h.gs,gN hc h.c⟩
theorem aH.more (I:U W w (aH W B p c v::L))(h:c≤d):U W w (aH W B p d v::L):=by
 replace I:=aH.open I;obtain⟨A,hA,I⟩:=I;exact (aH.fold ((I.pick (ah (cy W p c) A.xs)).rz h) B p d v A hA).sub
theorem aH.uS (I:U W w (aH W B p c v::L)):∃ (adL:Option Addr) (cL:Nat) (adE:Option Addr) (cE:Nat) (xs:List (fz×Pl)) (es:List kr),(xs.map (·.1)=B.fp∧xs.map (·.2)=v.ps∧es.map (·.2.2)=v.ev) ∧
   U W w (aa B.mb 107 [.slice adL xs.length cL,pt B.q,.slice adE es.length cE]::Sl 81 1 adL xs.length cL (xs.map cA)::ah (cy W p c) xs::bJ B.q (v.net.map cK)::Sl 90 1 adE es.length cE (es.map bx)::ah eA es::L):=by
 replace I:=aH.open I;obtain⟨⟨adL,cL,adE,cE,xs,es⟩,hA,I⟩:=I;exact⟨adL,cL,adE,cE,xs,es,⟨hA.fp,hA.ps,hA.ev⟩,I⟩
theorem aH.s5 (I:U W w (aa B.mb 107 [.slice adL xs.length cL,pt B.q,.slice adE es.length cE]::Sl 81 1 adL xs.length cL (xs.map cA)::ah (cy W p c) xs::bJ B.q (v.net.map cK)::Sl 90 1 adE es.length cE (es.map bx)::ah eA es::L))
   (h1:xs.map (·.1)=B.fp) (h2:xs.map (·.2)=v.ps) (h3:es.map (·.2.2)=v.ev):U W w (aH W B p c v::L) :=
 U.shut (M:=[_,_,_,_,_,_]) I λ_ h=>⟨⟨adL,cL,adE,cE,xs,es⟩,⟨h1,h2,h3⟩,h⟩
theorem Gf {ps:List Pl}{fp:List fz}(h1:xs.map (·.1)=fp)(h2:xs.map (·.2)=ps)(hi:i<xs.length):∃ x,xs[i]?=some (x,ps.getD i A9)∧fp[i]?=some x:=by
 refine⟨xs[i].1,?_,by rw[← h1,bm,aI hi];rfl⟩;rw[aI hi,bl,← h2,bm,aI hi];rfl
theorem Bl (I:U W w (ah (cy W p c) xs::L))(hx:xs[i]?=some (x,s)):U W w (x.J W p c s::ah (cy W p c) (xs.eraseIdx i)::L):=by
 obtain⟨hi,h1⟩:=a2.1 hx;have h2:=I.fE hi;rw[h1]at h2;exact h2
theorem abU (I:U W w (x.J W p d s'::ah (cy W p c) (xs.eraseIdx i)::L))(hx:xs[i]?=some (x,s))(h:c≤d):U W w (ah (cy W p d) (xs.set i (x,s'))::L):=by
 obtain⟨hi,h1⟩:=a2.1 hx;exact U.ky (f:=cy W p d) (x:=(x,s')) hi (((I.pick (ah (cy W p c) (xs.eraseIdx i))).rz h).pick (x.J W p d s'))
theorem M7 (hx:xs[i]?=some (x,s)):(xs.set i (x,s')).map cA=xs.map cA∧(xs.set i (x,s')).map (·.1)=xs.map (·.1):=by
 obtain⟨hi,h1⟩:=a2.1 hx;constructor
 ·rw[List.map_set,show cA (x,s')=(xs.map cA)[i]'(by rw[bd];exact hi) from by rw[getElem_map,h1],set_getElem_self]
 ·rw[List.map_set];show (xs.map (·.1)).set i x=_;rw[show x=(xs.map (·.1))[i]'(by rw[bd];exact hi) from by rw[getElem_map,h1],set_getElem_self]
def Bm (B:jk)(t:fU)(v:Wd)(z:Int):Prop:=z=7∨(z=0∧(0≤t.a∧t.a<v.ps.length)∧0≤t.b∧t.b<(an v t.a.toNat).k.workers∧∃ x M,B.fp[t.a.toNat]?=some x∧x.z=.mu M)
theorem Bn (I:U W w (aH W B p c v::L))(hB:B.Ok p c)(hv:bD p cf c v)(hf:t.fn=1∨t.fn=2∨t.fn=8∨t.fn=7) :
   Calls prog 44 #[pt B.mb,.agg (ei t).toArray] w λe V=>∃ z:Int,e=.returned (.int .i64 z)∧(t.fn≠7→z=(gq p t v).1)∧(t.fn=7→Bm B t v z)∧U W V (aH W B p (c+1) (gq p t v).2::L):=by
 by_cases h0:t.a<0∨(v.ps.length:Int)≤t.a
 ·refine (abP I h0).mono λe V ⟨h,I⟩=>⟨7,h,λ_=>?_,λ_=>.inl rfl,?_⟩
  ·rw[gq,ak h0]
  ·rw[gq,ak h0];exact aH.more I (Nat.le_succ c)
 ·refine (abQ (i:=t.a.toNat) I hB hv (by omega) hf (by omega)).mono λe V ⟨z,h,h1,h2,I⟩=>⟨z,h,h1,λh7=>?_,I⟩;rcases h2 h7 with h3 | ⟨h3,h4,h5,h6⟩
  ·exact .inl h3
  ·exact .inr ⟨h3,by omega,h4,h5,h6⟩
theorem Bo (I:U W w (aH W B p c v::L))(hB:B.Ok p c)(hv:bD p cf c v)(hf:t.fn=3∨t.fn=4∨t.fn=5∨t.fn=6) :
   Calls prog 45 #[pt B.mb,.agg (ei t).toArray] w λe V=>e=.returned (.int .i64 (gb p t v).1)∧U W V (aH W B p (c+1) (gb p t v).2::L):=by
 by_cases h0:t.n<0∨(v.net.length:Int)≤t.n
 ·rw[M6 h0];exact (abS I h0).mono λe V ⟨h,I⟩=>⟨h,aH.more I (Nat.le_succ c)⟩
 ·exact abT (j:=t.n.toNat) I hB hv hf (by omega) (aI (by omega))
set_option maxHeartbeats 2000000 in
theorem M8 (I:U W w (aH W B p c v::L))(hB:B.Ok p (c+10))(hv:bD p cf c v)(k9:9*c+100≤1000000000) :
   Calls prog 29 #[pt B.mb,.agg (ei t).toArray] w λe V=>∃ z:Int,e=.returned (.int .i64 z)∧(t.fn≠7→z=(bq p t v).1)∧(t.fn=7→Bm B t v z)∧U W V (aH W B p (c+10) (jB (bq p t v).2)::L):=by
 have hu:=hv.step (s:=t);refine EN func29 ntmps29 rfl rfl λa E=>?_;refine BX 1 E I λb3 a w E I=>?_;change U W w (aa b3 58 (ei t)::_) at I;refine RN 5 E I λa E=>?_;replace E:=E.aN 9;refine RN 3 E I λa E=>?_;refine b7 (M:=λa w=>(∃ z:Int,((t.fn≠7→z=(bq p t v).1)∧(t.fn=7→Bm B t v z))∧Fr a 56 [(0,pt B.mb),(5,.int .i64 z)])∧U W w (aH W B p (c+1) (bq p t v).2::L)) ?_ ?_
 ·
  refine IF 7 E I (λao a E=>?_) λao a E=>?_
  ·
   refine bg 3 E I (Bn (I.pick (aH W B p c v)) (hB.less (by omega)) hv (by omega)) λz a w E ⟨c0,eL,I⟩=>?_;refine RN 1 E I λa E=>?_
   first
    | (have aQ : bq p t v = gq p t v := by rw [bq, ae (by omega), ae (by omega)]
       rw[aQ];exact⟨⟨z,⟨c0,eL⟩,E.ab [0,5]⟩,I.sub⟩)
    | (have aQ : bq p t v = gb p t v := by rw [bq, ae (by omega), ak (by omega)]
       rw[aQ];exact⟨⟨_,⟨λ_=>rfl,λh=>by omega⟩,E.ab [0,5]⟩,I.sub⟩)
    | (have aQ : bq p t v = (1, v) := by rw [bq, ak (by omega)]
       rw[aQ];exact⟨⟨1,⟨λ_=>rfl,λh=>by omega⟩,E.ab [0,5]⟩,(aH.more (I.pick (aH W B p c v)) (Nat.le_succ c)).sub⟩)
  refine IF 3 E I (λay a E=>?_) λay a E=>?_
  ·
   refine bg 3 E I (Bn (I.pick (aH W B p c v)) (hB.less (by omega)) hv (by omega)) λz a w E ⟨c0,eL,I⟩=>?_;refine RN 1 E I λa E=>?_
   first
    | (have aQ : bq p t v = gq p t v := by rw [bq, ae (by omega), ae (by omega)]
       rw[aQ];exact⟨⟨z,⟨c0,eL⟩,E.ab [0,5]⟩,I.sub⟩)
    | (have aQ : bq p t v = gb p t v := by rw [bq, ae (by omega), ak (by omega)]
       rw[aQ];exact⟨⟨_,⟨λ_=>rfl,λh=>by omega⟩,E.ab [0,5]⟩,I.sub⟩)
    | (have aQ : bq p t v = (1, v) := by rw [bq, ak (by omega)]
       rw[aQ];exact⟨⟨1,⟨λ_=>rfl,λh=>by omega⟩,E.ab [0,5]⟩,(aH.more (I.pick (aH W B p c v)) (Nat.le_succ c)).sub⟩)
  refine IF 3 E I (λbh a E=>?_) λbh a E=>?_
  ·
   refine bg 3 E I (Bn (I.pick (aH W B p c v)) (hB.less (by omega)) hv (by omega)) λz a w E ⟨c0,eL,I⟩=>?_;refine RN 1 E I λa E=>?_
   first
    | (have aQ : bq p t v = gq p t v := by rw [bq, ae (by omega), ae (by omega)]
       rw[aQ];exact⟨⟨z,⟨c0,eL⟩,E.ab [0,5]⟩,I.sub⟩)
    | (have aQ : bq p t v = gb p t v := by rw [bq, ae (by omega), ak (by omega)]
       rw[aQ];exact⟨⟨_,⟨λ_=>rfl,λh=>by omega⟩,E.ab [0,5]⟩,I.sub⟩)
    | (have aQ : bq p t v = (1, v) := by rw [bq, ak (by omega)]
       rw[aQ];exact⟨⟨1,⟨λ_=>rfl,λh=>by omega⟩,E.ab [0,5]⟩,(aH.more (I.pick (aH W B p c v)) (Nat.le_succ c)).sub⟩)
  refine IF 2 E I (λbR a E=>?_) λbR a E=>?_
  ·
   refine bg 2 E I (Bn (I.pick (aH W B p c v)) (hB.less (by omega)) hv (by omega)) λz a w E ⟨c0,eL,I⟩=>?_;refine RN 1 E I λa E=>?_
   first
    | (have aQ : bq p t v = gq p t v := by rw [bq, ae (by omega), ae (by omega)]
       rw[aQ];exact⟨⟨z,⟨c0,eL⟩,E.ab [0,5]⟩,I.sub⟩)
    | (have aQ : bq p t v = gb p t v := by rw [bq, ae (by omega), ak (by omega)]
       rw[aQ];exact⟨⟨_,⟨λ_=>rfl,λh=>by omega⟩,E.ab [0,5]⟩,I.sub⟩)
    | (have aQ : bq p t v = (1, v) := by rw [bq, ak (by omega)]
       rw[aQ];exact⟨⟨1,⟨λ_=>rfl,λh=>by omega⟩,E.ab [0,5]⟩,(aH.more (I.pick (aH W B p c v)) (Nat.le_succ c)).sub⟩)
  refine IF 4 E I (λeE a E=>?_) λeE a E=>?_
  ·
   refine CL 3 E I (Bo (I.pick (aH W B p c v)) (hB.less (by omega)) hv (by omega)) λa w E I=>?_;refine RN 1 E I λa E=>?_
   first
    | (have aQ : bq p t v = gq p t v := by rw [bq, ae (by omega), ae (by omega)]
       rw[aQ];exact⟨⟨z,⟨c0,eL⟩,E.ab [0,5]⟩,I.sub⟩)
    | (have aQ : bq p t v = gb p t v := by rw [bq, ae (by omega), ak (by omega)]
       rw[aQ];exact⟨⟨_,⟨λ_=>rfl,λh=>by omega⟩,E.ab [0,5]⟩,I.sub⟩)
    | (have aQ : bq p t v = (1, v) := by rw [bq, ak (by omega)]
       rw[aQ];exact⟨⟨1,⟨λ_=>rfl,λh=>by omega⟩,E.ab [0,5]⟩,(aH.more (I.pick (aH W B p c v)) (Nat.le_succ c)).sub⟩)
  refine IF 3 E I (λmS a E=>?_) λmS a E=>?_
  ·
   refine CL 3 E I (Bo (I.pick (aH W B p c v)) (hB.less (by omega)) hv (by omega)) λa w E I=>?_;refine RN 1 E I λa E=>?_
   first
    | (have aQ : bq p t v = gq p t v := by rw [bq, ae (by omega), ae (by omega)]
       rw[aQ];exact⟨⟨z,⟨c0,eL⟩,E.ab [0,5]⟩,I.sub⟩)
    | (have aQ : bq p t v = gb p t v := by rw [bq, ae (by omega), ak (by omega)]
       rw[aQ];exact⟨⟨_,⟨λ_=>rfl,λh=>by omega⟩,E.ab [0,5]⟩,I.sub⟩)
    | (have aQ : bq p t v = (1, v) := by rw [bq, ak (by omega)]
       rw[aQ];exact⟨⟨1,⟨λ_=>rfl,λh=>by omega⟩,E.ab [0,5]⟩,(aH.more (I.pick (aH W B p c v)) (Nat.le_succ c)).sub⟩)
  refine IF 3 E I (λki a E=>?_) λki a E=>?_
  ·
   refine CL 3 E I (Bo (I.pick (aH W B p c v)) (hB.less (by omega)) hv (by omega)) λa w E I=>?_;refine RN 1 E I λa E=>?_
   first
    | (have aQ : bq p t v = gq p t v := by rw [bq, ae (by omega), ae (by omega)]
       rw[aQ];exact⟨⟨z,⟨c0,eL⟩,E.ab [0,5]⟩,I.sub⟩)
    | (have aQ : bq p t v = gb p t v := by rw [bq, ae (by omega), ak (by omega)]
       rw[aQ];exact⟨⟨_,⟨λ_=>rfl,λh=>by omega⟩,E.ab [0,5]⟩,I.sub⟩)
    | (have aQ : bq p t v = (1, v) := by rw [bq, ak (by omega)]
       rw[aQ];exact⟨⟨1,⟨λ_=>rfl,λh=>by omega⟩,E.ab [0,5]⟩,(aH.more (I.pick (aH W B p c v)) (Nat.le_succ c)).sub⟩)
  refine IF 2 E I (λmc a E=>?_) λmc a E=>?_
  ·
   refine CL 2 E I (Bo (I.pick (aH W B p c v)) (hB.less (by omega)) hv (by omega)) λa w E I=>?_;refine RN 1 E I λa E=>?_
   first
    | (have aQ : bq p t v = gq p t v := by rw [bq, ae (by omega), ae (by omega)]
       rw[aQ];exact⟨⟨z,⟨c0,eL⟩,E.ab [0,5]⟩,I.sub⟩)
    | (have aQ : bq p t v = gb p t v := by rw [bq, ae (by omega), ak (by omega)]
       rw[aQ];exact⟨⟨_,⟨λ_=>rfl,λh=>by omega⟩,E.ab [0,5]⟩,I.sub⟩)
    | (have aQ : bq p t v = (1, v) := by rw [bq, ak (by omega)]
       rw[aQ];exact⟨⟨1,⟨λ_=>rfl,λh=>by omega⟩,E.ab [0,5]⟩,(aH.more (I.pick (aH W B p c v)) (Nat.le_succ c)).sub⟩)
  refine RN 0 E I λa E=>?_
  first
   | (have aQ : bq p t v = gq p t v := by rw [bq, ae (by omega), ae (by omega)]
      rw[aQ];exact⟨⟨z,⟨c0,eL⟩,E.ab [0,5]⟩,I.sub⟩)
   | (have aQ : bq p t v = gb p t v := by rw [bq, ae (by omega), ak (by omega)]
      rw[aQ];exact⟨⟨_,⟨λ_=>rfl,λh=>by omega⟩,E.ab [0,5]⟩,I.sub⟩)
   | (have aQ : bq p t v = (1, v) := by rw [bq, ak (by omega)]
      rw[aQ];exact⟨⟨1,⟨λ_=>rfl,λh=>by omega⟩,E.ab [0,5]⟩,(aH.more (I.pick (aH W B p c v)) (Nat.le_succ c)).sub⟩)
 clear E;(try clear I);rintro a w ⟨⟨z,hz,E⟩,I⟩;refine RN 2 E I λa E=>?_;generalize (bq p t v).2=u at I hu ⊢;replace I:=aH.uS I;obtain⟨adL,cL,adE,cE,yC,yD,⟨eg,c3,dJ⟩,I⟩:=I;have cj:yC.length=u.ps.length:=by rw[← c3,bd]
 have mz:yD.length=u.ps.length:=by rw[← hu.ev,← dJ,bd]
 have pD:=hu.len;have mh:=hB.c;refine RN 6 E I λa E=>?_;refine aR (λμ a w=>∃ (i:Nat) (xs:List (fz×Pl)) (es:List kr),(μ=u.ps.length-i∧(i≤u.ps.length∧xs.length=u.ps.length∧es.length=u.ps.length)∧xs.map (·.1)=B.fp∧xs.map (·.2)=(b6 u i).ps∧es.map (·.2.2)=(b6 u i).ev)∧Fr a 56 [(0,pt B.mb),(5,.int .i64 z),(31,.slice adL u.ps.length cL),(32,.int .i64 u.ps.length),(33,.int .i64 i)]∧U W w (aa B.mb 107 [.slice adL u.ps.length cL,pt B.q,.slice adE u.ps.length cE]::Sl 81 1 adL u.ps.length cL (xs.map cA)::ah (cy W p (c+1+i)) xs::bJ B.q (u.net.map cK)::Sl 90 1 adE u.ps.length cE (es.map bx)::ah eA es::L)) (u.ps.length) (⟨0,yC,yD,⟨rfl,⟨by omega,cj,mz⟩,eg,c3,dJ⟩,(by rw[cj]at E;exact E.ab [0,5,31,32,33]),(by rw[cj,mz]at I;exact I.sub)⟩) ?_;clear E I;rintro μ a w ⟨i,xs,es,⟨rfl,⟨hi,yE,yF⟩,ud,sI,qg⟩,E,I⟩;refine IF 3 E I (λk9 a E=>?_) λk9 a E=>?_
 ·
  have aJ:i<u.ps.length:=by omega
  obtain⟨x,hx,oJ⟩:∃ x,xs[i]?=some (x,an (b6 u i) i)∧B.fp[i]?=some x:=Gf ud sI (by omega);obtain⟨_,gS⟩:=a2.1 hx;have hM:=x.qi (W:=W) (p:=p) hB.pr hB.sz (hB.gs x (bK oJ));have hd:=hu.b6 (i:=i) (by omega);obtain⟨hw,c5,wE⟩:=hd.pl i (by rw[(pG u i).1];exact aJ);have Gg:=hd.kQ;obtain⟨im,iq,l,hK⟩:∃ im iq l,es[i]?=some (im,iq,l):=⟨_,_,_,aI (by omega)⟩;obtain⟨_,oK⟩:=a2.1 hK;have ib:l.length≤9*(c+2):=(Gg l (by rw[← qg];exact c1.2 ⟨(im,iq,l),by rw[← oK];exact getElem_mem _,rfl⟩)).1;have yB:(xs.map cA)[i]?=some (.iface x.z.t (.pointer (some x.z.ad))):=by rw[bm,hx];rfl
  refine RN 2 E I λa E=>?_;obtain⟨mE,ol,rfl,iM⟩:=(I.pick (Sl 81 1 adL u.ps.length cL (xs.map cA))).bY adL (by omega);have e9:=iM i _ yB;refine RN 2 E I λa E=>?_;refine SS E (ag E (e9)) λa E=>?_;refine RN 2 E I λa E=>?_;obtain⟨eQ,oE,rfl,_⟩:=(I.pick (Sl 90 1 adE u.ps.length cE (es.map bx))).bY adE (by omega);refine aZ 0 (λw0 V=>Rd V B.mb 0 [.slice (some ⟨mE,ol,none⟩) u.ps.length cL,pt B.q,.slice (some ⟨eQ,oE,none⟩) u.ps.length cE]∧Rd V eQ oE (es.map bx)) [8,10,11,13,14] [0,1,2,4,5,6,7,9,12,3003,3008,3010,3011,1013,1014,15,1016] E I λa w E I hH=>?_;have hC:=hH.at w ⟨I.ai (b:=B.mb),I.cC eQ oE (by omega)⟩;refine RH 9 E I hH hC λa E=>?_;refine QH E (λw hc=>ag E (hc.1 2 _ rfl)) hC λa E=>?_;refine QH E (λw hc=>ag E (hc.1 2 _ rfl)) hC λa E=>?_;refine RH 1 E I hH hC λa E=>?_;refine QH E (λw hc=>ag E (hc.2 i (.slice im l.length iq) (by rw[bm,hK];rfl))) hC λa E=>?_;replace I:=Bl (I.pick (ah (cy W p (c+1+i)) xs)) hx;refine RH 0 E I hH hC λa E=>?_;refine js E rfl hM.FX hM.cE rfl (hM.events _ _ (c+1+i) (an (b6 u i) i) (by omega) hw (I.pick (x.J W p (c+1+i) (an (b6 u i) i)))) (by rfl) ?_;clear E I;rintro e w ⟨am,jl,rfl,I⟩;refine⟨_,rfl,λa E=>?_⟩;replace hC:=hH.at w ⟨I.ai (b:=B.mb),I.cC eQ oE (by omega)⟩;replace I:=(I.pick (ah eA es)).fE (i:=i) (by omega);rw[oK]at I;change U W w (Sl 135 1 im l.length iq (l.map cx)::_) at I;have M9:=hw.wc.kQ;refine RH 0 E I hH hC λa E=>?_;refine gV E rfl I underlying90 Ty.t135 rfl rfl (by decide) (λh0=>(I.pick (Sl 135 1 am (an (b6 u i) i).k.ev.length jl ((an (b6 u i) i).k.ev.map cx))).bY am h0) (by rw[bd,Nat.mul_one]) (MZ _) (by omega) λq5 q6 a w E I=>?_;replace hC:=hH.at w ⟨I.ai (b:=B.mb),I.cC eQ oE (by omega)⟩;have hcE:=((I.pick (Sl 90 1 (some ⟨eQ,oE,none⟩) u.ps.length cE (es.map bx))).sl (some ⟨eQ,oE,none⟩)).2;obtain⟨lq,pre,post,⟨h3,h4,h5,h6⟩,gx⟩:=(I.pick (Sl 90 1 (some ⟨eQ,oE,none⟩) u.ps.length cE (es.map bx))).lv (by omega);replace I:=gx;clear gx;obtain⟨rfl,rfl⟩:eQ=lq∧oE=pre.length:=by simpa using h5
  refine RH 1 E I hH hC λa E=>?_;refine ST 0 E I (λa w E I=>?_) (hlt:=(by simp only[aL,bd];omega));refine RN 2 E I λa E=>?_;have qh:(b6 u i).ev.getD i []=l:=by rw[← qg,bl,bm,hK];rfl
  have Gh:(es.map bx).set i (.slice q5 (l.length+(an (b6 u i) i).k.ev.length) q6)=(es.set i (q5,q6,l++(an (b6 u i) i).k.ev)).map bx:=by
   rw[List.map_set,bx,aL]
  have dx:=I;rw[yx (by rw[bd];omega),Gh]at dx;replace dx:=U.iG (n:=u.ps.length) (c:=cE) (sz:=1) (dx.jD eQ) (by rw[bd,br];omega) h4 h6;have hj:=dx.pick (ah (cy W p (c+1+i)) (xs.eraseIdx i));have hk:=abU (s':=⟨{ (an (b6 u i) i).k with ev:=[] },(an (b6 u i) i).g⟩) (hj.pick (x.J W p (c+1+i+1) ⟨{ (an (b6 u i) i).k with ev:=[] },(an (b6 u i) i).g⟩)) hx (Nat.le_succ _);have py:Sl 135 1 q5 (l.length+(an (b6 u i) i).k.ev.length) q6 (l.map cx++(an (b6 u i) i).k.ev.map cx)=eA (q5,q6,l++(an (b6 u i) i).k.ev):=by
   rw[eA,aL,cQ]
  have hq:=(hk.pick (ah eA (es.eraseIdx i))).pick (Sl 135 1 q5 (l.length+(an (b6 u i) i).k.ev.length) q6 (l.map cx++(an (b6 u i) i).k.ev.map cx));rw[py]at hq;have eL:=U.ky (f:=eA) (i:=i) (by omega) hq;refine⟨u.ps.length-(i+1),by omega,i+1,xs.set i (x,⟨{ (an (b6 u i) i).k with ev:=[] },(an (b6 u i) i).g⟩),es.set i (q5,q6,l++(an (b6 u i) i).k.ev),⟨rfl,⟨by omega,by rw[br];exact yE,by rw[br];exact yF⟩,(M7 hx).2.trans ud,?_,?_⟩,E.ab [0,5,31,32,33],?_⟩
  ·rw[List.map_set,sI];rfl
  ·rw[List.map_set,qg,← qh];rfl
  ·rw[(M7 hx).1];exact eL.sub
 refine RT 3 E I ?_;obtain rfl:i=u.ps.length:=by omega
 refine⟨z,rfl,hz.1,hz.2,?_⟩;have dx:=(I.pick (ah (cy W p (c+1+u.ps.length)) xs)).rz (d:=c+10) (by omega);refine aH.s5 (adL:=adL) (cL:=cL) (adE:=adE) (cE:=cE) (xs:=xs) (es:=es) ?_ ud sI qg;rw[yE,yF,show (jB u).net=u.net from (pG u _).2.1];exact dx.sub
end
end
section
def lN (p:Pr)(G:List (List UInt8))(f s:Nat):Prop:=f≤aU G∧(0<f→s=lj p G (f-1))
theorem lN.ext {p:Pr}{G G':List (List UInt8)}{f s:Nat}(h:lN p G f s)(he:Ext G G')(h0:G≠[]):lN p G' f s :=
 ⟨gN h.1 (he.front h0),λhf=>by rw[he.lj (by have:=h.1;omega)];exact h.2 hf⟩
theorem Na {p:Pr}{k:Ks}(hm:k.mr=(List.range k.mr.length).map (lj p k.ls)){f:Nat}(hf:f<k.mr.length):k.mr.getD f 0=lj p k.ls f:=by
 rw[hm,bl,bm,getElem?_range hf];rfl
theorem Nb {p:Pr}{G:List (List UInt8)}{k:Ks}(hm:k.mr=(List.range k.mr.length).map (lj p k.ls))(hl:k.mr.length≤aU k.ls)(he:Ext k.ls G)
   (hw:∀ i,i<k.ps.length→lN p G (ar k i).frame (ar k i).sum):held k:=λi hi ⟨_,h1,h2,h3⟩=>h3 (by
 rw[Na hm (by omega),← he.lj (p:=p) (f:=(ar k i).frame-1) (by omega)];exact ((hw i hi).2 (by omega)).symm)
theorem Nc {p:Pr}{G:List (List UInt8)}:∀ (n:Nat) {s:Pl},WP p s→Ext s.k.ls G→(∀ i,i<s.k.ps.length→lN p G (ar s.k i).frame (ar s.k i).sum)→n≤ax s.k-s.k.mr.length →
   ∃ mr,(ik p n s).k={ s.k with mr:=mr }
 | 0,s,_,_,_,_=>⟨s.k.mr,rfl⟩
 | n+1,s,h,he,hw,hn=>by
  have h9:=h.wc.nA;have h8:=h.wc.lM;obtain⟨h1,h2,h3⟩:=h.one (by omega);have hg:eW p s.k.mr.length (cr s.k.ls s.k.mr.length) s.g=lh p s.k.ls (s.k.mr.length+1):=by rw[Ku,h.rh]
  have hk:(nB p s).k={ s.k with mr:=s.k.mr++[lj p s.k.ls s.k.mr.length] }:=by
   show lg s.k _=_;rw[lg,ak (by omega),hg];refine held.kP (Nb (p:=p) (G:=G) ?_ ?_ he hw)
   ·show s.k.mr++[_]=(List.range (s.k.mr++[_]).length).map (lj p s.k.ls);rw[aL,iP,range_succ,cQ,← h.marks];rfl
   ·show (s.k.mr++[_]).length≤aU s.k.ls;rw[aL,iP];simp only[ax]at hn;omega
  obtain⟨mr,h4⟩:=Nc n h1 (by rw[h2];exact he) (λi hi=>by rw[hk]at hi ⊢;exact hw i hi) (by rw[ax,h2,h3];simp only[ax]at hn;omega);exact⟨mr,by rw[ik,h4,hk]⟩
theorem Gi {p:Pr}{G:List (List UInt8)}{s:Pl}(h:WP p s)(he:Ext s.k.ls G)(hw:∀ i,i<s.k.ps.length→lN p G (ar s.k i).frame (ar s.k i).sum):∃ mr,(ey p s).k={ s.k with mr:=mr } :=
 Nc _ h he hw (bf _)
structure fA (p:Pr)(G:List (List UInt8))(s:Pl):Prop where
 wf:cw p s
 ext:Ext s.k.ls G
 own:s.k.ls.getD s.k.me []=G.getD s.k.me []
 pe:∀ i,i<s.k.ps.length→(ar s.k i).apart=false∧lN p G (ar s.k i).frame (ar s.k i).sum
structure s6 (p:Pr)(G:List (List UInt8))(q:Pk):Prop where
 may:hs q
 sum:q.sum<4294967296
 uT:q.kind=1→q.first.toNat+q.al.length≤(G.getD q.aV.toNat []).length∧q.al=((G.getD q.aV.toNat []).drop q.first.toNat).take q.al.length
 word:q.kind=1→lN p G q.frame.toNat q.sum
theorem s6.ext {p:Pr}{G G':List (List UInt8)}{q:Pk}(h:s6 p G q)(he:Ext G G')(h0:G≠[])(hq:q.aV.toNat<G.length):s6 p G' q:=by
 refine⟨h.may,h.sum,λhk=>?_,λhk=>(h.word hk).ext he h0⟩;obtain⟨h1,h2⟩:=h.uT hk;obtain⟨t,ht⟩:=he.2 _ hq;rw[ht,aL];refine⟨by omega,?_⟩;rw[List.drop_append_of_le_length (by omega),List.take_append_of_le_length (by rw[c6];omega)];exact h2
section
variable {p:Pr}{G G':List (List UInt8)}{s:Pl}{b:UInt8}{q:Pk}
theorem fA.words (h:fA p G s):∀ i,i<s.k.ps.length→lN p G (ar s.k i).frame (ar s.k i).sum:=λi hi=>(h.pe i hi).2
theorem fA.lens (h:fA p G s):G.length=s.k.n:=by rw[h.ext.1];exact h.wf.wc.ls
theorem fA.Gj (h:fA p G s):G≠[]:=λe=>by
 have h1:=h.lens;have h2:=h.wf.wc.n;rw[e,length_nil]at h1;omega
theorem fA.more (h:fA p G s)(he:Ext G G')(ho:G'.getD s.k.me []=G.getD s.k.me []):fA p G' s :=
 ⟨h.wf,h.ext.trans he,h.own.trans ho.symm,λi hi=>⟨(h.pe i hi).1,(h.pe i hi).2.ext he h.Gj⟩⟩
theorem fA.al (h:fA p G s)(h0:(dE p b s).1=0) :
   fA p (G.set s.k.me (G.getD s.k.me []++[b])) (dE p b s).2∧∃ mr,(dE p b s).2.k={ s.k with ls:=s.k.ls.set s.k.me (s.k.ls.getD s.k.me []++[b]),mr:=mr }:=by
 obtain⟨h1,h2,h3,h4⟩:=uj (k:=s.k) (b:=b) h0;have he:=uo b s.k;have k7:=h.wf.toWP.more (h.wf.wc.al b) (h.wf.held.al b) he.1 he.2;have dQ:s.k.me<s.k.ls.length:=by rw[h.wf.wc.ls];exact h.wf.wc.me
 have Nd:s.k.me<G.length:=by rw[h.ext.1];exact dQ
 have lr:Ext G (G.set s.k.me (G.getD s.k.me []++[b])):=Ext.set;have hx:Ext (cW b s.k).2.ls (G.set s.k.me (G.getD s.k.me []++[b])):=by
  rw[h4];refine⟨by simp only[br];exact h.ext.1,λi hi=>?_⟩;simp only[br]at hi;by_cases e:i=s.k.me
  ·subst e;refine⟨[],?_⟩;simp only;rw[bl,getElem?_set_self Nd,bl (l:=s.k.ls.set _ _),getElem?_set_self dQ,h.own];simp
  ·obtain⟨t,ht⟩:=h.ext.2 i hi;refine⟨t,?_⟩;simp only;rw[bl,getElem?_set_ne (λe2=>e e2.symm),bl (l:=s.k.ls.set _ _),getElem?_set_ne (λe2=>e e2.symm),← bl,← bl];exact ht
 have gz:(cW b s.k).2.ps=s.k.ps:=by rw[h4]
 have y6:∀ i,i<s.k.ps.length→lN p (G.set s.k.me (G.getD s.k.me []++[b])) (ar (cW b s.k).2 i).frame (ar (cW b s.k).2 i).sum:=λi hi=>by
  have:=(h.words i hi).ext lr h.Gj;rw[ar,gz];exact this
 obtain⟨mr,hk⟩:=Gi (s:=⟨(cW b s.k).2,s.g⟩) k7 hx (λi hi=>y6 i (by rw[← gz];exact hi));have ch:(dE p b s).2.k={ (cW b s.k).2 with mr:=mr }:=hk;refine⟨⟨h.wf.al b,by rw[ch];exact hx,?_,λi hi=>?_⟩,mr,by rw[ch,h4]⟩
 ·rw[ch];show (cW b s.k).2.ls.getD (cW b s.k).2.me []=(G.set s.k.me (G.getD s.k.me []++[b])).getD (cW b s.k).2.me [];rw[h4];simp only;rw[bl,getElem?_set_self dQ,bl (l:=G.set _ _),getElem?_set_self Nd,h.own]
 ·rw[ch]at hi ⊢;have dF:i<s.k.ps.length:=by rw[← gz];exact hi
  refine⟨?_,y6 i dF⟩;show (ar (cW b s.k).2 i).apart=false;rw[ar,gz];exact (h.pe i dF).1
theorem Nf (h:cw p s)(h0:(dE p b s).1≠0):(dE p b s).2=s:=by
 show ey p ⟨(cW b s.k).2,s.g⟩=s;rw[uk h0];exact h.ey
theorem Ng {bs:List UInt8}(h:cw p s)(h0:(dz p bs s).1≠0):(dz p bs s).2=s:=by
 show ey p ⟨(dh bs s.k).2,s.g⟩=s;rw[vX h0];exact h.ey
theorem abV {l t P:List UInt8}{f:Nat}(I:f+P.length≤(l++t).length)(hP:P=((l++t).drop f).take P.length):∃ u,l++t=ds l f P++u:=by
 unfold ds;split
 ·exact⟨t,rfl⟩
 ·rename_i hf;have h1:P.drop (l.length-f)=t.take (P.length-(l.length-f)):=by
   conv=>lhs;rw[hP]
   rw[List.drop_take,drop_drop,show f+(l.length-f)=l.length from by omega,drop_left]
  rw[h1,List.take_take];exact⟨t.drop (min (1000-l.length) (P.length-(l.length-f))),by rw[dv,jE]⟩
theorem Nh (h:cw p s)(hq:hs q)(I:q.sum<4294967296)(hc:s.k.cl=false)(ht:q.to=s.k.me)(hf:q.aV<s.k.n)(bO:q.id=s.k.id):dh (aS q) s.k=(0,fR s.k q):=by
 rw[dh,ae (by rw[hc];decide),JD hq I];show (if _ then _ else _)=_;rw[ae];rintro (h | h | h)
 ·exact h ht
 ·omega
 ·exact h bO
theorem fA.x6 (h:fA p G s)(hq:s6 p G q)(hc:s.k.cl=false)(ht:q.to=s.k.me)(hf:q.aV<s.k.n)(bO:q.id=s.k.id)(h1:q.kind=1) :
   fA p G (dz p (aS q) s).2∧(dz p (aS q) s).1=0∧∃ mr,(dz p (aS q) s).2.k={ s.k with ls:=s.k.ls.set q.aV.toNat (ds (s.k.ls.getD q.aV.toNat []) q.first.toNat q.al),ps:=s.k.ps.set q.aV.toNat (fQ s.k.now (aF s.k) q (ar s.k q.aV.toNat)),mr:=mr }:=by
 have hr:=Nh h.wf hq.may hq.sum hc ht hf bO;have fo:q.aV.toNat<s.k.n:=by have:=hq.may.1;omega
 have bN:q.aV.toNat≠s.k.me:=λe=>hq.may.2.2.1 (by have:=hq.may.1;have:=hq.may.2.1;omega);have aJ:q.aV.toNat<s.k.ls.length:=by rw[h.wf.wc.ls];exact fo
 have rB:q.aV.toNat<s.k.ps.length:=by rw[h.wf.wc.ps];exact fo
 obtain⟨t,Ni⟩:=h.ext.2 _ aJ;obtain⟨nL,dx⟩:=hq.uT h1;rw[Ni]at nL dx;obtain⟨u,hu⟩:=abV nL dx;have hx:Ext (s.k.ls.set q.aV.toNat (ds (s.k.ls.getD q.aV.toNat []) q.first.toNat q.al)) G:=by
  refine⟨by rw[br];exact h.ext.1,λi hi=>?_⟩;rw[br]at hi;by_cases e:i=q.aV.toNat
  ·subst e;refine⟨u,?_⟩;rw[bl (l:=s.k.ls.set _ _),getElem?_set_self aJ,Ni];exact hu
  ·obtain⟨t2,Fo⟩:=h.ext.2 i hi;refine⟨t2,?_⟩;rw[bl (l:=s.k.ls.set _ _),getElem?_set_ne (λe2=>e e2.symm),← bl];exact Fo
 have Nj:∀ i,i<s.k.ps.length→(if i=q.aV.toNat then fQ s.k.now (aF s.k) q (ar s.k q.aV.toNat) else ar s.k i).apart=false∧lN p G (if i=q.aV.toNat then fQ s.k.now (aF s.k) q (ar s.k q.aV.toNat) else ar s.k i).frame (if i=q.aV.toNat then fQ s.k.now (aF s.k) q (ar s.k q.aV.toNat) else ar s.k i).sum:=λi hi=>by
  by_cases e:i=q.aV.toNat
  ·rw[ak e];have h9:=h.pe _ rB;unfold fQ;simp only;split
   ·exact⟨h9.1,hq.word h1⟩
   ·exact⟨h9.1,h9.2⟩
  ·rw[ae e];exact h.pe i hi
 have tD:∀ i,i<s.k.ps.length→lN p G (ar ({ s.k with ls:=s.k.ls.set q.aV.toNat (ds (s.k.ls.getD q.aV.toNat []) q.first.toNat q.al),ps:=s.k.ps.set q.aV.toNat (fQ s.k.now (aF s.k) q (ar s.k q.aV.toNat)) }:Ks) i).frame (ar ({ s.k with ls:=s.k.ls.set q.aV.toNat (ds (s.k.ls.getD q.aV.toNat []) q.first.toNat q.al),ps:=s.k.ps.set q.aV.toNat (fQ s.k.now (aF s.k) q (ar s.k q.aV.toNat)) }:Ks) i).sum:=λi hi=>by
  rw[ar,vW rB];exact (Nj i hi).2
 have hh:fR s.k q={ s.k with ls:=s.k.ls.set q.aV.toNat (ds (s.k.ls.getD q.aV.toNat []) q.first.toNat q.al),ps:=s.k.ps.set q.aV.toNat (fQ s.k.now (aF s.k) q (ar s.k q.aV.toNat)) }:=by
  rw[fR,ae (by omega)];refine held.kP (Nb (p:=p) (G:=G) ?_ ?_ hx (λi hi=>tD i (by simpa using hi)))
  ·have eT:=(ri (aS q) s.k).2;rw[hr]at eT;have h5:=EA (k:=s.k) (p:=q);rw[fR,ae (by omega)]at h5;obtain⟨ps,ev,h6,_⟩:=vV { s.k with ls:=s.k.ls.set q.aV.toNat (ds (s.k.ls.getD q.aV.toNat []) q.first.toNat q.al),ps:=s.k.ps.set q.aV.toNat (fQ s.k.now (aF s.k) q (ar s.k q.aV.toNat)) };rw[h6]at h5;have h7:Ext s.k.ls (s.k.ls.set q.aV.toNat (ds (s.k.ls.getD q.aV.toNat []) q.first.toNat q.al)):=h5.2;show s.k.mr=_
   conv=>lhs;rw[h.wf.marks]
   refine List.map_congr_left λi hi=>?_;rw[mem_range]at hi;have hl:=h.wf.low;simp only[ax]at hl;rw[h7.lj (by omega)]
  ·have h5:=(EA (k:=s.k) (p:=q)).2;rw[fR,ae (by omega)]at h5;obtain⟨ps,ev,h6,_⟩:=vV { s.k with ls:=s.k.ls.set q.aV.toNat (ds (s.k.ls.getD q.aV.toNat []) q.first.toNat q.al),ps:=s.k.ps.set q.aV.toNat (fQ s.k.now (aF s.k) q (ar s.k q.aV.toNat)) };rw[h6]at h5;have h7:Ext s.k.ls (s.k.ls.set q.aV.toNat (ds (s.k.ls.getD q.aV.toNat []) q.first.toNat q.al)):=h5;exact gN h.wf.low (h7.front h.wf.wc.kR)
 have he:=ri (aS q) s.k;have k7:=h.wf.toWP.more (h.wf.wc.recv (aS q)).1 ((h.wf.wc.recv (aS q)).2 h.wf.held) he.1 he.2;have fP:(dh (aS q) s.k).2=fR s.k q:=by rw[hr]
 obtain⟨mr,hk⟩:=Gi (G:=G) (s:=⟨(dh (aS q) s.k).2,s.g⟩) k7 (by show Ext (dh (aS q) s.k).2.ls G;rw[fP,hh];exact hx) (λi hi=>by
  change i<(dh (aS q) s.k).2.ps.length at hi;show lN p G (ar (dh (aS q) s.k).2 i).frame (ar (dh (aS q) s.k).2 i).sum;rw[fP,hh]at hi ⊢;exact tD i (by simpa using hi))
 have ch:(dz p (aS q) s).2.k={ fR s.k q with mr:=mr }:=by
  have:(dz p (aS q) s).2.k={ (dh (aS q) s.k).2 with mr:=mr }:=hk;rw[this,fP]
 rw[hh]at ch;refine⟨⟨h.wf.recv _,by rw[ch];exact hx,?_,λi hi=>?_⟩,by show (dh (aS q) s.k).1=0;rw[hr],mr,ch⟩
 ·rw[ch];show (s.k.ls.set q.aV.toNat _).getD s.k.me []=_;rw[bl (l:=s.k.ls.set _ _),getElem?_set_ne bN,← bl];exact h.own
 ·rw[ch]at hi ⊢;have dF:i<s.k.ps.length:=by simpa using hi
  have:=Nj i dF;rw[ar,vW rB];exact this
theorem fA.Nk (h:fA p G s)(hq:s6 p G q)(hc:s.k.cl=false)(ht:q.to=s.k.me)(hf:q.aV<s.k.n)(bO:q.id=s.k.id)(h1:q.kind=2) :
   fA p G (dz p (aS q) s).2∧(dz p (aS q) s).1=0∧(dz p (aS q) s).2.k={ s.k with ps:=s.k.ps.set q.aV.toNat { ar s.k q.aV.toNat with heard:=s.k.now },ev:=s.k.ev++[(1,q.aV.toNat,0)],cl:=true }:=by
 have hr:=Nh h.wf hq.may hq.sum hc ht hf bO;have fo:q.aV.toNat<s.k.n:=by have:=hq.may.1;omega
 have rB:q.aV.toNat<s.k.ps.length:=by rw[h.wf.wc.ps];exact fo
 have hh:fR s.k q={ s.k with ps:=s.k.ps.set q.aV.toNat { ar s.k q.aV.toNat with heard:=s.k.now },ev:=s.k.ev++[(1,q.aV.toNat,0)],cl:=true }:=by
  rw[fR,ak h1]
 have zb:=h.wf.with (k':=fR s.k q) (by have:=(h.wf.wc.recv (aS q)).1;rw[hr]at this;exact this) (by have:=(h.wf.wc.recv (aS q)).2 h.wf.held;rw[hr]at this;exact this) (by rw[hh]) (by rw[hh]);have hk:(dz p (aS q) s).2=⟨fR s.k q,s.g⟩:=by
  show ey p ⟨(dh (aS q) s.k).2,s.g⟩=_;rw[hr];exact zb.ey
 refine⟨⟨by rw[hk];exact zb,by rw[hk,hh];exact h.ext,by rw[hk,hh];exact h.own,λi hi=>?_⟩,by show (dh (aS q) s.k).1=0;rw[hr],by rw[hk,hh]⟩;rw[hk,hh]at hi ⊢;have dF:i<s.k.ps.length:=by simpa using hi
 rw[ar,vW rB];by_cases e:i=q.aV.toNat
 ·rw[ak e];exact h.pe _ rB
 ·rw[ae e];exact h.pe i dF
theorem fA.yw (h:fA p G s){i:Nat}(hi:i<s.k.n)(bN:i≠s.k.me)(hh:(ar s.k i).has≤aF s.k):s6 p G (dP s.k i):=by
 have rC:=h.wf.wc;have hn:=rC.n;have dQ:=rC.me;have bO:=rC.id;have ij:=rC.pq hi;have gJ:=rC.lM;have u5:=rC.lL hi;have KL:=rC.mr;have e1:(dP s.k i).aV.toNat=s.k.me:=Int.toNat_natCast _;have e2:(dP s.k i).first.toNat=(ar s.k i).has:=Int.toNat_natCast _;have e3:(dP s.k i).frame.toNat=s.k.mr.length:=Int.toNat_natCast _;have ze:=h.own;have lJ:s.k.mr.getLastD 0<4294967296:=by
  rw[getLastD_eq_getLast?];cases hl:s.k.mr.getLast? with
  | none=>simp
  | some x=>simpa using rC.rf x (List.mem_of_getLast? hl)
 refine⟨?_,lJ,λ_=>?_,λ_=>?_⟩
 ·refine⟨⟨?_,?_⟩,⟨?_,?_⟩,?_,?_,.inl ⟨rfl,⟨?_,?_⟩,⟨?_,?_⟩,⟨?_,?_⟩,?_⟩⟩
  all_goals first | (simp only[dP];omega) | skip
  ·show (((s.k.ls.getD s.k.me []).drop (ar s.k i).has).take 32).length≤32;rw[et];omega
 ·rw[e1,e2,← ze];show _+(((s.k.ls.getD s.k.me []).drop (ar s.k i).has).take 32).length≤_∧((s.k.ls.getD s.k.me []).drop (ar s.k i).has).take 32=((s.k.ls.getD s.k.me []).drop _).take (((s.k.ls.getD s.k.me []).drop (ar s.k i).has).take 32).length;rw[et,c6];simp only[aF]at hh;refine⟨by omega,?_⟩;rw[List.take_eq_take_iff,c6];omega
 ·rw[e3];have gw:s.k.mr.length=aU s.k.ls:=h.wf.full;refine⟨by rw[gw];exact h.ext.front rC.kR,λh0=>?_⟩;have tC:s.k.mr.getLastD 0=s.k.mr.getD (s.k.mr.length-1) 0:=by
   rw[getLastD_eq_getLast?,List.getLast?_eq_getElem?,bl]
  show s.k.mr.getLastD 0=_;rw[tC,Na h.wf.marks (by omega),h.ext.lj (by omega)]
theorem fA.abW (h:fA p G s){i:Nat}(hi:i<s.k.n)(bN:i≠s.k.me):s6 p G (gl s.k i):=by
 have hn:=h.wf.wc.n;have dQ:=h.wf.wc.me;have bO:=h.wf.wc.id;refine⟨?_,by show 0<4294967296;decide,λe=>absurd (show (2:Int)=1 from e) (by decide),λe=>absurd (show (2:Int)=1 from e) (by decide)⟩;refine⟨⟨?_,?_⟩,⟨?_,?_⟩,?_,?_,.inr ?_⟩
 all_goals first | (simp only[gl];omega) | skip
 all_goals first | exact bO | (simp[gl])
theorem fA.told (h:fA p G s):fA p G ⟨{ s.k with ev:=[] },s.g⟩:=⟨h.wf.told,h.ext,h.own,h.pe⟩
theorem fA.tick (h:fA p G s):fA p G ⟨(bo s.k).2,s.g⟩:=by
 have h1:=As s.k;have h2:(bo s.k).2.me=s.k.me∧(bo s.k).2.ps=s.k.ps:=by
  rcases vY s.k with e | ⟨_,e | ⟨i,_,e⟩⟩ <;> rw[e] <;> exact⟨rfl,rfl⟩
 refine⟨h.wf.tick,by show Ext (bo s.k).2.ls G;rw[h1.2];exact h.ext,?_,λi hi=>?_⟩
 ·show (bo s.k).2.ls.getD (bo s.k).2.me []=G.getD (bo s.k).2.me [];rw[h1.2,h2.1];exact h.own
 ·change i<(bo s.k).2.ps.length at hi;rw[h2.2]at hi;show (ar (bo s.k).2 i).apart=false∧lN p G (ar (bo s.k).2 i).frame (ar (bo s.k).2 i).sum;rw[ar,h2.2];exact h.pe i hi
theorem fA.ko (h:fA p G s):fA p G ⟨(bu s.k).2,s.g⟩:=by
 have h1:=Au s.k;have h2:(bu s.k).2.me=s.k.me∧(bu s.k).2.ps=s.k.ps:=by
  unfold bu;split <;> exact⟨rfl,rfl⟩
 refine⟨h.wf.ko,by show Ext (bu s.k).2.ls G;rw[h1.2];exact h.ext,?_,λi hi=>?_⟩
 ·show (bu s.k).2.ls.getD (bu s.k).2.me []=G.getD (bu s.k).2.me [];rw[h1.2,h2.1];exact h.own
 ·change i<(bu s.k).2.ps.length at hi;rw[h2.2]at hi;show (ar (bu s.k).2 i).apart=false∧lN p G (ar (bu s.k).2 i).frame (ar (bu s.k).2 i).sum;rw[ar,h2.2];exact h.pe i hi
end
end
end Go.Proofs.YteoldcfapaiobaaGreat
