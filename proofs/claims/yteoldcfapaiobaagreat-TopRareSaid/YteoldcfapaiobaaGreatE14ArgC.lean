/- A configuration and a way to guess that came in as arguments; quintainlaw5.Cut, quintainref21.MayAll. -/
import Derived.Test.YteoldcfapaiobaaGreatE06Ref
import Derived.Test.YteoldcfapaiobaaGreatE05Vm
import Derived.ChangeSame
import Derived.Test.YteoldcfapaiobaaGreatE12RefC
import Derived.Test.YteoldcfapaiobaaGreatE10Rank
import Derived.Test.YteoldcfapaiobaaGreatE13RefG
import Derived.Test.YteoldcfapaiobaaGreatE11Mul
import Derived.Test.YteoldcfapaiobaaGreatE08Pkt4
namespace Go.Proofs.YteoldcfapaiobaaGreat
open Tryz
open List (mem_cons_self length_range drop_drop drop_left take_zero nil_append length_nil mem_range getElem?_range ext_getElem getElem_map eraseIdx_eq_take_drop_succ take_length getElem_mem map_take map_drop range_succ getElem?_set_ne getElem?_set_self set_getElem_self length_filter_le getLastD_eq_getLast?)
open Go.RowKit
set_option linter.unusedVariables false
set_option linter.unusedSimpArgs false
set_option maxRecDepth 10000
set_option synthInstance.maxSize 4000
set_option synthInstance.maxHeartbeats 400000
section
open Go.RowKit Go.ChangeShapes Go.WideShapes Go.ChangeAt
set_option linter.constructorNameAsVariable false
set_option maxRecDepth 100000
section
variable {W w:World}{L:List SP}{n cP cT:Nat}{adP adT:Option Addr}{p:Pr}{tb:List UInt8}{cf:Cf}
def nn (cf:Cf)(p:Pr)(tb:List UInt8):Prop:=eR cf∧dh p∧cX ⟨cf.bf,cf.order,tb⟩
theorem abF (I:U W w (aA W p adP cP::L))(hn:tb.length=n)(aG:p.title.size≤1000000000)(dV:p.ops.length≤1000000000)(eK:tb.length≤1099511627776)(hT:∀ w',U W w' (aA W p adP cP::L)→aX w' adT tb.length tb) :
   Calls prog 60 #[.agg (bT cf).toArray,.agg (bP p adP cP).toArray,.slice adT n cT] w λr w'=>(nn cf p tb∧∃ B:iU,r=.returned (.tuple #[pt B.pb,.int .i64 0])∧B.gs=⟨cf.bf,cf.order,tb⟩∧U W w' (aQ W B p (ey p cf)::aA W p adP cP::L)) ∨
    (¬ nn cf p tb∧r=.returned (.tuple #[.pointer none,.int .i64 1])∧U W w' (aA W p adP cP::L)):=by
 subst hn;by_cases h1:eR cf
 ·obtain⟨n,me,aJ,bt,c9⟩:=Ma h1;generalize hg:cf.bf=bf at c9;generalize ho:cf.order=order at c9;by_cases h2:dh p∧cX ⟨bf,order,tb⟩
  ·have fV:nn cf p tb:=⟨h1,h2.1,by rw[hg,ho];exact h2.2⟩;rw[c9]at h1 fV ⊢;exact (Mb (adT:=adT) (cT:=cT) I h1 h2.1 h2.2 aG dV eK hT).mono λr w' ⟨B,h3,h4,h5⟩=>.inl ⟨fV,B,h3,h4,h5⟩
  ·have fV:¬ nn cf p tb:=λh=>h2 ⟨h.2.1,by have:=h.2.2;rw[hg,ho]at this;exact this⟩;rw[c9]at h1 fV ⊢;exact (ZH (adT:=adT) (cT:=cT) I h1 h2 aG dV eK hT).mono λr w' ⟨h3,h4⟩=>.inr ⟨fV,h3,h4⟩
 ·exact (ZG (adT:=adT) (cT:=cT) I h1 eK hT).mono λr w' ⟨h3,h4⟩=>.inr ⟨λh=>h1 h.1,h3,h4⟩
end
end
section
def fg (W:World)(M:js)(p:Pr)(cf:Cf)(i:Nat)(s:Pl):SP:=λh=>∃ m:Mu,(m.s=s∧MI p M (20*i+1) m∧fe s.k=cf)∧aF W M p m h
section
variable {W w:World}{L:List SP}{n c i N cP cT:Nat}{adP adT:Option Addr}{M:js}{x:UInt8}{p:Pr}{s:Pl}{m:Mu}{bs tb:List UInt8}{cf:Cf}{y:Int}
theorem fg.open (I:U W w (fg W M p cf i s::L)):∃ m:Mu,(m.s=s∧MI p M (20*i+1) m∧fe s.k=cf)∧U W w (aF W M p m::L):=I.jy λ_ h=>h
theorem fg.close (I:U W w (aF W M p m::L))(h:MI p M N m)(hN:N≤20*i+1)(hm:m.s=s)(hc:fe s.k=cf):U W w (fg W M p cf i s::L) :=
 U.shut (M:=yD W M p m) (aF.open I) λ_ q=>⟨m,⟨hm,h.more hN,hc⟩,q⟩
theorem abG (a6:dh p)(aG:p.title.size≤1000000000):Bv W 78 ⟨M.mb,0,none⟩ 267 269 270 268 266 264 265 101 p M.B.gs (fg W M p cf) where
 Gi:=λad w=>by kernel_rfl
 cP:=(by kernel_rfl)
 Gj:=λad w=>by kernel_rfl
 Gk:=(by kernel_rfl)
 Gl:=λad w=>by kernel_rfl
 cT:=(by kernel_rfl)
 Gm:=λad w=>by kernel_rfl
 Gn:=(by kernel_rfl)
 Gp:=λad w=>by kernel_rfl
 cE:=(by kernel_rfl)
 Bw:=λad w=>by kernel_rfl
 By:=(by kernel_rfl)
 Gq:=λad w=>by kernel_rfl
 Gr:=(by kernel_rfl)
 Gt:=λad w=>by kernel_rfl
 Gu:=(by kernel_rfl)
 al:=λw L i s x hi hw I=>by
  replace I:=fg.open I;obtain⟨m,⟨rfl,hI,hc⟩,I⟩:=I;exact (aar (x:=x) I hI a6 aG (by omega)).mono λr w' ⟨m',h1,⟨h2,h3,_⟩,I⟩=>⟨h1,fg.close I h3 (by omega) h2 ((lC.al hI.wf x).cf.trans hc)⟩
 recv:=λw L i s bs a c hi hw hb hc hp I=>by
  replace I:=fg.open I;obtain⟨m,⟨rfl,hI,c9⟩,I⟩:=I;exact (aas I hI a6 aG (by omega) hb hc hp).mono λr w' ⟨m',h1,⟨h2,h3⟩,I⟩=>⟨h1,fg.close I h3 (by omega) h2 ((lC.recv hI.wf bs).cf.trans c9)⟩
 tick:=λw L i s hi hw hn I=>by
  replace I:=fg.open I;obtain⟨m,⟨rfl,hI,hc⟩,I⟩:=I;exact (aat I hI hn).mono λr w' ⟨a,c,h1,h2,I⟩=>⟨a,c,h1,(fg.close (I.perm (List.Perm.swap _ _ _)) h2 (by omega) rfl ((F0 _).trans hc)).perm (List.Perm.swap _ _ _)⟩
 oC:=λw L i s hi hw I=>by
  replace I:=fg.open I;obtain⟨m,⟨rfl,hI,hc⟩,I⟩:=I;exact (aau I hI).mono λr w' ⟨a,c,h1,h2,I⟩=>⟨a,c,h1,(fg.close (I.perm (List.Perm.swap _ _ _)) h2 (by omega) rfl ((F1 _).trans hc)).perm (List.Perm.swap _ _ _)⟩
 events:=λw L i s hi hw I=>by
  replace I:=fg.open I;obtain⟨m,⟨rfl,hI,hc⟩,I⟩:=I;exact (aav I hI).mono λr w' ⟨a,c,h1,h2,I⟩=>⟨a,c,h1,(fg.close (I.perm (List.Perm.swap _ _ _)) h2 (by omega) rfl hc).perm (List.Perm.swap _ _ _)⟩
 Bz:=λw L i s hi hw I=>by
  replace I:=fg.open I;obtain⟨m,⟨rfl,hI,hc⟩,I⟩:=I;exact (aaw I hI).mono λr w' ⟨a,c,h1,I⟩=>⟨a,c,h1,(fg.close (I.perm (List.Perm.swap _ _ _)) hI (a7 _) rfl hc).perm (List.Perm.swap _ _ _)⟩
 Gv:=λw L i s hi hw I=>by
  replace I:=fg.open I;obtain⟨m,⟨rfl,hI,hc⟩,I⟩:=I;exact (abz I hI a6 aG).mono λr w' ⟨a,c,h1,I⟩=>⟨a,c,h1,(fg.close (I.perm (List.Perm.swap _ _ _)) hI (a7 _) rfl hc).perm (List.Perm.swap _ _ _)⟩
 closed:=λw L i s hi hw I=>by
  replace I:=fg.open I;obtain⟨m,⟨rfl,hI,hc⟩,I⟩:=I;exact (yE I).mono λr w' ⟨h1,I⟩=>⟨h1,fg.close I hI (a7 _) rfl hc⟩
theorem abH (I:U W w (fg W M p cf i s::L))(a6:dh p)(aG:p.title.size≤1000000000)(hi:i≤1000000) :
   Calls prog 62 #[pt M.mb,.int .i64 y] w λe w'=>∃ z:Bool,e=.returned (.bool z)∧(z=true→s.k.cl=false∧0≤y∧y<s.k.workers)∧U W w' (fg W M p cf (i+1) s::L):=by
 replace I:=fg.open I;obtain⟨m,⟨rfl,hI,hc⟩,I⟩:=I;have h4:=hI.ks;by_cases hn:m.s.k.cl=true∨y<0∨(m.ks.length:Int)≤y
 ·exact (aax I hn h4).mono λe w' ⟨h1,I⟩=>⟨false,h1,λh=>(by cases h),fg.close I hI (by omega) rfl hc⟩
 ·have cp : m.s.k.cl = false := by
   cases h:m.s.k.cl with
   | false=>rfl
   | true=>exact absurd (.inl h) hn
  have hy:0≤y∧y<(m.ks.length:Int):=⟨by
   rcases Int.lt_or_le y 0 with h | h
   ·exact absurd (.inr (.inl h)) hn
   ·exact h,by
   rcases Int.lt_or_le y (m.ks.length:Int) with h | h
   ·exact h
   ·exact absurd (.inr (.inr h)) hn⟩
  obtain⟨j,rfl⟩:=Int.eq_ofNat_of_zero_le hy.1;obtain⟨⟨k,wb⟩,hk⟩:∃ z,m.ks[j]?=some z:=⟨_,aE (by omega)⟩;exact (aay I hI cp hk a6 aG (by omega)).mono λe w' ⟨z,A',T',J',k',h1,⟨_,h2⟩,I⟩=>⟨z,h1,λ_=>⟨cp,hy.1,by rw[hI.workers];exact hy.2⟩,fg.close I h2 (by omega) rfl hc⟩
theorem abI (h:eR cf):∃ n me aJ bt nb nw rm:Nat,cf=⟨n,me,cf.id,aJ,bt,cf.bf,cf.order,nb,nw,rm⟩:=by
 obtain⟨n,me,id,aJ,bt,bf,order,cv,workers,room⟩:=cf;simp only[eR,fx]at h;obtain⟨⟨h1,h2,h3⟩,⟨h4,h5,h6,h7⟩,h8,h9,eI,jV⟩:=h;exact⟨n.toNat,me.toNat,aJ.toNat,bt.toNat,cv.toNat,workers.toNat,room.toNat,by
  simp only[Cf.mk.injEq];refine⟨?_,?_,?_,?_,?_,?_,?_,?_,?_,?_⟩ <;> first | trivial | omega⟩
theorem abJ (h:eR cf):fe (ey p cf).k=cf:=by
 obtain⟨ps,ev,mr,hk⟩:∃ ps ev mr,(ey p cf).k={ ff cf with ps:=ps,ev:=ev,mr:=mr }:=(wo (p:=p) (c:=cf) h).ew.2.2;rw[hk];exact (WC.new h).2.2
theorem abK (fV:nn cf p tb)(I:U W w (aA W p adP cP::L))(hn:tb.length=n)(aG:p.title.size≤1000000000)(dV:p.ops.length≤1000000000)(eK:tb.length≤1099511627776)(hT:∀ w',U W w' (aA W p adP cP::L)→aX w' adT tb.length tb) :
   Calls prog 59 #[.agg (bT cf).toArray,.agg (bP p adP cP).toArray,.slice adT n cT] w λr w'=>∃ M:js,r=.returned (.tuple #[pt M.mb,.int .i64 0])∧M.B.gs=⟨cf.bf,cf.order,tb⟩∧U W w' (fg W M p cf 0 (ey p cf)::aA W p adP cP::L):=by
 subst hn;obtain⟨h1,h2,h3⟩:=fV;have Ns:=abJ (p:=p) h1;obtain⟨n,me,aJ,bt,nb,nw,rm,c9⟩:=abI h1;generalize cf.bf=bf at c9 h3 ⊢;generalize cf.order=order at c9 h3 ⊢;generalize cf.id=id at c9;rw[c9]at h1 Ns ⊢;exact (abD (adT:=adT) (cT:=cT) I h1 h2 h3 aG dV eK hT).mono λr w' ⟨M,m,h4,⟨h5,h6,h7,_⟩,I⟩=>⟨M,h4,h5,fg.close I h7 (by omega) h6 Ns⟩
theorem abL (hm:eR cf)(I:U W w (aA W p adP cP::L))(hn:tb.length=n)(a6:dh p)(aG:p.title.size≤1000000000) :
   Calls prog 46 #[.agg (bT cf).toArray,.agg (bP p adP cP).toArray,.slice adT n cT] w λr w'=>∃ B:fT,r=.returned (pt B.pb)∧(B.gs=⟨cf.bf,cf.order,tb⟩∧B.adT=adT)∧U W w' (b0 W B p (ey p cf)::L):=by
 subst hn;obtain⟨n,me,aJ,bt,c9⟩:=Ma hm;generalize cf.bf=bf at c9 ⊢;generalize cf.order=order at c9 ⊢;rw[c9]at hm ⊢;exact aa6 I hm a6 aG
end
end
section
theorem Sn.abM (A:Sn):A.used≤A.room:=by
 have:=List.countP_le_length (p:=λp=>decide (0<cQ A.ar p)) (l:=List.range A.room);rw[length_range]at this;exact this
theorem Nt {p:Nat}:∀ (l:List aC),(∀ x∈l,∀ k,k<4→x.p k≠p)→cQ l p=0
 | [],_=>rfl
 | x::l,h=>by
  rw[sr,CZ (h x (mem_cons_self ..)),Nt l λy hy=>h y (gM _ hy)]
theorem Nu {A:Sn}{p:Nat}(h:∀ x∈A.ar,∀ k,k<4→x.p k<A.room)(hp:A.room≤p):cQ A.ar p=0 :=
 Nt _ λx hx k hk e=>by have:=h x hx k hk;omega
def uV (l:List aC)(m:Nat):Nat:=(List.range m).countP λp=>decide (0<cQ l p)
theorem Nv (l:List aC)(m:Nat):uV l (m+1)=uV l m+if 0<cQ l m then 1 else 0:=by
 rw[uV,range_succ,List.countP_append,List.countP_singleton,uV];by_cases h:0<cQ l m <;> simp[h]
theorem abN (l:List aC)(m:Nat):uV l m≤m:=by
 have:=List.countP_le_length (p:=λp=>decide (0<cQ l p)) (l:=List.range m);rw[length_range]at this;exact this
theorem abO {A:Sn}(h:∀ x∈A.ar,∀ k,k<4→x.p k<A.room){m:Nat}(hm:A.room≤m):uV A.ar m=A.used:=by
 induction m with
 | zero=>rw[Sn.used,show A.room=0 from by omega];rfl
 | succ m ih =>
  rcases Nat.lt_or_ge m A.room with h1 | h1
  ·rw[Sn.used,show A.room=m+1 from by omega];rfl
  ·rw[Nv,ih h1,Nu h h1];rfl
def pS (l:List aC)(j:Nat):Int:=if j=0 then 0 else (cQ l (j-1):Nat)
def nN (l:List aC)(x:aC)(k j:Nat):Int:=if j=0 then 0 else ((cQ l (j-1)+iO x (j-1) k:Nat):Int)
theorem abP:pS []=λ_=>0:=by
 funext j;unfold pS;split <;> rfl
theorem abQ (l:List aC)(x:aC):nN l x 0=pS l:=by
 funext j;unfold nN pS;simp[zE]
theorem abR {l:List aC}{i:Nat}{x:aC}(h:l[i]?=some x):nN (l.take i) x 4=pS (l.take (i+1)):=by
 obtain⟨hi,rfl⟩:=a2.1 h
 funext j
 unfold nN pS;rw[jd hi,xp,sr,C0];rfl
theorem abS (l:List aC)(x:aC)(k:Nat):(λj=>if j=x.p k+1 then nN l x k (x.p k+1)+1 else nN l x k j)=nN l x (k+1):=by
 funext j
 by_cases h:j=x.p k+1
 ·subst h;rw[ak rfl];simp only[nN,ag (Nat.succ_ne_zero _),Nat.add_sub_cancel];rw[kM,ak rfl];omega
 ·rw[ag h];unfold nN;split
  ·rfl
  ·rw[kM,ag (by omega)];simp
theorem abT (l:List aC)(x:aC)(k j:Nat)(hk:k≤4):0≤nN l x k j∧nN l x k j≤4*l.length+4:=by
 unfold nN;have h1:=C3 l (j-1);have h2:=sm x (j-1) hk;have h3:=Iz x (j-1);have h4:iO x (j-1) 4=hs x (j-1):=rfl;split <;> omega
theorem abU (l:List aC)(p:Nat):pS l (p+1)=(cQ l p:Nat):=by simp[pS]
section
variable {W w:World}{L:List SP}{q b i r:Nat}{ps:List Pg}{A:Sn}
theorem abV (I:U W w (Room q b ps::L))(hn:∀ h:i<ps.length,ps[i].refs=0)(hi:i<1000) :
   Calls prog 122 #[pt q,.int .i64 ((i:Int)+1)] w λe w'=>e=.returned (.pointer none)∧U W w' (Room q b ps::L):=by
 obtain⟨hp,I⟩:=Room.open I;by_cases aH:i<ps.length
 ·have hr:=hn aH;refine EN func122 ntmps122 rfl rfl λa E=>?_;refine RN 7 E I λa E=>?_;replace E:=E.aM 7;refine RN 4 E I λa E=>?_;rw[bq (by omega)]at E;refine RN 9 E I λa E=>?_;rw[bq (by omega)]at E;refine RN 6 E I λa E=>?_;rw[show (i:Int)+1-1=(i:Int) from by omega]at E;refine RN 2 E I λa E=>?_;refine bo E (b7 E rfl (s:=20)) (ae E (I.bz (sg aH))) rfl λa E=>?_;refine RN 2 E I λa E=>?_;rw[dg (by omega)]at E;refine RT 3 E I ?_;exact⟨rfl,(Room.close (n:=_) I rfl hp)⟩
 ·
   refine EN func122 ntmps122 rfl rfl λa E=>?_;refine RN 7 E I λa E=>?_;replace E:=E.aM 7;refine RN 4 E I λa E=>?_;rw[bq (by omega)]at E;refine RN 9 E I λa E=>?_;rw[dg (by omega)]at E;refine RT 14 E I ?_;exact⟨rfl,(Room.close (n:=_) I rfl hp)⟩
theorem abW (I:U W w (Room q b ps::L))(hn:∀ h:i<ps.length,ps[i].refs=0)(hi:i<1000) :
   Calls prog 86 #[pt q,.int .i64 ((i:Int)+1)] w λe w'=>e=.returned (.int .i64 0)∧U W w' (Room q b ps::L):=by
 refine EN func86 ntmps86 rfl rfl λa E=>?_;refine CL 5 E I (abV I hn hi) λa w E I=>?_;refine RN 5 E I λa E=>?_;replace E:=E.eh 10;refine RT 3 E I ?_;exact⟨rfl,I⟩
theorem abX (I:U W w (ax q r A::L))(hi:i<1000) :
   Calls prog 86 #[pt r,.int .i64 ((i:Int)+1)] w λe w'=>e=.returned (.int .i64 (cQ A.ar i))∧U W w' (ax q r A::L):=by
 have hf:=(ax.facts I).2;obtain⟨b,m,ps,xs,h1,hw,hr,I⟩:=ax.open I;by_cases hl:∃ h:i<ps.length,0<ps[i].refs
 ·obtain⟨h3,h4⟩:=hl;refine (zu (I.pick (Room r b ps)) h3 h4).mono λe w' ⟨h2,I⟩=>?_;rw[hr.refs _ _ (aE h3)]at h2;exact⟨h2,ax.close (b:=b) (m:=m) (ps:=ps) I h1 hw hr⟩
 ·have hn : ∀ h : i < ps.length, ps[i].refs = 0 := fun h => by
   rcases Nat.eq_zero_or_pos ps[i].refs with h2 | h2
   ·exact h2
   ·exact absurd ⟨h,h2⟩ hl
  have h0:cQ A.ar i=0:=by
   by_cases h:i<ps.length
   ·rw[← hr.refs _ _ (aE h)];exact hn h
   ·exact Nu hf (by rw[← hr.len];omega)
  refine (abW (I.pick (Room r b ps)) hn hi).mono λe w' ⟨h2,I⟩=>?_;rw[h0];exact⟨h2,ax.close (b:=b) (m:=m) (ps:=ps) I h1 hw hr⟩
end
end
section
theorem abY (k:IntKind)(m:Nat)(x:Int):List.replicate m (Value.int k x)=ints k m (λ_=>x):=by
 rw[ints,fn];exact (ext_getElem (by simp) (by simp))
section
variable {W w:World}{L:List SP}{N:Nat}{M:js}{p:Pr}{m:Mu}{cf:Cf}{x:Int}
set_option maxHeartbeats 4000000 in
theorem abZ (I:U W w (aF W M p m::L))(h:MI p M N m)(c9:fe m.s.k=cf) :
   Calls prog 56 #[pt M.mb,.agg (bT cf).toArray] w λe w'=>e=.returned (.bool true)∧U W w' (aF W M p m::L):=by
 have wy:cf.cv=(m.T.most:Int):=by rw[← c9];exact h.most
 have s5:cf.workers=(m.ks.length:Int):=by rw[← c9];exact h.workers
 have q9:(m.A.room:Int)=4*cf.room:=by rw[← c9];exact h.room.1
 have ov:=h.ks;obtain⟨t,hI⟩:=h.inv;have hlen:=hI.len;have MS:(ji (m.ks.map (·.1))).length≤m.ks.length:=by
  have h1:=length_filter_le (λk:Wk=>k.busy) (m.ks.map (·.1));rw[bd]at h1;rw[ji,bd];exact h1
 clear c9;replace I:=aF.open I;have kV:=(Tree.wt (I.tree M.tq)).most;have BF:=ax.facts (I.store M.sq);have o8:=ax.vp (I.store M.sq);have hur:=Sn.abM m.A;have lA:=BF.1.room;obtain⟨s,A,T,J,ks,base,front⟩:=m;dsimp only at wy s5 q9 ov hlen MS kV BF o8 hur lA I;have hS:=abO BF.2 (m:=200) lA;refine EN func56 ntmps56 rfl rfl λa E=>?_;refine BX 1 E I λb3 a w E I=>?_;change U W w (aa b3 28 (bT cf)::_) at I;refine RN 3 E I λa E=>?_;replace I:=aF.fold I M p ⟨s,A,T,J,ks,base,front⟩;refine CL 0 E I (ZP I) λa w E I=>?_;refine RN 3 E I λa E=>?_;replace I:=aF.open I;dsimp only at I;refine aY 0 E I (Ut (I.store M.sq)) λdX yP a w E I=>?_;refine aV 3 (λw0 w'=>Rd w' b3 0 (bT cf)) [5,25,26] [0,1,2,4,3003,1005,6,7,8,9,10,11,12,13,14,17,18,19,1015,1016,20,21,22,23,24,27,3028,29,1025,1026,30,31] E I λa w E I hH=>?_;have hC:=hH.at w (I.ai (b:=b3));refine RH 4 E I hH hC λa E=>?_;refine QH E (λw hc=>ae E (hc 7 _ rfl)) hC λa E=>?_;refine RH 0 E I hH hC λa E=>?_;refine SS E (ae E (hC 8 _ rfl)) λa E=>?_;refine RH 4 E I hH hC λa E=>?_;rw[bq (by omega)]at E;refine RH 4 E I hH hC λa E=>?_;rw[dg (by omega)]at E;refine RH 4 E I hH hC λa E=>?_;refine CL 0 E I (zL (I.store M.sq)) λa w E I=>?_;refine CL 0 E I (C9 (I.store M.sq)) λa w E I=>?_;refine RN 4 E I λa E=>?_;rw[bq (by omega)]at E;refine RN 2 E I λa E=>?_;replace hC:Rd w b3 0 (bT cf):=I.ai (b:=b3);refine QH E (λw hc=>ae E (hc 9 _ rfl)) hC λa E=>?_;refine CL 1 E I (zL (I.store M.sq)) λa w E I=>?_;replace hC:=hH.at w (I.ai (b:=b3));refine RH 0 E I hH hC λa E=>?_;refine CL 0 E I (C9 (I.store M.sq)) λa w E I=>?_;replace hC:=hH.at w (I.ai (b:=b3));refine RH 2 E I hH hC λa E=>?_;rw[bq (by omega)]at E;refine AL 2 E I λdm a w E I=>?_;rw[abY]at I;refine RN 3 E I λa E=>?_;refine aO (λμ a w=>∃ (i:Nat),(μ=A.ar.length-i∧i≤A.ar.length)∧Fr a 120 [(0,pt M.mb),(3,pt b3),(5,pt M.sq),(6,.slice dX A.ar.length yP),(7,pt dm),(8,.int .i64 i)]∧U W w (aa dm 164 (ints .i64 201 (pS (A.ar.take i)))::Sl 166 1 dX A.ar.length yP (A.ar.map λx=>.int .i64 x.id)::ax M.sq M.r A::aa b3 28 (bT cf)::aa M.mb 177 (dR p M ks.length base front)::aQ W M.B p s::aA W p M.aq M.cO::Sl 179 1 M.dr ks.length M.dA (gR ks)::ah (e5 p M.aq M.cO M.tq M.jq M.sq) ks::Tree M.tq M.sq T::bI M.jq J::L)) (A.ar.length) (⟨0,⟨rfl,by omega⟩,E.ab [0,3,5,6,7,8],by rw[take_zero,abP];exact I.sub⟩) ?_;clear E I;rintro μ a w ⟨i,⟨rfl,hi⟩,E,I⟩;refine IF 6 E I (λao a E=>?_) λao a E=>?_
 ·
  obtain⟨x,hx⟩:∃ x,A.ar[i]?=some x:=⟨_,aE (by omega)⟩;obtain⟨bv,Nw,rfl,Bl⟩:=(I.pick (Sl 166 1 dX A.ar.length yP (A.ar.map λx=>.int .i64 x.id))).bV dX (by omega);have yI:=Bl i (.int .i64 x.id) (by rw[bm,hx];rfl);have zO:=BF.2 x (bH hx);have bO:=abR hx;have eK:(A.ar.take i).length≤200:=by rw[ep];omega
  clear Bl;refine RN 6 E I λa E=>?_;refine SS E (ae E (yI)) λa E=>?_;refine aY 0 E I (IN (I.store M.sq) hx) λcY dP a w E I=>?_;refine RN 6 E I λa E=>?_;replace E:=E.aM 63;refine RN 3 E I λa E=>?_;refine aO (λμ a w=>∃ (k:Nat),(μ=4-k∧k≤4)∧Fr a 120 [(0,pt M.mb),(3,pt b3),(5,pt M.sq),(6,.slice (some ⟨bv,Nw,none⟩) A.ar.length yP),(7,pt dm),(8,.int .i64 i),(9,.slice cY 4 dP),(10,.int .i64 k)]∧U W w (aa dm 164 (ints .i64 201 (nN (A.ar.take i) x k))::Sl 3 1 cY 4 dP (ints .i64 4 (λk=>(x.p k:Int)+1))::Sl 166 1 (some ⟨bv,Nw,none⟩) A.ar.length yP (A.ar.map λx=>.int .i64 x.id)::ax M.sq M.r A::aa b3 28 (bT cf)::aa M.mb 177 (dR p M ks.length base front)::aQ W M.B p s::aA W p M.aq M.cO::Sl 179 1 M.dr ks.length M.dA (gR ks)::ah (e5 p M.aq M.cO M.tq M.jq M.sq) ks::Tree M.tq M.sq T::bI M.jq J::L)) (4) (⟨0,⟨rfl,by omega⟩,E.ab [0,3,5,6,7,8,9,10],by rw[abQ];exact I.sub⟩) ?_;clear E I;rintro μ a w ⟨k,⟨rfl,hk⟩,E,I⟩;refine IF 4 E I (λbk a E=>?_) λbk a E=>?_
  ·
   obtain⟨bp,op,rfl,fb⟩:=(I.pick (Sl 3 1 cY 4 dP (ints .i64 4 (λk=>(x.p k:Int)+1)))).bV cY (by omega);have uA:=fb k _ (fN _ (by omega));have eB:=zO k (by omega);have LO:=abT (A.ar.take i) x k (x.p k+1) (by omega);clear fb;refine RN 6 E I λa E=>?_;refine SS E (ae E (uA)) λa E=>?_;refine RN 2 E I λa E=>?_;rw[bq (by omega)]at E;refine RN 3 E I λa E=>?_;refine bo E (b7 E rfl (s:=73)) (ae E (uA)) rfl λa E=>?_;refine RN 2 E I λa E=>?_;rw[bq (by omega)]at E;refine RN 4 E I λa E=>?_;refine SS E (ae E (uA)) λa E=>?_;rw[show ((x.p k:Nat):Int)+1=((x.p k+1:Nat):Int) from rfl]at E;refine RN 1 E I λa E=>?_;refine SS E (ae E (I.bz (fN _ (by omega)))) λa E=>?_;refine ST 2 E I (λa w E I=>?_) (hlt:=(by rw[dd];omega));rw[ints_set,abS]at I;refine RN 3 E I λa E=>?_;exact⟨4-(k+1),by omega,k+1,⟨rfl,by omega⟩,E.ab [0,3,5,6,7,8,9,10],I.sub⟩
  refine RN 3 E I λa E=>?_;obtain rfl:k=4:=by omega
  rw[bO]at I;exact⟨A.ar.length-(i+1),by omega,i+1,⟨rfl,by omega⟩,E.ab [0,3,5,6,7,8],I.sub⟩
 obtain rfl:i=A.ar.length:=by omega
 rw[take_length]at I;refine RN 5 E I λa E=>?_;refine aO (λμ a w=>∃ (q:Nat),(μ=200-q∧q≤200)∧Fr a 120 [(0,pt M.mb),(3,pt b3),(5,pt M.sq),(7,pt dm),(11,.int .i64 (uV A.ar q:Nat)),(12,.int .i64 ((q:Int)+1))]∧U W w (ax M.sq M.r A::aa dm 164 (ints .i64 201 (pS A.ar))::aa b3 28 (bT cf)::aa M.mb 177 (dR p M ks.length base front)::aQ W M.B p s::aA W p M.aq M.cO::Sl 179 1 M.dr ks.length M.dA (gR ks)::ah (e5 p M.aq M.cO M.tq M.jq M.sq) ks::Tree M.tq M.sq T::bI M.jq J::L)) (200) (⟨0,⟨rfl,by omega⟩,by have h9:=E.ab [0,3,5,7,11,12];exact h9,I.sub⟩) ?_;clear E I;rintro μ a w ⟨q,⟨rfl,hq⟩,E,I⟩;refine IF 4 E I (λeE a E=>?_) λeE a E=>?_
 ·
  have BG:=abU A.ar q;have gD:=Nv A.ar q;have eB:=abN A.ar q;have cp:=C3 A.ar q;have lP:q<200:=by omega
  refine aV 3 (λw0 w'=>w'.cell? ⟨dm,q+1,none⟩=some (.int .i64 (pS A.ar (q+1)))) [1,3] [0,2,4,5,3006,1001,1003,7] E I λa w E I hH=>?_;have hC:=hH.at w (I.bz (b:=dm) (fN _ (by omega)));refine RH 3 E I hH hC λa E=>?_;rw[show ((q:Nat):Int)+1=((q+1:Nat):Int) from rfl]at E;refine RH 1 E I hH hC λa E=>?_;refine QH E (λw hc=>ae E (hc)) hC λa E=>?_;refine RH 0 E I hH hC λa E=>?_;refine CL 0 E I (zL I) λa w E I=>?_;replace hC:=hH.at w (I.bz (b:=dm) (fN _ (by omega)));refine RH 0 E I hH hC λa E=>?_;refine CL 0 E I (abX I (by omega)) λa w E I=>?_;replace hC:=hH.at w (I.bz (b:=dm) (fN _ (by omega)));refine RH 1 E I hH hC λa E=>?_;rw[BG,show decide ((cQ A.ar q:Nat)≠((cQ A.ar q:Nat):Int))=false from by simp]at E;replace E:=E.aM 99;refine RN 4 E I λa E=>?_;refine SS E (ae E (I.bz (b:=dm) (fN _ (by omega)))) λa E=>?_;rw[BG]at E;refine IF 1 E I (λmo a E=>?_) λmo a E=>?_
  ·
   refine RN 6 E I λa E=>?_;exact⟨200-(q+1),by omega,q+1,⟨rfl,by omega⟩,by rw[gD,ak (by omega)];exact E.ab [0,3,5,7,11,12],I.sub⟩
  refine RN 3 E I λa E=>?_;exact⟨200-(q+1),by omega,q+1,⟨rfl,by omega⟩,by rw[gD,ag (by omega)];exact E.ab [0,3,5,7,11,12],I.sub⟩
 obtain rfl:q=200:=by omega
 rw[hS]at E;refine aV 1 (λw0 w'=>Rd w' b3 0 (bT cf)) [7,8,9] [0,1,1002,1003,4,5,6,10,3011,1007,1008,1009,12,13,14] E I λa w E I hH=>?_;have hC:=hH.at w (I.ai (b:=b3));refine RH 2 E I hH hC λa E=>?_;refine CL 0 E I (zL I) λa w E I=>?_;refine CL 0 E I (C9 I) λa w E I=>?_;refine RN 2 E I λa E=>?_;rw[dg (by omega)]at E;refine RN 2 E I λa E=>?_;replace hC:Rd w b3 0 (bT cf):=I.ai (b:=b3);refine QH E (λw hc=>ae E (hc 7 _ rfl)) hC λa E=>?_;replace I:=aF.fold I M p ⟨s,A,T,J,ks,base,front⟩;refine CL 0 E I (ZQ I) λa w E I=>?_;replace hC:=hH.at w (I.ai (b:=b3));replace I:=aF.open I;dsimp only at I;refine RH 0 E I hH hC λa E=>?_;refine aY 0 E I (zN (I.tree M.tq)) λth qD a w E I=>?_;replace hC:=hH.at w (I.ai (b:=b3));refine RH 4 E I hH hC λa E=>?_;refine RT 0 E I ?_;exact⟨by rw[dg (by omega)],(aF.fold I.tail M p ⟨s,A,T,J,ks,base,front⟩).sub⟩
end
end
section
section
variable {W w:World}{L:List SP}{c i cP cT:Nat}{p:Pr}{s:Pl}{B:iU}
theorem ab0 (a6:dh p)(aG:p.title.size≤1000000000)(fA:cX B.gs):Bv W 139 ⟨B.pb,0,none⟩ 282 284 285 283 281 273 276 141 p B.gs (λ_ s=>aQ W B p s) where
 Gi:=λad w=>by kernel_rfl
 cP:=(by kernel_rfl)
 Gj:=λad w=>by kernel_rfl
 Gk:=(by kernel_rfl)
 Gl:=λad w=>by kernel_rfl
 cT:=(by kernel_rfl)
 Gm:=λad w=>by kernel_rfl
 Gn:=(by kernel_rfl)
 Gp:=λad w=>by kernel_rfl
 cE:=(by kernel_rfl)
 Bw:=λad w=>by kernel_rfl
 By:=(by kernel_rfl)
 Gq:=λad w=>by kernel_rfl
 Gr:=(by kernel_rfl)
 Gt:=λad w=>by kernel_rfl
 Gu:=(by kernel_rfl)
 al:=λw L i s x _ hw I=>L1 I hw a6 aG
 recv:=λw L i s bs a c _ hw hb hc hp I=>L2 I hw a6 aG hb hc hp
 tick:=λw L i s _ hw hn I=>L3 I hw hn
 oC:=λw L i s _ hw I=>L5 I hw
 events:=λw L i s _ hw I=>L6 I
 Bz:=λw L i s _ hw I=>L8 I hw
 Gv:=λw L i s _ hw I=>L9 I hw a6 aG fA
 closed:=λw L i s _ hw I=>L7 I
end
end
section
inductive fJ where
 | mu (M:js)
 | pl (B:iU)
structure fB where
 cf:Cf
 z:fJ
def fJ.t:fJ→TypeId
 | .mu _=>78
 | .pl _=>139
def fJ.ad:fJ→Addr
 | .mu M=>⟨M.mb,0,none⟩
 | .pl B=>⟨B.pb,0,none⟩
def fJ.gs:fJ→Gs
 | .mu M=>M.B.gs
 | .pl B=>B.gs
def fJ.f (a b:FuncId):fJ→FuncId
 | .mu _=>a
 | .pl _=>b
def fB.J (W:World)(p:Pr)(x:fB)(i:Nat)(s:Pl):SP:=match x.z with
 | .mu M=>fg W M p x.cf i s
 | .pl B=>aQ W B p s
def uK (z:fJ):=z.f 267 282
def uL (z:fJ):=z.f 269 284
def uM (z:fJ):=z.f 270 285
def uN (z:fJ):=z.f 268 283
def uO (z:fJ):=z.f 266 281
def uP (z:fJ):=z.f 264 273
def uQ (z:fJ):=z.f 265 276
def uR (z:fJ):=z.f 101 141
abbrev cF (x:fB×Pl):Value:=.iface x.1.z.t (.pointer (some x.1.z.ad))
def cB (W:World)(p:Pr)(c:Nat)(x:fB×Pl):SP:=x.1.J W p c x.2
abbrev ka:=Option Addr×Nat×List j6
abbrev bx (x:ka):Value:=.slice x.1 x.2.2.length x.2.1
def eA (x:ka):SP:=Sl 135 1 x.1 x.2.2.length x.2.1 (x.2.2.map cA)
structure ju where
 mb:Nat
 q:Nat
 fq:List fB
structure nO where
 adL:Option Addr
 cL:Nat
 adE:Option Addr
 cE:Nat
 xs:List (fB×Pl)
 es:List ka
def cS (m:Ml):oP:=((m.1:Int),(m.2.1:Int),m.2.2)
abbrev jI (B:ju)(A:nO):List Value:=[.slice A.adL A.xs.length A.cL,pt B.q,.slice A.adE A.es.length A.cE]
structure nO.Ok (A:nO)(B:ju)(v:Wd):Prop where
 fq:A.xs.map (·.1)=B.fq
 ps:A.xs.map (·.2)=v.ps
 ev:A.es.map (·.2.2)=v.ev
def aN (W:World)(B:ju)(p:Pr)(c:Nat)(v:Wd):SP:=λh=>∃ A:nO,A.Ok B v ∧
 cn [aa B.mb 107 (jI B A),Sl 81 1 A.adL A.xs.length A.cL (A.xs.map cF),ah (cB W p c) A.xs,bK B.q (v.net.map cS),Sl 90 1 A.adE A.es.length A.cE (A.es.map bx),ah eA A.es] h
section
variable {W w:World}{L R:List SP}{n c i:Nat}{ad adE:Option Addr}{p:Pr}{B:ju}{A:nO}{v:Wd}{x:fB}{s:Pl}{y:Int}
theorem fB.qw (x:fB)(a6:dh p)(aG:p.title.size≤1000000000)(fA:cX x.z.gs):Bv W x.z.t x.z.ad (uK x.z) (uL x.z) (uM x.z) (uN x.z) (uO x.z) (uP x.z) (uQ x.z) (uR x.z) p x.z.gs (x.J W p):=by
 obtain⟨cf,z⟩:=x;cases z with
 | mu M=>exact abG a6 aG
 | pl B=>exact ab0 a6 aG fA
theorem fB.more {j:Nat}(x:fB)(h:i≤j):∀ hp,x.J W p i s hp→x.J W p j s hp:=by
 obtain⟨cf,z⟩:=x;cases z with
 | mu M=>exact λhp ⟨m,⟨h1,h2,h3⟩,h4⟩=>⟨m,⟨h1,h2.more (by omega),h3⟩,h4⟩
 | pl B=>exact λhp h=>h
theorem Nx {α:Type}{f g:α→SP}(k:∀ x h,f x h→g x h):∀ {l:List α} {h:Hp},cn (l.map f) h→cn (l.map g) h
 | [],_,h=>h
 | _::l,_,⟨h1,h2,d,a,b,p,q⟩=>⟨h1,h2,d,a,b,k _ _ p,Nx k q⟩
theorem U.ab1 {A A':SP}(I:U W w (A::L))(k:∀ h,A h→A' h):U W w (A'::L):=⟨I.below,let ⟨h,p,h1,h2,d,a,b,x,y⟩:=I.sat;⟨h,p,h1,h2,d,a,b,k _ x,y⟩⟩
theorem U.rM {xs:List (fB×Pl)}{d:Nat}(I:U W w (ah (cB W p c) xs::L))(h:c≤d):U W w (ah (cB W p d) xs::L) :=
 I.ab1 λ_ h1=>Nx (λx h2 h3=>x.1.more h h2 h3) h1
theorem aN.open (I:U W w (aN W B p c v::L)):∃ A:nO,A.Ok B v∧U W w (aa B.mb 107 (jI B A)::Sl 81 1 A.adL A.xs.length A.cL (A.xs.map cF)::ah (cB W p c) A.xs::bK B.q (v.net.map cS)::Sl 90 1 A.adE A.es.length A.cE (A.es.map bx)::ah eA A.es::L):=by
 obtain⟨A,h1,I⟩:=I.jy (ι:=nO) (p:=λA=>A.Ok B v) (B:=λA h=>cn [aa B.mb 107 (jI B A),Sl 81 1 A.adL A.xs.length A.cL (A.xs.map cF),ah (cB W p c) A.xs,bK B.q (v.net.map cS),Sl 90 1 A.adE A.es.length A.cE (A.es.map bx),ah eA A.es] h) λ_ h=>h;exact⟨A,h1,I.open (M:=[_,_,_,_,_,_]) λ_ h=>h⟩
theorem aN.fold (I:U W w L)(B:ju)(p:Pr)(c:Nat)(v:Wd)(A:nO)(h:A.Ok B v)[kk:fD L [aa B.mb 107 (jI B A),Sl 81 1 A.adL A.xs.length A.cL (A.xs.map cF),ah (cB W p c) A.xs,bK B.q (v.net.map cS),Sl 90 1 A.adE A.es.length A.cE (A.es.map bx),ah eA A.es] R]:U W w (aN W B p c v::R) :=
 U.shut (M:=[_,_,_,_,_,_]) (I.perm kk.perm) λ_ h1=>⟨A,h,h1⟩
theorem ab2 {P:Program}{t:TypeId} {ms}(ht:P.underlying t=some (.interface ms))(k:Nat):(Op.equalIn (k+1) t .nilIface .nilIface).run P w=.ok true w:=by
 simp[Op.equalIn,eL ht]
theorem ab3 {P:Program}{a:Act}{l:List (Nat×Value)} {x t ms u dst ty ps af g}(E:Fr a n l)(ht:P.underlying t=some (.interface ms))[e:Ev l x .nilIface] :
   (execOp a.eval ⟨dst,.binOp .eql t x (.const .nilIface) u,ty,ps,af,g⟩).run P w=.ok (.value (.bool true)) w:=by
 have hc:a.eval (.const .nilIface)=.nilIface:=rfl;have h2:(Op.equal t .nilIface .nilIface).run P w=.ok true w:=ab2 ht 9999;simp only[execOp,e.ev a n E,hc,Sem.run_bind];simp[eqGuard,binOp,h2]
theorem Ny {P:Program}{a:Act}{l:List (Nat×Value)} {x t u ok dst ty ps af g}{z z2:Value}(E:Fr a n l)(h:(Instr.typeAssert z t u ok).run P w=.ok z2 w)[e:Ev l x z] :
   (execOp a.eval ⟨dst,.typeAssert x t u ok,ty,ps,af,g⟩).run P w=.ok (.value z2) w:=by
 simp[execOp,e.ev a n E,h]
end
end
section
def fJ.mul:fJ→Value
 | .mu M=>pt M.mb
 | .pl _=>.pointer none
section
variable {W w:World}{L:List SP}{n cL mb i:Nat}{ad:Option Addr}{B:ju}{y:Int}{x2 x3:Value}{xs:List (fB×Pl)}
theorem ab4 (I:U W w (aa mb 107 [.slice ad n cL,x2,x3]::L))(hy:y<0∨(n:Int)≤y):Calls prog 28 #[pt mb,.int .i64 y] w λe w'=>e=.returned .nilIface∧U W w' (aa mb 107 [.slice ad n cL,x2,x3]::L):=by
 refine EN func28 ntmps28 rfl rfl λa E=>?_;refine RN 7 E I λa E=>?_;replace E:=E.aM 7;refine BY 4 E I (λjX a E=>?_) λjX a E=>?_
 ·
  refine RT 11 E I ?_;exact⟨rfl,I⟩
 refine RN 8 E I λa E=>?_;rw[dg (by omega)]at E;refine RT 3 E I ?_;exact⟨rfl,I⟩
theorem rN (I:U W w (aa mb 107 [.slice ad xs.length cL,x2,x3]::Sl 81 1 ad xs.length cL (xs.map cF)::L))(hi:i<xs.length):Calls prog 28 #[pt mb,.int .i64 i] w λe w'=>e=.returned (cF xs[i])∧U W w' (aa mb 107 [.slice ad xs.length cL,x2,x3]::Sl 81 1 ad xs.length cL (xs.map cF)::L):=by
 refine EN func28 ntmps28 rfl rfl λa E=>?_;refine RN 7 E I λa E=>?_;replace E:=E.aM 7;refine RN 4 E I λa E=>?_;rw[bq (by omega)]at E;refine RN 8 E I λa E=>?_;rw[bq (by omega)]at E;refine RN 2 E I λa E=>?_;obtain⟨b,o,rfl,hr⟩:=(I.pick (Sl 81 1 ad xs.length cL (xs.map cF))).bV ad (by omega);have e9:=hr i (cF xs[i]) (by rw[bm,aE hi];rfl);refine RN 6 E I λa E=>?_;refine SS E (ae E (e9)) λa E=>?_;refine RT 1 E I ?_;exact⟨rfl,I.sub⟩
theorem fJ.assert (z:fJ)(w:World):(Instr.typeAssert (.iface z.t (.pointer (some z.ad))) 81 78 true).run prog w=.ok (.tuple #[z.mul,.bool (match z with | .mu _=>true | .pl _=>false)]) w:=by
 cases z with
 | mu M=>kernel_rfl
 | pl B=>kernel_rfl
theorem GJ (I:U W w (aa mb 107 [.slice ad xs.length cL,x2,x3]::Sl 81 1 ad xs.length cL (xs.map cF)::L))(hi:i<xs.length):Calls prog 27 #[pt mb,.int .i64 i] w λe w'=>e=.returned xs[i].1.z.mul∧U W w' (aa mb 107 [.slice ad xs.length cL,x2,x3]::Sl 81 1 ad xs.length cL (xs.map cF)::L):=by
 have has:=xs[i].1.z.assert;cases hz:xs[i].1.z with
 | mu M =>
  rw[hz]at has;refine EN func27 ntmps27 rfl rfl λa E=>?_;refine CL 5 E I (rN I hi) λa w E I=>?_;rw[show cF xs[i]=.iface (fJ.mu M).t (.pointer (some (fJ.mu M).ad)) from by rw[← hz]]at E;refine RN 0 E I λa E=>?_;refine SK (bo E rfl (Ny E (has w)) rfl ?_);clear E a;intro a E;refine RN 9 E I λa E=>?_;replace E:=E.aM 15;refine RT 4 E I ?_;exact⟨rfl,I⟩
 | pl B =>
  rw[hz]at has;refine EN func27 ntmps27 rfl rfl λa E=>?_;refine CL 5 E I (rN I hi) λa w E I=>?_;rw[show cF xs[i]=.iface (fJ.pl B).t (.pointer (some (fJ.pl B).ad)) from by rw[← hz]]at E;refine RN 0 E I λa E=>?_;refine SK (bo E rfl (Ny E (has w)) rfl ?_);clear E a;intro a E;refine RN 9 E I λa E=>?_;replace E:=E.eh 15;refine RT 3 E I ?_;exact⟨rfl,I⟩
theorem BH (I:U W w (aa mb 107 [x2,pt i,x3]::L)):Calls prog 22 #[pt mb] w λe w'=>e=.returned (pt i)∧U W w' (aa mb 107 [x2,pt i,x3]::L):=by
 refine EN func22 ntmps22 rfl rfl λa E=>?_;refine RN 6 E I λa E=>?_;replace E:=E.aM 4;refine RT 7 E I ?_;exact⟨rfl,I⟩
end
end
section
section
variable {W w:World}{L:List SP}{n c mb i q:Nat}{ad:Option Addr}{v:Wd}{x1 x3:Value}{xs:List (fB×Pl)}{l net:List Ml}{e:List j6}
theorem U.wM {α:Type}{f:α→SP}{l:List α}{i:Nat}(h:i<l.length)(I:U W w (f l[i]::ah f (l.eraseIdx i)::L)):U W w (ah f l::L):=by
 have h1:=U.kI h I
 rwa [set_getElem_self]at h1
theorem Nz (l:List j6):∀ v∈l.map cA,v.oneCell'=true:=by
 intro v hv;obtain⟨e,_,rfl⟩:=cV.1 hv;exact Fb e
theorem NA (I:U W w (Sl 135 1 ad e.length c (e.map cA)::L))(hl:e.length≤1000000000):Calls prog 57 #[.slice ad e.length c] w λr w'=>∃ av c',r=.returned (.slice av e.length c')∧U W w' (Sl 135 1 av e.length c' (e.map cA)::Sl 135 1 ad e.length c (e.map cA)::L):=by
 cases pj:ad with
 | none =>
  subst pj;have h0:e=[]:=by
   rcases Nat.eq_zero_or_pos e.length with h0 | h0
   ·exact gW h0
   ·obtain⟨b,o,h1,_⟩:=I.bV none h0;cases h1
  subst h0;refine EN func57 ntmps57 rfl rfl λa E=>?_;refine RN 6 E I λa E=>?_;replace E:=E.eh 4;refine RT 3 E I ?_;exact⟨_,_,rfl,I.bN _ _ _⟩
 | some a =>
  rw[← pj];refine EN func57 ntmps57 rfl rfl λa E=>?_;refine RN 6 E I λa E=>?_;rw[show ad.isNone=false from by rw[pj];rfl]at E;replace E:=E.aM 4;refine RN 2 E I λa E=>?_;refine tC E rfl I underlying90 Ty.t135 rfl λb5 a w E I ho=>?_;clear ho;replace I:U W w (Sl 135 1 (some ⟨b5,0,none⟩) 0 0 []::Sl 135 1 ad e.length c (e.map cA)::L):=I.tail.bN _ _ _;refine RN 1 E I λa E=>?_;refine g2 E rfl I underlying90 Ty.t135 rfl rfl (by decide) (λh0=>I.tail.bV ad h0) (by rw[bd,Nat.mul_one]) (Nz _) (by omega) λse qW a w E I=>?_;rw[nil_append,Nat.zero_add]at I;rw[Nat.zero_add]at E;refine RT 1 E I ?_;exact⟨_,_,rfl,I⟩
theorem ab5 {m:Ml}(h:m.2.2.length≤1000):(if pR (net.map cS) m.2.2.length then net.map cS++[cS m] else net.map cS)=(oO net m).map cS:=by
 have h1:pR (net.map cS) m.2.2.length=decide (net.length<300):=by
  rw[pR,bd,dg h,Bool.and_true]
 rw[h1,oO];by_cases h2:net.length<300
 ·rw[dg h2,ak rfl,ak h2,cW];rfl
 ·rw[bq h2,ag (by decide),ag h2]
theorem NB (I:U W w (cm 124 ad n c l::bK q (net.map cS)::aa mb 107 [x1,pt q,x3]::L))(hn:n≤1000)(hl:∀ m∈l,m.2.2.length≤1000) :
   Calls prog 61 #[pt mb,.slice ad n c] w λe w'=>e=.returned (.int .i64 0)∧U W w' (bK q ((ez net l).map cS)::aa mb 107 [x1,pt q,x3]::L):=by
 obtain⟨xs,eC,bW,I⟩:=cm.open I;have ba:xs.length=n:=by rw[← bW,← eC,bd]
 subst ba;refine EN func61 ntmps61 rfl rfl λa E=>?_;refine RN 7 E I λa E=>?_;refine aO (λμ a w=>∃ (i:Nat),(μ=xs.length-i∧i≤xs.length)∧Fr a 20 [(0,pt mb),(7,.slice ad xs.length c),(8,.int .i64 xs.length),(9,.int .i64 i)]∧U W w (bK q ((ez net (l.take i)).map cS)::Sl 124 3 ad xs.length c (rows b9 xs)::ah ca xs::aa mb 107 [x1,pt q,x3]::L)) (xs.length) (⟨0,⟨rfl,by omega⟩,E.ab [0,7,8,9],(show U W w (Sl 124 3 ad xs.length c (rows b9 xs)::ah ca xs::bK q ((ez net (l.take 0)).map cS)::_) from I).sub⟩) ?_;clear E I;rintro μ a w ⟨i,⟨rfl,hi⟩,E,I⟩;refine IF 3 E I (λaj a E=>?_) λaj a E=>?_
 ·
  have aH:i<xs.length:=by omega
  have yQ:i<l.length:=by omega
  refine RN 2 E I λa E=>?_;obtain⟨bi,oi,rfl,pz⟩:=(I.pick (Sl 124 3 ad xs.length c (rows b9 xs))).bV ad (by omega);have fb:=jo oJ pz (aE aH);obtain⟨m,hm⟩:∃ m,m=l[i]:=⟨_,rfl⟩;obtain⟨xa,NC,hx⟩:∃ a c,xs[i]=(a,c,m):=⟨xs[i].1,xs[i].2.1,by
   have h1:(xs.map (·.2.2))[i]?=l[i]?:=by rw[eC]
   rw[bm,aE aH,aE yQ]at h1;have h2:xs[i].2.2=l[i]:=by simpa using h1
   rw[hm,← h2]⟩
  have l9:=hl m (by rw[hm];exact getElem_mem _);rw[hx]at fb;refine RN 1 E I λa E=>?_;refine SS E (bS E underlying124 rfl Ty.t124 (fb)) λa E=>?_;refine AL 0 E I λcH a w E I=>?_;refine SA 0 E I λa w E I=>?_;refine bQ 0 [4] [0,1,2,3003,1004,1005] E I λa w E I hH hC=>?_;refine RH 5 E I hH hC λa E=>?_;refine CL 0 E I (abp (bs:=m.2.2) (I.pick (bK q ((ez net (l.take i)).map cS))) (λw' dc=>by
   have h1:=(dc.pick (ah ca xs)).fu aH;rw[hx]at h1;exact U.cu (L:=ca (xa,NC,m)::_) h1 _ _ (k:=(fK.head:fK (Sl 5 1 xa m.2.2.length NC (bc m.2.2)::_) xa _ _ _ _ _ _)) rfl rfl)) λa w E I=>?_
  refine RN 0 E I λa E=>?_;rw[show ((m.1:Int),(m.2.1:Int),m.2.2)=cS m from rfl,ab5 l9,hm,← M7 net yQ]at I;refine RN 2 E I λa E=>?_;exact⟨xs.length-(i+1),by omega,i+1,⟨rfl,by omega⟩,E.ab [0,7,8,9],I.sub⟩
 refine RT 2 E I ?_;obtain rfl:i=xs.length:=by omega
 rw[fX (by omega)]at I;exact⟨rfl,I.sub⟩
end
end
section
abbrev dS (s:fH):List Value:=[.int .i64 s.fn,.int .i64 s.a,.int .i64 s.b,.int .i64 s.n]
section
variable {W w:World}{L:List SP}{c d cL mb i q:Nat}{ad adE:Option Addr}{p:Pr}{B:ju}{A:nO}{v:Wd}{x:fB}{s wD s':Pl}{t:fH}{y:Int}{net:List Ml}{cf:Cf}
theorem nO.Ok.at (h:A.Ok B v)(hi:i<v.ps.length):∃ x,A.xs[i]?=some (x,an v i)∧i<A.xs.length∧B.fq[i]?=some x:=by
 have hl:A.xs.length=v.ps.length:=by rw[← h.ps,bd]
 have dH:i<A.xs.length:=by omega
 refine⟨A.xs[i].1,?_,dH,by rw[← h.fq,bm,aE dH];rfl⟩;rw[aE dH,an,bn,← h.ps,bm,aE dH];rfl
theorem aN.out (I:U W w (ah (cB W p c) A.xs::L))(hx:A.xs[i]?=some (x,s)):U W w (x.J W p c s::ah (cB W p c) (A.xs.eraseIdx i)::L):=by
 obtain⟨hi,h1⟩:=a2.1 hx;have h2:=I.fu hi;rw[h1]at h2;exact h2
theorem aN.put (hA:A.Ok B v)(hx:A.xs[i]?=some (x,wD))(DJ:c≤d)(net:List Ml)
   (I:U W w (x.J W p d s'::ah (cB W p c) (A.xs.eraseIdx i)::aa B.mb 107 (jI B A)::Sl 81 1 A.adL A.xs.length A.cL (A.xs.map cF)::bK B.q (net.map cS)::Sl 90 1 A.adE A.es.length A.cE (A.es.map bx)::ah eA A.es::L)) :
   U W w (aN W B p d { v with ps:=v.ps.set i s',net:=net }::L):=by
 obtain⟨hi,h1⟩:=a2.1 hx;have h2:=(I.pick (ah (cB W p c) (A.xs.eraseIdx i))).rM DJ;have h3:=U.kI (f:=cB W p d) (x:=(x,s')) hi (h2.pick (x.J W p d s'));have e1:(A.xs.set i (x,s')).map cF=A.xs.map cF:=by
  rw[List.map_set,show cF (x,s')=(A.xs.map cF)[i]'(by rw[bd];exact hi) from by rw[getElem_map,h1],set_getElem_self]
 have e2:(A.xs.set i (x,s')).length=A.xs.length:=bu ..;have hA':nO.Ok { A with xs:=A.xs.set i (x,s') } B { v with ps:=v.ps.set i s',net:=net }:=by
  refine⟨?_,?_,hA.ev⟩
  ·show (A.xs.set i (x,s')).map (·.1)=_;rw[List.map_set,← hA.fq];show (A.xs.map (·.1)).set i x=_;rw[show x=(A.xs.map (·.1))[i]'(by rw[bd];exact hi) from by rw[getElem_map,h1],set_getElem_self]
  ·show (A.xs.set i (x,s')).map (·.2)=v.ps.set i s';rw[List.map_set,hA.ps]
 have h4:U W w (ah (cB W p d) (A.xs.set i (x,s'))::aa B.mb 107 (jI B { A with xs:=A.xs.set i (x,s') })::Sl 81 1 A.adL (A.xs.set i (x,s')).length A.cL ((A.xs.set i (x,s')).map cF)::bK B.q (net.map cS)::Sl 90 1 A.adE A.es.length A.cE (A.es.map bx)::ah eA A.es::L):=by
  simp only[jI,e1,e2];exact h3.sub
 exact (aN.fold h4 B p d { v with ps:=v.ps.set i s',net:=net } { A with xs:=A.xs.set i (x,s') } hA').sub
theorem fH.u8 (b:Int):IntKind.u8.wrap b=((fU b).toNat:Int):=by rw[wrap_u8,abe]
structure ju.Ok (B:ju)(p:Pr)(c:Nat):Prop where
 pr:dh p
 sz:p.title.size≤1000000000
 gs:∀ x∈B.fq,cX x.z.gs
 c:c≤1000000
theorem ab6 (I:U W w L):Calls prog 62 #[.pointer none,.int .i64 y] w λe w'=>e=.returned (.bool false)∧U W w' L:=by
 refine EN func62 ntmps62 rfl rfl λa E=>?_;refine RN 7 E I λa E=>?_;replace E:=E.eh 7;refine RT 19 E I ?_;exact⟨rfl,I⟩
theorem ab7 (I:U W w (ah (cB W p c) A.xs::L))(hx:A.xs[i]?=some (x,s))(a6:dh p)(aG:p.title.size≤1000000000)(hc:c≤1000000) :
   Calls prog 62 #[x.z.mul,.int .i64 y] w λe w'=>∃ z:Bool,e=.returned (.bool z)∧(z=true→0≤y∧y<s.k.workers∧∃ M,x.z=.mu M)∧U W w' (ah (cB W p (c+1)) A.xs::L):=by
 obtain⟨hi,h1⟩:=a2.1 hx;have h2:=aN.out I hx;obtain⟨cf,z⟩:=x;cases z with
 | pl B=>exact (ab6 I).mono λe w' ⟨h,I⟩=>⟨false,h,(λh=>by cases h),I.rM (Nat.le_succ c)⟩
 | mu M =>
  refine (abH h2 a6 aG hc).mono λe w' ⟨z,h,h3,I⟩=>⟨z,h,λhz=>⟨(h3 hz).2.1,(h3 hz).2.2,M,rfl⟩,?_⟩;have h4:=(I.pick (ah (cB W p c) (A.xs.eraseIdx i))).rM (Nat.le_succ c);refine U.wM hi ?_;rw[h1];exact h4.pick (fg W M p cf (c+1) s)
theorem BI {t:fH}(h:t.fn=1)(fW:t.a=i)(hi:i<v.ps.length):gv p t v=((dE p (fU t.b) (an v i)).1,{ v with ps:=v.ps.set i (dE p (fU t.b) (an v i)).2 }):=by
 rw[gv,ag (by omega),ak h,fW,Int.toNat_natCast]
theorem wN {t:fH}(h:t.fn=2)(fW:t.a=i)(hi:i<v.ps.length):gv p t v=(0,{ v with ps:=v.ps.set i ⟨(br (an v i).k).2,(an v i).g⟩,net:=ez v.net (br (an v i).k).1 }):=by
 rw[gv,ag (by omega),ag (by omega),ak h,fW,Int.toNat_natCast]
theorem yR {t:fH}(h:t.fn=8)(fW:t.a=i)(hi:i<v.ps.length):gv p t v=(0,{ v with ps:=v.ps.set i ⟨(cy (an v i).k).2,(an v i).g⟩,net:=ez v.net (cy (an v i).k).1 }):=by
 rw[gv,ag (by omega),ag (by omega),ag (by omega),ak h,fW,Int.toNat_natCast]
theorem yS {t:fH}(h:t.fn=7)(fW:t.a=i)(hi:i<v.ps.length):gv p t v=(0,v):=by
 rw[gv,ag (by omega),ag (by omega),ag (by omega),ag (by omega)]
theorem ab8 (I:U W w (aN W B p c v::L))(ZJ:t.a<0∨(v.ps.length:Int)≤t.a) :
   Calls prog 44 #[pt B.mb,.agg (dS t).toArray] w λe w'=>e=.returned (.int .i64 7)∧U W w' (aN W B p c v::L):=by
 replace I:=aN.open I;obtain⟨A,hA,I⟩:=I;have hl:A.xs.length=v.ps.length:=by rw[← hA.ps,bd]
 refine EN func44 ntmps44 rfl rfl λa E=>?_;refine BX 1 E I λb3 a w E I=>?_;change U W w (aa b3 58 (dS t)::_) at I;refine CL 5 E I (ab4 (I.pick (aa B.mb 107 (jI B A))) (by omega)) λa w E I=>?_;refine RN 4 E I λa E=>?_;refine SK (bo E rfl (ab3 E underlying81) rfl ?_);clear E a;intro a E;refine RN 0 E I λa E=>?_;replace E:=E.eh 11;refine RT 3 E I ?_;exact⟨rfl,(aN.fold I B p c v A hA).sub⟩
set_option maxHeartbeats 1000000 in
theorem ab9 (I:U W w (aN W B p c v::L))(hB:B.Ok p c)(hv:bL p cf c v)(hi:i<v.ps.length)(hf:t.fn=1∨t.fn=2∨t.fn=8∨t.fn=7)(fW:t.a=i) :
   Calls prog 44 #[pt B.mb,.agg (dS t).toArray] w λe w'=>∃ z:Int,e=.returned (.int .i64 z)∧(t.fn≠7→z=(gv p t v).1) ∧
    (t.fn=7→z=7∨(z=0∧0≤t.b∧t.b<(an v i).k.workers∧∃ x M,B.fq[i]?=some x∧x.z=.mu M))∧U W w' (aN W B p (c+1) (gv p t v).2::L):=by
 replace I:=aN.open I;obtain⟨A,hA,I⟩:=I;obtain⟨x,hx,BJ,oR⟩:=hA.at hi;obtain⟨_,gX⟩:=a2.1 hx;have hM:=x.qw (W:=W) (p:=p) hB.pr hB.sz (hB.gs x (bH oR));obtain⟨hw,c9,wO⟩:=hv.pl i hi;have ky:=hB.c;have yT:cF A.xs[i]=.iface x.z.t (.pointer (some x.z.ad)):=by rw[gX]
 refine EN func44 ntmps44 rfl rfl λa E=>?_;refine BX 1 E I λb3 a w E I=>?_;change U W w (aa b3 58 (dS t)::_) at I;refine RN 5 E I λa E=>?_;rw[fW]at E;refine CL 0 E I (rN ((I.pick (Sl 81 1 A.adL A.xs.length A.cL (A.xs.map cF))).pick (aa B.mb 107 (jI B A))) BJ) λa w E I=>?_;refine RN 1 E I λa E=>?_;rw[yT]at E;refine RN 4 E I λa E=>?_;replace E:=E.aM 11;refine IF 8 E I (λao a E=>?_) λao a E=>?_
 ·
  refine RN 1 E I λa E=>?_;replace I:=aN.out (I.pick (ah (cB W p c) A.xs)) hx;refine RN 3 E I λa E=>?_;refine SS E (gj E underlying3 underlying5) λa E=>?_;rw[fH.u8]at E;refine RN 0 E I λa E=>?_;refine jA E rfl hM.Gi hM.cP rfl (hM.al _ _ c (an v i) (fU t.b) ky hw (I.pick (x.J W p c (an v i)))) (by rfl) ?_;clear E I;rintro e w ⟨rfl,I⟩;refine⟨_,rfl,λa E=>?_⟩;refine RT 1 E I ?_;exact⟨_,rfl,λ_=>by rw[BI (by assumption) fW hi],λh=>by omega,by
   have h1:=aN.put hA hx (Nat.le_succ c) v.net (I.sub (M:=x.J W p (c+1) (dE p (fU t.b) (an v i)).2::ah (cB W p c) (A.xs.eraseIdx i)::aa B.mb 107 (jI B A)::Sl 81 1 A.adL A.xs.length A.cL (A.xs.map cF)::bK B.q (v.net.map cS)::Sl 90 1 A.adE A.es.length A.cE (A.es.map bx)::ah eA A.es::L));rw[BI (by assumption) fW hi];exact h1⟩
 refine IF 3 E I (λay a E=>?_) λay a E=>?_
 ·
  refine RN 1 E I λa E=>?_;replace I:=aN.out (I.pick (ah (cB W p c) A.xs)) hx;refine RN 2 E I λa E=>?_;refine jA E rfl hM.Gl hM.cT rfl (hM.tick _ _ c (an v i) ky hw (by omega) (I.pick (x.J W p c (an v i)))) (by rfl) ?_;clear E I;rintro e w ⟨am,jv,rfl,I⟩;refine⟨_,rfl,λa E=>?_⟩;refine CL 0 E I (NB (((I.pick (aa B.mb 107 (jI B A))).pick (bK B.q (v.net.map cS))).pick (cm 124 am (br (an v i).k).1.length jv (br (an v i).k).1)) (M5 hw.wc) (λm hm=>(M8 hw.wc m hm).2)) λa w E I=>?_;refine RT 1 E I ?_;exact⟨_,rfl,λ_=>by rw[wN (by assumption) fW hi],λh=>by omega,by
   have h1:=aN.put hA hx (Nat.le_succ c) (ez v.net (br (an v i).k).1) (I.sub (M:=x.J W p (c+1) ⟨(br (an v i).k).2,(an v i).g⟩::ah (cB W p c) (A.xs.eraseIdx i)::aa B.mb 107 (jI B A)::Sl 81 1 A.adL A.xs.length A.cL (A.xs.map cF)::bK B.q ((ez v.net (br (an v i).k).1).map cS)::Sl 90 1 A.adE A.es.length A.cE (A.es.map bx)::ah eA A.es::L));rw[wN (by assumption) fW hi];exact h1⟩
 refine IF 3 E I (λbk a E=>?_) λbk a E=>?_
 ·
  refine RN 1 E I λa E=>?_;replace I:=aN.out (I.pick (ah (cB W p c) A.xs)) hx;refine RN 2 E I λa E=>?_;refine jA E rfl hM.Gm hM.Gn rfl (hM.oC _ _ c (an v i) ky hw (I.pick (x.J W p c (an v i)))) (by rfl) ?_;clear E I;rintro e w ⟨am,jv,rfl,I⟩;refine⟨_,rfl,λa E=>?_⟩;refine CL 0 E I (NB (((I.pick (aa B.mb 107 (jI B A))).pick (bK B.q (v.net.map cS))).pick (cm 124 am (cy (an v i).k).1.length jv (cy (an v i).k).1)) (M6 hw.wc) (λm hm=>(M9 hw.wc m hm).2)) λa w E I=>?_;refine RT 1 E I ?_;exact⟨_,rfl,λ_=>by rw[yR (by assumption) fW hi],λh=>by omega,by
   have h1:=aN.put hA hx (Nat.le_succ c) (ez v.net (cy (an v i).k).1) (I.sub (M:=x.J W p (c+1) ⟨(cy (an v i).k).2,(an v i).g⟩::ah (cB W p c) (A.xs.eraseIdx i)::aa B.mb 107 (jI B A)::Sl 81 1 A.adL A.xs.length A.cL (A.xs.map cF)::bK B.q ((ez v.net (cy (an v i).k).1).map cS)::Sl 90 1 A.adE A.es.length A.cE (A.es.map bx)::ah eA A.es::L));rw[yR (by assumption) fW hi];exact h1⟩
 refine aV 2 (λw0 w'=>Rd w' b3 0 (dS t)) [3,5] [0,1,4,3002,3005,1003,1006,7] E I λa w E I hH=>?_;have hC:=hH.at w (I.ai (b:=b3));refine RH 3 E I hH hC λa E=>?_;refine QH E (λw hc=>ae E (hc 1 _ rfl)) hC λa E=>?_;rw[fW]at E;refine RH 0 E I hH hC λa E=>?_;refine QH E (λw hc=>ae E (hc 2 _ rfl)) hC λa E=>?_;refine RH 0 E I hH hC λa E=>?_;refine CL 0 E I (GJ ((I.pick (Sl 81 1 A.adL A.xs.length A.cL (A.xs.map cF))).pick (aa B.mb 107 (jI B A))) BJ) λa w E I=>?_;replace hC:=hH.at w (I.ai (b:=b3));rw[show A.xs[i].1.z.mul=x.z.mul from by rw[gX]]at E;refine RH 0 E I hH hC λa E=>?_;refine bh 0 E I (ab7 (x:=x) (y:=t.b) (I.pick (ah (cB W p c) A.xs)) hx hB.pr hB.sz ky) λz a w E ⟨hz,I⟩=>?_;refine RN 1 E I λa E=>?_;refine IF 0 E I (λbO a E=>?_) λbO a E=>?_
 ·
  have kB:z=false:=by cases z <;> simp_all
  refine RT 2 E I ?_;exact⟨7,rfl,λh=>absurd (by omega) h,λ_=>.inl rfl,by
   rw[yS (by omega) fW hi];exact (aN.fold I B p (c+1) v A hA).sub⟩
 have kB:z=true:=by cases z <;> simp_all
 refine RT 2 E I ?_;exact⟨0,rfl,λh=>absurd (by omega) h,λ_=>.inr ⟨rfl,(hz kB).1,(hz kB).2.1,x,(hz kB).2.2.choose,oR,(hz kB).2.2.choose_spec⟩,by
  rw[yS (by omega) fW hi];exact (aN.fold I B p (c+1) v A hA).sub⟩
end
end
section
section
variable {W w:World}{L:List SP}{n c cL mb j q:Nat}{ad adE:Option Addr}{p:Pr}{B:ju}{A:nO}{v:Wd}{x:fB}{t:fH}{y:Int}{net:List Ml}{m:Ml}{cf:Cf}{z:UInt8}
theorem GK (h:net[j]?=some m):∃ h2:j<(net.map cS).length,(net.map cS)[j]=cS m:=by
 obtain⟨h1,h2⟩:=a2.1 h;exact⟨by rw[bd];exact h1,by rw[getElem_map,h2]⟩
theorem GL (I:U W w (bK q (net.map cS)::L))(h:net[j]?=some m):Calls prog 52 #[pt q,.int .i64 j] w λe w'=>∃ ad c,e=.returned (.tuple #[.agg #[.int .i64 m.1,.int .i64 m.2.1,.slice ad m.2.2.length c],.bool true])∧U W w' (Sl 5 1 ad m.2.2.length c (bc m.2.2)::bK q (net.map cS)::L):=by
 obtain⟨h1,h2⟩:=GK h;have h3:=abr I h1;rw[h2]at h3;exact h3
theorem ND (I:U W w (bK q (net.map cS)::L))(h:y<0∨(net.length:Int)≤y):Calls prog 52 #[pt q,.int .i64 y] w λe w'=>e=.returned (.tuple #[.agg #[.int .i64 0,.int .i64 0,.slice none 0 0],.bool false])∧U W w' (bK q (net.map cS)::L) :=
 abq I (by rw[bd];simp;omega)
theorem NF (I:U W w (bK q (net.map cS)::L))(h:net[j]?=some m):Calls prog 63 #[pt q,.int .i64 j] w λe w'=>e=.returned (.bool true)∧U W w' (bK q ((net.eraseIdx j).map cS)::L):=by
 obtain⟨h1,h2⟩:=GK h;have h3:=abu I h1;rw[show (net.map cS).eraseIdx j=(net.eraseIdx j).map cS from by simp only[eraseIdx_eq_take_drop_succ,cW,map_take,map_drop]]at h3;exact h3
theorem aca (I:U W w (bK q (net.map cS)::L))(h:net[j]?=some m):Calls prog 64 #[pt q,.int .i64 j,.int .i64 y,.int .u8 (z.toNat:Int)] w λe w' =>
   e=.returned (.bool (decide (0≤y)&&decide (y<m.2.2.length)))∧U W w' (bK q ((if y<0∨(m.2.2.length:Int)≤y then net else net.set j (m.1,m.2.1,m.2.2.set y.toNat (m.2.2.getD y.toNat 0 ^^^ z))).map cS)::L):=by
 obtain⟨h1,h2⟩:=GK h;have h3:=abv (aT:=y) (x:=z) I h1;rw[h2]at h3;refine h3.mono λe w' ⟨h4,h5⟩=>⟨h4,?_⟩;by_cases h6:y<0∨(m.2.2.length:Int)≤y
 ·rw[ak h6];rw[ag (by show ¬ (decide (0≤y)&&decide (y<(m.2.2.length:Int)))=true;simp;omega)]at h5;exact h5
 ·rw[ag h6,List.map_set];rw[ak (by show (decide (0≤y)&&decide (y<(m.2.2.length:Int)))=true;simp;omega)]at h5;exact h5
theorem NG {t:fH}(h:t.n<0∨(v.net.length:Int)≤t.n):gI p t v=(3,v):=by rw[gI,ak h]
theorem BK (h:v.net[j]?=some m):v.net.getD j (0,0,[])=m:=by rw[bn,h];rfl
theorem GM {t:fH}(h:t.fn=4)(gJ:t.n=j)(hm:v.net[j]?=some m):gI p t v=(0,{ v with net:=v.net.eraseIdx j }):=by
 have h1:=(a2.1 hm).1;rw[gI,ag (by omega),ag (by omega),ak h,gJ,Int.toNat_natCast]
theorem uW {t:fH}(h:t.fn=6)(gJ:t.n=j)(hm:v.net[j]?=some m):gI p t v=if t.a<0∨(m.2.2.length:Int)≤t.a then (3,v) else (0,{ v with net:=v.net.set j (m.1,m.2.1,m.2.2.set t.a.toNat (m.2.2.getD t.a.toNat 0 ^^^ fU t.b)) }):=by
 have h1:=(a2.1 hm).1;rw[gI,ag (by omega),ak h,gJ,Int.toNat_natCast,BK hm]
theorem BL {t:fH}(h:t.fn≠4)(h':t.fn≠6)(gJ:t.n=j)(hm:v.net[j]?=some m):gI p t v=((dF p m.2.2 (an v m.2.1)).1,{ v with ps:=v.ps.set m.2.1 (dF p m.2.2 (an v m.2.1)).2,net:=if t.fn=5 then v.net else v.net.eraseIdx j }):=by
 have h1:=(a2.1 hm).1;rw[gI,ag (by omega),ag h',ag h,gJ,Int.toNat_natCast,BK hm]
theorem acb (I:U W w (aN W B p c v::L))(zg:t.n<0∨(v.net.length:Int)≤t.n) :
   Calls prog 45 #[pt B.mb,.agg (dS t).toArray] w λe w'=>e=.returned (.int .i64 3)∧U W w' (aN W B p c v::L):=by
 replace I:=aN.open I;obtain⟨A,hA,I⟩:=I;refine EN func45 ntmps45 rfl rfl λa E=>?_;refine BX 1 E I λb3 a w E I=>?_;change U W w (aa b3 58 (dS t)::_) at I;refine RN 1 E I λa E=>?_;refine cc (M:=λa w=>∃ b5:Nat,Fr a 61 [(0,pt B.mb),(3,pt b3),(5,pt b5),(6,.bool false)]∧U W w (aa b5 124 [.int .i64 0,.int .i64 0,.slice none 0 0]::aa b3 58 (dS t)::aa B.mb 107 (jI B A)::Sl 81 1 A.adL A.xs.length A.cL (A.xs.map cF)::ah (cB W p c) A.xs::bK B.q (v.net.map cS)::Sl 90 1 A.adE A.es.length A.cE (A.es.map bx)::ah eA A.es::L)) ?_ ?_
 ·
  refine aV 0 (λw0 w'=>Rd w' B.mb 0 (jI B A)∧Rd w' b3 0 (dS t)) [5,10] [0,1,2,4,3003,3005,2006,7,8,9,1010,1011,12] E I λa w E I hH=>?_;have hC:=hH.at w ⟨I.ai (b:=B.mb),I.ai (b:=b3)⟩;refine RH 4 E I hH hC λa E=>?_;refine QH E (λw hc=>ae E (hc.1 1 _ rfl)) hC λa E=>?_;refine QH E (λw hc=>ae E (hc.2 3 _ rfl)) hC λa E=>?_;refine RH 0 E I hH hC λa E=>?_;refine DN [(6,[7,8,9,1010,1011,12]),(10,[1006,7,8,9,1011,12])] (by kernel_rfl) rfl ⟨⟨_,rfl,?_⟩,⟨_,rfl,?_⟩,trivial⟩
  ·
   refine RH 0 E I hH hC λa E=>?_;refine CL 0 E I (ND (I.pick (bK B.q (v.net.map cS))) zg) λa w E I=>?_;refine RN 3 E I λa E=>?_;refine eV E rfl I Ty.t124 rfl λb5 a w E I ho=>?_;clear ho;replace hC:=hH.at w ⟨I.ai (b:=B.mb),I.ai (b:=b3)⟩;refine RH 0 E I hH hC λa E=>?_;refine SA 0 E I λa w E I=>?_;refine RN 1 E I λa E=>?_;exact⟨b5,E.ab [0,3,5,6],I.sub⟩
  refine RH 0 E I hH hC λa E=>?_;refine eV E rfl I Ty.t124 rfl λb5 a w E I ho=>?_;clear ho;replace hC:=hH.at w ⟨I.ai (b:=B.mb),I.ai (b:=b3)⟩;refine RH 0 E I hH hC λa E=>?_;refine CL 0 E I (ND (I.pick (bK B.q (v.net.map cS))) zg) λa w E I=>?_;refine SA 3 E I λa w E I=>?_;refine RN 1 E I λa E=>?_;exact⟨b5,E.ab [0,3,5,6],I.sub⟩
 clear E;(try clear I);rintro a w ⟨b5,E,I⟩;refine RN 4 E I λa E=>?_;replace E:=E.eh 18;refine RT 3 E I ?_;exact⟨rfl,(aN.fold I B p c v A hA).sub⟩
set_option maxHeartbeats 1000000 in
theorem acd (I:U W w (aN W B p c v::L))(hB:B.Ok p c)(hv:bL p cf c v)(hf:t.fn=3∨t.fn=4∨t.fn=5∨t.fn=6)(gJ:t.n=j)(hm:v.net[j]?=some m) :
   Calls prog 45 #[pt B.mb,.agg (dS t).toArray] w λe w'=>e=.returned (.int .i64 (gI p t v).1)∧U W w' (aN W B p (c+1) (gI p t v).2::L):=by
 replace I:=aN.open I;obtain⟨A,hA,I⟩:=I;have ei:=(a2.1 hm).1;have fV:=hv.Gy ei;rw[BK hm]at fV;obtain⟨x,hx,BJ,oR⟩:=hA.at fV.1;obtain⟨_,gX⟩:=a2.1 hx;have hM:=x.qw (W:=W) (p:=p) hB.pr hB.sz (hB.gs x (bH oR));obtain⟨hw,c9,wO⟩:=hv.pl m.2.1 fV.1;have ky:=hB.c;have yT:cF A.xs[m.2.1]=.iface x.z.t (.pointer (some x.z.ad)):=by rw[gX]
 refine EN func45 ntmps45 rfl rfl λa E=>?_;refine BX 1 E I λb3 a w E I=>?_;change U W w (aa b3 58 (dS t)::_) at I;refine RN 1 E I λa E=>?_;refine cc (M:=λa w=>∃ (b5:Nat) (am:Option Addr) (jv:Nat),Fr a 61 [(0,pt B.mb),(3,pt b3),(5,pt b5),(6,.bool true)]∧U W w (aa b5 124 [.int .i64 m.1,.int .i64 m.2.1,.slice am m.2.2.length jv]::Sl 5 1 am m.2.2.length jv (bc m.2.2)::aa b3 58 (dS t)::aa B.mb 107 (jI B A)::Sl 81 1 A.adL A.xs.length A.cL (A.xs.map cF)::ah (cB W p c) A.xs::bK B.q (v.net.map cS)::Sl 90 1 A.adE A.es.length A.cE (A.es.map bx)::ah eA A.es::L)) ?_ ?_
 ·
  refine aV 0 (λw0 w'=>Rd w' B.mb 0 (jI B A)∧Rd w' b3 0 (dS t)) [5,10] [0,1,2,4,3003,3005,2006,7,8,9,1010,1011,12] E I λa w E I hH=>?_;have hC:=hH.at w ⟨I.ai (b:=B.mb),I.ai (b:=b3)⟩;refine RH 4 E I hH hC λa E=>?_;refine QH E (λw hc=>ae E (hc.1 1 _ rfl)) hC λa E=>?_;refine QH E (λw hc=>ae E (hc.2 3 _ rfl)) hC λa E=>?_;rw[gJ]at E;refine RH 0 E I hH hC λa E=>?_;refine DN [(6,[7,8,9,1010,1011,12]),(10,[1006,7,8,9,1011,12])] (by kernel_rfl) rfl ⟨⟨_,rfl,?_⟩,⟨_,rfl,?_⟩,trivial⟩
  ·
   refine RH 0 E I hH hC λa E=>?_;refine aY 0 E I (GL (I.pick (bK B.q (v.net.map cS))) hm) λam jv a w E I=>?_;refine RN 3 E I λa E=>?_;refine eV E rfl I Ty.t124 rfl λb5 a w E I ho=>?_;clear ho;replace hC:=hH.at w ⟨I.ai (b:=B.mb),I.ai (b:=b3)⟩;refine RH 0 E I hH hC λa E=>?_;refine SA 0 E I λa w E I=>?_;refine RN 1 E I λa E=>?_;exact⟨b5,am,jv,E.ab [0,3,5,6],I.sub⟩
  refine RH 0 E I hH hC λa E=>?_;refine eV E rfl I Ty.t124 rfl λb5 a w E I ho=>?_;clear ho;replace hC:=hH.at w ⟨I.ai (b:=B.mb),I.ai (b:=b3)⟩;refine RH 0 E I hH hC λa E=>?_;refine aY 0 E I (GL (I.pick (bK B.q (v.net.map cS))) hm) λam jv a w E I=>?_;refine SA 3 E I λa w E I=>?_;refine RN 1 E I λa E=>?_;exact⟨b5,am,jv,E.ab [0,3,5,6],I.sub⟩
 clear E;(try clear I);rintro a w ⟨b5,am,jv,E,I⟩;refine RN 4 E I λa E=>?_;replace E:=E.aM 18;refine RN 1 E I λa E=>?_;refine cc (M:=λa w=>((t.fn≠4∧t.fn≠6)∧Fr a 61 [(0,pt B.mb),(5,pt b5)])∧U W w (aa b5 124 [.int .i64 m.1,.int .i64 m.2.1,.slice am m.2.2.length jv]::Sl 5 1 am m.2.2.length jv (bc m.2.2)::aa B.mb 107 (jI B A)::Sl 81 1 A.adL A.xs.length A.cL (A.xs.map cF)::ah (cB W p c) A.xs::bK B.q ((if t.fn=5 then v.net else v.net.eraseIdx j).map cS)::Sl 90 1 A.adE A.es.length A.cE (A.es.map bx)::ah eA A.es::L)) ?_ ?_
 ·
  refine IF 6 E I (λao a E=>?_) λao a E=>?_
  ·
   refine bQ 1 [5] [0,1,2,4,3003,1005,1006] E I λa w E I hH hC=>?_;refine RH 6 E I hH hC λa E=>?_;rw[gJ]at E;refine CL 0 E I (NF (I.pick (bK B.q (v.net.map cS))) hm) λa w E I=>?_;refine RT 2 E I ?_;exact⟨by rw[GM (by assumption) gJ hm],by
    rw[GM (by assumption) gJ hm];exact (aN.fold ((I.pick (ah (cB W p c) A.xs)).rM (Nat.le_succ c)) B p (c+1) { v with net:=v.net.eraseIdx j } A ⟨hA.fq,hA.ps,hA.ev⟩).sub⟩
  refine IF 3 E I (λay a E=>?_) λay a E=>?_
  ·
   refine bQ 2 [5,7,9,10] [0,1,2,4,6,8,3003,3005,3007,1009,1010,1011,12] E I λa w E I hH hC=>?_;refine RH 10 E I hH hC λa E=>?_;refine SS E (gj E underlying3 underlying5) λa E=>?_;rw[fH.u8,gJ]at E;refine RH 0 E I hH hC λa E=>?_;refine CL 0 E I (aca (I.pick (bK B.q (v.net.map cS))) hm) λa w E I=>?_;refine RN 1 E I λa E=>?_;refine IF 0 E I (λbk a E=>?_) λbk a E=>?_
   ·
    have ho:t.a<0∨(m.2.2.length:Int)≤t.a:=by
     by_cases h1:t.a<0
     ·exact .inl h1
     ·by_cases h2:(m.2.2.length:Int)≤t.a
      ·exact .inr h2
      ·simp at bk;omega
    refine RT 2 E I ?_;exact⟨by rw[uW (by assumption) gJ hm,ak ho],by
     rw[uW (by assumption) gJ hm,ak ho];rw[ak ho]at I;exact (aN.fold ((I.pick (ah (cB W p c) A.xs)).rM (Nat.le_succ c)) B p (c+1) v A hA).sub⟩
   have ho:¬ (t.a<0∨(m.2.2.length:Int)≤t.a):=by
    simp at bk;omega
   refine RT 2 E I ?_;exact⟨by rw[uW (by assumption) gJ hm,ag ho],by
    rw[uW (by assumption) gJ hm,ag ho];rw[ag ho]at I;exact (aN.fold ((I.pick (ah (cB W p c) A.xs)).rM (Nat.le_succ c)) B p (c+1) { v with net:=v.net.set j (m.1,m.2.1,m.2.2.set t.a.toNat (m.2.2.getD t.a.toNat 0 ^^^ fU t.b)) } A ⟨hA.fq,hA.ps,hA.ev⟩).sub⟩
  refine IF 3 E I (λbO a E=>?_) λbO a E=>?_
  ·
   refine bQ 0 [5] [0,1,2,4,3003,1005,1006] E I λa w E I hH hC=>?_;refine RH 6 E I hH hC λa E=>?_;rw[gJ]at E;refine CL 0 E I (NF (I.pick (bK B.q (v.net.map cS))) hm) λa w E I=>?_;refine RN 0 E I λa E=>?_;rw[ag (by omega)];exact⟨⟨⟨by omega,by omega⟩,E.ab [0,5]⟩,I.sub⟩
  refine RN 0 E I λa E=>?_;rw[ak (by omega)];exact⟨⟨⟨by omega,by omega⟩,E.ab [0,5]⟩,I.sub⟩
 clear E;(try clear I);rintro a w ⟨⟨jz,E⟩,I⟩;refine aV 1 (λw0 w'=>Rd w' b5 0 [.int .i64 m.1,.int .i64 m.2.1,.slice am m.2.2.length jv]) [3,5] [0,1,4,3002,3005,1003,1006,7] E I λa w E I hH=>?_;have hC:=hH.at w (I.ai (b:=b5));refine RH 3 E I hH hC λa E=>?_;refine QH E (λw hc=>ae E (hc 1 _ rfl)) hC λa E=>?_;refine QH E (λw hc=>ae E (hc 2 _ rfl)) hC λa E=>?_;refine RH 0 E I hH hC λa E=>?_;refine CL 0 E I (rN ((I.pick (Sl 81 1 A.adL A.xs.length A.cL (A.xs.map cF))).pick (aa B.mb 107 (jI B A))) BJ) λa w E I=>?_;replace hC:=hH.at w (I.ai (b:=b5));rw[yT]at E;replace I:=aN.out (I.pick (ah (cB W p c) A.xs)) hx;refine RH 0 E I hH hC λa E=>?_;refine jA E rfl hM.Gj hM.Gk rfl (hM.recv _ _ c (an v m.2.1) m.2.2 am jv ky hw (by omega) (I.sl am).2 (λw' dc=>(dc.pick (Sl 5 1 am m.2.2.length jv (bc m.2.2))).cu am _ rfl rfl) (I.pick (x.J W p c (an v m.2.1)))) (by rfl) ?_;clear E I;rintro e w ⟨rfl,I⟩;refine⟨_,rfl,λa E=>?_⟩;refine RN 1 E I λa E=>?_;refine RT 0 E I ?_;exact⟨by rw[BL jz.1 jz.2 gJ hm],by
  rw[BL jz.1 jz.2 gJ hm];exact aN.put hA hx (Nat.le_succ c) (if t.fn=5 then v.net else v.net.eraseIdx j) I.sub⟩
end
end
section
section
variable {W w:World}{L:List SP}{n c d cL cE mb i j q:Nat}{ad adL adE:Option Addr}{p:Pr}{B:ju}{A:nO}{v u:Wd}{x:fB}{s s':Pl}{t:fH}{net:List Ml}{cf:Cf}{xs:List (fB×Pl)}{es:List ka}
theorem ju.Ok.less (h:B.Ok p d)(hc:c≤d):B.Ok p c:=⟨h.pr,h.sz,h.gs,ft hc h.c⟩
theorem aN.more (I:U W w (aN W B p c v::L))(h:c≤d):U W w (aN W B p d v::L):=by
 replace I:=aN.open I;obtain⟨A,hA,I⟩:=I;exact (aN.fold ((I.pick (ah (cB W p c) A.xs)).rM h) B p d v A hA).sub
theorem aN.wP (I:U W w (aN W B p c v::L)):∃ (adL:Option Addr) (cL:Nat) (adE:Option Addr) (cE:Nat) (xs:List (fB×Pl)) (es:List ka),(xs.map (·.1)=B.fq∧xs.map (·.2)=v.ps∧es.map (·.2.2)=v.ev) ∧
   U W w (aa B.mb 107 [.slice adL xs.length cL,pt B.q,.slice adE es.length cE]::Sl 81 1 adL xs.length cL (xs.map cF)::ah (cB W p c) xs::bK B.q (v.net.map cS)::Sl 90 1 adE es.length cE (es.map bx)::ah eA es::L):=by
 replace I:=aN.open I;obtain⟨⟨adL,cL,adE,cE,xs,es⟩,hA,I⟩:=I;exact⟨adL,cL,adE,cE,xs,es,⟨hA.fq,hA.ps,hA.ev⟩,I⟩
theorem aN.uX (I:U W w (aa B.mb 107 [.slice adL xs.length cL,pt B.q,.slice adE es.length cE]::Sl 81 1 adL xs.length cL (xs.map cF)::ah (cB W p c) xs::bK B.q (v.net.map cS)::Sl 90 1 adE es.length cE (es.map bx)::ah eA es::L))
   (h1:xs.map (·.1)=B.fq) (h2:xs.map (·.2)=v.ps) (h3:es.map (·.2.2)=v.ev):U W w (aN W B p c v::L) :=
 U.shut (M:=[_,_,_,_,_,_]) I λ_ h=>⟨⟨adL,cL,adE,cE,xs,es⟩,⟨h1,h2,h3⟩,h⟩
theorem GN {ps:List Pl}{fq:List fB}(h1:xs.map (·.1)=fq)(h2:xs.map (·.2)=ps)(hi:i<xs.length):∃ x,xs[i]?=some (x,ps.getD i BA)∧fq[i]?=some x:=by
 refine⟨xs[i].1,?_,by rw[← h1,bm,aE hi];rfl⟩;rw[aE hi,bn,← h2,bm,aE hi];rfl
theorem BM (I:U W w (ah (cB W p c) xs::L))(hx:xs[i]?=some (x,s)):U W w (x.J W p c s::ah (cB W p c) (xs.eraseIdx i)::L):=by
 obtain⟨hi,h1⟩:=a2.1 hx;have h2:=I.fu hi;rw[h1]at h2;exact h2
theorem ace (I:U W w (x.J W p d s'::ah (cB W p c) (xs.eraseIdx i)::L))(hx:xs[i]?=some (x,s))(h:c≤d):U W w (ah (cB W p d) (xs.set i (x,s'))::L):=by
 obtain⟨hi,h1⟩:=a2.1 hx;exact U.kI (f:=cB W p d) (x:=(x,s')) hi (((I.pick (ah (cB W p c) (xs.eraseIdx i))).rM h).pick (x.J W p d s'))
theorem NH (hx:xs[i]?=some (x,s)):(xs.set i (x,s')).map cF=xs.map cF∧(xs.set i (x,s')).map (·.1)=xs.map (·.1):=by
 obtain⟨hi,h1⟩:=a2.1 hx;constructor
 ·rw[List.map_set,show cF (x,s')=(xs.map cF)[i]'(by rw[bd];exact hi) from by rw[getElem_map,h1],set_getElem_self]
 ·rw[List.map_set];show (xs.map (·.1)).set i x=_;rw[show x=(xs.map (·.1))[i]'(by rw[bd];exact hi) from by rw[getElem_map,h1],set_getElem_self]
def BN (B:ju)(t:fH)(v:Wd)(z:Int):Prop:=z=7∨(z=0∧(0≤t.a∧t.a<v.ps.length)∧0≤t.b∧t.b<(an v t.a.toNat).k.workers∧∃ x M,B.fq[t.a.toNat]?=some x∧x.z=.mu M)
theorem BO (I:U W w (aN W B p c v::L))(hB:B.Ok p c)(hv:bL p cf c v)(hf:t.fn=1∨t.fn=2∨t.fn=8∨t.fn=7) :
   Calls prog 44 #[pt B.mb,.agg (dS t).toArray] w λe w'=>∃ z:Int,e=.returned (.int .i64 z)∧(t.fn≠7→z=(gv p t v).1)∧(t.fn=7→BN B t v z)∧U W w' (aN W B p (c+1) (gv p t v).2::L):=by
 by_cases h0:t.a<0∨(v.ps.length:Int)≤t.a
 ·refine (ab8 I h0).mono λe w' ⟨h,I⟩=>⟨7,h,λ_=>?_,λ_=>.inl rfl,?_⟩
  ·rw[gv,ak h0]
  ·rw[gv,ak h0];exact aN.more I (Nat.le_succ c)
 ·refine (ab9 (i:=t.a.toNat) I hB hv (by omega) hf (by omega)).mono λe w' ⟨z,h,h1,h2,I⟩=>⟨z,h,h1,λh7=>?_,I⟩;rcases h2 h7 with h3 | ⟨h3,h4,h5,h6⟩
  ·exact .inl h3
  ·exact .inr ⟨h3,by omega,h4,h5,h6⟩
theorem BQ (I:U W w (aN W B p c v::L))(hB:B.Ok p c)(hv:bL p cf c v)(hf:t.fn=3∨t.fn=4∨t.fn=5∨t.fn=6) :
   Calls prog 45 #[pt B.mb,.agg (dS t).toArray] w λe w'=>e=.returned (.int .i64 (gI p t v).1)∧U W w' (aN W B p (c+1) (gI p t v).2::L):=by
 by_cases h0:t.n<0∨(v.net.length:Int)≤t.n
 ·rw[NG h0];exact (acb I h0).mono λe w' ⟨h,I⟩=>⟨h,aN.more I (Nat.le_succ c)⟩
 ·exact acd (j:=t.n.toNat) I hB hv hf (by omega) (aE (by omega))
set_option maxHeartbeats 2000000 in
theorem NI (I:U W w (aN W B p c v::L))(hB:B.Ok p (c+10))(hv:bL p cf c v)(jY:9*c+100≤1000000000) :
   Calls prog 29 #[pt B.mb,.agg (dS t).toArray] w λe w'=>∃ z:Int,e=.returned (.int .i64 z)∧(t.fn≠7→z=(bw p t v).1)∧(t.fn=7→BN B t v z)∧U W w' (aN W B p (c+10) (lD (bw p t v).2)::L):=by
 have hu:=hv.step (s:=t);refine EN func29 ntmps29 rfl rfl λa E=>?_;refine BX 1 E I λb3 a w E I=>?_;change U W w (aa b3 58 (dS t)::_) at I;refine RN 5 E I λa E=>?_;replace E:=E.aM 9;refine RN 3 E I λa E=>?_;refine cc (M:=λa w=>(∃ z:Int,((t.fn≠7→z=(bw p t v).1)∧(t.fn=7→BN B t v z))∧Fr a 56 [(0,pt B.mb),(5,.int .i64 z)])∧U W w (aN W B p (c+1) (bw p t v).2::L)) ?_ ?_
 ·
  refine IF 7 E I (λao a E=>?_) λao a E=>?_
  ·
   refine bh 3 E I (BO (I.pick (aN W B p c v)) (hB.less (by omega)) hv (by omega)) λz a w E ⟨cU,eN,I⟩=>?_;refine RN 1 E I λa E=>?_
   first
    | (have aS : bw p t v = gv p t v := by rw [bw, ag (by omega), ag (by omega)]
       rw[aS];exact⟨⟨z,⟨cU,eN⟩,E.ab [0,5]⟩,I.sub⟩)
    | (have aS : bw p t v = gI p t v := by rw [bw, ag (by omega), ak (by omega)]
       rw[aS];exact⟨⟨_,⟨λ_=>rfl,λh=>by omega⟩,E.ab [0,5]⟩,I.sub⟩)
    | (have aS : bw p t v = (1, v) := by rw [bw, ak (by omega)]
       rw[aS];exact⟨⟨1,⟨λ_=>rfl,λh=>by omega⟩,E.ab [0,5]⟩,(aN.more (I.pick (aN W B p c v)) (Nat.le_succ c)).sub⟩)
  refine IF 3 E I (λay a E=>?_) λay a E=>?_
  ·
   refine bh 3 E I (BO (I.pick (aN W B p c v)) (hB.less (by omega)) hv (by omega)) λz a w E ⟨cU,eN,I⟩=>?_;refine RN 1 E I λa E=>?_
   first
    | (have aS : bw p t v = gv p t v := by rw [bw, ag (by omega), ag (by omega)]
       rw[aS];exact⟨⟨z,⟨cU,eN⟩,E.ab [0,5]⟩,I.sub⟩)
    | (have aS : bw p t v = gI p t v := by rw [bw, ag (by omega), ak (by omega)]
       rw[aS];exact⟨⟨_,⟨λ_=>rfl,λh=>by omega⟩,E.ab [0,5]⟩,I.sub⟩)
    | (have aS : bw p t v = (1, v) := by rw [bw, ak (by omega)]
       rw[aS];exact⟨⟨1,⟨λ_=>rfl,λh=>by omega⟩,E.ab [0,5]⟩,(aN.more (I.pick (aN W B p c v)) (Nat.le_succ c)).sub⟩)
  refine IF 3 E I (λbk a E=>?_) λbk a E=>?_
  ·
   refine bh 3 E I (BO (I.pick (aN W B p c v)) (hB.less (by omega)) hv (by omega)) λz a w E ⟨cU,eN,I⟩=>?_;refine RN 1 E I λa E=>?_
   first
    | (have aS : bw p t v = gv p t v := by rw [bw, ag (by omega), ag (by omega)]
       rw[aS];exact⟨⟨z,⟨cU,eN⟩,E.ab [0,5]⟩,I.sub⟩)
    | (have aS : bw p t v = gI p t v := by rw [bw, ag (by omega), ak (by omega)]
       rw[aS];exact⟨⟨_,⟨λ_=>rfl,λh=>by omega⟩,E.ab [0,5]⟩,I.sub⟩)
    | (have aS : bw p t v = (1, v) := by rw [bw, ak (by omega)]
       rw[aS];exact⟨⟨1,⟨λ_=>rfl,λh=>by omega⟩,E.ab [0,5]⟩,(aN.more (I.pick (aN W B p c v)) (Nat.le_succ c)).sub⟩)
  refine IF 2 E I (λbO a E=>?_) λbO a E=>?_
  ·
   refine bh 2 E I (BO (I.pick (aN W B p c v)) (hB.less (by omega)) hv (by omega)) λz a w E ⟨cU,eN,I⟩=>?_;refine RN 1 E I λa E=>?_
   first
    | (have aS : bw p t v = gv p t v := by rw [bw, ag (by omega), ag (by omega)]
       rw[aS];exact⟨⟨z,⟨cU,eN⟩,E.ab [0,5]⟩,I.sub⟩)
    | (have aS : bw p t v = gI p t v := by rw [bw, ag (by omega), ak (by omega)]
       rw[aS];exact⟨⟨_,⟨λ_=>rfl,λh=>by omega⟩,E.ab [0,5]⟩,I.sub⟩)
    | (have aS : bw p t v = (1, v) := by rw [bw, ak (by omega)]
       rw[aS];exact⟨⟨1,⟨λ_=>rfl,λh=>by omega⟩,E.ab [0,5]⟩,(aN.more (I.pick (aN W B p c v)) (Nat.le_succ c)).sub⟩)
  refine IF 4 E I (λeE a E=>?_) λeE a E=>?_
  ·
   refine CL 3 E I (BQ (I.pick (aN W B p c v)) (hB.less (by omega)) hv (by omega)) λa w E I=>?_;refine RN 1 E I λa E=>?_
   first
    | (have aS : bw p t v = gv p t v := by rw [bw, ag (by omega), ag (by omega)]
       rw[aS];exact⟨⟨z,⟨cU,eN⟩,E.ab [0,5]⟩,I.sub⟩)
    | (have aS : bw p t v = gI p t v := by rw [bw, ag (by omega), ak (by omega)]
       rw[aS];exact⟨⟨_,⟨λ_=>rfl,λh=>by omega⟩,E.ab [0,5]⟩,I.sub⟩)
    | (have aS : bw p t v = (1, v) := by rw [bw, ak (by omega)]
       rw[aS];exact⟨⟨1,⟨λ_=>rfl,λh=>by omega⟩,E.ab [0,5]⟩,(aN.more (I.pick (aN W B p c v)) (Nat.le_succ c)).sub⟩)
  refine IF 3 E I (λmW a E=>?_) λmW a E=>?_
  ·
   refine CL 3 E I (BQ (I.pick (aN W B p c v)) (hB.less (by omega)) hv (by omega)) λa w E I=>?_;refine RN 1 E I λa E=>?_
   first
    | (have aS : bw p t v = gv p t v := by rw [bw, ag (by omega), ag (by omega)]
       rw[aS];exact⟨⟨z,⟨cU,eN⟩,E.ab [0,5]⟩,I.sub⟩)
    | (have aS : bw p t v = gI p t v := by rw [bw, ag (by omega), ak (by omega)]
       rw[aS];exact⟨⟨_,⟨λ_=>rfl,λh=>by omega⟩,E.ab [0,5]⟩,I.sub⟩)
    | (have aS : bw p t v = (1, v) := by rw [bw, ak (by omega)]
       rw[aS];exact⟨⟨1,⟨λ_=>rfl,λh=>by omega⟩,E.ab [0,5]⟩,(aN.more (I.pick (aN W B p c v)) (Nat.le_succ c)).sub⟩)
  refine IF 3 E I (λmo a E=>?_) λmo a E=>?_
  ·
   refine CL 3 E I (BQ (I.pick (aN W B p c v)) (hB.less (by omega)) hv (by omega)) λa w E I=>?_;refine RN 1 E I λa E=>?_
   first
    | (have aS : bw p t v = gv p t v := by rw [bw, ag (by omega), ag (by omega)]
       rw[aS];exact⟨⟨z,⟨cU,eN⟩,E.ab [0,5]⟩,I.sub⟩)
    | (have aS : bw p t v = gI p t v := by rw [bw, ag (by omega), ak (by omega)]
       rw[aS];exact⟨⟨_,⟨λ_=>rfl,λh=>by omega⟩,E.ab [0,5]⟩,I.sub⟩)
    | (have aS : bw p t v = (1, v) := by rw [bw, ak (by omega)]
       rw[aS];exact⟨⟨1,⟨λ_=>rfl,λh=>by omega⟩,E.ab [0,5]⟩,(aN.more (I.pick (aN W B p c v)) (Nat.le_succ c)).sub⟩)
  refine IF 2 E I (λmq a E=>?_) λmq a E=>?_
  ·
   refine CL 2 E I (BQ (I.pick (aN W B p c v)) (hB.less (by omega)) hv (by omega)) λa w E I=>?_;refine RN 1 E I λa E=>?_
   first
    | (have aS : bw p t v = gv p t v := by rw [bw, ag (by omega), ag (by omega)]
       rw[aS];exact⟨⟨z,⟨cU,eN⟩,E.ab [0,5]⟩,I.sub⟩)
    | (have aS : bw p t v = gI p t v := by rw [bw, ag (by omega), ak (by omega)]
       rw[aS];exact⟨⟨_,⟨λ_=>rfl,λh=>by omega⟩,E.ab [0,5]⟩,I.sub⟩)
    | (have aS : bw p t v = (1, v) := by rw [bw, ak (by omega)]
       rw[aS];exact⟨⟨1,⟨λ_=>rfl,λh=>by omega⟩,E.ab [0,5]⟩,(aN.more (I.pick (aN W B p c v)) (Nat.le_succ c)).sub⟩)
  refine RN 0 E I λa E=>?_
  first
   | (have aS : bw p t v = gv p t v := by rw [bw, ag (by omega), ag (by omega)]
      rw[aS];exact⟨⟨z,⟨cU,eN⟩,E.ab [0,5]⟩,I.sub⟩)
   | (have aS : bw p t v = gI p t v := by rw [bw, ag (by omega), ak (by omega)]
      rw[aS];exact⟨⟨_,⟨λ_=>rfl,λh=>by omega⟩,E.ab [0,5]⟩,I.sub⟩)
   | (have aS : bw p t v = (1, v) := by rw [bw, ak (by omega)]
      rw[aS];exact⟨⟨1,⟨λ_=>rfl,λh=>by omega⟩,E.ab [0,5]⟩,(aN.more (I.pick (aN W B p c v)) (Nat.le_succ c)).sub⟩)
 clear E;(try clear I);rintro a w ⟨⟨z,hz,E⟩,I⟩;refine RN 2 E I λa E=>?_;generalize (bw p t v).2=u at I hu ⊢;replace I:=aN.wP I;obtain⟨adL,cL,adE,cE,yU,yV,⟨eH,df,ed⟩,I⟩:=I;have bW:yU.length=u.ps.length:=by rw[← df,bd]
 have rO:yV.length=u.ps.length:=by rw[← hu.ev,← ed,bd]
 have wG:=hu.len;have ky:=hB.c;refine RN 6 E I λa E=>?_;refine aO (λμ a w=>∃ (i:Nat) (xs:List (fB×Pl)) (es:List ka),(μ=u.ps.length-i∧(i≤u.ps.length∧xs.length=u.ps.length∧es.length=u.ps.length)∧xs.map (·.1)=B.fq∧xs.map (·.2)=(cz u i).ps∧es.map (·.2.2)=(cz u i).ev)∧Fr a 56 [(0,pt B.mb),(5,.int .i64 z),(31,.slice adL u.ps.length cL),(32,.int .i64 u.ps.length),(33,.int .i64 i)]∧U W w (aa B.mb 107 [.slice adL u.ps.length cL,pt B.q,.slice adE u.ps.length cE]::Sl 81 1 adL u.ps.length cL (xs.map cF)::ah (cB W p (c+1+i)) xs::bK B.q (u.net.map cS)::Sl 90 1 adE u.ps.length cE (es.map bx)::ah eA es::L)) (u.ps.length) (⟨0,yU,yV,⟨rfl,⟨by omega,bW,rO⟩,eH,df,ed⟩,(by rw[bW]at E;exact E.ab [0,5,31,32,33]),(by rw[bW,rO]at I;exact I.sub)⟩) ?_;clear E I;rintro μ a w ⟨i,xs,es,⟨rfl,⟨hi,yW,yX⟩,uk,sV,qt⟩,E,I⟩;refine IF 3 E I (λjY a E=>?_) λjY a E=>?_
 ·
  have aH:i<u.ps.length:=by omega
  obtain⟨x,hx,oR⟩:∃ x,xs[i]?=some (x,an (cz u i) i)∧B.fq[i]?=some x:=GN uk sV (by omega);obtain⟨_,gX⟩:=a2.1 hx;have hM:=x.qw (W:=W) (p:=p) hB.pr hB.sz (hB.gs x (bH oR));have hd:=hu.cz (i:=i) (by omega);obtain⟨hw,c9,wO⟩:=hd.pl i (by rw[(qH u i).1];exact aH);have GO:=hd.kD;obtain⟨iy,iz,l,k9⟩:∃ iy iz l,es[i]?=some (iy,iz,l):=⟨_,_,_,aE (by omega)⟩;obtain⟨_,oS⟩:=a2.1 k9;have gF:l.length≤9*(c+2):=(GO l (by rw[← qt];exact cV.2 ⟨(iy,iz,l),by rw[← oS];exact getElem_mem _,rfl⟩)).1;have yT:(xs.map cF)[i]?=some (.iface x.z.t (.pointer (some x.z.ad))):=by rw[bm,hx];rfl
  refine RN 2 E I λa E=>?_;obtain⟨lX,ol,rfl,gl⟩:=(I.pick (Sl 81 1 adL u.ps.length cL (xs.map cF))).bV adL (by omega);have fE:=gl i _ yT;refine RN 2 E I λa E=>?_;refine SS E (ae E (fE)) λa E=>?_;refine RN 2 E I λa E=>?_;obtain⟨iK,oE,rfl,_⟩:=(I.pick (Sl 90 1 adE u.ps.length cE (es.map bx))).bV adE (by omega);refine aV 0 (λw0 w'=>Rd w' B.mb 0 [.slice (some ⟨lX,ol,none⟩) u.ps.length cL,pt B.q,.slice (some ⟨iK,oE,none⟩) u.ps.length cE]∧Rd w' iK oE (es.map bx)) [8,10,11,13,14] [0,1,2,4,5,6,7,9,12,3003,3008,3010,3011,1013,1014,15,1016] E I λa w E I hH=>?_;have hC:=hH.at w ⟨I.ai (b:=B.mb),I.cJ iK oE (by omega)⟩;refine RH 9 E I hH hC λa E=>?_;refine QH E (λw hc=>ae E (hc.1 2 _ rfl)) hC λa E=>?_;refine QH E (λw hc=>ae E (hc.1 2 _ rfl)) hC λa E=>?_;refine RH 1 E I hH hC λa E=>?_;refine QH E (λw hc=>ae E (hc.2 i (.slice iy l.length iz) (by rw[bm,k9];rfl))) hC λa E=>?_;replace I:=BM (I.pick (ah (cB W p (c+1+i)) xs)) hx;refine RH 0 E I hH hC λa E=>?_;refine jA E rfl hM.Gp hM.cE rfl (hM.events _ _ (c+1+i) (an (cz u i) i) (by omega) hw (I.pick (x.J W p (c+1+i) (an (cz u i) i)))) (by rfl) ?_;clear E I;rintro e w ⟨am,jv,rfl,I⟩;refine⟨_,rfl,λa E=>?_⟩;replace hC:=hH.at w ⟨I.ai (b:=B.mb),I.cJ iK oE (by omega)⟩;replace I:=(I.pick (ah eA es)).fu (i:=i) (by omega);rw[oS]at I;change U W w (Sl 135 1 iy l.length iz (l.map cA)::_) at I;have NJ:=hw.wc.kD;refine RH 0 E I hH hC λa E=>?_;refine g2 E rfl I underlying90 Ty.t135 rfl rfl (by decide) (λh0=>(I.pick (Sl 135 1 am (an (cz u i) i).k.ev.length jv ((an (cz u i) i).k.ev.map cA))).bV am h0) (by rw[bd,Nat.mul_one]) (Nz _) (by omega) λrq rr a w E I=>?_;replace hC:=hH.at w ⟨I.ai (b:=B.mb),I.cJ iK oE (by omega)⟩;have hcE:=((I.pick (Sl 90 1 (some ⟨iK,oE,none⟩) u.ps.length cE (es.map bx))).sl (some ⟨iK,oE,none⟩)).2;obtain⟨iV,pre,post,⟨h3,h4,h5,h6⟩,gB⟩:=(I.pick (Sl 90 1 (some ⟨iK,oE,none⟩) u.ps.length cE (es.map bx))).lG (by omega);replace I:=gB;clear gB;obtain⟨rfl,rfl⟩:iK=iV∧oE=pre.length:=by simpa using h5
  refine RH 1 E I hH hC λa E=>?_;refine ST 0 E I (λa w E I=>?_) (hlt:=(by simp only[aL,bd];omega));refine RN 2 E I λa E=>?_;have qv:(cz u i).ev.getD i []=l:=by rw[← qt,bn,bm,k9];rfl
  have GP:(es.map bx).set i (.slice rq (l.length+(an (cz u i) i).k.ev.length) rr)=(es.set i (rq,rr,l++(an (cz u i) i).k.ev)).map bx:=by
   rw[List.map_set,bx,aL]
  have du:=I;rw[yN (by rw[bd];omega),GP]at du;replace du:=U.iM (n:=u.ps.length) (c:=cE) (sz:=1) (du.jJ iK) (by rw[bd,bu];omega) h4 h6;have hj:=du.pick (ah (cB W p (c+1+i)) (xs.eraseIdx i));have hk:=ace (s':=⟨{ (an (cz u i) i).k with ev:=[] },(an (cz u i) i).g⟩) (hj.pick (x.J W p (c+1+i+1) ⟨{ (an (cz u i) i).k with ev:=[] },(an (cz u i) i).g⟩)) hx (Nat.le_succ _);have pL:Sl 135 1 rq (l.length+(an (cz u i) i).k.ev.length) rr (l.map cA++(an (cz u i) i).k.ev.map cA)=eA (rq,rr,l++(an (cz u i) i).k.ev):=by
   rw[eA,aL,cW]
  have hq:=(hk.pick (ah eA (es.eraseIdx i))).pick (Sl 135 1 rq (l.length+(an (cz u i) i).k.ev.length) rr (l.map cA++(an (cz u i) i).k.ev.map cA));rw[pL]at hq;have eN:=U.kI (f:=eA) (i:=i) (by omega) hq;refine⟨u.ps.length-(i+1),by omega,i+1,xs.set i (x,⟨{ (an (cz u i) i).k with ev:=[] },(an (cz u i) i).g⟩),es.set i (rq,rr,l++(an (cz u i) i).k.ev),⟨rfl,⟨by omega,by rw[bu];exact yW,by rw[bu];exact yX⟩,(NH hx).2.trans uk,?_,?_⟩,E.ab [0,5,31,32,33],?_⟩
  ·rw[List.map_set,sV];rfl
  ·rw[List.map_set,qt,← qv];rfl
  ·rw[(NH hx).1];exact eN.sub
 refine RT 3 E I ?_;obtain rfl:i=u.ps.length:=by omega
 refine⟨z,rfl,hz.1,hz.2,?_⟩;have du:=(I.pick (ah (cB W p (c+1+u.ps.length)) xs)).rM (d:=c+10) (by omega);refine aN.uX (adL:=adL) (cL:=cL) (adE:=adE) (cE:=cE) (xs:=xs) (es:=es) ?_ uk sV qt;rw[yW,yX,show (lD u).net=u.net from (qH u _).2.1];exact du.sub
end
end
section
def mI (p:Pr)(G:List (List UInt8))(f s:Nat):Prop:=f≤aU G∧(0<f→s=kE p G (f-1))
theorem mI.ext {p:Pr}{G G':List (List UInt8)}{f s:Nat}(h:mI p G f s)(he:Ext G G')(h0:G≠[]):mI p G' f s :=
 ⟨ft h.1 (he.front h0),λhf=>by rw[he.kE (by have:=h.1;omega)];exact h.2 hf⟩
theorem BR {p:Pr}{k:Ks}(hm:k.mr=(List.range k.mr.length).map (kE p k.ls)){f:Nat}(hf:f<k.mr.length):k.mr.getD f 0=kE p k.ls f:=by
 rw[hm,bn,bm,getElem?_range hf];rfl
theorem NK {p:Pr}{G:List (List UInt8)}{k:Ks}(hm:k.mr=(List.range k.mr.length).map (kE p k.ls))(hl:k.mr.length≤aU k.ls)(he:Ext k.ls G)
   (hw:∀ i,i<k.ps.length→mI p G (au k i).frame (au k i).sum):held k:=λi hi ⟨_,h1,h2,h3⟩=>h3 (by
 rw[BR hm (by omega),← he.kE (p:=p) (f:=(au k i).frame-1) (by omega)];exact ((hw i hi).2 (by omega)).symm)
theorem NL {p:Pr}{G:List (List UInt8)}:∀ (n:Nat) {s:Pl},WP p s→Ext s.k.ls G→(∀ i,i<s.k.ps.length→mI p G (au s.k i).frame (au s.k i).sum)→n≤aw s.k-s.k.mr.length →
   ∃ mr,(iw p n s).k={ s.k with mr:=mr }
 | 0,s,_,_,_,_=>⟨s.k.mr,rfl⟩
 | n+1,s,h,he,hw,hn=>by
  have h9:=h.wc.nc;have h8:=h.wc.lx;obtain⟨h1,h2,h3⟩:=h.one (by omega);have hg:e0 p s.k.mr.length (bJ s.k.ls s.k.mr.length) s.g=ly p s.k.ls (s.k.mr.length+1):=by rw[K5,h.rC]
  have hk:(nJ p s).k={ s.k with mr:=s.k.mr++[kE p s.k.ls s.k.mr.length] }:=by
   show lu s.k _=_;rw[lu,ak (by omega),hg];refine held.kZ (NK (p:=p) (G:=G) ?_ ?_ he hw)
   ·show s.k.mr++[_]=(List.range (s.k.mr++[_]).length).map (kE p s.k.ls);rw[aL,jl,range_succ,cW,← h.marks];rfl
   ·show (s.k.mr++[_]).length≤aU s.k.ls;rw[aL,jl];simp only[aw]at hn;omega
  obtain⟨mr,h4⟩:=NL n h1 (by rw[h2];exact he) (λi hi=>by rw[hk]at hi ⊢;exact hw i hi) (by rw[aw,h2,h3];simp only[aw]at hn;omega);exact⟨mr,by rw[iw,h4,hk]⟩
theorem GQ {p:Pr}{G:List (List UInt8)}{s:Pl}(h:WP p s)(he:Ext s.k.ls G)(hw:∀ i,i<s.k.ps.length→mI p G (au s.k i).frame (au s.k i).sum):∃ mr,(ew p s).k={ s.k with mr:=mr } :=
 NL _ h he hw (a7 _)
structure gK (p:Pr)(G:List (List UInt8))(s:Pl):Prop where
 wf:cw p s
 ext:Ext s.k.ls G
 own:s.k.ls.getD s.k.me []=G.getD s.k.me []
 pe:∀ i,i<s.k.ps.length→(au s.k i).apart=false∧mI p G (au s.k i).frame (au s.k i).sum
structure uY (p:Pr)(G:List (List UInt8))(q:Pk):Prop where
 may:hL q
 sum:q.sum<4294967296
 uZ:q.kind=1→q.first.toNat+q.al.length≤(G.getD q.aW.toNat []).length∧q.al=((G.getD q.aW.toNat []).drop q.first.toNat).take q.al.length
 word:q.kind=1→mI p G q.frame.toNat q.sum
theorem uY.ext {p:Pr}{G G':List (List UInt8)}{q:Pk}(h:uY p G q)(he:Ext G G')(h0:G≠[])(hq:q.aW.toNat<G.length):uY p G' q:=by
 refine⟨h.may,h.sum,λhk=>?_,λhk=>(h.word hk).ext he h0⟩;obtain⟨h1,h2⟩:=h.uZ hk;obtain⟨t,ht⟩:=he.2 _ hq;rw[ht,aL];refine⟨by omega,?_⟩;rw[List.drop_append_of_le_length (by omega),List.take_append_of_le_length (by rw[c3];omega)];exact h2
section
variable {p:Pr}{G G':List (List UInt8)}{s:Pl}{b:UInt8}{q:Pk}
theorem gK.words (h:gK p G s):∀ i,i<s.k.ps.length→mI p G (au s.k i).frame (au s.k i).sum:=λi hi=>(h.pe i hi).2
theorem gK.lens (h:gK p G s):G.length=s.k.n:=by rw[h.ext.1];exact h.wf.wc.ls
theorem gK.GR (h:gK p G s):G≠[]:=λe=>by
 have h1:=h.lens;have h2:=h.wf.wc.n;rw[e,length_nil]at h1;omega
theorem gK.more (h:gK p G s)(he:Ext G G')(ho:G'.getD s.k.me []=G.getD s.k.me []):gK p G' s :=
 ⟨h.wf,h.ext.trans he,h.own.trans ho.symm,λi hi=>⟨(h.pe i hi).1,(h.pe i hi).2.ext he h.GR⟩⟩
theorem gK.al (h:gK p G s)(h0:(dE p b s).1=0) :
   gK p (G.set s.k.me (G.getD s.k.me []++[b])) (dE p b s).2∧∃ mr,(dE p b s).2.k={ s.k with ls:=s.k.ls.set s.k.me (s.k.ls.getD s.k.me []++[b]),mr:=mr }:=by
 obtain⟨h1,h2,h3,h4⟩:=uv (k:=s.k) (b:=b) h0;have he:=ux b s.k;have ln:=h.wf.toWP.more (h.wf.wc.al b) (h.wf.held.al b) he.1 he.2;have ek:s.k.me<s.k.ls.length:=by rw[h.wf.wc.ls];exact h.wf.wc.me
 have NM:s.k.me<G.length:=by rw[h.ext.1];exact ek
 have jw:Ext G (G.set s.k.me (G.getD s.k.me []++[b])):=Ext.set;have hx:Ext (cZ b s.k).2.ls (G.set s.k.me (G.getD s.k.me []++[b])):=by
  rw[h4];refine⟨by simp only[bu];exact h.ext.1,λi hi=>?_⟩;simp only[bu]at hi;by_cases e:i=s.k.me
  ·subst e;refine⟨[],?_⟩;simp only;rw[bn,getElem?_set_self NM,bn (l:=s.k.ls.set _ _),getElem?_set_self ek,h.own];simp
  ·obtain⟨t,ht⟩:=h.ext.2 i hi;refine⟨t,?_⟩;simp only;rw[bn,getElem?_set_ne (λe2=>e e2.symm),bn (l:=s.k.ls.set _ _),getElem?_set_ne (λe2=>e e2.symm),← bn,← bn];exact ht
 have gD:(cZ b s.k).2.ps=s.k.ps:=by rw[h4]
 have zt:∀ i,i<s.k.ps.length→mI p (G.set s.k.me (G.getD s.k.me []++[b])) (au (cZ b s.k).2 i).frame (au (cZ b s.k).2 i).sum:=λi hi=>by
  have:=(h.words i hi).ext jw h.GR;rw[au,gD];exact this
 obtain⟨mr,hk⟩:=GQ (s:=⟨(cZ b s.k).2,s.g⟩) ln hx (λi hi=>zt i (by rw[← gD];exact hi));have cd:(dE p b s).2.k={ (cZ b s.k).2 with mr:=mr }:=hk;refine⟨⟨h.wf.al b,by rw[cd];exact hx,?_,λi hi=>?_⟩,mr,by rw[cd,h4]⟩
 ·rw[cd];show (cZ b s.k).2.ls.getD (cZ b s.k).2.me []=(G.set s.k.me (G.getD s.k.me []++[b])).getD (cZ b s.k).2.me [];rw[h4];simp only;rw[bn,getElem?_set_self ek,bn (l:=G.set _ _),getElem?_set_self NM,h.own]
 ·rw[cd]at hi ⊢;have dH:i<s.k.ps.length:=by rw[← gD];exact hi
  refine⟨?_,zt i dH⟩;show (au (cZ b s.k).2 i).apart=false;rw[au,gD];exact (h.pe i dH).1
theorem NN (h:cw p s)(h0:(dE p b s).1≠0):(dE p b s).2=s:=by
 show ew p ⟨(cZ b s.k).2,s.g⟩=s;rw[uw h0];exact h.ew
theorem acf {bs:List UInt8}(h:cw p s)(h0:(dF p bs s).1≠0):(dF p bs s).2=s:=by
 show ew p ⟨(dw bs s.k).2,s.g⟩=s;rw[wj h0];exact h.ew
theorem acg {l t P:List UInt8}{f:Nat}(I:f+P.length≤(l++t).length)(hP:P=((l++t).drop f).take P.length):∃ u,l++t=dp l f P++u:=by
 unfold dp;split
 ·exact⟨t,rfl⟩
 ·rename_i hf;have h1:P.drop (l.length-f)=t.take (P.length-(l.length-f)):=by
   conv=>lhs;rw[hP]
   rw[List.drop_take,drop_drop,show f+(l.length-f)=l.length from by omega,drop_left]
  rw[h1,List.take_take];exact⟨t.drop (min (1000-l.length) (P.length-(l.length-f))),by rw[ds,jK]⟩
theorem NO (h:cw p s)(hq:hL q)(I:q.sum<4294967296)(hc:s.k.cl=false)(ht:q.to=s.k.me)(hf:q.aW<s.k.n)(b6:q.id=s.k.id):dw (aR q) s.k=(0,fQ s.k q):=by
 rw[dw,ag (by rw[hc];decide),Kc hq I];show (if _ then _ else _)=_;rw[ag];rintro (h | h | h)
 ·exact h ht
 ·omega
 ·exact h b6
theorem gK.yn (h:gK p G s)(hq:uY p G q)(hc:s.k.cl=false)(ht:q.to=s.k.me)(hf:q.aW<s.k.n)(b6:q.id=s.k.id)(h1:q.kind=1) :
   gK p G (dF p (aR q) s).2∧(dF p (aR q) s).1=0∧∃ mr,(dF p (aR q) s).2.k={ s.k with ls:=s.k.ls.set q.aW.toNat (dp (s.k.ls.getD q.aW.toNat []) q.first.toNat q.al),ps:=s.k.ps.set q.aW.toNat (fP s.k.now (aD s.k) q (au s.k q.aW.toNat)),mr:=mr }:=by
 have hr:=NO h.wf hq.may hq.sum hc ht hf b6;have fp:q.aW.toNat<s.k.n:=by have:=hq.may.1;omega
 have bD:q.aW.toNat≠s.k.me:=λe=>hq.may.2.2.1 (by have:=hq.may.1;have:=hq.may.2.1;omega);have aH:q.aW.toNat<s.k.ls.length:=by rw[h.wf.wc.ls];exact fp
 have rP:q.aW.toNat<s.k.ps.length:=by rw[h.wf.wc.ps];exact fp
 obtain⟨t,NP⟩:=h.ext.2 _ aH;obtain⟨nV,du⟩:=hq.uZ h1;rw[NP]at nV du;obtain⟨u,hu⟩:=acg nV du;have hx:Ext (s.k.ls.set q.aW.toNat (dp (s.k.ls.getD q.aW.toNat []) q.first.toNat q.al)) G:=by
  refine⟨by rw[bu];exact h.ext.1,λi hi=>?_⟩;rw[bu]at hi;by_cases e:i=q.aW.toNat
  ·subst e;refine⟨u,?_⟩;rw[bn (l:=s.k.ls.set _ _),getElem?_set_self aH,NP];exact hu
  ·obtain⟨t2,FR⟩:=h.ext.2 i hi;refine⟨t2,?_⟩;rw[bn (l:=s.k.ls.set _ _),getElem?_set_ne (λe2=>e e2.symm),← bn];exact FR
 have NQ:∀ i,i<s.k.ps.length→(if i=q.aW.toNat then fP s.k.now (aD s.k) q (au s.k q.aW.toNat) else au s.k i).apart=false∧mI p G (if i=q.aW.toNat then fP s.k.now (aD s.k) q (au s.k q.aW.toNat) else au s.k i).frame (if i=q.aW.toNat then fP s.k.now (aD s.k) q (au s.k q.aW.toNat) else au s.k i).sum:=λi hi=>by
  by_cases e:i=q.aW.toNat
  ·rw[ak e];have h9:=h.pe _ rP;unfold fP;simp only;split
   ·exact⟨h9.1,hq.word h1⟩
   ·exact⟨h9.1,h9.2⟩
  ·rw[ag e];exact h.pe i hi
 have tO:∀ i,i<s.k.ps.length→mI p G (au ({ s.k with ls:=s.k.ls.set q.aW.toNat (dp (s.k.ls.getD q.aW.toNat []) q.first.toNat q.al),ps:=s.k.ps.set q.aW.toNat (fP s.k.now (aD s.k) q (au s.k q.aW.toNat)) }:Ks) i).frame (au ({ s.k with ls:=s.k.ls.set q.aW.toNat (dp (s.k.ls.getD q.aW.toNat []) q.first.toNat q.al),ps:=s.k.ps.set q.aW.toNat (fP s.k.now (aD s.k) q (au s.k q.aW.toNat)) }:Ks) i).sum:=λi hi=>by
  rw[au,wi rP];exact (NQ i hi).2
 have hh:fQ s.k q={ s.k with ls:=s.k.ls.set q.aW.toNat (dp (s.k.ls.getD q.aW.toNat []) q.first.toNat q.al),ps:=s.k.ps.set q.aW.toNat (fP s.k.now (aD s.k) q (au s.k q.aW.toNat)) }:=by
  rw[fQ,ag (by omega)];refine held.kZ (NK (p:=p) (G:=G) ?_ ?_ hx (λi hi=>tO i (by simpa using hi)))
  ·have eX:=(rD (aR q) s.k).2;rw[hr]at eX;have h5:=E6 (k:=s.k) (p:=q);rw[fQ,ag (by omega)]at h5;obtain⟨ps,ev,h6,_⟩:=wg { s.k with ls:=s.k.ls.set q.aW.toNat (dp (s.k.ls.getD q.aW.toNat []) q.first.toNat q.al),ps:=s.k.ps.set q.aW.toNat (fP s.k.now (aD s.k) q (au s.k q.aW.toNat)) };rw[h6]at h5;have h7:Ext s.k.ls (s.k.ls.set q.aW.toNat (dp (s.k.ls.getD q.aW.toNat []) q.first.toNat q.al)):=h5.2;show s.k.mr=_
   conv=>lhs;rw[h.wf.marks]
   refine List.map_congr_left λi hi=>?_;rw[mem_range]at hi;have hl:=h.wf.low;simp only[aw]at hl;rw[h7.kE (by omega)]
  ·have h5:=(E6 (k:=s.k) (p:=q)).2;rw[fQ,ag (by omega)]at h5;obtain⟨ps,ev,h6,_⟩:=wg { s.k with ls:=s.k.ls.set q.aW.toNat (dp (s.k.ls.getD q.aW.toNat []) q.first.toNat q.al),ps:=s.k.ps.set q.aW.toNat (fP s.k.now (aD s.k) q (au s.k q.aW.toNat)) };rw[h6]at h5;have h7:Ext s.k.ls (s.k.ls.set q.aW.toNat (dp (s.k.ls.getD q.aW.toNat []) q.first.toNat q.al)):=h5;exact ft h.wf.low (h7.front h.wf.wc.k0)
 have he:=rD (aR q) s.k;have ln:=h.wf.toWP.more (h.wf.wc.recv (aR q)).1 ((h.wf.wc.recv (aR q)).2 h.wf.held) he.1 he.2;have fO:(dw (aR q) s.k).2=fQ s.k q:=by rw[hr]
 obtain⟨mr,hk⟩:=GQ (G:=G) (s:=⟨(dw (aR q) s.k).2,s.g⟩) ln (by show Ext (dw (aR q) s.k).2.ls G;rw[fO,hh];exact hx) (λi hi=>by
  change i<(dw (aR q) s.k).2.ps.length at hi;show mI p G (au (dw (aR q) s.k).2 i).frame (au (dw (aR q) s.k).2 i).sum;rw[fO,hh]at hi ⊢;exact tO i (by simpa using hi))
 have cd:(dF p (aR q) s).2.k={ fQ s.k q with mr:=mr }:=by
  have:(dF p (aR q) s).2.k={ (dw (aR q) s.k).2 with mr:=mr }:=hk;rw[this,fO]
 rw[hh]at cd;refine⟨⟨h.wf.recv _,by rw[cd];exact hx,?_,λi hi=>?_⟩,by show (dw (aR q) s.k).1=0;rw[hr],mr,cd⟩
 ·rw[cd];show (s.k.ls.set q.aW.toNat _).getD s.k.me []=_;rw[bn (l:=s.k.ls.set _ _),getElem?_set_ne bD,← bn];exact h.own
 ·rw[cd]at hi ⊢;have dH:i<s.k.ps.length:=by simpa using hi
  have:=NQ i dH;rw[au,wi rP];exact this
theorem gK.bye (h:gK p G s)(hq:uY p G q)(hc:s.k.cl=false)(ht:q.to=s.k.me)(hf:q.aW<s.k.n)(b6:q.id=s.k.id)(h1:q.kind=2) :
   gK p G (dF p (aR q) s).2∧(dF p (aR q) s).1=0∧(dF p (aR q) s).2.k={ s.k with ps:=s.k.ps.set q.aW.toNat { au s.k q.aW.toNat with heard:=s.k.now },ev:=s.k.ev++[(1,q.aW.toNat,0)],cl:=true }:=by
 have hr:=NO h.wf hq.may hq.sum hc ht hf b6;have fp:q.aW.toNat<s.k.n:=by have:=hq.may.1;omega
 have rP:q.aW.toNat<s.k.ps.length:=by rw[h.wf.wc.ps];exact fp
 have hh:fQ s.k q={ s.k with ps:=s.k.ps.set q.aW.toNat { au s.k q.aW.toNat with heard:=s.k.now },ev:=s.k.ev++[(1,q.aW.toNat,0)],cl:=true }:=by
  rw[fQ,ak h1]
 have zA:=h.wf.with (k':=fQ s.k q) (by have:=(h.wf.wc.recv (aR q)).1;rw[hr]at this;exact this) (by have:=(h.wf.wc.recv (aR q)).2 h.wf.held;rw[hr]at this;exact this) (by rw[hh]) (by rw[hh]);have hk:(dF p (aR q) s).2=⟨fQ s.k q,s.g⟩:=by
  show ew p ⟨(dw (aR q) s.k).2,s.g⟩=_;rw[hr];exact zA.ew
 refine⟨⟨by rw[hk];exact zA,by rw[hk,hh];exact h.ext,by rw[hk,hh];exact h.own,λi hi=>?_⟩,by show (dw (aR q) s.k).1=0;rw[hr],by rw[hk,hh]⟩;rw[hk,hh]at hi ⊢;have dH:i<s.k.ps.length:=by simpa using hi
 rw[au,wi rP];by_cases e:i=q.aW.toNat
 ·rw[ak e];exact h.pe _ rP
 ·rw[ag e];exact h.pe i dH
theorem gK.Gz (h:gK p G s){i:Nat}(hi:i<s.k.n)(bD:i≠s.k.me)(hh:(au s.k i).has≤aD s.k):uY p G (dK s.k i):=by
 have rQ:=h.wf.wc;have hn:=rQ.n;have ek:=rQ.me;have b6:=rQ.id;have iv:=rQ.pI hi;have gS:=rQ.lx;have ve:=rQ.lW hi;have Lm:=rQ.mr;have e1:(dK s.k i).aW.toNat=s.k.me:=Int.toNat_natCast _;have e2:(dK s.k i).first.toNat=(au s.k i).has:=Int.toNat_natCast _;have e3:(dK s.k i).frame.toNat=s.k.mr.length:=Int.toNat_natCast _;have zD:=h.own;have lU:s.k.mr.getLastD 0<4294967296:=by
  rw[getLastD_eq_getLast?];cases hl:s.k.mr.getLast? with
  | none=>simp
  | some x=>simpa using rQ.rB x (List.mem_of_getLast? hl)
 refine⟨?_,lU,λ_=>?_,λ_=>?_⟩
 ·refine⟨⟨?_,?_⟩,⟨?_,?_⟩,?_,?_,.inl ⟨rfl,⟨?_,?_⟩,⟨?_,?_⟩,⟨?_,?_⟩,?_⟩⟩
  all_goals first | (simp only[dK];omega) | skip
  ·show (((s.k.ls.getD s.k.me []).drop (au s.k i).has).take 32).length≤32;rw[ep];omega
 ·rw[e1,e2,← zD];show _+(((s.k.ls.getD s.k.me []).drop (au s.k i).has).take 32).length≤_∧((s.k.ls.getD s.k.me []).drop (au s.k i).has).take 32=((s.k.ls.getD s.k.me []).drop _).take (((s.k.ls.getD s.k.me []).drop (au s.k i).has).take 32).length;rw[ep,c3];simp only[aD]at hh;refine⟨by omega,?_⟩;rw[List.take_eq_take_iff,c3];omega
 ·rw[e3];have dZ:s.k.mr.length=aU s.k.ls:=h.wf.full;refine⟨by rw[dZ];exact h.ext.front rQ.k0,λh0=>?_⟩;have tN:s.k.mr.getLastD 0=s.k.mr.getD (s.k.mr.length-1) 0:=by
   rw[getLastD_eq_getLast?,List.getLast?_eq_getElem?,bn]
  show s.k.mr.getLastD 0=_;rw[tN,BR h.wf.marks (by omega),h.ext.kE (by omega)]
theorem gK.agree {s2:Pl}(h:gK p G s)(h2:gK p G s2){f:Nat}(h1:f<aw s.k)(h3:f<aw s2.k):bJ s.k.ls f=bJ s2.k.ls f∧s.k.mr.getD f 0=s2.k.mr.getD f 0:=by
 have MF:=h.wf.full;have zn:=h2.wf.full;refine⟨(h.ext.E5 h1).symm.trans (h2.ext.E5 h3),?_⟩;rw[BR h.wf.marks (by omega),BR h2.wf.marks (by omega),← h.ext.kE h1,← h2.ext.kE h3]
theorem gK.tick (h:gK p G s):gK p G ⟨(br s.k).2,s.g⟩:=by
 have h1:=AR s.k;have h2:(br s.k).2.me=s.k.me∧(br s.k).2.ps=s.k.ps:=by
  rcases wm s.k with e | ⟨_,e | ⟨i,_,e⟩⟩ <;> rw[e] <;> exact⟨rfl,rfl⟩
 refine⟨h.wf.tick,by show Ext (br s.k).2.ls G;rw[h1.2];exact h.ext,?_,λi hi=>?_⟩
 ·show (br s.k).2.ls.getD (br s.k).2.me []=G.getD (br s.k).2.me [];rw[h1.2,h2.1];exact h.own
 ·change i<(br s.k).2.ps.length at hi;rw[h2.2]at hi;show (au (br s.k).2 i).apart=false∧mI p G (au (br s.k).2 i).frame (au (br s.k).2 i).sum;rw[au,h2.2];exact h.pe i hi
end
end
end Go.Proofs.YteoldcfapaiobaaGreat
