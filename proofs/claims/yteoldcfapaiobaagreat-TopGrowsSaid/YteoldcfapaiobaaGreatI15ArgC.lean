/- A configuration and a way to guess that came in as arguments; quintainlaw5.Cut, quintainref21.MayAll. -/
import Derived.Test.YteoldcfapaiobaaGreatI06Ref
import Derived.Test.YteoldcfapaiobaaGreatI05Vm
import Derived.ChangeSame
import Derived.Test.YteoldcfapaiobaaGreatI13RefC
import Derived.Test.YteoldcfapaiobaaGreatI11Rank
import Derived.Test.YteoldcfapaiobaaGreatI14RefG
import Derived.Test.YteoldcfapaiobaaGreatI12Mul
import Derived.Test.YteoldcfapaiobaaGreatI09CoQ
namespace Go.Proofs.YteoldcfapaiobaaGreat
open Tryz
open List (length_range drop_left take_zero nil_append length_nil mem_range getElem?_range ext_getElem getElem_map map_take map_drop range_succ getElem?_set_ne getElem?_set_self getLastD_eq_getLast?)
open Go.RowKit
set_option linter.unusedVariables false
set_option linter.unusedSimpArgs false
set_option maxRecDepth 10000
set_option synthInstance.maxSize 4000
set_option synthInstance.maxHeartbeats 400000
section
open Go.RowKit Go.ChangeShapes Go.WideShapes Go.ChangeAt
set_option linter.constructorNameAsVariable false
set_option maxRecDepth 100000
section
variable {W w:World}{L:List SP}{n cP cT:Nat}{adP adT:Option Addr}{p:Pr}{tb:List UInt8}{cf:Cf}
def ox (cf:Cf)(p:Pr)(tb:List UInt8):Prop:=eY cf∧dp p∧c0 ⟨cf.bh,cf.order,tb⟩
theorem ads (I:U W w (aA W p adP cP::L))(hn:tb.length=n)(aF:p.title.size≤1000000000)(eb:p.ops.length≤1000000000)(eQ:tb.length≤1099511627776)(hT:∀ w',U W w' (aA W p adP cP::L)→aX w' adT tb.length tb) :
   Calls prog 60 #[.agg (bS cf).toArray,.agg (bR p adP cP).toArray,.slice adT n cT] w λr w'=>(ox cf p tb∧∃ B:jw,r=.returned (.tuple #[pt B.pb,.int .i64 0])∧B.gs=⟨cf.bh,cf.order,tb⟩∧U W w' (aP W B p (eE p cf)::aA W p adP cP::L)) ∨
    (¬ ox cf p tb∧r=.returned (.tuple #[.pointer none,.int .i64 1])∧U W w' (aA W p adP cP::L)):=by
 subst hn;by_cases h1:eY cf
 ·obtain⟨n,me,aJ,bt,df⟩:=Ot h1;generalize hg:cf.bh=bh at df;generalize ho:cf.order=order at df;by_cases h2:dp p∧c0 ⟨bh,order,tb⟩
  ·have gj:ox cf p tb:=⟨h1,h2.1,by rw[hg,ho];exact h2.2⟩;rw[df]at h1 gj ⊢;exact (Ou (adT:=adT) (cT:=cT) I h1 h2.1 h2.2 aF eb eQ hT).mono λr w' ⟨B,h3,h4,h5⟩=>.inl ⟨gj,B,h3,h4,h5⟩
  ·have gj:¬ ox cf p tb:=λh=>h2 ⟨h.2.1,by have:=h.2.2;rw[hg,ho]at this;exact this⟩;rw[df]at h1 gj ⊢;exact (abx (adT:=adT) (cT:=cT) I h1 h2 aF eb eQ hT).mono λr w' ⟨h3,h4⟩=>.inr ⟨gj,h3,h4⟩
 ·exact (abw (adT:=adT) (cT:=cT) I h1 eQ hT).mono λr w' ⟨h3,h4⟩=>.inr ⟨λh=>h1 h.1,h3,h4⟩
end
end
section
def fu (W:World)(M:jN)(p:Pr)(cf:Cf)(i:Nat)(s:Pl):SP:=λh=>∃ m:Mu,(m.s=s∧MI p M (20*i+1) m∧fq s.k=cf)∧aE W M p m h
section
variable {W w:World}{L:List SP}{n c i N cP cT:Nat}{adP adT:Option Addr}{M:jN}{x:UInt8}{p:Pr}{s:Pl}{m:Mu}{bs tb:List UInt8}{cf:Cf}{y:Int}
theorem fu.open (I:U W w (fu W M p cf i s::L)):∃ m:Mu,(m.s=s∧MI p M (20*i+1) m∧fq s.k=cf)∧U W w (aE W M p m::L):=I.jS λ_ h=>h
theorem fu.close (I:U W w (aE W M p m::L))(h:MI p M N m)(hN:N≤20*i+1)(hm:m.s=s)(hc:fq s.k=cf):U W w (fu W M p cf i s::L) :=
 U.shut (M:=Ac W M p m) (aE.open I) λ_ q=>⟨m,⟨hm,h.more hN,hc⟩,q⟩
theorem adt (a6:dp p)(aF:p.title.size≤1000000000):Dk W 78 ⟨M.mb,0,none⟩ 267 269 270 268 266 264 265 101 p M.B.gs (fu W M p cf) where
 ID:=λad w=>by kernel_rfl
 cP:=(by kernel_rfl)
 IE:=λad w=>by kernel_rfl
 IG:=(by kernel_rfl)
 IH:=λad w=>by kernel_rfl
 cT:=(by kernel_rfl)
 II:=λad w=>by kernel_rfl
 IJ:=(by kernel_rfl)
 IK:=λad w=>by kernel_rfl
 cE:=(by kernel_rfl)
 Dm:=λad w=>by kernel_rfl
 Dn:=(by kernel_rfl)
 IL:=λad w=>by kernel_rfl
 IM:=(by kernel_rfl)
 IN:=λad w=>by kernel_rfl
 IP:=(by kernel_rfl)
 al:=λw L i s x hi hw I=>by
  replace I:=fu.open I;obtain⟨m,⟨rfl,hI,hc⟩,I⟩:=I;exact (ab9 (x:=x) I hI a6 aF (by omega)).mono λr w' ⟨m',h1,⟨h2,h3,_⟩,I⟩=>⟨h1,fu.close I h3 (by omega) h2 ((mc.al hI.wf x).cf.trans hc)⟩
 recv:=λw L i s bs a c hi hw hb hc hp I=>by
  replace I:=fu.open I;obtain⟨m,⟨rfl,hI,df⟩,I⟩:=I;exact (aca I hI a6 aF (by omega) hb hc hp).mono λr w' ⟨m',h1,⟨h2,h3⟩,I⟩=>⟨h1,fu.close I h3 (by omega) h2 ((mc.recv hI.wf bs).cf.trans df)⟩
 tick:=λw L i s hi hw hn I=>by
  replace I:=fu.open I;obtain⟨m,⟨rfl,hI,hc⟩,I⟩:=I;exact (acb I hI hn).mono λr w' ⟨a,c,h1,h2,I⟩=>⟨a,c,h1,(fu.close (I.perm (c1 _ _ _)) h2 (by omega) rfl ((Il _).trans hc)).perm (c1 _ _ _)⟩
 pj:=λw L i s hi hw I=>by
  replace I:=fu.open I;obtain⟨m,⟨rfl,hI,hc⟩,I⟩:=I;exact (acd I hI).mono λr w' ⟨a,c,h1,h2,I⟩=>⟨a,c,h1,(fu.close (I.perm (c1 _ _ _)) h2 (by omega) rfl ((Im _).trans hc)).perm (c1 _ _ _)⟩
 events:=λw L i s hi hw I=>by
  replace I:=fu.open I;obtain⟨m,⟨rfl,hI,hc⟩,I⟩:=I;exact (ace I hI).mono λr w' ⟨a,c,h1,h2,I⟩=>⟨a,c,h1,(fu.close (I.perm (c1 _ _ _)) h2 (by omega) rfl hc).perm (c1 _ _ _)⟩
 Dp:=λw L i s hi hw I=>by
  replace I:=fu.open I;obtain⟨m,⟨rfl,hI,hc⟩,I⟩:=I;exact (acf I hI).mono λr w' ⟨a,c,h1,I⟩=>⟨a,c,h1,(fu.close (I.perm (c1 _ _ _)) hI (a7 _) rfl hc).perm (c1 _ _ _)⟩
 IQ:=λw L i s hi hw I=>by
  replace I:=fu.open I;obtain⟨m,⟨rfl,hI,hc⟩,I⟩:=I;exact (adl I hI a6 aF).mono λr w' ⟨a,c,h1,I⟩=>⟨a,c,h1,(fu.close (I.perm (c1 _ _ _)) hI (a7 _) rfl hc).perm (c1 _ _ _)⟩
 closed:=λw L i s hi hw I=>by
  replace I:=fu.open I;obtain⟨m,⟨rfl,hI,hc⟩,I⟩:=I;exact (Ad I).mono λr w' ⟨h1,I⟩=>⟨h1,fu.close I hI (a7 _) rfl hc⟩
theorem adu (I:U W w (fu W M p cf i s::L))(a6:dp p)(aF:p.title.size≤1000000000)(hi:i≤1000000) :
   Calls prog 62 #[pt M.mb,.int .i64 y] w λe w'=>∃ z:Bool,e=.returned (.bool z)∧(z=true→s.k.cl=false∧0≤y∧y<s.k.workers)∧U W w' (fu W M p cf (i+1) s::L):=by
 replace I:=fu.open I;obtain⟨m,⟨rfl,hI,hc⟩,I⟩:=I;have h4:=hI.ks;by_cases hn:m.s.k.cl=true∨y<0∨(m.ks.length:Int)≤y
 ·exact (acg I hn h4).mono λe w' ⟨h1,I⟩=>⟨false,h1,λh=>(by cases h),fu.close I hI (by omega) rfl hc⟩
 ·have cr : m.s.k.cl = false := by
   cases h:m.s.k.cl with
   | false=>rfl
   | true=>exact absurd (.inl h) hn
  have hy:0≤y∧y<(m.ks.length:Int):=⟨by
   rcases Int.lt_or_le y 0 with h | h
   ·exact absurd (.inr (.inl h)) hn
   ·exact h,by
   rcases Int.lt_or_le y (m.ks.length:Int) with h | h
   ·exact h
   ·exact absurd (.inr (.inr h)) hn⟩
  obtain⟨j,rfl⟩:=sM hy.1;obtain⟨⟨k,wb⟩,hk⟩:∃ z,m.ks[j]?=some z:=⟨_,aD (by omega)⟩;exact (ach I hI cr hk a6 aF (by omega)).mono λe w' ⟨z,A',T',J',k',h1,⟨_,h2⟩,I⟩=>⟨z,h1,λ_=>⟨cr,hy.1,by rw[hI.workers];exact hy.2⟩,fu.close I h2 (by omega) rfl hc⟩
theorem adv (h:eY cf):∃ n me aJ bt nb nw rm:Nat,cf=⟨n,me,cf.id,aJ,bt,cf.bh,cf.order,nb,nw,rm⟩:=by
 obtain⟨n,me,id,aJ,bt,bh,order,cx,workers,room⟩:=cf;simp only[eY,fE]at h;obtain⟨⟨h1,h2,h3⟩,⟨h4,h5,h6,h7⟩,h8,h9,fO,nz⟩:=h;exact⟨n.toNat,me.toNat,aJ.toNat,bt.toNat,cx.toNat,workers.toNat,room.toNat,by
  simp only[Cf.mk.injEq];refine⟨?_,?_,?_,?_,?_,?_,?_,?_,?_,?_⟩ <;> first | trivial | omega⟩
theorem adw (h:eY cf):fq (eE p cf).k=cf:=by
 obtain⟨ps,ev,mr,hk⟩:∃ ps ev mr,(eE p cf).k={ ft cf with ps:=ps,ev:=ev,mr:=mr }:=(xR (p:=p) (c:=cf) h).eD.2.2;rw[hk];exact (WC.new h).2.2
theorem adx (gj:ox cf p tb)(I:U W w (aA W p adP cP::L))(hn:tb.length=n)(aF:p.title.size≤1000000000)(eb:p.ops.length≤1000000000)(eQ:tb.length≤1099511627776)(hT:∀ w',U W w' (aA W p adP cP::L)→aX w' adT tb.length tb) :
   Calls prog 59 #[.agg (bS cf).toArray,.agg (bR p adP cP).toArray,.slice adT n cT] w λr w'=>∃ M:jN,r=.returned (.tuple #[pt M.mb,.int .i64 0])∧M.B.gs=⟨cf.bh,cf.order,tb⟩∧U W w' (fu W M p cf 0 (eE p cf)::aA W p adP cP::L):=by
 subst hn;obtain⟨h1,h2,h3⟩:=gj;have PJ:=adw (p:=p) h1;obtain⟨n,me,aJ,bt,nb,nw,rm,df⟩:=adv h1;generalize cf.bh=bh at df h3 ⊢;generalize cf.order=order at df h3 ⊢;generalize cf.id=id at df;rw[df]at h1 PJ ⊢;exact (adp (adT:=adT) (cT:=cT) I h1 h2 h3 aF eb eQ hT).mono λr w' ⟨M,m,h4,⟨h5,h6,h7,_⟩,I⟩=>⟨M,h4,h5,fu.close I h7 (by omega) h6 PJ⟩
theorem ady (hm:eY cf)(I:U W w (aA W p adP cP::L))(hn:tb.length=n)(a6:dp p)(aF:p.title.size≤1000000000) :
   Calls prog 46 #[.agg (bS cf).toArray,.agg (bR p adP cP).toArray,.slice adT n cT] w λr w'=>∃ B:gh,r=.returned (pt B.pb)∧(B.gs=⟨cf.bh,cf.order,tb⟩∧B.adT=adT)∧U W w' (bZ W B p (eE p cf)::L):=by
 subst hn;obtain⟨n,me,aJ,bt,df⟩:=Ot hm;generalize cf.bh=bh at df ⊢;generalize cf.order=order at df ⊢;rw[df]at hm ⊢;exact acR I hm a6 aF
end
end
section
theorem Sn.adz (A:Sn):A.used≤A.room:=by
 have:=List.countP_le_length (p:=λp=>decide (0<cS A.ar p)) (l:=List.range A.room);rw[length_range]at this;exact this
theorem PK {p:Nat}:∀ (l:List aC),(∀ x∈l,∀ k,k<4→x.p k≠p)→cS l p=0
 | [],_=>rfl
 | x::l,h=>by
  rw[tD,Ff (h x (iq ..)),PK l λy hy=>h y (gx _ hy)]
theorem PL {A:Sn}{p:Nat}(h:∀ x∈A.ar,∀ k,k<4→x.p k<A.room)(hp:A.room≤p):cS A.ar p=0 :=
 PK _ λx hx k hk e=>by have:=h x hx k hk;omega
def wi (l:List aC)(m:Nat):Nat:=(List.range m).countP λp=>decide (0<cS l p)
theorem PM (l:List aC)(m:Nat):wi l (m+1)=wi l m+if 0<cS l m then 1 else 0:=by
 rw[wi,range_succ,List.countP_append,List.countP_singleton,wi];by_cases h:0<cS l m <;> simp[h]
theorem adA (l:List aC)(m:Nat):wi l m≤m:=by
 have:=List.countP_le_length (p:=λp=>decide (0<cS l p)) (l:=List.range m);rw[length_range]at this;exact this
theorem adB {A:Sn}(h:∀ x∈A.ar,∀ k,k<4→x.p k<A.room){m:Nat}(hm:A.room≤m):wi A.ar m=A.used:=by
 induction m with
 | zero=>rw[Sn.used,show A.room=0 from by omega];rfl
 | succ m ih =>
  rcases gX m A.room with h1 | h1
  ·rw[Sn.used,show A.room=m+1 from by omega];rfl
  ·rw[PM,ih h1,PL h h1];rfl
def pE (l:List aC)(j:Nat):Int:=if j=0 then 0 else (cS l (j-1):Nat)
def oy (l:List aC)(x:aC)(k j:Nat):Int:=if j=0 then 0 else ((cS l (j-1)+jk x (j-1) k:Nat):Int)
theorem adC:pE []=λ_=>0:=by
 funext j;unfold pE;split <;> rfl
theorem adD (l:List aC)(x:aC):oy l x 0=pE l:=by
 funext j;unfold oy pE;simp[Bw]
theorem adF {l:List aC}{i:Nat}{x:aC}(h:l[i]?=some x):oy (l.take i) x 4=pE (l.take (i+1)):=by
 obtain⟨hi,rfl⟩:=a2.1 h
 funext j
 unfold oy pE;rw[jD hi,yU,tD,Fg];rfl
theorem adG (l:List aC)(x:aC)(k:Nat):(λj=>if j=x.p k+1 then oy l x k (x.p k+1)+1 else oy l x k j)=oy l x (k+1):=by
 funext j
 by_cases h:j=x.p k+1
 ·subst h;rw[aj rfl];simp only[oy,ag (Nat.succ_ne_zero _),zo];rw[lk,aj rfl];omega
 ·rw[ag h];unfold oy;split
  ·rfl
  ·rw[lk,ag (by omega)];simp
theorem adH (l:List aC)(x:aC)(k j:Nat)(hk:k≤4):0≤oy l x k j∧oy l x k j≤4*l.length+4:=by
 unfold oy;have h1:=Fi l (j-1);have h2:=tB x (j-1) hk;have h3:=KO x (j-1);have h4:jk x (j-1) 4=ic x (j-1):=rfl;split <;> omega
theorem adI (l:List aC)(p:Nat):pE l (p+1)=(cS l p:Nat):=by simp[pE]
section
variable {W w:World}{L:List SP}{q b i r:Nat}{ps:List Pg}{A:Sn}
theorem adJ (I:U W w (Room q b ps::L))(hn:∀ h:i<ps.length,ps[i].refs=0)(hi:i<1000) :
   Calls prog 122 #[pt q,.int .i64 ((i:Int)+1)] w λe w'=>e=.returned (.pointer none)∧U W w' (Room q b ps::L):=by
 obtain⟨hp,I⟩:=Room.open I;by_cases aG:i<ps.length
 ·have hr:=hn aG;refine EN func122 ntmps122 rfl rfl λa E=>?_;refine RN 7 E I λa E=>?_;replace E:=E.aQ 7;refine RN 4 E I λa E=>?_;rw[bu (by omega)]at E;refine RN 9 E I λa E=>?_;rw[bu (by omega)]at E;refine RN 6 E I λa E=>?_;rw[show (i:Int)+1-1=(i:Int) from by omega]at E;refine RN 2 E I λa E=>?_;refine bA E (cv E rfl (s:=20)) (ae E (I.bC (tv aG))) rfl λa E=>?_;refine RN 2 E I λa E=>?_;rw[dr (by omega)]at E;refine RT 3 E I ?_;exact⟨rfl,(Room.close (n:=_) I rfl hp)⟩
 ·
   refine EN func122 ntmps122 rfl rfl λa E=>?_;refine RN 7 E I λa E=>?_;replace E:=E.aQ 7;refine RN 4 E I λa E=>?_;rw[bu (by omega)]at E;refine RN 9 E I λa E=>?_;rw[dr (by omega)]at E;refine RT 14 E I ?_;exact⟨rfl,(Room.close (n:=_) I rfl hp)⟩
theorem adK (I:U W w (Room q b ps::L))(hn:∀ h:i<ps.length,ps[i].refs=0)(hi:i<1000) :
   Calls prog 86 #[pt q,.int .i64 ((i:Int)+1)] w λe w'=>e=.returned (.int .i64 0)∧U W w' (Room q b ps::L):=by
 refine EN func86 ntmps86 rfl rfl λa E=>?_;refine CL 5 E I (adJ I hn hi) λa w E I=>?_;refine RN 5 E I λa E=>?_;replace E:=E.ek 10;refine RT 3 E I ?_;exact⟨rfl,I⟩
theorem adM (I:U W w (ax q r A::L))(hi:i<1000) :
   Calls prog 86 #[pt r,.int .i64 ((i:Int)+1)] w λe w'=>e=.returned (.int .i64 (cS A.ar i))∧U W w' (ax q r A::L):=by
 have hf:=(ax.facts I).2;obtain⟨b,m,ps,xs,h1,hw,hr,I⟩:=ax.open I;by_cases hl:∃ h:i<ps.length,0<ps[i].refs
 ·obtain⟨h3,h4⟩:=hl;refine (Bn (I.pick (Room r b ps)) h3 h4).mono λe w' ⟨h2,I⟩=>?_;rw[hr.refs _ _ (aD h3)]at h2;exact⟨h2,ax.close (b:=b) (m:=m) (ps:=ps) I h1 hw hr⟩
 ·have hn : ∀ h : i < ps.length, ps[i].refs = 0 := fun h => by
   rcases k8 ps[i].refs with h2 | h2
   ·exact h2
   ·exact absurd ⟨h,h2⟩ hl
  have h0:cS A.ar i=0:=by
   by_cases h:i<ps.length
   ·rw[← hr.refs _ _ (aD h)];exact hn h
   ·exact PL hf (by rw[← hr.len];omega)
  refine (adK (I.pick (Room r b ps)) hn hi).mono λe w' ⟨h2,I⟩=>?_;rw[h0];exact⟨h2,ax.close (b:=b) (m:=m) (ps:=ps) I h1 hw hr⟩
end
end
section
theorem adO (k:IntKind)(m:Nat)(x:Int):List.replicate m (Value.int k x)=ints k m (λ_=>x):=by
 rw[ints,fn];exact (ext_getElem (by simp) (by simp))
section
variable {W w:World}{L:List SP}{N:Nat}{M:jN}{p:Pr}{m:Mu}{cf:Cf}{x:Int}
set_option maxHeartbeats 4000000 in
theorem adQ (I:U W w (aE W M p m::L))(h:MI p M N m)(df:fq m.s.k=cf) :
   Calls prog 56 #[pt M.mb,.agg (bS cf).toArray] w λe w'=>e=.returned (.bool true)∧U W w' (aE W M p m::L):=by
 have HN:cf.cx=(m.T.most:Int):=by rw[← df];exact h.most
 have ur:cf.workers=(m.ks.length:Int):=by rw[← df];exact h.workers
 have sk:(m.A.room:Int)=4*cf.room:=by rw[← df];exact h.room.1
 have pc:=h.ks;obtain⟨t,hI⟩:=h.inv;have hlen:=hI.len;have O6:(jH (m.ks.map (·.1))).length≤m.ks.length:=by
  have h1:=p0 (λk:Wk=>k.busy) (m.ks.map (·.1));rw[a8]at h1;rw[jH,a8];exact h1
 clear df;replace I:=aE.open I;have ly:=(Tree.wt (I.tree M.tq)).most;have Dv:=ax.facts (I.store M.sq);have r7:=ax.wZ (I.store M.sq);have hur:=Sn.adz m.A;have l8:=Dv.1.room;obtain⟨s,A,T,J,ks,base,front⟩:=m;dsimp only at HN ur sk pc hlen O6 ly Dv r7 hur l8 I;have iv:=adB Dv.2 (m:=200) l8;refine EN func56 ntmps56 rfl rfl λa E=>?_;refine BX 1 E I λb3 a w E I=>?_;change U W w (aa b3 28 (bS cf)::_) at I;refine RN 3 E I λa E=>?_;replace I:=aE.fold I M p ⟨s,A,T,J,ks,base,front⟩;refine CL 0 E I (abD I) λa w E I=>?_;refine RN 3 E I λa E=>?_;replace I:=aE.open I;dsimp only at I;refine aY 0 E I (WO (I.store M.sq)) λed Aq a w E I=>?_;refine aV 3 (λw0 w'=>Rd w' b3 0 (bS cf)) [5,25,26] [0,1,2,4,3003,1005,6,7,8,9,10,11,12,13,14,17,18,19,1015,1016,20,21,22,23,24,27,3028,29,1025,1026,30,31] E I λa w E I hH=>?_;have hC:=hH.at w (I.ai (b:=b3));refine RH 4 E I hH hC λa E=>?_;refine QH E (λw hc=>ae E (hc 7 _ rfl)) hC λa E=>?_;refine RH 0 E I hH hC λa E=>?_;refine SS E (ae E (hC 8 _ rfl)) λa E=>?_;refine RH 4 E I hH hC λa E=>?_;rw[bu (by omega)]at E;refine RH 4 E I hH hC λa E=>?_;rw[dr (by omega)]at E;refine RH 4 E I hH hC λa E=>?_;refine CL 0 E I (BE (I.store M.sq)) λa w E I=>?_;refine CL 0 E I (Fp (I.store M.sq)) λa w E I=>?_;refine RN 4 E I λa E=>?_;rw[bu (by omega)]at E;refine RN 2 E I λa E=>?_;replace hC:Rd w b3 0 (bS cf):=I.ai (b:=b3);refine QH E (λw hc=>ae E (hc 9 _ rfl)) hC λa E=>?_;refine CL 1 E I (BE (I.store M.sq)) λa w E I=>?_;replace hC:=hH.at w (I.ai (b:=b3));refine RH 0 E I hH hC λa E=>?_;refine CL 0 E I (Fp (I.store M.sq)) λa w E I=>?_;replace hC:=hH.at w (I.ai (b:=b3));refine RH 2 E I hH hC λa E=>?_;rw[bu (by omega)]at E;refine AL 2 E I λdv a w E I=>?_;rw[adO]at I;refine RN 3 E I λa E=>?_;refine aL (λμ a w=>∃ (i:Nat),(μ=A.ar.length-i∧i≤A.ar.length)∧Fr a 120 [(0,pt M.mb),(3,pt b3),(5,pt M.sq),(6,.slice ed A.ar.length Aq),(7,pt dv),(8,.int .i64 i)]∧U W w (aa dv 164 (ints .i64 201 (pE (A.ar.take i)))::Sl 166 1 ed A.ar.length Aq (A.ar.map λx=>.int .i64 x.id)::ax M.sq M.r A::aa b3 28 (bS cf)::aa M.mb 177 (dX p M ks.length base front)::aP W M.B p s::aA W p M.aq M.cO::Sl 179 1 M.dy ks.length M.dG (g3 ks)::ah (fb p M.aq M.cO M.tq M.jq M.sq) ks::Tree M.tq M.sq T::bJ M.jq J::L)) (A.ar.length) (⟨0,⟨rfl,by omega⟩,E.ab [0,3,5,6,7,8],by rw[take_zero,adC];exact I.sub⟩) ?_;clear E I;rintro μ a w ⟨i,⟨rfl,hi⟩,E,I⟩;refine IF 6 E I (λao a E=>?_) λao a E=>?_
 ·
  obtain⟨x,hx⟩:∃ x,A.ar[i]?=some x:=⟨_,aD (by omega)⟩;obtain⟨bv,PN,rfl,C9⟩:=(I.pick (Sl 166 1 ed A.ar.length Aq (A.ar.map λx=>.int .i64 x.id))).bU ed (by omega);have Ai:=C9 i (.int .i64 x.id) (by rw[bd,hx];rfl);have BH:=Dv.2 x (bI hx);have bO:=adF hx;have eQ:(A.ar.take i).length≤200:=by rw[eA];omega
  clear C9;refine RN 6 E I λa E=>?_;refine SS E (ae E (Ai)) λa E=>?_;refine aY 0 E I (K1 (I.store M.sq) hx) λc4 dU a w E I=>?_;refine RN 6 E I λa E=>?_;replace E:=E.aQ 63;refine RN 3 E I λa E=>?_;refine aL (λμ a w=>∃ (k:Nat),(μ=4-k∧k≤4)∧Fr a 120 [(0,pt M.mb),(3,pt b3),(5,pt M.sq),(6,.slice (some ⟨bv,PN,none⟩) A.ar.length Aq),(7,pt dv),(8,.int .i64 i),(9,.slice c4 4 dU),(10,.int .i64 k)]∧U W w (aa dv 164 (ints .i64 201 (oy (A.ar.take i) x k))::Sl 3 1 c4 4 dU (ints .i64 4 (λk=>(x.p k:Int)+1))::Sl 166 1 (some ⟨bv,PN,none⟩) A.ar.length Aq (A.ar.map λx=>.int .i64 x.id)::ax M.sq M.r A::aa b3 28 (bS cf)::aa M.mb 177 (dX p M ks.length base front)::aP W M.B p s::aA W p M.aq M.cO::Sl 179 1 M.dy ks.length M.dG (g3 ks)::ah (fb p M.aq M.cO M.tq M.jq M.sq) ks::Tree M.tq M.sq T::bJ M.jq J::L)) (4) (⟨0,⟨rfl,by omega⟩,E.ab [0,3,5,6,7,8,9,10],by rw[adD];exact I.sub⟩) ?_;clear E I;rintro μ a w ⟨k,⟨rfl,hk⟩,E,I⟩;refine IF 4 E I (λbl a E=>?_) λbl a E=>?_
  ·
   obtain⟨bp,op,rfl,fo⟩:=(I.pick (Sl 3 1 c4 4 dU (ints .i64 4 (λk=>(x.p k:Int)+1)))).bU c4 (by omega);have vL:=fo k _ (ga _ (by omega));have eI:=BH k (by omega);have N5:=adH (A.ar.take i) x k (x.p k+1) (by omega);clear fo;refine RN 6 E I λa E=>?_;refine SS E (ae E (vL)) λa E=>?_;refine RN 2 E I λa E=>?_;rw[bu (by omega)]at E;refine RN 3 E I λa E=>?_;refine bA E (cv E rfl (s:=73)) (ae E (vL)) rfl λa E=>?_;refine RN 2 E I λa E=>?_;rw[bu (by omega)]at E;refine RN 4 E I λa E=>?_;refine SS E (ae E (vL)) λa E=>?_;rw[show ((x.p k:Nat):Int)+1=((x.p k+1:Nat):Int) from rfl]at E;refine RN 1 E I λa E=>?_;refine SS E (ae E (I.bC (ga _ (by omega)))) λa E=>?_;refine ST 2 E I (λa w E I=>?_) (hlt:=(by rw[dk];omega));rw[ints_set,adG]at I;refine RN 3 E I λa E=>?_;exact⟨4-(k+1),by omega,k+1,⟨rfl,by omega⟩,E.ab [0,3,5,6,7,8,9,10],I.sub⟩
  refine RN 3 E I λa E=>?_;obtain rfl:k=4:=by omega
  rw[bO]at I;exact⟨A.ar.length-(i+1),by omega,i+1,⟨rfl,by omega⟩,E.ab [0,3,5,6,7,8],I.sub⟩
 obtain rfl:i=A.ar.length:=by omega
 rw[lf]at I;refine RN 5 E I λa E=>?_;refine aL (λμ a w=>∃ (q:Nat),(μ=200-q∧q≤200)∧Fr a 120 [(0,pt M.mb),(3,pt b3),(5,pt M.sq),(7,pt dv),(11,.int .i64 (wi A.ar q:Nat)),(12,.int .i64 ((q:Int)+1))]∧U W w (ax M.sq M.r A::aa dv 164 (ints .i64 201 (pE A.ar))::aa b3 28 (bS cf)::aa M.mb 177 (dX p M ks.length base front)::aP W M.B p s::aA W p M.aq M.cO::Sl 179 1 M.dy ks.length M.dG (g3 ks)::ah (fb p M.aq M.cO M.tq M.jq M.sq) ks::Tree M.tq M.sq T::bJ M.jq J::L)) (200) (⟨0,⟨rfl,by omega⟩,by have h9:=E.ab [0,3,5,7,11,12];exact h9,I.sub⟩) ?_;clear E I;rintro μ a w ⟨q,⟨rfl,hq⟩,E,I⟩;refine IF 4 E I (λeL a E=>?_) λeL a E=>?_
 ·
  have PO:=adI A.ar q;have gP:=PM A.ar q;have eI:=adA A.ar q;have cr:=Fi A.ar q;have mz:q<200:=by omega
  refine aV 3 (λw0 w'=>w'.cell? ⟨dv,q+1,none⟩=some (.int .i64 (pE A.ar (q+1)))) [1,3] [0,2,4,5,3006,1001,1003,7] E I λa w E I hH=>?_;have hC:=hH.at w (I.bC (b:=dv) (ga _ (by omega)));refine RH 3 E I hH hC λa E=>?_;rw[show ((q:Nat):Int)+1=((q+1:Nat):Int) from rfl]at E;refine RH 1 E I hH hC λa E=>?_;refine QH E (λw hc=>ae E (hc)) hC λa E=>?_;refine RH 0 E I hH hC λa E=>?_;refine CL 0 E I (BE I) λa w E I=>?_;replace hC:=hH.at w (I.bC (b:=dv) (ga _ (by omega)));refine RH 0 E I hH hC λa E=>?_;refine CL 0 E I (adM I (by omega)) λa w E I=>?_;replace hC:=hH.at w (I.bC (b:=dv) (ga _ (by omega)));refine RH 1 E I hH hC λa E=>?_;rw[PO,show decide ((cS A.ar q:Nat)≠((cS A.ar q:Nat):Int))=false from by simp]at E;replace E:=E.aQ 99;refine RN 4 E I λa E=>?_;refine SS E (ae E (I.bC (b:=dv) (ga _ (by omega)))) λa E=>?_;rw[PO]at E;refine IF 1 E I (λlX a E=>?_) λlX a E=>?_
  ·
   refine RN 6 E I λa E=>?_;exact⟨200-(q+1),by omega,q+1,⟨rfl,by omega⟩,by rw[gP,aj (by omega)];exact E.ab [0,3,5,7,11,12],I.sub⟩
  refine RN 3 E I λa E=>?_;exact⟨200-(q+1),by omega,q+1,⟨rfl,by omega⟩,by rw[gP,ag (by omega)];exact E.ab [0,3,5,7,11,12],I.sub⟩
 obtain rfl:q=200:=by omega
 rw[iv]at E;refine aV 1 (λw0 w'=>Rd w' b3 0 (bS cf)) [7,8,9] [0,1,1002,1003,4,5,6,10,3011,1007,1008,1009,12,13,14] E I λa w E I hH=>?_;have hC:=hH.at w (I.ai (b:=b3));refine RH 2 E I hH hC λa E=>?_;refine CL 0 E I (BE I) λa w E I=>?_;refine CL 0 E I (Fp I) λa w E I=>?_;refine RN 2 E I λa E=>?_;rw[dr (by omega)]at E;refine RN 2 E I λa E=>?_;replace hC:Rd w b3 0 (bS cf):=I.ai (b:=b3);refine QH E (λw hc=>ae E (hc 7 _ rfl)) hC λa E=>?_;replace I:=aE.fold I M p ⟨s,A,T,J,ks,base,front⟩;refine CL 0 E I (abE I) λa w E I=>?_;replace hC:=hH.at w (I.ai (b:=b3));replace I:=aE.open I;dsimp only at I;refine RH 0 E I hH hC λa E=>?_;refine aY 0 E I (BG (I.tree M.tq)) λuE rv a w E I=>?_;replace hC:=hH.at w (I.ai (b:=b3));refine RH 4 E I hH hC λa E=>?_;refine RT 0 E I ?_;exact⟨by rw[dr (by omega)],(aE.fold I.tail M p ⟨s,A,T,J,ks,base,front⟩).sub⟩
end
end
section
section
variable {W w:World}{L:List SP}{c i cP cT:Nat}{p:Pr}{s:Pl}{B:jw}
theorem adR (a6:dp p)(aF:p.title.size≤1000000000)(fH:c0 B.gs):Dk W 139 ⟨B.pb,0,none⟩ 282 284 285 283 281 273 276 141 p B.gs (λ_ s=>aP W B p s) where
 ID:=λad w=>by kernel_rfl
 cP:=(by kernel_rfl)
 IE:=λad w=>by kernel_rfl
 IG:=(by kernel_rfl)
 IH:=λad w=>by kernel_rfl
 cT:=(by kernel_rfl)
 II:=λad w=>by kernel_rfl
 IJ:=(by kernel_rfl)
 IK:=λad w=>by kernel_rfl
 cE:=(by kernel_rfl)
 Dm:=λad w=>by kernel_rfl
 Dn:=(by kernel_rfl)
 IL:=λad w=>by kernel_rfl
 IM:=(by kernel_rfl)
 IN:=λad w=>by kernel_rfl
 IP:=(by kernel_rfl)
 al:=λw L i s x _ hw I=>Oh I hw a6 aF
 recv:=λw L i s bs a c _ hw hb hc hp I=>Oi I hw a6 aF hb hc hp
 tick:=λw L i s _ hw hn I=>Oj I hw hn
 pj:=λw L i s _ hw I=>Ol I hw
 events:=λw L i s _ hw I=>Om I
 Dp:=λw L i s _ hw I=>Oo I hw
 IQ:=λw L i s _ hw I=>Oq I hw a6 aF fH
 closed:=λw L i s _ hw I=>On I
end
end
section
inductive fW where
 | mu (M:jN)
 | pl (B:jw)
structure fI where
 cf:Cf
 z:fW
def fW.t:fW→TypeId
 | .mu _=>78
 | .pl _=>139
def fW.ad:fW→Addr
 | .mu M=>⟨M.mb,0,none⟩
 | .pl B=>⟨B.pb,0,none⟩
def fW.gs:fW→Gs
 | .mu M=>M.B.gs
 | .pl B=>B.gs
def fW.f (a b:FuncId):fW→FuncId
 | .mu _=>a
 | .pl _=>b
def fI.J (W:World)(p:Pr)(x:fI)(i:Nat)(s:Pl):SP:=match x.z with
 | .mu M=>fu W M p x.cf i s
 | .pl B=>aP W B p s
def vU (z:fW):=z.f 267 282
def vV (z:fW):=z.f 269 284
def vW (z:fW):=z.f 270 285
def vX (z:fW):=z.f 268 283
def vY (z:fW):=z.f 266 281
def vZ (z:fW):=z.f 264 273
def v7 (z:fW):=z.f 265 276
def v8 (z:fW):=z.f 101 141
abbrev cG (x:fI×Pl):Value:=.iface x.1.z.t (.pointer (some x.1.z.ad))
def cD (W:World)(p:Pr)(c:Nat)(x:fI×Pl):SP:=x.1.J W p c x.2
abbrev kA:=Option Addr×Nat×List kv
abbrev bB (x:kA):Value:=.slice x.1 x.2.2.length x.2.1
def eH (x:kA):SP:=Sl 135 1 x.1 x.2.2.length x.2.1 (x.2.2.map cC)
structure jP where
 mb:Nat
 q:Nat
 fz:List fI
structure oz where
 adL:Option Addr
 cL:Nat
 adE:Option Addr
 cE:Nat
 xs:List (fI×Pl)
 es:List kA
def cU (m:Ml):pC:=((m.1:Int),(m.2.1:Int),m.2.2)
abbrev j3 (B:jP)(A:oz):List Value:=[.slice A.adL A.xs.length A.cL,pt B.q,.slice A.adE A.es.length A.cE]
structure oz.Ok (A:oz)(B:jP)(v:Wd):Prop where
 fz:A.xs.map (·.1)=B.fz
 ps:A.xs.map (·.2)=v.ps
 ev:A.es.map (·.2.2)=v.ev
def aN (W:World)(B:jP)(p:Pr)(c:Nat)(v:Wd):SP:=λh=>∃ A:oz,A.Ok B v ∧
 cp [aa B.mb 107 (j3 B A),Sl 81 1 A.adL A.xs.length A.cL (A.xs.map cG),ah (cD W p c) A.xs,bL B.q (v.net.map cU),Sl 90 1 A.adE A.es.length A.cE (A.es.map bB),ah eH A.es] h
section
variable {W w:World}{L R:List SP}{n c i:Nat}{ad adE:Option Addr}{p:Pr}{B:jP}{A:oz}{v:Wd}{x:fI}{s:Pl}{y:Int}
theorem fI.rk (x:fI)(a6:dp p)(aF:p.title.size≤1000000000)(fH:c0 x.z.gs):Dk W x.z.t x.z.ad (vU x.z) (vV x.z) (vW x.z) (vX x.z) (vY x.z) (vZ x.z) (v7 x.z) (v8 x.z) p x.z.gs (x.J W p):=by
 obtain⟨cf,z⟩:=x;cases z with
 | mu M=>exact adt a6 aF
 | pl B=>exact adR a6 aF fH
theorem fI.more {j:Nat}(x:fI)(h:i≤j):∀ hp,x.J W p i s hp→x.J W p j s hp:=by
 obtain⟨cf,z⟩:=x;cases z with
 | mu M=>exact λhp ⟨m,⟨h1,h2,h3⟩,h4⟩=>⟨m,⟨h1,h2.more (by omega),h3⟩,h4⟩
 | pl B=>exact λhp h=>h
theorem PQ {α:Type}{f g:α→SP}(k:∀ x h,f x h→g x h):∀ {l:List α} {h:Hp},cp (l.map f) h→cp (l.map g) h
 | [],_,h=>h
 | _::l,_,⟨h1,h2,d,a,b,p,q⟩=>⟨h1,h2,d,a,b,k _ _ p,PQ k q⟩
theorem U.adS {A A':SP}(I:U W w (A::L))(k:∀ h,A h→A' h):U W w (A'::L):=⟨I.below,let ⟨h,p,h1,h2,d,a,b,x,y⟩:=I.sat;⟨h,p,h1,h2,d,a,b,k _ x,y⟩⟩
theorem U.sU {xs:List (fI×Pl)}{d:Nat}(I:U W w (ah (cD W p c) xs::L))(h:c≤d):U W w (ah (cD W p d) xs::L) :=
 I.adS λ_ h1=>PQ (λx h2 h3=>x.1.more h h2 h3) h1
theorem aN.open (I:U W w (aN W B p c v::L)):∃ A:oz,A.Ok B v∧U W w (aa B.mb 107 (j3 B A)::Sl 81 1 A.adL A.xs.length A.cL (A.xs.map cG)::ah (cD W p c) A.xs::bL B.q (v.net.map cU)::Sl 90 1 A.adE A.es.length A.cE (A.es.map bB)::ah eH A.es::L):=by
 obtain⟨A,h1,I⟩:=I.jS (ι:=oz) (p:=λA=>A.Ok B v) (B:=λA h=>cp [aa B.mb 107 (j3 B A),Sl 81 1 A.adL A.xs.length A.cL (A.xs.map cG),ah (cD W p c) A.xs,bL B.q (v.net.map cU),Sl 90 1 A.adE A.es.length A.cE (A.es.map bB),ah eH A.es] h) λ_ h=>h;exact⟨A,h1,I.open (M:=[_,_,_,_,_,_]) λ_ h=>h⟩
theorem aN.fold (I:U W w L)(B:jP)(p:Pr)(c:Nat)(v:Wd)(A:oz)(h:A.Ok B v)[kk:fM L [aa B.mb 107 (j3 B A),Sl 81 1 A.adL A.xs.length A.cL (A.xs.map cG),ah (cD W p c) A.xs,bL B.q (v.net.map cU),Sl 90 1 A.adE A.es.length A.cE (A.es.map bB),ah eH A.es] R]:U W w (aN W B p c v::R) :=
 U.shut (M:=[_,_,_,_,_,_]) (I.perm kk.perm) λ_ h1=>⟨A,h,h1⟩
theorem adU {P:Program}{t:TypeId} {ms}(ht:P.underlying t=some (.interface ms))(k:Nat):(Op.equalIn (k+1) t .nilIface .nilIface).run P w=.ok true w:=by
 simp[Op.equalIn,eT ht]
theorem adV {P:Program}{a:Act}{l:List (Nat×Value)} {x t ms u dst ty ps af g}(E:Fr a n l)(ht:P.underlying t=some (.interface ms))[e:Ev l x .nilIface] :
   (execOp a.eval ⟨dst,.binOp .eql t x (.const .nilIface) u,ty,ps,af,g⟩).run P w=.ok (.value (.bool true)) w:=by
 have hc:a.eval (.const .nilIface)=.nilIface:=rfl;have h2:(Op.equal t .nilIface .nilIface).run P w=.ok true w:=adU ht 9999;simp only[execOp,e.ev a n E,hc,Sem.run_bind];simp[eqGuard,binOp,h2]
theorem PR {P:Program}{a:Act}{l:List (Nat×Value)} {x t u ok dst ty ps af g}{z z2:Value}(E:Fr a n l)(h:(Instr.typeAssert z t u ok).run P w=.ok z2 w)[e:Ev l x z] :
   (execOp a.eval ⟨dst,.typeAssert x t u ok,ty,ps,af,g⟩).run P w=.ok (.value z2) w:=by
 simp[execOp,e.ev a n E,h]
end
end
section
def fW.mul:fW→Value
 | .mu M=>pt M.mb
 | .pl _=>.pointer none
section
variable {W w:World}{L:List SP}{n cL mb i:Nat}{ad:Option Addr}{B:jP}{y:Int}{x2 x3:Value}{xs:List (fI×Pl)}
theorem adW (I:U W w (aa mb 107 [.slice ad n cL,x2,x3]::L))(hy:y<0∨(n:Int)≤y):Calls prog 28 #[pt mb,.int .i64 y] w λe w'=>e=.returned .nilIface∧U W w' (aa mb 107 [.slice ad n cL,x2,x3]::L):=by
 refine EN func28 ntmps28 rfl rfl λa E=>?_;refine RN 7 E I λa E=>?_;replace E:=E.aQ 7;refine BY 4 E I (λki a E=>?_) λki a E=>?_
 ·
  refine RT 11 E I ?_;exact⟨rfl,I⟩
 refine RN 8 E I λa E=>?_;rw[dr (by omega)]at E;refine RT 3 E I ?_;exact⟨rfl,I⟩
theorem sV (I:U W w (aa mb 107 [.slice ad xs.length cL,x2,x3]::Sl 81 1 ad xs.length cL (xs.map cG)::L))(hi:i<xs.length):Calls prog 28 #[pt mb,.int .i64 i] w λe w'=>e=.returned (cG xs[i])∧U W w' (aa mb 107 [.slice ad xs.length cL,x2,x3]::Sl 81 1 ad xs.length cL (xs.map cG)::L):=by
 refine EN func28 ntmps28 rfl rfl λa E=>?_;refine RN 7 E I λa E=>?_;replace E:=E.aQ 7;refine RN 4 E I λa E=>?_;rw[bu (by omega)]at E;refine RN 8 E I λa E=>?_;rw[bu (by omega)]at E;refine RN 2 E I λa E=>?_;obtain⟨b,o,rfl,hr⟩:=(I.pick (Sl 81 1 ad xs.length cL (xs.map cG))).bU ad (by omega);have fl:=hr i (cG xs[i]) (by rw[bd,aD hi];rfl);refine RN 6 E I λa E=>?_;refine SS E (ae E (fl)) λa E=>?_;refine RT 1 E I ?_;exact⟨rfl,I.sub⟩
theorem fW.assert (z:fW)(w:World):(Instr.typeAssert (.iface z.t (.pointer (some z.ad))) 81 78 true).run prog w=.ok (.tuple #[z.mul,.bool (match z with | .mu _=>true | .pl _=>false)]) w:=by
 cases z with
 | mu M=>kernel_rfl
 | pl B=>kernel_rfl
theorem I2 (I:U W w (aa mb 107 [.slice ad xs.length cL,x2,x3]::Sl 81 1 ad xs.length cL (xs.map cG)::L))(hi:i<xs.length):Calls prog 27 #[pt mb,.int .i64 i] w λe w'=>e=.returned xs[i].1.z.mul∧U W w' (aa mb 107 [.slice ad xs.length cL,x2,x3]::Sl 81 1 ad xs.length cL (xs.map cG)::L):=by
 have has:=xs[i].1.z.assert;cases hz:xs[i].1.z with
 | mu M =>
  rw[hz]at has;refine EN func27 ntmps27 rfl rfl λa E=>?_;refine CL 5 E I (sV I hi) λa w E I=>?_;rw[show cG xs[i]=.iface (fW.mu M).t (.pointer (some (fW.mu M).ad)) from by rw[← hz]]at E;refine RN 0 E I λa E=>?_;refine SK (bA E rfl (PR E (has w)) rfl ?_);clear E a;intro a E;refine RN 9 E I λa E=>?_;replace E:=E.aQ 15;refine RT 4 E I ?_;exact⟨rfl,I⟩
 | pl B =>
  rw[hz]at has;refine EN func27 ntmps27 rfl rfl λa E=>?_;refine CL 5 E I (sV I hi) λa w E I=>?_;rw[show cG xs[i]=.iface (fW.pl B).t (.pointer (some (fW.pl B).ad)) from by rw[← hz]]at E;refine RN 0 E I λa E=>?_;refine SK (bA E rfl (PR E (has w)) rfl ?_);clear E a;intro a E;refine RN 9 E I λa E=>?_;replace E:=E.ek 15;refine RT 3 E I ?_;exact⟨rfl,I⟩
theorem Dw (I:U W w (aa mb 107 [x2,pt i,x3]::L)):Calls prog 22 #[pt mb] w λe w'=>e=.returned (pt i)∧U W w' (aa mb 107 [x2,pt i,x3]::L):=by
 refine EN func22 ntmps22 rfl rfl λa E=>?_;refine RN 6 E I λa E=>?_;replace E:=E.aQ 4;refine RT 7 E I ?_;exact⟨rfl,I⟩
end
end
section
section
variable {W w:World}{L:List SP}{n c mb i q:Nat}{ad:Option Addr}{v:Wd}{x1 x3:Value}{xs:List (fI×Pl)}{l net:List Ml}{e:List kv}
theorem U.ye {α:Type}{f:α→SP}{l:List α}{i:Nat}(h:i<l.length)(I:U W w (f l[i]::ah f (l.eraseIdx i)::L)):U W w (ah f l::L):=by
 have h1:=U.la h I
 rwa [mT]at h1
theorem PS (l:List kv):∀ v∈l.map cC,v.oneCell'=true:=by
 intro v hv;obtain⟨e,_,rfl⟩:=cX.1 hv;exact Ht e
theorem PT (I:U W w (Sl 135 1 ad e.length c (e.map cC)::L))(hl:e.length≤1000000000):Calls prog 57 #[.slice ad e.length c] w λr w'=>∃ av c',r=.returned (.slice av e.length c')∧U W w' (Sl 135 1 av e.length c' (e.map cC)::Sl 135 1 ad e.length c (e.map cC)::L):=by
 cases p5:ad with
 | none =>
  subst p5;have h0:e=[]:=by
   rcases k8 e.length with h0 | h0
   ·exact hs h0
   ·obtain⟨b,o,h1,_⟩:=I.bU none h0;cases h1
  subst h0;refine EN func57 ntmps57 rfl rfl λa E=>?_;refine RN 6 E I λa E=>?_;replace E:=E.ek 4;refine RT 3 E I ?_;exact⟨_,_,rfl,I.bQ _ _ _⟩
 | some a =>
  rw[← p5];refine EN func57 ntmps57 rfl rfl λa E=>?_;refine RN 6 E I λa E=>?_;rw[show ad.isNone=false from by rw[p5];rfl]at E;replace E:=E.aQ 4;refine RN 2 E I λa E=>?_;refine uZ E rfl I wW Ty.t135 rfl λb5 a w E I ho=>?_;clear ho;replace I:U W w (Sl 135 1 (some ⟨b5,0,none⟩) 0 0 []::Sl 135 1 ad e.length c (e.map cC)::L):=I.tail.bQ _ _ _;refine RN 1 E I λa E=>?_;refine hO E rfl I wW Ty.t135 rfl rfl (by decide) (λh0=>I.tail.bU ad h0) (by rw[a8,fB]) (PS _) (by omega) λtt r4 a w E I=>?_;rw[nil_append,ei]at I;rw[ei]at E;refine RT 1 E I ?_;exact⟨_,_,rfl,I⟩
theorem adX {m:Ml}(h:m.2.2.length≤1000):(if qy (net.map cU) m.2.2.length then net.map cU++[cU m] else net.map cU)=(pB net m).map cU:=by
 have h1:qy (net.map cU) m.2.2.length=decide (net.length<300):=by
  rw[qy,a8,dr h,Bool.and_true]
 rw[h1,pB];by_cases h2:net.length<300
 ·rw[dr h2,aj rfl,aj h2,cY];rfl
 ·rw[bu h2,ag (by decide),ag h2]
theorem PU (I:U W w (cg 124 ad n c l::bL q (net.map cU)::aa mb 107 [x1,pt q,x3]::L))(hn:n≤1000)(hl:∀ m∈l,m.2.2.length≤1000) :
   Calls prog 61 #[pt mb,.slice ad n c] w λe w'=>e=.returned (.int .i64 0)∧U W w' (bL q ((eG net l).map cU)::aa mb 107 [x1,pt q,x3]::L):=by
 obtain⟨xs,eJ,b7,I⟩:=cg.open I;have bf:xs.length=n:=by rw[← b7,← eJ,a8]
 subst bf;refine EN func61 ntmps61 rfl rfl λa E=>?_;refine RN 7 E I λa E=>?_;refine aL (λμ a w=>∃ (i:Nat),(μ=xs.length-i∧i≤xs.length)∧Fr a 20 [(0,pt mb),(7,.slice ad xs.length c),(8,.int .i64 xs.length),(9,.int .i64 i)]∧U W w (bL q ((eG net (l.take i)).map cU)::Sl 124 3 ad xs.length c (rows ca xs)::ah cd xs::aa mb 107 [x1,pt q,x3]::L)) (xs.length) (⟨0,⟨rfl,by omega⟩,E.ab [0,7,8,9],(show U W w (Sl 124 3 ad xs.length c (rows ca xs)::ah cd xs::bL q ((eG net (l.take 0)).map cU)::_) from I).sub⟩) ?_;clear E I;rintro μ a w ⟨i,⟨rfl,hi⟩,E,I⟩;refine IF 3 E I (λak a E=>?_) λak a E=>?_
 ·
  have aG:i<xs.length:=by omega
  have Ar:i<l.length:=by omega
  refine RN 2 E I λa E=>?_;obtain⟨bi,oi,rfl,qd⟩:=(I.pick (Sl 124 3 ad xs.length c (rows ca xs))).bU ad (by omega);have fo:=jt ot qd (aD aG);obtain⟨m,hm⟩:∃ m,m=l[i]:=⟨_,rfl⟩;obtain⟨xa,PV,hx⟩:∃ a c,xs[i]=(a,c,m):=⟨xs[i].1,xs[i].2.1,by
   have h1:(xs.map (·.2.2))[i]?=l[i]?:=by rw[eJ]
   rw[bd,aD aG,aD Ar]at h1;have h2:xs[i].2.2=l[i]:=by simpa using h1
   rw[hm,← h2]⟩
  have mi:=hl m (by rw[hm];exact jj _);rw[hx]at fo;refine RN 1 E I λa E=>?_;refine SS E (bT E Be rfl Ty.t124 (fo)) λa E=>?_;refine AL 0 E I λcJ a w E I=>?_;refine SA 0 E I λa w E I=>?_;refine bM 0 [4] [0,1,2,3003,1004,1005] E I λa w E I hH hC=>?_;refine RH 5 E I hH hC λa E=>?_;refine CL 0 E I (ada (bs:=m.2.2) (I.pick (bL q ((eG net (l.take i)).map cU))) (λw' dj=>by
   have h1:=(dj.pick (ah cd xs)).fA aG;rw[hx]at h1;exact U.cw (L:=cd (xa,PV,m)::_) h1 _ _ (k:=(fX.head:fX (Sl 5 1 xa m.2.2.length PV (bc m.2.2)::_) xa _ _ _ _ _ _)) rfl rfl)) λa w E I=>?_
  refine RN 0 E I λa E=>?_;rw[show ((m.1:Int),(m.2.1:Int),m.2.2)=cU m from rfl,adX mi,hm,← Pp net Ar]at I;refine RN 2 E I λa E=>?_;exact⟨xs.length-(i+1),by omega,i+1,⟨rfl,by omega⟩,E.ab [0,7,8,9],I.sub⟩
 refine RT 2 E I ?_;obtain rfl:i=xs.length:=by omega
 rw[gl (by omega)]at I;exact⟨rfl,I.sub⟩
end
end
section
abbrev dY (s:fU):List Value:=[.int .i64 s.fn,.int .i64 s.a,.int .i64 s.b,.int .i64 s.n]
section
variable {W w:World}{L:List SP}{c d cL mb i q:Nat}{ad adE:Option Addr}{p:Pr}{B:jP}{A:oz}{v:Wd}{x:fI}{s x5 s':Pl}{t:fU}{y:Int}{net:List Ml}{cf:Cf}
theorem oz.Ok.at (h:A.Ok B v)(hi:i<v.ps.length):∃ x,A.xs[i]?=some (x,an v i)∧i<A.xs.length∧B.fz[i]?=some x:=by
 have hl:A.xs.length=v.ps.length:=by rw[← h.ps,a8]
 have dI:i<A.xs.length:=by omega
 refine⟨A.xs[i].1,?_,dI,by rw[← h.fz,bd,aD dI];rfl⟩;rw[aD dI,an,br,← h.ps,bd,aD dI];rfl
theorem aN.out (I:U W w (ah (cD W p c) A.xs::L))(hx:A.xs[i]?=some (x,s)):U W w (x.J W p c s::ah (cD W p c) (A.xs.eraseIdx i)::L):=by
 obtain⟨hi,h1⟩:=a2.1 hx;have h2:=I.fA hi;rw[h1]at h2;exact h2
theorem aN.put (hA:A.Ok B v)(hx:A.xs[i]?=some (x,x5))(FW:c≤d)(net:List Ml)
   (I:U W w (x.J W p d s'::ah (cD W p c) (A.xs.eraseIdx i)::aa B.mb 107 (j3 B A)::Sl 81 1 A.adL A.xs.length A.cL (A.xs.map cG)::bL B.q (net.map cU)::Sl 90 1 A.adE A.es.length A.cE (A.es.map bB)::ah eH A.es::L)) :
   U W w (aN W B p d { v with ps:=v.ps.set i s',net:=net }::L):=by
 obtain⟨hi,h1⟩:=a2.1 hx;have h2:=(I.pick (ah (cD W p c) (A.xs.eraseIdx i))).sU FW;have h3:=U.la (f:=cD W p d) (x:=(x,s')) hi (h2.pick (x.J W p d s'));have e1:(A.xs.set i (x,s')).map cG=A.xs.map cG:=by
  rw[jF,show cG (x,s')=(A.xs.map cG)[i]'(by rw[a8];exact hi) from by rw[getElem_map,h1],mT]
 have e2:(A.xs.set i (x,s')).length=A.xs.length:=bz ..;have hA':oz.Ok { A with xs:=A.xs.set i (x,s') } B { v with ps:=v.ps.set i s',net:=net }:=by
  refine⟨?_,?_,hA.ev⟩
  ·show (A.xs.set i (x,s')).map (·.1)=_;rw[jF,← hA.fz];show (A.xs.map (·.1)).set i x=_;rw[show x=(A.xs.map (·.1))[i]'(by rw[a8];exact hi) from by rw[getElem_map,h1],mT]
  ·show (A.xs.set i (x,s')).map (·.2)=v.ps.set i s';rw[jF,hA.ps]
 have h4:U W w (ah (cD W p d) (A.xs.set i (x,s'))::aa B.mb 107 (j3 B { A with xs:=A.xs.set i (x,s') })::Sl 81 1 A.adL (A.xs.set i (x,s')).length A.cL ((A.xs.set i (x,s')).map cG)::bL B.q (net.map cU)::Sl 90 1 A.adE A.es.length A.cE (A.es.map bB)::ah eH A.es::L):=by
  simp only[j3,e1,e2];exact h3.sub
 exact (aN.fold h4 B p d { v with ps:=v.ps.set i s',net:=net } { A with xs:=A.xs.set i (x,s') } hA').sub
theorem fU.u8 (b:Int):IntKind.u8.wrap b=((gi b).toNat:Int):=by rw[wrap_u8,acZ]
structure jP.Ok (B:jP)(p:Pr)(c:Nat):Prop where
 pr:dp p
 sz:p.title.size≤1000000000
 gs:∀ x∈B.fz,c0 x.z.gs
 c:c≤1000000
theorem adY (I:U W w L):Calls prog 62 #[.pointer none,.int .i64 y] w λe w'=>e=.returned (.bool false)∧U W w' L:=by
 refine EN func62 ntmps62 rfl rfl λa E=>?_;refine RN 7 E I λa E=>?_;replace E:=E.ek 7;refine RT 19 E I ?_;exact⟨rfl,I⟩
theorem adZ (I:U W w (ah (cD W p c) A.xs::L))(hx:A.xs[i]?=some (x,s))(a6:dp p)(aF:p.title.size≤1000000000)(hc:c≤1000000) :
   Calls prog 62 #[x.z.mul,.int .i64 y] w λe w'=>∃ z:Bool,e=.returned (.bool z)∧(z=true→0≤y∧y<s.k.workers∧∃ M,x.z=.mu M)∧U W w' (ah (cD W p (c+1)) A.xs::L):=by
 obtain⟨hi,h1⟩:=a2.1 hx;have h2:=aN.out I hx;obtain⟨cf,z⟩:=x;cases z with
 | pl B=>exact (adY I).mono λe w' ⟨h,I⟩=>⟨false,h,(λh=>by cases h),I.sU (g5 c)⟩
 | mu M =>
  refine (adu h2 a6 aF hc).mono λe w' ⟨z,h,h3,I⟩=>⟨z,h,λhz=>⟨(h3 hz).2.1,(h3 hz).2.2,M,rfl⟩,?_⟩;have h4:=(I.pick (ah (cD W p c) (A.xs.eraseIdx i))).sU (g5 c);refine U.ye hi ?_;rw[h1];exact h4.pick (fu W M p cf (c+1) s)
theorem Dx {t:fU}(h:t.fn=1)(gk:t.a=i)(hi:i<v.ps.length):gK p t v=((dM p (gi t.b) (an v i)).1,{ v with ps:=v.ps.set i (dM p (gi t.b) (an v i)).2 }):=by
 rw[gK,ag (by omega),aj h,gk,c9]
theorem yf {t:fU}(h:t.fn=2)(gk:t.a=i)(hi:i<v.ps.length):gK p t v=(0,{ v with ps:=v.ps.set i ⟨(bw (an v i).k).2,(an v i).g⟩,net:=eG v.net (bw (an v i).k).1 }):=by
 rw[gK,ag (by omega),ag (by omega),aj h,gk,c9]
theorem As {t:fU}(h:t.fn=8)(gk:t.a=i)(hi:i<v.ps.length):gK p t v=(0,{ v with ps:=v.ps.set i ⟨(cA (an v i).k).2,(an v i).g⟩,net:=eG v.net (cA (an v i).k).1 }):=by
 rw[gK,ag (by omega),ag (by omega),ag (by omega),aj h,gk,c9]
theorem Au {t:fU}(h:t.fn=7)(gk:t.a=i)(hi:i<v.ps.length):gK p t v=(0,v):=by
 rw[gK,ag (by omega),ag (by omega),ag (by omega),ag (by omega)]
theorem ad0 (I:U W w (aN W B p c v::L))(ha0:t.a<0∨(v.ps.length:Int)≤t.a) :
   Calls prog 44 #[pt B.mb,.agg (dY t).toArray] w λe w'=>e=.returned (.int .i64 7)∧U W w' (aN W B p c v::L):=by
 replace I:=aN.open I;obtain⟨A,hA,I⟩:=I;have hl:A.xs.length=v.ps.length:=by rw[← hA.ps,a8]
 refine EN func44 ntmps44 rfl rfl λa E=>?_;refine BX 1 E I λb3 a w E I=>?_;change U W w (aa b3 58 (dY t)::_) at I;refine CL 5 E I (adW (I.pick (aa B.mb 107 (j3 B A))) (by omega)) λa w E I=>?_;refine RN 4 E I λa E=>?_;refine SK (bA E rfl (adV E underlying81) rfl ?_);clear E a;intro a E;refine RN 0 E I λa E=>?_;replace E:=E.ek 11;refine RT 3 E I ?_;exact⟨rfl,(aN.fold I B p c v A hA).sub⟩
set_option maxHeartbeats 1000000 in
theorem ad1 (I:U W w (aN W B p c v::L))(hB:B.Ok p c)(hv:bN p cf c v)(hi:i<v.ps.length)(hf:t.fn=1∨t.fn=2∨t.fn=8∨t.fn=7)(gk:t.a=i) :
   Calls prog 44 #[pt B.mb,.agg (dY t).toArray] w λe w'=>∃ z:Int,e=.returned (.int .i64 z)∧(t.fn≠7→z=(gK p t v).1) ∧
    (t.fn=7→z=7∨(z=0∧0≤t.b∧t.b<(an v i).k.workers∧∃ x M,B.fz[i]?=some x∧x.z=.mu M))∧U W w' (aN W B p (c+1) (gK p t v).2::L):=by
 replace I:=aN.open I;obtain⟨A,hA,I⟩:=I;obtain⟨x,hx,Dy,pF⟩:=hA.at hi;obtain⟨_,hE⟩:=a2.1 hx;have hM:=x.rk (W:=W) (p:=p) hB.pr hB.sz (hB.gs x (bI pF));obtain⟨hw,df,yg⟩:=hv.pl i hi;have kT:=hB.c;have Av:cG A.xs[i]=.iface x.z.t (.pointer (some x.z.ad)):=by rw[hE]
 refine EN func44 ntmps44 rfl rfl λa E=>?_;refine BX 1 E I λb3 a w E I=>?_;change U W w (aa b3 58 (dY t)::_) at I;refine RN 5 E I λa E=>?_;rw[gk]at E;refine CL 0 E I (sV ((I.pick (Sl 81 1 A.adL A.xs.length A.cL (A.xs.map cG))).pick (aa B.mb 107 (j3 B A))) Dy) λa w E I=>?_;refine RN 1 E I λa E=>?_;rw[Av]at E;refine RN 4 E I λa E=>?_;replace E:=E.aQ 11;refine IF 8 E I (λao a E=>?_) λao a E=>?_
 ·
  refine RN 1 E I λa E=>?_;replace I:=aN.out (I.pick (ah (cD W p c) A.xs)) hx;refine RN 3 E I λa E=>?_;refine SS E (gA E fk dF) λa E=>?_;rw[fU.u8]at E;refine RN 0 E I λa E=>?_;refine jU E rfl hM.ID hM.cP rfl (hM.al _ _ c (an v i) (gi t.b) kT hw (I.pick (x.J W p c (an v i)))) (by rfl) ?_;clear E I;rintro e w ⟨rfl,I⟩;refine⟨_,rfl,λa E=>?_⟩;refine RT 1 E I ?_;exact⟨_,rfl,λ_=>by rw[Dx (by assumption) gk hi],λh=>by omega,by
   have h1:=aN.put hA hx (g5 c) v.net (I.sub (M:=x.J W p (c+1) (dM p (gi t.b) (an v i)).2::ah (cD W p c) (A.xs.eraseIdx i)::aa B.mb 107 (j3 B A)::Sl 81 1 A.adL A.xs.length A.cL (A.xs.map cG)::bL B.q (v.net.map cU)::Sl 90 1 A.adE A.es.length A.cE (A.es.map bB)::ah eH A.es::L));rw[Dx (by assumption) gk hi];exact h1⟩
 refine IF 3 E I (λay a E=>?_) λay a E=>?_
 ·
  refine RN 1 E I λa E=>?_;replace I:=aN.out (I.pick (ah (cD W p c) A.xs)) hx;refine RN 2 E I λa E=>?_;refine jU E rfl hM.IH hM.cT rfl (hM.tick _ _ c (an v i) kT hw (by omega) (I.pick (x.J W p c (an v i)))) (by rfl) ?_;clear E I;rintro e w ⟨am,jQ,rfl,I⟩;refine⟨_,rfl,λa E=>?_⟩;refine CL 0 E I (PU (((I.pick (aa B.mb 107 (j3 B A))).pick (bL B.q (v.net.map cU))).pick (cg 124 am (bw (an v i).k).1.length jQ (bw (an v i).k).1)) (Pn hw.wc) (λm hm=>(Pq hw.wc m hm).2)) λa w E I=>?_;refine RT 1 E I ?_;exact⟨_,rfl,λ_=>by rw[yf (by assumption) gk hi],λh=>by omega,by
   have h1:=aN.put hA hx (g5 c) (eG v.net (bw (an v i).k).1) (I.sub (M:=x.J W p (c+1) ⟨(bw (an v i).k).2,(an v i).g⟩::ah (cD W p c) (A.xs.eraseIdx i)::aa B.mb 107 (j3 B A)::Sl 81 1 A.adL A.xs.length A.cL (A.xs.map cG)::bL B.q ((eG v.net (bw (an v i).k).1).map cU)::Sl 90 1 A.adE A.es.length A.cE (A.es.map bB)::ah eH A.es::L));rw[yf (by assumption) gk hi];exact h1⟩
 refine IF 3 E I (λbl a E=>?_) λbl a E=>?_
 ·
  refine RN 1 E I λa E=>?_;replace I:=aN.out (I.pick (ah (cD W p c) A.xs)) hx;refine RN 2 E I λa E=>?_;refine jU E rfl hM.II hM.IJ rfl (hM.pj _ _ c (an v i) kT hw (I.pick (x.J W p c (an v i)))) (by rfl) ?_;clear E I;rintro e w ⟨am,jQ,rfl,I⟩;refine⟨_,rfl,λa E=>?_⟩;refine CL 0 E I (PU (((I.pick (aa B.mb 107 (j3 B A))).pick (bL B.q (v.net.map cU))).pick (cg 124 am (cA (an v i).k).1.length jQ (cA (an v i).k).1)) (Po hw.wc) (λm hm=>(Ps hw.wc m hm).2)) λa w E I=>?_;refine RT 1 E I ?_;exact⟨_,rfl,λ_=>by rw[As (by assumption) gk hi],λh=>by omega,by
   have h1:=aN.put hA hx (g5 c) (eG v.net (cA (an v i).k).1) (I.sub (M:=x.J W p (c+1) ⟨(cA (an v i).k).2,(an v i).g⟩::ah (cD W p c) (A.xs.eraseIdx i)::aa B.mb 107 (j3 B A)::Sl 81 1 A.adL A.xs.length A.cL (A.xs.map cG)::bL B.q ((eG v.net (cA (an v i).k).1).map cU)::Sl 90 1 A.adE A.es.length A.cE (A.es.map bB)::ah eH A.es::L));rw[As (by assumption) gk hi];exact h1⟩
 refine aV 2 (λw0 w'=>Rd w' b3 0 (dY t)) [3,5] [0,1,4,3002,3005,1003,1006,7] E I λa w E I hH=>?_;have hC:=hH.at w (I.ai (b:=b3));refine RH 3 E I hH hC λa E=>?_;refine QH E (λw hc=>ae E (hc 1 _ rfl)) hC λa E=>?_;rw[gk]at E;refine RH 0 E I hH hC λa E=>?_;refine QH E (λw hc=>ae E (hc 2 _ rfl)) hC λa E=>?_;refine RH 0 E I hH hC λa E=>?_;refine CL 0 E I (I2 ((I.pick (Sl 81 1 A.adL A.xs.length A.cL (A.xs.map cG))).pick (aa B.mb 107 (j3 B A))) Dy) λa w E I=>?_;replace hC:=hH.at w (I.ai (b:=b3));rw[show A.xs[i].1.z.mul=x.z.mul from by rw[hE]]at E;refine RH 0 E I hH hC λa E=>?_;refine bg 0 E I (adZ (x:=x) (y:=t.b) (I.pick (ah (cD W p c) A.xs)) hx hB.pr hB.sz kT) λz a w E ⟨hz,I⟩=>?_;refine RN 1 E I λa E=>?_;refine IF 0 E I (λbO a E=>?_) λbO a E=>?_
 ·
  have kW:z=false:=by cases z <;> simp_all
  refine RT 2 E I ?_;exact⟨7,rfl,λh=>absurd (by omega) h,λ_=>.inl rfl,by
   rw[Au (by omega) gk hi];exact (aN.fold I B p (c+1) v A hA).sub⟩
 have kW:z=true:=by cases z <;> simp_all
 refine RT 2 E I ?_;exact⟨0,rfl,λh=>absurd (by omega) h,λ_=>.inr ⟨rfl,(hz kW).1,(hz kW).2.1,x,(hz kW).2.2.choose,pF,(hz kW).2.2.choose_spec⟩,by
  rw[Au (by omega) gk hi];exact (aN.fold I B p (c+1) v A hA).sub⟩
end
end
section
section
variable {W w:World}{L:List SP}{n c cL mb j q:Nat}{ad adE:Option Addr}{p:Pr}{B:jP}{A:oz}{v:Wd}{x:fI}{t:fU}{y:Int}{net:List Ml}{m:Ml}{cf:Cf}{z:UInt8}
theorem I3 (h:net[j]?=some m):∃ h2:j<(net.map cU).length,(net.map cU)[j]=cU m:=by
 obtain⟨h1,h2⟩:=a2.1 h;exact⟨by rw[a8];exact h1,by rw[getElem_map,h2]⟩
theorem I4 (I:U W w (bL q (net.map cU)::L))(h:net[j]?=some m):Calls prog 52 #[pt q,.int .i64 j] w λe w'=>∃ ad c,e=.returned (.tuple #[.agg #[.int .i64 m.1,.int .i64 m.2.1,.slice ad m.2.2.length c],.bool true])∧U W w' (Sl 5 1 ad m.2.2.length c (bc m.2.2)::bL q (net.map cU)::L):=by
 obtain⟨h1,h2⟩:=I3 h;have h3:=ade I h1;rw[h2]at h3;exact h3
theorem PW (I:U W w (bL q (net.map cU)::L))(h:y<0∨(net.length:Int)≤y):Calls prog 52 #[pt q,.int .i64 y] w λe w'=>e=.returned (.tuple #[.agg #[.int .i64 0,.int .i64 0,.slice none 0 0],.bool false])∧U W w' (bL q (net.map cU)::L) :=
 adb I (by rw[a8];simp;omega)
theorem PX (I:U W w (bL q (net.map cU)::L))(h:net[j]?=some m):Calls prog 63 #[pt q,.int .i64 j] w λe w'=>e=.returned (.bool true)∧U W w' (bL q ((net.eraseIdx j).map cU)::L):=by
 obtain⟨h1,h2⟩:=I3 h;have h3:=adg I h1;rw[show (net.map cU).eraseIdx j=(net.eraseIdx j).map cU from by simp only[th,cY,map_take,map_drop]]at h3;exact h3
theorem ad3 (I:U W w (bL q (net.map cU)::L))(h:net[j]?=some m):Calls prog 64 #[pt q,.int .i64 j,.int .i64 y,.int .u8 (z.toNat:Int)] w λe w' =>
   e=.returned (.bool (decide (0≤y)&&decide (y<m.2.2.length)))∧U W w' (bL q ((if y<0∨(m.2.2.length:Int)≤y then net else net.set j (m.1,m.2.1,m.2.2.set y.toNat (m.2.2.getD y.toNat 0 ^^^ z))).map cU)::L):=by
 obtain⟨h1,h2⟩:=I3 h;have h3:=adh (aR:=y) (x:=z) I h1;rw[h2]at h3;refine h3.mono λe w' ⟨h4,h5⟩=>⟨h4,?_⟩;by_cases h6:y<0∨(m.2.2.length:Int)≤y
 ·rw[aj h6];rw[ag (by show ¬ (decide (0≤y)&&decide (y<(m.2.2.length:Int)))=true;simp;omega)]at h5;exact h5
 ·rw[ag h6,jF];rw[aj (by show (decide (0≤y)&&decide (y<(m.2.2.length:Int)))=true;simp;omega)]at h5;exact h5
theorem PY {t:fU}(h:t.n<0∨(v.net.length:Int)≤t.n):gT p t v=(3,v):=by rw[gT,aj h]
theorem Dz (h:v.net[j]?=some m):v.net.getD j (0,0,[])=m:=by rw[br,h];rfl
theorem DA {t:fU}(h:t.fn=4)(gU:t.n=j)(hm:v.net[j]?=some m):gT p t v=(0,{ v with net:=v.net.eraseIdx j }):=by
 have h1:=(a2.1 hm).1;rw[gT,ag (by omega),ag (by omega),aj h,gU,c9]
theorem wj {t:fU}(h:t.fn=6)(gU:t.n=j)(hm:v.net[j]?=some m):gT p t v=if t.a<0∨(m.2.2.length:Int)≤t.a then (3,v) else (0,{ v with net:=v.net.set j (m.1,m.2.1,m.2.2.set t.a.toNat (m.2.2.getD t.a.toNat 0 ^^^ gi t.b)) }):=by
 have h1:=(a2.1 hm).1;rw[gT,ag (by omega),aj h,gU,c9,Dz hm]
theorem DB {t:fU}(h:t.fn≠4)(h':t.fn≠6)(gU:t.n=j)(hm:v.net[j]?=some m):gT p t v=((dN p m.2.2 (an v m.2.1)).1,{ v with ps:=v.ps.set m.2.1 (dN p m.2.2 (an v m.2.1)).2,net:=if t.fn=5 then v.net else v.net.eraseIdx j }):=by
 have h1:=(a2.1 hm).1;rw[gT,ag (by omega),ag h',ag h,gU,c9,Dz hm]
theorem ad4 (I:U W w (aN W B p c v::L))(wG:t.n<0∨(v.net.length:Int)≤t.n) :
   Calls prog 45 #[pt B.mb,.agg (dY t).toArray] w λe w'=>e=.returned (.int .i64 3)∧U W w' (aN W B p c v::L):=by
 replace I:=aN.open I;obtain⟨A,hA,I⟩:=I;refine EN func45 ntmps45 rfl rfl λa E=>?_;refine BX 1 E I λb3 a w E I=>?_;change U W w (aa b3 58 (dY t)::_) at I;refine RN 1 E I λa E=>?_;refine b6 (M:=λa w=>∃ b5:Nat,Fr a 61 [(0,pt B.mb),(3,pt b3),(5,pt b5),(6,.bool false)]∧U W w (aa b5 124 [.int .i64 0,.int .i64 0,.slice none 0 0]::aa b3 58 (dY t)::aa B.mb 107 (j3 B A)::Sl 81 1 A.adL A.xs.length A.cL (A.xs.map cG)::ah (cD W p c) A.xs::bL B.q (v.net.map cU)::Sl 90 1 A.adE A.es.length A.cE (A.es.map bB)::ah eH A.es::L)) ?_ ?_
 ·
  refine aV 0 (λw0 w'=>Rd w' B.mb 0 (j3 B A)∧Rd w' b3 0 (dY t)) [5,10] [0,1,2,4,3003,3005,2006,7,8,9,1010,1011,12] E I λa w E I hH=>?_;have hC:=hH.at w ⟨I.ai (b:=B.mb),I.ai (b:=b3)⟩;refine RH 4 E I hH hC λa E=>?_;refine QH E (λw hc=>ae E (hc.1 1 _ rfl)) hC λa E=>?_;refine QH E (λw hc=>ae E (hc.2 3 _ rfl)) hC λa E=>?_;refine RH 0 E I hH hC λa E=>?_;refine DN [(6,[7,8,9,1010,1011,12]),(10,[1006,7,8,9,1011,12])] (by kernel_rfl) rfl ⟨⟨_,rfl,?_⟩,⟨_,rfl,?_⟩,trivial⟩
  ·
   refine RH 0 E I hH hC λa E=>?_;refine CL 0 E I (PW (I.pick (bL B.q (v.net.map cU))) wG) λa w E I=>?_;refine RN 3 E I λa E=>?_;refine e5 E rfl I Ty.t124 rfl λb5 a w E I ho=>?_;clear ho;replace hC:=hH.at w ⟨I.ai (b:=B.mb),I.ai (b:=b3)⟩;refine RH 0 E I hH hC λa E=>?_;refine SA 0 E I λa w E I=>?_;refine RN 1 E I λa E=>?_;exact⟨b5,E.ab [0,3,5,6],I.sub⟩
  refine RH 0 E I hH hC λa E=>?_;refine e5 E rfl I Ty.t124 rfl λb5 a w E I ho=>?_;clear ho;replace hC:=hH.at w ⟨I.ai (b:=B.mb),I.ai (b:=b3)⟩;refine RH 0 E I hH hC λa E=>?_;refine CL 0 E I (PW (I.pick (bL B.q (v.net.map cU))) wG) λa w E I=>?_;refine SA 3 E I λa w E I=>?_;refine RN 1 E I λa E=>?_;exact⟨b5,E.ab [0,3,5,6],I.sub⟩
 clear E;(try clear I);rintro a w ⟨b5,E,I⟩;refine RN 4 E I λa E=>?_;replace E:=E.ek 18;refine RT 3 E I ?_;exact⟨rfl,(aN.fold I B p c v A hA).sub⟩
set_option maxHeartbeats 1000000 in
theorem ad5 (I:U W w (aN W B p c v::L))(hB:B.Ok p c)(hv:bN p cf c v)(hf:t.fn=3∨t.fn=4∨t.fn=5∨t.fn=6)(gU:t.n=j)(hm:v.net[j]?=some m) :
   Calls prog 45 #[pt B.mb,.agg (dY t).toArray] w λe w'=>e=.returned (.int .i64 (gT p t v).1)∧U W w' (aN W B p (c+1) (gT p t v).2::L):=by
 replace I:=aN.open I;obtain⟨A,hA,I⟩:=I;have dO:=(a2.1 hm).1;have gj:=hv.IU dO;rw[Dz hm]at gj;obtain⟨x,hx,Dy,pF⟩:=hA.at gj.1;obtain⟨_,hE⟩:=a2.1 hx;have hM:=x.rk (W:=W) (p:=p) hB.pr hB.sz (hB.gs x (bI pF));obtain⟨hw,df,yg⟩:=hv.pl m.2.1 gj.1;have kT:=hB.c;have Av:cG A.xs[m.2.1]=.iface x.z.t (.pointer (some x.z.ad)):=by rw[hE]
 refine EN func45 ntmps45 rfl rfl λa E=>?_;refine BX 1 E I λb3 a w E I=>?_;change U W w (aa b3 58 (dY t)::_) at I;refine RN 1 E I λa E=>?_;refine b6 (M:=λa w=>∃ (b5:Nat) (am:Option Addr) (jQ:Nat),Fr a 61 [(0,pt B.mb),(3,pt b3),(5,pt b5),(6,.bool true)]∧U W w (aa b5 124 [.int .i64 m.1,.int .i64 m.2.1,.slice am m.2.2.length jQ]::Sl 5 1 am m.2.2.length jQ (bc m.2.2)::aa b3 58 (dY t)::aa B.mb 107 (j3 B A)::Sl 81 1 A.adL A.xs.length A.cL (A.xs.map cG)::ah (cD W p c) A.xs::bL B.q (v.net.map cU)::Sl 90 1 A.adE A.es.length A.cE (A.es.map bB)::ah eH A.es::L)) ?_ ?_
 ·
  refine aV 0 (λw0 w'=>Rd w' B.mb 0 (j3 B A)∧Rd w' b3 0 (dY t)) [5,10] [0,1,2,4,3003,3005,2006,7,8,9,1010,1011,12] E I λa w E I hH=>?_;have hC:=hH.at w ⟨I.ai (b:=B.mb),I.ai (b:=b3)⟩;refine RH 4 E I hH hC λa E=>?_;refine QH E (λw hc=>ae E (hc.1 1 _ rfl)) hC λa E=>?_;refine QH E (λw hc=>ae E (hc.2 3 _ rfl)) hC λa E=>?_;rw[gU]at E;refine RH 0 E I hH hC λa E=>?_;refine DN [(6,[7,8,9,1010,1011,12]),(10,[1006,7,8,9,1011,12])] (by kernel_rfl) rfl ⟨⟨_,rfl,?_⟩,⟨_,rfl,?_⟩,trivial⟩
  ·
   refine RH 0 E I hH hC λa E=>?_;refine aY 0 E I (I4 (I.pick (bL B.q (v.net.map cU))) hm) λam jQ a w E I=>?_;refine RN 3 E I λa E=>?_;refine e5 E rfl I Ty.t124 rfl λb5 a w E I ho=>?_;clear ho;replace hC:=hH.at w ⟨I.ai (b:=B.mb),I.ai (b:=b3)⟩;refine RH 0 E I hH hC λa E=>?_;refine SA 0 E I λa w E I=>?_;refine RN 1 E I λa E=>?_;exact⟨b5,am,jQ,E.ab [0,3,5,6],I.sub⟩
  refine RH 0 E I hH hC λa E=>?_;refine e5 E rfl I Ty.t124 rfl λb5 a w E I ho=>?_;clear ho;replace hC:=hH.at w ⟨I.ai (b:=B.mb),I.ai (b:=b3)⟩;refine RH 0 E I hH hC λa E=>?_;refine aY 0 E I (I4 (I.pick (bL B.q (v.net.map cU))) hm) λam jQ a w E I=>?_;refine SA 3 E I λa w E I=>?_;refine RN 1 E I λa E=>?_;exact⟨b5,am,jQ,E.ab [0,3,5,6],I.sub⟩
 clear E;(try clear I);rintro a w ⟨b5,am,jQ,E,I⟩;refine RN 4 E I λa E=>?_;replace E:=E.aQ 18;refine RN 1 E I λa E=>?_;refine b6 (M:=λa w=>((t.fn≠4∧t.fn≠6)∧Fr a 61 [(0,pt B.mb),(5,pt b5)])∧U W w (aa b5 124 [.int .i64 m.1,.int .i64 m.2.1,.slice am m.2.2.length jQ]::Sl 5 1 am m.2.2.length jQ (bc m.2.2)::aa B.mb 107 (j3 B A)::Sl 81 1 A.adL A.xs.length A.cL (A.xs.map cG)::ah (cD W p c) A.xs::bL B.q ((if t.fn=5 then v.net else v.net.eraseIdx j).map cU)::Sl 90 1 A.adE A.es.length A.cE (A.es.map bB)::ah eH A.es::L)) ?_ ?_
 ·
  refine IF 6 E I (λao a E=>?_) λao a E=>?_
  ·
   refine bM 1 [5] [0,1,2,4,3003,1005,1006] E I λa w E I hH hC=>?_;refine RH 6 E I hH hC λa E=>?_;rw[gU]at E;refine CL 0 E I (PX (I.pick (bL B.q (v.net.map cU))) hm) λa w E I=>?_;refine RT 2 E I ?_;exact⟨by rw[DA (by assumption) gU hm],by
    rw[DA (by assumption) gU hm];exact (aN.fold ((I.pick (ah (cD W p c) A.xs)).sU (g5 c)) B p (c+1) { v with net:=v.net.eraseIdx j } A ⟨hA.fz,hA.ps,hA.ev⟩).sub⟩
  refine IF 3 E I (λay a E=>?_) λay a E=>?_
  ·
   refine bM 2 [5,7,9,10] [0,1,2,4,6,8,3003,3005,3007,1009,1010,1011,12] E I λa w E I hH hC=>?_;refine RH 10 E I hH hC λa E=>?_;refine SS E (gA E fk dF) λa E=>?_;rw[fU.u8,gU]at E;refine RH 0 E I hH hC λa E=>?_;refine CL 0 E I (ad3 (I.pick (bL B.q (v.net.map cU))) hm) λa w E I=>?_;refine RN 1 E I λa E=>?_;refine IF 0 E I (λbl a E=>?_) λbl a E=>?_
   ·
    have ho:t.a<0∨(m.2.2.length:Int)≤t.a:=by
     by_cases h1:t.a<0
     ·exact .inl h1
     ·by_cases h2:(m.2.2.length:Int)≤t.a
      ·exact .inr h2
      ·simp at bl;omega
    refine RT 2 E I ?_;exact⟨by rw[wj (by assumption) gU hm,aj ho],by
     rw[wj (by assumption) gU hm,aj ho];rw[aj ho]at I;exact (aN.fold ((I.pick (ah (cD W p c) A.xs)).sU (g5 c)) B p (c+1) v A hA).sub⟩
   have ho:¬ (t.a<0∨(m.2.2.length:Int)≤t.a):=by
    simp at bl;omega
   refine RT 2 E I ?_;exact⟨by rw[wj (by assumption) gU hm,ag ho],by
    rw[wj (by assumption) gU hm,ag ho];rw[ag ho]at I;exact (aN.fold ((I.pick (ah (cD W p c) A.xs)).sU (g5 c)) B p (c+1) { v with net:=v.net.set j (m.1,m.2.1,m.2.2.set t.a.toNat (m.2.2.getD t.a.toNat 0 ^^^ gi t.b)) } A ⟨hA.fz,hA.ps,hA.ev⟩).sub⟩
  refine IF 3 E I (λbO a E=>?_) λbO a E=>?_
  ·
   refine bM 0 [5] [0,1,2,4,3003,1005,1006] E I λa w E I hH hC=>?_;refine RH 6 E I hH hC λa E=>?_;rw[gU]at E;refine CL 0 E I (PX (I.pick (bL B.q (v.net.map cU))) hm) λa w E I=>?_;refine RN 0 E I λa E=>?_;rw[ag (by omega)];exact⟨⟨⟨by omega,by omega⟩,E.ab [0,5]⟩,I.sub⟩
  refine RN 0 E I λa E=>?_;rw[aj (by omega)];exact⟨⟨⟨by omega,by omega⟩,E.ab [0,5]⟩,I.sub⟩
 clear E;(try clear I);rintro a w ⟨⟨jT,E⟩,I⟩;refine aV 1 (λw0 w'=>Rd w' b5 0 [.int .i64 m.1,.int .i64 m.2.1,.slice am m.2.2.length jQ]) [3,5] [0,1,4,3002,3005,1003,1006,7] E I λa w E I hH=>?_;have hC:=hH.at w (I.ai (b:=b5));refine RH 3 E I hH hC λa E=>?_;refine QH E (λw hc=>ae E (hc 1 _ rfl)) hC λa E=>?_;refine QH E (λw hc=>ae E (hc 2 _ rfl)) hC λa E=>?_;refine RH 0 E I hH hC λa E=>?_;refine CL 0 E I (sV ((I.pick (Sl 81 1 A.adL A.xs.length A.cL (A.xs.map cG))).pick (aa B.mb 107 (j3 B A))) Dy) λa w E I=>?_;replace hC:=hH.at w (I.ai (b:=b5));rw[Av]at E;replace I:=aN.out (I.pick (ah (cD W p c) A.xs)) hx;refine RH 0 E I hH hC λa E=>?_;refine jU E rfl hM.IE hM.IG rfl (hM.recv _ _ c (an v m.2.1) m.2.2 am jQ kT hw (by omega) (I.sl am).2 (λw' dj=>(dj.pick (Sl 5 1 am m.2.2.length jQ (bc m.2.2))).cw am _ rfl rfl) (I.pick (x.J W p c (an v m.2.1)))) (by rfl) ?_;clear E I;rintro e w ⟨rfl,I⟩;refine⟨_,rfl,λa E=>?_⟩;refine RN 1 E I λa E=>?_;refine RT 0 E I ?_;exact⟨by rw[DB jT.1 jT.2 gU hm],by
  rw[DB jT.1 jT.2 gU hm];exact aN.put hA hx (g5 c) (if t.fn=5 then v.net else v.net.eraseIdx j) I.sub⟩
end
end
section
section
variable {W w:World}{L:List SP}{n c d cL cE mb i j q:Nat}{ad adL adE:Option Addr}{p:Pr}{B:jP}{A:oz}{v u:Wd}{x:fI}{s s':Pl}{t:fU}{net:List Ml}{cf:Cf}{xs:List (fI×Pl)}{es:List kA}
theorem jP.Ok.less (h:B.Ok p d)(hc:c≤d):B.Ok p c:=⟨h.pr,h.sz,h.gs,eS hc h.c⟩
theorem aN.more (I:U W w (aN W B p c v::L))(h:c≤d):U W w (aN W B p d v::L):=by
 replace I:=aN.open I;obtain⟨A,hA,I⟩:=I;exact (aN.fold ((I.pick (ah (cD W p c) A.xs)).sU h) B p d v A hA).sub
theorem aN.yh (I:U W w (aN W B p c v::L)):∃ (adL:Option Addr) (cL:Nat) (adE:Option Addr) (cE:Nat) (xs:List (fI×Pl)) (es:List kA),(xs.map (·.1)=B.fz∧xs.map (·.2)=v.ps∧es.map (·.2.2)=v.ev) ∧
   U W w (aa B.mb 107 [.slice adL xs.length cL,pt B.q,.slice adE es.length cE]::Sl 81 1 adL xs.length cL (xs.map cG)::ah (cD W p c) xs::bL B.q (v.net.map cU)::Sl 90 1 adE es.length cE (es.map bB)::ah eH es::L):=by
 replace I:=aN.open I;obtain⟨⟨adL,cL,adE,cE,xs,es⟩,hA,I⟩:=I;exact⟨adL,cL,adE,cE,xs,es,⟨hA.fz,hA.ps,hA.ev⟩,I⟩
theorem aN.wk (I:U W w (aa B.mb 107 [.slice adL xs.length cL,pt B.q,.slice adE es.length cE]::Sl 81 1 adL xs.length cL (xs.map cG)::ah (cD W p c) xs::bL B.q (v.net.map cU)::Sl 90 1 adE es.length cE (es.map bB)::ah eH es::L))
   (h1:xs.map (·.1)=B.fz) (h2:xs.map (·.2)=v.ps) (h3:es.map (·.2.2)=v.ev):U W w (aN W B p c v::L) :=
 U.shut (M:=[_,_,_,_,_,_]) I λ_ h=>⟨⟨adL,cL,adE,cE,xs,es⟩,⟨h1,h2,h3⟩,h⟩
theorem I5 {ps:List Pl}{fz:List fI}(h1:xs.map (·.1)=fz)(h2:xs.map (·.2)=ps)(hi:i<xs.length):∃ x,xs[i]?=some (x,ps.getD i Dq)∧fz[i]?=some x:=by
 refine⟨xs[i].1,?_,by rw[← h1,bd,aD hi];rfl⟩;rw[aD hi,br,← h2,bd,aD hi];rfl
theorem DD (I:U W w (ah (cD W p c) xs::L))(hx:xs[i]?=some (x,s)):U W w (x.J W p c s::ah (cD W p c) (xs.eraseIdx i)::L):=by
 obtain⟨hi,h1⟩:=a2.1 hx;have h2:=I.fA hi;rw[h1]at h2;exact h2
theorem ad6 (I:U W w (x.J W p d s'::ah (cD W p c) (xs.eraseIdx i)::L))(hx:xs[i]?=some (x,s))(h:c≤d):U W w (ah (cD W p d) (xs.set i (x,s'))::L):=by
 obtain⟨hi,h1⟩:=a2.1 hx;exact U.la (f:=cD W p d) (x:=(x,s')) hi (((I.pick (ah (cD W p c) (xs.eraseIdx i))).sU h).pick (x.J W p d s'))
theorem PZ (hx:xs[i]?=some (x,s)):(xs.set i (x,s')).map cG=xs.map cG∧(xs.set i (x,s')).map (·.1)=xs.map (·.1):=by
 obtain⟨hi,h1⟩:=a2.1 hx;constructor
 ·rw[jF,show cG (x,s')=(xs.map cG)[i]'(by rw[a8];exact hi) from by rw[getElem_map,h1],mT]
 ·rw[jF];show (xs.map (·.1)).set i x=_;rw[show x=(xs.map (·.1))[i]'(by rw[a8];exact hi) from by rw[getElem_map,h1],mT]
def DE (B:jP)(t:fU)(v:Wd)(z:Int):Prop:=z=7∨(z=0∧(0≤t.a∧t.a<v.ps.length)∧0≤t.b∧t.b<(an v t.a.toNat).k.workers∧∃ x M,B.fz[t.a.toNat]?=some x∧x.z=.mu M)
theorem DF (I:U W w (aN W B p c v::L))(hB:B.Ok p c)(hv:bN p cf c v)(hf:t.fn=1∨t.fn=2∨t.fn=8∨t.fn=7) :
   Calls prog 44 #[pt B.mb,.agg (dY t).toArray] w λe w'=>∃ z:Int,e=.returned (.int .i64 z)∧(t.fn≠7→z=(gK p t v).1)∧(t.fn=7→DE B t v z)∧U W w' (aN W B p (c+1) (gK p t v).2::L):=by
 by_cases h0:t.a<0∨(v.ps.length:Int)≤t.a
 ·refine (ad0 I h0).mono λe w' ⟨h,I⟩=>⟨7,h,λ_=>?_,λ_=>.inl rfl,?_⟩
  ·rw[gK,aj h0]
  ·rw[gK,aj h0];exact aN.more I (g5 c)
 ·refine (ad1 (i:=t.a.toNat) I hB hv (by omega) hf (by omega)).mono λe w' ⟨z,h,h1,h2,I⟩=>⟨z,h,h1,λh7=>?_,I⟩;rcases h2 h7 with h3 | ⟨h3,h4,h5,h6⟩
  ·exact .inl h3
  ·exact .inr ⟨h3,by omega,h4,h5,h6⟩
theorem DG (I:U W w (aN W B p c v::L))(hB:B.Ok p c)(hv:bN p cf c v)(hf:t.fn=3∨t.fn=4∨t.fn=5∨t.fn=6) :
   Calls prog 45 #[pt B.mb,.agg (dY t).toArray] w λe w'=>e=.returned (.int .i64 (gT p t v).1)∧U W w' (aN W B p (c+1) (gT p t v).2::L):=by
 by_cases h0:t.n<0∨(v.net.length:Int)≤t.n
 ·rw[PY h0];exact (ad4 I h0).mono λe w' ⟨h,I⟩=>⟨h,aN.more I (g5 c)⟩
 ·exact ad5 (j:=t.n.toNat) I hB hv hf (by omega) (aD (by omega))
set_option maxHeartbeats 2000000 in
theorem P0 (I:U W w (aN W B p c v::L))(hB:B.Ok p (c+10))(hv:bN p cf c v)(kj:9*c+100≤1000000000) :
   Calls prog 29 #[pt B.mb,.agg (dY t).toArray] w λe w'=>∃ z:Int,e=.returned (.int .i64 z)∧(t.fn≠7→z=(bx p t v).1)∧(t.fn=7→DE B t v z)∧U W w' (aN W B p (c+10) (mf (bx p t v).2)::L):=by
 have hu:=hv.step (s:=t);refine EN func29 ntmps29 rfl rfl λa E=>?_;refine BX 1 E I λb3 a w E I=>?_;change U W w (aa b3 58 (dY t)::_) at I;refine RN 5 E I λa E=>?_;replace E:=E.aQ 9;refine RN 3 E I λa E=>?_;refine b6 (M:=λa w=>(∃ z:Int,((t.fn≠7→z=(bx p t v).1)∧(t.fn=7→DE B t v z))∧Fr a 56 [(0,pt B.mb),(5,.int .i64 z)])∧U W w (aN W B p (c+1) (bx p t v).2::L)) ?_ ?_
 ·
  refine IF 7 E I (λao a E=>?_) λao a E=>?_
  ·
   refine bg 3 E I (DF (I.pick (aN W B p c v)) (hB.less (by omega)) hv (by omega)) λz a w E ⟨cW,eU,I⟩=>?_;refine RN 1 E I λa E=>?_
   first
    | (have aS : bx p t v = gK p t v := by rw [bx, ag (by omega), ag (by omega)]
       rw[aS];exact⟨⟨z,⟨cW,eU⟩,E.ab [0,5]⟩,I.sub⟩)
    | (have aS : bx p t v = gT p t v := by rw [bx, ag (by omega), aj (by omega)]
       rw[aS];exact⟨⟨_,⟨λ_=>rfl,λh=>by omega⟩,E.ab [0,5]⟩,I.sub⟩)
    | (have aS : bx p t v = (1, v) := by rw [bx, aj (by omega)]
       rw[aS];exact⟨⟨1,⟨λ_=>rfl,λh=>by omega⟩,E.ab [0,5]⟩,(aN.more (I.pick (aN W B p c v)) (g5 c)).sub⟩)
  refine IF 3 E I (λay a E=>?_) λay a E=>?_
  ·
   refine bg 3 E I (DF (I.pick (aN W B p c v)) (hB.less (by omega)) hv (by omega)) λz a w E ⟨cW,eU,I⟩=>?_;refine RN 1 E I λa E=>?_
   first
    | (have aS : bx p t v = gK p t v := by rw [bx, ag (by omega), ag (by omega)]
       rw[aS];exact⟨⟨z,⟨cW,eU⟩,E.ab [0,5]⟩,I.sub⟩)
    | (have aS : bx p t v = gT p t v := by rw [bx, ag (by omega), aj (by omega)]
       rw[aS];exact⟨⟨_,⟨λ_=>rfl,λh=>by omega⟩,E.ab [0,5]⟩,I.sub⟩)
    | (have aS : bx p t v = (1, v) := by rw [bx, aj (by omega)]
       rw[aS];exact⟨⟨1,⟨λ_=>rfl,λh=>by omega⟩,E.ab [0,5]⟩,(aN.more (I.pick (aN W B p c v)) (g5 c)).sub⟩)
  refine IF 3 E I (λbl a E=>?_) λbl a E=>?_
  ·
   refine bg 3 E I (DF (I.pick (aN W B p c v)) (hB.less (by omega)) hv (by omega)) λz a w E ⟨cW,eU,I⟩=>?_;refine RN 1 E I λa E=>?_
   first
    | (have aS : bx p t v = gK p t v := by rw [bx, ag (by omega), ag (by omega)]
       rw[aS];exact⟨⟨z,⟨cW,eU⟩,E.ab [0,5]⟩,I.sub⟩)
    | (have aS : bx p t v = gT p t v := by rw [bx, ag (by omega), aj (by omega)]
       rw[aS];exact⟨⟨_,⟨λ_=>rfl,λh=>by omega⟩,E.ab [0,5]⟩,I.sub⟩)
    | (have aS : bx p t v = (1, v) := by rw [bx, aj (by omega)]
       rw[aS];exact⟨⟨1,⟨λ_=>rfl,λh=>by omega⟩,E.ab [0,5]⟩,(aN.more (I.pick (aN W B p c v)) (g5 c)).sub⟩)
  refine IF 2 E I (λbO a E=>?_) λbO a E=>?_
  ·
   refine bg 2 E I (DF (I.pick (aN W B p c v)) (hB.less (by omega)) hv (by omega)) λz a w E ⟨cW,eU,I⟩=>?_;refine RN 1 E I λa E=>?_
   first
    | (have aS : bx p t v = gK p t v := by rw [bx, ag (by omega), ag (by omega)]
       rw[aS];exact⟨⟨z,⟨cW,eU⟩,E.ab [0,5]⟩,I.sub⟩)
    | (have aS : bx p t v = gT p t v := by rw [bx, ag (by omega), aj (by omega)]
       rw[aS];exact⟨⟨_,⟨λ_=>rfl,λh=>by omega⟩,E.ab [0,5]⟩,I.sub⟩)
    | (have aS : bx p t v = (1, v) := by rw [bx, aj (by omega)]
       rw[aS];exact⟨⟨1,⟨λ_=>rfl,λh=>by omega⟩,E.ab [0,5]⟩,(aN.more (I.pick (aN W B p c v)) (g5 c)).sub⟩)
  refine IF 4 E I (λeL a E=>?_) λeL a E=>?_
  ·
   refine CL 3 E I (DG (I.pick (aN W B p c v)) (hB.less (by omega)) hv (by omega)) λa w E I=>?_;refine RN 1 E I λa E=>?_
   first
    | (have aS : bx p t v = gK p t v := by rw [bx, ag (by omega), ag (by omega)]
       rw[aS];exact⟨⟨z,⟨cW,eU⟩,E.ab [0,5]⟩,I.sub⟩)
    | (have aS : bx p t v = gT p t v := by rw [bx, ag (by omega), aj (by omega)]
       rw[aS];exact⟨⟨_,⟨λ_=>rfl,λh=>by omega⟩,E.ab [0,5]⟩,I.sub⟩)
    | (have aS : bx p t v = (1, v) := by rw [bx, aj (by omega)]
       rw[aS];exact⟨⟨1,⟨λ_=>rfl,λh=>by omega⟩,E.ab [0,5]⟩,(aN.more (I.pick (aN W B p c v)) (g5 c)).sub⟩)
  refine IF 3 E I (λmq a E=>?_) λmq a E=>?_
  ·
   refine CL 3 E I (DG (I.pick (aN W B p c v)) (hB.less (by omega)) hv (by omega)) λa w E I=>?_;refine RN 1 E I λa E=>?_
   first
    | (have aS : bx p t v = gK p t v := by rw [bx, ag (by omega), ag (by omega)]
       rw[aS];exact⟨⟨z,⟨cW,eU⟩,E.ab [0,5]⟩,I.sub⟩)
    | (have aS : bx p t v = gT p t v := by rw [bx, ag (by omega), aj (by omega)]
       rw[aS];exact⟨⟨_,⟨λ_=>rfl,λh=>by omega⟩,E.ab [0,5]⟩,I.sub⟩)
    | (have aS : bx p t v = (1, v) := by rw [bx, aj (by omega)]
       rw[aS];exact⟨⟨1,⟨λ_=>rfl,λh=>by omega⟩,E.ab [0,5]⟩,(aN.more (I.pick (aN W B p c v)) (g5 c)).sub⟩)
  refine IF 3 E I (λlX a E=>?_) λlX a E=>?_
  ·
   refine CL 3 E I (DG (I.pick (aN W B p c v)) (hB.less (by omega)) hv (by omega)) λa w E I=>?_;refine RN 1 E I λa E=>?_
   first
    | (have aS : bx p t v = gK p t v := by rw [bx, ag (by omega), ag (by omega)]
       rw[aS];exact⟨⟨z,⟨cW,eU⟩,E.ab [0,5]⟩,I.sub⟩)
    | (have aS : bx p t v = gT p t v := by rw [bx, ag (by omega), aj (by omega)]
       rw[aS];exact⟨⟨_,⟨λ_=>rfl,λh=>by omega⟩,E.ab [0,5]⟩,I.sub⟩)
    | (have aS : bx p t v = (1, v) := by rw [bx, aj (by omega)]
       rw[aS];exact⟨⟨1,⟨λ_=>rfl,λh=>by omega⟩,E.ab [0,5]⟩,(aN.more (I.pick (aN W B p c v)) (g5 c)).sub⟩)
  refine IF 2 E I (λm0 a E=>?_) λm0 a E=>?_
  ·
   refine CL 2 E I (DG (I.pick (aN W B p c v)) (hB.less (by omega)) hv (by omega)) λa w E I=>?_;refine RN 1 E I λa E=>?_
   first
    | (have aS : bx p t v = gK p t v := by rw [bx, ag (by omega), ag (by omega)]
       rw[aS];exact⟨⟨z,⟨cW,eU⟩,E.ab [0,5]⟩,I.sub⟩)
    | (have aS : bx p t v = gT p t v := by rw [bx, ag (by omega), aj (by omega)]
       rw[aS];exact⟨⟨_,⟨λ_=>rfl,λh=>by omega⟩,E.ab [0,5]⟩,I.sub⟩)
    | (have aS : bx p t v = (1, v) := by rw [bx, aj (by omega)]
       rw[aS];exact⟨⟨1,⟨λ_=>rfl,λh=>by omega⟩,E.ab [0,5]⟩,(aN.more (I.pick (aN W B p c v)) (g5 c)).sub⟩)
  refine RN 0 E I λa E=>?_
  first
   | (have aS : bx p t v = gK p t v := by rw [bx, ag (by omega), ag (by omega)]
      rw[aS];exact⟨⟨z,⟨cW,eU⟩,E.ab [0,5]⟩,I.sub⟩)
   | (have aS : bx p t v = gT p t v := by rw [bx, ag (by omega), aj (by omega)]
      rw[aS];exact⟨⟨_,⟨λ_=>rfl,λh=>by omega⟩,E.ab [0,5]⟩,I.sub⟩)
   | (have aS : bx p t v = (1, v) := by rw [bx, aj (by omega)]
      rw[aS];exact⟨⟨1,⟨λ_=>rfl,λh=>by omega⟩,E.ab [0,5]⟩,(aN.more (I.pick (aN W B p c v)) (g5 c)).sub⟩)
 clear E;(try clear I);rintro a w ⟨⟨z,hz,E⟩,I⟩;refine RN 2 E I λa E=>?_;generalize (bx p t v).2=u at I hu ⊢;replace I:=aN.yh I;obtain⟨adL,cL,adE,cE,Aw,Ax,⟨eN,dm,eR⟩,I⟩:=I;have b7:Aw.length=u.ps.length:=by rw[← dm,a8]
 have sW:Ax.length=u.ps.length:=by rw[← hu.ev,← eR,a8]
 have x8:=hu.len;have kT:=hB.c;refine RN 6 E I λa E=>?_;refine aL (λμ a w=>∃ (i:Nat) (xs:List (fI×Pl)) (es:List kA),(μ=u.ps.length-i∧(i≤u.ps.length∧xs.length=u.ps.length∧es.length=u.ps.length)∧xs.map (·.1)=B.fz∧xs.map (·.2)=(cB u i).ps∧es.map (·.2.2)=(cB u i).ev)∧Fr a 56 [(0,pt B.mb),(5,.int .i64 z),(31,.slice adL u.ps.length cL),(32,.int .i64 u.ps.length),(33,.int .i64 i)]∧U W w (aa B.mb 107 [.slice adL u.ps.length cL,pt B.q,.slice adE u.ps.length cE]::Sl 81 1 adL u.ps.length cL (xs.map cG)::ah (cD W p (c+1+i)) xs::bL B.q (u.net.map cU)::Sl 90 1 adE u.ps.length cE (es.map bB)::ah eH es::L)) (u.ps.length) (⟨0,Aw,Ax,⟨rfl,⟨by omega,b7,sW⟩,eN,dm,eR⟩,(by rw[b7]at E;exact E.ab [0,5,31,32,33]),(by rw[b7,sW]at I;exact I.sub)⟩) ?_;clear E I;rintro μ a w ⟨i,xs,es,⟨rfl,⟨hi,Ay,Az⟩,vA,ug,ri⟩,E,I⟩;refine IF 3 E I (λkj a E=>?_) λkj a E=>?_
 ·
  have aG:i<u.ps.length:=by omega
  obtain⟨x,hx,pF⟩:∃ x,xs[i]?=some (x,an (cB u i) i)∧B.fz[i]?=some x:=I5 vA ug (by omega);obtain⟨_,hE⟩:=a2.1 hx;have hM:=x.rk (W:=W) (p:=p) hB.pr hB.sz (hB.gs x (bI pF));have hd:=hu.cB (i:=i) (by omega);obtain⟨hw,df,yg⟩:=hd.pl i (by rw[(sT u i).1];exact aG);have I6:=hd.kY;obtain⟨iM,iN,l,lI⟩:∃ iM iN l,es[i]?=some (iM,iN,l):=⟨_,_,_,aD (by omega)⟩;obtain⟨_,pG⟩:=a2.1 lI;have hR:l.length≤9*(c+2):=(I6 l (by rw[← ri];exact cX.2 ⟨(iM,iN,l),by rw[← pG];exact jj _,rfl⟩)).1;have Av:(xs.map cG)[i]?=some (.iface x.z.t (.pointer (some x.z.ad))):=by rw[bd,hx];rfl
  refine RN 2 E I λa E=>?_;obtain⟨nn,ol,rfl,gD⟩:=(I.pick (Sl 81 1 adL u.ps.length cL (xs.map cG))).bU adL (by omega);have fP:=gD i _ Av;refine RN 2 E I λa E=>?_;refine SS E (ae E (fP)) λa E=>?_;refine RN 2 E I λa E=>?_;obtain⟨jd,oE,rfl,_⟩:=(I.pick (Sl 90 1 adE u.ps.length cE (es.map bB))).bU adE (by omega);refine aV 0 (λw0 w'=>Rd w' B.mb 0 [.slice (some ⟨nn,ol,none⟩) u.ps.length cL,pt B.q,.slice (some ⟨jd,oE,none⟩) u.ps.length cE]∧Rd w' jd oE (es.map bB)) [8,10,11,13,14] [0,1,2,4,5,6,7,9,12,3003,3008,3010,3011,1013,1014,15,1016] E I λa w E I hH=>?_;have hC:=hH.at w ⟨I.ai (b:=B.mb),I.cQ jd oE (by omega)⟩;refine RH 9 E I hH hC λa E=>?_;refine QH E (λw hc=>ae E (hc.1 2 _ rfl)) hC λa E=>?_;refine QH E (λw hc=>ae E (hc.1 2 _ rfl)) hC λa E=>?_;refine RH 1 E I hH hC λa E=>?_;refine QH E (λw hc=>ae E (hc.2 i (.slice iM l.length iN) (by rw[bd,lI];rfl))) hC λa E=>?_;replace I:=DD (I.pick (ah (cD W p (c+1+i)) xs)) hx;refine RH 0 E I hH hC λa E=>?_;refine jU E rfl hM.IK hM.cE rfl (hM.events _ _ (c+1+i) (an (cB u i) i) (by omega) hw (I.pick (x.J W p (c+1+i) (an (cB u i) i)))) (by rfl) ?_;clear E I;rintro e w ⟨am,jQ,rfl,I⟩;refine⟨_,rfl,λa E=>?_⟩;replace hC:=hH.at w ⟨I.ai (b:=B.mb),I.cQ jd oE (by omega)⟩;replace I:=(I.pick (ah eH es)).fA (i:=i) (by omega);rw[pG]at I;change U W w (Sl 135 1 iM l.length iN (l.map cC)::_) at I;have P1:=hw.wc.kY;refine RH 0 E I hH hC λa E=>?_;refine hO E rfl I wW Ty.t135 rfl rfl (by decide) (λh0=>(I.pick (Sl 135 1 am (an (cB u i) i).k.ev.length jQ ((an (cB u i) i).k.ev.map cC))).bU am h0) (by rw[a8,fB]) (PS _) (by omega) λsB sC a w E I=>?_;replace hC:=hH.at w ⟨I.ai (b:=B.mb),I.cQ jd oE (by omega)⟩;have hcE:=((I.pick (Sl 90 1 (some ⟨jd,oE,none⟩) u.ps.length cE (es.map bB))).sl (some ⟨jd,oE,none⟩)).2;obtain⟨jx,pre,post,⟨h3,h4,h5,h6⟩,gN⟩:=(I.pick (Sl 90 1 (some ⟨jd,oE,none⟩) u.ps.length cE (es.map bB))).mh (by omega);replace I:=gN;clear gN;obtain⟨rfl,rfl⟩:jd=jx∧oE=pre.length:=by simpa using h5
  refine RH 1 E I hH hC λa E=>?_;refine ST 0 E I (λa w E I=>?_) (hlt:=(by simp only[aM,a8];omega));refine RN 2 E I λa E=>?_;have rj:(cB u i).ev.getD i []=l:=by rw[← ri,br,bd,lI];rfl
  have I7:(es.map bB).set i (.slice sB (l.length+(an (cB u i) i).k.ev.length) sC)=(es.set i (sB,sC,l++(an (cB u i) i).k.ev)).map bB:=by
   rw[jF,bB,aM]
  have dB:=I;rw[Ao (by rw[a8];omega),I7]at dB;replace dB:=U.jh (n:=u.ps.length) (c:=cE) (sz:=1) (dB.j5 jd) (by rw[a8,bz];omega) h4 h6;have hj:=dB.pick (ah (cD W p (c+1+i)) (xs.eraseIdx i));have hk:=ad6 (s':=⟨{ (an (cB u i) i).k with ev:=[] },(an (cB u i) i).g⟩) (hj.pick (x.J W p (c+1+i+1) ⟨{ (an (cB u i) i).k with ev:=[] },(an (cB u i) i).g⟩)) hx (g5 _);have qp:Sl 135 1 sB (l.length+(an (cB u i) i).k.ev.length) sC (l.map cC++(an (cB u i) i).k.ev.map cC)=eH (sB,sC,l++(an (cB u i) i).k.ev):=by
   rw[eH,aM,cY]
  have hq:=(hk.pick (ah eH (es.eraseIdx i))).pick (Sl 135 1 sB (l.length+(an (cB u i) i).k.ev.length) sC (l.map cC++(an (cB u i) i).k.ev.map cC));rw[qp]at hq;have eU:=U.la (f:=eH) (i:=i) (by omega) hq;refine⟨u.ps.length-(i+1),by omega,i+1,xs.set i (x,⟨{ (an (cB u i) i).k with ev:=[] },(an (cB u i) i).g⟩),es.set i (sB,sC,l++(an (cB u i) i).k.ev),⟨rfl,⟨by omega,by rw[bz];exact Ay,by rw[bz];exact Az⟩,(PZ hx).2.trans vA,?_,?_⟩,E.ab [0,5,31,32,33],?_⟩
  ·rw[jF,ug];rfl
  ·rw[jF,ri,← rj];rfl
  ·rw[(PZ hx).1];exact eU.sub
 refine RT 3 E I ?_;obtain rfl:i=u.ps.length:=by omega
 refine⟨z,rfl,hz.1,hz.2,?_⟩;have dB:=(I.pick (ah (cD W p (c+1+u.ps.length)) xs)).sU (d:=c+10) (by omega);refine aN.wk (adL:=adL) (cL:=cL) (adE:=adE) (cE:=cE) (xs:=xs) (es:=es) ?_ vA ug ri;rw[Ay,Az,show (mf u).net=u.net from (sT u _).2.1];exact dB.sub
end
end
section
def ng (p:Pr)(G:List (List UInt8))(f s:Nat):Prop:=f≤aU G∧(0<f→s=kZ p G (f-1))
theorem ng.ext {p:Pr}{G G':List (List UInt8)}{f s:Nat}(h:ng p G f s)(he:Ext G G')(h0:G≠[]):ng p G' f s :=
 ⟨eS h.1 (he.front h0),λhf=>by rw[he.kZ (by have:=h.1;omega)];exact h.2 hf⟩
theorem DH {p:Pr}{k:Ks}(hm:k.mr=(List.range k.mr.length).map (kZ p k.ls)){f:Nat}(hf:f<k.mr.length):k.mr.getD f 0=kZ p k.ls f:=by
 rw[hm,br,bd,getElem?_range hf];rfl
theorem P2 {p:Pr}{G:List (List UInt8)}{k:Ks}(hm:k.mr=(List.range k.mr.length).map (kZ p k.ls))(hl:k.mr.length≤aU k.ls)(he:Ext k.ls G)
   (hw:∀ i,i<k.ps.length→ng p G (au k i).frame (au k i).sum):held k:=λi hi ⟨_,h1,h2,h3⟩=>h3 (by
 rw[DH hm (by omega),← he.kZ (p:=p) (f:=(au k i).frame-1) (by omega)];exact ((hw i hi).2 (by omega)).symm)
theorem P3 {p:Pr}{G:List (List UInt8)}:∀ (n:Nat) {s:Pl},WP p s→Ext s.k.ls G→(∀ i,i<s.k.ps.length→ng p G (au s.k i).frame (au s.k i).sum)→n≤aw s.k-s.k.mr.length →
   ∃ mr,(iK p n s).k={ s.k with mr:=mr }
 | 0,s,_,_,_,_=>⟨s.k.mr,rfl⟩
 | n+1,s,h,he,hw,hn=>by
  have h9:=h.wc.nO;have h8:=h.wc.l5;obtain⟨h1,h2,h3⟩:=h.one (by omega);have hg:fa p s.k.mr.length (bK s.k.ls s.k.mr.length) s.g=l6 p s.k.ls (s.k.mr.length+1):=by rw[Nq,h.sJ]
  have hk:(oq p s).k={ s.k with mr:=s.k.mr++[kZ p s.k.ls s.k.mr.length] }:=by
   show l4 s.k _=_;rw[l4,aj (by omega),hg];refine held.lD (P2 (p:=p) (G:=G) ?_ ?_ he hw)
   ·show s.k.mr++[_]=(List.range (s.k.mr++[_]).length).map (kZ p s.k.ls);rw[aM,jJ,range_succ,cY,← h.marks];rfl
   ·show (s.k.mr++[_]).length≤aU s.k.ls;rw[aM,jJ];simp only[aw]at hn;omega
  obtain⟨mr,h4⟩:=P3 n h1 (by rw[h2];exact he) (λi hi=>by rw[hk]at hi ⊢;exact hw i hi) (by rw[aw,h2,h3];simp only[aw]at hn;omega);exact⟨mr,by rw[iK,h4,hk]⟩
theorem I8 {p:Pr}{G:List (List UInt8)}{s:Pl}(h:WP p s)(he:Ext s.k.ls G)(hw:∀ i,i<s.k.ps.length→ng p G (au s.k i).frame (au s.k i).sum):∃ mr,(eD p s).k={ s.k with mr:=mr } :=
 P3 _ h he hw (a7 _)
structure gV (p:Pr)(G:List (List UInt8))(s:Pl):Prop where
 wf:cy p s
 ext:Ext s.k.ls G
 own:s.k.ls.getD s.k.me []=G.getD s.k.me []
 pe:∀ i,i<s.k.ps.length→(au s.k i).apart=false∧ng p G (au s.k i).frame (au s.k i).sum
structure wm (p:Pr)(G:List (List UInt8))(q:Pk):Prop where
 may:ik q
 sum:q.sum<4294967296
 wo:q.kind=1→q.first.toNat+q.al.length≤(G.getD q.aW.toNat []).length∧q.al=((G.getD q.aW.toNat []).drop q.first.toNat).take q.al.length
 word:q.kind=1→ng p G q.frame.toNat q.sum
theorem wm.ext {p:Pr}{G G':List (List UInt8)}{q:Pk}(h:wm p G q)(he:Ext G G')(h0:G≠[])(hq:q.aW.toNat<G.length):wm p G' q:=by
 refine⟨h.may,h.sum,λhk=>?_,λhk=>(h.word hk).ext he h0⟩;obtain⟨h1,h2⟩:=h.wo hk;obtain⟨t,ht⟩:=he.2 _ hq;rw[ht,aM];refine⟨by omega,?_⟩;rw[List.drop_append_of_le_length (by omega),List.take_append_of_le_length (by rw[c8];omega)];exact h2
section
variable {p:Pr}{G G':List (List UInt8)}{s:Pl}{b:UInt8}{q:Pk}
theorem gV.words (h:gV p G s):∀ i,i<s.k.ps.length→ng p G (au s.k i).frame (au s.k i).sum:=λi hi=>(h.pe i hi).2
theorem gV.lens (h:gV p G s):G.length=s.k.n:=by rw[h.ext.1];exact h.wf.wc.ls
theorem gV.I9 (h:gV p G s):G≠[]:=λe=>by
 have h1:=h.lens;have h2:=h.wf.wc.n;rw[e,length_nil]at h1;omega
theorem gV.more (h:gV p G s)(he:Ext G G')(ho:G'.getD s.k.me []=G.getD s.k.me []):gV p G' s :=
 ⟨h.wf,h.ext.trans he,h.own.trans ho.symm,λi hi=>⟨(h.pe i hi).1,(h.pe i hi).2.ext he h.I9⟩⟩
theorem gV.al (h:gV p G s)(h0:(dM p b s).1=0) :
   gV p (G.set s.k.me (G.getD s.k.me []++[b])) (dM p b s).2∧∃ mr,(dM p b s).2.k={ s.k with ls:=s.k.ls.set s.k.me (s.k.ls.getD s.k.me []++[b]),mr:=mr }:=by
 obtain⟨h1,h2,h3,h4⟩:=vG (k:=s.k) (b:=b) h0;have he:=vI b s.k;have lV:=h.wf.toWP.more (h.wf.wc.al b) (h.wf.held.al b) he.1 he.2;have eF:s.k.me<s.k.ls.length:=by rw[h.wf.wc.ls];exact h.wf.wc.me
 have P4:s.k.me<G.length:=by rw[h.ext.1];exact eF
 have jf:Ext G (G.set s.k.me (G.getD s.k.me []++[b])):=Ext.set;have hx:Ext (c5 b s.k).2.ls (G.set s.k.me (G.getD s.k.me []++[b])):=by
  rw[h4];refine⟨by simp only[bz];exact h.ext.1,λi hi=>?_⟩;simp only[bz]at hi;by_cases e:i=s.k.me
  ·subst e;refine⟨[],?_⟩;simp only;rw[br,getElem?_set_self P4,br (l:=s.k.ls.set _ _),getElem?_set_self eF,h.own];simp
  ·obtain⟨t,ht⟩:=h.ext.2 i hi;refine⟨t,?_⟩;simp only;rw[br,getElem?_set_ne (λe2=>e e2.symm),br (l:=s.k.ls.set _ _),getElem?_set_ne (λe2=>e e2.symm),← br,← br];exact ht
 have gP:(c5 b s.k).2.ps=s.k.ps:=by rw[h4]
 have Bm:∀ i,i<s.k.ps.length→ng p (G.set s.k.me (G.getD s.k.me []++[b])) (au (c5 b s.k).2 i).frame (au (c5 b s.k).2 i).sum:=λi hi=>by
  have:=(h.words i hi).ext jf h.I9;rw[au,gP];exact this
 obtain⟨mr,hk⟩:=I8 (s:=⟨(c5 b s.k).2,s.g⟩) lV hx (λi hi=>Bm i (by rw[← gP];exact hi));have ch:(dM p b s).2.k={ (c5 b s.k).2 with mr:=mr }:=hk;refine⟨⟨h.wf.al b,by rw[ch];exact hx,?_,λi hi=>?_⟩,mr,by rw[ch,h4]⟩
 ·rw[ch];show (c5 b s.k).2.ls.getD (c5 b s.k).2.me []=(G.set s.k.me (G.getD s.k.me []++[b])).getD (c5 b s.k).2.me [];rw[h4];simp only;rw[br,getElem?_set_self eF,br (l:=G.set _ _),getElem?_set_self P4,h.own]
 ·rw[ch]at hi ⊢;have dI:i<s.k.ps.length:=by rw[← gP];exact hi
  refine⟨?_,Bm i dI⟩;show (au (c5 b s.k).2 i).apart=false;rw[au,gP];exact (h.pe i dI).1
theorem P5 (h:cy p s)(h0:(dM p b s).1≠0):(dM p b s).2=s:=by
 show eD p ⟨(c5 b s.k).2,s.g⟩=s;rw[vH h0];exact h.eD
theorem ad7 {bs:List UInt8}(h:cy p s)(h0:(dN p bs s).1≠0):(dN p bs s).2=s:=by
 show eD p ⟨(dD bs s.k).2,s.g⟩=s;rw[xO h0];exact h.eD
theorem ad8 {l t P:List UInt8}{f:Nat}(I:f+P.length≤(l++t).length)(hP:P=((l++t).drop f).take P.length):∃ u,l++t=dw l f P++u:=by
 unfold dw;split
 ·exact⟨t,rfl⟩
 ·rename_i hf;have h1:P.drop (l.length-f)=t.take (P.length-(l.length-f)):=by
   conv=>lhs;rw[hP]
   rw[List.drop_take,kF,show f+(l.length-f)=l.length from by omega,drop_left]
  rw[h1,List.take_take];exact⟨t.drop (min (1000-l.length) (P.length-(l.length-f))),by rw[dz,j6]⟩
theorem P6 (h:cy p s)(hq:ik q)(I:q.sum<4294967296)(hc:s.k.cl=false)(ht:q.to=s.k.me)(hf:q.aW<s.k.n)(b9:q.id=s.k.id):dD (aT q) s.k=(0,gf s.k q):=by
 rw[dD,ag (by rw[hc];decide),Mt hq I];show (if _ then _ else _)=_;rw[ag];rintro (h | h | h)
 ·exact h ht
 ·omega
 ·exact h b9
theorem gV.zQ (h:gV p G s)(hq:wm p G q)(hc:s.k.cl=false)(ht:q.to=s.k.me)(hf:q.aW<s.k.n)(b9:q.id=s.k.id)(h1:q.kind=1) :
   gV p G (dN p (aT q) s).2∧(dN p (aT q) s).1=0∧∃ mr,(dN p (aT q) s).2.k={ s.k with ls:=s.k.ls.set q.aW.toNat (dw (s.k.ls.getD q.aW.toNat []) q.first.toNat q.al),ps:=s.k.ps.set q.aW.toNat (gd s.k.now (aH s.k) q (au s.k q.aW.toNat)),mr:=mr }:=by
 have hr:=P6 h.wf hq.may hq.sum hc ht hf b9;have fe:q.aW.toNat<s.k.n:=by have:=hq.may.1;omega
 have bq:q.aW.toNat≠s.k.me:=λe=>hq.may.2.2.1 (by have:=hq.may.1;have:=hq.may.2.1;omega);have aG:q.aW.toNat<s.k.ls.length:=by rw[h.wf.wc.ls];exact fe
 have sX:q.aW.toNat<s.k.ps.length:=by rw[h.wf.wc.ps];exact fe
 obtain⟨t,P7⟩:=h.ext.2 _ aG;obtain⟨oL,dB⟩:=hq.wo h1;rw[P7]at oL dB;obtain⟨u,hu⟩:=ad8 oL dB;have hx:Ext (s.k.ls.set q.aW.toNat (dw (s.k.ls.getD q.aW.toNat []) q.first.toNat q.al)) G:=by
  refine⟨by rw[bz];exact h.ext.1,λi hi=>?_⟩;rw[bz]at hi;by_cases e:i=q.aW.toNat
  ·subst e;refine⟨u,?_⟩;rw[br (l:=s.k.ls.set _ _),getElem?_set_self aG,P7];exact hu
  ·obtain⟨t2,H9⟩:=h.ext.2 i hi;refine⟨t2,?_⟩;rw[br (l:=s.k.ls.set _ _),getElem?_set_ne (λe2=>e e2.symm),← br];exact H9
 have P8:∀ i,i<s.k.ps.length→(if i=q.aW.toNat then gd s.k.now (aH s.k) q (au s.k q.aW.toNat) else au s.k i).apart=false∧ng p G (if i=q.aW.toNat then gd s.k.now (aH s.k) q (au s.k q.aW.toNat) else au s.k i).frame (if i=q.aW.toNat then gd s.k.now (aH s.k) q (au s.k q.aW.toNat) else au s.k i).sum:=λi hi=>by
  by_cases e:i=q.aW.toNat
  ·rw[aj e];have h9:=h.pe _ sX;unfold gd;simp only;split
   ·exact⟨h9.1,hq.word h1⟩
   ·exact⟨h9.1,h9.2⟩
  ·rw[ag e];exact h.pe i hi
 have ve:∀ i,i<s.k.ps.length→ng p G (au ({ s.k with ls:=s.k.ls.set q.aW.toNat (dw (s.k.ls.getD q.aW.toNat []) q.first.toNat q.al),ps:=s.k.ps.set q.aW.toNat (gd s.k.now (aH s.k) q (au s.k q.aW.toNat)) }:Ks) i).frame (au ({ s.k with ls:=s.k.ls.set q.aW.toNat (dw (s.k.ls.getD q.aW.toNat []) q.first.toNat q.al),ps:=s.k.ps.set q.aW.toNat (gd s.k.now (aH s.k) q (au s.k q.aW.toNat)) }:Ks) i).sum:=λi hi=>by
  rw[au,xN sX];exact (P8 i hi).2
 have hh:gf s.k q={ s.k with ls:=s.k.ls.set q.aW.toNat (dw (s.k.ls.getD q.aW.toNat []) q.first.toNat q.al),ps:=s.k.ps.set q.aW.toNat (gd s.k.now (aH s.k) q (au s.k q.aW.toNat)) }:=by
  rw[gf,ag (by omega)];refine held.lD (P2 (p:=p) (G:=G) ?_ ?_ hx (λi hi=>ve i (by simpa using hi)))
  ·have eO:=(sK (aT q) s.k).2;rw[hr]at eO;have h5:=Hn (k:=s.k) (p:=q);rw[gf,ag (by omega)]at h5;obtain⟨ps,ev,h6,_⟩:=xM { s.k with ls:=s.k.ls.set q.aW.toNat (dw (s.k.ls.getD q.aW.toNat []) q.first.toNat q.al),ps:=s.k.ps.set q.aW.toNat (gd s.k.now (aH s.k) q (au s.k q.aW.toNat)) };rw[h6]at h5;have h7:Ext s.k.ls (s.k.ls.set q.aW.toNat (dw (s.k.ls.getD q.aW.toNat []) q.first.toNat q.al)):=h5.2;show s.k.mr=_
   conv=>lhs;rw[h.wf.marks]
   refine List.map_congr_left λi hi=>?_;rw[mem_range]at hi;have hl:=h.wf.low;simp only[aw]at hl;rw[h7.kZ (by omega)]
  ·have h5:=(Hn (k:=s.k) (p:=q)).2;rw[gf,ag (by omega)]at h5;obtain⟨ps,ev,h6,_⟩:=xM { s.k with ls:=s.k.ls.set q.aW.toNat (dw (s.k.ls.getD q.aW.toNat []) q.first.toNat q.al),ps:=s.k.ps.set q.aW.toNat (gd s.k.now (aH s.k) q (au s.k q.aW.toNat)) };rw[h6]at h5;have h7:Ext s.k.ls (s.k.ls.set q.aW.toNat (dw (s.k.ls.getD q.aW.toNat []) q.first.toNat q.al)):=h5;exact eS h.wf.low (h7.front h.wf.wc.lE)
 have he:=sK (aT q) s.k;have lV:=h.wf.toWP.more (h.wf.wc.recv (aT q)).1 ((h.wf.wc.recv (aT q)).2 h.wf.held) he.1 he.2;have gb:(dD (aT q) s.k).2=gf s.k q:=by rw[hr]
 obtain⟨mr,hk⟩:=I8 (G:=G) (s:=⟨(dD (aT q) s.k).2,s.g⟩) lV (by show Ext (dD (aT q) s.k).2.ls G;rw[gb,hh];exact hx) (λi hi=>by
  change i<(dD (aT q) s.k).2.ps.length at hi;show ng p G (au (dD (aT q) s.k).2 i).frame (au (dD (aT q) s.k).2 i).sum;rw[gb,hh]at hi ⊢;exact ve i (by simpa using hi))
 have ch:(dN p (aT q) s).2.k={ gf s.k q with mr:=mr }:=by
  have:(dN p (aT q) s).2.k={ (dD (aT q) s.k).2 with mr:=mr }:=hk;rw[this,gb]
 rw[hh]at ch;refine⟨⟨h.wf.recv _,by rw[ch];exact hx,?_,λi hi=>?_⟩,by show (dD (aT q) s.k).1=0;rw[hr],mr,ch⟩
 ·rw[ch];show (s.k.ls.set q.aW.toNat _).getD s.k.me []=_;rw[br (l:=s.k.ls.set _ _),getElem?_set_ne bq,← br];exact h.own
 ·rw[ch]at hi ⊢;have dI:i<s.k.ps.length:=by simpa using hi
  have:=P8 i dI;rw[au,xN sX];exact this
theorem gV.bye (h:gV p G s)(hq:wm p G q)(hc:s.k.cl=false)(ht:q.to=s.k.me)(hf:q.aW<s.k.n)(b9:q.id=s.k.id)(h1:q.kind=2) :
   gV p G (dN p (aT q) s).2∧(dN p (aT q) s).1=0∧(dN p (aT q) s).2.k={ s.k with ps:=s.k.ps.set q.aW.toNat { au s.k q.aW.toNat with heard:=s.k.now },ev:=s.k.ev++[(1,q.aW.toNat,0)],cl:=true }:=by
 have hr:=P6 h.wf hq.may hq.sum hc ht hf b9;have fe:q.aW.toNat<s.k.n:=by have:=hq.may.1;omega
 have sX:q.aW.toNat<s.k.ps.length:=by rw[h.wf.wc.ps];exact fe
 have hh:gf s.k q={ s.k with ps:=s.k.ps.set q.aW.toNat { au s.k q.aW.toNat with heard:=s.k.now },ev:=s.k.ev++[(1,q.aW.toNat,0)],cl:=true }:=by
  rw[gf,aj h1]
 have Bs:=h.wf.with (k':=gf s.k q) (by have:=(h.wf.wc.recv (aT q)).1;rw[hr]at this;exact this) (by have:=(h.wf.wc.recv (aT q)).2 h.wf.held;rw[hr]at this;exact this) (by rw[hh]) (by rw[hh]);have hk:(dN p (aT q) s).2=⟨gf s.k q,s.g⟩:=by
  show eD p ⟨(dD (aT q) s.k).2,s.g⟩=_;rw[hr];exact Bs.eD
 refine⟨⟨by rw[hk];exact Bs,by rw[hk,hh];exact h.ext,by rw[hk,hh];exact h.own,λi hi=>?_⟩,by show (dD (aT q) s.k).1=0;rw[hr],by rw[hk,hh]⟩;rw[hk,hh]at hi ⊢;have dI:i<s.k.ps.length:=by simpa using hi
 rw[au,xN sX];by_cases e:i=q.aW.toNat
 ·rw[aj e];exact h.pe _ sX
 ·rw[ag e];exact h.pe i dI
theorem gV.Am (h:gV p G s){i:Nat}(hi:i<s.k.n)(bq:i≠s.k.me)(hh:(au s.k i).has≤aH s.k):wm p G (dW s.k i):=by
 have sY:=h.wf.wc;have hn:=sY.n;have eF:=sY.me;have b9:=sY.id;have iJ:=sY.qm hi;have g4:=sY.l5;have wJ:=sY.mG hi;have NH:=sY.mr;have e1:(dW s.k i).aW.toNat=s.k.me:=c9 _;have e2:(dW s.k i).first.toNat=(au s.k i).has:=c9 _;have e3:(dW s.k i).frame.toNat=s.k.mr.length:=c9 _;have Bv:=h.own;have mE:s.k.mr.getLastD 0<4294967296:=by
  rw[getLastD_eq_getLast?];cases hl:s.k.mr.getLast? with
  | none=>simp
  | some x=>simpa using sY.sI x (List.mem_of_getLast? hl)
 refine⟨?_,mE,λ_=>?_,λ_=>?_⟩
 ·refine⟨⟨?_,?_⟩,⟨?_,?_⟩,?_,?_,.inl ⟨rfl,⟨?_,?_⟩,⟨?_,?_⟩,⟨?_,?_⟩,?_⟩⟩
  all_goals first | (simp only[dW];omega) | skip
  ·show (((s.k.ls.getD s.k.me []).drop (au s.k i).has).take 32).length≤32;rw[eA];omega
 ·rw[e1,e2,← Bv];show _+(((s.k.ls.getD s.k.me []).drop (au s.k i).has).take 32).length≤_∧((s.k.ls.getD s.k.me []).drop (au s.k i).has).take 32=((s.k.ls.getD s.k.me []).drop _).take (((s.k.ls.getD s.k.me []).drop (au s.k i).has).take 32).length;rw[eA,c8];simp only[aH]at hh;refine⟨by omega,?_⟩;rw[List.take_eq_take_iff,c8];omega
 ·rw[e3];have eP:s.k.mr.length=aU s.k.ls:=h.wf.full;refine⟨by rw[eP];exact h.ext.front sY.lE,λh0=>?_⟩;have vd:s.k.mr.getLastD 0=s.k.mr.getD (s.k.mr.length-1) 0:=by
   rw[getLastD_eq_getLast?,List.getLast?_eq_getElem?,br]
  show s.k.mr.getLastD 0=_;rw[vd,DH h.wf.marks (by omega),h.ext.kZ (by omega)]
theorem gV.agree {s2:Pl}(h:gV p G s)(h2:gV p G s2){f:Nat}(h1:f<aw s.k)(h3:f<aw s2.k):bK s.k.ls f=bK s2.k.ls f∧s.k.mr.getD f 0=s2.k.mr.getD f 0:=by
 have OU:=h.wf.full;have tf:=h2.wf.full;refine⟨(h.ext.Hm h1).symm.trans (h2.ext.Hm h3),?_⟩;rw[DH h.wf.marks (by omega),DH h2.wf.marks (by omega),← h.ext.kZ h1,← h2.ext.kZ h3]
theorem gV.tick (h:gV p G s):gV p G ⟨(bw s.k).2,s.g⟩:=by
 have h1:=CI s.k;have h2:(bw s.k).2.me=s.k.me∧(bw s.k).2.ps=s.k.ps:=by
  rcases xQ s.k with e | ⟨_,e | ⟨i,_,e⟩⟩ <;> rw[e] <;> exact⟨rfl,rfl⟩
 refine⟨h.wf.tick,by show Ext (bw s.k).2.ls G;rw[h1.2];exact h.ext,?_,λi hi=>?_⟩
 ·show (bw s.k).2.ls.getD (bw s.k).2.me []=G.getD (bw s.k).2.me [];rw[h1.2,h2.1];exact h.own
 ·change i<(bw s.k).2.ps.length at hi;rw[h2.2]at hi;show (au (bw s.k).2 i).apart=false∧ng p G (au (bw s.k).2 i).frame (au (bw s.k).2 i).sum;rw[au,h2.2];exact h.pe i hi
end
end
end Go.Proofs.YteoldcfapaiobaaGreat
