/- A configuration and a way to guess that came in as arguments; quintainlaw5.Cut, quintainref21.MayAll. -/
import Derived.Test.YteoldcfapaiobaaGreatF06Ref
import Derived.Test.YteoldcfapaiobaaGreatF05Vm
import Derived.ChangeSame
import Derived.Test.YteoldcfapaiobaaGreatF12RefC
import Derived.Test.YteoldcfapaiobaaGreatF10Rank
import Derived.Test.YteoldcfapaiobaaGreatF13RefG
import Derived.Test.YteoldcfapaiobaaGreatF11Mul
import Derived.Test.YteoldcfapaiobaaGreatF08Pkt4
namespace Go.Proofs.YteoldcfapaiobaaGreat
open Tryz
open List (length_range drop_left take_zero nil_append length_nil mem_range getElem?_range ext_getElem getElem_map map_take map_drop range_succ getElem?_set_ne getElem?_set_self getLastD_eq_getLast?)
open Go.RowKit
set_option linter.unusedVariables false
set_option linter.unusedSimpArgs false
set_option maxRecDepth 10000
set_option synthInstance.maxSize 4000
set_option synthInstance.maxHeartbeats 400000
section
open Go.RowKit Go.ChangeShapes Go.WideShapes Go.ChangeAt
set_option linter.constructorNameAsVariable false
set_option maxRecDepth 100000
section
variable {W w:World}{L:List SP}{n cP cT:Nat}{adP adT:Option Addr}{p:Pr}{tb:List UInt8}{cf:Cf}
def nL (cf:Cf)(p:Pr)(tb:List UInt8):Prop:=eW cf∧dk p∧cY ⟨cf.bg,cf.order,tb⟩
theorem acg (I:U W w (aA W p adP cP::L))(hn:tb.length=n)(aH:p.title.size≤1000000000)(dY:p.ops.length≤1000000000)(eM:tb.length≤1099511627776)(hT:∀ w',U W w' (aA W p adP cP::L)→aW w' adT tb.length tb) :
   Calls prog 60 #[.agg (bV cf).toArray,.agg (bP p adP cP).toArray,.slice adT n cT] w λr w'=>(nL cf p tb∧∃ B:jo,r=.returned (.tuple #[pt B.pb,.int .i64 0])∧B.gs=⟨cf.bg,cf.order,tb⟩∧U W w' (aP W B p (eA p cf)::aA W p adP cP::L)) ∨
    (¬ nL cf p tb∧r=.returned (.tuple #[.pointer none,.int .i64 1])∧U W w' (aA W p adP cP::L)):=by
 subst hn;by_cases h1:eW cf
 ·obtain⟨n,me,aK,br,dc⟩:=M4 h1;generalize hg:cf.bg=bg at dc;generalize ho:cf.order=order at dc;by_cases h2:dk p∧cY ⟨bg,order,tb⟩
  ·have gb:nL cf p tb:=⟨h1,h2.1,by rw[hg,ho];exact h2.2⟩;rw[dc]at h1 gb ⊢;exact (M5 (adT:=adT) (cT:=cT) I h1 h2.1 h2.2 aH dY eM hT).mono λr w' ⟨B,h3,h4,h5⟩=>.inl ⟨gb,B,h3,h4,h5⟩
  ·have gb:¬ nL cf p tb:=λh=>h2 ⟨h.2.1,by have:=h.2.2;rw[hg,ho]at this;exact this⟩;rw[dc]at h1 gb ⊢;exact (aaq (adT:=adT) (cT:=cT) I h1 h2 aH dY eM hT).mono λr w' ⟨h3,h4⟩=>.inr ⟨gb,h3,h4⟩
 ·exact (aap (adT:=adT) (cT:=cT) I h1 eM hT).mono λr w' ⟨h3,h4⟩=>.inr ⟨λh=>h1 h.1,h3,h4⟩
end
end
section
def fo (W:World)(M:jG)(p:Pr)(cf:Cf)(i:Nat)(s:Pl):SP:=λh=>∃ m:Mu,(m.s=s∧MI p M (20*i+1) m∧fl s.k=cf)∧aE W M p m h
section
variable {W w:World}{L:List SP}{n c i N cP cT:Nat}{adP adT:Option Addr}{M:jG}{x:UInt8}{p:Pr}{s:Pl}{m:Mu}{bs tb:List UInt8}{cf:Cf}{y:Int}
theorem fo.open (I:U W w (fo W M p cf i s::L)):∃ m:Mu,(m.s=s∧MI p M (20*i+1) m∧fl s.k=cf)∧U W w (aE W M p m::L):=I.jL λ_ h=>h
theorem fo.close (I:U W w (aE W M p m::L))(h:MI p M N m)(hN:N≤20*i+1)(hm:m.s=s)(hc:fl s.k=cf):U W w (fo W M p cf i s::L) :=
 U.shut (M:=zm W M p m) (aE.open I) λ_ q=>⟨m,⟨hm,h.more hN,hc⟩,q⟩
theorem ach (a6:dk p)(aH:p.title.size≤1000000000):Cl W 78 ⟨M.mb,0,none⟩ 267 269 270 268 266 264 265 101 p M.B.gs (fo W M p cf) where
 Hc:=λad w=>by kernel_rfl
 cP:=(by kernel_rfl)
 He:=λad w=>by kernel_rfl
 Hf:=(by kernel_rfl)
 Hg:=λad w=>by kernel_rfl
 cT:=(by kernel_rfl)
 Hh:=λad w=>by kernel_rfl
 Hi:=(by kernel_rfl)
 Hj:=λad w=>by kernel_rfl
 cE:=(by kernel_rfl)
 Cm:=λad w=>by kernel_rfl
 Cn:=(by kernel_rfl)
 Hk:=λad w=>by kernel_rfl
 Hl:=(by kernel_rfl)
 Hm:=λad w=>by kernel_rfl
 Hn:=(by kernel_rfl)
 al:=λw L i s x hi hw I=>by
  replace I:=fo.open I;obtain⟨m,⟨rfl,hI,hc⟩,I⟩:=I;exact (aa2 (x:=x) I hI a6 aH (by omega)).mono λr w' ⟨m',h1,⟨h2,h3,_⟩,I⟩=>⟨h1,fo.close I h3 (by omega) h2 ((l3.al hI.wf x).cf.trans hc)⟩
 recv:=λw L i s bs a c hi hw hb hc hp I=>by
  replace I:=fo.open I;obtain⟨m,⟨rfl,hI,dc⟩,I⟩:=I;exact (aa3 I hI a6 aH (by omega) hb hc hp).mono λr w' ⟨m',h1,⟨h2,h3⟩,I⟩=>⟨h1,fo.close I h3 (by omega) h2 ((l3.recv hI.wf bs).cf.trans dc)⟩
 tick:=λw L i s hi hw hn I=>by
  replace I:=fo.open I;obtain⟨m,⟨rfl,hI,hc⟩,I⟩:=I;exact (aa4 I hI hn).mono λr w' ⟨a,c,h1,h2,I⟩=>⟨a,c,h1,(fo.close (I.perm (cZ _ _ _)) h2 (by omega) rfl ((GV _).trans hc)).perm (cZ _ _ _)⟩
 o5:=λw L i s hi hw I=>by
  replace I:=fo.open I;obtain⟨m,⟨rfl,hI,hc⟩,I⟩:=I;exact (aa5 I hI).mono λr w' ⟨a,c,h1,h2,I⟩=>⟨a,c,h1,(fo.close (I.perm (cZ _ _ _)) h2 (by omega) rfl ((GW _).trans hc)).perm (cZ _ _ _)⟩
 events:=λw L i s hi hw I=>by
  replace I:=fo.open I;obtain⟨m,⟨rfl,hI,hc⟩,I⟩:=I;exact (aa6 I hI).mono λr w' ⟨a,c,h1,h2,I⟩=>⟨a,c,h1,(fo.close (I.perm (cZ _ _ _)) h2 (by omega) rfl hc).perm (cZ _ _ _)⟩
 Co:=λw L i s hi hw I=>by
  replace I:=fo.open I;obtain⟨m,⟨rfl,hI,hc⟩,I⟩:=I;exact (aa7 I hI).mono λr w' ⟨a,c,h1,I⟩=>⟨a,c,h1,(fo.close (I.perm (cZ _ _ _)) hI (bf _) rfl hc).perm (cZ _ _ _)⟩
 Ho:=λw L i s hi hw I=>by
  replace I:=fo.open I;obtain⟨m,⟨rfl,hI,hc⟩,I⟩:=I;exact (ab9 I hI a6 aH).mono λr w' ⟨a,c,h1,I⟩=>⟨a,c,h1,(fo.close (I.perm (cZ _ _ _)) hI (bf _) rfl hc).perm (cZ _ _ _)⟩
 closed:=λw L i s hi hw I=>by
  replace I:=fo.open I;obtain⟨m,⟨rfl,hI,hc⟩,I⟩:=I;exact (zn I).mono λr w' ⟨h1,I⟩=>⟨h1,fo.close I hI (bf _) rfl hc⟩
theorem aci (I:U W w (fo W M p cf i s::L))(a6:dk p)(aH:p.title.size≤1000000000)(hi:i≤1000000) :
   Calls prog 62 #[pt M.mb,.int .i64 y] w λe w'=>∃ z:Bool,e=.returned (.bool z)∧(z=true→s.k.cl=false∧0≤y∧y<s.k.workers)∧U W w' (fo W M p cf (i+1) s::L):=by
 replace I:=fo.open I;obtain⟨m,⟨rfl,hI,hc⟩,I⟩:=I;have h4:=hI.ks;by_cases hn:m.s.k.cl=true∨y<0∨(m.ks.length:Int)≤y
 ·exact (aa8 I hn h4).mono λe w' ⟨h1,I⟩=>⟨false,h1,λh=>(by cases h),fo.close I hI (by omega) rfl hc⟩
 ·have cp : m.s.k.cl = false := by
   cases h:m.s.k.cl with
   | false=>rfl
   | true=>exact absurd (.inl h) hn
  have hy:0≤y∧y<(m.ks.length:Int):=⟨by
   rcases Int.lt_or_le y 0 with h | h
   ·exact absurd (.inr (.inl h)) hn
   ·exact h,by
   rcases Int.lt_or_le y (m.ks.length:Int) with h | h
   ·exact h
   ·exact absurd (.inr (.inr h)) hn⟩
  obtain⟨j,rfl⟩:=sk hy.1;obtain⟨⟨k,wb⟩,hk⟩:∃ z,m.ks[j]?=some z:=⟨_,aD (by omega)⟩;exact (aa9 I hI cp hk a6 aH (by omega)).mono λe w' ⟨z,A',T',J',k',h1,⟨_,h2⟩,I⟩=>⟨z,h1,λ_=>⟨cp,hy.1,by rw[hI.workers];exact hy.2⟩,fo.close I h2 (by omega) rfl hc⟩
theorem acj (h:eW cf):∃ n me aK br nb nw rm:Nat,cf=⟨n,me,cf.id,aK,br,cf.bg,cf.order,nb,nw,rm⟩:=by
 obtain⟨n,me,id,aK,br,bg,order,cw,workers,room⟩:=cf;simp only[eW,fB]at h;obtain⟨⟨h1,h2,h3⟩,⟨h4,h5,h6,h7⟩,h8,h9,fh,lN⟩:=h;exact⟨n.toNat,me.toNat,aK.toNat,br.toNat,cw.toNat,workers.toNat,room.toNat,by
  simp only[Cf.mk.injEq];refine⟨?_,?_,?_,?_,?_,?_,?_,?_,?_,?_⟩ <;> first | trivial | omega⟩
theorem ack (h:eW cf):fl (eA p cf).k=cf:=by
 obtain⟨ps,ev,mr,hk⟩:∃ ps ev mr,(eA p cf).k={ fm cf with ps:=ps,ev:=ev,mr:=mr }:=(xe (p:=p) (c:=cf) h).ez.2.2;rw[hk];exact (WC.new h).2.2
theorem acm (gb:nL cf p tb)(I:U W w (aA W p adP cP::L))(hn:tb.length=n)(aH:p.title.size≤1000000000)(dY:p.ops.length≤1000000000)(eM:tb.length≤1099511627776)(hT:∀ w',U W w' (aA W p adP cP::L)→aW w' adT tb.length tb) :
   Calls prog 59 #[.agg (bV cf).toArray,.agg (bP p adP cP).toArray,.slice adT n cT] w λr w'=>∃ M:jG,r=.returned (.tuple #[pt M.mb,.int .i64 0])∧M.B.gs=⟨cf.bg,cf.order,tb⟩∧U W w' (fo W M p cf 0 (eA p cf)::aA W p adP cP::L):=by
 subst hn;obtain⟨h1,h2,h3⟩:=gb;have Oj:=ack (p:=p) h1;obtain⟨n,me,aK,br,nb,nw,rm,dc⟩:=acj h1;generalize cf.bg=bg at dc h3 ⊢;generalize cf.order=order at dc h3 ⊢;generalize cf.id=id at dc;rw[dc]at h1 Oj ⊢;exact (ace (adT:=adT) (cT:=cT) I h1 h2 h3 aH dY eM hT).mono λr w' ⟨M,m,h4,⟨h5,h6,h7,_⟩,I⟩=>⟨M,h4,h5,fo.close I h7 (by omega) h6 Oj⟩
theorem acn (hm:eW cf)(I:U W w (aA W p adP cP::L))(hn:tb.length=n)(a6:dk p)(aH:p.title.size≤1000000000) :
   Calls prog 46 #[.agg (bV cf).toArray,.agg (bP p adP cP).toArray,.slice adT n cT] w λr w'=>∃ B:ga,r=.returned (pt B.pb)∧(B.gs=⟨cf.bg,cf.order,tb⟩∧B.adT=adT)∧U W w' (b0 W B p (eA p cf)::L):=by
 subst hn;obtain⟨n,me,aK,br,dc⟩:=M4 hm;generalize cf.bg=bg at dc ⊢;generalize cf.order=order at dc ⊢;rw[dc]at hm ⊢;exact abI I hm a6 aH
end
end
section
theorem Sn.aco (A:Sn):A.used≤A.room:=by
 have:=List.countP_le_length (p:=λp=>decide (0<cS A.ar p)) (l:=List.range A.room);rw[length_range]at this;exact this
theorem Ol {p:Nat}:∀ (l:List aC),(∀ x∈l,∀ k,k<4→x.p k≠p)→cS l p=0
 | [],_=>rfl
 | x::l,h=>by
  rw[s9,DT (h x (gY ..)),Ol l λy hy=>h y (gP _ hy)]
theorem Om {A:Sn}{p:Nat}(h:∀ x∈A.ar,∀ k,k<4→x.p k<A.room)(hp:A.room≤p):cS A.ar p=0 :=
 Ol _ λx hx k hk e=>by have:=h x hx k hk;omega
def vA (l:List aC)(m:Nat):Nat:=(List.range m).countP λp=>decide (0<cS l p)
theorem On (l:List aC)(m:Nat):vA l (m+1)=vA l m+if 0<cS l m then 1 else 0:=by
 rw[vA,range_succ,List.countP_append,List.countP_singleton,vA];by_cases h:0<cS l m <;> simp[h]
theorem acp (l:List aC)(m:Nat):vA l m≤m:=by
 have:=List.countP_le_length (p:=λp=>decide (0<cS l p)) (l:=List.range m);rw[length_range]at this;exact this
theorem acq {A:Sn}(h:∀ x∈A.ar,∀ k,k<4→x.p k<A.room){m:Nat}(hm:A.room≤m):vA A.ar m=A.used:=by
 induction m with
 | zero=>rw[Sn.used,show A.room=0 from by omega];rfl
 | succ m ih =>
  rcases gQ m A.room with h1 | h1
  ·rw[Sn.used,show A.room=m+1 from by omega];rfl
  ·rw[On,ih h1,Om h h1];rfl
def po (l:List aC)(j:Nat):Int:=if j=0 then 0 else (cS l (j-1):Nat)
def om (l:List aC)(x:aC)(k j:Nat):Int:=if j=0 then 0 else ((cS l (j-1)+ja x (j-1) k:Nat):Int)
theorem acr:po []=λ_=>0:=by
 funext j;unfold po;split <;> rfl
theorem acs (l:List aC)(x:aC):om l x 0=po l:=by
 funext j;unfold om po;simp[Ax]
theorem acu {l:List aC}{i:Nat}{x:aC}(h:l[i]?=some x):om (l.take i) x 4=po (l.take (i+1)):=by
 obtain⟨hi,rfl⟩:=a2.1 h
 funext j
 unfold om po;rw[jw hi,x9,s9,DU];rfl
theorem acv (l:List aC)(x:aC)(k:Nat):(λj=>if j=x.p k+1 then om l x k (x.p k+1)+1 else om l x k j)=om l x (k+1):=by
 funext j
 by_cases h:j=x.p k+1
 ·subst h;rw[ak rfl];simp only[om,ag (Nat.succ_ne_zero _),yH];rw[k7,ak rfl];omega
 ·rw[ag h];unfold om;split
  ·rfl
  ·rw[k7,ag (by omega)];simp
theorem acw (l:List aC)(x:aC)(k j:Nat)(hk:k≤4):0≤om l x k j∧om l x k j≤4*l.length+4:=by
 unfold om;have h1:=DX l (j-1);have h2:=s7 x (j-1) hk;have h3:=Jq x (j-1);have h4:ja x (j-1) 4=hS x (j-1):=rfl;split <;> omega
theorem acx (l:List aC)(p:Nat):po l (p+1)=(cS l p:Nat):=by simp[po]
section
variable {W w:World}{L:List SP}{q b i r:Nat}{ps:List Pg}{A:Sn}
theorem acy (I:U W w (Room q b ps::L))(hn:∀ h:i<ps.length,ps[i].refs=0)(hi:i<1000) :
   Calls prog 122 #[pt q,.int .i64 ((i:Int)+1)] w λe w'=>e=.returned (.pointer none)∧U W w' (Room q b ps::L):=by
 obtain⟨hp,I⟩:=Room.open I;by_cases aF:i<ps.length
 ·have hr:=hn aF;refine EN func122 ntmps122 rfl rfl λa E=>?_;refine RN 7 E I λa E=>?_;replace E:=E.aM 7;refine RN 4 E I λa E=>?_;rw[bo (by omega)]at E;refine RN 9 E I λa E=>?_;rw[bo (by omega)]at E;refine RN 6 E I λa E=>?_;rw[show (i:Int)+1-1=(i:Int) from by omega]at E;refine RN 2 E I λa E=>?_;refine bm E (bQ E rfl (s:=20)) (ae E (I.bz (s3 aF))) rfl λa E=>?_;refine RN 2 E I λa E=>?_;rw[dh (by omega)]at E;refine RT 3 E I ?_;exact⟨rfl,(Room.close (n:=_) I rfl hp)⟩
 ·
   refine EN func122 ntmps122 rfl rfl λa E=>?_;refine RN 7 E I λa E=>?_;replace E:=E.aM 7;refine RN 4 E I λa E=>?_;rw[bo (by omega)]at E;refine RN 9 E I λa E=>?_;rw[dh (by omega)]at E;refine RT 14 E I ?_;exact⟨rfl,(Room.close (n:=_) I rfl hp)⟩
theorem acz (I:U W w (Room q b ps::L))(hn:∀ h:i<ps.length,ps[i].refs=0)(hi:i<1000) :
   Calls prog 86 #[pt q,.int .i64 ((i:Int)+1)] w λe w'=>e=.returned (.int .i64 0)∧U W w' (Room q b ps::L):=by
 refine EN func86 ntmps86 rfl rfl λa E=>?_;refine CL 5 E I (acy I hn hi) λa w E I=>?_;refine RN 5 E I λa E=>?_;replace E:=E.ei 10;refine RT 3 E I ?_;exact⟨rfl,I⟩
theorem acA (I:U W w (ax q r A::L))(hi:i<1000) :
   Calls prog 86 #[pt r,.int .i64 ((i:Int)+1)] w λe w'=>e=.returned (.int .i64 (cS A.ar i))∧U W w' (ax q r A::L):=by
 have hf:=(ax.facts I).2;obtain⟨b,m,ps,xs,h1,hw,hr,I⟩:=ax.open I;by_cases hl:∃ h:i<ps.length,0<ps[i].refs
 ·obtain⟨h3,h4⟩:=hl;refine (Ao (I.pick (Room r b ps)) h3 h4).mono λe w' ⟨h2,I⟩=>?_;rw[hr.refs _ _ (aD h3)]at h2;exact⟨h2,ax.close (b:=b) (m:=m) (ps:=ps) I h1 hw hr⟩
 ·have hn : ∀ h : i < ps.length, ps[i].refs = 0 := fun h => by
   rcases lH ps[i].refs with h2 | h2
   ·exact h2
   ·exact absurd ⟨h,h2⟩ hl
  have h0:cS A.ar i=0:=by
   by_cases h:i<ps.length
   ·rw[← hr.refs _ _ (aD h)];exact hn h
   ·exact Om hf (by rw[← hr.len];omega)
  refine (acz (I.pick (Room r b ps)) hn hi).mono λe w' ⟨h2,I⟩=>?_;rw[h0];exact⟨h2,ax.close (b:=b) (m:=m) (ps:=ps) I h1 hw hr⟩
end
end
section
theorem acB (k:IntKind)(m:Nat)(x:Int):List.replicate m (Value.int k x)=ints k m (λ_=>x):=by
 rw[ints,fn];exact (ext_getElem (by simp) (by simp))
section
variable {W w:World}{L:List SP}{N:Nat}{M:jG}{p:Pr}{m:Mu}{cf:Cf}{x:Int}
set_option maxHeartbeats 4000000 in
theorem acC (I:U W w (aE W M p m::L))(h:MI p M N m)(dc:fl m.s.k=cf) :
   Calls prog 56 #[pt M.mb,.agg (bV cf).toArray] w λe w'=>e=.returned (.bool true)∧U W w' (aE W M p m::L):=by
 have Gm:cf.cw=(m.T.most:Int):=by rw[← dc];exact h.most
 have oe:cf.workers=(m.ks.length:Int):=by rw[← dc];exact h.workers
 have rT:(m.A.room:Int)=4*cf.room:=by rw[← dc];exact h.room.1
 have mS:=h.ks;obtain⟨t,hI⟩:=h.inv;have hlen:=hI.len;have NK:(jA (m.ks.map (·.1))).length≤m.ks.length:=by
  have h1:=pO (λk:Wk=>k.busy) (m.ks.map (·.1));rw[a8]at h1;rw[jA,a8];exact h1
 clear dc;replace I:=aE.open I;have lj:=(Tree.wt (I.tree M.tq)).most;have Cu:=ax.facts (I.store M.sq);have pJ:=ax.wg (I.store M.sq);have hur:=Sn.aco m.A;have lY:=Cu.1.room;obtain⟨s,A,T,J,ks,base,front⟩:=m;dsimp only at Gm oe rT mS hlen NK lj Cu pJ hur lY I;have ig:=acq Cu.2 (m:=200) lY;refine EN func56 ntmps56 rfl rfl λa E=>?_;refine BX 1 E I λb3 a w E I=>?_;change U W w (aa b3 28 (bV cf)::_) at I;refine RN 3 E I λa E=>?_;replace I:=aE.fold I M p ⟨s,A,T,J,ks,base,front⟩;refine CL 0 E I (aaw I) λa w E I=>?_;refine RN 3 E I λa E=>?_;replace I:=aE.open I;dsimp only at I;refine aY 0 E I (Vu (I.store M.sq)) λeb zC a w E I=>?_;refine aX 3 (λw0 w'=>Rd w' b3 0 (bV cf)) [5,25,26] [0,1,2,4,3003,1005,6,7,8,9,10,11,12,13,14,17,18,19,1015,1016,20,21,22,23,24,27,3028,29,1025,1026,30,31] E I λa w E I hH=>?_;have hC:=hH.at w (I.ai (b:=b3));refine RH 4 E I hH hC λa E=>?_;refine QH E (λw hc=>ae E (hc 7 _ rfl)) hC λa E=>?_;refine RH 0 E I hH hC λa E=>?_;refine SS E (ae E (hC 8 _ rfl)) λa E=>?_;refine RH 4 E I hH hC λa E=>?_;rw[bo (by omega)]at E;refine RH 4 E I hH hC λa E=>?_;rw[dh (by omega)]at E;refine RH 4 E I hH hC λa E=>?_;refine CL 0 E I (AF (I.store M.sq)) λa w E I=>?_;refine CL 0 E I (D4 (I.store M.sq)) λa w E I=>?_;refine RN 4 E I λa E=>?_;rw[bo (by omega)]at E;refine RN 2 E I λa E=>?_;replace hC:Rd w b3 0 (bV cf):=I.ai (b:=b3);refine QH E (λw hc=>ae E (hc 9 _ rfl)) hC λa E=>?_;refine CL 1 E I (AF (I.store M.sq)) λa w E I=>?_;replace hC:=hH.at w (I.ai (b:=b3));refine RH 0 E I hH hC λa E=>?_;refine CL 0 E I (D4 (I.store M.sq)) λa w E I=>?_;replace hC:=hH.at w (I.ai (b:=b3));refine RH 2 E I hH hC λa E=>?_;rw[bo (by omega)]at E;refine AL 2 E I λdt a w E I=>?_;rw[acB]at I;refine RN 3 E I λa E=>?_;refine aQ (λμ a w=>∃ (i:Nat),(μ=A.ar.length-i∧i≤A.ar.length)∧Fr a 120 [(0,pt M.mb),(3,pt b3),(5,pt M.sq),(6,.slice eb A.ar.length zC),(7,pt dt),(8,.int .i64 i)]∧U W w (aa dt 164 (ints .i64 201 (po (A.ar.take i)))::Sl 166 1 eb A.ar.length zC (A.ar.map λx=>.int .i64 x.id)::ax M.sq M.r A::aa b3 28 (bV cf)::aa M.mb 177 (dU p M ks.length base front)::aP W M.B p s::aA W p M.aq M.cO::Sl 179 1 M.dw ks.length M.dF (gV ks)::ah (fa p M.aq M.cO M.tq M.jq M.sq) ks::Tree M.tq M.sq T::bI M.jq J::L)) (A.ar.length) (⟨0,⟨rfl,by omega⟩,E.ab [0,3,5,6,7,8],by rw[take_zero,acr];exact I.sub⟩) ?_;clear E I;rintro μ a w ⟨i,⟨rfl,hi⟩,E,I⟩;refine IF 6 E I (λao a E=>?_) λao a E=>?_
 ·
  obtain⟨x,hx⟩:∃ x,A.ar[i]?=some x:=⟨_,aD (by omega)⟩;obtain⟨bv,Oo,rfl,Ca⟩:=(I.pick (Sl 166 1 eb A.ar.length zC (A.ar.map λx=>.int .i64 x.id))).bU eb (by omega);have zr:=Ca i (.int .i64 x.id) (by rw[bn,hx];rfl);have AI:=Cu.2 x (bH hx);have bF:=acu hx;have eM:(A.ar.take i).length≤200:=by rw[et];omega
  clear Ca;refine RN 6 E I λa E=>?_;refine SS E (ae E (zr)) λa E=>?_;refine aY 0 E I (JG (I.store M.sq) hx) λc0 dS a w E I=>?_;refine RN 6 E I λa E=>?_;replace E:=E.aM 63;refine RN 3 E I λa E=>?_;refine aQ (λμ a w=>∃ (k:Nat),(μ=4-k∧k≤4)∧Fr a 120 [(0,pt M.mb),(3,pt b3),(5,pt M.sq),(6,.slice (some ⟨bv,Oo,none⟩) A.ar.length zC),(7,pt dt),(8,.int .i64 i),(9,.slice c0 4 dS),(10,.int .i64 k)]∧U W w (aa dt 164 (ints .i64 201 (om (A.ar.take i) x k))::Sl 3 1 c0 4 dS (ints .i64 4 (λk=>(x.p k:Int)+1))::Sl 166 1 (some ⟨bv,Oo,none⟩) A.ar.length zC (A.ar.map λx=>.int .i64 x.id)::ax M.sq M.r A::aa b3 28 (bV cf)::aa M.mb 177 (dU p M ks.length base front)::aP W M.B p s::aA W p M.aq M.cO::Sl 179 1 M.dw ks.length M.dF (gV ks)::ah (fa p M.aq M.cO M.tq M.jq M.sq) ks::Tree M.tq M.sq T::bI M.jq J::L)) (4) (⟨0,⟨rfl,by omega⟩,E.ab [0,3,5,6,7,8,9,10],by rw[acs];exact I.sub⟩) ?_;clear E I;rintro μ a w ⟨k,⟨rfl,hk⟩,E,I⟩;refine IF 4 E I (λbd a E=>?_) λbd a E=>?_
  ·
   obtain⟨bp,op,rfl,fk⟩:=(I.pick (Sl 3 1 c0 4 dS (ints .i64 4 (λk=>(x.p k:Int)+1)))).bU c0 (by omega);have vg:=fk k _ (fT _ (by omega));have eF:=AI k (by omega);have MJ:=acw (A.ar.take i) x k (x.p k+1) (by omega);clear fk;refine RN 6 E I λa E=>?_;refine SS E (ae E (vg)) λa E=>?_;refine RN 2 E I λa E=>?_;rw[bo (by omega)]at E;refine RN 3 E I λa E=>?_;refine bm E (bQ E rfl (s:=73)) (ae E (vg)) rfl λa E=>?_;refine RN 2 E I λa E=>?_;rw[bo (by omega)]at E;refine RN 4 E I λa E=>?_;refine SS E (ae E (vg)) λa E=>?_;rw[show ((x.p k:Nat):Int)+1=((x.p k+1:Nat):Int) from rfl]at E;refine RN 1 E I λa E=>?_;refine SS E (ae E (I.bz (fT _ (by omega)))) λa E=>?_;refine ST 2 E I (λa w E I=>?_) (hlt:=(by rw[dg];omega));rw[ints_set,acv]at I;refine RN 3 E I λa E=>?_;exact⟨4-(k+1),by omega,k+1,⟨rfl,by omega⟩,E.ab [0,3,5,6,7,8,9,10],I.sub⟩
  refine RN 3 E I λa E=>?_;obtain rfl:k=4:=by omega
  rw[bF]at I;exact⟨A.ar.length-(i+1),by omega,i+1,⟨rfl,by omega⟩,E.ab [0,3,5,6,7,8],I.sub⟩
 obtain rfl:i=A.ar.length:=by omega
 rw[k4]at I;refine RN 5 E I λa E=>?_;refine aQ (λμ a w=>∃ (q:Nat),(μ=200-q∧q≤200)∧Fr a 120 [(0,pt M.mb),(3,pt b3),(5,pt M.sq),(7,pt dt),(11,.int .i64 (vA A.ar q:Nat)),(12,.int .i64 ((q:Int)+1))]∧U W w (ax M.sq M.r A::aa dt 164 (ints .i64 201 (po A.ar))::aa b3 28 (bV cf)::aa M.mb 177 (dU p M ks.length base front)::aP W M.B p s::aA W p M.aq M.cO::Sl 179 1 M.dw ks.length M.dF (gV ks)::ah (fa p M.aq M.cO M.tq M.jq M.sq) ks::Tree M.tq M.sq T::bI M.jq J::L)) (200) (⟨0,⟨rfl,by omega⟩,by have h9:=E.ab [0,3,5,7,11,12];exact h9,I.sub⟩) ?_;clear E I;rintro μ a w ⟨q,⟨rfl,hq⟩,E,I⟩;refine IF 4 E I (λeU a E=>?_) λeU a E=>?_
 ·
  have Oq:=acx A.ar q;have gH:=On A.ar q;have eF:=acp A.ar q;have cp:=DX A.ar q;have mg:q<200:=by omega
  refine aX 3 (λw0 w'=>w'.cell? ⟨dt,q+1,none⟩=some (.int .i64 (po A.ar (q+1)))) [1,3] [0,2,4,5,3006,1001,1003,7] E I λa w E I hH=>?_;have hC:=hH.at w (I.bz (b:=dt) (fT _ (by omega)));refine RH 3 E I hH hC λa E=>?_;rw[show ((q:Nat):Int)+1=((q+1:Nat):Int) from rfl]at E;refine RH 1 E I hH hC λa E=>?_;refine QH E (λw hc=>ae E (hc)) hC λa E=>?_;refine RH 0 E I hH hC λa E=>?_;refine CL 0 E I (AF I) λa w E I=>?_;replace hC:=hH.at w (I.bz (b:=dt) (fT _ (by omega)));refine RH 0 E I hH hC λa E=>?_;refine CL 0 E I (acA I (by omega)) λa w E I=>?_;replace hC:=hH.at w (I.bz (b:=dt) (fT _ (by omega)));refine RH 1 E I hH hC λa E=>?_;rw[Oq,show decide ((cS A.ar q:Nat)≠((cS A.ar q:Nat):Int))=false from by simp]at E;replace E:=E.aM 99;refine RN 4 E I λa E=>?_;refine SS E (ae E (I.bz (b:=dt) (fT _ (by omega)))) λa E=>?_;rw[Oq]at E;refine IF 1 E I (λmO a E=>?_) λmO a E=>?_
  ·
   refine RN 6 E I λa E=>?_;exact⟨200-(q+1),by omega,q+1,⟨rfl,by omega⟩,by rw[gH,ak (by omega)];exact E.ab [0,3,5,7,11,12],I.sub⟩
  refine RN 3 E I λa E=>?_;exact⟨200-(q+1),by omega,q+1,⟨rfl,by omega⟩,by rw[gH,ag (by omega)];exact E.ab [0,3,5,7,11,12],I.sub⟩
 obtain rfl:q=200:=by omega
 rw[ig]at E;refine aX 1 (λw0 w'=>Rd w' b3 0 (bV cf)) [7,8,9] [0,1,1002,1003,4,5,6,10,3011,1007,1008,1009,12,13,14] E I λa w E I hH=>?_;have hC:=hH.at w (I.ai (b:=b3));refine RH 2 E I hH hC λa E=>?_;refine CL 0 E I (AF I) λa w E I=>?_;refine CL 0 E I (D4 I) λa w E I=>?_;refine RN 2 E I λa E=>?_;rw[dh (by omega)]at E;refine RN 2 E I λa E=>?_;replace hC:Rd w b3 0 (bV cf):=I.ai (b:=b3);refine QH E (λw hc=>ae E (hc 7 _ rfl)) hC λa E=>?_;replace I:=aE.fold I M p ⟨s,A,T,J,ks,base,front⟩;refine CL 0 E I (aax I) λa w E I=>?_;replace hC:=hH.at w (I.ai (b:=b3));replace I:=aE.open I;dsimp only at I;refine RH 0 E I hH hC λa E=>?_;refine aY 0 E I (AH (I.tree M.tq)) λtW q8 a w E I=>?_;replace hC:=hH.at w (I.ai (b:=b3));refine RH 4 E I hH hC λa E=>?_;refine RT 0 E I ?_;exact⟨by rw[dh (by omega)],(aE.fold I.tail M p ⟨s,A,T,J,ks,base,front⟩).sub⟩
end
end
section
section
variable {W w:World}{L:List SP}{c i cP cT:Nat}{p:Pr}{s:Pl}{B:jo}
theorem acD (a6:dk p)(aH:p.title.size≤1000000000)(fE:cY B.gs):Cl W 139 ⟨B.pb,0,none⟩ 282 284 285 283 281 273 276 141 p B.gs (λ_ s=>aP W B p s) where
 Hc:=λad w=>by kernel_rfl
 cP:=(by kernel_rfl)
 He:=λad w=>by kernel_rfl
 Hf:=(by kernel_rfl)
 Hg:=λad w=>by kernel_rfl
 cT:=(by kernel_rfl)
 Hh:=λad w=>by kernel_rfl
 Hi:=(by kernel_rfl)
 Hj:=λad w=>by kernel_rfl
 cE:=(by kernel_rfl)
 Cm:=λad w=>by kernel_rfl
 Cn:=(by kernel_rfl)
 Hk:=λad w=>by kernel_rfl
 Hl:=(by kernel_rfl)
 Hm:=λad w=>by kernel_rfl
 Hn:=(by kernel_rfl)
 al:=λw L i s x _ hw I=>MV I hw a6 aH
 recv:=λw L i s bs a c _ hw hb hc hp I=>MW I hw a6 aH hb hc hp
 tick:=λw L i s _ hw hn I=>MX I hw hn
 o5:=λw L i s _ hw I=>MY I hw
 events:=λw L i s _ hw I=>MZ I
 Co:=λw L i s _ hw I=>M1 I hw
 Ho:=λw L i s _ hw I=>M3 I hw a6 aH fE
 closed:=λw L i s _ hw I=>M0 I
end
end
section
inductive fP where
 | mu (M:jG)
 | pl (B:jo)
structure fF where
 cf:Cf
 z:fP
def fP.t:fP→TypeId
 | .mu _=>78
 | .pl _=>139
def fP.ad:fP→Addr
 | .mu M=>⟨M.mb,0,none⟩
 | .pl B=>⟨B.pb,0,none⟩
def fP.gs:fP→Gs
 | .mu M=>M.B.gs
 | .pl B=>B.gs
def fP.f (a b:FuncId):fP→FuncId
 | .mu _=>a
 | .pl _=>b
def fF.J (W:World)(p:Pr)(x:fF)(i:Nat)(s:Pl):SP:=match x.z with
 | .mu M=>fo W M p x.cf i s
 | .pl B=>aP W B p s
def vo (z:fP):=z.f 267 282
def vp (z:fP):=z.f 269 284
def vq (z:fP):=z.f 270 285
def vr (z:fP):=z.f 268 283
def vt (z:fP):=z.f 266 281
def vu (z:fP):=z.f 264 273
def vv (z:fP):=z.f 265 276
def vw (z:fP):=z.f 101 141
abbrev cF (x:fF×Pl):Value:=.iface x.1.z.t (.pointer (some x.1.z.ad))
def cB (W:World)(p:Pr)(c:Nat)(x:fF×Pl):SP:=x.1.J W p c x.2
abbrev ku:=Option Addr×Nat×List km
abbrev bx (x:ku):Value:=.slice x.1 x.2.2.length x.2.1
def eD (x:ku):SP:=Sl 135 1 x.1 x.2.2.length x.2.1 (x.2.2.map cA)
structure jI where
 mb:Nat
 q:Nat
 fx:List fF
structure oq where
 adL:Option Addr
 cL:Nat
 adE:Option Addr
 cE:Nat
 xs:List (fF×Pl)
 es:List ku
def cU (m:Ml):pj:=((m.1:Int),(m.2.1:Int),m.2.2)
abbrev jW (B:jI)(A:oq):List Value:=[.slice A.adL A.xs.length A.cL,pt B.q,.slice A.adE A.es.length A.cE]
structure oq.Ok (A:oq)(B:jI)(v:Wd):Prop where
 fx:A.xs.map (·.1)=B.fx
 ps:A.xs.map (·.2)=v.ps
 ev:A.es.map (·.2.2)=v.ev
def aN (W:World)(B:jI)(p:Pr)(c:Nat)(v:Wd):SP:=λh=>∃ A:oq,A.Ok B v ∧
 cn [aa B.mb 107 (jW B A),Sl 81 1 A.adL A.xs.length A.cL (A.xs.map cF),ah (cB W p c) A.xs,bK B.q (v.net.map cU),Sl 90 1 A.adE A.es.length A.cE (A.es.map bx),ah eD A.es] h
section
variable {W w:World}{L R:List SP}{n c i:Nat}{ad adE:Option Addr}{p:Pr}{B:jI}{A:oq}{v:Wd}{x:fF}{s:Pl}{y:Int}
theorem fF.q0 (x:fF)(a6:dk p)(aH:p.title.size≤1000000000)(fE:cY x.z.gs):Cl W x.z.t x.z.ad (vo x.z) (vp x.z) (vq x.z) (vr x.z) (vt x.z) (vu x.z) (vv x.z) (vw x.z) p x.z.gs (x.J W p):=by
 obtain⟨cf,z⟩:=x;cases z with
 | mu M=>exact ach a6 aH
 | pl B=>exact acD a6 aH fE
theorem fF.more {j:Nat}(x:fF)(h:i≤j):∀ hp,x.J W p i s hp→x.J W p j s hp:=by
 obtain⟨cf,z⟩:=x;cases z with
 | mu M=>exact λhp ⟨m,⟨h1,h2,h3⟩,h4⟩=>⟨m,⟨h1,h2.more (by omega),h3⟩,h4⟩
 | pl B=>exact λhp h=>h
theorem Ot {α:Type}{f g:α→SP}(k:∀ x h,f x h→g x h):∀ {l:List α} {h:Hp},cn (l.map f) h→cn (l.map g) h
 | [],_,h=>h
 | _::l,_,⟨h1,h2,d,a,b,p,q⟩=>⟨h1,h2,d,a,b,k _ _ p,Ot k q⟩
theorem U.acE {A A':SP}(I:U W w (A::L))(k:∀ h,A h→A' h):U W w (A'::L):=⟨I.below,let ⟨h,p,h1,h2,d,a,b,x,y⟩:=I.sat;⟨h,p,h1,h2,d,a,b,k _ x,y⟩⟩
theorem U.sA {xs:List (fF×Pl)}{d:Nat}(I:U W w (ah (cB W p c) xs::L))(h:c≤d):U W w (ah (cB W p d) xs::L) :=
 I.acE λ_ h1=>Ot (λx h2 h3=>x.1.more h h2 h3) h1
theorem aN.open (I:U W w (aN W B p c v::L)):∃ A:oq,A.Ok B v∧U W w (aa B.mb 107 (jW B A)::Sl 81 1 A.adL A.xs.length A.cL (A.xs.map cF)::ah (cB W p c) A.xs::bK B.q (v.net.map cU)::Sl 90 1 A.adE A.es.length A.cE (A.es.map bx)::ah eD A.es::L):=by
 obtain⟨A,h1,I⟩:=I.jL (ι:=oq) (p:=λA=>A.Ok B v) (B:=λA h=>cn [aa B.mb 107 (jW B A),Sl 81 1 A.adL A.xs.length A.cL (A.xs.map cF),ah (cB W p c) A.xs,bK B.q (v.net.map cU),Sl 90 1 A.adE A.es.length A.cE (A.es.map bx),ah eD A.es] h) λ_ h=>h;exact⟨A,h1,I.open (M:=[_,_,_,_,_,_]) λ_ h=>h⟩
theorem aN.fold (I:U W w L)(B:jI)(p:Pr)(c:Nat)(v:Wd)(A:oq)(h:A.Ok B v)[kk:fJ L [aa B.mb 107 (jW B A),Sl 81 1 A.adL A.xs.length A.cL (A.xs.map cF),ah (cB W p c) A.xs,bK B.q (v.net.map cU),Sl 90 1 A.adE A.es.length A.cE (A.es.map bx),ah eD A.es] R]:U W w (aN W B p c v::R) :=
 U.shut (M:=[_,_,_,_,_,_]) (I.perm kk.perm) λ_ h1=>⟨A,h,h1⟩
theorem acF {P:Program}{t:TypeId} {ms}(ht:P.underlying t=some (.interface ms))(k:Nat):(Op.equalIn (k+1) t .nilIface .nilIface).run P w=.ok true w:=by
 simp[Op.equalIn,eO ht]
theorem acG {P:Program}{a:Act}{l:List (Nat×Value)} {x t ms u dst ty ps af g}(E:Fr a n l)(ht:P.underlying t=some (.interface ms))[e:Ev l x .nilIface] :
   (execOp a.eval ⟨dst,.binOp .eql t x (.const .nilIface) u,ty,ps,af,g⟩).run P w=.ok (.value (.bool true)) w:=by
 have hc:a.eval (.const .nilIface)=.nilIface:=rfl;have h2:(Op.equal t .nilIface .nilIface).run P w=.ok true w:=acF ht 9999;simp only[execOp,e.ev a n E,hc,Sem.run_bind];simp[eqGuard,binOp,h2]
theorem Ou {P:Program}{a:Act}{l:List (Nat×Value)} {x t u ok dst ty ps af g}{z z2:Value}(E:Fr a n l)(h:(Instr.typeAssert z t u ok).run P w=.ok z2 w)[e:Ev l x z] :
   (execOp a.eval ⟨dst,.typeAssert x t u ok,ty,ps,af,g⟩).run P w=.ok (.value z2) w:=by
 simp[execOp,e.ev a n E,h]
end
end
section
def fP.mul:fP→Value
 | .mu M=>pt M.mb
 | .pl _=>.pointer none
section
variable {W w:World}{L:List SP}{n cL mb i:Nat}{ad:Option Addr}{B:jI}{y:Int}{x2 x3:Value}{xs:List (fF×Pl)}
theorem acH (I:U W w (aa mb 107 [.slice ad n cL,x2,x3]::L))(hy:y<0∨(n:Int)≤y):Calls prog 28 #[pt mb,.int .i64 y] w λe w'=>e=.returned .nilIface∧U W w' (aa mb 107 [.slice ad n cL,x2,x3]::L):=by
 refine EN func28 ntmps28 rfl rfl λa E=>?_;refine RN 7 E I λa E=>?_;replace E:=E.aM 7;refine BY 4 E I (λkb a E=>?_) λkb a E=>?_
 ·
  refine RT 11 E I ?_;exact⟨rfl,I⟩
 refine RN 8 E I λa E=>?_;rw[dh (by omega)]at E;refine RT 3 E I ?_;exact⟨rfl,I⟩
theorem sB (I:U W w (aa mb 107 [.slice ad xs.length cL,x2,x3]::Sl 81 1 ad xs.length cL (xs.map cF)::L))(hi:i<xs.length):Calls prog 28 #[pt mb,.int .i64 i] w λe w'=>e=.returned (cF xs[i])∧U W w' (aa mb 107 [.slice ad xs.length cL,x2,x3]::Sl 81 1 ad xs.length cL (xs.map cF)::L):=by
 refine EN func28 ntmps28 rfl rfl λa E=>?_;refine RN 7 E I λa E=>?_;replace E:=E.aM 7;refine RN 4 E I λa E=>?_;rw[bo (by omega)]at E;refine RN 8 E I λa E=>?_;rw[bo (by omega)]at E;refine RN 2 E I λa E=>?_;obtain⟨b,o,rfl,hr⟩:=(I.pick (Sl 81 1 ad xs.length cL (xs.map cF))).bU ad (by omega);have fg:=hr i (cF xs[i]) (by rw[bn,aD hi];rfl);refine RN 6 E I λa E=>?_;refine SS E (ae E (fg)) λa E=>?_;refine RT 1 E I ?_;exact⟨rfl,I.sub⟩
theorem fP.assert (z:fP)(w:World):(Instr.typeAssert (.iface z.t (.pointer (some z.ad))) 81 78 true).run prog w=.ok (.tuple #[z.mul,.bool (match z with | .mu _=>true | .pl _=>false)]) w:=by
 cases z with
 | mu M=>kernel_rfl
 | pl B=>kernel_rfl
theorem Hz (I:U W w (aa mb 107 [.slice ad xs.length cL,x2,x3]::Sl 81 1 ad xs.length cL (xs.map cF)::L))(hi:i<xs.length):Calls prog 27 #[pt mb,.int .i64 i] w λe w'=>e=.returned xs[i].1.z.mul∧U W w' (aa mb 107 [.slice ad xs.length cL,x2,x3]::Sl 81 1 ad xs.length cL (xs.map cF)::L):=by
 have has:=xs[i].1.z.assert;cases hz:xs[i].1.z with
 | mu M =>
  rw[hz]at has;refine EN func27 ntmps27 rfl rfl λa E=>?_;refine CL 5 E I (sB I hi) λa w E I=>?_;rw[show cF xs[i]=.iface (fP.mu M).t (.pointer (some (fP.mu M).ad)) from by rw[← hz]]at E;refine RN 0 E I λa E=>?_;refine SK (bm E rfl (Ou E (has w)) rfl ?_);clear E a;intro a E;refine RN 9 E I λa E=>?_;replace E:=E.aM 15;refine RT 4 E I ?_;exact⟨rfl,I⟩
 | pl B =>
  rw[hz]at has;refine EN func27 ntmps27 rfl rfl λa E=>?_;refine CL 5 E I (sB I hi) λa w E I=>?_;rw[show cF xs[i]=.iface (fP.pl B).t (.pointer (some (fP.pl B).ad)) from by rw[← hz]]at E;refine RN 0 E I λa E=>?_;refine SK (bm E rfl (Ou E (has w)) rfl ?_);clear E a;intro a E;refine RN 9 E I λa E=>?_;replace E:=E.ei 15;refine RT 3 E I ?_;exact⟨rfl,I⟩
theorem Cv (I:U W w (aa mb 107 [x2,pt i,x3]::L)):Calls prog 22 #[pt mb] w λe w'=>e=.returned (pt i)∧U W w' (aa mb 107 [x2,pt i,x3]::L):=by
 refine EN func22 ntmps22 rfl rfl λa E=>?_;refine RN 6 E I λa E=>?_;replace E:=E.aM 4;refine RT 7 E I ?_;exact⟨rfl,I⟩
end
end
section
section
variable {W w:World}{L:List SP}{n c mb i q:Nat}{ad:Option Addr}{v:Wd}{x1 x3:Value}{xs:List (fF×Pl)}{l net:List Ml}{e:List km}
theorem U.xz {α:Type}{f:α→SP}{l:List α}{i:Nat}(h:i<l.length)(I:U W w (f l[i]::ah f (l.eraseIdx i)::L)):U W w (ah f l::L):=by
 have h1:=U.kZ h I
 rwa [l7]at h1
theorem Ov (l:List km):∀ v∈l.map cA,v.oneCell'=true:=by
 intro v hv;obtain⟨e,_,rfl⟩:=cR.1 hv;exact F0 e
theorem Ow (I:U W w (Sl 135 1 ad e.length c (e.map cA)::L))(hl:e.length≤1000000000):Calls prog 57 #[.slice ad e.length c] w λr w'=>∃ av c',r=.returned (.slice av e.length c')∧U W w' (Sl 135 1 av e.length c' (e.map cA)::Sl 135 1 ad e.length c (e.map cA)::L):=by
 cases pS:ad with
 | none =>
  subst pS;have h0:e=[]:=by
   rcases lH e.length with h0 | h0
   ·exact g4 h0
   ·obtain⟨b,o,h1,_⟩:=I.bU none h0;cases h1
  subst h0;refine EN func57 ntmps57 rfl rfl λa E=>?_;refine RN 6 E I λa E=>?_;replace E:=E.ei 4;refine RT 3 E I ?_;exact⟨_,_,rfl,I.bN _ _ _⟩
 | some a =>
  rw[← pS];refine EN func57 ntmps57 rfl rfl λa E=>?_;refine RN 6 E I λa E=>?_;rw[show ad.isNone=false from by rw[pS];rfl]at E;replace E:=E.aM 4;refine RN 2 E I λa E=>?_;refine ux E rfl I underlying90 Ty.t135 rfl λb5 a w E I ho=>?_;clear ho;replace I:U W w (Sl 135 1 (some ⟨b5,0,none⟩) 0 0 []::Sl 135 1 ad e.length c (e.map cA)::L):=I.tail.bN _ _ _;refine RN 1 E I λa E=>?_;refine g9 E rfl I underlying90 Ty.t135 rfl rfl (by decide) (λh0=>I.tail.bU ad h0) (by rw[a8,fU]) (Ov _) (by omega) λsZ rH a w E I=>?_;rw[nil_append,eE]at I;rw[eE]at E;refine RT 1 E I ?_;exact⟨_,_,rfl,I⟩
theorem acI {m:Ml}(h:m.2.2.length≤1000):(if qm (net.map cU) m.2.2.length then net.map cU++[cU m] else net.map cU)=(ph net m).map cU:=by
 have h1:qm (net.map cU) m.2.2.length=decide (net.length<300):=by
  rw[qm,a8,dh h,Bool.and_true]
 rw[h1,ph];by_cases h2:net.length<300
 ·rw[dh h2,ak rfl,ak h2,cW];rfl
 ·rw[bo h2,ag (by decide),ag h2]
theorem Ox (I:U W w (cg 124 ad n c l::bK q (net.map cU)::aa mb 107 [x1,pt q,x3]::L))(hn:n≤1000)(hl:∀ m∈l,m.2.2.length≤1000) :
   Calls prog 61 #[pt mb,.slice ad n c] w λe w'=>e=.returned (.int .i64 0)∧U W w' (bK q ((eC net l).map cU)::aa mb 107 [x1,pt q,x3]::L):=by
 obtain⟨xs,eG,ca,I⟩:=cg.open I;have ba:xs.length=n:=by rw[← ca,← eG,a8]
 subst ba;refine EN func61 ntmps61 rfl rfl λa E=>?_;refine RN 7 E I λa E=>?_;refine aQ (λμ a w=>∃ (i:Nat),(μ=xs.length-i∧i≤xs.length)∧Fr a 20 [(0,pt mb),(7,.slice ad xs.length c),(8,.int .i64 xs.length),(9,.int .i64 i)]∧U W w (bK q ((eC net (l.take i)).map cU)::Sl 124 3 ad xs.length c (rows b7 xs)::ah cc xs::aa mb 107 [x1,pt q,x3]::L)) (xs.length) (⟨0,⟨rfl,by omega⟩,E.ab [0,7,8,9],(show U W w (Sl 124 3 ad xs.length c (rows b7 xs)::ah cc xs::bK q ((eC net (l.take 0)).map cU)::_) from I).sub⟩) ?_;clear E I;rintro μ a w ⟨i,⟨rfl,hi⟩,E,I⟩;refine IF 3 E I (λaj a E=>?_) λaj a E=>?_
 ·
  have aF:i<xs.length:=by omega
  have zD:i<l.length:=by omega
  refine RN 2 E I λa E=>?_;obtain⟨bi,oi,rfl,pZ⟩:=(I.pick (Sl 124 3 ad xs.length c (rows b7 xs))).bU ad (by omega);have fk:=jk oc pZ (aD aF);obtain⟨m,hm⟩:∃ m,m=l[i]:=⟨_,rfl⟩;obtain⟨xa,Oy,hx⟩:∃ a c,xs[i]=(a,c,m):=⟨xs[i].1,xs[i].2.1,by
   have h1:(xs.map (·.2.2))[i]?=l[i]?:=by rw[eG]
   rw[bn,aD aF,aD zD]at h1;have h2:xs[i].2.2=l[i]:=by simpa using h1
   rw[hm,← h2]⟩
  have mE:=hl m (by rw[hm];exact iZ _);rw[hx]at fk;refine RN 1 E I λa E=>?_;refine SS E (bT E underlying124 rfl Ty.t124 (fk)) λa E=>?_;refine AL 0 E I λcI a w E I=>?_;refine SA 0 E I λa w E I=>?_;refine bS 0 [4] [0,1,2,3003,1004,1005] E I λa w E I hH hC=>?_;refine RH 5 E I hH hC λa E=>?_;refine CL 0 E I (ab0 (bs:=m.2.2) (I.pick (bK q ((eC net (l.take i)).map cU))) (λw' df=>by
   have h1:=(df.pick (ah cc xs)).fy aF;rw[hx]at h1;exact U.cv (L:=cc (xa,Oy,m)::_) h1 _ _ (k:=(fQ.head:fQ (Sl 5 1 xa m.2.2.length Oy (bc m.2.2)::_) xa _ _ _ _ _ _)) rfl rfl)) λa w E I=>?_
  refine RN 0 E I λa E=>?_;rw[show ((m.1:Int),(m.2.1:Int),m.2.2)=cU m from rfl,acI mE,hm,← NZ net zD]at I;refine RN 2 E I λa E=>?_;exact⟨xs.length-(i+1),by omega,i+1,⟨rfl,by omega⟩,E.ab [0,7,8,9],I.sub⟩
 refine RT 2 E I ?_;obtain rfl:i=xs.length:=by omega
 rw[gg (by omega)]at I;exact⟨rfl,I.sub⟩
end
end
section
abbrev dV (s:fN):List Value:=[.int .i64 s.fn,.int .i64 s.a,.int .i64 s.b,.int .i64 s.n]
section
variable {W w:World}{L:List SP}{c d cL mb i q:Nat}{ad adE:Option Addr}{p:Pr}{B:jI}{A:oq}{v:Wd}{x:fF}{s xp s':Pl}{t:fN}{y:Int}{net:List Ml}{cf:Cf}
theorem oq.Ok.at (h:A.Ok B v)(hi:i<v.ps.length):∃ x,A.xs[i]?=some (x,an v i)∧i<A.xs.length∧B.fx[i]?=some x:=by
 have hl:A.xs.length=v.ps.length:=by rw[← h.ps,a8]
 have dL:i<A.xs.length:=by omega
 refine⟨A.xs[i].1,?_,dL,by rw[← h.fx,bn,aD dL];rfl⟩;rw[aD dL,an,bl,← h.ps,bn,aD dL];rfl
theorem aN.out (I:U W w (ah (cB W p c) A.xs::L))(hx:A.xs[i]?=some (x,s)):U W w (x.J W p c s::ah (cB W p c) (A.xs.eraseIdx i)::L):=by
 obtain⟨hi,h1⟩:=a2.1 hx;have h2:=I.fy hi;rw[h1]at h2;exact h2
theorem aN.put (hA:A.Ok B v)(hx:A.xs[i]?=some (x,xp))(EB:c≤d)(net:List Ml)
   (I:U W w (x.J W p d s'::ah (cB W p c) (A.xs.eraseIdx i)::aa B.mb 107 (jW B A)::Sl 81 1 A.adL A.xs.length A.cL (A.xs.map cF)::bK B.q (net.map cU)::Sl 90 1 A.adE A.es.length A.cE (A.es.map bx)::ah eD A.es::L)) :
   U W w (aN W B p d { v with ps:=v.ps.set i s',net:=net }::L):=by
 obtain⟨hi,h1⟩:=a2.1 hx;have h2:=(I.pick (ah (cB W p c) (A.xs.eraseIdx i))).sA EB;have h3:=U.kZ (f:=cB W p d) (x:=(x,s')) hi (h2.pick (x.J W p d s'));have e1:(A.xs.set i (x,s')).map cF=A.xs.map cF:=by
  rw[jy,show cF (x,s')=(A.xs.map cF)[i]'(by rw[a8];exact hi) from by rw[getElem_map,h1],l7]
 have e2:(A.xs.set i (x,s')).length=A.xs.length:=bw ..;have hA':oq.Ok { A with xs:=A.xs.set i (x,s') } B { v with ps:=v.ps.set i s',net:=net }:=by
  refine⟨?_,?_,hA.ev⟩
  ·show (A.xs.set i (x,s')).map (·.1)=_;rw[jy,← hA.fx];show (A.xs.map (·.1)).set i x=_;rw[show x=(A.xs.map (·.1))[i]'(by rw[a8];exact hi) from by rw[getElem_map,h1],l7]
  ·show (A.xs.set i (x,s')).map (·.2)=v.ps.set i s';rw[jy,hA.ps]
 have h4:U W w (ah (cB W p d) (A.xs.set i (x,s'))::aa B.mb 107 (jW B { A with xs:=A.xs.set i (x,s') })::Sl 81 1 A.adL (A.xs.set i (x,s')).length A.cL ((A.xs.set i (x,s')).map cF)::bK B.q (net.map cU)::Sl 90 1 A.adE A.es.length A.cE (A.es.map bx)::ah eD A.es::L):=by
  simp only[jW,e1,e2];exact h3.sub
 exact (aN.fold h4 B p d { v with ps:=v.ps.set i s',net:=net } { A with xs:=A.xs.set i (x,s') } hA').sub
theorem fN.u8 (b:Int):IntKind.u8.wrap b=((dP b).toNat:Int):=by rw[wrap_u8,NY]
structure jI.Ok (B:jI)(p:Pr)(c:Nat):Prop where
 pr:dk p
 sz:p.title.size≤1000000000
 gs:∀ x∈B.fx,cY x.z.gs
 c:c≤1000000
theorem acJ (I:U W w L):Calls prog 62 #[.pointer none,.int .i64 y] w λe w'=>e=.returned (.bool false)∧U W w' L:=by
 refine EN func62 ntmps62 rfl rfl λa E=>?_;refine RN 7 E I λa E=>?_;replace E:=E.ei 7;refine RT 19 E I ?_;exact⟨rfl,I⟩
theorem acK (I:U W w (ah (cB W p c) A.xs::L))(hx:A.xs[i]?=some (x,s))(a6:dk p)(aH:p.title.size≤1000000000)(hc:c≤1000000) :
   Calls prog 62 #[x.z.mul,.int .i64 y] w λe w'=>∃ z:Bool,e=.returned (.bool z)∧(z=true→0≤y∧y<s.k.workers∧∃ M,x.z=.mu M)∧U W w' (ah (cB W p (c+1)) A.xs::L):=by
 obtain⟨hi,h1⟩:=a2.1 hx;have h2:=aN.out I hx;obtain⟨cf,z⟩:=x;cases z with
 | pl B=>exact (acJ I).mono λe w' ⟨h,I⟩=>⟨false,h,(λh=>by cases h),I.sA (gX c)⟩
 | mu M =>
  refine (aci h2 a6 aH hc).mono λe w' ⟨z,h,h3,I⟩=>⟨z,h,λhz=>⟨(h3 hz).2.1,(h3 hz).2.2,M,rfl⟩,?_⟩;have h4:=(I.pick (ah (cB W p c) (A.xs.eraseIdx i))).sA (gX c);refine U.xz hi ?_;rw[h1];exact h4.pick (fo W M p cf (c+1) s)
theorem Cw {t:fN}(h:t.fn=1)(gd:t.a=i)(hi:i<v.ps.length):gz p t v=((dK p (dP t.b) (an v i)).1,{ v with ps:=v.ps.set i (dK p (dP t.b) (an v i)).2 }):=by
 rw[gz,ag (by omega),ak h,gd,c6]
theorem xA {t:fN}(h:t.fn=2)(gd:t.a=i)(hi:i<v.ps.length):gz p t v=(0,{ v with ps:=v.ps.set i ⟨(bt (an v i).k).2,(an v i).g⟩,net:=eC v.net (bt (an v i).k).1 }):=by
 rw[gz,ag (by omega),ag (by omega),ak h,gd,c6]
theorem zE {t:fN}(h:t.fn=8)(gd:t.a=i)(hi:i<v.ps.length):gz p t v=(0,{ v with ps:=v.ps.set i ⟨(cy (an v i).k).2,(an v i).g⟩,net:=eC v.net (cy (an v i).k).1 }):=by
 rw[gz,ag (by omega),ag (by omega),ag (by omega),ak h,gd,c6]
theorem zF {t:fN}(h:t.fn=7)(gd:t.a=i)(hi:i<v.ps.length):gz p t v=(0,v):=by
 rw[gz,ag (by omega),ag (by omega),ag (by omega),ag (by omega)]
theorem acL (I:U W w (aN W B p c v::L))(ha0:t.a<0∨(v.ps.length:Int)≤t.a) :
   Calls prog 44 #[pt B.mb,.agg (dV t).toArray] w λe w'=>e=.returned (.int .i64 7)∧U W w' (aN W B p c v::L):=by
 replace I:=aN.open I;obtain⟨A,hA,I⟩:=I;have hl:A.xs.length=v.ps.length:=by rw[← hA.ps,a8]
 refine EN func44 ntmps44 rfl rfl λa E=>?_;refine BX 1 E I λb3 a w E I=>?_;change U W w (aa b3 58 (dV t)::_) at I;refine CL 5 E I (acH (I.pick (aa B.mb 107 (jW B A))) (by omega)) λa w E I=>?_;refine RN 4 E I λa E=>?_;refine SK (bm E rfl (acG E underlying81) rfl ?_);clear E a;intro a E;refine RN 0 E I λa E=>?_;replace E:=E.ei 11;refine RT 3 E I ?_;exact⟨rfl,(aN.fold I B p c v A hA).sub⟩
set_option maxHeartbeats 1000000 in
theorem acM (I:U W w (aN W B p c v::L))(hB:B.Ok p c)(hv:bL p cf c v)(hi:i<v.ps.length)(hf:t.fn=1∨t.fn=2∨t.fn=8∨t.fn=7)(gd:t.a=i) :
   Calls prog 44 #[pt B.mb,.agg (dV t).toArray] w λe w'=>∃ z:Int,e=.returned (.int .i64 z)∧(t.fn≠7→z=(gz p t v).1) ∧
    (t.fn=7→z=7∨(z=0∧0≤t.b∧t.b<(an v i).k.workers∧∃ x M,B.fx[i]?=some x∧x.z=.mu M))∧U W w' (aN W B p (c+1) (gz p t v).2::L):=by
 replace I:=aN.open I;obtain⟨A,hA,I⟩:=I;obtain⟨x,hx,Cx,pq⟩:=hA.at hi;obtain⟨_,g5⟩:=a2.1 hx;have hM:=x.q0 (W:=W) (p:=p) hB.pr hB.sz (hB.gs x (bH pq));obtain⟨hw,dc,xB⟩:=hv.pl i hi;have jQ:=hB.c;have zG:cF A.xs[i]=.iface x.z.t (.pointer (some x.z.ad)):=by rw[g5]
 refine EN func44 ntmps44 rfl rfl λa E=>?_;refine BX 1 E I λb3 a w E I=>?_;change U W w (aa b3 58 (dV t)::_) at I;refine RN 5 E I λa E=>?_;rw[gd]at E;refine CL 0 E I (sB ((I.pick (Sl 81 1 A.adL A.xs.length A.cL (A.xs.map cF))).pick (aa B.mb 107 (jW B A))) Cx) λa w E I=>?_;refine RN 1 E I λa E=>?_;rw[zG]at E;refine RN 4 E I λa E=>?_;replace E:=E.aM 11;refine IF 8 E I (λao a E=>?_) λao a E=>?_
 ·
  refine RN 1 E I λa E=>?_;replace I:=aN.out (I.pick (ah (cB W p c) A.xs)) hx;refine RN 3 E I λa E=>?_;refine SS E (gn E underlying3 underlying5) λa E=>?_;rw[fN.u8]at E;refine RN 0 E I λa E=>?_;refine jN E rfl hM.Hc hM.cP rfl (hM.al _ _ c (an v i) (dP t.b) jQ hw (I.pick (x.J W p c (an v i)))) (by rfl) ?_;clear E I;rintro e w ⟨rfl,I⟩;refine⟨_,rfl,λa E=>?_⟩;refine RT 1 E I ?_;exact⟨_,rfl,λ_=>by rw[Cw (by assumption) gd hi],λh=>by omega,by
   have h1:=aN.put hA hx (gX c) v.net (I.sub (M:=x.J W p (c+1) (dK p (dP t.b) (an v i)).2::ah (cB W p c) (A.xs.eraseIdx i)::aa B.mb 107 (jW B A)::Sl 81 1 A.adL A.xs.length A.cL (A.xs.map cF)::bK B.q (v.net.map cU)::Sl 90 1 A.adE A.es.length A.cE (A.es.map bx)::ah eD A.es::L));rw[Cw (by assumption) gd hi];exact h1⟩
 refine IF 3 E I (λay a E=>?_) λay a E=>?_
 ·
  refine RN 1 E I λa E=>?_;replace I:=aN.out (I.pick (ah (cB W p c) A.xs)) hx;refine RN 2 E I λa E=>?_;refine jN E rfl hM.Hg hM.cT rfl (hM.tick _ _ c (an v i) jQ hw (by omega) (I.pick (x.J W p c (an v i)))) (by rfl) ?_;clear E I;rintro e w ⟨am,jJ,rfl,I⟩;refine⟨_,rfl,λa E=>?_⟩;refine CL 0 E I (Ox (((I.pick (aa B.mb 107 (jW B A))).pick (bK B.q (v.net.map cU))).pick (cg 124 am (bt (an v i).k).1.length jJ (bt (an v i).k).1)) (NW hw.wc) (λm hm=>(N0 hw.wc m hm).2)) λa w E I=>?_;refine RT 1 E I ?_;exact⟨_,rfl,λ_=>by rw[xA (by assumption) gd hi],λh=>by omega,by
   have h1:=aN.put hA hx (gX c) (eC v.net (bt (an v i).k).1) (I.sub (M:=x.J W p (c+1) ⟨(bt (an v i).k).2,(an v i).g⟩::ah (cB W p c) (A.xs.eraseIdx i)::aa B.mb 107 (jW B A)::Sl 81 1 A.adL A.xs.length A.cL (A.xs.map cF)::bK B.q ((eC v.net (bt (an v i).k).1).map cU)::Sl 90 1 A.adE A.es.length A.cE (A.es.map bx)::ah eD A.es::L));rw[xA (by assumption) gd hi];exact h1⟩
 refine IF 3 E I (λbd a E=>?_) λbd a E=>?_
 ·
  refine RN 1 E I λa E=>?_;replace I:=aN.out (I.pick (ah (cB W p c) A.xs)) hx;refine RN 2 E I λa E=>?_;refine jN E rfl hM.Hh hM.Hi rfl (hM.o5 _ _ c (an v i) jQ hw (I.pick (x.J W p c (an v i)))) (by rfl) ?_;clear E I;rintro e w ⟨am,jJ,rfl,I⟩;refine⟨_,rfl,λa E=>?_⟩;refine CL 0 E I (Ox (((I.pick (aa B.mb 107 (jW B A))).pick (bK B.q (v.net.map cU))).pick (cg 124 am (cy (an v i).k).1.length jJ (cy (an v i).k).1)) (NX hw.wc) (λm hm=>(N1 hw.wc m hm).2)) λa w E I=>?_;refine RT 1 E I ?_;exact⟨_,rfl,λ_=>by rw[zE (by assumption) gd hi],λh=>by omega,by
   have h1:=aN.put hA hx (gX c) (eC v.net (cy (an v i).k).1) (I.sub (M:=x.J W p (c+1) ⟨(cy (an v i).k).2,(an v i).g⟩::ah (cB W p c) (A.xs.eraseIdx i)::aa B.mb 107 (jW B A)::Sl 81 1 A.adL A.xs.length A.cL (A.xs.map cF)::bK B.q ((eC v.net (cy (an v i).k).1).map cU)::Sl 90 1 A.adE A.es.length A.cE (A.es.map bx)::ah eD A.es::L));rw[zE (by assumption) gd hi];exact h1⟩
 refine aX 2 (λw0 w'=>Rd w' b3 0 (dV t)) [3,5] [0,1,4,3002,3005,1003,1006,7] E I λa w E I hH=>?_;have hC:=hH.at w (I.ai (b:=b3));refine RH 3 E I hH hC λa E=>?_;refine QH E (λw hc=>ae E (hc 1 _ rfl)) hC λa E=>?_;rw[gd]at E;refine RH 0 E I hH hC λa E=>?_;refine QH E (λw hc=>ae E (hc 2 _ rfl)) hC λa E=>?_;refine RH 0 E I hH hC λa E=>?_;refine CL 0 E I (Hz ((I.pick (Sl 81 1 A.adL A.xs.length A.cL (A.xs.map cF))).pick (aa B.mb 107 (jW B A))) Cx) λa w E I=>?_;replace hC:=hH.at w (I.ai (b:=b3));rw[show A.xs[i].1.z.mul=x.z.mul from by rw[g5]]at E;refine RH 0 E I hH hC λa E=>?_;refine bj 0 E I (acK (x:=x) (y:=t.b) (I.pick (ah (cB W p c) A.xs)) hx hB.pr hB.sz jQ) λz a w E ⟨hz,I⟩=>?_;refine RN 1 E I λa E=>?_;refine IF 0 E I (λbF a E=>?_) λbF a E=>?_
 ·
  have kQ:z=false:=by cases z <;> simp_all
  refine RT 2 E I ?_;exact⟨7,rfl,λh=>absurd (by omega) h,λ_=>.inl rfl,by
   rw[zF (by omega) gd hi];exact (aN.fold I B p (c+1) v A hA).sub⟩
 have kQ:z=true:=by cases z <;> simp_all
 refine RT 2 E I ?_;exact⟨0,rfl,λh=>absurd (by omega) h,λ_=>.inr ⟨rfl,(hz kQ).1,(hz kQ).2.1,x,(hz kQ).2.2.choose,pq,(hz kQ).2.2.choose_spec⟩,by
  rw[zF (by omega) gd hi];exact (aN.fold I B p (c+1) v A hA).sub⟩
end
end
section
section
variable {W w:World}{L:List SP}{n c cL mb j q:Nat}{ad adE:Option Addr}{p:Pr}{B:jI}{A:oq}{v:Wd}{x:fF}{t:fN}{y:Int}{net:List Ml}{m:Ml}{cf:Cf}{z:UInt8}
theorem HA (h:net[j]?=some m):∃ h2:j<(net.map cU).length,(net.map cU)[j]=cU m:=by
 obtain⟨h1,h2⟩:=a2.1 h;exact⟨by rw[a8];exact h1,by rw[getElem_map,h2]⟩
theorem HB (I:U W w (bK q (net.map cU)::L))(h:net[j]?=some m):Calls prog 52 #[pt q,.int .i64 j] w λe w'=>∃ ad c,e=.returned (.tuple #[.agg #[.int .i64 m.1,.int .i64 m.2.1,.slice ad m.2.2.length c],.bool true])∧U W w' (Sl 5 1 ad m.2.2.length c (bc m.2.2)::bK q (net.map cU)::L):=by
 obtain⟨h1,h2⟩:=HA h;have h3:=ab2 I h1;rw[h2]at h3;exact h3
theorem Oz (I:U W w (bK q (net.map cU)::L))(h:y<0∨(net.length:Int)≤y):Calls prog 52 #[pt q,.int .i64 y] w λe w'=>e=.returned (.tuple #[.agg #[.int .i64 0,.int .i64 0,.slice none 0 0],.bool false])∧U W w' (bK q (net.map cU)::L) :=
 ab1 I (by rw[a8];simp;omega)
theorem OA (I:U W w (bK q (net.map cU)::L))(h:net[j]?=some m):Calls prog 63 #[pt q,.int .i64 j] w λe w'=>e=.returned (.bool true)∧U W w' (bK q ((net.eraseIdx j).map cU)::L):=by
 obtain⟨h1,h2⟩:=HA h;have h3:=ab4 I h1;rw[show (net.map cU).eraseIdx j=(net.eraseIdx j).map cU from by simp only[sT,cW,map_take,map_drop]]at h3;exact h3
theorem acN (I:U W w (bK q (net.map cU)::L))(h:net[j]?=some m):Calls prog 64 #[pt q,.int .i64 j,.int .i64 y,.int .u8 (z.toNat:Int)] w λe w' =>
   e=.returned (.bool (decide (0≤y)&&decide (y<m.2.2.length)))∧U W w' (bK q ((if y<0∨(m.2.2.length:Int)≤y then net else net.set j (m.1,m.2.1,m.2.2.set y.toNat (m.2.2.getD y.toNat 0 ^^^ z))).map cU)::L):=by
 obtain⟨h1,h2⟩:=HA h;have h3:=ab5 (aT:=y) (x:=z) I h1;rw[h2]at h3;refine h3.mono λe w' ⟨h4,h5⟩=>⟨h4,?_⟩;by_cases h6:y<0∨(m.2.2.length:Int)≤y
 ·rw[ak h6];rw[ag (by show ¬ (decide (0≤y)&&decide (y<(m.2.2.length:Int)))=true;simp;omega)]at h5;exact h5
 ·rw[ag h6,jy];rw[ak (by show (decide (0≤y)&&decide (y<(m.2.2.length:Int)))=true;simp;omega)]at h5;exact h5
theorem OB {t:fN}(h:t.n<0∨(v.net.length:Int)≤t.n):gM p t v=(3,v):=by rw[gM,ak h]
theorem Cy (h:v.net[j]?=some m):v.net.getD j (0,0,[])=m:=by rw[bl,h];rfl
theorem HC {t:fN}(h:t.fn=4)(gN:t.n=j)(hm:v.net[j]?=some m):gM p t v=(0,{ v with net:=v.net.eraseIdx j }):=by
 have h1:=(a2.1 hm).1;rw[gM,ag (by omega),ag (by omega),ak h,gN,c6]
theorem ua {t:fN}(h:t.fn=6)(gN:t.n=j)(hm:v.net[j]?=some m):gM p t v=if t.a<0∨(m.2.2.length:Int)≤t.a then (3,v) else (0,{ v with net:=v.net.set j (m.1,m.2.1,m.2.2.set t.a.toNat (m.2.2.getD t.a.toNat 0 ^^^ dP t.b)) }):=by
 have h1:=(a2.1 hm).1;rw[gM,ag (by omega),ak h,gN,c6,Cy hm]
theorem zH {t:fN}(h:t.fn≠4)(h':t.fn≠6)(gN:t.n=j)(hm:v.net[j]?=some m):gM p t v=((dB p m.2.2 (an v m.2.1)).1,{ v with ps:=v.ps.set m.2.1 (dB p m.2.2 (an v m.2.1)).2,net:=if t.fn=5 then v.net else v.net.eraseIdx j }):=by
 have h1:=(a2.1 hm).1;rw[gM,ag (by omega),ag h',ag h,gN,c6,Cy hm]
theorem acO (I:U W w (aN W B p c v::L))(vR:t.n<0∨(v.net.length:Int)≤t.n) :
   Calls prog 45 #[pt B.mb,.agg (dV t).toArray] w λe w'=>e=.returned (.int .i64 3)∧U W w' (aN W B p c v::L):=by
 replace I:=aN.open I;obtain⟨A,hA,I⟩:=I;refine EN func45 ntmps45 rfl rfl λa E=>?_;refine BX 1 E I λb3 a w E I=>?_;change U W w (aa b3 58 (dV t)::_) at I;refine RN 1 E I λa E=>?_;refine cd (M:=λa w=>∃ b5:Nat,Fr a 61 [(0,pt B.mb),(3,pt b3),(5,pt b5),(6,.bool false)]∧U W w (aa b5 124 [.int .i64 0,.int .i64 0,.slice none 0 0]::aa b3 58 (dV t)::aa B.mb 107 (jW B A)::Sl 81 1 A.adL A.xs.length A.cL (A.xs.map cF)::ah (cB W p c) A.xs::bK B.q (v.net.map cU)::Sl 90 1 A.adE A.es.length A.cE (A.es.map bx)::ah eD A.es::L)) ?_ ?_
 ·
  refine aX 0 (λw0 w'=>Rd w' B.mb 0 (jW B A)∧Rd w' b3 0 (dV t)) [5,10] [0,1,2,4,3003,3005,2006,7,8,9,1010,1011,12] E I λa w E I hH=>?_;have hC:=hH.at w ⟨I.ai (b:=B.mb),I.ai (b:=b3)⟩;refine RH 4 E I hH hC λa E=>?_;refine QH E (λw hc=>ae E (hc.1 1 _ rfl)) hC λa E=>?_;refine QH E (λw hc=>ae E (hc.2 3 _ rfl)) hC λa E=>?_;refine RH 0 E I hH hC λa E=>?_;refine DN [(6,[7,8,9,1010,1011,12]),(10,[1006,7,8,9,1011,12])] (by kernel_rfl) rfl ⟨⟨_,rfl,?_⟩,⟨_,rfl,?_⟩,trivial⟩
  ·
   refine RH 0 E I hH hC λa E=>?_;refine CL 0 E I (Oz (I.pick (bK B.q (v.net.map cU))) vR) λa w E I=>?_;refine RN 3 E I λa E=>?_;refine e0 E rfl I Ty.t124 rfl λb5 a w E I ho=>?_;clear ho;replace hC:=hH.at w ⟨I.ai (b:=B.mb),I.ai (b:=b3)⟩;refine RH 0 E I hH hC λa E=>?_;refine SA 0 E I λa w E I=>?_;refine RN 1 E I λa E=>?_;exact⟨b5,E.ab [0,3,5,6],I.sub⟩
  refine RH 0 E I hH hC λa E=>?_;refine e0 E rfl I Ty.t124 rfl λb5 a w E I ho=>?_;clear ho;replace hC:=hH.at w ⟨I.ai (b:=B.mb),I.ai (b:=b3)⟩;refine RH 0 E I hH hC λa E=>?_;refine CL 0 E I (Oz (I.pick (bK B.q (v.net.map cU))) vR) λa w E I=>?_;refine SA 3 E I λa w E I=>?_;refine RN 1 E I λa E=>?_;exact⟨b5,E.ab [0,3,5,6],I.sub⟩
 clear E;(try clear I);rintro a w ⟨b5,E,I⟩;refine RN 4 E I λa E=>?_;replace E:=E.ei 18;refine RT 3 E I ?_;exact⟨rfl,(aN.fold I B p c v A hA).sub⟩
set_option maxHeartbeats 1000000 in
theorem acP (I:U W w (aN W B p c v::L))(hB:B.Ok p c)(hv:bL p cf c v)(hf:t.fn=3∨t.fn=4∨t.fn=5∨t.fn=6)(gN:t.n=j)(hm:v.net[j]?=some m) :
   Calls prog 45 #[pt B.mb,.agg (dV t).toArray] w λe w'=>e=.returned (.int .i64 (gM p t v).1)∧U W w' (aN W B p (c+1) (gM p t v).2::L):=by
 replace I:=aN.open I;obtain⟨A,hA,I⟩:=I;have eT:=(a2.1 hm).1;have gb:=hv.Hs eT;rw[Cy hm]at gb;obtain⟨x,hx,Cx,pq⟩:=hA.at gb.1;obtain⟨_,g5⟩:=a2.1 hx;have hM:=x.q0 (W:=W) (p:=p) hB.pr hB.sz (hB.gs x (bH pq));obtain⟨hw,dc,xB⟩:=hv.pl m.2.1 gb.1;have jQ:=hB.c;have zG:cF A.xs[m.2.1]=.iface x.z.t (.pointer (some x.z.ad)):=by rw[g5]
 refine EN func45 ntmps45 rfl rfl λa E=>?_;refine BX 1 E I λb3 a w E I=>?_;change U W w (aa b3 58 (dV t)::_) at I;refine RN 1 E I λa E=>?_;refine cd (M:=λa w=>∃ (b5:Nat) (am:Option Addr) (jJ:Nat),Fr a 61 [(0,pt B.mb),(3,pt b3),(5,pt b5),(6,.bool true)]∧U W w (aa b5 124 [.int .i64 m.1,.int .i64 m.2.1,.slice am m.2.2.length jJ]::Sl 5 1 am m.2.2.length jJ (bc m.2.2)::aa b3 58 (dV t)::aa B.mb 107 (jW B A)::Sl 81 1 A.adL A.xs.length A.cL (A.xs.map cF)::ah (cB W p c) A.xs::bK B.q (v.net.map cU)::Sl 90 1 A.adE A.es.length A.cE (A.es.map bx)::ah eD A.es::L)) ?_ ?_
 ·
  refine aX 0 (λw0 w'=>Rd w' B.mb 0 (jW B A)∧Rd w' b3 0 (dV t)) [5,10] [0,1,2,4,3003,3005,2006,7,8,9,1010,1011,12] E I λa w E I hH=>?_;have hC:=hH.at w ⟨I.ai (b:=B.mb),I.ai (b:=b3)⟩;refine RH 4 E I hH hC λa E=>?_;refine QH E (λw hc=>ae E (hc.1 1 _ rfl)) hC λa E=>?_;refine QH E (λw hc=>ae E (hc.2 3 _ rfl)) hC λa E=>?_;rw[gN]at E;refine RH 0 E I hH hC λa E=>?_;refine DN [(6,[7,8,9,1010,1011,12]),(10,[1006,7,8,9,1011,12])] (by kernel_rfl) rfl ⟨⟨_,rfl,?_⟩,⟨_,rfl,?_⟩,trivial⟩
  ·
   refine RH 0 E I hH hC λa E=>?_;refine aY 0 E I (HB (I.pick (bK B.q (v.net.map cU))) hm) λam jJ a w E I=>?_;refine RN 3 E I λa E=>?_;refine e0 E rfl I Ty.t124 rfl λb5 a w E I ho=>?_;clear ho;replace hC:=hH.at w ⟨I.ai (b:=B.mb),I.ai (b:=b3)⟩;refine RH 0 E I hH hC λa E=>?_;refine SA 0 E I λa w E I=>?_;refine RN 1 E I λa E=>?_;exact⟨b5,am,jJ,E.ab [0,3,5,6],I.sub⟩
  refine RH 0 E I hH hC λa E=>?_;refine e0 E rfl I Ty.t124 rfl λb5 a w E I ho=>?_;clear ho;replace hC:=hH.at w ⟨I.ai (b:=B.mb),I.ai (b:=b3)⟩;refine RH 0 E I hH hC λa E=>?_;refine aY 0 E I (HB (I.pick (bK B.q (v.net.map cU))) hm) λam jJ a w E I=>?_;refine SA 3 E I λa w E I=>?_;refine RN 1 E I λa E=>?_;exact⟨b5,am,jJ,E.ab [0,3,5,6],I.sub⟩
 clear E;(try clear I);rintro a w ⟨b5,am,jJ,E,I⟩;refine RN 4 E I λa E=>?_;replace E:=E.aM 18;refine RN 1 E I λa E=>?_;refine cd (M:=λa w=>((t.fn≠4∧t.fn≠6)∧Fr a 61 [(0,pt B.mb),(5,pt b5)])∧U W w (aa b5 124 [.int .i64 m.1,.int .i64 m.2.1,.slice am m.2.2.length jJ]::Sl 5 1 am m.2.2.length jJ (bc m.2.2)::aa B.mb 107 (jW B A)::Sl 81 1 A.adL A.xs.length A.cL (A.xs.map cF)::ah (cB W p c) A.xs::bK B.q ((if t.fn=5 then v.net else v.net.eraseIdx j).map cU)::Sl 90 1 A.adE A.es.length A.cE (A.es.map bx)::ah eD A.es::L)) ?_ ?_
 ·
  refine IF 6 E I (λao a E=>?_) λao a E=>?_
  ·
   refine bS 1 [5] [0,1,2,4,3003,1005,1006] E I λa w E I hH hC=>?_;refine RH 6 E I hH hC λa E=>?_;rw[gN]at E;refine CL 0 E I (OA (I.pick (bK B.q (v.net.map cU))) hm) λa w E I=>?_;refine RT 2 E I ?_;exact⟨by rw[HC (by assumption) gN hm],by
    rw[HC (by assumption) gN hm];exact (aN.fold ((I.pick (ah (cB W p c) A.xs)).sA (gX c)) B p (c+1) { v with net:=v.net.eraseIdx j } A ⟨hA.fx,hA.ps,hA.ev⟩).sub⟩
  refine IF 3 E I (λay a E=>?_) λay a E=>?_
  ·
   refine bS 2 [5,7,9,10] [0,1,2,4,6,8,3003,3005,3007,1009,1010,1011,12] E I λa w E I hH hC=>?_;refine RH 10 E I hH hC λa E=>?_;refine SS E (gn E underlying3 underlying5) λa E=>?_;rw[fN.u8,gN]at E;refine RH 0 E I hH hC λa E=>?_;refine CL 0 E I (acN (I.pick (bK B.q (v.net.map cU))) hm) λa w E I=>?_;refine RN 1 E I λa E=>?_;refine IF 0 E I (λbd a E=>?_) λbd a E=>?_
   ·
    have ho:t.a<0∨(m.2.2.length:Int)≤t.a:=by
     by_cases h1:t.a<0
     ·exact .inl h1
     ·by_cases h2:(m.2.2.length:Int)≤t.a
      ·exact .inr h2
      ·simp at bd;omega
    refine RT 2 E I ?_;exact⟨by rw[ua (by assumption) gN hm,ak ho],by
     rw[ua (by assumption) gN hm,ak ho];rw[ak ho]at I;exact (aN.fold ((I.pick (ah (cB W p c) A.xs)).sA (gX c)) B p (c+1) v A hA).sub⟩
   have ho:¬ (t.a<0∨(m.2.2.length:Int)≤t.a):=by
    simp at bd;omega
   refine RT 2 E I ?_;exact⟨by rw[ua (by assumption) gN hm,ag ho],by
    rw[ua (by assumption) gN hm,ag ho];rw[ag ho]at I;exact (aN.fold ((I.pick (ah (cB W p c) A.xs)).sA (gX c)) B p (c+1) { v with net:=v.net.set j (m.1,m.2.1,m.2.2.set t.a.toNat (m.2.2.getD t.a.toNat 0 ^^^ dP t.b)) } A ⟨hA.fx,hA.ps,hA.ev⟩).sub⟩
  refine IF 3 E I (λbF a E=>?_) λbF a E=>?_
  ·
   refine bS 0 [5] [0,1,2,4,3003,1005,1006] E I λa w E I hH hC=>?_;refine RH 6 E I hH hC λa E=>?_;rw[gN]at E;refine CL 0 E I (OA (I.pick (bK B.q (v.net.map cU))) hm) λa w E I=>?_;refine RN 0 E I λa E=>?_;rw[ag (by omega)];exact⟨⟨⟨by omega,by omega⟩,E.ab [0,5]⟩,I.sub⟩
  refine RN 0 E I λa E=>?_;rw[ak (by omega)];exact⟨⟨⟨by omega,by omega⟩,E.ab [0,5]⟩,I.sub⟩
 clear E;(try clear I);rintro a w ⟨⟨jM,E⟩,I⟩;refine aX 1 (λw0 w'=>Rd w' b5 0 [.int .i64 m.1,.int .i64 m.2.1,.slice am m.2.2.length jJ]) [3,5] [0,1,4,3002,3005,1003,1006,7] E I λa w E I hH=>?_;have hC:=hH.at w (I.ai (b:=b5));refine RH 3 E I hH hC λa E=>?_;refine QH E (λw hc=>ae E (hc 1 _ rfl)) hC λa E=>?_;refine QH E (λw hc=>ae E (hc 2 _ rfl)) hC λa E=>?_;refine RH 0 E I hH hC λa E=>?_;refine CL 0 E I (sB ((I.pick (Sl 81 1 A.adL A.xs.length A.cL (A.xs.map cF))).pick (aa B.mb 107 (jW B A))) Cx) λa w E I=>?_;replace hC:=hH.at w (I.ai (b:=b5));rw[zG]at E;replace I:=aN.out (I.pick (ah (cB W p c) A.xs)) hx;refine RH 0 E I hH hC λa E=>?_;refine jN E rfl hM.He hM.Hf rfl (hM.recv _ _ c (an v m.2.1) m.2.2 am jJ jQ hw (by omega) (I.sl am).2 (λw' df=>(df.pick (Sl 5 1 am m.2.2.length jJ (bc m.2.2))).cv am _ rfl rfl) (I.pick (x.J W p c (an v m.2.1)))) (by rfl) ?_;clear E I;rintro e w ⟨rfl,I⟩;refine⟨_,rfl,λa E=>?_⟩;refine RN 1 E I λa E=>?_;refine RT 0 E I ?_;exact⟨by rw[zH jM.1 jM.2 gN hm],by
  rw[zH jM.1 jM.2 gN hm];exact aN.put hA hx (gX c) (if t.fn=5 then v.net else v.net.eraseIdx j) I.sub⟩
end
end
section
section
variable {W w:World}{L:List SP}{n c d cL cE mb i j q:Nat}{ad adL adE:Option Addr}{p:Pr}{B:jI}{A:oq}{v u:Wd}{x:fF}{s s':Pl}{t:fN}{net:List Ml}{cf:Cf}{xs:List (fF×Pl)}{es:List ku}
theorem jI.Ok.less (h:B.Ok p d)(hc:c≤d):B.Ok p c:=⟨h.pr,h.sz,h.gs,fG hc h.c⟩
theorem aN.more (I:U W w (aN W B p c v::L))(h:c≤d):U W w (aN W B p d v::L):=by
 replace I:=aN.open I;obtain⟨A,hA,I⟩:=I;exact (aN.fold ((I.pick (ah (cB W p c) A.xs)).sA h) B p d v A hA).sub
theorem aN.xC (I:U W w (aN W B p c v::L)):∃ (adL:Option Addr) (cL:Nat) (adE:Option Addr) (cE:Nat) (xs:List (fF×Pl)) (es:List ku),(xs.map (·.1)=B.fx∧xs.map (·.2)=v.ps∧es.map (·.2.2)=v.ev) ∧
   U W w (aa B.mb 107 [.slice adL xs.length cL,pt B.q,.slice adE es.length cE]::Sl 81 1 adL xs.length cL (xs.map cF)::ah (cB W p c) xs::bK B.q (v.net.map cU)::Sl 90 1 adE es.length cE (es.map bx)::ah eD es::L):=by
 replace I:=aN.open I;obtain⟨⟨adL,cL,adE,cE,xs,es⟩,hA,I⟩:=I;exact⟨adL,cL,adE,cE,xs,es,⟨hA.fx,hA.ps,hA.ev⟩,I⟩
theorem aN.vB (I:U W w (aa B.mb 107 [.slice adL xs.length cL,pt B.q,.slice adE es.length cE]::Sl 81 1 adL xs.length cL (xs.map cF)::ah (cB W p c) xs::bK B.q (v.net.map cU)::Sl 90 1 adE es.length cE (es.map bx)::ah eD es::L))
   (h1:xs.map (·.1)=B.fx) (h2:xs.map (·.2)=v.ps) (h3:es.map (·.2.2)=v.ev):U W w (aN W B p c v::L) :=
 U.shut (M:=[_,_,_,_,_,_]) I λ_ h=>⟨⟨adL,cL,adE,cE,xs,es⟩,⟨h1,h2,h3⟩,h⟩
theorem HD {ps:List Pl}{fx:List fF}(h1:xs.map (·.1)=fx)(h2:xs.map (·.2)=ps)(hi:i<xs.length):∃ x,xs[i]?=some (x,ps.getD i Cp)∧fx[i]?=some x:=by
 refine⟨xs[i].1,?_,by rw[← h1,bn,aD hi];rfl⟩;rw[aD hi,bl,← h2,bn,aD hi];rfl
theorem Cz (I:U W w (ah (cB W p c) xs::L))(hx:xs[i]?=some (x,s)):U W w (x.J W p c s::ah (cB W p c) (xs.eraseIdx i)::L):=by
 obtain⟨hi,h1⟩:=a2.1 hx;have h2:=I.fy hi;rw[h1]at h2;exact h2
theorem acQ (I:U W w (x.J W p d s'::ah (cB W p c) (xs.eraseIdx i)::L))(hx:xs[i]?=some (x,s))(h:c≤d):U W w (ah (cB W p d) (xs.set i (x,s'))::L):=by
 obtain⟨hi,h1⟩:=a2.1 hx;exact U.kZ (f:=cB W p d) (x:=(x,s')) hi (((I.pick (ah (cB W p c) (xs.eraseIdx i))).sA h).pick (x.J W p d s'))
theorem OC (hx:xs[i]?=some (x,s)):(xs.set i (x,s')).map cF=xs.map cF∧(xs.set i (x,s')).map (·.1)=xs.map (·.1):=by
 obtain⟨hi,h1⟩:=a2.1 hx;constructor
 ·rw[jy,show cF (x,s')=(xs.map cF)[i]'(by rw[a8];exact hi) from by rw[getElem_map,h1],l7]
 ·rw[jy];show (xs.map (·.1)).set i x=_;rw[show x=(xs.map (·.1))[i]'(by rw[a8];exact hi) from by rw[getElem_map,h1],l7]
def CA (B:jI)(t:fN)(v:Wd)(z:Int):Prop:=z=7∨(z=0∧(0≤t.a∧t.a<v.ps.length)∧0≤t.b∧t.b<(an v t.a.toNat).k.workers∧∃ x M,B.fx[t.a.toNat]?=some x∧x.z=.mu M)
theorem CB (I:U W w (aN W B p c v::L))(hB:B.Ok p c)(hv:bL p cf c v)(hf:t.fn=1∨t.fn=2∨t.fn=8∨t.fn=7) :
   Calls prog 44 #[pt B.mb,.agg (dV t).toArray] w λe w'=>∃ z:Int,e=.returned (.int .i64 z)∧(t.fn≠7→z=(gz p t v).1)∧(t.fn=7→CA B t v z)∧U W w' (aN W B p (c+1) (gz p t v).2::L):=by
 by_cases h0:t.a<0∨(v.ps.length:Int)≤t.a
 ·refine (acL I h0).mono λe w' ⟨h,I⟩=>⟨7,h,λ_=>?_,λ_=>.inl rfl,?_⟩
  ·rw[gz,ak h0]
  ·rw[gz,ak h0];exact aN.more I (gX c)
 ·refine (acM (i:=t.a.toNat) I hB hv (by omega) hf (by omega)).mono λe w' ⟨z,h,h1,h2,I⟩=>⟨z,h,h1,λh7=>?_,I⟩;rcases h2 h7 with h3 | ⟨h3,h4,h5,h6⟩
  ·exact .inl h3
  ·exact .inr ⟨h3,by omega,h4,h5,h6⟩
theorem CC (I:U W w (aN W B p c v::L))(hB:B.Ok p c)(hv:bL p cf c v)(hf:t.fn=3∨t.fn=4∨t.fn=5∨t.fn=6) :
   Calls prog 45 #[pt B.mb,.agg (dV t).toArray] w λe w'=>e=.returned (.int .i64 (gM p t v).1)∧U W w' (aN W B p (c+1) (gM p t v).2::L):=by
 by_cases h0:t.n<0∨(v.net.length:Int)≤t.n
 ·rw[OB h0];exact (acO I h0).mono λe w' ⟨h,I⟩=>⟨h,aN.more I (gX c)⟩
 ·exact acP (j:=t.n.toNat) I hB hv hf (by omega) (aD (by omega))
set_option maxHeartbeats 2000000 in
theorem OD (I:U W w (aN W B p c v::L))(hB:B.Ok p (c+10))(hv:bL p cf c v)(kc:9*c+100≤1000000000) :
   Calls prog 29 #[pt B.mb,.agg (dV t).toArray] w λe w'=>∃ z:Int,e=.returned (.int .i64 z)∧(t.fn≠7→z=(bu p t v).1)∧(t.fn=7→CA B t v z)∧U W w' (aN W B p (c+10) (lz (bu p t v).2)::L):=by
 have hu:=hv.step (s:=t);refine EN func29 ntmps29 rfl rfl λa E=>?_;refine BX 1 E I λb3 a w E I=>?_;change U W w (aa b3 58 (dV t)::_) at I;refine RN 5 E I λa E=>?_;replace E:=E.aM 9;refine RN 3 E I λa E=>?_;refine cd (M:=λa w=>(∃ z:Int,((t.fn≠7→z=(bu p t v).1)∧(t.fn=7→CA B t v z))∧Fr a 56 [(0,pt B.mb),(5,.int .i64 z)])∧U W w (aN W B p (c+1) (bu p t v).2::L)) ?_ ?_
 ·
  refine IF 7 E I (λao a E=>?_) λao a E=>?_
  ·
   refine bj 3 E I (CB (I.pick (aN W B p c v)) (hB.less (by omega)) hv (by omega)) λz a w E ⟨cV,eQ,I⟩=>?_;refine RN 1 E I λa E=>?_
   first
    | (have aR : bu p t v = gz p t v := by rw [bu, ag (by omega), ag (by omega)]
       rw[aR];exact⟨⟨z,⟨cV,eQ⟩,E.ab [0,5]⟩,I.sub⟩)
    | (have aR : bu p t v = gM p t v := by rw [bu, ag (by omega), ak (by omega)]
       rw[aR];exact⟨⟨_,⟨λ_=>rfl,λh=>by omega⟩,E.ab [0,5]⟩,I.sub⟩)
    | (have aR : bu p t v = (1, v) := by rw [bu, ak (by omega)]
       rw[aR];exact⟨⟨1,⟨λ_=>rfl,λh=>by omega⟩,E.ab [0,5]⟩,(aN.more (I.pick (aN W B p c v)) (gX c)).sub⟩)
  refine IF 3 E I (λay a E=>?_) λay a E=>?_
  ·
   refine bj 3 E I (CB (I.pick (aN W B p c v)) (hB.less (by omega)) hv (by omega)) λz a w E ⟨cV,eQ,I⟩=>?_;refine RN 1 E I λa E=>?_
   first
    | (have aR : bu p t v = gz p t v := by rw [bu, ag (by omega), ag (by omega)]
       rw[aR];exact⟨⟨z,⟨cV,eQ⟩,E.ab [0,5]⟩,I.sub⟩)
    | (have aR : bu p t v = gM p t v := by rw [bu, ag (by omega), ak (by omega)]
       rw[aR];exact⟨⟨_,⟨λ_=>rfl,λh=>by omega⟩,E.ab [0,5]⟩,I.sub⟩)
    | (have aR : bu p t v = (1, v) := by rw [bu, ak (by omega)]
       rw[aR];exact⟨⟨1,⟨λ_=>rfl,λh=>by omega⟩,E.ab [0,5]⟩,(aN.more (I.pick (aN W B p c v)) (gX c)).sub⟩)
  refine IF 3 E I (λbd a E=>?_) λbd a E=>?_
  ·
   refine bj 3 E I (CB (I.pick (aN W B p c v)) (hB.less (by omega)) hv (by omega)) λz a w E ⟨cV,eQ,I⟩=>?_;refine RN 1 E I λa E=>?_
   first
    | (have aR : bu p t v = gz p t v := by rw [bu, ag (by omega), ag (by omega)]
       rw[aR];exact⟨⟨z,⟨cV,eQ⟩,E.ab [0,5]⟩,I.sub⟩)
    | (have aR : bu p t v = gM p t v := by rw [bu, ag (by omega), ak (by omega)]
       rw[aR];exact⟨⟨_,⟨λ_=>rfl,λh=>by omega⟩,E.ab [0,5]⟩,I.sub⟩)
    | (have aR : bu p t v = (1, v) := by rw [bu, ak (by omega)]
       rw[aR];exact⟨⟨1,⟨λ_=>rfl,λh=>by omega⟩,E.ab [0,5]⟩,(aN.more (I.pick (aN W B p c v)) (gX c)).sub⟩)
  refine IF 2 E I (λbF a E=>?_) λbF a E=>?_
  ·
   refine bj 2 E I (CB (I.pick (aN W B p c v)) (hB.less (by omega)) hv (by omega)) λz a w E ⟨cV,eQ,I⟩=>?_;refine RN 1 E I λa E=>?_
   first
    | (have aR : bu p t v = gz p t v := by rw [bu, ag (by omega), ag (by omega)]
       rw[aR];exact⟨⟨z,⟨cV,eQ⟩,E.ab [0,5]⟩,I.sub⟩)
    | (have aR : bu p t v = gM p t v := by rw [bu, ag (by omega), ak (by omega)]
       rw[aR];exact⟨⟨_,⟨λ_=>rfl,λh=>by omega⟩,E.ab [0,5]⟩,I.sub⟩)
    | (have aR : bu p t v = (1, v) := by rw [bu, ak (by omega)]
       rw[aR];exact⟨⟨1,⟨λ_=>rfl,λh=>by omega⟩,E.ab [0,5]⟩,(aN.more (I.pick (aN W B p c v)) (gX c)).sub⟩)
  refine IF 4 E I (λeU a E=>?_) λeU a E=>?_
  ·
   refine CL 3 E I (CC (I.pick (aN W B p c v)) (hB.less (by omega)) hv (by omega)) λa w E I=>?_;refine RN 1 E I λa E=>?_
   first
    | (have aR : bu p t v = gz p t v := by rw [bu, ag (by omega), ag (by omega)]
       rw[aR];exact⟨⟨z,⟨cV,eQ⟩,E.ab [0,5]⟩,I.sub⟩)
    | (have aR : bu p t v = gM p t v := by rw [bu, ag (by omega), ak (by omega)]
       rw[aR];exact⟨⟨_,⟨λ_=>rfl,λh=>by omega⟩,E.ab [0,5]⟩,I.sub⟩)
    | (have aR : bu p t v = (1, v) := by rw [bu, ak (by omega)]
       rw[aR];exact⟨⟨1,⟨λ_=>rfl,λh=>by omega⟩,E.ab [0,5]⟩,(aN.more (I.pick (aN W B p c v)) (gX c)).sub⟩)
  refine IF 3 E I (λnn a E=>?_) λnn a E=>?_
  ·
   refine CL 3 E I (CC (I.pick (aN W B p c v)) (hB.less (by omega)) hv (by omega)) λa w E I=>?_;refine RN 1 E I λa E=>?_
   first
    | (have aR : bu p t v = gz p t v := by rw [bu, ag (by omega), ag (by omega)]
       rw[aR];exact⟨⟨z,⟨cV,eQ⟩,E.ab [0,5]⟩,I.sub⟩)
    | (have aR : bu p t v = gM p t v := by rw [bu, ag (by omega), ak (by omega)]
       rw[aR];exact⟨⟨_,⟨λ_=>rfl,λh=>by omega⟩,E.ab [0,5]⟩,I.sub⟩)
    | (have aR : bu p t v = (1, v) := by rw [bu, ak (by omega)]
       rw[aR];exact⟨⟨1,⟨λ_=>rfl,λh=>by omega⟩,E.ab [0,5]⟩,(aN.more (I.pick (aN W B p c v)) (gX c)).sub⟩)
  refine IF 3 E I (λmO a E=>?_) λmO a E=>?_
  ·
   refine CL 3 E I (CC (I.pick (aN W B p c v)) (hB.less (by omega)) hv (by omega)) λa w E I=>?_;refine RN 1 E I λa E=>?_
   first
    | (have aR : bu p t v = gz p t v := by rw [bu, ag (by omega), ag (by omega)]
       rw[aR];exact⟨⟨z,⟨cV,eQ⟩,E.ab [0,5]⟩,I.sub⟩)
    | (have aR : bu p t v = gM p t v := by rw [bu, ag (by omega), ak (by omega)]
       rw[aR];exact⟨⟨_,⟨λ_=>rfl,λh=>by omega⟩,E.ab [0,5]⟩,I.sub⟩)
    | (have aR : bu p t v = (1, v) := by rw [bu, ak (by omega)]
       rw[aR];exact⟨⟨1,⟨λ_=>rfl,λh=>by omega⟩,E.ab [0,5]⟩,(aN.more (I.pick (aN W B p c v)) (gX c)).sub⟩)
  refine IF 2 E I (λmP a E=>?_) λmP a E=>?_
  ·
   refine CL 2 E I (CC (I.pick (aN W B p c v)) (hB.less (by omega)) hv (by omega)) λa w E I=>?_;refine RN 1 E I λa E=>?_
   first
    | (have aR : bu p t v = gz p t v := by rw [bu, ag (by omega), ag (by omega)]
       rw[aR];exact⟨⟨z,⟨cV,eQ⟩,E.ab [0,5]⟩,I.sub⟩)
    | (have aR : bu p t v = gM p t v := by rw [bu, ag (by omega), ak (by omega)]
       rw[aR];exact⟨⟨_,⟨λ_=>rfl,λh=>by omega⟩,E.ab [0,5]⟩,I.sub⟩)
    | (have aR : bu p t v = (1, v) := by rw [bu, ak (by omega)]
       rw[aR];exact⟨⟨1,⟨λ_=>rfl,λh=>by omega⟩,E.ab [0,5]⟩,(aN.more (I.pick (aN W B p c v)) (gX c)).sub⟩)
  refine RN 0 E I λa E=>?_
  first
   | (have aR : bu p t v = gz p t v := by rw [bu, ag (by omega), ag (by omega)]
      rw[aR];exact⟨⟨z,⟨cV,eQ⟩,E.ab [0,5]⟩,I.sub⟩)
   | (have aR : bu p t v = gM p t v := by rw [bu, ag (by omega), ak (by omega)]
      rw[aR];exact⟨⟨_,⟨λ_=>rfl,λh=>by omega⟩,E.ab [0,5]⟩,I.sub⟩)
   | (have aR : bu p t v = (1, v) := by rw [bu, ak (by omega)]
      rw[aR];exact⟨⟨1,⟨λ_=>rfl,λh=>by omega⟩,E.ab [0,5]⟩,(aN.more (I.pick (aN W B p c v)) (gX c)).sub⟩)
 clear E;(try clear I);rintro a w ⟨⟨z,hz,E⟩,I⟩;refine RN 2 E I λa E=>?_;generalize (bu p t v).2=u at I hu ⊢;replace I:=aN.xC I;obtain⟨adL,cL,adE,cE,zI,zJ,⟨ew,dj,eN⟩,I⟩:=I;have ca:zI.length=u.ps.length:=by rw[← dj,a8]
 have sC:zJ.length=u.ps.length:=by rw[← hu.ev,← eN,a8]
 have xt:=hu.len;have jQ:=hB.c;refine RN 6 E I λa E=>?_;refine aQ (λμ a w=>∃ (i:Nat) (xs:List (fF×Pl)) (es:List ku),(μ=u.ps.length-i∧(i≤u.ps.length∧xs.length=u.ps.length∧es.length=u.ps.length)∧xs.map (·.1)=B.fx∧xs.map (·.2)=(cz u i).ps∧es.map (·.2.2)=(cz u i).ev)∧Fr a 56 [(0,pt B.mb),(5,.int .i64 z),(31,.slice adL u.ps.length cL),(32,.int .i64 u.ps.length),(33,.int .i64 i)]∧U W w (aa B.mb 107 [.slice adL u.ps.length cL,pt B.q,.slice adE u.ps.length cE]::Sl 81 1 adL u.ps.length cL (xs.map cF)::ah (cB W p (c+1+i)) xs::bK B.q (u.net.map cU)::Sl 90 1 adE u.ps.length cE (es.map bx)::ah eD es::L)) (u.ps.length) (⟨0,zI,zJ,⟨rfl,⟨by omega,ca,sC⟩,ew,dj,eN⟩,(by rw[ca]at E;exact E.ab [0,5,31,32,33]),(by rw[ca,sC]at I;exact I.sub)⟩) ?_;clear E I;rintro μ a w ⟨i,xs,es,⟨rfl,⟨hi,zK,zL⟩,u4,tD,qY⟩,E,I⟩;refine IF 3 E I (λkc a E=>?_) λkc a E=>?_
 ·
  have aF:i<u.ps.length:=by omega
  obtain⟨x,hx,pq⟩:∃ x,xs[i]?=some (x,an (cz u i) i)∧B.fx[i]?=some x:=HD u4 tD (by omega);obtain⟨_,g5⟩:=a2.1 hx;have hM:=x.q0 (W:=W) (p:=p) hB.pr hB.sz (hB.gs x (bH pq));have hd:=hu.cz (i:=i) (by omega);obtain⟨hw,dc,xB⟩:=hd.pl i (by rw[(rh u i).1];exact aF);have HE:=hd.kT;obtain⟨iF,iG,l,lA⟩:∃ iF iG l,es[i]?=some (iF,iG,l):=⟨_,_,_,aD (by omega)⟩;obtain⟨_,pv⟩:=a2.1 lA;have hs:l.length≤9*(c+2):=(HE l (by rw[← qY];exact cR.2 ⟨(iF,iG,l),by rw[← pv];exact iZ _,rfl⟩)).1;have zG:(xs.map cF)[i]?=some (.iface x.z.t (.pointer (some x.z.ad))):=by rw[bn,hx];rfl
  refine RN 2 E I λa E=>?_;obtain⟨m5,ol,rfl,gq⟩:=(I.pick (Sl 81 1 adL u.ps.length cL (xs.map cF))).bU adL (by omega);have fK:=gq i _ zG;refine RN 2 E I λa E=>?_;refine SS E (ae E (fK)) λa E=>?_;refine RN 2 E I λa E=>?_;obtain⟨iT,oE,rfl,_⟩:=(I.pick (Sl 90 1 adE u.ps.length cE (es.map bx))).bU adE (by omega);refine aX 0 (λw0 w'=>Rd w' B.mb 0 [.slice (some ⟨m5,ol,none⟩) u.ps.length cL,pt B.q,.slice (some ⟨iT,oE,none⟩) u.ps.length cE]∧Rd w' iT oE (es.map bx)) [8,10,11,13,14] [0,1,2,4,5,6,7,9,12,3003,3008,3010,3011,1013,1014,15,1016] E I λa w E I hH=>?_;have hC:=hH.at w ⟨I.ai (b:=B.mb),I.cK iT oE (by omega)⟩;refine RH 9 E I hH hC λa E=>?_;refine QH E (λw hc=>ae E (hc.1 2 _ rfl)) hC λa E=>?_;refine QH E (λw hc=>ae E (hc.1 2 _ rfl)) hC λa E=>?_;refine RH 1 E I hH hC λa E=>?_;refine QH E (λw hc=>ae E (hc.2 i (.slice iF l.length iG) (by rw[bn,lA];rfl))) hC λa E=>?_;replace I:=Cz (I.pick (ah (cB W p (c+1+i)) xs)) hx;refine RH 0 E I hH hC λa E=>?_;refine jN E rfl hM.Hj hM.cE rfl (hM.events _ _ (c+1+i) (an (cz u i) i) (by omega) hw (I.pick (x.J W p (c+1+i) (an (cz u i) i)))) (by rfl) ?_;clear E I;rintro e w ⟨am,jJ,rfl,I⟩;refine⟨_,rfl,λa E=>?_⟩;replace hC:=hH.at w ⟨I.ai (b:=B.mb),I.cK iT oE (by omega)⟩;replace I:=(I.pick (ah eD es)).fy (i:=i) (by omega);rw[pv]at I;change U W w (Sl 135 1 iF l.length iG (l.map cA)::_) at I;have OE:=hw.wc.kT;refine RH 0 E I hH hC λa E=>?_;refine g9 E rfl I underlying90 Ty.t135 rfl rfl (by decide) (λh0=>(I.pick (Sl 135 1 am (an (cz u i) i).k.ev.length jJ ((an (cz u i) i).k.ev.map cA))).bU am h0) (by rw[a8,fU]) (Ov _) (by omega) λr7 r8 a w E I=>?_;replace hC:=hH.at w ⟨I.ai (b:=B.mb),I.cK iT oE (by omega)⟩;have hcE:=((I.pick (Sl 90 1 (some ⟨iT,oE,none⟩) u.ps.length cE (es.map bx))).sl (some ⟨iT,oE,none⟩)).2;obtain⟨jr,pre,post,⟨h3,h4,h5,h6⟩,gF⟩:=(I.pick (Sl 90 1 (some ⟨iT,oE,none⟩) u.ps.length cE (es.map bx))).l4 (by omega);replace I:=gF;clear gF;obtain⟨rfl,rfl⟩:iT=jr∧oE=pre.length:=by simpa using h5
  refine RH 1 E I hH hC λa E=>?_;refine ST 0 E I (λa w E I=>?_) (hlt:=(by simp only[aI,a8];omega));refine RN 2 E I λa E=>?_;have qZ:(cz u i).ev.getD i []=l:=by rw[← qY,bl,bn,lA];rfl
  have zM:(es.map bx).set i (.slice r7 (l.length+(an (cz u i) i).k.ev.length) r8)=(es.set i (r7,r8,l++(an (cz u i) i).k.ev)).map bx:=by
   rw[jy,bx,aI]
  have dz:=I;rw[zA (by rw[a8];omega),zM]at dz;replace dz:=U.iX (n:=u.ps.length) (c:=cE) (sz:=1) (dz.jX iT) (by rw[a8,bw];omega) h4 h6;have hj:=dz.pick (ah (cB W p (c+1+i)) (xs.eraseIdx i));have hk:=acQ (s':=⟨{ (an (cz u i) i).k with ev:=[] },(an (cz u i) i).g⟩) (hj.pick (x.J W p (c+1+i+1) ⟨{ (an (cz u i) i).k with ev:=[] },(an (cz u i) i).g⟩)) hx (gX _);have qe:Sl 135 1 r7 (l.length+(an (cz u i) i).k.ev.length) r8 (l.map cA++(an (cz u i) i).k.ev.map cA)=eD (r7,r8,l++(an (cz u i) i).k.ev):=by
   rw[eD,aI,cW]
  have hq:=(hk.pick (ah eD (es.eraseIdx i))).pick (Sl 135 1 r7 (l.length+(an (cz u i) i).k.ev.length) r8 (l.map cA++(an (cz u i) i).k.ev.map cA));rw[qe]at hq;have eQ:=U.kZ (f:=eD) (i:=i) (by omega) hq;refine⟨u.ps.length-(i+1),by omega,i+1,xs.set i (x,⟨{ (an (cz u i) i).k with ev:=[] },(an (cz u i) i).g⟩),es.set i (r7,r8,l++(an (cz u i) i).k.ev),⟨rfl,⟨by omega,by rw[bw];exact zK,by rw[bw];exact zL⟩,(OC hx).2.trans u4,?_,?_⟩,E.ab [0,5,31,32,33],?_⟩
  ·rw[jy,tD];rfl
  ·rw[jy,qY,← qZ];rfl
  ·rw[(OC hx).1];exact eQ.sub
 refine RT 3 E I ?_;obtain rfl:i=u.ps.length:=by omega
 refine⟨z,rfl,hz.1,hz.2,?_⟩;have dz:=(I.pick (ah (cB W p (c+1+u.ps.length)) xs)).sA (d:=c+10) (by omega);refine aN.vB (adL:=adL) (cL:=cL) (adE:=adE) (cE:=cE) (xs:=xs) (es:=es) ?_ u4 tD qY;rw[zK,zL,show (lz u).net=u.net from (rh u _).2.1];exact dz.sub
end
end
section
def m2 (p:Pr)(G:List (List UInt8))(f s:Nat):Prop:=f≤aU G∧(0<f→s=kU p G (f-1))
theorem m2.ext {p:Pr}{G G':List (List UInt8)}{f s:Nat}(h:m2 p G f s)(he:Ext G G')(h0:G≠[]):m2 p G' f s :=
 ⟨fG h.1 (he.front h0),λhf=>by rw[he.kU (by have:=h.1;omega)];exact h.2 hf⟩
theorem CD {p:Pr}{k:Ks}(hm:k.mr=(List.range k.mr.length).map (kU p k.ls)){f:Nat}(hf:f<k.mr.length):k.mr.getD f 0=kU p k.ls f:=by
 rw[hm,bl,bn,getElem?_range hf];rfl
theorem OF {p:Pr}{G:List (List UInt8)}{k:Ks}(hm:k.mr=(List.range k.mr.length).map (kU p k.ls))(hl:k.mr.length≤aU k.ls)(he:Ext k.ls G)
   (hw:∀ i,i<k.ps.length→m2 p G (au k i).frame (au k i).sum):held k:=λi hi ⟨_,h1,h2,h3⟩=>h3 (by
 rw[CD hm (by omega),← he.kU (p:=p) (f:=(au k i).frame-1) (by omega)];exact ((hw i hi).2 (by omega)).symm)
theorem OG {p:Pr}{G:List (List UInt8)}:∀ (n:Nat) {s:Pl},WP p s→Ext s.k.ls G→(∀ i,i<s.k.ps.length→m2 p G (au s.k i).frame (au s.k i).sum)→n≤aw s.k-s.k.mr.length →
   ∃ mr,(iD p n s).k={ s.k with mr:=mr }
 | 0,s,_,_,_,_=>⟨s.k.mr,rfl⟩
 | n+1,s,h,he,hw,hn=>by
  have h9:=h.wc.nF;have h8:=h.wc.lV;obtain⟨h1,h2,h3⟩:=h.one (by omega);have hg:e8 p s.k.mr.length (bJ s.k.ls s.k.mr.length) s.g=lW p s.k.ls (s.k.mr.length+1):=by rw[L1,h.sg]
  have hk:(ob p s).k={ s.k with mr:=s.k.mr++[kU p s.k.ls s.k.mr.length] }:=by
   show lU s.k _=_;rw[lU,ak (by omega),hg];refine held.lr (OF (p:=p) (G:=G) ?_ ?_ he hw)
   ·show s.k.mr++[_]=(List.range (s.k.mr++[_]).length).map (kU p s.k.ls);rw[aI,jD,range_succ,cW,← h.marks];rfl
   ·show (s.k.mr++[_]).length≤aU s.k.ls;rw[aI,jD];simp only[aw]at hn;omega
  obtain⟨mr,h4⟩:=OG n h1 (by rw[h2];exact he) (λi hi=>by rw[hk]at hi ⊢;exact hw i hi) (by rw[aw,h2,h3];simp only[aw]at hn;omega);exact⟨mr,by rw[iD,h4,hk]⟩
theorem HF {p:Pr}{G:List (List UInt8)}{s:Pl}(h:WP p s)(he:Ext s.k.ls G)(hw:∀ i,i<s.k.ps.length→m2 p G (au s.k i).frame (au s.k i).sum):∃ mr,(ez p s).k={ s.k with mr:=mr } :=
 OG _ h he hw (bf _)
structure gO (p:Pr)(G:List (List UInt8))(s:Pl):Prop where
 wf:cu p s
 ext:Ext s.k.ls G
 own:s.k.ls.getD s.k.me []=G.getD s.k.me []
 pe:∀ i,i<s.k.ps.length→(au s.k i).apart=false∧m2 p G (au s.k i).frame (au s.k i).sum
structure vC (p:Pr)(G:List (List UInt8))(q:Pk):Prop where
 may:hY q
 sum:q.sum<4294967296
 vD:q.kind=1→q.first.toNat+q.al.length≤(G.getD q.aV.toNat []).length∧q.al=((G.getD q.aV.toNat []).drop q.first.toNat).take q.al.length
 word:q.kind=1→m2 p G q.frame.toNat q.sum
theorem vC.ext {p:Pr}{G G':List (List UInt8)}{q:Pk}(h:vC p G q)(he:Ext G G')(h0:G≠[])(hq:q.aV.toNat<G.length):vC p G' q:=by
 refine⟨h.may,h.sum,λhk=>?_,λhk=>(h.word hk).ext he h0⟩;obtain⟨h1,h2⟩:=h.vD hk;obtain⟨t,ht⟩:=he.2 _ hq;rw[ht,aI];refine⟨by omega,?_⟩;rw[List.drop_append_of_le_length (by omega),List.take_append_of_le_length (by rw[c5];omega)];exact h2
section
variable {p:Pr}{G G':List (List UInt8)}{s:Pl}{b:UInt8}{q:Pk}
theorem gO.words (h:gO p G s):∀ i,i<s.k.ps.length→m2 p G (au s.k i).frame (au s.k i).sum:=λi hi=>(h.pe i hi).2
theorem gO.lens (h:gO p G s):G.length=s.k.n:=by rw[h.ext.1];exact h.wf.wc.ls
theorem gO.HG (h:gO p G s):G≠[]:=λe=>by
 have h1:=h.lens;have h2:=h.wf.wc.n;rw[e,length_nil]at h1;omega
theorem gO.more (h:gO p G s)(he:Ext G G')(ho:G'.getD s.k.me []=G.getD s.k.me []):gO p G' s :=
 ⟨h.wf,h.ext.trans he,h.own.trans ho.symm,λi hi=>⟨(h.pe i hi).1,(h.pe i hi).2.ext he h.HG⟩⟩
theorem gO.al (h:gO p G s)(h0:(dK p b s).1=0) :
   gO p (G.set s.k.me (G.getD s.k.me []++[b])) (dK p b s).2∧∃ mr,(dK p b s).2.k={ s.k with ls:=s.k.ls.set s.k.me (s.k.ls.getD s.k.me []++[b]),mr:=mr }:=by
 obtain⟨h1,h2,h3,h4⟩:=vb (k:=s.k) (b:=b) h0;have he:=vd b s.k;have lO:=h.wf.toWP.more (h.wf.wc.al b) (h.wf.held.al b) he.1 he.2;have eB:s.k.me<s.k.ls.length:=by rw[h.wf.wc.ls];exact h.wf.wc.me
 have OH:s.k.me<G.length:=by rw[h.ext.1];exact eB
 have iU:Ext G (G.set s.k.me (G.getD s.k.me []++[b])):=Ext.set;have hx:Ext (c1 b s.k).2.ls (G.set s.k.me (G.getD s.k.me []++[b])):=by
  rw[h4];refine⟨by simp only[bw];exact h.ext.1,λi hi=>?_⟩;simp only[bw]at hi;by_cases e:i=s.k.me
  ·subst e;refine⟨[],?_⟩;simp only;rw[bl,getElem?_set_self OH,bl (l:=s.k.ls.set _ _),getElem?_set_self eB,h.own];simp
  ·obtain⟨t,ht⟩:=h.ext.2 i hi;refine⟨t,?_⟩;simp only;rw[bl,getElem?_set_ne (λe2=>e e2.symm),bl (l:=s.k.ls.set _ _),getElem?_set_ne (λe2=>e e2.symm),← bl,← bl];exact ht
 have gH:(c1 b s.k).2.ps=s.k.ps:=by rw[h4]
 have An:∀ i,i<s.k.ps.length→m2 p (G.set s.k.me (G.getD s.k.me []++[b])) (au (c1 b s.k).2 i).frame (au (c1 b s.k).2 i).sum:=λi hi=>by
  have:=(h.words i hi).ext iU h.HG;rw[au,gH];exact this
 obtain⟨mr,hk⟩:=HF (s:=⟨(c1 b s.k).2,s.g⟩) lO hx (λi hi=>An i (by rw[← gH];exact hi));have b9:(dK p b s).2.k={ (c1 b s.k).2 with mr:=mr }:=hk;refine⟨⟨h.wf.al b,by rw[b9];exact hx,?_,λi hi=>?_⟩,mr,by rw[b9,h4]⟩
 ·rw[b9];show (c1 b s.k).2.ls.getD (c1 b s.k).2.me []=(G.set s.k.me (G.getD s.k.me []++[b])).getD (c1 b s.k).2.me [];rw[h4];simp only;rw[bl,getElem?_set_self eB,bl (l:=G.set _ _),getElem?_set_self OH,h.own]
 ·rw[b9]at hi ⊢;have dL:i<s.k.ps.length:=by rw[← gH];exact hi
  refine⟨?_,An i dL⟩;show (au (c1 b s.k).2 i).apart=false;rw[au,gH];exact (h.pe i dL).1
theorem OI (h:cu p s)(h0:(dK p b s).1≠0):(dK p b s).2=s:=by
 show ez p ⟨(c1 b s.k).2,s.g⟩=s;rw[vc h0];exact h.ez
theorem OJ {bs:List UInt8}(h:cu p s)(h0:(dB p bs s).1≠0):(dB p bs s).2=s:=by
 show ez p ⟨(dm bs s.k).2,s.g⟩=s;rw[w9 h0];exact h.ez
theorem acR {l t P:List UInt8}{f:Nat}(I:f+P.length≤(l++t).length)(hP:P=((l++t).drop f).take P.length):∃ u,l++t=du l f P++u:=by
 unfold du;split
 ·exact⟨t,rfl⟩
 ·rename_i hf;have h1:P.drop (l.length-f)=t.take (P.length-(l.length-f)):=by
   conv=>lhs;rw[hP]
   rw[List.drop_take,ky,show f+(l.length-f)=l.length from by omega,drop_left]
  rw[h1,List.take_take];exact⟨t.drop (min (1000-l.length) (P.length-(l.length-f))),by rw[dx,jY]⟩
theorem OK (h:cu p s)(hq:hY q)(I:q.sum<4294967296)(hc:s.k.cl=false)(ht:q.to=s.k.me)(hf:q.aV<s.k.n)(b6:q.id=s.k.id):dm (aS q) s.k=(0,fX s.k q):=by
 rw[dm,ag (by rw[hc];decide),K2 hq I];show (if _ then _ else _)=_;rw[ag];rintro (h | h | h)
 ·exact h ht
 ·omega
 ·exact h b6
theorem gO.y6 (h:gO p G s)(hq:vC p G q)(hc:s.k.cl=false)(ht:q.to=s.k.me)(hf:q.aV<s.k.n)(b6:q.id=s.k.id)(h1:q.kind=1) :
   gO p G (dB p (aS q) s).2∧(dB p (aS q) s).1=0∧∃ mr,(dB p (aS q) s).2.k={ s.k with ls:=s.k.ls.set q.aV.toNat (du (s.k.ls.getD q.aV.toNat []) q.first.toNat q.al),ps:=s.k.ps.set q.aV.toNat (fW s.k.now (aG s.k) q (au s.k q.aV.toNat)),mr:=mr }:=by
 have hr:=OK h.wf hq.may hq.sum hc ht hf b6;have fw:q.aV.toNat<s.k.n:=by have:=hq.may.1;omega
 have bD:q.aV.toNat≠s.k.me:=λe=>hq.may.2.2.1 (by have:=hq.may.1;have:=hq.may.2.1;omega);have aF:q.aV.toNat<s.k.ls.length:=by rw[h.wf.wc.ls];exact fw
 have sD:q.aV.toNat<s.k.ps.length:=by rw[h.wf.wc.ps];exact fw
 obtain⟨t,OL⟩:=h.ext.2 _ aF;obtain⟨oz,dz⟩:=hq.vD h1;rw[OL]at oz dz;obtain⟨u,hu⟩:=acR oz dz;have hx:Ext (s.k.ls.set q.aV.toNat (du (s.k.ls.getD q.aV.toNat []) q.first.toNat q.al)) G:=by
  refine⟨by rw[bw];exact h.ext.1,λi hi=>?_⟩;rw[bw]at hi;by_cases e:i=q.aV.toNat
  ·subst e;refine⟨u,?_⟩;rw[bl (l:=s.k.ls.set _ _),getElem?_set_self aF,OL];exact hu
  ·obtain⟨t2,GK⟩:=h.ext.2 i hi;refine⟨t2,?_⟩;rw[bl (l:=s.k.ls.set _ _),getElem?_set_ne (λe2=>e e2.symm),← bl];exact GK
 have OM:∀ i,i<s.k.ps.length→(if i=q.aV.toNat then fW s.k.now (aG s.k) q (au s.k q.aV.toNat) else au s.k i).apart=false∧m2 p G (if i=q.aV.toNat then fW s.k.now (aG s.k) q (au s.k q.aV.toNat) else au s.k i).frame (if i=q.aV.toNat then fW s.k.now (aG s.k) q (au s.k q.aV.toNat) else au s.k i).sum:=λi hi=>by
  by_cases e:i=q.aV.toNat
  ·rw[ak e];have h9:=h.pe _ sD;unfold fW;simp only;split
   ·exact⟨h9.1,hq.word h1⟩
   ·exact⟨h9.1,h9.2⟩
  ·rw[ag e];exact h.pe i hi
 have uJ:∀ i,i<s.k.ps.length→m2 p G (au ({ s.k with ls:=s.k.ls.set q.aV.toNat (du (s.k.ls.getD q.aV.toNat []) q.first.toNat q.al),ps:=s.k.ps.set q.aV.toNat (fW s.k.now (aG s.k) q (au s.k q.aV.toNat)) }:Ks) i).frame (au ({ s.k with ls:=s.k.ls.set q.aV.toNat (du (s.k.ls.getD q.aV.toNat []) q.first.toNat q.al),ps:=s.k.ps.set q.aV.toNat (fW s.k.now (aG s.k) q (au s.k q.aV.toNat)) }:Ks) i).sum:=λi hi=>by
  rw[au,w8 sD];exact (OM i hi).2
 have hh:fX s.k q={ s.k with ls:=s.k.ls.set q.aV.toNat (du (s.k.ls.getD q.aV.toNat []) q.first.toNat q.al),ps:=s.k.ps.set q.aV.toNat (fW s.k.now (aG s.k) q (au s.k q.aV.toNat)) }:=by
  rw[fX,ag (by omega)];refine held.lr (OF (p:=p) (G:=G) ?_ ?_ hx (λi hi=>uJ i (by simpa using hi)))
  ·have e5:=(sh (aS q) s.k).2;rw[hr]at e5;have h5:=FV (k:=s.k) (p:=q);rw[fX,ag (by omega)]at h5;obtain⟨ps,ev,h6,_⟩:=w7 { s.k with ls:=s.k.ls.set q.aV.toNat (du (s.k.ls.getD q.aV.toNat []) q.first.toNat q.al),ps:=s.k.ps.set q.aV.toNat (fW s.k.now (aG s.k) q (au s.k q.aV.toNat)) };rw[h6]at h5;have h7:Ext s.k.ls (s.k.ls.set q.aV.toNat (du (s.k.ls.getD q.aV.toNat []) q.first.toNat q.al)):=h5.2;show s.k.mr=_
   conv=>lhs;rw[h.wf.marks]
   refine List.map_congr_left λi hi=>?_;rw[mem_range]at hi;have hl:=h.wf.low;simp only[aw]at hl;rw[h7.kU (by omega)]
  ·have h5:=(FV (k:=s.k) (p:=q)).2;rw[fX,ag (by omega)]at h5;obtain⟨ps,ev,h6,_⟩:=w7 { s.k with ls:=s.k.ls.set q.aV.toNat (du (s.k.ls.getD q.aV.toNat []) q.first.toNat q.al),ps:=s.k.ps.set q.aV.toNat (fW s.k.now (aG s.k) q (au s.k q.aV.toNat)) };rw[h6]at h5;have h7:Ext s.k.ls (s.k.ls.set q.aV.toNat (du (s.k.ls.getD q.aV.toNat []) q.first.toNat q.al)):=h5;exact fG h.wf.low (h7.front h.wf.wc.lu)
 have he:=sh (aS q) s.k;have lO:=h.wf.toWP.more (h.wf.wc.recv (aS q)).1 ((h.wf.wc.recv (aS q)).2 h.wf.held) he.1 he.2;have fV:(dm (aS q) s.k).2=fX s.k q:=by rw[hr]
 obtain⟨mr,hk⟩:=HF (G:=G) (s:=⟨(dm (aS q) s.k).2,s.g⟩) lO (by show Ext (dm (aS q) s.k).2.ls G;rw[fV,hh];exact hx) (λi hi=>by
  change i<(dm (aS q) s.k).2.ps.length at hi;show m2 p G (au (dm (aS q) s.k).2 i).frame (au (dm (aS q) s.k).2 i).sum;rw[fV,hh]at hi ⊢;exact uJ i (by simpa using hi))
 have b9:(dB p (aS q) s).2.k={ fX s.k q with mr:=mr }:=by
  have:(dB p (aS q) s).2.k={ (dm (aS q) s.k).2 with mr:=mr }:=hk;rw[this,fV]
 rw[hh]at b9;refine⟨⟨h.wf.recv _,by rw[b9];exact hx,?_,λi hi=>?_⟩,by show (dm (aS q) s.k).1=0;rw[hr],mr,b9⟩
 ·rw[b9];show (s.k.ls.set q.aV.toNat _).getD s.k.me []=_;rw[bl (l:=s.k.ls.set _ _),getElem?_set_ne bD,← bl];exact h.own
 ·rw[b9]at hi ⊢;have dL:i<s.k.ps.length:=by simpa using hi
  have:=OM i dL;rw[au,w8 sD];exact this
theorem gO.bye (h:gO p G s)(hq:vC p G q)(hc:s.k.cl=false)(ht:q.to=s.k.me)(hf:q.aV<s.k.n)(b6:q.id=s.k.id)(h1:q.kind=2) :
   gO p G (dB p (aS q) s).2∧(dB p (aS q) s).1=0∧(dB p (aS q) s).2.k={ s.k with ps:=s.k.ps.set q.aV.toNat { au s.k q.aV.toNat with heard:=s.k.now },ev:=s.k.ev++[(1,q.aV.toNat,0)],cl:=true }:=by
 have hr:=OK h.wf hq.may hq.sum hc ht hf b6;have fw:q.aV.toNat<s.k.n:=by have:=hq.may.1;omega
 have sD:q.aV.toNat<s.k.ps.length:=by rw[h.wf.wc.ps];exact fw
 have hh:fX s.k q={ s.k with ps:=s.k.ps.set q.aV.toNat { au s.k q.aV.toNat with heard:=s.k.now },ev:=s.k.ev++[(1,q.aV.toNat,0)],cl:=true }:=by
  rw[fX,ak h1]
 have As:=h.wf.with (k':=fX s.k q) (by have:=(h.wf.wc.recv (aS q)).1;rw[hr]at this;exact this) (by have:=(h.wf.wc.recv (aS q)).2 h.wf.held;rw[hr]at this;exact this) (by rw[hh]) (by rw[hh]);have hk:(dB p (aS q) s).2=⟨fX s.k q,s.g⟩:=by
  show ez p ⟨(dm (aS q) s.k).2,s.g⟩=_;rw[hr];exact As.ez
 refine⟨⟨by rw[hk];exact As,by rw[hk,hh];exact h.ext,by rw[hk,hh];exact h.own,λi hi=>?_⟩,by show (dm (aS q) s.k).1=0;rw[hr],by rw[hk,hh]⟩;rw[hk,hh]at hi ⊢;have dL:i<s.k.ps.length:=by simpa using hi
 rw[au,w8 sD];by_cases e:i=q.aV.toNat
 ·rw[ak e];exact h.pe _ sD
 ·rw[ag e];exact h.pe i dL
theorem gO.zx (h:gO p G s){i:Nat}(hi:i<s.k.n)(bD:i≠s.k.me)(hh:(au s.k i).has≤aG s.k):vC p G (dO s.k i):=by
 have sE:=h.wf.wc;have hn:=sE.n;have eB:=sE.me;have b6:=sE.id;have iC:=sE.qa hi;have gW:=sE.lV;have vT:=sE.mq hi;have Mi:=sE.mr;have e1:(dO s.k i).aV.toNat=s.k.me:=c6 _;have e2:(dO s.k i).first.toNat=(au s.k i).has:=c6 _;have e3:(dO s.k i).frame.toNat=s.k.mr.length:=c6 _;have Aw:=h.own;have mm:s.k.mr.getLastD 0<4294967296:=by
  rw[getLastD_eq_getLast?];cases hl:s.k.mr.getLast? with
  | none=>simp
  | some x=>simpa using sE.sf x (List.mem_of_getLast? hl)
 refine⟨?_,mm,λ_=>?_,λ_=>?_⟩
 ·refine⟨⟨?_,?_⟩,⟨?_,?_⟩,?_,?_,.inl ⟨rfl,⟨?_,?_⟩,⟨?_,?_⟩,⟨?_,?_⟩,?_⟩⟩
  all_goals first | (simp only[dO];omega) | skip
  ·show (((s.k.ls.getD s.k.me []).drop (au s.k i).has).take 32).length≤32;rw[et];omega
 ·rw[e1,e2,← Aw];show _+(((s.k.ls.getD s.k.me []).drop (au s.k i).has).take 32).length≤_∧((s.k.ls.getD s.k.me []).drop (au s.k i).has).take 32=((s.k.ls.getD s.k.me []).drop _).take (((s.k.ls.getD s.k.me []).drop (au s.k i).has).take 32).length;rw[et,c5];simp only[aG]at hh;refine⟨by omega,?_⟩;rw[List.take_eq_take_iff,c5];omega
 ·rw[e3];have ed:s.k.mr.length=aU s.k.ls:=h.wf.full;refine⟨by rw[ed];exact h.ext.front sE.lu,λh0=>?_⟩;have uI:s.k.mr.getLastD 0=s.k.mr.getD (s.k.mr.length-1) 0:=by
   rw[getLastD_eq_getLast?,List.getLast?_eq_getElem?,bl]
  show s.k.mr.getLastD 0=_;rw[uI,CD h.wf.marks (by omega),h.ext.kU (by omega)]
theorem gO.agree {s2:Pl}(h:gO p G s)(h2:gO p G s2){f:Nat}(h1:f<aw s.k)(h3:f<aw s2.k):bJ s.k.ls f=bJ s2.k.ls f∧s.k.mr.getD f 0=s2.k.mr.getD f 0:=by
 have Nx:=h.wf.full;have Ai:=h2.wf.full;refine⟨(h.ext.FU h1).symm.trans (h2.ext.FU h3),?_⟩;rw[CD h.wf.marks (by omega),CD h2.wf.marks (by omega),← h.ext.kU h1,← h2.ext.kU h3]
theorem gO.tick (h:gO p G s):gO p G ⟨(bt s.k).2,s.g⟩:=by
 have h1:=BI s.k;have h2:(bt s.k).2.me=s.k.me∧(bt s.k).2.ps=s.k.ps:=by
  rcases xd s.k with e | ⟨_,e | ⟨i,_,e⟩⟩ <;> rw[e] <;> exact⟨rfl,rfl⟩
 refine⟨h.wf.tick,by show Ext (bt s.k).2.ls G;rw[h1.2];exact h.ext,?_,λi hi=>?_⟩
 ·show (bt s.k).2.ls.getD (bt s.k).2.me []=G.getD (bt s.k).2.me [];rw[h1.2,h2.1];exact h.own
 ·change i<(bt s.k).2.ps.length at hi;rw[h2.2]at hi;show (au (bt s.k).2 i).apart=false∧m2 p G (au (bt s.k).2 i).frame (au (bt s.k).2 i).sum;rw[au,h2.2];exact h.pe i hi
end
end
end Go.Proofs.YteoldcfapaiobaaGreat
