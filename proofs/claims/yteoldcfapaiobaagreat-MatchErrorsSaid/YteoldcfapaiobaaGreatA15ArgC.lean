/- A configuration and a way to guess that came in as arguments; quintainlaw5.Cut, quintainref21.MayAll. -/
import Derived.Test.YteoldcfapaiobaaGreatA06Ref
import Derived.Test.YteoldcfapaiobaaGreatA13RefC
import Derived.Test.YteoldcfapaiobaaGreatA11Rank
import Derived.Test.YteoldcfapaiobaaGreatA14RefG
import Derived.Test.YteoldcfapaiobaaGreatA12Mul
import Derived.Test.YteoldcfapaiobaaGreatA09CoQ
namespace Go.Proofs.YteoldcfapaiobaaGreat
open Tryz
open List (mem_cons_self length_range drop_drop drop_left take_zero nil_append length_nil mem_range getElem?_range ext_getElem getElem_map eraseIdx_eq_take_drop_succ take_length getElem_mem map_take map_drop range_succ getElem?_set_ne getElem?_set_self set_getElem_self length_filter_le getLastD_eq_getLast?)
open Go.RowKit
set_option linter.unusedVariables false
set_option linter.unusedSimpArgs false
set_option maxRecDepth 10000
set_option synthInstance.maxSize 4000
set_option synthInstance.maxHeartbeats 400000
section
open Go.RowKit Go.ChangeShapes Go.WideShapes Go.ChangeAt
set_option linter.constructorNameAsVariable false
set_option maxRecDepth 100000
section
variable {W w:World}{L:List SP}{n cP cT:Nat}{adP adT:Option Addr}{p:Pr}{tb:List UInt8}{cf:Cf}
def nx (cf:Cf)(p:Pr)(tb:List UInt8):Prop:=fg cf∧dj p∧c1 ⟨cf.ba,cf.order,tb⟩
theorem aaT (I:V W w (aA W p adP cP::L))(hn:tb.length=n)(aE:p.title.size≤1000000000)(dX:p.ops.length≤1000000000)(eL:tb.length≤1099511627776)(hT:∀ w',V W w' (aA W p adP cP::L)→a6 w' adT tb.length tb) :
   Calls prog 60 #[.agg (b7 cf).toArray,.agg (bJ p adP cP).toArray,.slice adT n cT] w λr w'=>(nx cf p tb∧∃ B:iO,r=.returned (.tuple #[pt B.pb,.int .i64 0])∧B.gs=⟨cf.ba,cf.order,tb⟩∧V W w' (aM W B p (ez p cf)::aA W p adP cP::L)) ∨
    (¬ nx cf p tb∧r=.returned (.tuple #[.pointer none,.int .i64 1])∧V W w' (aA W p adP cP::L)):=by
 subst hn;by_cases h1:fg cf
 ·obtain⟨n,me,aH,bo,df⟩:=Lf h1;generalize hg:cf.ba=ba at df;generalize ho:cf.order=order at df;by_cases h2:dj p∧c1 ⟨ba,order,tb⟩
  ·have gn:nx cf p tb:=⟨h1,h2.1,by rw[hg,ho];exact h2.2⟩;rw[df]at h1 gn ⊢;exact (Lg (adT:=adT) (cT:=cT) I h1 h2.1 h2.2 aE dX eL hT).mono λr w' ⟨B,h3,h4,h5⟩=>.inl ⟨gn,B,h3,h4,h5⟩
  ·have gn:¬ nx cf p tb:=λh=>h2 ⟨h.2.1,by have:=h.2.2;rw[hg,ho]at this;exact this⟩;rw[df]at h1 gn ⊢;exact (YL (adT:=adT) (cT:=cT) I h1 h2 aE dX eL hT).mono λr w' ⟨h3,h4⟩=>.inr ⟨gn,h3,h4⟩
 ·exact (YK (adT:=adT) (cT:=cT) I h1 eL hT).mono λr w' ⟨h3,h4⟩=>.inr ⟨λh=>h1 h.1,h3,h4⟩
end
end
section
def fj (W:World)(M:jg)(p:Pr)(cf:Cf)(i:Nat)(s:Pl):SP:=λh=>∃ m:Mu,(m.s=s∧MI p M (20*i+1) m∧e4 s.k=cf)∧aD W M p m h
section
variable {W w:World}{L:List SP}{n c i N cP cT:Nat}{adP adT:Option Addr}{M:jg}{x:UInt8}{p:Pr}{s:Pl}{m:Mu}{bs tb:List UInt8}{cf:Cf}{y:Int}
theorem fj.open (I:V W w (fj W M p cf i s::L)):∃ m:Mu,(m.s=s∧MI p M (20*i+1) m∧e4 s.k=cf)∧V W w (aD W M p m::L):=I.jj λ_ h=>h
theorem fj.close (I:V W w (aD W M p m::L))(h:MI p M N m)(hN:N≤20*i+1)(hm:m.s=s)(hc:e4 s.k=cf):V W w (fj W M p cf i s::L) :=
 V.shut (M:=x6 W M p m) (aD.open I) λ_ q=>⟨m,⟨hm,h.more hN,hc⟩,q⟩
theorem aaU (aZ:dj p)(aE:p.title.size≤1000000000):AI W 78 ⟨M.mb,0,none⟩ 267 269 270 268 266 264 265 101 p M.B.gs (fj W M p cf) where
 FA:=λad w=>by kernel_rfl
 cP:=(by kernel_rfl)
 FB:=λad w=>by kernel_rfl
 FC:=(by kernel_rfl)
 FD:=λad w=>by kernel_rfl
 cT:=(by kernel_rfl)
 FE:=λad w=>by kernel_rfl
 FF:=(by kernel_rfl)
 FG:=λad w=>by kernel_rfl
 cE:=(by kernel_rfl)
 AJ:=λad w=>by kernel_rfl
 AK:=(by kernel_rfl)
 FH:=λad w=>by kernel_rfl
 FI:=(by kernel_rfl)
 FJ:=λad w=>by kernel_rfl
 FK:=(by kernel_rfl)
 ak:=λw L i s x hi hw I=>by
  replace I:=fj.open I;obtain⟨m,⟨rfl,hI,hc⟩,I⟩:=I;exact (ZC (x:=x) I hI aZ aE (by omega)).mono λr w' ⟨m',h1,⟨h2,h3,_⟩,I⟩=>⟨h1,fj.close I h3 (by omega) h2 ((lg.ak hI.wf x).cf.trans hc)⟩
 recv:=λw L i s bs a c hi hw hb hc hp I=>by
  replace I:=fj.open I;obtain⟨m,⟨rfl,hI,df⟩,I⟩:=I;exact (ZD I hI aZ aE (by omega) hb hc hp).mono λr w' ⟨m',h1,⟨h2,h3⟩,I⟩=>⟨h1,fj.close I h3 (by omega) h2 ((lg.recv hI.wf bs).cf.trans df)⟩
 tick:=λw L i s hi hw hn I=>by
  replace I:=fj.open I;obtain⟨m,⟨rfl,hI,hc⟩,I⟩:=I;exact (ZE I hI hn).mono λr w' ⟨a,c,h1,h2,I⟩=>⟨a,c,h1,(fj.close (I.perm (List.Perm.swap _ _ _)) h2 (by omega) rfl ((Fg _).trans hc)).perm (List.Perm.swap _ _ _)⟩
 ob:=λw L i s hi hw I=>by
  replace I:=fj.open I;obtain⟨m,⟨rfl,hI,hc⟩,I⟩:=I;exact (ZF I hI).mono λr w' ⟨a,c,h1,h2,I⟩=>⟨a,c,h1,(fj.close (I.perm (List.Perm.swap _ _ _)) h2 (by omega) rfl ((Fh _).trans hc)).perm (List.Perm.swap _ _ _)⟩
 events:=λw L i s hi hw I=>by
  replace I:=fj.open I;obtain⟨m,⟨rfl,hI,hc⟩,I⟩:=I;exact (ZG I hI).mono λr w' ⟨a,c,h1,h2,I⟩=>⟨a,c,h1,(fj.close (I.perm (List.Perm.swap _ _ _)) h2 (by omega) rfl hc).perm (List.Perm.swap _ _ _)⟩
 AM:=λw L i s hi hw I=>by
  replace I:=fj.open I;obtain⟨m,⟨rfl,hI,hc⟩,I⟩:=I;exact (ZH I hI).mono λr w' ⟨a,c,h1,I⟩=>⟨a,c,h1,(fj.close (I.perm (List.Perm.swap _ _ _)) hI (bh _) rfl hc).perm (List.Perm.swap _ _ _)⟩
 FL:=λw L i s hi hw I=>by
  replace I:=fj.open I;obtain⟨m,⟨rfl,hI,hc⟩,I⟩:=I;exact (aaN I hI aZ aE).mono λr w' ⟨a,c,h1,I⟩=>⟨a,c,h1,(fj.close (I.perm (List.Perm.swap _ _ _)) hI (bh _) rfl hc).perm (List.Perm.swap _ _ _)⟩
 closed:=λw L i s hi hw I=>by
  replace I:=fj.open I;obtain⟨m,⟨rfl,hI,hc⟩,I⟩:=I;exact (x7 I).mono λr w' ⟨h1,I⟩=>⟨h1,fj.close I hI (bh _) rfl hc⟩
theorem aaV (I:V W w (fj W M p cf i s::L))(aZ:dj p)(aE:p.title.size≤1000000000)(hi:i≤1000000) :
   Calls prog 62 #[pt M.mb,.int .i64 y] w λe w'=>∃ z:Bool,e=.returned (.bool z)∧(z=true→s.k.cl=false∧0≤y∧y<s.k.workers)∧V W w' (fj W M p cf (i+1) s::L):=by
 replace I:=fj.open I;obtain⟨m,⟨rfl,hI,hc⟩,I⟩:=I;have h4:=hI.ks;by_cases hn:m.s.k.cl=true∨y<0∨(m.ks.length:Int)≤y
 ·exact (ZI I hn h4).mono λe w' ⟨h1,I⟩=>⟨false,h1,λh=>(by cases h),fj.close I hI (by omega) rfl hc⟩
 ·have cd : m.s.k.cl = false := by
   cases h:m.s.k.cl with
   | false=>rfl
   | true=>exact absurd (.inl h) hn
  have hy:0≤y∧y<(m.ks.length:Int):=⟨by
   rcases Int.lt_or_le y 0 with h | h
   ·exact absurd (.inr (.inl h)) hn
   ·exact h,by
   rcases Int.lt_or_le y (m.ks.length:Int) with h | h
   ·exact h
   ·exact absurd (.inr (.inr h)) hn⟩
  obtain⟨j,rfl⟩:=Int.eq_ofNat_of_zero_le hy.1;obtain⟨⟨k,wb⟩,hk⟩:∃ z,m.ks[j]?=some z:=⟨_,aO (by omega)⟩;exact (ZK I hI cd hk aZ aE (by omega)).mono λe w' ⟨z,A',T',J',k',h1,⟨_,h2⟩,I⟩=>⟨z,h1,λ_=>⟨cd,hy.1,by rw[hI.workers];exact hy.2⟩,fj.close I h2 (by omega) rfl hc⟩
theorem aaW (h:fg cf):∃ n me aH bo nb nw rm:Nat,cf=⟨n,me,cf.id,aH,bo,cf.ba,cf.order,nb,nw,rm⟩:=by
 obtain⟨n,me,id,aH,bo,ba,order,cr,workers,room⟩:=cf;simp only[fg,fv]at h;obtain⟨⟨h1,h2,h3⟩,⟨h4,h5,h6,h7⟩,h8,h9,fF,mH⟩:=h;exact⟨n.toNat,me.toNat,aH.toNat,bo.toNat,cr.toNat,workers.toNat,room.toNat,by
  simp only[Cf.mk.injEq];refine⟨?_,?_,?_,?_,?_,?_,?_,?_,?_,?_⟩ <;> first | trivial | omega⟩
theorem aaX (h:fg cf):e4 (ez p cf).k=cf:=by
 obtain⟨ps,ev,mr,hk⟩:∃ ps ev mr,(ez p cf).k={ fh cf with ps:=ps,ev:=ev,mr:=mr }:=(vM (p:=p) (c:=cf) h).ey.2.2;rw[hk];exact (WC.new h).2.2
theorem aaY (gn:nx cf p tb)(I:V W w (aA W p adP cP::L))(hn:tb.length=n)(aE:p.title.size≤1000000000)(dX:p.ops.length≤1000000000)(eL:tb.length≤1099511627776)(hT:∀ w',V W w' (aA W p adP cP::L)→a6 w' adT tb.length tb) :
   Calls prog 59 #[.agg (b7 cf).toArray,.agg (bJ p adP cP).toArray,.slice adT n cT] w λr w'=>∃ M:jg,r=.returned (.tuple #[pt M.mb,.int .i64 0])∧M.B.gs=⟨cf.ba,cf.order,tb⟩∧V W w' (fj W M p cf 0 (ez p cf)::aA W p adP cP::L):=by
 subst hn;obtain⟨h1,h2,h3⟩:=gn;have MB:=aaX (p:=p) h1;obtain⟨n,me,aH,bo,nb,nw,rm,df⟩:=aaW h1;generalize cf.ba=ba at df h3 ⊢;generalize cf.order=order at df h3 ⊢;generalize cf.id=id at df;rw[df]at h1 MB ⊢;exact (aaR (adT:=adT) (cT:=cT) I h1 h2 h3 aE dX eL hT).mono λr w' ⟨M,m,h4,⟨h5,h6,h7,_⟩,I⟩=>⟨M,h4,h5,fj.close I h7 (by omega) h6 MB⟩
theorem aaZ (hm:fg cf)(I:V W w (aA W p adP cP::L))(hn:tb.length=n)(aZ:dj p)(aE:p.title.size≤1000000000) :
   Calls prog 46 #[.agg (b7 cf).toArray,.agg (bJ p adP cP).toArray,.slice adT n cT] w λr w'=>∃ B:fT,r=.returned (pt B.pb)∧(B.gs=⟨cf.ba,cf.order,tb⟩∧B.adT=adT)∧V W w' (bT W B p (ez p cf)::L):=by
 subst hn;obtain⟨n,me,aH,bo,df⟩:=Lf hm;generalize cf.ba=ba at df ⊢;generalize cf.order=order at df ⊢;rw[df]at hm ⊢;exact aal I hm aZ aE
end
end
section
theorem Sn.aa0 (A:Sn):A.used≤A.room:=by
 have:=List.countP_le_length (p:=λp=>decide (0<cQ A.ar p)) (l:=List.range A.room);rw[length_range]at this;exact this
theorem MC {p:Nat}:∀ (l:List aC),(∀ x∈l,∀ k,k<4→x.p k≠p)→cQ l p=0
 | [],_=>rfl
 | x::l,h=>by
  rw[rY,Ca (h x (mem_cons_self ..)),MC l λy hy=>h y (gP _ hy)]
theorem MD {A:Sn}{p:Nat}(h:∀ x∈A.ar,∀ k,k<4→x.p k<A.room)(hp:A.room≤p):cQ A.ar p=0 :=
 MC _ λx hx k hk e=>by have:=h x hx k hk;omega
def uA (l:List aC)(m:Nat):Nat:=(List.range m).countP λp=>decide (0<cQ l p)
theorem ME (l:List aC)(m:Nat):uA l (m+1)=uA l m+if 0<cQ l m then 1 else 0:=by
 rw[uA,range_succ,List.countP_append,List.countP_singleton,uA];by_cases h:0<cQ l m <;> simp[h]
theorem aa1 (l:List aC)(m:Nat):uA l m≤m:=by
 have:=List.countP_le_length (p:=λp=>decide (0<cQ l p)) (l:=List.range m);rw[length_range]at this;exact this
theorem aa2 {A:Sn}(h:∀ x∈A.ar,∀ k,k<4→x.p k<A.room){m:Nat}(hm:A.room≤m):uA A.ar m=A.used:=by
 induction m with
 | zero=>rw[Sn.used,show A.room=0 from by omega];rfl
 | succ m ih =>
  rcases Nat.lt_or_ge m A.room with h1 | h1
  ·rw[Sn.used,show A.room=m+1 from by omega];rfl
  ·rw[ME,ih h1,MD h h1];rfl
def pA (l:List aC)(j:Nat):Int:=if j=0 then 0 else (cQ l (j-1):Nat)
def ny (l:List aC)(x:aC)(k j:Nat):Int:=if j=0 then 0 else ((cQ l (j-1)+iI x (j-1) k:Nat):Int)
theorem aa3:pA []=λ_=>0:=by
 funext j;unfold pA;split <;> rfl
theorem aa4 (l:List aC)(x:aC):ny l x 0=pA l:=by
 funext j;unfold ny pA;simp[y1]
theorem aa5 {l:List aC}{i:Nat}{x:aC}(h:l[i]?=some x):ny (l.take i) x 4=pA (l.take (i+1)):=by
 obtain⟨hi,rfl⟩:=a1.1 h
 funext j
 unfold ny pA;rw[iU hi,wR,rY,Cb];rfl
theorem aa6 (l:List aC)(x:aC)(k:Nat):(λj=>if j=x.p k+1 then ny l x k (x.p k+1)+1 else ny l x k j)=ny l x (k+1):=by
 funext j
 by_cases h:j=x.p k+1
 ·subst h;rw[al rfl];simp only[ny,ae (Nat.succ_ne_zero _),Nat.add_sub_cancel];rw[kv,al rfl];omega
 ·rw[ae h];unfold ny;split
  ·rfl
  ·rw[kv,ae (by omega)];simp
theorem aa7 (l:List aC)(x:aC)(k j:Nat)(hk:k≤4):0≤ny l x k j∧ny l x k j≤4*l.length+4:=by
 unfold ny;have h1:=Cd l (j-1);have h2:=rW x (j-1) hk;have h3:=HM x (j-1);have h4:iI x (j-1) 4=g7 x (j-1):=rfl;split <;> omega
theorem aa8 (l:List aC)(p:Nat):pA l (p+1)=(cQ l p:Nat):=by simp[pA]
section
variable {W w:World}{L:List SP}{q b i r:Nat}{ps:List Pg}{A:Sn}
theorem aa9 (I:V W w (Room q b ps::L))(hn:∀ h:i<ps.length,ps[i].refs=0)(hi:i<1000) :
   Calls prog 122 #[pt q,.int .i64 ((i:Int)+1)] w λe w'=>e=.returned (.pointer none)∧V W w' (Room q b ps::L):=by
 obtain⟨hp,I⟩:=Room.open I;by_cases aJ:i<ps.length
 ·have hr:=hn aJ;refine EN func122 ntmps122 rfl rfl λa E=>?_;refine RN 7 E I λa E=>?_;replace E:=E.aN 7;refine RN 4 E I λa E=>?_;rw[bq (by omega)]at E;refine RN 9 E I λa E=>?_;rw[bq (by omega)]at E;refine RN 6 E I λa E=>?_;rw[show (i:Int)+1-1=(i:Int) from by omega]at E;refine RN 2 E I λa E=>?_;refine bz E (cW E rfl (s:=20)) (ag E (I.bu (rS aJ))) rfl λa E=>?_;refine RN 2 E I λa E=>?_;rw[dd (by omega)]at E;refine RT 3 E I ?_;exact⟨rfl,(Room.close (n:=_) I rfl hp)⟩
 ·
   refine EN func122 ntmps122 rfl rfl λa E=>?_;refine RN 7 E I λa E=>?_;replace E:=E.aN 7;refine RN 4 E I λa E=>?_;rw[bq (by omega)]at E;refine RN 9 E I λa E=>?_;rw[dd (by omega)]at E;refine RT 14 E I ?_;exact⟨rfl,(Room.close (n:=_) I rfl hp)⟩
theorem aba (I:V W w (Room q b ps::L))(hn:∀ h:i<ps.length,ps[i].refs=0)(hi:i<1000) :
   Calls prog 86 #[pt q,.int .i64 ((i:Int)+1)] w λe w'=>e=.returned (.int .i64 0)∧V W w' (Room q b ps::L):=by
 refine EN func86 ntmps86 rfl rfl λa E=>?_;refine CL 5 E I (aa9 I hn hi) λa w E I=>?_;refine RN 5 E I λa E=>?_;replace E:=E.eo 10;refine RT 3 E I ?_;exact⟨rfl,I⟩
theorem abb (I:V W w (aw q r A::L))(hi:i<1000) :
   Calls prog 86 #[pt r,.int .i64 ((i:Int)+1)] w λe w'=>e=.returned (.int .i64 (cQ A.ar i))∧V W w' (aw q r A::L):=by
 have hf:=(aw.facts I).2;obtain⟨b,m,ps,xs,h1,hw,hr,I⟩:=aw.open I;by_cases hl:∃ h:i<ps.length,0<ps[i].refs
 ·obtain⟨h3,h4⟩:=hl;refine (yS (I.pick (Room r b ps)) h3 h4).mono λe w' ⟨h2,I⟩=>?_;rw[hr.refs _ _ (aO h3)]at h2;exact⟨h2,aw.close (b:=b) (m:=m) (ps:=ps) I h1 hw hr⟩
 ·have hn : ∀ h : i < ps.length, ps[i].refs = 0 := fun h => by
   rcases Nat.eq_zero_or_pos ps[i].refs with h2 | h2
   ·exact h2
   ·exact absurd ⟨h,h2⟩ hl
  have h0:cQ A.ar i=0:=by
   by_cases h:i<ps.length
   ·rw[← hr.refs _ _ (aO h)];exact hn h
   ·exact MD hf (by rw[← hr.len];omega)
  refine (aba (I.pick (Room r b ps)) hn hi).mono λe w' ⟨h2,I⟩=>?_;rw[h0];exact⟨h2,aw.close (b:=b) (m:=m) (ps:=ps) I h1 hw hr⟩
end
end
section
theorem abc (k:IntKind)(m:Nat)(x:Int):List.replicate m (Value.int k x)=ints k m (λ_=>x):=by
 rw[ints,fn];exact (ext_getElem (by simp) (by simp))
section
variable {W w:World}{L:List SP}{N:Nat}{M:jg}{p:Pr}{m:Mu}{cf:Cf}{x:Int}
set_option maxHeartbeats 4000000 in
theorem abd (I:V W w (aD W M p m::L))(h:MI p M N m)(df:e4 m.s.k=cf) :
   Calls prog 56 #[pt M.mb,.agg (b7 cf).toArray] w λe w'=>e=.returned (.bool true)∧V W w' (aD W M p m::L):=by
 have EI:cf.cr=(m.T.most:Int):=by rw[← df];exact h.most
 have sJ:cf.workers=(m.ks.length:Int):=by rw[← df];exact h.workers
 have qL:(m.A.room:Int)=4*cf.room:=by rw[← df];exact h.room.1
 have n0:=h.ks;obtain⟨t,hI⟩:=h.inv;have hlen:=hI.len;have LY:(iX (m.ks.map (·.1))).length≤m.ks.length:=by
  have h1:=length_filter_le (λk:Wk=>k.busy) (m.ks.map (·.1));rw[bf]at h1;rw[iX,bf];exact h1
 clear df;replace I:=aD.open I;have kF:=(Tree.wt (I.tree M.tq)).most;have AS:=aw.facts (I.store M.sq);have qz:=aw.u0 (I.store M.sq);have hur:=Sn.aa0 m.A;have ld:=AS.1.room;obtain⟨s,A,T,J,ks,base,front⟩:=m;dsimp only at EI sJ qL n0 hlen LY kF AS qz hur ld I;have hO:=aa2 AS.2 (m:=200) ld;refine EN func56 ntmps56 rfl rfl λa E=>?_;refine BX 1 E I λb3 a w E I=>?_;change V W w (aa b3 28 (b7 cf)::_) at I;refine RN 3 E I λa E=>?_;replace I:=aD.fold I M p ⟨s,A,T,J,ks,base,front⟩;refine CL 0 E I (YT I) λa w E I=>?_;refine RN 3 E I λa E=>?_;replace I:=aD.open I;dsimp only at I;refine a2 0 E I (Tf (I.store M.sq)) λdZ yj a w E I=>?_;refine aY 3 (λw0 w'=>Rd w' b3 0 (b7 cf)) [5,25,26] [0,1,2,4,3003,1005,6,7,8,9,10,11,12,13,14,17,18,19,1015,1016,20,21,22,23,24,27,3028,29,1025,1026,30,31] E I λa w E I hH=>?_;have U:=hH.at w (I.ai (b:=b3));refine RH 4 E I hH U λa E=>?_;refine QH E (λw hc=>ag E (hc 7 _ rfl)) U λa E=>?_;refine RH 0 E I hH U λa E=>?_;refine SS E (ag E (U 8 _ rfl)) λa E=>?_;refine RH 4 E I hH U λa E=>?_;rw[bq (by omega)]at E;refine RH 4 E I hH U λa E=>?_;rw[dd (by omega)]at E;refine RH 4 E I hH U λa E=>?_;refine CL 0 E I (y8 (I.store M.sq)) λa w E I=>?_;refine CL 0 E I (Cl (I.store M.sq)) λa w E I=>?_;refine RN 4 E I λa E=>?_;rw[bq (by omega)]at E;refine RN 2 E I λa E=>?_;replace U:Rd w b3 0 (b7 cf):=I.ai (b:=b3);refine QH E (λw hc=>ag E (hc 9 _ rfl)) U λa E=>?_;refine CL 1 E I (y8 (I.store M.sq)) λa w E I=>?_;replace U:=hH.at w (I.ai (b:=b3));refine RH 0 E I hH U λa E=>?_;refine CL 0 E I (Cl (I.store M.sq)) λa w E I=>?_;replace U:=hH.at w (I.ai (b:=b3));refine RH 2 E I hH U λa E=>?_;rw[bq (by omega)]at E;refine AL 2 E I λdq a w E I=>?_;rw[abc]at I;refine RN 3 E I λa E=>?_;refine aS (λμ a w=>∃ (i:Nat),(μ=A.ar.length-i∧i≤A.ar.length)∧Fr a 120 [(0,pt M.mb),(3,pt b3),(5,pt M.sq),(6,.slice dZ A.ar.length yj),(7,pt dq),(8,.int .i64 i)]∧V W w (aa dq 164 (ints .i64 201 (pA (A.ar.take i)))::Sl 166 1 dZ A.ar.length yj (A.ar.map λx=>.int .i64 x.id)::aw M.sq M.r A::aa b3 28 (b7 cf)::aa M.mb 177 (dT p M ks.length base front)::aM W M.B p s::aA W p M.ao M.cO::Sl 179 1 M.dt ks.length M.dF (gK ks)::ah (e0 p M.ao M.cO M.tq M.jq M.sq) ks::Tree M.tq M.sq T::bC M.jq J::L)) (A.ar.length) (⟨0,⟨rfl,by omega⟩,E.ab [0,3,5,6,7,8],by rw[take_zero,aa3];exact I.sub⟩) ?_;clear E I;rintro μ a w ⟨i,⟨rfl,hi⟩,E,I⟩;refine IF 6 E I (λan a E=>?_) λan a E=>?_
 ·
  obtain⟨x,hx⟩:∃ x,A.ar[i]?=some x:=⟨_,aO (by omega)⟩;obtain⟨bv,MF,rfl,Az⟩:=(I.pick (Sl 166 1 dZ A.ar.length yj (A.ar.map λx=>.int .i64 x.id))).bY dZ (by omega);have yc:=Az i (.int .i64 x.id) (by rw[bn,hx];rfl);have zb:=AS.2 x (bE hx);have bM:=aa5 hx;have eL:(A.ar.take i).length≤200:=by rw[en];omega
  clear Az;refine RN 6 E I λa E=>?_;refine SS E (ag E (yc)) λa E=>?_;refine a2 0 E I (HZ (I.store M.sq) hx) λc0 dQ a w E I=>?_;refine RN 6 E I λa E=>?_;replace E:=E.aN 63;refine RN 3 E I λa E=>?_;refine aS (λμ a w=>∃ (k:Nat),(μ=4-k∧k≤4)∧Fr a 120 [(0,pt M.mb),(3,pt b3),(5,pt M.sq),(6,.slice (some ⟨bv,MF,none⟩) A.ar.length yj),(7,pt dq),(8,.int .i64 i),(9,.slice c0 4 dQ),(10,.int .i64 k)]∧V W w (aa dq 164 (ints .i64 201 (ny (A.ar.take i) x k))::Sl 3 1 c0 4 dQ (ints .i64 4 (λk=>(x.p k:Int)+1))::Sl 166 1 (some ⟨bv,MF,none⟩) A.ar.length yj (A.ar.map λx=>.int .i64 x.id)::aw M.sq M.r A::aa b3 28 (b7 cf)::aa M.mb 177 (dT p M ks.length base front)::aM W M.B p s::aA W p M.ao M.cO::Sl 179 1 M.dt ks.length M.dF (gK ks)::ah (e0 p M.ao M.cO M.tq M.jq M.sq) ks::Tree M.tq M.sq T::bC M.jq J::L)) (4) (⟨0,⟨rfl,by omega⟩,E.ab [0,3,5,6,7,8,9,10],by rw[aa4];exact I.sub⟩) ?_;clear E I;rintro μ a w ⟨k,⟨rfl,hk⟩,E,I⟩;refine IF 4 E I (λbg a E=>?_) λbg a E=>?_
  ·
   obtain⟨bp,op,rfl,fc⟩:=(I.pick (Sl 3 1 c0 4 dQ (ints .i64 4 (λk=>(x.p k:Int)+1)))).bY c0 (by omega);have ua:=fc k _ (fO _ (by omega));have eE:=zb k (by omega);have KW:=aa7 (A.ar.take i) x k (x.p k+1) (by omega);clear fc;refine RN 6 E I λa E=>?_;refine SS E (ag E (ua)) λa E=>?_;refine RN 2 E I λa E=>?_;rw[bq (by omega)]at E;refine RN 3 E I λa E=>?_;refine bz E (cW E rfl (s:=73)) (ag E (ua)) rfl λa E=>?_;refine RN 2 E I λa E=>?_;rw[bq (by omega)]at E;refine RN 4 E I λa E=>?_;refine SS E (ag E (ua)) λa E=>?_;rw[show ((x.p k:Nat):Int)+1=((x.p k+1:Nat):Int) from rfl]at E;refine RN 1 E I λa E=>?_;refine SS E (ag E (I.bu (fO _ (by omega)))) λa E=>?_;refine ST 2 E I (λa w E I=>?_) (hlt:=(by rw[di];omega));rw[ints_set,aa6]at I;refine RN 3 E I λa E=>?_;exact⟨4-(k+1),by omega,k+1,⟨rfl,by omega⟩,E.ab [0,3,5,6,7,8,9,10],I.sub⟩
  refine RN 3 E I λa E=>?_;obtain rfl:k=4:=by omega
  rw[bM]at I;exact⟨A.ar.length-(i+1),by omega,i+1,⟨rfl,by omega⟩,E.ab [0,3,5,6,7,8],I.sub⟩
 obtain rfl:i=A.ar.length:=by omega
 rw[take_length]at I;refine RN 5 E I λa E=>?_;refine aS (λμ a w=>∃ (q:Nat),(μ=200-q∧q≤200)∧Fr a 120 [(0,pt M.mb),(3,pt b3),(5,pt M.sq),(7,pt dq),(11,.int .i64 (uA A.ar q:Nat)),(12,.int .i64 ((q:Int)+1))]∧V W w (aw M.sq M.r A::aa dq 164 (ints .i64 201 (pA A.ar))::aa b3 28 (b7 cf)::aa M.mb 177 (dT p M ks.length base front)::aM W M.B p s::aA W p M.ao M.cO::Sl 179 1 M.dt ks.length M.dF (gK ks)::ah (e0 p M.ao M.cO M.tq M.jq M.sq) ks::Tree M.tq M.sq T::bC M.jq J::L)) (200) (⟨0,⟨rfl,by omega⟩,by have h9:=E.ab [0,3,5,7,11,12];exact h9,I.sub⟩) ?_;clear E I;rintro μ a w ⟨q,⟨rfl,hq⟩,E,I⟩;refine IF 4 E I (λeP a E=>?_) λeP a E=>?_
 ·
  have MG:=aa8 A.ar q;have gz:=ME A.ar q;have eE:=aa1 A.ar q;have cd:=Cd A.ar q;have ly:q<200:=by omega
  refine aY 3 (λw0 w'=>w'.cell? ⟨dq,q+1,none⟩=some (.int .i64 (pA A.ar (q+1)))) [1,3] [0,2,4,5,3006,1001,1003,7] E I λa w E I hH=>?_;have U:=hH.at w (I.bu (b:=dq) (fO _ (by omega)));refine RH 3 E I hH U λa E=>?_;rw[show ((q:Nat):Int)+1=((q+1:Nat):Int) from rfl]at E;refine RH 1 E I hH U λa E=>?_;refine QH E (λw hc=>ag E (hc)) U λa E=>?_;refine RH 0 E I hH U λa E=>?_;refine CL 0 E I (y8 I) λa w E I=>?_;replace U:=hH.at w (I.bu (b:=dq) (fO _ (by omega)));refine RH 0 E I hH U λa E=>?_;refine CL 0 E I (abb I (by omega)) λa w E I=>?_;replace U:=hH.at w (I.bu (b:=dq) (fO _ (by omega)));refine RH 1 E I hH U λa E=>?_;rw[MG,show decide ((cQ A.ar q:Nat)≠((cQ A.ar q:Nat):Int))=false from by simp]at E;replace E:=E.aN 99;refine RN 4 E I λa E=>?_;refine SS E (ag E (I.bu (b:=dq) (fO _ (by omega)))) λa E=>?_;rw[MG]at E;refine IF 1 E I (λl6 a E=>?_) λl6 a E=>?_
  ·
   refine RN 6 E I λa E=>?_;exact⟨200-(q+1),by omega,q+1,⟨rfl,by omega⟩,by rw[gz,al (by omega)];exact E.ab [0,3,5,7,11,12],I.sub⟩
  refine RN 3 E I λa E=>?_;exact⟨200-(q+1),by omega,q+1,⟨rfl,by omega⟩,by rw[gz,ae (by omega)];exact E.ab [0,3,5,7,11,12],I.sub⟩
 obtain rfl:q=200:=by omega
 rw[hO]at E;refine aY 1 (λw0 w'=>Rd w' b3 0 (b7 cf)) [7,8,9] [0,1,1002,1003,4,5,6,10,3011,1007,1008,1009,12,13,14] E I λa w E I hH=>?_;have U:=hH.at w (I.ai (b:=b3));refine RH 2 E I hH U λa E=>?_;refine CL 0 E I (y8 I) λa w E I=>?_;refine CL 0 E I (Cl I) λa w E I=>?_;refine RN 2 E I λa E=>?_;rw[dd (by omega)]at E;refine RN 2 E I λa E=>?_;replace U:Rd w b3 0 (b7 cf):=I.ai (b:=b3);refine QH E (λw hc=>ag E (hc 7 _ rfl)) U λa E=>?_;replace I:=aD.fold I M p ⟨s,A,T,J,ks,base,front⟩;refine CL 0 E I (YU I) λa w E I=>?_;replace U:=hH.at w (I.ai (b:=b3));replace I:=aD.open I;dsimp only at I;refine RH 0 E I hH U λa E=>?_;refine a2 0 E I (za (I.tree M.tq)) λsU qd a w E I=>?_;replace U:=hH.at w (I.ai (b:=b3));refine RH 4 E I hH U λa E=>?_;refine RT 0 E I ?_;exact⟨by rw[dd (by omega)],(aD.fold I.tail M p ⟨s,A,T,J,ks,base,front⟩).sub⟩
end
end
section
section
variable {W w:World}{L:List SP}{c i cP cT:Nat}{p:Pr}{s:Pl}{B:iO}
theorem abe (aZ:dj p)(aE:p.title.size≤1000000000)(fy:c1 B.gs):AI W 139 ⟨B.pb,0,none⟩ 282 284 285 283 281 273 276 141 p B.gs (λ_ s=>aM W B p s) where
 FA:=λad w=>by kernel_rfl
 cP:=(by kernel_rfl)
 FB:=λad w=>by kernel_rfl
 FC:=(by kernel_rfl)
 FD:=λad w=>by kernel_rfl
 cT:=(by kernel_rfl)
 FE:=λad w=>by kernel_rfl
 FF:=(by kernel_rfl)
 FG:=λad w=>by kernel_rfl
 cE:=(by kernel_rfl)
 AJ:=λad w=>by kernel_rfl
 AK:=(by kernel_rfl)
 FH:=λad w=>by kernel_rfl
 FI:=(by kernel_rfl)
 FJ:=λad w=>by kernel_rfl
 FK:=(by kernel_rfl)
 ak:=λw L i s x _ hw I=>K7 I hw aZ aE
 recv:=λw L i s bs a c _ hw hb hc hp I=>K8 I hw aZ aE hb hc hp
 tick:=λw L i s _ hw hn I=>K9 I hw hn
 ob:=λw L i s _ hw I=>La I hw
 events:=λw L i s _ hw I=>Lb I
 AM:=λw L i s _ hw I=>Ld I hw
 FL:=λw L i s _ hw I=>Le I hw aZ aE fy
 closed:=λw L i s _ hw I=>Lc I
end
end
section
inductive fK where
 | mu (M:jg)
 | pl (B:iO)
structure fA where
 cf:Cf
 z:fK
def fK.t:fK→TypeId
 | .mu _=>78
 | .pl _=>139
def fK.ad:fK→Addr
 | .mu M=>⟨M.mb,0,none⟩
 | .pl B=>⟨B.pb,0,none⟩
def fK.gs:fK→Gs
 | .mu M=>M.B.gs
 | .pl B=>B.gs
def fK.f (a b:FuncId):fK→FuncId
 | .mu _=>a
 | .pl _=>b
def fA.J (W:World)(p:Pr)(x:fA)(i:Nat)(s:Pl):SP:=match x.z with
 | .mu M=>fj W M p x.cf i s
 | .pl B=>aM W B p s
def uk (z:fK):=z.f 267 282
def um (z:fK):=z.f 269 284
def uo (z:fK):=z.f 270 285
def uq (z:fK):=z.f 268 283
def ur (z:fK):=z.f 266 281
def uu (z:fK):=z.f 264 273
def uv (z:fK):=z.f 265 276
def uw (z:fK):=z.f 101 141
abbrev cB (x:fA×Pl):Value:=.iface x.1.z.t (.pointer (some x.1.z.ad))
def cz (W:World)(p:Pr)(c:Nat)(x:fA×Pl):SP:=x.1.J W p c x.2
abbrev kl:=Option Addr×Nat×List jV
abbrev bF (x:kl):Value:=.slice x.1 x.2.2.length x.2.1
def eC (x:kl):SP:=Sl 135 1 x.1 x.2.2.length x.2.1 (x.2.2.map cy)
structure jw where
 mb:Nat
 q:Nat
 fk:List fA
structure nz where
 adL:Option Addr
 cL:Nat
 adE:Option Addr
 cE:Nat
 xs:List (fA×Pl)
 es:List kl
def cS (m:Ml):oy:=((m.1:Int),(m.2.1:Int),m.2.2)
abbrev jx (B:jw)(A:nz):List Value:=[.slice A.adL A.xs.length A.cL,pt B.q,.slice A.adE A.es.length A.cE]
structure nz.Ok (A:nz)(B:jw)(v:Wd):Prop where
 fk:A.xs.map (·.1)=B.fk
 ps:A.xs.map (·.2)=v.ps
 ev:A.es.map (·.2.2)=v.ev
def aP (W:World)(B:jw)(p:Pr)(c:Nat)(v:Wd):SP:=λh=>∃ A:nz,A.Ok B v ∧
 ck [aa B.mb 107 (jx B A),Sl 81 1 A.adL A.xs.length A.cL (A.xs.map cB),ah (cz W p c) A.xs,bD B.q (v.net.map cS),Sl 90 1 A.adE A.es.length A.cE (A.es.map bF),ah eC A.es] h
section
variable {W w:World}{L R:List SP}{n c i:Nat}{ad adE:Option Addr}{p:Pr}{B:jw}{A:nz}{v:Wd}{x:fA}{s:Pl}{y:Int}
theorem fA.p6 (x:fA)(aZ:dj p)(aE:p.title.size≤1000000000)(fy:c1 x.z.gs):AI W x.z.t x.z.ad (uk x.z) (um x.z) (uo x.z) (uq x.z) (ur x.z) (uu x.z) (uv x.z) (uw x.z) p x.z.gs (x.J W p):=by
 obtain⟨cf,z⟩:=x;cases z with
 | mu M=>exact aaU aZ aE
 | pl B=>exact abe aZ aE fy
theorem fA.more {j:Nat}(x:fA)(h:i≤j):∀ hp,x.J W p i s hp→x.J W p j s hp:=by
 obtain⟨cf,z⟩:=x;cases z with
 | mu M=>exact λhp ⟨m,⟨h1,h2,h3⟩,h4⟩=>⟨m,⟨h1,h2.more (by omega),h3⟩,h4⟩
 | pl B=>exact λhp h=>h
theorem MH {α:Type}{f g:α→SP}(k:∀ x h,f x h→g x h):∀ {l:List α} {h:Hp},ck (l.map f) h→ck (l.map g) h
 | [],_,h=>h
 | _::l,_,⟨h1,h2,d,a,b,p,q⟩=>⟨h1,h2,d,a,b,k _ _ p,MH k q⟩
theorem V.abf {A A':SP}(I:V W w (A::L))(k:∀ h,A h→A' h):V W w (A'::L):=⟨I.below,let ⟨h,p,h1,h2,d,a,b,x,y⟩:=I.sat;⟨h,p,h1,h2,d,a,b,k _ x,y⟩⟩
theorem V.rl {xs:List (fA×Pl)}{d:Nat}(I:V W w (ah (cz W p c) xs::L))(h:c≤d):V W w (ah (cz W p d) xs::L) :=
 I.abf λ_ h1=>MH (λx h2 h3=>x.1.more h h2 h3) h1
theorem aP.open (I:V W w (aP W B p c v::L)):∃ A:nz,A.Ok B v∧V W w (aa B.mb 107 (jx B A)::Sl 81 1 A.adL A.xs.length A.cL (A.xs.map cB)::ah (cz W p c) A.xs::bD B.q (v.net.map cS)::Sl 90 1 A.adE A.es.length A.cE (A.es.map bF)::ah eC A.es::L):=by
 obtain⟨A,h1,I⟩:=I.jj (ι:=nz) (p:=λA=>A.Ok B v) (B:=λA h=>ck [aa B.mb 107 (jx B A),Sl 81 1 A.adL A.xs.length A.cL (A.xs.map cB),ah (cz W p c) A.xs,bD B.q (v.net.map cS),Sl 90 1 A.adE A.es.length A.cE (A.es.map bF),ah eC A.es] h) λ_ h=>h;exact⟨A,h1,I.open (M:=[_,_,_,_,_,_]) λ_ h=>h⟩
theorem aP.fold (I:V W w L)(B:jw)(p:Pr)(c:Nat)(v:Wd)(A:nz)(h:A.Ok B v)[kk:fD L [aa B.mb 107 (jx B A),Sl 81 1 A.adL A.xs.length A.cL (A.xs.map cB),ah (cz W p c) A.xs,bD B.q (v.net.map cS),Sl 90 1 A.adE A.es.length A.cE (A.es.map bF),ah eC A.es] R]:V W w (aP W B p c v::R) :=
 V.shut (M:=[_,_,_,_,_,_]) (I.perm kk.perm) λ_ h1=>⟨A,h,h1⟩
theorem abg {P:Program}{t:TypeId} {ms}(ht:P.underlying t=some (.interface ms))(k:Nat):(Op.equalIn (k+1) t .nilIface .nilIface).run P w=.ok true w:=by
 simp[Op.equalIn,eM ht]
theorem abh {P:Program}{a:Act}{l:List (Nat×Value)} {x t ms u dst ty ps af g}(E:Fr a n l)(ht:P.underlying t=some (.interface ms))[e:Ev l x .nilIface] :
   (execOp a.eval ⟨dst,.binOp .eql t x (.const .nilIface) u,ty,ps,af,g⟩).run P w=.ok (.value (.bool true)) w:=by
 have hc:a.eval (.const .nilIface)=.nilIface:=rfl;have h2:(Op.equal t .nilIface .nilIface).run P w=.ok true w:=abg ht 9999;simp only[execOp,e.ev a n E,hc,Sem.run_bind];simp[eqGuard,binOp,h2]
theorem MJ {P:Program}{a:Act}{l:List (Nat×Value)} {x t u ok dst ty ps af g}{z z2:Value}(E:Fr a n l)(h:(Instr.typeAssert z t u ok).run P w=.ok z2 w)[e:Ev l x z] :
   (execOp a.eval ⟨dst,.typeAssert x t u ok,ty,ps,af,g⟩).run P w=.ok (.value z2) w:=by
 simp[execOp,e.ev a n E,h]
end
end
section
def fK.mul:fK→Value
 | .mu M=>pt M.mb
 | .pl _=>.pointer none
section
variable {W w:World}{L:List SP}{n cL mb i:Nat}{ad:Option Addr}{B:jw}{y:Int}{x2 x3:Value}{xs:List (fA×Pl)}
theorem abi (I:V W w (aa mb 107 [.slice ad n cL,x2,x3]::L))(hy:y<0∨(n:Int)≤y):Calls prog 28 #[pt mb,.int .i64 y] w λe w'=>e=.returned .nilIface∧V W w' (aa mb 107 [.slice ad n cL,x2,x3]::L):=by
 refine EN func28 ntmps28 rfl rfl λa E=>?_;refine RN 7 E I λa E=>?_;replace E:=E.aN 7;refine BY 4 E I (λjM a E=>?_) λjM a E=>?_
 ·
  refine RT 11 E I ?_;exact⟨rfl,I⟩
 refine RN 8 E I λa E=>?_;rw[dd (by omega)]at E;refine RT 3 E I ?_;exact⟨rfl,I⟩
theorem rp (I:V W w (aa mb 107 [.slice ad xs.length cL,x2,x3]::Sl 81 1 ad xs.length cL (xs.map cB)::L))(hi:i<xs.length):Calls prog 28 #[pt mb,.int .i64 i] w λe w'=>e=.returned (cB xs[i])∧V W w' (aa mb 107 [.slice ad xs.length cL,x2,x3]::Sl 81 1 ad xs.length cL (xs.map cB)::L):=by
 refine EN func28 ntmps28 rfl rfl λa E=>?_;refine RN 7 E I λa E=>?_;replace E:=E.aN 7;refine RN 4 E I λa E=>?_;rw[bq (by omega)]at E;refine RN 8 E I λa E=>?_;rw[bq (by omega)]at E;refine RN 2 E I λa E=>?_;obtain⟨b,o,rfl,hr⟩:=(I.pick (Sl 81 1 ad xs.length cL (xs.map cB))).bY ad (by omega);have fa:=hr i (cB xs[i]) (by rw[bn,aO hi];rfl);refine RN 6 E I λa E=>?_;refine SS E (ag E (fa)) λa E=>?_;refine RT 1 E I ?_;exact⟨rfl,I.sub⟩
theorem fK.assert (z:fK)(w:World):(Instr.typeAssert (.iface z.t (.pointer (some z.ad))) 81 78 true).run prog w=.ok (.tuple #[z.mul,.bool (match z with | .mu _=>true | .pl _=>false)]) w:=by
 cases z with
 | mu M=>kernel_rfl
 | pl B=>kernel_rfl
theorem FY (I:V W w (aa mb 107 [.slice ad xs.length cL,x2,x3]::Sl 81 1 ad xs.length cL (xs.map cB)::L))(hi:i<xs.length):Calls prog 27 #[pt mb,.int .i64 i] w λe w'=>e=.returned xs[i].1.z.mul∧V W w' (aa mb 107 [.slice ad xs.length cL,x2,x3]::Sl 81 1 ad xs.length cL (xs.map cB)::L):=by
 have has:=xs[i].1.z.assert;cases hz:xs[i].1.z with
 | mu M =>
  rw[hz]at has;refine EN func27 ntmps27 rfl rfl λa E=>?_;refine CL 5 E I (rp I hi) λa w E I=>?_;rw[show cB xs[i]=.iface (fK.mu M).t (.pointer (some (fK.mu M).ad)) from by rw[← hz]]at E;refine RN 0 E I λa E=>?_;refine SK (bz E rfl (MJ E (has w)) rfl ?_);clear E a;intro a E;refine RN 9 E I λa E=>?_;replace E:=E.aN 15;refine RT 4 E I ?_;exact⟨rfl,I⟩
 | pl B =>
  rw[hz]at has;refine EN func27 ntmps27 rfl rfl λa E=>?_;refine CL 5 E I (rp I hi) λa w E I=>?_;rw[show cB xs[i]=.iface (fK.pl B).t (.pointer (some (fK.pl B).ad)) from by rw[← hz]]at E;refine RN 0 E I λa E=>?_;refine SK (bz E rfl (MJ E (has w)) rfl ?_);clear E a;intro a E;refine RN 9 E I λa E=>?_;replace E:=E.eo 15;refine RT 3 E I ?_;exact⟨rfl,I⟩
theorem AT (I:V W w (aa mb 107 [x2,pt i,x3]::L)):Calls prog 22 #[pt mb] w λe w'=>e=.returned (pt i)∧V W w' (aa mb 107 [x2,pt i,x3]::L):=by
 refine EN func22 ntmps22 rfl rfl λa E=>?_;refine RN 6 E I λa E=>?_;replace E:=E.aN 4;refine RT 7 E I ?_;exact⟨rfl,I⟩
end
end
section
section
variable {W w:World}{L:List SP}{n c mb i q:Nat}{ad:Option Addr}{v:Wd}{x1 x3:Value}{xs:List (fA×Pl)}{l net:List Ml}{e:List jV}
theorem V.wi {α:Type}{f:α→SP}{l:List α}{i:Nat}(h:i<l.length)(I:V W w (f l[i]::ah f (l.eraseIdx i)::L)):V W w (ah f l::L):=by
 have h1:=V.ko h I
 rwa [set_getElem_self]at h1
theorem MK (l:List jV):∀ v∈l.map cy,v.oneCell'=true:=by
 intro v hv;obtain⟨e,_,rfl⟩:=c8.1 hv;exact Ek e
theorem ML (I:V W w (Sl 135 1 ad e.length c (e.map cy)::L))(hl:e.length≤1000000000):Calls prog 57 #[.slice ad e.length c] w λr w'=>∃ av c',r=.returned (.slice av e.length c')∧V W w' (Sl 135 1 av e.length c' (e.map cy)::Sl 135 1 ad e.length c (e.map cy)::L):=by
 cases oV:ad with
 | none =>
  subst oV;have h0:e=[]:=by
   rcases Nat.eq_zero_or_pos e.length with h0 | h0
   ·exact g6 h0
   ·obtain⟨b,o,h1,_⟩:=I.bY none h0;cases h1
  subst h0;refine EN func57 ntmps57 rfl rfl λa E=>?_;refine RN 6 E I λa E=>?_;replace E:=E.eo 4;refine RT 3 E I ?_;exact⟨_,_,rfl,I.bH _ _ _⟩
 | some a =>
  rw[← oV];refine EN func57 ntmps57 rfl rfl λa E=>?_;refine RN 6 E I λa E=>?_;rw[show ad.isNone=false from by rw[oV];rfl]at E;replace E:=E.aN 4;refine RN 2 E I λa E=>?_;refine tc E rfl I underlying90 Ty.t135 rfl λb5 a w E I ho=>?_;clear ho;replace I:V W w (Sl 135 1 (some ⟨b5,0,none⟩) 0 0 []::Sl 135 1 ad e.length c (e.map cy)::L):=I.tail.bH _ _ _;refine RN 1 E I λa E=>?_;refine gW E rfl I underlying90 Ty.t135 rfl rfl (by decide) (λh0=>I.tail.bY ad h0) (by rw[bf,Nat.mul_one]) (MK _) (by omega) λrQ qx a w E I=>?_;rw[nil_append,Nat.zero_add]at I;rw[Nat.zero_add]at E;refine RT 1 E I ?_;exact⟨_,_,rfl,I⟩
theorem abj {m:Ml}(h:m.2.2.length≤1000):(if pz (net.map cS) m.2.2.length then net.map cS++[cS m] else net.map cS)=(ow net m).map cS:=by
 have h1:pz (net.map cS) m.2.2.length=decide (net.length<300):=by
  rw[pz,bf,dd h,Bool.and_true]
 rw[h1,ow];by_cases h2:net.length<300
 ·rw[dd h2,al rfl,al h2,cU];rfl
 ·rw[bq h2,ae (by decide),ae h2]
theorem MM (I:V W w (cv 124 ad n c l::bD q (net.map cS)::aa mb 107 [x1,pt q,x3]::L))(hn:n≤1000)(hl:∀ m∈l,m.2.2.length≤1000) :
   Calls prog 61 #[pt mb,.slice ad n c] w λe w'=>e=.returned (.int .i64 0)∧V W w' (bD q ((eB net l).map cS)::aa mb 107 [x1,pt q,x3]::L):=by
 obtain⟨xs,eG,ch,I⟩:=cv.open I;have a8:xs.length=n:=by rw[← ch,← eG,bf]
 subst a8;refine EN func61 ntmps61 rfl rfl λa E=>?_;refine RN 7 E I λa E=>?_;refine aS (λμ a w=>∃ (i:Nat),(μ=xs.length-i∧i≤xs.length)∧Fr a 20 [(0,pt mb),(7,.slice ad xs.length c),(8,.int .i64 xs.length),(9,.int .i64 i)]∧V W w (bD q ((eB net (l.take i)).map cS)::Sl 124 3 ad xs.length c (rows bW xs)::ah bX xs::aa mb 107 [x1,pt q,x3]::L)) (xs.length) (⟨0,⟨rfl,by omega⟩,E.ab [0,7,8,9],(show V W w (Sl 124 3 ad xs.length c (rows bW xs)::ah bX xs::bD q ((eB net (l.take 0)).map cS)::_) from I).sub⟩) ?_;clear E I;rintro μ a w ⟨i,⟨rfl,hi⟩,E,I⟩;refine IF 3 E I (λaj a E=>?_) λaj a E=>?_
 ·
  have aJ:i<xs.length:=by omega
  have yk:i<l.length:=by omega
  refine RN 2 E I λa E=>?_;obtain⟨bi,oi,rfl,o4⟩:=(I.pick (Sl 124 3 ad xs.length c (rows bW xs))).bY ad (by omega);have fc:=jv oj o4 (aO aJ);obtain⟨m,hm⟩:∃ m,m=l[i]:=⟨_,rfl⟩;obtain⟨xa,MN,hx⟩:∃ a c,xs[i]=(a,c,m):=⟨xs[i].1,xs[i].2.1,by
   have h1:(xs.map (·.2.2))[i]?=l[i]?:=by rw[eG]
   rw[bn,aO aJ,aO yk]at h1;have h2:xs[i].2.2=l[i]:=by simpa using h1
   rw[hm,← h2]⟩
  have lR:=hl m (by rw[hm];exact getElem_mem _);rw[hx]at fc;refine RN 1 E I λa E=>?_;refine SS E (bO E underlying124 rfl Ty.t124 (fc)) λa E=>?_;refine AL 0 E I λcG a w E I=>?_;refine SA 0 E I λa w E I=>?_;refine bL 0 [4] [0,1,2,3003,1004,1005] E I λa w E I hH U=>?_;refine RH 5 E I hH U λa E=>?_;refine CL 0 E I (aaE (bs:=m.2.2) (I.pick (bD q ((eB net (l.take i)).map cS))) (λw' dh=>by
   have h1:=(dh.pick (ah bX xs)).fE aJ;rw[hx]at h1;exact V.cF (L:=bX (xa,MN,m)::_) h1 _ _ (k:=(fL.head:fL (Sl 5 1 xa m.2.2.length MN (bc m.2.2)::_) xa _ _ _ _ _ _)) rfl rfl)) λa w E I=>?_
  refine RN 0 E I λa E=>?_;rw[show ((m.1:Int),(m.2.1:Int),m.2.2)=cS m from rfl,abj lR,hm,← Me net yk]at I;refine RN 2 E I λa E=>?_;exact⟨xs.length-(i+1),by omega,i+1,⟨rfl,by omega⟩,E.ab [0,7,8,9],I.sub⟩
 refine RT 2 E I ?_;obtain rfl:i=xs.length:=by omega
 rw[fX (by omega)]at I;exact⟨rfl,I.sub⟩
end
end
section
abbrev dC (s:fz):List Value:=[.int .i64 s.fn,.int .i64 s.a,.int .i64 s.b,.int .i64 s.n]
section
variable {W w:World}{L:List SP}{c d cL mb i q:Nat}{ad adE:Option Addr}{p:Pr}{B:jw}{A:nz}{v:Wd}{x:fA}{s vV s':Pl}{t:fz}{y:Int}{net:List Ml}{cf:Cf}
theorem nz.Ok.at (h:A.Ok B v)(hi:i<v.ps.length):∃ x,A.xs[i]?=some (x,aq v i)∧i<A.xs.length∧B.fk[i]?=some x:=by
 have hl:A.xs.length=v.ps.length:=by rw[← h.ps,bf]
 have dK:i<A.xs.length:=by omega
 refine⟨A.xs[i].1,?_,dK,by rw[← h.fk,bn,aO dK];rfl⟩;rw[aO dK,aq,bl,← h.ps,bn,aO dK];rfl
theorem aP.out (I:V W w (ah (cz W p c) A.xs::L))(hx:A.xs[i]?=some (x,s)):V W w (x.J W p c s::ah (cz W p c) (A.xs.eraseIdx i)::L):=by
 obtain⟨hi,h1⟩:=a1.1 hx;have h2:=I.fE hi;rw[h1]at h2;exact h2
theorem aP.put (hA:A.Ok B v)(hx:A.xs[i]?=some (x,vV))(CU:c≤d)(net:List Ml)
   (I:V W w (x.J W p d s'::ah (cz W p c) (A.xs.eraseIdx i)::aa B.mb 107 (jx B A)::Sl 81 1 A.adL A.xs.length A.cL (A.xs.map cB)::bD B.q (net.map cS)::Sl 90 1 A.adE A.es.length A.cE (A.es.map bF)::ah eC A.es::L)) :
   V W w (aP W B p d { v with ps:=v.ps.set i s',net:=net }::L):=by
 obtain⟨hi,h1⟩:=a1.1 hx;have h2:=(I.pick (ah (cz W p c) (A.xs.eraseIdx i))).rl CU;have h3:=V.ko (f:=cz W p d) (x:=(x,s')) hi (h2.pick (x.J W p d s'));have e1:(A.xs.set i (x,s')).map cB=A.xs.map cB:=by
  rw[List.map_set,show cB (x,s')=(A.xs.map cB)[i]'(by rw[bf];exact hi) from by rw[getElem_map,h1],set_getElem_self]
 have e2:(A.xs.set i (x,s')).length=A.xs.length:=br ..;have hA':nz.Ok { A with xs:=A.xs.set i (x,s') } B { v with ps:=v.ps.set i s',net:=net }:=by
  refine⟨?_,?_,hA.ev⟩
  ·show (A.xs.set i (x,s')).map (·.1)=_;rw[List.map_set,← hA.fk];show (A.xs.map (·.1)).set i x=_;rw[show x=(A.xs.map (·.1))[i]'(by rw[bf];exact hi) from by rw[getElem_map,h1],set_getElem_self]
  ·show (A.xs.set i (x,s')).map (·.2)=v.ps.set i s';rw[List.map_set,hA.ps]
 have h4:V W w (ah (cz W p d) (A.xs.set i (x,s'))::aa B.mb 107 (jx B { A with xs:=A.xs.set i (x,s') })::Sl 81 1 A.adL (A.xs.set i (x,s')).length A.cL ((A.xs.set i (x,s')).map cB)::bD B.q (net.map cS)::Sl 90 1 A.adE A.es.length A.cE (A.es.map bF)::ah eC A.es::L):=by
  simp only[jx,e1,e2];exact h3.sub
 exact (aP.fold h4 B p d { v with ps:=v.ps.set i s',net:=net } { A with xs:=A.xs.set i (x,s') } hA').sub
theorem fz.u8 (b:Int):IntKind.u8.wrap b=((fU b).toNat:Int):=by rw[wrap_u8,aat]
structure jw.Ok (B:jw)(p:Pr)(c:Nat):Prop where
 pr:dj p
 sz:p.title.size≤1000000000
 gs:∀ x∈B.fk,c1 x.z.gs
 c:c≤1000000
theorem abk (I:V W w L):Calls prog 62 #[.pointer none,.int .i64 y] w λe w'=>e=.returned (.bool false)∧V W w' L:=by
 refine EN func62 ntmps62 rfl rfl λa E=>?_;refine RN 7 E I λa E=>?_;replace E:=E.eo 7;refine RT 19 E I ?_;exact⟨rfl,I⟩
theorem abl (I:V W w (ah (cz W p c) A.xs::L))(hx:A.xs[i]?=some (x,s))(aZ:dj p)(aE:p.title.size≤1000000000)(hc:c≤1000000) :
   Calls prog 62 #[x.z.mul,.int .i64 y] w λe w'=>∃ z:Bool,e=.returned (.bool z)∧(z=true→0≤y∧y<s.k.workers∧∃ M,x.z=.mu M)∧V W w' (ah (cz W p (c+1)) A.xs::L):=by
 obtain⟨hi,h1⟩:=a1.1 hx;have h2:=aP.out I hx;obtain⟨cf,z⟩:=x;cases z with
 | pl B=>exact (abk I).mono λe w' ⟨h,I⟩=>⟨false,h,(λh=>by cases h),I.rl (Nat.le_succ c)⟩
 | mu M =>
  refine (aaV h2 aZ aE hc).mono λe w' ⟨z,h,h3,I⟩=>⟨z,h,λhz=>⟨(h3 hz).2.1,(h3 hz).2.2,M,rfl⟩,?_⟩;have h4:=(I.pick (ah (cz W p c) (A.xs.eraseIdx i))).rl (Nat.le_succ c);refine V.wi hi ?_;rw[h1];exact h4.pick (fj W M p cf (c+1) s)
theorem AU {t:fz}(h:t.fn=1)(fV:t.a=i)(hi:i<v.ps.length):gm p t v=((dI p (fU t.b) (aq v i)).1,{ v with ps:=v.ps.set i (dI p (fU t.b) (aq v i)).2 }):=by
 rw[gm,ae (by omega),al h,fV,Int.toNat_natCast]
theorem wj {t:fz}(h:t.fn=2)(fV:t.a=i)(hi:i<v.ps.length):gm p t v=(0,{ v with ps:=v.ps.set i ⟨(bm (aq v i).k).2,(aq v i).g⟩,net:=eB v.net (bm (aq v i).k).1 }):=by
 rw[gm,ae (by omega),ae (by omega),al h,fV,Int.toNat_natCast]
theorem yl {t:fz}(h:t.fn=8)(fV:t.a=i)(hi:i<v.ps.length):gm p t v=(0,{ v with ps:=v.ps.set i ⟨(cu (aq v i).k).2,(aq v i).g⟩,net:=eB v.net (cu (aq v i).k).1 }):=by
 rw[gm,ae (by omega),ae (by omega),ae (by omega),al h,fV,Int.toNat_natCast]
theorem ym {t:fz}(h:t.fn=7)(fV:t.a=i)(hi:i<v.ps.length):gm p t v=(0,v):=by
 rw[gm,ae (by omega),ae (by omega),ae (by omega),ae (by omega)]
theorem abm (I:V W w (aP W B p c v::L))(YN:t.a<0∨(v.ps.length:Int)≤t.a) :
   Calls prog 44 #[pt B.mb,.agg (dC t).toArray] w λe w'=>e=.returned (.int .i64 7)∧V W w' (aP W B p c v::L):=by
 replace I:=aP.open I;obtain⟨A,hA,I⟩:=I;have hl:A.xs.length=v.ps.length:=by rw[← hA.ps,bf]
 refine EN func44 ntmps44 rfl rfl λa E=>?_;refine BX 1 E I λb3 a w E I=>?_;change V W w (aa b3 58 (dC t)::_) at I;refine CL 5 E I (abi (I.pick (aa B.mb 107 (jx B A))) (by omega)) λa w E I=>?_;refine RN 4 E I λa E=>?_;refine SK (bz E rfl (abh E underlying81) rfl ?_);clear E a;intro a E;refine RN 0 E I λa E=>?_;replace E:=E.eo 11;refine RT 3 E I ?_;exact⟨rfl,(aP.fold I B p c v A hA).sub⟩
set_option maxHeartbeats 1000000 in
theorem abn (I:V W w (aP W B p c v::L))(hB:B.Ok p c)(hv:bI p cf c v)(hi:i<v.ps.length)(hf:t.fn=1∨t.fn=2∨t.fn=8∨t.fn=7)(fV:t.a=i) :
   Calls prog 44 #[pt B.mb,.agg (dC t).toArray] w λe w'=>∃ z:Int,e=.returned (.int .i64 z)∧(t.fn≠7→z=(gm p t v).1) ∧
    (t.fn=7→z=7∨(z=0∧0≤t.b∧t.b<(aq v i).k.workers∧∃ x M,B.fk[i]?=some x∧x.z=.mu M))∧V W w' (aP W B p (c+1) (gm p t v).2::L):=by
 replace I:=aP.open I;obtain⟨A,hA,I⟩:=I;obtain⟨x,hx,AV,oz⟩:=hA.at hi;obtain⟨_,gT⟩:=a1.1 hx;have hM:=x.p6 (W:=W) (p:=p) hB.pr hB.sz (hB.gs x (bE oz));obtain⟨hw,df,wk⟩:=hv.pl i hi;have mL:=hB.c;have yn:cB A.xs[i]=.iface x.z.t (.pointer (some x.z.ad)):=by rw[gT]
 refine EN func44 ntmps44 rfl rfl λa E=>?_;refine BX 1 E I λb3 a w E I=>?_;change V W w (aa b3 58 (dC t)::_) at I;refine RN 5 E I λa E=>?_;rw[fV]at E;refine CL 0 E I (rp ((I.pick (Sl 81 1 A.adL A.xs.length A.cL (A.xs.map cB))).pick (aa B.mb 107 (jx B A))) AV) λa w E I=>?_;refine RN 1 E I λa E=>?_;rw[yn]at E;refine RN 4 E I λa E=>?_;replace E:=E.aN 11;refine IF 8 E I (λan a E=>?_) λan a E=>?_
 ·
  refine RN 1 E I λa E=>?_;replace I:=aP.out (I.pick (ah (cz W p c) A.xs)) hx;refine RN 3 E I λa E=>?_;refine SS E (gd E underlying3 underlying5) λa E=>?_;rw[fz.u8]at E;refine RN 0 E I λa E=>?_;refine jl E rfl hM.FA hM.cP rfl (hM.ak _ _ c (aq v i) (fU t.b) mL hw (I.pick (x.J W p c (aq v i)))) (by rfl) ?_;clear E I;rintro e w ⟨rfl,I⟩;refine⟨_,rfl,λa E=>?_⟩;refine RT 1 E I ?_;exact⟨_,rfl,λ_=>by rw[AU (by assumption) fV hi],λh=>by omega,by
   have h1:=aP.put hA hx (Nat.le_succ c) v.net (I.sub (M:=x.J W p (c+1) (dI p (fU t.b) (aq v i)).2::ah (cz W p c) (A.xs.eraseIdx i)::aa B.mb 107 (jx B A)::Sl 81 1 A.adL A.xs.length A.cL (A.xs.map cB)::bD B.q (v.net.map cS)::Sl 90 1 A.adE A.es.length A.cE (A.es.map bF)::ah eC A.es::L));rw[AU (by assumption) fV hi];exact h1⟩
 refine IF 3 E I (λay a E=>?_) λay a E=>?_
 ·
  refine RN 1 E I λa E=>?_;replace I:=aP.out (I.pick (ah (cz W p c) A.xs)) hx;refine RN 2 E I λa E=>?_;refine jl E rfl hM.FD hM.cT rfl (hM.tick _ _ c (aq v i) mL hw (by omega) (I.pick (x.J W p c (aq v i)))) (by rfl) ?_;clear E I;rintro e w ⟨am,ji,rfl,I⟩;refine⟨_,rfl,λa E=>?_⟩;refine CL 0 E I (MM (((I.pick (aa B.mb 107 (jx B A))).pick (bD B.q (v.net.map cS))).pick (cv 124 am (bm (aq v i).k).1.length ji (bm (aq v i).k).1)) (Mc hw.wc) (λm hm=>(Mf hw.wc m hm).2)) λa w E I=>?_;refine RT 1 E I ?_;exact⟨_,rfl,λ_=>by rw[wj (by assumption) fV hi],λh=>by omega,by
   have h1:=aP.put hA hx (Nat.le_succ c) (eB v.net (bm (aq v i).k).1) (I.sub (M:=x.J W p (c+1) ⟨(bm (aq v i).k).2,(aq v i).g⟩::ah (cz W p c) (A.xs.eraseIdx i)::aa B.mb 107 (jx B A)::Sl 81 1 A.adL A.xs.length A.cL (A.xs.map cB)::bD B.q ((eB v.net (bm (aq v i).k).1).map cS)::Sl 90 1 A.adE A.es.length A.cE (A.es.map bF)::ah eC A.es::L));rw[wj (by assumption) fV hi];exact h1⟩
 refine IF 3 E I (λbg a E=>?_) λbg a E=>?_
 ·
  refine RN 1 E I λa E=>?_;replace I:=aP.out (I.pick (ah (cz W p c) A.xs)) hx;refine RN 2 E I λa E=>?_;refine jl E rfl hM.FE hM.FF rfl (hM.ob _ _ c (aq v i) mL hw (I.pick (x.J W p c (aq v i)))) (by rfl) ?_;clear E I;rintro e w ⟨am,ji,rfl,I⟩;refine⟨_,rfl,λa E=>?_⟩;refine CL 0 E I (MM (((I.pick (aa B.mb 107 (jx B A))).pick (bD B.q (v.net.map cS))).pick (cv 124 am (cu (aq v i).k).1.length ji (cu (aq v i).k).1)) (Md hw.wc) (λm hm=>(Mg hw.wc m hm).2)) λa w E I=>?_;refine RT 1 E I ?_;exact⟨_,rfl,λ_=>by rw[yl (by assumption) fV hi],λh=>by omega,by
   have h1:=aP.put hA hx (Nat.le_succ c) (eB v.net (cu (aq v i).k).1) (I.sub (M:=x.J W p (c+1) ⟨(cu (aq v i).k).2,(aq v i).g⟩::ah (cz W p c) (A.xs.eraseIdx i)::aa B.mb 107 (jx B A)::Sl 81 1 A.adL A.xs.length A.cL (A.xs.map cB)::bD B.q ((eB v.net (cu (aq v i).k).1).map cS)::Sl 90 1 A.adE A.es.length A.cE (A.es.map bF)::ah eC A.es::L));rw[yl (by assumption) fV hi];exact h1⟩
 refine aY 2 (λw0 w'=>Rd w' b3 0 (dC t)) [3,5] [0,1,4,3002,3005,1003,1006,7] E I λa w E I hH=>?_;have U:=hH.at w (I.ai (b:=b3));refine RH 3 E I hH U λa E=>?_;refine QH E (λw hc=>ag E (hc 1 _ rfl)) U λa E=>?_;rw[fV]at E;refine RH 0 E I hH U λa E=>?_;refine QH E (λw hc=>ag E (hc 2 _ rfl)) U λa E=>?_;refine RH 0 E I hH U λa E=>?_;refine CL 0 E I (FY ((I.pick (Sl 81 1 A.adL A.xs.length A.cL (A.xs.map cB))).pick (aa B.mb 107 (jx B A))) AV) λa w E I=>?_;replace U:=hH.at w (I.ai (b:=b3));rw[show A.xs[i].1.z.mul=x.z.mul from by rw[gT]]at E;refine RH 0 E I hH U λa E=>?_;refine bd 0 E I (abl (x:=x) (y:=t.b) (I.pick (ah (cz W p c) A.xs)) hx hB.pr hB.sz mL) λz a w E ⟨hz,I⟩=>?_;refine RN 1 E I λa E=>?_;refine IF 0 E I (λbM a E=>?_) λbM a E=>?_
 ·
  have kh:z=false:=by cases z <;> simp_all
  refine RT 2 E I ?_;exact⟨7,rfl,λh=>absurd (by omega) h,λ_=>.inl rfl,by
   rw[ym (by omega) fV hi];exact (aP.fold I B p (c+1) v A hA).sub⟩
 have kh:z=true:=by cases z <;> simp_all
 refine RT 2 E I ?_;exact⟨0,rfl,λh=>absurd (by omega) h,λ_=>.inr ⟨rfl,(hz kh).1,(hz kh).2.1,x,(hz kh).2.2.choose,oz,(hz kh).2.2.choose_spec⟩,by
  rw[ym (by omega) fV hi];exact (aP.fold I B p (c+1) v A hA).sub⟩
end
end
section
section
variable {W w:World}{L:List SP}{n c cL mb j q:Nat}{ad adE:Option Addr}{p:Pr}{B:jw}{A:nz}{v:Wd}{x:fA}{t:fz}{y:Int}{net:List Ml}{m:Ml}{cf:Cf}{z:UInt8}
theorem FZ (h:net[j]?=some m):∃ h2:j<(net.map cS).length,(net.map cS)[j]=cS m:=by
 obtain⟨h1,h2⟩:=a1.1 h;exact⟨by rw[bf];exact h1,by rw[getElem_map,h2]⟩
theorem F0 (I:V W w (bD q (net.map cS)::L))(h:net[j]?=some m):Calls prog 52 #[pt q,.int .i64 j] w λe w'=>∃ ad c,e=.returned (.tuple #[.agg #[.int .i64 m.1,.int .i64 m.2.1,.slice ad m.2.2.length c],.bool true])∧V W w' (Sl 5 1 ad m.2.2.length c (bc m.2.2)::bD q (net.map cS)::L):=by
 obtain⟨h1,h2⟩:=FZ h;have h3:=aaG I h1;rw[h2]at h3;exact h3
theorem MO (I:V W w (bD q (net.map cS)::L))(h:y<0∨(net.length:Int)≤y):Calls prog 52 #[pt q,.int .i64 y] w λe w'=>e=.returned (.tuple #[.agg #[.int .i64 0,.int .i64 0,.slice none 0 0],.bool false])∧V W w' (bD q (net.map cS)::L) :=
 aaF I (by rw[bf];simp;omega)
theorem MP (I:V W w (bD q (net.map cS)::L))(h:net[j]?=some m):Calls prog 63 #[pt q,.int .i64 j] w λe w'=>e=.returned (.bool true)∧V W w' (bD q ((net.eraseIdx j).map cS)::L):=by
 obtain⟨h1,h2⟩:=FZ h;have h3:=aaI I h1;rw[show (net.map cS).eraseIdx j=(net.eraseIdx j).map cS from by simp only[eraseIdx_eq_take_drop_succ,cU,map_take,map_drop]]at h3;exact h3
theorem abo (I:V W w (bD q (net.map cS)::L))(h:net[j]?=some m):Calls prog 64 #[pt q,.int .i64 j,.int .i64 y,.int .u8 (z.toNat:Int)] w λe w' =>
   e=.returned (.bool (decide (0≤y)&&decide (y<m.2.2.length)))∧V W w' (bD q ((if y<0∨(m.2.2.length:Int)≤y then net else net.set j (m.1,m.2.1,m.2.2.set y.toNat (m.2.2.getD y.toNat 0 ^^^ z))).map cS)::L):=by
 obtain⟨h1,h2⟩:=FZ h;have h3:=aaJ (aT:=y) (x:=z) I h1;rw[h2]at h3;refine h3.mono λe w' ⟨h4,h5⟩=>⟨h4,?_⟩;by_cases h6:y<0∨(m.2.2.length:Int)≤y
 ·rw[al h6];rw[ae (by show ¬ (decide (0≤y)&&decide (y<(m.2.2.length:Int)))=true;simp;omega)]at h5;exact h5
 ·rw[ae h6,List.map_set];rw[al (by show (decide (0≤y)&&decide (y<(m.2.2.length:Int)))=true;simp;omega)]at h5;exact h5
theorem MQ {t:fz}(h:t.n<0∨(v.net.length:Int)≤t.n):gD p t v=(3,v):=by rw[gD,al h]
theorem AW (h:v.net[j]?=some m):v.net.getD j (0,0,[])=m:=by rw[bl,h];rfl
theorem F1 {t:fz}(h:t.fn=4)(gE:t.n=j)(hm:v.net[j]?=some m):gD p t v=(0,{ v with net:=v.net.eraseIdx j }):=by
 have h1:=(a1.1 hm).1;rw[gD,ae (by omega),ae (by omega),al h,gE,Int.toNat_natCast]
theorem uB {t:fz}(h:t.fn=6)(gE:t.n=j)(hm:v.net[j]?=some m):gD p t v=if t.a<0∨(m.2.2.length:Int)≤t.a then (3,v) else (0,{ v with net:=v.net.set j (m.1,m.2.1,m.2.2.set t.a.toNat (m.2.2.getD t.a.toNat 0 ^^^ fU t.b)) }):=by
 have h1:=(a1.1 hm).1;rw[gD,ae (by omega),al h,gE,Int.toNat_natCast,AW hm]
theorem AX {t:fz}(h:t.fn≠4)(h':t.fn≠6)(gE:t.n=j)(hm:v.net[j]?=some m):gD p t v=((dJ p m.2.2 (aq v m.2.1)).1,{ v with ps:=v.ps.set m.2.1 (dJ p m.2.2 (aq v m.2.1)).2,net:=if t.fn=5 then v.net else v.net.eraseIdx j }):=by
 have h1:=(a1.1 hm).1;rw[gD,ae (by omega),ae h',ae h,gE,Int.toNat_natCast,AW hm]
theorem abp (I:V W w (aP W B p c v::L))(yG:t.n<0∨(v.net.length:Int)≤t.n) :
   Calls prog 45 #[pt B.mb,.agg (dC t).toArray] w λe w'=>e=.returned (.int .i64 3)∧V W w' (aP W B p c v::L):=by
 replace I:=aP.open I;obtain⟨A,hA,I⟩:=I;refine EN func45 ntmps45 rfl rfl λa E=>?_;refine BX 1 E I λb3 a w E I=>?_;change V W w (aa b3 58 (dC t)::_) at I;refine RN 1 E I λa E=>?_;refine bZ (M:=λa w=>∃ b5:Nat,Fr a 61 [(0,pt B.mb),(3,pt b3),(5,pt b5),(6,.bool false)]∧V W w (aa b5 124 [.int .i64 0,.int .i64 0,.slice none 0 0]::aa b3 58 (dC t)::aa B.mb 107 (jx B A)::Sl 81 1 A.adL A.xs.length A.cL (A.xs.map cB)::ah (cz W p c) A.xs::bD B.q (v.net.map cS)::Sl 90 1 A.adE A.es.length A.cE (A.es.map bF)::ah eC A.es::L)) ?_ ?_
 ·
  refine aY 0 (λw0 w'=>Rd w' B.mb 0 (jx B A)∧Rd w' b3 0 (dC t)) [5,10] [0,1,2,4,3003,3005,2006,7,8,9,1010,1011,12] E I λa w E I hH=>?_;have U:=hH.at w ⟨I.ai (b:=B.mb),I.ai (b:=b3)⟩;refine RH 4 E I hH U λa E=>?_;refine QH E (λw hc=>ag E (hc.1 1 _ rfl)) U λa E=>?_;refine QH E (λw hc=>ag E (hc.2 3 _ rfl)) U λa E=>?_;refine RH 0 E I hH U λa E=>?_;refine DN [(6,[7,8,9,1010,1011,12]),(10,[1006,7,8,9,1011,12])] (by kernel_rfl) rfl ⟨⟨_,rfl,?_⟩,⟨_,rfl,?_⟩,trivial⟩
  ·
   refine RH 0 E I hH U λa E=>?_;refine CL 0 E I (MO (I.pick (bD B.q (v.net.map cS))) yG) λa w E I=>?_;refine RN 3 E I λa E=>?_;refine eS E rfl I Ty.t124 rfl λb5 a w E I ho=>?_;clear ho;replace U:=hH.at w ⟨I.ai (b:=B.mb),I.ai (b:=b3)⟩;refine RH 0 E I hH U λa E=>?_;refine SA 0 E I λa w E I=>?_;refine RN 1 E I λa E=>?_;exact⟨b5,E.ab [0,3,5,6],I.sub⟩
  refine RH 0 E I hH U λa E=>?_;refine eS E rfl I Ty.t124 rfl λb5 a w E I ho=>?_;clear ho;replace U:=hH.at w ⟨I.ai (b:=B.mb),I.ai (b:=b3)⟩;refine RH 0 E I hH U λa E=>?_;refine CL 0 E I (MO (I.pick (bD B.q (v.net.map cS))) yG) λa w E I=>?_;refine SA 3 E I λa w E I=>?_;refine RN 1 E I λa E=>?_;exact⟨b5,E.ab [0,3,5,6],I.sub⟩
 clear E;(try clear I);rintro a w ⟨b5,E,I⟩;refine RN 4 E I λa E=>?_;replace E:=E.eo 18;refine RT 3 E I ?_;exact⟨rfl,(aP.fold I B p c v A hA).sub⟩
set_option maxHeartbeats 1000000 in
theorem abq (I:V W w (aP W B p c v::L))(hB:B.Ok p c)(hv:bI p cf c v)(hf:t.fn=3∨t.fn=4∨t.fn=5∨t.fn=6)(gE:t.n=j)(hm:v.net[j]?=some m) :
   Calls prog 45 #[pt B.mb,.agg (dC t).toArray] w λe w'=>e=.returned (.int .i64 (gD p t v).1)∧V W w' (aP W B p (c+1) (gD p t v).2::L):=by
 replace I:=aP.open I;obtain⟨A,hA,I⟩:=I;have eO:=(a1.1 hm).1;have gn:=hv.FO eO;rw[AW hm]at gn;obtain⟨x,hx,AV,oz⟩:=hA.at gn.1;obtain⟨_,gT⟩:=a1.1 hx;have hM:=x.p6 (W:=W) (p:=p) hB.pr hB.sz (hB.gs x (bE oz));obtain⟨hw,df,wk⟩:=hv.pl m.2.1 gn.1;have mL:=hB.c;have yn:cB A.xs[m.2.1]=.iface x.z.t (.pointer (some x.z.ad)):=by rw[gT]
 refine EN func45 ntmps45 rfl rfl λa E=>?_;refine BX 1 E I λb3 a w E I=>?_;change V W w (aa b3 58 (dC t)::_) at I;refine RN 1 E I λa E=>?_;refine bZ (M:=λa w=>∃ (b5:Nat) (am:Option Addr) (ji:Nat),Fr a 61 [(0,pt B.mb),(3,pt b3),(5,pt b5),(6,.bool true)]∧V W w (aa b5 124 [.int .i64 m.1,.int .i64 m.2.1,.slice am m.2.2.length ji]::Sl 5 1 am m.2.2.length ji (bc m.2.2)::aa b3 58 (dC t)::aa B.mb 107 (jx B A)::Sl 81 1 A.adL A.xs.length A.cL (A.xs.map cB)::ah (cz W p c) A.xs::bD B.q (v.net.map cS)::Sl 90 1 A.adE A.es.length A.cE (A.es.map bF)::ah eC A.es::L)) ?_ ?_
 ·
  refine aY 0 (λw0 w'=>Rd w' B.mb 0 (jx B A)∧Rd w' b3 0 (dC t)) [5,10] [0,1,2,4,3003,3005,2006,7,8,9,1010,1011,12] E I λa w E I hH=>?_;have U:=hH.at w ⟨I.ai (b:=B.mb),I.ai (b:=b3)⟩;refine RH 4 E I hH U λa E=>?_;refine QH E (λw hc=>ag E (hc.1 1 _ rfl)) U λa E=>?_;refine QH E (λw hc=>ag E (hc.2 3 _ rfl)) U λa E=>?_;rw[gE]at E;refine RH 0 E I hH U λa E=>?_;refine DN [(6,[7,8,9,1010,1011,12]),(10,[1006,7,8,9,1011,12])] (by kernel_rfl) rfl ⟨⟨_,rfl,?_⟩,⟨_,rfl,?_⟩,trivial⟩
  ·
   refine RH 0 E I hH U λa E=>?_;refine a2 0 E I (F0 (I.pick (bD B.q (v.net.map cS))) hm) λam ji a w E I=>?_;refine RN 3 E I λa E=>?_;refine eS E rfl I Ty.t124 rfl λb5 a w E I ho=>?_;clear ho;replace U:=hH.at w ⟨I.ai (b:=B.mb),I.ai (b:=b3)⟩;refine RH 0 E I hH U λa E=>?_;refine SA 0 E I λa w E I=>?_;refine RN 1 E I λa E=>?_;exact⟨b5,am,ji,E.ab [0,3,5,6],I.sub⟩
  refine RH 0 E I hH U λa E=>?_;refine eS E rfl I Ty.t124 rfl λb5 a w E I ho=>?_;clear ho;replace U:=hH.at w ⟨I.ai (b:=B.mb),I.ai (b:=b3)⟩;refine RH 0 E I hH U λa E=>?_;refine a2 0 E I (F0 (I.pick (bD B.q (v.net.map cS))) hm) λam ji a w E I=>?_;refine SA 3 E I λa w E I=>?_;refine RN 1 E I λa E=>?_;exact⟨b5,am,ji,E.ab [0,3,5,6],I.sub⟩
 clear E;(try clear I);rintro a w ⟨b5,am,ji,E,I⟩;refine RN 4 E I λa E=>?_;replace E:=E.aN 18;refine RN 1 E I λa E=>?_;refine bZ (M:=λa w=>((t.fn≠4∧t.fn≠6)∧Fr a 61 [(0,pt B.mb),(5,pt b5)])∧V W w (aa b5 124 [.int .i64 m.1,.int .i64 m.2.1,.slice am m.2.2.length ji]::Sl 5 1 am m.2.2.length ji (bc m.2.2)::aa B.mb 107 (jx B A)::Sl 81 1 A.adL A.xs.length A.cL (A.xs.map cB)::ah (cz W p c) A.xs::bD B.q ((if t.fn=5 then v.net else v.net.eraseIdx j).map cS)::Sl 90 1 A.adE A.es.length A.cE (A.es.map bF)::ah eC A.es::L)) ?_ ?_
 ·
  refine IF 6 E I (λan a E=>?_) λan a E=>?_
  ·
   refine bL 1 [5] [0,1,2,4,3003,1005,1006] E I λa w E I hH U=>?_;refine RH 6 E I hH U λa E=>?_;rw[gE]at E;refine CL 0 E I (MP (I.pick (bD B.q (v.net.map cS))) hm) λa w E I=>?_;refine RT 2 E I ?_;exact⟨by rw[F1 (by assumption) gE hm],by
    rw[F1 (by assumption) gE hm];exact (aP.fold ((I.pick (ah (cz W p c) A.xs)).rl (Nat.le_succ c)) B p (c+1) { v with net:=v.net.eraseIdx j } A ⟨hA.fk,hA.ps,hA.ev⟩).sub⟩
  refine IF 3 E I (λay a E=>?_) λay a E=>?_
  ·
   refine bL 2 [5,7,9,10] [0,1,2,4,6,8,3003,3005,3007,1009,1010,1011,12] E I λa w E I hH U=>?_;refine RH 10 E I hH U λa E=>?_;refine SS E (gd E underlying3 underlying5) λa E=>?_;rw[fz.u8,gE]at E;refine RH 0 E I hH U λa E=>?_;refine CL 0 E I (abo (I.pick (bD B.q (v.net.map cS))) hm) λa w E I=>?_;refine RN 1 E I λa E=>?_;refine IF 0 E I (λbg a E=>?_) λbg a E=>?_
   ·
    have ho:t.a<0∨(m.2.2.length:Int)≤t.a:=by
     by_cases h1:t.a<0
     ·exact .inl h1
     ·by_cases h2:(m.2.2.length:Int)≤t.a
      ·exact .inr h2
      ·simp at bg;omega
    refine RT 2 E I ?_;exact⟨by rw[uB (by assumption) gE hm,al ho],by
     rw[uB (by assumption) gE hm,al ho];rw[al ho]at I;exact (aP.fold ((I.pick (ah (cz W p c) A.xs)).rl (Nat.le_succ c)) B p (c+1) v A hA).sub⟩
   have ho:¬ (t.a<0∨(m.2.2.length:Int)≤t.a):=by
    simp at bg;omega
   refine RT 2 E I ?_;exact⟨by rw[uB (by assumption) gE hm,ae ho],by
    rw[uB (by assumption) gE hm,ae ho];rw[ae ho]at I;exact (aP.fold ((I.pick (ah (cz W p c) A.xs)).rl (Nat.le_succ c)) B p (c+1) { v with net:=v.net.set j (m.1,m.2.1,m.2.2.set t.a.toNat (m.2.2.getD t.a.toNat 0 ^^^ fU t.b)) } A ⟨hA.fk,hA.ps,hA.ev⟩).sub⟩
  refine IF 3 E I (λbM a E=>?_) λbM a E=>?_
  ·
   refine bL 0 [5] [0,1,2,4,3003,1005,1006] E I λa w E I hH U=>?_;refine RH 6 E I hH U λa E=>?_;rw[gE]at E;refine CL 0 E I (MP (I.pick (bD B.q (v.net.map cS))) hm) λa w E I=>?_;refine RN 0 E I λa E=>?_;rw[ae (by omega)];exact⟨⟨⟨by omega,by omega⟩,E.ab [0,5]⟩,I.sub⟩
  refine RN 0 E I λa E=>?_;rw[al (by omega)];exact⟨⟨⟨by omega,by omega⟩,E.ab [0,5]⟩,I.sub⟩
 clear E;(try clear I);rintro a w ⟨⟨jk,E⟩,I⟩;refine aY 1 (λw0 w'=>Rd w' b5 0 [.int .i64 m.1,.int .i64 m.2.1,.slice am m.2.2.length ji]) [3,5] [0,1,4,3002,3005,1003,1006,7] E I λa w E I hH=>?_;have U:=hH.at w (I.ai (b:=b5));refine RH 3 E I hH U λa E=>?_;refine QH E (λw hc=>ag E (hc 1 _ rfl)) U λa E=>?_;refine QH E (λw hc=>ag E (hc 2 _ rfl)) U λa E=>?_;refine RH 0 E I hH U λa E=>?_;refine CL 0 E I (rp ((I.pick (Sl 81 1 A.adL A.xs.length A.cL (A.xs.map cB))).pick (aa B.mb 107 (jx B A))) AV) λa w E I=>?_;replace U:=hH.at w (I.ai (b:=b5));rw[yn]at E;replace I:=aP.out (I.pick (ah (cz W p c) A.xs)) hx;refine RH 0 E I hH U λa E=>?_;refine jl E rfl hM.FB hM.FC rfl (hM.recv _ _ c (aq v m.2.1) m.2.2 am ji mL hw (by omega) (I.sl am).2 (λw' dh=>(dh.pick (Sl 5 1 am m.2.2.length ji (bc m.2.2))).cF am _ rfl rfl) (I.pick (x.J W p c (aq v m.2.1)))) (by rfl) ?_;clear E I;rintro e w ⟨rfl,I⟩;refine⟨_,rfl,λa E=>?_⟩;refine RN 1 E I λa E=>?_;refine RT 0 E I ?_;exact⟨by rw[AX jk.1 jk.2 gE hm],by
  rw[AX jk.1 jk.2 gE hm];exact aP.put hA hx (Nat.le_succ c) (if t.fn=5 then v.net else v.net.eraseIdx j) I.sub⟩
end
end
section
section
variable {W w:World}{L:List SP}{n c d cL cE mb i j q:Nat}{ad adL adE:Option Addr}{p:Pr}{B:jw}{A:nz}{v u:Wd}{x:fA}{s s':Pl}{t:fz}{net:List Ml}{cf:Cf}{xs:List (fA×Pl)}{es:List kl}
theorem jw.Ok.less (h:B.Ok p d)(hc:c≤d):B.Ok p c:=⟨h.pr,h.sz,h.gs,gO hc h.c⟩
theorem aP.more (I:V W w (aP W B p c v::L))(h:c≤d):V W w (aP W B p d v::L):=by
 replace I:=aP.open I;obtain⟨A,hA,I⟩:=I;exact (aP.fold ((I.pick (ah (cz W p c) A.xs)).rl h) B p d v A hA).sub
theorem aP.wm (I:V W w (aP W B p c v::L)):∃ (adL:Option Addr) (cL:Nat) (adE:Option Addr) (cE:Nat) (xs:List (fA×Pl)) (es:List kl),(xs.map (·.1)=B.fk∧xs.map (·.2)=v.ps∧es.map (·.2.2)=v.ev) ∧
   V W w (aa B.mb 107 [.slice adL xs.length cL,pt B.q,.slice adE es.length cE]::Sl 81 1 adL xs.length cL (xs.map cB)::ah (cz W p c) xs::bD B.q (v.net.map cS)::Sl 90 1 adE es.length cE (es.map bF)::ah eC es::L):=by
 replace I:=aP.open I;obtain⟨⟨adL,cL,adE,cE,xs,es⟩,hA,I⟩:=I;exact⟨adL,cL,adE,cE,xs,es,⟨hA.fk,hA.ps,hA.ev⟩,I⟩
theorem aP.uC (I:V W w (aa B.mb 107 [.slice adL xs.length cL,pt B.q,.slice adE es.length cE]::Sl 81 1 adL xs.length cL (xs.map cB)::ah (cz W p c) xs::bD B.q (v.net.map cS)::Sl 90 1 adE es.length cE (es.map bF)::ah eC es::L))
   (h1:xs.map (·.1)=B.fk) (h2:xs.map (·.2)=v.ps) (h3:es.map (·.2.2)=v.ev):V W w (aP W B p c v::L) :=
 V.shut (M:=[_,_,_,_,_,_]) I λ_ h=>⟨⟨adL,cL,adE,cE,xs,es⟩,⟨h1,h2,h3⟩,h⟩
theorem F2 {ps:List Pl}{fk:List fA}(h1:xs.map (·.1)=fk)(h2:xs.map (·.2)=ps)(hi:i<xs.length):∃ x,xs[i]?=some (x,ps.getD i AN)∧fk[i]?=some x:=by
 refine⟨xs[i].1,?_,by rw[← h1,bn,aO hi];rfl⟩;rw[aO hi,bl,← h2,bn,aO hi];rfl
theorem AY (I:V W w (ah (cz W p c) xs::L))(hx:xs[i]?=some (x,s)):V W w (x.J W p c s::ah (cz W p c) (xs.eraseIdx i)::L):=by
 obtain⟨hi,h1⟩:=a1.1 hx;have h2:=I.fE hi;rw[h1]at h2;exact h2
theorem abr (I:V W w (x.J W p d s'::ah (cz W p c) (xs.eraseIdx i)::L))(hx:xs[i]?=some (x,s))(h:c≤d):V W w (ah (cz W p d) (xs.set i (x,s'))::L):=by
 obtain⟨hi,h1⟩:=a1.1 hx;exact V.ko (f:=cz W p d) (x:=(x,s')) hi (((I.pick (ah (cz W p c) (xs.eraseIdx i))).rl h).pick (x.J W p d s'))
theorem MR (hx:xs[i]?=some (x,s)):(xs.set i (x,s')).map cB=xs.map cB∧(xs.set i (x,s')).map (·.1)=xs.map (·.1):=by
 obtain⟨hi,h1⟩:=a1.1 hx;constructor
 ·rw[List.map_set,show cB (x,s')=(xs.map cB)[i]'(by rw[bf];exact hi) from by rw[getElem_map,h1],set_getElem_self]
 ·rw[List.map_set];show (xs.map (·.1)).set i x=_;rw[show x=(xs.map (·.1))[i]'(by rw[bf];exact hi) from by rw[getElem_map,h1],set_getElem_self]
def AZ (B:jw)(t:fz)(v:Wd)(z:Int):Prop:=z=7∨(z=0∧(0≤t.a∧t.a<v.ps.length)∧0≤t.b∧t.b<(aq v t.a.toNat).k.workers∧∃ x M,B.fk[t.a.toNat]?=some x∧x.z=.mu M)
theorem A4 (I:V W w (aP W B p c v::L))(hB:B.Ok p c)(hv:bI p cf c v)(hf:t.fn=1∨t.fn=2∨t.fn=8∨t.fn=7) :
   Calls prog 44 #[pt B.mb,.agg (dC t).toArray] w λe w'=>∃ z:Int,e=.returned (.int .i64 z)∧(t.fn≠7→z=(gm p t v).1)∧(t.fn=7→AZ B t v z)∧V W w' (aP W B p (c+1) (gm p t v).2::L):=by
 by_cases h0:t.a<0∨(v.ps.length:Int)≤t.a
 ·refine (abm I h0).mono λe w' ⟨h,I⟩=>⟨7,h,λ_=>?_,λ_=>.inl rfl,?_⟩
  ·rw[gm,al h0]
  ·rw[gm,al h0];exact aP.more I (Nat.le_succ c)
 ·refine (abn (i:=t.a.toNat) I hB hv (by omega) hf (by omega)).mono λe w' ⟨z,h,h1,h2,I⟩=>⟨z,h,h1,λh7=>?_,I⟩;rcases h2 h7 with h3 | ⟨h3,h4,h5,h6⟩
  ·exact .inl h3
  ·exact .inr ⟨h3,by omega,h4,h5,h6⟩
theorem A5 (I:V W w (aP W B p c v::L))(hB:B.Ok p c)(hv:bI p cf c v)(hf:t.fn=3∨t.fn=4∨t.fn=5∨t.fn=6) :
   Calls prog 45 #[pt B.mb,.agg (dC t).toArray] w λe w'=>e=.returned (.int .i64 (gD p t v).1)∧V W w' (aP W B p (c+1) (gD p t v).2::L):=by
 by_cases h0:t.n<0∨(v.net.length:Int)≤t.n
 ·rw[MQ h0];exact (abp I h0).mono λe w' ⟨h,I⟩=>⟨h,aP.more I (Nat.le_succ c)⟩
 ·exact abq (j:=t.n.toNat) I hB hv hf (by omega) (aO (by omega))
set_option maxHeartbeats 2000000 in
theorem MS (I:V W w (aP W B p c v::L))(hB:B.Ok p (c+10))(hv:bI p cf c v)(k0:9*c+100≤1000000000) :
   Calls prog 29 #[pt B.mb,.agg (dC t).toArray] w λe w'=>∃ z:Int,e=.returned (.int .i64 z)∧(t.fn≠7→z=(bt p t v).1)∧(t.fn=7→AZ B t v z)∧V W w' (aP W B p (c+10) (lh (bt p t v).2)::L):=by
 have hu:=hv.step (s:=t);refine EN func29 ntmps29 rfl rfl λa E=>?_;refine BX 1 E I λb3 a w E I=>?_;change V W w (aa b3 58 (dC t)::_) at I;refine RN 5 E I λa E=>?_;replace E:=E.aN 9;refine RN 3 E I λa E=>?_;refine bZ (M:=λa w=>(∃ z:Int,((t.fn≠7→z=(bt p t v).1)∧(t.fn=7→AZ B t v z))∧Fr a 56 [(0,pt B.mb),(5,.int .i64 z)])∧V W w (aP W B p (c+1) (bt p t v).2::L)) ?_ ?_
 ·
  refine IF 7 E I (λan a E=>?_) λan a E=>?_
  ·
   refine bd 3 E I (A4 (I.pick (aP W B p c v)) (hB.less (by omega)) hv (by omega)) λz a w E ⟨c5,eN,I⟩=>?_;refine RN 1 E I λa E=>?_
   first
    | (have aQ : bt p t v = gm p t v := by rw [bt, ae (by omega), ae (by omega)]
       rw[aQ];exact⟨⟨z,⟨c5,eN⟩,E.ab [0,5]⟩,I.sub⟩)
    | (have aQ : bt p t v = gD p t v := by rw [bt, ae (by omega), al (by omega)]
       rw[aQ];exact⟨⟨_,⟨λ_=>rfl,λh=>by omega⟩,E.ab [0,5]⟩,I.sub⟩)
    | (have aQ : bt p t v = (1, v) := by rw [bt, al (by omega)]
       rw[aQ];exact⟨⟨1,⟨λ_=>rfl,λh=>by omega⟩,E.ab [0,5]⟩,(aP.more (I.pick (aP W B p c v)) (Nat.le_succ c)).sub⟩)
  refine IF 3 E I (λay a E=>?_) λay a E=>?_
  ·
   refine bd 3 E I (A4 (I.pick (aP W B p c v)) (hB.less (by omega)) hv (by omega)) λz a w E ⟨c5,eN,I⟩=>?_;refine RN 1 E I λa E=>?_
   first
    | (have aQ : bt p t v = gm p t v := by rw [bt, ae (by omega), ae (by omega)]
       rw[aQ];exact⟨⟨z,⟨c5,eN⟩,E.ab [0,5]⟩,I.sub⟩)
    | (have aQ : bt p t v = gD p t v := by rw [bt, ae (by omega), al (by omega)]
       rw[aQ];exact⟨⟨_,⟨λ_=>rfl,λh=>by omega⟩,E.ab [0,5]⟩,I.sub⟩)
    | (have aQ : bt p t v = (1, v) := by rw [bt, al (by omega)]
       rw[aQ];exact⟨⟨1,⟨λ_=>rfl,λh=>by omega⟩,E.ab [0,5]⟩,(aP.more (I.pick (aP W B p c v)) (Nat.le_succ c)).sub⟩)
  refine IF 3 E I (λbg a E=>?_) λbg a E=>?_
  ·
   refine bd 3 E I (A4 (I.pick (aP W B p c v)) (hB.less (by omega)) hv (by omega)) λz a w E ⟨c5,eN,I⟩=>?_;refine RN 1 E I λa E=>?_
   first
    | (have aQ : bt p t v = gm p t v := by rw [bt, ae (by omega), ae (by omega)]
       rw[aQ];exact⟨⟨z,⟨c5,eN⟩,E.ab [0,5]⟩,I.sub⟩)
    | (have aQ : bt p t v = gD p t v := by rw [bt, ae (by omega), al (by omega)]
       rw[aQ];exact⟨⟨_,⟨λ_=>rfl,λh=>by omega⟩,E.ab [0,5]⟩,I.sub⟩)
    | (have aQ : bt p t v = (1, v) := by rw [bt, al (by omega)]
       rw[aQ];exact⟨⟨1,⟨λ_=>rfl,λh=>by omega⟩,E.ab [0,5]⟩,(aP.more (I.pick (aP W B p c v)) (Nat.le_succ c)).sub⟩)
  refine IF 2 E I (λbM a E=>?_) λbM a E=>?_
  ·
   refine bd 2 E I (A4 (I.pick (aP W B p c v)) (hB.less (by omega)) hv (by omega)) λz a w E ⟨c5,eN,I⟩=>?_;refine RN 1 E I λa E=>?_
   first
    | (have aQ : bt p t v = gm p t v := by rw [bt, ae (by omega), ae (by omega)]
       rw[aQ];exact⟨⟨z,⟨c5,eN⟩,E.ab [0,5]⟩,I.sub⟩)
    | (have aQ : bt p t v = gD p t v := by rw [bt, ae (by omega), al (by omega)]
       rw[aQ];exact⟨⟨_,⟨λ_=>rfl,λh=>by omega⟩,E.ab [0,5]⟩,I.sub⟩)
    | (have aQ : bt p t v = (1, v) := by rw [bt, al (by omega)]
       rw[aQ];exact⟨⟨1,⟨λ_=>rfl,λh=>by omega⟩,E.ab [0,5]⟩,(aP.more (I.pick (aP W B p c v)) (Nat.le_succ c)).sub⟩)
  refine IF 4 E I (λeP a E=>?_) λeP a E=>?_
  ·
   refine CL 3 E I (A5 (I.pick (aP W B p c v)) (hB.less (by omega)) hv (by omega)) λa w E I=>?_;refine RN 1 E I λa E=>?_
   first
    | (have aQ : bt p t v = gm p t v := by rw [bt, ae (by omega), ae (by omega)]
       rw[aQ];exact⟨⟨z,⟨c5,eN⟩,E.ab [0,5]⟩,I.sub⟩)
    | (have aQ : bt p t v = gD p t v := by rw [bt, ae (by omega), al (by omega)]
       rw[aQ];exact⟨⟨_,⟨λ_=>rfl,λh=>by omega⟩,E.ab [0,5]⟩,I.sub⟩)
    | (have aQ : bt p t v = (1, v) := by rw [bt, al (by omega)]
       rw[aQ];exact⟨⟨1,⟨λ_=>rfl,λh=>by omega⟩,E.ab [0,5]⟩,(aP.more (I.pick (aP W B p c v)) (Nat.le_succ c)).sub⟩)
  refine IF 3 E I (λmK a E=>?_) λmK a E=>?_
  ·
   refine CL 3 E I (A5 (I.pick (aP W B p c v)) (hB.less (by omega)) hv (by omega)) λa w E I=>?_;refine RN 1 E I λa E=>?_
   first
    | (have aQ : bt p t v = gm p t v := by rw [bt, ae (by omega), ae (by omega)]
       rw[aQ];exact⟨⟨z,⟨c5,eN⟩,E.ab [0,5]⟩,I.sub⟩)
    | (have aQ : bt p t v = gD p t v := by rw [bt, ae (by omega), al (by omega)]
       rw[aQ];exact⟨⟨_,⟨λ_=>rfl,λh=>by omega⟩,E.ab [0,5]⟩,I.sub⟩)
    | (have aQ : bt p t v = (1, v) := by rw [bt, al (by omega)]
       rw[aQ];exact⟨⟨1,⟨λ_=>rfl,λh=>by omega⟩,E.ab [0,5]⟩,(aP.more (I.pick (aP W B p c v)) (Nat.le_succ c)).sub⟩)
  refine IF 3 E I (λl6 a E=>?_) λl6 a E=>?_
  ·
   refine CL 3 E I (A5 (I.pick (aP W B p c v)) (hB.less (by omega)) hv (by omega)) λa w E I=>?_;refine RN 1 E I λa E=>?_
   first
    | (have aQ : bt p t v = gm p t v := by rw [bt, ae (by omega), ae (by omega)]
       rw[aQ];exact⟨⟨z,⟨c5,eN⟩,E.ab [0,5]⟩,I.sub⟩)
    | (have aQ : bt p t v = gD p t v := by rw [bt, ae (by omega), al (by omega)]
       rw[aQ];exact⟨⟨_,⟨λ_=>rfl,λh=>by omega⟩,E.ab [0,5]⟩,I.sub⟩)
    | (have aQ : bt p t v = (1, v) := by rw [bt, al (by omega)]
       rw[aQ];exact⟨⟨1,⟨λ_=>rfl,λh=>by omega⟩,E.ab [0,5]⟩,(aP.more (I.pick (aP W B p c v)) (Nat.le_succ c)).sub⟩)
  refine IF 2 E I (λl7 a E=>?_) λl7 a E=>?_
  ·
   refine CL 2 E I (A5 (I.pick (aP W B p c v)) (hB.less (by omega)) hv (by omega)) λa w E I=>?_;refine RN 1 E I λa E=>?_
   first
    | (have aQ : bt p t v = gm p t v := by rw [bt, ae (by omega), ae (by omega)]
       rw[aQ];exact⟨⟨z,⟨c5,eN⟩,E.ab [0,5]⟩,I.sub⟩)
    | (have aQ : bt p t v = gD p t v := by rw [bt, ae (by omega), al (by omega)]
       rw[aQ];exact⟨⟨_,⟨λ_=>rfl,λh=>by omega⟩,E.ab [0,5]⟩,I.sub⟩)
    | (have aQ : bt p t v = (1, v) := by rw [bt, al (by omega)]
       rw[aQ];exact⟨⟨1,⟨λ_=>rfl,λh=>by omega⟩,E.ab [0,5]⟩,(aP.more (I.pick (aP W B p c v)) (Nat.le_succ c)).sub⟩)
  refine RN 0 E I λa E=>?_
  first
   | (have aQ : bt p t v = gm p t v := by rw [bt, ae (by omega), ae (by omega)]
      rw[aQ];exact⟨⟨z,⟨c5,eN⟩,E.ab [0,5]⟩,I.sub⟩)
   | (have aQ : bt p t v = gD p t v := by rw [bt, ae (by omega), al (by omega)]
      rw[aQ];exact⟨⟨_,⟨λ_=>rfl,λh=>by omega⟩,E.ab [0,5]⟩,I.sub⟩)
   | (have aQ : bt p t v = (1, v) := by rw [bt, al (by omega)]
      rw[aQ];exact⟨⟨1,⟨λ_=>rfl,λh=>by omega⟩,E.ab [0,5]⟩,(aP.more (I.pick (aP W B p c v)) (Nat.le_succ c)).sub⟩)
 clear E;(try clear I);rintro a w ⟨⟨z,hz,E⟩,I⟩;refine RN 2 E I λa E=>?_;generalize (bt p t v).2=u at I hu ⊢;replace I:=aP.wm I;obtain⟨adL,cL,adE,cE,yo,yp,⟨ep,dc,ew⟩,I⟩:=I;have ch:yo.length=u.ps.length:=by rw[← dc,bf]
 have rq:yp.length=u.ps.length:=by rw[← hu.ev,← ew,bf]
 have vY:=hu.len;have mL:=hB.c;refine RN 6 E I λa E=>?_;refine aS (λμ a w=>∃ (i:Nat) (xs:List (fA×Pl)) (es:List kl),(μ=u.ps.length-i∧(i≤u.ps.length∧xs.length=u.ps.length∧es.length=u.ps.length)∧xs.map (·.1)=B.fk∧xs.map (·.2)=(cw u i).ps∧es.map (·.2.2)=(cw u i).ev)∧Fr a 56 [(0,pt B.mb),(5,.int .i64 z),(31,.slice adL u.ps.length cL),(32,.int .i64 u.ps.length),(33,.int .i64 i)]∧V W w (aa B.mb 107 [.slice adL u.ps.length cL,pt B.q,.slice adE u.ps.length cE]::Sl 81 1 adL u.ps.length cL (xs.map cB)::ah (cz W p (c+1+i)) xs::bD B.q (u.net.map cS)::Sl 90 1 adE u.ps.length cE (es.map bF)::ah eC es::L)) (u.ps.length) (⟨0,yo,yp,⟨rfl,⟨by omega,ch,rq⟩,ep,dc,ew⟩,(by rw[ch]at E;exact E.ab [0,5,31,32,33]),(by rw[ch,rq]at I;exact I.sub)⟩) ?_;clear E I;rintro μ a w ⟨i,xs,es,⟨rfl,⟨hi,yq,yr⟩,tO,sC,p4⟩,E,I⟩;refine IF 3 E I (λk0 a E=>?_) λk0 a E=>?_
 ·
  have aJ:i<u.ps.length:=by omega
  obtain⟨x,hx,oz⟩:∃ x,xs[i]?=some (x,aq (cw u i) i)∧B.fk[i]?=some x:=F2 tO sC (by omega);obtain⟨_,gT⟩:=a1.1 hx;have hM:=x.p6 (W:=W) (p:=p) hB.pr hB.sz (hB.gs x (bE oz));have hd:=hu.cw (i:=i) (by omega);obtain⟨hw,df,wk⟩:=hd.pl i (by rw[(rk u i).1];exact aJ);have F3:=hd.kK;obtain⟨im,iq,l,kQ⟩:∃ im iq l,es[i]?=some (im,iq,l):=⟨_,_,_,aO (by omega)⟩;obtain⟨_,oA⟩:=a1.1 kQ;have ia:l.length≤9*(c+2):=(F3 l (by rw[← p4];exact c8.2 ⟨(im,iq,l),by rw[← oA];exact getElem_mem _,rfl⟩)).1;have yn:(xs.map cB)[i]?=some (.iface x.z.t (.pointer (some x.z.ad))):=by rw[bn,hx];rfl
  refine RN 2 E I λa E=>?_;obtain⟨mx,ol,rfl,iK⟩:=(I.pick (Sl 81 1 adL u.ps.length cL (xs.map cB))).bY adL (by omega);have fG:=iK i _ yn;refine RN 2 E I λa E=>?_;refine SS E (ag E (fG)) λa E=>?_;refine RN 2 E I λa E=>?_;obtain⟨iD,oE,rfl,_⟩:=(I.pick (Sl 90 1 adE u.ps.length cE (es.map bF))).bY adE (by omega);refine aY 0 (λw0 w'=>Rd w' B.mb 0 [.slice (some ⟨mx,ol,none⟩) u.ps.length cL,pt B.q,.slice (some ⟨iD,oE,none⟩) u.ps.length cE]∧Rd w' iD oE (es.map bF)) [8,10,11,13,14] [0,1,2,4,5,6,7,9,12,3003,3008,3010,3011,1013,1014,15,1016] E I λa w E I hH=>?_;have U:=hH.at w ⟨I.ai (b:=B.mb),I.cX iD oE (by omega)⟩;refine RH 9 E I hH U λa E=>?_;refine QH E (λw hc=>ag E (hc.1 2 _ rfl)) U λa E=>?_;refine QH E (λw hc=>ag E (hc.1 2 _ rfl)) U λa E=>?_;refine RH 1 E I hH U λa E=>?_;refine QH E (λw hc=>ag E (hc.2 i (.slice im l.length iq) (by rw[bn,kQ];rfl))) U λa E=>?_;replace I:=AY (I.pick (ah (cz W p (c+1+i)) xs)) hx;refine RH 0 E I hH U λa E=>?_;refine jl E rfl hM.FG hM.cE rfl (hM.events _ _ (c+1+i) (aq (cw u i) i) (by omega) hw (I.pick (x.J W p (c+1+i) (aq (cw u i) i)))) (by rfl) ?_;clear E I;rintro e w ⟨am,ji,rfl,I⟩;refine⟨_,rfl,λa E=>?_⟩;replace U:=hH.at w ⟨I.ai (b:=B.mb),I.cX iD oE (by omega)⟩;replace I:=(I.pick (ah eC es)).fE (i:=i) (by omega);rw[oA]at I;change V W w (Sl 135 1 im l.length iq (l.map cy)::_) at I;have MT:=hw.wc.kK;refine RH 0 E I hH U λa E=>?_;refine gW E rfl I underlying90 Ty.t135 rfl rfl (by decide) (λh0=>(I.pick (Sl 135 1 am (aq (cw u i) i).k.ev.length ji ((aq (cw u i) i).k.ev.map cy))).bY am h0) (by rw[bf,Nat.mul_one]) (MK _) (by omega) λqV qW a w E I=>?_;replace U:=hH.at w ⟨I.ai (b:=B.mb),I.cX iD oE (by omega)⟩;have hcE:=((I.pick (Sl 90 1 (some ⟨iD,oE,none⟩) u.ps.length cE (es.map bF))).sl (some ⟨iD,oE,none⟩)).2;obtain⟨lj,pre,post,⟨h3,h4,h5,h6⟩,gx⟩:=(I.pick (Sl 90 1 (some ⟨iD,oE,none⟩) u.ps.length cE (es.map bF))).ln (by omega);replace I:=gx;clear gx;obtain⟨rfl,rfl⟩:iD=lj∧oE=pre.length:=by simpa using h5
  refine RH 1 E I hH U λa E=>?_;refine ST 0 E I (λa w E I=>?_) (hlt:=(by simp only[aK,bf];omega));refine RN 2 E I λa E=>?_;have p5:(cw u i).ev.getD i []=l:=by rw[← p4,bl,bn,kQ];rfl
  have F4:(es.map bF).set i (.slice qV (l.length+(aq (cw u i) i).k.ev.length) qW)=(es.set i (qV,qW,l++(aq (cw u i) i).k.ev)).map bF:=by
   rw[List.map_set,bF,aK]
  have dy:=I;rw[yh (by rw[bf];omega),F4]at dy;replace dy:=V.iF (n:=u.ps.length) (c:=cE) (sz:=1) (dy.jy iD) (by rw[bf,br];omega) h4 h6;have hj:=dy.pick (ah (cz W p (c+1+i)) (xs.eraseIdx i));have hk:=abr (s':=⟨{ (aq (cw u i) i).k with ev:=[] },(aq (cw u i) i).g⟩) (hj.pick (x.J W p (c+1+i+1) ⟨{ (aq (cw u i) i).k with ev:=[] },(aq (cw u i) i).g⟩)) hx (Nat.le_succ _);have pn:Sl 135 1 qV (l.length+(aq (cw u i) i).k.ev.length) qW (l.map cy++(aq (cw u i) i).k.ev.map cy)=eC (qV,qW,l++(aq (cw u i) i).k.ev):=by
   rw[eC,aK,cU]
  have hq:=(hk.pick (ah eC (es.eraseIdx i))).pick (Sl 135 1 qV (l.length+(aq (cw u i) i).k.ev.length) qW (l.map cy++(aq (cw u i) i).k.ev.map cy));rw[pn]at hq;have eN:=V.ko (f:=eC) (i:=i) (by omega) hq;refine⟨u.ps.length-(i+1),by omega,i+1,xs.set i (x,⟨{ (aq (cw u i) i).k with ev:=[] },(aq (cw u i) i).g⟩),es.set i (qV,qW,l++(aq (cw u i) i).k.ev),⟨rfl,⟨by omega,by rw[br];exact yq,by rw[br];exact yr⟩,(MR hx).2.trans tO,?_,?_⟩,E.ab [0,5,31,32,33],?_⟩
  ·rw[List.map_set,sC];rfl
  ·rw[List.map_set,p4,← p5];rfl
  ·rw[(MR hx).1];exact eN.sub
 refine RT 3 E I ?_;obtain rfl:i=u.ps.length:=by omega
 refine⟨z,rfl,hz.1,hz.2,?_⟩;have dy:=(I.pick (ah (cz W p (c+1+u.ps.length)) xs)).rl (d:=c+10) (by omega);refine aP.uC (adL:=adL) (cL:=cL) (adE:=adE) (cE:=cE) (xs:=xs) (es:=es) ?_ tO sC p4;rw[yq,yr,show (lh u).net=u.net from (rk u _).2.1];exact dy.sub
end
end
section
def mq (p:Pr)(G:List (List UInt8))(f s:Nat):Prop:=f≤aU G∧(0<f→s=k9 p G (f-1))
theorem mq.ext {p:Pr}{G G':List (List UInt8)}{f s:Nat}(h:mq p G f s)(he:Ext G G')(h0:G≠[]):mq p G' f s :=
 ⟨gO h.1 (he.front h0),λhf=>by rw[he.k9 (by have:=h.1;omega)];exact h.2 hf⟩
theorem MU {p:Pr}{k:Ks}(hm:k.mr=(List.range k.mr.length).map (k9 p k.ls)){f:Nat}(hf:f<k.mr.length):k.mr.getD f 0=k9 p k.ls f:=by
 rw[hm,bl,bn,getElem?_range hf];rfl
theorem MV {p:Pr}{G:List (List UInt8)}{k:Ks}(hm:k.mr=(List.range k.mr.length).map (k9 p k.ls))(hl:k.mr.length≤aU k.ls)(he:Ext k.ls G)
   (hw:∀ i,i<k.ps.length→mq p G (au k i).frame (au k i).sum):held k:=λi hi ⟨_,h1,h2,h3⟩=>h3 (by
 rw[MU hm (by omega),← he.k9 (p:=p) (f:=(au k i).frame-1) (by omega)];exact ((hw i hi).2 (by omega)).symm)
theorem MW {p:Pr}{G:List (List UInt8)}:∀ (n:Nat) {s:Pl},WP p s→Ext s.k.ls G→(∀ i,i<s.k.ps.length→mq p G (au s.k i).frame (au s.k i).sum)→n≤ax s.k-s.k.mr.length →
   ∃ mr,(ik p n s).k={ s.k with mr:=mr }
 | 0,s,_,_,_,_=>⟨s.k.mr,rfl⟩
 | n+1,s,h,he,hw,hn=>by
  have h9:=h.wc.nq;have h8:=h.wc.lG;obtain⟨h1,h2,h3⟩:=h.one (by omega);have hg:eY p s.k.mr.length (cp s.k.ls s.k.mr.length) s.g=k8 p s.k.ls (s.k.mr.length+1):=by rw[Kg,h.q5]
  have hk:(nr p s).k={ s.k with mr:=s.k.mr++[k9 p s.k.ls s.k.mr.length] }:=by
   show k7 s.k _=_;rw[k7,al (by omega),hg];refine held.kJ (MV (p:=p) (G:=G) ?_ ?_ he hw)
   ·show s.k.mr++[_]=(List.range (s.k.mr++[_]).length).map (k9 p s.k.ls);rw[aK,ja,range_succ,cU,← h.marks];rfl
   ·show (s.k.mr++[_]).length≤aU s.k.ls;rw[aK,ja];simp only[ax]at hn;omega
  obtain⟨mr,h4⟩:=MW n h1 (by rw[h2];exact he) (λi hi=>by rw[hk]at hi ⊢;exact hw i hi) (by rw[ax,h2,h3];simp only[ax]at hn;omega);exact⟨mr,by rw[ik,h4,hk]⟩
theorem F5 {p:Pr}{G:List (List UInt8)}{s:Pl}(h:WP p s)(he:Ext s.k.ls G)(hw:∀ i,i<s.k.ps.length→mq p G (au s.k i).frame (au s.k i).sum):∃ mr,(ey p s).k={ s.k with mr:=mr } :=
 MW _ h he hw (bh _)
structure hK (p:Pr)(G:List (List UInt8))(s:Pl):Prop where
 wf:cx p s
 ext:Ext s.k.ls G
 own:s.k.ls.getD s.k.me []=G.getD s.k.me []
 pe:∀ i,i<s.k.ps.length→(au s.k i).apart=false∧mq p G (au s.k i).frame (au s.k i).sum
structure uD (p:Pr)(G:List (List UInt8))(q:Pk):Prop where
 may:hC q
 sum:q.sum<4294967296
 uE:q.kind=1→q.first.toNat+q.ak.length≤(G.getD q.aV.toNat []).length∧q.ak=((G.getD q.aV.toNat []).drop q.first.toNat).take q.ak.length
 word:q.kind=1→mq p G q.frame.toNat q.sum
theorem uD.ext {p:Pr}{G G':List (List UInt8)}{q:Pk}(h:uD p G q)(he:Ext G G')(h0:G≠[])(hq:q.aV.toNat<G.length):uD p G' q:=by
 refine⟨h.may,h.sum,λhk=>?_,λhk=>(h.word hk).ext he h0⟩;obtain⟨h1,h2⟩:=h.uE hk;obtain⟨t,ht⟩:=he.2 _ hq;rw[ht,aK];refine⟨by omega,?_⟩;rw[List.drop_append_of_le_length (by omega),List.take_append_of_le_length (by rw[c7];omega)];exact h2
section
variable {p:Pr}{G G':List (List UInt8)}{s:Pl}{b:UInt8}{q:Pk}
theorem hK.words (h:hK p G s):∀ i,i<s.k.ps.length→mq p G (au s.k i).frame (au s.k i).sum:=λi hi=>(h.pe i hi).2
theorem hK.lens (h:hK p G s):G.length=s.k.n:=by rw[h.ext.1];exact h.wf.wc.ls
theorem hK.F6 (h:hK p G s):G≠[]:=λe=>by
 have h1:=h.lens;have h2:=h.wf.wc.n;rw[e,length_nil]at h1;omega
theorem hK.more (h:hK p G s)(he:Ext G G')(ho:G'.getD s.k.me []=G.getD s.k.me []):hK p G' s :=
 ⟨h.wf,h.ext.trans he,h.own.trans ho.symm,λi hi=>⟨(h.pe i hi).1,(h.pe i hi).2.ext he h.F6⟩⟩
theorem hK.ak (h:hK p G s)(h0:(dI p b s).1=0) :
   hK p (G.set s.k.me (G.getD s.k.me []++[b])) (dI p b s).2∧∃ mr,(dI p b s).2.k={ s.k with ls:=s.k.ls.set s.k.me (s.k.ls.getD s.k.me []++[b]),mr:=mr }:=by
 obtain⟨h1,h2,h3,h4⟩:=tV (k:=s.k) (b:=b) h0;have he:=tX b s.k;have kY:=h.wf.toWP.more (h.wf.wc.ak b) (h.wf.held.ak b) he.1 he.2;have eA:s.k.me<s.k.ls.length:=by rw[h.wf.wc.ls];exact h.wf.wc.me
 have MX:s.k.me<G.length:=by rw[h.ext.1];exact eA
 have oB:Ext G (G.set s.k.me (G.getD s.k.me []++[b])):=Ext.set;have hx:Ext (c3 b s.k).2.ls (G.set s.k.me (G.getD s.k.me []++[b])):=by
  rw[h4];refine⟨by simp only[br];exact h.ext.1,λi hi=>?_⟩;simp only[br]at hi;by_cases e:i=s.k.me
  ·subst e;refine⟨[],?_⟩;simp only;rw[bl,getElem?_set_self MX,bl (l:=s.k.ls.set _ _),getElem?_set_self eA,h.own];simp
  ·obtain⟨t,ht⟩:=h.ext.2 i hi;refine⟨t,?_⟩;simp only;rw[bl,getElem?_set_ne (λe2=>e e2.symm),bl (l:=s.k.ls.set _ _),getElem?_set_ne (λe2=>e e2.symm),← bl,← bl];exact ht
 have gz:(c3 b s.k).2.ps=s.k.ps:=by rw[h4]
 have yR:∀ i,i<s.k.ps.length→mq p (G.set s.k.me (G.getD s.k.me []++[b])) (au (c3 b s.k).2 i).frame (au (c3 b s.k).2 i).sum:=λi hi=>by
  have:=(h.words i hi).ext oB h.F6;rw[au,gz];exact this
 obtain⟨mr,hk⟩:=F5 (s:=⟨(c3 b s.k).2,s.g⟩) kY hx (λi hi=>yR i (by rw[← gz];exact hi));have cc:(dI p b s).2.k={ (c3 b s.k).2 with mr:=mr }:=hk;refine⟨⟨h.wf.ak b,by rw[cc];exact hx,?_,λi hi=>?_⟩,mr,by rw[cc,h4]⟩
 ·rw[cc];show (c3 b s.k).2.ls.getD (c3 b s.k).2.me []=(G.set s.k.me (G.getD s.k.me []++[b])).getD (c3 b s.k).2.me [];rw[h4];simp only;rw[bl,getElem?_set_self eA,bl (l:=G.set _ _),getElem?_set_self MX,h.own]
 ·rw[cc]at hi ⊢;have dK:i<s.k.ps.length:=by rw[← gz];exact hi
  refine⟨?_,yR i dK⟩;show (au (c3 b s.k).2 i).apart=false;rw[au,gz];exact (h.pe i dK).1
theorem MY (h:cx p s)(h0:(dI p b s).1≠0):(dI p b s).2=s:=by
 show ey p ⟨(c3 b s.k).2,s.g⟩=s;rw[tW h0];exact h.ey
theorem abt {bs:List UInt8}(h:cx p s)(h0:(dJ p bs s).1≠0):(dJ p bs s).2=s:=by
 show ey p ⟨(dB bs s.k).2,s.g⟩=s;rw[vJ h0];exact h.ey
theorem abu {l t P:List UInt8}{f:Nat}(I:f+P.length≤(l++t).length)(hP:P=((l++t).drop f).take P.length):∃ u,l++t=dr l f P++u:=by
 unfold dr;split
 ·exact⟨t,rfl⟩
 ·rename_i hf;have h1:P.drop (l.length-f)=t.take (P.length-(l.length-f)):=by
   conv=>lhs;rw[hP]
   rw[List.drop_take,drop_drop,show f+(l.length-f)=l.length from by omega,drop_left]
  rw[h1,List.take_take];exact⟨t.drop (min (1000-l.length) (P.length-(l.length-f))),by rw[dw,jz]⟩
theorem MZ (h:cx p s)(hq:hC q)(I:q.sum<4294967296)(hc:s.k.cl=false)(ht:q.to=s.k.me)(hf:q.aV<s.k.n)(bU:q.id=s.k.id):dB (aR q) s.k=(0,fR s.k q):=by
 rw[dB,ae (by rw[hc];decide),Jn hq I];show (if _ then _ else _)=_;rw[ae];rintro (h | h | h)
 ·exact h ht
 ·omega
 ·exact h bU
theorem hK.xO (h:hK p G s)(hq:uD p G q)(hc:s.k.cl=false)(ht:q.to=s.k.me)(hf:q.aV<s.k.n)(bU:q.id=s.k.id)(h1:q.kind=1) :
   hK p G (dJ p (aR q) s).2∧(dJ p (aR q) s).1=0∧∃ mr,(dJ p (aR q) s).2.k={ s.k with ls:=s.k.ls.set q.aV.toNat (dr (s.k.ls.getD q.aV.toNat []) q.first.toNat q.ak),ps:=s.k.ps.set q.aV.toNat (fQ s.k.now (aF s.k) q (au s.k q.aV.toNat)),mr:=mr }:=by
 have hr:=MZ h.wf hq.may hq.sum hc ht hf bU;have fq:q.aV.toNat<s.k.n:=by have:=hq.may.1;omega
 have bN:q.aV.toNat≠s.k.me:=λe=>hq.may.2.2.1 (by have:=hq.may.1;have:=hq.may.2.1;omega);have aJ:q.aV.toNat<s.k.ls.length:=by rw[h.wf.wc.ls];exact fq
 have ru:q.aV.toNat<s.k.ps.length:=by rw[h.wf.wc.ps];exact fq
 obtain⟨t,M0⟩:=h.ext.2 _ aJ;obtain⟨nE,dy⟩:=hq.uE h1;rw[M0]at nE dy;obtain⟨u,hu⟩:=abu nE dy;have hx:Ext (s.k.ls.set q.aV.toNat (dr (s.k.ls.getD q.aV.toNat []) q.first.toNat q.ak)) G:=by
  refine⟨by rw[br];exact h.ext.1,λi hi=>?_⟩;rw[br]at hi;by_cases e:i=q.aV.toNat
  ·subst e;refine⟨u,?_⟩;rw[bl (l:=s.k.ls.set _ _),getElem?_set_self aJ,M0];exact hu
  ·obtain⟨t2,E5⟩:=h.ext.2 i hi;refine⟨t2,?_⟩;rw[bl (l:=s.k.ls.set _ _),getElem?_set_ne (λe2=>e e2.symm),← bl];exact E5
 have M1:∀ i,i<s.k.ps.length→(if i=q.aV.toNat then fQ s.k.now (aF s.k) q (au s.k q.aV.toNat) else au s.k i).apart=false∧mq p G (if i=q.aV.toNat then fQ s.k.now (aF s.k) q (au s.k q.aV.toNat) else au s.k i).frame (if i=q.aV.toNat then fQ s.k.now (aF s.k) q (au s.k q.aV.toNat) else au s.k i).sum:=λi hi=>by
  by_cases e:i=q.aV.toNat
  ·rw[al e];have h9:=h.pe _ ru;unfold fQ;simp only;split
   ·exact⟨h9.1,hq.word h1⟩
   ·exact⟨h9.1,h9.2⟩
  ·rw[ae e];exact h.pe i hi
 have tp:∀ i,i<s.k.ps.length→mq p G (au ({ s.k with ls:=s.k.ls.set q.aV.toNat (dr (s.k.ls.getD q.aV.toNat []) q.first.toNat q.ak),ps:=s.k.ps.set q.aV.toNat (fQ s.k.now (aF s.k) q (au s.k q.aV.toNat)) }:Ks) i).frame (au ({ s.k with ls:=s.k.ls.set q.aV.toNat (dr (s.k.ls.getD q.aV.toNat []) q.first.toNat q.ak),ps:=s.k.ps.set q.aV.toNat (fQ s.k.now (aF s.k) q (au s.k q.aV.toNat)) }:Ks) i).sum:=λi hi=>by
  rw[au,vI ru];exact (M1 i hi).2
 have hh:fR s.k q={ s.k with ls:=s.k.ls.set q.aV.toNat (dr (s.k.ls.getD q.aV.toNat []) q.first.toNat q.ak),ps:=s.k.ps.set q.aV.toNat (fQ s.k.now (aF s.k) q (au s.k q.aV.toNat)) }:=by
  rw[fR,ae (by omega)];refine held.kJ (MV (p:=p) (G:=G) ?_ ?_ hx (λi hi=>tp i (by simpa using hi)))
  ·have eU:=(q6 (aR q) s.k).2;rw[hr]at eU;have h5:=Ef (k:=s.k) (p:=q);rw[fR,ae (by omega)]at h5;obtain⟨ps,ev,h6,_⟩:=vH { s.k with ls:=s.k.ls.set q.aV.toNat (dr (s.k.ls.getD q.aV.toNat []) q.first.toNat q.ak),ps:=s.k.ps.set q.aV.toNat (fQ s.k.now (aF s.k) q (au s.k q.aV.toNat)) };rw[h6]at h5;have h7:Ext s.k.ls (s.k.ls.set q.aV.toNat (dr (s.k.ls.getD q.aV.toNat []) q.first.toNat q.ak)):=h5.2;show s.k.mr=_
   conv=>lhs;rw[h.wf.marks]
   refine List.map_congr_left λi hi=>?_;rw[mem_range]at hi;have hl:=h.wf.low;simp only[ax]at hl;rw[h7.k9 (by omega)]
  ·have h5:=(Ef (k:=s.k) (p:=q)).2;rw[fR,ae (by omega)]at h5;obtain⟨ps,ev,h6,_⟩:=vH { s.k with ls:=s.k.ls.set q.aV.toNat (dr (s.k.ls.getD q.aV.toNat []) q.first.toNat q.ak),ps:=s.k.ps.set q.aV.toNat (fQ s.k.now (aF s.k) q (au s.k q.aV.toNat)) };rw[h6]at h5;have h7:Ext s.k.ls (s.k.ls.set q.aV.toNat (dr (s.k.ls.getD q.aV.toNat []) q.first.toNat q.ak)):=h5;exact gO h.wf.low (h7.front h.wf.wc.kL)
 have he:=q6 (aR q) s.k;have kY:=h.wf.toWP.more (h.wf.wc.recv (aR q)).1 ((h.wf.wc.recv (aR q)).2 h.wf.held) he.1 he.2;have fP:(dB (aR q) s.k).2=fR s.k q:=by rw[hr]
 obtain⟨mr,hk⟩:=F5 (G:=G) (s:=⟨(dB (aR q) s.k).2,s.g⟩) kY (by show Ext (dB (aR q) s.k).2.ls G;rw[fP,hh];exact hx) (λi hi=>by
  change i<(dB (aR q) s.k).2.ps.length at hi;show mq p G (au (dB (aR q) s.k).2 i).frame (au (dB (aR q) s.k).2 i).sum;rw[fP,hh]at hi ⊢;exact tp i (by simpa using hi))
 have cc:(dJ p (aR q) s).2.k={ fR s.k q with mr:=mr }:=by
  have:(dJ p (aR q) s).2.k={ (dB (aR q) s.k).2 with mr:=mr }:=hk;rw[this,fP]
 rw[hh]at cc;refine⟨⟨h.wf.recv _,by rw[cc];exact hx,?_,λi hi=>?_⟩,by show (dB (aR q) s.k).1=0;rw[hr],mr,cc⟩
 ·rw[cc];show (s.k.ls.set q.aV.toNat _).getD s.k.me []=_;rw[bl (l:=s.k.ls.set _ _),getElem?_set_ne bN,← bl];exact h.own
 ·rw[cc]at hi ⊢;have dK:i<s.k.ps.length:=by simpa using hi
  have:=M1 i dK;rw[au,vI ru];exact this
theorem hK.bye (h:hK p G s)(hq:uD p G q)(hc:s.k.cl=false)(ht:q.to=s.k.me)(hf:q.aV<s.k.n)(bU:q.id=s.k.id)(h1:q.kind=2) :
   hK p G (dJ p (aR q) s).2∧(dJ p (aR q) s).1=0∧(dJ p (aR q) s).2.k={ s.k with ps:=s.k.ps.set q.aV.toNat { au s.k q.aV.toNat with heard:=s.k.now },ev:=s.k.ev++[(1,q.aV.toNat,0)],cl:=true }:=by
 have hr:=MZ h.wf hq.may hq.sum hc ht hf bU;have fq:q.aV.toNat<s.k.n:=by have:=hq.may.1;omega
 have ru:q.aV.toNat<s.k.ps.length:=by rw[h.wf.wc.ps];exact fq
 have hh:fR s.k q={ s.k with ps:=s.k.ps.set q.aV.toNat { au s.k q.aV.toNat with heard:=s.k.now },ev:=s.k.ev++[(1,q.aV.toNat,0)],cl:=true }:=by
  rw[fR,al h1]
 have yW:=h.wf.with (k':=fR s.k q) (by have:=(h.wf.wc.recv (aR q)).1;rw[hr]at this;exact this) (by have:=(h.wf.wc.recv (aR q)).2 h.wf.held;rw[hr]at this;exact this) (by rw[hh]) (by rw[hh]);have hk:(dJ p (aR q) s).2=⟨fR s.k q,s.g⟩:=by
  show ey p ⟨(dB (aR q) s.k).2,s.g⟩=_;rw[hr];exact yW.ey
 refine⟨⟨by rw[hk];exact yW,by rw[hk,hh];exact h.ext,by rw[hk,hh];exact h.own,λi hi=>?_⟩,by show (dB (aR q) s.k).1=0;rw[hr],by rw[hk,hh]⟩;rw[hk,hh]at hi ⊢;have dK:i<s.k.ps.length:=by simpa using hi
 rw[au,vI ru];by_cases e:i=q.aV.toNat
 ·rw[al e];exact h.pe _ ru
 ·rw[ae e];exact h.pe i dK
theorem hK.FP (h:hK p G s){i:Nat}(hi:i<s.k.n)(bN:i≠s.k.me)(hh:(au s.k i).has≤aF s.k):uD p G (dS s.k i):=by
 have rv:=h.wf.wc;have hn:=rv.n;have eA:=rv.me;have bU:=rv.id;have ij:=rv.pg hi;have gL:=rv.lG;have uP:=rv.lF hi;have Ky:=rv.mr;have e1:(dS s.k i).aV.toNat=s.k.me:=Int.toNat_natCast _;have e2:(dS s.k i).first.toNat=(au s.k i).has:=Int.toNat_natCast _;have e3:(dS s.k i).frame.toNat=s.k.mr.length:=Int.toNat_natCast _;have yZ:=h.own;have lD:s.k.mr.getLastD 0<4294967296:=by
  rw[getLastD_eq_getLast?];cases hl:s.k.mr.getLast? with
  | none=>simp
  | some x=>simpa using rv.q4 x (List.mem_of_getLast? hl)
 refine⟨?_,lD,λ_=>?_,λ_=>?_⟩
 ·refine⟨⟨?_,?_⟩,⟨?_,?_⟩,?_,?_,.inl ⟨rfl,⟨?_,?_⟩,⟨?_,?_⟩,⟨?_,?_⟩,?_⟩⟩
  all_goals first | (simp only[dS];omega) | skip
  ·show (((s.k.ls.getD s.k.me []).drop (au s.k i).has).take 32).length≤32;rw[en];omega
 ·rw[e1,e2,← yZ];show _+(((s.k.ls.getD s.k.me []).drop (au s.k i).has).take 32).length≤_∧((s.k.ls.getD s.k.me []).drop (au s.k i).has).take 32=((s.k.ls.getD s.k.me []).drop _).take (((s.k.ls.getD s.k.me []).drop (au s.k i).has).take 32).length;rw[en,c7];simp only[aF]at hh;refine⟨by omega,?_⟩;rw[List.take_eq_take_iff,c7];omega
 ·rw[e3];have gw:s.k.mr.length=aU s.k.ls:=h.wf.full;refine⟨by rw[gw];exact h.ext.front rv.kL,λh0=>?_⟩;have tn:s.k.mr.getLastD 0=s.k.mr.getD (s.k.mr.length-1) 0:=by
   rw[getLastD_eq_getLast?,List.getLast?_eq_getElem?,bl]
  show s.k.mr.getLastD 0=_;rw[tn,MU h.wf.marks (by omega),h.ext.k9 (by omega)]
theorem hK.tick (h:hK p G s):hK p G ⟨(bm s.k).2,s.g⟩:=by
 have h1:=Ad s.k;have h2:(bm s.k).2.me=s.k.me∧(bm s.k).2.ps=s.k.ps:=by
  rcases vL s.k with e | ⟨_,e | ⟨i,_,e⟩⟩ <;> rw[e] <;> exact⟨rfl,rfl⟩
 refine⟨h.wf.tick,by show Ext (bm s.k).2.ls G;rw[h1.2];exact h.ext,?_,λi hi=>?_⟩
 ·show (bm s.k).2.ls.getD (bm s.k).2.me []=G.getD (bm s.k).2.me [];rw[h1.2,h2.1];exact h.own
 ·change i<(bm s.k).2.ps.length at hi;rw[h2.2]at hi;show (au (bm s.k).2 i).apart=false∧mq p G (au (bm s.k).2 i).frame (au (bm s.k).2 i).sum;rw[au,h2.2];exact h.pe i hi
end
end
end Go.Proofs.YteoldcfapaiobaaGreat
