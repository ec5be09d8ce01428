/- A configuration and a way to guess that came in as arguments; quintainlaw5.Cut, quintainref21.MayAll. -/
import Derived.Test.YteoldcfapaiobaaGreatH06Ref
import Derived.Test.YteoldcfapaiobaaGreatH13RefC
import Derived.Test.YteoldcfapaiobaaGreatH11Rank
import Derived.Test.YteoldcfapaiobaaGreatH14RefG
import Derived.Test.YteoldcfapaiobaaGreatH12Mul
import Derived.Test.YteoldcfapaiobaaGreatH09CoQ
namespace Go.Proofs.YteoldcfapaiobaaGreat
open Tryz
open List (length_range drop_left take_zero nil_append length_nil mem_range getElem?_range ext_getElem getElem_map map_take map_drop range_succ getElem?_set_ne getElem?_set_self getLastD_eq_getLast?)
open Go.RowKit
set_option linter.unusedVariables false
set_option linter.unusedSimpArgs false
set_option maxRecDepth 10000
set_option synthInstance.maxSize 4000
set_option synthInstance.maxHeartbeats 400000
section
open Go.RowKit Go.ChangeShapes Go.WideShapes Go.ChangeAt
set_option linter.constructorNameAsVariable false
set_option maxRecDepth 100000
section
variable {W w:World}{L:List SP}{n cP cT:Nat}{adP adT:Option Addr}{p:Pr}{tb:List UInt8}{cf:Cf}
theorem pd {x lo hi:Int}(I:U W w L):Calls prog 67 #[.int .i64 x,.int .i64 lo,.int .i64 hi] w λe V=>∃ r:Bool,e=.returned (.bool r)∧(r=true↔dE x lo hi)∧U W V L:=by
 refine EN func67 ntmps67 rfl rfl λa E=>?_;refine BY 7 E I (λbE a E=>?_) λbE a E=>?_
 ·
  refine RT 5 E I ?_;exact⟨_,rfl,⟨λh=>⟨bE,m3 h⟩,λh=>dp h.2⟩,I⟩
 refine RT 5 E I ?_;exact⟨_,rfl,⟨λh=>(by cases h),λh=>by have:=h.1;omega⟩,I⟩
theorem acr (I:U W w L):Calls prog 47 #[.agg (bV cf).toArray] w λe V=>∃ r:Bool,e=.returned (.bool r)∧(r=true↔ft cf)∧U W V L:=by
 refine EN func47 ntmps47 rfl rfl λa E=>?_;refine BX 1 E I λb1 a w E I=>?_;change U W w (aa b1 28 (bV cf)::_) at I;refine aW 5 E I (pd I) λr1 a w E ⟨eB,I⟩=>?_;refine BY 2 E I (λdk a E=>?_) λdk a E=>?_
 ·
  refine RT 55 E I ?_;exact⟨_,rfl,⟨λh=>(by cases h),λh=>by have:=eB.2 h.1.1;rw[dk]at this;cases this⟩,I.sub⟩
 have rl:=eB.1 dk;refine RN 4 E I λa E=>?_;refine SK (bu E (cu E rfl (s:=7)) (xZ E) rfl ?_);clear E a;intro a E;have mi:IntKind.i64.wrap (cf.n-1)=cf.n-1:=fU (by have:=rl.1;omega) (by have:=rl.2;omega);rw[mi]at E;refine aW 0 E I (pd I) λr2 a w E ⟨eg,I⟩=>?_;refine BY 3 E I (λkP a E=>?_) λkP a E=>?_
 ·
  refine RT 46 E I ?_;exact⟨_,rfl,⟨λh=>(by cases h),λh=>by have:=eg.2 h.1.2.1;rw[kP]at this;cases this⟩,I.sub⟩
 refine BY 5 E I (λpI a E=>?_) λpI a E=>?_
 ·
  refine RT 41 E I ?_;exact⟨_,rfl,⟨λh=>(by cases h),λh=>by have:=h.1.2.2.1;omega⟩,I.sub⟩
 refine BY 5 E I (λkJ a E=>?_) λkJ a E=>?_
 ·
  refine RT 36 E I ?_;exact⟨_,rfl,⟨λh=>(by cases h),λh=>by have:=h.1.2.2.2;omega⟩,I.sub⟩
 refine aW 2 E I (pd I) λr3 a w E ⟨g2,I⟩=>?_;refine BY 3 E I (λCJ a E=>?_) λCJ a E=>?_
 ·
  refine RT 30 E I ?_;exact⟨_,rfl,⟨λh=>(by cases h),λh=>by have:=g2.2 h.2.1.1;rw[CJ]at this;cases this⟩,I.sub⟩
 refine aW 2 E I (pd I) λKN a w E ⟨lj,I⟩=>?_;refine BY 3 E I (λw6 a E=>?_) λw6 a E=>?_
 ·
  refine RT 24 E I ?_;exact⟨_,rfl,⟨λh=>(by cases h),λh=>by have:=lj.2 h.2.1.2.1;rw[w6]at this;cases this⟩,I.sub⟩
 refine aW 2 E I (pd I) λYS a w E ⟨oX,I⟩=>?_;refine BY 3 E I (λCK a E=>?_) λCK a E=>?_
 ·
  refine RT 18 E I ?_;exact⟨_,rfl,⟨λh=>(by cases h),λh=>by have:=oX.2 h.2.1.2.2.1;rw[CK]at this;cases this⟩,I.sub⟩
 refine aW 2 E I (pd I) λr6 a w E ⟨sa,I⟩=>?_;refine BY 3 E I (λCM a E=>?_) λCM a E=>?_
 ·
  refine RT 12 E I ?_;exact⟨_,rfl,⟨λh=>(by cases h),λh=>by have:=sa.2 h.2.1.2.2.2;rw[CM]at this;cases this⟩,I.sub⟩
 refine BY 4 E I (λacs a E=>?_) λacs a E=>?_
 ·
  refine IF 5 E I (λaj a E=>?_) λaj a E=>?_
  ·
   refine RT 2 E I ?_;exact⟨_,rfl,⟨λh=>(by cases h),λh=>by have:=h.2.2.1;omega⟩,I.sub⟩
  refine RN 1 E I λa E=>?_;have vg:cf.order=0∨cf.a8=2:=by omega
  have hA:(dE cf.n 2 8∧dE cf.me 0 (cf.n-1)∧dE cf.id 0 1099511627776)∧(dE cf.aJ 0 8∧dE cf.bo 1 16∧dE cf.a8 1 3∧dE cf.order 0 3):=⟨⟨rl,eg.1 kP,pI,kJ⟩,g2.1 CJ,lj.1 w6,oX.1 CK,sa.1 CM⟩;refine aW 2 E I (pd I) λs1 a w E ⟨js,I⟩=>?_;refine BY 1 E I (λbE a E=>?_) λbE a E=>?_
  ·
   refine aW 2 E I (pd I) λs2 a w E ⟨cI,I⟩=>?_;refine BY 2 E I (λek a E=>?_) λek a E=>?_
   ·
    refine aW 2 E I (pd I) λs3 a w E ⟨nQ,I⟩=>?_;refine RT 2 E I ?_;exact⟨_,rfl,⟨λh=>⟨hA.1,hA.2,vg,js.1 bE,cI.1 ek,nQ.1 h⟩,λh=>nQ.2 h.2.2.2.2.2⟩,I.sub⟩
   refine RT 5 E I ?_;exact⟨_,rfl,⟨λh=>(by cases h),λh=>by have:=cI.2 h.2.2.2.2.1;rw[ek]at this;cases this⟩,I.sub⟩
  refine RT 10 E I ?_;exact⟨_,rfl,⟨λh=>(by cases h),λh=>by have:=js.2 h.2.2.2.1;rw[bE]at this;cases this⟩,I.sub⟩
 refine RN 7 E I λa E=>?_;have vg:cf.order=0∨cf.a8=2:=by omega
 have hA:(dE cf.n 2 8∧dE cf.me 0 (cf.n-1)∧dE cf.id 0 1099511627776)∧(dE cf.aJ 0 8∧dE cf.bo 1 16∧dE cf.a8 1 3∧dE cf.order 0 3):=⟨⟨rl,eg.1 kP,pI,kJ⟩,g2.1 CJ,lj.1 w6,oX.1 CK,sa.1 CM⟩;refine aW 2 E I (pd I) λs1 a w E ⟨js,I⟩=>?_;refine BY 1 E I (λbE a E=>?_) λbE a E=>?_
 ·
  refine aW 2 E I (pd I) λs2 a w E ⟨cI,I⟩=>?_;refine BY 2 E I (λek a E=>?_) λek a E=>?_
  ·
   refine aW 2 E I (pd I) λs3 a w E ⟨nQ,I⟩=>?_;refine RT 2 E I ?_;exact⟨_,rfl,⟨λh=>⟨hA.1,hA.2,vg,js.1 bE,cI.1 ek,nQ.1 h⟩,λh=>nQ.2 h.2.2.2.2.2⟩,I.sub⟩
  refine RT 5 E I ?_;exact⟨_,rfl,⟨λh=>(by cases h),λh=>by have:=cI.2 h.2.2.2.2.1;rw[ek]at this;cases this⟩,I.sub⟩
 refine RT 10 E I ?_;exact⟨_,rfl,⟨λh=>(by cases h),λh=>by have:=js.2 h.2.2.2.1;rw[bE]at this;cases this⟩,I.sub⟩
def oa (cf:Cf)(p:Pr)(tb:List UInt8):Prop:=ft cf∧dq p∧cY ⟨cf.a8,cf.order,tb⟩
theorem acu (I:U W w (az W p adP cP::L))(aE:p.title.size≤1000000000)(dO:p.ops.length≤1000000000)(hn:tb.length=n) :
   Calls prog 31 #[.agg (bV cf).toArray,.agg (bx p adP cP).toArray,.slice adT n cT] w λe V=>∃ r:Bool,e=.returned (.bool r)∧(r=true↔oa cf p tb)∧U W V (az W p adP cP::L):=by
 subst hn;refine EN func31 ntmps31 rfl rfl λa E=>?_;refine BX 1 E I λb3 a w E I=>?_;change U W w (aa b3 28 (bV cf)::_) at I;refine BX 0 E I λb4 a w E I=>?_;change U W w (aa b4 45 (bx p adP cP)::_) at I;refine aW 3 E I (acr I) λr1 a w E ⟨eB,I⟩=>?_;refine BY 1 E I (λbA a E=>?_) λbA a E=>?_
 ·
  refine aW 1 E I (KP (I.pick (az W p adP cP)) aE dO) λr2 a w E ⟨eg,I⟩=>?_;refine BY 3 E I (λiN a E=>?_) λiN a E=>?_
  ·
   refine aW 6 E I (B9 (b:=⟨cf.a8,cf.order,tb⟩) I) λr3 a w E ⟨g2,I⟩=>?_;refine RT 2 E I ?_;exact⟨_,rfl,⟨λh=>⟨eB.1 bA,eg.1 iN,g2.1 h⟩,λh=>g2.2 h.2.2⟩,I.sub⟩
  refine RT 9 E I ?_;refine⟨_,rfl,⟨λh=>(by cases h),λh=>?_⟩,I.sub⟩;have:=eg.2 h.2.1;simp_all
 refine RT 14 E I ?_;refine⟨_,rfl,⟨λh=>(by cases h),λh=>?_⟩,I.sub⟩;have:=eB.2 h.1;simp_all
theorem acv (I:U W w (az W p adP cP::L))(hn:tb.length=n)(aE:p.title.size≤1000000000)(dO:p.ops.length≤1000000000)(eU:tb.length≤1099511627776)(hT:∀ V,U W V (az W p adP cP::L)→aL V adT tb.length tb) :
   Calls prog 60 #[.agg (bV cf).toArray,.agg (bx p adP cP).toArray,.slice adT n cT] w λr V=>(oa cf p tb∧∃ B:jk,r=.returned (.tuple #[pt B.pb,.int .i64 0])∧B.gs=⟨cf.a8,cf.order,tb⟩∧U W V (aP W B p (eM p cf)::az W p adP cP::L)) ∨
    (¬ oa cf p tb∧r=.returned (.tuple #[.pointer none,.int .i64 1])∧U W V (az W p adP cP::L)):=by
 subst hn;by_cases h1:ft cf
 ·obtain⟨n,me,aJ,bo,dd⟩:=Nd h1;generalize hg:cf.a8=a8 at dd;generalize ho:cf.order=order at dd;by_cases h2:dq p∧cY ⟨a8,order,tb⟩
  ·have eV:oa cf p tb:=⟨h1,h2.1,by rw[hg,ho];exact h2.2⟩;rw[dd]at h1 eV ⊢;exact (Nf (adT:=adT) (cT:=cT) I h1 h2.1 h2.2 aE dO eU hT).mono λr V ⟨B,h3,h4,h5⟩=>.inl ⟨eV,B,h3,h4,h5⟩
  ·have eV:¬ oa cf p tb:=λh=>h2 ⟨h.2.1,by have:=h.2.2;rw[hg,ho]at this;exact this⟩;rw[dd]at h1 eV ⊢;exact (aay (adT:=adT) (cT:=cT) I h1 h2 aE dO eU hT).mono λr V ⟨h3,h4⟩=>.inr ⟨eV,h3,h4⟩
 ·exact (aax (adT:=adT) (cT:=cT) I h1 eU hT).mono λr V ⟨h3,h4⟩=>.inr ⟨λh=>h1 h.1,h3,h4⟩
end
end
section
def fw (W:World)(M:jF)(p:Pr)(cf:Cf)(i:Nat)(s:Pl):SP:=λh=>∃ m:Mu,(m.s=s∧MI p M (20*i+1) m∧fu s.k=cf)∧aG W M p m h
section
variable {W w:World}{L:List SP}{n c i N cP cT:Nat}{adP adT:Option Addr}{M:jF}{x:UInt8}{p:Pr}{s:Pl}{m:Mu}{bs tb:List UInt8}{cf:Cf}{y:Int}
theorem fw.open (I:U W w (fw W M p cf i s::L)):∃ m:Mu,(m.s=s∧MI p M (20*i+1) m∧fu s.k=cf)∧U W w (aG W M p m::L):=I.jL λ_ h=>h
theorem fw.close (I:U W w (aG W M p m::L))(h:MI p M N m)(hN:N≤20*i+1)(hm:m.s=s)(hc:fu s.k=cf):U W w (fw W M p cf i s::L) :=
 U.shut (M:=zy W M p m) (aG.open I) λ_ q=>⟨m,⟨hm,h.more hN,hc⟩,q⟩
theorem acw (a7:dq p)(aE:p.title.size≤1000000000):CB W 78 ⟨M.mb,0,none⟩ 267 269 270 268 266 264 265 101 p M.B.gs (fw W M p cf) where
 Hm:=λad w=>by kernel_rfl
 cP:=(by kernel_rfl)
 Hn:=λad w=>by kernel_rfl
 Ho:=(by kernel_rfl)
 Hq:=λad w=>by kernel_rfl
 cT:=(by kernel_rfl)
 Hr:=λad w=>by kernel_rfl
 Hs:=(by kernel_rfl)
 Ht:=λad w=>by kernel_rfl
 cE:=(by kernel_rfl)
 CC:=λad w=>by kernel_rfl
 CD:=(by kernel_rfl)
 Hu:=λad w=>by kernel_rfl
 Hv:=(by kernel_rfl)
 Hw:=λad w=>by kernel_rfl
 Hx:=(by kernel_rfl)
 al:=λw L i s x hi hw I=>by
  replace I:=fw.open I;obtain⟨m,⟨rfl,hI,hc⟩,I⟩:=I;exact (aba (x:=x) I hI a7 aE (by omega)).mono λr V ⟨m',h1,⟨h2,h3,_⟩,I⟩=>⟨h1,fw.close I h3 (by omega) h2 ((lV.al hI.wf x).cf.trans hc)⟩
 recv:=λw L i s bs a c hi hw hb hc hp I=>by
  replace I:=fw.open I;obtain⟨m,⟨rfl,hI,dd⟩,I⟩:=I;exact (abb I hI a7 aE (by omega) hb hc hp).mono λr V ⟨m',h1,⟨h2,h3⟩,I⟩=>⟨h1,fw.close I h3 (by omega) h2 ((lV.recv hI.wf bs).cf.trans dd)⟩
 tick:=λw L i s hi hw hn I=>by
  replace I:=fw.open I;obtain⟨m,⟨rfl,hI,hc⟩,I⟩:=I;exact (abc I hI hn).mono λr V ⟨a,c,h1,h2,I⟩=>⟨a,c,h1,(fw.close (I.perm (cW _ _ _)) h2 (by omega) rfl ((G4 _).trans hc)).perm (cW _ _ _)⟩
 lP:=λw L i s hi hw I=>by
  replace I:=fw.open I;obtain⟨m,⟨rfl,hI,hc⟩,I⟩:=I;exact (abd I hI).mono λr V ⟨a,c,h1,h2,I⟩=>⟨a,c,h1,(fw.close (I.perm (cW _ _ _)) h2 (by omega) rfl ((G5 _).trans hc)).perm (cW _ _ _)⟩
 events:=λw L i s hi hw I=>by
  replace I:=fw.open I;obtain⟨m,⟨rfl,hI,hc⟩,I⟩:=I;exact (abe I hI).mono λr V ⟨a,c,h1,h2,I⟩=>⟨a,c,h1,(fw.close (I.perm (cW _ _ _)) h2 (by omega) rfl hc).perm (cW _ _ _)⟩
 CE:=λw L i s hi hw I=>by
  replace I:=fw.open I;obtain⟨m,⟨rfl,hI,hc⟩,I⟩:=I;exact (abf I hI).mono λr V ⟨a,c,h1,I⟩=>⟨a,c,h1,(fw.close (I.perm (cW _ _ _)) hI (bh _) rfl hc).perm (cW _ _ _)⟩
 Hy:=λw L i s hi hw I=>by
  replace I:=fw.open I;obtain⟨m,⟨rfl,hI,hc⟩,I⟩:=I;exact (ack I hI a7 aE).mono λr V ⟨a,c,h1,I⟩=>⟨a,c,h1,(fw.close (I.perm (cW _ _ _)) hI (bh _) rfl hc).perm (cW _ _ _)⟩
 closed:=λw L i s hi hw I=>by
  replace I:=fw.open I;obtain⟨m,⟨rfl,hI,hc⟩,I⟩:=I;exact (zA I).mono λr V ⟨h1,I⟩=>⟨h1,fw.close I hI (bh _) rfl hc⟩
theorem acx (I:U W w (fw W M p cf i s::L))(a7:dq p)(aE:p.title.size≤1000000000)(hi:i≤1000000) :
   Calls prog 62 #[pt M.mb,.int .i64 y] w λe V=>∃ z:Bool,e=.returned (.bool z)∧(z=true→s.k.cl=false∧0≤y∧y<s.k.workers)∧U W V (fw W M p cf (i+1) s::L):=by
 replace I:=fw.open I;obtain⟨m,⟨rfl,hI,hc⟩,I⟩:=I;have h4:=hI.ks;by_cases hn:m.s.k.cl=true∨y<0∨(m.ks.length:Int)≤y
 ·exact (abg I hn h4).mono λe V ⟨h1,I⟩=>⟨false,h1,λh=>(by cases h),fw.close I hI (by omega) rfl hc⟩
 ·have cm : m.s.k.cl = false := by
   cases h:m.s.k.cl with
   | false=>rfl
   | true=>exact absurd (.inl h) hn
  have hy:0≤y∧y<(m.ks.length:Int):=⟨by
   rcases Int.lt_or_le y 0 with h | h
   ·exact absurd (.inr (.inl h)) hn
   ·exact h,by
   rcases Int.lt_or_le y (m.ks.length:Int) with h | h
   ·exact h
   ·exact absurd (.inr (.inr h)) hn⟩
  obtain⟨j,rfl⟩:=sm hy.1;obtain⟨⟨k,wb⟩,hk⟩:∃ z,m.ks[j]?=some z:=⟨_,aD (by omega)⟩;exact (abh I hI cm hk a7 aE (by omega)).mono λe V ⟨z,A',T',J',k',h1,⟨_,h2⟩,I⟩=>⟨z,h1,λ_=>⟨cm,hy.1,by rw[hI.workers];exact hy.2⟩,fw.close I h2 (by omega) rfl hc⟩
theorem acy (h:ft cf):∃ n me aJ bo nb nw rm:Nat,cf=⟨n,me,cf.id,aJ,bo,cf.a8,cf.order,nb,nw,rm⟩:=by
 obtain⟨n,me,id,aJ,bo,a8,order,cw,workers,room⟩:=cf;simp only[ft,dE]at h;obtain⟨⟨h1,h2,h3⟩,⟨h4,h5,h6,h7⟩,h8,h9,fP,m9⟩:=h;exact⟨n.toNat,me.toNat,aJ.toNat,bo.toNat,cw.toNat,workers.toNat,room.toNat,by
  simp only[Cf.mk.injEq];refine⟨?_,?_,?_,?_,?_,?_,?_,?_,?_,?_⟩ <;> first | trivial | omega⟩
theorem acz (h:ft cf):fu (eM p cf).k=cf:=by
 obtain⟨ps,ev,mr,hk⟩:∃ ps ev mr,(eM p cf).k={ fv cf with ps:=ps,ev:=ev,mr:=mr }:=(xk (p:=p) (c:=cf) h).eL.2.2;rw[hk];exact (WC.new h).2.2
theorem acA (eV:oa cf p tb)(I:U W w (az W p adP cP::L))(hn:tb.length=n)(aE:p.title.size≤1000000000)(dO:p.ops.length≤1000000000)(eU:tb.length≤1099511627776)(hT:∀ V,U W V (az W p adP cP::L)→aL V adT tb.length tb) :
   Calls prog 59 #[.agg (bV cf).toArray,.agg (bx p adP cP).toArray,.slice adT n cT] w λr V=>∃ M:jF,r=.returned (.tuple #[pt M.mb,.int .i64 0])∧M.B.gs=⟨cf.a8,cf.order,tb⟩∧U W V (fw W M p cf 0 (eM p cf)::az W p adP cP::L):=by
 subst hn;obtain⟨h1,h2,h3⟩:=eV;have Ov:=acz (p:=p) h1;obtain⟨n,me,aJ,bo,nb,nw,rm,dd⟩:=acy h1;generalize cf.a8=a8 at dd h3 ⊢;generalize cf.order=order at dd h3 ⊢;generalize cf.id=id at dd;rw[dd]at h1 Ov ⊢;exact (acp (adT:=adT) (cT:=cT) I h1 h2 h3 aE dO eU hT).mono λr V ⟨M,m,h4,⟨h5,h6,h7,_⟩,I⟩=>⟨M,h4,h5,fw.close I h7 (by omega) h6 Ov⟩
theorem acB (hm:ft cf)(I:U W w (az W p adP cP::L))(hn:tb.length=n)(a7:dq p)(aE:p.title.size≤1000000000) :
   Calls prog 46 #[.agg (bV cf).toArray,.agg (bx p adP cP).toArray,.slice adT n cT] w λr V=>∃ B:gf,r=.returned (pt B.pb)∧(B.gs=⟨cf.a8,cf.order,tb⟩∧B.adT=adT)∧U W V (b9 W B p (eM p cf)::L):=by
 subst hn;obtain⟨n,me,aJ,bo,dd⟩:=Nd hm;generalize cf.a8=a8 at dd ⊢;generalize cf.order=order at dd ⊢;rw[dd]at hm ⊢;exact abR I hm a7 aE
end
end
section
theorem Sn.acC (A:Sn):A.used≤A.room:=by
 have:=List.countP_le_length (p:=λp=>decide (0<cQ A.av p)) (l:=List.range A.room);rw[length_range]at this;exact this
theorem Ow {p:Nat}:∀ (l:List aC),(∀ x∈l,∀ k,k<4→x.p k≠p)→cQ l p=0
 | [],_=>rfl
 | x::l,h=>by
  rw[s8,Ea (h x (jo ..)),Ow l λy hy=>h y (gU _ hy)]
theorem Ox {A:Sn}{p:Nat}(h:∀ x∈A.av,∀ k,k<4→x.p k<A.room)(hp:A.room≤p):cQ A.av p=0 :=
 Ow _ λx hx k hk e=>by have:=h x hx k hk;omega
def vE (l:List aC)(m:Nat):Nat:=(List.range m).countP λp=>decide (0<cQ l p)
theorem Oy (l:List aC)(m:Nat):vE l (m+1)=vE l m+if 0<cQ l m then 1 else 0:=by
 rw[vE,range_succ,List.countP_append,List.countP_singleton,vE];by_cases h:0<cQ l m <;> simp[h]
theorem acD (l:List aC)(m:Nat):vE l m≤m:=by
 have:=List.countP_le_length (p:=λp=>decide (0<cQ l p)) (l:=List.range m);rw[length_range]at this;exact this
theorem acE {A:Sn}(h:∀ x∈A.av,∀ k,k<4→x.p k<A.room){m:Nat}(hm:A.room≤m):vE A.av m=A.used:=by
 induction m with
 | zero=>rw[Sn.used,show A.room=0 from by omega];rfl
 | succ m ih =>
  rcases gE m A.room with h1 | h1
  ·rw[Sn.used,show A.room=m+1 from by omega];rfl
  ·rw[Oy,ih h1,Ox h h1];rfl
def qg (l:List aC)(j:Nat):Int:=if j=0 then 0 else (cQ l (j-1):Nat)
def lW (l:List aC)(x:aC)(k j:Nat):Int:=if j=0 then 0 else ((cQ l (j-1)+ja x (j-1) k:Nat):Int)
theorem acF:qg []=λ_=>0:=by
 funext j;unfold qg;split <;> rfl
theorem acG (l:List aC)(x:aC):lW l x 0=qg l:=by
 funext j;unfold lW qg;simp[AI]
theorem acH {l:List aC}{i:Nat}{x:aC}(h:l[i]?=some x):lW (l.take i) x 4=qg (l.take (i+1)):=by
 obtain⟨hi,rfl⟩:=aZ.1 h
 funext j
 unfold lW qg;rw[jv hi,yl,s8,Eb];rfl
theorem acI (l:List aC)(x:aC)(k:Nat):(λj=>if j=x.p k+1 then lW l x k (x.p k+1)+1 else lW l x k j)=lW l x (k+1):=by
 funext j
 by_cases h:j=x.p k+1
 ·subst h;rw[ak rfl];simp only[lW,ag (Nat.succ_ne_zero _),yS];rw[k6,ak rfl];omega
 ·rw[ag h];unfold lW;split
  ·rfl
  ·rw[k6,ag (by omega)];simp
theorem acJ (l:List aC)(x:aC)(k j:Nat)(hk:k≤4):0≤lW l x k j∧lW l x k j≤4*l.length+4:=by
 unfold lW;have h1:=Ed l (j-1);have h2:=s6 x (j-1) hk;have h3:=Jy x (j-1);have h4:ja x (j-1) 4=hK x (j-1):=rfl;split <;> omega
theorem acK (l:List aC)(p:Nat):qg l (p+1)=(cQ l p:Nat):=by simp[qg]
section
variable {W w:World}{L:List SP}{q b i r:Nat}{ps:List Pg}{A:Sn}
theorem acL (I:U W w (Room q b ps::L))(hn:∀ h:i<ps.length,ps[i].refs=0)(hi:i<1000) :
   Calls prog 122 #[pt q,.int .i64 ((i:Int)+1)] w λe V=>e=.returned (.pointer none)∧U W V (Room q b ps::L):=by
 obtain⟨hp,I⟩:=Room.open I;by_cases aF:i<ps.length
 ·have hr:=hn aF;refine EN func122 ntmps122 rfl rfl λa E=>?_;refine RN 7 E I λa E=>?_;replace E:=E.aK 7;refine RN 4 E I λa E=>?_;rw[bn (by omega)]at E;refine RN 9 E I λa E=>?_;rw[bn (by omega)]at E;refine RN 6 E I λa E=>?_;rw[show (i:Int)+1-1=(i:Int) from by omega]at E;refine RN 2 E I λa E=>?_;refine bu E (cu E rfl (s:=20)) (ae E (I.bz (sZ aF))) rfl λa E=>?_;refine RN 2 E I λa E=>?_;rw[dp (by omega)]at E;refine RT 3 E I ?_;exact⟨rfl,(Room.close (n:=_) I rfl hp)⟩
 ·
   refine EN func122 ntmps122 rfl rfl λa E=>?_;refine RN 7 E I λa E=>?_;replace E:=E.aK 7;refine RN 4 E I λa E=>?_;rw[bn (by omega)]at E;refine RN 9 E I λa E=>?_;rw[dp (by omega)]at E;refine RT 14 E I ?_;exact⟨rfl,(Room.close (n:=_) I rfl hp)⟩
theorem acM (I:U W w (Room q b ps::L))(hn:∀ h:i<ps.length,ps[i].refs=0)(hi:i<1000) :
   Calls prog 86 #[pt q,.int .i64 ((i:Int)+1)] w λe V=>e=.returned (.int .i64 0)∧U W V (Room q b ps::L):=by
 refine EN func86 ntmps86 rfl rfl λa E=>?_;refine CL 5 E I (acL I hn hi) λa w E I=>?_;refine RN 5 E I λa E=>?_;replace E:=E.eG 10;refine RT 3 E I ?_;exact⟨rfl,I⟩
theorem acN (I:U W w (ax q r A::L))(hi:i<1000) :
   Calls prog 86 #[pt r,.int .i64 ((i:Int)+1)] w λe V=>e=.returned (.int .i64 (cQ A.av i))∧U W V (ax q r A::L):=by
 have hf:=(ax.facts I).2;obtain⟨b,m,ps,xs,h1,hw,hr,I⟩:=ax.open I;by_cases hl:∃ h:i<ps.length,0<ps[i].refs
 ·obtain⟨h3,h4⟩:=hl;refine (Ay (I.pick (Room r b ps)) h3 h4).mono λe V ⟨h2,I⟩=>?_;rw[hr.refs _ _ (aD h3)]at h2;exact⟨h2,ax.close (b:=b) (m:=m) (ps:=ps) I h1 hw hr⟩
 ·have hn : ∀ h : i < ps.length, ps[i].refs = 0 := fun h => by
   rcases lD ps[i].refs with h2 | h2
   ·exact h2
   ·exact absurd ⟨h,h2⟩ hl
  have h0:cQ A.av i=0:=by
   by_cases h:i<ps.length
   ·rw[← hr.refs _ _ (aD h)];exact hn h
   ·exact Ox hf (by rw[← hr.len];omega)
  refine (acM (I.pick (Room r b ps)) hn hi).mono λe V ⟨h2,I⟩=>?_;rw[h0];exact⟨h2,ax.close (b:=b) (m:=m) (ps:=ps) I h1 hw hr⟩
end
end
section
theorem acO (k:IntKind)(m:Nat)(x:Int):List.replicate m (Value.int k x)=ints k m (λ_=>x):=by
 rw[ints,fn];exact (ext_getElem (by simp) (by simp))
section
variable {W w:World}{L:List SP}{N:Nat}{M:jF}{p:Pr}{m:Mu}{cf:Cf}{x:Int}
set_option maxHeartbeats 4000000 in
theorem acP (I:U W w (aG W M p m::L))(h:MI p M N m)(dd:fu m.s.k=cf) :
   Calls prog 56 #[pt M.mb,.agg (bV cf).toArray] w λe V=>e=.returned (.bool true)∧U W V (aG W M p m::L):=by
 have p9:cf.cw=(m.T.most:Int):=by rw[← dd];exact h.most
 have tH:cf.workers=(m.ks.length:Int):=by rw[← dd];exact h.workers
 have rR:(m.A.room:Int)=4*cf.room:=by rw[← dd];exact h.room.1
 have oS:=h.ks;obtain⟨t,hI⟩:=h.inv;have hlen:=hI.len;have NS:(jz (m.ks.map (·.1))).length≤m.ks.length:=by
  have h1:=qE (λk:Wk=>k.busy) (m.ks.map (·.1));rw[bf]at h1;rw[jz,bf];exact h1
 clear dd;replace I:=aG.open I;have lh:=(Tree.wt (I.tree M.tq)).most;have CO:=ax.facts (I.store M.sq);have rE:=ax.wk (I.store M.sq);have hur:=Sn.acC m.A;have lS:=CO.1.room;obtain⟨s,A,T,J,ks,base,front⟩:=m;dsimp only at p9 tH rR oS hlen NS lh CO rE hur lS I;have hX:=acE CO.2 (m:=200) lS;refine EN func56 ntmps56 rfl rfl λa E=>?_;refine BX 1 E I λb3 a w E I=>?_;change U W w (aa b3 28 (bV cf)::_) at I;refine RN 3 E I λa E=>?_;replace I:=aG.fold I M p ⟨s,A,T,J,ks,base,front⟩;refine CL 0 E I (aaE I) λa w E I=>?_;refine RN 3 E I λa E=>?_;replace I:=aG.open I;dsimp only at I;refine aX 0 E I (Vr (I.store M.sq)) λee zN a w E I=>?_;refine a1 3 (λw0 V=>Rd V b3 0 (bV cf)) [5,25,26] [0,1,2,4,3003,1005,6,7,8,9,10,11,12,13,14,17,18,19,1015,1016,20,21,22,23,24,27,3028,29,1025,1026,30,31] E I λa w E I hH=>?_;have hC:=hH.at w (I.ai (b:=b3));refine RH 4 E I hH hC λa E=>?_;refine QH E (λw hc=>ae E (hc 7 _ rfl)) hC λa E=>?_;refine RH 0 E I hH hC λa E=>?_;refine SS E (ae E (hC 8 _ rfl)) λa E=>?_;refine RH 4 E I hH hC λa E=>?_;rw[bn (by omega)]at E;refine RH 4 E I hH hC λa E=>?_;rw[dp (by omega)]at E;refine RH 4 E I hH hC λa E=>?_;refine CL 0 E I (AQ (I.store M.sq)) λa w E I=>?_;refine CL 0 E I (Ej (I.store M.sq)) λa w E I=>?_;refine RN 4 E I λa E=>?_;rw[bn (by omega)]at E;refine RN 2 E I λa E=>?_;replace hC:Rd w b3 0 (bV cf):=I.ai (b:=b3);refine QH E (λw hc=>ae E (hc 9 _ rfl)) hC λa E=>?_;refine CL 1 E I (AQ (I.store M.sq)) λa w E I=>?_;replace hC:=hH.at w (I.ai (b:=b3));refine RH 0 E I hH hC λa E=>?_;refine CL 0 E I (Ej (I.store M.sq)) λa w E I=>?_;replace hC:=hH.at w (I.ai (b:=b3));refine RH 2 E I hH hC λa E=>?_;rw[bn (by omega)]at E;refine AL 2 E I λdv a w E I=>?_;rw[acO]at I;refine RN 3 E I λa E=>?_;refine aQ (λμ a w=>∃ (i:Nat),(μ=A.av.length-i∧i≤A.av.length)∧Fr a 120 [(0,pt M.mb),(3,pt b3),(5,pt M.sq),(6,.slice ee A.av.length zN),(7,pt dv),(8,.int .i64 i)]∧U W w (aa dv 164 (ints .i64 201 (qg (A.av.take i)))::Sl 166 1 ee A.av.length zN (A.av.map λx=>.int .i64 x.id)::ax M.sq M.r A::aa b3 28 (bV cf)::aa M.mb 177 (dW p M ks.length base front)::aP W M.B p s::az W p M.an M.cO::Sl 179 1 M.dy ks.length M.dF (gR ks)::ah (fc p M.an M.cO M.tq M.jq M.sq) ks::Tree M.tq M.sq T::bL M.jq J::L)) (A.av.length) (⟨0,⟨rfl,by omega⟩,E.ab [0,3,5,6,7,8],by rw[take_zero,acF];exact I.sub⟩) ?_;clear E I;rintro μ a w ⟨i,⟨rfl,hi⟩,E,I⟩;refine IF 6 E I (λao a E=>?_) λao a E=>?_
 ·
  obtain⟨x,hx⟩:∃ x,A.av[i]?=some x:=⟨_,aD (by omega)⟩;obtain⟨bv,Oz,rfl,Cr⟩:=(I.pick (Sl 166 1 ee A.av.length zN (A.av.map λx=>.int .i64 x.id))).bY ee (by omega);have zF:=Cr i (.int .i64 x.id) (by rw[bm,hx];rfl);have AT:=CO.2 x (bH hx);have bO:=acH hx;have eU:(A.av.take i).length≤200:=by rw[dH];omega
  clear Cr;refine RN 6 E I λa E=>?_;refine SS E (ae E (zF)) λa E=>?_;refine aX 0 E I (JL (I.store M.sq) hx) λcX dU a w E I=>?_;refine RN 6 E I λa E=>?_;replace E:=E.aK 63;refine RN 3 E I λa E=>?_;refine aQ (λμ a w=>∃ (k:Nat),(μ=4-k∧k≤4)∧Fr a 120 [(0,pt M.mb),(3,pt b3),(5,pt M.sq),(6,.slice (some ⟨bv,Oz,none⟩) A.av.length zN),(7,pt dv),(8,.int .i64 i),(9,.slice cX 4 dU),(10,.int .i64 k)]∧U W w (aa dv 164 (ints .i64 201 (lW (A.av.take i) x k))::Sl 3 1 cX 4 dU (ints .i64 4 (λk=>(x.p k:Int)+1))::Sl 166 1 (some ⟨bv,Oz,none⟩) A.av.length zN (A.av.map λx=>.int .i64 x.id)::ax M.sq M.r A::aa b3 28 (bV cf)::aa M.mb 177 (dW p M ks.length base front)::aP W M.B p s::az W p M.an M.cO::Sl 179 1 M.dy ks.length M.dF (gR ks)::ah (fc p M.an M.cO M.tq M.jq M.sq) ks::Tree M.tq M.sq T::bL M.jq J::L)) (4) (⟨0,⟨rfl,by omega⟩,E.ab [0,3,5,6,7,8,9,10],by rw[acG];exact I.sub⟩) ?_;clear E I;rintro μ a w ⟨k,⟨rfl,hk⟩,E,I⟩;refine IF 4 E I (λbj a E=>?_) λbj a E=>?_
  ·
   obtain⟨bp,op,rfl,fp⟩:=(I.pick (Sl 3 1 cX 4 dU (ints .i64 4 (λk=>(x.p k:Int)+1)))).bY cX (by omega);have vj:=fp k _ (fX _ (by omega));have eO:=AT k (by omega);have MT:=acJ (A.av.take i) x k (x.p k+1) (by omega);clear fp;refine RN 6 E I λa E=>?_;refine SS E (ae E (vj)) λa E=>?_;refine RN 2 E I λa E=>?_;rw[bn (by omega)]at E;refine RN 3 E I λa E=>?_;refine bu E (cu E rfl (s:=73)) (ae E (vj)) rfl λa E=>?_;refine RN 2 E I λa E=>?_;rw[bn (by omega)]at E;refine RN 4 E I λa E=>?_;refine SS E (ae E (vj)) λa E=>?_;rw[show ((x.p k:Nat):Int)+1=((x.p k+1:Nat):Int) from rfl]at E;refine RN 1 E I λa E=>?_;refine SS E (ae E (I.bz (fX _ (by omega)))) λa E=>?_;refine ST 2 E I (λa w E I=>?_) (hlt:=(by rw[di];omega));rw[ints_set,acI]at I;refine RN 3 E I λa E=>?_;exact⟨4-(k+1),by omega,k+1,⟨rfl,by omega⟩,E.ab [0,3,5,6,7,8,9,10],I.sub⟩
  refine RN 3 E I λa E=>?_;obtain rfl:k=4:=by omega
  rw[bO]at I;exact⟨A.av.length-(i+1),by omega,i+1,⟨rfl,by omega⟩,E.ab [0,3,5,6,7,8],I.sub⟩
 obtain rfl:i=A.av.length:=by omega
 rw[k0]at I;refine RN 5 E I λa E=>?_;refine aQ (λμ a w=>∃ (q:Nat),(μ=200-q∧q≤200)∧Fr a 120 [(0,pt M.mb),(3,pt b3),(5,pt M.sq),(7,pt dv),(11,.int .i64 (vE A.av q:Nat)),(12,.int .i64 ((q:Int)+1))]∧U W w (ax M.sq M.r A::aa dv 164 (ints .i64 201 (qg A.av))::aa b3 28 (bV cf)::aa M.mb 177 (dW p M ks.length base front)::aP W M.B p s::az W p M.an M.cO::Sl 179 1 M.dy ks.length M.dF (gR ks)::ah (fc p M.an M.cO M.tq M.jq M.sq) ks::Tree M.tq M.sq T::bL M.jq J::L)) (200) (⟨0,⟨rfl,by omega⟩,by have h9:=E.ab [0,3,5,7,11,12];exact h9,I.sub⟩) ?_;clear E I;rintro μ a w ⟨q,⟨rfl,hq⟩,E,I⟩;refine IF 4 E I (λeZ a E=>?_) λeZ a E=>?_
 ·
  have OA:=acK A.av q;have gH:=Oy A.av q;have eO:=acD A.av q;have cm:=Ed A.av q;have ma:q<200:=by omega
  refine a1 3 (λw0 V=>V.cell? ⟨dv,q+1,none⟩=some (.int .i64 (qg A.av (q+1)))) [1,3] [0,2,4,5,3006,1001,1003,7] E I λa w E I hH=>?_;have hC:=hH.at w (I.bz (b:=dv) (fX _ (by omega)));refine RH 3 E I hH hC λa E=>?_;rw[show ((q:Nat):Int)+1=((q+1:Nat):Int) from rfl]at E;refine RH 1 E I hH hC λa E=>?_;refine QH E (λw hc=>ae E (hc)) hC λa E=>?_;refine RH 0 E I hH hC λa E=>?_;refine CL 0 E I (AQ I) λa w E I=>?_;replace hC:=hH.at w (I.bz (b:=dv) (fX _ (by omega)));refine RH 0 E I hH hC λa E=>?_;refine CL 0 E I (acN I (by omega)) λa w E I=>?_;replace hC:=hH.at w (I.bz (b:=dv) (fX _ (by omega)));refine RH 1 E I hH hC λa E=>?_;rw[OA,show decide ((cQ A.av q:Nat)≠((cQ A.av q:Nat):Int))=false from by simp]at E;replace E:=E.aK 99;refine RN 4 E I λa E=>?_;refine SS E (ae E (I.bz (b:=dv) (fX _ (by omega)))) λa E=>?_;rw[OA]at E;refine IF 1 E I (λmM a E=>?_) λmM a E=>?_
  ·
   refine RN 6 E I λa E=>?_;exact⟨200-(q+1),by omega,q+1,⟨rfl,by omega⟩,by rw[gH,ak (by omega)];exact E.ab [0,3,5,7,11,12],I.sub⟩
  refine RN 3 E I λa E=>?_;exact⟨200-(q+1),by omega,q+1,⟨rfl,by omega⟩,by rw[gH,ag (by omega)];exact E.ab [0,3,5,7,11,12],I.sub⟩
 obtain rfl:q=200:=by omega
 rw[hX]at E;refine a1 1 (λw0 V=>Rd V b3 0 (bV cf)) [7,8,9] [0,1,1002,1003,4,5,6,10,3011,1007,1008,1009,12,13,14] E I λa w E I hH=>?_;have hC:=hH.at w (I.ai (b:=b3));refine RH 2 E I hH hC λa E=>?_;refine CL 0 E I (AQ I) λa w E I=>?_;refine CL 0 E I (Ej I) λa w E I=>?_;refine RN 2 E I λa E=>?_;rw[dp (by omega)]at E;refine RN 2 E I λa E=>?_;replace hC:Rd w b3 0 (bV cf):=I.ai (b:=b3);refine QH E (λw hc=>ae E (hc 7 _ rfl)) hC λa E=>?_;replace I:=aG.fold I M p ⟨s,A,T,J,ks,base,front⟩;refine CL 0 E I (aaF I) λa w E I=>?_;replace hC:=hH.at w (I.ai (b:=b3));replace I:=aG.open I;dsimp only at I;refine RH 0 E I hH hC λa E=>?_;refine aX 0 E I (AS (I.tree M.tq)) λtU q3 a w E I=>?_;replace hC:=hH.at w (I.ai (b:=b3));refine RH 4 E I hH hC λa E=>?_;refine RT 0 E I ?_;exact⟨by rw[dp (by omega)],(aG.fold I.tail M p ⟨s,A,T,J,ks,base,front⟩).sub⟩
end
end
section
section
variable {W w:World}{L:List SP}{c i cP cT:Nat}{p:Pr}{s:Pl}{B:jk}
theorem acQ (a7:dq p)(aE:p.title.size≤1000000000)(fI:cY B.gs):CB W 139 ⟨B.pb,0,none⟩ 282 284 285 283 281 273 276 141 p B.gs (λ_ s=>aP W B p s) where
 Hm:=λad w=>by kernel_rfl
 cP:=(by kernel_rfl)
 Hn:=λad w=>by kernel_rfl
 Ho:=(by kernel_rfl)
 Hq:=λad w=>by kernel_rfl
 cT:=(by kernel_rfl)
 Hr:=λad w=>by kernel_rfl
 Hs:=(by kernel_rfl)
 Ht:=λad w=>by kernel_rfl
 cE:=(by kernel_rfl)
 CC:=λad w=>by kernel_rfl
 CD:=(by kernel_rfl)
 Hu:=λad w=>by kernel_rfl
 Hv:=(by kernel_rfl)
 Hw:=λad w=>by kernel_rfl
 Hx:=(by kernel_rfl)
 al:=λw L i s x _ hw I=>M5 I hw a7 aE
 recv:=λw L i s bs a c _ hw hb hc hp I=>M6 I hw a7 aE hb hc hp
 tick:=λw L i s _ hw hn I=>M7 I hw hn
 lP:=λw L i s _ hw I=>M8 I hw
 events:=λw L i s _ hw I=>M9 I
 CE:=λw L i s _ hw I=>Nb I hw
 Hy:=λw L i s _ hw I=>Nc I hw a7 aE fI
 closed:=λw L i s _ hw I=>Na I
end
end
section
inductive fT where
 | mu (M:jF)
 | pl (B:jk)
structure fJ where
 cf:Cf
 z:fT
def fT.t:fT→TypeId
 | .mu _=>78
 | .pl _=>139
def fT.ad:fT→Addr
 | .mu M=>⟨M.mb,0,none⟩
 | .pl B=>⟨B.pb,0,none⟩
def fT.gs:fT→Gs
 | .mu M=>M.B.gs
 | .pl B=>B.gs
def fT.f (a b:FuncId):fT→FuncId
 | .mu _=>a
 | .pl _=>b
def fJ.J (W:World)(p:Pr)(x:fJ)(i:Nat)(s:Pl):SP:=match x.z with
 | .mu M=>fw W M p x.cf i s
 | .pl B=>aP W B p s
def vt (z:fT):=z.f 267 282
def vu (z:fT):=z.f 269 284
def vv (z:fT):=z.f 270 285
def vw (z:fT):=z.f 268 283
def vx (z:fT):=z.f 266 281
def vy (z:fT):=z.f 264 273
def vz (z:fT):=z.f 265 276
def vA (z:fT):=z.f 101 141
abbrev cC (x:fJ×Pl):Value:=.iface x.1.z.t (.pointer (some x.1.z.ad))
def cA (W:World)(p:Pr)(c:Nat)(x:fJ×Pl):SP:=x.1.J W p c x.2
abbrev ko:=Option Addr×Nat×List kj
abbrev bw (x:ko):Value:=.slice x.1 x.2.2.length x.2.1
def eN (x:ko):SP:=Sl 135 1 x.1 x.2.2.length x.2.1 (x.2.2.map cz)
structure jH where
 mb:Nat
 q:Nat
 fC:List fJ
structure ob where
 adL:Option Addr
 cL:Nat
 adE:Option Addr
 cE:Nat
 xs:List (fJ×Pl)
 es:List ko
def cR (m:Ml):pc:=((m.1:Int),(m.2.1:Int),m.2.2)
abbrev jT (B:jH)(A:ob):List Value:=[.slice A.adL A.xs.length A.cL,pt B.q,.slice A.adE A.es.length A.cE]
structure ob.Ok (A:ob)(B:jH)(v:Wd):Prop where
 fC:A.xs.map (·.1)=B.fC
 ps:A.xs.map (·.2)=v.ps
 ev:A.es.map (·.2.2)=v.ev
def aR (W:World)(B:jH)(p:Pr)(c:Nat)(v:Wd):SP:=λh=>∃ A:ob,A.Ok B v ∧
 cp [aa B.mb 107 (jT B A),Sl 81 1 A.adL A.xs.length A.cL (A.xs.map cC),ah (cA W p c) A.xs,bN B.q (v.net.map cR),Sl 90 1 A.adE A.es.length A.cE (A.es.map bw),ah eN A.es] h
section
variable {W w:World}{L R:List SP}{n c i:Nat}{ad adE:Option Addr}{p:Pr}{B:jH}{A:ob}{v:Wd}{x:fJ}{s:Pl}{y:Int}
theorem fJ.qU (x:fJ)(a7:dq p)(aE:p.title.size≤1000000000)(fI:cY x.z.gs):CB W x.z.t x.z.ad (vt x.z) (vu x.z) (vv x.z) (vw x.z) (vx x.z) (vy x.z) (vz x.z) (vA x.z) p x.z.gs (x.J W p):=by
 obtain⟨cf,z⟩:=x;cases z with
 | mu M=>exact acw a7 aE
 | pl B=>exact acQ a7 aE fI
theorem fJ.more {j:Nat}(x:fJ)(h:i≤j):∀ hp,x.J W p i s hp→x.J W p j s hp:=by
 obtain⟨cf,z⟩:=x;cases z with
 | mu M=>exact λhp ⟨m,⟨h1,h2,h3⟩,h4⟩=>⟨m,⟨h1,h2.more (by omega),h3⟩,h4⟩
 | pl B=>exact λhp h=>h
theorem OB {α:Type}{f g:α→SP}(k:∀ x h,f x h→g x h):∀ {l:List α} {h:Hp},cp (l.map f) h→cp (l.map g) h
 | [],_,h=>h
 | _::l,_,⟨h1,h2,d,a,b,p,q⟩=>⟨h1,h2,d,a,b,k _ _ p,OB k q⟩
theorem U.acR {A A':SP}(I:U W w (A::L))(k:∀ h,A h→A' h):U W w (A'::L):=⟨I.below,let ⟨h,p,h1,h2,d,a,b,x,y⟩:=I.sat;⟨h,p,h1,h2,d,a,b,k _ x,y⟩⟩
theorem U.sA {xs:List (fJ×Pl)}{d:Nat}(I:U W w (ah (cA W p c) xs::L))(h:c≤d):U W w (ah (cA W p d) xs::L) :=
 I.acR λ_ h1=>OB (λx h2 h3=>x.1.more h h2 h3) h1
theorem aR.open (I:U W w (aR W B p c v::L)):∃ A:ob,A.Ok B v∧U W w (aa B.mb 107 (jT B A)::Sl 81 1 A.adL A.xs.length A.cL (A.xs.map cC)::ah (cA W p c) A.xs::bN B.q (v.net.map cR)::Sl 90 1 A.adE A.es.length A.cE (A.es.map bw)::ah eN A.es::L):=by
 obtain⟨A,h1,I⟩:=I.jL (ι:=ob) (p:=λA=>A.Ok B v) (B:=λA h=>cp [aa B.mb 107 (jT B A),Sl 81 1 A.adL A.xs.length A.cL (A.xs.map cC),ah (cA W p c) A.xs,bN B.q (v.net.map cR),Sl 90 1 A.adE A.es.length A.cE (A.es.map bw),ah eN A.es] h) λ_ h=>h;exact⟨A,h1,I.open (M:=[_,_,_,_,_,_]) λ_ h=>h⟩
theorem aR.fold (I:U W w L)(B:jH)(p:Pr)(c:Nat)(v:Wd)(A:ob)(h:A.Ok B v)[kk:fN L [aa B.mb 107 (jT B A),Sl 81 1 A.adL A.xs.length A.cL (A.xs.map cC),ah (cA W p c) A.xs,bN B.q (v.net.map cR),Sl 90 1 A.adE A.es.length A.cE (A.es.map bw),ah eN A.es] R]:U W w (aR W B p c v::R) :=
 U.shut (M:=[_,_,_,_,_,_]) (I.perm kk.perm) λ_ h1=>⟨A,h,h1⟩
theorem acS {P:Program}{t:TypeId} {ms}(ht:P.underlying t=some (.interface ms))(k:Nat):(Op.equalIn (k+1) t .nilIface .nilIface).run P w=.ok true w:=by
 simp[Op.equalIn,eW ht]
theorem acT {P:Program}{a:Act}{l:List (Nat×Value)} {x t ms u dst ty ps af g}(E:Fr a n l)(ht:P.underlying t=some (.interface ms))[e:Ev l x .nilIface] :
   (execOp a.eval ⟨dst,.binOp .eql t x (.const .nilIface) u,ty,ps,af,g⟩).run P w=.ok (.value (.bool true)) w:=by
 have hc:a.eval (.const .nilIface)=.nilIface:=rfl;have h2:(Op.equal t .nilIface .nilIface).run P w=.ok true w:=acS ht 9999;simp only[execOp,e.ev a n E,hc,Sem.run_bind];simp[eqGuard,binOp,h2]
theorem OC {P:Program}{a:Act}{l:List (Nat×Value)} {x t u ok dst ty ps af g}{z z2:Value}(E:Fr a n l)(h:(Instr.typeAssert z t u ok).run P w=.ok z2 w)[e:Ev l x z] :
   (execOp a.eval ⟨dst,.typeAssert x t u ok,ty,ps,af,g⟩).run P w=.ok (.value z2) w:=by
 simp[execOp,e.ev a n E,h]
end
end
section
def fT.mul:fT→Value
 | .mu M=>pt M.mb
 | .pl _=>.pointer none
section
variable {W w:World}{L:List SP}{n cL mb i:Nat}{ad:Option Addr}{B:jH}{y:Int}{x2 x3:Value}{xs:List (fJ×Pl)}
theorem acU (I:U W w (aa mb 107 [.slice ad n cL,x2,x3]::L))(hy:y<0∨(n:Int)≤y):Calls prog 28 #[pt mb,.int .i64 y] w λe V=>e=.returned .nilIface∧U W V (aa mb 107 [.slice ad n cL,x2,x3]::L):=by
 refine EN func28 ntmps28 rfl rfl λa E=>?_;refine RN 7 E I λa E=>?_;replace E:=E.aK 7;refine BY 4 E I (λj9 a E=>?_) λj9 a E=>?_
 ·
  refine RT 11 E I ?_;exact⟨rfl,I⟩
 refine RN 8 E I λa E=>?_;rw[dp (by omega)]at E;refine RT 3 E I ?_;exact⟨rfl,I⟩
theorem sB (I:U W w (aa mb 107 [.slice ad xs.length cL,x2,x3]::Sl 81 1 ad xs.length cL (xs.map cC)::L))(hi:i<xs.length):Calls prog 28 #[pt mb,.int .i64 i] w λe V=>e=.returned (cC xs[i])∧U W V (aa mb 107 [.slice ad xs.length cL,x2,x3]::Sl 81 1 ad xs.length cL (xs.map cC)::L):=by
 refine EN func28 ntmps28 rfl rfl λa E=>?_;refine RN 7 E I λa E=>?_;replace E:=E.aK 7;refine RN 4 E I λa E=>?_;rw[bn (by omega)]at E;refine RN 8 E I λa E=>?_;rw[bn (by omega)]at E;refine RN 2 E I λa E=>?_;obtain⟨b,o,rfl,hr⟩:=(I.pick (Sl 81 1 ad xs.length cL (xs.map cC))).bY ad (by omega);have eB:=hr i (cC xs[i]) (by rw[bm,aD hi];rfl);refine RN 6 E I λa E=>?_;refine SS E (ae E (eB)) λa E=>?_;refine RT 1 E I ?_;exact⟨rfl,I.sub⟩
theorem fT.assert (z:fT)(w:World):(Instr.typeAssert (.iface z.t (.pointer (some z.ad))) 81 78 true).run prog w=.ok (.tuple #[z.mul,.bool (match z with | .mu _=>true | .pl _=>false)]) w:=by
 cases z with
 | mu M=>kernel_rfl
 | pl B=>kernel_rfl
theorem HH (I:U W w (aa mb 107 [.slice ad xs.length cL,x2,x3]::Sl 81 1 ad xs.length cL (xs.map cC)::L))(hi:i<xs.length):Calls prog 27 #[pt mb,.int .i64 i] w λe V=>e=.returned xs[i].1.z.mul∧U W V (aa mb 107 [.slice ad xs.length cL,x2,x3]::Sl 81 1 ad xs.length cL (xs.map cC)::L):=by
 have has:=xs[i].1.z.assert;cases hz:xs[i].1.z with
 | mu M =>
  rw[hz]at has;refine EN func27 ntmps27 rfl rfl λa E=>?_;refine CL 5 E I (sB I hi) λa w E I=>?_;rw[show cC xs[i]=.iface (fT.mu M).t (.pointer (some (fT.mu M).ad)) from by rw[← hz]]at E;refine RN 0 E I λa E=>?_;refine SK (bu E rfl (OC E (has w)) rfl ?_);clear E a;intro a E;refine RN 9 E I λa E=>?_;replace E:=E.aK 15;refine RT 4 E I ?_;exact⟨rfl,I⟩
 | pl B =>
  rw[hz]at has;refine EN func27 ntmps27 rfl rfl λa E=>?_;refine CL 5 E I (sB I hi) λa w E I=>?_;rw[show cC xs[i]=.iface (fT.pl B).t (.pointer (some (fT.pl B).ad)) from by rw[← hz]]at E;refine RN 0 E I λa E=>?_;refine SK (bu E rfl (OC E (has w)) rfl ?_);clear E a;intro a E;refine RN 9 E I λa E=>?_;replace E:=E.eG 15;refine RT 3 E I ?_;exact⟨rfl,I⟩
theorem CP (I:U W w (aa mb 107 [x2,pt i,x3]::L)):Calls prog 22 #[pt mb] w λe V=>e=.returned (pt i)∧U W V (aa mb 107 [x2,pt i,x3]::L):=by
 refine EN func22 ntmps22 rfl rfl λa E=>?_;refine RN 6 E I λa E=>?_;replace E:=E.aK 4;refine RT 7 E I ?_;exact⟨rfl,I⟩
end
end
section
section
variable {W w:World}{L:List SP}{n c mb i q:Nat}{ad:Option Addr}{v:Wd}{x1 x3:Value}{xs:List (fJ×Pl)}{l net:List Ml}{e:List kj}
theorem U.xI {α:Type}{f:α→SP}{l:List α}{i:Nat}(h:i<l.length)(I:U W w (f l[i]::ah f (l.eraseIdx i)::L)):U W w (ah f l::L):=by
 have h1:=U.kY h I
 rwa [mE]at h1
theorem OD (l:List kj):∀ v∈l.map cz,v.oneCell'=true:=by
 intro v hv;obtain⟨e,_,rfl⟩:=cV.1 hv;exact Gf e
theorem OE (I:U W w (Sl 135 1 ad e.length c (e.map cz)::L))(hl:e.length≤1000000000):Calls prog 57 #[.slice ad e.length c] w λr V=>∃ au c',r=.returned (.slice au e.length c')∧U W V (Sl 135 1 au e.length c' (e.map cz)::Sl 135 1 ad e.length c (e.map cz)::L):=by
 cases pM:ad with
 | none =>
  subst pM;have h0:e=[]:=by
   rcases lD e.length with h0 | h0
   ·exact hG h0
   ·obtain⟨b,o,h1,_⟩:=I.bY none h0;cases h1
  subst h0;refine EN func57 ntmps57 rfl rfl λa E=>?_;refine RN 6 E I λa E=>?_;replace E:=E.eG 4;refine RT 3 E I ?_;exact⟨_,_,rfl,I.bR _ _ _⟩
 | some a =>
  rw[← pM];refine EN func57 ntmps57 rfl rfl λa E=>?_;refine RN 6 E I λa E=>?_;rw[show ad.isNone=false from by rw[pM];rfl]at E;replace E:=E.aK 4;refine RN 2 E I λa E=>?_;refine ux E rfl I underlying90 Ty.t135 rfl λb5 a w E I ho=>?_;clear ho;replace I:U W w (Sl 135 1 (some ⟨b5,0,none⟩) 0 0 []::Sl 135 1 ad e.length c (e.map cz)::L):=I.tail.bR _ _ _;refine RN 1 E I λa E=>?_;refine g3 E rfl I underlying90 Ty.t135 rfl rfl (by decide) (λh0=>I.tail.bY ad h0) (by rw[bf,fD]) (OD _) (by omega) λsX rD a w E I=>?_;rw[nil_append,ep]at I;rw[ep]at E;refine RT 1 E I ?_;exact⟨_,_,rfl,I⟩
theorem acV {m:Ml}(h:m.2.2.length≤1000):(if qf (net.map cR) m.2.2.length then net.map cR++[cR m] else net.map cR)=(pa net m).map cR:=by
 have h1:qf (net.map cR) m.2.2.length=decide (net.length<300):=by
  rw[qf,bf,dp h,Bool.and_true]
 rw[h1,pa];by_cases h2:net.length<300
 ·rw[dp h2,ak rfl,ak h2,cS];rfl
 ·rw[bn h2,ag (by decide),ag h2]
theorem OF (I:U W w (bU 124 ad n c l::bN q (net.map cR)::aa mb 107 [x1,pt q,x3]::L))(hn:n≤1000)(hl:∀ m∈l,m.2.2.length≤1000) :
   Calls prog 61 #[pt mb,.slice ad n c] w λe V=>e=.returned (.int .i64 0)∧U W V (bN q ((ez net l).map cR)::aa mb 107 [x1,pt q,x3]::L):=by
 obtain⟨xs,eh,b0,I⟩:=bU.open I;have bd:xs.length=n:=by rw[← b0,← eh,bf]
 subst bd;refine EN func61 ntmps61 rfl rfl λa E=>?_;refine RN 7 E I λa E=>?_;refine aQ (λμ a w=>∃ (i:Nat),(μ=xs.length-i∧i≤xs.length)∧Fr a 20 [(0,pt mb),(7,.slice ad xs.length c),(8,.int .i64 xs.length),(9,.int .i64 i)]∧U W w (bN q ((ez net (l.take i)).map cR)::Sl 124 3 ad xs.length c (rows bJ xs)::ah bS xs::aa mb 107 [x1,pt q,x3]::L)) (xs.length) (⟨0,⟨rfl,by omega⟩,E.ab [0,7,8,9],(show U W w (Sl 124 3 ad xs.length c (rows bJ xs)::ah bS xs::bN q ((ez net (l.take 0)).map cR)::_) from I).sub⟩) ?_;clear E I;rintro μ a w ⟨i,⟨rfl,hi⟩,E,I⟩;refine IF 3 E I (λaj a E=>?_) λaj a E=>?_
 ·
  have aF:i<xs.length:=by omega
  have zO:i<l.length:=by omega
  refine RN 2 E I λa E=>?_;obtain⟨bi,oi,rfl,pS⟩:=(I.pick (Sl 124 3 ad xs.length c (rows bJ xs))).bY ad (by omega);have fp:=g8 nz pS (aD aF);obtain⟨m,hm⟩:∃ m,m=l[i]:=⟨_,rfl⟩;obtain⟨xa,xc,hx⟩:∃ a c,xs[i]=(a,c,m):=⟨xs[i].1,xs[i].2.1,by
   have h1:(xs.map (·.2.2))[i]?=l[i]?:=by rw[eh]
   rw[bm,aD aF,aD zO]at h1;have h2:xs[i].2.2=l[i]:=by simpa using h1
   rw[hm,← h2]⟩
  have mA:=hl m (by rw[hm];exact iI _);rw[hx]at fp;refine RN 1 E I λa E=>?_;refine SS E (bQ E underlying124 rfl Ty.t124 (fp)) λa E=>?_;refine AL 0 E I λcG a w E I=>?_;refine SA 0 E I λa w E I=>?_;refine bW 0 [4] [0,1,2,3003,1004,1005] E I λa w E I hH hC=>?_;refine RH 5 E I hH hC λa E=>?_;refine CL 0 E I (aca (bs:=m.2.2) (I.pick (bN q ((ez net (l.take i)).map cR))) (λV dg=>by
   have h1:=(dg.pick (ah bS xs)).fo aF;rw[hx]at h1;exact U.cr (L:=bS (xa,xc,m)::_) h1 _ _ (k:=(fk.head:fk (Sl 5 1 xa m.2.2.length xc (bc m.2.2)::_) xa _ _ _ _ _ _)) rfl rfl)) λa w E I=>?_
  refine RN 0 E I λa E=>?_;rw[show ((m.1:Int),(m.2.1:Int),m.2.2)=cR m from rfl,acV mA,hm,← N7 net zO]at I;refine RN 2 E I λa E=>?_;exact⟨xs.length-(i+1),by omega,i+1,⟨rfl,by omega⟩,E.ab [0,7,8,9],I.sub⟩
 refine RT 2 E I ?_;obtain rfl:i=xs.length:=by omega
 rw[fO (by omega)]at I;exact⟨rfl,I.sub⟩
end
end
section
abbrev dY (s:fB):List Value:=[.int .i64 s.fn,.int .i64 s.a,.int .i64 s.b,.int .i64 s.n]
section
variable {W w:World}{L:List SP}{c d cL mb i q:Nat}{ad adE:Option Addr}{p:Pr}{B:jH}{A:ob}{v:Wd}{x:fJ}{s xw s':Pl}{t:fB}{y:Int}{net:List Ml}{cf:Cf}
theorem ob.Ok.at (h:A.Ok B v)(hi:i<v.ps.length):∃ x,A.xs[i]?=some (x,aq v i)∧i<A.xs.length∧B.fC[i]?=some x:=by
 have hl:A.xs.length=v.ps.length:=by rw[← h.ps,bf]
 have dN:i<A.xs.length:=by omega
 refine⟨A.xs[i].1,?_,dN,by rw[← h.fC,bm,aD dN];rfl⟩;rw[aD dN,aq,bl,← h.ps,bm,aD dN];rfl
theorem aR.out (I:U W w (ah (cA W p c) A.xs::L))(hx:A.xs[i]?=some (x,s)):U W w (x.J W p c s::ah (cA W p c) (A.xs.eraseIdx i)::L):=by
 obtain⟨hi,h1⟩:=aZ.1 hx;have h2:=I.fo hi;rw[h1]at h2;exact h2
theorem aR.put (hA:A.Ok B v)(hx:A.xs[i]?=some (x,xw))(ER:c≤d)(net:List Ml)
   (I:U W w (x.J W p d s'::ah (cA W p c) (A.xs.eraseIdx i)::aa B.mb 107 (jT B A)::Sl 81 1 A.adL A.xs.length A.cL (A.xs.map cC)::bN B.q (net.map cR)::Sl 90 1 A.adE A.es.length A.cE (A.es.map bw)::ah eN A.es::L)) :
   U W w (aR W B p d { v with ps:=v.ps.set i s',net:=net }::L):=by
 obtain⟨hi,h1⟩:=aZ.1 hx;have h2:=(I.pick (ah (cA W p c) (A.xs.eraseIdx i))).sA ER;have h3:=U.kY (f:=cA W p d) (x:=(x,s')) hi (h2.pick (x.J W p d s'));have e1:(A.xs.set i (x,s')).map cC=A.xs.map cC:=by
  rw[jx,show cC (x,s')=(A.xs.map cC)[i]'(by rw[bf];exact hi) from by rw[getElem_map,h1],mE]
 have e2:(A.xs.set i (x,s')).length=A.xs.length:=bt ..;have hA':ob.Ok { A with xs:=A.xs.set i (x,s') } B { v with ps:=v.ps.set i s',net:=net }:=by
  refine⟨?_,?_,hA.ev⟩
  ·show (A.xs.set i (x,s')).map (·.1)=_;rw[jx,← hA.fC];show (A.xs.map (·.1)).set i x=_;rw[show x=(A.xs.map (·.1))[i]'(by rw[bf];exact hi) from by rw[getElem_map,h1],mE]
  ·show (A.xs.set i (x,s')).map (·.2)=v.ps.set i s';rw[jx,hA.ps]
 have h4:U W w (ah (cA W p d) (A.xs.set i (x,s'))::aa B.mb 107 (jT B { A with xs:=A.xs.set i (x,s') })::Sl 81 1 A.adL (A.xs.set i (x,s')).length A.cL ((A.xs.set i (x,s')).map cC)::bN B.q (net.map cR)::Sl 90 1 A.adE A.es.length A.cE (A.es.map bw)::ah eN A.es::L):=by
  simp only[jT,e1,e2];exact h3.sub
 exact (aR.fold h4 B p d { v with ps:=v.ps.set i s',net:=net } { A with xs:=A.xs.set i (x,s') } hA').sub
theorem fB.u8 (b:Int):IntKind.u8.wrap b=((gg b).toNat:Int):=by rw[wrap_u8,abZ]
structure jH.Ok (B:jH)(p:Pr)(c:Nat):Prop where
 pr:dq p
 sz:p.title.size≤1000000000
 gs:∀ x∈B.fC,cY x.z.gs
 c:c≤1000000
theorem acW (I:U W w L):Calls prog 62 #[.pointer none,.int .i64 y] w λe V=>e=.returned (.bool false)∧U W V L:=by
 refine EN func62 ntmps62 rfl rfl λa E=>?_;refine RN 7 E I λa E=>?_;replace E:=E.eG 7;refine RT 19 E I ?_;exact⟨rfl,I⟩
theorem acX (I:U W w (ah (cA W p c) A.xs::L))(hx:A.xs[i]?=some (x,s))(a7:dq p)(aE:p.title.size≤1000000000)(hc:c≤1000000) :
   Calls prog 62 #[x.z.mul,.int .i64 y] w λe V=>∃ z:Bool,e=.returned (.bool z)∧(z=true→0≤y∧y<s.k.workers∧∃ M,x.z=.mu M)∧U W V (ah (cA W p (c+1)) A.xs::L):=by
 obtain⟨hi,h1⟩:=aZ.1 hx;have h2:=aR.out I hx;obtain⟨cf,z⟩:=x;cases z with
 | pl B=>exact (acW I).mono λe V ⟨h,I⟩=>⟨false,h,(λh=>by cases h),I.sA (gT c)⟩
 | mu M =>
  refine (acx h2 a7 aE hc).mono λe V ⟨z,h,h3,I⟩=>⟨z,h,λhz=>⟨(h3 hz).2.1,(h3 hz).2.2,M,rfl⟩,?_⟩;have h4:=(I.pick (ah (cA W p c) (A.xs.eraseIdx i))).sA (gT c);refine U.xI hi ?_;rw[h1];exact h4.pick (fw W M p cf (c+1) s)
theorem CQ {t:fB}(h:t.fn=1)(gi:t.a=i)(hi:i<v.ps.length):gh p t v=((dK p (gg t.b) (aq v i)).1,{ v with ps:=v.ps.set i (dK p (gg t.b) (aq v i)).2 }):=by
 rw[gh,ag (by omega),ak h,gi,c3]
theorem xJ {t:fB}(h:t.fn=2)(gi:t.a=i)(hi:i<v.ps.length):gh p t v=(0,{ v with ps:=v.ps.set i ⟨(bq (aq v i).k).2,(aq v i).g⟩,net:=ez v.net (bq (aq v i).k).1 }):=by
 rw[gh,ag (by omega),ag (by omega),ak h,gi,c3]
theorem zP {t:fB}(h:t.fn=8)(gi:t.a=i)(hi:i<v.ps.length):gh p t v=(0,{ v with ps:=v.ps.set i ⟨(bF (aq v i).k).2,(aq v i).g⟩,net:=ez v.net (bF (aq v i).k).1 }):=by
 rw[gh,ag (by omega),ag (by omega),ag (by omega),ak h,gi,c3]
theorem zQ {t:fB}(h:t.fn=7)(gi:t.a=i)(hi:i<v.ps.length):gh p t v=(0,v):=by
 rw[gh,ag (by omega),ag (by omega),ag (by omega),ag (by omega)]
theorem acY (I:U W w (aR W B p c v::L))(ha0:t.a<0∨(v.ps.length:Int)≤t.a) :
   Calls prog 44 #[pt B.mb,.agg (dY t).toArray] w λe V=>e=.returned (.int .i64 7)∧U W V (aR W B p c v::L):=by
 replace I:=aR.open I;obtain⟨A,hA,I⟩:=I;have hl:A.xs.length=v.ps.length:=by rw[← hA.ps,bf]
 refine EN func44 ntmps44 rfl rfl λa E=>?_;refine BX 1 E I λb3 a w E I=>?_;change U W w (aa b3 58 (dY t)::_) at I;refine CL 5 E I (acU (I.pick (aa B.mb 107 (jT B A))) (by omega)) λa w E I=>?_;refine RN 4 E I λa E=>?_;refine SK (bu E rfl (acT E underlying81) rfl ?_);clear E a;intro a E;refine RN 0 E I λa E=>?_;replace E:=E.eG 11;refine RT 3 E I ?_;exact⟨rfl,(aR.fold I B p c v A hA).sub⟩
set_option maxHeartbeats 1000000 in
theorem acZ (I:U W w (aR W B p c v::L))(hB:B.Ok p c)(hv:bB p cf c v)(hi:i<v.ps.length)(hf:t.fn=1∨t.fn=2∨t.fn=8∨t.fn=7)(gi:t.a=i) :
   Calls prog 44 #[pt B.mb,.agg (dY t).toArray] w λe V=>∃ z:Int,e=.returned (.int .i64 z)∧(t.fn≠7→z=(gh p t v).1) ∧
    (t.fn=7→z=7∨(z=0∧0≤t.b∧t.b<(aq v i).k.workers∧∃ x M,B.fC[i]?=some x∧x.z=.mu M))∧U W V (aR W B p (c+1) (gh p t v).2::L):=by
 replace I:=aR.open I;obtain⟨A,hA,I⟩:=I;obtain⟨x,hx,CR,pf⟩:=hA.at hi;obtain⟨_,gX⟩:=aZ.1 hx;have hM:=x.qU (W:=W) (p:=p) hB.pr hB.sz (hB.gs x (bH pf));obtain⟨hw,dd,xK⟩:=hv.pl i hi;have ng:=hB.c;have zR:cC A.xs[i]=.iface x.z.t (.pointer (some x.z.ad)):=by rw[gX]
 refine EN func44 ntmps44 rfl rfl λa E=>?_;refine BX 1 E I λb3 a w E I=>?_;change U W w (aa b3 58 (dY t)::_) at I;refine RN 5 E I λa E=>?_;rw[gi]at E;refine CL 0 E I (sB ((I.pick (Sl 81 1 A.adL A.xs.length A.cL (A.xs.map cC))).pick (aa B.mb 107 (jT B A))) CR) λa w E I=>?_;refine RN 1 E I λa E=>?_;rw[zR]at E;refine RN 4 E I λa E=>?_;replace E:=E.aK 11;refine IF 8 E I (λao a E=>?_) λao a E=>?_
 ·
  refine RN 1 E I λa E=>?_;replace I:=aR.out (I.pick (ah (cA W p c) A.xs)) hx;refine RN 3 E I λa E=>?_;refine SS E (gr E underlying3 underlying5) λa E=>?_;rw[fB.u8]at E;refine RN 0 E I λa E=>?_;refine jN E rfl hM.Hm hM.cP rfl (hM.al _ _ c (aq v i) (gg t.b) ng hw (I.pick (x.J W p c (aq v i)))) (by rfl) ?_;clear E I;rintro e w ⟨rfl,I⟩;refine⟨_,rfl,λa E=>?_⟩;refine RT 1 E I ?_;exact⟨_,rfl,λ_=>by rw[CQ (by assumption) gi hi],λh=>by omega,by
   have h1:=aR.put hA hx (gT c) v.net (I.sub (M:=x.J W p (c+1) (dK p (gg t.b) (aq v i)).2::ah (cA W p c) (A.xs.eraseIdx i)::aa B.mb 107 (jT B A)::Sl 81 1 A.adL A.xs.length A.cL (A.xs.map cC)::bN B.q (v.net.map cR)::Sl 90 1 A.adE A.es.length A.cE (A.es.map bw)::ah eN A.es::L));rw[CQ (by assumption) gi hi];exact h1⟩
 refine IF 3 E I (λay a E=>?_) λay a E=>?_
 ·
  refine RN 1 E I λa E=>?_;replace I:=aR.out (I.pick (ah (cA W p c) A.xs)) hx;refine RN 2 E I λa E=>?_;refine jN E rfl hM.Hq hM.cT rfl (hM.tick _ _ c (aq v i) ng hw (by omega) (I.pick (x.J W p c (aq v i)))) (by rfl) ?_;clear E I;rintro e w ⟨am,jI,rfl,I⟩;refine⟨_,rfl,λa E=>?_⟩;refine CL 0 E I (OF (((I.pick (aa B.mb 107 (jT B A))).pick (bN B.q (v.net.map cR))).pick (bU 124 am (bq (aq v i).k).1.length jI (bq (aq v i).k).1)) (N5 hw.wc) (λm hm=>(N8 hw.wc m hm).2)) λa w E I=>?_;refine RT 1 E I ?_;exact⟨_,rfl,λ_=>by rw[xJ (by assumption) gi hi],λh=>by omega,by
   have h1:=aR.put hA hx (gT c) (ez v.net (bq (aq v i).k).1) (I.sub (M:=x.J W p (c+1) ⟨(bq (aq v i).k).2,(aq v i).g⟩::ah (cA W p c) (A.xs.eraseIdx i)::aa B.mb 107 (jT B A)::Sl 81 1 A.adL A.xs.length A.cL (A.xs.map cC)::bN B.q ((ez v.net (bq (aq v i).k).1).map cR)::Sl 90 1 A.adE A.es.length A.cE (A.es.map bw)::ah eN A.es::L));rw[xJ (by assumption) gi hi];exact h1⟩
 refine IF 3 E I (λbj a E=>?_) λbj a E=>?_
 ·
  refine RN 1 E I λa E=>?_;replace I:=aR.out (I.pick (ah (cA W p c) A.xs)) hx;refine RN 2 E I λa E=>?_;refine jN E rfl hM.Hr hM.Hs rfl (hM.lP _ _ c (aq v i) ng hw (I.pick (x.J W p c (aq v i)))) (by rfl) ?_;clear E I;rintro e w ⟨am,jI,rfl,I⟩;refine⟨_,rfl,λa E=>?_⟩;refine CL 0 E I (OF (((I.pick (aa B.mb 107 (jT B A))).pick (bN B.q (v.net.map cR))).pick (bU 124 am (bF (aq v i).k).1.length jI (bF (aq v i).k).1)) (N6 hw.wc) (λm hm=>(N9 hw.wc m hm).2)) λa w E I=>?_;refine RT 1 E I ?_;exact⟨_,rfl,λ_=>by rw[zP (by assumption) gi hi],λh=>by omega,by
   have h1:=aR.put hA hx (gT c) (ez v.net (bF (aq v i).k).1) (I.sub (M:=x.J W p (c+1) ⟨(bF (aq v i).k).2,(aq v i).g⟩::ah (cA W p c) (A.xs.eraseIdx i)::aa B.mb 107 (jT B A)::Sl 81 1 A.adL A.xs.length A.cL (A.xs.map cC)::bN B.q ((ez v.net (bF (aq v i).k).1).map cR)::Sl 90 1 A.adE A.es.length A.cE (A.es.map bw)::ah eN A.es::L));rw[zP (by assumption) gi hi];exact h1⟩
 refine a1 2 (λw0 V=>Rd V b3 0 (dY t)) [3,5] [0,1,4,3002,3005,1003,1006,7] E I λa w E I hH=>?_;have hC:=hH.at w (I.ai (b:=b3));refine RH 3 E I hH hC λa E=>?_;refine QH E (λw hc=>ae E (hc 1 _ rfl)) hC λa E=>?_;rw[gi]at E;refine RH 0 E I hH hC λa E=>?_;refine QH E (λw hc=>ae E (hc 2 _ rfl)) hC λa E=>?_;refine RH 0 E I hH hC λa E=>?_;refine CL 0 E I (HH ((I.pick (Sl 81 1 A.adL A.xs.length A.cL (A.xs.map cC))).pick (aa B.mb 107 (jT B A))) CR) λa w E I=>?_;replace hC:=hH.at w (I.ai (b:=b3));rw[show A.xs[i].1.z.mul=x.z.mul from by rw[gX]]at E;refine RH 0 E I hH hC λa E=>?_;refine aW 0 E I (acX (x:=x) (y:=t.b) (I.pick (ah (cA W p c) A.xs)) hx hB.pr hB.sz ng) λz a w E ⟨hz,I⟩=>?_;refine RN 1 E I λa E=>?_;refine IF 0 E I (λbO a E=>?_) λbO a E=>?_
 ·
  have kN:z=false:=by cases z <;> simp_all
  refine RT 2 E I ?_;exact⟨7,rfl,λh=>absurd (by omega) h,λ_=>.inl rfl,by
   rw[zQ (by omega) gi hi];exact (aR.fold I B p (c+1) v A hA).sub⟩
 have kN:z=true:=by cases z <;> simp_all
 refine RT 2 E I ?_;exact⟨0,rfl,λh=>absurd (by omega) h,λ_=>.inr ⟨rfl,(hz kN).1,(hz kN).2.1,x,(hz kN).2.2.choose,pf,(hz kN).2.2.choose_spec⟩,by
  rw[zQ (by omega) gi hi];exact (aR.fold I B p (c+1) v A hA).sub⟩
end
end
section
section
variable {W w:World}{L:List SP}{n c cL mb j q:Nat}{ad adE:Option Addr}{p:Pr}{B:jH}{A:ob}{v:Wd}{x:fJ}{t:fB}{y:Int}{net:List Ml}{m:Ml}{cf:Cf}{z:UInt8}
theorem HI (h:net[j]?=some m):∃ h2:j<(net.map cR).length,(net.map cR)[j]=cR m:=by
 obtain⟨h1,h2⟩:=aZ.1 h;exact⟨by rw[bf];exact h1,by rw[getElem_map,h2]⟩
theorem HJ (I:U W w (bN q (net.map cR)::L))(h:net[j]?=some m):Calls prog 52 #[pt q,.int .i64 j] w λe V=>∃ ad c,e=.returned (.tuple #[.agg #[.int .i64 m.1,.int .i64 m.2.1,.slice ad m.2.2.length c],.bool true])∧U W V (Sl 5 1 ad m.2.2.length c (bc m.2.2)::bN q (net.map cR)::L):=by
 obtain⟨h1,h2⟩:=HI h;have h3:=acd I h1;rw[h2]at h3;exact h3
theorem OG (I:U W w (bN q (net.map cR)::L))(h:y<0∨(net.length:Int)≤y):Calls prog 52 #[pt q,.int .i64 y] w λe V=>e=.returned (.tuple #[.agg #[.int .i64 0,.int .i64 0,.slice none 0 0],.bool false])∧U W V (bN q (net.map cR)::L) :=
 acb I (by rw[bf];simp;omega)
theorem OH (I:U W w (bN q (net.map cR)::L))(h:net[j]?=some m):Calls prog 63 #[pt q,.int .i64 j] w λe V=>e=.returned (.bool true)∧U W V (bN q ((net.eraseIdx j).map cR)::L):=by
 obtain⟨h1,h2⟩:=HI h;have h3:=acf I h1;rw[show (net.map cR).eraseIdx j=(net.eraseIdx j).map cR from by simp only[sR,cS,map_take,map_drop]]at h3;exact h3
theorem ac0 (I:U W w (bN q (net.map cR)::L))(h:net[j]?=some m):Calls prog 64 #[pt q,.int .i64 j,.int .i64 y,.int .u8 (z.toNat:Int)] w λe V =>
   e=.returned (.bool (decide (0≤y)&&decide (y<m.2.2.length)))∧U W V (bN q ((if y<0∨(m.2.2.length:Int)≤y then net else net.set j (m.1,m.2.1,m.2.2.set y.toNat (m.2.2.getD y.toNat 0 ^^^ z))).map cR)::L):=by
 obtain⟨h1,h2⟩:=HI h;have h3:=acg (aU:=y) (x:=z) I h1;rw[h2]at h3;refine h3.mono λe V ⟨h4,h5⟩=>⟨h4,?_⟩;by_cases h6:y<0∨(m.2.2.length:Int)≤y
 ·rw[ak h6];rw[ag (by show ¬ (decide (0≤y)&&decide (y<(m.2.2.length:Int)))=true;simp;omega)]at h5;exact h5
 ·rw[ag h6,jx];rw[ak (by show (decide (0≤y)&&decide (y<(m.2.2.length:Int)))=true;simp;omega)]at h5;exact h5
theorem OI {t:fB}(h:t.n<0∨(v.net.length:Int)≤t.n):gp p t v=(3,v):=by rw[gp,ak h]
theorem CS (h:v.net[j]?=some m):v.net.getD j (0,0,[])=m:=by rw[bl,h];rfl
theorem HK {t:fB}(h:t.fn=4)(gL:t.n=j)(hm:v.net[j]?=some m):gp p t v=(0,{ v with net:=v.net.eraseIdx j }):=by
 have h1:=(aZ.1 hm).1;rw[gp,ag (by omega),ag (by omega),ak h,gL,c3]
theorem vF {t:fB}(h:t.fn=6)(gL:t.n=j)(hm:v.net[j]?=some m):gp p t v=if t.a<0∨(m.2.2.length:Int)≤t.a then (3,v) else (0,{ v with net:=v.net.set j (m.1,m.2.1,m.2.2.set t.a.toNat (m.2.2.getD t.a.toNat 0 ^^^ gg t.b)) }):=by
 have h1:=(aZ.1 hm).1;rw[gp,ag (by omega),ak h,gL,c3,CS hm]
theorem CT {t:fB}(h:t.fn≠4)(h':t.fn≠6)(gL:t.n=j)(hm:v.net[j]?=some m):gp p t v=((dL p m.2.2 (aq v m.2.1)).1,{ v with ps:=v.ps.set m.2.1 (dL p m.2.2 (aq v m.2.1)).2,net:=if t.fn=5 then v.net else v.net.eraseIdx j }):=by
 have h1:=(aZ.1 hm).1;rw[gp,ag (by omega),ag h',ag h,gL,c3,CS hm]
theorem ac1 (I:U W w (aR W B p c v::L))(rl:t.n<0∨(v.net.length:Int)≤t.n) :
   Calls prog 45 #[pt B.mb,.agg (dY t).toArray] w λe V=>e=.returned (.int .i64 3)∧U W V (aR W B p c v::L):=by
 replace I:=aR.open I;obtain⟨A,hA,I⟩:=I;refine EN func45 ntmps45 rfl rfl λa E=>?_;refine BX 1 E I λb3 a w E I=>?_;change U W w (aa b3 58 (dY t)::_) at I;refine RN 1 E I λa E=>?_;refine cc (M:=λa w=>∃ b5:Nat,Fr a 61 [(0,pt B.mb),(3,pt b3),(5,pt b5),(6,.bool false)]∧U W w (aa b5 124 [.int .i64 0,.int .i64 0,.slice none 0 0]::aa b3 58 (dY t)::aa B.mb 107 (jT B A)::Sl 81 1 A.adL A.xs.length A.cL (A.xs.map cC)::ah (cA W p c) A.xs::bN B.q (v.net.map cR)::Sl 90 1 A.adE A.es.length A.cE (A.es.map bw)::ah eN A.es::L)) ?_ ?_
 ·
  refine a1 0 (λw0 V=>Rd V B.mb 0 (jT B A)∧Rd V b3 0 (dY t)) [5,10] [0,1,2,4,3003,3005,2006,7,8,9,1010,1011,12] E I λa w E I hH=>?_;have hC:=hH.at w ⟨I.ai (b:=B.mb),I.ai (b:=b3)⟩;refine RH 4 E I hH hC λa E=>?_;refine QH E (λw hc=>ae E (hc.1 1 _ rfl)) hC λa E=>?_;refine QH E (λw hc=>ae E (hc.2 3 _ rfl)) hC λa E=>?_;refine RH 0 E I hH hC λa E=>?_;refine DN [(6,[7,8,9,1010,1011,12]),(10,[1006,7,8,9,1011,12])] (by kernel_rfl) rfl ⟨⟨_,rfl,?_⟩,⟨_,rfl,?_⟩,trivial⟩
  ·
   refine RH 0 E I hH hC λa E=>?_;refine CL 0 E I (OG (I.pick (bN B.q (v.net.map cR))) rl) λa w E I=>?_;refine RN 3 E I λa E=>?_;refine e5 E rfl I Ty.t124 rfl λb5 a w E I ho=>?_;clear ho;replace hC:=hH.at w ⟨I.ai (b:=B.mb),I.ai (b:=b3)⟩;refine RH 0 E I hH hC λa E=>?_;refine SA 0 E I λa w E I=>?_;refine RN 1 E I λa E=>?_;exact⟨b5,E.ab [0,3,5,6],I.sub⟩
  refine RH 0 E I hH hC λa E=>?_;refine e5 E rfl I Ty.t124 rfl λb5 a w E I ho=>?_;clear ho;replace hC:=hH.at w ⟨I.ai (b:=B.mb),I.ai (b:=b3)⟩;refine RH 0 E I hH hC λa E=>?_;refine CL 0 E I (OG (I.pick (bN B.q (v.net.map cR))) rl) λa w E I=>?_;refine SA 3 E I λa w E I=>?_;refine RN 1 E I λa E=>?_;exact⟨b5,E.ab [0,3,5,6],I.sub⟩
 clear E;(try clear I);rintro a w ⟨b5,E,I⟩;refine RN 4 E I λa E=>?_;replace E:=E.eG 18;refine RT 3 E I ?_;exact⟨rfl,(aR.fold I B p c v A hA).sub⟩
set_option maxHeartbeats 1000000 in
theorem ac2 (I:U W w (aR W B p c v::L))(hB:B.Ok p c)(hv:bB p cf c v)(hf:t.fn=3∨t.fn=4∨t.fn=5∨t.fn=6)(gL:t.n=j)(hm:v.net[j]?=some m) :
   Calls prog 45 #[pt B.mb,.agg (dY t).toArray] w λe V=>e=.returned (.int .i64 (gp p t v).1)∧U W V (aR W B p (c+1) (gp p t v).2::L):=by
 replace I:=aR.open I;obtain⟨A,hA,I⟩:=I;have ea:=(aZ.1 hm).1;have eV:=hv.HA ea;rw[CS hm]at eV;obtain⟨x,hx,CR,pf⟩:=hA.at eV.1;obtain⟨_,gX⟩:=aZ.1 hx;have hM:=x.qU (W:=W) (p:=p) hB.pr hB.sz (hB.gs x (bH pf));obtain⟨hw,dd,xK⟩:=hv.pl m.2.1 eV.1;have ng:=hB.c;have zR:cC A.xs[m.2.1]=.iface x.z.t (.pointer (some x.z.ad)):=by rw[gX]
 refine EN func45 ntmps45 rfl rfl λa E=>?_;refine BX 1 E I λb3 a w E I=>?_;change U W w (aa b3 58 (dY t)::_) at I;refine RN 1 E I λa E=>?_;refine cc (M:=λa w=>∃ (b5:Nat) (am:Option Addr) (jI:Nat),Fr a 61 [(0,pt B.mb),(3,pt b3),(5,pt b5),(6,.bool true)]∧U W w (aa b5 124 [.int .i64 m.1,.int .i64 m.2.1,.slice am m.2.2.length jI]::Sl 5 1 am m.2.2.length jI (bc m.2.2)::aa b3 58 (dY t)::aa B.mb 107 (jT B A)::Sl 81 1 A.adL A.xs.length A.cL (A.xs.map cC)::ah (cA W p c) A.xs::bN B.q (v.net.map cR)::Sl 90 1 A.adE A.es.length A.cE (A.es.map bw)::ah eN A.es::L)) ?_ ?_
 ·
  refine a1 0 (λw0 V=>Rd V B.mb 0 (jT B A)∧Rd V b3 0 (dY t)) [5,10] [0,1,2,4,3003,3005,2006,7,8,9,1010,1011,12] E I λa w E I hH=>?_;have hC:=hH.at w ⟨I.ai (b:=B.mb),I.ai (b:=b3)⟩;refine RH 4 E I hH hC λa E=>?_;refine QH E (λw hc=>ae E (hc.1 1 _ rfl)) hC λa E=>?_;refine QH E (λw hc=>ae E (hc.2 3 _ rfl)) hC λa E=>?_;rw[gL]at E;refine RH 0 E I hH hC λa E=>?_;refine DN [(6,[7,8,9,1010,1011,12]),(10,[1006,7,8,9,1011,12])] (by kernel_rfl) rfl ⟨⟨_,rfl,?_⟩,⟨_,rfl,?_⟩,trivial⟩
  ·
   refine RH 0 E I hH hC λa E=>?_;refine aX 0 E I (HJ (I.pick (bN B.q (v.net.map cR))) hm) λam jI a w E I=>?_;refine RN 3 E I λa E=>?_;refine e5 E rfl I Ty.t124 rfl λb5 a w E I ho=>?_;clear ho;replace hC:=hH.at w ⟨I.ai (b:=B.mb),I.ai (b:=b3)⟩;refine RH 0 E I hH hC λa E=>?_;refine SA 0 E I λa w E I=>?_;refine RN 1 E I λa E=>?_;exact⟨b5,am,jI,E.ab [0,3,5,6],I.sub⟩
  refine RH 0 E I hH hC λa E=>?_;refine e5 E rfl I Ty.t124 rfl λb5 a w E I ho=>?_;clear ho;replace hC:=hH.at w ⟨I.ai (b:=B.mb),I.ai (b:=b3)⟩;refine RH 0 E I hH hC λa E=>?_;refine aX 0 E I (HJ (I.pick (bN B.q (v.net.map cR))) hm) λam jI a w E I=>?_;refine SA 3 E I λa w E I=>?_;refine RN 1 E I λa E=>?_;exact⟨b5,am,jI,E.ab [0,3,5,6],I.sub⟩
 clear E;(try clear I);rintro a w ⟨b5,am,jI,E,I⟩;refine RN 4 E I λa E=>?_;replace E:=E.aK 18;refine RN 1 E I λa E=>?_;refine cc (M:=λa w=>((t.fn≠4∧t.fn≠6)∧Fr a 61 [(0,pt B.mb),(5,pt b5)])∧U W w (aa b5 124 [.int .i64 m.1,.int .i64 m.2.1,.slice am m.2.2.length jI]::Sl 5 1 am m.2.2.length jI (bc m.2.2)::aa B.mb 107 (jT B A)::Sl 81 1 A.adL A.xs.length A.cL (A.xs.map cC)::ah (cA W p c) A.xs::bN B.q ((if t.fn=5 then v.net else v.net.eraseIdx j).map cR)::Sl 90 1 A.adE A.es.length A.cE (A.es.map bw)::ah eN A.es::L)) ?_ ?_
 ·
  refine IF 6 E I (λao a E=>?_) λao a E=>?_
  ·
   refine bW 1 [5] [0,1,2,4,3003,1005,1006] E I λa w E I hH hC=>?_;refine RH 6 E I hH hC λa E=>?_;rw[gL]at E;refine CL 0 E I (OH (I.pick (bN B.q (v.net.map cR))) hm) λa w E I=>?_;refine RT 2 E I ?_;exact⟨by rw[HK (by assumption) gL hm],by
    rw[HK (by assumption) gL hm];exact (aR.fold ((I.pick (ah (cA W p c) A.xs)).sA (gT c)) B p (c+1) { v with net:=v.net.eraseIdx j } A ⟨hA.fC,hA.ps,hA.ev⟩).sub⟩
  refine IF 3 E I (λay a E=>?_) λay a E=>?_
  ·
   refine bW 2 [5,7,9,10] [0,1,2,4,6,8,3003,3005,3007,1009,1010,1011,12] E I λa w E I hH hC=>?_;refine RH 10 E I hH hC λa E=>?_;refine SS E (gr E underlying3 underlying5) λa E=>?_;rw[fB.u8,gL]at E;refine RH 0 E I hH hC λa E=>?_;refine CL 0 E I (ac0 (I.pick (bN B.q (v.net.map cR))) hm) λa w E I=>?_;refine RN 1 E I λa E=>?_;refine IF 0 E I (λbj a E=>?_) λbj a E=>?_
   ·
    have ho:t.a<0∨(m.2.2.length:Int)≤t.a:=by
     by_cases h1:t.a<0
     ·exact .inl h1
     ·by_cases h2:(m.2.2.length:Int)≤t.a
      ·exact .inr h2
      ·simp at bj;omega
    refine RT 2 E I ?_;exact⟨by rw[vF (by assumption) gL hm,ak ho],by
     rw[vF (by assumption) gL hm,ak ho];rw[ak ho]at I;exact (aR.fold ((I.pick (ah (cA W p c) A.xs)).sA (gT c)) B p (c+1) v A hA).sub⟩
   have ho:¬ (t.a<0∨(m.2.2.length:Int)≤t.a):=by
    simp at bj;omega
   refine RT 2 E I ?_;exact⟨by rw[vF (by assumption) gL hm,ag ho],by
    rw[vF (by assumption) gL hm,ag ho];rw[ag ho]at I;exact (aR.fold ((I.pick (ah (cA W p c) A.xs)).sA (gT c)) B p (c+1) { v with net:=v.net.set j (m.1,m.2.1,m.2.2.set t.a.toNat (m.2.2.getD t.a.toNat 0 ^^^ gg t.b)) } A ⟨hA.fC,hA.ps,hA.ev⟩).sub⟩
  refine IF 3 E I (λbO a E=>?_) λbO a E=>?_
  ·
   refine bW 0 [5] [0,1,2,4,3003,1005,1006] E I λa w E I hH hC=>?_;refine RH 6 E I hH hC λa E=>?_;rw[gL]at E;refine CL 0 E I (OH (I.pick (bN B.q (v.net.map cR))) hm) λa w E I=>?_;refine RN 0 E I λa E=>?_;rw[ag (by omega)];exact⟨⟨⟨by omega,by omega⟩,E.ab [0,5]⟩,I.sub⟩
  refine RN 0 E I λa E=>?_;rw[ak (by omega)];exact⟨⟨⟨by omega,by omega⟩,E.ab [0,5]⟩,I.sub⟩
 clear E;(try clear I);rintro a w ⟨⟨jM,E⟩,I⟩;refine a1 1 (λw0 V=>Rd V b5 0 [.int .i64 m.1,.int .i64 m.2.1,.slice am m.2.2.length jI]) [3,5] [0,1,4,3002,3005,1003,1006,7] E I λa w E I hH=>?_;have hC:=hH.at w (I.ai (b:=b5));refine RH 3 E I hH hC λa E=>?_;refine QH E (λw hc=>ae E (hc 1 _ rfl)) hC λa E=>?_;refine QH E (λw hc=>ae E (hc 2 _ rfl)) hC λa E=>?_;refine RH 0 E I hH hC λa E=>?_;refine CL 0 E I (sB ((I.pick (Sl 81 1 A.adL A.xs.length A.cL (A.xs.map cC))).pick (aa B.mb 107 (jT B A))) CR) λa w E I=>?_;replace hC:=hH.at w (I.ai (b:=b5));rw[zR]at E;replace I:=aR.out (I.pick (ah (cA W p c) A.xs)) hx;refine RH 0 E I hH hC λa E=>?_;refine jN E rfl hM.Hn hM.Ho rfl (hM.recv _ _ c (aq v m.2.1) m.2.2 am jI ng hw (by omega) (I.sl am).2 (λV dg=>(dg.pick (Sl 5 1 am m.2.2.length jI (bc m.2.2))).cr am _ rfl rfl) (I.pick (x.J W p c (aq v m.2.1)))) (by rfl) ?_;clear E I;rintro e w ⟨rfl,I⟩;refine⟨_,rfl,λa E=>?_⟩;refine RN 1 E I λa E=>?_;refine RT 0 E I ?_;exact⟨by rw[CT jM.1 jM.2 gL hm],by
  rw[CT jM.1 jM.2 gL hm];exact aR.put hA hx (gT c) (if t.fn=5 then v.net else v.net.eraseIdx j) I.sub⟩
end
end
section
section
variable {W w:World}{L:List SP}{n c d cL cE mb i j q:Nat}{ad adL adE:Option Addr}{p:Pr}{B:jH}{A:ob}{v u:Wd}{x:fJ}{s s':Pl}{t:fB}{net:List Ml}{cf:Cf}{xs:List (fJ×Pl)}{es:List ko}
theorem jH.Ok.less (h:B.Ok p d)(hc:c≤d):B.Ok p c:=⟨h.pr,h.sz,h.gs,gC hc h.c⟩
theorem aR.more (I:U W w (aR W B p c v::L))(h:c≤d):U W w (aR W B p d v::L):=by
 replace I:=aR.open I;obtain⟨A,hA,I⟩:=I;exact (aR.fold ((I.pick (ah (cA W p c) A.xs)).sA h) B p d v A hA).sub
theorem aR.xL (I:U W w (aR W B p c v::L)):∃ (adL:Option Addr) (cL:Nat) (adE:Option Addr) (cE:Nat) (xs:List (fJ×Pl)) (es:List ko),(xs.map (·.1)=B.fC∧xs.map (·.2)=v.ps∧es.map (·.2.2)=v.ev) ∧
   U W w (aa B.mb 107 [.slice adL xs.length cL,pt B.q,.slice adE es.length cE]::Sl 81 1 adL xs.length cL (xs.map cC)::ah (cA W p c) xs::bN B.q (v.net.map cR)::Sl 90 1 adE es.length cE (es.map bw)::ah eN es::L):=by
 replace I:=aR.open I;obtain⟨⟨adL,cL,adE,cE,xs,es⟩,hA,I⟩:=I;exact⟨adL,cL,adE,cE,xs,es,⟨hA.fC,hA.ps,hA.ev⟩,I⟩
theorem aR.vG (I:U W w (aa B.mb 107 [.slice adL xs.length cL,pt B.q,.slice adE es.length cE]::Sl 81 1 adL xs.length cL (xs.map cC)::ah (cA W p c) xs::bN B.q (v.net.map cR)::Sl 90 1 adE es.length cE (es.map bw)::ah eN es::L))
   (h1:xs.map (·.1)=B.fC) (h2:xs.map (·.2)=v.ps) (h3:es.map (·.2.2)=v.ev):U W w (aR W B p c v::L) :=
 U.shut (M:=[_,_,_,_,_,_]) I λ_ h=>⟨⟨adL,cL,adE,cE,xs,es⟩,⟨h1,h2,h3⟩,h⟩
theorem HL {ps:List Pl}{fC:List fJ}(h1:xs.map (·.1)=fC)(h2:xs.map (·.2)=ps)(hi:i<xs.length):∃ x,xs[i]?=some (x,ps.getD i CF)∧fC[i]?=some x:=by
 refine⟨xs[i].1,?_,by rw[← h1,bm,aD hi];rfl⟩;rw[aD hi,bl,← h2,bm,aD hi];rfl
theorem CU (I:U W w (ah (cA W p c) xs::L))(hx:xs[i]?=some (x,s)):U W w (x.J W p c s::ah (cA W p c) (xs.eraseIdx i)::L):=by
 obtain⟨hi,h1⟩:=aZ.1 hx;have h2:=I.fo hi;rw[h1]at h2;exact h2
theorem ac3 (I:U W w (x.J W p d s'::ah (cA W p c) (xs.eraseIdx i)::L))(hx:xs[i]?=some (x,s))(h:c≤d):U W w (ah (cA W p d) (xs.set i (x,s'))::L):=by
 obtain⟨hi,h1⟩:=aZ.1 hx;exact U.kY (f:=cA W p d) (x:=(x,s')) hi (((I.pick (ah (cA W p c) (xs.eraseIdx i))).sA h).pick (x.J W p d s'))
theorem OJ (hx:xs[i]?=some (x,s)):(xs.set i (x,s')).map cC=xs.map cC∧(xs.set i (x,s')).map (·.1)=xs.map (·.1):=by
 obtain⟨hi,h1⟩:=aZ.1 hx;constructor
 ·rw[jx,show cC (x,s')=(xs.map cC)[i]'(by rw[bf];exact hi) from by rw[getElem_map,h1],mE]
 ·rw[jx];show (xs.map (·.1)).set i x=_;rw[show x=(xs.map (·.1))[i]'(by rw[bf];exact hi) from by rw[getElem_map,h1],mE]
def CV (B:jH)(t:fB)(v:Wd)(z:Int):Prop:=z=7∨(z=0∧(0≤t.a∧t.a<v.ps.length)∧0≤t.b∧t.b<(aq v t.a.toNat).k.workers∧∃ x M,B.fC[t.a.toNat]?=some x∧x.z=.mu M)
theorem CW (I:U W w (aR W B p c v::L))(hB:B.Ok p c)(hv:bB p cf c v)(hf:t.fn=1∨t.fn=2∨t.fn=8∨t.fn=7) :
   Calls prog 44 #[pt B.mb,.agg (dY t).toArray] w λe V=>∃ z:Int,e=.returned (.int .i64 z)∧(t.fn≠7→z=(gh p t v).1)∧(t.fn=7→CV B t v z)∧U W V (aR W B p (c+1) (gh p t v).2::L):=by
 by_cases h0:t.a<0∨(v.ps.length:Int)≤t.a
 ·refine (acY I h0).mono λe V ⟨h,I⟩=>⟨7,h,λ_=>?_,λ_=>.inl rfl,?_⟩
  ·rw[gh,ak h0]
  ·rw[gh,ak h0];exact aR.more I (gT c)
 ·refine (acZ (i:=t.a.toNat) I hB hv (by omega) hf (by omega)).mono λe V ⟨z,h,h1,h2,I⟩=>⟨z,h,h1,λh7=>?_,I⟩;rcases h2 h7 with h3 | ⟨h3,h4,h5,h6⟩
  ·exact .inl h3
  ·exact .inr ⟨h3,by omega,h4,h5,h6⟩
theorem CX (I:U W w (aR W B p c v::L))(hB:B.Ok p c)(hv:bB p cf c v)(hf:t.fn=3∨t.fn=4∨t.fn=5∨t.fn=6) :
   Calls prog 45 #[pt B.mb,.agg (dY t).toArray] w λe V=>e=.returned (.int .i64 (gp p t v).1)∧U W V (aR W B p (c+1) (gp p t v).2::L):=by
 by_cases h0:t.n<0∨(v.net.length:Int)≤t.n
 ·rw[OI h0];exact (ac1 I h0).mono λe V ⟨h,I⟩=>⟨h,aR.more I (gT c)⟩
 ·exact ac2 (j:=t.n.toNat) I hB hv hf (by omega) (aD (by omega))
set_option maxHeartbeats 2000000 in
theorem OK (I:U W w (aR W B p c v::L))(hB:B.Ok p (c+10))(hv:bB p cf c v)(ka:9*c+100≤1000000000) :
   Calls prog 29 #[pt B.mb,.agg (dY t).toArray] w λe V=>∃ z:Int,e=.returned (.int .i64 z)∧(t.fn≠7→z=(br p t v).1)∧(t.fn=7→CV B t v z)∧U W V (aR W B p (c+10) (kT (br p t v).2)::L):=by
 have hu:=hv.step (s:=t);refine EN func29 ntmps29 rfl rfl λa E=>?_;refine BX 1 E I λb3 a w E I=>?_;change U W w (aa b3 58 (dY t)::_) at I;refine RN 5 E I λa E=>?_;replace E:=E.aK 9;refine RN 3 E I λa E=>?_;refine cc (M:=λa w=>(∃ z:Int,((t.fn≠7→z=(br p t v).1)∧(t.fn=7→CV B t v z))∧Fr a 56 [(0,pt B.mb),(5,.int .i64 z)])∧U W w (aR W B p (c+1) (br p t v).2::L)) ?_ ?_
 ·
  refine IF 7 E I (λao a E=>?_) λao a E=>?_
  ·
   refine aW 3 E I (CW (I.pick (aR W B p c v)) (hB.less (by omega)) hv (by omega)) λz a w E ⟨cv,ew,I⟩=>?_;refine RN 1 E I λa E=>?_
   first
    | (have aT : br p t v = gh p t v := by rw [br, ag (by omega), ag (by omega)]
       rw[aT];exact⟨⟨z,⟨cv,ew⟩,E.ab [0,5]⟩,I.sub⟩)
    | (have aT : br p t v = gp p t v := by rw [br, ag (by omega), ak (by omega)]
       rw[aT];exact⟨⟨_,⟨λ_=>rfl,λh=>by omega⟩,E.ab [0,5]⟩,I.sub⟩)
    | (have aT : br p t v = (1, v) := by rw [br, ak (by omega)]
       rw[aT];exact⟨⟨1,⟨λ_=>rfl,λh=>by omega⟩,E.ab [0,5]⟩,(aR.more (I.pick (aR W B p c v)) (gT c)).sub⟩)
  refine IF 3 E I (λay a E=>?_) λay a E=>?_
  ·
   refine aW 3 E I (CW (I.pick (aR W B p c v)) (hB.less (by omega)) hv (by omega)) λz a w E ⟨cv,ew,I⟩=>?_;refine RN 1 E I λa E=>?_
   first
    | (have aT : br p t v = gh p t v := by rw [br, ag (by omega), ag (by omega)]
       rw[aT];exact⟨⟨z,⟨cv,ew⟩,E.ab [0,5]⟩,I.sub⟩)
    | (have aT : br p t v = gp p t v := by rw [br, ag (by omega), ak (by omega)]
       rw[aT];exact⟨⟨_,⟨λ_=>rfl,λh=>by omega⟩,E.ab [0,5]⟩,I.sub⟩)
    | (have aT : br p t v = (1, v) := by rw [br, ak (by omega)]
       rw[aT];exact⟨⟨1,⟨λ_=>rfl,λh=>by omega⟩,E.ab [0,5]⟩,(aR.more (I.pick (aR W B p c v)) (gT c)).sub⟩)
  refine IF 3 E I (λbj a E=>?_) λbj a E=>?_
  ·
   refine aW 3 E I (CW (I.pick (aR W B p c v)) (hB.less (by omega)) hv (by omega)) λz a w E ⟨cv,ew,I⟩=>?_;refine RN 1 E I λa E=>?_
   first
    | (have aT : br p t v = gh p t v := by rw [br, ag (by omega), ag (by omega)]
       rw[aT];exact⟨⟨z,⟨cv,ew⟩,E.ab [0,5]⟩,I.sub⟩)
    | (have aT : br p t v = gp p t v := by rw [br, ag (by omega), ak (by omega)]
       rw[aT];exact⟨⟨_,⟨λ_=>rfl,λh=>by omega⟩,E.ab [0,5]⟩,I.sub⟩)
    | (have aT : br p t v = (1, v) := by rw [br, ak (by omega)]
       rw[aT];exact⟨⟨1,⟨λ_=>rfl,λh=>by omega⟩,E.ab [0,5]⟩,(aR.more (I.pick (aR W B p c v)) (gT c)).sub⟩)
  refine IF 2 E I (λbO a E=>?_) λbO a E=>?_
  ·
   refine aW 2 E I (CW (I.pick (aR W B p c v)) (hB.less (by omega)) hv (by omega)) λz a w E ⟨cv,ew,I⟩=>?_;refine RN 1 E I λa E=>?_
   first
    | (have aT : br p t v = gh p t v := by rw [br, ag (by omega), ag (by omega)]
       rw[aT];exact⟨⟨z,⟨cv,ew⟩,E.ab [0,5]⟩,I.sub⟩)
    | (have aT : br p t v = gp p t v := by rw [br, ag (by omega), ak (by omega)]
       rw[aT];exact⟨⟨_,⟨λ_=>rfl,λh=>by omega⟩,E.ab [0,5]⟩,I.sub⟩)
    | (have aT : br p t v = (1, v) := by rw [br, ak (by omega)]
       rw[aT];exact⟨⟨1,⟨λ_=>rfl,λh=>by omega⟩,E.ab [0,5]⟩,(aR.more (I.pick (aR W B p c v)) (gT c)).sub⟩)
  refine IF 4 E I (λeZ a E=>?_) λeZ a E=>?_
  ·
   refine CL 3 E I (CX (I.pick (aR W B p c v)) (hB.less (by omega)) hv (by omega)) λa w E I=>?_;refine RN 1 E I λa E=>?_
   first
    | (have aT : br p t v = gh p t v := by rw [br, ag (by omega), ag (by omega)]
       rw[aT];exact⟨⟨z,⟨cv,ew⟩,E.ab [0,5]⟩,I.sub⟩)
    | (have aT : br p t v = gp p t v := by rw [br, ag (by omega), ak (by omega)]
       rw[aT];exact⟨⟨_,⟨λ_=>rfl,λh=>by omega⟩,E.ab [0,5]⟩,I.sub⟩)
    | (have aT : br p t v = (1, v) := by rw [br, ak (by omega)]
       rw[aT];exact⟨⟨1,⟨λ_=>rfl,λh=>by omega⟩,E.ab [0,5]⟩,(aR.more (I.pick (aR W B p c v)) (gT c)).sub⟩)
  refine IF 3 E I (λnf a E=>?_) λnf a E=>?_
  ·
   refine CL 3 E I (CX (I.pick (aR W B p c v)) (hB.less (by omega)) hv (by omega)) λa w E I=>?_;refine RN 1 E I λa E=>?_
   first
    | (have aT : br p t v = gh p t v := by rw [br, ag (by omega), ag (by omega)]
       rw[aT];exact⟨⟨z,⟨cv,ew⟩,E.ab [0,5]⟩,I.sub⟩)
    | (have aT : br p t v = gp p t v := by rw [br, ag (by omega), ak (by omega)]
       rw[aT];exact⟨⟨_,⟨λ_=>rfl,λh=>by omega⟩,E.ab [0,5]⟩,I.sub⟩)
    | (have aT : br p t v = (1, v) := by rw [br, ak (by omega)]
       rw[aT];exact⟨⟨1,⟨λ_=>rfl,λh=>by omega⟩,E.ab [0,5]⟩,(aR.more (I.pick (aR W B p c v)) (gT c)).sub⟩)
  refine IF 3 E I (λmM a E=>?_) λmM a E=>?_
  ·
   refine CL 3 E I (CX (I.pick (aR W B p c v)) (hB.less (by omega)) hv (by omega)) λa w E I=>?_;refine RN 1 E I λa E=>?_
   first
    | (have aT : br p t v = gh p t v := by rw [br, ag (by omega), ag (by omega)]
       rw[aT];exact⟨⟨z,⟨cv,ew⟩,E.ab [0,5]⟩,I.sub⟩)
    | (have aT : br p t v = gp p t v := by rw [br, ag (by omega), ak (by omega)]
       rw[aT];exact⟨⟨_,⟨λ_=>rfl,λh=>by omega⟩,E.ab [0,5]⟩,I.sub⟩)
    | (have aT : br p t v = (1, v) := by rw [br, ak (by omega)]
       rw[aT];exact⟨⟨1,⟨λ_=>rfl,λh=>by omega⟩,E.ab [0,5]⟩,(aR.more (I.pick (aR W B p c v)) (gT c)).sub⟩)
  refine IF 2 E I (λmN a E=>?_) λmN a E=>?_
  ·
   refine CL 2 E I (CX (I.pick (aR W B p c v)) (hB.less (by omega)) hv (by omega)) λa w E I=>?_;refine RN 1 E I λa E=>?_
   first
    | (have aT : br p t v = gh p t v := by rw [br, ag (by omega), ag (by omega)]
       rw[aT];exact⟨⟨z,⟨cv,ew⟩,E.ab [0,5]⟩,I.sub⟩)
    | (have aT : br p t v = gp p t v := by rw [br, ag (by omega), ak (by omega)]
       rw[aT];exact⟨⟨_,⟨λ_=>rfl,λh=>by omega⟩,E.ab [0,5]⟩,I.sub⟩)
    | (have aT : br p t v = (1, v) := by rw [br, ak (by omega)]
       rw[aT];exact⟨⟨1,⟨λ_=>rfl,λh=>by omega⟩,E.ab [0,5]⟩,(aR.more (I.pick (aR W B p c v)) (gT c)).sub⟩)
  refine RN 0 E I λa E=>?_
  first
   | (have aT : br p t v = gh p t v := by rw [br, ag (by omega), ag (by omega)]
      rw[aT];exact⟨⟨z,⟨cv,ew⟩,E.ab [0,5]⟩,I.sub⟩)
   | (have aT : br p t v = gp p t v := by rw [br, ag (by omega), ak (by omega)]
      rw[aT];exact⟨⟨_,⟨λ_=>rfl,λh=>by omega⟩,E.ab [0,5]⟩,I.sub⟩)
   | (have aT : br p t v = (1, v) := by rw [br, ak (by omega)]
      rw[aT];exact⟨⟨1,⟨λ_=>rfl,λh=>by omega⟩,E.ab [0,5]⟩,(aR.more (I.pick (aR W B p c v)) (gT c)).sub⟩)
 clear E;(try clear I);rintro a w ⟨⟨z,hz,E⟩,I⟩;refine RN 2 E I λa E=>?_;generalize (br p t v).2=u at I hu ⊢;replace I:=aR.xL I;obtain⟨adL,cL,adE,cE,zS,zT,⟨eH,da,eK⟩,I⟩:=I;have b0:zS.length=u.ps.length:=by rw[← da,bf]
 have sC:zT.length=u.ps.length:=by rw[← hu.ev,← eK,bf]
 have xz:=hu.len;have ng:=hB.c;refine RN 6 E I λa E=>?_;refine aQ (λμ a w=>∃ (i:Nat) (xs:List (fJ×Pl)) (es:List ko),(μ=u.ps.length-i∧(i≤u.ps.length∧xs.length=u.ps.length∧es.length=u.ps.length)∧xs.map (·.1)=B.fC∧xs.map (·.2)=(cj u i).ps∧es.map (·.2.2)=(cj u i).ev)∧Fr a 56 [(0,pt B.mb),(5,.int .i64 z),(31,.slice adL u.ps.length cL),(32,.int .i64 u.ps.length),(33,.int .i64 i)]∧U W w (aa B.mb 107 [.slice adL u.ps.length cL,pt B.q,.slice adE u.ps.length cE]::Sl 81 1 adL u.ps.length cL (xs.map cC)::ah (cA W p (c+1+i)) xs::bN B.q (u.net.map cR)::Sl 90 1 adE u.ps.length cE (es.map bw)::ah eN es::L)) (u.ps.length) (⟨0,zS,zT,⟨rfl,⟨by omega,b0,sC⟩,eH,da,eK⟩,(by rw[b0]at E;exact E.ab [0,5,31,32,33]),(by rw[b0,sC]at I;exact I.sub)⟩) ?_;clear E I;rintro μ a w ⟨i,xs,es,⟨rfl,⟨hi,zU,zV⟩,u5,tA,qS⟩,E,I⟩;refine IF 3 E I (λka a E=>?_) λka a E=>?_
 ·
  have aF:i<u.ps.length:=by omega
  obtain⟨x,hx,pf⟩:∃ x,xs[i]?=some (x,aq (cj u i) i)∧B.fC[i]?=some x:=HL u5 tA (by omega);obtain⟨_,gX⟩:=aZ.1 hx;have hM:=x.qU (W:=W) (p:=p) hB.pr hB.sz (hB.gs x (bH pf));have hd:=hu.cj (i:=i) (by omega);obtain⟨hw,dd,xK⟩:=hd.pl i (by rw[(q6 u i).1];exact aF);have HM:=hd.kQ;obtain⟨iA,iB,l,ly⟩:∃ iA iB l,es[i]?=some (iA,iB,l):=⟨_,_,_,aD (by omega)⟩;obtain⟨_,pg⟩:=aZ.1 ly;have g5:l.length≤9*(c+2):=(HM l (by rw[← qS];exact cV.2 ⟨(iA,iB,l),by rw[← pg];exact iI _,rfl⟩)).1;have zR:(xs.map cC)[i]?=some (.iface x.z.t (.pointer (some x.z.ad))):=by rw[bm,hx];rfl
  refine RN 2 E I λa E=>?_;obtain⟨lz,ol,rfl,ia⟩:=(I.pick (Sl 81 1 adL u.ps.length cL (xs.map cC))).bY adL (by omega);have eS:=ia i _ zR;refine RN 2 E I λa E=>?_;refine SS E (ae E (eS)) λa E=>?_;refine RN 2 E I λa E=>?_;obtain⟨iV,oE,rfl,_⟩:=(I.pick (Sl 90 1 adE u.ps.length cE (es.map bw))).bY adE (by omega);refine a1 0 (λw0 V=>Rd V B.mb 0 [.slice (some ⟨lz,ol,none⟩) u.ps.length cL,pt B.q,.slice (some ⟨iV,oE,none⟩) u.ps.length cE]∧Rd V iV oE (es.map bw)) [8,10,11,13,14] [0,1,2,4,5,6,7,9,12,3003,3008,3010,3011,1013,1014,15,1016] E I λa w E I hH=>?_;have hC:=hH.at w ⟨I.ai (b:=B.mb),I.cJ iV oE (by omega)⟩;refine RH 9 E I hH hC λa E=>?_;refine QH E (λw hc=>ae E (hc.1 2 _ rfl)) hC λa E=>?_;refine QH E (λw hc=>ae E (hc.1 2 _ rfl)) hC λa E=>?_;refine RH 1 E I hH hC λa E=>?_;refine QH E (λw hc=>ae E (hc.2 i (.slice iA l.length iB) (by rw[bm,ly];rfl))) hC λa E=>?_;replace I:=CU (I.pick (ah (cA W p (c+1+i)) xs)) hx;refine RH 0 E I hH hC λa E=>?_;refine jN E rfl hM.Ht hM.cE rfl (hM.events _ _ (c+1+i) (aq (cj u i) i) (by omega) hw (I.pick (x.J W p (c+1+i) (aq (cj u i) i)))) (by rfl) ?_;clear E I;rintro e w ⟨am,jI,rfl,I⟩;refine⟨_,rfl,λa E=>?_⟩;replace hC:=hH.at w ⟨I.ai (b:=B.mb),I.cJ iV oE (by omega)⟩;replace I:=(I.pick (ah eN es)).fo (i:=i) (by omega);rw[pg]at I;change U W w (Sl 135 1 iA l.length iB (l.map cz)::_) at I;have OL:=hw.wc.kQ;refine RH 0 E I hH hC λa E=>?_;refine g3 E rfl I underlying90 Ty.t135 rfl rfl (by decide) (λh0=>(I.pick (Sl 135 1 am (aq (cj u i) i).k.ev.length jI ((aq (cj u i) i).k.ev.map cz))).bY am h0) (by rw[bf,fD]) (OD _) (by omega) λr7 r8 a w E I=>?_;replace hC:=hH.at w ⟨I.ai (b:=B.mb),I.cJ iV oE (by omega)⟩;have hcE:=((I.pick (Sl 90 1 (some ⟨iV,oE,none⟩) u.ps.length cE (es.map bw))).sl (some ⟨iV,oE,none⟩)).2;obtain⟨jl,pre,post,⟨h3,h4,h5,h6⟩,gG⟩:=(I.pick (Sl 90 1 (some ⟨iV,oE,none⟩) u.ps.length cE (es.map bw))).lZ (by omega);replace I:=gG;clear gG;obtain⟨rfl,rfl⟩:iV=jl∧oE=pre.length:=by simpa using h5
  refine RH 1 E I hH hC λa E=>?_;refine ST 0 E I (λa w E I=>?_) (hlt:=(by simp only[aN,bf];omega));refine RN 2 E I λa E=>?_;have qT:(cj u i).ev.getD i []=l:=by rw[← qS,bl,bm,ly];rfl
  have HN:(es.map bw).set i (.slice r7 (l.length+(aq (cj u i) i).k.ev.length) r8)=(es.set i (r7,r8,l++(aq (cj u i) i).k.ev)).map bw:=by
   rw[jx,bw,aN]
  have cI:=I;rw[zL (by rw[bf];omega),HN]at cI;replace cI:=U.iY (n:=u.ps.length) (c:=cE) (sz:=1) (cI.jV iV) (by rw[bf,bt];omega) h4 h6;have hj:=cI.pick (ah (cA W p (c+1+i)) (xs.eraseIdx i));have hk:=ac3 (s':=⟨{ (aq (cj u i) i).k with ev:=[] },(aq (cj u i) i).g⟩) (hj.pick (x.J W p (c+1+i+1) ⟨{ (aq (cj u i) i).k with ev:=[] },(aq (cj u i) i).g⟩)) hx (gT _);have p7:Sl 135 1 r7 (l.length+(aq (cj u i) i).k.ev.length) r8 (l.map cz++(aq (cj u i) i).k.ev.map cz)=eN (r7,r8,l++(aq (cj u i) i).k.ev):=by
   rw[eN,aN,cS]
  have hq:=(hk.pick (ah eN (es.eraseIdx i))).pick (Sl 135 1 r7 (l.length+(aq (cj u i) i).k.ev.length) r8 (l.map cz++(aq (cj u i) i).k.ev.map cz));rw[p7]at hq;have ew:=U.kY (f:=eN) (i:=i) (by omega) hq;refine⟨u.ps.length-(i+1),by omega,i+1,xs.set i (x,⟨{ (aq (cj u i) i).k with ev:=[] },(aq (cj u i) i).g⟩),es.set i (r7,r8,l++(aq (cj u i) i).k.ev),⟨rfl,⟨by omega,by rw[bt];exact zU,by rw[bt];exact zV⟩,(OJ hx).2.trans u5,?_,?_⟩,E.ab [0,5,31,32,33],?_⟩
  ·rw[jx,tA];rfl
  ·rw[jx,qS,← qT];rfl
  ·rw[(OJ hx).1];exact ew.sub
 refine RT 3 E I ?_;obtain rfl:i=u.ps.length:=by omega
 refine⟨z,rfl,hz.1,hz.2,?_⟩;have cI:=(I.pick (ah (cA W p (c+1+u.ps.length)) xs)).sA (d:=c+10) (by omega);refine aR.vG (adL:=adL) (cL:=cL) (adE:=adE) (cE:=cE) (xs:=xs) (es:=es) ?_ u5 tA qS;rw[zU,zV,show (kT u).net=u.net from (q6 u _).2.1];exact cI.sub
end
end
section
def mm (p:Pr)(G:List (List UInt8))(f s:Nat):Prop:=f≤aV G∧(0<f→s=kR p G (f-1))
theorem mm.ext {p:Pr}{G G':List (List UInt8)}{f s:Nat}(h:mm p G f s)(he:Ext G G')(h0:G≠[]):mm p G' f s :=
 ⟨gC h.1 (he.front h0),λhf=>by rw[he.kR (by have:=h.1;omega)];exact h.2 hf⟩
theorem CY {p:Pr}{k:Ks}(hm:k.mr=(List.range k.mr.length).map (kR p k.ls)){f:Nat}(hf:f<k.mr.length):k.mr.getD f 0=kR p k.ls f:=by
 rw[hm,bl,bm,getElem?_range hf];rfl
theorem OM {p:Pr}{G:List (List UInt8)}{k:Ks}(hm:k.mr=(List.range k.mr.length).map (kR p k.ls))(hl:k.mr.length≤aV k.ls)(he:Ext k.ls G)
   (hw:∀ i,i<k.ps.length→mm p G (ar k i).frame (ar k i).sum):held k:=λi hi ⟨_,h1,h2,h3⟩=>h3 (by
 rw[CY hm (by omega),← he.kR (p:=p) (f:=(ar k i).frame-1) (by omega)];exact ((hw i hi).2 (by omega)).symm)
theorem ON {p:Pr}{G:List (List UInt8)}:∀ (n:Nat) {s:Pl},WP p s→Ext s.k.ls G→(∀ i,i<s.k.ps.length→mm p G (ar s.k i).frame (ar s.k i).sum)→n≤aw s.k-s.k.mr.length →
   ∃ mr,(iy p n s).k={ s.k with mr:=mr }
 | 0,s,_,_,_,_=>⟨s.k.mr,rfl⟩
 | n+1,s,h,he,hw,hn=>by
  have h9:=h.wc.ny;have h8:=h.wc.lO;obtain⟨h1,h2,h3⟩:=h.one (by omega);have hg:fa p s.k.mr.length (bM s.k.ls s.k.mr.length) s.g=lQ p s.k.ls (s.k.mr.length+1):=by rw[Mb,h.sh]
  have hk:(n1 p s).k={ s.k with mr:=s.k.mr++[kR p s.k.ls s.k.mr.length] }:=by
   show lN s.k _=_;rw[lN,ak (by omega),hg];refine held.lq (OM (p:=p) (G:=G) ?_ ?_ he hw)
   ·show s.k.mr++[_]=(List.range (s.k.mr++[_]).length).map (kR p s.k.ls);rw[aN,jC,range_succ,cS,← h.marks];rfl
   ·show (s.k.mr++[_]).length≤aV s.k.ls;rw[aN,jC];simp only[aw]at hn;omega
  obtain⟨mr,h4⟩:=ON n h1 (by rw[h2];exact he) (λi hi=>by rw[hk]at hi ⊢;exact hw i hi) (by rw[aw,h2,h3];simp only[aw]at hn;omega);exact⟨mr,by rw[iy,h4,hk]⟩
theorem HO {p:Pr}{G:List (List UInt8)}{s:Pl}(h:WP p s)(he:Ext s.k.ls G)(hw:∀ i,i<s.k.ps.length→mm p G (ar s.k i).frame (ar s.k i).sum):∃ mr,(eL p s).k={ s.k with mr:=mr } :=
 ON _ h he hw (bh _)
structure fh (p:Pr)(G:List (List UInt8))(s:Pl):Prop where
 wf:cx p s
 ext:Ext s.k.ls G
 own:s.k.ls.getD s.k.me []=G.getD s.k.me []
 pe:∀ i,i<s.k.ps.length→(ar s.k i).apart=false∧mm p G (ar s.k i).frame (ar s.k i).sum
structure tZ (p:Pr)(G:List (List UInt8))(q:Pk):Prop where
 may:hS q
 sum:q.sum<4294967296
 vH:q.kind=1→q.first.toNat+q.al.length≤(G.getD q.aY.toNat []).length∧q.al=((G.getD q.aY.toNat []).drop q.first.toNat).take q.al.length
 word:q.kind=1→mm p G q.frame.toNat q.sum
theorem tZ.ext {p:Pr}{G G':List (List UInt8)}{q:Pk}(h:tZ p G q)(he:Ext G G')(h0:G≠[])(hq:q.aY.toNat<G.length):tZ p G' q:=by
 refine⟨h.may,h.sum,λhk=>?_,λhk=>(h.word hk).ext he h0⟩;obtain⟨h1,h2⟩:=h.vH hk;obtain⟨t,ht⟩:=he.2 _ hq;rw[ht,aN];refine⟨by omega,?_⟩;rw[List.drop_append_of_le_length (by omega),List.take_append_of_le_length (by rw[c4];omega)];exact h2
section
variable {p:Pr}{G G':List (List UInt8)}{s:Pl}{b:UInt8}{q:Pk}
theorem fh.words (h:fh p G s):∀ i,i<s.k.ps.length→mm p G (ar s.k i).frame (ar s.k i).sum:=λi hi=>(h.pe i hi).2
theorem fh.lens (h:fh p G s):G.length=s.k.n:=by rw[h.ext.1];exact h.wf.wc.ls
theorem fh.HP (h:fh p G s):G≠[]:=λe=>by
 have h1:=h.lens;have h2:=h.wf.wc.n;rw[e,length_nil]at h1;omega
theorem fh.more (h:fh p G s)(he:Ext G G')(ho:G'.getD s.k.me []=G.getD s.k.me []):fh p G' s :=
 ⟨h.wf,h.ext.trans he,h.own.trans ho.symm,λi hi=>⟨(h.pe i hi).1,(h.pe i hi).2.ext he h.HP⟩⟩
theorem fh.al (h:fh p G s)(h0:(dK p b s).1=0) :
   fh p (G.set s.k.me (G.getD s.k.me []++[b])) (dK p b s).2∧∃ mr,(dK p b s).2.k={ s.k with ls:=s.k.ls.set s.k.me (s.k.ls.getD s.k.me []++[b]),mr:=mr }:=by
 obtain⟨h1,h2,h3,h4⟩:=vc (k:=s.k) (b:=b) h0;have he:=vf b s.k;have lI:=h.wf.toWP.more (h.wf.wc.al b) (h.wf.held.al b) he.1 he.2;have eo:s.k.me<s.k.ls.length:=by rw[h.wf.wc.ls];exact h.wf.wc.me
 have OO:s.k.me<G.length:=by rw[h.ext.1];exact eo
 have jm:Ext G (G.set s.k.me (G.getD s.k.me []++[b])):=Ext.set;have hx:Ext (cZ b s.k).2.ls (G.set s.k.me (G.getD s.k.me []++[b])):=by
  rw[h4];refine⟨by simp only[bt];exact h.ext.1,λi hi=>?_⟩;simp only[bt]at hi;by_cases e:i=s.k.me
  ·subst e;refine⟨[],?_⟩;simp only;rw[bl,getElem?_set_self OO,bl (l:=s.k.ls.set _ _),getElem?_set_self eo,h.own];simp
  ·obtain⟨t,ht⟩:=h.ext.2 i hi;refine⟨t,?_⟩;simp only;rw[bl,getElem?_set_ne (λe2=>e e2.symm),bl (l:=s.k.ls.set _ _),getElem?_set_ne (λe2=>e e2.symm),← bl,← bl];exact ht
 have gH:(cZ b s.k).2.ps=s.k.ps:=by rw[h4]
 have Ax:∀ i,i<s.k.ps.length→mm p (G.set s.k.me (G.getD s.k.me []++[b])) (ar (cZ b s.k).2 i).frame (ar (cZ b s.k).2 i).sum:=λi hi=>by
  have:=(h.words i hi).ext jm h.HP;rw[ar,gH];exact this
 obtain⟨mr,hk⟩:=HO (s:=⟨(cZ b s.k).2,s.g⟩) lI hx (λi hi=>Ax i (by rw[← gH];exact hi));have ca:(dK p b s).2.k={ (cZ b s.k).2 with mr:=mr }:=hk;refine⟨⟨h.wf.al b,by rw[ca];exact hx,?_,λi hi=>?_⟩,mr,by rw[ca,h4]⟩
 ·rw[ca];show (cZ b s.k).2.ls.getD (cZ b s.k).2.me []=(G.set s.k.me (G.getD s.k.me []++[b])).getD (cZ b s.k).2.me [];rw[h4];simp only;rw[bl,getElem?_set_self eo,bl (l:=G.set _ _),getElem?_set_self OO,h.own]
 ·rw[ca]at hi ⊢;have dN:i<s.k.ps.length:=by rw[← gH];exact hi
  refine⟨?_,Ax i dN⟩;show (ar (cZ b s.k).2 i).apart=false;rw[ar,gH];exact (h.pe i dN).1
theorem OP (h:cx p s)(h0:(dK p b s).1≠0):(dK p b s).2=s:=by
 show eL p ⟨(cZ b s.k).2,s.g⟩=s;rw[vd h0];exact h.eL
theorem ac4 {bs:List UInt8}(h:cx p s)(h0:(dL p bs s).1≠0):(dL p bs s).2=s:=by
 show eL p ⟨(dC bs s.k).2,s.g⟩=s;rw[xi h0];exact h.eL
theorem ac5 {l t P:List UInt8}{f:Nat}(I:f+P.length≤(l++t).length)(hP:P=((l++t).drop f).take P.length):∃ u,l++t=dw l f P++u:=by
 unfold dw;split
 ·exact⟨t,rfl⟩
 ·rename_i hf;have h1:P.drop (l.length-f)=t.take (P.length-(l.length-f)):=by
   conv=>lhs;rw[hP]
   rw[List.drop_take,kr,show f+(l.length-f)=l.length from by omega,drop_left]
  rw[h1,List.take_take];exact⟨t.drop (min (1000-l.length) (P.length-(l.length-f))),by rw[dA,jW]⟩
theorem OQ (h:cx p s)(hq:hS q)(I:q.sum<4294967296)(hc:s.k.cl=false)(ht:q.to=s.k.me)(hf:q.aY<s.k.n)(bX:q.id=s.k.id):dC (aS q) s.k=(0,gb s.k q):=by
 rw[dC,ag (by rw[hc];decide),Lc hq I];show (if _ then _ else _)=_;rw[ag];rintro (h | h | h)
 ·exact h ht
 ·omega
 ·exact h bX
theorem fh.zh (h:fh p G s)(hq:tZ p G q)(hc:s.k.cl=false)(ht:q.to=s.k.me)(hf:q.aY<s.k.n)(bX:q.id=s.k.id)(h1:q.kind=1) :
   fh p G (dL p (aS q) s).2∧(dL p (aS q) s).1=0∧∃ mr,(dL p (aS q) s).2.k={ s.k with ls:=s.k.ls.set q.aY.toNat (dw (s.k.ls.getD q.aY.toNat []) q.first.toNat q.al),ps:=s.k.ps.set q.aY.toNat (ga s.k.now (aH s.k) q (ar s.k q.aY.toNat)),mr:=mr }:=by
 have hr:=OQ h.wf hq.may hq.sum hc ht hf bX;have fA:q.aY.toNat<s.k.n:=by have:=hq.may.1;omega
 have bT:q.aY.toNat≠s.k.me:=λe=>hq.may.2.2.1 (by have:=hq.may.1;have:=hq.may.2.1;omega);have aF:q.aY.toNat<s.k.ls.length:=by rw[h.wf.wc.ls];exact fA
 have sD:q.aY.toNat<s.k.ps.length:=by rw[h.wf.wc.ps];exact fA
 obtain⟨t,OR⟩:=h.ext.2 _ aF;obtain⟨js,cI⟩:=hq.vH h1;rw[OR]at js cI;obtain⟨u,hu⟩:=ac5 js cI;have hx:Ext (s.k.ls.set q.aY.toNat (dw (s.k.ls.getD q.aY.toNat []) q.first.toNat q.al)) G:=by
  refine⟨by rw[bt];exact h.ext.1,λi hi=>?_⟩;rw[bt]at hi;by_cases e:i=q.aY.toNat
  ·subst e;refine⟨u,?_⟩;rw[bl (l:=s.k.ls.set _ _),getElem?_set_self aF,OR];exact hu
  ·obtain⟨t2,GU⟩:=h.ext.2 i hi;refine⟨t2,?_⟩;rw[bl (l:=s.k.ls.set _ _),getElem?_set_ne (λe2=>e e2.symm),← bl];exact GU
 have OS:∀ i,i<s.k.ps.length→(if i=q.aY.toNat then ga s.k.now (aH s.k) q (ar s.k q.aY.toNat) else ar s.k i).apart=false∧mm p G (if i=q.aY.toNat then ga s.k.now (aH s.k) q (ar s.k q.aY.toNat) else ar s.k i).frame (if i=q.aY.toNat then ga s.k.now (aH s.k) q (ar s.k q.aY.toNat) else ar s.k i).sum:=λi hi=>by
  by_cases e:i=q.aY.toNat
  ·rw[ak e];have h9:=h.pe _ sD;unfold ga;simp only;split
   ·exact⟨h9.1,hq.word h1⟩
   ·exact⟨h9.1,h9.2⟩
  ·rw[ag e];exact h.pe i hi
 have uI:∀ i,i<s.k.ps.length→mm p G (ar ({ s.k with ls:=s.k.ls.set q.aY.toNat (dw (s.k.ls.getD q.aY.toNat []) q.first.toNat q.al),ps:=s.k.ps.set q.aY.toNat (ga s.k.now (aH s.k) q (ar s.k q.aY.toNat)) }:Ks) i).frame (ar ({ s.k with ls:=s.k.ls.set q.aY.toNat (dw (s.k.ls.getD q.aY.toNat []) q.first.toNat q.al),ps:=s.k.ps.set q.aY.toNat (ga s.k.now (aH s.k) q (ar s.k q.aY.toNat)) }:Ks) i).sum:=λi hi=>by
  rw[ar,xh sD];exact (OS i hi).2
 have hh:gb s.k q={ s.k with ls:=s.k.ls.set q.aY.toNat (dw (s.k.ls.getD q.aY.toNat []) q.first.toNat q.al),ps:=s.k.ps.set q.aY.toNat (ga s.k.now (aH s.k) q (ar s.k q.aY.toNat)) }:=by
  rw[gb,ag (by omega)];refine held.lq (OM (p:=p) (G:=G) ?_ ?_ hx (λi hi=>uI i (by simpa using hi)))
  ·have eg:=(sj (aS q) s.k).2;rw[hr]at eg;have h5:=Ga (k:=s.k) (p:=q);rw[gb,ag (by omega)]at h5;obtain⟨ps,ev,h6,_⟩:=xg { s.k with ls:=s.k.ls.set q.aY.toNat (dw (s.k.ls.getD q.aY.toNat []) q.first.toNat q.al),ps:=s.k.ps.set q.aY.toNat (ga s.k.now (aH s.k) q (ar s.k q.aY.toNat)) };rw[h6]at h5;have h7:Ext s.k.ls (s.k.ls.set q.aY.toNat (dw (s.k.ls.getD q.aY.toNat []) q.first.toNat q.al)):=h5.2;show s.k.mr=_
   conv=>lhs;rw[h.wf.marks]
   refine List.map_congr_left λi hi=>?_;rw[mem_range]at hi;have hl:=h.wf.low;simp only[aw]at hl;rw[h7.kR (by omega)]
  ·have h5:=(Ga (k:=s.k) (p:=q)).2;rw[gb,ag (by omega)]at h5;obtain⟨ps,ev,h6,_⟩:=xg { s.k with ls:=s.k.ls.set q.aY.toNat (dw (s.k.ls.getD q.aY.toNat []) q.first.toNat q.al),ps:=s.k.ps.set q.aY.toNat (ga s.k.now (aH s.k) q (ar s.k q.aY.toNat)) };rw[h6]at h5;have h7:Ext s.k.ls (s.k.ls.set q.aY.toNat (dw (s.k.ls.getD q.aY.toNat []) q.first.toNat q.al)):=h5;exact gC h.wf.low (h7.front h.wf.wc.lr)
 have he:=sj (aS q) s.k;have lI:=h.wf.toWP.more (h.wf.wc.recv (aS q)).1 ((h.wf.wc.recv (aS q)).2 h.wf.held) he.1 he.2;have fY:(dC (aS q) s.k).2=gb s.k q:=by rw[hr]
 obtain⟨mr,hk⟩:=HO (G:=G) (s:=⟨(dC (aS q) s.k).2,s.g⟩) lI (by show Ext (dC (aS q) s.k).2.ls G;rw[fY,hh];exact hx) (λi hi=>by
  change i<(dC (aS q) s.k).2.ps.length at hi;show mm p G (ar (dC (aS q) s.k).2 i).frame (ar (dC (aS q) s.k).2 i).sum;rw[fY,hh]at hi ⊢;exact uI i (by simpa using hi))
 have ca:(dL p (aS q) s).2.k={ gb s.k q with mr:=mr }:=by
  have:(dL p (aS q) s).2.k={ (dC (aS q) s.k).2 with mr:=mr }:=hk;rw[this,fY]
 rw[hh]at ca;refine⟨⟨h.wf.recv _,by rw[ca];exact hx,?_,λi hi=>?_⟩,by show (dC (aS q) s.k).1=0;rw[hr],mr,ca⟩
 ·rw[ca];show (s.k.ls.set q.aY.toNat _).getD s.k.me []=_;rw[bl (l:=s.k.ls.set _ _),getElem?_set_ne bT,← bl];exact h.own
 ·rw[ca]at hi ⊢;have dN:i<s.k.ps.length:=by simpa using hi
  have:=OS i dN;rw[ar,xh sD];exact this
theorem fh.bye (h:fh p G s)(hq:tZ p G q)(hc:s.k.cl=false)(ht:q.to=s.k.me)(hf:q.aY<s.k.n)(bX:q.id=s.k.id)(h1:q.kind=2) :
   fh p G (dL p (aS q) s).2∧(dL p (aS q) s).1=0∧(dL p (aS q) s).2.k={ s.k with ps:=s.k.ps.set q.aY.toNat { ar s.k q.aY.toNat with heard:=s.k.now },ev:=s.k.ev++[(1,q.aY.toNat,0)],cl:=true }:=by
 have hr:=OQ h.wf hq.may hq.sum hc ht hf bX;have fA:q.aY.toNat<s.k.n:=by have:=hq.may.1;omega
 have sD:q.aY.toNat<s.k.ps.length:=by rw[h.wf.wc.ps];exact fA
 have hh:gb s.k q={ s.k with ps:=s.k.ps.set q.aY.toNat { ar s.k q.aY.toNat with heard:=s.k.now },ev:=s.k.ev++[(1,q.aY.toNat,0)],cl:=true }:=by
  rw[gb,ak h1]
 have AD:=h.wf.with (k':=gb s.k q) (by have:=(h.wf.wc.recv (aS q)).1;rw[hr]at this;exact this) (by have:=(h.wf.wc.recv (aS q)).2 h.wf.held;rw[hr]at this;exact this) (by rw[hh]) (by rw[hh]);have hk:(dL p (aS q) s).2=⟨gb s.k q,s.g⟩:=by
  show eL p ⟨(dC (aS q) s.k).2,s.g⟩=_;rw[hr];exact AD.eL
 refine⟨⟨by rw[hk];exact AD,by rw[hk,hh];exact h.ext,by rw[hk,hh];exact h.own,λi hi=>?_⟩,by show (dC (aS q) s.k).1=0;rw[hr],by rw[hk,hh]⟩;rw[hk,hh]at hi ⊢;have dN:i<s.k.ps.length:=by simpa using hi
 rw[ar,xh sD];by_cases e:i=q.aY.toNat
 ·rw[ak e];exact h.pe _ sD
 ·rw[ag e];exact h.pe i dN
theorem fh.zJ (h:fh p G s){i:Nat}(hi:i<s.k.n)(bT:i≠s.k.me)(hh:(ar s.k i).has≤aH s.k):tZ p G (dV s.k i):=by
 have sE:=h.wf.wc;have hn:=sE.n;have eo:=sE.me;have bX:=sE.id;have ix:=sE.p4 hi;have gS:=sE.lO;have vW:=sE.ml hi;have Ms:=sE.mr;have e1:(dV s.k i).aY.toNat=s.k.me:=c3 _;have e2:(dV s.k i).first.toNat=(ar s.k i).has:=c3 _;have e3:(dV s.k i).frame.toNat=s.k.mr.length:=c3 _;have AH:=h.own;have mh:s.k.mr.getLastD 0<4294967296:=by
  rw[getLastD_eq_getLast?];cases hl:s.k.mr.getLast? with
  | none=>simp
  | some x=>simpa using sE.sg x (List.mem_of_getLast? hl)
 refine⟨?_,mh,λ_=>?_,λ_=>?_⟩
 ·refine⟨⟨?_,?_⟩,⟨?_,?_⟩,?_,?_,.inl ⟨rfl,⟨?_,?_⟩,⟨?_,?_⟩,⟨?_,?_⟩,?_⟩⟩
  all_goals first | (simp only[dV];omega) | skip
  ·show (((s.k.ls.getD s.k.me []).drop (ar s.k i).has).take 32).length≤32;rw[dH];omega
 ·rw[e1,e2,← AH];show _+(((s.k.ls.getD s.k.me []).drop (ar s.k i).has).take 32).length≤_∧((s.k.ls.getD s.k.me []).drop (ar s.k i).has).take 32=((s.k.ls.getD s.k.me []).drop _).take (((s.k.ls.getD s.k.me []).drop (ar s.k i).has).take 32).length;rw[dH,c4];simp only[aH]at hh;refine⟨by omega,?_⟩;rw[List.take_eq_take_iff,c4];omega
 ·rw[e3];have eY:s.k.mr.length=aV s.k.ls:=h.wf.full;refine⟨by rw[eY];exact h.ext.front sE.lr,λh0=>?_⟩;have uH:s.k.mr.getLastD 0=s.k.mr.getD (s.k.mr.length-1) 0:=by
   rw[getLastD_eq_getLast?,List.getLast?_eq_getElem?,bl]
  show s.k.mr.getLastD 0=_;rw[uH,CY h.wf.marks (by omega),h.ext.kR (by omega)]
theorem fh.ac6 (h:fh p G s){i:Nat}(hi:i<s.k.n)(bT:i≠s.k.me):tZ p G (gy s.k i):=by
 have hn:=h.wf.wc.n;have eo:=h.wf.wc.me;have bX:=h.wf.wc.id;refine⟨?_,by show 0<4294967296;decide,λe=>absurd (show (2:Int)=1 from e) (by decide),λe=>absurd (show (2:Int)=1 from e) (by decide)⟩;refine⟨⟨?_,?_⟩,⟨?_,?_⟩,?_,?_,.inr ?_⟩
 all_goals first | (simp only[gy];omega) | skip
 all_goals first | exact bX | (simp[gy])
theorem fh.agree {s2:Pl}(h:fh p G s)(h2:fh p G s2){f:Nat}(h1:f<aw s.k)(h3:f<aw s2.k):bM s.k.ls f=bM s2.k.ls f∧s.k.mr.getD f 0=s2.k.mr.getD f 0:=by
 have NG:=h.wf.full;have Ar:=h2.wf.full;refine⟨(h.ext.F9 h1).symm.trans (h2.ext.F9 h3),?_⟩;rw[CY h.wf.marks (by omega),CY h2.wf.marks (by omega),← h.ext.kR h1,← h2.ext.kR h3]
theorem fh.told (h:fh p G s):fh p G ⟨{ s.k with ev:=[] },s.g⟩:=⟨h.wf.told,h.ext,h.own,h.pe⟩
theorem fh.tick (h:fh p G s):fh p G ⟨(bq s.k).2,s.g⟩:=by
 have h1:=BZ s.k;have h2:(bq s.k).2.me=s.k.me∧(bq s.k).2.ps=s.k.ps:=by
  rcases xj s.k with e | ⟨_,e | ⟨i,_,e⟩⟩ <;> rw[e] <;> exact⟨rfl,rfl⟩
 refine⟨h.wf.tick,by show Ext (bq s.k).2.ls G;rw[h1.2];exact h.ext,?_,λi hi=>?_⟩
 ·show (bq s.k).2.ls.getD (bq s.k).2.me []=G.getD (bq s.k).2.me [];rw[h1.2,h2.1];exact h.own
 ·change i<(bq s.k).2.ps.length at hi;rw[h2.2]at hi;show (ar (bq s.k).2 i).apart=false∧mm p G (ar (bq s.k).2 i).frame (ar (bq s.k).2 i).sum;rw[ar,h2.2];exact h.pe i hi
theorem fh.lP (h:fh p G s):fh p G ⟨(bF s.k).2,s.g⟩:=by
 have h1:=B0 s.k;have h2:(bF s.k).2.me=s.k.me∧(bF s.k).2.ps=s.k.ps:=by
  unfold bF;split <;> exact⟨rfl,rfl⟩
 refine⟨h.wf.lP,by show Ext (bF s.k).2.ls G;rw[h1.2];exact h.ext,?_,λi hi=>?_⟩
 ·show (bF s.k).2.ls.getD (bF s.k).2.me []=G.getD (bF s.k).2.me [];rw[h1.2,h2.1];exact h.own
 ·change i<(bF s.k).2.ps.length at hi;rw[h2.2]at hi;show (ar (bF s.k).2 i).apart=false∧mm p G (ar (bF s.k).2 i).frame (ar (bF s.k).2 i).sum;rw[ar,h2.2];exact h.pe i hi
end
end
end Go.Proofs.YteoldcfapaiobaaGreat
