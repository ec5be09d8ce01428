/- 'TopRare' of every input returns true, and nothing that was there is changed. -/
import Derived.Test.YteoldcfapaiobaaGreatE16WNew
import Derived.WalkKit
import Derived.ProofKit
import Derived.OpenShut
import Derived.ChangeOld
import Derived.Below
namespace Go.Proofs.YteoldcfapaiobaaGreat.topRare
open Go.ChangeShapes Go.WideShapes Go.ChangeAt Go.RowKit
open Go.ChangeMaps (open_string shut_string)
set_option linter.unusedVariables false
set_option linter.unusedSimpArgs false
theorem own:ownKnob Tryz.prog.godebug=none:=by kernel_rfl
theorem laidOut:laidOutB Tryz.prog=true:=OQ
set_option maxRecDepth 100000 in
theorem lifted (os:Os)(started:os.Started)(H:Type)(enc:TypeId×Value→H) :
   ReturnsInHanded {} Tryz.checked os 12 .any (Rows.topRareSpec.pre6 enc Tryz.prog Tryz.f12 Rows.topRareRow.domain false) (Rows.topRareSpec.post enc Tryz.prog Tryz.f12 false true false false):=by
 refine returnsInHanded_of_change (C:=Tryz.checked) own started (by kernel_rfl) Tryz.func12
  (ChangeSpec.witness6 (enc:=enc) (C:=Tryz.checked) false ⟨#[],#[.int .i64 0,.int .i64 0,.bool false],[]⟩ 8 (by kernel_rfl) (by kernel_rfl) (by kernel_rfl) (by kernel_rfl)) ?_
 intro W base args adz gs before OR rS afu _;have sx:∀ (j:Nat) t v,Tryz.f12.params[j]?=some t→args[j]?=some v→Value.okWide Tryz.prog W .any base t v:=OR;have hW':=rS;obtain⟨p,q,OS,hV,rfl,Hf,Dw⟩:=rS;have hA:DataW.TrodAll enc Tryz.prog W 0 (λ_=>true) true Tryz.f12.params.toList args.toList adz p:=OS;rw[Tryz.params12]at hA sx;obtain⟨v0,vs0,d0,ds0,afv,su,afw,rfl,rfl,h0,A8⟩:=trodAll_cons hA;obtain⟨v1,vs1,d1,ds1,Xy,q1,rfl,rfl,rfl,h1,r1⟩:=trodAll_cons A8;obtain⟨v2,vs2,d2,ds2,p2,q2,rfl,rfl,rfl,h2,r2⟩:=trodAll_cons r1;obtain⟨rfl,rfl,rfl⟩:=trodAll_nil r2;obtain rfl:args=#[v0,v1,v2]:=by cases args;simp_all
 obtain⟨rfl,rfl⟩:=trodVars_none hV;obtain⟨a0,rfl,rfl,rfl,w0⟩:=open_int Tryz.underlying3 (sx 0 3 v0 rfl rfl) h0;obtain⟨de,rfl,rfl,rfl,He⟩:=open_int Tryz.underlying3 (sx 1 3 v1 rfl rfl) h1;obtain⟨dG,rfl,rfl,rfl⟩:=open_bool Tryz.underlying4 (sx 2 4 v2 rfl rfl) h2;clear OS OR;refine (adm a0 de dG W w0 He).mono λe W' ⟨he,bel⟩=>?_;subst he;exact⟨_,rfl,_,_,_,[],[],[],hW',trodAll_mk1 (shut_bool Tryz.underlying4 _),(trodAll_cons_mk (shut_int Tryz.underlying3 w0) (trodAll_cons_mk (shut_int Tryz.underlying3 He) (trodAll_cons_mk (shut_bool Tryz.underlying4 _) trodAll_mk0))),rfl,bel.frame _,λh=>by cases h⟩
abbrev C:=Rows.topRareRow
abbrev S:=Rows.topRareSpec
theorem k1:C.wf (OpenSpec.ofChange S)=true:=by kernel_rfl
theorem Hg:(C.inPlace==Tryz.prog.inPlace 12)=true:=by kernel_rfl
theorem Ca:(C.unfollowed==Tryz.prog.unfollowed 12)=true:=by kernel_rfl
theorem Hh:(C.recurses==Tryz.prog.recurses 12)=true:=by kernel_rfl
theorem Hi:(C.named==Tryz.prog.varsNamed 12)=true:=by kernel_rfl
theorem closed:joinedFacts Tryz.prog 12 Tryz.f12 S C=true :=
 adn k1 OQ adt (by kernel_rfl) (by kernel_rfl) (by kernel_rfl) (by kernel_rfl) (by kernel_rfl) (by kernel_rfl) Hg Ca Hh Hi (by kernel_rfl) (by kernel_rfl) (by kernel_rfl) (by kernel_rfl) (by kernel_rfl) (by kernel_rfl) (by kernel_rfl) (by kernel_rfl) (by kernel_rfl)
  (adw C rfl) (by kernel_rfl) adu adv (adx C rfl) (ady C rfl) (by kernel_rfl) (by kernel_rfl) (by kernel_rfl) (by kernel_rfl)
theorem named:Tryz.prog.funcNamed C.func=some 12:=by kernel_rfl
theorem inst:Tryz.f12.isInstance Tryz.prog C.origin C.targs:=of_decide_eq_true (by kernel_rfl)
theorem wrap:Tryz.f12.isWrapper Tryz.prog C.wrapper C.mainSum:=by
 unfold Func.isWrapper;first | (rw[ak (by decide +kernel)];kernel_rfl) | (rw[ag (by decide +kernel)];exact⟨rfl,rfl⟩)
theorem FD:Rows.topRareRow.holds Tryz.pinned (OpenSpec.ofChange Rows.topRareSpec) :=
 OpenClaim.holds_of_wide 12 Tryz.f12 rfl rfl rfl rfl rfl rfl rfl ⟨rfl,rfl,rfl,rfl,rfl⟩ rfl rfl rfl rfl rfl named Tryz.func12 closed inst wrap
  (λos started H enc _=>lifted os started H enc)
theorem proved:Rows.TopRareSaid:=FD
#print axioms proved
end Go.Proofs.YteoldcfapaiobaaGreat.topRare
