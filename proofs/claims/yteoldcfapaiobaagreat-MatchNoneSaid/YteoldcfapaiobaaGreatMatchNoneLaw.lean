/- 'MatchNone' of every input returns true, and nothing that was there is changed. -/
import Derived.Test.YteoldcfapaiobaaGreatA22HonW
import Derived.Test.YteoldcfapaiobaaGreatA23Facts
import Derived.WalkKit
import Derived.ProofKit
import Derived.OpenShut
import Derived.ChangeOld
import Derived.Below
namespace Go.Proofs.YteoldcfapaiobaaGreat.matchNone
open Go.ChangeShapes Go.WideShapes Go.ChangeAt Go.RowKit
open Go.ChangeMaps (open_string shut_string)
set_option linter.unusedVariables false
set_option linter.unusedSimpArgs false
theorem own:ownKnob Tryz.prog.godebug=none:=by kernel_rfl
theorem laidOut:laidOutB Tryz.prog=true:=fLaid
set_option maxRecDepth 100000 in
theorem lifted (os:Os)(started:os.Started)(H:Type)(enc:TypeId×Value→H) :
   ReturnsInHanded {} Tryz.checked os 6 .any (Rows.matchNoneSpec.pre6 enc Tryz.prog Tryz.f6 Rows.matchNoneRow.domain false) (Rows.matchNoneSpec.post enc Tryz.prog Tryz.f6 false true false false):=by
 refine returnsInHanded_of_change (C:=Tryz.checked) own started (by kernel_rfl) Tryz.func6
   (ChangeSpec.witness6 (enc:=enc) (C:=Tryz.checked) false ⟨#[],#[],[]⟩ 8 (by kernel_rfl) (by kernel_rfl) (by kernel_rfl) (by kernel_rfl)) ?_
 intro W base args ds gs before hval0 hW hcnd _
 have hval:∀ (j:Nat) t v,Tryz.f6.params[j]?=some t→args[j]?=some v→Value.okWide Tryz.prog W .any base t v:=hval0
 have hW':=hW
 obtain⟨p,q,hA0,hV,rfl,hfz,hnd⟩:=hW
 have hA:DataW.TrodAll enc Tryz.prog W 0 (λ_=>true) true Tryz.f6.params.toList args.toList ds p:=hA0
 rw[Tryz.params6]at hA hval
 obtain⟨rfl,rfl,rfl⟩:=trodAll_none hA
 obtain⟨rfl,rfl⟩:=trodVars_none hV
 clear hA0 hval0
 refine (matchNone_walk W).mono λe W' ⟨he,bel⟩=>?_
 subst he
 exact⟨_,rfl,_,_,_,[],[],[],hW',trodAll_mk1 (shut_bool Tryz.underlying4 _),trodAll_mk0,rfl,bel.frame _,λh=>by cases h⟩
abbrev C:=Rows.matchNoneRow
abbrev S:=Rows.matchNoneSpec
theorem k1:C.wf (OpenSpec.ofChange S)=true:=by kernel_rfl
theorem k10:(C.inPlace==Tryz.prog.inPlace 6)=true:=by kernel_rfl
theorem k11:(C.unfollowed==Tryz.prog.unfollowed 6)=true:=by kernel_rfl
theorem k12:(C.recurses==Tryz.prog.recurses 6)=true:=by kernel_rfl
theorem k13:(C.named==Tryz.prog.varsNamed 6)=true:=by kernel_rfl
theorem closed:joinedFacts Tryz.prog 6 Tryz.f6 S C=true :=
 joined_of k1 fLaid fMaps (by kernel_rfl) (by kernel_rfl) (by kernel_rfl) (by kernel_rfl) (by kernel_rfl) (by kernel_rfl) k10 k11 k12 k13 (by kernel_rfl) (by kernel_rfl) (by kernel_rfl) (by kernel_rfl) (by kernel_rfl) (by kernel_rfl) (by kernel_rfl) (by kernel_rfl) (by kernel_rfl)
   (fKeys C rfl) (by kernel_rfl) fHeard fEnter (fLift C rfl) (fMake C rfl) (by kernel_rfl) (by kernel_rfl) (by kernel_rfl) (by kernel_rfl)
theorem named:Tryz.prog.funcNamed C.func=some 6:=by kernel_rfl
theorem inst:Tryz.f6.isInstance Tryz.prog C.origin C.targs:=of_decide_eq_true (by kernel_rfl)
theorem wrap:Tryz.f6.isWrapper Tryz.prog C.wrapper C.mainSum:=by
 unfold Func.isWrapper;first | (rw[if_pos (by decide +kernel)];kernel_rfl) | (rw[if_neg (by decide +kernel)];exact⟨rfl,rfl⟩)
theorem over:Rows.matchNoneRow.holds Tryz.pinned (OpenSpec.ofChange Rows.matchNoneSpec) :=
 OpenClaim.holds_of_wide 6 Tryz.f6 rfl rfl rfl rfl rfl rfl rfl ⟨rfl,rfl,rfl,rfl,rfl⟩ rfl rfl rfl rfl rfl named Tryz.func6 closed inst wrap
   (λos started H enc _=>lifted os started H enc)
theorem proved:Rows.MatchNoneSaid:=over
#print axioms proved
end Go.Proofs.YteoldcfapaiobaaGreat.matchNone
