/- 'MatchErrors' of every input returns true, and nothing that was there is changed. -/
import Derived.Test.YteoldcfapaiobaaGreatA17DocQ
import Derived.WalkKit
import Derived.ProofKit
import Derived.OpenShut
import Derived.ChangeOld
import Derived.Below
namespace Go.Proofs.YteoldcfapaiobaaGreat.matchErrors
open Go.ChangeShapes Go.WideShapes Go.ChangeAt Go.RowKit
open Go.ChangeMaps (open_string shut_string)
set_option linter.unusedVariables false
set_option linter.unusedSimpArgs false
theorem own:ownKnob Tryz.prog.godebug=none:=by kernel_rfl
theorem laidOut:laidOutB Tryz.prog=true:=NK
set_option maxRecDepth 100000 in
theorem lifted (os:Os)(started:os.Started)(H:Type)(enc:TypeId×Value→H) :
   ReturnsInHanded {} Tryz.checked os 8 .any (Rows.matchErrorsSpec.pre6 enc Tryz.prog Tryz.f8 Rows.matchErrorsRow.domain false) (Rows.matchErrorsSpec.post enc Tryz.prog Tryz.f8 false true false false):=by
 refine returnsInHanded_of_change (C:=Tryz.checked) own started (by kernel_rfl) Tryz.func8
  (ChangeSpec.witness6 (enc:=enc) (C:=Tryz.checked) false ⟨#[],#[.agg #[.int .i64 0,.int .i64 0,.int .i64 0,.int .i64 0],.bool false],[]⟩ 8 (by kernel_rfl) (by kernel_rfl) (by kernel_rfl) (by kernel_rfl)) ?_
 intro W base args acu gs before NL rz aes _;have tr:∀ (j:Nat) t v,Tryz.f8.params[j]?=some t→args[j]?=some v→Value.okWide Tryz.prog W .any base t v:=NL;have hW':=rz;obtain⟨p,q,NM,acv,rfl,hfz,CG⟩:=rz;have hA:DataW.TrodAll enc Tryz.prog W 0 (λ_=>true) true Tryz.f8.params.toList args.toList acu p:=NM;rw[Tryz.params8]at hA tr;obtain⟨v0,vs0,d0,ds0,acw,rZ,aet,rfl,rfl,h0,Ao⟩:=trodAll_cons hA;obtain⟨v1,vs1,d1,ds1,Wu,q1,rfl,rfl,rfl,h1,r1⟩:=trodAll_cons Ao;obtain⟨rfl,rfl,rfl⟩:=trodAll_nil r1;obtain rfl:args=#[v0,v1]:=by cases args;simp_all
 obtain⟨rfl,rfl⟩:=trodVars_none acv;have pf:=h0;have lt0:∀ x∈acw,x.block<W.heap.size:=by obtain⟨m,hm⟩:=pf;exact DataW.trod_lt m _ _ _ hm
 obtain⟨st0,rfl⟩:=acf (tr 0 58 v0 rfl rfl) h0;obtain⟨dD,rfl,rfl,rfl⟩:=open_bool Tryz.underlying4 (tr 1 4 v1 rfl rfl) h1;clear NM NL;refine (acg st0 dD W).mono λe W' ⟨he,NN⟩=>?_;subst he;exact⟨_,rfl,_,_,_,[],_,[],hW',trodAll_mk1 (shut_bool Tryz.underlying4 _),(trodAll_cons_mk (Below.trod laidOut (by kernel_rfl) (of_decide_eq_true (by kernel_rfl)) pf NN lt0) (trodAll_cons_mk (shut_bool Tryz.underlying4 _) trodAll_mk0)),rfl,NN.frame _,λh=>by cases h⟩
abbrev C:=Rows.matchErrorsRow
abbrev S:=Rows.matchErrorsSpec
theorem k1:C.wf (OpenSpec.ofChange S)=true:=by kernel_rfl
theorem Gt:(C.inPlace==Tryz.prog.inPlace 8)=true:=by kernel_rfl
theorem Bl:(C.unfollowed==Tryz.prog.unfollowed 8)=true:=by kernel_rfl
theorem Gu:(C.recurses==Tryz.prog.recurses 8)=true:=by kernel_rfl
theorem Gv:(C.named==Tryz.prog.varsNamed 8)=true:=by kernel_rfl
theorem closed:joinedFacts Tryz.prog 8 Tryz.f8 S C=true :=
 ach k1 NK acn (by kernel_rfl) (by kernel_rfl) (by kernel_rfl) (by kernel_rfl) (by kernel_rfl) (by kernel_rfl) Gt Bl Gu Gv (by kernel_rfl) (by kernel_rfl) (by kernel_rfl) (by kernel_rfl) (by kernel_rfl) (by kernel_rfl) (by kernel_rfl) (by kernel_rfl) (by kernel_rfl)
  (acq C rfl) (by kernel_rfl) aco acp (acr C rfl) (acs C rfl) (by kernel_rfl) (by kernel_rfl) (by kernel_rfl) (by kernel_rfl)
theorem named:Tryz.prog.funcNamed C.func=some 8:=by kernel_rfl
theorem inst:Tryz.f8.isInstance Tryz.prog C.origin C.targs:=of_decide_eq_true (by kernel_rfl)
theorem wrap:Tryz.f8.isWrapper Tryz.prog C.wrapper C.mainSum:=by
 unfold Func.isWrapper;first | (rw[al (by decide +kernel)];kernel_rfl) | (rw[ae (by decide +kernel)];exact⟨rfl,rfl⟩)
theorem EP:Rows.matchErrorsRow.holds Tryz.pinned (OpenSpec.ofChange Rows.matchErrorsSpec) :=
 OpenClaim.holds_of_wide 8 Tryz.f8 rfl rfl rfl rfl rfl rfl rfl ⟨rfl,rfl,rfl,rfl,rfl⟩ rfl rfl rfl rfl rfl named Tryz.func8 closed inst wrap
  (λos started H enc _=>lifted os started H enc)
theorem proved:Rows.MatchErrorsSaid:=EP
#print axioms proved
end Go.Proofs.YteoldcfapaiobaaGreat.matchErrors
