/- 'MatchAgree' of every input returns true, and nothing that was there is changed. -/
import Derived.Test.YteoldcfapaiobaaGreatB17HonN
import Derived.WalkKit
import Derived.ProofKit
import Derived.OpenShut
import Derived.ChangeOld
import Derived.Below
namespace Go.Proofs.YteoldcfapaiobaaGreat.matchAgree
open Go.ChangeShapes Go.WideShapes Go.ChangeAt Go.RowKit
open Go.ChangeMaps (open_string shut_string)
set_option linter.unusedVariables false
set_option linter.unusedSimpArgs false
theorem own:ownKnob Tryz.prog.godebug=none:=by kernel_rfl
theorem laidOut:laidOutB Tryz.prog=true:=OE
set_option maxRecDepth 100000 in
theorem lifted (os:Os)(started:os.Started)(H:Type)(enc:TypeId×Value→H) :
   ReturnsInHanded {} Tryz.checked os 7 .any (Rows.matchAgreeSpec.pre6 enc Tryz.prog Tryz.f7 Rows.matchAgreeRow.domain false) (Rows.matchAgreeSpec.post enc Tryz.prog Tryz.f7 false true false false):=by
 refine returnsInHanded_of_change (C:=Tryz.checked) own started (by kernel_rfl) Tryz.func7
  (ChangeSpec.witness6 (enc:=enc) (C:=Tryz.checked) false ⟨#[],#[.agg #[.int .i64 0,.int .i64 0,.int .i64 0,.int .i64 0,.int .i64 0,.int .i64 0,.int .i64 0,.int .i64 0,.int .i64 0,.int .i64 0],.slice none 0 0],[]⟩ 8 (by kernel_rfl) (by kernel_rfl) (by kernel_rfl) (by kernel_rfl)) ?_
 intro W base args adj gs before OF rM afh _;have tH:∀ (j:Nat) t v,Tryz.f7.params[j]?=some t→args[j]?=some v→Value.okWide Tryz.prog W .any base t v:=OF;have hW':=rM;obtain⟨p,q,OG,adk,rfl,hfz,Dn⟩:=rM;have hA:DataW.TrodAll enc Tryz.prog W 0 (λ_=>true) true Tryz.f7.params.toList args.toList adj p:=OG;rw[Tryz.params7]at hA tH;obtain⟨v0,vs0,d0,ds0,adl,q0,afi,rfl,rfl,h0,AV⟩:=trodAll_cons hA;obtain⟨v1,vs1,d1,ds1,J1,q1,rfl,rfl,rfl,h1,r1⟩:=trodAll_cons AV;obtain⟨rfl,rfl,rfl⟩:=trodAll_nil r1;obtain rfl:args=#[v0,v1]:=by cases args;simp_all
 obtain⟨rfl,rfl⟩:=trodVars_none adk;have pv:=h0;have lt0:∀ x∈adl,x.block<W.heap.size:=by obtain⟨m,hm⟩:=pv;exact DataW.trod_lt m _ _ _ hm
 obtain⟨tj,rfl⟩:=abp (tH 0 28 v0 rfl rfl) h0;obtain⟨dj,pM,B3,rfl⟩:=okWide_slice Tryz.underlying84 (tH 1 84 v1 rfl rfl);have k1:=h1;have lt1:∀ x∈J1,x.block<W.heap.size:=by obtain⟨m,hm⟩:=k1;exact DataW.trod_lt m _ _ _ hm
 have w1:=acY k1;clear OG OF;refine (ac5 tj dj pM B3 W w1).mono λe W' ⟨he,G6⟩=>?_;subst he;exact⟨_,rfl,_,_,_,[],_,[],hW',trodAll_mk1 (shut_bool Tryz.underlying4 _),(trodAll_cons_mk (Below.trod laidOut (by kernel_rfl) (of_decide_eq_true (by kernel_rfl)) pv G6 lt0) (trodAll_cons_mk (Below.trod laidOut (by kernel_rfl) (of_decide_eq_true (by kernel_rfl)) k1 G6 lt1) trodAll_mk0)),rfl,G6.frame _,λh=>by cases h⟩
abbrev C:=Rows.matchAgreeRow
abbrev S:=Rows.matchAgreeSpec
theorem k1:C.wf (OpenSpec.ofChange S)=true:=by kernel_rfl
theorem G3:(C.inPlace==Tryz.prog.inPlace 7)=true:=by kernel_rfl
theorem B0:(C.unfollowed==Tryz.prog.unfollowed 7)=true:=by kernel_rfl
theorem G4:(C.recurses==Tryz.prog.recurses 7)=true:=by kernel_rfl
theorem G5:(C.named==Tryz.prog.varsNamed 7)=true:=by kernel_rfl
theorem closed:joinedFacts Tryz.prog 7 Tryz.f7 S C=true :=
 ac6 k1 OE adb (by kernel_rfl) (by kernel_rfl) (by kernel_rfl) (by kernel_rfl) (by kernel_rfl) (by kernel_rfl) G3 B0 G4 G5 (by kernel_rfl) (by kernel_rfl) (by kernel_rfl) (by kernel_rfl) (by kernel_rfl) (by kernel_rfl) (by kernel_rfl) (by kernel_rfl) (by kernel_rfl)
  (adg C rfl) (by kernel_rfl) ade adf (adh C rfl) (adi C rfl) (by kernel_rfl) (by kernel_rfl) (by kernel_rfl) (by kernel_rfl)
theorem named:Tryz.prog.funcNamed C.func=some 7:=by kernel_rfl
theorem inst:Tryz.f7.isInstance Tryz.prog C.origin C.targs:=of_decide_eq_true (by kernel_rfl)
theorem wrap:Tryz.f7.isWrapper Tryz.prog C.wrapper C.mainSum:=by
 unfold Func.isWrapper;first | (rw[al (by decide +kernel)];kernel_rfl) | (rw[ag (by decide +kernel)];exact⟨rfl,rfl⟩)
theorem Fu:Rows.matchAgreeRow.holds Tryz.pinned (OpenSpec.ofChange Rows.matchAgreeSpec) :=
 OpenClaim.holds_of_wide 7 Tryz.f7 rfl rfl rfl rfl rfl rfl rfl ⟨rfl,rfl,rfl,rfl,rfl⟩ rfl rfl rfl rfl rfl named Tryz.func7 closed inst wrap
  (λos started H enc _=>lifted os started H enc)
theorem proved:Rows.MatchAgreeSaid:=Fu
#print axioms proved
end Go.Proofs.YteoldcfapaiobaaGreat.matchAgree
