/- 'TopEachByte' of every input returns true, and nothing that was there is changed. -/
import Derived.Test.YteoldcfapaiobaaGreatF16MatV
import Derived.WalkKit
import Derived.ProofKit
import Derived.OpenShut
import Derived.ChangeOld
import Derived.Below
namespace Go.Proofs.YteoldcfapaiobaaGreat.topEachByte
open Go.ChangeShapes Go.WideShapes Go.ChangeAt Go.RowKit
open Go.ChangeMaps (open_string shut_string)
set_option linter.unusedVariables false
set_option linter.unusedSimpArgs false
theorem own:ownKnob Tryz.prog.godebug=none:=by kernel_rfl
theorem laidOut:laidOutB Tryz.prog=true:=PR
set_option maxRecDepth 100000 in
theorem lifted (os:Os)(started:os.Started)(H:Type)(enc:TypeId×Value→H) :
   ReturnsInHanded {} Tryz.checked os 11 .any (Rows.topEachByteSpec.pre6 enc Tryz.prog Tryz.f11 Rows.topEachByteRow.domain false) (Rows.topEachByteSpec.post enc Tryz.prog Tryz.f11 false true false false):=by
 refine returnsInHanded_of_change (C:=Tryz.checked) own started (by kernel_rfl) Tryz.func11
  (ChangeSpec.witness6 (enc:=enc) (C:=Tryz.checked) false ⟨#[],#[.int .i64 0,.int .u8 0,.bool false],[]⟩ 8 (by kernel_rfl) (by kernel_rfl) (by kernel_rfl) (by kernel_rfl)) ?_
 intro W base args aev gs before PS sF agn _;have td:∀ (j:Nat) t v,Tryz.f11.params[j]?=some t→args[j]?=some v→Value.okWide Tryz.prog W .any base t v:=PS;have hW':=sF;obtain⟨p,q,PT,jK,rfl,hfz,En⟩:=sF;have hA:DataW.TrodAll enc Tryz.prog W 0 (λ_=>true) true Tryz.f11.params.toList args.toList aev p:=PT;rw[Tryz.params11]at hA td;obtain⟨v0,vs0,d0,ds0,ago,ta,agp,rfl,rfl,h0,BV⟩:=trodAll_cons hA;obtain⟨v1,vs1,d1,ds1,Yt,q1,rfl,rfl,rfl,h1,r1⟩:=trodAll_cons BV;obtain⟨v2,vs2,d2,ds2,p2,q2,rfl,rfl,rfl,h2,r2⟩:=trodAll_cons r1;obtain⟨rfl,rfl,rfl⟩:=trodAll_nil r2;obtain rfl:args=#[v0,v1,v2]:=by cases args;simp_all
 obtain⟨rfl,rfl⟩:=trodVars_none jK;obtain⟨a0,rfl,rfl,rfl,w0⟩:=open_int Tryz.underlying3 (td 0 3 v0 rfl rfl) h0;obtain⟨cH,rfl,rfl,rfl,C4⟩:=open_int Tryz.underlying5 (td 1 5 v1 rfl rfl) h1;obtain⟨dq,rfl,rfl,rfl⟩:=open_bool Tryz.underlying4 (td 2 4 v2 rfl rfl) h2;clear PT PS;refine (aei a0 cH dq W w0 C4).mono λe W' ⟨he,bel⟩=>?_;subst he;exact⟨_,rfl,_,_,_,[],[],[],hW',trodAll_mk1 (shut_bool Tryz.underlying4 _),(trodAll_cons_mk (shut_int Tryz.underlying3 w0) (trodAll_cons_mk (shut_int Tryz.underlying5 C4) (trodAll_cons_mk (shut_bool Tryz.underlying4 _) trodAll_mk0))),rfl,bel.frame _,λh=>by cases h⟩
abbrev C:=Rows.topEachByteRow
abbrev S:=Rows.topEachByteSpec
theorem k1:C.wf (OpenSpec.ofChange S)=true:=by kernel_rfl
theorem H6:(C.inPlace==Tryz.prog.inPlace 11)=true:=by kernel_rfl
theorem CZ:(C.unfollowed==Tryz.prog.unfollowed 11)=true:=by kernel_rfl
theorem H7:(C.recurses==Tryz.prog.recurses 11)=true:=by kernel_rfl
theorem H8:(C.named==Tryz.prog.varsNamed 11)=true:=by kernel_rfl
theorem closed:joinedFacts Tryz.prog 11 Tryz.f11 S C=true :=
 aek k1 PR aep (by kernel_rfl) (by kernel_rfl) (by kernel_rfl) (by kernel_rfl) (by kernel_rfl) (by kernel_rfl) H6 CZ H7 H8 (by kernel_rfl) (by kernel_rfl) (by kernel_rfl) (by kernel_rfl) (by kernel_rfl) (by kernel_rfl) (by kernel_rfl) (by kernel_rfl) (by kernel_rfl)
  (aes C rfl) (by kernel_rfl) aeq aer (aet C rfl) (aeu C rfl) (by kernel_rfl) (by kernel_rfl) (by kernel_rfl) (by kernel_rfl)
theorem named:Tryz.prog.funcNamed C.func=some 11:=by kernel_rfl
theorem inst:Tryz.f11.isInstance Tryz.prog C.origin C.targs:=qB (by kernel_rfl)
theorem wrap:Tryz.f11.isWrapper Tryz.prog C.wrapper C.mainSum:=by
 unfold Func.isWrapper;first | (rw[ak (by decide +kernel)];kernel_rfl) | (rw[ag (by decide +kernel)];exact⟨rfl,rfl⟩)
theorem Gu:Rows.topEachByteRow.holds Tryz.pinned (OpenSpec.ofChange Rows.topEachByteSpec) :=
 OpenClaim.holds_of_wide 11 Tryz.f11 rfl rfl rfl rfl rfl rfl rfl ⟨rfl,rfl,rfl,rfl,rfl⟩ rfl rfl rfl rfl rfl named Tryz.func11 closed inst wrap
  (λos started H enc _=>lifted os started H enc)
theorem proved:Rows.TopEachByteSaid:=Gu
#print axioms proved
end Go.Proofs.YteoldcfapaiobaaGreat.topEachByte
