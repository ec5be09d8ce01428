/- 'TopSpoilt' of every input returns true, and nothing that was there is changed. -/
import Derived.Test.YteoldcfapaiobaaGreatG16MatV
import Derived.WalkKit
import Derived.ProofKit
import Derived.OpenShut
import Derived.ChangeOld
import Derived.Below
namespace Go.Proofs.YteoldcfapaiobaaGreat.topSpoilt
open Go.ChangeShapes Go.WideShapes Go.ChangeAt Go.RowKit
open Go.ChangeMaps (open_string shut_string)
set_option linter.unusedVariables false
set_option linter.unusedSimpArgs false
theorem own:ownKnob Tryz.prog.godebug=none:=by kernel_rfl
theorem laidOut:laidOutB Tryz.prog=true:=PT
set_option maxRecDepth 100000 in
theorem lifted (os:Os)(started:os.Started)(H:Type)(enc:TypeId×Value→H) :
   ReturnsInHanded {} Tryz.checked os 5 .any (Rows.topSpoiltSpec.pre6 enc Tryz.prog Tryz.f5 Rows.topSpoiltRow.domain false) (Rows.topSpoiltSpec.post enc Tryz.prog Tryz.f5 false true false false):=by
 refine returnsInHanded_of_change (C:=Tryz.checked) own started (by kernel_rfl) Tryz.func5
  (ChangeSpec.witness6 (enc:=enc) (C:=Tryz.checked) false ⟨#[],#[.int .i64 0,.int .i64 0,.int .u8 0,.bool false],[]⟩ 8 (by kernel_rfl) (by kernel_rfl) (by kernel_rfl) (by kernel_rfl)) ?_
 intro W base args aez gs before PU sK agu _;have rM:∀ (j:Nat) t v,Tryz.f5.params[j]?=some t→args[j]?=some v→Value.okWide Tryz.prog W .any base t v:=PU;have hW':=sK;obtain⟨p,q,PV,hV,rfl,hfz,Es⟩:=sK;have hA:DataW.TrodAll enc Tryz.prog W 0 (λ_=>true) true Tryz.f5.params.toList args.toList aez p:=PV;rw[Tryz.params5]at hA rM;obtain⟨v0,vs0,d0,ds0,agv,th,agw,rfl,rfl,h0,B2⟩:=trodAll_cons hA;obtain⟨v1,vs1,d1,ds1,Yv,q1,rfl,rfl,rfl,h1,r1⟩:=trodAll_cons B2;obtain⟨v2,vs2,d2,ds2,p2,q2,rfl,rfl,rfl,h2,r2⟩:=trodAll_cons r1;obtain⟨v3,vs3,d3,ds3,Yw,Bn,rfl,rfl,rfl,h3,r3⟩:=trodAll_cons r2;obtain⟨rfl,rfl,rfl⟩:=trodAll_nil r3;obtain rfl:args=#[v0,v1,v2,v3]:=by cases args;simp_all
 obtain⟨rfl,rfl⟩:=trodVars_none hV;obtain⟨a0,rfl,rfl,rfl,w0⟩:=open_int Tryz.underlying3 (rM 0 3 v0 rfl rfl) h0;obtain⟨c0,rfl,rfl,rfl,Ih⟩:=open_int Tryz.underlying3 (rM 1 3 v1 rfl rfl) h1;obtain⟨cU,rfl,rfl,rfl,w2⟩:=open_int Tryz.underlying5 (rM 2 5 v2 rfl rfl) h2;obtain⟨a3,rfl,rfl,rfl⟩:=open_bool Tryz.underlying4 (rM 3 4 v3 rfl rfl) h3;clear PV PU;refine (aem a0 c0 cU a3 W w0 Ih w2).mono λe W' ⟨he,bel⟩=>?_;subst he;exact⟨_,rfl,_,_,_,[],[],[],hW',trodAll_mk1 (shut_bool Tryz.underlying4 _),(trodAll_cons_mk (shut_int Tryz.underlying3 w0) (trodAll_cons_mk (shut_int Tryz.underlying3 Ih) (trodAll_cons_mk (shut_int Tryz.underlying5 w2) (trodAll_cons_mk (shut_bool Tryz.underlying4 _) trodAll_mk0)))),rfl,bel.frame _,λh=>by cases h⟩
abbrev C:=Rows.topSpoiltRow
abbrev S:=Rows.topSpoiltSpec
theorem k1:C.wf (OpenSpec.ofChange S)=true:=by kernel_rfl
theorem Ij:(C.inPlace==Tryz.prog.inPlace 5)=true:=by kernel_rfl
theorem C4:(C.unfollowed==Tryz.prog.unfollowed 5)=true:=by kernel_rfl
theorem Ik:(C.recurses==Tryz.prog.recurses 5)=true:=by kernel_rfl
theorem Il:(C.named==Tryz.prog.varsNamed 5)=true:=by kernel_rfl
theorem closed:joinedFacts Tryz.prog 5 Tryz.f5 S C=true :=
 aeo k1 PT aet (by kernel_rfl) (by kernel_rfl) (by kernel_rfl) (by kernel_rfl) (by kernel_rfl) (by kernel_rfl) Ij C4 Ik Il (by kernel_rfl) (by kernel_rfl) (by kernel_rfl) (by kernel_rfl) (by kernel_rfl) (by kernel_rfl) (by kernel_rfl) (by kernel_rfl) (by kernel_rfl)
  (aew C rfl) (by kernel_rfl) aeu aev (aex C rfl) (aey C rfl) (by kernel_rfl) (by kernel_rfl) (by kernel_rfl) (by kernel_rfl)
theorem named:Tryz.prog.funcNamed C.func=some 5:=by kernel_rfl
theorem inst:Tryz.f5.isInstance Tryz.prog C.origin C.targs:=qE (by kernel_rfl)
theorem wrap:Tryz.f5.isWrapper Tryz.prog C.wrapper C.mainSum:=by
 unfold Func.isWrapper;first | (rw[ak (by decide +kernel)];kernel_rfl) | (rw[ag (by decide +kernel)];exact⟨rfl,rfl⟩)
theorem Gx:Rows.topSpoiltRow.holds Tryz.pinned (OpenSpec.ofChange Rows.topSpoiltSpec) :=
 OpenClaim.holds_of_wide 5 Tryz.f5 rfl rfl rfl rfl rfl rfl rfl ⟨rfl,rfl,rfl,rfl,rfl⟩ rfl rfl rfl rfl rfl named Tryz.func5 closed inst wrap
  (λos started H enc _=>lifted os started H enc)
theorem proved:Rows.TopSpoiltSaid:=Gx
#print axioms proved
end Go.Proofs.YteoldcfapaiobaaGreat.topSpoilt
