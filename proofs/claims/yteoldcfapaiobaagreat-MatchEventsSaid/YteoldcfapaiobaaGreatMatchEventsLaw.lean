/- 'MatchEvents' of every input returns true, and nothing that was there is changed. -/
import Derived.Test.YteoldcfapaiobaaGreatC17RefV
import Derived.WalkKit
import Derived.ProofKit
import Derived.OpenShut
import Derived.ChangeOld
import Derived.Below
namespace Go.Proofs.YteoldcfapaiobaaGreat.matchEvents
open Go.ChangeShapes Go.WideShapes Go.ChangeAt Go.RowKit
open Go.ChangeMaps (open_string shut_string)
set_option linter.unusedVariables false
set_option linter.unusedSimpArgs false
theorem own:ownKnob Tryz.prog.godebug=none:=by kernel_rfl
theorem laidOut:laidOutB Tryz.prog=true:=Oe
set_option maxRecDepth 100000 in
theorem lifted (os:Os)(started:os.Started)(H:Type)(enc:TypeId×Value→H) :
   ReturnsInHanded {} Tryz.checked os 9 .any (Rows.matchEventsSpec.pre6 enc Tryz.prog Tryz.f9 Rows.matchEventsRow.domain false) (Rows.matchEventsSpec.post enc Tryz.prog Tryz.f9 false true false false):=by
 refine returnsInHanded_of_change (C:=Tryz.checked) own started (by kernel_rfl) Tryz.func9
  (ChangeSpec.witness6 (enc:=enc) (C:=Tryz.checked) false ⟨#[],#[.int .i64 0,.slice none 0 0],[]⟩ 8 (by kernel_rfl) (by kernel_rfl) (by kernel_rfl) (by kernel_rfl)) ?_
 intro W base args ac0 gs before Of rE aeZ _;have tE:∀ (j:Nat) t v,Tryz.f9.params[j]?=some t→args[j]?=some v→Value.okWide Tryz.prog W .any base t v:=Of;have hW':=rE;obtain⟨p,q,Og,ac1,rfl,hfz,CZ⟩:=rE;have hA:DataW.TrodAll enc Tryz.prog W 0 (λ_=>true) true Tryz.f9.params.toList args.toList ac0 p:=Og;rw[Tryz.params9]at hA tE;obtain⟨v0,vs0,d0,ds0,ae0,r7,ae1,rfl,rfl,h0,AH⟩:=trodAll_cons hA;obtain⟨v1,vs1,d1,ds1,JB,q1,rfl,rfl,rfl,h1,r1⟩:=trodAll_cons AH;obtain⟨rfl,rfl,rfl⟩:=trodAll_nil r1;obtain rfl:args=#[v0,v1]:=by cases args;simp_all
 obtain⟨rfl,rfl⟩:=trodVars_none ac1;obtain⟨a0,rfl,rfl,rfl,w0⟩:=open_int Tryz.underlying3 (tE 0 3 v0 rfl rfl) h0;obtain⟨cZ,qs,tf,rfl⟩:=okWide_slice Tryz.underlying53 (tE 1 53 v1 rfl rfl);have k1:=h1;have lt1:∀ x∈JB,x.block<W.heap.size:=by obtain⟨m,hm⟩:=k1;exact DataW.trod_lt m _ _ _ hm
 obtain⟨z1,GD⟩:∃ zs,sA .i64 W cZ qs tf zs:=by
  obtain⟨fuel,hf⟩:=h1;rcases open_ints Tryz.underlying53 Tryz.underlying3 (by kernel_rfl) hf with ⟨hL,_⟩ | ⟨x,l,c,zs,hL,_,hl,hm,hz,_,k0,hwz⟩
  ·simp[Value.cells]at hL;obtain⟨rfl,rfl,rfl⟩:=hL;exact⟨[],.inl ⟨rfl,rfl,rfl,rfl⟩⟩
  ·simp[Value.cells]at hL;obtain⟨rfl,rfl,rfl⟩:=hL;exact⟨zs,.inr ⟨_,rfl,hl,hm,by simpa using hz,k0,hwz⟩⟩
 clear Og Of;refine (acK a0 cZ qs tf z1 W w0 GD).mono λe W' ⟨he,Oh⟩=>?_;subst he;exact⟨_,rfl,_,_,_,[],_,[],hW',trodAll_mk1 (shut_bool Tryz.underlying4 _),(trodAll_cons_mk (shut_int Tryz.underlying3 w0) (trodAll_cons_mk (Below.trod laidOut (by kernel_rfl) (of_decide_eq_true (by kernel_rfl)) k1 Oh lt1) trodAll_mk0)),rfl,Oh.frame _,λh=>by cases h⟩
abbrev C:=Rows.matchEventsRow
abbrev S:=Rows.matchEventsSpec
theorem k1:C.wf (OpenSpec.ofChange S)=true:=by kernel_rfl
theorem GH:(C.inPlace==Tryz.prog.inPlace 9)=true:=by kernel_rfl
theorem BF:(C.unfollowed==Tryz.prog.unfollowed 9)=true:=by kernel_rfl
theorem GI:(C.recurses==Tryz.prog.recurses 9)=true:=by kernel_rfl
theorem GJ:(C.named==Tryz.prog.varsNamed 9)=true:=by kernel_rfl
theorem closed:joinedFacts Tryz.prog 9 Tryz.f9 S C=true :=
 acP k1 Oe acU (by kernel_rfl) (by kernel_rfl) (by kernel_rfl) (by kernel_rfl) (by kernel_rfl) (by kernel_rfl) GH BF GI GJ (by kernel_rfl) (by kernel_rfl) (by kernel_rfl) (by kernel_rfl) (by kernel_rfl) (by kernel_rfl) (by kernel_rfl) (by kernel_rfl) (by kernel_rfl)
  (acX C rfl) (by kernel_rfl) acV acW (acY C rfl) (acZ C rfl) (by kernel_rfl) (by kernel_rfl) (by kernel_rfl) (by kernel_rfl)
theorem named:Tryz.prog.funcNamed C.func=some 9:=by kernel_rfl
theorem inst:Tryz.f9.isInstance Tryz.prog C.origin C.targs:=of_decide_eq_true (by kernel_rfl)
theorem wrap:Tryz.f9.isWrapper Tryz.prog C.wrapper C.mainSum:=by
 unfold Func.isWrapper;first | (rw[ak (by decide +kernel)];kernel_rfl) | (rw[ae (by decide +kernel)];exact⟨rfl,rfl⟩)
theorem E7:Rows.matchEventsRow.holds Tryz.pinned (OpenSpec.ofChange Rows.matchEventsSpec) :=
 OpenClaim.holds_of_wide 9 Tryz.f9 rfl rfl rfl rfl rfl rfl rfl ⟨rfl,rfl,rfl,rfl,rfl⟩ rfl rfl rfl rfl rfl named Tryz.func9 closed inst wrap
  (λos started H enc _=>lifted os started H enc)
theorem proved:Rows.MatchEventsSaid:=E7
#print axioms proved
end Go.Proofs.YteoldcfapaiobaaGreat.matchEvents
