/- 'TopPlays' of every input returns true, and nothing that was there is changed. -/
import Derived.Test.YteoldcfapaiobaaGreatD17RefV
import Derived.WalkKit
import Derived.ProofKit
import Derived.OpenShut
import Derived.ChangeOld
import Derived.Below
namespace Go.Proofs.YteoldcfapaiobaaGreat.topPlays
open Go.ChangeShapes Go.WideShapes Go.ChangeAt Go.RowKit
open Go.ChangeMaps (open_string shut_string)
set_option linter.unusedVariables false
set_option linter.unusedSimpArgs false
theorem own:ownKnob Tryz.prog.godebug=none:=by kernel_rfl
theorem laidOut:laidOutB Tryz.prog=true:=OE
set_option maxRecDepth 100000 in
theorem lifted (os:Os)(started:os.Started)(H:Type)(enc:TypeId×Value→H) :
   ReturnsInHanded {} Tryz.checked os 3 .any (Rows.topPlaysSpec.pre6 enc Tryz.prog Tryz.f3 Rows.topPlaysRow.domain false) (Rows.topPlaysSpec.post enc Tryz.prog Tryz.f3 false true false false):=by
 refine returnsInHanded_of_change (C:=Tryz.checked) own started (by kernel_rfl) Tryz.func3
  (ChangeSpec.witness6 (enc:=enc) (C:=Tryz.checked) false ⟨#[],#[.int .i64 0,.int .i64 0,.slice none 0 0,.bool false],[]⟩ 8 (by kernel_rfl) (by kernel_rfl) (by kernel_rfl) (by kernel_rfl)) ?_
 intro W base args adD gs before OF rS afx _;have qX:∀ (j:Nat) t v,Tryz.f3.params[j]?=some t→args[j]?=some v→Value.okWide Tryz.prog W .any base t v:=OF;have hW':=rS;obtain⟨p,q,OG,lE,rfl,hfz,Dr⟩:=rS;have hA:DataW.TrodAll enc Tryz.prog W 0 (λ_=>true) true Tryz.f3.params.toList args.toList adD p:=OG;rw[Tryz.params3]at hA qX;obtain⟨v0,vs0,d0,ds0,afy,sw,afz,rfl,rfl,h0,A5⟩:=trodAll_cons hA;obtain⟨v1,vs1,d1,ds1,Xu,q1,rfl,rfl,rfl,h1,r1⟩:=trodAll_cons A5;obtain⟨v2,vs2,d2,ds2,p2,q2,rfl,rfl,rfl,h2,r2⟩:=trodAll_cons r1;obtain⟨v3,vs3,d3,ds3,Xv,Ap,rfl,rfl,rfl,h3,r3⟩:=trodAll_cons r2;obtain⟨rfl,rfl,rfl⟩:=trodAll_nil r3;obtain rfl:args=#[v0,v1,v2,v3]:=by cases args;simp_all
 obtain⟨rfl,rfl⟩:=trodVars_none lE;obtain⟨a0,rfl,rfl,rfl,w0⟩:=open_int Tryz.underlying3 (qX 0 3 v0 rfl rfl) h0;obtain⟨df,rfl,rfl,rfl,G8⟩:=open_int Tryz.underlying3 (qX 1 3 v1 rfl rfl) h1;obtain⟨dc,vg,vh,rfl⟩:=okWide_slice Tryz.underlying22 (qX 2 22 v2 rfl rfl);have k2:=h2;have lt2:∀ x∈p2,x.block<W.heap.size:=by obtain⟨m,hm⟩:=k2;exact DataW.trod_lt m _ _ _ hm
 obtain⟨z2,w2⟩:∃ zs,sO .u8 W dc vg vh zs:=by
  obtain⟨fuel,hf⟩:=h2;rcases open_ints Tryz.underlying22 Tryz.underlying5 (by kernel_rfl) hf with ⟨hR,_⟩ | ⟨x,l,c,zs,hR,_,hl,hm,hz,_,lf,ve⟩
  ·simp[Value.cells]at hR;obtain⟨rfl,rfl,rfl⟩:=hR;exact⟨[],.inl ⟨rfl,rfl,rfl,rfl⟩⟩
  ·simp[Value.cells]at hR;obtain⟨rfl,rfl,rfl⟩:=hR;exact⟨zs,.inr ⟨_,rfl,hl,hm,by simpa using hz,lf,ve⟩⟩
 obtain⟨a3,rfl,rfl,rfl⟩:=open_bool Tryz.underlying4 (qX 3 4 v3 rfl rfl) h3;clear OG OF;refine (adr a0 df dc vg vh z2 a3 W w0 G8 w2).mono λe W' ⟨he,OH⟩=>?_;subst he;exact⟨_,rfl,_,_,_,[],_,[],hW',trodAll_mk1 (shut_bool Tryz.underlying4 _),(trodAll_cons_mk (shut_int Tryz.underlying3 w0) (trodAll_cons_mk (shut_int Tryz.underlying3 G8) (trodAll_cons_mk (Below.trod laidOut (by kernel_rfl) (of_decide_eq_true (by kernel_rfl)) k2 OH lt2) (trodAll_cons_mk (shut_bool Tryz.underlying4 _) trodAll_mk0)))),rfl,OH.frame _,λh=>by cases h⟩
abbrev C:=Rows.topPlaysRow
abbrev S:=Rows.topPlaysSpec
theorem k1:C.wf (OpenSpec.ofChange S)=true:=by kernel_rfl
theorem Ha:(C.inPlace==Tryz.prog.inPlace 3)=true:=by kernel_rfl
theorem B7:(C.unfollowed==Tryz.prog.unfollowed 3)=true:=by kernel_rfl
theorem Hb:(C.recurses==Tryz.prog.recurses 3)=true:=by kernel_rfl
theorem Hc:(C.named==Tryz.prog.varsNamed 3)=true:=by kernel_rfl
theorem closed:joinedFacts Tryz.prog 3 Tryz.f3 S C=true :=
 ads k1 OE adx (by kernel_rfl) (by kernel_rfl) (by kernel_rfl) (by kernel_rfl) (by kernel_rfl) (by kernel_rfl) Ha B7 Hb Hc (by kernel_rfl) (by kernel_rfl) (by kernel_rfl) (by kernel_rfl) (by kernel_rfl) (by kernel_rfl) (by kernel_rfl) (by kernel_rfl) (by kernel_rfl)
  (adA C rfl) (by kernel_rfl) ady adz (adB C rfl) (adC C rfl) (by kernel_rfl) (by kernel_rfl) (by kernel_rfl) (by kernel_rfl)
theorem named:Tryz.prog.funcNamed C.func=some 3:=by kernel_rfl
theorem inst:Tryz.f3.isInstance Tryz.prog C.origin C.targs:=of_decide_eq_true (by kernel_rfl)
theorem wrap:Tryz.f3.isWrapper Tryz.prog C.wrapper C.mainSum:=by
 unfold Func.isWrapper;first | (rw[ak (by decide +kernel)];kernel_rfl) | (rw[ag (by decide +kernel)];exact⟨rfl,rfl⟩)
theorem Fy:Rows.topPlaysRow.holds Tryz.pinned (OpenSpec.ofChange Rows.topPlaysSpec) :=
 OpenClaim.holds_of_wide 3 Tryz.f3 rfl rfl rfl rfl rfl rfl rfl ⟨rfl,rfl,rfl,rfl,rfl⟩ rfl rfl rfl rfl rfl named Tryz.func3 closed inst wrap
  (λos started H enc _=>lifted os started H enc)
theorem proved:Rows.TopPlaysSaid:=Fy
#print axioms proved
end Go.Proofs.YteoldcfapaiobaaGreat.topPlays
