/- 'TopProg' of every input returns true, and nothing that was there is changed. -/
import Derived.Test.YteoldcfapaiobaaGreatH17RefV
import Derived.WalkKit
import Derived.ProofKit
import Derived.OpenShut
import Derived.ChangeOld
import Derived.Below
namespace Go.Proofs.YteoldcfapaiobaaGreat.topProg
open Go.ChangeShapes Go.WideShapes Go.ChangeAt Go.RowKit
open Go.ChangeMaps (open_string shut_string)
set_option linter.unusedVariables false
set_option linter.unusedSimpArgs false
theorem own:ownKnob Tryz.prog.godebug=none:=by kernel_rfl
theorem laidOut:laidOutB Tryz.prog=true:=PT
set_option maxRecDepth 100000 in
theorem lifted (os:Os)(started:os.Started)(H:Type)(enc:TypeId×Value→H) :
   ReturnsInHanded {} Tryz.checked os 10 .any (Rows.topProgSpec.pre6 enc Tryz.prog Tryz.f10 Rows.topProgRow.domain false) (Rows.topProgSpec.post enc Tryz.prog Tryz.f10 false true false false):=by
 refine returnsInHanded_of_change (C:=Tryz.checked) own started (by kernel_rfl) Tryz.func10
  (ChangeSpec.witness6 (enc:=enc) (C:=Tryz.checked) false ⟨#[],#[.agg #[.string ByteArray.empty,.slice none 0 0],.slice none 0 0,.int .i64 0,.slice none 0 0],[]⟩ 8 (by kernel_rfl) (by kernel_rfl) (by kernel_rfl) (by kernel_rfl)) ?_
 intro W base args aeB gs before PU sG agt _;have rG:∀ (j:Nat) t v,Tryz.f10.params[j]?=some t→args[j]?=some v→Value.okWide Tryz.prog W .any base t v:=PU;have hW':=sG;obtain⟨p,q,PV,aeC,rfl,hfz,ED⟩:=sG;have hA:DataW.TrodAll enc Tryz.prog W 0 (λ_=>true) true Tryz.f10.params.toList args.toList aeB p:=PV;rw[Tryz.params10]at hA rG;obtain⟨v0,vs0,d0,ds0,aeD,q0,agu,rfl,rfl,h0,Ce⟩:=trodAll_cons hA;obtain⟨v1,vs1,d1,ds1,K9,q1,rfl,rfl,rfl,h1,r1⟩:=trodAll_cons Ce;obtain⟨v2,vs2,d2,ds2,p2,q2,rfl,rfl,rfl,h2,r2⟩:=trodAll_cons r1;obtain⟨v3,vs3,d3,ds3,La,wV,rfl,rfl,rfl,h3,r3⟩:=trodAll_cons r2;obtain⟨rfl,rfl,rfl⟩:=trodAll_nil r3;obtain rfl:args=#[v0,v1,v2,v3]:=by cases args;simp_all
 obtain⟨rfl,rfl⟩:=trodVars_none aeC;have p3:=h0;have lt0:∀ x∈aeD,x.block<W.heap.size:=by obtain⟨m,hm⟩:=p3;exact DataW.trod_lt m _ _ _ hm
 obtain⟨vS,q9,ra,rfl,w0⟩:=Ya (rG 0 45 v0 rfl rfl) h0;obtain⟨df,Aa,Ab,rfl⟩:=okWide_slice Tryz.underlying22 (rG 1 22 v1 rfl rfl);have k1:=h1;have lt1:∀ x∈K9,x.block<W.heap.size:=by obtain⟨m,hm⟩:=k1;exact DataW.trod_lt m _ _ _ hm
 obtain⟨z1,Dh⟩:∃ zs,pT .u8 W df Aa Ab zs:=by
  obtain⟨fuel,hf⟩:=h1;rcases open_ints Tryz.underlying22 Tryz.underlying5 (by kernel_rfl) hf with ⟨eu,_⟩ | ⟨x,l,c,zs,eu,_,hl,hm,hz,_,kD,sJ⟩
  ·simp[Value.cells]at eu;obtain⟨rfl,rfl,rfl⟩:=eu;exact⟨[],.inl ⟨rfl,rfl,rfl,rfl⟩⟩
  ·simp[Value.cells]at eu;obtain⟨rfl,rfl,rfl⟩:=eu;exact⟨zs,.inr ⟨_,rfl,hl,hm,by simpa using hz,kD,sJ⟩⟩
 obtain⟨dz,rfl,rfl,rfl,w2⟩:=open_int Tryz.underlying3 (rG 2 3 v2 rfl rfl) h2;obtain⟨a3,Ac,Ad,rfl⟩:=okWide_slice Tryz.underlying22 (rG 3 22 v3 rfl rfl);have k3:=h3;have lt3:∀ x∈La,x.block<W.heap.size:=by obtain⟨m,hm⟩:=k3;exact DataW.trod_lt m _ _ _ hm
 obtain⟨z3,w3⟩:∃ zs,pT .u8 W a3 Ac Ad zs:=by
  obtain⟨fuel,hf⟩:=h3;rcases open_ints Tryz.underlying22 Tryz.underlying5 (by kernel_rfl) hf with ⟨eu,_⟩ | ⟨x,l,c,zs,eu,_,hl,hm,hz,_,kD,sJ⟩
  ·simp[Value.cells]at eu;obtain⟨rfl,rfl,rfl⟩:=eu;exact⟨[],.inl ⟨rfl,rfl,rfl,rfl⟩⟩
  ·simp[Value.cells]at eu;obtain⟨rfl,rfl,rfl⟩:=eu;exact⟨zs,.inr ⟨_,rfl,hl,hm,by simpa using hz,kD,sJ⟩⟩
 clear PV PU;refine (aeb vS q9 ra df Aa Ab z1 dz a3 Ac Ad z3 W w0 Dh w2 w3).mono λe W' ⟨he,Dm⟩=>?_;subst he;exact⟨_,rfl,_,_,_,[],_,[],hW',trodAll_mk1 (shut_bool Tryz.underlying4 _),(trodAll_cons_mk (Below.trod laidOut (by kernel_rfl) (m3 (by kernel_rfl)) p3 Dm lt0) (trodAll_cons_mk (Below.trod laidOut (by kernel_rfl) (m3 (by kernel_rfl)) k1 Dm lt1) (trodAll_cons_mk (shut_int Tryz.underlying3 w2) (trodAll_cons_mk (Below.trod laidOut (by kernel_rfl) (m3 (by kernel_rfl)) k3 Dm lt3) trodAll_mk0)))),rfl,Dm.frame _,λh=>by cases h⟩
abbrev C:=Rows.topProgRow
abbrev S:=Rows.topProgSpec
theorem k1:C.wf (OpenSpec.ofChange S)=true:=by kernel_rfl
theorem Ib:(C.inPlace==Tryz.prog.inPlace 10)=true:=by kernel_rfl
theorem Dd:(C.unfollowed==Tryz.prog.unfollowed 10)=true:=by kernel_rfl
theorem Ic:(C.recurses==Tryz.prog.recurses 10)=true:=by kernel_rfl
theorem Ie:(C.named==Tryz.prog.varsNamed 10)=true:=by kernel_rfl
theorem closed:joinedFacts Tryz.prog 10 Tryz.f10 S C=true :=
 aeq k1 PT aev (by kernel_rfl) (by kernel_rfl) (by kernel_rfl) (by kernel_rfl) (by kernel_rfl) (by kernel_rfl) Ib Dd Ic Ie (by kernel_rfl) (by kernel_rfl) (by kernel_rfl) (by kernel_rfl) (by kernel_rfl) (by kernel_rfl) (by kernel_rfl) (by kernel_rfl) (by kernel_rfl)
  (aey C rfl) (by kernel_rfl) aew aex (aez C rfl) (aeA C rfl) (by kernel_rfl) (by kernel_rfl) (by kernel_rfl) (by kernel_rfl)
theorem named:Tryz.prog.funcNamed C.func=some 10:=by kernel_rfl
theorem inst:Tryz.f10.isInstance Tryz.prog C.origin C.targs:=m3 (by kernel_rfl)
theorem wrap:Tryz.f10.isWrapper Tryz.prog C.wrapper C.mainSum:=by
 unfold Func.isWrapper;first | (rw[ak (by decide +kernel)];kernel_rfl) | (rw[ag (by decide +kernel)];exact⟨rfl,rfl⟩)
theorem GH:Rows.topProgRow.holds Tryz.pinned (OpenSpec.ofChange Rows.topProgSpec) :=
 OpenClaim.holds_of_wide 10 Tryz.f10 rfl rfl rfl rfl rfl rfl rfl ⟨rfl,rfl,rfl,rfl,rfl⟩ rfl rfl rfl rfl rfl named Tryz.func10 closed inst wrap
  (λos started H enc _=>lifted os started H enc)
theorem proved:Rows.TopProgSaid:=GH
#print axioms proved
end Go.Proofs.YteoldcfapaiobaaGreat.topProg
