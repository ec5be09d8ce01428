/- 'TopGrows' of every input returns true, and nothing that was there is changed. -/
import Derived.Test.YteoldcfapaiobaaGreatI17RefV
import Derived.WalkKit
import Derived.ProofKit
import Derived.OpenShut
import Derived.ChangeOld
import Derived.Below
namespace Go.Proofs.YteoldcfapaiobaaGreat.topGrows
open Go.ChangeShapes Go.WideShapes Go.ChangeAt Go.RowKit
open Go.ChangeMaps (open_string shut_string)
set_option linter.unusedVariables false
set_option linter.unusedSimpArgs false
theorem own:ownKnob Tryz.prog.godebug=none:=by kernel_rfl
theorem laidOut:laidOutB Tryz.prog=true:=Q8
set_option maxRecDepth 100000 in
theorem lifted (os:Os)(started:os.Started)(H:Type)(enc:TypeId×Value→H) :
   ReturnsInHanded {} Tryz.checked os 4 .any (Rows.topGrowsSpec.pre6 enc Tryz.prog Tryz.f4 Rows.topGrowsRow.domain false) (Rows.topGrowsSpec.post enc Tryz.prog Tryz.f4 false true false false):=by
 refine returnsInHanded_of_change (C:=Tryz.checked) own started (by kernel_rfl) Tryz.func4
  (ChangeSpec.witness6 (enc:=enc) (C:=Tryz.checked) false ⟨#[],#[.int .i64 0,.int .i64 0,.slice none 0 0,.int .i64 0,.int .i64 0,.bool false],[]⟩ 8 (by kernel_rfl) (by kernel_rfl) (by kernel_rfl) (by kernel_rfl)) ?_
 intro W base args afk gs before Q9 sZ ahf _;have pX:∀ (j:Nat) t v,Tryz.f4.params[j]?=some t→args[j]?=some v→Value.okWide Tryz.prog W .any base t v:=Q9;have hW':=sZ;obtain⟨p,q,Ra,jR,rfl,hfz,FJ⟩:=sZ;have hA:DataW.TrodAll enc Tryz.prog W 0 (λ_=>true) true Tryz.f4.params.toList args.toList afk p:=Ra;rw[Tryz.params4]at hA pX;obtain⟨v0,vs0,d0,ds0,ahg,tE,ahh,rfl,rfl,h0,CW⟩:=trodAll_cons hA;obtain⟨v1,vs1,d1,ds1,ZK,q1,rfl,rfl,rfl,h1,r1⟩:=trodAll_cons CW;obtain⟨v2,vs2,d2,ds2,p2,q2,rfl,rfl,rfl,h2,r2⟩:=trodAll_cons r1;obtain⟨v3,vs3,d3,ds3,ZL,Ck,rfl,rfl,rfl,h3,r3⟩:=trodAll_cons r2;obtain⟨v4,vs4,d4,ds4,ZM,Cl,rfl,rfl,rfl,h4,Ge⟩:=trodAll_cons r3;obtain⟨v5,vs5,d5,ds5,ZN,GJ,rfl,rfl,rfl,h5,MH⟩:=trodAll_cons Ge;obtain⟨rfl,rfl,rfl⟩:=trodAll_nil MH;obtain rfl:args=#[v0,v1,v2,v3,v4,v5]:=by cases args;simp_all
 obtain⟨rfl,rfl⟩:=trodVars_none jR;obtain⟨a0,rfl,rfl,rfl,w0⟩:=open_int fk (pX 0 3 v0 rfl rfl) h0;obtain⟨cV,rfl,rfl,rfl,Jx⟩:=open_int fk (pX 1 3 v1 rfl rfl) h1;obtain⟨cc,nm,oD,rfl⟩:=okWide_slice lR (pX 2 53 v2 rfl rfl);have k2:=h2;have lt2:∀ x∈p2,x.block<W.heap.size:=by obtain⟨m,hm⟩:=k2;exact DataW.trod_lt m _ _ _ hm
 obtain⟨z2,w2⟩:∃ zs,tY .i64 W cc nm oD zs:=by
  obtain⟨fuel,hf⟩:=h2;rcases open_ints lR fk (by kernel_rfl) hf with ⟨iu,_⟩ | ⟨x,l,c,zs,iu,_,hl,hm,hz,_,lS,wA⟩
  ·simp[Value.cells]at iu;obtain⟨rfl,rfl,rfl⟩:=iu;exact⟨[],.inl ⟨rfl,rfl,rfl,rfl⟩⟩
  ·simp[Value.cells]at iu;obtain⟨rfl,rfl,rfl⟩:=iu;exact⟨zs,.inr ⟨_,rfl,hl,hm,by simpa using hz,lS,wA⟩⟩
 obtain⟨a3,rfl,rfl,rfl,w3⟩:=open_int fk (pX 3 3 v3 rfl rfl) h3;obtain⟨a4,rfl,rfl,rfl,Jy⟩:=open_int fk (pX 4 3 v4 rfl rfl) h4;obtain⟨a5,rfl,rfl,rfl⟩:=open_bool wU (pX 5 4 v5 rfl rfl) h5;clear Ra Q9;refine (ae5 a0 cV cc nm oD z2 a3 a4 a5 W w0 Jx w2 w3 Jy).mono λe W' ⟨he,Rb⟩=>?_;subst he;exact⟨_,rfl,_,_,_,[],_,[],hW',trodAll_mk1 (shut_bool wU _),(trodAll_cons_mk (shut_int fk w0) (trodAll_cons_mk (shut_int fk Jx) (trodAll_cons_mk (Below.trod laidOut (by kernel_rfl) (pN (by kernel_rfl)) k2 Rb lt2) (trodAll_cons_mk (shut_int fk w3) (trodAll_cons_mk (shut_int fk Jy) (trodAll_cons_mk (shut_bool wU _) trodAll_mk0)))))),rfl,Rb.frame _,λh=>by cases h⟩
abbrev C:=Rows.topGrowsRow
abbrev S:=Rows.topGrowsSpec
theorem k1:C.wf (OpenSpec.ofChange S)=true:=by kernel_rfl
theorem JA:(C.inPlace==Tryz.prog.inPlace 4)=true:=by kernel_rfl
theorem D2:(C.unfollowed==Tryz.prog.unfollowed 4)=true:=by kernel_rfl
theorem JB:(C.recurses==Tryz.prog.recurses 4)=true:=by kernel_rfl
theorem JC:(C.named==Tryz.prog.varsNamed 4)=true:=by kernel_rfl
theorem closed:joinedFacts Tryz.prog 4 Tryz.f4 S C=true :=
 ae9 k1 Q8 afe (by kernel_rfl) (by kernel_rfl) (by kernel_rfl) (by kernel_rfl) (by kernel_rfl) (by kernel_rfl) JA D2 JB JC (by kernel_rfl) (by kernel_rfl) (by kernel_rfl) (by kernel_rfl) (by kernel_rfl) (by kernel_rfl) (by kernel_rfl) (by kernel_rfl) (by kernel_rfl)
  (afh C rfl) (by kernel_rfl) aff afg (afi C rfl) (afj C rfl) (by kernel_rfl) (by kernel_rfl) (by kernel_rfl) (by kernel_rfl)
theorem named:Tryz.prog.funcNamed C.func=some 4:=by kernel_rfl
theorem inst:Tryz.f4.isInstance Tryz.prog C.origin C.targs:=pN (by kernel_rfl)
theorem wrap:Tryz.f4.isWrapper Tryz.prog C.wrapper C.mainSum:=by
 unfold Func.isWrapper;first | (rw[aj (by decide +kernel)];kernel_rfl) | (rw[ag (by decide +kernel)];exact⟨rfl,rfl⟩)
theorem HT:Rows.topGrowsRow.holds Tryz.pinned (OpenSpec.ofChange Rows.topGrowsSpec) :=
 OpenClaim.holds_of_wide 4 Tryz.f4 rfl rfl rfl rfl rfl rfl rfl ⟨rfl,rfl,rfl,rfl,rfl⟩ rfl rfl rfl rfl rfl named Tryz.func4 closed inst wrap
  (λos started H enc _=>lifted os started H enc)
theorem proved:Rows.TopGrowsSaid:=HT
#print axioms proved
end Go.Proofs.YteoldcfapaiobaaGreat.topGrows
