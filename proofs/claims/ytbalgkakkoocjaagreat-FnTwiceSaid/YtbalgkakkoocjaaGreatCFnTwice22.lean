/- The statement FnTwiceSaid: for every input that can be read the law FnTwice returns true and leaves its arguments as they were. No further condition. -/
import Derived.Test.YtbalgkakkoocjaaGreatRows
import Derived.Test.YtbalgkakkoocjaaGreatCFnTwice4
import Derived.Test.YtbalgkakkoocjaaGreatCFnTwice3
import Derived.Test.YtbalgkakkoocjaaGreatChecked
import Derived.Lib.SmallJoins
import Derived.Test.YtbalgkakkoocjaaGreatCFnTwice20
import Derived.Test.YtbalgkakkoocjaaGreatCFnTwice21
import Derived.OpenShut
set_option linter.unusedVariables false
set_option linter.unusedSimpArgs false
set_option linter.unusedSectionVars false
/- The statement FnTwiceSaid: for every input that can be read the law FnTwice returns true and leaves its arguments as_ they were. No further condition. -/
namespace Go.Proofs.YtbalgkakkoocjaaGreat
open Go.ChangeShapes Go.WideShapes Go.ChangeAt Go.RowKit Go.Deep
set_option linter.unusedVariables false
namespace fnTwice
theorem own:ownKnob Tryz.prog.godebug=none:=by kernel_rfl
theorem laidOut:laidOutB Tryz.prog=true:=by kernel_rfl
set_option maxRecDepth 100000 in
theorem lifted(os:Os)(started:os.Started)(H:Type)(enc:TypeId×Value→H):
 ReturnsInHanded {} Tryz.checked os 3 .any (Rows.fnTwiceSpec.pre6 enc Tryz.prog Tryz.f3 Rows.fnTwiceRow.domain false) (Rows.fnTwiceSpec.post enc Tryz.prog Tryz.f3 false true false false):=by
 refine returnsInHanded_of_change (C:=Tryz.checked) own started (by kernel_rfl) Tryz.func3
  (ChangeSpec.witness6 (enc:=enc) (C:=Tryz.checked) false ⟨#[],#[.slice none 0 0],[]⟩ 8 (by kernel_rfl) (by kernel_rfl) (by kernel_rfl) (by kernel_rfl)) ?_
 intro W base args ds gs before hval0 hW hcnd _
 have hval:∀(j:Nat) t v,Tryz.f3.params[j]?=some t→args[j]?=some v→Value.okWide Tryz.prog W .any base t v:=hval0
 have hW':=hW
 obtain⟨p,q,hA0,hV,rfl,hfz,hnd⟩:=hW
 have hA:DataW.TrodAll enc Tryz.prog W 0 (fun _=>true) true Tryz.f3.params.toList args.toList ds p:=hA0
 rw[Tryz.params3]at hA hval
 obtain⟨v0,vs0,d0,ds0,p0,q0,hargs,rfl,rfl,h0,r0⟩:=trodAll_cons hA
 obtain⟨rfl,rfl,rfl⟩:=trodAll_nil r0
 obtain rfl:args=#[v0]:=by cases args;simp_all
 obtain⟨rfl,rfl⟩:=trodVars_none hV
 have k0:=h0
 have lt0:∀x∈p0,x.block<W.heap.size:=by obtain⟨m,hm⟩:=k0;exact DataW.trod_lt m _ _ _ hm
 obtain⟨A0,n0,c0,rfl⟩:=okWide_slice Tryz.underlying22 (hval 0 22 v0 rfl rfl)
 obtain⟨x0,hx0,ok0⟩:∃a:List YB8,Reads W [.sl (a.map cB8)] [.slice A0 n0 c0]∧(a.length≤maxLen∧∀y∈a,0≤y.v∧y.v≤255):=by obtain⟨fuel,hf⟩:=h0;exact decP_slice Tryz.underlying22 (by rw[cells_b8];decide) decP_b8 hf
 clear hA0 hval0
 refine(CallOk.run (ok_laws_FnTwice x0 (twice x0 ok0.2)) tab0 rfl (vs:=#[.slice A0 n0 c0]) (w:=W) (fun i p hp=>?_)).mono fun e W' ⟨he,bel⟩=>?_
 ·match i,hp with
  |0,hp=>obtain rfl:=Option.some.inj hp;exact⟨_,rfl,reads_rep1 hx0⟩
  |n+1,hp=>simp at hp
 subst he
 exact⟨_,rfl,_,_,_,[],_,[],hW',trodAll_mk1 (shut_bool Tryz.underlying4 _),(trodAll_cons_mk (Below.trod laidOut (by kernel_rfl) (of_decide_eq_true (by kernel_rfl)) k0 bel lt0) trodAll_mk0),rfl,bel.frame _,fun h=>by cases h⟩
theorem over:Rows.fnTwiceRow.holds Tryz.pinned (OpenSpec.ofChange Rows.fnTwiceSpec):=
 OpenClaim.holds_of_wide 3 Tryz.f3 rfl rfl rfl rfl rfl rfl rfl ⟨rfl,rfl,rfl,rfl,rfl⟩ rfl rfl rfl rfl rfl (by kernel_rfl) Tryz.func3 joined
  (of_decide_eq_true (by kernel_rfl)) (by unfold Func.isWrapper;first|(rw[if_pos (by decide +kernel)];kernel_rfl) |(rw[if_neg (by decide +kernel)];exact⟨rfl,rfl⟩))
  (fun os started H enc _=>lifted os started H enc)
theorem proved:Rows.FnTwiceSaid:=over
#print axioms proved
end fnTwice
end Go.Proofs.YtbalgkakkoocjaaGreat
