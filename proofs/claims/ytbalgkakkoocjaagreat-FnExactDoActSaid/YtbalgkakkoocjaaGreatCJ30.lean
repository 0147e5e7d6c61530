/- The statement FnExactDoActSaid: for every input that can be read the law FnExactDoAct returns true and leaves its arguments as they were. No further condition. -/
import Derived.Test.YtbalgkakkoocjaaGreatCJ21
import Derived.Test.YtbalgkakkoocjaaGreatRows
import Derived.Test.YtbalgkakkoocjaaGreatCJ3
import Derived.Test.YtbalgkakkoocjaaGreatCJ29
import Derived.OpenShut
set_option linter.unusedVariables false
set_option linter.unusedSimpArgs false
set_option linter.unusedSectionVars false
/- The statement FnExactDoActSaid: for every input that can be read the law FnExactDoAct returns true and leaves its arguments as_ they were. No further condition. -/
namespace Go.Proofs.YtbalgkakkoocjaaGreat
open Go.ChangeShapes Go.WideShapes Go.ChangeAt Go.RowKit Go.Deep
set_option linter.unusedVariables false
namespace fnExactDoAct
theorem own:ownKnob Tryz.prog.godebug=none:=by kernel_rfl
theorem laidOut:laidOutB Tryz.prog=true:=by kernel_rfl
set_option maxRecDepth 100000 in
theorem lifted(os:Os)(started:os.Started)(H:Type)(enc:TypeId×Value→H):
 ReturnsInHanded {} Tryz.checked os 4 .any (Rows.fnExactDoActSpec.pre6 enc Tryz.prog Tryz.f4 Rows.fnExactDoActRow.domain false) (Rows.fnExactDoActSpec.post enc Tryz.prog Tryz.f4 false true false false):=by
 refine returnsInHanded_of_change (C:=Tryz.checked) own started (by kernel_rfl) Tryz.func4
  (ChangeSpec.witness6 (enc:=enc) (C:=Tryz.checked) false ⟨#[],#[.agg #[.slice none 0 0,.slice none 0 0,.int .i64 0,.slice none 0 0,.slice none 0 0,.slice none 0 0,.int .i64 0,.slice none 0 0,.slice none 0 0,.int .i64 0,.slice none 0 0,.slice none 0 0,.slice none 0 0,.slice none 0 0,.slice none 0 0,.slice none 0 0],.agg #[.int .i64 0,.int .i64 0,.int .i64 0,.string ⟨#[]⟩,.string ⟨#[]⟩,.int .i64 0,.slice none 0 0,.int .i64 0,.int .i64 0,.int .i64 0,.int .i64 0,.int .i64 0,.int .i64 0]],[]⟩ 8 (by kernel_rfl) (by kernel_rfl) (by kernel_rfl) (by kernel_rfl)) ?_
 intro W base args ds gs before hval0 hW hcnd _
 have hval:∀(j:Nat) t v,Tryz.f4.params[j]?=some t→args[j]?=some v→Value.okWide Tryz.prog W .any base t v:=hval0
 have hW':=hW
 obtain⟨p,q,hA0,hV,rfl,hfz,hnd⟩:=hW
 have hA:DataW.TrodAll enc Tryz.prog W 0 (fun _=>true) true Tryz.f4.params.toList args.toList ds p:=hA0
 rw[Tryz.params4]at hA hval
 obtain⟨v0,vs0,d0,ds0,p0,q0,hargs,rfl,rfl,h0,r0⟩:=trodAll_cons hA
 obtain⟨v1,vs1,d1,ds1,p1,q1,rfl,rfl,rfl,h1,r1⟩:=trodAll_cons r0
 obtain⟨rfl,rfl,rfl⟩:=trodAll_nil r1
 obtain rfl:args=#[v0,v1]:=by cases args;simp_all
 obtain⟨rfl,rfl⟩:=trodVars_none hV
 have k0:=h0
 have lt0:∀x∈p0,x.block<W.heap.size:=by obtain⟨m,hm⟩:=k0;exact DataW.trod_lt m _ _ _ hm
 obtain⟨cs0,rfl,hsz0⟩:=okWide_struct Tryz.underlying69 (hval 0 69 v0 rfl rfl)
 obtain⟨x0,hx0,ok0⟩:∃a:ZI,Reads W (ZM a) cs0.toList∧okOffice a:=by obtain⟨fuel,hf⟩:=h0;exact dec_Office hf
 have k1:=h1
 have lt1:∀x∈p1,x.block<W.heap.size:=by obtain⟨m,hm⟩:=k1;exact DataW.trod_lt m _ _ _ hm
 obtain⟨cs1,rfl,hsz1⟩:=okWide_struct Tryz.underlying75 (hval 1 75 v1 rfl rfl)
 obtain⟨x1,hx1,ok1⟩:∃a:ZJ,Reads W (ZK a) cs1.toList∧okAct a:=by obtain⟨fuel,hf⟩:=h1;exact dec_Act hf
 clear hA0 hval0
 obtain⟨u0_0,u0_1,u0_3,u0_4,u0_5,u0_7,u0_8,u0_10,u0_11,u0_12,u0_13,u0_14,u0_15,ec0,hR0⟩:=officeR_of hx0
 subst ec0
 obtain⟨u1,ec1,hR1⟩:=actR_of hx1
 subst ec1
 refine(FnExactDoAct_walk x0 x1 ok0 ok1 W hR0 hR1).mono fun e W' ⟨he,bel⟩=>?_
 subst he
 exact⟨_,rfl,_,_,_,[],_,[],hW',trodAll_mk1 (shut_bool Tryz.underlying4 _),(trodAll_cons_mk (Below.trod laidOut (by kernel_rfl) (of_decide_eq_true (by kernel_rfl)) k0 bel lt0) (trodAll_cons_mk (Below.trod laidOut (by kernel_rfl) (of_decide_eq_true (by kernel_rfl)) k1 bel lt1) trodAll_mk0)),rfl,bel.frame _,fun h=>by cases h⟩
theorem over:Rows.fnExactDoActRow.holds Tryz.pinned (OpenSpec.ofChange Rows.fnExactDoActSpec):=
 OpenClaim.holds_of_wide 4 Tryz.f4 rfl rfl rfl rfl rfl rfl rfl ⟨rfl,rfl,rfl,rfl,rfl⟩ rfl rfl rfl rfl rfl (by kernel_rfl) Tryz.func4 joined
  (of_decide_eq_true (by kernel_rfl)) (by unfold Func.isWrapper;first|(rw[if_pos (by decide +kernel)];kernel_rfl) |(rw[if_neg (by decide +kernel)];exact⟨rfl,rfl⟩))
  (fun os started H enc _=>lifted os started H enc)
theorem proved:Rows.FnExactDoActSaid:=over
#print axioms proved
end fnExactDoAct
end Go.Proofs.YtbalgkakkoocjaaGreat
