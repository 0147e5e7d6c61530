/- The statement FnExactNewOfficeSaid: for every input that can be read the law FnExactNewOffice returns true and leaves its arguments as they were. No further condition. -/
import Derived.Test.YtkcnllbmpbhndaaGreatRows
import Derived.Test.YtkcnllbmpbhndaaGreatCNewOffice3
import Derived.Test.YtkcnllbmpbhndaaGreatCNewOffice10
import Derived.OpenShut
/- The statement FnExactNewOfficeSaid: for every input that can be read the law FnExactNewOffice returns true and leaves its arguments as_ they were. No further condition. -/
namespace Go.Proofs.YtkcnllbmpbhndaaGreat
open Go.ChangeShapes Go.WideShapes Go.ChangeAt Go.RowKit Go.Deep
set_option linter.unusedVariables false
namespace fnExactNewOffice
theorem own:ownKnob Tryz.prog.godebug=none:=by kernel_rfl
theorem laidOut:laidOutB Tryz.prog=true:=by kernel_rfl
set_option maxRecDepth 100000 in
theorem lifted (os:Os) (started:os.Started) (H:Type) (enc:TypeId × Value→H):
 ReturnsInHanded {} Tryz.checked os 3 .any (Rows.fnExactNewOfficeSpec.pre6 enc Tryz.prog Tryz.f3 Rows.fnExactNewOfficeRow.domain false) (Rows.fnExactNewOfficeSpec.post enc Tryz.prog Tryz.f3 false true false false):=by
 refine returnsInHanded_of_change (C:=Tryz.checked) own started (by kernel_rfl) Tryz.func3
  (ChangeSpec.witness6 (enc:=enc) (C:=Tryz.checked) false ⟨#[],#[.agg #[.slice none 0 0,.slice none 0 0,.int .i64 0],.slice none 0 0,.slice none 0 0,.slice none 0 0,.slice none 0 0],[]⟩ 8 (by kernel_rfl) (by kernel_rfl) (by kernel_rfl) (by kernel_rfl)) ?_
 intro W base args ds gs before hval0 hW hcnd _
 have hval:∀ (j:Nat) t v,Tryz.f3.params[j]?=some t→args[j]?=some v→Value.okWide Tryz.prog W .any base t v:=hval0
 have hW':=hW
 obtain ⟨p,q,hA0,hV,rfl,hfz,hnd⟩:=hW
 have hA:DataW.TrodAll enc Tryz.prog W 0 (fun _=>true) true Tryz.f3.params.toList args.toList ds p:=hA0
 rw [Tryz.params3] at hA hval
 obtain ⟨v0,vs0,d0,ds0,p0,q0,hargs,rfl,rfl,h0,r0⟩:=trodAll_cons hA
 obtain ⟨v1,vs1,d1,ds1,p1,q1,rfl,rfl,rfl,h1,r1⟩:=trodAll_cons r0
 obtain ⟨v2,vs2,d2,ds2,p2,q2,rfl,rfl,rfl,h2,r2⟩:=trodAll_cons r1
 obtain ⟨v3,vs3,d3,ds3,p3,q3,rfl,rfl,rfl,h3,r3⟩:=trodAll_cons r2
 obtain ⟨v4,vs4,d4,ds4,p4,q4,rfl,rfl,rfl,h4,r4⟩:=trodAll_cons r3
 obtain ⟨rfl,rfl,rfl⟩:=trodAll_nil r4
 obtain rfl:args=#[v0,v1,v2,v3,v4]:=by cases args; simp_all
 obtain ⟨rfl,rfl⟩:=trodVars_none hV
 have k0:=h0
 have lt0:∀ x∈p0,x.block<W.heap.size:=by obtain ⟨m,hm⟩:=k0; exact DataW.trod_lt m _ _ _ hm
 obtain ⟨cs0,rfl,hsz0⟩:=okWide_struct Tryz.underlying25 (hval 0 25 v0 rfl rfl)
 obtain ⟨x0,hx0,ok0⟩:∃ a:YNetwork,Reads W (cNetwork a) cs0.toList∧okNetwork a:=by obtain ⟨fuel,hf⟩:=h0; exact dec_Network hf
 have k1:=h1
 have lt1:∀ x∈p1,x.block<W.heap.size:=by obtain ⟨m,hm⟩:=k1; exact DataW.trod_lt m _ _ _ hm
 obtain ⟨A1,n1,c1,rfl⟩:=okWide_slice Tryz.underlying23 (hval 1 23 v1 rfl rfl)
 obtain ⟨x1,hx1,ok1⟩:∃ a:List Int,Reads W [.sl (a.map cInt)] [.slice A1 n1 c1]∧okS okInt a:=by obtain ⟨fuel,hf⟩:=h1; exact decP_slice Tryz.underlying23 (by decide +kernel) dec_Int hf
 have k2:=h2
 have lt2:∀ x∈p2,x.block<W.heap.size:=by obtain ⟨m,hm⟩:=k2; exact DataW.trod_lt m _ _ _ hm
 obtain ⟨A2,n2,c2,rfl⟩:=okWide_slice Tryz.underlying26 (hval 2 26 v2 rfl rfl)
 obtain ⟨x2,hx2,ok2⟩:∃ a:List YZone,Reads W [.sl (a.map cZone)] [.slice A2 n2 c2]∧okS okZone a:=by obtain ⟨fuel,hf⟩:=h2; exact decP_slice Tryz.underlying26 (by decide +kernel) dec_Zone hf
 have k3:=h3
 have lt3:∀ x∈p3,x.block<W.heap.size:=by obtain ⟨m,hm⟩:=k3; exact DataW.trod_lt m _ _ _ hm
 obtain ⟨A3,n3,c3,rfl⟩:=okWide_slice Tryz.underlying27 (hval 3 27 v3 rfl rfl)
 obtain ⟨x3,hx3,ok3⟩:∃ a:List YRate,Reads W [.sl (a.map cRate)] [.slice A3 n3 c3]∧okS okRate a:=by obtain ⟨fuel,hf⟩:=h3; exact decP_slice Tryz.underlying27 (by decide +kernel) dec_Rate hf
 have k4:=h4
 have lt4:∀ x∈p4,x.block<W.heap.size:=by obtain ⟨m,hm⟩:=k4; exact DataW.trod_lt m _ _ _ hm
 obtain ⟨A4,n4,c4,rfl⟩:=okWide_slice Tryz.underlying23 (hval 4 23 v4 rfl rfl)
 obtain ⟨x4,hx4,ok4⟩:∃ a:List Int,Reads W [.sl (a.map cInt)] [.slice A4 n4 c4]∧okS okInt a:=by obtain ⟨fuel,hf⟩:=h4; exact decP_slice Tryz.underlying23 (by decide +kernel) dec_Int hf
 clear hA0 hval0
 refine (CallOk.run (lawFnExactNewOffice x0 x1 x2 x3 x4 ok0 ok1 ok2 ok3 ok4) tab0 rfl (vs:=#[.agg cs0,.slice A1 n1 c1,.slice A2 n2 c2,.slice A3 n3 c3,.slice A4 n4 c4]) (w:=W) (fun i p hp=>?_)).mono fun e W' ⟨he,bel⟩=>?_
 ·match i,hp with
  | 0,hp=>obtain rfl:=Option.some.inj hp; exact ⟨_,rfl,reads_rep hx0⟩
  | 1,hp=>obtain rfl:=Option.some.inj hp; exact ⟨_,rfl,reads_rep1 hx1⟩
  | 2,hp=>obtain rfl:=Option.some.inj hp; exact ⟨_,rfl,reads_rep1 hx2⟩
  | 3,hp=>obtain rfl:=Option.some.inj hp; exact ⟨_,rfl,reads_rep1 hx3⟩
  | 4,hp=>obtain rfl:=Option.some.inj hp; exact ⟨_,rfl,reads_rep1 hx4⟩
  | n+5,hp=>simp at hp
 subst he
 exact ⟨_,rfl,_,_,_,[],_,[],hW',trodAll_mk1 (shut_bool Tryz.underlying4 _),(trodAll_cons_mk (Below.trod laidOut (by kernel_rfl) (of_decide_eq_true (by kernel_rfl)) k0 bel lt0) (trodAll_cons_mk (Below.trod laidOut (by kernel_rfl) (of_decide_eq_true (by kernel_rfl)) k1 bel lt1) (trodAll_cons_mk (Below.trod laidOut (by kernel_rfl) (of_decide_eq_true (by kernel_rfl)) k2 bel lt2) (trodAll_cons_mk (Below.trod laidOut (by kernel_rfl) (of_decide_eq_true (by kernel_rfl)) k3 bel lt3) (trodAll_cons_mk (Below.trod laidOut (by kernel_rfl) (of_decide_eq_true (by kernel_rfl)) k4 bel lt4) trodAll_mk0))))),rfl,bel.frame _,fun h=>by cases h⟩
theorem over:Rows.fnExactNewOfficeRow.holds Tryz.pinned (OpenSpec.ofChange Rows.fnExactNewOfficeSpec):=
 OpenClaim.holds_of_wide 3 Tryz.f3 rfl rfl rfl rfl rfl rfl rfl ⟨rfl,rfl,rfl,rfl,rfl⟩ rfl rfl rfl rfl rfl (by kernel_rfl) Tryz.func3 (by kernel_rfl)
  (of_decide_eq_true (by kernel_rfl)) (by unfold Func.isWrapper; first | (rw [if_pos (by decide +kernel)]; kernel_rfl) | (rw [if_neg (by decide +kernel)]; exact ⟨rfl,rfl⟩))
  (fun os started H enc _=>lifted os started H enc)
theorem proved:Rows.FnExactNewOfficeSaid:=over
#print axioms proved
end fnExactNewOffice
end Go.Proofs.YtkcnllbmpbhndaaGreat
