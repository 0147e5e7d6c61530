/- The statement FnExactStatementCardSaid: for every input that can be read the law FnExactStatement returns true and leaves its arguments as they were. No further condition. -/
import Derived.Test.YtgdcengoopjplaaDoorRows
import Derived.Test.YtgdcengoopjplaaDoorTie
import Derived.Test.YtgdcengoopjplaaDoorCards
import Derived.Test.YtgdcengoopjplaaDoorCStatement3
import Derived.Test.YtgdcengoopjplaaDoorCStatement6
import Derived.OpenShut
import Derived.LaidMore
import Derived.Stop.Joined
import Derived.Stop.LaidErr
import Derived.SevenTiedAt
/- The statement FnExactStatementCardSaid: for every input that can be read the law FnExactStatement returns true and leaves its arguments as_ they were. No further condition. -/
namespace Go.Proofs.YtgdcengoopjplaaDoor
open Go.ChangeShapes Go.WideShapes Go.ChangeAt Go.RowKit Go.Deep
set_option linter.unusedVariables false
namespace fnExactStatement
theorem own : ownKnob Tryd.prog.godebug = none := by kernel_rfl
theorem laidOut : laidOutB Tryd.prog = true := by kernel_rfl
theorem gTab : Tryd.prog.globalNamed "internal/strconv.uint64pow10" = some 0 := by kernel_rfl
theorem tTab : (Tryd.prog.globals[0]?).map (·.type) = some 120 := by kernel_rfl
theorem uTab : Tryd.prog.underlying 120 = some (.array 20 88) := by kernel_rfl
theorem uEl : Tryd.prog.underlying 88 = some (.int .u64) := by kernel_rfl
theorem cEl : Tryd.prog.cellsOf 88 = 1 := by kernel_rfl
theorem cTab : Tryd.prog.cellsOf 120 = 20 := by kernel_rfl
abbrev laid3 : List (String × DataW Unit) := Rows.fnExactStatementRow.laid
theorem tab_of {W : World} (h : laidMetH Tryd.prog laid3 W) : Tab W (own0 fun _ => none) := by
  rw [MakeChecks.laidMetH_plain _ _ _ (by kernel_rfl)] at h
  have h2 := laidMet.tail (laidMet.tail h)
  have hT : TabF W := Lib.tabIs_of_head (zs := Lib.pow10Tab) gTab tTab uTab uEl cEl cTab h2
  have hlt : 0 < W.heap.size := by
    rcases Nat.lt_or_ge 0 W.heap.size with h0 | h0
    · exact h0
    · exfalso
      unfold TabF Lib.TabIs World.var? at hT
      rw [gTab] at hT
      simp only [Option.bind_some] at hT
      rw [Array.getElem?_eq_none (by omega)] at hT
      cases hT
  refine ⟨fun b => b = 0, ?_, ?_⟩
  · rintro b rfl
    refine ⟨hlt, ?_⟩
    rintro ⟨l, B, h, _⟩
    cases h
  · intro w' hw
    have e := hw 0 rfl
    unfold TabF Lib.TabIs World.var? at hT ⊢
    rw [gTab] at hT ⊢
    simp only [Option.bind_some] at hT ⊢
    rw [e]
    exact hT
theorem door_met (os : Os) (args : Array Value) : laidMetH Tryd.prog laid3 ((World.doorLaid Tryd.prog 400 os).forCall (fun _ _ => 0) ⟨#[], args, []⟩).memory :=
  laidMetH_of_parts3 (fuel := 8) (laidMet_of_run' 8 (by kernel_rfl) (by kernel_rfl)) (by kernel_rfl) (by kernel_rfl)
set_option maxRecDepth 100000 in
theorem lifted (os : Os) (started : os.Started) (H : Type) (enc : TypeId × Value → H) :
    ReturnsInHanded {} Tryd.checked os 3 .any (fun w args => (Rows.fnExactStatementSpec.pre enc Tryd.prog Tryd.f3 [] false w args ∧ laidMetH Tryd.prog laid3 w) ∧ sizedMet enc Tryd.prog Tryd.f3 (OpenSpec.ofChange Rows.fnExactStatementSpec) false w args) (Rows.fnExactStatementSpec.post enc Tryd.prog Tryd.f3 false true false false) := by
  refine returnsInHanded_of_change_and (C := Tryd.checked) (X := fun w _ => laidMetH Tryd.prog laid3 w) (fun _ _ _ hh h => h.of_heap hh) own started (by kernel_rfl) Tryd.func3
    (ChangeSpec.witness_shaped (enc := enc) (C := Tryd.checked) (os := os) (X := fun w _ => laidMetH Tryd.prog laid3 w) false (World.doorLaid Tryd.prog 400 os) #[.slice none 0 0, .int .i64 0] 8 rfl (World.shaped_of_RefB (by kernel_rfl) (by kernel_rfl)) (by kernel_rfl) (by kernel_rfl) (by kernel_rfl) (door_met os _)) ?_
  intro W base args ds gs before hval0 hW _ _ hL _
  have hval : ∀ (j : Nat) t v, Tryd.f3.params[j]? = some t → args[j]? = some v → Value.okWide Tryd.prog W .any base t v := hval0
  have hW' := hW
  obtain ⟨p, q, hA0, hV, rfl, hfz, hnd⟩ := hW
  have hA : DataW.TrodAll enc Tryd.prog W 0 (fun _ => true) true Tryd.f3.params.toList args.toList ds p := hA0
  rw [Tryd.params3] at hA hval
  obtain ⟨v0, vs0, d0, ds0, p0, q0, hargs, rfl, rfl, h0, r0⟩ := trodAll_cons hA
  obtain ⟨v1, vs1, d1, ds1, p1, q1, rfl, rfl, rfl, h1, r1⟩ := trodAll_cons r0
  obtain ⟨rfl, rfl, rfl⟩ := trodAll_nil r1
  obtain rfl : args = #[v0, v1] := by cases args; simp_all
  obtain ⟨rfl, rfl⟩ := trodVars_none hV
  have k0 := h0
  have lt0 : ∀ x ∈ p0, x.block < W.heap.size := by obtain ⟨m, hm⟩ := k0; exact DataW.trod_lt m _ _ _ hm
  obtain ⟨A0, n0, c0, rfl⟩ := okWide_slice Tryd.underlying22 (hval 0 22 v0 rfl rfl)
  obtain ⟨x0, hx0, ok0⟩ : ∃ a : List YLine, Reads W [.sl (a.map cLine)] [.slice A0 n0 c0] ∧ okS okLine a := by obtain ⟨fuel, hf⟩ := h0; exact dec_LineS hf
  obtain ⟨a1, rfl, rfl, rfl, w1⟩ := open_int Tryd.underlying3 (hval 1 3 v1 rfl rfl) h1
  clear hA0 hval0
  refine (CallOk.run (lawFnExactStatement x0 a1 ok0) (tab_of hL) rfl (vs := #[.slice A0 n0 c0, .int .i64 a1]) (w := W) (fun i p hp => ?_)).mono fun e W' ⟨he, bel⟩ => ?_
  · match i, hp with
    | 0, hp => obtain rfl := Option.some.inj hp; exact ⟨_, rfl, reads_rep1 hx0⟩
    | 1, hp => obtain rfl := Option.some.inj hp; exact ⟨_, rfl, .c (.v _ rfl)⟩
    | n + 2, hp => simp at hp
  subst he
  exact ⟨_, rfl, _, _, _, [], _, [], hW', trodAll_mk1 (shut_bool Tryd.underlying4 _), (trodAll_cons_mk (Below.trod laidOut (by kernel_rfl) (of_decide_eq_true (by kernel_rfl)) k0 bel lt0) (trodAll_cons_mk (shut_int Tryd.underlying3 w1) trodAll_mk0)), rfl, bel.frame _, fun h => by cases h⟩
theorem over : Rows.FnExactStatementSaid :=
  OpenClaim.holds_of_wide 3 Tryd.f3 rfl rfl rfl rfl rfl rfl rfl ⟨rfl, rfl, rfl, rfl, rfl⟩ rfl rfl rfl rfl rfl (by kernel_rfl) Tryd.func3 (by kernel_rfl)
    (of_decide_eq_true (by kernel_rfl)) (by unfold Func.isWrapper; first | (rw [if_pos (by decide +kernel)]; kernel_rfl) | (rw [if_neg (by decide +kernel)]; exact ⟨rfl, rfl⟩))
    (fun os started H enc _ => lifted os started H enc)
theorem proved : Rows.FnExactStatementCardSaid :=
  Claim7.holds_tied_plain_at .later [] [.data, .data, .data] true Rows.fnExactStatementCard.stood.harness false
    over (fun _ h => by cases h) (by kernel_rfl) (fun _ h => by cases h) fnExactStatement_row_tie rfl ⟨rfl, rfl⟩ (by kernel_rfl) rfl
    (fun f fn hf hfn => by
      obtain rfl : f = 3 := Option.some.inj ((show Tryd.prog.funcNamed "loop.example/g03014/laws.FnExactStatement" = some 3 by kernel_rfl).symm.trans hf) |>.symm
      obtain rfl : fn = Tryd.f3 := (Option.some.inj (Tryd.func3.symm.trans hfn)).symm
      exact ⟨by kernel_rfl, fun j t ht => by
        rw [Tryd.params3] at ht
        have hm : t ∈ [22, 3] := by simpa using Array.mem_of_getElem? ht
        have hall : ([22, 3].all fun u => !Tryd.prog.wantsStandIn u) = true := by kernel_rfl
        exact (show Tryd.prog.wantsStandIn t = false by simpa using List.all_eq_true.1 hall t hm)⟩)
    (by kernel_rfl)
#print axioms proved
end fnExactStatement
end Go.Proofs.YtgdcengoopjplaaDoor
