/- A part of the proof of the statement in the last file of this claim: texts on the language of the program and on its functions. No condition. -/
import Derived.Test.YtooikkfldddjfaaGreatCNewWorld2
import Derived.Test.YtooikkfldddjfaaGreatCNewWorld1
import Derived.Laws.AppendOwnNone
import Derived.Maps.OwnSet
import Derived.StringKeys
import Derived.Deep.AppendLies
import Derived.Shelf.Small.Bits
import Derived.Shelf.Strconv.Itoa0
import Derived.Shelf.Sort.Plain
import Derived.Shelf.Slices.In.SortNone
import Derived.Shelf.Slices.In.SortNone2
import Derived.Test.YtooikkfldddjfaaGreatProg
import Derived.Sort.OwnSorted
import Derived.Sort.Walk0
/- The mirror of impl.runs, and that the code does just that (printed by a program of my own). -/
namespace Go.Proofs.YtooikkfldddjfaaGreat
set_option maxRecDepth 10000
open Go.RowKit
set_option linter.unusedVariables false
set_option maxHeartbeats 16000000
def m_impl_runs_b0 (n : YNetwork) (day : Int) (s0 : Int) : Option (Int ⊕ (Unit ⊕ Bool)) :=
 cond (decide (s0 < (n.off.length : Int)))
 ((getI n.off s0).bind fun y3 =>
 cond (decide (y3 = day))
 (some (.inr (.inr false)))
 (some (.inl (w64 (s0 + 1)))))
 (some (.inr (.inl ())))
instance (n : YNetwork) (day : Int) : LoopE (m_impl_runs_b0 n day) := ⟨fun s0 => [.un, .un, vi day, .un, .un, .un, .un, .un, .un, .un, .un, .un, .un, .un, .un, .un, .un, .un, .un, .un, .un, .un, .un, .un, .un, .un, .un, .un, .un, .un, .un, .un, .un, .un, .un, .un, .un, .sl (n.off.map cInt), vi (n.off.length : Int), vi s0, .un, .un, .un, .un, .un, .un, .un], fun s0 => []⟩
def m_impl_runs (n : YNetwork) (leg : Int) (day : Int) : Option Bool :=
 cond (decide (leg < 0))
 (some false)
 (cond (decide ((n.legs.length : Int) ≤ leg))
 (some false)
 ((m_impl_within day 0 60).bind fun y1 =>
 cond (!y1)
 (some false)
 ((getI n.legs leg).bind fun y2 =>
 (chk (decide (0 ≤ (Int.tmod day 7)))).bind fun _ =>
 cond (decide ((IntKind.i64.wrap (BitVec.ofInt IntKind.i64.bits (Int.fdiv y2.days (2 ^ (min (Int.toNat (Int.tmod day 7)) IntKind.i64.bits))) &&& BitVec.ofInt IntKind.i64.bits 1).toNat) = 0))
 (some false)
 ((iterF (m_impl_runs_b0 n day) NN 0).bind (selim (fun o0 =>
 some true) (fun r => some r))))))
theorem ok_impl_runs (n : YNetwork) (leg : Int) (day : Int) {r : Bool} (H : m_impl_runs n leg day = some r) : CallM Tryz.prog 130 [.ag (cNetwork n), vi leg, vi day] [] (vb r) [] := by
  replace H := H0 H
  unfold m_impl_runs at H
  refine callM_of Tryz.func130 rfl Tryz.ntmps130 Tryz.results130 fun Q hQ hQn => ?_
  exact wk
instance (n : YNetwork) (leg : Int) (day : Int) : CT Tryz.prog (m_impl_runs n leg day) := ⟨130, [.ag (cNetwork n), vi leg, vi day], [], fun r => vb r, fun r => [], ok_impl_runs n leg day⟩
end Go.Proofs.YtooikkfldddjfaaGreat

/- The mirror of impl.RunsOn, and that the code does just that (printed by a program of my own). -/
namespace Go.Proofs.YtooikkfldddjfaaGreat
set_option maxRecDepth 10000
open Go.RowKit
set_option linter.unusedVariables false
set_option maxHeartbeats 16000000
def m_impl_RunsOn (n : YNetwork) (leg : Int) (day : Int) : Option Bool :=
 (m_impl_IsNetwork n).bind fun y1 =>
 cond y1
 ((m_impl_runs n leg day).bind fun y2 =>
 some y2)
 (some false)
theorem ok_impl_RunsOn (n : YNetwork) (leg : Int) (day : Int) {r : Bool} (H : m_impl_RunsOn n leg day = some r) : CallM Tryz.prog 104 [.ag (cNetwork n), vi leg, vi day] [] (vb r) [] := by
  replace H := H0 H
  unfold m_impl_RunsOn at H
  refine callM_of Tryz.func104 rfl Tryz.ntmps104 Tryz.results104 fun Q hQ hQn => ?_
  exact wk
instance (n : YNetwork) (leg : Int) (day : Int) : CT Tryz.prog (m_impl_RunsOn n leg day) := ⟨104, [.ag (cNetwork n), vi leg, vi day], [], fun r => vb r, fun r => [], ok_impl_RunsOn n leg day⟩
end Go.Proofs.YtooikkfldddjfaaGreat

/- The mirror of impl.IsTrip, and that the code does just that (printed by a program of my own). -/
namespace Go.Proofs.YtooikkfldddjfaaGreat
set_option maxRecDepth 10000
open Go.RowKit
set_option linter.unusedVariables false
set_option maxHeartbeats 16000000
def m_impl_IsTrip (n : YNetwork) (t : YTrip) : Option Bool :=
 (m_impl_RunsOn n t.leg t.day).bind fun y1 =>
 some y1
theorem ok_impl_IsTrip (n : YNetwork) (t : YTrip) {r : Bool} (H : m_impl_IsTrip n t = some r) : CallM Tryz.prog 55 [.ag (cNetwork n), .ag (cTrip t)] [] (vb r) [] := by
  replace H := H0 H
  unfold m_impl_IsTrip at H
  refine callM_of Tryz.func55 rfl Tryz.ntmps55 Tryz.results55 fun Q hQ hQn => ?_
  exact wk
instance (n : YNetwork) (t : YTrip) : CT Tryz.prog (m_impl_IsTrip n t) := ⟨55, [.ag (cNetwork n), .ag (cTrip t)], [], fun r => vb r, fun r => [], ok_impl_IsTrip n t⟩
end Go.Proofs.YtooikkfldddjfaaGreat

/- The mirror of spec.l1Has, and that the code does just that (printed by a program of my own). -/
namespace Go.Proofs.YtooikkfldddjfaaGreat
set_option maxRecDepth 10000
open Go.RowKit
set_option linter.unusedVariables false
set_option maxHeartbeats 16000000
def m_spec_l1Has_b0 (l : List Int) (x : Int) (s0 : Int) : Option (Int ⊕ (Unit ⊕ Bool)) :=
 cond (decide (s0 < (l.length : Int)))
 ((getI l s0).bind fun y1 =>
 cond (decide (y1 = x))
 (some (.inr (.inr true)))
 (some (.inl (w64 (s0 + 1)))))
 (some (.inr (.inl ())))
instance (l : List Int) (x : Int) : LoopE (m_spec_l1Has_b0 l x) := ⟨fun s0 => [.sl (l.map cInt), vi x, .un, .un, .un, vi s0, .un, .un, .un, .un, .un, .un, .un, .un, .un, .un, .un, .un], fun s0 => []⟩
def m_spec_l1Has (l : List Int) (x : Int) : Option Bool :=
 (iterF (m_spec_l1Has_b0 l x) NN 0).bind (selim (fun o0 =>
 some false) (fun r => some r))
theorem ok_spec_l1Has (l : List Int) (x : Int) {r : Bool} (H : m_spec_l1Has l x = some r) : CallM Tryz.prog 90 [.sl (l.map cInt), vi x] [] (vb r) [] := by
  replace H := H0 H
  unfold m_spec_l1Has at H
  refine callM_of Tryz.func90 rfl Tryz.ntmps90 Tryz.results90 fun Q hQ hQn => ?_
  exact wk
instance (l : List Int) (x : Int) : CT Tryz.prog (m_spec_l1Has l x) := ⟨90, [.sl (l.map cInt), vi x], [], fun r => vb r, fun r => [], ok_spec_l1Has l x⟩
end Go.Proofs.YtooikkfldddjfaaGreat

/- The mirror of spec.l3Runs, and that the code does just that (printed by a program of my own). -/
namespace Go.Proofs.YtooikkfldddjfaaGreat
set_option maxRecDepth 10000
open Go.RowKit
set_option linter.unusedVariables false
set_option maxHeartbeats 16000000
def m_spec_l3Runs (n : YNetwork) (leg : Int) (day : Int) : Option Bool :=
 (m_spec_l1In leg 0 (w64 ((n.legs.length : Int) - 1))).bind fun y1 =>
 cond y1
 ((m_spec_l1In day 0 60).bind fun y2 =>
 cond y2
 ((getI n.legs leg).bind fun y3 =>
 (chk (decide (0 ≤ (Int.tmod day 7)))).bind fun _ =>
 cond (decide ((IntKind.i64.wrap (BitVec.ofInt IntKind.i64.bits (Int.fdiv y3.days (2 ^ (min (Int.toNat (Int.tmod day 7)) IntKind.i64.bits))) &&& BitVec.ofInt IntKind.i64.bits 1).toNat) = 1))
 ((m_spec_l1Has n.off day).bind fun y4 =>
 some (!y4))
 (some false))
 (some false))
 (some false)
theorem ok_spec_l3Runs (n : YNetwork) (leg : Int) (day : Int) {r : Bool} (H : m_spec_l3Runs n leg day = some r) : CallM Tryz.prog 45 [.ag (cNetwork n), vi leg, vi day] [] (vb r) [] := by
  replace H := H0 H
  unfold m_spec_l3Runs at H
  refine callM_of Tryz.func45 rfl Tryz.ntmps45 Tryz.results45 fun Q hQ hQn => ?_
  exact wk
instance (n : YNetwork) (leg : Int) (day : Int) : CT Tryz.prog (m_spec_l3Runs n leg day) := ⟨45, [.ag (cNetwork n), vi leg, vi day], [], fun r => vb r, fun r => [], ok_spec_l3Runs n leg day⟩
end Go.Proofs.YtooikkfldddjfaaGreat

/- The mirror of spec.RunsOn, and that the code does just that (printed by a program of my own). -/
namespace Go.Proofs.YtooikkfldddjfaaGreat
set_option maxRecDepth 10000
open Go.RowKit
set_option linter.unusedVariables false
set_option maxHeartbeats 16000000
def m_spec_RunsOn (n : YNetwork) (leg : Int) (day : Int) : Option Bool :=
 (m_spec_IsNetwork n).bind fun y1 =>
 cond y1
 ((m_spec_l3Runs n leg day).bind fun y2 =>
 some y2)
 (some false)
theorem ok_spec_RunsOn (n : YNetwork) (leg : Int) (day : Int) {r : Bool} (H : m_spec_RunsOn n leg day = some r) : CallM Tryz.prog 126 [.ag (cNetwork n), vi leg, vi day] [] (vb r) [] := by
  replace H := H0 H
  unfold m_spec_RunsOn at H
  refine callM_of Tryz.func126 rfl Tryz.ntmps126 Tryz.results126 fun Q hQ hQn => ?_
  exact wk
instance (n : YNetwork) (leg : Int) (day : Int) : CT Tryz.prog (m_spec_RunsOn n leg day) := ⟨126, [.ag (cNetwork n), vi leg, vi day], [], fun r => vb r, fun r => [], ok_spec_RunsOn n leg day⟩
end Go.Proofs.YtooikkfldddjfaaGreat

/- The mirror of spec.IsTrip, and that the code does just that (printed by a program of my own). -/
namespace Go.Proofs.YtooikkfldddjfaaGreat
set_option maxRecDepth 10000
open Go.RowKit
set_option linter.unusedVariables false
set_option maxHeartbeats 16000000
def m_spec_IsTrip (n : YNetwork) (t : YTrip) : Option Bool :=
 (m_spec_RunsOn n t.leg t.day).bind fun y1 =>
 some y1
theorem ok_spec_IsTrip (n : YNetwork) (t : YTrip) {r : Bool} (H : m_spec_IsTrip n t = some r) : CallM Tryz.prog 93 [.ag (cNetwork n), .ag (cTrip t)] [] (vb r) [] := by
  replace H := H0 H
  unfold m_spec_IsTrip at H
  refine callM_of Tryz.func93 rfl Tryz.ntmps93 Tryz.results93 fun Q hQ hQn => ?_
  exact wk
instance (n : YNetwork) (t : YTrip) : CT Tryz.prog (m_spec_IsTrip n t) := ⟨93, [.ag (cNetwork n), .ag (cTrip t)], [], fun r => vb r, fun r => [], ok_spec_IsTrip n t⟩
end Go.Proofs.YtooikkfldddjfaaGreat

/- The mirror of impl.hasTrip, and that the code does just that (printed by a program of my own). -/
namespace Go.Proofs.YtooikkfldddjfaaGreat
set_option maxRecDepth 10000
open Go.RowKit
set_option linter.unusedVariables false
set_option maxHeartbeats 16000000
def m_impl_hasTrip_b0 (l : List YTrip) (t : YTrip) (s0 : Int) : Option (Int ⊕ (Unit ⊕ Bool)) :=
 cond (decide (s0 < (l.length : Int)))
 ((getI l s0).bind fun y1 =>
 cond (decide (y1 = t))
 (some (.inr (.inr true)))
 (some (.inl (w64 (s0 + 1)))))
 (some (.inr (.inl ())))
instance (l : List YTrip) (t : YTrip) : LoopE (m_impl_hasTrip_b0 l t) := ⟨fun s0 => [.un, .un, .un, .be 0 0 0, .un, .un, .un, .sl (l.map cTrip), vi (l.length : Int), vi s0, .un, .un, .un, .un, .un, .un, .un], fun s0 => [some ⟨57, 2, [[vi t.leg, vi t.day]]⟩]⟩
def m_impl_hasTrip (l : List YTrip) (t : YTrip) : Option Bool :=
 (iterF (m_impl_hasTrip_b0 l t) NN 0).bind (selim (fun o0 =>
 some false) (fun r => some r))
theorem ok_impl_hasTrip (l : List YTrip) (t : YTrip) {r : Bool} (H : m_impl_hasTrip l t = some r) : CallM Tryz.prog 56 [.sl (l.map cTrip), .ag (cTrip t)] [] (vb r) [] := by
  replace H := H0 H
  unfold m_impl_hasTrip at H
  refine callM_of Tryz.func56 rfl Tryz.ntmps56 Tryz.results56 fun Q hQ hQn => ?_
  exact wk
instance (l : List YTrip) (t : YTrip) : CT Tryz.prog (m_impl_hasTrip l t) := ⟨56, [.sl (l.map cTrip), .ag (cTrip t)], [], fun r => vb r, fun r => [], ok_impl_hasTrip l t⟩
end Go.Proofs.YtooikkfldddjfaaGreat

/- The mirror of spec.l6Closed, and that the code does just that (printed by a program of my own). -/
namespace Go.Proofs.YtooikkfldddjfaaGreat
set_option maxRecDepth 10000
open Go.RowKit
set_option linter.unusedVariables false
set_option maxHeartbeats 16000000
def m_spec_l6Closed_b0 (l : List YTrip) (t : YTrip) (s0 : Int) : Option (Int ⊕ (Unit ⊕ Bool)) :=
 cond (decide (s0 < (l.length : Int)))
 ((getI l s0).bind fun y1 =>
 cond (decide (y1 = t))
 (some (.inr (.inr true)))
 (some (.inl (w64 (s0 + 1)))))
 (some (.inr (.inl ())))
instance (l : List YTrip) (t : YTrip) : LoopE (m_spec_l6Closed_b0 l t) := ⟨fun s0 => [.sl (l.map cTrip), .un, .un, .be 0 0 0, .un, vi s0, .un, .un, .un, .un, .un, .un, .un, .un, .un, .un, .un, .un], fun s0 => [some ⟨57, 2, [[vi t.leg, vi t.day]]⟩]⟩
def m_spec_l6Closed (l : List YTrip) (t : YTrip) : Option Bool :=
 (iterF (m_spec_l6Closed_b0 l t) NN 0).bind (selim (fun o0 =>
 some false) (fun r => some r))
theorem ok_spec_l6Closed (l : List YTrip) (t : YTrip) {r : Bool} (H : m_spec_l6Closed l t = some r) : CallM Tryz.prog 46 [.sl (l.map cTrip), .ag (cTrip t)] [] (vb r) [] := by
  replace H := H0 H
  unfold m_spec_l6Closed at H
  refine callM_of Tryz.func46 rfl Tryz.ntmps46 Tryz.results46 fun Q hQ hQn => ?_
  exact wk
instance (l : List YTrip) (t : YTrip) : CT Tryz.prog (m_spec_l6Closed l t) := ⟨46, [.sl (l.map cTrip), .ag (cTrip t)], [], fun r => vb r, fun r => [], ok_spec_l6Closed l t⟩
end Go.Proofs.YtooikkfldddjfaaGreat

/- The mirror of impl.LoadOf, and that the code does just that (printed by a program of my own). -/
namespace Go.Proofs.YtooikkfldddjfaaGreat
set_option maxRecDepth 10000
open Go.RowKit
set_option linter.unusedVariables false
set_option maxHeartbeats 16000000
def m_impl_LoadOf_b0 (l : List YBooking) (t : YTrip) (s0 : Int × Int) : Option ((Int × Int) ⊕ Int) :=
 cond (decide (s0.2 < (l.length : Int)))
 ((getI l s0.2).bind fun y1 =>
 cond (decide (y1.trip = t))
 (some (.inl ((w64 (s0.1 + y1.weight)), (w64 (s0.2 + 1)))))
 (some (.inl (s0.1, (w64 (s0.2 + 1))))))
 (some (.inr s0.1))
instance (l : List YBooking) (t : YTrip) : LoopE (m_impl_LoadOf_b0 l t) := ⟨fun s0 => [.un, .un, .un, .be 0 0 0, .un, vi s0.1, .un, .un, .sl (l.map cBooking), vi (l.length : Int), vi s0.2, .un, .un, .un, .un, .un, .un, .un, .un, .un, .un, .un, .un, .un], fun s0 => [some ⟨57, 2, [[vi t.leg, vi t.day]]⟩]⟩
def m_impl_LoadOf (l : List YBooking) (t : YTrip) : Option Int :=
 (iterF (m_impl_LoadOf_b0 l t) NN (0, 0)).bind (fun o0 =>
 some o0)
theorem ok_impl_LoadOf (l : List YBooking) (t : YTrip) {r : Int} (H : m_impl_LoadOf l t = some r) : CallM Tryz.prog 103 [.sl (l.map cBooking), .ag (cTrip t)] [] (vi r) [] := by
  replace H := H0 H
  unfold m_impl_LoadOf at H
  refine callM_of Tryz.func103 rfl Tryz.ntmps103 Tryz.results103 fun Q hQ hQn => ?_
  exact wk
instance (l : List YBooking) (t : YTrip) : CT Tryz.prog (m_impl_LoadOf l t) := ⟨103, [.sl (l.map cBooking), .ag (cTrip t)], [], fun r => vi r, fun r => [], ok_impl_LoadOf l t⟩
end Go.Proofs.YtooikkfldddjfaaGreat

/- The mirror of spec.LoadOf, and that the code does just that (printed by a program of my own). -/
namespace Go.Proofs.YtooikkfldddjfaaGreat
set_option maxRecDepth 10000
open Go.RowKit
set_option linter.unusedVariables false
set_option maxHeartbeats 16000000
def m_spec_LoadOf_b0 (l : List YBooking) (t : YTrip) (s0 : Int × Int) : Option ((Int × Int) ⊕ Int) :=
 cond (decide (s0.2 < (l.length : Int)))
 ((getI l s0.2).bind fun y1 =>
 cond (decide (y1.trip = t))
 ((getI l s0.2).bind fun y2 =>
 some (.inl ((w64 (s0.1 + y2.weight)), (w64 (s0.2 + 1)))))
 (some (.inl (s0.1, (w64 (s0.2 + 1))))))
 (some (.inr s0.1))
instance (l : List YBooking) (t : YTrip) : LoopE (m_spec_LoadOf_b0 l t) := ⟨fun s0 => [.sl (l.map cBooking), .un, .un, .be 0 0 0, .un, vi s0.1, vi s0.2, .un, .un, .un, .un, .un, .un, .un, .un, .un, .un, .un, .un, .un, .un, .un, .un, .un, .un, .un, .un, .un], fun s0 => [some ⟨57, 2, [[vi t.leg, vi t.day]]⟩]⟩
def m_spec_LoadOf (l : List YBooking) (t : YTrip) : Option Int :=
 (iterF (m_spec_LoadOf_b0 l t) NN (0, 0)).bind (fun o0 =>
 some o0)
theorem ok_spec_LoadOf (l : List YBooking) (t : YTrip) {r : Int} (H : m_spec_LoadOf l t = some r) : CallM Tryz.prog 89 [.sl (l.map cBooking), .ag (cTrip t)] [] (vi r) [] := by
  replace H := H0 H
  unfold m_spec_LoadOf at H
  refine callM_of Tryz.func89 rfl Tryz.ntmps89 Tryz.results89 fun Q hQ hQn => ?_
  exact wk
instance (l : List YBooking) (t : YTrip) : CT Tryz.prog (m_spec_LoadOf l t) := ⟨89, [.sl (l.map cBooking), .ag (cTrip t)], [], fun r => vi r, fun r => [], ok_spec_LoadOf l t⟩
end Go.Proofs.YtooikkfldddjfaaGreat

/- The two sides' functions on trips and loads answer alike. -/
namespace Go.Proofs.YtooikkfldddjfaaGreat
set_option maxRecDepth 10000
open Go.RowKit
set_option linter.unusedVariables false
set_option linter.unusedSimpArgs false
theorem l1Has_v {l : List Int} (h : l.length ≤ 1048576) (x : Int) : m_spec_l1Has l x = some (l.any fun y => decide (y = x)) := by
  unfold m_spec_l1Has
  rw [iter_find (xs := l) (p := fun y => decide (y = x)) (r := .inr true) (e := .inl ()) (fun i hi => ?_) (by simp [m_spec_l1Has_b0]) (by unfold NN; omega)]
  · cases l.any fun y => decide (y = x) <;> rfl
  · have hw := w64_nat hi (by omega)
    have hg : getI l (i : Int) = some l[i] := by rw [getI_nat]; exact List.getElem?_eq_getElem hi
    simp only [m_spec_l1Has_b0, decide_eq_true (show (i : Int) < l.length by omega), cond_true, hg, Option.bind_some, hw]
    cases decide (l[i] = x) <;> rfl
theorem hasTrip_v {l : List YTrip} (h : l.length ≤ 1048576) (x : YTrip) : m_impl_hasTrip l x = some (l.any fun y => decide (y = x)) := by
  unfold m_impl_hasTrip
  rw [iter_find (xs := l) (p := fun y => decide (y = x)) (r := .inr true) (e := .inl ()) (fun i hi => ?_) (by simp [m_impl_hasTrip_b0]) (by unfold NN; omega)]
  · cases l.any fun y => decide (y = x) <;> rfl
  · have hw := w64_nat hi (by omega)
    have hg : getI l (i : Int) = some l[i] := by rw [getI_nat]; exact List.getElem?_eq_getElem hi
    simp only [m_impl_hasTrip_b0, decide_eq_true (show (i : Int) < l.length by omega), cond_true, hg, Option.bind_some, hw]
    cases decide (l[i] = x) <;> rfl
theorem l6Closed_eq : @m_spec_l6Closed = @m_impl_hasTrip := rfl
theorem impl_off_v {n : YNetwork} (h : n.off.length ≤ 1048576) (x : Int) : (iterF (m_impl_runs_b0 n x) NN 0).bind (selim (fun _ => some true) (fun r => some r)) = some (!(n.off.any fun y => decide (y = x))) := by
  rw [iter_find (xs := n.off) (p := fun y => decide (y = x)) (r := .inr false) (e := .inl ()) (fun i hi => ?_) (by simp [m_impl_runs_b0]) (by unfold NN; omega)]
  · cases n.off.any fun y => decide (y = x) <;> rfl
  · have hw := w64_nat hi (by omega)
    have hg : getI n.off (i : Int) = some n.off[i] := by rw [getI_nat]; exact List.getElem?_eq_getElem hi
    simp only [m_impl_runs_b0, decide_eq_true (show (i : Int) < n.off.length by omega), cond_true, hg, Option.bind_some, hw]
    cases decide (n.off[i] = x) <;> rfl
/-- The lowest bit. -/
def lowBit (x : Int) : Int := IntKind.i64.wrap (BitVec.ofInt IntKind.i64.bits x &&& BitVec.ofInt IntKind.i64.bits 1).toNat
theorem lowBit_01 (x : Int) : lowBit x = 0 ∨ lowBit x = 1 := by
  unfold lowBit
  have h : (BitVec.ofInt IntKind.i64.bits x &&& BitVec.ofInt IntKind.i64.bits 1).toNat ≤ 1 := by
    rw [BitVec.toNat_and]
    refine Nat.le_trans Nat.and_le_right ?_
    decide
  rw [show IntKind.i64.wrap ((BitVec.ofInt IntKind.i64.bits x &&& BitVec.ofInt IntKind.i64.bits 1).toNat : Int) = ((BitVec.ofInt IntKind.i64.bits x &&& BitVec.ofInt IntKind.i64.bits 1).toNat : Int) from w64_in (by omega)]
  omega
theorem runs_eq {n : YNetwork} (h : NetFit n) (leg day : Int) : m_impl_runs n leg day = m_spec_l3Runs n leg day ∧ ∃ b, m_spec_l3Runs n leg day = some b := by
  have hl := h.legs
  have hw : w64 ((n.legs.length : Int) - 1) = n.legs.length - 1 := w64_in (by omega)
  unfold m_impl_runs m_spec_l3Runs
  rw [within_eq, hw, l1In_v, l1In_v]
  simp only [Option.bind_some]
  by_cases h1 : leg < 0
  · simp only [decide_eq_true h1, decide_eq_false (show ¬ 0 ≤ leg by omega), cond_true, Bool.false_and, cond_false]
    exact ⟨trivial, _, rfl⟩
  by_cases h2 : (n.legs.length : Int) ≤ leg
  · simp only [decide_eq_false h1, decide_eq_true h2, decide_eq_false (show ¬ leg ≤ (n.legs.length : Int) - 1 by omega), cond_true, Bool.and_false, cond_false]
    exact ⟨trivial, _, rfl⟩
  simp only [decide_eq_false h1, decide_eq_false h2, decide_eq_true (show 0 ≤ leg by omega), decide_eq_true (show leg ≤ (n.legs.length : Int) - 1 by omega), cond_true, Bool.and_true, cond_false]
  by_cases h3 : 0 ≤ day ∧ day ≤ 60
  · simp only [decide_eq_true h3.1, decide_eq_true h3.2, Bool.and_true, Bool.not_true, cond_false, cond_true]
    have hg : getI n.legs leg = some (n.legs[leg.toNat]'(by omega)) := by
      unfold getI; rw [if_pos (by omega)]; exact List.getElem?_eq_getElem _
    rw [hg]
    simp only [Option.bind_some]
    have hm : 0 ≤ Int.tmod day 7 := Int.tmod_nonneg 7 h3.1
    rw [chk_t (decide_eq_true hm)]
    simp only [Option.bind_some]
    rw [impl_off_v h.off, l1Has_v h.off]
    generalize Int.fdiv _ _ = q
    have hb := lowBit_01 q
    unfold lowBit at hb
    rcases hb with hb | hb
    · rw [hb]; exact ⟨rfl, _, rfl⟩
    · rw [hb]; exact ⟨rfl, _, rfl⟩
  · have : (decide (0 ≤ day) && decide (day ≤ 60)) = false := by rw [← Bool.decide_and]; exact decide_eq_false h3
    rw [this]
    exact ⟨rfl, _, rfl⟩
theorem runsOn_eq {n : YNetwork} (h : NetFit n) (leg day : Int) : m_impl_RunsOn n leg day = m_spec_RunsOn n leg day ∧ ∃ b, m_spec_RunsOn n leg day = some b := by
  obtain ⟨e, b, s⟩ := isNetwork_eq h
  obtain ⟨e2, b2, s2⟩ := runs_eq h leg day
  unfold m_impl_RunsOn m_spec_RunsOn
  rw [e, e2, s, s2]
  refine ⟨rfl, ?_⟩
  cases b <;> exact ⟨_, rfl⟩
theorem isTrip_eq {n : YNetwork} (h : NetFit n) (t : YTrip) : m_impl_IsTrip n t = m_spec_IsTrip n t ∧ ∃ b, m_spec_IsTrip n t = some b := by
  obtain ⟨e, b, s⟩ := runsOn_eq h t.leg t.day
  unfold m_impl_IsTrip m_spec_IsTrip
  rw [e, s]
  exact ⟨rfl, _, rfl⟩
theorem loadOf_eq : @m_impl_LoadOf = @m_spec_LoadOf := by
  funext l t
  unfold m_impl_LoadOf m_spec_LoadOf
  have : m_impl_LoadOf_b0 l t = m_spec_LoadOf_b0 l t := by
    funext s
    unfold m_impl_LoadOf_b0 m_spec_LoadOf_b0
    cases hg : getI l s.2 with
    | none => rfl
    | some y => simp only [Option.bind_some]
  rw [this]
end Go.Proofs.YtooikkfldddjfaaGreat

/- The mirror of impl.compareInts, and that the code does just that (printed by a program of my own). -/
namespace Go.Proofs.YtooikkfldddjfaaGreat
set_option maxRecDepth 10000
open Go.RowKit
set_option linter.unusedVariables false
set_option maxHeartbeats 16000000
def m_impl_compareInts (a : Int) (b : Int) : Option Int :=
 cond (decide (a < b))
 (some (-1))
 (cond (decide (b < a))
 (some 1)
 (some 0))
theorem ok_impl_compareInts (a : Int) (b : Int) {r : Int} (H : m_impl_compareInts a b = some r) : CallM Tryz.prog 129 [vi a, vi b] [] (vi r) [] := by
  replace H := H0 H
  unfold m_impl_compareInts at H
  refine callM_of Tryz.func129 rfl Tryz.ntmps129 Tryz.results129 fun Q hQ hQn => ?_
  exact wk
instance (a : Int) (b : Int) : CT Tryz.prog (m_impl_compareInts a b) := ⟨129, [vi a, vi b], [], fun r => vi r, fun r => [], ok_impl_compareInts a b⟩
end Go.Proofs.YtooikkfldddjfaaGreat

/- The mirror of impl.first, and that the code does just that (printed by a program of my own). -/
namespace Go.Proofs.YtooikkfldddjfaaGreat
set_option maxRecDepth 10000
open Go.RowKit
set_option linter.unusedVariables false
set_option maxHeartbeats 16000000
def m_impl_first_b0 (list : List Int) (s0 : Int) : Option (Int ⊕ (Unit ⊕ Int)) :=
 cond (decide (s0 < (list.length : Int)))
 ((getI list s0).bind fun y1 =>
 cond (!decide (y1 = 0))
 (some (.inr (.inr y1)))
 (some (.inl (w64 (s0 + 1)))))
 (some (.inr (.inl ())))
instance (list : List Int) : LoopE (m_impl_first_b0 list) := ⟨fun s0 => [.un, .un, .un, .un, .un, .sl (list.map cInt), vi (list.length : Int), vi s0, .un, .un, .un, .un, .un, .un, .un], fun s0 => []⟩
def m_impl_first (list : List Int) : Option Int :=
 (iterF (m_impl_first_b0 list) NN 0).bind (selim (fun o0 =>
 some 0) (fun r => some r))
theorem ok_impl_first (list : List Int) {r : Int} (H : m_impl_first list = some r) : CallM Tryz.prog 128 [.sl (list.map cInt)] [] (vi r) [] := by
  replace H := H0 H
  unfold m_impl_first at H
  refine callM_of Tryz.func128 rfl Tryz.ntmps128 Tryz.results128 fun Q hQ hQn => ?_
  exact wk
instance (list : List Int) : CT Tryz.prog (m_impl_first list) := ⟨128, [.sl (list.map cInt)], [], fun r => vi r, fun r => [], ok_impl_first list⟩
end Go.Proofs.YtooikkfldddjfaaGreat

/- The mirror of impl.compareBookings, and that the code does just that (printed by a program of my own). -/
namespace Go.Proofs.YtooikkfldddjfaaGreat
set_option maxRecDepth 10000
open Go.RowKit
set_option linter.unusedVariables false
set_option maxHeartbeats 16000000
def m_impl_compareBookings (a : YBooking) (b : YBooking) : Option Int :=
 (m_impl_compareInts a.trip.day b.trip.day).bind fun y1 =>
 (m_impl_compareInts a.trip.leg b.trip.leg).bind fun y2 =>
 (m_impl_compareInts a.thing b.thing).bind fun y3 =>
 (m_impl_first ([y1, y2, y3])).bind fun y4 =>
 some y4
theorem ok_impl_compareBookings (a : YBooking) (b : YBooking) {r : Int} (H : m_impl_compareBookings a b = some r) : CallM Tryz.prog 102 [.ag (cBooking a), .ag (cBooking b)] [] (vi r) [] := by
  replace H := H0 H
  unfold m_impl_compareBookings at H
  refine callM_of Tryz.func102 rfl Tryz.ntmps102 Tryz.results102 fun Q hQ hQn => ?_
  exact wk
instance (a : YBooking) (b : YBooking) : CT Tryz.prog (m_impl_compareBookings a b) := ⟨102, [.ag (cBooking a), .ag (cBooking b)], [], fun r => vi r, fun r => [], ok_impl_compareBookings a b⟩
end Go.Proofs.YtooikkfldddjfaaGreat

/- The mirror of impl.AreBookings, and that the code does just that (printed by a program of my own). -/
namespace Go.Proofs.YtooikkfldddjfaaGreat
set_option maxRecDepth 10000
open Go.RowKit
set_option linter.unusedVariables false
set_option maxHeartbeats 16000000
def m_impl_AreBookings_b0 (n : YNetwork) (l : List YBooking) (s0 : Int) : Option (Int ⊕ (Unit ⊕ Bool)) :=
 cond (decide (s0 < (l.length : Int)))
 ((getI l s0).bind fun y2 =>
 cond (decide (0 < s0))
 ((getI l (w64 (s0 - 1))).bind fun y3 =>
 (m_impl_compareBookings y3 y2).bind fun y4 =>
 cond (decide (0 ≤ y4))
 (some (.inr (.inr false)))
 ((m_impl_IsTrip n y2.trip).bind fun y5 =>
 cond (!y5)
 (some (.inr (.inr false)))
 ((m_impl_within y2.thing 1 9999).bind fun y6 =>
 cond (!y6)
 (some (.inr (.inr false)))
 ((m_impl_within y2.weight 1 1000000).bind fun y7 =>
 cond (!y7)
 (some (.inr (.inr false)))
 ((m_impl_LoadOf l y2.trip).bind fun y8 =>
 (getI n.legs y2.trip.leg).bind fun y9 =>
 cond (decide (y9.room < y8))
 (some (.inr (.inr false)))
 (some (.inl (w64 (s0 + 1)))))))))
 ((m_impl_IsTrip n y2.trip).bind fun y10 =>
 cond (!y10)
 (some (.inr (.inr false)))
 ((m_impl_within y2.thing 1 9999).bind fun y11 =>
 cond (!y11)
 (some (.inr (.inr false)))
 ((m_impl_within y2.weight 1 1000000).bind fun y12 =>
 cond (!y12)
 (some (.inr (.inr false)))
 ((m_impl_LoadOf l y2.trip).bind fun y13 =>
 (getI n.legs y2.trip.leg).bind fun y14 =>
 cond (decide (y14.room < y13))
 (some (.inr (.inr false)))
 (some (.inl (w64 (s0 + 1)))))))))
 (some (.inr (.inl ())))
instance (n : YNetwork) (l : List YBooking) : LoopE (m_impl_AreBookings_b0 n l) := ⟨fun s0 => [.un, .sl (l.map cBooking), .be 0 0 0, .un, .un, .un, .un, .un, .un, .un, .un, .un, .un, .un, .un, .sl (l.map cBooking), vi (l.length : Int), vi s0, .un, .un, .un, .un, .un, .un, .un, .un, .un, .un, .un, .un, .un, .un, .un, .un, .un, .un, .un, .un, .un, .un, .un, .un, .un, .un, .un, .un, .un, .un, .un, .un, .un, .un, .un, .un, .un, .un, .un, .un, .un, .un, .un, .un, .un, .un, .un, .un, .un, .un, .un], fun s0 => [some ⟨36, 3, [[.sl (n.legs.map cLeg), .sl (n.off.map cInt), vi n.change]]⟩]⟩
def m_impl_AreBookings (n : YNetwork) (l : List YBooking) : Option Bool :=
 (m_impl_IsNetwork n).bind fun y1 =>
 cond (!y1)
 (some false)
 (cond (decide (120 < (l.length : Int)))
 (some false)
 ((iterF (m_impl_AreBookings_b0 n l) NN 0).bind (selim (fun o0 =>
 some true) (fun r => some r))))
theorem ok_impl_AreBookings (n : YNetwork) (l : List YBooking) {r : Bool} (H : m_impl_AreBookings n l = some r) : CallM Tryz.prog 53 [.ag (cNetwork n), .sl (l.map cBooking)] [] (vb r) [] := by
  replace H := H0 H
  unfold m_impl_AreBookings at H
  refine callM_of Tryz.func53 rfl Tryz.ntmps53 Tryz.results53 fun Q hQ hQn => ?_
  exact wk
instance (n : YNetwork) (l : List YBooking) : CT Tryz.prog (m_impl_AreBookings n l) := ⟨53, [.ag (cNetwork n), .sl (l.map cBooking)], [], fun r => vb r, fun r => [], ok_impl_AreBookings n l⟩
end Go.Proofs.YtooikkfldddjfaaGreat

/- The mirror of spec.l6Before, and that the code does just that (printed by a program of my own). -/
namespace Go.Proofs.YtooikkfldddjfaaGreat
set_option maxRecDepth 10000
open Go.RowKit
set_option linter.unusedVariables false
set_option maxHeartbeats 16000000
def m_spec_l6Before (a : YBooking) (b : YBooking) : Option Bool :=
 cond (!decide (a.trip.day = b.trip.day))
 (some (decide (a.trip.day < b.trip.day)))
 (cond (!decide (a.trip.leg = b.trip.leg))
 (some (decide (a.trip.leg < b.trip.leg)))
 (some (decide (a.thing < b.thing))))
theorem ok_spec_l6Before (a : YBooking) (b : YBooking) {r : Bool} (H : m_spec_l6Before a b = some r) : CallM Tryz.prog 88 [.ag (cBooking a), .ag (cBooking b)] [] (vb r) [] := by
  replace H := H0 H
  unfold m_spec_l6Before at H
  refine callM_of Tryz.func88 rfl Tryz.ntmps88 Tryz.results88 fun Q hQ hQn => ?_
  exact wk
instance (a : YBooking) (b : YBooking) : CT Tryz.prog (m_spec_l6Before a b) := ⟨88, [.ag (cBooking a), .ag (cBooking b)], [], fun r => vb r, fun r => [], ok_spec_l6Before a b⟩
end Go.Proofs.YtooikkfldddjfaaGreat

/- The mirror of spec.AreBookings, and that the code does just that (printed by a program of my own). -/
namespace Go.Proofs.YtooikkfldddjfaaGreat
set_option maxRecDepth 10000
open Go.RowKit
set_option linter.unusedVariables false
set_option maxHeartbeats 16000000
def m_spec_AreBookings_b0 (n : YNetwork) (l : List YBooking) (s0 : Int) : Option (Int ⊕ (Unit ⊕ Bool)) :=
 cond (decide (s0 < (l.length : Int)))
 ((getI l s0).bind fun y2 =>
 (m_spec_l3Runs n y2.trip.leg y2.trip.day).bind fun y3 =>
 cond (!y3)
 (some (.inr (.inr false)))
 ((m_spec_l1In y2.thing 1 9999).bind fun y4 =>
 cond (!y4)
 (some (.inr (.inr false)))
 ((m_spec_l1In y2.weight 1 1000000).bind fun y5 =>
 cond (!y5)
 (some (.inr (.inr false)))
 (cond (decide (0 < s0))
 ((getI l (w64 (s0 - 1))).bind fun y6 =>
 (m_spec_l6Before y6 y2).bind fun y7 =>
 cond (!y7)
 (some (.inr (.inr false)))
 (some (.inl (w64 (s0 + 1)))))
 (some (.inl (w64 (s0 + 1))))))))
 (some (.inr (.inl ())))
instance (n : YNetwork) (l : List YBooking) : LoopE (m_spec_AreBookings_b0 n l) := ⟨fun s0 => [.un, .sl (l.map cBooking), .be 0 0 0, .un, .un, vi s0, .un, .un, .un, .un, .un, .un, .un, .un, .un, .un, .un, .un, .un, .un, .un, .un, .un, .un, .un, .un, .un, .un, .un, .un, .un, .un, .un, .un, .un, .un, .un, .un, .un, .un, .un, .un, .un, .un, .un, .un, .un, .un, .un, .un, .un, .un, .un, .un, .un, .un, .un, .un, .un, .un, .un, .un, .un, .un, .un, .un, .un, .un, .un, .un, .un, .un, .un, .un, .un, .un, .un, .un, .un, .un, .un, .un, .un, .un, .un, .un], fun s0 => [some ⟨36, 3, [[.sl (n.legs.map cLeg), .sl (n.off.map cInt), vi n.change]]⟩]⟩
def m_spec_AreBookings_b1 (n : YNetwork) (l : List YBooking) (s1 : Int) : Option (Int ⊕ (Unit ⊕ Bool)) :=
 cond (decide (s1 < (l.length : Int)))
 ((getI l s1).bind fun y8 =>
 (m_spec_LoadOf l y8.trip).bind fun y9 =>
 (getI l s1).bind fun y10 =>
 (getI n.legs y10.trip.leg).bind fun y11 =>
 cond (decide (y11.room < y9))
 (some (.inr (.inr false)))
 (some (.inl (w64 (s1 + 1)))))
 (some (.inr (.inl ())))
instance (n : YNetwork) (l : List YBooking) : LoopE (m_spec_AreBookings_b1 n l) := ⟨fun s1 => [.un, .sl (l.map cBooking), .be 0 0 0, .un, .un, .un, .un, vi s1, .un, .un, .un, .un, .un, .un, .un, .un, .un, .un, .un, .un, .un, .un, .un, .un, .un, .un, .un, .un, .un, .un, .un, .un, .un, .un, .un, .un, .un, .un, .un, .un, .un, .un, .un, .un, .un, .un, .un, .un, .un, .un, .un, .un, .un, .un, .un, .un, .un, .un, .un, .un, .un, .un, .un, .un, .un, .un, .un, .un, .un, .un, .un, .un, .un, .un, .un, .un, .un, .un, .un, .un, .un, .un, .un, .un, .un, .un], fun s1 => [some ⟨36, 3, [[.sl (n.legs.map cLeg), .sl (n.off.map cInt), vi n.change]]⟩]⟩
def m_spec_AreBookings (n : YNetwork) (l : List YBooking) : Option Bool :=
 (m_spec_IsNetwork n).bind fun y1 =>
 cond (!y1)
 (some false)
 (cond (decide (120 < (l.length : Int)))
 (some false)
 ((iterF (m_spec_AreBookings_b0 n l) NN 0).bind (selim (fun o0 =>
 (iterF (m_spec_AreBookings_b1 n l) NN 0).bind (selim (fun o1 =>
 some true) (fun r => some r))) (fun r => some r))))
theorem ok_spec_AreBookings (n : YNetwork) (l : List YBooking) {r : Bool} (H : m_spec_AreBookings n l = some r) : CallM Tryz.prog 43 [.ag (cNetwork n), .sl (l.map cBooking)] [] (vb r) [] := by
  replace H := H0 H
  unfold m_spec_AreBookings at H
  refine callM_of Tryz.func43 rfl Tryz.ntmps43 Tryz.results43 fun Q hQ hQn => ?_
  exact wk
instance (n : YNetwork) (l : List YBooking) : CT Tryz.prog (m_spec_AreBookings n l) := ⟨43, [.ag (cNetwork n), .sl (l.map cBooking)], [], fun r => vb r, fun r => [], ok_spec_AreBookings n l⟩
end Go.Proofs.YtooikkfldddjfaaGreat

/- The two sides' functions on bookings answer alike. -/
namespace Go.Proofs.YtooikkfldddjfaaGreat
set_option maxRecDepth 10000
open Go.RowKit
set_option linter.unusedVariables false
set_option linter.unusedSimpArgs false
def cmpI (a b : Int) : Int := if a < b then -1 else if b < a then 1 else 0
theorem cmpI_v (a b : Int) : m_impl_compareInts a b = some (cmpI a b) := by
  unfold m_impl_compareInts cmpI
  by_cases h : a < b
  · simp [h]
  · by_cases h2 : b < a <;> simp [h, h2]
theorem first3 (x y z : Int) : m_impl_first [x, y, z] = some (if x ≠ 0 then x else if y ≠ 0 then y else z) := by
  obtain ⟨k, hk⟩ : ∃ k, NN = k + 1 + 1 + 1 + 1 := ⟨1152921504606846972, by unfold NN; omega⟩
  unfold m_impl_first
  rw [hk]
  have w0 : w64 1 = 1 := w64_in (by omega)
  have w1 : w64 2 = 2 := w64_in (by omega)
  have w2 : w64 3 = 3 := w64_in (by omega)
  by_cases hx : x = 0
  · by_cases hy : y = 0
    · by_cases hz : z = 0
      · simp [iterF, selim, m_impl_first_b0, getI, hx, hy, hz, w0, w1, w2]
      · simp [iterF, selim, m_impl_first_b0, getI, hx, hy, hz, w0, w1, w2]
    · simp [iterF, selim, m_impl_first_b0, getI, hx, hy, w0]
  · simp [iterF, selim, m_impl_first_b0, getI, hx]
def befB (a b : YBooking) : Bool := if a.trip.day ≠ b.trip.day then decide (a.trip.day < b.trip.day) else if a.trip.leg ≠ b.trip.leg then decide (a.trip.leg < b.trip.leg) else decide (a.thing < b.thing)
theorem before_v (a b : YBooking) : m_spec_l6Before a b = some (befB a b) := by
  unfold m_spec_l6Before befB
  by_cases h1 : a.trip.day = b.trip.day
  · by_cases h2 : a.trip.leg = b.trip.leg <;> simp [h1, h2]
  · simp [h1]
theorem compare_v (a b : YBooking) : ∃ v, m_impl_compareBookings a b = some v ∧ decide (0 ≤ v) = !befB a b := by
  unfold m_impl_compareBookings
  simp only [cmpI_v, Option.bind_some, first3]
  refine ⟨_, rfl, ?_⟩
  unfold befB cmpI
  rcases Int.lt_trichotomy a.trip.day b.trip.day with h1 | h1 | h1
  · simp [h1, show a.trip.day ≠ b.trip.day by omega]
  · rcases Int.lt_trichotomy a.trip.leg b.trip.leg with h2 | h2 | h2
    · simp [h1, h2, show a.trip.leg ≠ b.trip.leg by omega]
    · rcases Int.lt_trichotomy a.thing b.thing with h3 | h3 | h3
      · simp [h1, h2, h3]
      · simp [h1, h2, h3]
      · simp [h1, h2, h3, show ¬ a.thing < b.thing by omega]
    · simp [h1, h2, show a.trip.leg ≠ b.trip.leg by omega, show ¬ a.trip.leg < b.trip.leg by omega]
  · simp [h1, show a.trip.day ≠ b.trip.day by omega, show ¬ a.trip.day < b.trip.day by omega]
theorem loadOf_some {l : List YBooking} (h : l.length ≤ 1048576) (t : YTrip) : ∃ v, m_spec_LoadOf l t = some v := by
  have hh : ∃ o, iterF (m_spec_LoadOf_b0 l t) NN (0, 0) = some o := by
    refine iter_tot (fun k s => ∃ i : Nat, i + k = l.length ∧ s.2 = (i : Int)) ?_ NN l.length (0, 0) ⟨0, by omega, rfl⟩ (by unfold NN; omega)
    rintro k ⟨a, s⟩ ⟨i, hi, hs⟩
    simp only at hs
    subst hs
    rcases Nat.lt_or_ge i l.length with hlt | hge
    · have hw := w64_nat hlt (by omega)
      have hg : getI l (i : Int) = some l[i] := by rw [getI_nat]; exact List.getElem?_eq_getElem hlt
      cases hc : decide (l[i].trip = t) with
      | true =>
        refine ⟨_, by simp only [m_spec_LoadOf_b0, decide_eq_true (show (i : Int) < l.length by omega), cond_true, hg, Option.bind_some, hc, hw]; rfl, ?_⟩
        rintro s' e; cases e; exact ⟨k - 1, by omega, i + 1, by omega, rfl⟩
      | false =>
        refine ⟨_, by simp only [m_spec_LoadOf_b0, decide_eq_true (show (i : Int) < l.length by omega), cond_true, cond_false, hg, Option.bind_some, hc, hw]; rfl, ?_⟩
        rintro s' e; cases e; exact ⟨k - 1, by omega, i + 1, by omega, rfl⟩
    · have : i = l.length := by omega
      subst this
      refine ⟨_, by simp only [m_spec_LoadOf_b0, decide_eq_false (show ¬ ((l.length : Int) < l.length) by omega), cond_false]; rfl, ?_⟩
      rintro s' e; cases e
  obtain ⟨o, ho⟩ := hh
  exact ⟨o, by unfold m_spec_LoadOf; rw [ho]; rfl⟩
/-- A leg that runs is one. -/
theorem runs_leg {n : YNetwork} (h : NetFit n) {leg day : Int} (hr : m_spec_l3Runs n leg day = some true) : ∃ y, getI n.legs leg = some y := by
  have hl := h.legs
  have hw : w64 ((n.legs.length : Int) - 1) = n.legs.length - 1 := w64_in (by omega)
  unfold m_spec_l3Runs at hr
  rw [hw, l1In_v] at hr
  simp only [Option.bind_some] at hr
  by_cases h1 : 0 ≤ leg ∧ leg ≤ (n.legs.length : Int) - 1
  · exact ⟨n.legs[leg.toNat]'(by omega), by unfold getI; rw [if_pos h1.1]; exact List.getElem?_eq_getElem _⟩
  · rw [← Bool.decide_and, decide_eq_false h1] at hr
    cases hr
/-- What is asked of the booking at i: first half. -/
def bk1 (n : YNetwork) (l : List YBooking) (i : Nat) : Bool := match l[i]? with
  | none => true
  | some y => (m_spec_l3Runs n y.trip.leg y.trip.day).getD false && (decide (1 ≤ y.thing) && decide (y.thing ≤ 9999)) && (decide (1 ≤ y.weight) && decide (y.weight ≤ 1000000)) && (decide (i = 0) || match l[i - 1]? with
    | none => true
    | some x => befB x y)
/-- Second half: the load. -/
def bk2 (n : YNetwork) (l : List YBooking) (i : Nat) : Bool := match l[i]? with
  | none => true
  | some y => match getI n.legs y.trip.leg, m_spec_LoadOf l y.trip with
    | some g, some v => !decide (g.room < v)
    | _, _ => false
def booksV (n : YNetwork) (l : List YBooking) : Bool := (m_spec_IsNetwork n).getD false && decide ((l.length : Int) ≤ 120) && (List.range l.length).all fun i => bk1 n l i && bk2 n l i
theorem specBooks_v {n : YNetwork} (h : NetFit n) {l : List YBooking} (hl : l.length ≤ 1048576) : m_spec_AreBookings n l = some (booksV n l) := by
  obtain ⟨_, b, hb⟩ := isNetwork_eq h
  unfold m_spec_AreBookings booksV
  rw [hb]
  simp only [Option.bind_some, Option.getD_some]
  cases b with
  | false => rfl
  | true =>
    by_cases h120 : 120 < (l.length : Int)
    · simp [h120, show ¬ ((l.length : Int) ≤ 120) by omega]
    simp only [Bool.not_true, cond_false, decide_eq_false h120, decide_eq_true (show (l.length : Int) ≤ 120 by omega), Bool.true_and]
    have e0 : iterF (m_spec_AreBookings_b0 n l) NN 0 = some (if (List.range l.length).all (bk1 n l) = true then .inl () else .inr false) := by
      refine iter_check (fun i hi _ => ?_) (fun _ => by simp [m_spec_AreBookings_b0]) (by unfold NN; omega)
      have hw := w64_nat hi (by omega)
      have hg : getI l (i : Int) = some l[i] := by rw [getI_nat]; exact List.getElem?_eq_getElem hi
      obtain ⟨_, rb, hrb⟩ := runs_eq h l[i].trip.leg l[i].trip.day
      simp only [m_spec_AreBookings_b0, decide_eq_true (show (i : Int) < l.length by omega), cond_true, hg, Option.bind_some, hrb, l1In_v, bk1, List.getElem?_eq_getElem hi, Option.getD_some]
      cases rb with
      | false => simp
      | true =>
        cases decide (1 ≤ l[i].thing) && decide (l[i].thing ≤ 9999) with
        | false => simp
        | true =>
          cases decide (1 ≤ l[i].weight) && decide (l[i].weight ≤ 1000000) with
          | false => simp
          | true =>
            by_cases hi0 : i = 0
            · subst hi0
              have hw' : w64 1 = 1 := w64_in (by omega)
              simp [hw']
            · have hw2 : w64 ((i : Int) - 1) = ((i - 1 : Nat) : Int) := by rw [w64_in (by omega)]; omega
              have hg2 : getI l ((i - 1 : Nat) : Int) = some l[i - 1] := by rw [getI_nat]; exact List.getElem?_eq_getElem (by omega)
              simp only [decide_eq_true (show 0 < (i : Int) by omega), hw2, hg2, Option.bind_some, before_v, hw, List.getElem?_eq_getElem (show i - 1 < l.length by omega), decide_eq_false hi0, Bool.not_true, cond_false, cond_true, Bool.true_and, Bool.false_or]
              cases befB l[i - 1] l[i] <;> rfl
    rw [e0]
    by_cases hall : (List.range l.length).all (bk1 n l) = true
    · rw [if_pos hall]
      have e1 : iterF (m_spec_AreBookings_b1 n l) NN 0 = some (if (List.range l.length).all (bk2 n l) = true then .inl () else .inr false) := by
        refine iter_check (fun i hi _ => ?_) (fun _ => by simp [m_spec_AreBookings_b1]) (by unfold NN; omega)
        have hw := w64_nat hi (by omega)
        have hg : getI l (i : Int) = some l[i] := by rw [getI_nat]; exact List.getElem?_eq_getElem hi
        obtain ⟨v, hv⟩ := loadOf_some hl l[i].trip
        have hb1 := List.all_eq_true.1 hall i (List.mem_range.2 hi)
        obtain ⟨_, rb, hrb⟩ := runs_eq h l[i].trip.leg l[i].trip.day
        have hrt : rb = true := by
          simp only [bk1, List.getElem?_eq_getElem hi, hrb, Option.getD_some, Bool.and_eq_true] at hb1
          exact hb1.1.1.1
        subst hrt
        obtain ⟨g, hgl⟩ := runs_leg h hrb
        simp only [m_spec_AreBookings_b1, decide_eq_true (show (i : Int) < l.length by omega), cond_true, hg, Option.bind_some, hv, hgl, bk2, List.getElem?_eq_getElem hi, hw]
        cases decide (g.room < v) <;> rfl
      simp only [Option.bind_some]
      rw [e1]
      have : (List.range l.length).all (fun i => bk1 n l i && bk2 n l i) = (List.range l.length).all (bk2 n l) := by
        rw [Bool.eq_iff_iff, List.all_eq_true, List.all_eq_true]
        exact ⟨fun H i hi => by have := H i hi; simp only [Bool.and_eq_true] at this; exact this.2, fun H i hi => by rw [List.all_eq_true.1 hall i hi, H i hi]; rfl⟩
      rw [this]
      cases (List.range l.length).all (bk2 n l) <;> rfl
    · rw [if_neg hall]
      have : (List.range l.length).all (fun i => bk1 n l i && bk2 n l i) = false := by
        rw [Bool.eq_false_iff]
        intro H
        exact hall (List.all_eq_true.2 fun i hi => by have := List.all_eq_true.1 H i hi; simp only [Bool.and_eq_true] at this; exact this.1)
      rw [this]; rfl
theorem isTrip_v {n : YNetwork} (h : NetFit n) (hn : m_spec_IsNetwork n = some true) (t : YTrip) : m_impl_IsTrip n t = m_spec_l3Runs n t.leg t.day := by
  rw [(isTrip_eq h t).1]
  unfold m_spec_IsTrip m_spec_RunsOn
  rw [hn]
  obtain ⟨_, b, hb⟩ := runs_eq h t.leg t.day
  simp only [Option.bind_some, cond_true, hb]
theorem implBooks_v {n : YNetwork} (h : NetFit n) {l : List YBooking} (hl : l.length ≤ 1048576) : m_impl_AreBookings n l = some (booksV n l) := by
  obtain ⟨en, b, hb⟩ := isNetwork_eq h
  unfold m_impl_AreBookings booksV
  rw [en, hb]
  simp only [Option.bind_some, Option.getD_some]
  cases b with
  | false => rfl
  | true =>
    by_cases h120 : 120 < (l.length : Int)
    · simp [h120, show ¬ ((l.length : Int) ≤ 120) by omega]
    simp only [Bool.not_true, cond_false, decide_eq_false h120, decide_eq_true (show (l.length : Int) ≤ 120 by omega), Bool.true_and]
    have e0 : iterF (m_impl_AreBookings_b0 n l) NN 0 = some (if (List.range l.length).all (fun i => bk1 n l i && bk2 n l i) = true then .inl () else .inr false) := by
      refine iter_check (fun i hi _ => ?_) (fun _ => by simp [m_impl_AreBookings_b0]) (by unfold NN; omega)
      have hw := w64_nat hi (by omega)
      have hg : getI l (i : Int) = some l[i] := by rw [getI_nat]; exact List.getElem?_eq_getElem hi
      obtain ⟨_, rb, hrb⟩ := runs_eq h l[i].trip.leg l[i].trip.day
      have ht := isTrip_v h hb l[i].trip
      rw [hrb] at ht
      obtain ⟨v, hv⟩ := loadOf_some hl l[i].trip
      have hrest : ∀ {X : Option (Int ⊕ (Unit ⊕ Bool))} {pre : Bool}, pre = (decide (i = 0) || match l[i - 1]? with
          | none => true
          | some x => befB x l[i]) →
          X = (cond (!pre) (some (.inr (.inr false))) ((some rb).bind fun y10 => cond (!y10) (some (.inr (.inr false))) ((m_spec_l1In l[i].thing 1 9999).bind fun y11 => cond (!y11) (some (.inr (.inr false))) ((m_spec_l1In l[i].weight 1 1000000).bind fun y12 => cond (!y12) (some (.inr (.inr false))) ((some v).bind fun y13 => (getI n.legs l[i].trip.leg).bind fun y14 => cond (decide (y14.room < y13)) (some (.inr (.inr false))) (some (.inl ((i + 1 : Nat) : Int)))))))) →
          X = some (if (bk1 n l i && bk2 n l i) = true then .inl ((i + 1 : Nat) : Int) else .inr (.inr false)) := by
        rintro X pre hpre rfl
        simp only [bk1, bk2, List.getElem?_eq_getElem hi, hrb, hv, Option.getD_some, l1In_v, Option.bind_some, ← hpre]
        cases pre with
        | false => simp
        | true =>
          cases rb with
          | false => simp
          | true =>
            obtain ⟨g, hgl⟩ := runs_leg h hrb
            simp only [hgl, Option.bind_some]
            cases decide (1 ≤ l[i].thing) && decide (l[i].thing ≤ 9999) with
            | false => simp
            | true =>
              cases decide (1 ≤ l[i].weight) && decide (l[i].weight ≤ 1000000) with
              | false => simp
              | true => cases decide (g.room < v) <;> simp
      by_cases hi0 : i = 0
      · refine hrest (pre := true) (by simp [hi0]) ?_
        simp only [m_impl_AreBookings_b0, decide_eq_true (show (i : Int) < l.length by omega), decide_eq_false (show ¬ 0 < (i : Int) by omega), cond_true, cond_false, hg, Option.bind_some, ht, within_eq, loadOf_eq, hv, hw, Bool.not_true]
      · have hw2 : w64 ((i : Int) - 1) = ((i - 1 : Nat) : Int) := by rw [w64_in (by omega)]; omega
        have hg2 : getI l ((i - 1 : Nat) : Int) = some l[i - 1] := by rw [getI_nat]; exact List.getElem?_eq_getElem (by omega)
        obtain ⟨cv, hcv, hc0⟩ := compare_v l[i - 1] l[i]
        refine hrest (pre := befB l[i - 1] l[i]) (by simp [hi0, List.getElem?_eq_getElem (show i - 1 < l.length by omega)]) ?_
        simp only [m_impl_AreBookings_b0, decide_eq_true (show (i : Int) < l.length by omega), decide_eq_true (show 0 < (i : Int) by omega), cond_true, cond_false, hg, hw2, hg2, hcv, hc0, Option.bind_some, ht, within_eq, loadOf_eq, hv, hw]
    rw [e0]
    cases (List.range l.length).all (fun i => bk1 n l i && bk2 n l i) <;> rfl
theorem areBookings_eq {n : YNetwork} (h : NetFit n) {l : List YBooking} (hl : l.length ≤ 1048576) : m_impl_AreBookings n l = m_spec_AreBookings n l := by rw [implBooks_v h hl, specBooks_v h hl]
end Go.Proofs.YtooikkfldddjfaaGreat

/- The mirror of impl.isState, and that the code does just that (printed by a program of my own). -/
namespace Go.Proofs.YtooikkfldddjfaaGreat
set_option maxRecDepth 10000
open Go.RowKit
set_option linter.unusedVariables false
set_option maxHeartbeats 16000000
def m_impl_isState (w : YWorld) (o : YOrder) : Option Bool :=
 cond (decide (0 < o.gone))
 ((getI o.way (w64 (o.gone - 1))).bind fun y1 =>
 (m_impl_ends w.network y1).bind fun y2 =>
 cond (decide (w.now < y2))
 (some false)
 ((getI w.network.legs y1.leg).bind fun y3 =>
 cond (decide (o.state = 1))
 (cond (decide (o.place = y3.to_))
 (cond (!decide (y3.to_ = o.to_))
 (cond (decide (o.ended = 0))
 (cond (decide (o.gone = (o.way.length : Int)))
 (some true)
 ((getI o.way o.gone).bind fun y4 =>
 (m_impl_starts w.network y4).bind fun y5 =>
 some (decide (w.now < y5))))
 (some false))
 (some false))
 (some false))
 (cond (decide (o.state = 2))
 (cond (decide (o.place = ⟨#[]⟩))
 (cond (decide (o.ended = 0))
 (cond (decide (o.gone < (o.way.length : Int)))
 ((getI o.way o.gone).bind fun y6 =>
 (m_impl_starts w.network y6).bind fun y7 =>
 cond (decide (y7 ≤ w.now))
 ((getI o.way o.gone).bind fun y8 =>
 (m_impl_ends w.network y8).bind fun y9 =>
 some (decide (w.now < y9)))
 (some false))
 (some false))
 (some false))
 (some false))
 (cond (decide (o.state = 3))
 (cond (decide (o.gone = (o.way.length : Int)))
 (cond (decide (0 < o.gone))
 (cond (decide (o.place = o.to_))
 (cond (decide (y3.to_ = o.to_))
 ((getI o.way (w64 (o.gone - 1))).bind fun y10 =>
 (m_impl_ends w.network y10).bind fun y11 =>
 some (decide (o.ended = y11)))
 (some false))
 (some false))
 (some false))
 (some false))
 (some false)))))
 (cond (decide (o.state = 1))
 (cond (decide (o.place = o.from_))
 (cond (!decide (o.from_ = o.to_))
 (cond (decide (o.ended = 0))
 (cond (decide (o.gone = (o.way.length : Int)))
 (some true)
 ((getI o.way o.gone).bind fun y12 =>
 (m_impl_starts w.network y12).bind fun y13 =>
 some (decide (w.now < y13))))
 (some false))
 (some false))
 (some false))
 (cond (decide (o.state = 2))
 (cond (decide (o.place = ⟨#[]⟩))
 (cond (decide (o.ended = 0))
 (cond (decide (o.gone < (o.way.length : Int)))
 ((getI o.way o.gone).bind fun y14 =>
 (m_impl_starts w.network y14).bind fun y15 =>
 cond (decide (y15 ≤ w.now))
 ((getI o.way o.gone).bind fun y16 =>
 (m_impl_ends w.network y16).bind fun y17 =>
 some (decide (w.now < y17)))
 (some false))
 (some false))
 (some false))
 (some false))
 (cond (decide (o.state = 3))
 (cond (decide (o.gone = (o.way.length : Int)))
 (cond (decide (0 < o.gone))
 (cond (decide (o.place = o.to_))
 (cond (decide (o.from_ = o.to_))
 ((getI o.way (w64 (o.gone - 1))).bind fun y18 =>
 (m_impl_ends w.network y18).bind fun y19 =>
 some (decide (o.ended = y19)))
 (some false))
 (some false))
 (some false))
 (some false))
 (some false))))
theorem ok_impl_isState (w : YWorld) (o : YOrder) {r : Bool} (H : m_impl_isState w o = some r) : CallM Tryz.prog 111 [.ag (cWorld w), .ag (cOrder o)] [] (vb r) [] := by
  replace H := H0 H
  unfold m_impl_isState at H
  refine callM_of Tryz.func111 rfl Tryz.ntmps111 Tryz.results111 fun Q hQ hQn => ?_
  exact wk
instance (w : YWorld) (o : YOrder) : CT Tryz.prog (m_impl_isState w o) := ⟨111, [.ag (cWorld w), .ag (cOrder o)], [], fun r => vb r, fun r => [], ok_impl_isState w o⟩
end Go.Proofs.YtooikkfldddjfaaGreat

/- The mirror of spec.l10State, and that the code does just that (printed by a program of my own). -/
namespace Go.Proofs.YtooikkfldddjfaaGreat
set_option maxRecDepth 10000
open Go.RowKit
set_option linter.unusedVariables false
set_option maxHeartbeats 16000000
def m_spec_l10State (n : YNetwork) (x : YOrder) (now : Int) : Option Bool :=
 cond (decide (0 < x.gone))
 ((getI x.way (w64 (x.gone - 1))).bind fun y1 =>
 (getI n.legs y1.leg).bind fun y2 =>
 (getI x.way (w64 (x.gone - 1))).bind fun y3 =>
 (m_spec_l3Ends n y3).bind fun y4 =>
 cond (decide (now < y4))
 (some false)
 (cond (decide (x.state = 1))
 (cond (decide (x.place = y2.to_))
 (cond (!decide (y2.to_ = x.to_))
 (cond (decide (x.ended = 0))
 (cond (decide (x.gone = (x.way.length : Int)))
 (some true)
 ((getI x.way x.gone).bind fun y5 =>
 (m_spec_l3Starts n y5).bind fun y6 =>
 some (decide (now < y6))))
 (some false))
 (some false))
 (some false))
 (cond (decide (x.state = 2))
 (cond (decide (x.place = ⟨#[]⟩))
 (cond (decide (x.ended = 0))
 (cond (decide (x.gone < (x.way.length : Int)))
 ((getI x.way x.gone).bind fun y7 =>
 (m_spec_l3Starts n y7).bind fun y8 =>
 cond (decide (y8 ≤ now))
 ((getI x.way x.gone).bind fun y9 =>
 (m_spec_l3Ends n y9).bind fun y10 =>
 some (decide (now < y10)))
 (some false))
 (some false))
 (some false))
 (some false))
 (cond (decide (x.state = 3))
 (cond (decide (x.place = x.to_))
 (cond (decide (y2.to_ = x.to_))
 (cond (decide (x.gone = (x.way.length : Int)))
 (cond (decide (0 < x.gone))
 ((getI x.way (w64 (x.gone - 1))).bind fun y11 =>
 (m_spec_l3Ends n y11).bind fun y12 =>
 some (decide (x.ended = y12)))
 (some false))
 (some false))
 (some false))
 (some false))
 (some false)))))
 (cond (decide (x.state = 1))
 (cond (decide (x.place = x.from_))
 (cond (!decide (x.from_ = x.to_))
 (cond (decide (x.ended = 0))
 (cond (decide (x.gone = (x.way.length : Int)))
 (some true)
 ((getI x.way x.gone).bind fun y13 =>
 (m_spec_l3Starts n y13).bind fun y14 =>
 some (decide (now < y14))))
 (some false))
 (some false))
 (some false))
 (cond (decide (x.state = 2))
 (cond (decide (x.place = ⟨#[]⟩))
 (cond (decide (x.ended = 0))
 (cond (decide (x.gone < (x.way.length : Int)))
 ((getI x.way x.gone).bind fun y15 =>
 (m_spec_l3Starts n y15).bind fun y16 =>
 cond (decide (y16 ≤ now))
 ((getI x.way x.gone).bind fun y17 =>
 (m_spec_l3Ends n y17).bind fun y18 =>
 some (decide (now < y18)))
 (some false))
 (some false))
 (some false))
 (some false))
 (cond (decide (x.state = 3))
 (cond (decide (x.place = x.to_))
 (cond (decide (x.from_ = x.to_))
 (cond (decide (x.gone = (x.way.length : Int)))
 (cond (decide (0 < x.gone))
 ((getI x.way (w64 (x.gone - 1))).bind fun y19 =>
 (m_spec_l3Ends n y19).bind fun y20 =>
 some (decide (x.ended = y20)))
 (some false))
 (some false))
 (some false))
 (some false))
 (some false))))
theorem ok_spec_l10State (n : YNetwork) (x : YOrder) (now : Int) {r : Bool} (H : m_spec_l10State n x now = some r) : CallM Tryz.prog 96 [.ag (cNetwork n), .ag (cOrder x), vi now] [] (vb r) [] := by
  replace H := H0 H
  unfold m_spec_l10State at H
  refine callM_of Tryz.func96 rfl Tryz.ntmps96 Tryz.results96 fun Q hQ hQn => ?_
  exact wk
instance (n : YNetwork) (x : YOrder) (now : Int) : CT Tryz.prog (m_spec_l10State n x now) := ⟨96, [.ag (cNetwork n), .ag (cOrder x), vi now], [], fun r => vb r, fun r => [], ok_spec_l10State n x now⟩
end Go.Proofs.YtooikkfldddjfaaGreat

/- The mirror of impl.toCome, and that the code does just that (printed by a program of my own). -/
namespace Go.Proofs.YtooikkfldddjfaaGreat
set_option maxRecDepth 10000
open Go.RowKit
set_option linter.unusedVariables false
set_option maxHeartbeats 16000000
def m_impl_toCome (o : YOrder) : Option Int :=
 cond (decide (o.state = 2))
 (some (if (o.way.length : Int) < (w64 (o.gone + 1)) then (o.way.length : Int) else (w64 (o.gone + 1))))
 (some o.gone)
theorem ok_impl_toCome (o : YOrder) {r : Int} (H : m_impl_toCome o = some r) : CallM Tryz.prog 109 [.ag (cOrder o)] [] (vi r) [] := by
  replace H := H0 H
  unfold m_impl_toCome at H
  refine callM_of Tryz.func109 rfl Tryz.ntmps109 Tryz.results109 fun Q hQ hQn => ?_
  exact wk
instance (o : YOrder) : CT Tryz.prog (m_impl_toCome o) := ⟨109, [.ag (cOrder o)], [], fun r => vi r, fun r => [], ok_impl_toCome o⟩
end Go.Proofs.YtooikkfldddjfaaGreat

/- The mirror of impl.isAt, and that the code does just that (printed by a program of my own). -/
namespace Go.Proofs.YtooikkfldddjfaaGreat
set_option maxRecDepth 10000
open Go.RowKit
set_option linter.unusedVariables false
set_option maxHeartbeats 16000000
def m_impl_isAt (w : YWorld) (o : YOrder) : Option ByteArray :=
 cond (decide (o.state = 2))
 ((getI o.way o.gone).bind fun y1 =>
 (getI w.network.legs y1.leg).bind fun y2 =>
 some y2.to_)
 (some o.place)
theorem ok_impl_isAt (w : YWorld) (o : YOrder) {r : ByteArray} (H : m_impl_isAt w o = some r) : CallM Tryz.prog 117 [.ag (cWorld w), .ag (cOrder o)] [] (vs r) [] := by
  replace H := H0 H
  unfold m_impl_isAt at H
  refine callM_of Tryz.func117 rfl Tryz.ntmps117 Tryz.results117 fun Q hQ hQn => ?_
  exact wk
instance (w : YWorld) (o : YOrder) : CT Tryz.prog (m_impl_isAt w o) := ⟨117, [.ag (cWorld w), .ag (cOrder o)], [], fun r => vs r, fun r => [], ok_impl_isAt w o⟩
end Go.Proofs.YtooikkfldddjfaaGreat

/- The mirror of impl.isStranded, and that the code does just that (printed by a program of my own). -/
namespace Go.Proofs.YtooikkfldddjfaaGreat
set_option maxRecDepth 10000
open Go.RowKit
set_option linter.unusedVariables false
set_option maxHeartbeats 16000000
def m_impl_isStranded (w : YWorld) (o : YOrder) : Option Bool :=
 cond (!decide (o.state = 3))
 ((m_impl_toCome o).bind fun y1 =>
 cond (decide (y1 = (o.way.length : Int)))
 ((m_impl_isAt w o).bind fun y2 =>
 some (!decide (y2 = o.to_)))
 (some false))
 (some false)
theorem ok_impl_isStranded (w : YWorld) (o : YOrder) {r : Bool} (H : m_impl_isStranded w o = some r) : CallM Tryz.prog 66 [.ag (cWorld w), .ag (cOrder o)] [] (vb r) [] := by
  replace H := H0 H
  unfold m_impl_isStranded at H
  refine callM_of Tryz.func66 rfl Tryz.ntmps66 Tryz.results66 fun Q hQ hQn => ?_
  exact wk
instance (w : YWorld) (o : YOrder) : CT Tryz.prog (m_impl_isStranded w o) := ⟨66, [.ag (cWorld w), .ag (cOrder o)], [], fun r => vb r, fun r => [], ok_impl_isStranded w o⟩
end Go.Proofs.YtooikkfldddjfaaGreat

/- The mirror of spec.l10Coming, and that the code does just that (printed by a program of my own). -/
namespace Go.Proofs.YtooikkfldddjfaaGreat
set_option maxRecDepth 10000
open Go.RowKit
set_option linter.unusedVariables false
set_option maxHeartbeats 16000000
def m_spec_l10Coming (x : YOrder) : Option Int :=
 cond (decide (x.state = 2))
 (some (w64 (x.gone + 1)))
 (some x.gone)
theorem ok_spec_l10Coming (x : YOrder) {r : Int} (H : m_spec_l10Coming x = some r) : CallM Tryz.prog 97 [.ag (cOrder x)] [] (vi r) [] := by
  replace H := H0 H
  unfold m_spec_l10Coming at H
  refine callM_of Tryz.func97 rfl Tryz.ntmps97 Tryz.results97 fun Q hQ hQn => ?_
  exact wk
instance (x : YOrder) : CT Tryz.prog (m_spec_l10Coming x) := ⟨97, [.ag (cOrder x)], [], fun r => vi r, fun r => [], ok_spec_l10Coming x⟩
end Go.Proofs.YtooikkfldddjfaaGreat

/- The mirror of spec.l10Here, and that the code does just that (printed by a program of my own). -/
namespace Go.Proofs.YtooikkfldddjfaaGreat
set_option maxRecDepth 10000
open Go.RowKit
set_option linter.unusedVariables false
set_option maxHeartbeats 16000000
def m_spec_l10Here (n : YNetwork) (x : YOrder) : Option ByteArray :=
 cond (decide (x.state = 2))
 ((getI x.way x.gone).bind fun y1 =>
 (getI n.legs y1.leg).bind fun y2 =>
 some y2.to_)
 (some x.place)
theorem ok_spec_l10Here (n : YNetwork) (x : YOrder) {r : ByteArray} (H : m_spec_l10Here n x = some r) : CallM Tryz.prog 116 [.ag (cNetwork n), .ag (cOrder x)] [] (vs r) [] := by
  replace H := H0 H
  unfold m_spec_l10Here at H
  refine callM_of Tryz.func116 rfl Tryz.ntmps116 Tryz.results116 fun Q hQ hQn => ?_
  exact wk
instance (n : YNetwork) (x : YOrder) : CT Tryz.prog (m_spec_l10Here n x) := ⟨116, [.ag (cNetwork n), .ag (cOrder x)], [], fun r => vs r, fun r => [], ok_spec_l10Here n x⟩
end Go.Proofs.YtooikkfldddjfaaGreat

/- The mirror of spec.l10Stranded, and that the code does just that (printed by a program of my own). -/
namespace Go.Proofs.YtooikkfldddjfaaGreat
set_option maxRecDepth 10000
open Go.RowKit
set_option linter.unusedVariables false
set_option maxHeartbeats 16000000
def m_spec_l10Stranded (w : YWorld) (i : Int) : Option Bool :=
 (getI w.orders i).bind fun y1 =>
 cond (!decide (y1.state = 3))
 ((m_spec_l10Coming y1).bind fun y2 =>
 cond (decide (y2 = (y1.way.length : Int)))
 ((m_spec_l10Here w.network y1).bind fun y3 =>
 some (!decide (y3 = y1.to_)))
 (some false))
 (some false)
theorem ok_spec_l10Stranded (w : YWorld) (i : Int) {r : Bool} (H : m_spec_l10Stranded w i = some r) : CallM Tryz.prog 64 [.ag (cWorld w), vi i] [] (vb r) [] := by
  replace H := H0 H
  unfold m_spec_l10Stranded at H
  refine callM_of Tryz.func64 rfl Tryz.ntmps64 Tryz.results64 fun Q hQ hQn => ?_
  exact wk
instance (w : YWorld) (i : Int) : CT Tryz.prog (m_spec_l10Stranded w i) := ⟨64, [.ag (cWorld w), vi i], [], fun r => vb r, fun r => [], ok_spec_l10Stranded w i⟩
end Go.Proofs.YtooikkfldddjfaaGreat

/- The mirror of impl.placeAt, and that the code does just that (printed by a program of my own). -/
namespace Go.Proofs.YtooikkfldddjfaaGreat
set_option maxRecDepth 10000
open Go.RowKit
set_option linter.unusedVariables false
set_option maxHeartbeats 16000000
def m_impl_placeAt_b0 (places : List ByteArray) (s : ByteArray) (s0 : Int) : Option (Int ⊕ (Unit ⊕ Int)) :=
 cond (decide (s0 < (places.length : Int)))
 ((getI places s0).bind fun y1 =>
 cond (decide (y1 = s))
 (some (.inr (.inr s0)))
 (some (.inl (w64 (s0 + 1)))))
 (some (.inr (.inl ())))
instance (places : List ByteArray) (s : ByteArray) : LoopE (m_impl_placeAt_b0 places s) := ⟨fun s0 => [.un, vs s, .un, .un, .un, .un, .un, .sl (places.map cStr), vi (places.length : Int), vi s0, .un, .un, .un, .un, .un, .un, .un, .un, .un], fun s0 => []⟩
def m_impl_placeAt (places : List ByteArray) (s : ByteArray) : Option Int :=
 (iterF (m_impl_placeAt_b0 places s) NN 0).bind (selim (fun o0 =>
 some (-1)) (fun r => some r))
theorem ok_impl_placeAt (places : List ByteArray) (s : ByteArray) {r : Int} (H : m_impl_placeAt places s = some r) : CallM Tryz.prog 105 [.sl (places.map cStr), vs s] [] (vi r) [] := by
  replace H := H0 H
  unfold m_impl_placeAt at H
  refine callM_of Tryz.func105 rfl Tryz.ntmps105 Tryz.results105 fun Q hQ hQn => ?_
  exact wk
instance (places : List ByteArray) (s : ByteArray) : CT Tryz.prog (m_impl_placeAt places s) := ⟨105, [.sl (places.map cStr), vs s], [], fun r => vi r, fun r => [], ok_impl_placeAt places s⟩
end Go.Proofs.YtooikkfldddjfaaGreat

/- The mirror of spec.l4Index, and that the code does just that (printed by a program of my own). -/
namespace Go.Proofs.YtooikkfldddjfaaGreat
set_option maxRecDepth 10000
open Go.RowKit
set_option linter.unusedVariables false
set_option maxHeartbeats 16000000
def m_spec_l4Index_b0 (l : List ByteArray) (p : ByteArray) (s0 : Int) : Option (Int ⊕ (Unit ⊕ Int)) :=
 cond (decide (s0 < (l.length : Int)))
 ((getI l s0).bind fun y1 =>
 cond (decide (y1 = p))
 (some (.inr (.inr s0)))
 (some (.inl (w64 (s0 + 1)))))
 (some (.inr (.inl ())))
instance (l : List ByteArray) (p : ByteArray) : LoopE (m_spec_l4Index_b0 l p) := ⟨fun s0 => [.sl (l.map cStr), vs p, .un, .un, .un, vi s0, .un, .un, .un, .un, .un, .un, .un, .un, .un, .un, .un, .un, .un], fun s0 => []⟩
def m_spec_l4Index (l : List ByteArray) (p : ByteArray) : Option Int :=
 (iterF (m_spec_l4Index_b0 l p) NN 0).bind (selim (fun o0 =>
 some (-1)) (fun r => some r))
theorem ok_spec_l4Index (l : List ByteArray) (p : ByteArray) {r : Int} (H : m_spec_l4Index l p = some r) : CallM Tryz.prog 91 [.sl (l.map cStr), vs p] [] (vi r) [] := by
  replace H := H0 H
  unfold m_spec_l4Index at H
  refine callM_of Tryz.func91 rfl Tryz.ntmps91 Tryz.results91 fun Q hQ hQn => ?_
  exact wk
instance (l : List ByteArray) (p : ByteArray) : CT Tryz.prog (m_spec_l4Index l p) := ⟨91, [.sl (l.map cStr), vs p], [], fun r => vi r, fun r => [], ok_spec_l4Index l p⟩
end Go.Proofs.YtooikkfldddjfaaGreat

/- The two sides' functions on an order's state answer alike. -/
namespace Go.Proofs.YtooikkfldddjfaaGreat
set_option maxRecDepth 10000
open Go.RowKit
set_option linter.unusedVariables false
set_option linter.unusedSimpArgs false
theorem placeAt_eq : @m_impl_placeAt = @m_spec_l4Index := rfl
theorem here_eq (w : YWorld) (o : YOrder) : m_impl_isAt w o = m_spec_l10Here w.network o := rfl
theorem ends_none {n : YNetwork} {t : YTrip} (h : getI n.legs t.leg = none) : m_spec_l3Ends n t = none := by
  unfold m_spec_l3Ends m_spec_l3Starts; rw [h]; rfl
theorem ends_some {n : YNetwork} {t : YTrip} {y : YLeg} (h : getI n.legs t.leg = some y) : ∃ v, m_spec_l3Ends n t = some v := by
  unfold m_spec_l3Ends m_spec_l3Starts; rw [h]; exact ⟨_, rfl⟩
theorem state_eq (w : YWorld) (o : YOrder) : m_impl_isState w o = m_spec_l10State w.network o w.now := by
  unfold m_impl_isState m_spec_l10State
  rw [ends_eq, starts_eq]
  cases decide (0 < o.gone) with
  | false =>
    simp only [cond_false]
    cases decide (o.state = 1) <;> cases decide (o.state = 2) <;> cases decide (o.state = 3) <;> try rfl
    all_goals cases decide (o.gone = (o.way.length : Int)) <;> cases decide (o.place = o.to_) <;> cases decide (o.from_ = o.to_) <;> rfl
  | true =>
    simp only [cond_true]
    cases hg : getI o.way (w64 (o.gone - 1)) with
    | none => rfl
    | some y1 =>
      simp only [Option.bind_some, hg]
      cases hl : getI w.network.legs y1.leg with
      | none => rw [ends_none hl]; rfl
      | some y2 =>
        obtain ⟨v, hv⟩ := ends_some hl
        simp only [hv, Option.bind_some]
        cases decide (w.now < v) <;> try rfl
        simp only [cond_false]
        cases decide (o.state = 1) <;> cases decide (o.state = 2) <;> cases decide (o.state = 3) <;> try rfl
        all_goals cases decide (o.gone = (o.way.length : Int)) <;> cases decide (o.place = o.to_) <;> cases decide (y2.to_ = o.to_) <;> rfl
end Go.Proofs.YtooikkfldddjfaaGreat

/- append onto a slice of the call's own, the source any slice that reads as_ a list. No program in sight. -/
namespace Go.Proofs.YtooikkfldddjfaaGreat
set_option maxRecDepth 10000
open Go.RowKit

/-- The facts on a slice type and its element type that append asks. -/
structure ElT (P : Program) (t e : TypeId) (k bytes : Nat) : Prop where
  ht : P.underlying t = some (.slice e)
  info : ∃ i z, P.info? e = some i ∧ i.zero = some z ∧ i.size = k ∧ i.bytes = bytes ∧ z.cells.size = k
theorem ElT.mk' {P : Program} {t e : TypeId} {k bytes : Nat} {z : Value} (ht : P.underlying t = some (.slice e)) (h : (P.info? e).map (fun i => (i.zero, i.size, i.bytes)) = some (some z, k, bytes)) (hz : z.cells.size = k) : ElT P t e k bytes := by
  obtain ⟨i, h1, h2, h3, h4⟩ := info_parts h
  exact ⟨ht, i, z, h1, h2, h3, h4, hz⟩

theorem Own.form {α : Type} [Enc α] {w : World} {B E : Nat} {v : Value} {xs : List α} (h : Own w B E v xs) : ∃ A c, v = .slice A xs.length c ∧ xs.length ≤ c ∧ c ≤ maxLen := by
  rcases h.2 with ⟨hv, h0⟩ | ⟨g, cap, cur, hv, _, _, hnc, hcm, _⟩
  · exact ⟨none, 0, by rw [hv, h0], by omega, by unfold maxLen; omega⟩
  · exact ⟨_, cap, hv, hnc, hcm⟩
theorem Own.nil_ {α : Type} [Enc α] (w : World) (B E : Nat) : Own w B E (.slice none 0 0) ([] : List α) := World.ownsRow_nil _ _ _ _
theorem Own.empty {α : Type} [Enc α] (w : World) (B E c : Nat) (cur : Array Value) (hB : B ≤ w.heap.size) (hm : c ≤ maxLen) (hs : cur.size = c * Enc.k α) :
    Own (w.alloc (.cells cur E)) B E (.slice (some ⟨w.heap.size, 0, none⟩) 0 c) ([] : List α) := World.ownsRow_made w cur c hB hm hs
theorem Own.more {α : Type} [Enc α] {w : World} {B B' E : Nat} {v : Value} {xs : List α} (h : Own w B E v xs) (hB : B' ≤ B) : Own w B' E v xs := by
  refine ⟨h.1, ?_⟩
  rcases h.2 with h2 | ⟨g, cap, cur, hv, hb, r⟩
  · exact .inl h2
  · exact .inr ⟨g, cap, cur, hv, by omega, r⟩
theorem Own.down {α : Type} [Enc α] {w0 W w : World} {E : Nat} {v : Value} {xs : List α} (h : Own w W.heap.size E v xs) (hu : Up w0 W) : Own w w0.heap.size E v xs := h.more hu.size
theorem Up.le {w0 w : World} (h : Up w0 w) : w0.heap.size ≤ w.heap.size := h.size
theorem Own.grown {α : Type} [Enc α] {w w' : World} {B E : Nat} {v : Value} {xs : List α} {row : Option Nat} (h : Own w B E v xs) (hg : w.grownBy w' row) (hne : v.ownBlock = none ∨ v.ownBlock ≠ row) : Own w' B E v xs :=
  World.ownsRow.kept h hg hne
/-- A fresh slice of one element, as_ append's last argument is laid. -/
theorem Rd.one {α : Type} [Enc α] (w : World) (T : TypeId) (x : α) (B : Nat) (hB : w.heap.size < B) : Rd (w.alloc (.cells (Enc.cells x).toArray T)) B (some ⟨w.heap.size, 0, none⟩) [x] := by
  intro _
  refine ⟨w.heap.size, 0, rfl, hB, fun j u hu => ?_⟩
  rw [flat_one] at hu
  rw [Nat.zero_add, cell_of_row _ _ j _ T (0, 0) (heap_alloc_new w _)]
  simpa using hu

/-- The row at a block, as_ a loop that writes into it sees it: its first m cells are ys's. -/
def Marking (w0 w : World) (B E k : Nat) (g n cap m : Nat) (ys : List Value) : Prop :=
  ∃ cs : List Value, w.ownsRow B E k (.slice (some ⟨g, 0, none⟩) n cap) n cs ∧ cs.take m = ys.take m ∧ w0.grownBy w (some g)
theorem Marking.start {w : World} {B E k g n cap : Nat} {cs ys : List Value} (h : w.ownsRow B E k (.slice (some ⟨g, 0, none⟩) n cap) n cs) : Marking w w B E k g n cap 0 ys :=
  ⟨cs, h, by simp, ⟨rfl, rfl, rfl, Nat.le_refl _, fun _ _ _ => rfl⟩⟩
theorem Marking.cell {w0 w : World} {B E k g n cap m : Nat} {ys : List Value} (h : Marking w0 w B E k g n cap m ys) {j : Nat} (hj : j < n * k) : ∃ u, w.cell? ⟨g, j, none⟩ = some u := by
  obtain ⟨cs, ho, _⟩ := h
  have hl : cs.length = n * k := ho.1
  exact ⟨cs[j]'(by omega), by rw [ho.cellAt j hj]; exact List.getElem?_eq_getElem _⟩
theorem Marking.frozen {w0 w : World} {B E k g n cap m : Nat} {ys : List Value} (h : Marking w0 w B E k g n cap m ys) (j : Nat) : w.frozen? ⟨g, j, none⟩ = false := by
  obtain ⟨cs, ho, _⟩ := h
  exact ho.frozenAt j
theorem grownBy_trans {a b c : World} {row : Option Nat} (h : a.grownBy b row) (k : b.grownBy c row) : a.grownBy c row :=
  ⟨k.os.trans h.os, k.tape.trans h.tape, k.output.trans h.output, Nat.le_trans h.size k.size, fun i hi hne => (k.block i (Nat.lt_of_lt_of_le hi h.size) hne).trans (h.block i hi hne)⟩
theorem Marking.set1 {w0 w : World} {B E k g n cap m : Nat} {ys : List Value} {v : Value} (h : Marking w0 w B E k g n cap m ys) (hm : m < n * k) (hy : ys[m]? = some v) :
    Marking w0 (w.setCell ⟨g, m, none⟩ v) B E k g n cap (m + 1) ys := by
  obtain ⟨cs, ho, ht, hg⟩ := h
  have hl : cs.length = n * k := ho.1
  obtain ⟨h1, h2⟩ := ho.stored m v
  exact ⟨cs.set m v, h1, take_set_succ (by omega) hy ht, grownBy_trans hg h2⟩
theorem Marking.drewN {w0 w : World} {B E k g n cap m : Nat} {ys : List Value} (h : Marking w0 w B E k g n cap m ys) (q : Nat) : Marking w0 (w.drewN q) B E k g n cap m ys := by
  obtain ⟨cs, ho, ht, hg⟩ := h
  exact ⟨cs, ho, ht, ⟨hg.os, hg.tape, hg.output, hg.size, hg.block⟩⟩
theorem Marking.own {α : Type} [Enc α] {w0 w : World} {B E g n cap : Nat} {ys : List α} (h : Marking w0 w B E (Enc.k α) g n cap (n * Enc.k α) (flat ys)) (hn : ys.length = n) : Own w B E (.slice (some ⟨g, 0, none⟩) n cap) ys ∧ w0.grownBy w (some g) := by
  obtain ⟨cs, ho, ht, hg⟩ := h
  have hl : cs.length = n * Enc.k α := ho.1
  have e1 : (flat ys).take (n * Enc.k α) = flat ys := List.take_of_length_le (by rw [flat_len, hn]; exact Nat.le_refl _)
  rw [e1, List.take_of_length_le (by omega)] at ht
  subst ht
  refine ⟨?_, hg⟩
  unfold Own
  rw [hn]
  exact ho
theorem Own.sep1 {α β : Type} [Enc α] [Enc β] {w w' we : World} {B E Bx Ex : Nat} {v vx : Value} {xs : List α} {ys : List β} (hv : Own w B E v xs) (hx : Own we Bx Ex vx ys) (hle : we.heap.size ≤ B) (hg : w.grownBy w' vx.ownBlock) : Own w' B E v xs := by
  refine hv.grown hg ?_
  cases hb : v.ownBlock with
  | none => exact .inl rfl
  | some k =>
    refine .inr fun e => ?_
    have h1 := (World.ownsRow.lt hv k hb).1
    have h2 := (World.ownsRow.lt hx k e.symm).2
    omega
theorem Own.sep2 {α β : Type} [Enc α] [Enc β] {w w' we : World} {B B' E Bx Ex : Nat} {v vx : Value} {xs xs' : List α} {ys : List β} (hv : Own w B E v xs) (hv0 : Own we B' E v xs') (hx : Own w Bx Ex vx ys) (hle : we.heap.size ≤ Bx) (hg : w.grownBy w' vx.ownBlock) : Own w' B E v xs := by
  refine hv.grown hg ?_
  cases hb : v.ownBlock with
  | none => exact .inl rfl
  | some k =>
    refine .inr fun e => ?_
    have h1 := (World.ownsRow.lt hv0 k hb).2
    have h2 := (World.ownsRow.lt hx k e.symm).1
    omega
theorem addr_add (b o j : Nat) : (⟨b, o, none⟩ : Addr).add j = ⟨b, o + j, none⟩ := by unfold Addr.add; split <;> simp_all

theorem run_append_nil_src {α : Type} [Enc α] {P : Program} (w : World) {t ty e : Nat} {i : TypeInfo} (ht : P.underlying t = some (.slice e)) (hi : P.info? e = some i) {base : Nat} {v : Value} {ys : List α} (hown : Own w base e v ys) (c : Nat) :
    (Builtin.append_ #[t, t] ty #[v, .slice none 0 c]).run P w = .ok v w := by
  rcases hown.2 with ⟨rfl, h0⟩ | ⟨g, cap, cur, rfl, _, _, hnc, _⟩
  · simp [Builtin.append_, run_underlying ht, sizeOf, typeInfo, hi, Builtin.lenOf, Builtin.firstCells]
  · simp [Builtin.append_, run_underlying ht, sizeOf, typeInfo, hi, Builtin.lenOf, Builtin.firstCells, hnc, storeCells]
theorem run_append_rd {α : Type} [Enc α] {P : Program} (w : World) {t ty e bytes : Nat} (T : ElT P t e (Enc.k α) bytes) {base : Nat} {v : Value} {ys : List α} (hown : Own w base e v ys)
    {B : Nat} {A : Option Addr} {c : Nat} {xs : List α} (hr : Rd w B A xs) (hbytes : (ys.length + xs.length) * bytes ≤ 140737488355328) (h63 : ys.length + xs.length ≤ maxLen) (hbase : base ≤ w.heap.size) :
    ∃ v' w', (Builtin.append_ #[t, t] ty #[v, .slice A xs.length c]).run P w = .ok v' w' ∧ Own w' base e v' (ys ++ xs) ∧ w.grownBy w' v.ownBlock ∧ (v'.ownBlock = v.ownBlock ∨ v'.ownBlock = some w.heap.size) := by
  obtain ⟨i, z, hi, hz, hs, hb, hzs⟩ := T.info
  cases A with
  | none =>
    have hx : xs = [] := by
      rcases Classical.em (xs = []) with h | h
      · exact h
      · obtain ⟨_, _, h', _⟩ := hr h
        cases h'
    subst hx
    have hrun := run_append_nil_src (P := P) w (ty := ty) T.ht hi hown c
    exact ⟨v, w, by simpa using hrun, by simpa using hown, ⟨rfl, rfl, rfl, Nat.le_refl _, fun _ _ _ => rfl⟩, .inl rfl⟩
  | some ad =>
    have hnews : ∀ j u, (flat xs)[j]? = some u → w.cell? (ad.add j) = some u := by
      intro j u hu
      have hne : xs ≠ [] := by rintro rfl; simp [flat] at hu
      obtain ⟨b, off, hA', _, hc⟩ := hr hne
      injection hA' with hA'
      subst hA'
      rw [addr_add]
      exact hc j u hu
    obtain ⟨v', w', hrun, h2, h3, _, h5⟩ := run_append_own_at (P := P) w base t ty e i z (Enc.k α) bytes T.ht hi hz hs hb hzs Enc.pos v ys.length (flat ys) hown ad xs.length c (flat xs) (flat_len xs) hnews (flat_oneCell xs) h63 hbytes hbase
    refine ⟨v', w', hrun, ?_, h3, h5⟩
    have e1 : (ys ++ xs).length = ys.length + xs.length := List.length_append
    unfold Own
    rw [e1, flat_append]
    exact h2

theorem Up.grown' {α : Type} [Enc α] {w0 w w' : World} {base e : Nat} {v : Value} {ys : List α} (h : Up w0 w) (hg : w.grownBy w' v.ownBlock) (hown : Own w base e v ys) (hb : w0.heap.size ≤ base) : Up w0 w' :=
  Below.grown h hg h.size (fun k hk => Nat.le_trans hb (World.ownsRow.lt hown k hk).1)

theorem wp_append_rd {α : Type} [Enc α] {P : Program} {w : World} {o : Oper} {a : Act} {K : Act → World → Prop} {Q : Exit → Act → World → Prop} {t e bytes : Nat} (T : ElT P t e (Enc.k α) bytes)
    (s x : Operand) (ho : o.op = .call { callee := .builtin .append, args := #[s, x], argTypes := #[t, t] })
    {base : Nat} {v : Value} {ys : List α} (hs : a.eval s = v) (hown : Own w base e v ys)
    {B : Nat} {A : Option Addr} {c : Nat} {xs : List α} (n : Nat) (hx : a.eval x = .slice A n c) (hn : n = xs.length) (hr : Rd w B A xs)
    (hbytes : (ys.length + xs.length) * bytes ≤ 140737488355328) (h63 : ys.length + xs.length ≤ maxLen) (hbase : base ≤ w.heap.size)
    (h : ∀ v' w', Own w' base e v' (ys ++ xs) → w.grownBy w' v.ownBlock → (v'.ownBlock = v.ownBlock ∨ v'.ownBlock = some w.heap.size) → (∀ w0, w0.heap.size ≤ base → Up w0 w → Up w0 w') → K (a.put o.dst v') w') :
    o.wp P a w K Q := by
  subst hn
  obtain ⟨v', w', hrun, h2, h3, h4⟩ := run_append_rd (P := P) w (ty := o.type) (c := c) T hown hr hbytes h63 hbase
  unfold Oper.wp execOp
  simp only [ho, resolve, invoke, builtin, Sem.run_bind, Sem.run_pure, Result.andThen_ok, List.map_toArray, List.map_cons, List.map_nil, hs, hx, hrun]
  exact h v' w' h2 h3 h4 fun w0 hb hu => Up.grown' hu h3 hown hb
theorem wpList_append_rd {α : Type} [Enc α] {P : Program} {w : World} {ops : Array Oper} {rest : List Oper} {o : Oper} {a : Act} {Q : Exit → Act → World → Prop} {t e bytes : Nat} (T : ElT P t e (Enc.k α) bytes)
    (hgd : o.guard = none) (s x : Operand) (ho : o.op = .call { callee := .builtin .append, args := #[s, x], argTypes := #[t, t] })
    {base : Nat} {v : Value} {ys : List α} (hs : a.eval s = v) (hown : Own w base e v ys)
    {B : Nat} {A : Option Addr} {c : Nat} {xs : List α} (n : Nat) (hx : a.eval x = .slice A n c) (hn : n = xs.length) (hr : Rd w B A xs)
    (hbytes : (ys.length + xs.length) * bytes ≤ 140737488355328) (h63 : ys.length + xs.length ≤ maxLen) (hbase : base ≤ w.heap.size)
    (h : ∀ v' w', Own w' base e v' (ys ++ xs) → w.grownBy w' v.ownBlock → (v'.ownBlock = v.ownBlock ∨ v'.ownBlock = some w.heap.size) → (∀ w0, w0.heap.size ≤ base → Up w0 w → Up w0 w') → wpList P ops Q rest (a.put o.dst v') w') :
    wpList P ops Q (o :: rest) a w :=
  wpList_plain hgd fun _ hK => wp_append_rd T s x ho hs hown n hx hn hr hbytes h63 hbase fun v' w' h2 h3 h4 h5 => hK _ _ (h v' w' h2 h3 h4 h5)
theorem step_append_rd {α : Type} [Enc α] {P : Program} {w : World} {ops : Array Oper} {o : Oper} {a : Act} {K : Act → World → Prop} {Q : Exit → Act → World → Prop} {E : Prop} {t e bytes : Nat} (T : ElT P t e (Enc.k α) bytes)
    (hgd : o.guard = none) (s x : Operand) (ho : o.op = .call { callee := .builtin .append, args := #[s, x], argTypes := #[t, t] })
    {base : Nat} {v : Value} {ys : List α} (hs : a.eval s = v) (hown : Own w base e v ys)
    {B : Nat} {A : Option Addr} {c : Nat} {xs : List α} (n : Nat) (hx : a.eval x = .slice A n c) (hn : n = xs.length) (hr : Rd w B A xs)
    (hbytes : (ys.length + xs.length) * bytes ≤ 140737488355328) (h63 : ys.length + xs.length ≤ maxLen) (hbase : base ≤ w.heap.size)
    (h : ∀ v' w', Own w' base e v' (ys ++ xs) → w.grownBy w' v.ownBlock → (v'.ownBlock = v.ownBlock ∨ v'.ownBlock = some w.heap.size) → (∀ w0, w0.heap.size ≤ base → Up w0 w → Up w0 w') → K (a.put o.dst v') w') :
    if Region.wanted o (yielded ops a.tmps) = true then Oper.wp P o a w K Q else E := by
  rw [if_pos (by simp [Region.wanted, hgd])]
  exact wp_append_rd T s x ho hs hown n hx hn hr hbytes h63 hbase h
end Go.Proofs.YtooikkfldddjfaaGreat

/- A set of strings that a call keeps to itself; names without repeats. -/
namespace Go.Proofs.YtooikkfldddjfaaGreat
set_option maxRecDepth 10000
open Go.RowKit Go.Maps Go.WideMaps
set_option linter.unusedVariables false
set_option linter.unusedSimpArgs false
instance : Enc ByteArray where
  cells x := [.string x]
  k := 1
  len _ := rfl
  pos := by decide
  one := by simp [Value.oneCell']
theorem flat_strs (ls : List ByteArray) : flat ls = ls.map Value.string := by
  induction ls with
  | nil => rfl
  | cons x xs ih => rw [flat_cons, ih]; rfl
def inL (S : List ByteArray) (s : ByteArray) : Bool := S.any fun y => decide (y = s)
theorem inL_iff {S : List ByteArray} {s : ByteArray} : inL S s = true ↔ s ∈ S := by simp [inL]
theorem inL_snoc (S : List ByteArray) (s s' : ByteArray) : inL (S ++ [s]) s' = (inL S s' || decide (s = s')) := by simp [inL]
def dd (out : List ByteArray) (s : ByteArray) : List ByteArray := if inL out s = true then out else out ++ [s]
def namesOf (n : YNetwork) : List ByteArray := n.legs.flatMap fun l => [l.from_, l.to_]
theorem grown_cell {w w' : World} {row : Option Nat} (h : w.grownBy w' row) {b o : Nat} (hb : b < w.heap.size) (hne : some b ≠ row) : w'.cell? ⟨b, o, none⟩ = w.cell? ⟨b, o, none⟩ := by simp [World.cell?, h.block b hb hne]
theorem Rd.oneAt {α : Type} [Enc α] (w : World) (T : TypeId) (x : α) (H : Nat) (hH : w.heap.size = H) : Rd (w.alloc (.cells (Enc.cells x).toArray T)) (H + 1) (some ⟨H, 0, none⟩) [x] := by
  subst hH
  exact Rd.one w T x _ (Nat.lt_succ_self _)
theorem al_cell {w : World} {b o : Nat} {u : Value} {ob : Obj} (h : w.cell? ⟨b, o, none⟩ = some u) : (w.alloc ob).cell? ⟨b, o, none⟩ = some u :=
  ((Up.al ob (Up.rfl' w)).cell (p := ⟨b, o, none⟩) (World.block_lt_of_cell? _ _ h)).trans h
/-- Block b is a set of at most n strings: S. -/
def SetM (P : Program) (k e : TypeId) (w : World) (b n : Nat) (S : List ByteArray) : Prop :=
  ∃ D : DataW Unit, w.ownsMap P k (plainElem P e) b n D ∧ IsMap D ∧ ∀ s : ByteArray, D.atKey (.string s.data.toList) (.lit (.bool false)) = .lit (.bool (inL S s))
section
variable {P : Program} {k e : TypeId} {w : World} {b n : Nat} {S : List ByteArray}
theorem SetM.made (w : World) : SetM P k e (w.alloc (.map #[] 0)) w.heap.size 0 [] :=
  ⟨_, World.ownsMap_made w P k _, isMap_empty, fun s => by simp [DataW.atKey, inL]⟩
theorem SetM.kept {w' : World} {row : Option Nat} (h : SetM P k e w b n S) (hg : w.grownBy w' row) (hne : some b ≠ row) : SetM P k e w' b n S := by
  obtain ⟨D, h1, h2⟩ := h; exact ⟨D, h1.kept hg hne, h2⟩
theorem SetM.alloc (h : SetM P k e w b n S) (o : Obj) : SetM P k e (w.alloc o) b n S := by
  obtain ⟨D, h1, h2⟩ := h; exact ⟨D, h1.alloc o, h2⟩
theorem SetM.setCell (h : SetM P k e w b n S) {a : Addr} (ha : b ≠ a.block) (u : Value) : SetM P k e (w.setCell a u) b n S := by
  obtain ⟨D, h1, h2⟩ := h; exact ⟨D, h1.setCell ha u, h2⟩
theorem SetM.mono (h : SetM P k e w b n S) {n' : Nat} (hn : n ≤ n') : SetM P k e w b n' S := by
  obtain ⟨D, h1, h2⟩ := h; exact ⟨D, h1.mono hn, h2⟩
theorem SetM.lt (h : SetM P k e w b n S) : b < w.heap.size := by obtain ⟨D, h1, _⟩ := h; exact h1.lt
theorem lit_inj {a b : Bool} (h : (DataW.lit (.bool a) : DataW Unit) = .lit (.bool b)) : a = b := by simpa using h
theorem bool_inv (he : P.underlying e = some .bool) {v : Value} {z : DataW Unit × List MemPlace} (h : plainElem P e v = some z) : ∃ c, v = .bool c ∧ z = (.lit (.bool c), []) := by
  unfold plainElem at h
  rw [he] at h
  cases v <;> simp at h
  exact ⟨_, rfl, h.symm⟩
theorem wpList_lookup_set (w : World) {ops : Array Oper} {rest : List Oper} {o : Oper} {a : Act} {Q : Exit → Act → World → Prop}
    (hg : o.guard = none) (m x : Operand) (t : TypeId) (hop : o.op = Op.lookup t m x false)
    (k e : TypeId) (hk : P.underlying k = some .string) (ht : P.underlying t = some (.map k e)) (he : P.underlying e = some .bool) (hz : ∀ w, (zeroValue e).run P w = .ok (.bool false) w) (b n : Nat) (S : List ByteArray)
    (hm : a.eval m = .map (some b)) (hown : SetM P k e w b n S) (s : ByteArray) (hx : a.eval x = .string s) (hs : s.size ≤ maxLen) (c : Bool) (hc : inL S s = c)
    (hK : wpList P ops Q rest (a.put o.dst (.bool c)) w) :
    wpList P ops Q (o :: rest) a w := by
  refine wpList_plain hg fun K' hK' => ?_
  subst hc
  obtain ⟨D, h1, h2, h3⟩ := hown
  obtain ⟨v, ps, hrun, hv⟩ := h1.lookup (string_keyed hk) ht (hz w) (plainElem_bool he false) (keyOf_string_mk hk hs)
  obtain ⟨c, rfl, hc⟩ := bool_inv he hv
  simp only [Prod.mk.injEq] at hc
  have hcc : c = inL S s := lit_inj (hc.1.symm.trans (h3 s))
  subst hcc
  unfold Oper.wp
  simp [execOp, hop, hm, hx, hrun, Result.andThen]
  exact hK' _ _ hK
theorem wpList_update_set (w : World) {ops : Array Oper} {rest : List Oper} {o : Oper} {a : Act} {Q : Exit → Act → World → Prop}
    (hg : o.guard = none) (m x v : Operand) (t : TypeId) (hop : o.op = Op.mapUpdate t m x v)
    (k e : TypeId) (hk : P.underlying k = some .string) (ht : P.underlying t = some (.map k e)) (he : P.underlying e = some .bool) (b n : Nat) (S : List ByteArray)
    (hm : a.eval m = .map (some b)) (hown : SetM P k e w b n S) (hn : n < maxLen) (s : ByteArray) (hx : a.eval x = .string s) (hv : a.eval v = .bool true) (hs : s.size ≤ maxLen)
    (hK : ∀ w', SetM P k e w' b (n + 1) (S ++ [s]) → w.grownBy w' (some b) → wpList P ops Q rest (a.put o.dst undef) w') :
    wpList P ops Q (o :: rest) a w := by
  refine wpList_plain hg fun K' hK' => ?_
  obtain ⟨D, h1, h2, h3⟩ := hown
  obtain ⟨w', hrun, r1, r2⟩ := h1.update (string_keyed hk) ht hn (keyOf_string_mk hk hs) (plainElem_bool (H := Unit) he true)
  unfold Oper.wp
  simp [execOp, hop, hm, hx, hv, hrun, Result.andThen]
  refine hK' _ _ (hK w' ⟨_, r1, h2.put _ _, fun s' => ?_⟩ r2)
  by_cases e : s' = s
  · subst e
    rw [atKey_put_same h2 (by simp [WideAt.IsKeyLit])]
    rw [inL_snoc]; simp
  · rw [atKey_put_other (by intro h; simp at h; exact e (by obtain ⟨⟨x⟩⟩ := s'; obtain ⟨⟨y⟩⟩ := s; simpa using h)), h3 s', inL_snoc, decide_eq_false (fun h => e h.symm), Bool.or_false]
end
end Go.Proofs.YtooikkfldddjfaaGreat

/-
  DERIVED: THE SHELF's CONTRACTS AT THIS DUMP, IN PLAIN WORDS (tools/lay-plain.mjs out of 'TryzShelf.lean', which tools/lay-shelf.mjs wrote): THE SAME DECLARATIONS UNDER THE SAME NAMES: 'import', 'namespace', 'open', 'def', 'theorem' AND NOTHING ELSE: no command of the shelf's: FOR A HAND-IN. Each laying: the table of numbers ('.._ren') and one theorem, a field a fact of the dump's own or the kernel's comparison; each contract: ONE APPLICATION.
-/
namespace Go.Proofs
open Go.Shelf
def Tryz.lays128_ren : Go.Shelf.Ren := ⟨fun | 128 => 145 | n => n, fun | 51 => 163 | 3 => 3 | 4 => 4 | 46 => 152 | 5 => 5 | 9 => 9 | n => n, fun | n => n⟩
theorem Tryz.lays128 : Go.Proofs.Lays.n128 Tryz.prog Tryz.lays128_ren := {
  mixed := by kernel_rfl
  f128 := Tryz.func145.trans (congrArg some (by kernel_rfl))
  t3 := Tryz.underlying3
  a3 := Tryz.isAgg3
  z3 := Tryz.sizeOf3
  v3 := Tryz.zeroValue3
  t4 := Tryz.underlying4
  a4 := Tryz.isAgg4
  z4 := Tryz.sizeOf4
  v4 := Tryz.zeroValue4
  t5 := Tryz.underlying5
  a5 := Tryz.isAgg5
  z5 := Tryz.sizeOf5
  v5 := Tryz.zeroValue5
  t9 := Tryz.underlying9
  a9 := Tryz.isAgg9
  z9 := Tryz.sizeOf9
  v9 := Tryz.zeroValue9
  t46 := Tryz.underlying152
  a46 := Tryz.isAgg152
  z46 := Tryz.sizeOf152
  v46 := Tryz.zeroValue152
  t51 := Tryz.underlying163
  a51 := Tryz.isAgg163
  z51 := Tryz.sizeOf163
  v51 := Tryz.zeroValue163 }
/-- bits.Len32: "Len32 returns the minimum number of bits required to represent x; the result is 0 for x == 0.": IT RETURNS 'Lib.bitLen x'; the world is as_ it was. ('h0', 'h1': x is a uint32.) (LAID: no walk: one application.) -/
theorem Tryz.bits_Len32 (x : Int) (w : World) (h0 : 0 ≤ x) (h1 : x ≤ 4294967295) :
    Calls Tryz.prog 145 #[.int .u32 x] w fun e w' => e = .returned (.int .i64 (Lib.bitLen x.toNat)) ∧ w' = w := Any.bits_Len32 Tryz.lays128 x w h0 h1
def Tryz.lays125_ren : Go.Shelf.Ren := ⟨fun | 125 => 135 | 128 => 145 | 129 => 146 | n => n, fun | 46 => 152 | 3 => 3 | 51 => 163 | 53 => 165 | 4 => 4 | 5 => 5 | 9 => 9 | n => n, fun | n => n⟩
theorem Tryz.lays125 : Go.Proofs.Lays.n125 Tryz.prog Tryz.lays125_ren := {
  mixed := by kernel_rfl
  f125 := Tryz.func135.trans (congrArg some (by kernel_rfl))
  f128 := Tryz.func145.trans (congrArg some (by kernel_rfl))
  f129 := Tryz.func146.trans (congrArg some (by kernel_rfl))
  t3 := Tryz.underlying3
  a3 := Tryz.isAgg3
  z3 := Tryz.sizeOf3
  v3 := Tryz.zeroValue3
  t4 := Tryz.underlying4
  a4 := Tryz.isAgg4
  z4 := Tryz.sizeOf4
  v4 := Tryz.zeroValue4
  t5 := Tryz.underlying5
  a5 := Tryz.isAgg5
  z5 := Tryz.sizeOf5
  v5 := Tryz.zeroValue5
  t9 := Tryz.underlying9
  a9 := Tryz.isAgg9
  z9 := Tryz.sizeOf9
  v9 := Tryz.zeroValue9
  t46 := Tryz.underlying152
  a46 := Tryz.isAgg152
  z46 := Tryz.sizeOf152
  v46 := Tryz.zeroValue152
  t51 := Tryz.underlying163
  a51 := Tryz.isAgg163
  z51 := Tryz.sizeOf163
  v51 := Tryz.zeroValue163
  t53 := Tryz.underlying165
  a53 := Tryz.isAgg165
  z53 := Tryz.sizeOf165
  v53 := Tryz.zeroValue165 }
/-- bits.Len: "Len returns the minimum number of bits required to represent x; the result is 0 for x == 0.": IT RETURNS 'Lib.bitLen x'; the world is as_ it was. (A uint has 64 bits in the model.) ITS CALLEE bits.Len64 IS MET BY ITS OWN CONTRACT OFF THE SHELF (lay that first). (LAID: no walk: one application.) -/
theorem Tryz.bits_Len (x : Int) (w : World) (h0 : 0 ≤ x) (h1 : x ≤ 18446744073709551615) :
    Calls Tryz.prog 135 #[.int .u64 x] w fun e w' => e = .returned (.int .i64 (Lib.bitLen x.toNat)) ∧ w' = w := Any.bits_Len Tryz.lays125 x w h0 h1
def Tryz.lays129_ren : Go.Shelf.Ren := ⟨fun | 129 => 146 | n => n, fun | 53 => 165 | 3 => 3 | 4 => 4 | 46 => 152 | 5 => 5 | 9 => 9 | n => n, fun | n => n⟩
theorem Tryz.lays129 : Go.Proofs.Lays.n129 Tryz.prog Tryz.lays129_ren := {
  mixed := by kernel_rfl
  f129 := Tryz.func146.trans (congrArg some (by kernel_rfl))
  t3 := Tryz.underlying3
  a3 := Tryz.isAgg3
  z3 := Tryz.sizeOf3
  v3 := Tryz.zeroValue3
  t4 := Tryz.underlying4
  a4 := Tryz.isAgg4
  z4 := Tryz.sizeOf4
  v4 := Tryz.zeroValue4
  t5 := Tryz.underlying5
  a5 := Tryz.isAgg5
  z5 := Tryz.sizeOf5
  v5 := Tryz.zeroValue5
  t9 := Tryz.underlying9
  a9 := Tryz.isAgg9
  z9 := Tryz.sizeOf9
  v9 := Tryz.zeroValue9
  t46 := Tryz.underlying152
  a46 := Tryz.isAgg152
  z46 := Tryz.sizeOf152
  v46 := Tryz.zeroValue152
  t53 := Tryz.underlying165
  a53 := Tryz.isAgg165
  z53 := Tryz.sizeOf165
  v53 := Tryz.zeroValue165 }
/-- bits.Len64: "Len64 returns the minimum number of bits required to represent x; the result is 0 for x == 0.": IT RETURNS 'Lib.bitLen x'; the world is as_ it was. ('h0', 'h1': x is a uint64.) (LAID: no walk: one application.) -/
theorem Tryz.bits_Len64 (x : Int) (w : World) (h0 : 0 ≤ x) (h1 : x ≤ 18446744073709551615) :
    Calls Tryz.prog 146 #[.int .u64 x] w fun e w' => e = .returned (.int .i64 (Lib.bitLen x.toNat)) ∧ w' = w := Any.bits_Len64 Tryz.lays129 x w h0 h1
def Tryz.lays190_ren : Go.Shelf.Ren := ⟨fun | 190 => 131 | 125 => 135 | 258 => 134 | 128 => 145 | 129 => 146 | 302 => 136 | 303 => 137 | 304 => 138 | 305 => 139 | 306 => 140 | 307 => 141 | 308 => 142 | 309 => 143 | 310 => 144 | 333 => 147 | 329 => 148 | 330 => 149 | 334 => 150 | 335 => 151 | 336 => 152 | 344 => 153 | n => n, fun | 31 => 87 | 9 => 9 | 3 => 3 | 46 => 152 | 0 => 0 | 51 => 163 | 53 => 165 | 4 => 4 | 183 => 155 | 182 => 154 | 131 => 160 | 5 => 5 | 218 => 166 | 222 => 170 | 228 => 172 | 229 => 173 | n => n, fun | n => n⟩
theorem Tryz.lays190 : Go.Proofs.Lays.n190 Tryz.prog Tryz.lays190_ren := {
  mixed := by kernel_rfl
  f125 := Tryz.func135.trans (congrArg some (by kernel_rfl))
  f128 := Tryz.func145.trans (congrArg some (by kernel_rfl))
  f129 := Tryz.func146.trans (congrArg some (by kernel_rfl))
  f190 := Tryz.func131.trans (congrArg some (by kernel_rfl))
  f258 := Tryz.func134.trans (congrArg some (by kernel_rfl))
  f302 := Tryz.func136.trans (congrArg some (by kernel_rfl))
  f303 := Tryz.func137.trans (congrArg some (by kernel_rfl))
  f304 := Tryz.func138.trans (congrArg some (by kernel_rfl))
  f305 := Tryz.func139.trans (congrArg some (by kernel_rfl))
  f306 := Tryz.func140.trans (congrArg some (by kernel_rfl))
  f307 := Tryz.func141.trans (congrArg some (by kernel_rfl))
  f308 := Tryz.func142.trans (congrArg some (by kernel_rfl))
  f309 := Tryz.func143.trans (congrArg some (by kernel_rfl))
  f310 := Tryz.func144.trans (congrArg some (by kernel_rfl))
  f329 := Tryz.func148.trans (congrArg some (by kernel_rfl))
  f330 := Tryz.func149.trans (congrArg some (by kernel_rfl))
  f333 := Tryz.func147.trans (congrArg some (by kernel_rfl))
  f334 := Tryz.func150.trans (congrArg some (by kernel_rfl))
  f335 := Tryz.func151.trans (congrArg some (by kernel_rfl))
  f336 := Tryz.func152.trans (congrArg some (by kernel_rfl))
  f344 := Tryz.func153.trans (congrArg some (by kernel_rfl))
  t0 := Tryz.underlying0
  a0 := Tryz.isAgg0
  z0 := Tryz.sizeOf0
  v0 := Tryz.zeroValue0
  t3 := Tryz.underlying3
  a3 := Tryz.isAgg3
  z3 := Tryz.sizeOf3
  v3 := Tryz.zeroValue3
  t4 := Tryz.underlying4
  a4 := Tryz.isAgg4
  z4 := Tryz.sizeOf4
  v4 := Tryz.zeroValue4
  t5 := Tryz.underlying5
  a5 := Tryz.isAgg5
  z5 := Tryz.sizeOf5
  v5 := Tryz.zeroValue5
  t9 := Tryz.underlying9
  a9 := Tryz.isAgg9
  z9 := Tryz.sizeOf9
  v9 := Tryz.zeroValue9
  t31 := Tryz.underlying87
  a31 := Tryz.isAgg87
  z31 := Tryz.sizeOf87
  v31 := Tryz.zeroValue87
  t46 := Tryz.underlying152
  a46 := Tryz.isAgg152
  z46 := Tryz.sizeOf152
  v46 := Tryz.zeroValue152
  t51 := Tryz.underlying163
  a51 := Tryz.isAgg163
  z51 := Tryz.sizeOf163
  v51 := Tryz.zeroValue163
  t53 := Tryz.underlying165
  a53 := Tryz.isAgg165
  z53 := Tryz.sizeOf165
  v53 := Tryz.zeroValue165
  t131 := Tryz.underlying160
  a131 := Tryz.isAgg160
  z131 := Tryz.sizeOf160
  v131 := Tryz.zeroValue160
  t182 := Tryz.underlying154
  a182 := Tryz.isAgg154
  z182 := Tryz.sizeOf154
  v182 := Tryz.zeroValue154
  t183 := Tryz.underlying155
  a183 := Tryz.isAgg155
  z183 := Tryz.sizeOf155
  v183 := Tryz.zeroValue155
  t218 := Tryz.underlying166
  a218 := Tryz.isAgg166
  z218 := Tryz.sizeOf166
  v218 := Tryz.zeroValue166
  t222 := Tryz.underlying170
  a222 := Tryz.isAgg170
  z222 := Tryz.sizeOf170
  v222 := Tryz.zeroValue170
  t228 := Tryz.underlying172
  a228 := Tryz.isAgg172
  z228 := Tryz.sizeOf172
  v228 := Tryz.zeroValue172
  t229 := Tryz.underlying173
  a229 := Tryz.isAgg173
  z229 := Tryz.sizeOf173
  v229 := Tryz.zeroValue173 }
open Go.Sort Go.RowKit in
theorem Tryz.slices_Sort_string (blk off cap : Nat) (ss : List (List UInt8)) (w : World) (hH : Holds encStr w blk off ss.toArray) (hblk : blk < w.heap.size) (hsz : ss.length < 4611686018427387904) :
    Calls Tryz.prog 131 #[.slice (some ⟨blk, off, none⟩) ss.length cap] w fun e w' =>
      e = .returned (.tuple #[]) ∧ ∃ n os, w' = grow (putRow encStr (Sort.ahead w n) blk off (ss.mergeSort fun x y => decide (x ≤ y)).toArray) os := Any.slices_Sort_string Tryz.lays190 blk off cap ss w hH hblk hsz
def Tryz.lays192_ren : Go.Shelf.Ren := ⟨fun | 192 => 107 | 190 => 131 | 125 => 135 | 258 => 134 | 128 => 145 | 129 => 146 | 302 => 136 | 303 => 137 | 304 => 138 | 305 => 139 | 306 => 140 | 307 => 141 | 308 => 142 | 309 => 143 | 310 => 144 | 333 => 147 | 329 => 148 | 330 => 149 | 334 => 150 | 335 => 151 | 336 => 152 | 344 => 153 | n => n, fun | 31 => 87 | 0 => 0 | 9 => 9 | 3 => 3 | 46 => 152 | 51 => 163 | 53 => 165 | 4 => 4 | 183 => 155 | 182 => 154 | 131 => 160 | 5 => 5 | 218 => 166 | 222 => 170 | 228 => 172 | 229 => 173 | n => n, fun | n => n⟩
theorem Tryz.lays192 : Go.Proofs.Lays.n192 Tryz.prog Tryz.lays192_ren := {
  mixed := by kernel_rfl
  f125 := Tryz.func135.trans (congrArg some (by kernel_rfl))
  f128 := Tryz.func145.trans (congrArg some (by kernel_rfl))
  f129 := Tryz.func146.trans (congrArg some (by kernel_rfl))
  f190 := Tryz.func131.trans (congrArg some (by kernel_rfl))
  f192 := Tryz.func107.trans (congrArg some (by kernel_rfl))
  f258 := Tryz.func134.trans (congrArg some (by kernel_rfl))
  f302 := Tryz.func136.trans (congrArg some (by kernel_rfl))
  f303 := Tryz.func137.trans (congrArg some (by kernel_rfl))
  f304 := Tryz.func138.trans (congrArg some (by kernel_rfl))
  f305 := Tryz.func139.trans (congrArg some (by kernel_rfl))
  f306 := Tryz.func140.trans (congrArg some (by kernel_rfl))
  f307 := Tryz.func141.trans (congrArg some (by kernel_rfl))
  f308 := Tryz.func142.trans (congrArg some (by kernel_rfl))
  f309 := Tryz.func143.trans (congrArg some (by kernel_rfl))
  f310 := Tryz.func144.trans (congrArg some (by kernel_rfl))
  f329 := Tryz.func148.trans (congrArg some (by kernel_rfl))
  f330 := Tryz.func149.trans (congrArg some (by kernel_rfl))
  f333 := Tryz.func147.trans (congrArg some (by kernel_rfl))
  f334 := Tryz.func150.trans (congrArg some (by kernel_rfl))
  f335 := Tryz.func151.trans (congrArg some (by kernel_rfl))
  f336 := Tryz.func152.trans (congrArg some (by kernel_rfl))
  f344 := Tryz.func153.trans (congrArg some (by kernel_rfl))
  t0 := Tryz.underlying0
  a0 := Tryz.isAgg0
  z0 := Tryz.sizeOf0
  v0 := Tryz.zeroValue0
  t3 := Tryz.underlying3
  a3 := Tryz.isAgg3
  z3 := Tryz.sizeOf3
  v3 := Tryz.zeroValue3
  t4 := Tryz.underlying4
  a4 := Tryz.isAgg4
  z4 := Tryz.sizeOf4
  v4 := Tryz.zeroValue4
  t5 := Tryz.underlying5
  a5 := Tryz.isAgg5
  z5 := Tryz.sizeOf5
  v5 := Tryz.zeroValue5
  t9 := Tryz.underlying9
  a9 := Tryz.isAgg9
  z9 := Tryz.sizeOf9
  v9 := Tryz.zeroValue9
  t31 := Tryz.underlying87
  a31 := Tryz.isAgg87
  z31 := Tryz.sizeOf87
  v31 := Tryz.zeroValue87
  t46 := Tryz.underlying152
  a46 := Tryz.isAgg152
  z46 := Tryz.sizeOf152
  v46 := Tryz.zeroValue152
  t51 := Tryz.underlying163
  a51 := Tryz.isAgg163
  z51 := Tryz.sizeOf163
  v51 := Tryz.zeroValue163
  t53 := Tryz.underlying165
  a53 := Tryz.isAgg165
  z53 := Tryz.sizeOf165
  v53 := Tryz.zeroValue165
  t131 := Tryz.underlying160
  a131 := Tryz.isAgg160
  z131 := Tryz.sizeOf160
  v131 := Tryz.zeroValue160
  t182 := Tryz.underlying154
  a182 := Tryz.isAgg154
  z182 := Tryz.sizeOf154
  v182 := Tryz.zeroValue154
  t183 := Tryz.underlying155
  a183 := Tryz.isAgg155
  z183 := Tryz.sizeOf155
  v183 := Tryz.zeroValue155
  t218 := Tryz.underlying166
  a218 := Tryz.isAgg166
  z218 := Tryz.sizeOf166
  v218 := Tryz.zeroValue166
  t222 := Tryz.underlying170
  a222 := Tryz.isAgg170
  z222 := Tryz.sizeOf170
  v222 := Tryz.zeroValue170
  t228 := Tryz.underlying172
  a228 := Tryz.isAgg172
  z228 := Tryz.sizeOf172
  v228 := Tryz.zeroValue172
  t229 := Tryz.underlying173
  a229 := Tryz.isAgg173
  z229 := Tryz.sizeOf173
  v229 := Tryz.zeroValue173 }
open Go.Sort Go.RowKit in
theorem Tryz.sort_Strings (blk off cap : Nat) (ss : List (List UInt8)) (w : World) (hH : Holds encStr w blk off ss.toArray) (hblk : blk < w.heap.size) (hsz : ss.length < 4611686018427387904) :
    Calls Tryz.prog 107 #[.slice (some ⟨blk, off, none⟩) ss.length cap] w fun e w' =>
      e = .returned (.tuple #[]) ∧ ∃ n os, w' = grow (putRow encStr (Sort.ahead w n) blk off (ss.mergeSort fun x y => decide (x ≤ y)).toArray) os := Any.sort_Strings Tryz.lays192 blk off cap ss w hH hblk hsz
open Go.RowKit Go.Sort in
/-- .. and plain. (LAID: no walk: one application.) -/
theorem Tryz.slices_Sort_string_none (p : Option Addr) (cap : Nat) (w : World) :
    Calls Tryz.prog 131 #[.slice p 0 cap] w fun e w' => e = .returned (.tuple #[]) ∧ w' = w := Any.slices_Sort_string_none Tryz.lays190 p cap w
open Go.RowKit Go.Sort in
/-- .. and plain. (LAID: no walk: one application.) -/
theorem Tryz.sort_Strings_none (p : Option Addr) (cap : Nat) (w : World) :
    Calls Tryz.prog 107 #[.slice p 0 cap] w fun e w' => e = .returned (.tuple #[]) ∧ w' = w := Any.sort_Strings_none Tryz.lays192 p cap w
end Go.Proofs

/- sort.Strings, on an own row. -/
namespace Go.Proofs.YtooikkfldddjfaaGreat
set_option maxRecDepth 10000
open Go.RowKit
set_option linter.unusedVariables false
set_option linter.unusedSimpArgs false
def srtS (xs : List ByteArray) : List ByteArray := ((xs.map fun b : ByteArray => b.data.toList).mergeSort fun x y => decide (x ≤ y)).map fun l => ⟨l.toArray⟩
theorem srtS_len (xs : List ByteArray) : (srtS xs).length = xs.length := by simp [srtS]
theorem sortStrings_ok {xs : List ByteArray} (hx : xs.length < 4611686018427387904) : CallM Tryz.prog 107 [.ms 0] [some ⟨9, 1, xs.map cStr⟩] (.tu []) [some ⟨9, 1, (srtS xs).map cStr⟩] := by
  intro S β w vs hk hl ha
  obtain ⟨x, hx0, hr⟩ := ha 0 _ rfl
  obtain ⟨B, hB, hb, rfl⟩ := hr.ms_inv hk (l := 0) rfl
  have hv : vs = #[B.sv] := by
    have h1 : vs.size = 1 := hl
    apply Array.ext (by simp [h1])
    intro i h2 h3
    have : i = 0 := by omega
    subst this
    have := (Array.getElem?_eq_some_iff.1 hx0).2
    simpa using this
  subst hv
  have hn : B.n = xs.length := by have := hb.n; simpa using this
  have hT := hb.T
  have hkk := hb.k
  simp only at hT hkk
  cases hz : B.z with
  | true =>
    have h0 : xs = [] := by have := hb.nil hz; simpa using this
    subst h0
    have hsv : B.sv = .slice none 0 0 := by simp [Blk.sv, hz]
    rw [hsv]
    refine (Tryz.sort_Strings_none none 0 w).mono ?_
    rintro e w' ⟨rfl, rfl⟩
    have e0 : srtS [] = [] := by simp [srtS]
    rw [e0]
    exact ⟨_, E1 S β 1, rfl, hk, fun b h => h, fun b h => .inl h, fun l B _ h => h, .tu _ _ (by simp) (by simp)⟩
  | false =>
    have hsv : B.sv = .slice (some ⟨B.b, 0, none⟩) xs.length B.c := by simp [Blk.sv, hz, hn]
    rw [hsv]
    obtain ⟨cells, hc, hcs, hcell⟩ := hb.mem hz
    have hss : (xs.map fun b : ByteArray => b.data.toList).length = xs.length := by simp
    have ht : cells.toList.take (xs.map fun b : ByteArray => b.data.toList).length = (xs.map fun b : ByteArray => b.data.toList).map encStr := by
      apply List.ext_getElem?
      intro i
      rcases Nat.lt_or_ge i xs.length with hi | hi
      · rw [List.getElem?_take_of_lt (by simpa using hi)]
        obtain ⟨y, y1, _, y3⟩ := hcell i [vs xs[i]] 0 (vs xs[i]) (by simp [hi]) rfl
        rw [hkk] at y1
        obtain ⟨rfl, _⟩ := y3.v_inv
        simp only [Nat.mul_one, Nat.add_zero] at y1
        rw [Array.getElem?_toList, y1]
        simp [hi]
      · rw [List.getElem?_eq_none (by simp; omega), List.getElem?_eq_none (by simpa using hi)]
    have hlt : B.b < w.heap.size := (Array.getElem?_eq_some_iff.1 hc).1
    have key := Tryz.sort_Strings B.b 0 B.c (xs.map fun b : ByteArray => b.data.toList) w (holds_of_block hc ht) hlt (by simpa using hx)
    rw [hss] at key
    refine key.mono ?_
    rintro e w' ⟨rfl, n, os, rfl⟩
    have hg := grownBy_sorted (w := w) (g := B.b) (n := n) (os := os) ((xs.map fun b : ByteArray => b.data.toList).mergeSort fun x y => decide (x ≤ y)).toArray
    have hh := heap_sorted (n := n) (os := os) ((xs.map fun b : ByteArray => b.data.toList).mergeSort fun x y => decide (x ≤ y)).toArray hc
    generalize Go.Sort.grow (Go.Sort.putRow encStr (Go.Sort.ahead w n) B.b 0 ((xs.map fun b : ByteArray => b.data.toList).mergeSort fun x y => decide (x ≤ y)).toArray) os = w' at hg hh
    obtain ⟨g1, g2, g3, g4, g5⟩ := hg
    refine ⟨_, E1 S β 1, rfl, ⟨⟨g1, g2, g3, g4, fun b hb1 hb2 => g5 b hb1 fun e => hb2 ⟨0, B, hB, hz, by simpa using e.symm⟩⟩, fun b h => Nat.lt_of_lt_of_le (hk.sz b h) g4, fun l B' h1 h2 => ?_, hk.inj, hk.used, hk.bu, fun l mb hm => ?_, fun l B' h1 => ?_⟩, fun b h => h, fun b h => .inl h, fun l B _ h => h, .tu _ _ (by simp) (by simp)⟩
    · obtain ⟨a, b, c⟩ := hk.own l B' h1 h2
      exact ⟨a, Nat.lt_of_lt_of_le b g4, c⟩
    · cases l with
      | succ l => simp at hm
      | zero =>
        obtain rfl : _ = mb := by simpa using hm
        refine ⟨B, hB, hkk, by rw [hn]; simp [srtS_len], hT, hb.pos, hb.nc, hb.cm, fun i cs hi => ?_, fun h => (by rw [hz] at h; cases h), fun _ => ⟨_, hh, ?_, fun i cs j p hi hj => ?_⟩⟩
        · rw [List.getElem?_map] at hi
          obtain ⟨y, _, rfl⟩ := Option.map_eq_some_iff.1 hi
          rw [hkk]; rfl
        · rw [← hcs]; simp [Go.Sort.putCells]
        · rw [List.getElem?_map] at hi
          obtain ⟨y, hy, rfl⟩ := Option.map_eq_some_iff.1 hi
          cases j with
          | succ j => simp at hj
          | zero =>
            obtain rfl : vs y = p := by simpa using hj
            have hi' := (List.getElem?_eq_some_iff.1 hy).1
            rw [srtS_len] at hi'
            refine ⟨.string y, ?_, rfl, .c (.v _ rfl)⟩
            have htk := take_putCells cells ((xs.map fun b : ByteArray => b.data.toList).mergeSort fun x y => decide (x ≤ y)) (by have := hb.nc; rw [hkk] at hcs; simp; omega)
            have := congrArg (fun l => l[i]?) htk

            rw [List.getElem?_take_of_lt (by simpa using hi'), Array.getElem?_toList, List.getElem?_map] at this
            rw [hkk, Nat.mul_one, Nat.add_zero, this]
            unfold srtS at hy
            rw [List.getElem?_map] at hy
            obtain ⟨z, hz2, rfl⟩ := Option.map_eq_some_iff.1 hy
            rw [hz2]; rfl
    · obtain ⟨mb, hm⟩ := hk.dom l B' h1
      cases l with
      | succ l => simp at hm
      | zero => exact ⟨_, rfl⟩
end Go.Proofs.YtooikkfldddjfaaGreat

/- impl.PlacesOf, walked in memory: the names without repeats (a set that the call keeps to itself), sorted. -/
namespace Go.Proofs.YtooikkfldddjfaaGreat
set_option maxRecDepth 10000
open Go.RowKit Go.Maps Go.WideMaps Go.Sort
set_option linter.unusedVariables false
set_option linter.unusedSimpArgs false
instance : Enc YLeg where
  cells x := [.string x.from_, .string x.to_, I x.start, I x.takes, I x.days, I x.room]
  k := 6
  len _ := rfl
  pos := by decide
  one := by simp [Value.oneCell', I]
theorem Rd.leg {w : World} {B : Nat} {A : Option Addr} {xs : List YLeg} {i : Nat} {x : YLeg} (h : Rd w B A xs) (hx : xs[i]? = some x) :
    ∃ b off, A = some ⟨b, off, none⟩ ∧ b < B ∧ w.cell? ⟨b, off + i * 6, none⟩ = some (.string x.from_) ∧ w.cell? ⟨b, off + i * 6 + 1, none⟩ = some (.string x.to_) ∧ w.cell? ⟨b, off + i * 6 + 2, none⟩ = some (I x.start) ∧ w.cell? ⟨b, off + i * 6 + 3, none⟩ = some (I x.takes) ∧ w.cell? ⟨b, off + i * 6 + 4, none⟩ = some (I x.days) ∧ w.cell? ⟨b, off + i * 6 + 5, none⟩ = some (I x.room) := by
  obtain ⟨b, off, e, hb, hc⟩ := h.at_ hx
  exact ⟨b, off, e, hb, hc 0 _ rfl, hc 1 _ rfl, hc 2 _ rfl, hc 3 _ rfl, hc 4 _ rfl, hc 5 _ rfl⟩
theorem info_str : (Tryz.prog.info? 9).map (fun i => (i.zero, i.size, i.bytes)) = some (some (Value.string ⟨#[]⟩), 1, 16) := by kernel_rfl
theorem el_str : ElT Tryz.prog 87 9 (Enc.k ByteArray) 16 := ElT.mk' Tryz.underlying87 info_str rfl
theorem zero_bool (w : World) : (zeroValue 4).run Tryz.prog w = .ok (.bool false) w := by kernel_rfl
/-- The names of the first i legs, without repeats. -/
def nmI (legs : List YLeg) (i : Nat) : List ByteArray := (legs.take i).foldl (fun out l => dd (dd out l.from_) l.to_) []
theorem nmI_next {legs : List YLeg} {i : Nat} {x : YLeg} (hx : legs[i]? = some x) : nmI legs (i + 1) = dd (dd (nmI legs i) x.from_) x.to_ := by
  unfold nmI
  rw [foldl_snoc hx]
theorem dd_len (out : List ByteArray) (s : ByteArray) : (dd out s).length ≤ out.length + 1 := by unfold dd; split <;> simp
theorem nmI_len (legs : List YLeg) (i : Nat) : (nmI legs i).length ≤ 2 * i := by
  have h : ∀ (b : List YLeg) (out : List ByteArray), (b.foldl (fun out l => dd (dd out l.from_) l.to_) out).length ≤ out.length + 2 * b.length := by
    intro b
    induction b with
    | nil => intro out; simp
    | cons x b ih =>
      intro out
      have h1 := ih (dd (dd out x.from_) x.to_)
      have h2 := dd_len (dd out x.from_) x.to_
      have h3 := dd_len out x.from_
      simp only [List.foldl_cons, List.length_cons]
      omega
  have h1 := h (legs.take i) []
  have h2 : (legs.take i).length ≤ i := List.length_take_le _ _
  simp only [List.length_nil] at h1
  unfold nmI
  omega
theorem sortStr_any (g cp n B : Nat) (zs : List ByteArray) (w : World) (ho : Own w B 9 (.slice (some ⟨g, 0, none⟩) n cp) zs) (hl : n = zs.length) (hn : n ≤ 4194304) :
    Calls Tryz.prog 107 #[.slice (some ⟨g, 0, none⟩) n cp] w fun e w' => e = .returned (.tuple #[]) ∧ Own w' B 9 (.slice (some ⟨g, 0, none⟩) n cp) (srtS zs) ∧ w.grownBy w' (some g) := by
  subst hl
  rcases ho.2 with ⟨h0, _⟩ | ⟨g', cap', cur, hv, hB, hg, hnc, hcm, hcs, ht⟩
  · cases h0
  · obtain ⟨rfl, rfl⟩ : g = g' ∧ cp = cap' := by simpa using hv
    have hss : (zs.map fun b : ByteArray => b.data.toList).length = zs.length := by simp
    have ht' : cur.toList.take (zs.map fun b : ByteArray => b.data.toList).length = (zs.map fun b : ByteArray => b.data.toList).map encStr := by
      have := ht
      rw [show Enc.k ByteArray = 1 from rfl, Nat.mul_one, flat_strs] at this
      rw [hss, this, List.map_map]
      apply List.map_congr_left
      intro b _
      rfl
    have hH := holds_of_block hg ht'
    have key := Tryz.sort_Strings g 0 cp _ w hH (Array.getElem?_eq_some_iff.1 hg).1 (by rw [hss]; omega)
    rw [hss] at key
    refine key.mono ?_
    rintro e w' ⟨rfl, m, os, rfl⟩
    have hs := ownsRow_sorted (n := m) (os := os) (ss := zs.map fun b : ByteArray => b.data.toList) (ts := (zs.map fun b : ByteArray => b.data.toList).mergeSort fun x y => decide (x ≤ y)) (by simp) hB hg (by simpa using hnc) hcm hcs
    refine ⟨rfl, ?_, grownBy_sorted _⟩
    unfold Own
    rw [srtS_len, flat_strs]
    rw [hss] at hs
    have e2 : (srtS zs).map Value.string = ((zs.map fun b : ByteArray => b.data.toList).mergeSort fun x y => decide (x ≤ y)).map encStr := by
      unfold srtS; rw [List.map_map]; rfl
    rw [e2]
    exact hs
set_option maxRecDepth 100000 in
theorem places_walk (A : Option Addr) (legs : List YLeg) (n c : Nat) (v2 v3 : Value) (w : World) (hr : Rd w w.heap.size A legs) (hl : n = legs.length) (hc : legs.length ≤ c) (hn : n ≤ 1048576) (hs : ∀ l ∈ legs, l.from_.size ≤ maxLen ∧ l.to_.size ≤ maxLen) :
    Calls Tryz.prog 58 #[.agg #[.slice A n c, v2, v3]] w fun e w' => ∃ v, e = .returned v ∧ Own w' w.heap.size 9 v (srtS (nmI legs legs.length)) ∧ Up w w' := by
  subst hl
  have hmm := @run_makeMap Tryz.prog
  go_enter Tryz.func58, Tryz.ntmps58
  go_wp2
  go_loopw [4, 14] (fun v i wr => ∃ j g cp : Nat, j ≤ legs.length ∧ i = .int .i64 j ∧ v = .slice (some ⟨g, 0, none⟩) (nmI legs j).length cp ∧ Own wr (w.heap.size + 2) 9 (.slice (some ⟨g, 0, none⟩) (nmI legs j).length cp) (nmI legs j) ∧ SetM Tryz.prog 9 4 wr (w.heap.size + 1) (2 * j) (nmI legs j) ∧ Up w wr) (fun _ i _ => legs.length - (intOf i).toNat)
  case atStart => exact ⟨0, w.heap.size + 1 + 1, 0, by omega, rfl, rfl, by have h_ := Own.empty (α := ByteArray) ((w.alloc (.cells #[.slice A legs.length c, v2, v3] 36)).alloc (.map #[] 0)) (w.heap.size + 2) 9 0 #[] (by simp) (by unfold maxLen; omega) rfl; simpa [nmI] using h_, by have h_ := (SetM.made (P := Tryz.prog) (k := 9) (e := 4) (w.alloc (.cells #[.slice A legs.length c, v2, v3] 36))).alloc (.cells #[] 9); simpa [nmI] using h_, by (repeat (first | exact Up.rfl' _ | (refine Up.al _ ?_) | (refine Up.dr _ ?_) | (refine Up.dr1 ?_) | (refine Up.sc ?_ (by first | exact Nat.le_refl _ | (simp; done) | omega) _) | (refine Up.step (by assumption) ?_)))⟩
  case round =>
    obtain ⟨i, g3, c3', hi, rfl, rfl, ho, hset, hb⟩ := hrel
    by_cases hlt : i < legs.length
    · obtain ⟨x, hx⟩ := get_of_lt hlt
      obtain ⟨b, off, rfl, hbb, c0, c1, c2, c3, c4, c5⟩ := (hr.below hb).leg hx
      have hlen := nmI_len legs i
      obtain ⟨hs1, hs2⟩ := hs x (List.mem_of_getElem? hx)
      have hgl := World.ownsRow.lt ho g3 rfl
      have HO := Lib.hid ho
      have HS := Lib.hid hset
      clear ho hset
      go_wp2_with fail
      generalize hwb : (wr.alloc _).alloc _ = wb
      have d0 : wb.cell? ⟨wr.heap.size + 1, 0, none⟩ = some (.string x.from_) := by rw [← hwb]; simp [go_sem]
      have d1 : wb.cell? ⟨wr.heap.size + 1, 1, none⟩ = some (.string x.to_) := by rw [← hwb]; simp [go_sem]
      have hub : Up wr wb := by rw [← hwb]; (repeat (first | exact Up.rfl' _ | (refine Up.al _ ?_) | (refine Up.dr _ ?_) | (refine Up.dr1 ?_) | (refine Up.sc ?_ (by first | exact Nat.le_refl _ | (simp; done) | omega) _) | (refine Up.step (by assumption) ?_)))
      have hsz : wr.heap.size + 2 ≤ wb.heap.size := by rw [← hwb]; simp
      have HS0 : Hid (SetM Tryz.prog 9 4 wb (w.heap.size + 1) (2 * i) (nmI legs i)) := Lib.hid (by rw [← hwb]; exact (HS.out.alloc _).alloc _)
      have HO0 := Lib.hid (HO.out.up hub)
      have hb0 : Up w wb := Up.step hub hb
      clear hwb c0 c1 c2 c3 c4 c5 HS HO
      have hw0 := hb.size
      have hx1 := nmI_next hx
      have hc0 := hb0
      cases h1 : inL (nmI legs i) x.from_ with
      | false =>
        cases h2 : inL (nmI legs i ++ [x.from_]) x.to_ with
        | false =>
          refine wp_loop_rounds 3 ?_
          rw [rounds_succ]
          go_wp2_with (first | (at_builtin; (have ho_ := HP2.out); go_loud (refine wpList_append_rd el_str rfl (.tmp 34) (.tmp 36) rfl (base := w.heap.size + 2) (ys := (nmI legs i ++ [x.from_])) (xs := [x.to_]) (by rfl) (ho_.up (by (repeat (first | exact Up.rfl' _ | (refine Up.al _ ?_) | (refine Up.dr _ ?_) | (refine Up.dr1 ?_) | (refine Up.sc ?_ (by first | exact Nat.le_refl _ | (simp; done) | omega) _) | (refine Up.step (by assumption) ?_))))) 1 (by rfl) rfl (Rd.oneAt _ _ (x.to_) _ (by simp)) (by simp; omega) (by unfold maxLen; simp; omega) (by simp; omega) ?_); intro v2 w2 ho2 hg_ _ hu_; go_loud (have HS2 := Lib.hid ((HT2.out.alloc _).kept hg_ (by intro hh; have h_ := World.ownsRow.lt ho_ _ hh.symm; omega)); have hc2 : Up w w2 := Below.grown (Up.al _ hd2) hg_ (by simp; omega) (fun k e => by have h_ := World.ownsRow.lt ho_ _ e; omega); have hz2b : w2a.heap.size + 1 ≤ w2.heap.size := (by have h_ := hg_.size; simpa using h_); have HO2 := Lib.hid ho2); clear ho2 ho_ hg_ hu_ HT2 HP2) | (at_mapUpdate; (have h_ := HS1.out); go_loud (refine wpList_update_set _ rfl _ _ _ 131 rfl 9 4 Tryz.underlying9 Tryz.underlying131 Tryz.underlying4 (w.heap.size + 1) (2 * i + 1) (nmI legs i ++ [x.from_]) rfl HS1.out (by unfold maxLen; omega) _ rfl rfl hs2 ?_); intro w2a hs_ hg_; go_loud (have HT2 := Lib.hid hs_; clear hs_; have HP2 := Lib.hid (HO1.out.grown hg_ (.inr (by intro hh; have h_ := World.ownsRow.lt HO1.out _ hh; omega))); have hd2 : Up w w2a := Below.grown hc1 hg_ hc1.size (fun k e => by cases e; omega); have hz2 := hg_.size; have hp2 := Nat.le_trans hc1.size hg_.size); clear hg_) | (at_lookup; have h_ := HS1.out; (refine wpList_lookup_set _ rfl _ _ 131 rfl 9 4 Tryz.underlying9 Tryz.underlying131 Tryz.underlying4 zero_bool (w.heap.size + 1) (2 * i + 1) (nmI legs i ++ [x.from_]) rfl HS1.out _ rfl hs2 _ h2 ?_)) | (at_builtin; (have ho_ := HP1.out); go_loud (refine wpList_append_rd el_str rfl (.tmp 34) (.tmp 36) rfl (base := w.heap.size + 2) (ys := (nmI legs i)) (xs := [x.from_]) (by rfl) (ho_.up (by (repeat (first | exact Up.rfl' _ | (refine Up.al _ ?_) | (refine Up.dr _ ?_) | (refine Up.dr1 ?_) | (refine Up.sc ?_ (by first | exact Nat.le_refl _ | (simp; done) | omega) _) | (refine Up.step (by assumption) ?_))))) 1 (by rfl) rfl (Rd.oneAt _ _ (x.from_) _ (by simp)) (by simp; omega) (by unfold maxLen; simp; omega) (by simp; omega) ?_); intro v1 w1 ho1 hg_ _ hu_; go_loud (have HS1 := Lib.hid ((HT1.out.alloc _).kept hg_ (by intro hh; have h_ := World.ownsRow.lt ho_ _ hh.symm; omega)); have hc1 : Up w w1 := Below.grown (Up.al _ hd1) hg_ (by simp; omega) (fun k e => by have h_ := World.ownsRow.lt ho_ _ e; omega); have d2 := (grown_cell hg_ (by simp; omega) (by intro hh; have h3_ : wr.heap.size + 1 = g3 := Option.some.inj hh; omega)).trans (al_cell dz1); have hz1b : w1a.heap.size + 1 ≤ w1.heap.size := (by have h_ := hg_.size; simpa using h_); have HO1 := Lib.hid ho1); clear ho1 ho_ hg_ hu_ HT1 HP1) | (at_mapUpdate; (have h_ := HS0.out); go_loud (refine wpList_update_set _ rfl _ _ _ 131 rfl 9 4 Tryz.underlying9 Tryz.underlying131 Tryz.underlying4 (w.heap.size + 1) (2 * i) (nmI legs i) rfl HS0.out (by unfold maxLen; omega) _ rfl rfl hs1 ?_); intro w1a hs_ hg_; go_loud (have HT1 := Lib.hid hs_; clear hs_; have HP1 := Lib.hid (HO0.out.grown hg_ (.inr (by intro hh; have h_ := World.ownsRow.lt HO0.out _ hh; omega))); have hd1 : Up w w1a := Below.grown hc0 hg_ hc0.size (fun k e => by cases e; omega); have hz1 := hg_.size; have dz1 := (grown_cell hg_ (by omega) (by intro hh; injection hh with hh; omega)).trans d1; have hp1 := Nat.le_trans hc0.size hg_.size); clear hg_) | (at_lookup; have h_ := HS0.out; (refine wpList_lookup_set _ rfl _ _ 131 rfl 9 4 Tryz.underlying9 Tryz.underlying131 Tryz.underlying4 zero_bool (w.heap.size + 1) (2 * i) (nmI legs i) rfl HS0.out _ rfl hs1 _ h1 ?_)))
          rw [rounds_succ]
          go_wp2_with (first | (at_builtin; (have ho_ := HP2.out); go_loud (refine wpList_append_rd el_str rfl (.tmp 34) (.tmp 36) rfl (base := w.heap.size + 2) (ys := (nmI legs i ++ [x.from_])) (xs := [x.to_]) (by rfl) (ho_.up (by (repeat (first | exact Up.rfl' _ | (refine Up.al _ ?_) | (refine Up.dr _ ?_) | (refine Up.dr1 ?_) | (refine Up.sc ?_ (by first | exact Nat.le_refl _ | (simp; done) | omega) _) | (refine Up.step (by assumption) ?_))))) 1 (by rfl) rfl (Rd.oneAt _ _ (x.to_) _ (by simp)) (by simp; omega) (by unfold maxLen; simp; omega) (by simp; omega) ?_); intro v2 w2 ho2 hg_ _ hu_; go_loud (have HS2 := Lib.hid ((HT2.out.alloc _).kept hg_ (by intro hh; have h_ := World.ownsRow.lt ho_ _ hh.symm; omega)); have hc2 : Up w w2 := Below.grown (Up.al _ hd2) hg_ (by simp; omega) (fun k e => by have h_ := World.ownsRow.lt ho_ _ e; omega); have hz2b : w2a.heap.size + 1 ≤ w2.heap.size := (by have h_ := hg_.size; simpa using h_); have HO2 := Lib.hid ho2); clear ho2 ho_ hg_ hu_ HT2 HP2) | (at_mapUpdate; (have h_ := HS1.out); go_loud (refine wpList_update_set _ rfl _ _ _ 131 rfl 9 4 Tryz.underlying9 Tryz.underlying131 Tryz.underlying4 (w.heap.size + 1) (2 * i + 1) (nmI legs i ++ [x.from_]) rfl HS1.out (by unfold maxLen; omega) _ rfl rfl hs2 ?_); intro w2a hs_ hg_; go_loud (have HT2 := Lib.hid hs_; clear hs_; have HP2 := Lib.hid (HO1.out.grown hg_ (.inr (by intro hh; have h_ := World.ownsRow.lt HO1.out _ hh; omega))); have hd2 : Up w w2a := Below.grown hc1 hg_ hc1.size (fun k e => by cases e; omega); have hz2 := hg_.size; have hp2 := Nat.le_trans hc1.size hg_.size); clear hg_) | (at_lookup; have h_ := HS1.out; (refine wpList_lookup_set _ rfl _ _ 131 rfl 9 4 Tryz.underlying9 Tryz.underlying131 Tryz.underlying4 zero_bool (w.heap.size + 1) (2 * i + 1) (nmI legs i ++ [x.from_]) rfl HS1.out _ rfl hs2 _ h2 ?_)) | (at_builtin; (have ho_ := HP1.out); go_loud (refine wpList_append_rd el_str rfl (.tmp 34) (.tmp 36) rfl (base := w.heap.size + 2) (ys := (nmI legs i)) (xs := [x.from_]) (by rfl) (ho_.up (by (repeat (first | exact Up.rfl' _ | (refine Up.al _ ?_) | (refine Up.dr _ ?_) | (refine Up.dr1 ?_) | (refine Up.sc ?_ (by first | exact Nat.le_refl _ | (simp; done) | omega) _) | (refine Up.step (by assumption) ?_))))) 1 (by rfl) rfl (Rd.oneAt _ _ (x.from_) _ (by simp)) (by simp; omega) (by unfold maxLen; simp; omega) (by simp; omega) ?_); intro v1 w1 ho1 hg_ _ hu_; go_loud (have HS1 := Lib.hid ((HT1.out.alloc _).kept hg_ (by intro hh; have h_ := World.ownsRow.lt ho_ _ hh.symm; omega)); have hc1 : Up w w1 := Below.grown (Up.al _ hd1) hg_ (by simp; omega) (fun k e => by have h_ := World.ownsRow.lt ho_ _ e; omega); have d2 := (grown_cell hg_ (by simp; omega) (by intro hh; have h3_ : wr.heap.size + 1 = g3 := Option.some.inj hh; omega)).trans (al_cell dz1); have hz1b : w1a.heap.size + 1 ≤ w1.heap.size := (by have h_ := hg_.size; simpa using h_); have HO1 := Lib.hid ho1); clear ho1 ho_ hg_ hu_ HT1 HP1) | (at_mapUpdate; (have h_ := HS0.out); go_loud (refine wpList_update_set _ rfl _ _ _ 131 rfl 9 4 Tryz.underlying9 Tryz.underlying131 Tryz.underlying4 (w.heap.size + 1) (2 * i) (nmI legs i) rfl HS0.out (by unfold maxLen; omega) _ rfl rfl hs1 ?_); intro w1a hs_ hg_; go_loud (have HT1 := Lib.hid hs_; clear hs_; have HP1 := Lib.hid (HO0.out.grown hg_ (.inr (by intro hh; have h_ := World.ownsRow.lt HO0.out _ hh; omega))); have hd1 : Up w w1a := Below.grown hc0 hg_ hc0.size (fun k e => by cases e; omega); have hz1 := hg_.size; have dz1 := (grown_cell hg_ (by omega) (by intro hh; injection hh with hh; omega)).trans d1; have hp1 := Nat.le_trans hc0.size hg_.size); clear hg_) | (at_lookup; have h_ := HS0.out; (refine wpList_lookup_set _ rfl _ _ 131 rfl 9 4 Tryz.underlying9 Tryz.underlying131 Tryz.underlying4 zero_bool (w.heap.size + 1) (2 * i) (nmI legs i) rfl HS0.out _ rfl hs1 _ h1 ?_)))
          rw [rounds_succ]
          go_wp2_with (first | (at_builtin; (have ho_ := HP2.out); go_loud (refine wpList_append_rd el_str rfl (.tmp 34) (.tmp 36) rfl (base := w.heap.size + 2) (ys := (nmI legs i ++ [x.from_])) (xs := [x.to_]) (by rfl) (ho_.up (by (repeat (first | exact Up.rfl' _ | (refine Up.al _ ?_) | (refine Up.dr _ ?_) | (refine Up.dr1 ?_) | (refine Up.sc ?_ (by first | exact Nat.le_refl _ | (simp; done) | omega) _) | (refine Up.step (by assumption) ?_))))) 1 (by rfl) rfl (Rd.oneAt _ _ (x.to_) _ (by simp)) (by simp; omega) (by unfold maxLen; simp; omega) (by simp; omega) ?_); intro v2 w2 ho2 hg_ _ hu_; go_loud (have HS2 := Lib.hid ((HT2.out.alloc _).kept hg_ (by intro hh; have h_ := World.ownsRow.lt ho_ _ hh.symm; omega)); have hc2 : Up w w2 := Below.grown (Up.al _ hd2) hg_ (by simp; omega) (fun k e => by have h_ := World.ownsRow.lt ho_ _ e; omega); have hz2b : w2a.heap.size + 1 ≤ w2.heap.size := (by have h_ := hg_.size; simpa using h_); have HO2 := Lib.hid ho2); clear ho2 ho_ hg_ hu_ HT2 HP2) | (at_mapUpdate; (have h_ := HS1.out); go_loud (refine wpList_update_set _ rfl _ _ _ 131 rfl 9 4 Tryz.underlying9 Tryz.underlying131 Tryz.underlying4 (w.heap.size + 1) (2 * i + 1) (nmI legs i ++ [x.from_]) rfl HS1.out (by unfold maxLen; omega) _ rfl rfl hs2 ?_); intro w2a hs_ hg_; go_loud (have HT2 := Lib.hid hs_; clear hs_; have HP2 := Lib.hid (HO1.out.grown hg_ (.inr (by intro hh; have h_ := World.ownsRow.lt HO1.out _ hh; omega))); have hd2 : Up w w2a := Below.grown hc1 hg_ hc1.size (fun k e => by cases e; omega); have hz2 := hg_.size; have hp2 := Nat.le_trans hc1.size hg_.size); clear hg_) | (at_lookup; have h_ := HS1.out; (refine wpList_lookup_set _ rfl _ _ 131 rfl 9 4 Tryz.underlying9 Tryz.underlying131 Tryz.underlying4 zero_bool (w.heap.size + 1) (2 * i + 1) (nmI legs i ++ [x.from_]) rfl HS1.out _ rfl hs2 _ h2 ?_)) | (at_builtin; (have ho_ := HP1.out); go_loud (refine wpList_append_rd el_str rfl (.tmp 34) (.tmp 36) rfl (base := w.heap.size + 2) (ys := (nmI legs i)) (xs := [x.from_]) (by rfl) (ho_.up (by (repeat (first | exact Up.rfl' _ | (refine Up.al _ ?_) | (refine Up.dr _ ?_) | (refine Up.dr1 ?_) | (refine Up.sc ?_ (by first | exact Nat.le_refl _ | (simp; done) | omega) _) | (refine Up.step (by assumption) ?_))))) 1 (by rfl) rfl (Rd.oneAt _ _ (x.from_) _ (by simp)) (by simp; omega) (by unfold maxLen; simp; omega) (by simp; omega) ?_); intro v1 w1 ho1 hg_ _ hu_; go_loud (have HS1 := Lib.hid ((HT1.out.alloc _).kept hg_ (by intro hh; have h_ := World.ownsRow.lt ho_ _ hh.symm; omega)); have hc1 : Up w w1 := Below.grown (Up.al _ hd1) hg_ (by simp; omega) (fun k e => by have h_ := World.ownsRow.lt ho_ _ e; omega); have d2 := (grown_cell hg_ (by simp; omega) (by intro hh; have h3_ : wr.heap.size + 1 = g3 := Option.some.inj hh; omega)).trans (al_cell dz1); have hz1b : w1a.heap.size + 1 ≤ w1.heap.size := (by have h_ := hg_.size; simpa using h_); have HO1 := Lib.hid ho1); clear ho1 ho_ hg_ hu_ HT1 HP1) | (at_mapUpdate; (have h_ := HS0.out); go_loud (refine wpList_update_set _ rfl _ _ _ 131 rfl 9 4 Tryz.underlying9 Tryz.underlying131 Tryz.underlying4 (w.heap.size + 1) (2 * i) (nmI legs i) rfl HS0.out (by unfold maxLen; omega) _ rfl rfl hs1 ?_); intro w1a hs_ hg_; go_loud (have HT1 := Lib.hid hs_; clear hs_; have HP1 := Lib.hid (HO0.out.grown hg_ (.inr (by intro hh; have h_ := World.ownsRow.lt HO0.out _ hh; omega))); have hd1 : Up w w1a := Below.grown hc0 hg_ hc0.size (fun k e => by cases e; omega); have hz1 := hg_.size; have dz1 := (grown_cell hg_ (by omega) (by intro hh; injection hh with hh; omega)).trans d1; have hp1 := Nat.le_trans hc0.size hg_.size); clear hg_) | (at_lookup; have h_ := HS0.out; (refine wpList_lookup_set _ rfl _ _ 131 rfl 9 4 Tryz.underlying9 Tryz.underlying131 Tryz.underlying4 zero_bool (w.heap.size + 1) (2 * i) (nmI legs i) rfl HS0.out _ rfl hs1 _ h1 ?_)))
          have hfin : nmI legs (i + 1) = (nmI legs i ++ [x.from_] ++ [x.to_]) := by rw [hx1]; simp [dd, h1, h2]
          have hoF := HO2.out
          obtain ⟨g4, c4, hv4, _⟩ := World.ownsRow.form hoF (by simp)
          exact ⟨⟨i + 1, g4, c4, by omega, by go_num, by rw [hfin]; exact hv4, by rw [hfin, ← hv4]; exact hoF, by rw [hfin]; exact HS2.out.mono (by omega), hc2⟩, by simp [intOf]; omega⟩
        | true =>
          refine wp_loop_rounds 3 ?_
          rw [rounds_succ]
          go_wp2_with (first | (at_lookup; have h_ := HS1.out; (refine wpList_lookup_set _ rfl _ _ 131 rfl 9 4 Tryz.underlying9 Tryz.underlying131 Tryz.underlying4 zero_bool (w.heap.size + 1) (2 * i + 1) (nmI legs i ++ [x.from_]) rfl HS1.out _ rfl hs2 _ h2 ?_)) | (at_builtin; (have ho_ := HP1.out); go_loud (refine wpList_append_rd el_str rfl (.tmp 34) (.tmp 36) rfl (base := w.heap.size + 2) (ys := (nmI legs i)) (xs := [x.from_]) (by rfl) (ho_.up (by (repeat (first | exact Up.rfl' _ | (refine Up.al _ ?_) | (refine Up.dr _ ?_) | (refine Up.dr1 ?_) | (refine Up.sc ?_ (by first | exact Nat.le_refl _ | (simp; done) | omega) _) | (refine Up.step (by assumption) ?_))))) 1 (by rfl) rfl (Rd.oneAt _ _ (x.from_) _ (by simp)) (by simp; omega) (by unfold maxLen; simp; omega) (by simp; omega) ?_); intro v1 w1 ho1 hg_ _ hu_; go_loud (have HS1 := Lib.hid ((HT1.out.alloc _).kept hg_ (by intro hh; have h_ := World.ownsRow.lt ho_ _ hh.symm; omega)); have hc1 : Up w w1 := Below.grown (Up.al _ hd1) hg_ (by simp; omega) (fun k e => by have h_ := World.ownsRow.lt ho_ _ e; omega); have d2 := (grown_cell hg_ (by simp; omega) (by intro hh; have h3_ : wr.heap.size + 1 = g3 := Option.some.inj hh; omega)).trans (al_cell dz1); have hz1b : w1a.heap.size + 1 ≤ w1.heap.size := (by have h_ := hg_.size; simpa using h_); have HO1 := Lib.hid ho1); clear ho1 ho_ hg_ hu_ HT1 HP1) | (at_mapUpdate; (have h_ := HS0.out); go_loud (refine wpList_update_set _ rfl _ _ _ 131 rfl 9 4 Tryz.underlying9 Tryz.underlying131 Tryz.underlying4 (w.heap.size + 1) (2 * i) (nmI legs i) rfl HS0.out (by unfold maxLen; omega) _ rfl rfl hs1 ?_); intro w1a hs_ hg_; go_loud (have HT1 := Lib.hid hs_; clear hs_; have HP1 := Lib.hid (HO0.out.grown hg_ (.inr (by intro hh; have h_ := World.ownsRow.lt HO0.out _ hh; omega))); have hd1 : Up w w1a := Below.grown hc0 hg_ hc0.size (fun k e => by cases e; omega); have hz1 := hg_.size; have dz1 := (grown_cell hg_ (by omega) (by intro hh; injection hh with hh; omega)).trans d1; have hp1 := Nat.le_trans hc0.size hg_.size); clear hg_) | (at_lookup; have h_ := HS0.out; (refine wpList_lookup_set _ rfl _ _ 131 rfl 9 4 Tryz.underlying9 Tryz.underlying131 Tryz.underlying4 zero_bool (w.heap.size + 1) (2 * i) (nmI legs i) rfl HS0.out _ rfl hs1 _ h1 ?_)))
          rw [rounds_succ]
          go_wp2_with (first | (at_lookup; have h_ := HS1.out; (refine wpList_lookup_set _ rfl _ _ 131 rfl 9 4 Tryz.underlying9 Tryz.underlying131 Tryz.underlying4 zero_bool (w.heap.size + 1) (2 * i + 1) (nmI legs i ++ [x.from_]) rfl HS1.out _ rfl hs2 _ h2 ?_)) | (at_builtin; (have ho_ := HP1.out); go_loud (refine wpList_append_rd el_str rfl (.tmp 34) (.tmp 36) rfl (base := w.heap.size + 2) (ys := (nmI legs i)) (xs := [x.from_]) (by rfl) (ho_.up (by (repeat (first | exact Up.rfl' _ | (refine Up.al _ ?_) | (refine Up.dr _ ?_) | (refine Up.dr1 ?_) | (refine Up.sc ?_ (by first | exact Nat.le_refl _ | (simp; done) | omega) _) | (refine Up.step (by assumption) ?_))))) 1 (by rfl) rfl (Rd.oneAt _ _ (x.from_) _ (by simp)) (by simp; omega) (by unfold maxLen; simp; omega) (by simp; omega) ?_); intro v1 w1 ho1 hg_ _ hu_; go_loud (have HS1 := Lib.hid ((HT1.out.alloc _).kept hg_ (by intro hh; have h_ := World.ownsRow.lt ho_ _ hh.symm; omega)); have hc1 : Up w w1 := Below.grown (Up.al _ hd1) hg_ (by simp; omega) (fun k e => by have h_ := World.ownsRow.lt ho_ _ e; omega); have d2 := (grown_cell hg_ (by simp; omega) (by intro hh; have h3_ : wr.heap.size + 1 = g3 := Option.some.inj hh; omega)).trans (al_cell dz1); have hz1b : w1a.heap.size + 1 ≤ w1.heap.size := (by have h_ := hg_.size; simpa using h_); have HO1 := Lib.hid ho1); clear ho1 ho_ hg_ hu_ HT1 HP1) | (at_mapUpdate; (have h_ := HS0.out); go_loud (refine wpList_update_set _ rfl _ _ _ 131 rfl 9 4 Tryz.underlying9 Tryz.underlying131 Tryz.underlying4 (w.heap.size + 1) (2 * i) (nmI legs i) rfl HS0.out (by unfold maxLen; omega) _ rfl rfl hs1 ?_); intro w1a hs_ hg_; go_loud (have HT1 := Lib.hid hs_; clear hs_; have HP1 := Lib.hid (HO0.out.grown hg_ (.inr (by intro hh; have h_ := World.ownsRow.lt HO0.out _ hh; omega))); have hd1 : Up w w1a := Below.grown hc0 hg_ hc0.size (fun k e => by cases e; omega); have hz1 := hg_.size; have dz1 := (grown_cell hg_ (by omega) (by intro hh; injection hh with hh; omega)).trans d1; have hp1 := Nat.le_trans hc0.size hg_.size); clear hg_) | (at_lookup; have h_ := HS0.out; (refine wpList_lookup_set _ rfl _ _ 131 rfl 9 4 Tryz.underlying9 Tryz.underlying131 Tryz.underlying4 zero_bool (w.heap.size + 1) (2 * i) (nmI legs i) rfl HS0.out _ rfl hs1 _ h1 ?_)))
          rw [rounds_succ]
          go_wp2_with (first | (at_lookup; have h_ := HS1.out; (refine wpList_lookup_set _ rfl _ _ 131 rfl 9 4 Tryz.underlying9 Tryz.underlying131 Tryz.underlying4 zero_bool (w.heap.size + 1) (2 * i + 1) (nmI legs i ++ [x.from_]) rfl HS1.out _ rfl hs2 _ h2 ?_)) | (at_builtin; (have ho_ := HP1.out); go_loud (refine wpList_append_rd el_str rfl (.tmp 34) (.tmp 36) rfl (base := w.heap.size + 2) (ys := (nmI legs i)) (xs := [x.from_]) (by rfl) (ho_.up (by (repeat (first | exact Up.rfl' _ | (refine Up.al _ ?_) | (refine Up.dr _ ?_) | (refine Up.dr1 ?_) | (refine Up.sc ?_ (by first | exact Nat.le_refl _ | (simp; done) | omega) _) | (refine Up.step (by assumption) ?_))))) 1 (by rfl) rfl (Rd.oneAt _ _ (x.from_) _ (by simp)) (by simp; omega) (by unfold maxLen; simp; omega) (by simp; omega) ?_); intro v1 w1 ho1 hg_ _ hu_; go_loud (have HS1 := Lib.hid ((HT1.out.alloc _).kept hg_ (by intro hh; have h_ := World.ownsRow.lt ho_ _ hh.symm; omega)); have hc1 : Up w w1 := Below.grown (Up.al _ hd1) hg_ (by simp; omega) (fun k e => by have h_ := World.ownsRow.lt ho_ _ e; omega); have d2 := (grown_cell hg_ (by simp; omega) (by intro hh; have h3_ : wr.heap.size + 1 = g3 := Option.some.inj hh; omega)).trans (al_cell dz1); have hz1b : w1a.heap.size + 1 ≤ w1.heap.size := (by have h_ := hg_.size; simpa using h_); have HO1 := Lib.hid ho1); clear ho1 ho_ hg_ hu_ HT1 HP1) | (at_mapUpdate; (have h_ := HS0.out); go_loud (refine wpList_update_set _ rfl _ _ _ 131 rfl 9 4 Tryz.underlying9 Tryz.underlying131 Tryz.underlying4 (w.heap.size + 1) (2 * i) (nmI legs i) rfl HS0.out (by unfold maxLen; omega) _ rfl rfl hs1 ?_); intro w1a hs_ hg_; go_loud (have HT1 := Lib.hid hs_; clear hs_; have HP1 := Lib.hid (HO0.out.grown hg_ (.inr (by intro hh; have h_ := World.ownsRow.lt HO0.out _ hh; omega))); have hd1 : Up w w1a := Below.grown hc0 hg_ hc0.size (fun k e => by cases e; omega); have hz1 := hg_.size; have dz1 := (grown_cell hg_ (by omega) (by intro hh; injection hh with hh; omega)).trans d1; have hp1 := Nat.le_trans hc0.size hg_.size); clear hg_) | (at_lookup; have h_ := HS0.out; (refine wpList_lookup_set _ rfl _ _ 131 rfl 9 4 Tryz.underlying9 Tryz.underlying131 Tryz.underlying4 zero_bool (w.heap.size + 1) (2 * i) (nmI legs i) rfl HS0.out _ rfl hs1 _ h1 ?_)))
          have hfin : nmI legs (i + 1) = (nmI legs i ++ [x.from_]) := by rw [hx1]; simp [dd, h1, h2]
          have hoF := HO1.out
          obtain ⟨g4, c4, hv4, _⟩ := World.ownsRow.form hoF (by simp)
          exact ⟨⟨i + 1, g4, c4, by omega, by go_num, by rw [hfin]; exact hv4, by rw [hfin, ← hv4]; exact hoF, by rw [hfin]; exact HS1.out.mono (by omega), hc1⟩, by simp [intOf]; omega⟩
      | true =>
        cases h2 : inL (nmI legs i) x.to_ with
        | false =>
          refine wp_loop_rounds 3 ?_
          rw [rounds_succ]
          go_wp2_with (first | (at_lookup; have h_ := HS0.out; (refine wpList_lookup_set _ rfl _ _ 131 rfl 9 4 Tryz.underlying9 Tryz.underlying131 Tryz.underlying4 zero_bool (w.heap.size + 1) (2 * i) (nmI legs i) rfl HS0.out _ rfl hs1 _ h1 ?_)) | (at_lookup; have h_ := HS0.out; (refine wpList_lookup_set _ rfl _ _ 131 rfl 9 4 Tryz.underlying9 Tryz.underlying131 Tryz.underlying4 zero_bool (w.heap.size + 1) (2 * i) (nmI legs i) rfl HS0.out _ rfl hs2 _ h2 ?_)) | (at_mapUpdate; (have h_ := HS0.out); go_loud (refine wpList_update_set _ rfl _ _ _ 131 rfl 9 4 Tryz.underlying9 Tryz.underlying131 Tryz.underlying4 (w.heap.size + 1) (2 * i) (nmI legs i) rfl HS0.out (by unfold maxLen; omega) _ rfl rfl hs2 ?_); intro w2a hs_ hg_; go_loud (have HT2 := Lib.hid hs_; clear hs_; have HP2 := Lib.hid (HO0.out.grown hg_ (.inr (by intro hh; have h_ := World.ownsRow.lt HO0.out _ hh; omega))); have hd2 : Up w w2a := Below.grown hc0 hg_ hc0.size (fun k e => by cases e; omega); have hz2 := hg_.size; have hp2 := Nat.le_trans hc0.size hg_.size); clear hg_) | (at_builtin; (have ho_ := HP2.out); go_loud (refine wpList_append_rd el_str rfl (.tmp 34) (.tmp 36) rfl (base := w.heap.size + 2) (ys := (nmI legs i)) (xs := [x.to_]) (by rfl) (ho_.up (by (repeat (first | exact Up.rfl' _ | (refine Up.al _ ?_) | (refine Up.dr _ ?_) | (refine Up.dr1 ?_) | (refine Up.sc ?_ (by first | exact Nat.le_refl _ | (simp; done) | omega) _) | (refine Up.step (by assumption) ?_))))) 1 (by rfl) rfl (Rd.oneAt _ _ (x.to_) _ (by simp)) (by simp; omega) (by unfold maxLen; simp; omega) (by simp; omega) ?_); intro v2 w2 ho2 hg_ _ hu_; go_loud (have HS2 := Lib.hid ((HT2.out.alloc _).kept hg_ (by intro hh; have h_ := World.ownsRow.lt ho_ _ hh.symm; omega)); have hc2 : Up w w2 := Below.grown (Up.al _ hd2) hg_ (by simp; omega) (fun k e => by have h_ := World.ownsRow.lt ho_ _ e; omega); have hz2b : w2a.heap.size + 1 ≤ w2.heap.size := (by have h_ := hg_.size; simpa using h_); have HO2 := Lib.hid ho2); clear ho2 ho_ hg_ hu_ HT2 HP2))
          rw [rounds_succ]
          go_wp2_with (first | (at_lookup; have h_ := HS0.out; (refine wpList_lookup_set _ rfl _ _ 131 rfl 9 4 Tryz.underlying9 Tryz.underlying131 Tryz.underlying4 zero_bool (w.heap.size + 1) (2 * i) (nmI legs i) rfl HS0.out _ rfl hs1 _ h1 ?_)) | (at_lookup; have h_ := HS0.out; (refine wpList_lookup_set _ rfl _ _ 131 rfl 9 4 Tryz.underlying9 Tryz.underlying131 Tryz.underlying4 zero_bool (w.heap.size + 1) (2 * i) (nmI legs i) rfl HS0.out _ rfl hs2 _ h2 ?_)) | (at_mapUpdate; (have h_ := HS0.out); go_loud (refine wpList_update_set _ rfl _ _ _ 131 rfl 9 4 Tryz.underlying9 Tryz.underlying131 Tryz.underlying4 (w.heap.size + 1) (2 * i) (nmI legs i) rfl HS0.out (by unfold maxLen; omega) _ rfl rfl hs2 ?_); intro w2a hs_ hg_; go_loud (have HT2 := Lib.hid hs_; clear hs_; have HP2 := Lib.hid (HO0.out.grown hg_ (.inr (by intro hh; have h_ := World.ownsRow.lt HO0.out _ hh; omega))); have hd2 : Up w w2a := Below.grown hc0 hg_ hc0.size (fun k e => by cases e; omega); have hz2 := hg_.size; have hp2 := Nat.le_trans hc0.size hg_.size); clear hg_) | (at_builtin; (have ho_ := HP2.out); go_loud (refine wpList_append_rd el_str rfl (.tmp 34) (.tmp 36) rfl (base := w.heap.size + 2) (ys := (nmI legs i)) (xs := [x.to_]) (by rfl) (ho_.up (by (repeat (first | exact Up.rfl' _ | (refine Up.al _ ?_) | (refine Up.dr _ ?_) | (refine Up.dr1 ?_) | (refine Up.sc ?_ (by first | exact Nat.le_refl _ | (simp; done) | omega) _) | (refine Up.step (by assumption) ?_))))) 1 (by rfl) rfl (Rd.oneAt _ _ (x.to_) _ (by simp)) (by simp; omega) (by unfold maxLen; simp; omega) (by simp; omega) ?_); intro v2 w2 ho2 hg_ _ hu_; go_loud (have HS2 := Lib.hid ((HT2.out.alloc _).kept hg_ (by intro hh; have h_ := World.ownsRow.lt ho_ _ hh.symm; omega)); have hc2 : Up w w2 := Below.grown (Up.al _ hd2) hg_ (by simp; omega) (fun k e => by have h_ := World.ownsRow.lt ho_ _ e; omega); have hz2b : w2a.heap.size + 1 ≤ w2.heap.size := (by have h_ := hg_.size; simpa using h_); have HO2 := Lib.hid ho2); clear ho2 ho_ hg_ hu_ HT2 HP2))
          rw [rounds_succ]
          go_wp2_with (first | (at_lookup; have h_ := HS0.out; (refine wpList_lookup_set _ rfl _ _ 131 rfl 9 4 Tryz.underlying9 Tryz.underlying131 Tryz.underlying4 zero_bool (w.heap.size + 1) (2 * i) (nmI legs i) rfl HS0.out _ rfl hs1 _ h1 ?_)) | (at_lookup; have h_ := HS0.out; (refine wpList_lookup_set _ rfl _ _ 131 rfl 9 4 Tryz.underlying9 Tryz.underlying131 Tryz.underlying4 zero_bool (w.heap.size + 1) (2 * i) (nmI legs i) rfl HS0.out _ rfl hs2 _ h2 ?_)) | (at_mapUpdate; (have h_ := HS0.out); go_loud (refine wpList_update_set _ rfl _ _ _ 131 rfl 9 4 Tryz.underlying9 Tryz.underlying131 Tryz.underlying4 (w.heap.size + 1) (2 * i) (nmI legs i) rfl HS0.out (by unfold maxLen; omega) _ rfl rfl hs2 ?_); intro w2a hs_ hg_; go_loud (have HT2 := Lib.hid hs_; clear hs_; have HP2 := Lib.hid (HO0.out.grown hg_ (.inr (by intro hh; have h_ := World.ownsRow.lt HO0.out _ hh; omega))); have hd2 : Up w w2a := Below.grown hc0 hg_ hc0.size (fun k e => by cases e; omega); have hz2 := hg_.size; have hp2 := Nat.le_trans hc0.size hg_.size); clear hg_) | (at_builtin; (have ho_ := HP2.out); go_loud (refine wpList_append_rd el_str rfl (.tmp 34) (.tmp 36) rfl (base := w.heap.size + 2) (ys := (nmI legs i)) (xs := [x.to_]) (by rfl) (ho_.up (by (repeat (first | exact Up.rfl' _ | (refine Up.al _ ?_) | (refine Up.dr _ ?_) | (refine Up.dr1 ?_) | (refine Up.sc ?_ (by first | exact Nat.le_refl _ | (simp; done) | omega) _) | (refine Up.step (by assumption) ?_))))) 1 (by rfl) rfl (Rd.oneAt _ _ (x.to_) _ (by simp)) (by simp; omega) (by unfold maxLen; simp; omega) (by simp; omega) ?_); intro v2 w2 ho2 hg_ _ hu_; go_loud (have HS2 := Lib.hid ((HT2.out.alloc _).kept hg_ (by intro hh; have h_ := World.ownsRow.lt ho_ _ hh.symm; omega)); have hc2 : Up w w2 := Below.grown (Up.al _ hd2) hg_ (by simp; omega) (fun k e => by have h_ := World.ownsRow.lt ho_ _ e; omega); have hz2b : w2a.heap.size + 1 ≤ w2.heap.size := (by have h_ := hg_.size; simpa using h_); have HO2 := Lib.hid ho2); clear ho2 ho_ hg_ hu_ HT2 HP2))
          have hfin : nmI legs (i + 1) = (nmI legs i ++ [x.to_]) := by rw [hx1]; simp [dd, h1, h2]
          have hoF := HO2.out
          obtain ⟨g4, c4, hv4, _⟩ := World.ownsRow.form hoF (by simp)
          exact ⟨⟨i + 1, g4, c4, by omega, by go_num, by rw [hfin]; exact hv4, by rw [hfin, ← hv4]; exact hoF, by rw [hfin]; exact HS2.out.mono (by omega), hc2⟩, by simp [intOf]; omega⟩
        | true =>
          refine wp_loop_rounds 3 ?_
          rw [rounds_succ]
          go_wp2_with (first | (at_lookup; have h_ := HS0.out; (refine wpList_lookup_set _ rfl _ _ 131 rfl 9 4 Tryz.underlying9 Tryz.underlying131 Tryz.underlying4 zero_bool (w.heap.size + 1) (2 * i) (nmI legs i) rfl HS0.out _ rfl hs1 _ h1 ?_)) | (at_lookup; have h_ := HS0.out; (refine wpList_lookup_set _ rfl _ _ 131 rfl 9 4 Tryz.underlying9 Tryz.underlying131 Tryz.underlying4 zero_bool (w.heap.size + 1) (2 * i) (nmI legs i) rfl HS0.out _ rfl hs2 _ h2 ?_)))
          rw [rounds_succ]
          go_wp2_with (first | (at_lookup; have h_ := HS0.out; (refine wpList_lookup_set _ rfl _ _ 131 rfl 9 4 Tryz.underlying9 Tryz.underlying131 Tryz.underlying4 zero_bool (w.heap.size + 1) (2 * i) (nmI legs i) rfl HS0.out _ rfl hs1 _ h1 ?_)) | (at_lookup; have h_ := HS0.out; (refine wpList_lookup_set _ rfl _ _ 131 rfl 9 4 Tryz.underlying9 Tryz.underlying131 Tryz.underlying4 zero_bool (w.heap.size + 1) (2 * i) (nmI legs i) rfl HS0.out _ rfl hs2 _ h2 ?_)))
          rw [rounds_succ]
          go_wp2_with (first | (at_lookup; have h_ := HS0.out; (refine wpList_lookup_set _ rfl _ _ 131 rfl 9 4 Tryz.underlying9 Tryz.underlying131 Tryz.underlying4 zero_bool (w.heap.size + 1) (2 * i) (nmI legs i) rfl HS0.out _ rfl hs1 _ h1 ?_)) | (at_lookup; have h_ := HS0.out; (refine wpList_lookup_set _ rfl _ _ 131 rfl 9 4 Tryz.underlying9 Tryz.underlying131 Tryz.underlying4 zero_bool (w.heap.size + 1) (2 * i) (nmI legs i) rfl HS0.out _ rfl hs2 _ h2 ?_)))
          have hfin : nmI legs (i + 1) = (nmI legs i) := by rw [hx1]; simp [dd, h1, h2]
          exact ⟨⟨i + 1, g3, c3', by omega, by go_num, by rw [hfin], by rw [hfin]; exact HO0.out, by rw [hfin]; exact HS0.out.mono (by omega), hc0⟩, by simp [intOf]; omega⟩
    · obtain rfl : i = legs.length := by omega
      have hlen := nmI_len legs legs.length
      go_wp2_with fail
      refine (sortStr_any g3 c3' _ _ (nmI legs legs.length) _ ho rfl (by omega)).mono ?_
      rintro e w1 ⟨rfl, ho1, hg1⟩
      have hu1 : Up w w1 := Below.grown hb hg1 hb.size (fun k e => by cases e; have h_ := World.ownsRow.lt ho g3 rfl; omega)
      go_wp2_with fail
      go_ret
      exact ⟨_, rfl, by simpa [srtS_len] using ho1.more (by omega), hu1⟩
end Go.Proofs.YtooikkfldddjfaaGreat

/- The mirror of impl.PlacesOf (by hand), and that the code does just that. -/
namespace Go.Proofs.YtooikkfldddjfaaGreat
set_option maxRecDepth 10000
open Go.RowKit
set_option linter.unusedVariables false
set_option linter.unusedSimpArgs false
/-- A fresh row of the call's own, as_ a result. -/
theorem ms_of_own {α : Type} [Enc α] {c : α → List PV} {T : TypeId} {S : Nat → Prop} {β : Nat → Option Blk} {w w' : World} {v : Value} {ys : List α} (hk : Ok w (own0 β) (E1 S β 0) w []) (ho : Own w' w.heap.size T v ys) (hu : Up w w')
    (hc : ∀ (x : α), (c x).length = Enc.k α ∧ ∀ (j : Nat) (p : PV), (c x)[j]? = some p → ∃ u, (Enc.cells x)[j]? = some u ∧ u.oneCell' = true ∧ ∀ (w : World) (E : Env), Rep w E p u) :
    ∃ E', Ok w (own0 β) E' w' [some ⟨T, Enc.k α, ys.map c⟩] ∧ (∀ b, S b → E'.S b) ∧ (∀ b, E'.S b → S b ∨ w.heap.size ≤ b ∨ own0 β b) ∧ (∀ l B, l < 0 → E'.β l = some B → β l = some B) ∧ Rep w' E' (.ms 0) v := by
  have hesl : ∀ (i : Nat) (cs : List PV), (ys.map c)[i]? = some cs → cs.length = Enc.k α := by
    intro i cs hi
    rw [List.getElem?_map] at hi
    obtain ⟨y, _, rfl⟩ := Option.map_eq_some_iff.1 hi
    exact (hc y).1
  have key : ∀ (B : Blk), v = B.sv → v.oneCell' = true → (B.z = false → w.heap.size ≤ B.b ∧ B.b < w'.heap.size) → (∀ E, BlkRep w' E ⟨T, Enc.k α, ys.map c⟩ B) →
      ∃ E', Ok w (own0 β) E' w' [some ⟨T, Enc.k α, ys.map c⟩] ∧ (∀ b, S b → E'.S b) ∧ (∀ b, E'.S b → S b ∨ w.heap.size ≤ b ∨ own0 β b) ∧ (∀ l B, l < 0 → E'.β l = some B → β l = some B) ∧ Rep w' E' (.ms 0) v := by
    intro B hv h1 hB hb
    obtain ⟨h2, _⟩ := hk.new (ν := 0) (fun h => absurd h (Nat.not_lt_zero 0)) ⟨T, Enc.k α, ys.map c⟩ B hu.os hu.tape hu.output hu.size (fun b hb => hu.block b hb) hB (fun _ => hb _)
    refine ⟨_, h2, fun b h => h, fun b h => .inl h, fun l B h => absurd h (Nat.not_lt_zero l), .ms 0 v (.inl rfl) h1 fun B' hB' => ?_⟩
    have : B' = B := by simpa [Env.add, eq_comm] using hB'
    rw [this]; exact hv
  rcases ho.2 with ⟨hv, h0⟩ | ⟨g, cap, cur, hv, hB, hg, hnc, hcm, hcs, ht⟩
  · have hy : ys = [] := List.length_eq_zero_iff.1 h0
    subst hy
    exact key ⟨0, 0, 0, Enc.k α, T, true⟩ (by rw [hv]; rfl) (by rw [hv]; rfl) (fun h => by cases h) fun E => ⟨rfl, rfl, rfl, Enc.pos, Nat.le_refl _, Nat.zero_le _, hesl, fun _ => rfl, fun h => by cases h⟩
  · refine key ⟨g, cap, ys.length, Enc.k α, T, false⟩ (by rw [hv]; rfl) (by rw [hv]; rfl) (fun _ => ⟨hB, (Array.getElem?_eq_some_iff.1 hg).1⟩) fun E => ⟨rfl, by simp, rfl, Enc.pos, hnc, hcm, hesl, (fun h => by cases h), fun _ => ⟨cur, hg, hcs, fun i cs j p hi hj => ?_⟩⟩
    rw [List.getElem?_map] at hi
    obtain ⟨y, hy, rfl⟩ := Option.map_eq_some_iff.1 hi
    obtain ⟨hl, hcc⟩ := hc y
    obtain ⟨u, hu1, hu2, hu3⟩ := hcc j p hj
    refine ⟨u, ?_, hu2, hu3 _ _⟩
    have hf := flat_at hy hu1
    have hlt := (List.getElem?_eq_some_iff.1 hf).1
    rw [flat_len] at hlt
    have := congrArg (fun l : List Value => l[i * Enc.k α + j]?) ht
    have h2 : (cur.toList.take (ys.length * Enc.k α))[i * Enc.k α + j]? = (flat ys)[i * Enc.k α + j]? := this
    rw [List.getElem?_take_of_lt hlt, Array.getElem?_toList, hf] at h2
    exact h2
theorem nmI_names (n : YNetwork) : nmI n.legs n.legs.length = (namesOf n).foldl dd [] := by
  have h : ∀ (l : List YLeg) (acc : List ByteArray), l.foldl (fun out l => dd (dd out l.from_) l.to_) acc = (l.flatMap fun l => [l.from_, l.to_]).foldl dd acc := by
    intro l
    induction l with
    | nil => intro acc; rfl
    | cons x l ih => intro acc; simp only [List.foldl_cons, List.flatMap_cons, List.foldl_append, List.foldl_nil, ih]
  unfold nmI namesOf
  rw [List.take_length]
  exact h _ _
def m_impl_PlacesOf (n : YNetwork) : Option (List ByteArray) :=
  if n.legs.length ≤ 1048576 ∧ (n.legs.all fun l => decide (l.from_.size ≤ maxLen ∧ l.to_.size ≤ maxLen)) = true then some (srtS ((namesOf n).foldl dd [])) else none
theorem ok_impl_PlacesOf (n : YNetwork) {r : (List ByteArray)} (H : m_impl_PlacesOf n = some r) : CallM Tryz.prog 58 [.ag (cNetwork n)] [] (.ms 0) [some ⟨9, 1, r.map cStr⟩] := by
  unfold m_impl_PlacesOf at H
  split at H
  case isFalse => cases H
  rename_i hok
  obtain ⟨hn, hs⟩ := hok
  obtain rfl := Option.some.inj H
  have hs' : ∀ l ∈ n.legs, l.from_.size ≤ maxLen ∧ l.to_.size ≤ maxLen := fun l hl => of_decide_eq_true (List.all_eq_true.1 hs l hl)
  intro S β w vs hk hl ha
  obtain ⟨x, hx0, hr⟩ := ha 0 _ rfl
  have hv : vs = #[x] := by
    have h1 : vs.size = 1 := hl
    apply Array.ext (by simp [h1])
    intro i h2 h3
    have : i = 0 := by omega
    subst this
    have := (Array.getElem?_eq_some_iff.1 hx0).2
    simpa using this
  subst hv
  obtain ⟨us, rfl, hul, hu1, hur⟩ := hr.ag_inv
  have hul' : us.size = 3 := hul
  have h0 : us[0]? = some us[0] := Array.getElem?_eq_getElem (by omega)
  have hus : us = #[us[0], us[1], us[2]] := by
    apply Array.ext (by simp [hul'])
    intro i h2 h3
    match i, h2 with
    | 0, _ => rfl
    | 1, _ => rfl
    | 2, _ => rfl
    | i + 3, h2 => omega
  have hr0 := hur 0 (.sl (n.legs.map cLeg)) _ rfl h0
  have hsl : ∃ A c, us[0] = .slice A n.legs.length c ∧ n.legs.length ≤ c ∧ Rd w w.heap.size A n.legs := by
    cases hr0 with
    | c h =>
      generalize hq : PV.sl (n.legs.map cLeg) = q at h
      generalize us[0] = y at h
      cases h with
      | v x h => cases hq
      | ud => cases hq
      | un => cases hq
      | rp => cases hq
      | fn => cases hq
      | nil A c =>
        have : n.legs = [] := by simpa using hq
        exact ⟨A, c, by rw [this]; rfl, by rw [this]; simp, by rw [this]; exact Rd.nil_⟩
      | sl es b off k c u hS hkp hnc hm hes hcc h1 hrr =>
        obtain rfl : n.legs.map cLeg = es := by simpa using hq
        refine ⟨_, c, by simp, by simpa using hnc, fun hne => ⟨b, off, rfl, hk.sz b hS, fun j u' hu' => ?_⟩⟩
        have hpos : 0 < n.legs.length := List.length_pos_iff.2 hne
        have hk6 : k = 6 := (hes 0 (cLeg n.legs[0]) (by simp [hpos])).symm
        subst hk6
        have hj := (List.getElem?_eq_some_iff.1 hu').1
        rw [flat_len] at hj
        have hj6 : j < n.legs.length * 6 := hj
        have hi : j / 6 < n.legs.length := by omega
        have hy : n.legs[j / 6]? = some n.legs[j / 6] := List.getElem?_eq_getElem hi
        have hjj : j = (j / 6) * 6 + j % 6 := by omega
        have hm6 : j % 6 < 6 := Nat.mod_lt _ (by decide)
        have hp : ∃ p u'', (cLeg n.legs[j / 6])[j % 6]? = some p ∧ (Enc.cells n.legs[j / 6])[j % 6]? = some u'' ∧ ∀ z, RepC w S p z → z = u'' := by
          generalize n.legs[j / 6] = y
          generalize j % 6 = m at hm6
          match m, hm6 with
          | 0, _ => exact ⟨_, _, rfl, rfl, fun z hz => by cases hz; rfl⟩
          | 1, _ => exact ⟨_, _, rfl, rfl, fun z hz => by cases hz; rfl⟩
          | 2, _ => exact ⟨_, _, rfl, rfl, fun z hz => by cases hz; rfl⟩
          | 3, _ => exact ⟨_, _, rfl, rfl, fun z hz => by cases hz; rfl⟩
          | 4, _ => exact ⟨_, _, rfl, rfl, fun z hz => by cases hz; rfl⟩
          | 5, _ => exact ⟨_, _, rfl, rfl, fun z hz => by cases hz; rfl⟩
        obtain ⟨p, u'', hp1, hp2, hp3⟩ := hp
        have hf := flat_at hy hp2
        rw [show Enc.k YLeg = 6 from rfl, ← hjj] at hf
        obtain rfl : u'' = u' := Option.some.inj (hf.symm.trans hu')
        have e1 : (n.legs.map cLeg)[j / 6]? = some (cLeg n.legs[j / 6]) := by simp [hi]
        have hc := hcc (j / 6) _ (j % 6) p e1 hp1
        have hz := hp3 _ (hrr (j / 6) _ (j % 6) p e1 hp1)
        rw [hz] at hc
        rw [show off + j = off + j / 6 * 6 + j % 6 by omega]
        exact hc
  obtain ⟨A, c, hA, hcap, hrd⟩ := hsl
  rw [hus, hA]
  refine (places_walk A n.legs _ c _ _ w hrd rfl hcap hn hs').mono ?_
  rintro e w' ⟨v, rfl, ho, hu⟩
  rw [nmI_names] at ho
  obtain ⟨E', h1, h2, h3, h4, h5⟩ := ms_of_own (c := cStr) hk ho hu (fun x => ⟨rfl, fun j p hj => by
    cases j with
    | zero => obtain rfl : vs x = p := by simpa using hj
              exact ⟨_, rfl, rfl, fun w E => .c (.v _ rfl)⟩
    | succ j => simp [cStr] at hj⟩)
  exact ⟨v, E', rfl, h1, h2, h3, h4, h5⟩
instance (n : YNetwork) : CT Tryz.prog (m_impl_PlacesOf n) := ⟨58, [.ag (cNetwork n)], [], fun r => .ms 0, fun r => [some ⟨9, 1, r.map cStr⟩], ok_impl_PlacesOf n⟩
end Go.Proofs.YtooikkfldddjfaaGreat

/- The mirror of spec.PlacesOf, and that the code does just that (printed by a program of my own). -/
namespace Go.Proofs.YtooikkfldddjfaaGreat
set_option maxRecDepth 10000
open Go.RowKit
set_option linter.unusedVariables false
set_option maxHeartbeats 16000000
def m_spec_PlacesOf_b1 (n : YNetwork) (s0 : Int × (List ByteArray)) (y2 : YLeg) (s1 : Int) : Option (Int ⊕ Int) :=
 cond (decide (s1 < (s0.2.length : Int)))
 ((getI s0.2 s1).bind fun y3 =>
 cond (sLt y3 y2.to_)
 (some (.inl (w64 (s1 + 1))))
 (some (.inr s1)))
 (some (.inr s1))
instance (n : YNetwork) (s0 : Int × (List ByteArray)) (y2 : YLeg) : LoopE (m_spec_PlacesOf_b1 n s0 y2) := ⟨fun s1 => [.un, .be 0 0 0, .un, .ms 1, vi s0.1, vs y2.to_, vi s1, .un, .un, .un, .un, .un, .un, .un, .un, .un, .un, .un, .un, .un, .un, .un, .un, .un, .un, .un, .un, .un, .un, .un, .un, .un, .un, .un, .un, .un, .un, .un, .un, .un, .un, .un, .un, .un, .un, .un, .un, .un, .un, .un, .un, .un, .un, .un, .un, .un, .un, .un, .un, .un, .un, .un, .un, .un, .un, .un, .un, .un, .un, .un, .un, .un], fun s1 => [some ⟨36, 3, [[.sl (n.legs.map cLeg), .sl (n.off.map cInt), vi n.change]]⟩, some ⟨9, 1, s0.2.map cStr⟩]⟩
def m_spec_PlacesOf_b2 (n : YNetwork) (s0 : Int × (List ByteArray)) (y1 : YLeg) (s2 : Int) : Option (Int ⊕ Int) :=
 cond (decide (s2 < (s0.2.length : Int)))
 ((getI s0.2 s2).bind fun y5 =>
 cond (sLt y5 y1.from_)
 (some (.inl (w64 (s2 + 1))))
 (some (.inr s2)))
 (some (.inr s2))
instance (n : YNetwork) (s0 : Int × (List ByteArray)) (y1 : YLeg) : LoopE (m_spec_PlacesOf_b2 n s0 y1) := ⟨fun s2 => [.un, .be 0 0 0, .un, .ms 1, vi s0.1, vs y1.from_, vi s2, .un, .un, .un, .un, .un, .un, .un, .un, .un, .un, .un, .un, .un, .un, .un, .un, .un, .un, .un, .un, .un, .un, .un, .un, .un, .un, .un, .un, .un, .un, .un, .un, .un, .un, .un, .un, .un, .un, .un, .un, .un, .un, .un, .un, .un, .un, .un, .un, .un, .un, .un, .un, .un, .un, .un, .un, .un, .un, .un, .un, .un, .un, .un, .un, .un], fun s2 => [some ⟨36, 3, [[.sl (n.legs.map cLeg), .sl (n.off.map cInt), vi n.change]]⟩, some ⟨9, 1, s0.2.map cStr⟩]⟩
def m_spec_PlacesOf_b0 (n : YNetwork) (s0 : Int × (List ByteArray)) : Option ((Int × (List ByteArray)) ⊕ (List ByteArray)) :=
 cond (decide (s0.1 < (w64 (2 * (n.legs.length : Int)))))
 ((getI n.legs (IntKind.i64.wrap (Int.tdiv s0.1 2))).bind fun y1 =>
 cond (decide ((Int.tmod s0.1 2) = 1))
 ((getI n.legs (IntKind.i64.wrap (Int.tdiv s0.1 2))).bind fun y2 =>
 (iterF (m_spec_PlacesOf_b1 n s0 y2) NN 0).bind (fun o1 =>
 cond (decide (o1 = (s0.2.length : Int)))
 ((chk (slOk 0 o1 s0.2.length)).bind fun _ =>
 (chk (appOk ((([] : List ByteArray) : List ByteArray).length + ((subL s0.2 0 o1) : List ByteArray).length) 16)).bind fun _ =>
 (chk (appOk ((((([] : List ByteArray) : List ByteArray) ++ (subL s0.2 0 o1)) : List ByteArray).length + ([y2.to_] : List ByteArray).length) 16)).bind fun _ =>
 (chk (slOk o1 (s0.2.length : Int) s0.2.length)).bind fun _ =>
 (chk (appOk ((((((([] : List ByteArray) : List ByteArray) ++ (subL s0.2 0 o1)) : List ByteArray) ++ [y2.to_]) : List ByteArray).length + ((subL s0.2 o1 (s0.2.length : Int)) : List ByteArray).length) 16)).bind fun _ =>
 some (.inl ((w64 (s0.1 + 1)), ((((((([] : List ByteArray) : List ByteArray) ++ (subL s0.2 0 o1)) : List ByteArray) ++ [y2.to_]) : List ByteArray) ++ (subL s0.2 o1 (s0.2.length : Int))))))
 ((getI s0.2 o1).bind fun y4 =>
 cond (!decide (y4 = y2.to_))
 ((chk (slOk 0 o1 s0.2.length)).bind fun _ =>
 (chk (appOk ((([] : List ByteArray) : List ByteArray).length + ((subL s0.2 0 o1) : List ByteArray).length) 16)).bind fun _ =>
 (chk (appOk ((((([] : List ByteArray) : List ByteArray) ++ (subL s0.2 0 o1)) : List ByteArray).length + ([y2.to_] : List ByteArray).length) 16)).bind fun _ =>
 (chk (slOk o1 (s0.2.length : Int) s0.2.length)).bind fun _ =>
 (chk (appOk ((((((([] : List ByteArray) : List ByteArray) ++ (subL s0.2 0 o1)) : List ByteArray) ++ [y2.to_]) : List ByteArray).length + ((subL s0.2 o1 (s0.2.length : Int)) : List ByteArray).length) 16)).bind fun _ =>
 some (.inl ((w64 (s0.1 + 1)), ((((((([] : List ByteArray) : List ByteArray) ++ (subL s0.2 0 o1)) : List ByteArray) ++ [y2.to_]) : List ByteArray) ++ (subL s0.2 o1 (s0.2.length : Int))))))
 (some (.inl ((w64 (s0.1 + 1)), s0.2))))))
 ((iterF (m_spec_PlacesOf_b2 n s0 y1) NN 0).bind (fun o2 =>
 cond (decide (o2 = (s0.2.length : Int)))
 ((chk (slOk 0 o2 s0.2.length)).bind fun _ =>
 (chk (appOk ((([] : List ByteArray) : List ByteArray).length + ((subL s0.2 0 o2) : List ByteArray).length) 16)).bind fun _ =>
 (chk (appOk ((((([] : List ByteArray) : List ByteArray) ++ (subL s0.2 0 o2)) : List ByteArray).length + ([y1.from_] : List ByteArray).length) 16)).bind fun _ =>
 (chk (slOk o2 (s0.2.length : Int) s0.2.length)).bind fun _ =>
 (chk (appOk ((((((([] : List ByteArray) : List ByteArray) ++ (subL s0.2 0 o2)) : List ByteArray) ++ [y1.from_]) : List ByteArray).length + ((subL s0.2 o2 (s0.2.length : Int)) : List ByteArray).length) 16)).bind fun _ =>
 some (.inl ((w64 (s0.1 + 1)), ((((((([] : List ByteArray) : List ByteArray) ++ (subL s0.2 0 o2)) : List ByteArray) ++ [y1.from_]) : List ByteArray) ++ (subL s0.2 o2 (s0.2.length : Int))))))
 ((getI s0.2 o2).bind fun y6 =>
 cond (!decide (y6 = y1.from_))
 ((chk (slOk 0 o2 s0.2.length)).bind fun _ =>
 (chk (appOk ((([] : List ByteArray) : List ByteArray).length + ((subL s0.2 0 o2) : List ByteArray).length) 16)).bind fun _ =>
 (chk (appOk ((((([] : List ByteArray) : List ByteArray) ++ (subL s0.2 0 o2)) : List ByteArray).length + ([y1.from_] : List ByteArray).length) 16)).bind fun _ =>
 (chk (slOk o2 (s0.2.length : Int) s0.2.length)).bind fun _ =>
 (chk (appOk ((((((([] : List ByteArray) : List ByteArray) ++ (subL s0.2 0 o2)) : List ByteArray) ++ [y1.from_]) : List ByteArray).length + ((subL s0.2 o2 (s0.2.length : Int)) : List ByteArray).length) 16)).bind fun _ =>
 some (.inl ((w64 (s0.1 + 1)), ((((((([] : List ByteArray) : List ByteArray) ++ (subL s0.2 0 o2)) : List ByteArray) ++ [y1.from_]) : List ByteArray) ++ (subL s0.2 o2 (s0.2.length : Int))))))
 (some (.inl ((w64 (s0.1 + 1)), s0.2)))))))
 (some (.inr s0.2))
instance (n : YNetwork) : LoopE (m_spec_PlacesOf_b0 n) := ⟨fun s0 => [.un, .be 0 0 0, .un, .ms 1, vi s0.1, .un, .un, .un, .un, .un, .un, .un, .un, .un, .un, .un, .un, .un, .un, .un, .un, .un, .un, .un, .un, .un, .un, .un, .un, .un, .un, .un, .un, .un, .un, .un, .un, .un, .un, .un, .un, .un, .un, .un, .un, .un, .un, .un, .un, .un, .un, .un, .un, .un, .un, .un, .un, .un, .un, .un, .un, .un, .un, .un, .un, .un, .un, .un, .un, .un, .un, .un], fun s0 => [some ⟨36, 3, [[.sl (n.legs.map cLeg), .sl (n.off.map cInt), vi n.change]]⟩, some ⟨9, 1, s0.2.map cStr⟩]⟩
def m_spec_PlacesOf (n : YNetwork) : Option (List ByteArray) :=
 (iterF (m_spec_PlacesOf_b0 n) NN (0, ([] : List ByteArray))).bind (fun o0 =>
 some o0)
theorem ok_spec_PlacesOf (n : YNetwork) {r : (List ByteArray)} (H : m_spec_PlacesOf n = some r) : CallM Tryz.prog 92 [.ag (cNetwork n)] [] (.ms 0) [some ⟨9, 1, r.map cStr⟩] := by
  replace H := H0 H
  unfold m_spec_PlacesOf at H
  refine callM_of Tryz.func92 rfl Tryz.ntmps92 Tryz.results92 fun Q hQ hQn => ?_
  exact wk
instance (n : YNetwork) : CT Tryz.prog (m_spec_PlacesOf n) := ⟨92, [.ag (cNetwork n)], [], fun r => .ms 0, fun r => [some ⟨9, 1, r.map cStr⟩], ok_spec_PlacesOf n⟩
end Go.Proofs.YtooikkfldddjfaaGreat

/- The two sides' lists of places are the same list. -/
namespace Go.Proofs.YtooikkfldddjfaaGreat
set_option maxRecDepth 10000
open Go.RowKit
set_option linter.unusedVariables false
set_option linter.unusedSimpArgs false
/-- A sorted list is known by its members. -/
theorem sorted_eq {α : Type} {r : α → α → Prop} (irr : ∀ a, ¬ r a a) (asy : ∀ a b, r a b → ¬ r b a) : ∀ {l1 l2 : List α}, l1.Pairwise r → l2.Pairwise r → (∀ x, x ∈ l1 ↔ x ∈ l2) → l1 = l2
  | [], [], _, _, _ => rfl
  | [], b :: l2, _, _, h => absurd ((h b).2 (List.mem_cons_self ..)) (by simp)
  | a :: l1, [], _, _, h => absurd ((h a).1 (List.mem_cons_self ..)) (by simp)
  | a :: l1, b :: l2, h1, h2, h => by
    rw [List.pairwise_cons] at h1 h2
    have hab : a = b := by
      rcases List.mem_cons.1 ((h a).1 (List.mem_cons_self ..)) with e | e
      · exact e
      · rcases List.mem_cons.1 ((h b).2 (List.mem_cons_self ..)) with e' | e'
        · exact e'.symm
        · exact absurd (h1.1 b e') (asy _ _ (h2.1 a e))
    subst hab
    congr 1
    refine sorted_eq irr asy h1.2 h2.2 fun x => ⟨fun hx => ?_, fun hx => ?_⟩
    · rcases List.mem_cons.1 ((h x).1 (List.mem_cons_of_mem _ hx)) with e | e
      · subst e; exact absurd (h1.1 x hx) (irr x)
      · exact e
    · rcases List.mem_cons.1 ((h x).2 (List.mem_cons_of_mem _ hx)) with e | e
      · subst e; exact absurd (h2.1 x hx) (irr x)
      · exact e
theorem sLt_iff (a b : ByteArray) : sLt a b = true ↔ a.data.toList < b.data.toList := by
  unfold sLt; rw [Go.Proofs.bytesLess_eq, ByteArray.toList_eq, ByteArray.toList_eq, decide_eq_true_iff]
theorem ba_ext {a b : ByteArray} (h : a.data.toList = b.data.toList) : a = b := by
  obtain ⟨⟨x⟩⟩ := a; obtain ⟨⟨y⟩⟩ := b; simpa using h
theorem sLt_irr (a : ByteArray) : ¬ sLt a a = true := by rw [sLt_iff]; exact List.lt_irrefl _
theorem sLt_as (a b : ByteArray) (h : sLt a b = true) : ¬ sLt b a = true := by rw [sLt_iff] at *; exact List.lt_asymm h
theorem sLt_tr {a b c : ByteArray} (h : sLt a b = true) (h' : sLt b c = true) : sLt a c = true := by rw [sLt_iff] at *; exact List.lt_trans h h'
theorem sLt_tri {a b : ByteArray} (h : ¬ sLt a b = true) (hn : a ≠ b) : sLt b a = true := by
  rw [sLt_iff] at *
  rcases List.le_total a.data.toList b.data.toList with e | e
  · rcases (List.le_iff_lt_or_eq.1 e) with e' | e'
    · exact absurd e' h
    · exact absurd (ba_ext e') hn
  · rcases (List.le_iff_lt_or_eq.1 e) with e' | e'
    · exact e'
    · exact absurd (ba_ext e'.symm) hn
/-- A name is put where it belongs. -/
def insS : List ByteArray → ByteArray → List ByteArray
  | [], p => [p]
  | x :: xs, p => if sLt x p = true then x :: insS xs p else if x = p then x :: xs else p :: x :: xs
theorem insS_mem {p y : ByteArray} : ∀ {xs : List ByteArray}, y ∈ insS xs p ↔ y = p ∨ y ∈ xs
  | [] => by simp [insS]
  | x :: xs => by
    unfold insS
    split
    · rw [List.mem_cons, insS_mem, List.mem_cons]; grind
    · split
      · rename_i h; subst h; simp
      · simp
theorem insS_sorted {p : ByteArray} : ∀ {xs : List ByteArray}, xs.Pairwise (fun a b => sLt a b = true) → (insS xs p).Pairwise (fun a b => sLt a b = true)
  | [], _ => by simp [insS]
  | x :: xs, h => by
    rw [List.pairwise_cons] at h
    unfold insS
    split
    · rename_i h1
      rw [List.pairwise_cons]
      refine ⟨fun y hy => ?_, insS_sorted h.2⟩
      rcases insS_mem.1 hy with e | e
      · rw [e]; exact h1
      · exact h.1 y e
    · rename_i h1
      split
      · rw [List.pairwise_cons]; exact h
      · rename_i h2
        have h3 := sLt_tri h1 h2
        rw [List.pairwise_cons, List.pairwise_cons]
        refine ⟨fun y hy => ?_, h⟩
        rcases List.mem_cons.1 hy with e | e
        · rw [e]; exact h3
        · exact sLt_tr h3 (h.1 y e)
theorem insS_len {p : ByteArray} : ∀ {xs : List ByteArray}, (insS xs p).length ≤ xs.length + 1
  | [] => by simp [insS]
  | x :: xs => by
    unfold insS
    split
    · have := insS_len (p := p) (xs := xs); simp; omega
    · split <;> simp
theorem foldS_mem {y : ByteArray} : ∀ {l acc : List ByteArray}, y ∈ l.foldl insS acc ↔ y ∈ l ∨ y ∈ acc
  | [], acc => by simp
  | p :: l, acc => by rw [List.foldl_cons, foldS_mem, insS_mem, List.mem_cons]; grind
theorem foldS_sorted : ∀ {l acc : List ByteArray}, acc.Pairwise (fun a b => sLt a b = true) → (l.foldl insS acc).Pairwise (fun a b => sLt a b = true)
  | [], acc, h => h
  | p :: l, acc, h => foldS_sorted (l := l) (insS_sorted h)
theorem foldS_len : ∀ {l acc : List ByteArray}, (l.foldl insS acc).length ≤ l.length + acc.length
  | [], acc => by simp
  | p :: l, acc => by
    have h1 := foldS_len (l := l) (acc := insS acc p)
    have h2 := insS_len (p := p) (xs := acc)
    simp only [List.foldl_cons, List.length_cons]; omega
/-! The program's: a list without repeats, sorted. -/
theorem dd_mem {y : ByteArray} : ∀ {l acc : List ByteArray}, y ∈ l.foldl dd acc ↔ y ∈ l ∨ y ∈ acc
  | [], acc => by simp
  | p :: l, acc => by
    rw [List.foldl_cons, dd_mem, List.mem_cons]
    unfold dd
    split
    · rename_i h
      have h := inL_iff.1 h
      constructor
      · grind
      · rintro ((rfl | h') | h') <;> grind
    · simp; grind
theorem dd_nodup : ∀ {l acc : List ByteArray}, acc.Nodup → (l.foldl dd acc).Nodup
  | [], acc, h => h
  | p :: l, acc, h => by
    rw [List.foldl_cons]
    refine dd_nodup ?_
    unfold dd
    split
    · exact h
    · rename_i h1
      rw [List.nodup_append]
      refine ⟨h, by simp, ?_⟩
      intro a ha b hb
      simp at hb
      rintro rfl
      subst hb
      exact h1 (inL_iff.2 ha)
theorem srtS_mem {y : ByteArray} {xs : List ByteArray} : y ∈ srtS xs ↔ y ∈ xs := by
  unfold srtS
  rw [List.mem_map]
  constructor
  · rintro ⟨l, hl, rfl⟩
    rw [List.mem_mergeSort, List.mem_map] at hl
    obtain ⟨b, hb, rfl⟩ := hl
    have : (⟨b.data.toList.toArray⟩ : ByteArray) = b := ba_ext (by simp)
    rw [this]; exact hb
  · intro h
    exact ⟨y.data.toList, by rw [List.mem_mergeSort, List.mem_map]; exact ⟨y, h, rfl⟩, ba_ext (by simp)⟩
theorem srtS_sorted {xs : List ByteArray} (h : xs.Nodup) : (srtS xs).Pairwise (fun a b => sLt a b = true) := by
  unfold srtS
  rw [List.pairwise_map]
  have h1 : ((xs.map fun b : ByteArray => b.data.toList).mergeSort fun x y => decide (x ≤ y)).Pairwise (fun a b => decide (a ≤ b) = true) :=
    List.pairwise_mergeSort (fun a b c => by simp only [decide_eq_true_iff]; exact List.le_trans) (fun a b => by simp only [Bool.or_eq_true, decide_eq_true_iff]; exact List.le_total a b) _
  have h2 : ((xs.map fun b : ByteArray => b.data.toList).mergeSort fun x y => decide (x ≤ y)).Nodup := by
    rw [(List.mergeSort_perm _ _).nodup_iff]
    unfold List.Nodup
    rw [List.pairwise_map]
    exact h.imp fun hne e => hne (ba_ext e)
  refine (h1.and h2).imp ?_
  rintro a b ⟨h3, h4⟩
  rw [sLt_iff]
  rcases (List.le_iff_lt_or_eq.1 (of_decide_eq_true h3)) with e | e
  · simpa using e
  · exact absurd e h4
/-- The places of a network. -/
def placesV (n : YNetwork) : List ByteArray := (namesOf n).foldl insS []
theorem impl_places {n : YNetwork} (h : NetFit n) : m_impl_PlacesOf n = some (placesV n) := by
  unfold m_impl_PlacesOf
  rw [if_pos ⟨h.legs, List.all_eq_true.2 fun l hl => decide_eq_true (by have := h.leg l hl; unfold legFit B60 at this; unfold maxLen; omega)⟩]
  congr 1
  exact sorted_eq (r := fun a b => sLt a b = true) sLt_irr sLt_as (srtS_sorted (dd_nodup List.nodup_nil)) (foldS_sorted List.Pairwise.nil) fun x => by
    rw [srtS_mem, dd_mem]; unfold placesV; rw [foldS_mem]
/-- A loop that counts as_ long as_ a test holds. -/
theorem iter_tw {α : Type} {xs : List α} {p : α → Bool} {body : Int → Option (Int ⊕ Int)} (h1 : ∀ i (hi : i < xs.length), body (i : Int) = some (if p xs[i] = true then .inl ((i + 1 : Nat) : Int) else .inr (i : Int))) (h2 : body (xs.length : Int) = some (.inr (xs.length : Int))) (hN : xs.length < NN) :
    iterF body NN 0 = some ((xs.takeWhile p).length : Int) := by
  have key : ∀ (ys : List α) (i N : Nat), xs.drop i = ys → i ≤ xs.length → ys.length < N → iterF body N (i : Int) = some ((i + (ys.takeWhile p).length : Nat) : Int) := by
    intro ys
    induction ys with
    | nil =>
      intro i N hd hi hN
      cases N with
      | zero => omega
      | succ N =>
        have : i = xs.length := by have := congrArg List.length hd; simp at this; omega
        subst this
        simp only [iterF, h2]
        rfl
    | cons y ys ih =>
      intro i N hd hi hN
      cases N with
      | zero => simp at hN
      | succ N =>
        have hy : xs[i]? = some y := by
          have := congrArg (fun l => l[0]?) hd
          simpa using this
        have hlt : i < xs.length := (List.getElem?_eq_some_iff.1 hy).1
        have hyv : xs[i] = y := (List.getElem?_eq_some_iff.1 hy).2
        have hd' : xs.drop (i + 1) = ys := by
          have := congrArg (List.drop 1) hd
          simpa [List.drop_drop] using this
        simp only [iterF, h1 i hlt, hyv]
        cases hp : p y with
        | true =>
          simp only [if_true]
          have := ih (i + 1) N hd' hlt (by simp at hN; omega)
          refine this.trans ?_
          rw [List.takeWhile_cons_of_pos hp]
          congr 2
          simp; omega
        | false =>
          simp only [Bool.false_eq_true, if_false]
          rw [List.takeWhile_cons_of_neg (by simp [hp])]
          rfl
  simpa using key xs 0 NN rfl (Nat.zero_le _) hN
theorem insS_eq (p : ByteArray) : ∀ (xs : List ByteArray), insS xs p =
    if xs[(xs.takeWhile fun x => sLt x p).length]? = some p then xs else xs.take (xs.takeWhile fun x => sLt x p).length ++ [p] ++ xs.drop (xs.takeWhile fun x => sLt x p).length
  | [] => by simp [insS]
  | x :: xs => by
    unfold insS
    cases h : sLt x p with
    | true =>
      simp only [if_true]
      rw [List.takeWhile_cons_of_pos (by exact h), insS_eq p xs]
      simp only [List.length_cons, List.getElem?_cons_succ, List.take_succ_cons, List.drop_succ_cons]
      split <;> simp
    | false =>
      rw [List.takeWhile_cons_of_neg (by simp [h])]
      simp only [List.length_nil, List.getElem?_cons_zero, List.take_zero, List.drop_zero, Option.some.injEq, Bool.false_eq_true, if_false]
      split <;> simp
/-- One round of the reference's loop. -/
theorem spec_ins {out : List ByteArray} {p : ByteArray} {i' : Int} (hl : out.length ≤ 4194304) :
    (cond (decide (((out.takeWhile fun x => sLt x p).length : Int) = (out.length : Int)))
     ((chk (slOk 0 ((out.takeWhile fun x => sLt x p).length : Int) out.length)).bind fun _ =>
     (chk (appOk ((([] : List ByteArray) : List ByteArray).length + ((subL out 0 ((out.takeWhile fun x => sLt x p).length : Int)) : List ByteArray).length) 16)).bind fun _ =>
     (chk (appOk ((((([] : List ByteArray) : List ByteArray) ++ (subL out 0 ((out.takeWhile fun x => sLt x p).length : Int))) : List ByteArray).length + ([p] : List ByteArray).length) 16)).bind fun _ =>
     (chk (slOk ((out.takeWhile fun x => sLt x p).length : Int) (out.length : Int) out.length)).bind fun _ =>
     (chk (appOk ((((((([] : List ByteArray) : List ByteArray) ++ (subL out 0 ((out.takeWhile fun x => sLt x p).length : Int))) : List ByteArray) ++ [p]) : List ByteArray).length + ((subL out ((out.takeWhile fun x => sLt x p).length : Int) (out.length : Int)) : List ByteArray).length) 16)).bind fun _ =>
     (some (.inl (i', ((((((([] : List ByteArray) : List ByteArray) ++ (subL out 0 ((out.takeWhile fun x => sLt x p).length : Int))) : List ByteArray) ++ [p]) : List ByteArray) ++ (subL out ((out.takeWhile fun x => sLt x p).length : Int) (out.length : Int))))) : Option ((Int × List ByteArray) ⊕ List ByteArray)))
     ((getI out ((out.takeWhile fun x => sLt x p).length : Int)).bind fun y4 =>
     cond (!decide (y4 = p))
     ((chk (slOk 0 ((out.takeWhile fun x => sLt x p).length : Int) out.length)).bind fun _ =>
     (chk (appOk ((([] : List ByteArray) : List ByteArray).length + ((subL out 0 ((out.takeWhile fun x => sLt x p).length : Int)) : List ByteArray).length) 16)).bind fun _ =>
     (chk (appOk ((((([] : List ByteArray) : List ByteArray) ++ (subL out 0 ((out.takeWhile fun x => sLt x p).length : Int))) : List ByteArray).length + ([p] : List ByteArray).length) 16)).bind fun _ =>
     (chk (slOk ((out.takeWhile fun x => sLt x p).length : Int) (out.length : Int) out.length)).bind fun _ =>
     (chk (appOk ((((((([] : List ByteArray) : List ByteArray) ++ (subL out 0 ((out.takeWhile fun x => sLt x p).length : Int))) : List ByteArray) ++ [p]) : List ByteArray).length + ((subL out ((out.takeWhile fun x => sLt x p).length : Int) (out.length : Int)) : List ByteArray).length) 16)).bind fun _ =>
     some (.inl (i', ((((((([] : List ByteArray) : List ByteArray) ++ (subL out 0 ((out.takeWhile fun x => sLt x p).length : Int))) : List ByteArray) ++ [p]) : List ByteArray) ++ (subL out ((out.takeWhile fun x => sLt x p).length : Int) (out.length : Int))))))
     (some (.inl (i', out))))) = some (.inl (i', insS out p)) := by
  have hk : (out.takeWhile fun x => sLt x p).length ≤ out.length := (List.takeWhile_sublist _).length_le
  rw [insS_eq]
  generalize hkk : (out.takeWhile fun x => sLt x p).length = k at *
  have e1 : subL out 0 (k : Int) = out.take k := by simp [subL]
  have e2 : subL out (k : Int) (out.length : Int) = out.drop k := by
    unfold subL
    rw [Int.toNat_natCast, Int.toNat_natCast, List.take_of_length_le (by simp)]
  have c1 : chk (slOk 0 (k : Int) out.length) = some () := chk_t (by unfold slOk; rw [decide_eq_true_iff]; omega)
  have c2 : chk (slOk (k : Int) (out.length : Int) out.length) = some () := chk_t (by unfold slOk; rw [decide_eq_true_iff]; omega)
  have ap : ∀ n : Nat, n ≤ 8388608 → chk (appOk n 16) = some () := fun n hn => chk_t (by unfold appOk; rw [decide_eq_true_iff]; omega)
  simp only [e1, e2, c1, c2, Option.bind_some, List.nil_append]
  rw [ap _ (by simp; omega), ap _ (by simp; omega), ap _ (by simp; omega)]
  simp only [Option.bind_some]
  by_cases hke : (k : Int) = out.length
  · have hke' : k = out.length := by omega
    rw [decide_eq_true hke, cond_true, if_neg (by rw [hke']; simp)]
  · rw [decide_eq_false hke, cond_false, getI_nat]
    have hlt : k < out.length := by omega
    rw [List.getElem?_eq_getElem hlt]
    simp only [Option.bind_some]
    by_cases he : out[k] = p
    · rw [decide_eq_true he, if_pos (by rw [he])]; rfl
    · rw [decide_eq_false he, if_neg (by simpa using he)]; rfl
theorem names_get {n : YNetwork} {i : Nat} (h : i < n.legs.length) : (namesOf n)[2 * i]? = some n.legs[i].from_ ∧ (namesOf n)[2 * i + 1]? = some n.legs[i].to_ := by
  unfold namesOf
  have key : ∀ (l : List YLeg) (i : Nat) (h : i < l.length), (l.flatMap fun x => [x.from_, x.to_])[2 * i]? = some l[i].from_ ∧ (l.flatMap fun x => [x.from_, x.to_])[2 * i + 1]? = some l[i].to_ := by
    intro l
    induction l with
    | nil => intro i h; simp at h
    | cons a l ih =>
      intro i h
      cases i with
      | zero => simp [List.flatMap_cons]
      | succ i =>
        have := ih i (by simpa using h)
        simp only [List.flatMap_cons, List.getElem_cons_succ]
        rw [show 2 * (i + 1) = 2 * i + 2 by omega, show 2 * i + 2 + 1 = 2 * i + 1 + 2 by omega]
        simpa using this
  exact key n.legs i h
theorem names_len (n : YNetwork) : (namesOf n).length = 2 * n.legs.length := by
  unfold namesOf
  induction n.legs with
  | nil => rfl
  | cons a l ih => simp only [List.flatMap_cons, List.length_append, ih, List.length_cons, List.length_nil]; omega
theorem twL {out : List ByteArray} {p : ByteArray} (hl : out.length ≤ 4194304) {body : Int → Option (Int ⊕ Int)} (hb : ∀ i : Int, body i = cond (decide (i < (out.length : Int))) ((getI out i).bind fun y => cond (sLt y p) (some (.inl (w64 (i + 1)))) (some (.inr i))) (some (.inr i))) :
    iterF body NN 0 = some ((out.takeWhile fun x => sLt x p).length : Int) := by
  refine iter_tw (fun i hi => ?_) ?_ (by unfold NN; omega)
  · have hw := w64_nat hi (by omega)
    have hg : getI out (i : Int) = some out[i] := by rw [getI_nat]; exact List.getElem?_eq_getElem hi
    rw [hb, decide_eq_true (show (i : Int) < out.length by omega), cond_true, hg]
    simp only [Option.bind_some, hw]
    cases sLt out[i] p <;> rfl
  · rw [hb, decide_eq_false (by omega)]; rfl
theorem spec_round {n : YNetwork} (h : n.legs.length ≤ 1048576) {i : Nat} {p : ByteArray} (hp : (namesOf n)[i]? = some p) {out : List ByteArray} (ho : out.length ≤ 4194304) :
    m_spec_PlacesOf_b0 n ((i : Int), out) = some (.inl (((i + 1 : Nat) : Int), insS out p)) := by
  have hi : i < 2 * n.legs.length := by rw [← names_len]; exact (List.getElem?_eq_some_iff.1 hp).1
  have hw2 : w64 (2 * (n.legs.length : Int)) = 2 * n.legs.length := w64_in (by omega)
  have hdiv : IntKind.i64.wrap (Int.tdiv (i : Int) 2) = ((i / 2 : Nat) : Int) := by
    rw [show Int.tdiv (i : Int) 2 = ((i / 2 : Nat) : Int) from rfl]
    exact w64_in (by omega)
  have hmod : Int.tmod (i : Int) 2 = ((i % 2 : Nat) : Int) := rfl
  have hw : w64 ((i : Int) + 1) = ((i + 1 : Nat) : Int) := w64_nat hi (by omega)
  have hlt : i / 2 < n.legs.length := by omega
  have hg : getI n.legs ((i / 2 : Nat) : Int) = some n.legs[i / 2] := by rw [getI_nat]; exact List.getElem?_eq_getElem hlt
  obtain ⟨n1, n2⟩ := names_get hlt
  unfold m_spec_PlacesOf_b0
  simp only [hw2, hdiv, hmod, hw, hg, Option.bind_some]
  rw [decide_eq_true (show (i : Int) < 2 * (n.legs.length : Int) by omega), cond_true]
  rcases Nat.mod_two_eq_zero_or_one i with hm | hm
  · rw [hm, decide_eq_false (show ¬ ((0 : Nat) : Int) = 1 by omega), cond_false]
    have hp' : p = n.legs[i / 2].from_ := by
      rw [show i = 2 * (i / 2) by omega, n1] at hp
      exact (Option.some.inj hp).symm
    rw [← hp']
    rw [twL ho (body := m_spec_PlacesOf_b2 n ((i : Int), out) n.legs[i / 2]) (p := p) (fun j => by rw [hp']; rfl)]
    exact spec_ins ho
  · rw [hm, decide_eq_true (show ((1 : Nat) : Int) = 1 by omega), cond_true]
    have hp' : p = n.legs[i / 2].to_ := by
      rw [show i = 2 * (i / 2) + 1 by omega] at hp
      rw [n2] at hp
      exact (Option.some.inj hp).symm
    rw [← hp']
    rw [twL ho (body := m_spec_PlacesOf_b1 n ((i : Int), out) n.legs[i / 2]) (p := p) (fun j => by rw [hp']; rfl)]
    exact spec_ins ho
theorem spec_places {n : YNetwork} (h : n.legs.length ≤ 1048576) : m_spec_PlacesOf n = some (placesV n) := by
  have key : ∀ (ps : List ByteArray) (i N : Nat) (out : List ByteArray), (namesOf n).drop i = ps → i ≤ (namesOf n).length → ps.length < N → out.length ≤ i → iterF (m_spec_PlacesOf_b0 n) N ((i : Int), out) = some (ps.foldl insS out) := by
    have hnl := names_len n
    intro ps
    induction ps with
    | nil =>
      intro i N out hd hi hN ho
      cases N with
      | zero => omega
      | succ N =>
        have : i = (namesOf n).length := by have := congrArg List.length hd; simp at this; omega
        subst this
        have hw2 : w64 (2 * (n.legs.length : Int)) = 2 * n.legs.length := w64_in (by omega)
        simp only [iterF, m_spec_PlacesOf_b0, hw2]
        rw [decide_eq_false (by rw [hnl]; omega)]
        rfl
    | cons p ps ih =>
      intro i N out hd hi hN ho
      cases N with
      | zero => simp at hN
      | succ N =>
        have hp : (namesOf n)[i]? = some p := by
          have := congrArg (fun l => l[0]?) hd
          simpa using this
        have hlt := (List.getElem?_eq_some_iff.1 hp).1
        have hd' : (namesOf n).drop (i + 1) = ps := by
          have := congrArg (List.drop 1) hd
          simpa [List.drop_drop] using this
        simp only [iterF, spec_round h hp (show out.length ≤ 4194304 by omega)]
        exact ih (i + 1) N (insS out p) hd' hlt (by simp at hN; omega) (by have := insS_len (p := p) (xs := out); omega)
  have hnl := names_len n
  unfold m_spec_PlacesOf
  rw [show ((0 : Int)) = ((0 : Nat) : Int) from rfl, key (namesOf n) 0 NN [] rfl (Nat.zero_le _) (by unfold NN; omega) (by simp)]
  rfl
theorem places_eq {n : YNetwork} (h : NetFit n) : m_impl_PlacesOf n = m_spec_PlacesOf n ∧ m_spec_PlacesOf n = some (placesV n) := ⟨(impl_places h).trans (spec_places h.legs).symm, spec_places h.legs⟩
theorem placesV_len (n : YNetwork) : (placesV n).length ≤ 2 * n.legs.length := by
  have := foldS_len (l := namesOf n) (acc := [])
  rw [names_len] at this
  simpa [placesV] using this
end Go.Proofs.YtooikkfldddjfaaGreat

/- The mirror of impl.hasBooking, and that the code does just that (printed by a program of my own). -/
namespace Go.Proofs.YtooikkfldddjfaaGreat
set_option maxRecDepth 10000
open Go.RowKit
set_option linter.unusedVariables false
set_option maxHeartbeats 16000000
def m_impl_hasBooking_b0 (w : YWorld) (id : Int) (t : YTrip) (s0 : Int) : Option (Int ⊕ (Unit ⊕ Bool)) :=
 cond (decide (s0 < (w.bookings.length : Int)))
 ((getI w.bookings s0).bind fun y1 =>
 cond (decide (y1.thing = id))
 (cond (decide (y1.trip = t))
 ((getI w.orders (w64 (id - 1))).bind fun y2 =>
 some (.inr (.inr (decide (y1.weight = y2.weight)))))
 (some (.inl (w64 (s0 + 1)))))
 (some (.inl (w64 (s0 + 1)))))
 (some (.inr (.inl ())))
instance (w : YWorld) (id : Int) (t : YTrip) : LoopE (m_impl_hasBooking_b0 w id t) := ⟨fun s0 => [.un, vi id, .un, .be 0 0 0, .un, .be 1 0 0, .un, .un, .un, .un, .sl (w.bookings.map cBooking), vi (w.bookings.length : Int), vi s0, .un, .un, .un, .un, .un, .un, .un, .un, .un, .un, .un, .un, .un, .un, .un, .un, .un, .un, .un, .un, .un, .un, .un, .un], fun s0 => [some ⟨42, 10, [[.sl (w.network.legs.map cLeg), .sl (w.network.off.map cInt), vi w.network.change, .sl (w.orders.map cOrder), .sl (w.bookings.map cBooking), .sl (w.closed.map cTrip), vi w.now, .sl (w.scans.map cScan), .sl (w.skip.map cInt), vi w.made]]⟩, some ⟨57, 2, [[vi t.leg, vi t.day]]⟩]⟩
def m_impl_hasBooking (w : YWorld) (id : Int) (t : YTrip) : Option Bool :=
 (iterF (m_impl_hasBooking_b0 w id t) NN 0).bind (selim (fun o0 =>
 some false) (fun r => some r))
theorem ok_impl_hasBooking (w : YWorld) (id : Int) (t : YTrip) {r : Bool} (H : m_impl_hasBooking w id t = some r) : CallM Tryz.prog 108 [.ag (cWorld w), vi id, .ag (cTrip t)] [] (vb r) [] := by
  replace H := H0 H
  unfold m_impl_hasBooking at H
  refine callM_of Tryz.func108 rfl Tryz.ntmps108 Tryz.results108 fun Q hQ hQn => ?_
  exact wk
instance (w : YWorld) (id : Int) (t : YTrip) : CT Tryz.prog (m_impl_hasBooking w id t) := ⟨108, [.ag (cWorld w), vi id, .ag (cTrip t)], [], fun r => vb r, fun r => [], ok_impl_hasBooking w id t⟩
end Go.Proofs.YtooikkfldddjfaaGreat

/- The mirror of spec.l10Booked, and that the code does just that (printed by a program of my own). -/
namespace Go.Proofs.YtooikkfldddjfaaGreat
set_option maxRecDepth 10000
open Go.RowKit
set_option linter.unusedVariables false
set_option maxHeartbeats 16000000
def m_spec_l10Booked_b0 (l : List YBooking) (thing : Int) (t : YTrip) (weight : Int) (s0 : Int) : Option (Int ⊕ (Unit ⊕ Bool)) :=
 cond (decide (s0 < (l.length : Int)))
 ((getI l s0).bind fun y1 =>
 cond (decide (y1 = (⟨thing, t, weight⟩ : YBooking)))
 (some (.inr (.inr true)))
 (some (.inl (w64 (s0 + 1)))))
 (some (.inr (.inl ())))
instance (l : List YBooking) (thing : Int) (t : YTrip) (weight : Int) : LoopE (m_spec_l10Booked_b0 l thing t weight) := ⟨fun s0 => [.sl (l.map cBooking), vi thing, .un, vi weight, .un, .un, .be 0 0 0, .un, .un, vi s0, .un, .un, .un, .un, .un, .un, .un, .un, .un, .un, .un, .un, .un, .un, .un], fun s0 => [some ⟨57, 2, [[vi t.leg, vi t.day]]⟩]⟩
def m_spec_l10Booked (l : List YBooking) (thing : Int) (t : YTrip) (weight : Int) : Option Bool :=
 (iterF (m_spec_l10Booked_b0 l thing t weight) NN 0).bind (selim (fun o0 =>
 some false) (fun r => some r))
theorem ok_spec_l10Booked (l : List YBooking) (thing : Int) (t : YTrip) (weight : Int) {r : Bool} (H : m_spec_l10Booked l thing t weight = some r) : CallM Tryz.prog 94 [.sl (l.map cBooking), vi thing, .ag (cTrip t), vi weight] [] (vb r) [] := by
  replace H := H0 H
  unfold m_spec_l10Booked at H
  refine callM_of Tryz.func94 rfl Tryz.ntmps94 Tryz.results94 fun Q hQ hQn => ?_
  exact wk
instance (l : List YBooking) (thing : Int) (t : YTrip) (weight : Int) : CT Tryz.prog (m_spec_l10Booked l thing t weight) := ⟨94, [.sl (l.map cBooking), vi thing, .ag (cTrip t), vi weight], [], fun r => vb r, fun r => [], ok_spec_l10Booked l thing t weight⟩
end Go.Proofs.YtooikkfldddjfaaGreat

/- The two sides' tests of scans, ways and orders answer alike: parts. -/
namespace Go.Proofs.YtooikkfldddjfaaGreat
set_option maxRecDepth 10000
open Go.RowKit
set_option linter.unusedVariables false
set_option linter.unusedSimpArgs false
/-- A loop that looks for the first element that passes. -/
theorem iter_fidx {α ο : Type} {xs : List α} {p : α → Bool} {body : Int → Option (Int ⊕ ο)} {f : Nat → ο} {e : ο} (h1 : ∀ i (hi : i < xs.length), body (i : Int) = some (if p xs[i] = true then .inr (f i) else .inl ((i + 1 : Nat) : Int))) (h2 : body (xs.length : Int) = some (.inr e)) (hN : xs.length < NN) :
    iterF body NN 0 = some ((xs.findIdx? p).elim e f) := by
  have key : ∀ (ys : List α) (i N : Nat), xs.drop i = ys → i ≤ xs.length → ys.length < N → iterF body N (i : Int) = some ((ys.findIdx? p).elim e fun k => f (i + k)) := by
    intro ys
    induction ys with
    | nil =>
      intro i N hd hi hN
      cases N with
      | zero => omega
      | succ N =>
        have : i = xs.length := by have := congrArg List.length hd; simp at this; omega
        subst this
        simp only [iterF, h2]
        rfl
    | cons y ys ih =>
      intro i N hd hi hN
      cases N with
      | zero => simp at hN
      | succ N =>
        have hy : xs[i]? = some y := by
          have := congrArg (fun l => l[0]?) hd
          simpa using this
        have hlt : i < xs.length := (List.getElem?_eq_some_iff.1 hy).1
        have hyv : xs[i] = y := (List.getElem?_eq_some_iff.1 hy).2
        have hd' : xs.drop (i + 1) = ys := by
          have := congrArg (List.drop 1) hd
          simpa [List.drop_drop] using this
        simp only [iterF, h1 i hlt, hyv]
        rw [List.findIdx?_cons]
        cases hp : p y with
        | true => simp
        | false =>
          simp only [Bool.false_eq_true, if_false]
          have := ih (i + 1) N hd' hlt (by simp at hN; omega)
          refine this.trans ?_
          cases ys.findIdx? p with
          | none => rfl
          | some k => simp only [Option.map_some, Option.elim_some]; congr 2; omega
  have := key xs 0 NN rfl (Nat.zero_le _) hN
  simpa using this
/-- Where a name stands; -1 if nowhere. -/
def idxV (l : List ByteArray) (p : ByteArray) : Int := (l.findIdx? fun y => decide (y = p)).elim (-1) fun k => (k : Int)
theorem l4Index_v {l : List ByteArray} (h : l.length ≤ 4194304) (p : ByteArray) : m_spec_l4Index l p = some (idxV l p) := by
  unfold m_spec_l4Index
  rw [iter_fidx (xs := l) (p := fun y => decide (y = p)) (f := fun i => .inr (i : Int)) (e := .inl ()) (fun i hi => ?_) (by simp [m_spec_l4Index_b0]) (by unfold NN; omega)]
  · unfold idxV
    cases l.findIdx? fun y => decide (y = p) <;> rfl
  · have hw := w64_nat hi (by omega)
    have hg : getI l (i : Int) = some l[i] := by rw [getI_nat]; exact List.getElem?_eq_getElem hi
    simp only [m_spec_l4Index_b0, decide_eq_true (show (i : Int) < l.length by omega), cond_true, hg, Option.bind_some, hw]
    cases decide (l[i] = p) <;> rfl
/-! Bookings: one for a thing and a trip. -/
def UniqB (l : List YBooking) : Prop := ∀ x ∈ l, ∀ y ∈ l, x.thing = y.thing → x.trip = y.trip → x = y
theorem befB_tr {a b c : YBooking} (h : befB a b = true) (h' : befB b c = true) : befB a c = true := by
  unfold befB at *
  split at h
  · have h1 := of_decide_eq_true h
    split at h'
    · have h2 := of_decide_eq_true h'
      rw [if_pos (by omega)]; exact decide_eq_true (by omega)
    · rename_i h2
      rw [if_pos (by omega)]; exact decide_eq_true (by omega)
  · rename_i h0
    split at h
    · have h1 := of_decide_eq_true h
      split at h'
      · have h2 := of_decide_eq_true h'
        rw [if_pos (by omega)]; exact decide_eq_true (by omega)
      · rename_i h2
        rw [if_neg (by omega)]
        split at h'
        · have h3 := of_decide_eq_true h'
          rw [if_pos (by omega)]; exact decide_eq_true (by omega)
        · rename_i h3
          rw [if_pos (by omega)]; exact decide_eq_true (by omega)
    · rename_i h00
      have h1 := of_decide_eq_true h
      split at h'
      · have h2 := of_decide_eq_true h'
        rw [if_pos (by omega)]; exact decide_eq_true (by omega)
      · rename_i h2
        rw [if_neg (by omega)]
        split at h'
        · have h3 := of_decide_eq_true h'
          rw [if_pos (by omega)]; exact decide_eq_true (by omega)
        · rename_i h3
          have h4 := of_decide_eq_true h'
          rw [if_neg (by omega)]; exact decide_eq_true (by omega)
theorem books_net {n : YNetwork} {l : List YBooking} (h : booksV n l = true) : m_spec_IsNetwork n = some true ∧ l.length ≤ 120 := by
  unfold booksV at h
  simp only [Bool.and_eq_true, decide_eq_true_iff] at h
  refine ⟨?_, by omega⟩
  cases hn : m_spec_IsNetwork n with
  | none => rw [hn] at h; cases h.1.1
  | some b => rw [hn] at h; have := h.1.1; simp at this; rw [this]
theorem books_at {n : YNetwork} {l : List YBooking} (h : booksV n l = true) {i : Nat} (hi : i < l.length) : bk1 n l i = true ∧ bk2 n l i = true := by
  unfold booksV at h
  simp only [Bool.and_eq_true] at h
  have := List.all_eq_true.1 h.2 i (List.mem_range.2 hi)
  simpa only [Bool.and_eq_true] using this
theorem books_lt {n : YNetwork} {l : List YBooking} (h : booksV n l = true) : ∀ (j i : Nat) (hj : j < l.length) (hij : i < j), befB (l[i]'(by omega)) l[j] = true := by
  intro j
  induction j with
  | zero => intro i hj hij; omega
  | succ j ih =>
    intro i hj hij
    have h1 := (books_at h hj).1
    unfold bk1 at h1
    rw [List.getElem?_eq_getElem hj] at h1
    simp only [Nat.add_sub_cancel, List.getElem?_eq_getElem (show j < l.length by omega), Bool.and_eq_true, Bool.or_eq_true, decide_eq_true_iff] at h1
    have h2 : befB l[j] l[j + 1] = true := by
      rcases h1.2 with h3 | h3
      · omega
      · exact h3
    rcases Nat.lt_or_ge i j with h3 | h3
    · exact befB_tr (ih i (by omega) h3) h2
    · have : i = j := by omega
      subst this; exact h2
theorem befB_irr {a b : YBooking} (h1 : a.thing = b.thing) (h2 : a.trip = b.trip) : befB a b = false := by
  unfold befB
  rw [h2, h1]
  simp
theorem books_uniq {n : YNetwork} {l : List YBooking} (h : booksV n l = true) : UniqB l := by
  intro x hx y hy ht htr
  obtain ⟨i, hi, rfl⟩ := List.getElem_of_mem hx
  obtain ⟨j, hj, rfl⟩ := List.getElem_of_mem hy
  rcases Nat.lt_trichotomy i j with h1 | h1 | h1
  · have := books_lt h j i hj h1
    rw [befB_irr ht htr] at this; cases this
  · subst h1; rfl
  · have := books_lt h i j hi h1
    rw [befB_irr ht.symm htr.symm] at this; cases this
def bookedB (l : List YBooking) (thing : Int) (t : YTrip) (wt : Int) : Bool := l.any fun y => decide (y = (⟨thing, t, wt⟩ : YBooking))
theorem booked_v {l : List YBooking} (h : l.length ≤ 1048576) (thing : Int) (t : YTrip) (wt : Int) : m_spec_l10Booked l thing t wt = some (bookedB l thing t wt) := by
  unfold m_spec_l10Booked
  rw [iter_find (xs := l) (p := fun y => decide (y = (⟨thing, t, wt⟩ : YBooking))) (r := .inr true) (e := .inl ()) (fun i hi => ?_) (by simp [m_spec_l10Booked_b0]) (by unfold NN; omega)]
  · unfold bookedB
    cases l.any fun y => decide (y = (⟨thing, t, wt⟩ : YBooking)) <;> rfl
  · have hw := w64_nat hi (by omega)
    have hg : getI l (i : Int) = some l[i] := by rw [getI_nat]; exact List.getElem?_eq_getElem hi
    simp only [m_spec_l10Booked_b0, decide_eq_true (show (i : Int) < l.length by omega), cond_true, hg, Option.bind_some, hw]
    cases decide (l[i] = (⟨thing, t, wt⟩ : YBooking)) <;> rfl
theorem hasBooking_v {w : YWorld} (h : w.bookings.length ≤ 1048576) (hu : UniqB w.bookings) {id : Int} {o : YOrder} (ho : getI w.orders (w64 (id - 1)) = some o) (t : YTrip) : m_impl_hasBooking w id t = some (bookedB w.bookings id t o.weight) := by
  unfold m_impl_hasBooking
  have e : iterF (m_impl_hasBooking_b0 w id t) NN 0 = runL (fun _ (_ : Unit) (x : YBooking) => some (if x.thing = id ∧ x.trip = t then .inr (.inr (decide (x.weight = o.weight))) else .inl ())) (fun _ => some (.inl ())) 0 w.bookings () := by
    refine iter_list (A := Unit) (fun _ i => i) _ _ (fun _ i x hx => ?_) (fun _ => ?_) (by unfold NN; omega) ()
    · have hi := (List.getElem?_eq_some_iff.1 hx).1
      have hw := w64_nat hi (by omega)
      have hg : getI w.bookings (i : Int) = some x := by rw [getI_nat]; exact hx
      simp only [m_impl_hasBooking_b0, decide_eq_true (show (i : Int) < w.bookings.length by omega), cond_true, hg, Option.bind_some, hw, ho]
      by_cases h1 : x.thing = id
      · by_cases h2 : x.trip = t
        · simp [h1, h2]
        · simp [h1, h2]
      · simp [h1]
    · simp [m_impl_hasBooking_b0]
  have key : ∀ (l : List YBooking) (i : Nat), (∀ x ∈ l, x ∈ w.bookings) → runL (fun _ (_ : Unit) (x : YBooking) => some (if x.thing = id ∧ x.trip = t then (.inr (.inr (decide (x.weight = o.weight))) : Unit ⊕ (Unit ⊕ Bool)) else .inl ())) (fun _ => some (Sum.inl () : Unit ⊕ Bool)) i l () = some (if l.any (fun y => decide (y.thing = id ∧ y.trip = t)) = true then Sum.inr (bookedB l id t o.weight) else Sum.inl ()) := by
    intro l
    induction l with
    | nil => intro i _; rfl
    | cons x l ih =>
      intro i hm
      simp only [runL]
      by_cases hc : x.thing = id ∧ x.trip = t
      · rw [if_pos hc]
        simp only [Option.bind_some, List.any_cons, decide_eq_true hc, Bool.true_or, if_true]
        show some (Sum.inr (decide (x.weight = o.weight)) : Unit ⊕ Bool) = _
        congr 2
        unfold bookedB
        rw [List.any_cons]
        by_cases hw : x.weight = o.weight
        · rw [decide_eq_true hw]
          have : x = (⟨id, t, o.weight⟩ : YBooking) := by obtain ⟨a, b, c⟩ := x; simp at hc hw ⊢; exact ⟨hc.1, hc.2, hw⟩
          rw [decide_eq_true this]; rfl
        · rw [decide_eq_false hw]
          symm
          rw [Bool.or_eq_false_iff]
          refine ⟨decide_eq_false (fun e => hw (by rw [e])), ?_⟩
          rw [Bool.eq_false_iff]
          intro h3
          obtain ⟨y, hy, he⟩ := List.any_eq_true.1 h3
          have he := of_decide_eq_true he
          have := hu x (hm x (List.mem_cons_self ..)) y (hm y (List.mem_cons_of_mem _ hy)) (by rw [he]; exact hc.1) (by rw [he]; exact hc.2)
          exact hw (by rw [this, he])
      · rw [if_neg hc]
        simp only [Option.bind_some, selim]
        rw [ih (i + 1) (fun y hy => hm y (List.mem_cons_of_mem _ hy))]
        simp only [List.any_cons, decide_eq_false hc, Bool.false_or]
        have : bookedB (x :: l) id t o.weight = bookedB l id t o.weight := by
          unfold bookedB
          rw [List.any_cons, decide_eq_false (fun e => hc (by rw [e]; exact ⟨rfl, rfl⟩)), Bool.false_or]
        rw [this]
  rw [e, key w.bookings 0 (fun x h => h)]
  cases ha : w.bookings.any (fun y => decide (y.thing = id ∧ y.trip = t)) with
  | true => rfl
  | false =>
    show some false = _
    congr 1
    symm
    unfold bookedB
    rw [Bool.eq_false_iff]
    intro h3
    obtain ⟨y, hy, he⟩ := List.any_eq_true.1 h3
    have he := of_decide_eq_true he
    have := List.any_eq_false.1 ha y hy
    apply this
    rw [he]; simp
theorem coming_v {o : YOrder} (h : 0 ≤ o.gone ∧ o.gone ≤ o.way.length) (hl : o.way.length ≤ 1048576) : ∃ k, m_spec_l10Coming o = some (k : Int) ∧ 0 ≤ k ∧ m_impl_toCome o = some (if (o.way.length : Int) < k then (o.way.length : Int) else k) ∧ k ≤ o.way.length + 1 := by
  unfold m_spec_l10Coming m_impl_toCome
  have hw : w64 (o.gone + 1) = o.gone + 1 := w64_in (by omega)
  simp only [hw]
  cases decide (o.state = 2) with
  | true => exact ⟨o.gone + 1, rfl, by omega, rfl, by omega⟩
  | false => exact ⟨o.gone, rfl, by omega, by rw [if_neg (show ¬ (o.way.length : Int) < o.gone by omega)]; rfl, by omega⟩
end Go.Proofs.YtooikkfldddjfaaGreat

/- The mirror of impl.IsWay, and that the code does just that (printed by a program of my own). -/
namespace Go.Proofs.YtooikkfldddjfaaGreat
set_option maxRecDepth 10000
open Go.RowKit
set_option linter.unusedVariables false
set_option maxHeartbeats 16000000
def m_impl_IsWay_b0 (n : YNetwork) (way : List YTrip) (to_ : ByteArray) (s0 : Int × ByteArray × Int) : Option ((Int × ByteArray × Int) ⊕ (ByteArray ⊕ Bool)) :=
 cond (decide (s0.2.2 < (way.length : Int)))
 ((getI way s0.2.2).bind fun y5 =>
 (m_impl_IsTrip n y5).bind fun y6 =>
 cond (!y6)
 (some (.inr (.inr false)))
 ((getI n.legs y5.leg).bind fun y7 =>
 cond (!decide (y7.from_ = s0.2.1))
 (some (.inr (.inr false)))
 ((m_impl_starts n y5).bind fun y8 =>
 cond (decide (y8 < s0.1))
 (some (.inr (.inr false)))
 ((getI n.legs y5.leg).bind fun y9 =>
 (getI way s0.2.2).bind fun y10 =>
 (m_impl_ends n y10).bind fun y11 =>
 some (.inl ((w64 (y11 + n.change)), y9.to_, (w64 (s0.2.2 + 1))))))))
 (some (.inr (.inl s0.2.1)))
instance (n : YNetwork) (way : List YTrip) (to_ : ByteArray) : LoopE (m_impl_IsWay_b0 n way to_) := ⟨fun s0 => [.un, .sl (way.map cTrip), .un, vs to_, vi s0.1, .be 0 0 0, .un, .un, .un, .un, .un, .un, vs s0.2.1, .un, .un, .un, .un, .un, .un, .un, .un, .un, .un, .un, .un, .un, .un, .un, .un, .un, .un, .un, .un, .sl (way.map cTrip), vi (way.length : Int), vi s0.2.2, .un, .un, .un, .un, .un, .un, .un, .un, .un, .un, .un, .un, .un, .un, .un, .un, .un, .un, .un, .un, .un, .un, .un, .un, .un, .un, .un, .un, .un, .un, .un, .un, .un, .un, .un, .un, .un, .un, .un, .un, .un, .un, .un, .un, .un, .un], fun s0 => [some ⟨36, 3, [[.sl (n.legs.map cLeg), .sl (n.off.map cInt), vi n.change]]⟩]⟩
def m_impl_IsWay (n : YNetwork) (way : List YTrip) (from2_ : ByteArray) (to_ : ByteArray) (at4_ : Int) : Option Bool :=
 (m_impl_PlacesOf n).bind fun y1 =>
 (m_impl_IsNetwork n).bind fun y2 =>
 cond (!y2)
 (some false)
 ((m_impl_placeAt y1 from2_).bind fun y3 =>
 cond (decide (y3 < 0))
 (some false)
 ((m_impl_placeAt y1 to_).bind fun y4 =>
 cond (decide (y4 < 0))
 (some false)
 ((iterF (m_impl_IsWay_b0 n way to_) NN (at4_, from2_, 0)).bind (selim (fun o0 =>
 some (decide (o0 = to_))) (fun r => some r)))))
theorem ok_impl_IsWay (n : YNetwork) (way : List YTrip) (from2_ : ByteArray) (to_ : ByteArray) (at4_ : Int) {r : Bool} (H : m_impl_IsWay n way from2_ to_ at4_ = some r) : CallM Tryz.prog 110 [.ag (cNetwork n), .sl (way.map cTrip), vs from2_, vs to_, vi at4_] [] (vb r) [] := by
  replace H := H0 H
  unfold m_impl_IsWay at H
  refine callM_of Tryz.func110 rfl Tryz.ntmps110 Tryz.results110 fun Q hQ hQn => ?_
  exact wk
instance (n : YNetwork) (way : List YTrip) (from2_ : ByteArray) (to_ : ByteArray) (at4_ : Int) : CT Tryz.prog (m_impl_IsWay n way from2_ to_ at4_) := ⟨110, [.ag (cNetwork n), .sl (way.map cTrip), vs from2_, vs to_, vi at4_], [], fun r => vb r, fun r => [], ok_impl_IsWay n way from2_ to_ at4_⟩
end Go.Proofs.YtooikkfldddjfaaGreat

/- The mirror of spec.IsWay, and that the code does just that (printed by a program of my own). -/
namespace Go.Proofs.YtooikkfldddjfaaGreat
set_option maxRecDepth 10000
open Go.RowKit
set_option linter.unusedVariables false
set_option maxHeartbeats 16000000
def m_spec_IsWay_b0 (n : YNetwork) (way : List YTrip) (to_ : ByteArray) (s0 : ByteArray × Int × Int) : Option ((ByteArray × Int × Int) ⊕ (ByteArray ⊕ Bool)) :=
 cond (decide (s0.2.2 < (way.length : Int)))
 ((getI way s0.2.2).bind fun y5 =>
 (m_spec_IsTrip n y5).bind fun y6 =>
 cond (!y6)
 (some (.inr (.inr false)))
 ((getI way s0.2.2).bind fun y7 =>
 (getI n.legs y7.leg).bind fun y8 =>
 cond (!decide (y8.from_ = s0.1))
 (some (.inr (.inr false)))
 ((getI way s0.2.2).bind fun y9 =>
 (m_spec_l3Starts n y9).bind fun y10 =>
 cond (decide (y10 < s0.2.1))
 (some (.inr (.inr false)))
 ((getI way s0.2.2).bind fun y11 =>
 (getI n.legs y11.leg).bind fun y12 =>
 (getI way s0.2.2).bind fun y13 =>
 (m_spec_l3Ends n y13).bind fun y14 =>
 some (.inl (y12.to_, (w64 (y14 + n.change)), (w64 (s0.2.2 + 1))))))))
 (some (.inr (.inl s0.1)))
instance (n : YNetwork) (way : List YTrip) (to_ : ByteArray) : LoopE (m_spec_IsWay_b0 n way to_) := ⟨fun s0 => [.un, .sl (way.map cTrip), .un, vs to_, .un, .be 0 0 0, .un, .un, .un, .un, .un, .un, vs s0.1, vi s0.2.1, vi s0.2.2, .un, .un, .un, .un, .un, .un, .un, .un, .un, .un, .un, .un, .un, .un, .un, .un, .un, .un, .un, .un, .un, .un, .un, .un, .un, .un, .un, .un, .un, .un, .un, .un, .un, .un, .un, .un, .un, .un, .un, .un, .un, .un, .un, .un, .un, .un, .un, .un, .un, .un, .un, .un, .un, .un, .un, .un, .un, .un, .un, .un, .un, .un, .un, .un, .un, .un, .un, .un, .un, .un, .un, .un, .un, .un, .un, .un, .un, .un], fun s0 => [some ⟨36, 3, [[.sl (n.legs.map cLeg), .sl (n.off.map cInt), vi n.change]]⟩]⟩
def m_spec_IsWay (n : YNetwork) (way : List YTrip) (from2_ : ByteArray) (to_ : ByteArray) (at4_ : Int) : Option Bool :=
 (m_spec_PlacesOf n).bind fun y1 =>
 (m_spec_IsNetwork n).bind fun y2 =>
 cond (!y2)
 (some false)
 ((m_spec_l4Index y1 from2_).bind fun y3 =>
 cond (decide (y3 < 0))
 (some false)
 ((m_spec_l4Index y1 to_).bind fun y4 =>
 cond (decide (y4 < 0))
 (some false)
 ((iterF (m_spec_IsWay_b0 n way to_) NN (from2_, at4_, 0)).bind (selim (fun o0 =>
 some (decide (o0 = to_))) (fun r => some r)))))
theorem ok_spec_IsWay (n : YNetwork) (way : List YTrip) (from2_ : ByteArray) (to_ : ByteArray) (at4_ : Int) {r : Bool} (H : m_spec_IsWay n way from2_ to_ at4_ = some r) : CallM Tryz.prog 95 [.ag (cNetwork n), .sl (way.map cTrip), vs from2_, vs to_, vi at4_] [] (vb r) [] := by
  replace H := H0 H
  unfold m_spec_IsWay at H
  refine callM_of Tryz.func95 rfl Tryz.ntmps95 Tryz.results95 fun Q hQ hQn => ?_
  exact wk
instance (n : YNetwork) (way : List YTrip) (from2_ : ByteArray) (to_ : ByteArray) (at4_ : Int) : CT Tryz.prog (m_spec_IsWay n way from2_ to_ at4_) := ⟨95, [.ag (cNetwork n), .sl (way.map cTrip), vs from2_, vs to_, vi at4_], [], fun r => vb r, fun r => [], ok_spec_IsWay n way from2_ to_ at4_⟩
end Go.Proofs.YtooikkfldddjfaaGreat

/- The mirror of impl.IsScan, and that the code does just that (printed by a program of my own). -/
namespace Go.Proofs.YtooikkfldddjfaaGreat
set_option maxRecDepth 10000
open Go.RowKit
set_option linter.unusedVariables false
set_option maxHeartbeats 16000000
def m_impl_IsScan (n : YNetwork) (s : YScan) : Option Bool :=
 (m_impl_IsNetwork n).bind fun y1 =>
 cond (!y1)
 (some false)
 ((m_impl_within s.thing 1 9999).bind fun y2 =>
 cond (!y2)
 (some false)
 ((m_impl_within s.at_ 0 100000).bind fun y3 =>
 cond (!y3)
 (some false)
 (cond (decide (s.kind = 1))
 (cond (decide (s.kind = 1))
 ((m_impl_PlacesOf n).bind fun y4 =>
 (m_impl_placeAt y4 s.place).bind fun y5 =>
 cond (decide (0 ≤ y5))
 (some (decide (s.trip = (⟨0, 0⟩ : YTrip))))
 (some false))
 (cond (decide (s.kind = 3))
 (cond (decide (s.place = ⟨#[]⟩))
 ((m_impl_IsTrip n s.trip).bind fun y6 =>
 cond y6
 ((m_impl_starts n s.trip).bind fun y7 =>
 some (decide (s.at_ ≤ y7)))
 (some false))
 (some false))
 (cond (decide (s.kind = 2))
 (cond (decide (s.place = ⟨#[]⟩))
 ((m_impl_IsTrip n s.trip).bind fun y8 =>
 cond y8
 ((m_impl_ends n s.trip).bind fun y9 =>
 some (decide (y9 ≤ s.at_)))
 (some false))
 (some false))
 (some false))))
 (cond (decide (s.kind = 4))
 ((m_impl_PlacesOf n).bind fun y10 =>
 (m_impl_placeAt y10 s.place).bind fun y11 =>
 cond (decide (0 ≤ y11))
 (some (decide (s.trip = (⟨0, 0⟩ : YTrip))))
 (some false))
 (cond (decide (s.kind = 3))
 (cond (decide (s.place = ⟨#[]⟩))
 ((m_impl_IsTrip n s.trip).bind fun y12 =>
 cond y12
 ((m_impl_starts n s.trip).bind fun y13 =>
 some (decide (s.at_ ≤ y13)))
 (some false))
 (some false))
 (cond (decide (s.kind = 2))
 (cond (decide (s.place = ⟨#[]⟩))
 ((m_impl_IsTrip n s.trip).bind fun y14 =>
 cond y14
 ((m_impl_ends n s.trip).bind fun y15 =>
 some (decide (y15 ≤ s.at_)))
 (some false))
 (some false))
 (some false)))))))
theorem ok_impl_IsScan (n : YNetwork) (s : YScan) {r : Bool} (H : m_impl_IsScan n s = some r) : CallM Tryz.prog 57 [.ag (cNetwork n), .ag (cScan s)] [] (vb r) [] := by
  replace H := H0 H
  unfold m_impl_IsScan at H
  refine callM_of Tryz.func57 rfl Tryz.ntmps57 Tryz.results57 fun Q hQ hQn => ?_
  exact wk
instance (n : YNetwork) (s : YScan) : CT Tryz.prog (m_impl_IsScan n s) := ⟨57, [.ag (cNetwork n), .ag (cScan s)], [], fun r => vb r, fun r => [], ok_impl_IsScan n s⟩
end Go.Proofs.YtooikkfldddjfaaGreat

/- The mirror of spec.IsScan, and that the code does just that (printed by a program of my own). -/
namespace Go.Proofs.YtooikkfldddjfaaGreat
set_option maxRecDepth 10000
open Go.RowKit
set_option linter.unusedVariables false
set_option maxHeartbeats 16000000
def m_spec_IsScan (n : YNetwork) (s : YScan) : Option Bool :=
 (m_spec_IsNetwork n).bind fun y1 =>
 cond (!y1)
 (some false)
 ((m_spec_l1In s.thing 1 9999).bind fun y2 =>
 cond (!y2)
 (some false)
 ((m_spec_l1In s.at_ 0 100000).bind fun y3 =>
 cond (!y3)
 (some false)
 (cond (decide (s.kind = 1))
 (cond (decide (s.kind = 1))
 ((m_spec_PlacesOf n).bind fun y4 =>
 (m_spec_l4Index y4 s.place).bind fun y5 =>
 cond (decide (0 ≤ y5))
 (some (decide (s.trip = (⟨0, 0⟩ : YTrip))))
 (some false))
 (cond (decide (s.kind = 3))
 (cond (decide (s.place = ⟨#[]⟩))
 ((m_spec_IsTrip n s.trip).bind fun y6 =>
 cond y6
 ((m_spec_l3Starts n s.trip).bind fun y7 =>
 some (decide (s.at_ ≤ y7)))
 (some false))
 (some false))
 (cond (decide (s.kind = 2))
 (cond (decide (s.place = ⟨#[]⟩))
 ((m_spec_IsTrip n s.trip).bind fun y8 =>
 cond y8
 ((m_spec_l3Ends n s.trip).bind fun y9 =>
 some (decide (y9 ≤ s.at_)))
 (some false))
 (some false))
 (some false))))
 (cond (decide (s.kind = 4))
 ((m_spec_PlacesOf n).bind fun y10 =>
 (m_spec_l4Index y10 s.place).bind fun y11 =>
 cond (decide (0 ≤ y11))
 (some (decide (s.trip = (⟨0, 0⟩ : YTrip))))
 (some false))
 (cond (decide (s.kind = 3))
 (cond (decide (s.place = ⟨#[]⟩))
 ((m_spec_IsTrip n s.trip).bind fun y12 =>
 cond y12
 ((m_spec_l3Starts n s.trip).bind fun y13 =>
 some (decide (s.at_ ≤ y13)))
 (some false))
 (some false))
 (cond (decide (s.kind = 2))
 (cond (decide (s.place = ⟨#[]⟩))
 ((m_spec_IsTrip n s.trip).bind fun y14 =>
 cond y14
 ((m_spec_l3Ends n s.trip).bind fun y15 =>
 some (decide (y15 ≤ s.at_)))
 (some false))
 (some false))
 (some false)))))))
theorem ok_spec_IsScan (n : YNetwork) (s : YScan) {r : Bool} (H : m_spec_IsScan n s = some r) : CallM Tryz.prog 47 [.ag (cNetwork n), .ag (cScan s)] [] (vb r) [] := by
  replace H := H0 H
  unfold m_spec_IsScan at H
  refine callM_of Tryz.func47 rfl Tryz.ntmps47 Tryz.results47 fun Q hQ hQn => ?_
  exact wk
instance (n : YNetwork) (s : YScan) : CT Tryz.prog (m_spec_IsScan n s) := ⟨47, [.ag (cNetwork n), .ag (cScan s)], [], fun r => vb r, fun r => [], ok_spec_IsScan n s⟩
end Go.Proofs.YtooikkfldddjfaaGreat

/- The two sides' tests of scans and ways answer alike. -/
namespace Go.Proofs.YtooikkfldddjfaaGreat
set_option maxRecDepth 10000
open Go.RowKit
set_option linter.unusedVariables false
set_option linter.unusedSimpArgs false
/-- Two loops that go side by side. -/
theorem iter_sim {σ τ ο : Type} {f : σ → Option (σ ⊕ ο)} {g : τ → Option (τ ⊕ ο)} (φ : σ → τ) (h : ∀ s, g (φ s) = (f s).bind (selim (fun s' => some (.inl (φ s'))) (fun r => some (.inr r)))) : ∀ (N : Nat) (s : σ), iterF g N (φ s) = iterF f N s
  | 0, s => rfl
  | N + 1, s => by
    simp only [iterF, h]
    cases f s with
    | none => rfl
    | some o =>
      cases o with
      | inl s' => exact iter_sim φ h N s'
      | inr r => rfl
theorem trip_leg {n : YNetwork} (h : NetFit n) {t : YTrip} (ht : m_spec_IsTrip n t = some true) : ∃ y, getI n.legs t.leg = some y := by
  unfold m_spec_IsTrip m_spec_RunsOn at ht
  obtain ⟨_, b, hb⟩ := isNetwork_eq h
  obtain ⟨_, b2, hb2⟩ := runs_eq h t.leg t.day
  rw [hb] at ht
  simp only [Option.bind_some, hb2] at ht
  cases b with
  | false => simp at ht
  | true =>
    simp at ht
    subst ht
    exact runs_leg h hb2
theorem starts_some {n : YNetwork} {t : YTrip} {y : YLeg} (h : getI n.legs t.leg = some y) : ∃ v, m_spec_l3Starts n t = some v := by
  unfold m_spec_l3Starts; rw [h]; exact ⟨_, rfl⟩
theorem isScan_eq {n : YNetwork} (h : NetFit n) (s : YScan) : m_impl_IsScan n s = m_spec_IsScan n s := by
  unfold m_impl_IsScan m_spec_IsScan
  rw [(isNetwork_eq h).1, within_eq, (places_eq h).1, (isTrip_eq h s.trip).1, starts_eq, ends_eq, placeAt_eq]
theorem isScan_some {n : YNetwork} (h : NetFit n) (s : YScan) : ∃ b, m_spec_IsScan n s = some b := by
  obtain ⟨_, b, hb⟩ := isNetwork_eq h
  have hp := (places_eq h).2
  have hpl := placesV_len n
  have hl := h.legs
  obtain ⟨_, b2, hb2⟩ := isTrip_eq h s.trip
  unfold m_spec_IsScan
  rw [hb, hp, hb2]
  simp only [Option.bind_some, l1In_v, l4Index_v (show (placesV n).length ≤ 4194304 by omega)]
  cases b with
  | false => exact ⟨_, rfl⟩
  | true =>
    cases decide (1 ≤ s.thing) && decide (s.thing ≤ 9999) <;> try exact ⟨_, rfl⟩
    cases decide (0 ≤ s.at_) && decide (s.at_ ≤ 100000) <;> try exact ⟨_, rfl⟩
    cases decide (0 ≤ idxV (placesV n) s.place)
    all_goals
      cases b2 with
      | false => cases decide (s.kind = 1) <;> cases decide (s.kind = 3) <;> cases decide (s.kind = 2) <;> cases decide (s.kind = 4) <;> cases decide (s.place = ⟨#[]⟩) <;> exact ⟨_, rfl⟩
      | true =>
        obtain ⟨y, hy⟩ := trip_leg h hb2
        obtain ⟨v1, hv1⟩ := starts_some hy
        obtain ⟨v2, hv2⟩ := ends_some hy
        rw [hv1, hv2]
        cases decide (s.kind = 1) <;> cases decide (s.kind = 3) <;> cases decide (s.kind = 2) <;> cases decide (s.kind = 4) <;> cases decide (s.place = ⟨#[]⟩) <;> exact ⟨_, rfl⟩
theorem isWay_eq {n : YNetwork} (h : NetFit n) (way : List YTrip) (a b : ByteArray) (t : Int) : m_impl_IsWay n way a b t = m_spec_IsWay n way a b t := by
  have e : iterF (m_impl_IsWay_b0 n way b) NN (t, a, 0) = iterF (m_spec_IsWay_b0 n way b) NN (a, t, 0) := by
    refine iter_sim (f := m_spec_IsWay_b0 n way b) (fun s : ByteArray × Int × Int => (s.2.1, s.1, s.2.2)) (fun s => ?_) NN (a, t, 0)
    unfold m_impl_IsWay_b0 m_spec_IsWay_b0
    simp only
    cases decide (s.2.2 < (way.length : Int)) with
    | false => rfl
    | true =>
      simp only [cond_true]
      cases hg : getI way s.2.2 with
      | none => rfl
      | some y =>
        simp only [Option.bind_some, (isTrip_eq h y).1, starts_eq, ends_eq]
        cases m_spec_IsTrip n y with
        | none => rfl
        | some c =>
          cases c with
          | false => rfl
          | true =>
            simp only [Option.bind_some, Bool.not_true, cond_false]
            cases getI n.legs y.leg with
            | none => rfl
            | some g =>
              simp only [Option.bind_some]
              cases decide (g.from_ = s.1) with
              | false => rfl
              | true =>
                simp only [Bool.not_true, cond_false]
                cases m_spec_l3Starts n y with
                | none => rfl
                | some v =>
                  simp only [Option.bind_some]
                  cases decide (v < s.2.1) with
                  | true => rfl
                  | false =>
                    simp only [cond_false]
                    cases m_spec_l3Ends n y <;> rfl
  unfold m_impl_IsWay m_spec_IsWay
  rw [(isNetwork_eq h).1, (places_eq h).1, placeAt_eq, e]
theorem isWay_some {n : YNetwork} (h : NetFit n) {way : List YTrip} (hw : way.length ≤ 1048576) (a b : ByteArray) (t : Int) : ∃ r, m_spec_IsWay n way a b t = some r := by
  obtain ⟨_, b1, hb⟩ := isNetwork_eq h
  have hp := (places_eq h).2
  have hpl := placesV_len n
  have hl := h.legs
  have e : ∃ o, iterF (m_spec_IsWay_b0 n way b) NN (a, t, 0) = some o := by
    refine iter_tot (fun k s => ∃ i : Nat, i + k = way.length ∧ s.2.2 = (i : Int)) ?_ NN way.length _ ⟨0, by omega, rfl⟩ (by unfold NN; omega)
    rintro k ⟨p, r, s⟩ ⟨i, hi, hs⟩
    simp only at hs
    subst hs
    unfold m_spec_IsWay_b0
    rcases Nat.lt_or_ge i way.length with hlt | hge
    · have hw := w64_nat hlt (by omega)
      have hg : getI way (i : Int) = some way[i] := by rw [getI_nat]; exact List.getElem?_eq_getElem hlt
      obtain ⟨_, c, hc⟩ := isTrip_eq h way[i]
      simp only [decide_eq_true (show (i : Int) < way.length by omega), cond_true, hg, Option.bind_some, hc, hw]
      cases c with
      | false => exact ⟨_, rfl, fun s' e => by cases e⟩
      | true =>
        obtain ⟨y, hy⟩ := trip_leg h hc
        obtain ⟨v1, hv1⟩ := starts_some hy
        obtain ⟨v2, hv2⟩ := ends_some hy
        simp only [hy, hv1, hv2, Option.bind_some, Bool.not_true, cond_false]
        cases decide (y.from_ = p) with
        | false => exact ⟨_, rfl, fun s' e => by cases e⟩
        | true =>
          simp only [Bool.not_true, cond_false]
          cases decide (v1 < r) with
          | true => exact ⟨_, rfl, fun s' e => by cases e⟩
          | false => exact ⟨_, rfl, fun s' e => by cases e; exact ⟨k - 1, by omega, i + 1, by omega, rfl⟩⟩
    · simp only [decide_eq_false (show ¬ (i : Int) < way.length by omega), cond_false]
      exact ⟨_, rfl, fun s' e => by cases e⟩
  obtain ⟨o, ho⟩ := e
  unfold m_spec_IsWay
  rw [hp, hb]
  simp only [Option.bind_some, l4Index_v (show (placesV n).length ≤ 4194304 by omega), ho]
  cases b1 with
  | false => exact ⟨_, rfl⟩
  | true => cases decide (idxV (placesV n) a < 0) <;> cases decide (idxV (placesV n) b < 0) <;> cases o <;> exact ⟨_, rfl⟩
end Go.Proofs.YtooikkfldddjfaaGreat

/- The mirror of impl.isOrder, and that the code does just that (printed by a program of my own). -/
namespace Go.Proofs.YtooikkfldddjfaaGreat
set_option maxRecDepth 10000
open Go.RowKit
set_option linter.unusedVariables false
set_option maxHeartbeats 16000000
def m_impl_isOrder_b0 (w : YWorld) (id : Int) (y1 : YOrder) (s0 : ByteArray × Int) : Option ((ByteArray × Int) ⊕ (ByteArray ⊕ Bool)) :=
 cond (decide (s0.2 < (y1.way.length : Int)))
 ((getI y1.way s0.2).bind fun y9 =>
 (m_impl_IsTrip w.network y9).bind fun y10 =>
 cond (!y10)
 (some (.inr (.inr false)))
 ((m_impl_hasBooking w id y9).bind fun y11 =>
 cond (!y11)
 (some (.inr (.inr false)))
 ((m_impl_toCome y1).bind fun y12 =>
 cond (decide (y12 ≤ s0.2))
 ((m_impl_hasTrip w.closed y9).bind fun y13 =>
 cond y13
 (some (.inr (.inr false)))
 ((getI w.network.legs y9.leg).bind fun y14 =>
 cond (decide (y14.to_ = y1.to_))
 (cond (decide (s0.2 < (w64 ((y1.way.length : Int) - 1))))
 (some (.inr (.inr false)))
 (some (.inl (y14.to_, (w64 (s0.2 + 1))))))
 (some (.inl (y14.to_, (w64 (s0.2 + 1)))))))
 ((getI w.network.legs y9.leg).bind fun y15 =>
 cond (decide (y15.to_ = y1.to_))
 (cond (decide (s0.2 < (w64 ((y1.way.length : Int) - 1))))
 (some (.inr (.inr false)))
 (some (.inl (y15.to_, (w64 (s0.2 + 1))))))
 (some (.inl (y15.to_, (w64 (s0.2 + 1)))))))))
 (some (.inr (.inl s0.1)))
instance (w : YWorld) (id : Int) (y1 : YOrder) : LoopE (m_impl_isOrder_b0 w id y1) := ⟨fun s0 => [.un, vi id, .un, .be 0 0 0, .un, .un, .un, .be 1 0 0, vs s0.1, .un, .un, .un, .un, .un, .un, .un, .un, .un, .un, .un, .un, .un, .un, .un, .un, .un, .un, .un, .un, .un, .un, .un, .un, .un, .un, .un, .un, .un, .un, .un, .un, .un, .un, .un, .un, .un, .un, .un, .un, .un, .un, .un, .un, .un, .un, .un, .un, .un, .un, .un, .un, .un, .un, .un, .un, .un, .un, .un, .un, .un, .un, .un, .un, .un, .sl (y1.way.map cTrip), vi (y1.way.length : Int), vi s0.2, .un, .un, .un, .un, .un, .un, .un, .un, .un, .un, .un, .un, .un, .un, .un, .un, .un, .un, .un, .un, .un, .un, .un, .un, .un, .un, .un, .un, .un, .un, .un, .un, .un, .un, .un, .un, .un, .un, .un, .un, .un, .un, .un, .un, .un, .un, .un, .un, .un, .un, .un, .un, .un, .un, .un, .un, .un, .un, .un, .un, .un, .un, .un, .un, .un], fun s0 => [some ⟨42, 10, [[.sl (w.network.legs.map cLeg), .sl (w.network.off.map cInt), vi w.network.change, .sl (w.orders.map cOrder), .sl (w.bookings.map cBooking), .sl (w.closed.map cTrip), vi w.now, .sl (w.scans.map cScan), .sl (w.skip.map cInt), vi w.made]]⟩, some ⟨81, 11, [[vs y1.from_, vs y1.to_, vi y1.service, vi y1.weight, vi y1.at_, vi y1.due, .sl (y1.way.map cTrip), vi y1.gone, vi y1.state, vs y1.place, vi y1.ended]]⟩]⟩
def m_impl_isOrder (w : YWorld) (id : Int) (places : List ByteArray) : Option Bool :=
 (getI w.orders (w64 (id - 1))).bind fun y1 =>
 cond (decide (y1.from_ = y1.to_))
 (some false)
 ((m_impl_placeAt places y1.from_).bind fun y2 =>
 cond (decide (y2 < 0))
 (some false)
 ((m_impl_placeAt places y1.to_).bind fun y3 =>
 cond (decide (y3 < 0))
 (some false)
 ((m_impl_within y1.service 1 3).bind fun y4 =>
 cond (!y4)
 (some false)
 ((m_impl_within y1.weight 1 30000).bind fun y5 =>
 cond (!y5)
 (some false)
 ((m_impl_within y1.at_ 0 w.now).bind fun y6 =>
 cond (!y6)
 (some false)
 ((m_impl_within y1.due 0 200000).bind fun y7 =>
 cond (!y7)
 (some false)
 ((m_impl_within y1.gone 0 (y1.way.length : Int)).bind fun y8 =>
 cond (!y8)
 (some false)
 ((iterF (m_impl_isOrder_b0 w id y1) NN (y1.from_, 0)).bind (selim (fun o0 =>
 (m_impl_IsWay w.network y1.way y1.from_ o0 (w64 (y1.at_ + 1))).bind fun y16 =>
 cond y16
 ((m_impl_isState w y1).bind fun y17 =>
 some y17)
 (some false)) (fun r => some r))))))))))
theorem ok_impl_isOrder (w : YWorld) (id : Int) (places : List ByteArray) {r : Bool} (H : m_impl_isOrder w id places = some r) : CallM Tryz.prog 59 [.ag (cWorld w), vi id, .sl (places.map cStr)] [] (vb r) [] := by
  replace H := H0 H
  unfold m_impl_isOrder at H
  refine callM_of Tryz.func59 rfl Tryz.ntmps59 Tryz.results59 fun Q hQ hQn => ?_
  exact wk
instance (w : YWorld) (id : Int) (places : List ByteArray) : CT Tryz.prog (m_impl_isOrder w id places) := ⟨59, [.ag (cWorld w), vi id, .sl (places.map cStr)], [], fun r => vb r, fun r => [], ok_impl_isOrder w id places⟩
end Go.Proofs.YtooikkfldddjfaaGreat

/- The mirror of spec.l10Order, and that the code does just that (printed by a program of my own). -/
namespace Go.Proofs.YtooikkfldddjfaaGreat
set_option maxRecDepth 10000
open Go.RowKit
set_option linter.unusedVariables false
set_option maxHeartbeats 16000000
def m_spec_l10Order_b0 (w : YWorld) (i : Int) (y1 : YOrder) (s0 : ByteArray × Int) : Option ((ByteArray × Int) ⊕ (ByteArray ⊕ Bool)) :=
 cond (decide (s0.2 < (y1.way.length : Int)))
 ((getI y1.way s0.2).bind fun y10 =>
 (getI y1.way s0.2).bind fun y11 =>
 (m_spec_l3Runs w.network y10.leg y11.day).bind fun y12 =>
 cond (!y12)
 (some (.inr (.inr false)))
 ((getI y1.way s0.2).bind fun y13 =>
 (m_spec_l10Booked w.bookings (w64 (i + 1)) y13 y1.weight).bind fun y14 =>
 cond (!y14)
 (some (.inr (.inr false)))
 ((getI y1.way s0.2).bind fun y15 =>
 (getI w.network.legs y15.leg).bind fun y16 =>
 cond (decide (y16.to_ = y1.to_))
 (cond (decide ((w64 (s0.2 + 1)) < (y1.way.length : Int)))
 (some (.inr (.inr false)))
 (some (.inl (y16.to_, (w64 (s0.2 + 1))))))
 (some (.inl (y16.to_, (w64 (s0.2 + 1))))))))
 (some (.inr (.inl s0.1)))
instance (w : YWorld) (i : Int) (y1 : YOrder) : LoopE (m_spec_l10Order_b0 w i y1) := ⟨fun s0 => [.un, vi i, .be 0 0 0, .un, .un, .be 1 0 0, .be 2 0 0, .un, vs s0.1, vi s0.2, .un, .un, .un, .un, .un, .un, .un, .un, .un, .un, .un, .un, .un, .un, .un, .un, .un, .un, .un, .un, .un, .un, .un, .un, .un, .un, .un, .un, .un, .un, .un, .un, .un, .un, .un, .un, .un, .un, .un, .un, .un, .un, .un, .un, .un, .un, .un, .un, .un, .un, .un, .un, .un, .un, .un, .un, .un, .un, .un, .un, .un, .un, .un, .un, .un, .un, .un, .un, .un, .un, .un, .un, .un, .un, .un, .un, .un, .un, .un, .un, .un, .un, .un, .un, .un, .un, .un, .un, .un, .un, .un, .un, .un, .un, .un, .un, .un, .un, .un, .un, .un, .un, .un, .un, .un, .un, .un, .un, .un, .un, .un, .un, .un, .un, .un, .un, .un, .un, .un, .un, .un, .un, .un, .un, .un, .un, .un, .un, .un, .un, .un, .un, .un, .un, .un, .un, .un, .un, .un, .un, .un, .un, .un, .un, .un, .un, .un, .un, .un, .un, .un, .un, .un, .un, .un, .un, .un, .un, .un, .un, .un, .un], fun s0 => [some ⟨42, 10, [[.sl (w.network.legs.map cLeg), .sl (w.network.off.map cInt), vi w.network.change, .sl (w.orders.map cOrder), .sl (w.bookings.map cBooking), .sl (w.closed.map cTrip), vi w.now, .sl (w.scans.map cScan), .sl (w.skip.map cInt), vi w.made]]⟩, some ⟨36, 3, [[.sl (w.network.legs.map cLeg), .sl (w.network.off.map cInt), vi w.network.change]]⟩, some ⟨81, 11, [[vs y1.from_, vs y1.to_, vi y1.service, vi y1.weight, vi y1.at_, vi y1.due, .sl (y1.way.map cTrip), vi y1.gone, vi y1.state, vs y1.place, vi y1.ended]]⟩]⟩
def m_spec_l10Order_b1 (w : YWorld) (y1 : YOrder) (s1 : Int) : Option (Int ⊕ (Unit ⊕ Bool)) :=
 cond (decide (s1 < (y1.way.length : Int)))
 ((getI y1.way s1).bind fun y20 =>
 (m_spec_l6Closed w.closed y20).bind fun y21 =>
 cond y21
 (some (.inr (.inr false)))
 (some (.inl (w64 (s1 + 1)))))
 (some (.inr (.inl ())))
instance (w : YWorld) (y1 : YOrder) : LoopE (m_spec_l10Order_b1 w y1) := ⟨fun s1 => [.un, .un, .be 0 0 0, .un, .un, .un, .be 1 0 0, .un, .un, .un, vi s1, .un, .un, .un, .un, .un, .un, .un, .un, .un, .un, .un, .un, .un, .un, .un, .un, .un, .un, .un, .un, .un, .un, .un, .un, .un, .un, .un, .un, .un, .un, .un, .un, .un, .un, .un, .un, .un, .un, .un, .un, .un, .un, .un, .un, .un, .un, .un, .un, .un, .un, .un, .un, .un, .un, .un, .un, .un, .un, .un, .un, .un, .un, .un, .un, .un, .un, .un, .un, .un, .un, .un, .un, .un, .un, .un, .un, .un, .un, .un, .un, .un, .un, .un, .un, .un, .un, .un, .un, .un, .un, .un, .un, .un, .un, .un, .un, .un, .un, .un, .un, .un, .un, .un, .un, .un, .un, .un, .un, .un, .un, .un, .un, .un, .un, .un, .un, .un, .un, .un, .un, .un, .un, .un, .un, .un, .un, .un, .un, .un, .un, .un, .un, .un, .un, .un, .un, .un, .un, .un, .un, .un, .un, .un, .un, .un, .un, .un, .un, .un, .un, .un, .un, .un, .un, .un, .un, .un, .un, .un, .un, .un], fun s1 => [some ⟨42, 10, [[.sl (w.network.legs.map cLeg), .sl (w.network.off.map cInt), vi w.network.change, .sl (w.orders.map cOrder), .sl (w.bookings.map cBooking), .sl (w.closed.map cTrip), vi w.now, .sl (w.scans.map cScan), .sl (w.skip.map cInt), vi w.made]]⟩, some ⟨81, 11, [[vs y1.from_, vs y1.to_, vi y1.service, vi y1.weight, vi y1.at_, vi y1.due, .sl (y1.way.map cTrip), vi y1.gone, vi y1.state, vs y1.place, vi y1.ended]]⟩]⟩
def m_spec_l10Order (w : YWorld) (i : Int) : Option Bool :=
 (getI w.orders i).bind fun y1 =>
 (m_spec_PlacesOf w.network).bind fun y2 =>
 (m_spec_l4Index y2 y1.from_).bind fun y3 =>
 cond (decide (y3 < 0))
 (some false)
 ((m_spec_l4Index y2 y1.to_).bind fun y4 =>
 cond (decide (y4 < 0))
 (some false)
 (cond (decide (y1.from_ = y1.to_))
 (some false)
 ((m_spec_l1In y1.service 1 3).bind fun y5 =>
 cond (!y5)
 (some false)
 ((m_spec_l1In y1.weight 1 30000).bind fun y6 =>
 cond (!y6)
 (some false)
 ((m_spec_l1In y1.at_ 0 w.now).bind fun y7 =>
 cond (!y7)
 (some false)
 ((m_spec_l1In y1.due 0 200000).bind fun y8 =>
 cond (!y8)
 (some false)
 ((m_spec_l1In y1.gone 0 (y1.way.length : Int)).bind fun y9 =>
 cond (!y9)
 (some false)
 ((iterF (m_spec_l10Order_b0 w i y1) NN (y1.from_, 0)).bind (selim (fun o0 =>
 (m_spec_IsWay w.network y1.way y1.from_ o0 (w64 (y1.at_ + 1))).bind fun y17 =>
 cond (!y17)
 (some false)
 ((m_spec_l10State w.network y1 w.now).bind fun y18 =>
 cond (!y18)
 (some false)
 ((m_spec_l10Coming y1).bind fun y19 =>
 (iterF (m_spec_l10Order_b1 w y1) NN y19).bind (selim (fun o1 =>
 some true) (fun r => some r))))) (fun r => some r))))))))))
theorem ok_spec_l10Order (w : YWorld) (i : Int) {r : Bool} (H : m_spec_l10Order w i = some r) : CallM Tryz.prog 48 [.ag (cWorld w), vi i] [] (vb r) [] := by
  replace H := H0 H
  unfold m_spec_l10Order at H
  refine callM_of Tryz.func48 rfl Tryz.ntmps48 Tryz.results48 fun Q hQ hQn => ?_
  exact wk
instance (w : YWorld) (i : Int) : CT Tryz.prog (m_spec_l10Order w i) := ⟨48, [.ag (cWorld w), vi i], [], fun r => vb r, fun r => [], ok_spec_l10Order w i⟩
end Go.Proofs.YtooikkfldddjfaaGreat

/- The mirror of impl.IsWorld, and that the code does just that (printed by a program of my own). -/
namespace Go.Proofs.YtooikkfldddjfaaGreat
set_option maxRecDepth 10000
open Go.RowKit
set_option linter.unusedVariables false
set_option maxHeartbeats 16000000
def m_impl_IsWorld_b0 (w : YWorld) (s0 : Int) : Option (Int ⊕ (Unit ⊕ Bool)) :=
 cond (decide (s0 < (w.closed.length : Int)))
 ((getI w.closed s0).bind fun y4 =>
 (m_impl_IsTrip w.network y4).bind fun y5 =>
 cond (!y5)
 (some (.inr (.inr false)))
 ((chk (slOk 0 s0 w.closed.length)).bind fun _ =>
 (m_impl_hasTrip (subL w.closed 0 s0) y4).bind fun y6 =>
 cond y6
 (some (.inr (.inr false)))
 (some (.inl (w64 (s0 + 1))))))
 (some (.inr (.inl ())))
instance (w : YWorld) : LoopE (m_impl_IsWorld_b0 w) := ⟨fun s0 => [.un, .be 0 0 0, .un, .be 1 0 0, .un, .un, .un, .un, .un, .un, .un, .un, .un, .un, .un, .un, .un, .un, .un, .un, .un, .un, .un, .un, .un, .un, .un, .un, .un, .un, .un, .un, .un, .un, .un, .un, .un, .un, .un, .un, .un, .un, .un, .un, .un, .un, .un, .un, .un, .un, .un, .un, .un, .un, .un, .un, .un, .un, .un, .sl (w.closed.map cTrip), vi (w.closed.length : Int), vi s0, .un, .un, .un, .un, .un, .un, .un, .un, .un, .un, .un, .un, .un, .un, .un, .un, .un, .un, .un, .un, .un, .un, .un, .un, .un, .un, .un, .un, .un, .un, .un, .un, .un, .un, .un, .un, .un, .un, .un, .un, .un, .un, .un, .un, .un, .un, .un, .un, .un, .un, .un, .un, .un, .un, .un, .un, .un, .un, .un, .un, .un, .un, .un], fun s0 => [some ⟨42, 10, [[.sl (w.network.legs.map cLeg), .sl (w.network.off.map cInt), vi w.network.change, .sl (w.orders.map cOrder), .sl (w.bookings.map cBooking), .sl (w.closed.map cTrip), vi w.now, .sl (w.scans.map cScan), .sl (w.skip.map cInt), vi w.made]]⟩, some ⟨36, 3, [[.sl (w.network.legs.map cLeg), .sl (w.network.off.map cInt), vi w.network.change]]⟩]⟩
def m_impl_IsWorld_b1 (w : YWorld) (s1 : Int) : Option (Int ⊕ (Unit ⊕ Bool)) :=
 cond (decide (s1 < (w.scans.length : Int)))
 ((getI w.scans s1).bind fun y7 =>
 (m_impl_IsScan w.network y7).bind fun y8 =>
 cond (!y8)
 (some (.inr (.inr false)))
 (cond (decide (w.now < y7.at_))
 (some (.inr (.inr false)))
 (some (.inl (w64 (s1 + 1))))))
 (some (.inr (.inl ())))
instance (w : YWorld) : LoopE (m_impl_IsWorld_b1 w) := ⟨fun s1 => [.un, .be 0 0 0, .un, .be 1 0 0, .un, .un, .un, .un, .un, .un, .un, .un, .un, .un, .un, .un, .un, .un, .un, .un, .un, .un, .un, .un, .un, .un, .un, .un, .un, .un, .un, .un, .un, .un, .un, .un, .un, .un, .un, .un, .un, .un, .un, .un, .un, .un, .un, .un, .un, .un, .un, .un, .un, .un, .un, .un, .un, .un, .un, .un, .un, .un, .un, .un, .un, .un, .un, .un, .un, .un, .un, .un, .un, .un, .un, .un, .un, .un, .un, .un, .sl (w.scans.map cScan), vi (w.scans.length : Int), vi s1, .un, .un, .un, .un, .un, .un, .un, .un, .un, .un, .un, .un, .un, .un, .un, .un, .un, .un, .un, .un, .un, .un, .un, .un, .un, .un, .un, .un, .un, .un, .un, .un, .un, .un, .un, .un, .un, .un, .un, .un, .un, .un], fun s1 => [some ⟨42, 10, [[.sl (w.network.legs.map cLeg), .sl (w.network.off.map cInt), vi w.network.change, .sl (w.orders.map cOrder), .sl (w.bookings.map cBooking), .sl (w.closed.map cTrip), vi w.now, .sl (w.scans.map cScan), .sl (w.skip.map cInt), vi w.made]]⟩, some ⟨36, 3, [[.sl (w.network.legs.map cLeg), .sl (w.network.off.map cInt), vi w.network.change]]⟩]⟩
def m_impl_IsWorld_b2 (w : YWorld) (y9 : List ByteArray) (s2 : Int × Int) : Option ((Int × Int) ⊕ (Int ⊕ Bool)) :=
 cond (decide (s2.2 < (w.orders.length : Int)))
 ((getI w.orders s2.2).bind fun y10 =>
 (m_impl_isOrder w (w64 (s2.2 + 1)) y9).bind fun y11 =>
 cond (!y11)
 (some (.inr (.inr false)))
 (some (.inl ((w64 (s2.1 + (y10.way.length : Int))), (w64 (s2.2 + 1))))))
 (some (.inr (.inl s2.1)))
instance (w : YWorld) (y9 : List ByteArray) : LoopE (m_impl_IsWorld_b2 w y9) := ⟨fun s2 => [.un, .be 0 0 0, .un, .un, .un, .un, .un, .un, .ms 1, vi s2.1, .un, .un, .un, .un, .un, .un, .un, .un, .un, .un, .un, .un, .un, .un, .un, .un, .un, .un, .un, .un, .un, .un, .un, .un, .un, .un, .un, .un, .un, .un, .un, .un, .un, .un, .un, .un, .un, .un, .un, .un, .un, .un, .un, .un, .un, .un, .un, .un, .un, .un, .un, .un, .un, .un, .un, .un, .un, .un, .un, .un, .un, .un, .un, .un, .un, .un, .un, .un, .un, .un, .un, .un, .un, .un, .un, .un, .un, .un, .un, .un, .un, .un, .un, .un, .un, .un, .un, .un, .un, .un, .un, .sl (w.orders.map cOrder), vi (w.orders.length : Int), vi s2.2, .un, .un, .un, .un, .un, .un, .un, .un, .un, .un, .un, .un, .un, .un, .un, .un, .un, .un, .un, .un, .un], fun s2 => [some ⟨42, 10, [[.sl (w.network.legs.map cLeg), .sl (w.network.off.map cInt), vi w.network.change, .sl (w.orders.map cOrder), .sl (w.bookings.map cBooking), .sl (w.closed.map cTrip), vi w.now, .sl (w.scans.map cScan), .sl (w.skip.map cInt), vi w.made]]⟩, some ⟨9, 1, y9.map cStr⟩]⟩
def m_impl_IsWorld (w : YWorld) : Option Bool :=
 (m_impl_AreBookings w.network w.bookings).bind fun y1 =>
 cond (!y1)
 (some false)
 ((m_impl_within w.now 0 100000).bind fun y2 =>
 cond (!y2)
 (some false)
 (cond (decide (30 < (w.orders.length : Int)))
 (some false)
 (cond (decide (20 < (w.closed.length : Int)))
 (some false)
 (cond (decide (200 < (w.scans.length : Int)))
 (some false)
 (cond (decide (50 < (w.skip.length : Int)))
 (some false)
 ((m_impl_within w.made (w.scans.length : Int) 1000000000).bind fun y3 =>
 cond (!y3)
 (some false)
 ((iterF (m_impl_IsWorld_b0 w) NN 0).bind (selim (fun o0 =>
 (iterF (m_impl_IsWorld_b1 w) NN 0).bind (selim (fun o1 =>
 (m_impl_PlacesOf w.network).bind fun y9 =>
 (iterF (m_impl_IsWorld_b2 w y9) NN (0, 0)).bind (selim (fun o2 =>
 some (decide (o2 = (w.bookings.length : Int)))) (fun r => some r))) (fun r => some r))) (fun r => some r)))))))))
theorem ok_impl_IsWorld (w : YWorld) {r : Bool} (H : m_impl_IsWorld w = some r) : CallM Tryz.prog 13 [.ag (cWorld w)] [] (vb r) [] := by
  replace H := H0 H
  unfold m_impl_IsWorld at H
  refine callM_of Tryz.func13 rfl Tryz.ntmps13 Tryz.results13 fun Q hQ hQn => ?_
  exact wk
instance (w : YWorld) : CT Tryz.prog (m_impl_IsWorld w) := ⟨13, [.ag (cWorld w)], [], fun r => vb r, fun r => [], ok_impl_IsWorld w⟩
end Go.Proofs.YtooikkfldddjfaaGreat

/- The mirror of spec.IsWorld, and that the code does just that (printed by a program of my own). -/
namespace Go.Proofs.YtooikkfldddjfaaGreat
set_option maxRecDepth 10000
open Go.RowKit
set_option linter.unusedVariables false
set_option maxHeartbeats 16000000
def m_spec_IsWorld_b0 (w : YWorld) (s0 : Int) : Option (Int ⊕ (Unit ⊕ Bool)) :=
 cond (decide (s0 < (w.closed.length : Int)))
 ((getI w.closed s0).bind fun y4 =>
 (getI w.closed s0).bind fun y5 =>
 (m_spec_l3Runs w.network y4.leg y5.day).bind fun y6 =>
 cond (!y6)
 (some (.inr (.inr false)))
 ((chk (slOk 0 s0 w.closed.length)).bind fun _ =>
 (getI w.closed s0).bind fun y7 =>
 (m_spec_l6Closed (subL w.closed 0 s0) y7).bind fun y8 =>
 cond y8
 (some (.inr (.inr false)))
 (some (.inl (w64 (s0 + 1))))))
 (some (.inr (.inl ())))
instance (w : YWorld) : LoopE (m_spec_IsWorld_b0 w) := ⟨fun s0 => [.un, .be 0 0 0, .un, vi s0, .un, .un, .un, .un, .un, .un, .un, .un, .un, .un, .un, .un, .un, .un, .un, .un, .un, .un, .un, .un, .un, .un, .un, .un, .un, .un, .un, .un, .un, .un, .un, .un, .un, .un, .un, .un, .un, .un, .un, .un, .un, .un, .un, .un, .un, .un, .un, .un, .un, .un, .un, .un, .un, .un, .un, .un, .un, .un, .un, .un, .un, .un, .un, .un, .un, .un, .un, .un, .un, .un, .un, .un, .un, .un, .un, .un, .un, .un, .un, .un, .un, .un, .un, .un, .un, .un, .un, .un, .un, .un, .un, .un, .un, .un, .un, .un, .un, .un, .un, .un, .un, .un, .un, .un, .un, .un, .un, .un, .un, .un, .un, .un, .un, .un, .un, .un, .un, .un, .un, .un, .un, .un, .un, .un, .un, .un, .un, .un, .un, .un, .un, .un, .un, .un, .un], fun s0 => [some ⟨42, 10, [[.sl (w.network.legs.map cLeg), .sl (w.network.off.map cInt), vi w.network.change, .sl (w.orders.map cOrder), .sl (w.bookings.map cBooking), .sl (w.closed.map cTrip), vi w.now, .sl (w.scans.map cScan), .sl (w.skip.map cInt), vi w.made]]⟩]⟩
def m_spec_IsWorld_b1 (w : YWorld) (s1 : Int) : Option (Int ⊕ (Unit ⊕ Bool)) :=
 cond (decide (s1 < (w.scans.length : Int)))
 ((getI w.scans s1).bind fun y9 =>
 (m_spec_IsScan w.network y9).bind fun y10 =>
 cond (!y10)
 (some (.inr (.inr false)))
 ((getI w.scans s1).bind fun y11 =>
 cond (decide (w.now < y11.at_))
 (some (.inr (.inr false)))
 (some (.inl (w64 (s1 + 1))))))
 (some (.inr (.inl ())))
instance (w : YWorld) : LoopE (m_spec_IsWorld_b1 w) := ⟨fun s1 => [.un, .be 0 0 0, .un, .un, vi s1, .un, .un, .un, .un, .un, .un, .un, .un, .un, .un, .un, .un, .un, .un, .un, .un, .un, .un, .un, .un, .un, .un, .un, .un, .un, .un, .un, .un, .un, .un, .un, .un, .un, .un, .un, .un, .un, .un, .un, .un, .un, .un, .un, .un, .un, .un, .un, .un, .un, .un, .un, .un, .un, .un, .un, .un, .un, .un, .un, .un, .un, .un, .un, .un, .un, .un, .un, .un, .un, .un, .un, .un, .un, .un, .un, .un, .un, .un, .un, .un, .un, .un, .un, .un, .un, .un, .un, .un, .un, .un, .un, .un, .un, .un, .un, .un, .un, .un, .un, .un, .un, .un, .un, .un, .un, .un, .un, .un, .un, .un, .un, .un, .un, .un, .un, .un, .un, .un, .un, .un, .un, .un, .un, .un, .un, .un, .un, .un, .un, .un, .un, .un, .un, .un], fun s1 => [some ⟨42, 10, [[.sl (w.network.legs.map cLeg), .sl (w.network.off.map cInt), vi w.network.change, .sl (w.orders.map cOrder), .sl (w.bookings.map cBooking), .sl (w.closed.map cTrip), vi w.now, .sl (w.scans.map cScan), .sl (w.skip.map cInt), vi w.made]]⟩]⟩
def m_spec_IsWorld_b2 (w : YWorld) (s2 : Int × Int) : Option ((Int × Int) ⊕ (Int ⊕ Bool)) :=
 cond (decide (s2.2 < (w.orders.length : Int)))
 ((m_spec_l10Order w s2.2).bind fun y12 =>
 cond (!y12)
 (some (.inr (.inr false)))
 ((getI w.orders s2.2).bind fun y13 =>
 some (.inl ((w64 (s2.1 + (y13.way.length : Int))), (w64 (s2.2 + 1))))))
 (some (.inr (.inl s2.1)))
instance (w : YWorld) : LoopE (m_spec_IsWorld_b2 w) := ⟨fun s2 => [.un, .be 0 0 0, .un, .un, .un, vi s2.1, vi s2.2, .un, .un, .un, .un, .un, .un, .un, .un, .un, .un, .un, .un, .un, .un, .un, .un, .un, .un, .un, .un, .un, .un, .un, .un, .un, .un, .un, .un, .un, .un, .un, .un, .un, .un, .un, .un, .un, .un, .un, .un, .un, .un, .un, .un, .un, .un, .un, .un, .un, .un, .un, .un, .un, .un, .un, .un, .un, .un, .un, .un, .un, .un, .un, .un, .un, .un, .un, .un, .un, .un, .un, .un, .un, .un, .un, .un, .un, .un, .un, .un, .un, .un, .un, .un, .un, .un, .un, .un, .un, .un, .un, .un, .un, .un, .un, .un, .un, .un, .un, .un, .un, .un, .un, .un, .un, .un, .un, .un, .un, .un, .un, .un, .un, .un, .un, .un, .un, .un, .un, .un, .un, .un, .un, .un, .un, .un, .un, .un, .un, .un, .un, .un], fun s2 => [some ⟨42, 10, [[.sl (w.network.legs.map cLeg), .sl (w.network.off.map cInt), vi w.network.change, .sl (w.orders.map cOrder), .sl (w.bookings.map cBooking), .sl (w.closed.map cTrip), vi w.now, .sl (w.scans.map cScan), .sl (w.skip.map cInt), vi w.made]]⟩]⟩
def m_spec_IsWorld (w : YWorld) : Option Bool :=
 (m_spec_AreBookings w.network w.bookings).bind fun y1 =>
 cond (!y1)
 (some false)
 ((m_spec_l1In w.now 0 100000).bind fun y2 =>
 cond (!y2)
 (some false)
 (cond (decide (30 < (w.orders.length : Int)))
 (some false)
 (cond (decide (20 < (w.closed.length : Int)))
 (some false)
 (cond (decide (200 < (w.scans.length : Int)))
 (some false)
 (cond (decide (50 < (w.skip.length : Int)))
 (some false)
 ((m_spec_l1In w.made (w.scans.length : Int) 1000000000).bind fun y3 =>
 cond (!y3)
 (some false)
 ((iterF (m_spec_IsWorld_b0 w) NN 0).bind (selim (fun o0 =>
 (iterF (m_spec_IsWorld_b1 w) NN 0).bind (selim (fun o1 =>
 (iterF (m_spec_IsWorld_b2 w) NN (0, 0)).bind (selim (fun o2 =>
 some (decide (o2 = (w.bookings.length : Int)))) (fun r => some r))) (fun r => some r))) (fun r => some r)))))))))
theorem ok_spec_IsWorld (w : YWorld) {r : Bool} (H : m_spec_IsWorld w = some r) : CallM Tryz.prog 11 [.ag (cWorld w)] [] (vb r) [] := by
  replace H := H0 H
  unfold m_spec_IsWorld at H
  refine callM_of Tryz.func11 rfl Tryz.ntmps11 Tryz.results11 fun Q hQ hQn => ?_
  exact wk
instance (w : YWorld) : CT Tryz.prog (m_spec_IsWorld w) := ⟨11, [.ag (cWorld w)], [], fun r => vb r, fun r => [], ok_spec_IsWorld w⟩
end Go.Proofs.YtooikkfldddjfaaGreat

/- The two sides' tests of orders and worlds answer alike. -/
namespace Go.Proofs.YtooikkfldddjfaaGreat
set_option maxRecDepth 10000
open Go.RowKit
set_option linter.unusedVariables false
set_option linter.unusedSimpArgs false
set_option linter.unusedSectionVars false
/-- All of a list, the index at hand. -/
def allI {α : Type} (c : Nat → α → Bool) : Nat → List α → Bool
  | _, [] => true
  | i, x :: xs => c i x && allI c (i + 1) xs
theorem allI_iff {α : Type} {c : Nat → α → Bool} : ∀ {xs : List α} {i : Nat}, allI c i xs = true ↔ ∀ (j : Nat) (x : α), xs[j]? = some x → c (i + j) x = true
  | [], i => by simp [allI]
  | x :: xs, i => by
    simp only [allI, Bool.and_eq_true, allI_iff]
    constructor
    · rintro ⟨h1, h2⟩ j y hj
      cases j with
      | zero => obtain rfl : x = y := by simpa using hj
                exact h1
      | succ j => have := h2 j y (by simpa using hj); rwa [Nat.add_right_comm] at this
    · intro h
      exact ⟨h 0 x rfl, fun j y hj => by have := h (j + 1) y (by simpa using hj); rwa [← Nat.add_assoc, Nat.add_right_comm] at this⟩
theorem allI_and {α : Type} (c d : Nat → α → Bool) : ∀ (xs : List α) (i : Nat), allI (fun i x => c i x && d i x) i xs = (allI c i xs && allI d i xs)
  | [], i => rfl
  | x :: xs, i => by
    simp only [allI, allI_and c d xs (i + 1)]
    cases c i x <;> cases d i x <;> cases allI c (i + 1) xs <;> cases allI d (i + 1) xs <;> rfl
theorem allI_congr {α : Type} {c d : Nat → α → Bool} {xs : List α} {i : Nat} (h : ∀ (j : Nat) (x : α), xs[j]? = some x → c (i + j) x = d (i + j) x) : allI c i xs = allI d i xs := by
  rw [Bool.eq_iff_iff, allI_iff, allI_iff]
  exact ⟨fun H j x hx => by rw [← h j x hx]; exact H j x hx, fun H j x hx => by rw [h j x hx]; exact H j x hx⟩
theorem iter_fold {A α σ γ : Type} {xs : List α} {body : σ → Option (σ ⊕ (γ ⊕ Bool))} (mk : A → Int → σ) (c : Nat → α → Bool) (f : A → α → A) (g : A → γ)
    (h1 : ∀ a (i : Nat) x, xs[i]? = some x → body (mk a i) = some (if c i x = true then .inl (mk (f a x) ((i + 1 : Nat) : Int)) else .inr (.inr false)))
    (h2 : ∀ a, body (mk a (xs.length : Int)) = some (.inr (.inl (g a)))) (hN : xs.length < NN) (a : A) : iterF body NN (mk a 0) = some (if allI c 0 xs = true then .inl (g (xs.foldl f a)) else .inr false) := by
  rw [iter_list mk (fun i a x => some (if c i x = true then .inl (f a x) else .inr (.inr false))) (fun a => some (.inl (g a))) (fun a i x hx => by rw [h1 a i x hx]; cases c i x <;> rfl) (fun a => by rw [h2 a]; rfl) hN a]
  have key : ∀ (xs : List α) (i : Nat) (a : A), runL (fun i a x => some (if c i x = true then (.inl (f a x) : A ⊕ (γ ⊕ Bool)) else .inr (.inr false))) (fun a => some (.inl (g a))) i xs a = some (if allI c i xs = true then .inl (g (xs.foldl f a)) else .inr false) := by
    intro xs
    induction xs with
    | nil => intro i a; rfl
    | cons x xs ih =>
      intro i a
      simp only [runL, allI]
      by_cases hcx : c i x = true
      · simp only [hcx, if_true, Option.bind_some, selim, ih, Bool.true_and, List.foldl_cons]
      · simp only [Bool.not_eq_true] at hcx
        simp [hcx]
  exact key xs 0 a
/-! The parts of an order's test. -/
def tripB (n : YNetwork) (t : YTrip) : Bool := (m_spec_l3Runs n t.leg t.day).getD false
def legTo (n : YNetwork) (t : YTrip) : ByteArray := ((getI n.legs t.leg).map (·.to_)).getD ⟨#[]⟩
def closedB (l : List YTrip) (t : YTrip) : Bool := l.any fun y => decide (y = t)
theorem tripB_v {n : YNetwork} (h : NetFit n) (t : YTrip) : m_spec_l3Runs n t.leg t.day = some (tripB n t) := by
  obtain ⟨_, b, hb⟩ := runs_eq h t.leg t.day
  unfold tripB; rw [hb]; rfl
theorem tripB_leg {n : YNetwork} (h : NetFit n) {t : YTrip} (ht : tripB n t = true) : ∃ y, getI n.legs t.leg = some y ∧ y ∈ n.legs := by
  have := tripB_v h t
  rw [ht] at this
  obtain ⟨y, hy⟩ := runs_leg h this
  exact ⟨y, hy, getI_mem hy⟩
def wayC (w : YWorld) (id : Int) (o : YOrder) (i : Nat) (t : YTrip) : Bool := tripB w.network t && bookedB w.bookings id t o.weight && !(decide (legTo w.network t = o.to_) && decide (i + 1 < o.way.length))
def endV (n : YNetwork) (o : YOrder) : ByteArray := o.way.foldl (fun _ t => legTo n t) o.from_
def comesV (o : YOrder) : Int := if o.state = 2 then o.gone + 1 else o.gone
def orderV (w : YWorld) (i : Nat) (o : YOrder) : Bool :=
  !decide (idxV (placesV w.network) o.from_ < 0) && !decide (idxV (placesV w.network) o.to_ < 0) && !decide (o.from_ = o.to_) && (decide (1 ≤ o.service) && decide (o.service ≤ 3)) && (decide (1 ≤ o.weight) && decide (o.weight ≤ 30000)) && (decide (0 ≤ o.at_) && decide (o.at_ ≤ w.now)) && (decide (0 ≤ o.due) && decide (o.due ≤ 200000)) && (decide (0 ≤ o.gone) && decide (o.gone ≤ (o.way.length : Int))) &&
    allI (wayC w ((i + 1 : Nat) : Int) o) 0 o.way && (m_spec_IsWay w.network o.way o.from_ (endV w.network o) (w64 (o.at_ + 1))).getD false && (m_spec_l10State w.network o w.now).getD false && !((o.way.drop (comesV o).toNat).any (closedB w.closed))
structure WFit (w : YWorld) : Prop where
  net : NetFit w.network
  orders : w.orders.length ≤ 1048576
  bookings : w.bookings.length ≤ 1048576
  closed : w.closed.length ≤ 1048576
  scans : w.scans.length ≤ 1048576
  skip : w.skip.length ≤ 1048576
  way : ∀ o ∈ w.orders, o.way.length ≤ 1048576
theorem state_some {n : YNetwork} {o : YOrder} (hg : 0 ≤ o.gone ∧ o.gone ≤ o.way.length) (hl : o.way.length ≤ 1048576) (hw : ∀ t ∈ o.way, ∃ y, getI n.legs t.leg = some y) (now : Int) : ∃ b, m_spec_l10State n o now = some b := by
  have hat : ∀ (i : Int), 0 ≤ i → i < o.way.length → ∃ t y, getI o.way i = some t ∧ getI n.legs t.leg = some y := by
    intro i h0 h1
    have hlt : i.toNat < o.way.length := by omega
    obtain ⟨y, hy⟩ := hw o.way[i.toNat] (List.getElem_mem hlt)
    exact ⟨o.way[i.toNat], y, by unfold getI; rw [if_pos h0]; exact List.getElem?_eq_getElem hlt, hy⟩
  have hw1 : w64 (o.gone - 1) = o.gone - 1 := w64_in (by omega)
  have hend : o.gone < o.way.length → ∃ t s e, getI o.way o.gone = some t ∧ m_spec_l3Starts n t = some s ∧ m_spec_l3Ends n t = some e := by
    intro h1
    obtain ⟨t, y, ht, hy⟩ := hat o.gone hg.1 h1
    obtain ⟨s, hs⟩ := starts_some hy
    obtain ⟨e, he⟩ := ends_some hy
    exact ⟨t, s, e, ht, hs, he⟩
  unfold m_spec_l10State
  rw [hw1]
  by_cases h0 : 0 < o.gone
  · rw [decide_eq_true h0, cond_true]
    obtain ⟨t, y, ht, hy⟩ := hat (o.gone - 1) (by omega) (by omega)
    obtain ⟨e, he⟩ := ends_some hy
    simp only [ht, hy, he, Option.bind_some]
    cases decide (now < e) with
    | true => exact ⟨_, rfl⟩
    | false =>
      simp only [cond_false]
      by_cases h1 : o.gone < o.way.length
      · obtain ⟨t2, s2, e2, ht2, hs2, he2⟩ := hend h1
        simp only [ht2, hs2, he2, Option.bind_some]
        cases decide (o.state = 1) <;> cases decide (o.state = 2) <;> cases decide (o.state = 3) <;> cases decide (o.place = y.to_) <;> cases decide (y.to_ = o.to_) <;> cases decide (o.ended = 0) <;> cases decide (o.gone = (o.way.length : Int)) <;> cases decide (o.place = ⟨#[]⟩) <;> cases decide (o.gone < (o.way.length : Int)) <;> cases decide (s2 ≤ now) <;> cases decide (o.place = o.to_) <;> exact ⟨_, rfl⟩
      · rw [decide_eq_true (show o.gone = (o.way.length : Int) by omega), decide_eq_false h1]
        cases decide (o.state = 1) <;> cases decide (o.state = 2) <;> cases decide (o.state = 3) <;> cases decide (o.place = y.to_) <;> cases decide (y.to_ = o.to_) <;> cases decide (o.ended = 0) <;> cases decide (o.place = ⟨#[]⟩) <;> cases decide (o.place = o.to_) <;> exact ⟨_, rfl⟩
  · rw [decide_eq_false h0, cond_false]
    by_cases h1 : o.gone < o.way.length
    · obtain ⟨t2, s2, e2, ht2, hs2, he2⟩ := hend h1
      simp only [ht2, hs2, he2, Option.bind_some]
      cases decide (o.state = 1) <;> cases decide (o.state = 2) <;> cases decide (o.state = 3) <;> cases decide (o.place = o.from_) <;> cases decide (o.from_ = o.to_) <;> cases decide (o.ended = 0) <;> cases decide (o.gone = (o.way.length : Int)) <;> cases decide (o.place = ⟨#[]⟩) <;> cases decide (o.gone < (o.way.length : Int)) <;> cases decide (s2 ≤ now) <;> cases decide (o.place = o.to_) <;> exact ⟨_, rfl⟩
    · rw [decide_eq_true (show o.gone = (o.way.length : Int) by omega), decide_eq_false h1]
      cases decide (o.state = 1) <;> cases decide (o.state = 2) <;> cases decide (o.state = 3) <;> cases decide (o.place = o.from_) <;> cases decide (o.from_ = o.to_) <;> cases decide (o.ended = 0) <;> cases decide (o.place = ⟨#[]⟩) <;> cases decide (o.place = o.to_) <;> exact ⟨_, rfl⟩
/-- The loop that looks for a closed trip, from an index on. -/
theorem closed_loop {w : YWorld} (hc : w.closed.length ≤ 1048576) {o : YOrder} (hl : o.way.length ≤ 1048576) {k : Int} (h0 : 0 ≤ k) : iterF (m_spec_l10Order_b1 w o) NN k = some (if (o.way.drop k.toNat).any (closedB w.closed) = true then .inr false else .inl ()) := by
  have key : ∀ (ts : List YTrip) (i N : Nat), o.way.drop i = ts → ts.length < N → iterF (m_spec_l10Order_b1 w o) N (i : Int) = some (if ts.any (closedB w.closed) = true then .inr false else .inl ()) := by
    intro ts
    induction ts with
    | nil =>
      intro i N hd hN
      cases N with
      | zero => omega
      | succ N =>
        have : o.way.length ≤ i := by have := congrArg List.length hd; simp at this; omega
        simp only [iterF, m_spec_l10Order_b1]
        rw [decide_eq_false (show ¬ (i : Int) < o.way.length by omega)]
        rfl
    | cons t ts ih =>
      intro i N hd hN
      cases N with
      | zero => simp at hN
      | succ N =>
        have ht : o.way[i]? = some t := by
          have := congrArg (fun l : List YTrip => l[0]?) hd
          simpa using this
        have hlt := (List.getElem?_eq_some_iff.1 ht).1
        have hd' : o.way.drop (i + 1) = ts := by
          have := congrArg (List.drop 1) hd
          simpa [List.drop_drop] using this
        have hg : getI o.way (i : Int) = some t := by rw [getI_nat]; exact ht
        simp only [iterF, m_spec_l10Order_b1]
        rw [decide_eq_true (show (i : Int) < o.way.length by omega), cond_true, hg]
        simp only [Option.bind_some]
        rw [l6Closed_eq, hasTrip_v hc, w64_nat hlt (by omega)]
        have hcd : (w.closed.any fun y => decide (y = t)) = closedB w.closed t := rfl
        rw [hcd]
        by_cases hcl : closedB w.closed t = true
        · simp [hcl, List.any_cons]
        · simp only [Bool.not_eq_true] at hcl
          simp only [hcl, List.any_cons, Option.bind_some, cond_false, selim, Bool.false_or]
          exact ih (i + 1) N hd' (by simp at hN; omega)
  have := key (o.way.drop k.toNat) k.toNat NN rfl (by simp; unfold NN; omega)
  rw [show ((k.toNat : Nat) : Int) = k by omega] at this
  exact this
/-- What is closed from an index on, asked trip by trip. -/
theorem closed_drop (cl : YTrip → Bool) (k : Int) : ∀ (ts : List YTrip) (i : Nat), allI (fun i t => !(decide (k ≤ (i : Int)) && cl t)) i ts = !((ts.drop (k - i).toNat).any cl)
  | [], i => by simp [allI]
  | t :: ts, i => by
    simp only [allI, closed_drop cl k ts (i + 1)]
    by_cases h : k ≤ (i : Int)
    · rw [decide_eq_true h, show (k - (i : Int)).toNat = 0 by omega, show (k - ((i + 1 : Nat) : Int)).toNat = 0 by omega]
      simp
    · rw [decide_eq_false h]
      obtain ⟨m, hm⟩ : ∃ m, (k - (i : Int)).toNat = m + 1 := ⟨(k - (i : Int)).toNat - 1, by omega⟩
      rw [hm, show (k - ((i + 1 : Nat) : Int)).toNat = m by omega]
      simp
theorem comes_v {o : YOrder} (h : 0 ≤ o.gone ∧ o.gone ≤ o.way.length) (hl : o.way.length ≤ 1048576) : m_spec_l10Coming o = some (comesV o) ∧ 0 ≤ comesV o ∧ m_impl_toCome o = some (if (o.way.length : Int) < comesV o then (o.way.length : Int) else comesV o) := by
  unfold m_spec_l10Coming m_impl_toCome comesV
  have hw : w64 (o.gone + 1) = o.gone + 1 := w64_in (by omega)
  simp only [hw]
  by_cases h2 : o.state = 2
  · rw [decide_eq_true h2, if_pos h2]; exact ⟨rfl, by omega, rfl⟩
  · rw [decide_eq_false h2, if_neg h2]; exact ⟨rfl, by omega, by rw [if_neg (show ¬ (o.way.length : Int) < o.gone by omega)]; rfl⟩
section
variable {w : YWorld} (hf : WFit w) (hb : booksV w.network w.bookings = true)
include hf hb
theorem way_spec {o : YOrder} (hl : o.way.length ≤ 1048576) (i : Nat) (hi : i < 1048576) : iterF (m_spec_l10Order_b0 w (i : Int) o) NN (o.from_, 0) = some (if allI (wayC w ((i + 1 : Nat) : Int) o) 0 o.way = true then .inl (endV w.network o) else .inr false) := by
  refine iter_fold (A := ByteArray) (fun a i => (a, i)) _ (fun _ t => legTo w.network t) id (fun a j t ht => ?_) (fun a => ?_) (by unfold NN; omega) o.from_
  · have hlt := (List.getElem?_eq_some_iff.1 ht).1
    have hg : getI o.way (j : Int) = some t := by rw [getI_nat]; exact ht
    have hj : w64 ((j : Int) + 1) = ((j + 1 : Nat) : Int) := w64_nat hlt (by omega)
    have hi1 : w64 ((i : Int) + 1) = ((i + 1 : Nat) : Int) := by rw [w64_in (by omega)]; omega
    unfold m_spec_l10Order_b0
    simp only [decide_eq_true (show (j : Int) < o.way.length by omega), cond_true, hg, Option.bind_some, hj, hi1, tripB_v hf.net, booked_v hf.bookings]
    unfold wayC
    cases ht' : tripB w.network t with
    | false => simp
    | true =>
      obtain ⟨y, hy, _⟩ := tripB_leg hf.net ht'
      have hlt' : legTo w.network t = y.to_ := by unfold legTo; rw [hy]; rfl
      simp only [hy, Option.bind_some, hlt', Bool.not_true, cond_false]
      cases bookedB w.bookings ((i + 1 : Nat) : Int) t o.weight with
      | false => simp
      | true =>
        simp only [Bool.not_true, cond_false, Bool.true_and]
        by_cases h1 : y.to_ = o.to_
        · by_cases h2 : j + 1 < o.way.length
          · simp [h1, h2, show ((j : Int) + 1) < o.way.length by omega]
          · simp [h1, h2, show ¬ ((j : Int) + 1) < o.way.length by omega]
        · simp [h1]
  · unfold m_spec_l10Order_b0
    simp
theorem way_impl {o : YOrder} (hl : o.way.length ≤ 1048576) (i : Nat) (hi : i < 1048576) (ho : getI w.orders (i : Int) = some o) (hg0 : 0 ≤ o.gone ∧ o.gone ≤ o.way.length) :
    iterF (m_impl_isOrder_b0 w ((i + 1 : Nat) : Int) o) NN (o.from_, 0) = some (if (allI (wayC w ((i + 1 : Nat) : Int) o) 0 o.way && !((o.way.drop (comesV o).toNat).any (closedB w.closed))) = true then .inl (endV w.network o) else .inr false) := by
  obtain ⟨c1, c2, c3⟩ := comes_v hg0 hl
  have hcl : (!((o.way.drop (comesV o).toNat).any (closedB w.closed))) = allI (fun j t => !(decide ((if (o.way.length : Int) < comesV o then (o.way.length : Int) else comesV o) ≤ (j : Int)) && closedB w.closed t)) 0 o.way := by
    rw [closed_drop]
    congr 2
    split
    · rename_i h
      rw [List.drop_eq_nil_of_le (by omega), List.drop_eq_nil_of_le (by omega)]
    · congr 1; omega
  rw [hcl, ← allI_and]
  have hnet := (books_net hb).1
  refine iter_fold (A := ByteArray) (fun a i => (a, i)) _ (fun _ t => legTo w.network t) id (fun a j t ht => ?_) (fun a => ?_) (by unfold NN; omega) o.from_
  · have hlt := (List.getElem?_eq_some_iff.1 ht).1
    have hg : getI o.way (j : Int) = some t := by rw [getI_nat]; exact ht
    have hj : w64 ((j : Int) + 1) = ((j + 1 : Nat) : Int) := w64_nat hlt (by omega)
    have hw1 : w64 ((o.way.length : Int) - 1) = (o.way.length : Int) - 1 := w64_in (by omega)
    have ho' : getI w.orders (w64 (((i + 1 : Nat) : Int) - 1)) = some o := by rw [w64_in (by omega), show ((i + 1 : Nat) : Int) - 1 = (i : Int) by omega]; exact ho
    unfold m_impl_isOrder_b0
    simp only [decide_eq_true (show (j : Int) < o.way.length by omega), cond_true, hg, Option.bind_some, hj, hw1, isTrip_v hf.net hnet, tripB_v hf.net, hasBooking_v hf.bookings (books_uniq hb) ho', c3, hasTrip_v hf.closed]
    unfold wayC
    cases ht' : tripB w.network t with
    | false => simp
    | true =>
      obtain ⟨y, hy, _⟩ := tripB_leg hf.net ht'
      have hlt' : legTo w.network t = y.to_ := by unfold legTo; rw [hy]; rfl
      simp only [hy, Option.bind_some, hlt', Bool.not_true, cond_false]
      cases bookedB w.bookings ((i + 1 : Nat) : Int) t o.weight with
      | false => simp
      | true =>
        simp only [Bool.not_true, cond_false, Bool.true_and]
        generalize (if (o.way.length : Int) < comesV o then (o.way.length : Int) else comesV o) = k
        have hcc : closedB w.closed t = w.closed.any fun y => decide (y = t) := rfl
        rw [hcc]
        by_cases h3 : k ≤ (j : Int)
        · rw [decide_eq_true h3, cond_true]
          cases w.closed.any fun y => decide (y = t) with
          | true => simp
          | false =>
            simp only [cond_false]
            by_cases h1 : y.to_ = o.to_
            · by_cases h2 : j + 1 < o.way.length
              · simp [h1, h2, show (j : Int) < (o.way.length : Int) - 1 by omega]
              · simp [h1, h2, show ¬ (j : Int) < (o.way.length : Int) - 1 by omega]
            · simp [h1]
        · rw [decide_eq_false h3, cond_false]
          by_cases h1 : y.to_ = o.to_
          · by_cases h2 : j + 1 < o.way.length
            · simp [h1, h2, show (j : Int) < (o.way.length : Int) - 1 by omega]
            · simp [h1, h2, show ¬ (j : Int) < (o.way.length : Int) - 1 by omega]
          · simp [h1]
  · unfold m_impl_isOrder_b0
    simp
theorem way_state {o : YOrder} (hl : o.way.length ≤ 1048576) {i : Nat} (hg0 : 0 ≤ o.gone ∧ o.gone ≤ o.way.length) (h : allI (wayC w ((i + 1 : Nat) : Int) o) 0 o.way = true) : m_spec_l10State w.network o w.now = some ((m_spec_l10State w.network o w.now).getD false) := by
  obtain ⟨b, hb'⟩ := state_some (n := w.network) hg0 hl (fun t ht => by
    obtain ⟨j, hj, rfl⟩ := List.getElem_of_mem ht
    have := allI_iff.1 h j _ (List.getElem?_eq_getElem hj)
    unfold wayC at this
    simp only [Bool.and_eq_true] at this
    obtain ⟨y, hy, _⟩ := tripB_leg hf.net this.1.1
    exact ⟨y, hy⟩) w.now
  rw [hb']; rfl
theorem spec_order {o : YOrder} {i : Nat} (ho : getI w.orders (i : Int) = some o) : m_spec_l10Order w (i : Int) = some (orderV w i o) := by
  have hl := hf.way o (getI_mem ho)
  have hi : i < 1048576 := by have := (List.getElem?_eq_some_iff.1 (by rw [← getI_nat]; exact ho)).1; have := hf.orders; omega
  have hp := (places_eq hf.net).2
  have hpl := placesV_len w.network
  have hll := hf.net.legs
  unfold m_spec_l10Order orderV
  rw [ho, hp]
  simp only [Option.bind_some, l1In_v, l4Index_v (show (placesV w.network).length ≤ 4194304 by omega)]
  cases decide (idxV (placesV w.network) o.from_ < 0) with
  | true => rfl
  | false =>
  cases decide (idxV (placesV w.network) o.to_ < 0) with
  | true => rfl
  | false =>
  cases decide (o.from_ = o.to_) with
  | true => rfl
  | false =>
  simp only [cond_false, Bool.not_false, Bool.true_and]
  cases decide (1 ≤ o.service) && decide (o.service ≤ 3) with
  | false => rfl
  | true =>
  cases decide (1 ≤ o.weight) && decide (o.weight ≤ 30000) with
  | false => rfl
  | true =>
  cases decide (0 ≤ o.at_) && decide (o.at_ ≤ w.now) with
  | false => rfl
  | true =>
  cases decide (0 ≤ o.due) && decide (o.due ≤ 200000) with
  | false => rfl
  | true =>
  simp only [cond_false, Bool.not_true, Bool.true_and]
  cases hg : decide (0 ≤ o.gone) && decide (o.gone ≤ (o.way.length : Int)) with
  | false => rfl
  | true =>
  simp only [Bool.and_eq_true, decide_eq_true_iff] at hg
  obtain ⟨c1, c2, c3⟩ := comes_v hg hl
  simp only [Bool.not_true, cond_false, Bool.true_and]
  rw [way_spec hf hb hl i hi]
  cases hal : allI (wayC w ((i + 1 : Nat) : Int) o) 0 o.way with
  | false => rfl
  | true =>
  have hst := way_state hf hb hl hg hal
  obtain ⟨r, hr⟩ := isWay_some hf.net hl o.from_ (endV w.network o) (w64 (o.at_ + 1))
  simp only [if_true, Option.bind_some, selim, hr, Option.getD_some, Bool.true_and]
  cases r with
  | false => rfl
  | true =>
  rw [hst]
  simp only [Option.getD_some]
  cases (m_spec_l10State w.network o w.now).getD false with
  | false => rfl
  | true =>
  simp only [Bool.not_true, cond_false, Option.bind_some, c1, closed_loop hf.closed hl c2, Bool.true_and]
  cases (o.way.drop (comesV o).toNat).any (closedB w.closed) <;> rfl
theorem impl_order {o : YOrder} {i : Nat} (ho : getI w.orders (i : Int) = some o) : m_impl_isOrder w ((i + 1 : Nat) : Int) (placesV w.network) = some (orderV w i o) := by
  have hl := hf.way o (getI_mem ho)
  have hi : i < 1048576 := by have := (List.getElem?_eq_some_iff.1 (by rw [← getI_nat]; exact ho)).1; have := hf.orders; omega
  have hpl := placesV_len w.network
  have hll := hf.net.legs
  have ho' : getI w.orders (w64 (((i + 1 : Nat) : Int) - 1)) = some o := by rw [w64_in (by omega), show ((i + 1 : Nat) : Int) - 1 = (i : Int) by omega]; exact ho
  unfold m_impl_isOrder orderV
  rw [ho', within_eq, placeAt_eq]
  simp only [Option.bind_some, l1In_v, l4Index_v (show (placesV w.network).length ≤ 4194304 by omega)]
  cases decide (o.from_ = o.to_) with
  | true => simp only [cond_true, Bool.not_true, Bool.and_false, Bool.false_and]
  | false =>
  cases decide (idxV (placesV w.network) o.from_ < 0) with
  | true => rfl
  | false =>
  cases decide (idxV (placesV w.network) o.to_ < 0) with
  | true => rfl
  | false =>
  simp only [cond_false, Bool.not_false, Bool.true_and]
  cases decide (1 ≤ o.service) && decide (o.service ≤ 3) with
  | false => rfl
  | true =>
  cases decide (1 ≤ o.weight) && decide (o.weight ≤ 30000) with
  | false => rfl
  | true =>
  cases decide (0 ≤ o.at_) && decide (o.at_ ≤ w.now) with
  | false => rfl
  | true =>
  cases decide (0 ≤ o.due) && decide (o.due ≤ 200000) with
  | false => rfl
  | true =>
  simp only [cond_false, Bool.not_true, Bool.true_and]
  cases hg : decide (0 ≤ o.gone) && decide (o.gone ≤ (o.way.length : Int)) with
  | false => rfl
  | true =>
  simp only [Bool.and_eq_true, decide_eq_true_iff] at hg
  simp only [Bool.not_true, cond_false, Bool.true_and]
  rw [way_impl hf hb hl i hi ho hg]
  cases hal : allI (wayC w ((i + 1 : Nat) : Int) o) 0 o.way with
  | false => rfl
  | true =>
  have hst := way_state hf hb hl hg hal
  obtain ⟨r, hr⟩ := isWay_some hf.net hl o.from_ (endV w.network o) (w64 (o.at_ + 1))
  simp only [Bool.true_and]
  rw [hr]
  cases (o.way.drop (comesV o).toNat).any (closedB w.closed) with
  | true => simp
  | false =>
  simp only [Bool.not_false, if_true, Option.bind_some, selim, isWay_eq hf.net, hr, Option.getD_some, Bool.true_and, state_eq, Bool.and_true]
  cases r with
  | false => rfl
  | true =>
  rw [hst]
  rfl
end
end Go.Proofs.YtooikkfldddjfaaGreat

/- The two sides' tests of worlds answer alike. -/
namespace Go.Proofs.YtooikkfldddjfaaGreat
set_option maxRecDepth 10000
open Go.RowKit
set_option linter.unusedVariables false
set_option linter.unusedSimpArgs false
set_option linter.unusedSectionVars false
def closedC (w : YWorld) (i : Nat) (t : YTrip) : Bool := tripB w.network t && !closedB (w.closed.take i) t
def scanC (w : YWorld) (i : Nat) (s : YScan) : Bool := (m_spec_IsScan w.network s).getD false && !decide (w.now < s.at_)
def tripsV (w : YWorld) : Int := w.orders.foldl (fun a o => w64 (a + (o.way.length : Int))) 0
def worldV (w : YWorld) : Bool :=
  booksV w.network w.bookings && (decide (0 ≤ w.now) && decide (w.now ≤ 100000)) && !decide (30 < (w.orders.length : Int)) && !decide (20 < (w.closed.length : Int)) && !decide (200 < (w.scans.length : Int)) && !decide (50 < (w.skip.length : Int)) && (decide ((w.scans.length : Int) ≤ w.made) && decide (w.made ≤ 1000000000)) &&
    allI (closedC w) 0 w.closed && allI (scanC w) 0 w.scans && allI (orderV w) 0 w.orders && decide (tripsV w = (w.bookings.length : Int))
theorem subL_take {α : Type} (xs : List α) (i : Nat) : subL xs 0 (i : Int) = xs.take i := by simp [subL]
section
variable {w : YWorld} (hf : WFit w) (hb : booksV w.network w.bookings = true)
include hf
theorem scan_v (s : YScan) : m_spec_IsScan w.network s = some ((m_spec_IsScan w.network s).getD false) := by
  obtain ⟨b, h⟩ := isScan_some hf.net s
  rw [h]; rfl
theorem closed_spec : iterF (m_spec_IsWorld_b0 w) NN 0 = some (if allI (closedC w) 0 w.closed = true then .inl () else .inr false) := by
  refine iter_fold (A := Unit) (fun _ i => i) _ (fun a _ => a) id (fun a i t ht => ?_) (fun a => ?_) (by have := hf.closed; unfold NN; omega) ()
  · have hlt := (List.getElem?_eq_some_iff.1 ht).1
    have hcl := hf.closed
    have hg : getI w.closed (i : Int) = some t := by rw [getI_nat]; exact ht
    have hi : w64 ((i : Int) + 1) = ((i + 1 : Nat) : Int) := w64_nat hlt (by omega)
    have hs : chk (slOk 0 (i : Int) w.closed.length) = some () := chk_t (by unfold slOk; rw [decide_eq_true_iff]; omega)
    unfold m_spec_IsWorld_b0
    simp only [decide_eq_true (show (i : Int) < w.closed.length by omega), cond_true, hg, Option.bind_some, hi, hs, tripB_v hf.net, subL_take, l6Closed_eq, hasTrip_v (show (w.closed.take i).length ≤ 1048576 by simp; omega)]
    unfold closedC
    have hcd : ((w.closed.take i).any fun y => decide (y = t)) = closedB (w.closed.take i) t := rfl
    rw [hcd]
    cases tripB w.network t <;> cases closedB (w.closed.take i) t <;> rfl
  · unfold m_spec_IsWorld_b0
    simp
theorem closed_impl (hb : booksV w.network w.bookings = true) : iterF (m_impl_IsWorld_b0 w) NN 0 = some (if allI (closedC w) 0 w.closed = true then .inl () else .inr false) := by
  have hnet := (books_net hb).1
  refine iter_fold (A := Unit) (fun _ i => i) _ (fun a _ => a) id (fun a i t ht => ?_) (fun a => ?_) (by have := hf.closed; unfold NN; omega) ()
  · have hlt := (List.getElem?_eq_some_iff.1 ht).1
    have hcl := hf.closed
    have hg : getI w.closed (i : Int) = some t := by rw [getI_nat]; exact ht
    have hi : w64 ((i : Int) + 1) = ((i + 1 : Nat) : Int) := w64_nat hlt (by omega)
    have hs : chk (slOk 0 (i : Int) w.closed.length) = some () := chk_t (by unfold slOk; rw [decide_eq_true_iff]; omega)
    unfold m_impl_IsWorld_b0
    simp only [decide_eq_true (show (i : Int) < w.closed.length by omega), cond_true, hg, Option.bind_some, hi, hs, isTrip_v hf.net hnet, tripB_v hf.net, subL_take, hasTrip_v (show (w.closed.take i).length ≤ 1048576 by simp; omega)]
    unfold closedC
    have hcd : ((w.closed.take i).any fun y => decide (y = t)) = closedB (w.closed.take i) t := rfl
    rw [hcd]
    cases tripB w.network t <;> cases closedB (w.closed.take i) t <;> rfl
  · unfold m_impl_IsWorld_b0
    simp
theorem scans_spec : iterF (m_spec_IsWorld_b1 w) NN 0 = some (if allI (scanC w) 0 w.scans = true then .inl () else .inr false) := by
  refine iter_fold (A := Unit) (fun _ i => i) _ (fun a _ => a) id (fun a i s hs => ?_) (fun a => ?_) (by have := hf.scans; unfold NN; omega) ()
  · have hlt := (List.getElem?_eq_some_iff.1 hs).1
    have hcl := hf.scans
    have hg : getI w.scans (i : Int) = some s := by rw [getI_nat]; exact hs
    have hi : w64 ((i : Int) + 1) = ((i + 1 : Nat) : Int) := w64_nat hlt (by omega)
    unfold m_spec_IsWorld_b1
    rw [decide_eq_true (show (i : Int) < w.scans.length by omega), cond_true, hg]
    simp only [Option.bind_some]
    rw [scan_v hf s]
    simp only [Option.bind_some, hi]
    unfold scanC
    cases (m_spec_IsScan w.network s).getD false <;> cases decide (w.now < s.at_) <;> rfl
  · unfold m_spec_IsWorld_b1
    simp
theorem scans_impl : iterF (m_impl_IsWorld_b1 w) NN 0 = some (if allI (scanC w) 0 w.scans = true then .inl () else .inr false) := by
  refine iter_fold (A := Unit) (fun _ i => i) _ (fun a _ => a) id (fun a i s hs => ?_) (fun a => ?_) (by have := hf.scans; unfold NN; omega) ()
  · have hlt := (List.getElem?_eq_some_iff.1 hs).1
    have hcl := hf.scans
    have hg : getI w.scans (i : Int) = some s := by rw [getI_nat]; exact hs
    have hi : w64 ((i : Int) + 1) = ((i + 1 : Nat) : Int) := w64_nat hlt (by omega)
    unfold m_impl_IsWorld_b1
    rw [decide_eq_true (show (i : Int) < w.scans.length by omega), cond_true, hg]
    simp only [Option.bind_some]
    rw [isScan_eq hf.net, scan_v hf s]
    simp only [Option.bind_some, hi]
    unfold scanC
    cases (m_spec_IsScan w.network s).getD false <;> cases decide (w.now < s.at_) <;> rfl
  · unfold m_impl_IsWorld_b1
    simp
include hb
theorem orders_spec : iterF (m_spec_IsWorld_b2 w) NN (0, 0) = some (if allI (orderV w) 0 w.orders = true then .inl (tripsV w) else .inr false) := by
  refine iter_fold (A := Int) (fun a i => (a, i)) _ (fun a (o : YOrder) => w64 (a + (o.way.length : Int))) id (fun a i o ho => ?_) (fun a => ?_) (by have := hf.orders; unfold NN; omega) 0
  · have hlt := (List.getElem?_eq_some_iff.1 ho).1
    have hcl := hf.orders
    have hg : getI w.orders (i : Int) = some o := by rw [getI_nat]; exact ho
    have hi : w64 ((i : Int) + 1) = ((i + 1 : Nat) : Int) := w64_nat hlt (by omega)
    unfold m_spec_IsWorld_b2
    simp only [decide_eq_true (show (i : Int) < w.orders.length by omega), cond_true, hg, Option.bind_some, hi, spec_order hf hb hg]
    cases orderV w i o <;> rfl
  · unfold m_spec_IsWorld_b2
    simp
theorem orders_impl : iterF (m_impl_IsWorld_b2 w (placesV w.network)) NN (0, 0) = some (if allI (orderV w) 0 w.orders = true then .inl (tripsV w) else .inr false) := by
  refine iter_fold (A := Int) (fun a i => (a, i)) _ (fun a (o : YOrder) => w64 (a + (o.way.length : Int))) id (fun a i o ho => ?_) (fun a => ?_) (by have := hf.orders; unfold NN; omega) 0
  · have hlt := (List.getElem?_eq_some_iff.1 ho).1
    have hcl := hf.orders
    have hg : getI w.orders (i : Int) = some o := by rw [getI_nat]; exact ho
    have hi : w64 ((i : Int) + 1) = ((i + 1 : Nat) : Int) := w64_nat hlt (by omega)
    unfold m_impl_IsWorld_b2
    simp only [decide_eq_true (show (i : Int) < w.orders.length by omega), cond_true, hg, Option.bind_some, hi, impl_order hf hb hg]
    cases orderV w i o <;> rfl
  · unfold m_impl_IsWorld_b2
    simp
end
theorem ite_sel {γ : Type} {b : Bool} {x : γ} {K : γ → Option Bool} {r : Bool} (h : b = true → K x = some r) (h' : b = false → r = false) : (some (if b = true then (Sum.inl x : γ ⊕ Bool) else .inr false)).bind (selim K (fun r => some r)) = some r := by
  cases b with
  | true => exact h rfl
  | false => rw [h' rfl]; rfl
theorem spec_world {w : YWorld} (hf : WFit w) : m_spec_IsWorld w = some (worldV w) := by
  unfold m_spec_IsWorld worldV
  rw [specBooks_v hf.net hf.bookings]
  simp only [Option.bind_some, l1In_v]
  cases hb : booksV w.network w.bookings with
  | false => rfl
  | true =>
  cases decide (0 ≤ w.now) && decide (w.now ≤ 100000) with
  | false => rfl
  | true =>
  cases decide (30 < (w.orders.length : Int)) with
  | true => rfl
  | false =>
  cases decide (20 < (w.closed.length : Int)) with
  | true => rfl
  | false =>
  cases decide (200 < (w.scans.length : Int)) with
  | true => rfl
  | false =>
  cases decide (50 < (w.skip.length : Int)) with
  | true => rfl
  | false =>
  cases decide ((w.scans.length : Int) ≤ w.made) && decide (w.made ≤ 1000000000) with
  | false => rfl
  | true =>
  simp only [Bool.not_true, Bool.not_false, cond_false, Bool.true_and]
  rw [closed_spec hf, scans_spec hf, orders_spec hf hb]
  refine ite_sel (fun h1 => ?_) (fun h1 => by rw [h1]; rfl)
  refine ite_sel (fun h2 => ?_) (fun h2 => by rw [h1, h2]; rfl)
  refine ite_sel (fun h3 => ?_) (fun h3 => by rw [h1, h2, h3]; rfl)
  rw [h1, h2, h3]; rfl
theorem impl_world {w : YWorld} (hf : WFit w) : m_impl_IsWorld w = some (worldV w) := by
  unfold m_impl_IsWorld worldV
  rw [implBooks_v hf.net hf.bookings, within_eq]
  simp only [Option.bind_some, l1In_v]
  cases hb : booksV w.network w.bookings with
  | false => rfl
  | true =>
  cases decide (0 ≤ w.now) && decide (w.now ≤ 100000) with
  | false => rfl
  | true =>
  cases decide (30 < (w.orders.length : Int)) with
  | true => rfl
  | false =>
  cases decide (20 < (w.closed.length : Int)) with
  | true => rfl
  | false =>
  cases decide (200 < (w.scans.length : Int)) with
  | true => rfl
  | false =>
  cases decide (50 < (w.skip.length : Int)) with
  | true => rfl
  | false =>
  cases decide ((w.scans.length : Int) ≤ w.made) && decide (w.made ≤ 1000000000) with
  | false => rfl
  | true =>
  simp only [Bool.not_true, Bool.not_false, cond_false, Bool.true_and]
  rw [closed_impl hf hb, scans_impl hf, impl_places hf.net]
  simp only [Option.bind_some]
  rw [orders_impl hf hb]
  refine ite_sel (fun h1 => ?_) (fun h1 => by rw [h1]; rfl)
  refine ite_sel (fun h2 => ?_) (fun h2 => by rw [h1, h2]; rfl)
  refine ite_sel (fun h3 => ?_) (fun h3 => by rw [h1, h2, h3]; rfl)
  rw [h1, h2, h3]; rfl
/-- What a valid world's order is. -/
theorem world_order {w : YWorld} (h : worldV w = true) {i : Nat} {o : YOrder} (ho : w.orders[i]? = some o) : orderV w i o = true := by
  unfold worldV at h
  simp only [Bool.and_eq_true] at h
  have := allI_iff.1 h.1.2 i o ho
  rwa [Nat.zero_add] at this
theorem world_books {w : YWorld} (h : worldV w = true) : booksV w.network w.bookings = true := by
  unfold worldV at h
  simp only [Bool.and_eq_true] at h
  exact h.1.1.1.1.1.1.1.1.1.1
end Go.Proofs.YtooikkfldddjfaaGreat

/- The mirror of impl.nextEvent, and that the code does just that (printed by a program of my own). -/
namespace Go.Proofs.YtooikkfldddjfaaGreat
set_option maxRecDepth 10000
open Go.RowKit
set_option linter.unusedVariables false
set_option maxHeartbeats 16000000
def m_impl_nextEvent_b0 (w : YWorld) (s0 : Int × Int) : Option ((Int × Int) ⊕ Int) :=
 cond (decide (s0.2 < (w.orders.length : Int)))
 ((getI w.orders s0.2).bind fun y1 =>
 cond (decide (y1.state = 2))
 ((getI y1.way y1.gone).bind fun y2 =>
 (m_impl_ends w.network y2).bind fun y3 =>
 cond (decide (0 ≤ y3))
 (cond (decide (s0.1 < 0))
 (some (.inl (y3, (w64 (s0.2 + 1)))))
 (cond (decide (y3 < s0.1))
 (some (.inl (y3, (w64 (s0.2 + 1)))))
 (some (.inl (s0.1, (w64 (s0.2 + 1)))))))
 (some (.inl (s0.1, (w64 (s0.2 + 1))))))
 (cond (decide (y1.state = 1))
 (cond (decide (y1.gone < (y1.way.length : Int)))
 ((getI y1.way y1.gone).bind fun y4 =>
 (m_impl_starts w.network y4).bind fun y5 =>
 cond (decide (0 ≤ y5))
 (cond (decide (s0.1 < 0))
 (some (.inl (y5, (w64 (s0.2 + 1)))))
 (cond (decide (y5 < s0.1))
 (some (.inl (y5, (w64 (s0.2 + 1)))))
 (some (.inl (s0.1, (w64 (s0.2 + 1)))))))
 (some (.inl (s0.1, (w64 (s0.2 + 1))))))
 (cond (decide (0 ≤ (-1)))
 (cond (decide (s0.1 < 0))
 (some (.inl ((-1), (w64 (s0.2 + 1)))))
 (cond (decide ((-1) < s0.1))
 (some (.inl ((-1), (w64 (s0.2 + 1)))))
 (some (.inl (s0.1, (w64 (s0.2 + 1)))))))
 (some (.inl (s0.1, (w64 (s0.2 + 1)))))))
 (cond (decide (0 ≤ (-1)))
 (cond (decide (s0.1 < 0))
 (some (.inl ((-1), (w64 (s0.2 + 1)))))
 (cond (decide ((-1) < s0.1))
 (some (.inl ((-1), (w64 (s0.2 + 1)))))
 (some (.inl (s0.1, (w64 (s0.2 + 1)))))))
 (some (.inl (s0.1, (w64 (s0.2 + 1))))))))
 (some (.inr s0.1))
instance (w : YWorld) : LoopE (m_impl_nextEvent_b0 w) := ⟨fun s0 => [.un, .be 0 0 0, .un, vi s0.1, .un, .un, .un, .un, .sl (w.orders.map cOrder), vi (w.orders.length : Int), vi s0.2, .un, .un, .un, .un, .un, .un, .un, .un, .un, .un, .un, .un, .un, .un, .un, .un, .un, .un, .un, .un, .un, .un, .un, .un, .un, .un, .un, .un, .un, .un, .un, .un, .un, .un, .un, .un, .un, .un, .un, .un, .un, .un, .un, .un, .un, .un, .un, .un, .un, .un, .un], fun s0 => [some ⟨42, 10, [[.sl (w.network.legs.map cLeg), .sl (w.network.off.map cInt), vi w.network.change, .sl (w.orders.map cOrder), .sl (w.bookings.map cBooking), .sl (w.closed.map cTrip), vi w.now, .sl (w.scans.map cScan), .sl (w.skip.map cInt), vi w.made]]⟩]⟩
def m_impl_nextEvent (w : YWorld) : Option Int :=
 (iterF (m_impl_nextEvent_b0 w) NN ((-1), 0)).bind (fun o0 =>
 some o0)
theorem ok_impl_nextEvent (w : YWorld) {r : Int} (H : m_impl_nextEvent w = some r) : CallM Tryz.prog 69 [.ag (cWorld w)] [] (vi r) [] := by
  replace H := H0 H
  unfold m_impl_nextEvent at H
  refine callM_of Tryz.func69 rfl Tryz.ntmps69 Tryz.results69 fun Q hQ hQn => ?_
  exact wk
instance (w : YWorld) : CT Tryz.prog (m_impl_nextEvent w) := ⟨69, [.ag (cWorld w)], [], fun r => vi r, fun r => [], ok_impl_nextEvent w⟩
end Go.Proofs.YtooikkfldddjfaaGreat

/- The mirror of impl.NextEvent, and that the code does just that (printed by a program of my own). -/
namespace Go.Proofs.YtooikkfldddjfaaGreat
set_option maxRecDepth 10000
open Go.RowKit
set_option linter.unusedVariables false
set_option maxHeartbeats 16000000
def m_impl_NextEvent (w : YWorld) : Option Int :=
 (m_impl_IsWorld w).bind fun y1 =>
 cond (!y1)
 (some (-1))
 ((m_impl_nextEvent w).bind fun y2 =>
 some y2)
theorem ok_impl_NextEvent (w : YWorld) {r : Int} (H : m_impl_NextEvent w = some r) : CallM Tryz.prog 18 [.ag (cWorld w)] [] (vi r) [] := by
  replace H := H0 H
  unfold m_impl_NextEvent at H
  refine callM_of Tryz.func18 rfl Tryz.ntmps18 Tryz.results18 fun Q hQ hQn => ?_
  exact wk
instance (w : YWorld) : CT Tryz.prog (m_impl_NextEvent w) := ⟨18, [.ag (cWorld w)], [], fun r => vi r, fun r => [], ok_impl_NextEvent w⟩
end Go.Proofs.YtooikkfldddjfaaGreat

/- The mirror of spec.NextEvent, and that the code does just that (printed by a program of my own). -/
namespace Go.Proofs.YtooikkfldddjfaaGreat
set_option maxRecDepth 10000
open Go.RowKit
set_option linter.unusedVariables false
set_option maxHeartbeats 16000000
def m_spec_NextEvent_b0 (w : YWorld) (s0 : Int × Int) : Option ((Int × Int) ⊕ Int) :=
 cond (decide (s0.1 < (w.orders.length : Int)))
 ((getI w.orders s0.1).bind fun y2 =>
 cond (decide (y2.gone = (y2.way.length : Int)))
 (some (.inl ((w64 (s0.1 + 1)), s0.2)))
 ((getI y2.way y2.gone).bind fun y3 =>
 (m_spec_l3Starts w.network y3).bind fun y4 =>
 cond (decide (y2.state = 2))
 ((getI y2.way y2.gone).bind fun y5 =>
 (m_spec_l3Ends w.network y5).bind fun y6 =>
 cond (decide (s0.2 < 0))
 (some (.inl ((w64 (s0.1 + 1)), y6)))
 (cond (decide (y6 < s0.2))
 (some (.inl ((w64 (s0.1 + 1)), y6)))
 (some (.inl ((w64 (s0.1 + 1)), s0.2)))))
 (cond (decide (s0.2 < 0))
 (some (.inl ((w64 (s0.1 + 1)), y4)))
 (cond (decide (y4 < s0.2))
 (some (.inl ((w64 (s0.1 + 1)), y4)))
 (some (.inl ((w64 (s0.1 + 1)), s0.2)))))))
 (some (.inr s0.2))
instance (w : YWorld) : LoopE (m_spec_NextEvent_b0 w) := ⟨fun s0 => [.un, .be 0 0 0, .un, vi s0.2, vi s0.1, .un, .un, .un, .un, .un, .un, .un, .un, .un, .un, .un, .un, .un, .un, .un, .un, .un, .un, .un, .un, .un, .un, .un, .un, .un, .un, .un, .un, .un, .un, .un, .un, .un, .un, .un, .un, .un, .un, .un, .un, .un, .un, .un, .un, .un, .un, .un, .un, .un, .un, .un, .un, .un, .un], fun s0 => [some ⟨42, 10, [[.sl (w.network.legs.map cLeg), .sl (w.network.off.map cInt), vi w.network.change, .sl (w.orders.map cOrder), .sl (w.bookings.map cBooking), .sl (w.closed.map cTrip), vi w.now, .sl (w.scans.map cScan), .sl (w.skip.map cInt), vi w.made]]⟩]⟩
def m_spec_NextEvent (w : YWorld) : Option Int :=
 (m_spec_IsWorld w).bind fun y1 =>
 cond (!y1)
 (some (-1))
 ((iterF (m_spec_NextEvent_b0 w) NN (0, (-1))).bind (fun o0 =>
 some o0))
theorem ok_spec_NextEvent (w : YWorld) {r : Int} (H : m_spec_NextEvent w = some r) : CallM Tryz.prog 17 [.ag (cWorld w)] [] (vi r) [] := by
  replace H := H0 H
  unfold m_spec_NextEvent at H
  refine callM_of Tryz.func17 rfl Tryz.ntmps17 Tryz.results17 fun Q hQ hQn => ?_
  exact wk
instance (w : YWorld) : CT Tryz.prog (m_spec_NextEvent w) := ⟨17, [.ag (cWorld w)], [], fun r => vi r, fun r => [], ok_spec_NextEvent w⟩
end Go.Proofs.YtooikkfldddjfaaGreat

/- The mirror of impl.PlannedEnd, and that the code does just that (printed by a program of my own). -/
namespace Go.Proofs.YtooikkfldddjfaaGreat
set_option maxRecDepth 10000
open Go.RowKit
set_option linter.unusedVariables false
set_option maxHeartbeats 16000000
def m_impl_PlannedEnd (w : YWorld) (id : Int) : Option Int :=
 (m_impl_IsWorld w).bind fun y1 =>
 cond (!y1)
 (some (-1))
 ((m_impl_within id 1 (w.orders.length : Int)).bind fun y2 =>
 cond (!y2)
 (some (-1))
 ((getI w.orders (w64 (id - 1))).bind fun y3 =>
 (m_impl_isStranded w y3).bind fun y4 =>
 cond y4
 (some (-1))
 (cond (decide ((y3.way.length : Int) = 0))
 (some (-1))
 ((getI y3.way (w64 ((y3.way.length : Int) - 1))).bind fun y5 =>
 (m_impl_ends w.network y5).bind fun y6 =>
 some y6))))
theorem ok_impl_PlannedEnd (w : YWorld) (id : Int) {r : Int} (H : m_impl_PlannedEnd w id = some r) : CallM Tryz.prog 16 [.ag (cWorld w), vi id] [] (vi r) [] := by
  replace H := H0 H
  unfold m_impl_PlannedEnd at H
  refine callM_of Tryz.func16 rfl Tryz.ntmps16 Tryz.results16 fun Q hQ hQn => ?_
  exact wk
instance (w : YWorld) (id : Int) : CT Tryz.prog (m_impl_PlannedEnd w id) := ⟨16, [.ag (cWorld w), vi id], [], fun r => vi r, fun r => [], ok_impl_PlannedEnd w id⟩
end Go.Proofs.YtooikkfldddjfaaGreat

/- The mirror of spec.PlannedEnd, and that the code does just that (printed by a program of my own). -/
namespace Go.Proofs.YtooikkfldddjfaaGreat
set_option maxRecDepth 10000
open Go.RowKit
set_option linter.unusedVariables false
set_option maxHeartbeats 16000000
def m_spec_PlannedEnd (w : YWorld) (id : Int) : Option Int :=
 (m_spec_IsWorld w).bind fun y1 =>
 cond (!y1)
 (some (-1))
 ((m_spec_l1In id 1 (w.orders.length : Int)).bind fun y2 =>
 cond (!y2)
 (some (-1))
 ((m_spec_l10Stranded w (w64 (id - 1))).bind fun y3 =>
 cond y3
 (some (-1))
 ((getI w.orders (w64 (id - 1))).bind fun y4 =>
 (getI y4.way (w64 ((y4.way.length : Int) - 1))).bind fun y5 =>
 (m_spec_l3Ends w.network y5).bind fun y6 =>
 some y6)))
theorem ok_spec_PlannedEnd (w : YWorld) (id : Int) {r : Int} (H : m_spec_PlannedEnd w id = some r) : CallM Tryz.prog 15 [.ag (cWorld w), vi id] [] (vi r) [] := by
  replace H := H0 H
  unfold m_spec_PlannedEnd at H
  refine callM_of Tryz.func15 rfl Tryz.ntmps15 Tryz.results15 fun Q hQ hQn => ?_
  exact wk
instance (w : YWorld) (id : Int) : CT Tryz.prog (m_spec_PlannedEnd w id) := ⟨15, [.ag (cWorld w), vi id], [], fun r => vi r, fun r => [], ok_spec_PlannedEnd w id⟩
end Go.Proofs.YtooikkfldddjfaaGreat
