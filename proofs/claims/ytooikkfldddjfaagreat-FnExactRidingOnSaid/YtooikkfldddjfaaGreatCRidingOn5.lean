/- The statement FnExactRidingOnSaid: for every input that can be read the law FnExactRidingOn returns true and leaves its arguments as they were. No further condition. -/
import Derived.Test.YtooikkfldddjfaaGreatCRidingOn3
import Derived.Test.YtooikkfldddjfaaGreatCRidingOn4
import Derived.Test.YtooikkfldddjfaaGreatRows
import Derived.Test.YtooikkfldddjfaaGreatCRidingOn2
import Derived.OpenShut
/- The mirror of spec.WaitingAt, and that the code does just that (printed by a program of my own). -/
namespace Go.Proofs.YtooikkfldddjfaaGreat
set_option maxRecDepth 10000
open Go.RowKit
set_option linter.unusedVariables false
set_option maxHeartbeats 16000000
def m_spec_WaitingAt_b0 (w : YWorld) (place_ : ByteArray) (s0 : Int × (List Int)) : Option ((Int × (List Int)) ⊕ (List Int)) :=
 cond (decide (s0.1 < (w.orders.length : Int)))
 ((getI w.orders s0.1).bind fun y2 =>
 cond (decide (y2.state = 1))
 ((getI w.orders s0.1).bind fun y3 =>
 cond (decide (y3.place = place_))
 ((chk (appOk ((s0.2 : List Int).length + ([(w64 (s0.1 + 1))] : List Int).length) 8)).bind fun _ =>
 some (.inl ((w64 (s0.1 + 1)), ((s0.2 : List Int) ++ [(w64 (s0.1 + 1))]))))
 (some (.inl ((w64 (s0.1 + 1)), s0.2))))
 (some (.inl ((w64 (s0.1 + 1)), s0.2))))
 (some (.inr s0.2))
instance (w : YWorld) (place_ : ByteArray) : LoopE (m_spec_WaitingAt_b0 w place_) := ⟨fun s0 => [.un, vs place_, .be 0 0 0, .un, .un, .ms 1, vi s0.1, .un, .un, .un, .un, .un, .un, .un, .un, .un, .un, .un, .un, .un, .un, .un, .un, .un, .un, .un, .un, .un, .un, .un, .un, .un, .un, .un, .un, .un, .un, .un, .un, .un, .un, .un], fun s0 => [some ⟨42, 10, [[.sl (w.network.legs.map cLeg), .sl (w.network.off.map cInt), vi w.network.change, .sl (w.orders.map cOrder), .sl (w.bookings.map cBooking), .sl (w.closed.map cTrip), vi w.now, .sl (w.scans.map cScan), .sl (w.skip.map cInt), vi w.made]]⟩, some ⟨3, 1, s0.2.map cInt⟩]⟩
def m_spec_WaitingAt (w : YWorld) (place_ : ByteArray) : Option (List Int) :=
 (m_spec_IsWorld w).bind fun y1 =>
 cond (!y1)
 (some ([] : List Int))
 ((iterF (m_spec_WaitingAt_b0 w place_) NN (0, ([] : List Int))).bind (fun o0 =>
 some o0))
theorem ok_spec_WaitingAt (w : YWorld) (place_ : ByteArray) {r : (List Int)} (H : m_spec_WaitingAt w place_ = some r) : CallM Tryz.prog 19 [.ag (cWorld w), vs place_] [] (.ms 0) [some ⟨3, 1, r.map cInt⟩] := by
  replace H := H0 H
  unfold m_spec_WaitingAt at H
  refine callM_of Tryz.func19 rfl Tryz.ntmps19 Tryz.results19 fun Q hQ hQn => ?_
  exact wk
instance (w : YWorld) (place_ : ByteArray) : CT Tryz.prog (m_spec_WaitingAt w place_) := ⟨19, [.ag (cWorld w), vs place_], [], fun r => .ms 0, fun r => [some ⟨3, 1, r.map cInt⟩], ok_spec_WaitingAt w place_⟩
end Go.Proofs.YtooikkfldddjfaaGreat

/- The mirror of impl.RidingOn, and that the code does just that (printed by a program of my own). -/
namespace Go.Proofs.YtooikkfldddjfaaGreat
set_option maxRecDepth 10000
open Go.RowKit
set_option linter.unusedVariables false
set_option maxHeartbeats 16000000
def m_impl_RidingOn_b0 (w : YWorld) (t : YTrip) (s0 : Int × (List Int)) : Option ((Int × (List Int)) ⊕ (List Int)) :=
 cond (decide (s0.1 < (w.orders.length : Int)))
 ((getI w.orders s0.1).bind fun y2 =>
 cond (decide (y2.state = 2))
 ((getI y2.way y2.gone).bind fun y3 =>
 cond (decide (y3 = t))
 ((chk (appOk ((s0.2 : List Int).length + ([(w64 (s0.1 + 1))] : List Int).length) 8)).bind fun _ =>
 some (.inl ((w64 (s0.1 + 1)), ((s0.2 : List Int) ++ [(w64 (s0.1 + 1))]))))
 (some (.inl ((w64 (s0.1 + 1)), s0.2))))
 (some (.inl ((w64 (s0.1 + 1)), s0.2))))
 (some (.inr s0.2))
instance (w : YWorld) (t : YTrip) : LoopE (m_impl_RidingOn_b0 w t) := ⟨fun s0 => [.un, .un, .un, .be 0 0 0, .un, .ms 1, .un, .un, .un, .un, .un, .un, .un, .un, .sl (w.orders.map cOrder), vi (w.orders.length : Int), vi s0.1, .un, .un, .un, .un, .un, .un, .un, .un, .un, .un, .un, .un, .un, .un, .un, .un, .un, .un, .un, .un, .un, .un, .un, .un], fun s0 => [some ⟨57, 2, [[vi t.leg, vi t.day]]⟩, some ⟨3, 1, s0.2.map cInt⟩]⟩
def m_impl_RidingOn (w : YWorld) (t : YTrip) : Option (List Int) :=
 (m_impl_IsWorld w).bind fun y1 =>
 cond (!y1)
 (some ([] : List Int))
 ((iterF (m_impl_RidingOn_b0 w t) NN (0, ([] : List Int))).bind (fun o0 =>
 some o0))
theorem ok_impl_RidingOn (w : YWorld) (t : YTrip) {r : (List Int)} (H : m_impl_RidingOn w t = some r) : CallM Tryz.prog 29 [.ag (cWorld w), .ag (cTrip t)] [] (.ms 0) [some ⟨3, 1, r.map cInt⟩] := by
  replace H := H0 H
  unfold m_impl_RidingOn at H
  refine callM_of Tryz.func29 rfl Tryz.ntmps29 Tryz.results29 fun Q hQ hQn => ?_
  exact wk
instance (w : YWorld) (t : YTrip) : CT Tryz.prog (m_impl_RidingOn w t) := ⟨29, [.ag (cWorld w), .ag (cTrip t)], [], fun r => .ms 0, fun r => [some ⟨3, 1, r.map cInt⟩], ok_impl_RidingOn w t⟩
end Go.Proofs.YtooikkfldddjfaaGreat

/- The mirror of spec.RidingOn, and that the code does just that (printed by a program of my own). -/
namespace Go.Proofs.YtooikkfldddjfaaGreat
set_option maxRecDepth 10000
open Go.RowKit
set_option linter.unusedVariables false
set_option maxHeartbeats 16000000
def m_spec_RidingOn_b0 (w : YWorld) (t : YTrip) (s0 : Int × (List Int)) : Option ((Int × (List Int)) ⊕ (List Int)) :=
 cond (decide (s0.1 < (w.orders.length : Int)))
 ((getI w.orders s0.1).bind fun y2 =>
 cond (decide (y2.state = 2))
 ((getI y2.way y2.gone).bind fun y3 =>
 cond (decide (y3 = t))
 ((chk (appOk ((s0.2 : List Int).length + ([(w64 (s0.1 + 1))] : List Int).length) 8)).bind fun _ =>
 some (.inl ((w64 (s0.1 + 1)), ((s0.2 : List Int) ++ [(w64 (s0.1 + 1))]))))
 (some (.inl ((w64 (s0.1 + 1)), s0.2))))
 (some (.inl ((w64 (s0.1 + 1)), s0.2))))
 (some (.inr s0.2))
instance (w : YWorld) (t : YTrip) : LoopE (m_spec_RidingOn_b0 w t) := ⟨fun s0 => [.un, .un, .be 0 0 0, .be 1 0 0, .un, .ms 2, vi s0.1, .un, .un, .un, .un, .un, .un, .un, .un, .un, .un, .un, .un, .un, .un, .un, .un, .un, .un, .un, .un, .un, .un, .un, .un, .un, .un, .un, .un, .un, .un, .un, .un, .un, .un, .un, .un, .un], fun s0 => [some ⟨42, 10, [[.sl (w.network.legs.map cLeg), .sl (w.network.off.map cInt), vi w.network.change, .sl (w.orders.map cOrder), .sl (w.bookings.map cBooking), .sl (w.closed.map cTrip), vi w.now, .sl (w.scans.map cScan), .sl (w.skip.map cInt), vi w.made]]⟩, some ⟨57, 2, [[vi t.leg, vi t.day]]⟩, some ⟨3, 1, s0.2.map cInt⟩]⟩
def m_spec_RidingOn (w : YWorld) (t : YTrip) : Option (List Int) :=
 (m_spec_IsWorld w).bind fun y1 =>
 cond (!y1)
 (some ([] : List Int))
 ((iterF (m_spec_RidingOn_b0 w t) NN (0, ([] : List Int))).bind (fun o0 =>
 some o0))
theorem ok_spec_RidingOn (w : YWorld) (t : YTrip) {r : (List Int)} (H : m_spec_RidingOn w t = some r) : CallM Tryz.prog 27 [.ag (cWorld w), .ag (cTrip t)] [] (.ms 0) [some ⟨3, 1, r.map cInt⟩] := by
  replace H := H0 H
  unfold m_spec_RidingOn at H
  refine callM_of Tryz.func27 rfl Tryz.ntmps27 Tryz.results27 fun Q hQ hQn => ?_
  exact wk
instance (w : YWorld) (t : YTrip) : CT Tryz.prog (m_spec_RidingOn w t) := ⟨27, [.ag (cWorld w), .ag (cTrip t)], [], fun r => .ms 0, fun r => [some ⟨3, 1, r.map cInt⟩], ok_spec_RidingOn w t⟩
end Go.Proofs.YtooikkfldddjfaaGreat

/- The mirror of impl.LateOrders, and that the code does just that (printed by a program of my own). -/
namespace Go.Proofs.YtooikkfldddjfaaGreat
set_option maxRecDepth 10000
open Go.RowKit
set_option linter.unusedVariables false
set_option maxHeartbeats 16000000
def m_impl_LateOrders_b0 (w : YWorld) (s0 : Int × (List Int)) : Option ((Int × (List Int)) ⊕ (List Int)) :=
 cond (decide (s0.1 < (w.orders.length : Int)))
 ((getI w.orders s0.1).bind fun y2 =>
 cond (decide (y2.state = 3))
 (cond (decide (y2.due < y2.ended))
 ((chk (appOk ((s0.2 : List Int).length + ([(w64 (s0.1 + 1))] : List Int).length) 8)).bind fun _ =>
 some (.inl ((w64 (s0.1 + 1)), ((s0.2 : List Int) ++ [(w64 (s0.1 + 1))]))))
 (cond (!decide (y2.state = 3))
 (cond (decide (y2.due < w.now))
 ((chk (appOk ((s0.2 : List Int).length + ([(w64 (s0.1 + 1))] : List Int).length) 8)).bind fun _ =>
 some (.inl ((w64 (s0.1 + 1)), ((s0.2 : List Int) ++ [(w64 (s0.1 + 1))]))))
 (some (.inl ((w64 (s0.1 + 1)), s0.2))))
 (some (.inl ((w64 (s0.1 + 1)), s0.2)))))
 (cond (!decide (y2.state = 3))
 (cond (decide (y2.due < w.now))
 ((chk (appOk ((s0.2 : List Int).length + ([(w64 (s0.1 + 1))] : List Int).length) 8)).bind fun _ =>
 some (.inl ((w64 (s0.1 + 1)), ((s0.2 : List Int) ++ [(w64 (s0.1 + 1))]))))
 (some (.inl ((w64 (s0.1 + 1)), s0.2))))
 (some (.inl ((w64 (s0.1 + 1)), s0.2)))))
 (some (.inr s0.2))
instance (w : YWorld) : LoopE (m_impl_LateOrders_b0 w) := ⟨fun s0 => [.un, .be 0 0 0, .un, .ms 1, .un, .un, .un, .un, .un, .un, .un, .un, .sl (w.orders.map cOrder), vi (w.orders.length : Int), vi s0.1, .un, .un, .un, .un, .un, .un, .un, .un, .un, .un, .un, .un, .un, .un, .un, .un, .un, .un, .un, .un, .un, .un, .un, .un, .un, .un, .un, .un, .un, .un, .un, .un, .un], fun s0 => [some ⟨42, 10, [[.sl (w.network.legs.map cLeg), .sl (w.network.off.map cInt), vi w.network.change, .sl (w.orders.map cOrder), .sl (w.bookings.map cBooking), .sl (w.closed.map cTrip), vi w.now, .sl (w.scans.map cScan), .sl (w.skip.map cInt), vi w.made]]⟩, some ⟨3, 1, s0.2.map cInt⟩]⟩
def m_impl_LateOrders (w : YWorld) : Option (List Int) :=
 (m_impl_IsWorld w).bind fun y1 =>
 cond (!y1)
 (some ([] : List Int))
 ((iterF (m_impl_LateOrders_b0 w) NN (0, ([] : List Int))).bind (fun o0 =>
 some o0))
theorem ok_impl_LateOrders (w : YWorld) {r : (List Int)} (H : m_impl_LateOrders w = some r) : CallM Tryz.prog 26 [.ag (cWorld w)] [] (.ms 0) [some ⟨3, 1, r.map cInt⟩] := by
  replace H := H0 H
  unfold m_impl_LateOrders at H
  refine callM_of Tryz.func26 rfl Tryz.ntmps26 Tryz.results26 fun Q hQ hQn => ?_
  exact wk
instance (w : YWorld) : CT Tryz.prog (m_impl_LateOrders w) := ⟨26, [.ag (cWorld w)], [], fun r => .ms 0, fun r => [some ⟨3, 1, r.map cInt⟩], ok_impl_LateOrders w⟩
end Go.Proofs.YtooikkfldddjfaaGreat

/- The mirror of spec.LateOrders, and that the code does just that (printed by a program of my own). -/
namespace Go.Proofs.YtooikkfldddjfaaGreat
set_option maxRecDepth 10000
open Go.RowKit
set_option linter.unusedVariables false
set_option maxHeartbeats 16000000
def m_spec_LateOrders_b0 (w : YWorld) (s0 : Int × (List Int)) : Option ((Int × (List Int)) ⊕ (List Int)) :=
 cond (decide (s0.1 < (w.orders.length : Int)))
 ((getI w.orders s0.1).bind fun y2 =>
 cond (decide (y2.state = 3))
 (cond (decide (y2.due < y2.ended))
 ((chk (appOk ((s0.2 : List Int).length + ([(w64 (s0.1 + 1))] : List Int).length) 8)).bind fun _ =>
 some (.inl ((w64 (s0.1 + 1)), ((s0.2 : List Int) ++ [(w64 (s0.1 + 1))]))))
 (cond (!decide (y2.state = 3))
 (cond (decide (y2.due < w.now))
 ((chk (appOk ((s0.2 : List Int).length + ([(w64 (s0.1 + 1))] : List Int).length) 8)).bind fun _ =>
 some (.inl ((w64 (s0.1 + 1)), ((s0.2 : List Int) ++ [(w64 (s0.1 + 1))]))))
 (some (.inl ((w64 (s0.1 + 1)), s0.2))))
 (some (.inl ((w64 (s0.1 + 1)), s0.2)))))
 (cond (!decide (y2.state = 3))
 (cond (decide (y2.due < w.now))
 ((chk (appOk ((s0.2 : List Int).length + ([(w64 (s0.1 + 1))] : List Int).length) 8)).bind fun _ =>
 some (.inl ((w64 (s0.1 + 1)), ((s0.2 : List Int) ++ [(w64 (s0.1 + 1))]))))
 (some (.inl ((w64 (s0.1 + 1)), s0.2))))
 (some (.inl ((w64 (s0.1 + 1)), s0.2)))))
 (some (.inr s0.2))
instance (w : YWorld) : LoopE (m_spec_LateOrders_b0 w) := ⟨fun s0 => [.un, .be 0 0 0, .un, .ms 1, vi s0.1, .un, .un, .un, .un, .un, .un, .un, .un, .un, .un, .un, .un, .un, .un, .un, .un, .un, .un, .un, .un, .un, .un, .un, .un, .un, .un, .un, .un, .un, .un, .un, .un, .un, .un, .un, .un, .un, .un, .un, .un, .un, .un, .un, .un, .un, .un], fun s0 => [some ⟨42, 10, [[.sl (w.network.legs.map cLeg), .sl (w.network.off.map cInt), vi w.network.change, .sl (w.orders.map cOrder), .sl (w.bookings.map cBooking), .sl (w.closed.map cTrip), vi w.now, .sl (w.scans.map cScan), .sl (w.skip.map cInt), vi w.made]]⟩, some ⟨3, 1, s0.2.map cInt⟩]⟩
def m_spec_LateOrders (w : YWorld) : Option (List Int) :=
 (m_spec_IsWorld w).bind fun y1 =>
 cond (!y1)
 (some ([] : List Int))
 ((iterF (m_spec_LateOrders_b0 w) NN (0, ([] : List Int))).bind (fun o0 =>
 some o0))
theorem ok_spec_LateOrders (w : YWorld) {r : (List Int)} (H : m_spec_LateOrders w = some r) : CallM Tryz.prog 25 [.ag (cWorld w)] [] (.ms 0) [some ⟨3, 1, r.map cInt⟩] := by
  replace H := H0 H
  unfold m_spec_LateOrders at H
  refine callM_of Tryz.func25 rfl Tryz.ntmps25 Tryz.results25 fun Q hQ hQn => ?_
  exact wk
instance (w : YWorld) : CT Tryz.prog (m_spec_LateOrders w) := ⟨25, [.ag (cWorld w)], [], fun r => .ms 0, fun r => [some ⟨3, 1, r.map cInt⟩], ok_spec_LateOrders w⟩
end Go.Proofs.YtooikkfldddjfaaGreat

/- The two sides' lists of waiting, riding and late orders are the same lists. -/
namespace Go.Proofs.YtooikkfldddjfaaGreat
set_option maxRecDepth 10000
open Go.RowKit
set_option linter.unusedVariables false
set_option linter.unusedSimpArgs false
/-- A loop comes to an end, and what comes out is as_ said. -/
theorem iter_totP {σ ο : Type} {body : σ → Option (σ ⊕ ο)} (I : Nat → σ → Prop) (R : ο → Prop) (hI : ∀ k s, I k s → ∃ o, body s = some o ∧ (∀ s', o = .inl s' → ∃ k', k' < k ∧ I k' s') ∧ ∀ r, o = .inr r → R r) : ∀ (N k : Nat) (s : σ), I k s → k < N → ∃ o, iterF body N s = some o ∧ R o
  | 0, k, s, _, hN => by omega
  | N + 1, k, s, h, hN => by
    obtain ⟨o, hb, hn, hr⟩ := hI k s h
    simp only [iterF, hb]
    cases o with
    | inr r => exact ⟨r, rfl, hr r rfl⟩
    | inl s' =>
      obtain ⟨k', hk, hi⟩ := hn s' rfl
      exact iter_totP I R hI N k' s' hi (by omega)
theorem app_ok {n : Nat} (h : n ≤ 1048576) : chk (appOk (n + 1) 8) = some () := chk_t (by unfold appOk; rw [decide_eq_true_iff]; omega)
/-- A loop that collects indices. -/
theorem collect {w : YWorld} (hl : w.orders.length ≤ 1048576) {body : Int × List Int → Option ((Int × List Int) ⊕ List Int)}
    (h1 : ∀ (i : Nat) (out : List Int) (o : YOrder), w.orders[i]? = some o → out.length ≤ i → body ((i : Int), out) = some (.inl (((i + 1 : Nat) : Int), out)) ∨ body ((i : Int), out) = some (.inl (((i + 1 : Nat) : Int), out ++ [((i + 1 : Nat) : Int)])))
    (h2 : ∀ out, body ((w.orders.length : Int), out) = some (.inr out)) : ∃ r, iterF body NN (0, ([] : List Int)) = some r ∧ r.length ≤ 1048576 := by
  refine iter_totP (fun k s => ∃ i : Nat, i + k = w.orders.length ∧ s.1 = (i : Int) ∧ s.2.length ≤ i) _ ?_ NN w.orders.length _ ⟨0, by omega, rfl, Nat.le_refl _⟩ (by unfold NN; omega)
  rintro k ⟨i', out⟩ ⟨i, hi, hs, ho⟩
  simp only at hs ho
  subst hs
  rcases Nat.lt_or_ge i w.orders.length with hlt | hge
  · rcases h1 i out _ (List.getElem?_eq_getElem hlt) ho with e | e
    · exact ⟨_, e, fun s' h => by cases h; exact ⟨k - 1, by omega, i + 1, by omega, rfl, Nat.le_succ_of_le ho⟩, fun r h => by cases h⟩
    · exact ⟨_, e, fun s' h => by cases h; exact ⟨k - 1, by omega, i + 1, by omega, rfl, by simp; omega⟩, fun r h => by cases h⟩
  · obtain rfl : i = w.orders.length := by omega
    exact ⟨_, h2 out, fun s' h => (by cases h), fun r h => by cases h; omega⟩
theorem waiting_eq {w : YWorld} (hf : WFit w) (p : ByteArray) : ∃ r, m_impl_WaitingAt w p = some r ∧ m_spec_WaitingAt w p = some r ∧ r.length ≤ 1048576 := by
  unfold m_impl_WaitingAt m_spec_WaitingAt
  rw [impl_world hf, spec_world hf]
  cases hv : worldV w with
  | false => exact ⟨[], rfl, rfl, by simp⟩
  | true =>
    have hor := hf.orders
    have eb : m_spec_WaitingAt_b0 w p = m_impl_WaitingAt_b0 w p := by
      funext s
      unfold m_impl_WaitingAt_b0 m_spec_WaitingAt_b0
      cases hg : getI w.orders s.1 with
      | none => rfl
      | some o => simp only [Option.bind_some, hg]
    obtain ⟨r, h1, h2⟩ := collect hor (body := m_impl_WaitingAt_b0 w p) (fun i out o ho hlen => by
      have hlt := (List.getElem?_eq_some_iff.1 ho).1
      have hg : getI w.orders (i : Int) = some o := by rw [getI_nat]; exact ho
      have hi : w64 ((i : Int) + 1) = ((i + 1 : Nat) : Int) := w64_nat hlt (by omega)
      unfold m_impl_WaitingAt_b0
      simp only [decide_eq_true (show (i : Int) < w.orders.length by omega), cond_true, hg, Option.bind_some, hi, List.length_cons, List.length_nil, app_ok (show out.length ≤ 1048576 by omega)]
      cases decide (o.state = 1) <;> cases decide (o.place = p)
      · exact .inl rfl
      · exact .inl rfl
      · exact .inl rfl
      · exact .inr rfl) (fun out => by unfold m_impl_WaitingAt_b0; simp)
    simp only [Option.bind_some, Bool.not_true, cond_false, eb, h1]
    exact ⟨r, rfl, rfl, h2⟩
theorem riding_eq {w : YWorld} (hf : WFit w) (t : YTrip) : ∃ r, m_impl_RidingOn w t = some r ∧ m_spec_RidingOn w t = some r ∧ r.length ≤ 1048576 := by
  unfold m_impl_RidingOn m_spec_RidingOn
  rw [impl_world hf, spec_world hf]
  cases hv : worldV w with
  | false => exact ⟨[], rfl, rfl, by simp⟩
  | true =>
    have hor := hf.orders
    have eb : m_spec_RidingOn_b0 w t = m_impl_RidingOn_b0 w t := rfl
    obtain ⟨r, h1, h2⟩ := collect hor (body := m_impl_RidingOn_b0 w t) (fun i out o ho hlen => by
      have hlt := (List.getElem?_eq_some_iff.1 ho).1
      have hg : getI w.orders (i : Int) = some o := by rw [getI_nat]; exact ho
      have hi : w64 ((i : Int) + 1) = ((i + 1 : Nat) : Int) := w64_nat hlt (by omega)
      have hok := world_ok hf hv ho
      unfold m_impl_RidingOn_b0
      simp only [decide_eq_true (show (i : Int) < w.orders.length by omega), cond_true, hg, Option.bind_some, hi, List.length_cons, List.length_nil, app_ok (show out.length ≤ 1048576 by omega)]
      by_cases h2 : o.state = 2
      · have hgl : o.gone < o.way.length := by
          rcases hok.cases with ⟨c, _⟩ | ⟨_, c⟩ | ⟨c, _⟩ <;> omega
        obtain ⟨t2, htg, _⟩ := way_at hf hv ho hok.gone.1 hgl
        simp only [decide_eq_true h2, cond_true, htg, Option.bind_some]
        cases decide (t2 = t)
        · exact .inl rfl
        · exact .inr rfl
      · rw [decide_eq_false h2]
        exact .inl rfl) (fun out => by unfold m_impl_RidingOn_b0; simp)
    simp only [Option.bind_some, Bool.not_true, cond_false, eb, h1]
    exact ⟨r, rfl, rfl, h2⟩
theorem late_eq {w : YWorld} (hf : WFit w) : ∃ r, m_impl_LateOrders w = some r ∧ m_spec_LateOrders w = some r ∧ r.length ≤ 1048576 := by
  unfold m_impl_LateOrders m_spec_LateOrders
  rw [impl_world hf, spec_world hf]
  cases hv : worldV w with
  | false => exact ⟨[], rfl, rfl, by simp⟩
  | true =>
    have hor := hf.orders
    have eb : m_spec_LateOrders_b0 w = m_impl_LateOrders_b0 w := by
      funext s
      unfold m_impl_LateOrders_b0 m_spec_LateOrders_b0
      cases hg : getI w.orders s.1 with
      | none => rfl
      | some o => simp only [Option.bind_some, hg]
    obtain ⟨r, h1, h2⟩ := collect hor (body := m_impl_LateOrders_b0 w) (fun i out o ho hlen => by
      have hlt := (List.getElem?_eq_some_iff.1 ho).1
      have hg : getI w.orders (i : Int) = some o := by rw [getI_nat]; exact ho
      have hi : w64 ((i : Int) + 1) = ((i + 1 : Nat) : Int) := w64_nat hlt (by omega)
      unfold m_impl_LateOrders_b0
      simp only [decide_eq_true (show (i : Int) < w.orders.length by omega), cond_true, hg, Option.bind_some, hi, List.length_cons, List.length_nil, app_ok (show out.length ≤ 1048576 by omega)]
      cases decide (o.state = 3) <;> cases decide (o.due < o.ended) <;> cases decide (o.due < w.now) <;> first | exact .inl rfl | exact .inr rfl) (fun out => by unfold m_impl_LateOrders_b0; simp)
    simp only [Option.bind_some, Bool.not_true, cond_false, eb, h1]
    exact ⟨r, rfl, rfl, h2⟩
end Go.Proofs.YtooikkfldddjfaaGreat

/- The walk through the law FnExactRidingOn. -/
namespace Go.Proofs.YtooikkfldddjfaaGreat
set_option maxRecDepth 10000
open Go.RowKit
set_option linter.unusedVariables false
set_option linter.unusedSimpArgs false
set_option maxHeartbeats 4000000 in
set_option maxRecDepth 100000 in
theorem FnExactRidingOn_walk (x : YWorld) (t : YTrip) (ok : okWorld x) {u0 u1 u3 u4 u5 u7 u8 : Value} (w : World) (hR : WorldR w (AllS w) x u0 u1 u3 u4 u5 u7 u8) :
    Calls Tryz.prog 8 #[.agg #[u0, u1, .int .i64 x.network.change, u3, u4, u5, .int .i64 x.now, u7, u8, .int .i64 x.made], .agg #[.int .i64 t.leg, .int .i64 t.day]] w fun e w' => e = .returned (.bool true) ∧ Up w w' := by
  rcases fit_or ok with hy | ⟨y, hy, hy0, ht⟩
  · go_enter Tryz.func8, Tryz.ntmps8
    go_wp2_with fail
    generalize hwb : World.alloc (World.alloc w _) _ = wb
    have hub : Up w wb := by rw [← hwb]; (repeat (first | exact Up.rfl' _ | (refine Up.al _ ?_) | (refine Up.dr _ ?_) | (refine Up.dr1 ?_) | (refine Up.sc ?_ (by first | exact Nat.le_refl _ | (simp; done) | omega) _) | (refine Up.step (by assumption) ?_)))
    refine (szWorld_w hy (hR.up hub)).mono ?_
    rintro e w0 ⟨rfl, hb0⟩
    go_wp2_with fail
    go_ret
    exact ⟨rfl, Up.step hb0 hub⟩
  have hf := wFit_of ht
  obtain ⟨r, hi, hs, hrl⟩ := riding_eq hf t
  go_enter Tryz.func8, Tryz.ntmps8
  go_wp2_with fail
  generalize hwb : World.alloc (World.alloc w _) _ = wb
  have hub : Up w wb := by rw [← hwb]; (repeat (first | exact Up.rfl' _ | (refine Up.al _ ?_) | (refine Up.dr _ ?_) | (refine Up.dr1 ?_) | (refine Up.sc ?_ (by first | exact Nat.le_refl _ | (simp; done) | omega) _) | (refine Up.step (by assumption) ?_)))
  have hbs : wb.heap.size = w.heap.size + 2 := by rw [← hwb]; simp
  have A0 : wb.cell? ⟨w.heap.size, 0, none⟩ = some (u0) := by rw [← hwb, cell_of_row _ _ _ _ _ _ (heap_alloc_old (heap_alloc_new w _))]; rfl
  have A1 : wb.cell? ⟨w.heap.size, 1, none⟩ = some (u1) := by rw [← hwb, cell_of_row _ _ _ _ _ _ (heap_alloc_old (heap_alloc_new w _))]; rfl
  have A2 : wb.cell? ⟨w.heap.size, 2, none⟩ = some (.int .i64 x.network.change) := by rw [← hwb, cell_of_row _ _ _ _ _ _ (heap_alloc_old (heap_alloc_new w _))]; rfl
  have A3 : wb.cell? ⟨w.heap.size, 3, none⟩ = some (u3) := by rw [← hwb, cell_of_row _ _ _ _ _ _ (heap_alloc_old (heap_alloc_new w _))]; rfl
  have A4 : wb.cell? ⟨w.heap.size, 4, none⟩ = some (u4) := by rw [← hwb, cell_of_row _ _ _ _ _ _ (heap_alloc_old (heap_alloc_new w _))]; rfl
  have A5 : wb.cell? ⟨w.heap.size, 5, none⟩ = some (u5) := by rw [← hwb, cell_of_row _ _ _ _ _ _ (heap_alloc_old (heap_alloc_new w _))]; rfl
  have A6 : wb.cell? ⟨w.heap.size, 6, none⟩ = some (.int .i64 x.now) := by rw [← hwb, cell_of_row _ _ _ _ _ _ (heap_alloc_old (heap_alloc_new w _))]; rfl
  have A7 : wb.cell? ⟨w.heap.size, 7, none⟩ = some (u7) := by rw [← hwb, cell_of_row _ _ _ _ _ _ (heap_alloc_old (heap_alloc_new w _))]; rfl
  have A8 : wb.cell? ⟨w.heap.size, 8, none⟩ = some (u8) := by rw [← hwb, cell_of_row _ _ _ _ _ _ (heap_alloc_old (heap_alloc_new w _))]; rfl
  have A9 : wb.cell? ⟨w.heap.size, 9, none⟩ = some (.int .i64 x.made) := by rw [← hwb, cell_of_row _ _ _ _ _ _ (heap_alloc_old (heap_alloc_new w _))]; rfl
  have C0 : wb.cell? ⟨w.heap.size + 1, 0, none⟩ = some (.int .i64 t.leg) := by rw [← hwb, cell_of_row _ _ _ _ _ _ (heap_alloc_at (by simp) _)]; rfl
  have C1 : wb.cell? ⟨w.heap.size + 1, 1, none⟩ = some (.int .i64 t.day) := by rw [← hwb, cell_of_row _ _ _ _ _ _ (heap_alloc_at (by simp) _)]; rfl
  have hnl : w.heap.size < wb.heap.size := by omega
  have HR := hR.up hub
  clear hwb
  refine (szWorld_w hy HR).mono ?_
  rintro e w0 ⟨rfl, hb0⟩
  have hV0 : Up wb w0 := hb0
  have t0_0 : w0.cell? ⟨w.heap.size + 1, 0, none⟩ = some (.int .i64 t.leg) := cellUp hV0 C0
  have t1_0 : w0.cell? ⟨w.heap.size + 1, 1, none⟩ = some (.int .i64 t.day) := cellUp hV0 C1
  have a0_0 : w0.cell? ⟨w.heap.size, 0, none⟩ = some (u0) := (hV0.cell (p := ⟨w.heap.size, 0, none⟩) hnl).trans A0
  have a1_0 : w0.cell? ⟨w.heap.size, 1, none⟩ = some (u1) := (hV0.cell (p := ⟨w.heap.size, 1, none⟩) hnl).trans A1
  have a2_0 : w0.cell? ⟨w.heap.size, 2, none⟩ = some (.int .i64 x.network.change) := (hV0.cell (p := ⟨w.heap.size, 2, none⟩) hnl).trans A2
  have a3_0 : w0.cell? ⟨w.heap.size, 3, none⟩ = some (u3) := (hV0.cell (p := ⟨w.heap.size, 3, none⟩) hnl).trans A3
  have a4_0 : w0.cell? ⟨w.heap.size, 4, none⟩ = some (u4) := (hV0.cell (p := ⟨w.heap.size, 4, none⟩) hnl).trans A4
  have a5_0 : w0.cell? ⟨w.heap.size, 5, none⟩ = some (u5) := (hV0.cell (p := ⟨w.heap.size, 5, none⟩) hnl).trans A5
  have a6_0 : w0.cell? ⟨w.heap.size, 6, none⟩ = some (.int .i64 x.now) := (hV0.cell (p := ⟨w.heap.size, 6, none⟩) hnl).trans A6
  have a7_0 : w0.cell? ⟨w.heap.size, 7, none⟩ = some (u7) := (hV0.cell (p := ⟨w.heap.size, 7, none⟩) hnl).trans A7
  have a8_0 : w0.cell? ⟨w.heap.size, 8, none⟩ = some (u8) := (hV0.cell (p := ⟨w.heap.size, 8, none⟩) hnl).trans A8
  have a9_0 : w0.cell? ⟨w.heap.size, 9, none⟩ = some (.int .i64 x.made) := (hV0.cell (p := ⟨w.heap.size, 9, none⟩) hnl).trans A9
  have keep0 : ∀ w', Up w0 w' → (w'.cell? ⟨w.heap.size, 0, none⟩ = some (u0) ∧ w'.cell? ⟨w.heap.size, 1, none⟩ = some (u1) ∧ w'.cell? ⟨w.heap.size, 2, none⟩ = some (.int .i64 x.network.change) ∧ w'.cell? ⟨w.heap.size, 3, none⟩ = some (u3) ∧ w'.cell? ⟨w.heap.size, 4, none⟩ = some (u4) ∧ w'.cell? ⟨w.heap.size, 5, none⟩ = some (u5) ∧ w'.cell? ⟨w.heap.size, 6, none⟩ = some (.int .i64 x.now) ∧ w'.cell? ⟨w.heap.size, 7, none⟩ = some (u7) ∧ w'.cell? ⟨w.heap.size, 8, none⟩ = some (u8) ∧ w'.cell? ⟨w.heap.size, 9, none⟩ = some (.int .i64 x.made) ∧ w'.cell? ⟨w.heap.size + 1, 0, none⟩ = some (.int .i64 t.leg) ∧ w'.cell? ⟨w.heap.size + 1, 1, none⟩ = some (.int .i64 t.day)) := fun w' hu => ⟨cellUp hu a0_0, cellUp hu a1_0, cellUp hu a2_0, cellUp hu a3_0, cellUp hu a4_0, cellUp hu a5_0, cellUp hu a6_0, cellUp hu a7_0, cellUp hu a8_0, cellUp hu a9_0, cellUp hu t0_0, cellUp hu t1_0⟩
  go_wp2_with fail
  go_region_held3 (fun w' => w'.cell? ⟨w.heap.size, 0, none⟩ = some (u0) ∧ w'.cell? ⟨w.heap.size, 1, none⟩ = some (u1) ∧ w'.cell? ⟨w.heap.size, 2, none⟩ = some (.int .i64 x.network.change) ∧ w'.cell? ⟨w.heap.size, 3, none⟩ = some (u3) ∧ w'.cell? ⟨w.heap.size, 4, none⟩ = some (u4) ∧ w'.cell? ⟨w.heap.size, 5, none⟩ = some (u5) ∧ w'.cell? ⟨w.heap.size, 6, none⟩ = some (.int .i64 x.now) ∧ w'.cell? ⟨w.heap.size, 7, none⟩ = some (u7) ∧ w'.cell? ⟨w.heap.size, 8, none⟩ = some (u8) ∧ w'.cell? ⟨w.heap.size, 9, none⟩ = some (.int .i64 x.made) ∧ w'.cell? ⟨w.heap.size + 1, 0, none⟩ = some (.int .i64 t.leg) ∧ w'.cell? ⟨w.heap.size + 1, 1, none⟩ = some (.int .i64 t.day))
    (first | exact keep0 _ (by (repeat (first | exact Up.rfl' _ | (refine Up.al _ ?_) | (refine Up.dr _ ?_) | (refine Up.dr1 ?_) | (refine Up.sc ?_ (by first | exact Nat.le_refl _ | (simp; done) | omega) _) | (refine Up.step (by assumption) ?_)))) | go_keep)
    (first
      | (go_at_call 12; refine (toWorld_L x ht (HR.up (Up.step (by (repeat (first | exact Up.rfl' _ | (refine Up.al _ ?_) | (refine Up.dr _ ?_) | (refine Up.dr1 ?_) | (refine Up.sc ?_ (by first | exact Nat.le_refl _ | (simp; done) | omega) _) | (refine Up.step (by assumption) ?_)))) hV0))).mono ?_; rintro e w1 ⟨p0, p1, p3, p4, p5, p7, p8, rfl, hb1, _, hp1⟩)
      | (go_at_call 28; refine (toTrip_w t _).mono ?_; rintro e wt ⟨rfl, hbt⟩)
      | (go_at_call 27; refine (CallM.ints (ok_spec_RidingOn x t hs) rfl (arg2 (hp1.up (by (repeat (first | exact Up.rfl' _ | (refine Up.al _ ?_) | (refine Up.dr _ ?_) | (refine Up.dr1 ?_) | (refine Up.sc ?_ (by first | exact Nat.le_refl _ | (simp; done) | omega) _) | (refine Up.step (by assumption) ?_))))).rep trip_rep)).mono ?_; rintro e w2 ⟨v2, rfl, ho2, hb2⟩))
  all_goals
    have hV2 : Up wb w2 := Up.step (by (repeat (first | exact Up.rfl' _ | (refine Up.al _ ?_) | (refine Up.dr _ ?_) | (refine Up.dr1 ?_) | (refine Up.sc ?_ (by first | exact Nat.le_refl _ | (simp; done) | omega) _) | (refine Up.step (by assumption) ?_)))) hV0
    clear keep0 a0_0 a1_0 a2_0 a3_0 a4_0 a5_0 a6_0 a7_0 a8_0 a9_0 t0_0 t1_0
    have t0_2 : w2.cell? ⟨w.heap.size + 1, 0, none⟩ = some (.int .i64 t.leg) := cellUp hV2 C0
    have t1_2 : w2.cell? ⟨w.heap.size + 1, 1, none⟩ = some (.int .i64 t.day) := cellUp hV2 C1
    have a0_2 : w2.cell? ⟨w.heap.size, 0, none⟩ = some (u0) := (hV2.cell (p := ⟨w.heap.size, 0, none⟩) hnl).trans A0
    have a1_2 : w2.cell? ⟨w.heap.size, 1, none⟩ = some (u1) := (hV2.cell (p := ⟨w.heap.size, 1, none⟩) hnl).trans A1
    have a2_2 : w2.cell? ⟨w.heap.size, 2, none⟩ = some (.int .i64 x.network.change) := (hV2.cell (p := ⟨w.heap.size, 2, none⟩) hnl).trans A2
    have a3_2 : w2.cell? ⟨w.heap.size, 3, none⟩ = some (u3) := (hV2.cell (p := ⟨w.heap.size, 3, none⟩) hnl).trans A3
    have a4_2 : w2.cell? ⟨w.heap.size, 4, none⟩ = some (u4) := (hV2.cell (p := ⟨w.heap.size, 4, none⟩) hnl).trans A4
    have a5_2 : w2.cell? ⟨w.heap.size, 5, none⟩ = some (u5) := (hV2.cell (p := ⟨w.heap.size, 5, none⟩) hnl).trans A5
    have a6_2 : w2.cell? ⟨w.heap.size, 6, none⟩ = some (.int .i64 x.now) := (hV2.cell (p := ⟨w.heap.size, 6, none⟩) hnl).trans A6
    have a7_2 : w2.cell? ⟨w.heap.size, 7, none⟩ = some (u7) := (hV2.cell (p := ⟨w.heap.size, 7, none⟩) hnl).trans A7
    have a8_2 : w2.cell? ⟨w.heap.size, 8, none⟩ = some (u8) := (hV2.cell (p := ⟨w.heap.size, 8, none⟩) hnl).trans A8
    have a9_2 : w2.cell? ⟨w.heap.size, 9, none⟩ = some (.int .i64 x.made) := (hV2.cell (p := ⟨w.heap.size, 9, none⟩) hnl).trans A9
    go_wp2_with fail
    refine (toWorld_L x ht (HR.up hV2)).mono ?_
    rintro e w3 ⟨q0, q1, q3, q4, q5, q7, q8, rfl, hb3, hs3, hq3⟩
    have hV3 := Up.step hb3 hV2
    clear a0_2 a1_2 a2_2 a3_2 a4_2 a5_2 a6_2 a7_2 a8_2 a9_2
    have o0 := sl_one hq3.r0
    have o1 := sl_one hq3.r1
    have o3 := sl_one hq3.r3
    have o4 := sl_one hq3.r4
    have o5 := sl_one hq3.r5
    have o7 := sl_one hq3.r7
    have o8 := sl_one hq3.r8
    obtain ⟨X0, c0, e0⟩ := repc_form hq3.r0
    obtain ⟨X1, c1, e1⟩ := repc_form hq3.r1
    obtain ⟨X3, c3, e3⟩ := repc_form hq3.r3
    obtain ⟨X4, c4, e4⟩ := repc_form hq3.r4
    obtain ⟨X5, c5, e5⟩ := repc_form hq3.r5
    obtain ⟨X7, c7, e7⟩ := repc_form hq3.r7
    obtain ⟨X8, c8, e8⟩ := repc_form hq3.r8
    rw [List.length_map] at e0 e1 e3 e4 e5 e7 e8
    subst e0 e1 e3 e4 e5 e7 e8
    clear o0 o1 o3 o4 o5 o7 o8
    go_wp2_with fail
    generalize hwx : World.alloc w3 _ = wx
    have hbx : Up w3 wx := by rw [← hwx]; (repeat (first | exact Up.rfl' _ | (refine Up.al _ ?_) | (refine Up.dr _ ?_) | (refine Up.dr1 ?_) | (refine Up.sc ?_ (by first | exact Nat.le_refl _ | (simp; done) | omega) _) | (refine Up.step (by assumption) ?_)))
    have hxs : wx.heap.size = w3.heap.size + 1 := by rw [← hwx]; simp
    have B0 : wx.cell? ⟨w3.heap.size, 0, none⟩ = some (.slice X0 x.network.legs.length c0) := by rw [← hwx, cell_of_row _ _ _ _ _ _ (heap_alloc_new w3 _)]; rfl
    have B1 : wx.cell? ⟨w3.heap.size, 1, none⟩ = some (.slice X1 x.network.off.length c1) := by rw [← hwx, cell_of_row _ _ _ _ _ _ (heap_alloc_new w3 _)]; rfl
    have B2 : wx.cell? ⟨w3.heap.size, 2, none⟩ = some (.int .i64 x.network.change) := by rw [← hwx, cell_of_row _ _ _ _ _ _ (heap_alloc_new w3 _)]; rfl
    have B3 : wx.cell? ⟨w3.heap.size, 3, none⟩ = some (.slice X3 x.orders.length c3) := by rw [← hwx, cell_of_row _ _ _ _ _ _ (heap_alloc_new w3 _)]; rfl
    have B4 : wx.cell? ⟨w3.heap.size, 4, none⟩ = some (.slice X4 x.bookings.length c4) := by rw [← hwx, cell_of_row _ _ _ _ _ _ (heap_alloc_new w3 _)]; rfl
    have B5 : wx.cell? ⟨w3.heap.size, 5, none⟩ = some (.slice X5 x.closed.length c5) := by rw [← hwx, cell_of_row _ _ _ _ _ _ (heap_alloc_new w3 _)]; rfl
    have B6 : wx.cell? ⟨w3.heap.size, 6, none⟩ = some (.int .i64 x.now) := by rw [← hwx, cell_of_row _ _ _ _ _ _ (heap_alloc_new w3 _)]; rfl
    have B7 : wx.cell? ⟨w3.heap.size, 7, none⟩ = some (.slice X7 x.scans.length c7) := by rw [← hwx, cell_of_row _ _ _ _ _ _ (heap_alloc_new w3 _)]; rfl
    have B8 : wx.cell? ⟨w3.heap.size, 8, none⟩ = some (.slice X8 x.skip.length c8) := by rw [← hwx, cell_of_row _ _ _ _ _ _ (heap_alloc_new w3 _)]; rfl
    have B9 : wx.cell? ⟨w3.heap.size, 9, none⟩ = some (.int .i64 x.made) := by rw [← hwx, cell_of_row _ _ _ _ _ _ (heap_alloc_new w3 _)]; rfl
    clear hwx
    have hVx := Up.step hbx hV3
    have hqx := hq3.up hbx
    have hnx : w3.heap.size < wx.heap.size := by omega
    have t0_x : wx.cell? ⟨w.heap.size + 1, 0, none⟩ = some (.int .i64 t.leg) := cellUp hVx C0
    have t1_x : wx.cell? ⟨w.heap.size + 1, 1, none⟩ = some (.int .i64 t.day) := cellUp hVx C1
    have keepx : ∀ w', Up wx w' → (w'.cell? ⟨w3.heap.size, 0, none⟩ = some (.slice X0 x.network.legs.length c0) ∧ w'.cell? ⟨w3.heap.size, 1, none⟩ = some (.slice X1 x.network.off.length c1) ∧ w'.cell? ⟨w3.heap.size, 2, none⟩ = some (.int .i64 x.network.change) ∧ w'.cell? ⟨w3.heap.size, 3, none⟩ = some (.slice X3 x.orders.length c3) ∧ w'.cell? ⟨w3.heap.size, 4, none⟩ = some (.slice X4 x.bookings.length c4) ∧ w'.cell? ⟨w3.heap.size, 5, none⟩ = some (.slice X5 x.closed.length c5) ∧ w'.cell? ⟨w3.heap.size, 6, none⟩ = some (.int .i64 x.now) ∧ w'.cell? ⟨w3.heap.size, 7, none⟩ = some (.slice X7 x.scans.length c7) ∧ w'.cell? ⟨w3.heap.size, 8, none⟩ = some (.slice X8 x.skip.length c8) ∧ w'.cell? ⟨w3.heap.size, 9, none⟩ = some (.int .i64 x.made) ∧ w'.cell? ⟨w.heap.size + 1, 0, none⟩ = some (.int .i64 t.leg) ∧ w'.cell? ⟨w.heap.size + 1, 1, none⟩ = some (.int .i64 t.day)) := fun w' hu => ⟨cellUp hu B0, cellUp hu B1, cellUp hu B2, cellUp hu B3, cellUp hu B4, cellUp hu B5, cellUp hu B6, cellUp hu B7, cellUp hu B8, cellUp hu B9, cellUp hu t0_x, cellUp hu t1_x⟩
    go_region_held3 (fun w' => w'.cell? ⟨w3.heap.size, 0, none⟩ = some (.slice X0 x.network.legs.length c0) ∧ w'.cell? ⟨w3.heap.size, 1, none⟩ = some (.slice X1 x.network.off.length c1) ∧ w'.cell? ⟨w3.heap.size, 2, none⟩ = some (.int .i64 x.network.change) ∧ w'.cell? ⟨w3.heap.size, 3, none⟩ = some (.slice X3 x.orders.length c3) ∧ w'.cell? ⟨w3.heap.size, 4, none⟩ = some (.slice X4 x.bookings.length c4) ∧ w'.cell? ⟨w3.heap.size, 5, none⟩ = some (.slice X5 x.closed.length c5) ∧ w'.cell? ⟨w3.heap.size, 6, none⟩ = some (.int .i64 x.now) ∧ w'.cell? ⟨w3.heap.size, 7, none⟩ = some (.slice X7 x.scans.length c7) ∧ w'.cell? ⟨w3.heap.size, 8, none⟩ = some (.slice X8 x.skip.length c8) ∧ w'.cell? ⟨w3.heap.size, 9, none⟩ = some (.int .i64 x.made) ∧ w'.cell? ⟨w.heap.size + 1, 0, none⟩ = some (.int .i64 t.leg) ∧ w'.cell? ⟨w.heap.size + 1, 1, none⟩ = some (.int .i64 t.day))
      (first | exact keepx _ (by (repeat (first | exact Up.rfl' _ | (refine Up.al _ ?_) | (refine Up.dr _ ?_) | (refine Up.dr1 ?_) | (refine Up.sc ?_ (by first | exact Nat.le_refl _ | (simp; done) | omega) _) | (refine Up.step (by assumption) ?_)))) | go_keep)
      (first
        | (go_at_call 28; refine (toTrip_w t _).mono ?_; rintro e wt4 ⟨rfl, hbt4⟩)
        | (go_at_call 29; refine (CallM.ints (ok_impl_RidingOn x t hi) rfl (arg2 (hqx.up (by (repeat (first | exact Up.rfl' _ | (refine Up.al _ ?_) | (refine Up.dr _ ?_) | (refine Up.dr1 ?_) | (refine Up.sc ?_ (by first | exact Nat.le_refl _ | (simp; done) | omega) _) | (refine Up.step (by assumption) ?_))))).rep trip_rep)).mono ?_; rintro e w4 ⟨v4, rfl, ho4_, hb4_⟩))
    have hb4 : Up wx w4 := by (repeat (first | exact Up.rfl' _ | (refine Up.al _ ?_) | (refine Up.dr _ ?_) | (refine Up.dr1 ?_) | (refine Up.sc ?_ (by first | exact Nat.le_refl _ | (simp; done) | omega) _) | (refine Up.step (by assumption) ?_)))
    have hwt : wx.heap.size ≤ wt4.heap.size := hbt4.size
    have ho4 := ho4_.more (B' := wx.heap.size) hwt
    clear keepx t0_x t1_x ho4_ hb4_
    have hV4 := Up.step hb4 hVx
    obtain ⟨Z4, c4_, rfl, hc4, hm4⟩ := ho4.form
    obtain ⟨Z2, c2_, rfl, hc2, hm2⟩ := ho2.form
    go_wp2_with fail
    refine (eqInts_w hrl ho4 (ho2.up (Up.step hb4 (Up.step hbx hb3)))).mono ?_
    rintro e w5 ⟨rfl, hb5⟩
    have hV5 := Up.step hb5 hV4
    have t0_5 : w5.cell? ⟨w.heap.size + 1, 0, none⟩ = some (.int .i64 t.leg) := cellUp hV5 C0
    have t1_5 : w5.cell? ⟨w.heap.size + 1, 1, none⟩ = some (.int .i64 t.day) := cellUp hV5 C1
    have a0_5 : w5.cell? ⟨w.heap.size, 0, none⟩ = some (u0) := (hV5.cell (p := ⟨w.heap.size, 0, none⟩) hnl).trans A0
    have a1_5 : w5.cell? ⟨w.heap.size, 1, none⟩ = some (u1) := (hV5.cell (p := ⟨w.heap.size, 1, none⟩) hnl).trans A1
    have a2_5 : w5.cell? ⟨w.heap.size, 2, none⟩ = some (.int .i64 x.network.change) := (hV5.cell (p := ⟨w.heap.size, 2, none⟩) hnl).trans A2
    have a3_5 : w5.cell? ⟨w.heap.size, 3, none⟩ = some (u3) := (hV5.cell (p := ⟨w.heap.size, 3, none⟩) hnl).trans A3
    have a4_5 : w5.cell? ⟨w.heap.size, 4, none⟩ = some (u4) := (hV5.cell (p := ⟨w.heap.size, 4, none⟩) hnl).trans A4
    have a5_5 : w5.cell? ⟨w.heap.size, 5, none⟩ = some (u5) := (hV5.cell (p := ⟨w.heap.size, 5, none⟩) hnl).trans A5
    have a6_5 : w5.cell? ⟨w.heap.size, 6, none⟩ = some (.int .i64 x.now) := (hV5.cell (p := ⟨w.heap.size, 6, none⟩) hnl).trans A6
    have a7_5 : w5.cell? ⟨w.heap.size, 7, none⟩ = some (u7) := (hV5.cell (p := ⟨w.heap.size, 7, none⟩) hnl).trans A7
    have a8_5 : w5.cell? ⟨w.heap.size, 8, none⟩ = some (u8) := (hV5.cell (p := ⟨w.heap.size, 8, none⟩) hnl).trans A8
    have a9_5 : w5.cell? ⟨w.heap.size, 9, none⟩ = some (.int .i64 x.made) := (hV5.cell (p := ⟨w.heap.size, 9, none⟩) hnl).trans A9
    have b0_5 : w5.cell? ⟨w3.heap.size, 0, none⟩ = some (.slice X0 x.network.legs.length c0) := ((Up.step hb5 hb4).cell (p := ⟨w3.heap.size, 0, none⟩) hnx).trans B0
    have b1_5 : w5.cell? ⟨w3.heap.size, 1, none⟩ = some (.slice X1 x.network.off.length c1) := ((Up.step hb5 hb4).cell (p := ⟨w3.heap.size, 1, none⟩) hnx).trans B1
    have b2_5 : w5.cell? ⟨w3.heap.size, 2, none⟩ = some (.int .i64 x.network.change) := ((Up.step hb5 hb4).cell (p := ⟨w3.heap.size, 2, none⟩) hnx).trans B2
    have b3_5 : w5.cell? ⟨w3.heap.size, 3, none⟩ = some (.slice X3 x.orders.length c3) := ((Up.step hb5 hb4).cell (p := ⟨w3.heap.size, 3, none⟩) hnx).trans B3
    have b4_5 : w5.cell? ⟨w3.heap.size, 4, none⟩ = some (.slice X4 x.bookings.length c4) := ((Up.step hb5 hb4).cell (p := ⟨w3.heap.size, 4, none⟩) hnx).trans B4
    have b5_5 : w5.cell? ⟨w3.heap.size, 5, none⟩ = some (.slice X5 x.closed.length c5) := ((Up.step hb5 hb4).cell (p := ⟨w3.heap.size, 5, none⟩) hnx).trans B5
    have b6_5 : w5.cell? ⟨w3.heap.size, 6, none⟩ = some (.int .i64 x.now) := ((Up.step hb5 hb4).cell (p := ⟨w3.heap.size, 6, none⟩) hnx).trans B6
    have b7_5 : w5.cell? ⟨w3.heap.size, 7, none⟩ = some (.slice X7 x.scans.length c7) := ((Up.step hb5 hb4).cell (p := ⟨w3.heap.size, 7, none⟩) hnx).trans B7
    have b8_5 : w5.cell? ⟨w3.heap.size, 8, none⟩ = some (.slice X8 x.skip.length c8) := ((Up.step hb5 hb4).cell (p := ⟨w3.heap.size, 8, none⟩) hnx).trans B8
    have b9_5 : w5.cell? ⟨w3.heap.size, 9, none⟩ = some (.int .i64 x.made) := ((Up.step hb5 hb4).cell (p := ⟨w3.heap.size, 9, none⟩) hnx).trans B9
    have hq5 := hqx.up (Up.step hb5 hb4)
    clear B0 B1 B2 B3 B4 B5 B6 B7 B8 B9
    go_wp2_with fail
    have keep_ : ∀ w', Up w5 w' → (w'.cell? ⟨w3.heap.size, 0, none⟩ = some (.slice X0 x.network.legs.length c0) ∧ w'.cell? ⟨w3.heap.size, 1, none⟩ = some (.slice X1 x.network.off.length c1) ∧ w'.cell? ⟨w3.heap.size, 2, none⟩ = some (.int .i64 x.network.change) ∧ w'.cell? ⟨w3.heap.size, 3, none⟩ = some (.slice X3 x.orders.length c3) ∧ w'.cell? ⟨w3.heap.size, 4, none⟩ = some (.slice X4 x.bookings.length c4) ∧ w'.cell? ⟨w3.heap.size, 5, none⟩ = some (.slice X5 x.closed.length c5) ∧ w'.cell? ⟨w3.heap.size, 6, none⟩ = some (.int .i64 x.now) ∧ w'.cell? ⟨w3.heap.size, 7, none⟩ = some (.slice X7 x.scans.length c7) ∧ w'.cell? ⟨w3.heap.size, 8, none⟩ = some (.slice X8 x.skip.length c8) ∧ w'.cell? ⟨w3.heap.size, 9, none⟩ = some (.int .i64 x.made) ∧ w'.cell? ⟨w.heap.size, 0, none⟩ = some (u0) ∧ w'.cell? ⟨w.heap.size, 1, none⟩ = some (u1) ∧ w'.cell? ⟨w.heap.size, 2, none⟩ = some (.int .i64 x.network.change) ∧ w'.cell? ⟨w.heap.size, 3, none⟩ = some (u3) ∧ w'.cell? ⟨w.heap.size, 4, none⟩ = some (u4) ∧ w'.cell? ⟨w.heap.size, 5, none⟩ = some (u5) ∧ w'.cell? ⟨w.heap.size, 6, none⟩ = some (.int .i64 x.now) ∧ w'.cell? ⟨w.heap.size, 7, none⟩ = some (u7) ∧ w'.cell? ⟨w.heap.size, 8, none⟩ = some (u8) ∧ w'.cell? ⟨w.heap.size, 9, none⟩ = some (.int .i64 x.made)) := fun w' hu => ⟨cellUp hu b0_5, cellUp hu b1_5, cellUp hu b2_5, cellUp hu b3_5, cellUp hu b4_5, cellUp hu b5_5, cellUp hu b6_5, cellUp hu b7_5, cellUp hu b8_5, cellUp hu b9_5, cellUp hu a0_5, cellUp hu a1_5, cellUp hu a2_5, cellUp hu a3_5, cellUp hu a4_5, cellUp hu a5_5, cellUp hu a6_5, cellUp hu a7_5, cellUp hu a8_5, cellUp hu a9_5⟩
    go_region_held3 (fun w' => w'.cell? ⟨w3.heap.size, 0, none⟩ = some (.slice X0 x.network.legs.length c0) ∧ w'.cell? ⟨w3.heap.size, 1, none⟩ = some (.slice X1 x.network.off.length c1) ∧ w'.cell? ⟨w3.heap.size, 2, none⟩ = some (.int .i64 x.network.change) ∧ w'.cell? ⟨w3.heap.size, 3, none⟩ = some (.slice X3 x.orders.length c3) ∧ w'.cell? ⟨w3.heap.size, 4, none⟩ = some (.slice X4 x.bookings.length c4) ∧ w'.cell? ⟨w3.heap.size, 5, none⟩ = some (.slice X5 x.closed.length c5) ∧ w'.cell? ⟨w3.heap.size, 6, none⟩ = some (.int .i64 x.now) ∧ w'.cell? ⟨w3.heap.size, 7, none⟩ = some (.slice X7 x.scans.length c7) ∧ w'.cell? ⟨w3.heap.size, 8, none⟩ = some (.slice X8 x.skip.length c8) ∧ w'.cell? ⟨w3.heap.size, 9, none⟩ = some (.int .i64 x.made) ∧ w'.cell? ⟨w.heap.size, 0, none⟩ = some (u0) ∧ w'.cell? ⟨w.heap.size, 1, none⟩ = some (u1) ∧ w'.cell? ⟨w.heap.size, 2, none⟩ = some (.int .i64 x.network.change) ∧ w'.cell? ⟨w.heap.size, 3, none⟩ = some (u3) ∧ w'.cell? ⟨w.heap.size, 4, none⟩ = some (u4) ∧ w'.cell? ⟨w.heap.size, 5, none⟩ = some (u5) ∧ w'.cell? ⟨w.heap.size, 6, none⟩ = some (.int .i64 x.now) ∧ w'.cell? ⟨w.heap.size, 7, none⟩ = some (u7) ∧ w'.cell? ⟨w.heap.size, 8, none⟩ = some (u8) ∧ w'.cell? ⟨w.heap.size, 9, none⟩ = some (.int .i64 x.made))
      (first | exact keep_ _ (by (repeat (first | exact Up.rfl' _ | (refine Up.al _ ?_) | (refine Up.dr _ ?_) | (refine Up.dr1 ?_) | (refine Up.sc ?_ (by first | exact Nat.le_refl _ | (simp; done) | omega) _) | (refine Up.step (by assumption) ?_)))) | go_keep)
      (first
        | (go_at_call 12; refine (toWorld_L x ht (HR.up (Up.step (by (repeat (first | exact Up.rfl' _ | (refine Up.al _ ?_) | (refine Up.dr _ ?_) | (refine Up.dr1 ?_) | (refine Up.sc ?_ (by first | exact Nat.le_refl _ | (simp; done) | omega) _) | (refine Up.step (by assumption) ?_)))) hV5))).mono ?_; rintro e w6 ⟨r0, r1, r3, r4, r5, r7, r8, rfl, hb6, _, hr6⟩)
        | (go_at_call 14; refine (eqWorld_w ht (hq5.up (by (repeat (first | exact Up.rfl' _ | (refine Up.al _ ?_) | (refine Up.dr _ ?_) | (refine Up.dr1 ?_) | (refine Up.sc ?_ (by first | exact Nat.le_refl _ | (simp; done) | omega) _) | (refine Up.step (by assumption) ?_))))) (hr6.up (by (repeat (first | exact Up.rfl' _ | (refine Up.al _ ?_) | (refine Up.dr _ ?_) | (refine Up.dr1 ?_) | (refine Up.sc ?_ (by first | exact Nat.le_refl _ | (simp; done) | omega) _) | (refine Up.step (by assumption) ?_)))))).mono ?_; rintro e w7 ⟨rfl, hb7⟩))
    have h57 : Up w5 w7 := by (repeat (first | exact Up.rfl' _ | (refine Up.al _ ?_) | (refine Up.dr _ ?_) | (refine Up.dr1 ?_) | (refine Up.sc ?_ (by first | exact Nat.le_refl _ | (simp; done) | omega) _) | (refine Up.step (by assumption) ?_)))
    have hV7 := Up.step h57 hV5
    have b0_7 := cellUp h57 b0_5
    have b1_7 := cellUp h57 b1_5
    have b2_7 := cellUp h57 b2_5
    have b3_7 := cellUp h57 b3_5
    have b4_7 := cellUp h57 b4_5
    have b5_7 := cellUp h57 b5_5
    have b6_7 := cellUp h57 b6_5
    have b7_7 := cellUp h57 b7_5
    have b8_7 := cellUp h57 b8_5
    have b9_7 := cellUp h57 b9_5
    have ho4_7 := ho4.up (Up.step h57 hb5)
    have ho2_7 := ho2.up (Up.step h57 (Up.step hb5 (Up.step hb4 (Up.step hbx hb3))))
    have hs7 := hs3.toD.up (Up.step h57 (Up.step hb5 (Up.step hb4 hbx)))
    clear keep_ b0_5 a0_5 b1_5 a1_5 b2_5 a2_5 b3_5 a3_5 b4_5 a4_5 b5_5 a5_5 b6_5 a6_5 b7_5 a7_5 b8_5 a8_5 b9_5 a9_5
    go_wp2_with fail
    refine (markWorld_mk _ _ _ _ _ _ _ _ _ _ _ hs7).mono ?_
    rintro e w8 ⟨kk, rfl, hk1, hk2, hm8⟩
    have z2 := hb3.size; have z0 := hV2.size
    have hV8 := hV7.mk' hm8 (fun g hg => by omega)
    have ho4_8 := ho4_7.mk' hm8 (fun g hg hd => by have h_ := World.ownsRow.lt ho4 g hg; omega)
    have ho2_8 := ho2_7.mk' hm8 (fun g hg hd => by have h_ := World.ownsRow.lt ho2 g hg; omega)
    have hkk : ¬ kk < 0 := by omega
    clear b0_7 b1_7 b2_7 b3_7 b4_7 b5_7 b6_7 b7_7 b8_7 b9_7
    go_wp2_with fail
    refine (eqInts_w hrl ho4_8 ho2_8).mono ?_
    rintro e w9 ⟨rfl, hb9⟩
    have ho4_9 := ho4_8.up hb9
    go_wp2_with fail
    refine (markIntS_any _ _ _ _ 1 r _ ho4_9 rfl (by omega) (by omega) (by omega)).mono ?_
    rintro e w10 ⟨rfl, ho10, hg10⟩
    have hV10 := (Up.step hb9 hV8).row' hg10 (fun q hq => by have h_ := World.ownsRow.lt ho4 q hq; omega)
    have ho2_10 := (ho2_8.up hb9).grown hg10 (by
      cases hq : (Value.slice Z2 r.length c2_).ownBlock with
      | none => exact .inl rfl
      | some q => exact .inr (fun he => by have h_ := World.ownsRow.lt ho2 q hq; have h2_ := World.ownsRow.lt ho4 q he.symm; omega))
    go_wp2_with fail
    refine (heldIntS_any _ _ _ 1 _ _ ho10.rd rfl (by omega) (by omega) (by omega)).mono ?_
    rintro e w11 ⟨rfl, hb11⟩
    have hV11 := Up.step hb11 hV10
    have t0_11 : w11.cell? ⟨w.heap.size + 1, 0, none⟩ = some (.int .i64 t.leg) := cellUp hV11 C0
    have t1_11 : w11.cell? ⟨w.heap.size + 1, 1, none⟩ = some (.int .i64 t.day) := cellUp hV11 C1
    have a0_11 : w11.cell? ⟨w.heap.size, 0, none⟩ = some (u0) := (hV11.cell (p := ⟨w.heap.size, 0, none⟩) hnl).trans A0
    have a1_11 : w11.cell? ⟨w.heap.size, 1, none⟩ = some (u1) := (hV11.cell (p := ⟨w.heap.size, 1, none⟩) hnl).trans A1
    have a2_11 : w11.cell? ⟨w.heap.size, 2, none⟩ = some (.int .i64 x.network.change) := (hV11.cell (p := ⟨w.heap.size, 2, none⟩) hnl).trans A2
    have a3_11 : w11.cell? ⟨w.heap.size, 3, none⟩ = some (u3) := (hV11.cell (p := ⟨w.heap.size, 3, none⟩) hnl).trans A3
    have a4_11 : w11.cell? ⟨w.heap.size, 4, none⟩ = some (u4) := (hV11.cell (p := ⟨w.heap.size, 4, none⟩) hnl).trans A4
    have a5_11 : w11.cell? ⟨w.heap.size, 5, none⟩ = some (u5) := (hV11.cell (p := ⟨w.heap.size, 5, none⟩) hnl).trans A5
    have a6_11 : w11.cell? ⟨w.heap.size, 6, none⟩ = some (.int .i64 x.now) := (hV11.cell (p := ⟨w.heap.size, 6, none⟩) hnl).trans A6
    have a7_11 : w11.cell? ⟨w.heap.size, 7, none⟩ = some (u7) := (hV11.cell (p := ⟨w.heap.size, 7, none⟩) hnl).trans A7
    have a8_11 : w11.cell? ⟨w.heap.size, 8, none⟩ = some (u8) := (hV11.cell (p := ⟨w.heap.size, 8, none⟩) hnl).trans A8
    have a9_11 : w11.cell? ⟨w.heap.size, 9, none⟩ = some (.int .i64 x.made) := (hV11.cell (p := ⟨w.heap.size, 9, none⟩) hnl).trans A9
    have keep1 : ∀ w', Up w11 w' → (w'.cell? ⟨w.heap.size, 0, none⟩ = some (u0) ∧ w'.cell? ⟨w.heap.size, 1, none⟩ = some (u1) ∧ w'.cell? ⟨w.heap.size, 2, none⟩ = some (.int .i64 x.network.change) ∧ w'.cell? ⟨w.heap.size, 3, none⟩ = some (u3) ∧ w'.cell? ⟨w.heap.size, 4, none⟩ = some (u4) ∧ w'.cell? ⟨w.heap.size, 5, none⟩ = some (u5) ∧ w'.cell? ⟨w.heap.size, 6, none⟩ = some (.int .i64 x.now) ∧ w'.cell? ⟨w.heap.size, 7, none⟩ = some (u7) ∧ w'.cell? ⟨w.heap.size, 8, none⟩ = some (u8) ∧ w'.cell? ⟨w.heap.size, 9, none⟩ = some (.int .i64 x.made) ∧ w'.cell? ⟨w.heap.size + 1, 0, none⟩ = some (.int .i64 t.leg) ∧ w'.cell? ⟨w.heap.size + 1, 1, none⟩ = some (.int .i64 t.day)) := fun w' hu => ⟨cellUp hu a0_11, cellUp hu a1_11, cellUp hu a2_11, cellUp hu a3_11, cellUp hu a4_11, cellUp hu a5_11, cellUp hu a6_11, cellUp hu a7_11, cellUp hu a8_11, cellUp hu a9_11, cellUp hu t0_11, cellUp hu t1_11⟩
    go_wp2_with fail
    go_region_held3 (fun w' => w'.cell? ⟨w.heap.size, 0, none⟩ = some (u0) ∧ w'.cell? ⟨w.heap.size, 1, none⟩ = some (u1) ∧ w'.cell? ⟨w.heap.size, 2, none⟩ = some (.int .i64 x.network.change) ∧ w'.cell? ⟨w.heap.size, 3, none⟩ = some (u3) ∧ w'.cell? ⟨w.heap.size, 4, none⟩ = some (u4) ∧ w'.cell? ⟨w.heap.size, 5, none⟩ = some (u5) ∧ w'.cell? ⟨w.heap.size, 6, none⟩ = some (.int .i64 x.now) ∧ w'.cell? ⟨w.heap.size, 7, none⟩ = some (u7) ∧ w'.cell? ⟨w.heap.size, 8, none⟩ = some (u8) ∧ w'.cell? ⟨w.heap.size, 9, none⟩ = some (.int .i64 x.made) ∧ w'.cell? ⟨w.heap.size + 1, 0, none⟩ = some (.int .i64 t.leg) ∧ w'.cell? ⟨w.heap.size + 1, 1, none⟩ = some (.int .i64 t.day))
      (first | exact keep1 _ (by (repeat (first | exact Up.rfl' _ | (refine Up.al _ ?_) | (refine Up.dr _ ?_) | (refine Up.dr1 ?_) | (refine Up.sc ?_ (by first | exact Nat.le_refl _ | (simp; done) | omega) _) | (refine Up.step (by assumption) ?_)))) | go_keep)
      (first
        | (go_at_call 12; refine (toWorld_L x ht (HR.up (Up.step (by (repeat (first | exact Up.rfl' _ | (refine Up.al _ ?_) | (refine Up.dr _ ?_) | (refine Up.dr1 ?_) | (refine Up.sc ?_ (by first | exact Nat.le_refl _ | (simp; done) | omega) _) | (refine Up.step (by assumption) ?_)))) hV11))).mono ?_; rintro e w12 ⟨s0, s1, s3, s4, s5, s7, s8, rfl, hb12, _, hp12⟩)
        | (go_at_call 28; refine (toTrip_w t _).mono ?_; rintro e wt12 ⟨rfl, hbt12⟩)
        | (go_at_call 29; refine (CallM.ints (ok_impl_RidingOn x t hi) rfl (arg2 (hp12.up (by (repeat (first | exact Up.rfl' _ | (refine Up.al _ ?_) | (refine Up.dr _ ?_) | (refine Up.dr1 ?_) | (refine Up.sc ?_ (by first | exact Nat.le_refl _ | (simp; done) | omega) _) | (refine Up.step (by assumption) ?_))))).rep trip_rep)).mono ?_; rintro e w13 ⟨v13, rfl, ho13, hb13⟩))
    all_goals
      have h1113 : Up w11 w13 := by (repeat (first | exact Up.rfl' _ | (refine Up.al _ ?_) | (refine Up.dr _ ?_) | (refine Up.dr1 ?_) | (refine Up.sc ?_ (by first | exact Nat.le_refl _ | (simp; done) | omega) _) | (refine Up.step (by assumption) ?_)))
      have hb1013 := Up.step h1113 hb11
      go_wp2_with fail
      refine (eqInts_w hrl ho13 (ho2_10.up hb1013)).mono ?_
      rintro e w14 ⟨rfl, hb14⟩
      go_wp2_with fail
      refine (heldIntS_any _ _ _ 1 _ _ (ho10.up (Up.step hb14 hb1013)).rd rfl (by omega) (by omega) (by omega)).mono ?_
      rintro e w15 ⟨rfl, hb15⟩
      go_wp2_with fail
      go_ret
      exact ⟨rfl, Up.step (Up.step hb15 (Up.step hb14 (Up.step hb1013 hV10))) hub⟩
end Go.Proofs.YtooikkfldddjfaaGreat

/- The statement FnExactRidingOnSaid: for every input that can be read the law FnExactRidingOn returns true and leaves its arguments as_ they were. No further condition. -/
namespace Go.Proofs.YtooikkfldddjfaaGreat
open Go.ChangeShapes Go.WideShapes Go.ChangeAt Go.RowKit Go.Deep
set_option linter.unusedVariables false
namespace fnExactRidingOn
theorem own : ownKnob Tryz.prog.godebug = none := by kernel_rfl
theorem laidOut : laidOutB Tryz.prog = true := by kernel_rfl
set_option maxRecDepth 100000 in
theorem lifted (os : Os) (started : os.Started) (H : Type) (enc : TypeId × Value → H) :
    ReturnsInHanded {} Tryz.checked os 8 .any (Rows.fnExactRidingOnSpec.pre6 enc Tryz.prog Tryz.f8 Rows.fnExactRidingOnRow.domain false) (Rows.fnExactRidingOnSpec.post enc Tryz.prog Tryz.f8 false true false false) := by
  refine returnsInHanded_of_change (C := Tryz.checked) own started (by kernel_rfl) Tryz.func8
    (ChangeSpec.witness6 (enc := enc) (C := Tryz.checked) false ⟨#[], #[.agg #[.slice none 0 0, .slice none 0 0, .int .i64 0, .slice none 0 0, .slice none 0 0, .slice none 0 0, .int .i64 0, .slice none 0 0, .slice none 0 0, .int .i64 0], .agg #[.int .i64 0, .int .i64 0]], []⟩ 8 (by kernel_rfl) (by kernel_rfl) (by kernel_rfl) (by kernel_rfl)) ?_
  intro W base args ds gs before hval0 hW hcnd _
  have hval : ∀ (j : Nat) t v, Tryz.f8.params[j]? = some t → args[j]? = some v → Value.okWide Tryz.prog W .any base t v := hval0
  have hW' := hW
  obtain ⟨p, q, hA0, hV, rfl, hfz, hnd⟩ := hW
  have hA : DataW.TrodAll enc Tryz.prog W 0 (fun _ => true) true Tryz.f8.params.toList args.toList ds p := hA0
  rw [Tryz.params8] at hA hval
  obtain ⟨v0, vs0, d0, ds0, p0, q0, hargs, rfl, rfl, h0, r0⟩ := trodAll_cons hA
  obtain ⟨v1, vs1, d1, ds1, p1, q1, rfl, rfl, rfl, h1, r1⟩ := trodAll_cons r0
  obtain ⟨rfl, rfl, rfl⟩ := trodAll_nil r1
  obtain rfl : args = #[v0, v1] := by cases args; simp_all
  obtain ⟨rfl, rfl⟩ := trodVars_none hV
  have k0 := h0
  have lt0 : ∀ x ∈ p0, x.block < W.heap.size := by obtain ⟨m, hm⟩ := k0; exact DataW.trod_lt m _ _ _ hm
  obtain ⟨cs0, rfl, hsz0⟩ := okWide_struct Tryz.underlying31 (hval 0 31 v0 rfl rfl)
  obtain ⟨x0, hx0, ok0⟩ : ∃ a : YWorld, Reads W (cWorld a) cs0.toList ∧ okWorld a := by obtain ⟨fuel, hf⟩ := h0; exact dec_World hf
  have k1 := h1
  have lt1 : ∀ x ∈ p1, x.block < W.heap.size := by obtain ⟨m, hm⟩ := k1; exact DataW.trod_lt m _ _ _ hm
  obtain ⟨cs1, rfl, hsz1⟩ := okWide_struct Tryz.underlying55 (hval 1 55 v1 rfl rfl)
  obtain ⟨x1, hx1, ok1⟩ : ∃ a : YTrip, Reads W (cTrip a) cs1.toList ∧ okTrip a := by obtain ⟨fuel, hf⟩ := h1; exact dec_Trip hf
  clear hA0 hval0
  obtain ⟨u0_0, u0_1, u0_3, u0_4, u0_5, u0_7, u0_8, ec0, hR0⟩ := worldR_of hx0
  subst ec0
  have ec1 := tripR_of hx1
  subst ec1
  refine (FnExactRidingOn_walk x0 x1 ok0 W hR0).mono fun e W' ⟨he, bel⟩ => ?_
  subst he
  exact ⟨_, rfl, _, _, _, [], _, [], hW', trodAll_mk1 (shut_bool Tryz.underlying4 _), (trodAll_cons_mk (Below.trod laidOut (by kernel_rfl) (of_decide_eq_true (by kernel_rfl)) k0 bel lt0) (trodAll_cons_mk (Below.trod laidOut (by kernel_rfl) (of_decide_eq_true (by kernel_rfl)) k1 bel lt1) trodAll_mk0)), rfl, bel.frame _, fun h => by cases h⟩
theorem over : Rows.fnExactRidingOnRow.holds Tryz.pinned (OpenSpec.ofChange Rows.fnExactRidingOnSpec) :=
  OpenClaim.holds_of_wide 8 Tryz.f8 rfl rfl rfl rfl rfl rfl rfl ⟨rfl, rfl, rfl, rfl, rfl⟩ rfl rfl rfl rfl rfl (by kernel_rfl) Tryz.func8 (by kernel_rfl)
    (of_decide_eq_true (by kernel_rfl)) (by unfold Func.isWrapper; first | (rw [if_pos (by decide +kernel)]; kernel_rfl) | (rw [if_neg (by decide +kernel)]; exact ⟨rfl, rfl⟩))
    (fun os started H enc _ => lifted os started H enc)
theorem proved : Rows.FnExactRidingOnSaid := over
#print axioms proved
end fnExactRidingOn
end Go.Proofs.YtooikkfldddjfaaGreat
