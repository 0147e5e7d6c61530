/- A part of the proof of the statement in the last file of this claim: texts on the language of the program and on its functions. No condition. -/
import Derived.Test.YtmcdjilbkmhfoaaGreatCFnKept6
import Derived.Test.YtmcdjilbkmhfoaaGreatCFnKept4
import Derived.Test.YtmcdjilbkmhfoaaGreatCFnKept5
namespace Go.Proofs.YtmcdjilbkmhfoaaGreat
set_option maxRecDepth 10000
open Go.RowKit
set_option linter.unusedVariables false
set_option linter.unusedSimpArgs false
theorem iter_sim {σ τ ο : Type} {f : σ → Option (σ ⊕ ο)} {g : τ → Option (τ ⊕ ο)} (φ : σ → τ) (h : ∀ s, g (φ s) = (f s).bind (selim (fun s' => some (.inl (φ s'))) (fun r => some (.inr r)))) : ∀ (N : Nat) (s : σ), iterF g N (φ s) = iterF f N s
  | 0, s => rfl
  | N + 1, s => by
    simp only [iterF, h]
    cases f s with
    | none => rfl
    | some o =>
      cases o with
      | inl s' => exact iter_sim φ h N s'
      | inr r => rfl
theorem trip_leg {n : YNetwork} (h : NetFit n) {t : YTrip} (ht : m_spec_IsTrip n t = some true) : ∃ y, getI n.legs t.leg = some y := by
  unfold m_spec_IsTrip m_spec_RunsOn at ht
  obtain ⟨_, b, hb⟩ := isNetwork_eq h
  obtain ⟨_, b2, hb2⟩ := runs_eq h t.leg t.day
  rw [hb] at ht
  simp only [Option.bind_some, hb2] at ht
  cases b with
  | false => simp at ht
  | true =>
    simp at ht
    subst ht
    exact runs_leg h hb2
theorem starts_some {n : YNetwork} {t : YTrip} {y : YLeg} (h : getI n.legs t.leg = some y) : ∃ v, m_spec_l3Starts n t = some v := by
  unfold m_spec_l3Starts; rw [h]; exact ⟨_, rfl⟩
theorem isScan_eq {n : YNetwork} (h : NetFit n) (s : YScan) : m_impl_IsScan n s = m_spec_IsScan n s := by
  unfold m_impl_IsScan m_spec_IsScan
  rw [(isNetwork_eq h).1, within_eq, (places_eq h).1, (isTrip_eq h s.trip).1, starts_eq, ends_eq, placeAt_eq]
theorem isScan_some {n : YNetwork} (h : NetFit n) (s : YScan) : ∃ b, m_spec_IsScan n s = some b := by
  obtain ⟨_, b, hb⟩ := isNetwork_eq h
  have hp := (places_eq h).2
  have hpl := placesV_len n
  have hl := h.legs
  obtain ⟨_, b2, hb2⟩ := isTrip_eq h s.trip
  unfold m_spec_IsScan
  rw [hb, hp, hb2]
  simp only [Option.bind_some, l1In_v, l4Index_v (show (placesV n).length ≤ 4194304 by omega)]
  cases b with
  | false => exact ⟨_, rfl⟩
  | true =>
    cases decide (1 ≤ s.thing) && decide (s.thing ≤ 9999) <;> try exact ⟨_, rfl⟩
    cases decide (0 ≤ s.at_) && decide (s.at_ ≤ 100000) <;> try exact ⟨_, rfl⟩
    cases decide (0 ≤ idxV (placesV n) s.place)
    all_goals
      cases b2 with
      | false => cases decide (s.kind = 1) <;> cases decide (s.kind = 3) <;> cases decide (s.kind = 2) <;> cases decide (s.kind = 4) <;> cases decide (s.place = ⟨#[]⟩) <;> exact ⟨_, rfl⟩
      | true =>
        obtain ⟨y, hy⟩ := trip_leg h hb2
        obtain ⟨v1, hv1⟩ := starts_some hy
        obtain ⟨v2, hv2⟩ := ends_some hy
        rw [hv1, hv2]
        cases decide (s.kind = 1) <;> cases decide (s.kind = 3) <;> cases decide (s.kind = 2) <;> cases decide (s.kind = 4) <;> cases decide (s.place = ⟨#[]⟩) <;> exact ⟨_, rfl⟩
theorem isWay_eq {n : YNetwork} (h : NetFit n) (way : List YTrip) (a b : ByteArray) (t : Int) : m_impl_IsWay n way a b t = m_spec_IsWay n way a b t := by
  have e : iterF (m_impl_IsWay_b0 n way b) NN (t, a, 0) = iterF (m_spec_IsWay_b0 n way b) NN (a, t, 0) := by
    refine iter_sim (f := m_spec_IsWay_b0 n way b) (fun s : ByteArray × Int × Int => (s.2.1, s.1, s.2.2)) (fun s => ?_) NN (a, t, 0)
    unfold m_impl_IsWay_b0 m_spec_IsWay_b0
    simp only
    cases decide (s.2.2 < (way.length : Int)) with
    | false => rfl
    | true =>
      simp only [cond_true]
      cases hg : getI way s.2.2 with
      | none => rfl
      | some y =>
        simp only [Option.bind_some, (isTrip_eq h y).1, starts_eq, ends_eq]
        cases m_spec_IsTrip n y with
        | none => rfl
        | some c =>
          cases c with
          | false => rfl
          | true =>
            simp only [Option.bind_some, Bool.not_true, cond_false]
            cases getI n.legs y.leg with
            | none => rfl
            | some g =>
              simp only [Option.bind_some]
              cases decide (g.from_ = s.1) with
              | false => rfl
              | true =>
                simp only [Bool.not_true, cond_false]
                cases m_spec_l3Starts n y with
                | none => rfl
                | some v =>
                  simp only [Option.bind_some]
                  cases decide (v < s.2.1) with
                  | true => rfl
                  | false =>
                    simp only [cond_false]
                    cases m_spec_l3Ends n y <;> rfl
  unfold m_impl_IsWay m_spec_IsWay
  rw [(isNetwork_eq h).1, (places_eq h).1, placeAt_eq, e]
theorem isWay_some {n : YNetwork} (h : NetFit n) {way : List YTrip} (hw : way.length ≤ 1048576) (a b : ByteArray) (t : Int) : ∃ r, m_spec_IsWay n way a b t = some r := by
  obtain ⟨_, b1, hb⟩ := isNetwork_eq h
  have hp := (places_eq h).2
  have hpl := placesV_len n
  have hl := h.legs
  have e : ∃ o, iterF (m_spec_IsWay_b0 n way b) NN (a, t, 0) = some o := by
    refine iter_tot (fun k s => ∃ i : Nat, i + k = way.length ∧ s.2.2 = (i : Int)) ?_ NN way.length _ ⟨0, by omega, rfl⟩ (by unfold NN; omega)
    rintro k ⟨p, r, s⟩ ⟨i, hi, hs⟩
    simp only at hs
    subst hs
    unfold m_spec_IsWay_b0
    rcases Nat.lt_or_ge i way.length with hlt | hge
    · have hw := w64_nat hlt (by omega)
      have hg : getI way (i : Int) = some way[i] := by rw [getI_nat]; exact List.getElem?_eq_getElem hlt
      obtain ⟨_, c, hc⟩ := isTrip_eq h way[i]
      simp only [decide_eq_true (show (i : Int) < way.length by omega), cond_true, hg, Option.bind_some, hc, hw]
      cases c with
      | false => exact ⟨_, rfl, fun s' e => by cases e⟩
      | true =>
        obtain ⟨y, hy⟩ := trip_leg h hc
        obtain ⟨v1, hv1⟩ := starts_some hy
        obtain ⟨v2, hv2⟩ := ends_some hy
        simp only [hy, hv1, hv2, Option.bind_some, Bool.not_true, cond_false]
        cases decide (y.from_ = p) with
        | false => exact ⟨_, rfl, fun s' e => by cases e⟩
        | true =>
          simp only [Bool.not_true, cond_false]
          cases decide (v1 < r) with
          | true => exact ⟨_, rfl, fun s' e => by cases e⟩
          | false => exact ⟨_, rfl, fun s' e => by cases e; exact ⟨k - 1, by omega, i + 1, by omega, rfl⟩⟩
    · simp only [decide_eq_false (show ¬ (i : Int) < way.length by omega), cond_false]
      exact ⟨_, rfl, fun s' e => by cases e⟩
  obtain ⟨o, ho⟩ := e
  unfold m_spec_IsWay
  rw [hp, hb]
  simp only [Option.bind_some, l4Index_v (show (placesV n).length ≤ 4194304 by omega), ho]
  cases b1 with
  | false => exact ⟨_, rfl⟩
  | true => cases decide (idxV (placesV n) a < 0) <;> cases decide (idxV (placesV n) b < 0) <;> cases o <;> exact ⟨_, rfl⟩
end Go.Proofs.YtmcdjilbkmhfoaaGreat
namespace Go.Proofs.YtmcdjilbkmhfoaaGreat
set_option maxRecDepth 10000
open Go.RowKit
set_option linter.unusedVariables false
set_option maxHeartbeats 16000000
def m_impl_isOrder_b0 (w : YWorld) (id : Int) (y1 : YOrder) (s0 : ByteArray × Int) : Option ((ByteArray × Int) ⊕ (ByteArray ⊕ Bool)) :=
 cond (decide (s0.2 < (y1.way.length : Int)))
 ((getI y1.way s0.2).bind fun y9 =>
 (m_impl_IsTrip w.network y9).bind fun y10 =>
 cond (!y10)
 (some (.inr (.inr false)))
 ((m_impl_hasBooking w id y9).bind fun y11 =>
 cond (!y11)
 (some (.inr (.inr false)))
 ((m_impl_toCome y1).bind fun y12 =>
 cond (decide (y12 ≤ s0.2))
 ((m_impl_hasTrip w.closed y9).bind fun y13 =>
 cond y13
 (some (.inr (.inr false)))
 ((getI w.network.legs y9.leg).bind fun y14 =>
 cond (decide (y14.to_ = y1.to_))
 (cond (decide (s0.2 < (w64 ((y1.way.length : Int) - 1))))
 (some (.inr (.inr false)))
 (some (.inl (y14.to_, (w64 (s0.2 + 1))))))
 (some (.inl (y14.to_, (w64 (s0.2 + 1)))))))
 ((getI w.network.legs y9.leg).bind fun y15 =>
 cond (decide (y15.to_ = y1.to_))
 (cond (decide (s0.2 < (w64 ((y1.way.length : Int) - 1))))
 (some (.inr (.inr false)))
 (some (.inl (y15.to_, (w64 (s0.2 + 1))))))
 (some (.inl (y15.to_, (w64 (s0.2 + 1)))))))))
 (some (.inr (.inl s0.1)))
instance (w : YWorld) (id : Int) (y1 : YOrder) : LoopE (m_impl_isOrder_b0 w id y1) := ⟨fun s0 => (.un :: vi id :: .un :: .be 0 0 0 :: .un :: .un :: .un :: .be 1 0 0 :: vs s0.1 :: .un :: .un :: .un :: .un :: .un :: .un :: .un :: .un :: .un :: .un :: .un :: .un :: .un :: .un :: .un :: .un :: .un :: .un :: .un :: .un :: .un :: .un :: .un :: .un :: .un :: .un :: .un :: .un :: .un :: .un :: .un :: .un :: .un :: .un :: .un :: .un :: .un :: .un :: .un :: .un :: .un :: .un :: .un :: .un :: .un :: .un :: .un :: .un :: .un :: .un :: .un :: .un :: .un :: .un :: .un :: .un :: .un :: .un :: .un :: .un :: .un :: .un :: .un :: .un :: .un :: .sl (y1.way.map cTrip) :: vi (y1.way.length : Int) :: vi s0.2 :: .un :: .un :: .un :: .un :: .un :: .un :: .un :: .un :: .un :: .un :: .un :: .un :: .un :: .un :: .un :: .un :: .un :: .un :: .un :: .un :: .un :: .un :: .un :: .un :: .un :: .un :: .un :: .un :: .un :: .un :: .un :: .un :: .un :: .un :: .un :: .un :: .un :: .un :: .un :: .un :: .un :: .un :: .un :: .un :: .un :: .un :: .un :: .un :: .un :: .un :: .un :: .un :: .un :: .un :: .un :: .un :: .un :: .un :: .un :: .un :: .un :: .un :: .un :: .un :: .un :: []), fun s0 => [some ⟨41, 10, [[.sl (w.network.legs.map cLeg), .sl (w.network.off.map cInt), vi w.network.change, .sl (w.orders.map cOrder), .sl (w.bookings.map cBooking), .sl (w.closed.map cTrip), vi w.now, .sl (w.scans.map cScan), .sl (w.skip.map cInt), vi w.made]]⟩, some ⟨62, 11, [[vs y1.from_, vs y1.to_, vi y1.service, vi y1.weight, vi y1.at_, vi y1.due, .sl (y1.way.map cTrip), vi y1.gone, vi y1.state, vs y1.place, vi y1.ended]]⟩]⟩
def m_impl_isOrder (w : YWorld) (id : Int) (places : List ByteArray) : Option Bool :=
 (getI w.orders (w64 (id - 1))).bind fun y1 =>
 cond (decide (y1.from_ = y1.to_))
 (some false)
 ((m_impl_placeAt places y1.from_).bind fun y2 =>
 cond (decide (y2 < 0))
 (some false)
 ((m_impl_placeAt places y1.to_).bind fun y3 =>
 cond (decide (y3 < 0))
 (some false)
 ((m_impl_within y1.service 1 3).bind fun y4 =>
 cond (!y4)
 (some false)
 ((m_impl_within y1.weight 1 30000).bind fun y5 =>
 cond (!y5)
 (some false)
 ((m_impl_within y1.at_ 0 w.now).bind fun y6 =>
 cond (!y6)
 (some false)
 ((m_impl_within y1.due 0 200000).bind fun y7 =>
 cond (!y7)
 (some false)
 ((m_impl_within y1.gone 0 (y1.way.length : Int)).bind fun y8 =>
 cond (!y8)
 (some false)
 ((iterF (m_impl_isOrder_b0 w id y1) NN (y1.from_, 0)).bind (selim (fun o0 =>
 (m_impl_IsWay w.network y1.way y1.from_ o0 (w64 (y1.at_ + 1))).bind fun y16 =>
 cond y16
 ((m_impl_isState w y1).bind fun y17 =>
 some y17)
 (some false)) (fun r => some r))))))))))
theorem ok_impl_isOrder (w : YWorld) (id : Int) (places : List ByteArray) {r : Bool} (H : m_impl_isOrder w id places = some r) : CallM Tryz.prog 142 [.ag (cWorld w), vi id, .sl (places.map cStr)] [] (vb r) [] := by
  replace H := H0 H
  unfold m_impl_isOrder at H
  refine callM_of Tryz.func142 rfl Tryz.ntmps142 Tryz.results142 fun Q hQ hQn => ?_
  exact wk
instance (w : YWorld) (id : Int) (places : List ByteArray) : CT Tryz.prog (m_impl_isOrder w id places) := ⟨142, [.ag (cWorld w), vi id, .sl (places.map cStr)], [], fun r => vb r, fun r => [], ok_impl_isOrder w id places⟩
def m_spec_l10Order_b0 (w : YWorld) (i : Int) (y1 : YOrder) (s0 : ByteArray × Int) : Option ((ByteArray × Int) ⊕ (ByteArray ⊕ Bool)) :=
 cond (decide (s0.2 < (y1.way.length : Int)))
 ((getI y1.way s0.2).bind fun y10 =>
 (getI y1.way s0.2).bind fun y11 =>
 (m_spec_l3Runs w.network y10.leg y11.day).bind fun y12 =>
 cond (!y12)
 (some (.inr (.inr false)))
 ((getI y1.way s0.2).bind fun y13 =>
 (m_spec_l10Booked w.bookings (w64 (i + 1)) y13 y1.weight).bind fun y14 =>
 cond (!y14)
 (some (.inr (.inr false)))
 ((getI y1.way s0.2).bind fun y15 =>
 (getI w.network.legs y15.leg).bind fun y16 =>
 cond (decide (y16.to_ = y1.to_))
 (cond (decide ((w64 (s0.2 + 1)) < (y1.way.length : Int)))
 (some (.inr (.inr false)))
 (some (.inl (y16.to_, (w64 (s0.2 + 1))))))
 (some (.inl (y16.to_, (w64 (s0.2 + 1))))))))
 (some (.inr (.inl s0.1)))
instance (w : YWorld) (i : Int) (y1 : YOrder) : LoopE (m_spec_l10Order_b0 w i y1) := ⟨fun s0 => (.un :: vi i :: .be 0 0 0 :: .un :: .un :: .be 1 0 0 :: .be 2 0 0 :: .un :: vs s0.1 :: vi s0.2 :: .un :: .un :: .un :: .un :: .un :: .un :: .un :: .un :: .un :: .un :: .un :: .un :: .un :: .un :: .un :: .un :: .un :: .un :: .un :: .un :: .un :: .un :: .un :: .un :: .un :: .un :: .un :: .un :: .un :: .un :: .un :: .un :: .un :: .un :: .un :: .un :: .un :: .un :: .un :: .un :: .un :: .un :: .un :: .un :: .un :: .un :: .un :: .un :: .un :: .un :: .un :: .un :: .un :: .un :: .un :: .un :: .un :: .un :: .un :: .un :: .un :: .un :: .un :: .un :: .un :: .un :: .un :: .un :: .un :: .un :: .un :: .un :: .un :: .un :: .un :: .un :: .un :: .un :: .un :: .un :: .un :: .un :: .un :: .un :: .un :: .un :: .un :: .un :: .un :: .un :: .un :: .un :: .un :: .un :: .un :: .un :: .un :: .un :: .un :: .un :: .un :: .un :: .un :: .un :: .un :: .un :: .un :: .un :: .un :: .un :: .un :: .un :: .un :: .un :: .un :: .un :: .un :: .un :: .un :: .un :: .un :: .un :: .un :: .un :: .un :: .un :: .un :: .un :: .un :: .un :: .un :: .un :: .un :: .un :: .un :: .un :: .un :: .un :: .un :: .un :: .un :: .un :: .un :: .un :: .un :: .un :: .un :: .un :: .un :: .un :: .un :: .un :: .un :: .un :: .un :: .un :: .un :: .un :: .un :: .un :: .un :: .un :: []), fun s0 => [some ⟨41, 10, [[.sl (w.network.legs.map cLeg), .sl (w.network.off.map cInt), vi w.network.change, .sl (w.orders.map cOrder), .sl (w.bookings.map cBooking), .sl (w.closed.map cTrip), vi w.now, .sl (w.scans.map cScan), .sl (w.skip.map cInt), vi w.made]]⟩, some ⟨35, 3, [[.sl (w.network.legs.map cLeg), .sl (w.network.off.map cInt), vi w.network.change]]⟩, some ⟨62, 11, [[vs y1.from_, vs y1.to_, vi y1.service, vi y1.weight, vi y1.at_, vi y1.due, .sl (y1.way.map cTrip), vi y1.gone, vi y1.state, vs y1.place, vi y1.ended]]⟩]⟩
def m_spec_l10Order_b1 (w : YWorld) (y1 : YOrder) (s1 : Int) : Option (Int ⊕ (Unit ⊕ Bool)) :=
 cond (decide (s1 < (y1.way.length : Int)))
 ((getI y1.way s1).bind fun y20 =>
 (m_spec_l6Closed w.closed y20).bind fun y21 =>
 cond y21
 (some (.inr (.inr false)))
 (some (.inl (w64 (s1 + 1)))))
 (some (.inr (.inl ())))
instance (w : YWorld) (y1 : YOrder) : LoopE (m_spec_l10Order_b1 w y1) := ⟨fun s1 => (.un :: .un :: .be 0 0 0 :: .un :: .un :: .un :: .be 1 0 0 :: .un :: .un :: .un :: vi s1 :: .un :: .un :: .un :: .un :: .un :: .un :: .un :: .un :: .un :: .un :: .un :: .un :: .un :: .un :: .un :: .un :: .un :: .un :: .un :: .un :: .un :: .un :: .un :: .un :: .un :: .un :: .un :: .un :: .un :: .un :: .un :: .un :: .un :: .un :: .un :: .un :: .un :: .un :: .un :: .un :: .un :: .un :: .un :: .un :: .un :: .un :: .un :: .un :: .un :: .un :: .un :: .un :: .un :: .un :: .un :: .un :: .un :: .un :: .un :: .un :: .un :: .un :: .un :: .un :: .un :: .un :: .un :: .un :: .un :: .un :: .un :: .un :: .un :: .un :: .un :: .un :: .un :: .un :: .un :: .un :: .un :: .un :: .un :: .un :: .un :: .un :: .un :: .un :: .un :: .un :: .un :: .un :: .un :: .un :: .un :: .un :: .un :: .un :: .un :: .un :: .un :: .un :: .un :: .un :: .un :: .un :: .un :: .un :: .un :: .un :: .un :: .un :: .un :: .un :: .un :: .un :: .un :: .un :: .un :: .un :: .un :: .un :: .un :: .un :: .un :: .un :: .un :: .un :: .un :: .un :: .un :: .un :: .un :: .un :: .un :: .un :: .un :: .un :: .un :: .un :: .un :: .un :: .un :: .un :: .un :: .un :: .un :: .un :: .un :: .un :: .un :: .un :: .un :: .un :: .un :: .un :: .un :: .un :: .un :: .un :: .un :: []), fun s1 => [some ⟨41, 10, [[.sl (w.network.legs.map cLeg), .sl (w.network.off.map cInt), vi w.network.change, .sl (w.orders.map cOrder), .sl (w.bookings.map cBooking), .sl (w.closed.map cTrip), vi w.now, .sl (w.scans.map cScan), .sl (w.skip.map cInt), vi w.made]]⟩, some ⟨62, 11, [[vs y1.from_, vs y1.to_, vi y1.service, vi y1.weight, vi y1.at_, vi y1.due, .sl (y1.way.map cTrip), vi y1.gone, vi y1.state, vs y1.place, vi y1.ended]]⟩]⟩
def m_spec_l10Order (w : YWorld) (i : Int) : Option Bool :=
 (getI w.orders i).bind fun y1 =>
 (m_spec_PlacesOf w.network).bind fun y2 =>
 (m_spec_l4Index y2 y1.from_).bind fun y3 =>
 cond (decide (y3 < 0))
 (some false)
 ((m_spec_l4Index y2 y1.to_).bind fun y4 =>
 cond (decide (y4 < 0))
 (some false)
 (cond (decide (y1.from_ = y1.to_))
 (some false)
 ((m_spec_l1In y1.service 1 3).bind fun y5 =>
 cond (!y5)
 (some false)
 ((m_spec_l1In y1.weight 1 30000).bind fun y6 =>
 cond (!y6)
 (some false)
 ((m_spec_l1In y1.at_ 0 w.now).bind fun y7 =>
 cond (!y7)
 (some false)
 ((m_spec_l1In y1.due 0 200000).bind fun y8 =>
 cond (!y8)
 (some false)
 ((m_spec_l1In y1.gone 0 (y1.way.length : Int)).bind fun y9 =>
 cond (!y9)
 (some false)
 ((iterF (m_spec_l10Order_b0 w i y1) NN (y1.from_, 0)).bind (selim (fun o0 =>
 (m_spec_IsWay w.network y1.way y1.from_ o0 (w64 (y1.at_ + 1))).bind fun y17 =>
 cond (!y17)
 (some false)
 ((m_spec_l10State w.network y1 w.now).bind fun y18 =>
 cond (!y18)
 (some false)
 ((m_spec_l10Coming y1).bind fun y19 =>
 (iterF (m_spec_l10Order_b1 w y1) NN y19).bind (selim (fun o1 =>
 some true) (fun r => some r))))) (fun r => some r))))))))))
theorem ok_spec_l10Order (w : YWorld) (i : Int) {r : Bool} (H : m_spec_l10Order w i = some r) : CallM Tryz.prog 111 [.ag (cWorld w), vi i] [] (vb r) [] := by
  replace H := H0 H
  unfold m_spec_l10Order at H
  refine callM_of Tryz.func111 rfl Tryz.ntmps111 Tryz.results111 fun Q hQ hQn => ?_
  exact wk
instance (w : YWorld) (i : Int) : CT Tryz.prog (m_spec_l10Order w i) := ⟨111, [.ag (cWorld w), vi i], [], fun r => vb r, fun r => [], ok_spec_l10Order w i⟩
def m_impl_IsWorld_b0 (w : YWorld) (s0 : Int) : Option (Int ⊕ (Unit ⊕ Bool)) :=
 cond (decide (s0 < (w.closed.length : Int)))
 ((getI w.closed s0).bind fun y4 =>
 (m_impl_IsTrip w.network y4).bind fun y5 =>
 cond (!y5)
 (some (.inr (.inr false)))
 ((chk (slOk 0 s0 w.closed.length)).bind fun _ =>
 (m_impl_hasTrip (subL w.closed 0 s0) y4).bind fun y6 =>
 cond y6
 (some (.inr (.inr false)))
 (some (.inl (w64 (s0 + 1))))))
 (some (.inr (.inl ())))
instance (w : YWorld) : LoopE (m_impl_IsWorld_b0 w) := ⟨fun s0 => (.un :: .be 0 0 0 :: .un :: .be 1 0 0 :: .un :: .un :: .un :: .un :: .un :: .un :: .un :: .un :: .un :: .un :: .un :: .un :: .un :: .un :: .un :: .un :: .un :: .un :: .un :: .un :: .un :: .un :: .un :: .un :: .un :: .un :: .un :: .un :: .un :: .un :: .un :: .un :: .un :: .un :: .un :: .un :: .un :: .un :: .un :: .un :: .un :: .un :: .un :: .un :: .un :: .un :: .un :: .un :: .un :: .un :: .un :: .un :: .un :: .un :: .un :: .sl (w.closed.map cTrip) :: vi (w.closed.length : Int) :: vi s0 :: .un :: .un :: .un :: .un :: .un :: .un :: .un :: .un :: .un :: .un :: .un :: .un :: .un :: .un :: .un :: .un :: .un :: .un :: .un :: .un :: .un :: .un :: .un :: .un :: .un :: .un :: .un :: .un :: .un :: .un :: .un :: .un :: .un :: .un :: .un :: .un :: .un :: .un :: .un :: .un :: .un :: .un :: .un :: .un :: .un :: .un :: .un :: .un :: .un :: .un :: .un :: .un :: .un :: .un :: .un :: .un :: .un :: .un :: .un :: .un :: .un :: .un :: .un :: []), fun s0 => [some ⟨41, 10, [[.sl (w.network.legs.map cLeg), .sl (w.network.off.map cInt), vi w.network.change, .sl (w.orders.map cOrder), .sl (w.bookings.map cBooking), .sl (w.closed.map cTrip), vi w.now, .sl (w.scans.map cScan), .sl (w.skip.map cInt), vi w.made]]⟩, some ⟨35, 3, [[.sl (w.network.legs.map cLeg), .sl (w.network.off.map cInt), vi w.network.change]]⟩]⟩
def m_impl_IsWorld_b1 (w : YWorld) (s1 : Int) : Option (Int ⊕ (Unit ⊕ Bool)) :=
 cond (decide (s1 < (w.scans.length : Int)))
 ((getI w.scans s1).bind fun y7 =>
 (m_impl_IsScan w.network y7).bind fun y8 =>
 cond (!y8)
 (some (.inr (.inr false)))
 (cond (decide (w.now < y7.at_))
 (some (.inr (.inr false)))
 (some (.inl (w64 (s1 + 1))))))
 (some (.inr (.inl ())))
instance (w : YWorld) : LoopE (m_impl_IsWorld_b1 w) := ⟨fun s1 => (.un :: .be 0 0 0 :: .un :: .be 1 0 0 :: .un :: .un :: .un :: .un :: .un :: .un :: .un :: .un :: .un :: .un :: .un :: .un :: .un :: .un :: .un :: .un :: .un :: .un :: .un :: .un :: .un :: .un :: .un :: .un :: .un :: .un :: .un :: .un :: .un :: .un :: .un :: .un :: .un :: .un :: .un :: .un :: .un :: .un :: .un :: .un :: .un :: .un :: .un :: .un :: .un :: .un :: .un :: .un :: .un :: .un :: .un :: .un :: .un :: .un :: .un :: .un :: .un :: .un :: .un :: .un :: .un :: .un :: .un :: .un :: .un :: .un :: .un :: .un :: .un :: .un :: .un :: .un :: .un :: .un :: .un :: .un :: .sl (w.scans.map cScan) :: vi (w.scans.length : Int) :: vi s1 :: .un :: .un :: .un :: .un :: .un :: .un :: .un :: .un :: .un :: .un :: .un :: .un :: .un :: .un :: .un :: .un :: .un :: .un :: .un :: .un :: .un :: .un :: .un :: .un :: .un :: .un :: .un :: .un :: .un :: .un :: .un :: .un :: .un :: .un :: .un :: .un :: .un :: .un :: .un :: .un :: .un :: .un :: []), fun s1 => [some ⟨41, 10, [[.sl (w.network.legs.map cLeg), .sl (w.network.off.map cInt), vi w.network.change, .sl (w.orders.map cOrder), .sl (w.bookings.map cBooking), .sl (w.closed.map cTrip), vi w.now, .sl (w.scans.map cScan), .sl (w.skip.map cInt), vi w.made]]⟩, some ⟨35, 3, [[.sl (w.network.legs.map cLeg), .sl (w.network.off.map cInt), vi w.network.change]]⟩]⟩
def m_impl_IsWorld_b2 (w : YWorld) (y9 : List ByteArray) (s2 : Int × Int) : Option ((Int × Int) ⊕ (Int ⊕ Bool)) :=
 cond (decide (s2.2 < (w.orders.length : Int)))
 ((getI w.orders s2.2).bind fun y10 =>
 (m_impl_isOrder w (w64 (s2.2 + 1)) y9).bind fun y11 =>
 cond (!y11)
 (some (.inr (.inr false)))
 (some (.inl ((w64 (s2.1 + (y10.way.length : Int))), (w64 (s2.2 + 1))))))
 (some (.inr (.inl s2.1)))
instance (w : YWorld) (y9 : List ByteArray) : LoopE (m_impl_IsWorld_b2 w y9) := ⟨fun s2 => (.un :: .be 0 0 0 :: .un :: .un :: .un :: .un :: .un :: .un :: .ms 1 :: vi s2.1 :: .un :: .un :: .un :: .un :: .un :: .un :: .un :: .un :: .un :: .un :: .un :: .un :: .un :: .un :: .un :: .un :: .un :: .un :: .un :: .un :: .un :: .un :: .un :: .un :: .un :: .un :: .un :: .un :: .un :: .un :: .un :: .un :: .un :: .un :: .un :: .un :: .un :: .un :: .un :: .un :: .un :: .un :: .un :: .un :: .un :: .un :: .un :: .un :: .un :: .un :: .un :: .un :: .un :: .un :: .un :: .un :: .un :: .un :: .un :: .un :: .un :: .un :: .un :: .un :: .un :: .un :: .un :: .un :: .un :: .un :: .un :: .un :: .un :: .un :: .un :: .un :: .un :: .un :: .un :: .un :: .un :: .un :: .un :: .un :: .un :: .un :: .un :: .un :: .un :: .un :: .un :: .sl (w.orders.map cOrder) :: vi (w.orders.length : Int) :: vi s2.2 :: .un :: .un :: .un :: .un :: .un :: .un :: .un :: .un :: .un :: .un :: .un :: .un :: .un :: .un :: .un :: .un :: .un :: .un :: .un :: .un :: .un :: []), fun s2 => [some ⟨41, 10, [[.sl (w.network.legs.map cLeg), .sl (w.network.off.map cInt), vi w.network.change, .sl (w.orders.map cOrder), .sl (w.bookings.map cBooking), .sl (w.closed.map cTrip), vi w.now, .sl (w.scans.map cScan), .sl (w.skip.map cInt), vi w.made]]⟩, some ⟨9, 1, y9.map cStr⟩]⟩
def m_impl_IsWorld (w : YWorld) : Option Bool :=
 (m_impl_AreBookings w.network w.bookings).bind fun y1 =>
 cond (!y1)
 (some false)
 ((m_impl_within w.now 0 100000).bind fun y2 =>
 cond (!y2)
 (some false)
 (cond (decide (30 < (w.orders.length : Int)))
 (some false)
 (cond (decide (20 < (w.closed.length : Int)))
 (some false)
 (cond (decide (200 < (w.scans.length : Int)))
 (some false)
 (cond (decide (50 < (w.skip.length : Int)))
 (some false)
 ((m_impl_within w.made (w.scans.length : Int) 1000000000).bind fun y3 =>
 cond (!y3)
 (some false)
 ((iterF (m_impl_IsWorld_b0 w) NN 0).bind (selim (fun o0 =>
 (iterF (m_impl_IsWorld_b1 w) NN 0).bind (selim (fun o1 =>
 (m_impl_PlacesOf w.network).bind fun y9 =>
 (iterF (m_impl_IsWorld_b2 w y9) NN (0, 0)).bind (selim (fun o2 =>
 some (decide (o2 = (w.bookings.length : Int)))) (fun r => some r))) (fun r => some r))) (fun r => some r)))))))))
theorem ok_impl_IsWorld (w : YWorld) {r : Bool} (H : m_impl_IsWorld w = some r) : CallM Tryz.prog 48 [.ag (cWorld w)] [] (vb r) [] := by
  replace H := H0 H
  unfold m_impl_IsWorld at H
  refine callM_of Tryz.func48 rfl Tryz.ntmps48 Tryz.results48 fun Q hQ hQn => ?_
  exact wk
instance (w : YWorld) : CT Tryz.prog (m_impl_IsWorld w) := ⟨48, [.ag (cWorld w)], [], fun r => vb r, fun r => [], ok_impl_IsWorld w⟩
def m_spec_IsWorld_b0 (w : YWorld) (s0 : Int) : Option (Int ⊕ (Unit ⊕ Bool)) :=
 cond (decide (s0 < (w.closed.length : Int)))
 ((getI w.closed s0).bind fun y4 =>
 (getI w.closed s0).bind fun y5 =>
 (m_spec_l3Runs w.network y4.leg y5.day).bind fun y6 =>
 cond (!y6)
 (some (.inr (.inr false)))
 ((chk (slOk 0 s0 w.closed.length)).bind fun _ =>
 (getI w.closed s0).bind fun y7 =>
 (m_spec_l6Closed (subL w.closed 0 s0) y7).bind fun y8 =>
 cond y8
 (some (.inr (.inr false)))
 (some (.inl (w64 (s0 + 1))))))
 (some (.inr (.inl ())))
instance (w : YWorld) : LoopE (m_spec_IsWorld_b0 w) := ⟨fun s0 => (.un :: .be 0 0 0 :: .un :: vi s0 :: .un :: .un :: .un :: .un :: .un :: .un :: .un :: .un :: .un :: .un :: .un :: .un :: .un :: .un :: .un :: .un :: .un :: .un :: .un :: .un :: .un :: .un :: .un :: .un :: .un :: .un :: .un :: .un :: .un :: .un :: .un :: .un :: .un :: .un :: .un :: .un :: .un :: .un :: .un :: .un :: .un :: .un :: .un :: .un :: .un :: .un :: .un :: .un :: .un :: .un :: .un :: .un :: .un :: .un :: .un :: .un :: .un :: .un :: .un :: .un :: .un :: .un :: .un :: .un :: .un :: .un :: .un :: .un :: .un :: .un :: .un :: .un :: .un :: .un :: .un :: .un :: .un :: .un :: .un :: .un :: .un :: .un :: .un :: .un :: .un :: .un :: .un :: .un :: .un :: .un :: .un :: .un :: .un :: .un :: .un :: .un :: .un :: .un :: .un :: .un :: .un :: .un :: .un :: .un :: .un :: .un :: .un :: .un :: .un :: .un :: .un :: .un :: .un :: .un :: .un :: .un :: .un :: .un :: .un :: .un :: .un :: .un :: .un :: .un :: .un :: .un :: .un :: .un :: .un :: .un :: .un :: .un :: .un :: .un :: .un :: []), fun s0 => [some ⟨41, 10, [[.sl (w.network.legs.map cLeg), .sl (w.network.off.map cInt), vi w.network.change, .sl (w.orders.map cOrder), .sl (w.bookings.map cBooking), .sl (w.closed.map cTrip), vi w.now, .sl (w.scans.map cScan), .sl (w.skip.map cInt), vi w.made]]⟩]⟩
def m_spec_IsWorld_b1 (w : YWorld) (s1 : Int) : Option (Int ⊕ (Unit ⊕ Bool)) :=
 cond (decide (s1 < (w.scans.length : Int)))
 ((getI w.scans s1).bind fun y9 =>
 (m_spec_IsScan w.network y9).bind fun y10 =>
 cond (!y10)
 (some (.inr (.inr false)))
 ((getI w.scans s1).bind fun y11 =>
 cond (decide (w.now < y11.at_))
 (some (.inr (.inr false)))
 (some (.inl (w64 (s1 + 1))))))
 (some (.inr (.inl ())))
instance (w : YWorld) : LoopE (m_spec_IsWorld_b1 w) := ⟨fun s1 => (.un :: .be 0 0 0 :: .un :: .un :: vi s1 :: .un :: .un :: .un :: .un :: .un :: .un :: .un :: .un :: .un :: .un :: .un :: .un :: .un :: .un :: .un :: .un :: .un :: .un :: .un :: .un :: .un :: .un :: .un :: .un :: .un :: .un :: .un :: .un :: .un :: .un :: .un :: .un :: .un :: .un :: .un :: .un :: .un :: .un :: .un :: .un :: .un :: .un :: .un :: .un :: .un :: .un :: .un :: .un :: .un :: .un :: .un :: .un :: .un :: .un :: .un :: .un :: .un :: .un :: .un :: .un :: .un :: .un :: .un :: .un :: .un :: .un :: .un :: .un :: .un :: .un :: .un :: .un :: .un :: .un :: .un :: .un :: .un :: .un :: .un :: .un :: .un :: .un :: .un :: .un :: .un :: .un :: .un :: .un :: .un :: .un :: .un :: .un :: .un :: .un :: .un :: .un :: .un :: .un :: .un :: .un :: .un :: .un :: .un :: .un :: .un :: .un :: .un :: .un :: .un :: .un :: .un :: .un :: .un :: .un :: .un :: .un :: .un :: .un :: .un :: .un :: .un :: .un :: .un :: .un :: .un :: .un :: .un :: .un :: .un :: .un :: .un :: .un :: .un :: .un :: []), fun s1 => [some ⟨41, 10, [[.sl (w.network.legs.map cLeg), .sl (w.network.off.map cInt), vi w.network.change, .sl (w.orders.map cOrder), .sl (w.bookings.map cBooking), .sl (w.closed.map cTrip), vi w.now, .sl (w.scans.map cScan), .sl (w.skip.map cInt), vi w.made]]⟩]⟩
def m_spec_IsWorld_b2 (w : YWorld) (s2 : Int × Int) : Option ((Int × Int) ⊕ (Int ⊕ Bool)) :=
 cond (decide (s2.2 < (w.orders.length : Int)))
 ((m_spec_l10Order w s2.2).bind fun y12 =>
 cond (!y12)
 (some (.inr (.inr false)))
 ((getI w.orders s2.2).bind fun y13 =>
 some (.inl ((w64 (s2.1 + (y13.way.length : Int))), (w64 (s2.2 + 1))))))
 (some (.inr (.inl s2.1)))
instance (w : YWorld) : LoopE (m_spec_IsWorld_b2 w) := ⟨fun s2 => (.un :: .be 0 0 0 :: .un :: .un :: .un :: vi s2.1 :: vi s2.2 :: .un :: .un :: .un :: .un :: .un :: .un :: .un :: .un :: .un :: .un :: .un :: .un :: .un :: .un :: .un :: .un :: .un :: .un :: .un :: .un :: .un :: .un :: .un :: .un :: .un :: .un :: .un :: .un :: .un :: .un :: .un :: .un :: .un :: .un :: .un :: .un :: .un :: .un :: .un :: .un :: .un :: .un :: .un :: .un :: .un :: .un :: .un :: .un :: .un :: .un :: .un :: .un :: .un :: .un :: .un :: .un :: .un :: .un :: .un :: .un :: .un :: .un :: .un :: .un :: .un :: .un :: .un :: .un :: .un :: .un :: .un :: .un :: .un :: .un :: .un :: .un :: .un :: .un :: .un :: .un :: .un :: .un :: .un :: .un :: .un :: .un :: .un :: .un :: .un :: .un :: .un :: .un :: .un :: .un :: .un :: .un :: .un :: .un :: .un :: .un :: .un :: .un :: .un :: .un :: .un :: .un :: .un :: .un :: .un :: .un :: .un :: .un :: .un :: .un :: .un :: .un :: .un :: .un :: .un :: .un :: .un :: .un :: .un :: .un :: .un :: .un :: .un :: .un :: .un :: .un :: .un :: .un :: []), fun s2 => [some ⟨41, 10, [[.sl (w.network.legs.map cLeg), .sl (w.network.off.map cInt), vi w.network.change, .sl (w.orders.map cOrder), .sl (w.bookings.map cBooking), .sl (w.closed.map cTrip), vi w.now, .sl (w.scans.map cScan), .sl (w.skip.map cInt), vi w.made]]⟩]⟩
def m_spec_IsWorld (w : YWorld) : Option Bool :=
 (m_spec_AreBookings w.network w.bookings).bind fun y1 =>
 cond (!y1)
 (some false)
 ((m_spec_l1In w.now 0 100000).bind fun y2 =>
 cond (!y2)
 (some false)
 (cond (decide (30 < (w.orders.length : Int)))
 (some false)
 (cond (decide (20 < (w.closed.length : Int)))
 (some false)
 (cond (decide (200 < (w.scans.length : Int)))
 (some false)
 (cond (decide (50 < (w.skip.length : Int)))
 (some false)
 ((m_spec_l1In w.made (w.scans.length : Int) 1000000000).bind fun y3 =>
 cond (!y3)
 (some false)
 ((iterF (m_spec_IsWorld_b0 w) NN 0).bind (selim (fun o0 =>
 (iterF (m_spec_IsWorld_b1 w) NN 0).bind (selim (fun o1 =>
 (iterF (m_spec_IsWorld_b2 w) NN (0, 0)).bind (selim (fun o2 =>
 some (decide (o2 = (w.bookings.length : Int)))) (fun r => some r))) (fun r => some r))) (fun r => some r)))))))))
theorem ok_spec_IsWorld (w : YWorld) {r : Bool} (H : m_spec_IsWorld w = some r) : CallM Tryz.prog 24 [.ag (cWorld w)] [] (vb r) [] := by
  replace H := H0 H
  unfold m_spec_IsWorld at H
  refine callM_of Tryz.func24 rfl Tryz.ntmps24 Tryz.results24 fun Q hQ hQn => ?_
  exact wk
instance (w : YWorld) : CT Tryz.prog (m_spec_IsWorld w) := ⟨24, [.ag (cWorld w)], [], fun r => vb r, fun r => [], ok_spec_IsWorld w⟩
end Go.Proofs.YtmcdjilbkmhfoaaGreat
namespace Go.Proofs.YtmcdjilbkmhfoaaGreat
set_option maxRecDepth 10000
open Go.RowKit
set_option linter.unusedVariables false
set_option linter.unusedSimpArgs false
set_option linter.unusedSectionVars false
def allI {α : Type} (c : Nat → α → Bool) : Nat → List α → Bool
  | _, [] => true
  | i, x :: xs => c i x && allI c (i + 1) xs
theorem allI_iff {α : Type} {c : Nat → α → Bool} : ∀ {xs : List α} {i : Nat}, allI c i xs = true ↔ ∀ (j : Nat) (x : α), xs[j]? = some x → c (i + j) x = true
  | [], i => by simp [allI]
  | x :: xs, i => by
    simp only [allI, Bool.and_eq_true, allI_iff]
    constructor
    · rintro ⟨h1, h2⟩ j y hj
      cases j with
      | zero => obtain rfl : x = y := by simpa using hj
                exact h1
      | succ j => have := h2 j y (by simpa using hj); rwa [Nat.add_right_comm] at this
    · intro h
      exact ⟨h 0 x rfl, fun j y hj => by have := h (j + 1) y (by simpa using hj); rwa [← Nat.add_assoc, Nat.add_right_comm] at this⟩
theorem allI_and {α : Type} (c d : Nat → α → Bool) : ∀ (xs : List α) (i : Nat), allI (fun i x => c i x && d i x) i xs = (allI c i xs && allI d i xs)
  | [], i => rfl
  | x :: xs, i => by
    simp only [allI, allI_and c d xs (i + 1)]
    cases c i x <;> cases d i x <;> cases allI c (i + 1) xs <;> cases allI d (i + 1) xs <;> rfl
theorem allI_congr {α : Type} {c d : Nat → α → Bool} {xs : List α} {i : Nat} (h : ∀ (j : Nat) (x : α), xs[j]? = some x → c (i + j) x = d (i + j) x) : allI c i xs = allI d i xs := by
  rw [Bool.eq_iff_iff, allI_iff, allI_iff]
  exact ⟨fun H j x hx => by rw [← h j x hx]; exact H j x hx, fun H j x hx => by rw [h j x hx]; exact H j x hx⟩
theorem iter_fold {A α σ γ : Type} {xs : List α} {body : σ → Option (σ ⊕ (γ ⊕ Bool))} (mk : A → Int → σ) (c : Nat → α → Bool) (f : A → α → A) (g : A → γ)
    (h1 : ∀ a (i : Nat) x, xs[i]? = some x → body (mk a i) = some (if c i x = true then .inl (mk (f a x) ((i + 1 : Nat) : Int)) else .inr (.inr false)))
    (h2 : ∀ a, body (mk a (xs.length : Int)) = some (.inr (.inl (g a)))) (hN : xs.length < NN) (a : A) : iterF body NN (mk a 0) = some (if allI c 0 xs = true then .inl (g (xs.foldl f a)) else .inr false) := by
  rw [iter_list mk (fun i a x => some (if c i x = true then .inl (f a x) else .inr (.inr false))) (fun a => some (.inl (g a))) (fun a i x hx => by rw [h1 a i x hx]; cases c i x <;> rfl) (fun a => by rw [h2 a]; rfl) hN a]
  have key : ∀ (xs : List α) (i : Nat) (a : A), runL (fun i a x => some (if c i x = true then (.inl (f a x) : A ⊕ (γ ⊕ Bool)) else .inr (.inr false))) (fun a => some (.inl (g a))) i xs a = some (if allI c i xs = true then .inl (g (xs.foldl f a)) else .inr false) := by
    intro xs
    induction xs with
    | nil => intro i a; rfl
    | cons x xs ih =>
      intro i a
      simp only [runL, allI]
      by_cases hcx : c i x = true
      · simp only [hcx, if_true, Option.bind_some, selim, ih, Bool.true_and, List.foldl_cons]
      · simp only [Bool.not_eq_true] at hcx
        simp [hcx]
  exact key xs 0 a
/-! The parts of an order's test. -/
def tripB (n : YNetwork) (t : YTrip) : Bool := (m_spec_l3Runs n t.leg t.day).getD false
def legTo (n : YNetwork) (t : YTrip) : ByteArray := ((getI n.legs t.leg).map (·.to_)).getD ⟨#[]⟩
def closedB (l : List YTrip) (t : YTrip) : Bool := l.any fun y => decide (y = t)
theorem tripB_v {n : YNetwork} (h : NetFit n) (t : YTrip) : m_spec_l3Runs n t.leg t.day = some (tripB n t) := by
  obtain ⟨_, b, hb⟩ := runs_eq h t.leg t.day
  unfold tripB; rw [hb]; rfl
theorem tripB_leg {n : YNetwork} (h : NetFit n) {t : YTrip} (ht : tripB n t = true) : ∃ y, getI n.legs t.leg = some y ∧ y ∈ n.legs := by
  have := tripB_v h t
  rw [ht] at this
  obtain ⟨y, hy⟩ := runs_leg h this
  exact ⟨y, hy, getI_mem hy⟩
def wayC (w : YWorld) (id : Int) (o : YOrder) (i : Nat) (t : YTrip) : Bool := tripB w.network t && bookedB w.bookings id t o.weight && !(decide (legTo w.network t = o.to_) && decide (i + 1 < o.way.length))
def endV (n : YNetwork) (o : YOrder) : ByteArray := o.way.foldl (fun _ t => legTo n t) o.from_
def comesV (o : YOrder) : Int := if o.state = 2 then o.gone + 1 else o.gone
def orderV (w : YWorld) (i : Nat) (o : YOrder) : Bool :=
  !decide (idxV (placesV w.network) o.from_ < 0) && !decide (idxV (placesV w.network) o.to_ < 0) && !decide (o.from_ = o.to_) && (decide (1 ≤ o.service) && decide (o.service ≤ 3)) && (decide (1 ≤ o.weight) && decide (o.weight ≤ 30000)) && (decide (0 ≤ o.at_) && decide (o.at_ ≤ w.now)) && (decide (0 ≤ o.due) && decide (o.due ≤ 200000)) && (decide (0 ≤ o.gone) && decide (o.gone ≤ (o.way.length : Int))) &&
    allI (wayC w ((i + 1 : Nat) : Int) o) 0 o.way && (m_spec_IsWay w.network o.way o.from_ (endV w.network o) (w64 (o.at_ + 1))).getD false && (m_spec_l10State w.network o w.now).getD false && !((o.way.drop (comesV o).toNat).any (closedB w.closed))
structure WFit (w : YWorld) : Prop where
  net : NetFit w.network
  orders : w.orders.length ≤ 1048576
  bookings : w.bookings.length ≤ 1048576
  closed : w.closed.length ≤ 1048576
  scans : w.scans.length ≤ 1048576
  skip : w.skip.length ≤ 1048576
  way : ∀ o ∈ w.orders, o.way.length ≤ 1048576
theorem state_some {n : YNetwork} {o : YOrder} (hg : 0 ≤ o.gone ∧ o.gone ≤ o.way.length) (hl : o.way.length ≤ 1048576) (hw : ∀ t ∈ o.way, ∃ y, getI n.legs t.leg = some y) (now : Int) : ∃ b, m_spec_l10State n o now = some b := by
  have hat : ∀ (i : Int), 0 ≤ i → i < o.way.length → ∃ t y, getI o.way i = some t ∧ getI n.legs t.leg = some y := by
    intro i h0 h1
    have hlt : i.toNat < o.way.length := by omega
    obtain ⟨y, hy⟩ := hw o.way[i.toNat] (List.getElem_mem hlt)
    exact ⟨o.way[i.toNat], y, by unfold getI; rw [if_pos h0]; exact List.getElem?_eq_getElem hlt, hy⟩
  have hw1 : w64 (o.gone - 1) = o.gone - 1 := w64_in (by omega)
  have hend : o.gone < o.way.length → ∃ t s e, getI o.way o.gone = some t ∧ m_spec_l3Starts n t = some s ∧ m_spec_l3Ends n t = some e := by
    intro h1
    obtain ⟨t, y, ht, hy⟩ := hat o.gone hg.1 h1
    obtain ⟨s, hs⟩ := starts_some hy
    obtain ⟨e, he⟩ := ends_some hy
    exact ⟨t, s, e, ht, hs, he⟩
  unfold m_spec_l10State
  rw [hw1]
  by_cases h0 : 0 < o.gone
  · rw [decide_eq_true h0, cond_true]
    obtain ⟨t, y, ht, hy⟩ := hat (o.gone - 1) (by omega) (by omega)
    obtain ⟨e, he⟩ := ends_some hy
    simp only [ht, hy, he, Option.bind_some]
    cases decide (now < e) with
    | true => exact ⟨_, rfl⟩
    | false =>
      simp only [cond_false]
      by_cases h1 : o.gone < o.way.length
      · obtain ⟨t2, s2, e2, ht2, hs2, he2⟩ := hend h1
        simp only [ht2, hs2, he2, Option.bind_some]
        cases decide (o.state = 1) <;> cases decide (o.state = 2) <;> cases decide (o.state = 3) <;> cases decide (o.place = y.to_) <;> cases decide (y.to_ = o.to_) <;> cases decide (o.ended = 0) <;> cases decide (o.gone = (o.way.length : Int)) <;> cases decide (o.place = ⟨#[]⟩) <;> cases decide (o.gone < (o.way.length : Int)) <;> cases decide (s2 ≤ now) <;> cases decide (o.place = o.to_) <;> exact ⟨_, rfl⟩
      · rw [decide_eq_true (show o.gone = (o.way.length : Int) by omega), decide_eq_false h1]
        cases decide (o.state = 1) <;> cases decide (o.state = 2) <;> cases decide (o.state = 3) <;> cases decide (o.place = y.to_) <;> cases decide (y.to_ = o.to_) <;> cases decide (o.ended = 0) <;> cases decide (o.place = ⟨#[]⟩) <;> cases decide (o.place = o.to_) <;> exact ⟨_, rfl⟩
  · rw [decide_eq_false h0, cond_false]
    by_cases h1 : o.gone < o.way.length
    · obtain ⟨t2, s2, e2, ht2, hs2, he2⟩ := hend h1
      simp only [ht2, hs2, he2, Option.bind_some]
      cases decide (o.state = 1) <;> cases decide (o.state = 2) <;> cases decide (o.state = 3) <;> cases decide (o.place = o.from_) <;> cases decide (o.from_ = o.to_) <;> cases decide (o.ended = 0) <;> cases decide (o.gone = (o.way.length : Int)) <;> cases decide (o.place = ⟨#[]⟩) <;> cases decide (o.gone < (o.way.length : Int)) <;> cases decide (s2 ≤ now) <;> cases decide (o.place = o.to_) <;> exact ⟨_, rfl⟩
    · rw [decide_eq_true (show o.gone = (o.way.length : Int) by omega), decide_eq_false h1]
      cases decide (o.state = 1) <;> cases decide (o.state = 2) <;> cases decide (o.state = 3) <;> cases decide (o.place = o.from_) <;> cases decide (o.from_ = o.to_) <;> cases decide (o.ended = 0) <;> cases decide (o.place = ⟨#[]⟩) <;> cases decide (o.place = o.to_) <;> exact ⟨_, rfl⟩
theorem closed_loop {w : YWorld} (hc : w.closed.length ≤ 1048576) {o : YOrder} (hl : o.way.length ≤ 1048576) {k : Int} (h0 : 0 ≤ k) : iterF (m_spec_l10Order_b1 w o) NN k = some (if (o.way.drop k.toNat).any (closedB w.closed) = true then .inr false else .inl ()) := by
  have key : ∀ (ts : List YTrip) (i N : Nat), o.way.drop i = ts → ts.length < N → iterF (m_spec_l10Order_b1 w o) N (i : Int) = some (if ts.any (closedB w.closed) = true then .inr false else .inl ()) := by
    intro ts
    induction ts with
    | nil =>
      intro i N hd hN
      cases N with
      | zero => omega
      | succ N =>
        have : o.way.length ≤ i := by have := congrArg List.length hd; simp at this; omega
        simp only [iterF, m_spec_l10Order_b1]
        rw [decide_eq_false (show ¬ (i : Int) < o.way.length by omega)]
        rfl
    | cons t ts ih =>
      intro i N hd hN
      cases N with
      | zero => simp at hN
      | succ N =>
        have ht : o.way[i]? = some t := by
          have := congrArg (fun l : List YTrip => l[0]?) hd
          simpa using this
        have hlt := (List.getElem?_eq_some_iff.1 ht).1
        have hd' : o.way.drop (i + 1) = ts := by
          have := congrArg (List.drop 1) hd
          simpa [List.drop_drop] using this
        have hg : getI o.way (i : Int) = some t := by rw [getI_nat]; exact ht
        simp only [iterF, m_spec_l10Order_b1]
        rw [decide_eq_true (show (i : Int) < o.way.length by omega), cond_true, hg]
        simp only [Option.bind_some]
        rw [l6Closed_eq, hasTrip_v hc, w64_nat hlt (by omega)]
        have hcd : (w.closed.any fun y => decide (y = t)) = closedB w.closed t := rfl
        rw [hcd]
        by_cases hcl : closedB w.closed t = true
        · simp [hcl, List.any_cons]
        · simp only [Bool.not_eq_true] at hcl
          simp only [hcl, List.any_cons, Option.bind_some, cond_false, selim, Bool.false_or]
          exact ih (i + 1) N hd' (by simp at hN; omega)
  have := key (o.way.drop k.toNat) k.toNat NN rfl (by simp; unfold NN; omega)
  rw [show ((k.toNat : Nat) : Int) = k by omega] at this
  exact this
theorem closed_drop (cl : YTrip → Bool) (k : Int) : ∀ (ts : List YTrip) (i : Nat), allI (fun i t => !(decide (k ≤ (i : Int)) && cl t)) i ts = !((ts.drop (k - i).toNat).any cl)
  | [], i => by simp [allI]
  | t :: ts, i => by
    simp only [allI, closed_drop cl k ts (i + 1)]
    by_cases h : k ≤ (i : Int)
    · rw [decide_eq_true h, show (k - (i : Int)).toNat = 0 by omega, show (k - ((i + 1 : Nat) : Int)).toNat = 0 by omega]
      simp
    · rw [decide_eq_false h]
      obtain ⟨m, hm⟩ : ∃ m, (k - (i : Int)).toNat = m + 1 := ⟨(k - (i : Int)).toNat - 1, by omega⟩
      rw [hm, show (k - ((i + 1 : Nat) : Int)).toNat = m by omega]
      simp
theorem comes_v {o : YOrder} (h : 0 ≤ o.gone ∧ o.gone ≤ o.way.length) (hl : o.way.length ≤ 1048576) : m_spec_l10Coming o = some (comesV o) ∧ 0 ≤ comesV o ∧ m_impl_toCome o = some (if (o.way.length : Int) < comesV o then (o.way.length : Int) else comesV o) := by
  unfold m_spec_l10Coming m_impl_toCome comesV
  have hw : w64 (o.gone + 1) = o.gone + 1 := w64_in (by omega)
  simp only [hw]
  by_cases h2 : o.state = 2
  · rw [decide_eq_true h2, if_pos h2]; exact ⟨rfl, by omega, rfl⟩
  · rw [decide_eq_false h2, if_neg h2]; exact ⟨rfl, by omega, by rw [if_neg (show ¬ (o.way.length : Int) < o.gone by omega)]; rfl⟩
section
variable {w : YWorld} (hf : WFit w) (hb : booksV w.network w.bookings = true)
include hf hb
theorem way_spec {o : YOrder} (hl : o.way.length ≤ 1048576) (i : Nat) (hi : i < 1048576) : iterF (m_spec_l10Order_b0 w (i : Int) o) NN (o.from_, 0) = some (if allI (wayC w ((i + 1 : Nat) : Int) o) 0 o.way = true then .inl (endV w.network o) else .inr false) := by
  refine iter_fold (A := ByteArray) (fun a i => (a, i)) _ (fun _ t => legTo w.network t) id (fun a j t ht => ?_) (fun a => ?_) (by unfold NN; omega) o.from_
  · have hlt := (List.getElem?_eq_some_iff.1 ht).1
    have hg : getI o.way (j : Int) = some t := by rw [getI_nat]; exact ht
    have hj : w64 ((j : Int) + 1) = ((j + 1 : Nat) : Int) := w64_nat hlt (by omega)
    have hi1 : w64 ((i : Int) + 1) = ((i + 1 : Nat) : Int) := by rw [w64_in (by omega)]; omega
    unfold m_spec_l10Order_b0
    simp only [decide_eq_true (show (j : Int) < o.way.length by omega), cond_true, hg, Option.bind_some, hj, hi1, tripB_v hf.net, booked_v hf.bookings]
    unfold wayC
    cases ht' : tripB w.network t with
    | false => simp
    | true =>
      obtain ⟨y, hy, _⟩ := tripB_leg hf.net ht'
      have hlt' : legTo w.network t = y.to_ := by unfold legTo; rw [hy]; rfl
      simp only [hy, Option.bind_some, hlt', Bool.not_true, cond_false]
      cases bookedB w.bookings ((i + 1 : Nat) : Int) t o.weight with
      | false => simp
      | true =>
        simp only [Bool.not_true, cond_false, Bool.true_and]
        by_cases h1 : y.to_ = o.to_
        · by_cases h2 : j + 1 < o.way.length
          · simp [h1, h2, show ((j : Int) + 1) < o.way.length by omega]
          · simp [h1, h2, show ¬ ((j : Int) + 1) < o.way.length by omega]
        · simp [h1]
  · unfold m_spec_l10Order_b0
    simp
theorem way_impl {o : YOrder} (hl : o.way.length ≤ 1048576) (i : Nat) (hi : i < 1048576) (ho : getI w.orders (i : Int) = some o) (hg0 : 0 ≤ o.gone ∧ o.gone ≤ o.way.length) :
    iterF (m_impl_isOrder_b0 w ((i + 1 : Nat) : Int) o) NN (o.from_, 0) = some (if (allI (wayC w ((i + 1 : Nat) : Int) o) 0 o.way && !((o.way.drop (comesV o).toNat).any (closedB w.closed))) = true then .inl (endV w.network o) else .inr false) := by
  obtain ⟨c1, c2, c3⟩ := comes_v hg0 hl
  have hcl : (!((o.way.drop (comesV o).toNat).any (closedB w.closed))) = allI (fun j t => !(decide ((if (o.way.length : Int) < comesV o then (o.way.length : Int) else comesV o) ≤ (j : Int)) && closedB w.closed t)) 0 o.way := by
    rw [closed_drop]
    congr 2
    split
    · rename_i h
      rw [List.drop_eq_nil_of_le (by omega), List.drop_eq_nil_of_le (by omega)]
    · congr 1; omega
  rw [hcl, ← allI_and]
  have hnet := (books_net hb).1
  refine iter_fold (A := ByteArray) (fun a i => (a, i)) _ (fun _ t => legTo w.network t) id (fun a j t ht => ?_) (fun a => ?_) (by unfold NN; omega) o.from_
  · have hlt := (List.getElem?_eq_some_iff.1 ht).1
    have hg : getI o.way (j : Int) = some t := by rw [getI_nat]; exact ht
    have hj : w64 ((j : Int) + 1) = ((j + 1 : Nat) : Int) := w64_nat hlt (by omega)
    have hw1 : w64 ((o.way.length : Int) - 1) = (o.way.length : Int) - 1 := w64_in (by omega)
    have ho' : getI w.orders (w64 (((i + 1 : Nat) : Int) - 1)) = some o := by rw [w64_in (by omega), show ((i + 1 : Nat) : Int) - 1 = (i : Int) by omega]; exact ho
    unfold m_impl_isOrder_b0
    simp only [decide_eq_true (show (j : Int) < o.way.length by omega), cond_true, hg, Option.bind_some, hj, hw1, isTrip_v hf.net hnet, tripB_v hf.net, hasBooking_v hf.bookings (books_uniq hb) ho', c3, hasTrip_v hf.closed]
    unfold wayC
    cases ht' : tripB w.network t with
    | false => simp
    | true =>
      obtain ⟨y, hy, _⟩ := tripB_leg hf.net ht'
      have hlt' : legTo w.network t = y.to_ := by unfold legTo; rw [hy]; rfl
      simp only [hy, Option.bind_some, hlt', Bool.not_true, cond_false]
      cases bookedB w.bookings ((i + 1 : Nat) : Int) t o.weight with
      | false => simp
      | true =>
        simp only [Bool.not_true, cond_false, Bool.true_and]
        generalize (if (o.way.length : Int) < comesV o then (o.way.length : Int) else comesV o) = k
        have hcc : closedB w.closed t = w.closed.any fun y => decide (y = t) := rfl
        rw [hcc]
        by_cases h3 : k ≤ (j : Int)
        · rw [decide_eq_true h3, cond_true]
          cases w.closed.any fun y => decide (y = t) with
          | true => simp
          | false =>
            simp only [cond_false]
            by_cases h1 : y.to_ = o.to_
            · by_cases h2 : j + 1 < o.way.length
              · simp [h1, h2, show (j : Int) < (o.way.length : Int) - 1 by omega]
              · simp [h1, h2, show ¬ (j : Int) < (o.way.length : Int) - 1 by omega]
            · simp [h1]
        · rw [decide_eq_false h3, cond_false]
          by_cases h1 : y.to_ = o.to_
          · by_cases h2 : j + 1 < o.way.length
            · simp [h1, h2, show (j : Int) < (o.way.length : Int) - 1 by omega]
            · simp [h1, h2, show ¬ (j : Int) < (o.way.length : Int) - 1 by omega]
          · simp [h1]
  · unfold m_impl_isOrder_b0
    simp
theorem way_state {o : YOrder} (hl : o.way.length ≤ 1048576) {i : Nat} (hg0 : 0 ≤ o.gone ∧ o.gone ≤ o.way.length) (h : allI (wayC w ((i + 1 : Nat) : Int) o) 0 o.way = true) : m_spec_l10State w.network o w.now = some ((m_spec_l10State w.network o w.now).getD false) := by
  obtain ⟨b, hb'⟩ := state_some (n := w.network) hg0 hl (fun t ht => by
    obtain ⟨j, hj, rfl⟩ := List.getElem_of_mem ht
    have := allI_iff.1 h j _ (List.getElem?_eq_getElem hj)
    unfold wayC at this
    simp only [Bool.and_eq_true] at this
    obtain ⟨y, hy, _⟩ := tripB_leg hf.net this.1.1
    exact ⟨y, hy⟩) w.now
  rw [hb']; rfl
theorem spec_order {o : YOrder} {i : Nat} (ho : getI w.orders (i : Int) = some o) : m_spec_l10Order w (i : Int) = some (orderV w i o) := by
  have hl := hf.way o (getI_mem ho)
  have hi : i < 1048576 := by have := (List.getElem?_eq_some_iff.1 (by rw [← getI_nat]; exact ho)).1; have := hf.orders; omega
  have hp := (places_eq hf.net).2
  have hpl := placesV_len w.network
  have hll := hf.net.legs
  unfold m_spec_l10Order orderV
  rw [ho, hp]
  simp only [Option.bind_some, l1In_v, l4Index_v (show (placesV w.network).length ≤ 4194304 by omega)]
  cases decide (idxV (placesV w.network) o.from_ < 0) with
  | true => rfl
  | false =>
  cases decide (idxV (placesV w.network) o.to_ < 0) with
  | true => rfl
  | false =>
  cases decide (o.from_ = o.to_) with
  | true => rfl
  | false =>
  simp only [cond_false, Bool.not_false, Bool.true_and]
  cases decide (1 ≤ o.service) && decide (o.service ≤ 3) with
  | false => rfl
  | true =>
  cases decide (1 ≤ o.weight) && decide (o.weight ≤ 30000) with
  | false => rfl
  | true =>
  cases decide (0 ≤ o.at_) && decide (o.at_ ≤ w.now) with
  | false => rfl
  | true =>
  cases decide (0 ≤ o.due) && decide (o.due ≤ 200000) with
  | false => rfl
  | true =>
  simp only [cond_false, Bool.not_true, Bool.true_and]
  cases hg : decide (0 ≤ o.gone) && decide (o.gone ≤ (o.way.length : Int)) with
  | false => rfl
  | true =>
  simp only [Bool.and_eq_true, decide_eq_true_iff] at hg
  obtain ⟨c1, c2, c3⟩ := comes_v hg hl
  simp only [Bool.not_true, cond_false, Bool.true_and]
  rw [way_spec hf hb hl i hi]
  cases hal : allI (wayC w ((i + 1 : Nat) : Int) o) 0 o.way with
  | false => rfl
  | true =>
  have hst := way_state hf hb hl hg hal
  obtain ⟨r, hr⟩ := isWay_some hf.net hl o.from_ (endV w.network o) (w64 (o.at_ + 1))
  simp only [if_true, Option.bind_some, selim, hr, Option.getD_some, Bool.true_and]
  cases r with
  | false => rfl
  | true =>
  rw [hst]
  simp only [Option.getD_some]
  cases (m_spec_l10State w.network o w.now).getD false with
  | false => rfl
  | true =>
  simp only [Bool.not_true, cond_false, Option.bind_some, c1, closed_loop hf.closed hl c2, Bool.true_and]
  cases (o.way.drop (comesV o).toNat).any (closedB w.closed) <;> rfl
theorem impl_order {o : YOrder} {i : Nat} (ho : getI w.orders (i : Int) = some o) : m_impl_isOrder w ((i + 1 : Nat) : Int) (placesV w.network) = some (orderV w i o) := by
  have hl := hf.way o (getI_mem ho)
  have hi : i < 1048576 := by have := (List.getElem?_eq_some_iff.1 (by rw [← getI_nat]; exact ho)).1; have := hf.orders; omega
  have hpl := placesV_len w.network
  have hll := hf.net.legs
  have ho' : getI w.orders (w64 (((i + 1 : Nat) : Int) - 1)) = some o := by rw [w64_in (by omega), show ((i + 1 : Nat) : Int) - 1 = (i : Int) by omega]; exact ho
  unfold m_impl_isOrder orderV
  rw [ho', within_eq, placeAt_eq]
  simp only [Option.bind_some, l1In_v, l4Index_v (show (placesV w.network).length ≤ 4194304 by omega)]
  cases decide (o.from_ = o.to_) with
  | true => simp only [cond_true, Bool.not_true, Bool.and_false, Bool.false_and]
  | false =>
  cases decide (idxV (placesV w.network) o.from_ < 0) with
  | true => rfl
  | false =>
  cases decide (idxV (placesV w.network) o.to_ < 0) with
  | true => rfl
  | false =>
  simp only [cond_false, Bool.not_false, Bool.true_and]
  cases decide (1 ≤ o.service) && decide (o.service ≤ 3) with
  | false => rfl
  | true =>
  cases decide (1 ≤ o.weight) && decide (o.weight ≤ 30000) with
  | false => rfl
  | true =>
  cases decide (0 ≤ o.at_) && decide (o.at_ ≤ w.now) with
  | false => rfl
  | true =>
  cases decide (0 ≤ o.due) && decide (o.due ≤ 200000) with
  | false => rfl
  | true =>
  simp only [cond_false, Bool.not_true, Bool.true_and]
  cases hg : decide (0 ≤ o.gone) && decide (o.gone ≤ (o.way.length : Int)) with
  | false => rfl
  | true =>
  simp only [Bool.and_eq_true, decide_eq_true_iff] at hg
  simp only [Bool.not_true, cond_false, Bool.true_and]
  rw [way_impl hf hb hl i hi ho hg]
  cases hal : allI (wayC w ((i + 1 : Nat) : Int) o) 0 o.way with
  | false => rfl
  | true =>
  have hst := way_state hf hb hl hg hal
  obtain ⟨r, hr⟩ := isWay_some hf.net hl o.from_ (endV w.network o) (w64 (o.at_ + 1))
  simp only [Bool.true_and]
  rw [hr]
  cases (o.way.drop (comesV o).toNat).any (closedB w.closed) with
  | true => simp
  | false =>
  simp only [Bool.not_false, if_true, Option.bind_some, selim, isWay_eq hf.net, hr, Option.getD_some, Bool.true_and, state_eq, Bool.and_true]
  cases r with
  | false => rfl
  | true =>
  rw [hst]
  rfl
end
end Go.Proofs.YtmcdjilbkmhfoaaGreat
namespace Go.Proofs.YtmcdjilbkmhfoaaGreat
set_option maxRecDepth 10000
open Go.RowKit
set_option linter.unusedVariables false
set_option linter.unusedSimpArgs false
set_option linter.unusedSectionVars false
def closedC (w : YWorld) (i : Nat) (t : YTrip) : Bool := tripB w.network t && !closedB (w.closed.take i) t
def scanC (w : YWorld) (i : Nat) (s : YScan) : Bool := (m_spec_IsScan w.network s).getD false && !decide (w.now < s.at_)
def tripsV (w : YWorld) : Int := w.orders.foldl (fun a o => w64 (a + (o.way.length : Int))) 0
def worldV (w : YWorld) : Bool :=
  booksV w.network w.bookings && (decide (0 ≤ w.now) && decide (w.now ≤ 100000)) && !decide (30 < (w.orders.length : Int)) && !decide (20 < (w.closed.length : Int)) && !decide (200 < (w.scans.length : Int)) && !decide (50 < (w.skip.length : Int)) && (decide ((w.scans.length : Int) ≤ w.made) && decide (w.made ≤ 1000000000)) &&
    allI (closedC w) 0 w.closed && allI (scanC w) 0 w.scans && allI (orderV w) 0 w.orders && decide (tripsV w = (w.bookings.length : Int))
theorem subL_take {α : Type} (xs : List α) (i : Nat) : subL xs 0 (i : Int) = xs.take i := by simp [subL]
section
variable {w : YWorld} (hf : WFit w) (hb : booksV w.network w.bookings = true)
include hf
theorem scan_v (s : YScan) : m_spec_IsScan w.network s = some ((m_spec_IsScan w.network s).getD false) := by
  obtain ⟨b, h⟩ := isScan_some hf.net s
  rw [h]; rfl
theorem closed_spec : iterF (m_spec_IsWorld_b0 w) NN 0 = some (if allI (closedC w) 0 w.closed = true then .inl () else .inr false) := by
  refine iter_fold (A := Unit) (fun _ i => i) _ (fun a _ => a) id (fun a i t ht => ?_) (fun a => ?_) (by have := hf.closed; unfold NN; omega) ()
  · have hlt := (List.getElem?_eq_some_iff.1 ht).1
    have hcl := hf.closed
    have hg : getI w.closed (i : Int) = some t := by rw [getI_nat]; exact ht
    have hi : w64 ((i : Int) + 1) = ((i + 1 : Nat) : Int) := w64_nat hlt (by omega)
    have hs : chk (slOk 0 (i : Int) w.closed.length) = some () := chk_t (by unfold slOk; rw [decide_eq_true_iff]; omega)
    unfold m_spec_IsWorld_b0
    simp only [decide_eq_true (show (i : Int) < w.closed.length by omega), cond_true, hg, Option.bind_some, hi, hs, tripB_v hf.net, subL_take, l6Closed_eq, hasTrip_v (show (w.closed.take i).length ≤ 1048576 by simp; omega)]
    unfold closedC
    have hcd : ((w.closed.take i).any fun y => decide (y = t)) = closedB (w.closed.take i) t := rfl
    rw [hcd]
    cases tripB w.network t <;> cases closedB (w.closed.take i) t <;> rfl
  · unfold m_spec_IsWorld_b0
    simp
theorem closed_impl (hb : booksV w.network w.bookings = true) : iterF (m_impl_IsWorld_b0 w) NN 0 = some (if allI (closedC w) 0 w.closed = true then .inl () else .inr false) := by
  have hnet := (books_net hb).1
  refine iter_fold (A := Unit) (fun _ i => i) _ (fun a _ => a) id (fun a i t ht => ?_) (fun a => ?_) (by have := hf.closed; unfold NN; omega) ()
  · have hlt := (List.getElem?_eq_some_iff.1 ht).1
    have hcl := hf.closed
    have hg : getI w.closed (i : Int) = some t := by rw [getI_nat]; exact ht
    have hi : w64 ((i : Int) + 1) = ((i + 1 : Nat) : Int) := w64_nat hlt (by omega)
    have hs : chk (slOk 0 (i : Int) w.closed.length) = some () := chk_t (by unfold slOk; rw [decide_eq_true_iff]; omega)
    unfold m_impl_IsWorld_b0
    simp only [decide_eq_true (show (i : Int) < w.closed.length by omega), cond_true, hg, Option.bind_some, hi, hs, isTrip_v hf.net hnet, tripB_v hf.net, subL_take, hasTrip_v (show (w.closed.take i).length ≤ 1048576 by simp; omega)]
    unfold closedC
    have hcd : ((w.closed.take i).any fun y => decide (y = t)) = closedB (w.closed.take i) t := rfl
    rw [hcd]
    cases tripB w.network t <;> cases closedB (w.closed.take i) t <;> rfl
  · unfold m_impl_IsWorld_b0
    simp
theorem scans_spec : iterF (m_spec_IsWorld_b1 w) NN 0 = some (if allI (scanC w) 0 w.scans = true then .inl () else .inr false) := by
  refine iter_fold (A := Unit) (fun _ i => i) _ (fun a _ => a) id (fun a i s hs => ?_) (fun a => ?_) (by have := hf.scans; unfold NN; omega) ()
  · have hlt := (List.getElem?_eq_some_iff.1 hs).1
    have hcl := hf.scans
    have hg : getI w.scans (i : Int) = some s := by rw [getI_nat]; exact hs
    have hi : w64 ((i : Int) + 1) = ((i + 1 : Nat) : Int) := w64_nat hlt (by omega)
    unfold m_spec_IsWorld_b1
    rw [decide_eq_true (show (i : Int) < w.scans.length by omega), cond_true, hg]
    simp only [Option.bind_some]
    rw [scan_v hf s]
    simp only [Option.bind_some, hi]
    unfold scanC
    cases (m_spec_IsScan w.network s).getD false <;> cases decide (w.now < s.at_) <;> rfl
  · unfold m_spec_IsWorld_b1
    simp
theorem scans_impl : iterF (m_impl_IsWorld_b1 w) NN 0 = some (if allI (scanC w) 0 w.scans = true then .inl () else .inr false) := by
  refine iter_fold (A := Unit) (fun _ i => i) _ (fun a _ => a) id (fun a i s hs => ?_) (fun a => ?_) (by have := hf.scans; unfold NN; omega) ()
  · have hlt := (List.getElem?_eq_some_iff.1 hs).1
    have hcl := hf.scans
    have hg : getI w.scans (i : Int) = some s := by rw [getI_nat]; exact hs
    have hi : w64 ((i : Int) + 1) = ((i + 1 : Nat) : Int) := w64_nat hlt (by omega)
    unfold m_impl_IsWorld_b1
    rw [decide_eq_true (show (i : Int) < w.scans.length by omega), cond_true, hg]
    simp only [Option.bind_some]
    rw [isScan_eq hf.net, scan_v hf s]
    simp only [Option.bind_some, hi]
    unfold scanC
    cases (m_spec_IsScan w.network s).getD false <;> cases decide (w.now < s.at_) <;> rfl
  · unfold m_impl_IsWorld_b1
    simp
include hb
theorem orders_spec : iterF (m_spec_IsWorld_b2 w) NN (0, 0) = some (if allI (orderV w) 0 w.orders = true then .inl (tripsV w) else .inr false) := by
  refine iter_fold (A := Int) (fun a i => (a, i)) _ (fun a (o : YOrder) => w64 (a + (o.way.length : Int))) id (fun a i o ho => ?_) (fun a => ?_) (by have := hf.orders; unfold NN; omega) 0
  · have hlt := (List.getElem?_eq_some_iff.1 ho).1
    have hcl := hf.orders
    have hg : getI w.orders (i : Int) = some o := by rw [getI_nat]; exact ho
    have hi : w64 ((i : Int) + 1) = ((i + 1 : Nat) : Int) := w64_nat hlt (by omega)
    unfold m_spec_IsWorld_b2
    simp only [decide_eq_true (show (i : Int) < w.orders.length by omega), cond_true, hg, Option.bind_some, hi, spec_order hf hb hg]
    cases orderV w i o <;> rfl
  · unfold m_spec_IsWorld_b2
    simp
theorem orders_impl : iterF (m_impl_IsWorld_b2 w (placesV w.network)) NN (0, 0) = some (if allI (orderV w) 0 w.orders = true then .inl (tripsV w) else .inr false) := by
  refine iter_fold (A := Int) (fun a i => (a, i)) _ (fun a (o : YOrder) => w64 (a + (o.way.length : Int))) id (fun a i o ho => ?_) (fun a => ?_) (by have := hf.orders; unfold NN; omega) 0
  · have hlt := (List.getElem?_eq_some_iff.1 ho).1
    have hcl := hf.orders
    have hg : getI w.orders (i : Int) = some o := by rw [getI_nat]; exact ho
    have hi : w64 ((i : Int) + 1) = ((i + 1 : Nat) : Int) := w64_nat hlt (by omega)
    unfold m_impl_IsWorld_b2
    simp only [decide_eq_true (show (i : Int) < w.orders.length by omega), cond_true, hg, Option.bind_some, hi, impl_order hf hb hg]
    cases orderV w i o <;> rfl
  · unfold m_impl_IsWorld_b2
    simp
end
theorem ite_sel {γ : Type} {b : Bool} {x : γ} {K : γ → Option Bool} {r : Bool} (h : b = true → K x = some r) (h' : b = false → r = false) : (some (if b = true then (Sum.inl x : γ ⊕ Bool) else .inr false)).bind (selim K (fun r => some r)) = some r := by
  cases b with
  | true => exact h rfl
  | false => rw [h' rfl]; rfl
theorem spec_world {w : YWorld} (hf : WFit w) : m_spec_IsWorld w = some (worldV w) := by
  unfold m_spec_IsWorld worldV
  rw [specBooks_v hf.net hf.bookings]
  simp only [Option.bind_some, l1In_v]
  cases hb : booksV w.network w.bookings with
  | false => rfl
  | true =>
  cases decide (0 ≤ w.now) && decide (w.now ≤ 100000) with
  | false => rfl
  | true =>
  cases decide (30 < (w.orders.length : Int)) with
  | true => rfl
  | false =>
  cases decide (20 < (w.closed.length : Int)) with
  | true => rfl
  | false =>
  cases decide (200 < (w.scans.length : Int)) with
  | true => rfl
  | false =>
  cases decide (50 < (w.skip.length : Int)) with
  | true => rfl
  | false =>
  cases decide ((w.scans.length : Int) ≤ w.made) && decide (w.made ≤ 1000000000) with
  | false => rfl
  | true =>
  simp only [Bool.not_true, Bool.not_false, cond_false, Bool.true_and]
  rw [closed_spec hf, scans_spec hf, orders_spec hf hb]
  refine ite_sel (fun h1 => ?_) (fun h1 => by rw [h1]; rfl)
  refine ite_sel (fun h2 => ?_) (fun h2 => by rw [h1, h2]; rfl)
  refine ite_sel (fun h3 => ?_) (fun h3 => by rw [h1, h2, h3]; rfl)
  rw [h1, h2, h3]; rfl
theorem impl_world {w : YWorld} (hf : WFit w) : m_impl_IsWorld w = some (worldV w) := by
  unfold m_impl_IsWorld worldV
  rw [implBooks_v hf.net hf.bookings, within_eq]
  simp only [Option.bind_some, l1In_v]
  cases hb : booksV w.network w.bookings with
  | false => rfl
  | true =>
  cases decide (0 ≤ w.now) && decide (w.now ≤ 100000) with
  | false => rfl
  | true =>
  cases decide (30 < (w.orders.length : Int)) with
  | true => rfl
  | false =>
  cases decide (20 < (w.closed.length : Int)) with
  | true => rfl
  | false =>
  cases decide (200 < (w.scans.length : Int)) with
  | true => rfl
  | false =>
  cases decide (50 < (w.skip.length : Int)) with
  | true => rfl
  | false =>
  cases decide ((w.scans.length : Int) ≤ w.made) && decide (w.made ≤ 1000000000) with
  | false => rfl
  | true =>
  simp only [Bool.not_true, Bool.not_false, cond_false, Bool.true_and]
  rw [closed_impl hf hb, scans_impl hf, impl_places hf.net]
  simp only [Option.bind_some]
  rw [orders_impl hf hb]
  refine ite_sel (fun h1 => ?_) (fun h1 => by rw [h1]; rfl)
  refine ite_sel (fun h2 => ?_) (fun h2 => by rw [h1, h2]; rfl)
  refine ite_sel (fun h3 => ?_) (fun h3 => by rw [h1, h2, h3]; rfl)
  rw [h1, h2, h3]; rfl
theorem world_order {w : YWorld} (h : worldV w = true) {i : Nat} {o : YOrder} (ho : w.orders[i]? = some o) : orderV w i o = true := by
  unfold worldV at h
  simp only [Bool.and_eq_true] at h
  have := allI_iff.1 h.1.2 i o ho
  rwa [Nat.zero_add] at this
theorem world_books {w : YWorld} (h : worldV w = true) : booksV w.network w.bookings = true := by
  unfold worldV at h
  simp only [Bool.and_eq_true] at h
  exact h.1.1.1.1.1.1.1.1.1.1
end Go.Proofs.YtmcdjilbkmhfoaaGreat
namespace Go.Proofs.YtmcdjilbkmhfoaaGreat
set_option maxRecDepth 10000
open Go.RowKit
set_option linter.unusedVariables false
set_option maxHeartbeats 16000000
def m_impl_nextEvent_b0 (w : YWorld) (s0 : Int × Int) : Option ((Int × Int) ⊕ Int) :=
 cond (decide (s0.2 < (w.orders.length : Int)))
 ((getI w.orders s0.2).bind fun y1 =>
 cond (decide (y1.state = 2))
 ((getI y1.way y1.gone).bind fun y2 =>
 (m_impl_ends w.network y2).bind fun y3 =>
 cond (decide (0 ≤ y3))
 (cond (decide (s0.1 < 0))
 (some (.inl (y3, (w64 (s0.2 + 1)))))
 (cond (decide (y3 < s0.1))
 (some (.inl (y3, (w64 (s0.2 + 1)))))
 (some (.inl (s0.1, (w64 (s0.2 + 1)))))))
 (some (.inl (s0.1, (w64 (s0.2 + 1))))))
 (cond (decide (y1.state = 1))
 (cond (decide (y1.gone < (y1.way.length : Int)))
 ((getI y1.way y1.gone).bind fun y4 =>
 (m_impl_starts w.network y4).bind fun y5 =>
 cond (decide (0 ≤ y5))
 (cond (decide (s0.1 < 0))
 (some (.inl (y5, (w64 (s0.2 + 1)))))
 (cond (decide (y5 < s0.1))
 (some (.inl (y5, (w64 (s0.2 + 1)))))
 (some (.inl (s0.1, (w64 (s0.2 + 1)))))))
 (some (.inl (s0.1, (w64 (s0.2 + 1))))))
 (cond (decide (0 ≤ (-1)))
 (cond (decide (s0.1 < 0))
 (some (.inl ((-1), (w64 (s0.2 + 1)))))
 (cond (decide ((-1) < s0.1))
 (some (.inl ((-1), (w64 (s0.2 + 1)))))
 (some (.inl (s0.1, (w64 (s0.2 + 1)))))))
 (some (.inl (s0.1, (w64 (s0.2 + 1)))))))
 (cond (decide (0 ≤ (-1)))
 (cond (decide (s0.1 < 0))
 (some (.inl ((-1), (w64 (s0.2 + 1)))))
 (cond (decide ((-1) < s0.1))
 (some (.inl ((-1), (w64 (s0.2 + 1)))))
 (some (.inl (s0.1, (w64 (s0.2 + 1)))))))
 (some (.inl (s0.1, (w64 (s0.2 + 1))))))))
 (some (.inr s0.1))
instance (w : YWorld) : LoopE (m_impl_nextEvent_b0 w) := ⟨fun s0 => (.un :: .be 0 0 0 :: .un :: vi s0.1 :: .un :: .un :: .un :: .un :: .sl (w.orders.map cOrder) :: vi (w.orders.length : Int) :: vi s0.2 :: .un :: .un :: .un :: .un :: .un :: .un :: .un :: .un :: .un :: .un :: .un :: .un :: .un :: .un :: .un :: .un :: .un :: .un :: .un :: .un :: .un :: .un :: .un :: .un :: .un :: .un :: .un :: .un :: .un :: .un :: .un :: .un :: .un :: .un :: .un :: .un :: .un :: .un :: .un :: .un :: .un :: .un :: .un :: .un :: .un :: .un :: .un :: .un :: .un :: .un :: .un :: []), fun s0 => [some ⟨41, 10, [[.sl (w.network.legs.map cLeg), .sl (w.network.off.map cInt), vi w.network.change, .sl (w.orders.map cOrder), .sl (w.bookings.map cBooking), .sl (w.closed.map cTrip), vi w.now, .sl (w.scans.map cScan), .sl (w.skip.map cInt), vi w.made]]⟩]⟩
def m_impl_nextEvent (w : YWorld) : Option Int :=
 (iterF (m_impl_nextEvent_b0 w) NN ((-1), 0)).bind (fun o0 =>
 some o0)
theorem ok_impl_nextEvent (w : YWorld) {r : Int} (H : m_impl_nextEvent w = some r) : CallM Tryz.prog 82 [.ag (cWorld w)] [] (vi r) [] := by
  replace H := H0 H
  unfold m_impl_nextEvent at H
  refine callM_of Tryz.func82 rfl Tryz.ntmps82 Tryz.results82 fun Q hQ hQn => ?_
  exact wk
instance (w : YWorld) : CT Tryz.prog (m_impl_nextEvent w) := ⟨82, [.ag (cWorld w)], [], fun r => vi r, fun r => [], ok_impl_nextEvent w⟩
end Go.Proofs.YtmcdjilbkmhfoaaGreat
namespace Go.Proofs.YtmcdjilbkmhfoaaGreat
set_option maxRecDepth 10000
open Go.RowKit
set_option linter.unusedVariables false
set_option linter.unusedSimpArgs false
set_option linter.unusedSectionVars false
structure LegOk (l : YLeg) : Prop where
  start : 0 ≤ l.start ∧ l.start ≤ 1439
  takes : 1 ≤ l.takes ∧ l.takes ≤ 4320
  room : 0 ≤ l.room ∧ l.room ≤ 1000000
theorem isLeg_ok {l : YLeg} (h : legFit l) (hv : m_spec_IsLeg l = some true) : LegOk l := by
  obtain ⟨_, b1, s1⟩ := isPlace_eq (s := l.from_) h.1
  obtain ⟨_, b2, s2⟩ := isPlace_eq (s := l.to_) h.2
  unfold m_spec_IsLeg at hv
  rw [s1, s2] at hv
  simp only [Option.bind_some, l1In_v] at hv
  cases b1 with
  | false => simp at hv
  | true =>
  cases b2 with
  | false => simp at hv
  | true =>
  simp only [cond_true] at hv
  cases h1 : decide (l.from_ = l.to_) with
  | true => rw [h1] at hv; simp at hv
  | false =>
  rw [h1] at hv
  cases h2 : decide (0 ≤ l.start) && decide (l.start ≤ 1439) with
  | false => rw [h2] at hv; simp at hv
  | true =>
  rw [h2] at hv
  cases h3 : decide (1 ≤ l.takes) && decide (l.takes ≤ 4320) with
  | false => rw [h3] at hv; simp at hv
  | true =>
  rw [h3] at hv
  cases h4 : decide (1 ≤ l.days) && decide (l.days ≤ 127) with
  | false => rw [h4] at hv; simp at hv
  | true =>
  rw [h4] at hv
  cases h5 : decide (0 ≤ l.room) && decide (l.room ≤ 1000000) with
  | false => rw [h5] at hv; simp at hv
  | true =>
  simp only [Bool.and_eq_true, decide_eq_true_iff] at h2 h3 h5
  exact ⟨h2, h3, h5⟩
theorem net_leg {n : YNetwork} (h : NetFit n) (hn : m_spec_IsNetwork n = some true) : ∀ l ∈ n.legs, LegOk l := by
  have e : iterF (m_spec_IsNetwork_b0 n) NN 0 = some (if allI (fun _ l => (m_spec_IsLeg l).getD false) 0 n.legs = true then .inl () else .inr false) := by
    refine iter_fold (A := Unit) (fun _ i => i) _ (fun a _ => a) id (fun a i l hl => ?_) (fun a => ?_) (by have := h.legs; unfold NN; omega) ()
    · have hlt := (List.getElem?_eq_some_iff.1 hl).1
      have hcl := h.legs
      have hg : getI n.legs (i : Int) = some l := by rw [getI_nat]; exact hl
      have hi : w64 ((i : Int) + 1) = ((i + 1 : Nat) : Int) := w64_nat hlt (by omega)
      obtain ⟨_, b, hb⟩ := isLeg_eq (h.leg l (List.mem_of_getElem? hl))
      unfold m_spec_IsNetwork_b0
      simp only [decide_eq_true (show (i : Int) < n.legs.length by omega), cond_true, hg, Option.bind_some, hb, hi, Option.getD_some]
      cases b <;> rfl
    · unfold m_spec_IsNetwork_b0
      simp
  unfold m_spec_IsNetwork at hn
  rw [e] at hn
  by_cases ha : allI (fun _ l => (m_spec_IsLeg l).getD false) 0 n.legs = true
  · intro l hl
    obtain ⟨i, hi, rfl⟩ := List.getElem_of_mem hl
    have := allI_iff.1 ha i _ (List.getElem?_eq_getElem hi)
    obtain ⟨_, b, hb⟩ := isLeg_eq (h.leg _ (List.getElem_mem hi))
    rw [hb] at this
    simp at this
    subst this
    exact isLeg_ok (h.leg _ (List.getElem_mem hi)) hb
  · rw [if_neg ha] at hn
    simp at hn
theorem trip_day {n : YNetwork} {t : YTrip} (ht : tripB n t = true) : 0 ≤ t.day ∧ t.day ≤ 60 := by
  unfold tripB m_spec_l3Runs at ht
  rw [l1In_v, l1In_v] at ht
  simp only [Option.bind_some] at ht
  cases h1 : decide (0 ≤ t.leg) && decide (t.leg ≤ w64 ((n.legs.length : Int) - 1)) with
  | false => rw [h1] at ht; simp at ht
  | true =>
  rw [h1] at ht
  simp only [cond_true] at ht
  cases h2 : decide (0 ≤ t.day) && decide (t.day ≤ 60) with
  | false => rw [h2] at ht; simp at ht
  | true => simpa only [Bool.and_eq_true, decide_eq_true_iff] using h2
def startV (n : YNetwork) (t : YTrip) : Int := (m_spec_l3Starts n t).getD 0
def endsV (n : YNetwork) (t : YTrip) : Int := (m_spec_l3Ends n t).getD 0
theorem trip_time {n : YNetwork} (h : NetFit n) (hn : m_spec_IsNetwork n = some true) {t : YTrip} (ht : tripB n t = true) :
    m_spec_l3Starts n t = some (startV n t) ∧ m_spec_l3Ends n t = some (endsV n t) ∧ 0 ≤ startV n t ∧ startV n t < endsV n t ∧ endsV n t ≤ 100000 := by
  obtain ⟨y, hy, hm⟩ := tripB_leg h ht
  obtain ⟨d0, d1⟩ := trip_day ht
  have hl := net_leg h hn y hm
  obtain ⟨a0, a1⟩ := hl.start
  obtain ⟨b0, b1⟩ := hl.takes
  have e1 : m_spec_l3Starts n t = some (t.day * 1440 + y.start) := by
    unfold m_spec_l3Starts
    rw [hy]
    simp only [Option.bind_some]
    rw [w64_in (n := t.day * 1440) (by omega), w64_in (by omega)]
  have e2 : m_spec_l3Ends n t = some (t.day * 1440 + y.start + y.takes) := by
    unfold m_spec_l3Ends
    rw [e1, hy]
    simp only [Option.bind_some]
    rw [w64_in (by omega)]
  have s1 : startV n t = t.day * 1440 + y.start := by unfold startV; rw [e1]; rfl
  have s2 : endsV n t = t.day * 1440 + y.start + y.takes := by unfold endsV; rw [e2]; rfl
  refine ⟨by rw [e1, s1], by rw [e2, s2], by omega, by omega, by omega⟩
theorem state_cases {n : YNetwork} {o : YOrder} {now : Int} (h : m_spec_l10State n o now = some true) : (o.state = 1 ∧ ¬ (o.place = o.to_)) ∨ (o.state = 2 ∧ o.gone < o.way.length) ∨ (o.state = 3 ∧ o.gone = o.way.length ∧ 0 < o.gone) := by
  by_cases h1 : o.state = 1
  · refine .inl ⟨h1, fun hp => ?_⟩
    unfold m_spec_l10State at h
    rw [decide_eq_true h1] at h
    cases h0 : decide (0 < o.gone) with
    | false =>
      rw [h0] at h
      simp only [cond_false, cond_true] at h
      cases hq : decide (o.place = o.from_) with
      | false => rw [hq] at h; cases h
      | true =>
        rw [hq, decide_eq_true (show o.from_ = o.to_ from (of_decide_eq_true hq).symm.trans hp)] at h
        cases h
    | true =>
      rw [h0] at h
      simp only [cond_false, cond_true] at h
      cases hg : getI o.way (w64 (o.gone - 1)) with
      | none => rw [hg] at h; cases h
      | some y1 =>
        rw [hg] at h
        simp only [Option.bind_some] at h
        cases hl : getI n.legs y1.leg with
        | none => rw [hl] at h; cases h
        | some y2 =>
          rw [hl] at h
          simp only [Option.bind_some] at h
          cases he : m_spec_l3Ends n y1 with
          | none => rw [he] at h; cases h
          | some v =>
            rw [he] at h
            simp only [Option.bind_some] at h
            cases hc : decide (now < v) with
            | true => rw [hc] at h; cases h
            | false =>
              rw [hc] at h
              simp only [cond_false] at h
              cases hq : decide (o.place = y2.to_) with
              | false => rw [hq] at h; cases h
              | true =>
                rw [hq, decide_eq_true (show y2.to_ = o.to_ from (of_decide_eq_true hq).symm.trans hp)] at h
                cases h
  · by_cases h2 : o.state = 2
    · refine .inr (.inl ⟨h2, ?_⟩)
      rcases Classical.em (o.gone < o.way.length) with hlt | hlt
      · exact hlt
      exfalso
      unfold m_spec_l10State at h
      rw [decide_eq_false h1, decide_eq_true h2, decide_eq_false hlt] at h
      cases h0 : decide (0 < o.gone) with
      | false =>
        rw [h0] at h
        simp only [cond_false, cond_true] at h
        revert h; cases decide (o.place = ⟨#[]⟩) <;> cases decide (o.ended = 0) <;> (intro h; cases h)
      | true =>
        rw [h0] at h
        simp only [cond_false, cond_true] at h
        cases hg : getI o.way (w64 (o.gone - 1)) with
        | none => rw [hg] at h; cases h
        | some y1 =>
          rw [hg] at h
          simp only [Option.bind_some] at h
          cases hl : getI n.legs y1.leg with
          | none => rw [hl] at h; cases h
          | some y2 =>
            rw [hl] at h
            simp only [Option.bind_some] at h
            cases he : m_spec_l3Ends n y1 with
            | none => rw [he] at h; cases h
            | some v =>
              rw [he] at h
              simp only [Option.bind_some] at h
              revert h; cases decide (now < v) <;> cases decide (o.place = ⟨#[]⟩) <;> cases decide (o.ended = 0) <;> (intro h; cases h)
    · by_cases h3 : o.state = 3
      · refine .inr (.inr ⟨h3, ?_⟩)
        rcases Classical.em (o.gone = o.way.length ∧ 0 < o.gone) with hlt | hlt
        · exact hlt
        exfalso
        unfold m_spec_l10State at h
        rw [decide_eq_false h1, decide_eq_false h2, decide_eq_true h3] at h
        cases h0 : decide (0 < o.gone) with
        | false =>
          rw [h0] at h
          simp only [cond_false, cond_true] at h
          revert h; cases decide (o.place = o.to_) <;> cases decide (o.from_ = o.to_) <;> cases decide (o.gone = (o.way.length : Int)) <;> (intro h; cases h)
        | true =>
          have hne : ¬ o.gone = (o.way.length : Int) := fun e => hlt ⟨e, of_decide_eq_true h0⟩
          rw [h0, decide_eq_false hne] at h
          simp only [cond_false, cond_true] at h
          cases hg : getI o.way (w64 (o.gone - 1)) with
          | none => rw [hg] at h; cases h
          | some y1 =>
            rw [hg] at h
            simp only [Option.bind_some] at h
            cases hl : getI n.legs y1.leg with
            | none => rw [hl] at h; cases h
            | some y2 =>
              rw [hl] at h
              simp only [Option.bind_some] at h
              cases he : m_spec_l3Ends n y1 with
              | none => rw [he] at h; cases h
              | some v =>
                rw [he] at h
                simp only [Option.bind_some] at h
                revert h; cases decide (now < v) <;> cases decide (o.place = o.to_) <;> cases decide (y2.to_ = o.to_) <;> (intro h; cases h)
      · exfalso
        unfold m_spec_l10State at h
        rw [decide_eq_false h1, decide_eq_false h2, decide_eq_false h3] at h
        cases h0 : decide (0 < o.gone) with
        | false => rw [h0] at h; cases h
        | true =>
          rw [h0] at h
          simp only [cond_false, cond_true] at h
          cases hg : getI o.way (w64 (o.gone - 1)) with
          | none => rw [hg] at h; cases h
          | some y1 =>
            rw [hg] at h
            simp only [Option.bind_some] at h
            cases hl : getI n.legs y1.leg with
            | none => rw [hl] at h; cases h
            | some y2 =>
              rw [hl] at h
              simp only [Option.bind_some] at h
              cases he : m_spec_l3Ends n y1 with
              | none => rw [he] at h; cases h
              | some v =>
                rw [he] at h
                simp only [Option.bind_some] at h
                revert h; cases decide (now < v) <;> (intro h; cases h)
structure OrderOk (w : YWorld) (i : Nat) (o : YOrder) : Prop where
  gone : 0 ≤ o.gone ∧ o.gone ≤ o.way.length
  trip : ∀ t ∈ o.way, tripB w.network t = true
  way : allI (wayC w ((i + 1 : Nat) : Int) o) 0 o.way = true
  isWay : m_spec_IsWay w.network o.way o.from_ (endV w.network o) (w64 (o.at_ + 1)) = some true
  st : m_spec_l10State w.network o w.now = some true
  cases : (o.state = 1 ∧ ¬ (o.place = o.to_)) ∨ (o.state = 2 ∧ o.gone < o.way.length) ∨ (o.state = 3 ∧ o.gone = o.way.length ∧ 0 < o.gone)
  open_ : ((o.way.drop (comesV o).toNat).any (closedB w.closed)) = false
  fromto : ¬ o.from_ = o.to_
  at_ : 0 ≤ o.at_ ∧ o.at_ ≤ w.now
  due : 0 ≤ o.due ∧ o.due ≤ 200000
theorem order_ok {w : YWorld} (hf : WFit w) {i : Nat} {o : YOrder} (hl : o.way.length ≤ 1048576) (h : orderV w i o = true) : OrderOk w i o := by
  unfold orderV at h
  simp only [Bool.and_eq_true, Bool.not_eq_true', decide_eq_true_iff, decide_eq_false_iff_not] at h
  obtain ⟨⟨⟨⟨⟨⟨⟨⟨⟨⟨⟨h1, h2⟩, h3⟩, h4⟩, h5⟩, h6⟩, h7⟩, h8⟩, h9⟩, h10⟩, h11⟩, h12⟩ := h
  have ht : ∀ t ∈ o.way, tripB w.network t = true := by
    intro t ht
    obtain ⟨j, hj, rfl⟩ := List.getElem_of_mem ht
    have := allI_iff.1 h9 j _ (List.getElem?_eq_getElem hj)
    unfold wayC at this
    simp only [Bool.and_eq_true] at this
    exact this.1.1
  obtain ⟨r, hr⟩ := isWay_some hf.net hl o.from_ (endV w.network o) (w64 (o.at_ + 1))
  obtain ⟨b, hb⟩ := state_some (n := w.network) h8 hl (fun t htt => by obtain ⟨y, hy, _⟩ := tripB_leg hf.net (ht t htt); exact ⟨y, hy⟩) w.now
  rw [hr] at h10
  rw [hb] at h11
  simp only [Option.getD_some] at h10 h11
  subst h10 h11
  exact ⟨h8, ht, h9, hr, hb, state_cases hb, h12, h3, h6, h7⟩
section
variable {w : YWorld} (hf : WFit w) (hv : worldV w = true)
include hf hv
theorem world_ok {i : Nat} {o : YOrder} (ho : w.orders[i]? = some o) : OrderOk w i o := order_ok hf (hf.way o (List.mem_of_getElem? ho)) (world_order hv ho)
theorem world_net : m_spec_IsNetwork w.network = some true := (books_net (world_books hv)).1
theorem way_at {o : YOrder} {i : Nat} (ho : w.orders[i]? = some o) {k : Int} (h0 : 0 ≤ k) (h1 : k < o.way.length) : ∃ t, getI o.way k = some t ∧ tripB w.network t = true := by
  have hlt : k.toNat < o.way.length := by omega
  exact ⟨o.way[k.toNat], by unfold getI; rw [if_pos h0]; exact List.getElem?_eq_getElem hlt, (world_ok hf hv ho).trip _ (List.getElem_mem hlt)⟩
end
end Go.Proofs.YtmcdjilbkmhfoaaGreat
namespace Go.Proofs.YtmcdjilbkmhfoaaGreat
set_option maxRecDepth 10000
open Go.RowKit
set_option linter.unusedVariables false
set_option linter.unusedSimpArgs false
set_option linter.unusedSectionVars false
theorem iter_post {σ ο : Type} {body : σ → Option (σ ⊕ ο)} {P : ο → Prop} (h : ∀ s o, body s = some (.inr o) → P o) : ∀ (N : Nat) (s : σ) (o : ο), iterF body N s = some o → P o
  | 0, s, o, he => by simp [iterF] at he
  | N + 1, s, o, he => by
    simp only [iterF] at he
    cases hb : body s with
    | none => rw [hb] at he; cases he
    | some x =>
      rw [hb] at he
      cases x with
      | inl s' => exact iter_post h N s' o he
      | inr r => obtain rfl : r = o := by simpa [selim] using he
                 exact h s r hb
theorem net_all {n : YNetwork} (hn : m_spec_IsNetwork n = some true) : (0 ≤ n.change ∧ n.change ≤ 240) ∧ n.legs.length ≤ 20 ∧ n.off.length ≤ 10 := by
  unfold m_spec_IsNetwork at hn
  have p0 : ∀ (N : Nat) (s : Int) (o : Unit ⊕ Bool), iterF (m_spec_IsNetwork_b0 n) N s = some o → o = .inl () ∨ o = .inr false := by
    refine iter_post fun s o h => ?_
    unfold m_spec_IsNetwork_b0 at h
    cases hd : decide (s < (n.legs.length : Int)) with
    | false => rw [hd] at h; cases h; exact .inl rfl
    | true =>
      rw [hd, cond_true] at h
      cases hg : getI n.legs s with
      | none => rw [hg] at h; cases h
      | some y =>
        rw [hg, Option.bind_some] at h
        cases hl : m_spec_IsLeg y with
        | none => rw [hl] at h; cases h
        | some b => rw [hl, Option.bind_some] at h; cases b <;> cases h; exact .inr rfl
  have p1 : ∀ (N : Nat) (s : Int) (o : Unit ⊕ Bool), iterF (m_spec_IsNetwork_b1 n) N s = some o → o = .inl () ∨ o = .inr false := by
    refine iter_post fun s o h => ?_
    unfold m_spec_IsNetwork_b1 at h
    cases hd : decide (s < (n.off.length : Int)) with
    | false => rw [hd] at h; cases h; exact .inl rfl
    | true =>
      rw [hd, cond_true] at h
      cases hg : getI n.off s with
      | none => rw [hg] at h; cases h
      | some y =>
        rw [hg, Option.bind_some, l1In_v, Option.bind_some] at h
        cases hb : decide (0 ≤ y) && decide (y ≤ 60) with
        | false => rw [hb] at h; cases h; exact .inr rfl
        | true =>
          rw [hb] at h
          cases hs : decide (0 < s) with
          | false => rw [hs] at h; cases h
          | true =>
            rw [hs] at h
            simp only [Bool.not_true, cond_false, cond_true] at h
            cases hg2 : getI n.off (w64 (s - 1)) with
            | none => rw [hg2] at h; cases h
            | some z =>
              rw [hg2] at h
              simp only [Option.bind_some] at h
              cases hz : decide (y ≤ z) with
              | false => rw [hz] at h; cases h
              | true => rw [hz] at h; cases h; exact .inr rfl
  cases h0 : iterF (m_spec_IsNetwork_b0 n) NN 0 with
  | none => rw [h0] at hn; cases hn
  | some r0 =>
  rw [h0] at hn
  rcases p0 _ _ _ h0 with rfl | rfl
  · simp only [Option.bind_some, selim] at hn
    cases h1 : iterF (m_spec_IsNetwork_b1 n) NN 0 with
    | none => rw [h1] at hn; cases hn
    | some r1 =>
    rw [h1] at hn
    rcases p1 _ _ _ h1 with rfl | rfl
    · simp only [Option.bind_some, selim, l1In_v] at hn
      cases h2 : decide ((n.legs.length : Int) ≤ 20) with
      | false => rw [h2] at hn; cases hn
      | true =>
      cases h3 : decide ((n.off.length : Int) ≤ 10) with
      | false => rw [h2, h3] at hn; cases hn
      | true =>
      rw [h2, h3] at hn
      simp only [cond_true] at hn
      have := Option.some.inj hn
      have h2 := of_decide_eq_true h2
      have h3 := of_decide_eq_true h3
      exact ⟨by simpa only [Bool.and_eq_true, decide_eq_true_iff] using this, by omega, by omega⟩
    · cases hn
  · cases hn
theorem net_change {n : YNetwork} (hn : m_spec_IsNetwork n = some true) : 0 ≤ n.change ∧ n.change ≤ 240 := (net_all hn).1
theorem net_legs {n : YNetwork} (hn : m_spec_IsNetwork n = some true) : n.legs.length ≤ 20 := (net_all hn).2.1
def legFrom (n : YNetwork) (t : YTrip) : ByteArray := ((getI n.legs t.leg).map (·.from_)).getD ⟨#[]⟩
def chainV (n : YNetwork) : ByteArray → Int → List YTrip → Prop
  | _, _, [] => True
  | p, a, t :: ts => tripB n t = true ∧ legFrom n t = p ∧ a ≤ startV n t ∧ chainV n (legTo n t) (endsV n t + n.change) ts
theorem isTrip_s {n : YNetwork} (h : NetFit n) (hn : m_spec_IsNetwork n = some true) (t : YTrip) : m_spec_IsTrip n t = some (tripB n t) := by
  rw [← (isTrip_eq h t).1, isTrip_v h hn, tripB_v h]
theorem isWay_chain {n : YNetwork} (hf : NetFit n) (hn : m_spec_IsNetwork n = some true) {way : List YTrip} (hl : way.length ≤ 1048576) {a b : ByteArray} {t : Int} (h : m_spec_IsWay n way a b t = some true) : chainV n a t way := by
  obtain ⟨ch0, ch1⟩ := net_change hn
  have hpl := placesV_len n
  have hll := hf.legs
  let F : Nat → ByteArray × Int → YTrip → Option ((ByteArray × Int) ⊕ (ByteArray ⊕ Bool)) := fun _ p t =>
    some (if tripB n t = true ∧ legFrom n t = p.1 ∧ p.2 ≤ startV n t then .inl (legTo n t, endsV n t + n.change) else .inr (.inr false))
  have e1 : iterF (m_spec_IsWay_b0 n way b) NN (a, t, 0) = runL F (fun p => some (.inl p.1)) 0 way (a, t) := by
    refine iter_list (A := ByteArray × Int) (fun p i => (p.1, p.2, i)) F (fun p => some (.inl p.1)) (fun p i x hx => ?_) (fun p => ?_) (by unfold NN; omega) (a, t)
    · have hlt := (List.getElem?_eq_some_iff.1 hx).1
      have hg : getI way (i : Int) = some x := by rw [getI_nat]; exact hx
      have hi : w64 ((i : Int) + 1) = ((i + 1 : Nat) : Int) := w64_nat hlt (by omega)
      unfold m_spec_IsWay_b0
      simp only [decide_eq_true (show (i : Int) < way.length by omega), cond_true, hg, Option.bind_some, hi, isTrip_s hf hn, F]
      cases ht : tripB n x with
      | false => simp [selim]
      | true =>
        obtain ⟨y, hy, _⟩ := tripB_leg hf ht
        obtain ⟨t1, t2, t3, t4, t5⟩ := trip_time hf hn ht
        have f1 : legFrom n x = y.from_ := by unfold legFrom; rw [hy]; rfl
        have f2 : legTo n x = y.to_ := by unfold legTo; rw [hy]; rfl
        have hw : w64 (endsV n x + n.change) = endsV n x + n.change := w64_in (by omega)
        simp only [hy, Option.bind_some, t1, t2, f1, f2, hw, Bool.not_true, cond_false, true_and]
        by_cases h1 : y.from_ = p.1
        · by_cases h2 : startV n x < p.2
          · rw [decide_eq_true h1, decide_eq_true h2, if_neg (show ¬ (y.from_ = p.1 ∧ p.2 ≤ startV n x) by omega)]; rfl
          · rw [decide_eq_true h1, decide_eq_false h2, if_pos ⟨h1, by omega⟩]; rfl
        · rw [decide_eq_false h1, if_neg (fun h => h1 h.1)]; rfl
    · unfold m_spec_IsWay_b0
      simp
  have key : ∀ (ts : List YTrip) (i : Nat) (p : ByteArray × Int) (r : ByteArray), runL F (fun p => some (.inl p.1)) i ts p = some (.inl r) → chainV n p.1 p.2 ts := by
    intro ts
    induction ts with
    | nil => intro i p r h; trivial
    | cons x ts ih =>
      intro i p r h
      simp only [runL, F] at h
      by_cases hc : tripB n x = true ∧ legFrom n x = p.1 ∧ p.2 ≤ startV n x
      · rw [if_pos hc] at h
        exact ⟨hc.1, hc.2.1, hc.2.2, ih (i + 1) (legTo n x, endsV n x + n.change) r h⟩
      · rw [if_neg hc] at h; cases h
  unfold m_spec_IsWay at h
  rw [(places_eq hf).2, hn] at h
  simp only [Option.bind_some, l4Index_v (show (placesV n).length ≤ 4194304 by omega), e1] at h
  cases h1 : decide (idxV (placesV n) a < 0) with
  | true => rw [h1] at h; cases h
  | false =>
  cases h2 : decide (idxV (placesV n) b < 0) with
  | true => rw [h1, h2] at h; cases h
  | false =>
  rw [h1, h2] at h
  simp only [Bool.not_true, cond_false] at h
  cases hr : runL F (fun p => some (.inl p.1)) 0 way (a, t) with
  | none => rw [hr] at h; cases h
  | some r =>
    cases r with
    | inl r => exact key way 0 (a, t) r hr
    | inr v =>
      exfalso
      have : ∀ (ts : List YTrip) (i : Nat) (p : ByteArray × Int) (v : Bool), runL F (fun p => some (.inl p.1)) i ts p = some (.inr v) → v = false := by
        intro ts
        induction ts with
        | nil => intro i p v h; cases h
        | cons x ts ih =>
          intro i p v h
          simp only [runL, F] at h
          by_cases hc : tripB n x = true ∧ legFrom n x = p.1 ∧ p.2 ≤ startV n x
          · rw [if_pos hc] at h; exact ih _ _ _ h
          · rw [if_neg hc] at h; cases h; rfl
      have hv := this _ _ _ _ hr
      subst hv
      rw [hr] at h
      cases h
theorem chain_at {n : YNetwork} : ∀ {ts : List YTrip} {p : ByteArray} {a : Int} {i : Nat} {t : YTrip}, chainV n p a ts → ts[i]? = some t → tripB n t = true ∧ ∀ t', ts[i + 1]? = some t' → endsV n t + n.change ≤ startV n t' ∧ legFrom n t' = legTo n t
  | [], _, _, _, _, _, h => by simp at h
  | x :: ts, p, a, 0, t, hc, h => by
    obtain rfl : x = t := by simpa using h
    refine ⟨hc.1, fun t' h' => ?_⟩
    cases ts with
    | nil => simp at h'
    | cons y ts => obtain rfl : y = t' := by simpa using h'
                   exact ⟨hc.2.2.2.2.2.1, hc.2.2.2.2.1⟩
  | x :: ts, p, a, i + 1, t, hc, h => by
    have h' : ts[i]? = some t := by simpa using h
    have := chain_at hc.2.2.2 h'
    simpa using this
def hereV (n : YNetwork) (o : YOrder) : ByteArray := if 0 < o.gone then ((o.way[(o.gone - 1).toNat]?).map (legTo n)).getD ⟨#[]⟩ else o.from_
structure StateOk (n : YNetwork) (o : YOrder) (now : Int) : Prop where
  past : ∀ t, 0 < o.gone → o.way[(o.gone - 1).toNat]? = some t → endsV n t ≤ now
  cases : (o.state = 1 ∧ o.place = hereV n o ∧ ¬ hereV n o = o.to_ ∧ o.ended = 0 ∧ ∀ t, o.way[o.gone.toNat]? = some t → now < startV n t) ∨
    (o.state = 2 ∧ o.place = ⟨#[]⟩ ∧ o.ended = 0 ∧ ∃ t, o.way[o.gone.toNat]? = some t ∧ startV n t ≤ now ∧ now < endsV n t) ∨
    (o.state = 3 ∧ o.place = o.to_ ∧ hereV n o = o.to_ ∧ o.gone = o.way.length ∧ 0 < o.gone ∧ ∀ t, o.way[(o.gone - 1).toNat]? = some t → o.ended = endsV n t)
theorem cond_some {c : Prop} [Decidable c] {a b : Option Bool} : cond (decide c) a b = some true ↔ (c ∧ a = some true) ∨ (¬ c ∧ b = some true) := by
  by_cases h : c <;> simp [h]
theorem cond_someN {c : Prop} [Decidable c] {a b : Option Bool} : cond (!decide c) a b = some true ↔ (¬ c ∧ a = some true) ∨ (c ∧ b = some true) := by
  by_cases h : c <;> simp [h]
theorem state_iff {n : YNetwork} (hf : NetFit n) (hn : m_spec_IsNetwork n = some true) {o : YOrder} (hg : 0 ≤ o.gone ∧ o.gone ≤ o.way.length) (hl : o.way.length ≤ 1048576) (ht : ∀ t ∈ o.way, tripB n t = true) (now : Int) : m_spec_l10State n o now = some true ↔ StateOk n o now := by
  have hw1 : w64 (o.gone - 1) = o.gone - 1 := w64_in (by omega)
  have nx : (∃ t, o.gone < o.way.length ∧ getI o.way o.gone = some t ∧ o.way[o.gone.toNat]? = some t ∧ m_spec_l3Starts n t = some (startV n t) ∧ m_spec_l3Ends n t = some (endsV n t)) ∨ (o.gone = o.way.length ∧ o.way[o.gone.toNat]? = none) := by
    by_cases h : o.gone < o.way.length
    · have hlt : o.gone.toNat < o.way.length := by omega
      obtain ⟨t1, t2, _⟩ := trip_time hf hn (ht _ (List.getElem_mem hlt))
      exact .inl ⟨o.way[o.gone.toNat], h, by unfold getI; rw [if_pos hg.1]; exact List.getElem?_eq_getElem hlt, List.getElem?_eq_getElem hlt, t1, t2⟩
    · exact .inr ⟨by omega, List.getElem?_eq_none (by omega)⟩
  unfold m_spec_l10State
  rw [hw1]
  by_cases h0 : 0 < o.gone
  · have hlt : (o.gone - 1).toNat < o.way.length := by omega
    obtain ⟨p, hp, hp1⟩ : ∃ p, getI o.way (o.gone - 1) = some p ∧ o.way[(o.gone - 1).toNat]? = some p := ⟨o.way[(o.gone - 1).toNat], by unfold getI; rw [if_pos (by omega)]; exact List.getElem?_eq_getElem hlt, List.getElem?_eq_getElem hlt⟩
    have hpt := ht p (List.mem_of_getElem? hp1)
    obtain ⟨y, hy, _⟩ := tripB_leg hf hpt
    obtain ⟨t1, t2, t3, t4, t5⟩ := trip_time hf hn hpt
    have hh : hereV n o = y.to_ := by unfold hereV; rw [if_pos h0, hp1]; simp [legTo, hy]
    rcases nx with ⟨t, n1, n2, n3, n4, n5⟩ | ⟨n1, n3⟩
    · have ng : ¬ o.gone = o.way.length := by omega
      simp only [decide_eq_true h0, cond_true, hp, hy, t2, n2, n4, n5, Option.bind_some, cond_some, cond_someN, Option.some.injEq, decide_eq_true_iff]
      constructor
      · intro h
        refine ⟨fun q _ hq => ?_, ?_⟩
        · rw [hp1] at hq; obtain rfl := Option.some.inj hq
          rcases h with ⟨_, h⟩ | ⟨h, _⟩
          · simp at h
          · omega
        · rw [hh]; simp only [n3, hp1, Option.some.injEq, forall_eq', exists_eq_left']
          by_cases s1 : o.state = 1 <;> by_cases s2 : o.state = 2 <;> by_cases s3 : o.state = 3 <;> simp_all
      · rintro ⟨k1, k2⟩
        have k1' := k1 p h0 hp1
        rw [hh] at k2; simp only [n3, hp1, Option.some.injEq, forall_eq', exists_eq_left'] at k2
        have : ¬ now < endsV n p := by omega
        rcases k2 with k | k | k <;> simp_all
    · simp only [decide_eq_true h0, cond_true, hp, hy, t2, Option.bind_some, cond_some, cond_someN, Option.some.injEq, decide_eq_true_iff]
      have ng : ¬ o.gone < o.way.length := by omega
      constructor
      · intro h
        refine ⟨fun q _ hq => ?_, ?_⟩
        · rw [hp1] at hq; obtain rfl := Option.some.inj hq
          rcases h with ⟨_, h⟩ | ⟨h, _⟩
          · simp at h
          · omega
        · rw [hh]; simp only [n3, hp1, Option.some.injEq, forall_eq', exists_eq_left', reduceCtorEq, false_and, exists_false, false_implies, implies_true]
          by_cases s1 : o.state = 1 <;> by_cases s2 : o.state = 2 <;> by_cases s3 : o.state = 3 <;> simp_all
      · rintro ⟨k1, k2⟩
        have k1' := k1 p h0 hp1
        rw [hh] at k2; simp only [n3, hp1, Option.some.injEq, forall_eq', exists_eq_left', reduceCtorEq, false_and, exists_false, false_implies, implies_true] at k2
        have : ¬ now < endsV n p := by omega
        rcases k2 with k | k | k <;> simp_all
  · have hh : hereV n o = o.from_ := by unfold hereV; rw [if_neg h0]
    rcases nx with ⟨t, n1, n2, n3, n4, n5⟩ | ⟨n1, n3⟩
    · have ng : ¬ o.gone = o.way.length := by omega
      simp only [decide_eq_false h0, cond_false, n2, n4, n5, Option.bind_some, cond_some, cond_someN, Option.some.injEq, decide_eq_true_iff]
      constructor
      · intro h
        refine ⟨fun q hq => absurd hq h0, ?_⟩
        rw [hh]; simp only [n3, Option.some.injEq, forall_eq', exists_eq_left']
        by_cases s1 : o.state = 1 <;> by_cases s2 : o.state = 2 <;> by_cases s3 : o.state = 3 <;> simp_all
      · rintro ⟨k1, k2⟩
        rw [hh] at k2; simp only [n3, Option.some.injEq, forall_eq', exists_eq_left'] at k2
        rcases k2 with k | k | k <;> simp_all
    · have ng : ¬ o.gone < o.way.length := by omega
      simp only [decide_eq_false h0, cond_false, Option.bind_some, cond_some, cond_someN, Option.some.injEq, decide_eq_true_iff]
      constructor
      · intro h
        refine ⟨fun q hq => absurd hq h0, ?_⟩
        rw [hh]; simp only [n3, reduceCtorEq, false_and, exists_false, false_implies, implies_true]
        by_cases s1 : o.state = 1 <;> by_cases s2 : o.state = 2 <;> by_cases s3 : o.state = 3 <;> simp_all
      · rintro ⟨k1, k2⟩
        rw [hh] at k2; simp only [n3, reduceCtorEq, false_and, exists_false, false_implies, implies_true] at k2
        rcases k2 with k | k | k
        · simp_all
        · simp_all
        · exact absurd k.2.2.2.2.1 h0
end Go.Proofs.YtmcdjilbkmhfoaaGreat
namespace Go.Proofs.YtmcdjilbkmhfoaaGreat
set_option maxRecDepth 10000
open Go.RowKit
set_option linter.unusedVariables false
set_option linter.unusedSimpArgs false
set_option linter.unusedSectionVars false
def eventV (n : YNetwork) (o : YOrder) : Option Int := (o.way[o.gone.toNat]?).map fun t => if o.state = 2 then endsV n t else startV n t
def arr1 (n : YNetwork) (at_ : Int) (o : YOrder) (t : YTrip) : YOrder :=
  if legTo n t = o.to_ then { o with gone := o.gone + 1, state := 3, place := legTo n t, ended := at_ } else { o with gone := o.gone + 1, state := 1, place := legTo n t }
def arriveV (n : YNetwork) (at_ : Int) (o : YOrder) : YOrder := match o.way[o.gone.toNat]? with
  | some t => if o.state = 2 ∧ endsV n t = at_ then arr1 n at_ o t else o
  | none => o
def loadV (n : YNetwork) (at_ : Int) (o : YOrder) : YOrder := match o.way[o.gone.toNat]? with
  | some t => if o.state = 1 ∧ startV n t = at_ then { o with state := 2, place := ⟨#[]⟩ } else o
  | none => o
structure WayOk (n : YNetwork) (o : YOrder) : Prop where
  gone : 0 ≤ o.gone ∧ o.gone ≤ o.way.length
  trip : ∀ t ∈ o.way, 0 ≤ startV n t ∧ startV n t < endsV n t ∧ endsV n t ≤ 100000
  next : ∀ (i : Nat) t t', o.way[i]? = some t → o.way[i + 1]? = some t' → endsV n t ≤ startV n t'
  last : ∀ (i : Nat) t, o.way[i]? = some t → legTo n t = o.to_ → i + 1 = o.way.length
structure SameOrd (o o' : YOrder) : Prop where
  from_ : o'.from_ = o.from_
  to_ : o'.to_ = o.to_
  service : o'.service = o.service
  weight : o'.weight = o.weight
  at_ : o'.at_ = o.at_
  due : o'.due = o.due
  way : o'.way = o.way
theorem SameOrd.refl (o : YOrder) : SameOrd o o := ⟨rfl, rfl, rfl, rfl, rfl, rfl, rfl⟩
theorem SameOrd.trans {a b c : YOrder} (h : SameOrd a b) (k : SameOrd b c) : SameOrd a c := ⟨k.1.trans h.1, k.2.trans h.2, k.3.trans h.3, k.4.trans h.4, k.5.trans h.5, k.6.trans h.6, k.7.trans h.7⟩
theorem arrive_same (n : YNetwork) (at_ : Int) (o : YOrder) : SameOrd o (arriveV n at_ o) := by
  unfold arriveV arr1
  split
  · split
    · split <;> exact ⟨rfl, rfl, rfl, rfl, rfl, rfl, rfl⟩
    · exact .refl o
  · exact .refl o
theorem load_same (n : YNetwork) (at_ : Int) (o : YOrder) : SameOrd o (loadV n at_ o) := by
  unfold loadV
  split
  · split
    · exact ⟨rfl, rfl, rfl, rfl, rfl, rfl, rfl⟩
    · exact .refl o
  · exact .refl o
def stepV (n : YNetwork) (at_ : Int) (o : YOrder) : YOrder := loadV n at_ (arriveV n at_ o)
theorem step_same (n : YNetwork) (at_ : Int) (o : YOrder) : SameOrd o (stepV n at_ o) := (arrive_same n at_ o).trans (load_same n at_ _)
theorem WayOk.same {n : YNetwork} {o o' : YOrder} (h : WayOk n o) (k : SameOrd o o') (hg : 0 ≤ o'.gone ∧ o'.gone ≤ o.way.length) : WayOk n o' :=
  ⟨by rw [k.way]; exact hg, by rw [k.way]; exact h.trip, by rw [k.way]; exact h.next, by rw [k.way, k.to_]; exact h.last⟩
def todoV (o : YOrder) : Nat := 2 * (o.way.length - o.gone.toNat) - (if o.state = 2 then 1 else 0)
structure Stands (n : YNetwork) (o : YOrder) (at_ : Int) : Prop where
  ok : StateOk n o at_
  gone : 0 ≤ o.gone ∧ o.gone ≤ o.way.length
  next : ∀ e, eventV n o = some e → at_ < e
theorem stands_of {n : YNetwork} {o : YOrder} {at_ : Int} (h : StateOk n o at_) (hg : 0 ≤ o.gone ∧ o.gone ≤ o.way.length) : Stands n o at_ := by
  refine ⟨h, hg, fun e he => ?_⟩
  unfold eventV at he
  rcases h.cases with ⟨c, _, _, _, k⟩ | ⟨c, _, _, t, k1, _, k3⟩ | ⟨c, _, _, k, _, _⟩
  · cases ht : o.way[o.gone.toNat]? with
    | none => rw [ht] at he; cases he
    | some t => rw [ht] at he; simp [c] at he; subst he; exact k t ht
  · rw [k1] at he; simp [c] at he; subst he; exact k3
  · rw [List.getElem?_eq_none (by omega)] at he; cases he
theorem load_ok {n : YNetwork} {o : YOrder} {at_ : Int} (hw : WayOk n o) (hp : ∀ t, 0 < o.gone → o.way[(o.gone - 1).toNat]? = some t → endsV n t ≤ at_)
    (hs : o.state = 1) (h1 : o.place = hereV n o) (h2 : ¬ hereV n o = o.to_) (h3 : o.ended = 0) (h4 : ∀ t, o.way[o.gone.toNat]? = some t → at_ ≤ startV n t) :
    Stands n (loadV n at_ o) at_ ∧ todoV (loadV n at_ o) ≤ todoV o ∧ ((∃ t, o.way[o.gone.toNat]? = some t ∧ startV n t = at_) → todoV (loadV n at_ o) < todoV o) := by
  unfold loadV
  cases ht : o.way[o.gone.toNat]? with
  | none =>
    refine ⟨stands_of ⟨hp, .inl ⟨hs, h1, h2, h3, fun t h => ?_⟩⟩ hw.gone, Nat.le_refl _, fun ⟨t, h, _⟩ => ?_⟩
    · rw [ht] at h; cases h
    · cases h
  | some t =>
    have hlt := (List.getElem?_eq_some_iff.1 ht).1
    obtain ⟨a1, a2, a3⟩ := hw.trip t (List.mem_of_getElem? ht)
    have h4' := h4 t ht
    by_cases hst : startV n t = at_
    · simp only [hs, hst, and_self, if_true]
      refine ⟨stands_of ⟨fun q hq => ?_, .inr (.inl ⟨rfl, rfl, h3, t, ht, by omega, by omega⟩)⟩ hw.gone, ?_, fun _ => ?_⟩
      · exact hp q hq
      · unfold todoV; simp only [hs]; simp
      · unfold todoV; simp only [hs]; simp; omega
    · have hng : ¬ (o.state = 1 ∧ startV n t = at_) := fun h => hst h.2
      simp only [if_neg hng]
      refine ⟨stands_of ⟨hp, .inl ⟨hs, h1, h2, h3, fun q hq => ?_⟩⟩ hw.gone, Nat.le_refl _, fun ⟨q, hq, hq2⟩ => ?_⟩
      · rw [ht] at hq; obtain rfl := Option.some.inj hq; omega
      · obtain rfl := Option.some.inj hq; exact absurd hq2 hst
theorem load_other {n : YNetwork} {o : YOrder} {at_ : Int} (hs : ¬ o.state = 1) : loadV n at_ o = o := by
  unfold loadV
  cases o.way[o.gone.toNat]? with
  | none => rfl
  | some t => simp [hs]
theorem step_ok {n : YNetwork} {o : YOrder} {now at_ : Int} (hw : WayOk n o) (h : StateOk n o now) (hn : now ≤ at_) (he : ∀ e, eventV n o = some e → at_ ≤ e) :
    Stands n (stepV n at_ o) at_ ∧ WayOk n (stepV n at_ o) ∧ todoV (stepV n at_ o) ≤ todoV o ∧ (eventV n o = some at_ → todoV (stepV n at_ o) < todoV o) := by
  have hg := hw.gone
  have main : Stands n (stepV n at_ o) at_ ∧ todoV (stepV n at_ o) ≤ todoV o ∧ (eventV n o = some at_ → todoV (stepV n at_ o) < todoV o) := by
    unfold stepV
    rcases h.cases with ⟨c1, c2, c3, c4, c5⟩ | ⟨c1, c2, c3, t, c4, c5, c6⟩ | ⟨c1, c2, c3, c4, c5, c6⟩
    · have e1 : arriveV n at_ o = o := by
        unfold arriveV
        cases o.way[o.gone.toNat]? with
        | none => rfl
        | some t => simp [c1]
      rw [e1]
      have h4 : ∀ t, o.way[o.gone.toNat]? = some t → at_ ≤ startV n t := fun t ht => he _ (by unfold eventV; rw [ht]; simp [c1])
      obtain ⟨a, b, c⟩ := load_ok hw (fun t h1 h2 => by have := h.past t h1 h2; omega) c1 c2 c3 c4 h4
      refine ⟨a, b, fun hev => c ?_⟩
      unfold eventV at hev
      cases ht : o.way[o.gone.toNat]? with
      | none => rw [ht] at hev; cases hev
      | some t => rw [ht] at hev; simp [c1] at hev; exact ⟨t, rfl, hev⟩
    · have hlt := (List.getElem?_eq_some_iff.1 c4).1
      obtain ⟨a1, a2, a3⟩ := hw.trip t (List.mem_of_getElem? c4)
      have he' := he (endsV n t) (by unfold eventV; rw [c4]; simp [c1])
      by_cases hx : endsV n t = at_
      · have e1 : arriveV n at_ o = arr1 n at_ o t := by unfold arriveV; rw [c4]; simp only [c1, hx, and_self, if_true]
        rw [e1]
        have hgn : (o.gone + 1 - 1).toNat = o.gone.toNat := by omega
        have hgs : (o.gone + 1).toNat = o.gone.toNat + 1 := by omega
        unfold arr1
        by_cases hd : legTo n t = o.to_
        · have hlen := hw.last _ t c4 hd
          rw [if_pos hd, load_other (by simp)]
          have hh : hereV n { o with gone := o.gone + 1, state := 3, place := legTo n t, ended := at_ } = legTo n t := by
            unfold hereV; simp only [hgn, c4]; rw [if_pos (by omega)]; rfl
          refine ⟨stands_of ⟨fun q _ hq => ?_, .inr (.inr ⟨rfl, hd, hh.trans hd, by simp only; omega, by simp only; omega, fun q hq => ?_⟩)⟩ (by simp only; omega), ?_, fun _ => ?_⟩
          · simp only [hgn, c4, Option.some.injEq] at hq; subst hq; omega
          · simp only [hgn, c4, Option.some.injEq] at hq; subst hq; exact hx.symm
          · unfold todoV; simp only [hgs, c1]; simp; omega
          · unfold todoV; simp only [hgs, c1]; simp; omega
        · rw [if_neg hd]
          have hh : hereV n { o with gone := o.gone + 1, state := 1, place := legTo n t } = legTo n t := by
            unfold hereV; simp only [hgn, c4]; rw [if_pos (by omega)]; rfl
          have hw' : WayOk n { o with gone := o.gone + 1, state := 1, place := legTo n t } := hw.same ⟨rfl, rfl, rfl, rfl, rfl, rfl, rfl⟩ (by simp only; omega)
          obtain ⟨a, b, c⟩ := load_ok (at_ := at_) hw' (fun q _ hq => by simp only [hgn, c4, Option.some.injEq] at hq; subst hq; omega) rfl hh.symm (by rw [hh]; exact hd) c3 (fun q hq => by
            simp only [hgs] at hq
            have := hw.next _ t q c4 hq
            omega)
          have hb : todoV { o with gone := o.gone + 1, state := 1, place := legTo n t } < todoV o := by unfold todoV; simp only [hgs, c1]; simp; omega
          exact ⟨a, by omega, fun _ => by omega⟩
      · have e1 : arriveV n at_ o = o := by unfold arriveV; rw [c4]; simp only [hx, and_false, if_false]
        rw [e1, load_other (by omega)]
        refine ⟨stands_of ⟨fun q h1 h2 => by have := h.past q h1 h2; omega, .inr (.inl ⟨c1, c2, c3, t, c4, by omega, by omega⟩)⟩ hg, Nat.le_refl _, fun hev => ?_⟩
        unfold eventV at hev
        rw [c4] at hev; simp [c1] at hev; exact absurd hev hx
    · have hnone : o.way[o.gone.toNat]? = none := List.getElem?_eq_none (by omega)
      have e1 : arriveV n at_ o = o := by unfold arriveV; rw [hnone]
      rw [e1, load_other (by omega)]
      refine ⟨stands_of ⟨fun q h1 h2 => by have := h.past q h1 h2; omega, .inr (.inr ⟨c1, c2, c3, c4, c5, c6⟩)⟩ hg, Nat.le_refl _, fun hev => ?_⟩
      unfold eventV at hev
      rw [hnone] at hev; cases hev
  have hs := step_same n at_ o
  exact ⟨main.1, hw.same hs (by have := main.1.gone; rw [hs.way] at this; exact this), main.2⟩
theorem todo_none {n : YNetwork} {o : YOrder} (hw : WayOk n o) {now : Int} (h : StateOk n o now) (h0 : todoV o = 0) : eventV n o = none := by
  have hg := hw.gone
  unfold eventV
  rcases h.cases with ⟨c, _⟩ | ⟨c, _, _, t, k1, _⟩ | ⟨c, _, _, k, _⟩
  · unfold todoV at h0; rw [if_neg (by omega)] at h0
    rw [List.getElem?_eq_none (by omega)]; rfl
  · have hlt := (List.getElem?_eq_some_iff.1 k1).1
    unfold todoV at h0; rw [if_pos c] at h0; omega
  · rw [List.getElem?_eq_none (by omega)]; rfl
end Go.Proofs.YtmcdjilbkmhfoaaGreat
namespace Go.Proofs.YtmcdjilbkmhfoaaGreat
set_option maxRecDepth 10000
open Go.RowKit
set_option linter.unusedVariables false
set_option linter.unusedSimpArgs false
set_option linter.unusedSectionVars false
theorem world_scan {w : YWorld} (hf : WFit w) (hv : worldV w = true) {s : YScan} (hs : s ∈ w.scans) : m_spec_IsScan w.network s = some true ∧ s.at_ ≤ w.now := by
  unfold worldV at hv
  simp only [Bool.and_eq_true] at hv
  obtain ⟨j, hj, rfl⟩ := List.getElem_of_mem hs
  have := allI_iff.1 hv.1.1.2 j _ (List.getElem?_eq_getElem hj)
  unfold scanC at this
  simp only [Bool.and_eq_true, Bool.not_eq_true', decide_eq_false_iff_not] at this
  obtain ⟨b, hb⟩ := isScan_some hf.net w.scans[j]
  rw [hb] at this ⊢
  simp only [Option.getD_some] at this
  exact ⟨by rw [this.1], by omega⟩
def mkScan (skip : List Int) (p : List YScan × Int) (s : YScan) : List YScan × Int :=
  let m := if p.2 < 1000000000 then p.2 + 1 else p.2
  (if (skip.any fun y => decide (y = m)) = false ∧ p.1.length < 200 then p.1 ++ [s] else p.1, m)
def dropsV (n : YNetwork) (at_ : Int) (i : Nat) (o : YOrder) : List YScan := match o.way[o.gone.toNat]? with
  | some t => if o.state = 2 ∧ endsV n t = at_ then ⟨((i + 1 : Nat) : Int), at_, 2, ⟨#[]⟩, t⟩ :: (if legTo n t = o.to_ then [⟨((i + 1 : Nat) : Int), at_, 4, legTo n t, ⟨0, 0⟩⟩] else []) else []
  | none => []
def loadsV (n : YNetwork) (at_ : Int) (i : Nat) (o : YOrder) : List YScan := match o.way[o.gone.toNat]? with
  | some t => if o.state = 1 ∧ startV n t = at_ then [⟨((i + 1 : Nat) : Int), at_, 3, ⟨#[]⟩, t⟩] else []
  | none => []
def scansOf (f : Nat → YOrder → List YScan) : Nat → List YOrder → List YScan
  | _, [] => []
  | i, o :: os => f i o ++ scansOf f (i + 1) os
theorem scansOf_mem {f : Nat → YOrder → List YScan} {s : YScan} : ∀ {os : List YOrder} {i : Nat}, s ∈ scansOf f i os → ∃ j o, os[j]? = some o ∧ s ∈ f (i + j) o
  | [], _, h => by simp [scansOf] at h
  | o :: os, i, h => by
    simp only [scansOf, List.mem_append] at h
    rcases h with h | h
    · exact ⟨0, o, rfl, h⟩
    · obtain ⟨j, o', h1, h2⟩ := scansOf_mem h
      exact ⟨j + 1, o', by simpa using h1, by rwa [show i + (j + 1) = i + 1 + j by omega]⟩
def scans1 (w : YWorld) (at_ : Int) : List YScan := scansOf (dropsV w.network at_) 0 w.orders ++ scansOf (loadsV w.network at_) 0 (w.orders.map (arriveV w.network at_))
def happenV (w : YWorld) (at_ : Int) : YWorld :=
  { w with orders := w.orders.map (stepV w.network at_), now := at_, scans := ((scans1 w at_).foldl (mkScan w.skip) (w.scans, w.made)).1, made := ((scans1 w at_).foldl (mkScan w.skip) (w.scans, w.made)).2 }
structure WOk (w : YWorld) : Prop where
  fit : WFit w
  ok : worldV w = true
theorem WOk.net {w : YWorld} (h : WOk w) : m_spec_IsNetwork w.network = some true := world_net h.fit h.ok
theorem WOk.way {w : YWorld} (h : WOk w) {i : Nat} {o : YOrder} (ho : w.orders[i]? = some o) : WayOk w.network o := by
  have hok := world_ok h.fit h.ok ho
  have hl := h.fit.way o (List.mem_of_getElem? ho)
  have hch := isWay_chain h.fit.net h.net hl hok.isWay
  refine ⟨hok.gone, fun t ht => ?_, fun i t t' h1 h2 => ?_, fun i t h1 h2 => ?_⟩
  · obtain ⟨_, _, a, b, c⟩ := trip_time h.fit.net h.net (hok.trip t ht)
    exact ⟨a, b, c⟩
  · have := ((chain_at hch h1).2 t' h2).1
    have := (net_change h.net).1
    omega
  · have hw := allI_iff.1 hok.way i t h1
    unfold wayC at hw
    simp only [Nat.zero_add, Bool.and_eq_true, Bool.not_eq_true', Bool.and_eq_false_imp, decide_eq_true_iff, decide_eq_false_iff_not] at hw
    have h3 := hw.2 h2
    have := (List.getElem?_eq_some_iff.1 h1).1
    omega
theorem WOk.state {w : YWorld} (h : WOk w) {i : Nat} {o : YOrder} (ho : w.orders[i]? = some o) : StateOk w.network o w.now := by
  have hok := world_ok h.fit h.ok ho
  exact (state_iff h.fit.net h.net hok.gone (h.fit.way o (List.mem_of_getElem? ho)) hok.trip _).1 hok.st
theorem WOk.parts {w : YWorld} (h : WOk w) : (0 ≤ w.now ∧ w.now ≤ 100000) ∧ w.orders.length ≤ 30 ∧ w.closed.length ≤ 20 ∧ w.scans.length ≤ 200 ∧ w.skip.length ≤ 50 ∧ (w.scans.length ≤ w.made ∧ w.made ≤ 1000000000) ∧ w.bookings.length ≤ 120 := by
  have hb := books_net (world_books h.ok)
  have hv := h.ok
  unfold worldV at hv
  simp only [Bool.and_eq_true, Bool.not_eq_true', decide_eq_true_iff, decide_eq_false_iff_not] at hv
  obtain ⟨⟨⟨⟨⟨⟨⟨⟨⟨⟨h1, h2⟩, h3⟩, h4⟩, h5⟩, h6⟩, h7⟩, h8⟩, h9⟩, h10⟩, h11⟩ := hv
  exact ⟨h2, by omega, by omega, by omega, by omega, h7, hb.2⟩
structure ScansOk (n : YNetwork) (at_ : Int) (p : List YScan × Int) : Prop where
  good : ∀ s ∈ p.1, m_spec_IsScan n s = some true ∧ s.at_ ≤ at_
  len : p.1.length ≤ 200
  made : p.1.length ≤ p.2 ∧ p.2 ≤ 1000000000
theorem mkScan_ok {n : YNetwork} {at_ : Int} {skip : List Int} {p : List YScan × Int} {s : YScan} (h : ScansOk n at_ p) (hs : m_spec_IsScan n s = some true ∧ s.at_ ≤ at_) : ScansOk n at_ (mkScan skip p s) := by
  obtain ⟨h1, h2, h3⟩ := h
  unfold mkScan
  by_cases hm : p.2 < 1000000000
  · simp only [if_pos hm]
    split
    · rename_i hc
      exact ⟨fun x hx => by rcases List.mem_append.1 hx with hx | hx
                            · exact h1 x hx
                            · obtain rfl : x = s := by simpa using hx
                              exact hs, by simp; omega, by simp; omega⟩
    · exact ⟨h1, h2, by simp only; omega⟩
  · simp only [if_neg hm]
    split
    · rename_i hc
      exact ⟨fun x hx => by rcases List.mem_append.1 hx with hx | hx
                            · exact h1 x hx
                            · obtain rfl : x = s := by simpa using hx
                              exact hs, by simp; omega, by simp; omega⟩
    · exact ⟨h1, h2, by simp only; omega⟩
theorem fold_scans {n : YNetwork} {at_ : Int} {skip : List Int} : ∀ (l : List YScan) (p : List YScan × Int), ScansOk n at_ p → (∀ s ∈ l, m_spec_IsScan n s = some true ∧ s.at_ ≤ at_) → ScansOk n at_ (l.foldl (mkScan skip) p)
  | [], p, h, _ => h
  | s :: l, p, h, hl => fold_scans l _ (mkScan_ok h (hl s List.mem_cons_self)) fun x hx => hl x (List.mem_cons_of_mem _ hx)
theorem arrive_comes {n : YNetwork} {at_ : Int} {o : YOrder} : comesV o ≤ comesV (arriveV n at_ o) := by
  unfold arriveV
  split
  · split
    · rename_i t ht hc
      unfold arr1
      split <;> (unfold comesV; simp [hc.1])
    · exact Int.le_refl _
  · exact Int.le_refl _
theorem load_comes {n : YNetwork} {at_ : Int} {o : YOrder} : comesV o ≤ comesV (loadV n at_ o) := by
  unfold loadV
  split
  · split
    · rename_i t ht hc
      unfold comesV
      simp [hc.1]
      omega
    · exact Int.le_refl _
  · exact Int.le_refl _
theorem step_comes {n : YNetwork} {at_ : Int} {o : YOrder} : comesV o ≤ comesV (stepV n at_ o) := Int.le_trans arrive_comes load_comes
theorem drop_any {α : Type} {l : List α} {p : α → Bool} {a b : Nat} (h : a ≤ b) (hk : (l.drop a).any p = false) : (l.drop b).any p = false := by
  obtain ⟨c, rfl⟩ : ∃ c, b = a + c := ⟨b - a, by omega⟩
  rw [← List.drop_drop]
  rw [List.any_eq_false] at hk ⊢
  exact fun x hx => hk x (List.mem_of_mem_drop hx)
section
variable {w : YWorld} (h : WOk w) {at_ : Int} (hn : w.now ≤ at_) (hm : at_ ≤ 100000) (he : ∀ o ∈ w.orders, ∀ e, eventV w.network o = some e → at_ ≤ e)
include h hn hm he
theorem scan_parts {th : Int} {k : Int} {p : ByteArray} {t : YTrip} (h1 : 1 ≤ th ∧ th ≤ 9999)
    (hk : (k = 2 ∧ p = ⟨#[]⟩ ∧ tripB w.network t = true ∧ endsV w.network t ≤ at_) ∨ (k = 3 ∧ p = ⟨#[]⟩ ∧ tripB w.network t = true ∧ at_ ≤ startV w.network t) ∨ (k = 4 ∧ ¬ idxV (placesV w.network) p < 0 ∧ t = ⟨0, 0⟩)) :
    m_spec_IsScan w.network ⟨th, at_, k, p, t⟩ = some true := by
  have hnow := h.parts.1
  have hpl := placesV_len w.network
  have hll := h.fit.net.legs
  unfold m_spec_IsScan
  rw [h.net]
  simp only [Option.bind_some, l1In_v, Bool.not_true, cond_false, decide_eq_true h1.1, decide_eq_true h1.2, decide_eq_true (show 0 ≤ at_ by omega), decide_eq_true hm, Bool.and_self, (places_eq h.fit.net).2, l4Index_v (show (placesV w.network).length ≤ 4194304 by omega), isTrip_s h.fit.net h.net]
  rcases hk with ⟨rfl, rfl, h2, h3⟩ | ⟨rfl, rfl, h2, h3⟩ | ⟨rfl, h2, rfl⟩
  · obtain ⟨a1, a2, _⟩ := trip_time h.fit.net h.net h2
    simp [h2, a1, a2, h3]
  · obtain ⟨a1, a2, _⟩ := trip_time h.fit.net h.net h2
    simp [h2, a1, a2, h3]
  · have : 0 ≤ idxV (placesV w.network) p := by omega
    simp [this]
theorem scans1_ok : ∀ s ∈ scans1 w at_, m_spec_IsScan w.network s = some true ∧ s.at_ ≤ at_ := by
  have hlen := h.parts.2.1
  intro s hs
  unfold scans1 at hs
  rcases List.mem_append.1 hs with hs | hs
  · obtain ⟨j, o, ho, hj⟩ := scansOf_mem hs
    have hlt := (List.getElem?_eq_some_iff.1 ho).1
    have hok := world_ok h.fit h.ok ho
    rw [Nat.zero_add] at hj
    unfold dropsV at hj
    split at hj
    · rename_i t ht
      have htb := hok.trip t (List.mem_of_getElem? ht)
      split at hj
      · rename_i hc
        rcases List.mem_cons.1 hj with rfl | hj
        · exact ⟨scan_parts h hn hm he (by omega) (.inl ⟨rfl, rfl, htb, by omega⟩), Int.le_refl _⟩
        · split at hj
          · rename_i hd
            obtain rfl := List.mem_singleton.1 hj
            have hto : ¬ idxV (placesV w.network) o.to_ < 0 := by
              have := world_order h.ok ho
              unfold orderV at this
              simp only [Bool.and_eq_true, Bool.not_eq_true', decide_eq_false_iff_not] at this
              exact this.1.1.1.1.1.1.1.1.1.1.2
            exact ⟨scan_parts h hn hm he (by omega) (.inr (.inr ⟨rfl, by rw [hd]; exact hto, rfl⟩)), Int.le_refl _⟩
          · cases hj
      · cases hj
    · cases hj
  · obtain ⟨j, o, ho, hj⟩ := scansOf_mem hs
    have hlt := (List.getElem?_eq_some_iff.1 ho).1
    rw [List.length_map] at hlt
    rw [List.getElem?_map] at ho
    obtain ⟨o0, ho0, rfl⟩ := Option.map_eq_some_iff.1 ho
    have hok := world_ok h.fit h.ok ho0
    rw [Nat.zero_add] at hj
    unfold loadsV at hj
    split at hj
    · rename_i t ht
      rw [(arrive_same w.network at_ o0).way] at ht
      have htb := hok.trip t (List.mem_of_getElem? ht)
      split at hj
      · rename_i hc
        obtain rfl := List.mem_singleton.1 hj
        exact ⟨scan_parts h hn hm he (by omega) (.inr (.inl ⟨rfl, rfl, htb, by omega⟩)), Int.le_refl _⟩
      · cases hj
    · cases hj
theorem happen_order {i : Nat} {o : YOrder} (ho : w.orders[i]? = some o) (s : List YScan) (m : Int) : orderV { w with orders := w.orders.map (stepV w.network at_), now := at_, scans := s, made := m } i (stepV w.network at_ o) = true := by
  have hv := world_order h.ok ho
  have hok := world_ok h.fit h.ok ho
  have hl := h.fit.way o (List.mem_of_getElem? ho)
  have hs := step_same w.network at_ o
  obtain ⟨k1, k2, _⟩ := step_ok (h.way ho) (h.state ho) hn (he o (List.mem_of_getElem? ho))
  have hst := (state_iff h.fit.net h.net k2.gone (by rw [hs.way]; exact hl) (by rw [hs.way]; exact hok.trip) at_).2 k1.ok
  have hcm := step_comes (n := w.network) (at_ := at_) (o := o)
  have hgn := k2.gone
  unfold orderV at hv ⊢
  simp only [Bool.and_eq_true, Bool.not_eq_true', decide_eq_true_iff, decide_eq_false_iff_not] at hv ⊢
  obtain ⟨⟨⟨⟨⟨⟨⟨⟨⟨⟨⟨h1, h2⟩, h3⟩, h4⟩, h5⟩, h6⟩, h7⟩, h8⟩, h9⟩, h10⟩, h11⟩, h12⟩ := hv
  have hend : endV w.network (stepV w.network at_ o) = endV w.network o := by unfold endV; rw [hs.way, hs.from_]
  refine ⟨⟨⟨⟨⟨⟨⟨⟨⟨⟨⟨?_, ?_⟩, ?_⟩, ?_⟩, ?_⟩, ?_⟩, ?_⟩, ?_⟩, ?_⟩, ?_⟩, ?_⟩, ?_⟩
  · rw [hs.from_]; exact h1
  · rw [hs.to_]; exact h2
  · rw [hs.from_, hs.to_]; exact h3
  · rw [hs.service]; exact h4
  · rw [hs.weight]; exact h5
  · rw [hs.at_]; exact ⟨h6.1, Int.le_trans h6.2 hn⟩
  · rw [hs.due]; exact h7
  · exact hgn
  · rw [hs.way]
    refine (allI_congr fun j x hx => ?_).trans h9
    unfold wayC
    simp only [hs.weight, hs.to_, hs.way]
  · simp only [hend, hs.way, hs.from_, hs.at_]; exact h10
  · rw [hst]; rfl
  · rw [hs.way]
    exact drop_any (by omega) h12
theorem happen_ok : WOk (happenV w at_) := by
  have hp := h.parts
  have hv := h.ok
  have hsc := fold_scans (skip := w.skip) (scans1 w at_) (w.scans, w.made) (n := w.network) (at_ := at_) ⟨fun s hs => ?_, hp.2.2.2.1, hp.2.2.2.2.2.1⟩ (scans1_ok h hn hm he)
  · refine ⟨⟨h.fit.net, by simp only [happenV, List.length_map]; exact h.fit.orders, h.fit.bookings, h.fit.closed, by have := hsc.len; simp only [happenV]; omega, h.fit.skip, fun o ho => ?_⟩, ?_⟩
    · simp only [happenV, List.mem_map] at ho
      obtain ⟨o0, ho0, rfl⟩ := ho
      rw [(step_same w.network at_ o0).way]
      exact h.fit.way o0 ho0
    · unfold worldV at hv ⊢
      simp only [Bool.and_eq_true, Bool.not_eq_true', decide_eq_true_iff, decide_eq_false_iff_not] at hv ⊢
      obtain ⟨⟨⟨⟨⟨⟨⟨⟨⟨⟨h1, h2⟩, h3⟩, h4⟩, h5⟩, h6⟩, h7⟩, h8⟩, h9⟩, h10⟩, h11⟩ := hv
      have hl := hsc.len
      have hmd := hsc.made
      refine ⟨⟨⟨⟨⟨⟨⟨⟨⟨⟨h1, ?_⟩, ?_⟩, h4⟩, ?_⟩, h6⟩, ?_⟩, h8⟩, ?_⟩, ?_⟩, ?_⟩
      · simp only [happenV]; omega
      · simp only [happenV, List.length_map]; exact h3
      · simp only [happenV]; omega
      · simp only [happenV]; exact hmd
      · refine allI_iff.2 fun j s hj => ?_
        obtain ⟨a, b⟩ := hsc.good s (List.mem_of_getElem? hj)
        show ((m_spec_IsScan w.network s).getD false && !decide (at_ < s.at_)) = true
        rw [a, decide_eq_false (show ¬ at_ < s.at_ by omega)]; rfl
      · refine allI_iff.2 fun j o hj => ?_
        simp only [happenV, List.getElem?_map] at hj
        obtain ⟨o0, ho0, rfl⟩ := Option.map_eq_some_iff.1 hj
        rw [Nat.zero_add]
        exact happen_order h hn hm he ho0 _ _
      · unfold tripsV at h11 ⊢
        simp only [happenV, List.foldl_map]
        rw [← h11]
        congr 1
        funext a o
        rw [(step_same w.network at_ o).way]
  · have := world_scan h.fit h.ok hs
    exact ⟨this.1, by have := this.2; omega⟩
end
end Go.Proofs.YtmcdjilbkmhfoaaGreat
namespace Go.Proofs.YtmcdjilbkmhfoaaGreat
set_option maxRecDepth 10000
open Go.RowKit
set_option linter.unusedVariables false
set_option linter.unusedSimpArgs false
set_option linter.unusedSectionVars false
def lessV (a : Int) (e : Option Int) : Int := match e with
  | some v => if a < 0 ∨ v < a then v else a
  | none => a
def nextV (w : YWorld) : Int := w.orders.foldl (fun a o => lessV a (eventV w.network o)) (-1)
theorem fold_less {n : YNetwork} : ∀ (os : List YOrder) (a : Int), (∀ o ∈ os, ∀ e, eventV n o = some e → 0 ≤ e) → a < 0 ∨ 0 ≤ a →
    (os.foldl (fun a o => lessV a (eventV n o)) a = a ∧ a < 0 ∧ ∀ o ∈ os, eventV n o = none) ∨
    (0 ≤ os.foldl (fun a o => lessV a (eventV n o)) a ∧ (os.foldl (fun a o => lessV a (eventV n o)) a = a ∨ ∃ o ∈ os, eventV n o = some (os.foldl (fun a o => lessV a (eventV n o)) a)) ∧ (0 ≤ a → os.foldl (fun a o => lessV a (eventV n o)) a ≤ a) ∧ ∀ o ∈ os, ∀ e, eventV n o = some e → os.foldl (fun a o => lessV a (eventV n o)) a ≤ e)
  | [], a, _, ha => by
    rcases ha with ha | ha
    · exact .inl ⟨rfl, ha, fun o h => by cases h⟩
    · exact .inr ⟨ha, .inl rfl, fun _ => Int.le_refl _, fun o h => by cases h⟩
  | o :: os, a, h, ha => by
    simp only [List.foldl_cons]
    have h0 := h o List.mem_cons_self
    have hs := fun x hx => h x (List.mem_cons_of_mem o hx)
    cases ho : eventV n o with
    | none =>
      have e : lessV a none = a := rfl
      rw [e]
      rcases fold_less os a hs ha with ⟨k1, k2, k3⟩ | ⟨k1, k2, k3, k4⟩
      · exact .inl ⟨k1, k2, fun x hx => by rcases List.mem_cons.1 hx with rfl | hx
                                           · exact ho
                                           · exact k3 x hx⟩
      · refine .inr ⟨k1, ?_, k3, fun x hx e he => ?_⟩
        · rcases k2 with k2 | ⟨x, hx, k2⟩
          · exact .inl k2
          · exact .inr ⟨x, List.mem_cons_of_mem _ hx, k2⟩
        · rcases List.mem_cons.1 hx with rfl | hx
          · rw [ho] at he; cases he
          · exact k4 x hx e he
    | some v =>
      have hv := h0 v ho
      have e : 0 ≤ lessV a (some v) ∧ lessV a (some v) ≤ v ∧ (0 ≤ a → lessV a (some v) ≤ a) ∧ (lessV a (some v) = a ∨ lessV a (some v) = v) := by
        unfold lessV; simp only; split <;> omega
      obtain ⟨e1, e2, e3, e4⟩ := e
      rcases fold_less os (lessV a (some v)) hs (.inr e1) with ⟨k1, k2, k3⟩ | ⟨k1, k2, k3, k4⟩
      · omega
      · have k3' := k3 e1
        refine .inr ⟨k1, ?_, fun ha => by have := e3 ha; omega, fun x hx e he => ?_⟩
        · rcases k2 with k2 | ⟨x, hx, k2⟩
          · rcases e4 with e4 | e4
            · exact .inl (by rw [k2, e4])
            · exact .inr ⟨o, List.mem_cons_self, by rw [k2, e4, ho]⟩
          · exact .inr ⟨x, List.mem_cons_of_mem _ hx, k2⟩
        · rcases List.mem_cons.1 hx with rfl | hx
          · rw [ho] at he; obtain rfl := Option.some.inj he; omega
          · exact k4 x hx e he
theorem event_pos {n : YNetwork} {o : YOrder} (h : WayOk n o) {e : Int} (he : eventV n o = some e) : 0 ≤ e ∧ e ≤ 100000 := by
  unfold eventV at he
  cases ht : o.way[o.gone.toNat]? with
  | none => rw [ht] at he; cases he
  | some t =>
    rw [ht] at he
    obtain ⟨a, b, c⟩ := h.trip t (List.mem_of_getElem? ht)
    simp only [Option.map_some, Option.some.injEq] at he
    subst he
    split <;> omega
theorem next_spec {w : YWorld} (h : WOk w) : (nextV w = -1 ∧ ∀ o ∈ w.orders, eventV w.network o = none) ∨
    (w.now < nextV w ∧ nextV w ≤ 100000 ∧ (∃ o ∈ w.orders, eventV w.network o = some (nextV w)) ∧ ∀ o ∈ w.orders, ∀ e, eventV w.network o = some e → nextV w ≤ e) := by
  have hp : ∀ o ∈ w.orders, ∀ e, eventV w.network o = some e → 0 ≤ e ∧ e ≤ 100000 := fun o ho e he => by
    obtain ⟨i, hi, rfl⟩ := List.getElem_of_mem ho
    exact event_pos (h.way (List.getElem?_eq_getElem hi)) he
  rcases fold_less w.orders (-1) (fun o ho e he => (hp o ho e he).1) (.inl (by omega)) with ⟨k1, _, k3⟩ | ⟨k1, k2, _, k4⟩
  · exact .inl ⟨k1, k3⟩
  · rcases k2 with k2 | ⟨o, ho, k2⟩
    · exact absurd k1 (by rw [k2]; omega)
    · refine .inr ⟨?_, (hp o ho _ k2).2, ⟨o, ho, k2⟩, k4⟩
      obtain ⟨i, hi, rfl⟩ := List.getElem_of_mem ho
      have hs := stands_of (h.state (List.getElem?_eq_getElem hi)) (h.way (List.getElem?_eq_getElem hi)).gone
      exact hs.next _ k2
theorem next_of_neg {w : YWorld} (h : WOk w) (hn : nextV w < 0) : nextV w = -1 ∧ ∀ o ∈ w.orders, eventV w.network o = none := by
  have := h.parts.1
  rcases next_spec h with k | ⟨k, _⟩
  · exact k
  · omega
theorem happen_next {w : YWorld} (h : WOk w) (hn : 0 ≤ nextV w) : WOk (happenV w (nextV w)) ∧ w.now < nextV w ∧ nextV w ≤ 100000 := by
  rcases next_spec h with ⟨k, _⟩ | ⟨k1, k2, k3, k4⟩
  · omega
  · exact ⟨happen_ok h (by omega) k2 k4, k1, k2⟩
def todoW (w : YWorld) : Nat := (w.orders.map todoV).sum
theorem sum_lt {α : Type} {f g : α → Nat} : ∀ {l : List α}, (∀ x ∈ l, f x ≤ g x) → (∃ x ∈ l, f x < g x) → (l.map f).sum < (l.map g).sum
  | [], _, ⟨x, h, _⟩ => by cases h
  | a :: l, h, ⟨x, hx, hlt⟩ => by
    have h1 := h a List.mem_cons_self
    have h2 : (l.map f).sum ≤ (l.map g).sum := sum_le fun x hx => h x (List.mem_cons_of_mem _ hx)
    simp only [List.map_cons, List.sum_cons]
    rcases List.mem_cons.1 hx with rfl | hx
    · omega
    · have := sum_lt (fun x hx => h x (List.mem_cons_of_mem _ hx)) ⟨x, hx, hlt⟩
      omega
where
  sum_le {α : Type} {f g : α → Nat} : ∀ {l : List α}, (∀ x ∈ l, f x ≤ g x) → (l.map f).sum ≤ (l.map g).sum
  | [], _ => Nat.le_refl _
  | a :: l, h => by
    have h1 := h a List.mem_cons_self
    have h2 := sum_le fun x hx => h x (List.mem_cons_of_mem _ hx)
    simp only [List.map_cons, List.sum_cons]
    omega
theorem happen_todo {w : YWorld} (h : WOk w) (hn : 0 ≤ nextV w) : todoW (happenV w (nextV w)) < todoW w := by
  rcases next_spec h with ⟨k, _⟩ | ⟨k1, k2, ⟨o, ho, k3⟩, k4⟩
  · omega
  · have hstep : ∀ x ∈ w.orders, todoV (stepV w.network (nextV w) x) ≤ todoV x ∧ (eventV w.network x = some (nextV w) → todoV (stepV w.network (nextV w) x) < todoV x) := fun x hx => by
      obtain ⟨i, hi, rfl⟩ := List.getElem_of_mem hx
      have hi' := List.getElem?_eq_getElem hi
      exact (step_ok (h.way hi') (h.state hi') (by omega) (k4 _ hx)).2.2
    unfold todoW happenV
    simp only [List.map_map]
    exact sum_lt (f := todoV ∘ stepV w.network (nextV w)) (fun x hx => (hstep x hx).1) ⟨o, ho, (hstep o ho).2 k3⟩
def runV : Nat → YWorld → Int → YWorld
  | 0, w, _ => w
  | k + 1, w, u => if nextV w < 0 ∨ u < nextV w then w else runV k (happenV w (nextV w)) u
theorem todo_zero {w : YWorld} (h : WOk w) (h0 : todoW w = 0) : nextV w = -1 := by
  rcases next_spec h with ⟨k, _⟩ | ⟨k1, k2, ⟨o, ho, k3⟩, k4⟩
  · exact k
  · exfalso
    have hz : todoV o = 0 := by
      unfold todoW at h0
      have := List.sum_eq_zero_iff_forall_eq_nat.1 h0 (todoV o) (List.mem_map_of_mem ho)
      exact this
    obtain ⟨i, hi, rfl⟩ := List.getElem_of_mem ho
    have hi' := List.getElem?_eq_getElem hi
    rw [todo_none (h.way hi') (h.state hi') hz] at k3
    cases k3
structure SameW (w w' : YWorld) : Prop where
  network : w'.network = w.network
  bookings : w'.bookings = w.bookings
  closed : w'.closed = w.closed
  skip : w'.skip = w.skip
  len : w'.orders.length = w.orders.length
  ord : ∀ (i : Nat) (o o' : YOrder), w.orders[i]? = some o → w'.orders[i]? = some o' → SameOrd o o'
theorem SameW.refl (w : YWorld) : SameW w w := ⟨rfl, rfl, rfl, rfl, rfl, fun i o o' h h' => by rw [h] at h'; obtain rfl := Option.some.inj h'; exact .refl o⟩
theorem SameW.trans {a b c : YWorld} (h : SameW a b) (k : SameW b c) : SameW a c := by
  refine ⟨k.network.trans h.network, k.bookings.trans h.bookings, k.closed.trans h.closed, k.skip.trans h.skip, k.len.trans h.len, fun i o o' h1 h2 => ?_⟩
  have hlt := (List.getElem?_eq_some_iff.1 h1).1
  have hb : b.orders[i]? = some (b.orders[i]'(by rw [h.len]; exact hlt)) := List.getElem?_eq_getElem _
  exact (h.ord i o _ h1 hb).trans (k.ord i _ o' hb h2)
theorem happen_same (w : YWorld) (at_ : Int) : SameW w (happenV w at_) := by
  refine ⟨rfl, rfl, rfl, rfl, by simp [happenV], fun i o o' h h' => ?_⟩
  simp only [happenV, List.getElem?_map, h, Option.map_some, Option.some.injEq] at h'
  subst h'
  exact step_same _ _ o
theorem run_ok : ∀ (k : Nat) (w : YWorld) (u : Int), WOk w → todoW w ≤ k → u ≤ 100000 → WOk (runV k w u) ∧ (nextV (runV k w u) < 0 ∨ u < nextV (runV k w u)) ∧ SameW w (runV k w u) ∧ (w.now ≤ u → (runV k w u).now ≤ u)
  | 0, w, u, h, h0, hu => ⟨h, .inl (by have := todo_zero h (by omega); show nextV w < 0; omega), .refl w, fun h => h⟩
  | k + 1, w, u, h, h0, hu => by
    unfold runV
    split
    · rename_i hc
      exact ⟨h, hc, .refl w, fun h => h⟩
    · rename_i hc
      obtain ⟨a, b, c⟩ := happen_next h (by omega)
      have ht := happen_todo h (by omega)
      obtain ⟨r1, r2, r3, r4⟩ := run_ok k (happenV w (nextV w)) u a (by omega) hu
      exact ⟨r1, r2, (happen_same w _).trans r3, fun _ => r4 (by show nextV w ≤ u; omega)⟩
theorem setNow_ok {w : YWorld} (h : WOk w) {u : Int} (hu : w.now ≤ u) (hm : u ≤ 100000) (hn : nextV w < 0 ∨ u < nextV w) : WOk { w with now := u } := by
  have he : ∀ o ∈ w.orders, ∀ e, eventV w.network o = some e → u < e := fun o ho e he => by
    rcases next_spec h with ⟨_, k⟩ | ⟨k1, _, _, k4⟩
    · rw [k o ho] at he; cases he
    · have := k4 o ho e he
      have := h.parts.1
      omega
  have hst : ∀ o ∈ w.orders, stepV w.network u o = o := fun o ho => by
    have hev := he o ho
    have e1 : arriveV w.network u o = o := by
      unfold arriveV
      cases ht : o.way[o.gone.toNat]? with
      | none => rfl
      | some t =>
        simp only
        rw [if_neg]
        rintro ⟨c1, c2⟩
        have := hev u (by unfold eventV; rw [ht]; simp [c1, c2])
        omega
    unfold stepV
    rw [e1]
    unfold loadV
    cases ht : o.way[o.gone.toNat]? with
    | none => rfl
    | some t =>
      simp only
      rw [if_neg]
      rintro ⟨c1, c2⟩
      have := hev u (by unfold eventV; rw [ht]; simp [c1, c2])
      omega
  have hmap : w.orders.map (stepV w.network u) = w.orders := by
    conv => rhs; rw [← List.map_id w.orders]
    exact List.map_congr_left fun o ho => hst o ho
  have hok := happen_ok h hu hm (fun o ho e h' => by have := he o ho e h'; omega)
  have hv := h.ok
  have hk := hok.ok
  refine ⟨⟨h.fit.net, h.fit.orders, h.fit.bookings, h.fit.closed, h.fit.scans, h.fit.skip, h.fit.way⟩, ?_⟩
  unfold worldV at hv hk ⊢
  simp only [Bool.and_eq_true, Bool.not_eq_true', decide_eq_true_iff, decide_eq_false_iff_not] at hv hk ⊢
  obtain ⟨⟨⟨⟨⟨⟨⟨⟨⟨⟨h1, h2⟩, h3⟩, h4⟩, h5⟩, h6⟩, h7⟩, h8⟩, h9⟩, h10⟩, h11⟩ := hv
  obtain ⟨⟨⟨⟨⟨⟨⟨⟨⟨⟨k1, k2⟩, k3⟩, k4⟩, k5⟩, k6⟩, k7⟩, k8⟩, k9⟩, k10⟩, k11⟩ := hk
  refine ⟨⟨⟨⟨⟨⟨⟨⟨⟨⟨h1, ⟨by omega, hm⟩⟩, h3⟩, h4⟩, h5⟩, h6⟩, h7⟩, h8⟩, ?_⟩, ?_⟩, h11⟩
  · refine allI_iff.2 fun j s hj => ?_
    have := allI_iff.1 h9 j s hj
    unfold scanC at this ⊢
    simp only [Bool.and_eq_true, Bool.not_eq_true', decide_eq_false_iff_not] at this ⊢
    exact ⟨this.1, by omega⟩
  · refine allI_iff.2 fun j o hj => ?_
    have hj' : (happenV w u).orders[j]? = some o := by simp only [happenV, hmap]; exact hj
    have := allI_iff.1 k10 j o hj'
    have e : ∀ i, orderV (happenV w u) i o = orderV { w with now := u } i o := fun i => rfl
    rw [← e]; exact this
def advV (w : YWorld) (u : Int) : YWorld := { runV (todoW w) w u with now := u }
theorem adv_ok {w : YWorld} (h : WOk w) {u : Int} (hu : w.now ≤ u) (hm : u ≤ 100000) : WOk (advV w u) ∧ SameW w (advV w u) ∧ (nextV (advV w u) < 0 ∨ u < nextV (advV w u)) := by
  obtain ⟨a, b, c, d⟩ := run_ok _ w u h (Nat.le_refl _) hm
  exact ⟨setNow_ok a (d hu) hm b, ⟨c.network, c.bookings, c.closed, c.skip, c.len, c.ord⟩, b⟩
end Go.Proofs.YtmcdjilbkmhfoaaGreat
namespace Go.Proofs.YtmcdjilbkmhfoaaGreat
set_option maxRecDepth 10000
open Go.RowKit
set_option linter.unusedVariables false
set_option maxHeartbeats 16000000
def m_impl_hasInt_b0 (l : List Int) (n : Int) (s0 : Int) : Option (Int ⊕ (Unit ⊕ Bool)) :=
 cond (decide (s0 < (l.length : Int)))
 ((getI l s0).bind fun y1 =>
 cond (decide (y1 = n))
 (some (.inr (.inr true)))
 (some (.inl (w64 (s0 + 1)))))
 (some (.inr (.inl ())))
instance (l : List Int) (n : Int) : LoopE (m_impl_hasInt_b0 l n) := ⟨fun s0 => [.un, vi n, .un, .un, .un, .un, .un, .sl (l.map cInt), vi (l.length : Int), vi s0, .un, .un, .un, .un, .un, .un, .un], fun s0 => []⟩
def m_impl_hasInt (l : List Int) (n : Int) : Option Bool :=
 (iterF (m_impl_hasInt_b0 l n) NN 0).bind (selim (fun o0 =>
 some false) (fun r => some r))
theorem ok_impl_hasInt (l : List Int) (n : Int) {r : Bool} (H : m_impl_hasInt l n = some r) : CallM Tryz.prog 204 [.sl (l.map cInt), vi n] [] (vb r) [] := by
  replace H := H0 H
  unfold m_impl_hasInt at H
  refine callM_of Tryz.func204 rfl Tryz.ntmps204 Tryz.results204 fun Q hQ hQn => ?_
  exact wk2
instance (l : List Int) (n : Int) : CT Tryz.prog (m_impl_hasInt l n) := ⟨204, [.sl (l.map cInt), vi n], [], fun r => vb r, fun r => [], ok_impl_hasInt l n⟩
def m_p0_impl_makeScan (w : YWorld) (s : YScan) : Option YWorld :=
 (m_impl_hasInt w.skip (if 1000000000 < (w64 (w.made + 1)) then 1000000000 else (w64 (w.made + 1)))).bind fun y1 =>
 cond (!y1)
 (cond (decide ((w.scans.length : Int) < 200))
 ((chk (appOk ((w.scans : List YScan).length + ([s] : List YScan).length) 56)).bind fun _ =>
 some (⟨w.network, w.orders, w.bookings, w.closed, w.now, ((w.scans : List YScan) ++ [s]), w.skip, (if 1000000000 < (w64 (w.made + 1)) then 1000000000 else (w64 (w.made + 1)))⟩ : YWorld))
 (some (⟨w.network, w.orders, w.bookings, w.closed, w.now, w.scans, w.skip, (if 1000000000 < (w64 (w.made + 1)) then 1000000000 else (w64 (w.made + 1)))⟩ : YWorld)))
 (some (⟨w.network, w.orders, w.bookings, w.closed, w.now, w.scans, w.skip, (if 1000000000 < (w64 (w.made + 1)) then 1000000000 else (w64 (w.made + 1)))⟩ : YWorld))
theorem ok_p0_impl_makeScan (w : YWorld) (s : YScan) {r : YWorld} (H : m_p0_impl_makeScan w s = some r) : CallM Tryz.prog 138 [.be 0 0 0, .ag (cScan s)] [some ⟨41, 10, [[.ms 1, .ms 2, vi w.network.change, .ms 3, .ms 4, .ms 5, vi w.now, .ms 6, .ms 7, vi w.made]]⟩, some ⟨67, 6, w.network.legs.map cLeg⟩, some ⟨3, 1, w.network.off.map cInt⟩, some ⟨62, 11, w.orders.map cOrder⟩, some ⟨135, 4, w.bookings.map cBooking⟩, some ⟨55, 2, w.closed.map cTrip⟩, some ⟨130, 6, w.scans.map cScan⟩, some ⟨3, 1, w.skip.map cInt⟩] (.tu []) [some ⟨41, 10, [[.ms 1, .ms 2, vi r.network.change, .ms 3, .ms 4, .ms 5, vi r.now, .ms 8, .ms 7, vi r.made]]⟩, some ⟨67, 6, r.network.legs.map cLeg⟩, some ⟨3, 1, r.network.off.map cInt⟩, some ⟨62, 11, r.orders.map cOrder⟩, some ⟨135, 4, r.bookings.map cBooking⟩, some ⟨55, 2, r.closed.map cTrip⟩, none, some ⟨3, 1, r.skip.map cInt⟩, some ⟨130, 6, r.scans.map cScan⟩] := by
  replace H := H0 H
  unfold m_p0_impl_makeScan at H
  refine callM_of Tryz.func138 rfl Tryz.ntmps138 Tryz.results138 fun Q hQ hQn => ?_
  exact wk2
instance (w : YWorld) (s : YScan) : CT Tryz.prog (m_p0_impl_makeScan w s) := ⟨138, [.be 0 0 0, .ag (cScan s)], [some ⟨41, 10, [[.ms 1, .ms 2, vi w.network.change, .ms 3, .ms 4, .ms 5, vi w.now, .ms 6, .ms 7, vi w.made]]⟩, some ⟨67, 6, w.network.legs.map cLeg⟩, some ⟨3, 1, w.network.off.map cInt⟩, some ⟨62, 11, w.orders.map cOrder⟩, some ⟨135, 4, w.bookings.map cBooking⟩, some ⟨55, 2, w.closed.map cTrip⟩, some ⟨130, 6, w.scans.map cScan⟩, some ⟨3, 1, w.skip.map cInt⟩], fun r => .tu [], fun r => [some ⟨41, 10, [[.ms 1, .ms 2, vi r.network.change, .ms 3, .ms 4, .ms 5, vi r.now, .ms 8, .ms 7, vi r.made]]⟩, some ⟨67, 6, r.network.legs.map cLeg⟩, some ⟨3, 1, r.network.off.map cInt⟩, some ⟨62, 11, r.orders.map cOrder⟩, some ⟨135, 4, r.bookings.map cBooking⟩, some ⟨55, 2, r.closed.map cTrip⟩, none, some ⟨3, 1, r.skip.map cInt⟩, some ⟨130, 6, r.scans.map cScan⟩], ok_p0_impl_makeScan w s⟩
end Go.Proofs.YtmcdjilbkmhfoaaGreat
