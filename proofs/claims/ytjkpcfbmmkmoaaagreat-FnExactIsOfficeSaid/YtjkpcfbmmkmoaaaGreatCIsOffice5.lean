/- A part of the proof of the statement in the last file of this claim: texts on the language of the program and on its functions. No condition. -/
import Derived.Test.YtjkpcfbmmkmoaaaGreatCIsOffice4
import Derived.Test.YtjkpcfbmmkmoaaaGreatCIsOffice3
import Derived.Test.YtjkpcfbmmkmoaaaGreatCIsOffice2
/- The two sides' tests of worlds answer alike. -/
namespace Go.Proofs.YtjkpcfbmmkmoaaaGreat
set_option maxRecDepth 10000
open Go.RowKit
set_option linter.unusedVariables false
set_option linter.unusedSimpArgs false
set_option linter.unusedSectionVars false
def closedC (w : YWorld) (i : Nat) (t : YTrip) : Bool := tripB w.network t && !closedB (w.closed.take i) t
def scanC (w : YWorld) (i : Nat) (s : YScan) : Bool := (m_spec_IsScan w.network s).getD false && !decide (w.now < s.at_)
def tripsV (w : YWorld) : Int := w.orders.foldl (fun a o => w64 (a + (o.way.length : Int))) 0
def worldV (w : YWorld) : Bool :=
  booksV w.network w.bookings && (decide (0 ≤ w.now) && decide (w.now ≤ 100000)) && !decide (30 < (w.orders.length : Int)) && !decide (20 < (w.closed.length : Int)) && !decide (200 < (w.scans.length : Int)) && !decide (50 < (w.skip.length : Int)) && (decide ((w.scans.length : Int) ≤ w.made) && decide (w.made ≤ 1000000000)) &&
    allI (closedC w) 0 w.closed && allI (scanC w) 0 w.scans && allI (orderV w) 0 w.orders && decide (tripsV w = (w.bookings.length : Int))
theorem subL_take {α : Type} (xs : List α) (i : Nat) : subL xs 0 (i : Int) = xs.take i := by simp [subL]
section
variable {w : YWorld} (hf : WFit w) (hb : booksV w.network w.bookings = true)
include hf
theorem scan_v (s : YScan) : m_spec_IsScan w.network s = some ((m_spec_IsScan w.network s).getD false) := by
  obtain ⟨b, h⟩ := isScan_some hf.net s
  rw [h]; rfl
theorem closed_spec : iterF (m_spec_IsWorld_b0 w) NN 0 = some (if allI (closedC w) 0 w.closed = true then .inl () else .inr false) := by
  refine iter_fold (A := Unit) (fun _ i => i) _ (fun a _ => a) id (fun a i t ht => ?_) (fun a => ?_) (by have := hf.closed; unfold NN; omega) ()
  · have hlt := (List.getElem?_eq_some_iff.1 ht).1
    have hcl := hf.closed
    have hg : getI w.closed (i : Int) = some t := by rw [getI_nat]; exact ht
    have hi : w64 ((i : Int) + 1) = ((i + 1 : Nat) : Int) := w64_nat hlt (by omega)
    have hs : chk (slOk 0 (i : Int) w.closed.length) = some () := chk_t (by unfold slOk; rw [decide_eq_true_iff]; omega)
    unfold m_spec_IsWorld_b0
    simp only [decide_eq_true (show (i : Int) < w.closed.length by omega), cond_true, hg, Option.bind_some, hi, hs, tripB_v hf.net, subL_take, l6Closed_eq, hasTrip_v (show (w.closed.take i).length ≤ 1048576 by simp; omega)]
    unfold closedC
    have hcd : ((w.closed.take i).any fun y => decide (y = t)) = closedB (w.closed.take i) t := rfl
    rw [hcd]
    cases tripB w.network t <;> cases closedB (w.closed.take i) t <;> rfl
  · unfold m_spec_IsWorld_b0
    simp
theorem closed_impl (hb : booksV w.network w.bookings = true) : iterF (m_impl_IsWorld_b0 w) NN 0 = some (if allI (closedC w) 0 w.closed = true then .inl () else .inr false) := by
  have hnet := (books_net hb).1
  refine iter_fold (A := Unit) (fun _ i => i) _ (fun a _ => a) id (fun a i t ht => ?_) (fun a => ?_) (by have := hf.closed; unfold NN; omega) ()
  · have hlt := (List.getElem?_eq_some_iff.1 ht).1
    have hcl := hf.closed
    have hg : getI w.closed (i : Int) = some t := by rw [getI_nat]; exact ht
    have hi : w64 ((i : Int) + 1) = ((i + 1 : Nat) : Int) := w64_nat hlt (by omega)
    have hs : chk (slOk 0 (i : Int) w.closed.length) = some () := chk_t (by unfold slOk; rw [decide_eq_true_iff]; omega)
    unfold m_impl_IsWorld_b0
    simp only [decide_eq_true (show (i : Int) < w.closed.length by omega), cond_true, hg, Option.bind_some, hi, hs, isTrip_v hf.net hnet, tripB_v hf.net, subL_take, hasTrip_v (show (w.closed.take i).length ≤ 1048576 by simp; omega)]
    unfold closedC
    have hcd : ((w.closed.take i).any fun y => decide (y = t)) = closedB (w.closed.take i) t := rfl
    rw [hcd]
    cases tripB w.network t <;> cases closedB (w.closed.take i) t <;> rfl
  · unfold m_impl_IsWorld_b0
    simp
theorem scans_spec : iterF (m_spec_IsWorld_b1 w) NN 0 = some (if allI (scanC w) 0 w.scans = true then .inl () else .inr false) := by
  refine iter_fold (A := Unit) (fun _ i => i) _ (fun a _ => a) id (fun a i s hs => ?_) (fun a => ?_) (by have := hf.scans; unfold NN; omega) ()
  · have hlt := (List.getElem?_eq_some_iff.1 hs).1
    have hcl := hf.scans
    have hg : getI w.scans (i : Int) = some s := by rw [getI_nat]; exact hs
    have hi : w64 ((i : Int) + 1) = ((i + 1 : Nat) : Int) := w64_nat hlt (by omega)
    unfold m_spec_IsWorld_b1
    rw [decide_eq_true (show (i : Int) < w.scans.length by omega), cond_true, hg]
    simp only [Option.bind_some]
    rw [scan_v hf s]
    simp only [Option.bind_some, hi]
    unfold scanC
    cases (m_spec_IsScan w.network s).getD false <;> cases decide (w.now < s.at_) <;> rfl
  · unfold m_spec_IsWorld_b1
    simp
theorem scans_impl : iterF (m_impl_IsWorld_b1 w) NN 0 = some (if allI (scanC w) 0 w.scans = true then .inl () else .inr false) := by
  refine iter_fold (A := Unit) (fun _ i => i) _ (fun a _ => a) id (fun a i s hs => ?_) (fun a => ?_) (by have := hf.scans; unfold NN; omega) ()
  · have hlt := (List.getElem?_eq_some_iff.1 hs).1
    have hcl := hf.scans
    have hg : getI w.scans (i : Int) = some s := by rw [getI_nat]; exact hs
    have hi : w64 ((i : Int) + 1) = ((i + 1 : Nat) : Int) := w64_nat hlt (by omega)
    unfold m_impl_IsWorld_b1
    rw [decide_eq_true (show (i : Int) < w.scans.length by omega), cond_true, hg]
    simp only [Option.bind_some]
    rw [isScan_eq hf.net, scan_v hf s]
    simp only [Option.bind_some, hi]
    unfold scanC
    cases (m_spec_IsScan w.network s).getD false <;> cases decide (w.now < s.at_) <;> rfl
  · unfold m_impl_IsWorld_b1
    simp
include hb
theorem orders_spec : iterF (m_spec_IsWorld_b2 w) NN (0, 0) = some (if allI (orderV w) 0 w.orders = true then .inl (tripsV w) else .inr false) := by
  refine iter_fold (A := Int) (fun a i => (a, i)) _ (fun a (o : YOrder) => w64 (a + (o.way.length : Int))) id (fun a i o ho => ?_) (fun a => ?_) (by have := hf.orders; unfold NN; omega) 0
  · have hlt := (List.getElem?_eq_some_iff.1 ho).1
    have hcl := hf.orders
    have hg : getI w.orders (i : Int) = some o := by rw [getI_nat]; exact ho
    have hi : w64 ((i : Int) + 1) = ((i + 1 : Nat) : Int) := w64_nat hlt (by omega)
    unfold m_spec_IsWorld_b2
    simp only [decide_eq_true (show (i : Int) < w.orders.length by omega), cond_true, hg, Option.bind_some, hi, spec_order hf hb hg]
    cases orderV w i o <;> rfl
  · unfold m_spec_IsWorld_b2
    simp
theorem orders_impl : iterF (m_impl_IsWorld_b2 w (placesV w.network)) NN (0, 0) = some (if allI (orderV w) 0 w.orders = true then .inl (tripsV w) else .inr false) := by
  refine iter_fold (A := Int) (fun a i => (a, i)) _ (fun a (o : YOrder) => w64 (a + (o.way.length : Int))) id (fun a i o ho => ?_) (fun a => ?_) (by have := hf.orders; unfold NN; omega) 0
  · have hlt := (List.getElem?_eq_some_iff.1 ho).1
    have hcl := hf.orders
    have hg : getI w.orders (i : Int) = some o := by rw [getI_nat]; exact ho
    have hi : w64 ((i : Int) + 1) = ((i + 1 : Nat) : Int) := w64_nat hlt (by omega)
    unfold m_impl_IsWorld_b2
    simp only [decide_eq_true (show (i : Int) < w.orders.length by omega), cond_true, hg, Option.bind_some, hi, impl_order hf hb hg]
    cases orderV w i o <;> rfl
  · unfold m_impl_IsWorld_b2
    simp
end
theorem ite_sel {γ : Type} {b : Bool} {x : γ} {K : γ → Option Bool} {r : Bool} (h : b = true → K x = some r) (h' : b = false → r = false) : (some (if b = true then (Sum.inl x : γ ⊕ Bool) else .inr false)).bind (selim K (fun r => some r)) = some r := by
  cases b with
  | true => exact h rfl
  | false => rw [h' rfl]; rfl
theorem spec_world {w : YWorld} (hf : WFit w) : m_spec_IsWorld w = some (worldV w) := by
  unfold m_spec_IsWorld worldV
  rw [specBooks_v hf.net hf.bookings]
  simp only [Option.bind_some, l1In_v]
  cases hb : booksV w.network w.bookings with
  | false => rfl
  | true =>
  cases decide (0 ≤ w.now) && decide (w.now ≤ 100000) with
  | false => rfl
  | true =>
  cases decide (30 < (w.orders.length : Int)) with
  | true => rfl
  | false =>
  cases decide (20 < (w.closed.length : Int)) with
  | true => rfl
  | false =>
  cases decide (200 < (w.scans.length : Int)) with
  | true => rfl
  | false =>
  cases decide (50 < (w.skip.length : Int)) with
  | true => rfl
  | false =>
  cases decide ((w.scans.length : Int) ≤ w.made) && decide (w.made ≤ 1000000000) with
  | false => rfl
  | true =>
  simp only [Bool.not_true, Bool.not_false, cond_false, Bool.true_and]
  rw [closed_spec hf, scans_spec hf, orders_spec hf hb]
  refine ite_sel (fun h1 => ?_) (fun h1 => by rw [h1]; rfl)
  refine ite_sel (fun h2 => ?_) (fun h2 => by rw [h1, h2]; rfl)
  refine ite_sel (fun h3 => ?_) (fun h3 => by rw [h1, h2, h3]; rfl)
  rw [h1, h2, h3]; rfl
theorem impl_world {w : YWorld} (hf : WFit w) : m_impl_IsWorld w = some (worldV w) := by
  unfold m_impl_IsWorld worldV
  rw [implBooks_v hf.net hf.bookings, within_eq]
  simp only [Option.bind_some, l1In_v]
  cases hb : booksV w.network w.bookings with
  | false => rfl
  | true =>
  cases decide (0 ≤ w.now) && decide (w.now ≤ 100000) with
  | false => rfl
  | true =>
  cases decide (30 < (w.orders.length : Int)) with
  | true => rfl
  | false =>
  cases decide (20 < (w.closed.length : Int)) with
  | true => rfl
  | false =>
  cases decide (200 < (w.scans.length : Int)) with
  | true => rfl
  | false =>
  cases decide (50 < (w.skip.length : Int)) with
  | true => rfl
  | false =>
  cases decide ((w.scans.length : Int) ≤ w.made) && decide (w.made ≤ 1000000000) with
  | false => rfl
  | true =>
  simp only [Bool.not_true, Bool.not_false, cond_false, Bool.true_and]
  rw [closed_impl hf hb, scans_impl hf, impl_places hf.net]
  simp only [Option.bind_some]
  rw [orders_impl hf hb]
  refine ite_sel (fun h1 => ?_) (fun h1 => by rw [h1]; rfl)
  refine ite_sel (fun h2 => ?_) (fun h2 => by rw [h1, h2]; rfl)
  refine ite_sel (fun h3 => ?_) (fun h3 => by rw [h1, h2, h3]; rfl)
  rw [h1, h2, h3]; rfl
/-- What a valid world's order is. -/
theorem world_order {w : YWorld} (h : worldV w = true) {i : Nat} {o : YOrder} (ho : w.orders[i]? = some o) : orderV w i o = true := by
  unfold worldV at h
  simp only [Bool.and_eq_true] at h
  have := allI_iff.1 h.1.2 i o ho
  rwa [Nat.zero_add] at this
theorem world_books {w : YWorld} (h : worldV w = true) : booksV w.network w.bookings = true := by
  unfold worldV at h
  simp only [Bool.and_eq_true] at h
  exact h.1.1.1.1.1.1.1.1.1.1
end Go.Proofs.YtjkpcfbmmkmoaaaGreat

/- The mirror of laws_eqLeg, and that the code does just that (printed by a program of my own). -/
namespace Go.Proofs.YtjkpcfbmmkmoaaaGreat
set_option maxRecDepth 10000
open Go.RowKit
set_option linter.unusedVariables false
set_option maxHeartbeats 16000000
def m_laws_eqLeg (a : YLeg) (b : YLeg) : Option Bool :=
 cond (!decide (a.from_ = b.from_))
 (some false)
 (cond (!decide (a.to_ = b.to_))
 (some false)
 (cond (!decide (a.start = b.start))
 (some false)
 (cond (!decide (a.takes = b.takes))
 (some false)
 (cond (!decide (a.days = b.days))
 (some false)
 (cond (!decide (a.room = b.room))
 (some false)
 (some true))))))
theorem ok_laws_eqLeg (a : YLeg) (b : YLeg) {r : Bool} (H : m_laws_eqLeg a b = some r) : CallM Tryz.prog 157 [.ag (cLeg a), .ag (cLeg b)] [] (vb r) [] := by
  replace H := H0 H
  unfold m_laws_eqLeg at H
  refine callM_of Tryz.func157 rfl Tryz.ntmps157 Tryz.results157 fun Q hQ hQn => ?_
  exact wk
instance (a : YLeg) (b : YLeg) : CT Tryz.prog (m_laws_eqLeg a b) := ⟨157, [.ag (cLeg a), .ag (cLeg b)], [], fun r => vb r, fun r => [], ok_laws_eqLeg a b⟩
end Go.Proofs.YtjkpcfbmmkmoaaaGreat

/- The mirror of laws_toLeg, and that the code does just that (printed by a program of my own). -/
namespace Go.Proofs.YtjkpcfbmmkmoaaaGreat
set_option maxRecDepth 10000
open Go.RowKit
set_option linter.unusedVariables false
set_option maxHeartbeats 16000000
def m_laws_toLeg (a : YLeg) : Option YLeg :=
 some a
theorem ok_laws_toLeg (a : YLeg) {r : YLeg} (H : m_laws_toLeg a = some r) : CallM Tryz.prog 152 [.ag (cLeg a)] [] (.ag [vs r.from_, vs r.to_, vi r.start, vi r.takes, vi r.days, vi r.room]) [] := by
  replace H := H0 H
  unfold m_laws_toLeg at H
  refine callM_of Tryz.func152 rfl Tryz.ntmps152 Tryz.results152 fun Q hQ hQn => ?_
  exact wk
instance (a : YLeg) : CT Tryz.prog (m_laws_toLeg a) := ⟨152, [.ag (cLeg a)], [], fun r => .ag [vs r.from_, vs r.to_, vi r.start, vi r.takes, vi r.days, vi r.room], fun r => [], ok_laws_toLeg a⟩
end Go.Proofs.YtjkpcfbmmkmoaaaGreat

/- The mirror of laws_szLeg, and that the code does just that (printed by a program of my own). -/
namespace Go.Proofs.YtjkpcfbmmkmoaaaGreat
set_option maxRecDepth 10000
open Go.RowKit
set_option linter.unusedVariables false
set_option maxHeartbeats 16000000
def m_laws_szLeg (a : YLeg) (left : Int) : Option Int :=
 cond (decide ((w64 (left - (a.from_.size : Int))) < 0))
 (some (-1))
 (cond (decide ((w64 ((w64 (left - (a.from_.size : Int))) - (a.to_.size : Int))) < 0))
 (some (-1))
 (some (w64 ((w64 (left - (a.from_.size : Int))) - (a.to_.size : Int)))))
theorem ok_laws_szLeg (a : YLeg) (left : Int) {r : Int} (H : m_laws_szLeg a left = some r) : CallM Tryz.prog 148 [.ag (cLeg a), vi left] [] (vi r) [] := by
  replace H := H0 H
  unfold m_laws_szLeg at H
  refine callM_of Tryz.func148 rfl Tryz.ntmps148 Tryz.results148 fun Q hQ hQn => ?_
  exact wk
instance (a : YLeg) (left : Int) : CT Tryz.prog (m_laws_szLeg a left) := ⟨148, [.ag (cLeg a), vi left], [], fun r => vi r, fun r => [], ok_laws_szLeg a left⟩
end Go.Proofs.YtjkpcfbmmkmoaaaGreat

/- The mirror of laws_eqLegS, and that the code does just that (printed by a program of my own). -/
namespace Go.Proofs.YtjkpcfbmmkmoaaaGreat
set_option maxRecDepth 10000
open Go.RowKit
set_option linter.unusedVariables false
set_option maxHeartbeats 16000000
def m_laws_eqLegS_b0 (a : List YLeg) (b : List YLeg) (s0 : Int) : Option (Int ⊕ (Unit ⊕ Bool)) :=
 cond (decide (s0 < (a.length : Int)))
 ((getI a s0).bind fun y1 =>
 (getI b s0).bind fun y2 =>
 (m_laws_eqLeg y1 y2).bind fun y3 =>
 cond (!y3)
 (some (.inr (.inr false)))
 (some (.inl (w64 (s0 + 1)))))
 (some (.inr (.inl ())))
instance (a : List YLeg) (b : List YLeg) : LoopE (m_laws_eqLegS_b0 a b) := ⟨fun s0 => [.sl (a.map cLeg), .sl (b.map cLeg), .un, .un, .un, vi s0, .un, .un, .un, .un, .un, .un, .un, .un, .un, .un, .un, .un, .un, .un, .un, .un, .un, .un, .un, .un, .un], fun s0 => []⟩
def m_laws_eqLegS (a : List YLeg) (b : List YLeg) : Option Bool :=
 cond (!decide ((a.length : Int) = (b.length : Int)))
 (some false)
 ((iterF (m_laws_eqLegS_b0 a b) NN 0).bind (selim (fun o0 =>
 some true) (fun r => some r)))
theorem ok_laws_eqLegS (a : List YLeg) (b : List YLeg) {r : Bool} (H : m_laws_eqLegS a b = some r) : CallM Tryz.prog 71 [.sl (a.map cLeg), .sl (b.map cLeg)] [] (vb r) [] := by
  replace H := H0 H
  unfold m_laws_eqLegS at H
  refine callM_of Tryz.func71 rfl Tryz.ntmps71 Tryz.results71 fun Q hQ hQn => ?_
  exact wk
instance (a : List YLeg) (b : List YLeg) : CT Tryz.prog (m_laws_eqLegS a b) := ⟨71, [.sl (a.map cLeg), .sl (b.map cLeg)], [], fun r => vb r, fun r => [], ok_laws_eqLegS a b⟩
end Go.Proofs.YtjkpcfbmmkmoaaaGreat

/- The mirror of laws_toLegS, and that the code does just that (printed by a program of my own). -/
namespace Go.Proofs.YtjkpcfbmmkmoaaaGreat
set_option maxRecDepth 10000
open Go.RowKit
set_option linter.unusedVariables false
set_option maxHeartbeats 16000000
def m_laws_toLegS_b0 (a : List YLeg) (s0 : Int × (List YLeg)) : Option ((Int × (List YLeg)) ⊕ (List YLeg)) :=
 cond (decide (s0.1 < (a.length : Int)))
 ((getI a s0.1).bind fun y1 =>
 (m_laws_toLeg y1).bind fun y2 =>
 (getI s0.2 s0.1).bind fun y3 =>
 some (.inl ((w64 (s0.1 + 1)), (s0.2.set (Int.toNat s0.1) y2))))
 (some (.inr s0.2))
instance (a : List YLeg) : LoopE (m_laws_toLegS_b0 a) := ⟨fun s0 => [.sl (a.map cLeg), .un, .un, .ms 0, vi s0.1, .un, .un, .un, .un, .un, .un, .un, .un, .un, .un, .un, .un, .un, .un, .un, .un, .un, .un], fun s0 => [some ⟨197, 6, s0.2.map cLeg⟩]⟩
def m_laws_toLegS (a : List YLeg) : Option (List YLeg) :=
 (chk (mkOk (a.length : Int) 64)).bind fun _ =>
 (iterF (m_laws_toLegS_b0 a) NN (0, (List.replicate (Int.toNat (a.length : Int)) (⟨⟨#[]⟩, ⟨#[]⟩, 0, 0, 0, 0⟩ : YLeg)))).bind (fun o0 =>
 some o0)
theorem ok_laws_toLegS (a : List YLeg) {r : (List YLeg)} (H : m_laws_toLegS a = some r) : CallM Tryz.prog 66 [.sl (a.map cLeg)] [] (.ms 0) [some ⟨197, 6, r.map cLeg⟩] := by
  replace H := H0 H
  unfold m_laws_toLegS at H
  refine callM_of Tryz.func66 rfl Tryz.ntmps66 Tryz.results66 fun Q hQ hQn => ?_
  exact wk
instance (a : List YLeg) : CT Tryz.prog (m_laws_toLegS a) := ⟨66, [.sl (a.map cLeg)], [], fun r => .ms 0, fun r => [some ⟨197, 6, r.map cLeg⟩], ok_laws_toLegS a⟩
end Go.Proofs.YtjkpcfbmmkmoaaaGreat

/- The mirror of laws_szLegS, and that the code does just that (printed by a program of my own). -/
namespace Go.Proofs.YtjkpcfbmmkmoaaaGreat
set_option maxRecDepth 10000
open Go.RowKit
set_option linter.unusedVariables false
set_option maxHeartbeats 16000000
def m_laws_szLegS_b0 (a : List YLeg) (s0 : Int × Int) : Option ((Int × Int) ⊕ (Int ⊕ Int)) :=
 cond (decide (s0.2 < (a.length : Int)))
 ((getI a s0.2).bind fun y1 =>
 (m_laws_szLeg y1 s0.1).bind fun y2 =>
 cond (decide (y2 < 0))
 (some (.inr (.inr (-1))))
 (some (.inl (y2, (w64 (s0.2 + 1))))))
 (some (.inr (.inl s0.1)))
instance (a : List YLeg) : LoopE (m_laws_szLegS_b0 a) := ⟨fun s0 => [.sl (a.map cLeg), vi s0.1, .un, .un, .un, vi s0.2, .un, .un, .un, .un, .un, .un, .un, .un, .un, .un, .un, .un, .un, .un, .un, .un, .un, .un, .un, .un, .un], fun s0 => []⟩
def m_laws_szLegS (a : List YLeg) (left : Int) : Option Int :=
 cond (decide ((w64 (left - (a.length : Int))) < 0))
 (some (-1))
 ((iterF (m_laws_szLegS_b0 a) NN ((w64 (left - (a.length : Int))), 0)).bind (selim (fun o0 =>
 some o0) (fun r => some r)))
theorem ok_laws_szLegS (a : List YLeg) (left : Int) {r : Int} (H : m_laws_szLegS a left = some r) : CallM Tryz.prog 62 [.sl (a.map cLeg), vi left] [] (vi r) [] := by
  replace H := H0 H
  unfold m_laws_szLegS at H
  refine callM_of Tryz.func62 rfl Tryz.ntmps62 Tryz.results62 fun Q hQ hQn => ?_
  exact wk
instance (a : List YLeg) (left : Int) : CT Tryz.prog (m_laws_szLegS a left) := ⟨62, [.sl (a.map cLeg), vi left], [], fun r => vi r, fun r => [], ok_laws_szLegS a left⟩
end Go.Proofs.YtjkpcfbmmkmoaaaGreat

/- The mirror of laws_eqIntS, and that the code does just that (printed by a program of my own). -/
namespace Go.Proofs.YtjkpcfbmmkmoaaaGreat
set_option maxRecDepth 10000
open Go.RowKit
set_option linter.unusedVariables false
set_option maxHeartbeats 16000000
def m_laws_eqIntS_b0 (a : List Int) (b : List Int) (s0 : Int) : Option (Int ⊕ (Unit ⊕ Bool)) :=
 cond (decide (s0 < (a.length : Int)))
 ((getI a s0).bind fun y1 =>
 (getI b s0).bind fun y2 =>
 cond (!decide (y1 = y2))
 (some (.inr (.inr false)))
 (some (.inl (w64 (s0 + 1)))))
 (some (.inr (.inl ())))
instance (a : List Int) (b : List Int) : LoopE (m_laws_eqIntS_b0 a b) := ⟨fun s0 => [.sl (a.map cInt), .sl (b.map cInt), .un, .un, .un, vi s0, .un, .un, .un, .un, .un, .un, .un, .un, .un, .un, .un, .un, .un, .un, .un, .un, .un, .un, .un, .un], fun s0 => []⟩
def m_laws_eqIntS (a : List Int) (b : List Int) : Option Bool :=
 cond (!decide ((a.length : Int) = (b.length : Int)))
 (some false)
 ((iterF (m_laws_eqIntS_b0 a b) NN 0).bind (selim (fun o0 =>
 some true) (fun r => some r)))
theorem ok_laws_eqIntS (a : List Int) (b : List Int) {r : Bool} (H : m_laws_eqIntS a b = some r) : CallM Tryz.prog 21 [.sl (a.map cInt), .sl (b.map cInt)] [] (vb r) [] := by
  replace H := H0 H
  unfold m_laws_eqIntS at H
  refine callM_of Tryz.func21 rfl Tryz.ntmps21 Tryz.results21 fun Q hQ hQn => ?_
  exact wk
instance (a : List Int) (b : List Int) : CT Tryz.prog (m_laws_eqIntS a b) := ⟨21, [.sl (a.map cInt), .sl (b.map cInt)], [], fun r => vb r, fun r => [], ok_laws_eqIntS a b⟩
end Go.Proofs.YtjkpcfbmmkmoaaaGreat

/- The mirror of laws_toIntS, and that the code does just that (printed by a program of my own). -/
namespace Go.Proofs.YtjkpcfbmmkmoaaaGreat
set_option maxRecDepth 10000
open Go.RowKit
set_option linter.unusedVariables false
set_option maxHeartbeats 16000000
def m_laws_toIntS_b0 (a : List Int) (s0 : Int × (List Int)) : Option ((Int × (List Int)) ⊕ (List Int)) :=
 cond (decide (s0.1 < (a.length : Int)))
 ((getI a s0.1).bind fun y1 =>
 (getI s0.2 s0.1).bind fun y2 =>
 some (.inl ((w64 (s0.1 + 1)), (s0.2.set (Int.toNat s0.1) y1))))
 (some (.inr s0.2))
instance (a : List Int) : LoopE (m_laws_toIntS_b0 a) := ⟨fun s0 => [.sl (a.map cInt), .un, .un, .ms 0, vi s0.1, .un, .un, .un, .un, .un, .un, .un, .un, .un, .un, .un, .un, .un, .un, .un, .un, .un], fun s0 => [some ⟨3, 1, s0.2.map cInt⟩]⟩
def m_laws_toIntS (a : List Int) : Option (List Int) :=
 (chk (mkOk (a.length : Int) 8)).bind fun _ =>
 (iterF (m_laws_toIntS_b0 a) NN (0, (List.replicate (Int.toNat (a.length : Int)) 0))).bind (fun o0 =>
 some o0)
theorem ok_laws_toIntS (a : List Int) {r : (List Int)} (H : m_laws_toIntS a = some r) : CallM Tryz.prog 16 [.sl (a.map cInt)] [] (.ms 0) [some ⟨3, 1, r.map cInt⟩] := by
  replace H := H0 H
  unfold m_laws_toIntS at H
  refine callM_of Tryz.func16 rfl Tryz.ntmps16 Tryz.results16 fun Q hQ hQn => ?_
  exact wk
instance (a : List Int) : CT Tryz.prog (m_laws_toIntS a) := ⟨16, [.sl (a.map cInt)], [], fun r => .ms 0, fun r => [some ⟨3, 1, r.map cInt⟩], ok_laws_toIntS a⟩
end Go.Proofs.YtjkpcfbmmkmoaaaGreat

/- The mirror of laws_szIntS, and that the code does just that (printed by a program of my own). -/
namespace Go.Proofs.YtjkpcfbmmkmoaaaGreat
set_option maxRecDepth 10000
open Go.RowKit
set_option linter.unusedVariables false
set_option maxHeartbeats 16000000
def m_laws_szIntS (a : List Int) (left : Int) : Option Int :=
 cond (decide ((w64 (left - (a.length : Int))) < 0))
 (some (-1))
 (some (w64 (left - (a.length : Int))))
theorem ok_laws_szIntS (a : List Int) (left : Int) {r : Int} (H : m_laws_szIntS a left = some r) : CallM Tryz.prog 37 [.sl (a.map cInt), vi left] [] (vi r) [] := by
  replace H := H0 H
  unfold m_laws_szIntS at H
  refine callM_of Tryz.func37 rfl Tryz.ntmps37 Tryz.results37 fun Q hQ hQn => ?_
  exact wk
instance (a : List Int) (left : Int) : CT Tryz.prog (m_laws_szIntS a left) := ⟨37, [.sl (a.map cInt), vi left], [], fun r => vi r, fun r => [], ok_laws_szIntS a left⟩
end Go.Proofs.YtjkpcfbmmkmoaaaGreat

/- The mirror of laws_eqNetwork, and that the code does just that (printed by a program of my own). -/
namespace Go.Proofs.YtjkpcfbmmkmoaaaGreat
set_option maxRecDepth 10000
open Go.RowKit
set_option linter.unusedVariables false
set_option maxHeartbeats 16000000
def m_laws_eqNetwork (a : YNetwork) (b : YNetwork) : Option Bool :=
 (m_laws_eqLegS a.legs b.legs).bind fun y1 =>
 cond (!y1)
 (some false)
 ((m_laws_eqIntS a.off b.off).bind fun y2 =>
 cond (!y2)
 (some false)
 (cond (!decide (a.change = b.change))
 (some false)
 (some true)))
theorem ok_laws_eqNetwork (a : YNetwork) (b : YNetwork) {r : Bool} (H : m_laws_eqNetwork a b = some r) : CallM Tryz.prog 20 [.ag (cNetwork a), .ag (cNetwork b)] [] (vb r) [] := by
  replace H := H0 H
  unfold m_laws_eqNetwork at H
  refine callM_of Tryz.func20 rfl Tryz.ntmps20 Tryz.results20 fun Q hQ hQn => ?_
  exact wk
instance (a : YNetwork) (b : YNetwork) : CT Tryz.prog (m_laws_eqNetwork a b) := ⟨20, [.ag (cNetwork a), .ag (cNetwork b)], [], fun r => vb r, fun r => [], ok_laws_eqNetwork a b⟩
end Go.Proofs.YtjkpcfbmmkmoaaaGreat

/- The mirror of laws_toNetwork, and that the code does just that (printed by a program of my own). -/
namespace Go.Proofs.YtjkpcfbmmkmoaaaGreat
set_option maxRecDepth 10000
open Go.RowKit
set_option linter.unusedVariables false
set_option maxHeartbeats 16000000
def m_laws_toNetwork (a : YNetwork) : Option YNetwork :=
 (m_laws_toLegS a.legs).bind fun y1 =>
 (m_laws_toIntS a.off).bind fun y2 =>
 some (⟨y1, y2, a.change⟩ : YNetwork)
theorem ok_laws_toNetwork (a : YNetwork) {r : YNetwork} (H : m_laws_toNetwork a = some r) : CallM Tryz.prog 15 [.ag (cNetwork a)] [] (.ag [.sl (r.legs.map cLeg), .sl (r.off.map cInt), vi r.change]) [] := by
  replace H := H0 H
  unfold m_laws_toNetwork at H
  refine callM_of Tryz.func15 rfl Tryz.ntmps15 Tryz.results15 fun Q hQ hQn => ?_
  exact wk
instance (a : YNetwork) : CT Tryz.prog (m_laws_toNetwork a) := ⟨15, [.ag (cNetwork a)], [], fun r => .ag [.sl (r.legs.map cLeg), .sl (r.off.map cInt), vi r.change], fun r => [], ok_laws_toNetwork a⟩
end Go.Proofs.YtjkpcfbmmkmoaaaGreat

/- The mirror of laws_szNetwork, and that the code does just that (printed by a program of my own). -/
namespace Go.Proofs.YtjkpcfbmmkmoaaaGreat
set_option maxRecDepth 10000
open Go.RowKit
set_option linter.unusedVariables false
set_option maxHeartbeats 16000000
def m_laws_szNetwork (a : YNetwork) (left : Int) : Option Int :=
 (m_laws_szLegS a.legs left).bind fun y1 =>
 cond (decide (y1 < 0))
 (some (-1))
 ((m_laws_szIntS a.off y1).bind fun y2 =>
 cond (decide (y2 < 0))
 (some (-1))
 (some y2))
theorem ok_laws_szNetwork (a : YNetwork) (left : Int) {r : Int} (H : m_laws_szNetwork a left = some r) : CallM Tryz.prog 11 [.ag (cNetwork a), vi left] [] (vi r) [] := by
  replace H := H0 H
  unfold m_laws_szNetwork at H
  refine callM_of Tryz.func11 rfl Tryz.ntmps11 Tryz.results11 fun Q hQ hQn => ?_
  exact wk
instance (a : YNetwork) (left : Int) : CT Tryz.prog (m_laws_szNetwork a left) := ⟨11, [.ag (cNetwork a), vi left], [], fun r => vi r, fun r => [], ok_laws_szNetwork a left⟩
end Go.Proofs.YtjkpcfbmmkmoaaaGreat

/- The mirror of laws_eqTrip, and that the code does just that (printed by a program of my own). -/
namespace Go.Proofs.YtjkpcfbmmkmoaaaGreat
set_option maxRecDepth 10000
open Go.RowKit
set_option linter.unusedVariables false
set_option maxHeartbeats 16000000
def m_laws_eqTrip (a : YTrip) (b : YTrip) : Option Bool :=
 cond (!decide (a.leg = b.leg))
 (some false)
 (cond (!decide (a.day = b.day))
 (some false)
 (some true))
theorem ok_laws_eqTrip (a : YTrip) (b : YTrip) {r : Bool} (H : m_laws_eqTrip a b = some r) : CallM Tryz.prog 175 [.ag (cTrip a), .ag (cTrip b)] [] (vb r) [] := by
  replace H := H0 H
  unfold m_laws_eqTrip at H
  refine callM_of Tryz.func175 rfl Tryz.ntmps175 Tryz.results175 fun Q hQ hQn => ?_
  exact wk
instance (a : YTrip) (b : YTrip) : CT Tryz.prog (m_laws_eqTrip a b) := ⟨175, [.ag (cTrip a), .ag (cTrip b)], [], fun r => vb r, fun r => [], ok_laws_eqTrip a b⟩
end Go.Proofs.YtjkpcfbmmkmoaaaGreat

/- The mirror of laws_toTrip, and that the code does just that (printed by a program of my own). -/
namespace Go.Proofs.YtjkpcfbmmkmoaaaGreat
set_option maxRecDepth 10000
open Go.RowKit
set_option linter.unusedVariables false
set_option maxHeartbeats 16000000
def m_laws_toTrip (a : YTrip) : Option YTrip :=
 some a
theorem ok_laws_toTrip (a : YTrip) {r : YTrip} (H : m_laws_toTrip a = some r) : CallM Tryz.prog 166 [.ag (cTrip a)] [] (.ag [vi r.leg, vi r.day]) [] := by
  replace H := H0 H
  unfold m_laws_toTrip at H
  refine callM_of Tryz.func166 rfl Tryz.ntmps166 Tryz.results166 fun Q hQ hQn => ?_
  exact wk
instance (a : YTrip) : CT Tryz.prog (m_laws_toTrip a) := ⟨166, [.ag (cTrip a)], [], fun r => .ag [vi r.leg, vi r.day], fun r => [], ok_laws_toTrip a⟩
end Go.Proofs.YtjkpcfbmmkmoaaaGreat

/- The mirror of laws_eqTripS, and that the code does just that (printed by a program of my own). -/
namespace Go.Proofs.YtjkpcfbmmkmoaaaGreat
set_option maxRecDepth 10000
open Go.RowKit
set_option linter.unusedVariables false
set_option maxHeartbeats 16000000
def m_laws_eqTripS_b0 (a : List YTrip) (b : List YTrip) (s0 : Int) : Option (Int ⊕ (Unit ⊕ Bool)) :=
 cond (decide (s0 < (a.length : Int)))
 ((getI a s0).bind fun y1 =>
 (getI b s0).bind fun y2 =>
 (m_laws_eqTrip y1 y2).bind fun y3 =>
 cond (!y3)
 (some (.inr (.inr false)))
 (some (.inl (w64 (s0 + 1)))))
 (some (.inr (.inl ())))
instance (a : List YTrip) (b : List YTrip) : LoopE (m_laws_eqTripS_b0 a b) := ⟨fun s0 => [.sl (a.map cTrip), .sl (b.map cTrip), .un, .un, .un, vi s0, .un, .un, .un, .un, .un, .un, .un, .un, .un, .un, .un, .un, .un, .un, .un, .un, .un, .un, .un, .un, .un], fun s0 => []⟩
def m_laws_eqTripS (a : List YTrip) (b : List YTrip) : Option Bool :=
 cond (!decide ((a.length : Int) = (b.length : Int)))
 (some false)
 ((iterF (m_laws_eqTripS_b0 a b) NN 0).bind (selim (fun o0 =>
 some true) (fun r => some r)))
theorem ok_laws_eqTripS (a : List YTrip) (b : List YTrip) {r : Bool} (H : m_laws_eqTripS a b = some r) : CallM Tryz.prog 103 [.sl (a.map cTrip), .sl (b.map cTrip)] [] (vb r) [] := by
  replace H := H0 H
  unfold m_laws_eqTripS at H
  refine callM_of Tryz.func103 rfl Tryz.ntmps103 Tryz.results103 fun Q hQ hQn => ?_
  exact wk
instance (a : List YTrip) (b : List YTrip) : CT Tryz.prog (m_laws_eqTripS a b) := ⟨103, [.sl (a.map cTrip), .sl (b.map cTrip)], [], fun r => vb r, fun r => [], ok_laws_eqTripS a b⟩
end Go.Proofs.YtjkpcfbmmkmoaaaGreat

/- The mirror of laws_toTripS, and that the code does just that (printed by a program of my own). -/
namespace Go.Proofs.YtjkpcfbmmkmoaaaGreat
set_option maxRecDepth 10000
open Go.RowKit
set_option linter.unusedVariables false
set_option maxHeartbeats 16000000
def m_laws_toTripS_b0 (a : List YTrip) (s0 : Int × (List YTrip)) : Option ((Int × (List YTrip)) ⊕ (List YTrip)) :=
 cond (decide (s0.1 < (a.length : Int)))
 ((getI a s0.1).bind fun y1 =>
 (m_laws_toTrip y1).bind fun y2 =>
 (getI s0.2 s0.1).bind fun y3 =>
 some (.inl ((w64 (s0.1 + 1)), (s0.2.set (Int.toNat s0.1) y2))))
 (some (.inr s0.2))
instance (a : List YTrip) : LoopE (m_laws_toTripS_b0 a) := ⟨fun s0 => [.sl (a.map cTrip), .un, .un, .ms 0, vi s0.1, .un, .un, .un, .un, .un, .un, .un, .un, .un, .un, .un, .un, .un, .un, .un, .un, .un, .un], fun s0 => [some ⟨102, 2, s0.2.map cTrip⟩]⟩
def m_laws_toTripS (a : List YTrip) : Option (List YTrip) :=
 (chk (mkOk (a.length : Int) 16)).bind fun _ =>
 (iterF (m_laws_toTripS_b0 a) NN (0, (List.replicate (Int.toNat (a.length : Int)) (⟨0, 0⟩ : YTrip)))).bind (fun o0 =>
 some o0)
theorem ok_laws_toTripS (a : List YTrip) {r : (List YTrip)} (H : m_laws_toTripS a = some r) : CallM Tryz.prog 95 [.sl (a.map cTrip)] [] (.ms 0) [some ⟨102, 2, r.map cTrip⟩] := by
  replace H := H0 H
  unfold m_laws_toTripS at H
  refine callM_of Tryz.func95 rfl Tryz.ntmps95 Tryz.results95 fun Q hQ hQn => ?_
  exact wk
instance (a : List YTrip) : CT Tryz.prog (m_laws_toTripS a) := ⟨95, [.sl (a.map cTrip)], [], fun r => .ms 0, fun r => [some ⟨102, 2, r.map cTrip⟩], ok_laws_toTripS a⟩
end Go.Proofs.YtjkpcfbmmkmoaaaGreat

/- The mirror of laws_szTripS, and that the code does just that (printed by a program of my own). -/
namespace Go.Proofs.YtjkpcfbmmkmoaaaGreat
set_option maxRecDepth 10000
open Go.RowKit
set_option linter.unusedVariables false
set_option maxHeartbeats 16000000
def m_laws_szTripS (a : List YTrip) (left : Int) : Option Int :=
 cond (decide ((w64 (left - (a.length : Int))) < 0))
 (some (-1))
 (some (w64 (left - (a.length : Int))))
theorem ok_laws_szTripS (a : List YTrip) (left : Int) {r : Int} (H : m_laws_szTripS a left = some r) : CallM Tryz.prog 87 [.sl (a.map cTrip), vi left] [] (vi r) [] := by
  replace H := H0 H
  unfold m_laws_szTripS at H
  refine callM_of Tryz.func87 rfl Tryz.ntmps87 Tryz.results87 fun Q hQ hQn => ?_
  exact wk
instance (a : List YTrip) (left : Int) : CT Tryz.prog (m_laws_szTripS a left) := ⟨87, [.sl (a.map cTrip), vi left], [], fun r => vi r, fun r => [], ok_laws_szTripS a left⟩
end Go.Proofs.YtjkpcfbmmkmoaaaGreat

/- The mirror of laws_eqOrder, and that the code does just that (printed by a program of my own). -/
namespace Go.Proofs.YtjkpcfbmmkmoaaaGreat
set_option maxRecDepth 10000
open Go.RowKit
set_option linter.unusedVariables false
set_option maxHeartbeats 16000000
def m_laws_eqOrder (a : YOrder) (b : YOrder) : Option Bool :=
 cond (!decide (a.from_ = b.from_))
 (some false)
 (cond (!decide (a.to_ = b.to_))
 (some false)
 (cond (!decide (a.service = b.service))
 (some false)
 (cond (!decide (a.weight = b.weight))
 (some false)
 (cond (!decide (a.at_ = b.at_))
 (some false)
 (cond (!decide (a.due = b.due))
 (some false)
 ((m_laws_eqTripS a.way b.way).bind fun y1 =>
 cond (!y1)
 (some false)
 (cond (!decide (a.gone = b.gone))
 (some false)
 (cond (!decide (a.state = b.state))
 (some false)
 (cond (!decide (a.place = b.place))
 (some false)
 (cond (!decide (a.ended = b.ended))
 (some false)
 (some true)))))))))))
theorem ok_laws_eqOrder (a : YOrder) (b : YOrder) {r : Bool} (H : m_laws_eqOrder a b = some r) : CallM Tryz.prog 173 [.ag (cOrder a), .ag (cOrder b)] [] (vb r) [] := by
  replace H := H0 H
  unfold m_laws_eqOrder at H
  refine callM_of Tryz.func173 rfl Tryz.ntmps173 Tryz.results173 fun Q hQ hQn => ?_
  exact wk
instance (a : YOrder) (b : YOrder) : CT Tryz.prog (m_laws_eqOrder a b) := ⟨173, [.ag (cOrder a), .ag (cOrder b)], [], fun r => vb r, fun r => [], ok_laws_eqOrder a b⟩
end Go.Proofs.YtjkpcfbmmkmoaaaGreat

/- The mirror of laws_toOrder, and that the code does just that (printed by a program of my own). -/
namespace Go.Proofs.YtjkpcfbmmkmoaaaGreat
set_option maxRecDepth 10000
open Go.RowKit
set_option linter.unusedVariables false
set_option maxHeartbeats 16000000
def m_laws_toOrder (a : YOrder) : Option YOrder :=
 (m_laws_toTripS a.way).bind fun y1 =>
 some (⟨a.from_, a.to_, a.service, a.weight, a.at_, a.due, y1, a.gone, a.state, a.place, a.ended⟩ : YOrder)
theorem ok_laws_toOrder (a : YOrder) {r : YOrder} (H : m_laws_toOrder a = some r) : CallM Tryz.prog 164 [.ag (cOrder a)] [] (.ag [vs r.from_, vs r.to_, vi r.service, vi r.weight, vi r.at_, vi r.due, .sl (r.way.map cTrip), vi r.gone, vi r.state, vs r.place, vi r.ended]) [] := by
  replace H := H0 H
  unfold m_laws_toOrder at H
  refine callM_of Tryz.func164 rfl Tryz.ntmps164 Tryz.results164 fun Q hQ hQn => ?_
  exact wk
instance (a : YOrder) : CT Tryz.prog (m_laws_toOrder a) := ⟨164, [.ag (cOrder a)], [], fun r => .ag [vs r.from_, vs r.to_, vi r.service, vi r.weight, vi r.at_, vi r.due, .sl (r.way.map cTrip), vi r.gone, vi r.state, vs r.place, vi r.ended], fun r => [], ok_laws_toOrder a⟩
end Go.Proofs.YtjkpcfbmmkmoaaaGreat

/- The mirror of laws_szOrder, and that the code does just that (printed by a program of my own). -/
namespace Go.Proofs.YtjkpcfbmmkmoaaaGreat
set_option maxRecDepth 10000
open Go.RowKit
set_option linter.unusedVariables false
set_option maxHeartbeats 16000000
def m_laws_szOrder (a : YOrder) (left : Int) : Option Int :=
 cond (decide ((w64 (left - (a.from_.size : Int))) < 0))
 (some (-1))
 (cond (decide ((w64 ((w64 (left - (a.from_.size : Int))) - (a.to_.size : Int))) < 0))
 (some (-1))
 ((m_laws_szTripS a.way (w64 ((w64 (left - (a.from_.size : Int))) - (a.to_.size : Int)))).bind fun y1 =>
 cond (decide (y1 < 0))
 (some (-1))
 (cond (decide ((w64 (y1 - (a.place.size : Int))) < 0))
 (some (-1))
 (some (w64 (y1 - (a.place.size : Int)))))))
theorem ok_laws_szOrder (a : YOrder) (left : Int) {r : Int} (H : m_laws_szOrder a left = some r) : CallM Tryz.prog 158 [.ag (cOrder a), vi left] [] (vi r) [] := by
  replace H := H0 H
  unfold m_laws_szOrder at H
  refine callM_of Tryz.func158 rfl Tryz.ntmps158 Tryz.results158 fun Q hQ hQn => ?_
  exact wk
instance (a : YOrder) (left : Int) : CT Tryz.prog (m_laws_szOrder a left) := ⟨158, [.ag (cOrder a), vi left], [], fun r => vi r, fun r => [], ok_laws_szOrder a left⟩
end Go.Proofs.YtjkpcfbmmkmoaaaGreat

/- The mirror of laws_eqOrderS, and that the code does just that (printed by a program of my own). -/
namespace Go.Proofs.YtjkpcfbmmkmoaaaGreat
set_option maxRecDepth 10000
open Go.RowKit
set_option linter.unusedVariables false
set_option maxHeartbeats 16000000
def m_laws_eqOrderS_b0 (a : List YOrder) (b : List YOrder) (s0 : Int) : Option (Int ⊕ (Unit ⊕ Bool)) :=
 cond (decide (s0 < (a.length : Int)))
 ((getI a s0).bind fun y1 =>
 (getI b s0).bind fun y2 =>
 (m_laws_eqOrder y1 y2).bind fun y3 =>
 cond (!y3)
 (some (.inr (.inr false)))
 (some (.inl (w64 (s0 + 1)))))
 (some (.inr (.inl ())))
instance (a : List YOrder) (b : List YOrder) : LoopE (m_laws_eqOrderS_b0 a b) := ⟨fun s0 => [.sl (a.map cOrder), .sl (b.map cOrder), .un, .un, .un, vi s0, .un, .un, .un, .un, .un, .un, .un, .un, .un, .un, .un, .un, .un, .un, .un, .un, .un, .un, .un, .un, .un], fun s0 => []⟩
def m_laws_eqOrderS (a : List YOrder) (b : List YOrder) : Option Bool :=
 cond (!decide ((a.length : Int) = (b.length : Int)))
 (some false)
 ((iterF (m_laws_eqOrderS_b0 a b) NN 0).bind (selim (fun o0 =>
 some true) (fun r => some r)))
theorem ok_laws_eqOrderS (a : List YOrder) (b : List YOrder) {r : Bool} (H : m_laws_eqOrderS a b = some r) : CallM Tryz.prog 101 [.sl (a.map cOrder), .sl (b.map cOrder)] [] (vb r) [] := by
  replace H := H0 H
  unfold m_laws_eqOrderS at H
  refine callM_of Tryz.func101 rfl Tryz.ntmps101 Tryz.results101 fun Q hQ hQn => ?_
  exact wk
instance (a : List YOrder) (b : List YOrder) : CT Tryz.prog (m_laws_eqOrderS a b) := ⟨101, [.sl (a.map cOrder), .sl (b.map cOrder)], [], fun r => vb r, fun r => [], ok_laws_eqOrderS a b⟩
end Go.Proofs.YtjkpcfbmmkmoaaaGreat

/- The mirror of laws_toOrderS, and that the code does just that (printed by a program of my own). -/
namespace Go.Proofs.YtjkpcfbmmkmoaaaGreat
set_option maxRecDepth 10000
open Go.RowKit
set_option linter.unusedVariables false
set_option maxHeartbeats 16000000
def m_laws_toOrderS_b0 (a : List YOrder) (s0 : Int × (List YOrder)) : Option ((Int × (List YOrder)) ⊕ (List YOrder)) :=
 cond (decide (s0.1 < (a.length : Int)))
 ((getI a s0.1).bind fun y1 =>
 (m_laws_toOrder y1).bind fun y2 =>
 (getI s0.2 s0.1).bind fun y3 =>
 some (.inl ((w64 (s0.1 + 1)), (s0.2.set (Int.toNat s0.1) y2))))
 (some (.inr s0.2))
instance (a : List YOrder) : LoopE (m_laws_toOrderS_b0 a) := ⟨fun s0 => [.sl (a.map cOrder), .un, .un, .ms 0, vi s0.1, .un, .un, .un, .un, .un, .un, .un, .un, .un, .un, .un, .un, .un, .un, .un, .un, .un, .un], fun s0 => [some ⟨109, 11, s0.2.map cOrder⟩]⟩
def m_laws_toOrderS (a : List YOrder) : Option (List YOrder) :=
 (chk (mkOk (a.length : Int) 128)).bind fun _ =>
 (iterF (m_laws_toOrderS_b0 a) NN (0, (List.replicate (Int.toNat (a.length : Int)) (⟨⟨#[]⟩, ⟨#[]⟩, 0, 0, 0, 0, [], 0, 0, ⟨#[]⟩, 0⟩ : YOrder)))).bind (fun o0 =>
 some o0)
theorem ok_laws_toOrderS (a : List YOrder) {r : (List YOrder)} (H : m_laws_toOrderS a = some r) : CallM Tryz.prog 93 [.sl (a.map cOrder)] [] (.ms 0) [some ⟨109, 11, r.map cOrder⟩] := by
  replace H := H0 H
  unfold m_laws_toOrderS at H
  refine callM_of Tryz.func93 rfl Tryz.ntmps93 Tryz.results93 fun Q hQ hQn => ?_
  exact wk
instance (a : List YOrder) : CT Tryz.prog (m_laws_toOrderS a) := ⟨93, [.sl (a.map cOrder)], [], fun r => .ms 0, fun r => [some ⟨109, 11, r.map cOrder⟩], ok_laws_toOrderS a⟩
end Go.Proofs.YtjkpcfbmmkmoaaaGreat

/- The mirror of laws_szOrderS, and that the code does just that (printed by a program of my own). -/
namespace Go.Proofs.YtjkpcfbmmkmoaaaGreat
set_option maxRecDepth 10000
open Go.RowKit
set_option linter.unusedVariables false
set_option maxHeartbeats 16000000
def m_laws_szOrderS_b0 (a : List YOrder) (s0 : Int × Int) : Option ((Int × Int) ⊕ (Int ⊕ Int)) :=
 cond (decide (s0.2 < (a.length : Int)))
 ((getI a s0.2).bind fun y1 =>
 (m_laws_szOrder y1 s0.1).bind fun y2 =>
 cond (decide (y2 < 0))
 (some (.inr (.inr (-1))))
 (some (.inl (y2, (w64 (s0.2 + 1))))))
 (some (.inr (.inl s0.1)))
instance (a : List YOrder) : LoopE (m_laws_szOrderS_b0 a) := ⟨fun s0 => [.sl (a.map cOrder), vi s0.1, .un, .un, .un, vi s0.2, .un, .un, .un, .un, .un, .un, .un, .un, .un, .un, .un, .un, .un, .un, .un, .un, .un, .un, .un, .un, .un], fun s0 => []⟩
def m_laws_szOrderS (a : List YOrder) (left : Int) : Option Int :=
 cond (decide ((w64 (left - (a.length : Int))) < 0))
 (some (-1))
 ((iterF (m_laws_szOrderS_b0 a) NN ((w64 (left - (a.length : Int))), 0)).bind (selim (fun o0 =>
 some o0) (fun r => some r)))
theorem ok_laws_szOrderS (a : List YOrder) (left : Int) {r : Int} (H : m_laws_szOrderS a left = some r) : CallM Tryz.prog 85 [.sl (a.map cOrder), vi left] [] (vi r) [] := by
  replace H := H0 H
  unfold m_laws_szOrderS at H
  refine callM_of Tryz.func85 rfl Tryz.ntmps85 Tryz.results85 fun Q hQ hQn => ?_
  exact wk
instance (a : List YOrder) (left : Int) : CT Tryz.prog (m_laws_szOrderS a left) := ⟨85, [.sl (a.map cOrder), vi left], [], fun r => vi r, fun r => [], ok_laws_szOrderS a left⟩
end Go.Proofs.YtjkpcfbmmkmoaaaGreat

/- The mirror of laws_eqBooking, and that the code does just that (printed by a program of my own). -/
namespace Go.Proofs.YtjkpcfbmmkmoaaaGreat
set_option maxRecDepth 10000
open Go.RowKit
set_option linter.unusedVariables false
set_option maxHeartbeats 16000000
def m_laws_eqBooking (a : YBooking) (b : YBooking) : Option Bool :=
 cond (!decide (a.thing = b.thing))
 (some false)
 ((m_laws_eqTrip a.trip b.trip).bind fun y1 =>
 cond (!y1)
 (some false)
 (cond (!decide (a.weight = b.weight))
 (some false)
 (some true)))
theorem ok_laws_eqBooking (a : YBooking) (b : YBooking) {r : Bool} (H : m_laws_eqBooking a b = some r) : CallM Tryz.prog 174 [.ag (cBooking a), .ag (cBooking b)] [] (vb r) [] := by
  replace H := H0 H
  unfold m_laws_eqBooking at H
  refine callM_of Tryz.func174 rfl Tryz.ntmps174 Tryz.results174 fun Q hQ hQn => ?_
  exact wk
instance (a : YBooking) (b : YBooking) : CT Tryz.prog (m_laws_eqBooking a b) := ⟨174, [.ag (cBooking a), .ag (cBooking b)], [], fun r => vb r, fun r => [], ok_laws_eqBooking a b⟩
end Go.Proofs.YtjkpcfbmmkmoaaaGreat

/- The mirror of laws_toBooking, and that the code does just that (printed by a program of my own). -/
namespace Go.Proofs.YtjkpcfbmmkmoaaaGreat
set_option maxRecDepth 10000
open Go.RowKit
set_option linter.unusedVariables false
set_option maxHeartbeats 16000000
def m_laws_toBooking (a : YBooking) : Option YBooking :=
 (m_laws_toTrip a.trip).bind fun y1 =>
 some (⟨a.thing, y1, a.weight⟩ : YBooking)
theorem ok_laws_toBooking (a : YBooking) {r : YBooking} (H : m_laws_toBooking a = some r) : CallM Tryz.prog 165 [.ag (cBooking a)] [] (.ag [vi r.thing, vi r.trip.leg, vi r.trip.day, vi r.weight]) [] := by
  replace H := H0 H
  unfold m_laws_toBooking at H
  refine callM_of Tryz.func165 rfl Tryz.ntmps165 Tryz.results165 fun Q hQ hQn => ?_
  exact wk
instance (a : YBooking) : CT Tryz.prog (m_laws_toBooking a) := ⟨165, [.ag (cBooking a)], [], fun r => .ag [vi r.thing, vi r.trip.leg, vi r.trip.day, vi r.weight], fun r => [], ok_laws_toBooking a⟩
end Go.Proofs.YtjkpcfbmmkmoaaaGreat

/- The mirror of laws_eqBookingS, and that the code does just that (printed by a program of my own). -/
namespace Go.Proofs.YtjkpcfbmmkmoaaaGreat
set_option maxRecDepth 10000
open Go.RowKit
set_option linter.unusedVariables false
set_option maxHeartbeats 16000000
def m_laws_eqBookingS_b0 (a : List YBooking) (b : List YBooking) (s0 : Int) : Option (Int ⊕ (Unit ⊕ Bool)) :=
 cond (decide (s0 < (a.length : Int)))
 ((getI a s0).bind fun y1 =>
 (getI b s0).bind fun y2 =>
 (m_laws_eqBooking y1 y2).bind fun y3 =>
 cond (!y3)
 (some (.inr (.inr false)))
 (some (.inl (w64 (s0 + 1)))))
 (some (.inr (.inl ())))
instance (a : List YBooking) (b : List YBooking) : LoopE (m_laws_eqBookingS_b0 a b) := ⟨fun s0 => [.sl (a.map cBooking), .sl (b.map cBooking), .un, .un, .un, vi s0, .un, .un, .un, .un, .un, .un, .un, .un, .un, .un, .un, .un, .un, .un, .un, .un, .un, .un, .un, .un, .un], fun s0 => []⟩
def m_laws_eqBookingS (a : List YBooking) (b : List YBooking) : Option Bool :=
 cond (!decide ((a.length : Int) = (b.length : Int)))
 (some false)
 ((iterF (m_laws_eqBookingS_b0 a b) NN 0).bind (selim (fun o0 =>
 some true) (fun r => some r)))
theorem ok_laws_eqBookingS (a : List YBooking) (b : List YBooking) {r : Bool} (H : m_laws_eqBookingS a b = some r) : CallM Tryz.prog 102 [.sl (a.map cBooking), .sl (b.map cBooking)] [] (vb r) [] := by
  replace H := H0 H
  unfold m_laws_eqBookingS at H
  refine callM_of Tryz.func102 rfl Tryz.ntmps102 Tryz.results102 fun Q hQ hQn => ?_
  exact wk
instance (a : List YBooking) (b : List YBooking) : CT Tryz.prog (m_laws_eqBookingS a b) := ⟨102, [.sl (a.map cBooking), .sl (b.map cBooking)], [], fun r => vb r, fun r => [], ok_laws_eqBookingS a b⟩
end Go.Proofs.YtjkpcfbmmkmoaaaGreat

/- The mirror of laws_toBookingS, and that the code does just that (printed by a program of my own). -/
namespace Go.Proofs.YtjkpcfbmmkmoaaaGreat
set_option maxRecDepth 10000
open Go.RowKit
set_option linter.unusedVariables false
set_option maxHeartbeats 16000000
def m_laws_toBookingS_b0 (a : List YBooking) (s0 : Int × (List YBooking)) : Option ((Int × (List YBooking)) ⊕ (List YBooking)) :=
 cond (decide (s0.1 < (a.length : Int)))
 ((getI a s0.1).bind fun y1 =>
 (m_laws_toBooking y1).bind fun y2 =>
 (getI s0.2 s0.1).bind fun y3 =>
 some (.inl ((w64 (s0.1 + 1)), (s0.2.set (Int.toNat s0.1) y2))))
 (some (.inr s0.2))
instance (a : List YBooking) : LoopE (m_laws_toBookingS_b0 a) := ⟨fun s0 => [.sl (a.map cBooking), .un, .un, .ms 0, vi s0.1, .un, .un, .un, .un, .un, .un, .un, .un, .un, .un, .un, .un, .un, .un, .un, .un, .un, .un], fun s0 => [some ⟨214, 4, s0.2.map cBooking⟩]⟩
def m_laws_toBookingS (a : List YBooking) : Option (List YBooking) :=
 (chk (mkOk (a.length : Int) 32)).bind fun _ =>
 (iterF (m_laws_toBookingS_b0 a) NN (0, (List.replicate (Int.toNat (a.length : Int)) (⟨0, (⟨0, 0⟩ : YTrip), 0⟩ : YBooking)))).bind (fun o0 =>
 some o0)
theorem ok_laws_toBookingS (a : List YBooking) {r : (List YBooking)} (H : m_laws_toBookingS a = some r) : CallM Tryz.prog 94 [.sl (a.map cBooking)] [] (.ms 0) [some ⟨214, 4, r.map cBooking⟩] := by
  replace H := H0 H
  unfold m_laws_toBookingS at H
  refine callM_of Tryz.func94 rfl Tryz.ntmps94 Tryz.results94 fun Q hQ hQn => ?_
  exact wk
instance (a : List YBooking) : CT Tryz.prog (m_laws_toBookingS a) := ⟨94, [.sl (a.map cBooking)], [], fun r => .ms 0, fun r => [some ⟨214, 4, r.map cBooking⟩], ok_laws_toBookingS a⟩
end Go.Proofs.YtjkpcfbmmkmoaaaGreat

/- The mirror of laws_szBookingS, and that the code does just that (printed by a program of my own). -/
namespace Go.Proofs.YtjkpcfbmmkmoaaaGreat
set_option maxRecDepth 10000
open Go.RowKit
set_option linter.unusedVariables false
set_option maxHeartbeats 16000000
def m_laws_szBookingS (a : List YBooking) (left : Int) : Option Int :=
 cond (decide ((w64 (left - (a.length : Int))) < 0))
 (some (-1))
 (some (w64 (left - (a.length : Int))))
theorem ok_laws_szBookingS (a : List YBooking) (left : Int) {r : Int} (H : m_laws_szBookingS a left = some r) : CallM Tryz.prog 86 [.sl (a.map cBooking), vi left] [] (vi r) [] := by
  replace H := H0 H
  unfold m_laws_szBookingS at H
  refine callM_of Tryz.func86 rfl Tryz.ntmps86 Tryz.results86 fun Q hQ hQn => ?_
  exact wk
instance (a : List YBooking) (left : Int) : CT Tryz.prog (m_laws_szBookingS a left) := ⟨86, [.sl (a.map cBooking), vi left], [], fun r => vi r, fun r => [], ok_laws_szBookingS a left⟩
end Go.Proofs.YtjkpcfbmmkmoaaaGreat

/- The mirror of laws_eqScan, and that the code does just that (printed by a program of my own). -/
namespace Go.Proofs.YtjkpcfbmmkmoaaaGreat
set_option maxRecDepth 10000
open Go.RowKit
set_option linter.unusedVariables false
set_option maxHeartbeats 16000000
def m_laws_eqScan (a : YScan) (b : YScan) : Option Bool :=
 cond (!decide (a.thing = b.thing))
 (some false)
 (cond (!decide (a.at_ = b.at_))
 (some false)
 (cond (!decide (a.kind = b.kind))
 (some false)
 (cond (!decide (a.place = b.place))
 (some false)
 ((m_laws_eqTrip a.trip b.trip).bind fun y1 =>
 cond (!y1)
 (some false)
 (some true)))))
theorem ok_laws_eqScan (a : YScan) (b : YScan) {r : Bool} (H : m_laws_eqScan a b = some r) : CallM Tryz.prog 176 [.ag (cScan a), .ag (cScan b)] [] (vb r) [] := by
  replace H := H0 H
  unfold m_laws_eqScan at H
  refine callM_of Tryz.func176 rfl Tryz.ntmps176 Tryz.results176 fun Q hQ hQn => ?_
  exact wk
instance (a : YScan) (b : YScan) : CT Tryz.prog (m_laws_eqScan a b) := ⟨176, [.ag (cScan a), .ag (cScan b)], [], fun r => vb r, fun r => [], ok_laws_eqScan a b⟩
end Go.Proofs.YtjkpcfbmmkmoaaaGreat

/- The mirror of laws_toScan, and that the code does just that (printed by a program of my own). -/
namespace Go.Proofs.YtjkpcfbmmkmoaaaGreat
set_option maxRecDepth 10000
open Go.RowKit
set_option linter.unusedVariables false
set_option maxHeartbeats 16000000
def m_laws_toScan (a : YScan) : Option YScan :=
 (m_laws_toTrip a.trip).bind fun y1 =>
 some (⟨a.thing, a.at_, a.kind, a.place, y1⟩ : YScan)
theorem ok_laws_toScan (a : YScan) {r : YScan} (H : m_laws_toScan a = some r) : CallM Tryz.prog 167 [.ag (cScan a)] [] (.ag [vi r.thing, vi r.at_, vi r.kind, vs r.place, vi r.trip.leg, vi r.trip.day]) [] := by
  replace H := H0 H
  unfold m_laws_toScan at H
  refine callM_of Tryz.func167 rfl Tryz.ntmps167 Tryz.results167 fun Q hQ hQn => ?_
  exact wk
instance (a : YScan) : CT Tryz.prog (m_laws_toScan a) := ⟨167, [.ag (cScan a)], [], fun r => .ag [vi r.thing, vi r.at_, vi r.kind, vs r.place, vi r.trip.leg, vi r.trip.day], fun r => [], ok_laws_toScan a⟩
end Go.Proofs.YtjkpcfbmmkmoaaaGreat

/- The mirror of laws_szScan, and that the code does just that (printed by a program of my own). -/
namespace Go.Proofs.YtjkpcfbmmkmoaaaGreat
set_option maxRecDepth 10000
open Go.RowKit
set_option linter.unusedVariables false
set_option maxHeartbeats 16000000
def m_laws_szScan (a : YScan) (left : Int) : Option Int :=
 cond (decide ((w64 (left - (a.place.size : Int))) < 0))
 (some (-1))
 (some (w64 (left - (a.place.size : Int))))
theorem ok_laws_szScan (a : YScan) (left : Int) {r : Int} (H : m_laws_szScan a left = some r) : CallM Tryz.prog 159 [.ag (cScan a), vi left] [] (vi r) [] := by
  replace H := H0 H
  unfold m_laws_szScan at H
  refine callM_of Tryz.func159 rfl Tryz.ntmps159 Tryz.results159 fun Q hQ hQn => ?_
  exact wk
instance (a : YScan) (left : Int) : CT Tryz.prog (m_laws_szScan a left) := ⟨159, [.ag (cScan a), vi left], [], fun r => vi r, fun r => [], ok_laws_szScan a left⟩
end Go.Proofs.YtjkpcfbmmkmoaaaGreat

/- The mirror of laws_eqScanS, and that the code does just that (printed by a program of my own). -/
namespace Go.Proofs.YtjkpcfbmmkmoaaaGreat
set_option maxRecDepth 10000
open Go.RowKit
set_option linter.unusedVariables false
set_option maxHeartbeats 16000000
def m_laws_eqScanS_b0 (a : List YScan) (b : List YScan) (s0 : Int) : Option (Int ⊕ (Unit ⊕ Bool)) :=
 cond (decide (s0 < (a.length : Int)))
 ((getI a s0).bind fun y1 =>
 (getI b s0).bind fun y2 =>
 (m_laws_eqScan y1 y2).bind fun y3 =>
 cond (!y3)
 (some (.inr (.inr false)))
 (some (.inl (w64 (s0 + 1)))))
 (some (.inr (.inl ())))
instance (a : List YScan) (b : List YScan) : LoopE (m_laws_eqScanS_b0 a b) := ⟨fun s0 => [.sl (a.map cScan), .sl (b.map cScan), .un, .un, .un, vi s0, .un, .un, .un, .un, .un, .un, .un, .un, .un, .un, .un, .un, .un, .un, .un, .un, .un, .un, .un, .un, .un], fun s0 => []⟩
def m_laws_eqScanS (a : List YScan) (b : List YScan) : Option Bool :=
 cond (!decide ((a.length : Int) = (b.length : Int)))
 (some false)
 ((iterF (m_laws_eqScanS_b0 a b) NN 0).bind (selim (fun o0 =>
 some true) (fun r => some r)))
theorem ok_laws_eqScanS (a : List YScan) (b : List YScan) {r : Bool} (H : m_laws_eqScanS a b = some r) : CallM Tryz.prog 104 [.sl (a.map cScan), .sl (b.map cScan)] [] (vb r) [] := by
  replace H := H0 H
  unfold m_laws_eqScanS at H
  refine callM_of Tryz.func104 rfl Tryz.ntmps104 Tryz.results104 fun Q hQ hQn => ?_
  exact wk
instance (a : List YScan) (b : List YScan) : CT Tryz.prog (m_laws_eqScanS a b) := ⟨104, [.sl (a.map cScan), .sl (b.map cScan)], [], fun r => vb r, fun r => [], ok_laws_eqScanS a b⟩
end Go.Proofs.YtjkpcfbmmkmoaaaGreat

/- The mirror of laws_toScanS, and that the code does just that (printed by a program of my own). -/
namespace Go.Proofs.YtjkpcfbmmkmoaaaGreat
set_option maxRecDepth 10000
open Go.RowKit
set_option linter.unusedVariables false
set_option maxHeartbeats 16000000
def m_laws_toScanS_b0 (a : List YScan) (s0 : Int × (List YScan)) : Option ((Int × (List YScan)) ⊕ (List YScan)) :=
 cond (decide (s0.1 < (a.length : Int)))
 ((getI a s0.1).bind fun y1 =>
 (m_laws_toScan y1).bind fun y2 =>
 (getI s0.2 s0.1).bind fun y3 =>
 some (.inl ((w64 (s0.1 + 1)), (s0.2.set (Int.toNat s0.1) y2))))
 (some (.inr s0.2))
instance (a : List YScan) : LoopE (m_laws_toScanS_b0 a) := ⟨fun s0 => [.sl (a.map cScan), .un, .un, .ms 0, vi s0.1, .un, .un, .un, .un, .un, .un, .un, .un, .un, .un, .un, .un, .un, .un, .un, .un, .un, .un], fun s0 => [some ⟨172, 6, s0.2.map cScan⟩]⟩
def m_laws_toScanS (a : List YScan) : Option (List YScan) :=
 (chk (mkOk (a.length : Int) 56)).bind fun _ =>
 (iterF (m_laws_toScanS_b0 a) NN (0, (List.replicate (Int.toNat (a.length : Int)) (⟨0, 0, 0, ⟨#[]⟩, (⟨0, 0⟩ : YTrip)⟩ : YScan)))).bind (fun o0 =>
 some o0)
theorem ok_laws_toScanS (a : List YScan) {r : (List YScan)} (H : m_laws_toScanS a = some r) : CallM Tryz.prog 96 [.sl (a.map cScan)] [] (.ms 0) [some ⟨172, 6, r.map cScan⟩] := by
  replace H := H0 H
  unfold m_laws_toScanS at H
  refine callM_of Tryz.func96 rfl Tryz.ntmps96 Tryz.results96 fun Q hQ hQn => ?_
  exact wk
instance (a : List YScan) : CT Tryz.prog (m_laws_toScanS a) := ⟨96, [.sl (a.map cScan)], [], fun r => .ms 0, fun r => [some ⟨172, 6, r.map cScan⟩], ok_laws_toScanS a⟩
end Go.Proofs.YtjkpcfbmmkmoaaaGreat

/- The mirror of laws_szScanS, and that the code does just that (printed by a program of my own). -/
namespace Go.Proofs.YtjkpcfbmmkmoaaaGreat
set_option maxRecDepth 10000
open Go.RowKit
set_option linter.unusedVariables false
set_option maxHeartbeats 16000000
def m_laws_szScanS_b0 (a : List YScan) (s0 : Int × Int) : Option ((Int × Int) ⊕ (Int ⊕ Int)) :=
 cond (decide (s0.2 < (a.length : Int)))
 ((getI a s0.2).bind fun y1 =>
 (m_laws_szScan y1 s0.1).bind fun y2 =>
 cond (decide (y2 < 0))
 (some (.inr (.inr (-1))))
 (some (.inl (y2, (w64 (s0.2 + 1))))))
 (some (.inr (.inl s0.1)))
instance (a : List YScan) : LoopE (m_laws_szScanS_b0 a) := ⟨fun s0 => [.sl (a.map cScan), vi s0.1, .un, .un, .un, vi s0.2, .un, .un, .un, .un, .un, .un, .un, .un, .un, .un, .un, .un, .un, .un, .un, .un, .un, .un, .un, .un, .un], fun s0 => []⟩
def m_laws_szScanS (a : List YScan) (left : Int) : Option Int :=
 cond (decide ((w64 (left - (a.length : Int))) < 0))
 (some (-1))
 ((iterF (m_laws_szScanS_b0 a) NN ((w64 (left - (a.length : Int))), 0)).bind (selim (fun o0 =>
 some o0) (fun r => some r)))
theorem ok_laws_szScanS (a : List YScan) (left : Int) {r : Int} (H : m_laws_szScanS a left = some r) : CallM Tryz.prog 88 [.sl (a.map cScan), vi left] [] (vi r) [] := by
  replace H := H0 H
  unfold m_laws_szScanS at H
  refine callM_of Tryz.func88 rfl Tryz.ntmps88 Tryz.results88 fun Q hQ hQn => ?_
  exact wk
instance (a : List YScan) (left : Int) : CT Tryz.prog (m_laws_szScanS a left) := ⟨88, [.sl (a.map cScan), vi left], [], fun r => vi r, fun r => [], ok_laws_szScanS a left⟩
end Go.Proofs.YtjkpcfbmmkmoaaaGreat

/- The mirror of laws_eqWorld, and that the code does just that (printed by a program of my own). -/
namespace Go.Proofs.YtjkpcfbmmkmoaaaGreat
set_option maxRecDepth 10000
open Go.RowKit
set_option linter.unusedVariables false
set_option maxHeartbeats 16000000
def m_laws_eqWorld (a : YWorld) (b : YWorld) : Option Bool :=
 (m_laws_eqNetwork a.network b.network).bind fun y1 =>
 cond (!y1)
 (some false)
 ((m_laws_eqOrderS a.orders b.orders).bind fun y2 =>
 cond (!y2)
 (some false)
 ((m_laws_eqBookingS a.bookings b.bookings).bind fun y3 =>
 cond (!y3)
 (some false)
 ((m_laws_eqTripS a.closed b.closed).bind fun y4 =>
 cond (!y4)
 (some false)
 (cond (!decide (a.now = b.now))
 (some false)
 ((m_laws_eqScanS a.scans b.scans).bind fun y5 =>
 cond (!y5)
 (some false)
 ((m_laws_eqIntS a.skip b.skip).bind fun y6 =>
 cond (!y6)
 (some false)
 (cond (!decide (a.made = b.made))
 (some false)
 (some true))))))))
theorem ok_laws_eqWorld (a : YWorld) (b : YWorld) {r : Bool} (H : m_laws_eqWorld a b = some r) : CallM Tryz.prog 34 [.ag (cWorld a), .ag (cWorld b)] [] (vb r) [] := by
  replace H := H0 H
  unfold m_laws_eqWorld at H
  refine callM_of Tryz.func34 rfl Tryz.ntmps34 Tryz.results34 fun Q hQ hQn => ?_
  exact wk
instance (a : YWorld) (b : YWorld) : CT Tryz.prog (m_laws_eqWorld a b) := ⟨34, [.ag (cWorld a), .ag (cWorld b)], [], fun r => vb r, fun r => [], ok_laws_eqWorld a b⟩
end Go.Proofs.YtjkpcfbmmkmoaaaGreat

/- The mirror of laws_toWorld, and that the code does just that (printed by a program of my own). -/
namespace Go.Proofs.YtjkpcfbmmkmoaaaGreat
set_option maxRecDepth 10000
open Go.RowKit
set_option linter.unusedVariables false
set_option maxHeartbeats 16000000
def m_laws_toWorld (a : YWorld) : Option YWorld :=
 (m_laws_toNetwork a.network).bind fun y1 =>
 (m_laws_toOrderS a.orders).bind fun y2 =>
 (m_laws_toBookingS a.bookings).bind fun y3 =>
 (m_laws_toTripS a.closed).bind fun y4 =>
 (m_laws_toScanS a.scans).bind fun y5 =>
 (m_laws_toIntS a.skip).bind fun y6 =>
 some (⟨y1, y2, y3, y4, a.now, y5, y6, a.made⟩ : YWorld)
theorem ok_laws_toWorld (a : YWorld) {r : YWorld} (H : m_laws_toWorld a = some r) : CallM Tryz.prog 32 [.ag (cWorld a)] [] (.ag [.sl (r.network.legs.map cLeg), .sl (r.network.off.map cInt), vi r.network.change, .sl (r.orders.map cOrder), .sl (r.bookings.map cBooking), .sl (r.closed.map cTrip), vi r.now, .sl (r.scans.map cScan), .sl (r.skip.map cInt), vi r.made]) [] := by
  replace H := H0 H
  unfold m_laws_toWorld at H
  refine callM_of Tryz.func32 rfl Tryz.ntmps32 Tryz.results32 fun Q hQ hQn => ?_
  exact wk
instance (a : YWorld) : CT Tryz.prog (m_laws_toWorld a) := ⟨32, [.ag (cWorld a)], [], fun r => .ag [.sl (r.network.legs.map cLeg), .sl (r.network.off.map cInt), vi r.network.change, .sl (r.orders.map cOrder), .sl (r.bookings.map cBooking), .sl (r.closed.map cTrip), vi r.now, .sl (r.scans.map cScan), .sl (r.skip.map cInt), vi r.made], fun r => [], ok_laws_toWorld a⟩
end Go.Proofs.YtjkpcfbmmkmoaaaGreat

/- The mirror of laws_szWorld, and that the code does just that (printed by a program of my own). -/
namespace Go.Proofs.YtjkpcfbmmkmoaaaGreat
set_option maxRecDepth 10000
open Go.RowKit
set_option linter.unusedVariables false
set_option maxHeartbeats 16000000
def m_laws_szWorld (a : YWorld) (left : Int) : Option Int :=
 (m_laws_szNetwork a.network left).bind fun y1 =>
 cond (decide (y1 < 0))
 (some (-1))
 ((m_laws_szOrderS a.orders y1).bind fun y2 =>
 cond (decide (y2 < 0))
 (some (-1))
 ((m_laws_szBookingS a.bookings y2).bind fun y3 =>
 cond (decide (y3 < 0))
 (some (-1))
 ((m_laws_szTripS a.closed y3).bind fun y4 =>
 cond (decide (y4 < 0))
 (some (-1))
 ((m_laws_szScanS a.scans y4).bind fun y5 =>
 cond (decide (y5 < 0))
 (some (-1))
 ((m_laws_szIntS a.skip y5).bind fun y6 =>
 cond (decide (y6 < 0))
 (some (-1))
 (some y6))))))
theorem ok_laws_szWorld (a : YWorld) (left : Int) {r : Int} (H : m_laws_szWorld a left = some r) : CallM Tryz.prog 30 [.ag (cWorld a), vi left] [] (vi r) [] := by
  replace H := H0 H
  unfold m_laws_szWorld at H
  refine callM_of Tryz.func30 rfl Tryz.ntmps30 Tryz.results30 fun Q hQ hQn => ?_
  exact wk
instance (a : YWorld) (left : Int) : CT Tryz.prog (m_laws_szWorld a left) := ⟨30, [.ag (cWorld a), vi left], [], fun r => vi r, fun r => [], ok_laws_szWorld a left⟩
end Go.Proofs.YtjkpcfbmmkmoaaaGreat

/- The mirror of laws_eqZone, and that the code does just that (printed by a program of my own). -/
namespace Go.Proofs.YtjkpcfbmmkmoaaaGreat
set_option maxRecDepth 10000
open Go.RowKit
set_option linter.unusedVariables false
set_option maxHeartbeats 16000000
def m_laws_eqZone (a : YZone) (b : YZone) : Option Bool :=
 cond (!decide (a.first = b.first))
 (some false)
 (cond (!decide (a.last = b.last))
 (some false)
 (some true))
theorem ok_laws_eqZone (a : YZone) (b : YZone) {r : Bool} (H : m_laws_eqZone a b = some r) : CallM Tryz.prog 72 [.ag (cZone a), .ag (cZone b)] [] (vb r) [] := by
  replace H := H0 H
  unfold m_laws_eqZone at H
  refine callM_of Tryz.func72 rfl Tryz.ntmps72 Tryz.results72 fun Q hQ hQn => ?_
  exact wk2
instance (a : YZone) (b : YZone) : CT Tryz.prog (m_laws_eqZone a b) := ⟨72, [.ag (cZone a), .ag (cZone b)], [], fun r => vb r, fun r => [], ok_laws_eqZone a b⟩
end Go.Proofs.YtjkpcfbmmkmoaaaGreat

/- The mirror of laws_toZone, and that the code does just that (printed by a program of my own). -/
namespace Go.Proofs.YtjkpcfbmmkmoaaaGreat
set_option maxRecDepth 10000
open Go.RowKit
set_option linter.unusedVariables false
set_option maxHeartbeats 16000000
def m_laws_toZone (a : YZone) : Option YZone :=
 some a
theorem ok_laws_toZone (a : YZone) {r : YZone} (H : m_laws_toZone a = some r) : CallM Tryz.prog 67 [.ag (cZone a)] [] (.ag [vs r.first, vs r.last]) [] := by
  replace H := H0 H
  unfold m_laws_toZone at H
  refine callM_of Tryz.func67 rfl Tryz.ntmps67 Tryz.results67 fun Q hQ hQn => ?_
  exact wk2
instance (a : YZone) : CT Tryz.prog (m_laws_toZone a) := ⟨67, [.ag (cZone a)], [], fun r => .ag [vs r.first, vs r.last], fun r => [], ok_laws_toZone a⟩
end Go.Proofs.YtjkpcfbmmkmoaaaGreat

/- The mirror of laws_szZone, and that the code does just that (printed by a program of my own). -/
namespace Go.Proofs.YtjkpcfbmmkmoaaaGreat
set_option maxRecDepth 10000
open Go.RowKit
set_option linter.unusedVariables false
set_option maxHeartbeats 16000000
def m_laws_szZone (a : YZone) (left : Int) : Option Int :=
 cond (decide ((w64 (left - (a.first.size : Int))) < 0))
 (some (-1))
 (cond (decide ((w64 ((w64 (left - (a.first.size : Int))) - (a.last.size : Int))) < 0))
 (some (-1))
 (some (w64 ((w64 (left - (a.first.size : Int))) - (a.last.size : Int)))))
theorem ok_laws_szZone (a : YZone) (left : Int) {r : Int} (H : m_laws_szZone a left = some r) : CallM Tryz.prog 63 [.ag (cZone a), vi left] [] (vi r) [] := by
  replace H := H0 H
  unfold m_laws_szZone at H
  refine callM_of Tryz.func63 rfl Tryz.ntmps63 Tryz.results63 fun Q hQ hQn => ?_
  exact wk2
instance (a : YZone) (left : Int) : CT Tryz.prog (m_laws_szZone a left) := ⟨63, [.ag (cZone a), vi left], [], fun r => vi r, fun r => [], ok_laws_szZone a left⟩
end Go.Proofs.YtjkpcfbmmkmoaaaGreat

/- The mirror of laws_eqZoneS, and that the code does just that (printed by a program of my own). -/
namespace Go.Proofs.YtjkpcfbmmkmoaaaGreat
set_option maxRecDepth 10000
open Go.RowKit
set_option linter.unusedVariables false
set_option maxHeartbeats 16000000
def m_laws_eqZoneS_b0 (a : List YZone) (b : List YZone) (s0 : Int) : Option (Int ⊕ (Unit ⊕ Bool)) :=
 cond (decide (s0 < (a.length : Int)))
 ((getI a s0).bind fun y1 =>
 (getI b s0).bind fun y2 =>
 (m_laws_eqZone y1 y2).bind fun y3 =>
 cond (!y3)
 (some (.inr (.inr false)))
 (some (.inl (w64 (s0 + 1)))))
 (some (.inr (.inl ())))
instance (a : List YZone) (b : List YZone) : LoopE (m_laws_eqZoneS_b0 a b) := ⟨fun s0 => [.sl (a.map cZone), .sl (b.map cZone), .un, .un, .un, vi s0, .un, .un, .un, .un, .un, .un, .un, .un, .un, .un, .un, .un, .un, .un, .un, .un, .un, .un, .un, .un, .un], fun s0 => []⟩
def m_laws_eqZoneS (a : List YZone) (b : List YZone) : Option Bool :=
 cond (!decide ((a.length : Int) = (b.length : Int)))
 (some false)
 ((iterF (m_laws_eqZoneS_b0 a b) NN 0).bind (selim (fun o0 =>
 some true) (fun r => some r)))
theorem ok_laws_eqZoneS (a : List YZone) (b : List YZone) {r : Bool} (H : m_laws_eqZoneS a b = some r) : CallM Tryz.prog 22 [.sl (a.map cZone), .sl (b.map cZone)] [] (vb r) [] := by
  replace H := H0 H
  unfold m_laws_eqZoneS at H
  refine callM_of Tryz.func22 rfl Tryz.ntmps22 Tryz.results22 fun Q hQ hQn => ?_
  exact wk2
instance (a : List YZone) (b : List YZone) : CT Tryz.prog (m_laws_eqZoneS a b) := ⟨22, [.sl (a.map cZone), .sl (b.map cZone)], [], fun r => vb r, fun r => [], ok_laws_eqZoneS a b⟩
end Go.Proofs.YtjkpcfbmmkmoaaaGreat

/- The mirror of laws_toZoneS, and that the code does just that (printed by a program of my own). -/
namespace Go.Proofs.YtjkpcfbmmkmoaaaGreat
set_option maxRecDepth 10000
open Go.RowKit
set_option linter.unusedVariables false
set_option maxHeartbeats 16000000
def m_laws_toZoneS_b0 (a : List YZone) (s0 : Int × (List YZone)) : Option ((Int × (List YZone)) ⊕ (List YZone)) :=
 cond (decide (s0.1 < (a.length : Int)))
 ((getI a s0.1).bind fun y1 =>
 (m_laws_toZone y1).bind fun y2 =>
 (getI s0.2 s0.1).bind fun y3 =>
 some (.inl ((w64 (s0.1 + 1)), (s0.2.set (Int.toNat s0.1) y2))))
 (some (.inr s0.2))
instance (a : List YZone) : LoopE (m_laws_toZoneS_b0 a) := ⟨fun s0 => [.sl (a.map cZone), .un, .un, .ms 0, vi s0.1, .un, .un, .un, .un, .un, .un, .un, .un, .un, .un, .un, .un, .un, .un, .un, .un, .un, .un], fun s0 => [some ⟨124, 2, s0.2.map cZone⟩]⟩
def m_laws_toZoneS (a : List YZone) : Option (List YZone) :=
 (chk (mkOk (a.length : Int) 32)).bind fun _ =>
 (iterF (m_laws_toZoneS_b0 a) NN (0, (List.replicate (Int.toNat (a.length : Int)) (⟨⟨#[]⟩, ⟨#[]⟩⟩ : YZone)))).bind (fun o0 =>
 some o0)
theorem ok_laws_toZoneS (a : List YZone) {r : (List YZone)} (H : m_laws_toZoneS a = some r) : CallM Tryz.prog 17 [.sl (a.map cZone)] [] (.ms 0) [some ⟨124, 2, r.map cZone⟩] := by
  replace H := H0 H
  unfold m_laws_toZoneS at H
  refine callM_of Tryz.func17 rfl Tryz.ntmps17 Tryz.results17 fun Q hQ hQn => ?_
  exact wk2
instance (a : List YZone) : CT Tryz.prog (m_laws_toZoneS a) := ⟨17, [.sl (a.map cZone)], [], fun r => .ms 0, fun r => [some ⟨124, 2, r.map cZone⟩], ok_laws_toZoneS a⟩
end Go.Proofs.YtjkpcfbmmkmoaaaGreat

/- The mirror of laws_szZoneS, and that the code does just that (printed by a program of my own). -/
namespace Go.Proofs.YtjkpcfbmmkmoaaaGreat
set_option maxRecDepth 10000
open Go.RowKit
set_option linter.unusedVariables false
set_option maxHeartbeats 16000000
def m_laws_szZoneS_b0 (a : List YZone) (s0 : Int × Int) : Option ((Int × Int) ⊕ (Int ⊕ Int)) :=
 cond (decide (s0.2 < (a.length : Int)))
 ((getI a s0.2).bind fun y1 =>
 (m_laws_szZone y1 s0.1).bind fun y2 =>
 cond (decide (y2 < 0))
 (some (.inr (.inr (-1))))
 (some (.inl (y2, (w64 (s0.2 + 1))))))
 (some (.inr (.inl s0.1)))
instance (a : List YZone) : LoopE (m_laws_szZoneS_b0 a) := ⟨fun s0 => [.sl (a.map cZone), vi s0.1, .un, .un, .un, vi s0.2, .un, .un, .un, .un, .un, .un, .un, .un, .un, .un, .un, .un, .un, .un, .un, .un, .un, .un, .un, .un, .un], fun s0 => []⟩
def m_laws_szZoneS (a : List YZone) (left : Int) : Option Int :=
 cond (decide ((w64 (left - (a.length : Int))) < 0))
 (some (-1))
 ((iterF (m_laws_szZoneS_b0 a) NN ((w64 (left - (a.length : Int))), 0)).bind (selim (fun o0 =>
 some o0) (fun r => some r)))
theorem ok_laws_szZoneS (a : List YZone) (left : Int) {r : Int} (H : m_laws_szZoneS a left = some r) : CallM Tryz.prog 12 [.sl (a.map cZone), vi left] [] (vi r) [] := by
  replace H := H0 H
  unfold m_laws_szZoneS at H
  refine callM_of Tryz.func12 rfl Tryz.ntmps12 Tryz.results12 fun Q hQ hQn => ?_
  exact wk2
instance (a : List YZone) (left : Int) : CT Tryz.prog (m_laws_szZoneS a left) := ⟨12, [.sl (a.map cZone), vi left], [], fun r => vi r, fun r => [], ok_laws_szZoneS a left⟩
end Go.Proofs.YtjkpcfbmmkmoaaaGreat

/- The mirror of laws_eqRate, and that the code does just that (printed by a program of my own). -/
namespace Go.Proofs.YtjkpcfbmmkmoaaaGreat
set_option maxRecDepth 10000
open Go.RowKit
set_option linter.unusedVariables false
set_option maxHeartbeats 16000000
def m_laws_eqRate (a : YRate) (b : YRate) : Option Bool :=
 cond (!decide (a.zone = b.zone))
 (some false)
 (cond (!decide (a.service = b.service))
 (some false)
 (cond (!decide (a.limit = b.limit))
 (some false)
 (cond (!decide (a.price = b.price))
 (some false)
 (some true))))
theorem ok_laws_eqRate (a : YRate) (b : YRate) {r : Bool} (H : m_laws_eqRate a b = some r) : CallM Tryz.prog 73 [.ag (cRate a), .ag (cRate b)] [] (vb r) [] := by
  replace H := H0 H
  unfold m_laws_eqRate at H
  refine callM_of Tryz.func73 rfl Tryz.ntmps73 Tryz.results73 fun Q hQ hQn => ?_
  exact wk2
instance (a : YRate) (b : YRate) : CT Tryz.prog (m_laws_eqRate a b) := ⟨73, [.ag (cRate a), .ag (cRate b)], [], fun r => vb r, fun r => [], ok_laws_eqRate a b⟩
end Go.Proofs.YtjkpcfbmmkmoaaaGreat

/- The mirror of laws_toRate, and that the code does just that (printed by a program of my own). -/
namespace Go.Proofs.YtjkpcfbmmkmoaaaGreat
set_option maxRecDepth 10000
open Go.RowKit
set_option linter.unusedVariables false
set_option maxHeartbeats 16000000
def m_laws_toRate (a : YRate) : Option YRate :=
 some a
theorem ok_laws_toRate (a : YRate) {r : YRate} (H : m_laws_toRate a = some r) : CallM Tryz.prog 68 [.ag (cRate a)] [] (.ag [vi r.zone, vi r.service, vi r.limit, vi r.price]) [] := by
  replace H := H0 H
  unfold m_laws_toRate at H
  refine callM_of Tryz.func68 rfl Tryz.ntmps68 Tryz.results68 fun Q hQ hQn => ?_
  exact wk2
instance (a : YRate) : CT Tryz.prog (m_laws_toRate a) := ⟨68, [.ag (cRate a)], [], fun r => .ag [vi r.zone, vi r.service, vi r.limit, vi r.price], fun r => [], ok_laws_toRate a⟩
end Go.Proofs.YtjkpcfbmmkmoaaaGreat

/- The mirror of laws_eqRateS, and that the code does just that (printed by a program of my own). -/
namespace Go.Proofs.YtjkpcfbmmkmoaaaGreat
set_option maxRecDepth 10000
open Go.RowKit
set_option linter.unusedVariables false
set_option maxHeartbeats 16000000
def m_laws_eqRateS_b0 (a : List YRate) (b : List YRate) (s0 : Int) : Option (Int ⊕ (Unit ⊕ Bool)) :=
 cond (decide (s0 < (a.length : Int)))
 ((getI a s0).bind fun y1 =>
 (getI b s0).bind fun y2 =>
 (m_laws_eqRate y1 y2).bind fun y3 =>
 cond (!y3)
 (some (.inr (.inr false)))
 (some (.inl (w64 (s0 + 1)))))
 (some (.inr (.inl ())))
instance (a : List YRate) (b : List YRate) : LoopE (m_laws_eqRateS_b0 a b) := ⟨fun s0 => [.sl (a.map cRate), .sl (b.map cRate), .un, .un, .un, vi s0, .un, .un, .un, .un, .un, .un, .un, .un, .un, .un, .un, .un, .un, .un, .un, .un, .un, .un, .un, .un, .un], fun s0 => []⟩
def m_laws_eqRateS (a : List YRate) (b : List YRate) : Option Bool :=
 cond (!decide ((a.length : Int) = (b.length : Int)))
 (some false)
 ((iterF (m_laws_eqRateS_b0 a b) NN 0).bind (selim (fun o0 =>
 some true) (fun r => some r)))
theorem ok_laws_eqRateS (a : List YRate) (b : List YRate) {r : Bool} (H : m_laws_eqRateS a b = some r) : CallM Tryz.prog 23 [.sl (a.map cRate), .sl (b.map cRate)] [] (vb r) [] := by
  replace H := H0 H
  unfold m_laws_eqRateS at H
  refine callM_of Tryz.func23 rfl Tryz.ntmps23 Tryz.results23 fun Q hQ hQn => ?_
  exact wk2
instance (a : List YRate) (b : List YRate) : CT Tryz.prog (m_laws_eqRateS a b) := ⟨23, [.sl (a.map cRate), .sl (b.map cRate)], [], fun r => vb r, fun r => [], ok_laws_eqRateS a b⟩
end Go.Proofs.YtjkpcfbmmkmoaaaGreat

/- The mirror of laws_toRateS, and that the code does just that (printed by a program of my own). -/
namespace Go.Proofs.YtjkpcfbmmkmoaaaGreat
set_option maxRecDepth 10000
open Go.RowKit
set_option linter.unusedVariables false
set_option maxHeartbeats 16000000
def m_laws_toRateS_b0 (a : List YRate) (s0 : Int × (List YRate)) : Option ((Int × (List YRate)) ⊕ (List YRate)) :=
 cond (decide (s0.1 < (a.length : Int)))
 ((getI a s0.1).bind fun y1 =>
 (m_laws_toRate y1).bind fun y2 =>
 (getI s0.2 s0.1).bind fun y3 =>
 some (.inl ((w64 (s0.1 + 1)), (s0.2.set (Int.toNat s0.1) y2))))
 (some (.inr s0.2))
instance (a : List YRate) : LoopE (m_laws_toRateS_b0 a) := ⟨fun s0 => [.sl (a.map cRate), .un, .un, .ms 0, vi s0.1, .un, .un, .un, .un, .un, .un, .un, .un, .un, .un, .un, .un, .un, .un, .un, .un, .un, .un], fun s0 => [some ⟨127, 4, s0.2.map cRate⟩]⟩
def m_laws_toRateS (a : List YRate) : Option (List YRate) :=
 (chk (mkOk (a.length : Int) 32)).bind fun _ =>
 (iterF (m_laws_toRateS_b0 a) NN (0, (List.replicate (Int.toNat (a.length : Int)) (⟨0, 0, 0, 0⟩ : YRate)))).bind (fun o0 =>
 some o0)
theorem ok_laws_toRateS (a : List YRate) {r : (List YRate)} (H : m_laws_toRateS a = some r) : CallM Tryz.prog 18 [.sl (a.map cRate)] [] (.ms 0) [some ⟨127, 4, r.map cRate⟩] := by
  replace H := H0 H
  unfold m_laws_toRateS at H
  refine callM_of Tryz.func18 rfl Tryz.ntmps18 Tryz.results18 fun Q hQ hQn => ?_
  exact wk2
instance (a : List YRate) : CT Tryz.prog (m_laws_toRateS a) := ⟨18, [.sl (a.map cRate)], [], fun r => .ms 0, fun r => [some ⟨127, 4, r.map cRate⟩], ok_laws_toRateS a⟩
end Go.Proofs.YtjkpcfbmmkmoaaaGreat

/- The mirror of laws_szRateS, and that the code does just that (printed by a program of my own). -/
namespace Go.Proofs.YtjkpcfbmmkmoaaaGreat
set_option maxRecDepth 10000
open Go.RowKit
set_option linter.unusedVariables false
set_option maxHeartbeats 16000000
def m_laws_szRateS (a : List YRate) (left : Int) : Option Int :=
 cond (decide ((w64 (left - (a.length : Int))) < 0))
 (some (-1))
 (some (w64 (left - (a.length : Int))))
theorem ok_laws_szRateS (a : List YRate) (left : Int) {r : Int} (H : m_laws_szRateS a left = some r) : CallM Tryz.prog 13 [.sl (a.map cRate), vi left] [] (vi r) [] := by
  replace H := H0 H
  unfold m_laws_szRateS at H
  refine callM_of Tryz.func13 rfl Tryz.ntmps13 Tryz.results13 fun Q hQ hQn => ?_
  exact wk2
instance (a : List YRate) (left : Int) : CT Tryz.prog (m_laws_szRateS a left) := ⟨13, [.sl (a.map cRate), vi left], [], fun r => vi r, fun r => [], ok_laws_szRateS a left⟩
end Go.Proofs.YtjkpcfbmmkmoaaaGreat

/- The mirror of laws_eqLabel, and that the code does just that (printed by a program of my own). -/
namespace Go.Proofs.YtjkpcfbmmkmoaaaGreat
set_option maxRecDepth 10000
open Go.RowKit
set_option linter.unusedVariables false
set_option maxHeartbeats 16000000
def m_laws_eqLabel (a : YLabel) (b : YLabel) : Option Bool :=
 cond (!decide (a.service = b.service))
 (some false)
 (cond (!decide (a.serial = b.serial))
 (some false)
 (cond (!decide (a.to_ = b.to_))
 (some false)
 (some true)))
theorem ok_laws_eqLabel (a : YLabel) (b : YLabel) {r : Bool} (H : m_laws_eqLabel a b = some r) : CallM Tryz.prog 211 [.ag (cLabel a), .ag (cLabel b)] [] (vb r) [] := by
  replace H := H0 H
  unfold m_laws_eqLabel at H
  refine callM_of Tryz.func211 rfl Tryz.ntmps211 Tryz.results211 fun Q hQ hQn => ?_
  exact wk2
instance (a : YLabel) (b : YLabel) : CT Tryz.prog (m_laws_eqLabel a b) := ⟨211, [.ag (cLabel a), .ag (cLabel b)], [], fun r => vb r, fun r => [], ok_laws_eqLabel a b⟩
end Go.Proofs.YtjkpcfbmmkmoaaaGreat

/- The mirror of laws_toLabel, and that the code does just that (printed by a program of my own). -/
namespace Go.Proofs.YtjkpcfbmmkmoaaaGreat
set_option maxRecDepth 10000
open Go.RowKit
set_option linter.unusedVariables false
set_option maxHeartbeats 16000000
def m_laws_toLabel (a : YLabel) : Option YLabel :=
 some a
theorem ok_laws_toLabel (a : YLabel) {r : YLabel} (H : m_laws_toLabel a = some r) : CallM Tryz.prog 195 [.ag (cLabel a)] [] (.ag [vi r.service, vi r.serial, vs r.to_]) [] := by
  replace H := H0 H
  unfold m_laws_toLabel at H
  refine callM_of Tryz.func195 rfl Tryz.ntmps195 Tryz.results195 fun Q hQ hQn => ?_
  exact wk2
instance (a : YLabel) : CT Tryz.prog (m_laws_toLabel a) := ⟨195, [.ag (cLabel a)], [], fun r => .ag [vi r.service, vi r.serial, vs r.to_], fun r => [], ok_laws_toLabel a⟩
end Go.Proofs.YtjkpcfbmmkmoaaaGreat

/- The mirror of laws_szLabel, and that the code does just that (printed by a program of my own). -/
namespace Go.Proofs.YtjkpcfbmmkmoaaaGreat
set_option maxRecDepth 10000
open Go.RowKit
set_option linter.unusedVariables false
set_option maxHeartbeats 16000000
def m_laws_szLabel (a : YLabel) (left : Int) : Option Int :=
 cond (decide ((w64 (left - (a.to_.size : Int))) < 0))
 (some (-1))
 (some (w64 (left - (a.to_.size : Int))))
theorem ok_laws_szLabel (a : YLabel) (left : Int) {r : Int} (H : m_laws_szLabel a left = some r) : CallM Tryz.prog 178 [.ag (cLabel a), vi left] [] (vi r) [] := by
  replace H := H0 H
  unfold m_laws_szLabel at H
  refine callM_of Tryz.func178 rfl Tryz.ntmps178 Tryz.results178 fun Q hQ hQn => ?_
  exact wk2
instance (a : YLabel) (left : Int) : CT Tryz.prog (m_laws_szLabel a left) := ⟨178, [.ag (cLabel a), vi left], [], fun r => vi r, fun r => [], ok_laws_szLabel a left⟩
end Go.Proofs.YtjkpcfbmmkmoaaaGreat

/- The mirror of laws_eqParcel, and that the code does just that (printed by a program of my own). -/
namespace Go.Proofs.YtjkpcfbmmkmoaaaGreat
set_option maxRecDepth 10000
open Go.RowKit
set_option linter.unusedVariables false
set_option maxHeartbeats 16000000
def m_laws_eqParcel (a : YParcel) (b : YParcel) : Option Bool :=
 (m_laws_eqLabel a.label b.label).bind fun y1 =>
 cond (!y1)
 (some false)
 (cond (!decide (a.from_ = b.from_))
 (some false)
 (cond (!decide (a.weight = b.weight))
 (some false)
 ((m_laws_eqIntS a.sides b.sides).bind fun y2 =>
 cond (!y2)
 (some false)
 (cond (!decide (a.value = b.value))
 (some false)
 (some true)))))
theorem ok_laws_eqParcel (a : YParcel) (b : YParcel) {r : Bool} (H : m_laws_eqParcel a b = some r) : CallM Tryz.prog 145 [.ag (cParcel a), .ag (cParcel b)] [] (vb r) [] := by
  replace H := H0 H
  unfold m_laws_eqParcel at H
  refine callM_of Tryz.func145 rfl Tryz.ntmps145 Tryz.results145 fun Q hQ hQn => ?_
  exact wk2
instance (a : YParcel) (b : YParcel) : CT Tryz.prog (m_laws_eqParcel a b) := ⟨145, [.ag (cParcel a), .ag (cParcel b)], [], fun r => vb r, fun r => [], ok_laws_eqParcel a b⟩
end Go.Proofs.YtjkpcfbmmkmoaaaGreat

/- The mirror of laws_toParcel, and that the code does just that (printed by a program of my own). -/
namespace Go.Proofs.YtjkpcfbmmkmoaaaGreat
set_option maxRecDepth 10000
open Go.RowKit
set_option linter.unusedVariables false
set_option maxHeartbeats 16000000
def m_laws_toParcel (a : YParcel) : Option YParcel :=
 (m_laws_toLabel a.label).bind fun y1 =>
 (m_laws_toIntS a.sides).bind fun y2 =>
 some (⟨y1, a.from_, a.weight, y2, a.value⟩ : YParcel)
theorem ok_laws_toParcel (a : YParcel) {r : YParcel} (H : m_laws_toParcel a = some r) : CallM Tryz.prog 128 [.ag (cParcel a)] [] (.ag [vi r.label.service, vi r.label.serial, vs r.label.to_, vs r.from_, vi r.weight, .sl (r.sides.map cInt), vi r.value]) [] := by
  replace H := H0 H
  unfold m_laws_toParcel at H
  refine callM_of Tryz.func128 rfl Tryz.ntmps128 Tryz.results128 fun Q hQ hQn => ?_
  exact wk2
instance (a : YParcel) : CT Tryz.prog (m_laws_toParcel a) := ⟨128, [.ag (cParcel a)], [], fun r => .ag [vi r.label.service, vi r.label.serial, vs r.label.to_, vs r.from_, vi r.weight, .sl (r.sides.map cInt), vi r.value], fun r => [], ok_laws_toParcel a⟩
end Go.Proofs.YtjkpcfbmmkmoaaaGreat

/- The mirror of laws_szParcel, and that the code does just that (printed by a program of my own). -/
namespace Go.Proofs.YtjkpcfbmmkmoaaaGreat
set_option maxRecDepth 10000
open Go.RowKit
set_option linter.unusedVariables false
set_option maxHeartbeats 16000000
def m_laws_szParcel (a : YParcel) (left : Int) : Option Int :=
 (m_laws_szLabel a.label left).bind fun y1 =>
 cond (decide (y1 < 0))
 (some (-1))
 (cond (decide ((w64 (y1 - (a.from_.size : Int))) < 0))
 (some (-1))
 ((m_laws_szIntS a.sides (w64 (y1 - (a.from_.size : Int)))).bind fun y2 =>
 cond (decide (y2 < 0))
 (some (-1))
 (some y2)))
theorem ok_laws_szParcel (a : YParcel) (left : Int) {r : Int} (H : m_laws_szParcel a left = some r) : CallM Tryz.prog 114 [.ag (cParcel a), vi left] [] (vi r) [] := by
  replace H := H0 H
  unfold m_laws_szParcel at H
  refine callM_of Tryz.func114 rfl Tryz.ntmps114 Tryz.results114 fun Q hQ hQn => ?_
  exact wk2
instance (a : YParcel) (left : Int) : CT Tryz.prog (m_laws_szParcel a left) := ⟨114, [.ag (cParcel a), vi left], [], fun r => vi r, fun r => [], ok_laws_szParcel a left⟩
end Go.Proofs.YtjkpcfbmmkmoaaaGreat

/- The mirror of laws_eqParcelS, and that the code does just that (printed by a program of my own). -/
namespace Go.Proofs.YtjkpcfbmmkmoaaaGreat
set_option maxRecDepth 10000
open Go.RowKit
set_option linter.unusedVariables false
set_option maxHeartbeats 16000000
def m_laws_eqParcelS_b0 (a : List YParcel) (b : List YParcel) (s0 : Int) : Option (Int ⊕ (Unit ⊕ Bool)) :=
 cond (decide (s0 < (a.length : Int)))
 ((getI a s0).bind fun y1 =>
 (getI b s0).bind fun y2 =>
 (m_laws_eqParcel y1 y2).bind fun y3 =>
 cond (!y3)
 (some (.inr (.inr false)))
 (some (.inl (w64 (s0 + 1)))))
 (some (.inr (.inl ())))
instance (a : List YParcel) (b : List YParcel) : LoopE (m_laws_eqParcelS_b0 a b) := ⟨fun s0 => [.sl (a.map cParcel), .sl (b.map cParcel), .un, .un, .un, vi s0, .un, .un, .un, .un, .un, .un, .un, .un, .un, .un, .un, .un, .un, .un, .un, .un, .un, .un, .un, .un, .un], fun s0 => []⟩
def m_laws_eqParcelS (a : List YParcel) (b : List YParcel) : Option Bool :=
 cond (!decide ((a.length : Int) = (b.length : Int)))
 (some false)
 ((iterF (m_laws_eqParcelS_b0 a b) NN 0).bind (selim (fun o0 =>
 some true) (fun r => some r)))
theorem ok_laws_eqParcelS (a : List YParcel) (b : List YParcel) {r : Bool} (H : m_laws_eqParcelS a b = some r) : CallM Tryz.prog 59 [.sl (a.map cParcel), .sl (b.map cParcel)] [] (vb r) [] := by
  replace H := H0 H
  unfold m_laws_eqParcelS at H
  refine callM_of Tryz.func59 rfl Tryz.ntmps59 Tryz.results59 fun Q hQ hQn => ?_
  exact wk2
instance (a : List YParcel) (b : List YParcel) : CT Tryz.prog (m_laws_eqParcelS a b) := ⟨59, [.sl (a.map cParcel), .sl (b.map cParcel)], [], fun r => vb r, fun r => [], ok_laws_eqParcelS a b⟩
end Go.Proofs.YtjkpcfbmmkmoaaaGreat

/- The mirror of laws_toParcelS, and that the code does just that (printed by a program of my own). -/
namespace Go.Proofs.YtjkpcfbmmkmoaaaGreat
set_option maxRecDepth 10000
open Go.RowKit
set_option linter.unusedVariables false
set_option maxHeartbeats 16000000
def m_laws_toParcelS_b0 (a : List YParcel) (s0 : Int × (List YParcel)) : Option ((Int × (List YParcel)) ⊕ (List YParcel)) :=
 cond (decide (s0.1 < (a.length : Int)))
 ((getI a s0.1).bind fun y1 =>
 (m_laws_toParcel y1).bind fun y2 =>
 (getI s0.2 s0.1).bind fun y3 =>
 some (.inl ((w64 (s0.1 + 1)), (s0.2.set (Int.toNat s0.1) y2))))
 (some (.inr s0.2))
instance (a : List YParcel) : LoopE (m_laws_toParcelS_b0 a) := ⟨fun s0 => [.sl (a.map cParcel), .un, .un, .ms 0, vi s0.1, .un, .un, .un, .un, .un, .un, .un, .un, .un, .un, .un, .un, .un, .un, .un, .un, .un, .un], fun s0 => [some ⟨100, 7, s0.2.map cParcel⟩]⟩
def m_laws_toParcelS (a : List YParcel) : Option (List YParcel) :=
 (chk (mkOk (a.length : Int) 88)).bind fun _ =>
 (iterF (m_laws_toParcelS_b0 a) NN (0, (List.replicate (Int.toNat (a.length : Int)) (⟨(⟨0, 0, ⟨#[]⟩⟩ : YLabel), ⟨#[]⟩, 0, [], 0⟩ : YParcel)))).bind (fun o0 =>
 some o0)
theorem ok_laws_toParcelS (a : List YParcel) {r : (List YParcel)} (H : m_laws_toParcelS a = some r) : CallM Tryz.prog 48 [.sl (a.map cParcel)] [] (.ms 0) [some ⟨100, 7, r.map cParcel⟩] := by
  replace H := H0 H
  unfold m_laws_toParcelS at H
  refine callM_of Tryz.func48 rfl Tryz.ntmps48 Tryz.results48 fun Q hQ hQn => ?_
  exact wk2
instance (a : List YParcel) : CT Tryz.prog (m_laws_toParcelS a) := ⟨48, [.sl (a.map cParcel)], [], fun r => .ms 0, fun r => [some ⟨100, 7, r.map cParcel⟩], ok_laws_toParcelS a⟩
end Go.Proofs.YtjkpcfbmmkmoaaaGreat

/- The mirror of laws_szParcelS, and that the code does just that (printed by a program of my own). -/
namespace Go.Proofs.YtjkpcfbmmkmoaaaGreat
set_option maxRecDepth 10000
open Go.RowKit
set_option linter.unusedVariables false
set_option maxHeartbeats 16000000
def m_laws_szParcelS_b0 (a : List YParcel) (s0 : Int × Int) : Option ((Int × Int) ⊕ (Int ⊕ Int)) :=
 cond (decide (s0.2 < (a.length : Int)))
 ((getI a s0.2).bind fun y1 =>
 (m_laws_szParcel y1 s0.1).bind fun y2 =>
 cond (decide (y2 < 0))
 (some (.inr (.inr (-1))))
 (some (.inl (y2, (w64 (s0.2 + 1))))))
 (some (.inr (.inl s0.1)))
instance (a : List YParcel) : LoopE (m_laws_szParcelS_b0 a) := ⟨fun s0 => [.sl (a.map cParcel), vi s0.1, .un, .un, .un, vi s0.2, .un, .un, .un, .un, .un, .un, .un, .un, .un, .un, .un, .un, .un, .un, .un, .un, .un, .un, .un, .un, .un], fun s0 => []⟩
def m_laws_szParcelS (a : List YParcel) (left : Int) : Option Int :=
 cond (decide ((w64 (left - (a.length : Int))) < 0))
 (some (-1))
 ((iterF (m_laws_szParcelS_b0 a) NN ((w64 (left - (a.length : Int))), 0)).bind (selim (fun o0 =>
 some o0) (fun r => some r)))
theorem ok_laws_szParcelS (a : List YParcel) (left : Int) {r : Int} (H : m_laws_szParcelS a left = some r) : CallM Tryz.prog 38 [.sl (a.map cParcel), vi left] [] (vi r) [] := by
  replace H := H0 H
  unfold m_laws_szParcelS at H
  refine callM_of Tryz.func38 rfl Tryz.ntmps38 Tryz.results38 fun Q hQ hQn => ?_
  exact wk2
instance (a : List YParcel) (left : Int) : CT Tryz.prog (m_laws_szParcelS a left) := ⟨38, [.sl (a.map cParcel), vi left], [], fun r => vi r, fun r => [], ok_laws_szParcelS a left⟩
end Go.Proofs.YtjkpcfbmmkmoaaaGreat

/- The mirror of laws_eqLine, and that the code does just that (printed by a program of my own). -/
namespace Go.Proofs.YtjkpcfbmmkmoaaaGreat
set_option maxRecDepth 10000
open Go.RowKit
set_option linter.unusedVariables false
set_option maxHeartbeats 16000000
def m_laws_eqLine (a : YLine) (b : YLine) : Option Bool :=
 cond (!decide (a.order = b.order))
 (some false)
 (cond (!decide (a.kind = b.kind))
 (some false)
 (cond (!decide (a.amount = b.amount))
 (some false)
 (cond (!decide (a.at_ = b.at_))
 (some false)
 (some true))))
theorem ok_laws_eqLine (a : YLine) (b : YLine) {r : Bool} (H : m_laws_eqLine a b = some r) : CallM Tryz.prog 146 [.ag (cLine a), .ag (cLine b)] [] (vb r) [] := by
  replace H := H0 H
  unfold m_laws_eqLine at H
  refine callM_of Tryz.func146 rfl Tryz.ntmps146 Tryz.results146 fun Q hQ hQn => ?_
  exact wk2
instance (a : YLine) (b : YLine) : CT Tryz.prog (m_laws_eqLine a b) := ⟨146, [.ag (cLine a), .ag (cLine b)], [], fun r => vb r, fun r => [], ok_laws_eqLine a b⟩
end Go.Proofs.YtjkpcfbmmkmoaaaGreat

/- The mirror of laws_toLine, and that the code does just that (printed by a program of my own). -/
namespace Go.Proofs.YtjkpcfbmmkmoaaaGreat
set_option maxRecDepth 10000
open Go.RowKit
set_option linter.unusedVariables false
set_option maxHeartbeats 16000000
def m_laws_toLine (a : YLine) : Option YLine :=
 some a
theorem ok_laws_toLine (a : YLine) {r : YLine} (H : m_laws_toLine a = some r) : CallM Tryz.prog 129 [.ag (cLine a)] [] (.ag [vi r.order, vi r.kind, vi r.amount, vi r.at_]) [] := by
  replace H := H0 H
  unfold m_laws_toLine at H
  refine callM_of Tryz.func129 rfl Tryz.ntmps129 Tryz.results129 fun Q hQ hQn => ?_
  exact wk2
instance (a : YLine) : CT Tryz.prog (m_laws_toLine a) := ⟨129, [.ag (cLine a)], [], fun r => .ag [vi r.order, vi r.kind, vi r.amount, vi r.at_], fun r => [], ok_laws_toLine a⟩
end Go.Proofs.YtjkpcfbmmkmoaaaGreat

/- The mirror of laws_eqLineS, and that the code does just that (printed by a program of my own). -/
namespace Go.Proofs.YtjkpcfbmmkmoaaaGreat
set_option maxRecDepth 10000
open Go.RowKit
set_option linter.unusedVariables false
set_option maxHeartbeats 16000000
def m_laws_eqLineS_b0 (a : List YLine) (b : List YLine) (s0 : Int) : Option (Int ⊕ (Unit ⊕ Bool)) :=
 cond (decide (s0 < (a.length : Int)))
 ((getI a s0).bind fun y1 =>
 (getI b s0).bind fun y2 =>
 (m_laws_eqLine y1 y2).bind fun y3 =>
 cond (!y3)
 (some (.inr (.inr false)))
 (some (.inl (w64 (s0 + 1)))))
 (some (.inr (.inl ())))
instance (a : List YLine) (b : List YLine) : LoopE (m_laws_eqLineS_b0 a b) := ⟨fun s0 => [.sl (a.map cLine), .sl (b.map cLine), .un, .un, .un, vi s0, .un, .un, .un, .un, .un, .un, .un, .un, .un, .un, .un, .un, .un, .un, .un, .un, .un, .un, .un, .un, .un], fun s0 => []⟩
def m_laws_eqLineS (a : List YLine) (b : List YLine) : Option Bool :=
 cond (!decide ((a.length : Int) = (b.length : Int)))
 (some false)
 ((iterF (m_laws_eqLineS_b0 a b) NN 0).bind (selim (fun o0 =>
 some true) (fun r => some r)))
theorem ok_laws_eqLineS (a : List YLine) (b : List YLine) {r : Bool} (H : m_laws_eqLineS a b = some r) : CallM Tryz.prog 60 [.sl (a.map cLine), .sl (b.map cLine)] [] (vb r) [] := by
  replace H := H0 H
  unfold m_laws_eqLineS at H
  refine callM_of Tryz.func60 rfl Tryz.ntmps60 Tryz.results60 fun Q hQ hQn => ?_
  exact wk2
instance (a : List YLine) (b : List YLine) : CT Tryz.prog (m_laws_eqLineS a b) := ⟨60, [.sl (a.map cLine), .sl (b.map cLine)], [], fun r => vb r, fun r => [], ok_laws_eqLineS a b⟩
end Go.Proofs.YtjkpcfbmmkmoaaaGreat

/- The mirror of laws_toLineS, and that the code does just that (printed by a program of my own). -/
namespace Go.Proofs.YtjkpcfbmmkmoaaaGreat
set_option maxRecDepth 10000
open Go.RowKit
set_option linter.unusedVariables false
set_option maxHeartbeats 16000000
def m_laws_toLineS_b0 (a : List YLine) (s0 : Int × (List YLine)) : Option ((Int × (List YLine)) ⊕ (List YLine)) :=
 cond (decide (s0.1 < (a.length : Int)))
 ((getI a s0.1).bind fun y1 =>
 (m_laws_toLine y1).bind fun y2 =>
 (getI s0.2 s0.1).bind fun y3 =>
 some (.inl ((w64 (s0.1 + 1)), (s0.2.set (Int.toNat s0.1) y2))))
 (some (.inr s0.2))
instance (a : List YLine) : LoopE (m_laws_toLineS_b0 a) := ⟨fun s0 => [.sl (a.map cLine), .un, .un, .ms 0, vi s0.1, .un, .un, .un, .un, .un, .un, .un, .un, .un, .un, .un, .un, .un, .un, .un, .un, .un, .un], fun s0 => [some ⟨95, 4, s0.2.map cLine⟩]⟩
def m_laws_toLineS (a : List YLine) : Option (List YLine) :=
 (chk (mkOk (a.length : Int) 32)).bind fun _ =>
 (iterF (m_laws_toLineS_b0 a) NN (0, (List.replicate (Int.toNat (a.length : Int)) (⟨0, 0, 0, 0⟩ : YLine)))).bind (fun o0 =>
 some o0)
theorem ok_laws_toLineS (a : List YLine) {r : (List YLine)} (H : m_laws_toLineS a = some r) : CallM Tryz.prog 49 [.sl (a.map cLine)] [] (.ms 0) [some ⟨95, 4, r.map cLine⟩] := by
  replace H := H0 H
  unfold m_laws_toLineS at H
  refine callM_of Tryz.func49 rfl Tryz.ntmps49 Tryz.results49 fun Q hQ hQn => ?_
  exact wk2
instance (a : List YLine) : CT Tryz.prog (m_laws_toLineS a) := ⟨49, [.sl (a.map cLine)], [], fun r => .ms 0, fun r => [some ⟨95, 4, r.map cLine⟩], ok_laws_toLineS a⟩
end Go.Proofs.YtjkpcfbmmkmoaaaGreat

/- The mirror of laws_szLineS, and that the code does just that (printed by a program of my own). -/
namespace Go.Proofs.YtjkpcfbmmkmoaaaGreat
set_option maxRecDepth 10000
open Go.RowKit
set_option linter.unusedVariables false
set_option maxHeartbeats 16000000
def m_laws_szLineS (a : List YLine) (left : Int) : Option Int :=
 cond (decide ((w64 (left - (a.length : Int))) < 0))
 (some (-1))
 (some (w64 (left - (a.length : Int))))
theorem ok_laws_szLineS (a : List YLine) (left : Int) {r : Int} (H : m_laws_szLineS a left = some r) : CallM Tryz.prog 39 [.sl (a.map cLine), vi left] [] (vi r) [] := by
  replace H := H0 H
  unfold m_laws_szLineS at H
  refine callM_of Tryz.func39 rfl Tryz.ntmps39 Tryz.results39 fun Q hQ hQn => ?_
  exact wk2
instance (a : List YLine) (left : Int) : CT Tryz.prog (m_laws_szLineS a left) := ⟨39, [.sl (a.map cLine), vi left], [], fun r => vi r, fun r => [], ok_laws_szLineS a left⟩
end Go.Proofs.YtjkpcfbmmkmoaaaGreat

/- The mirror of laws_eqAct, and that the code does just that (printed by a program of my own). -/
namespace Go.Proofs.YtjkpcfbmmkmoaaaGreat
set_option maxRecDepth 10000
open Go.RowKit
set_option linter.unusedVariables false
set_option maxHeartbeats 16000000
def m_laws_eqAct (a : YAct) (b : YAct) : Option Bool :=
 cond (!decide (a.kind = b.kind))
 (some false)
 ((m_laws_eqParcel a.parcel b.parcel).bind fun y1 =>
 cond (!y1)
 (some false)
 (cond (!decide (a.order = b.order))
 (some false)
 (cond (!decide (a.amount = b.amount))
 (some false)
 (cond (!decide (a.until_ = b.until_))
 (some false)
 ((m_laws_eqTrip a.trip b.trip).bind fun y2 =>
 cond (!y2)
 (some false)
 (some true))))))
theorem ok_laws_eqAct (a : YAct) (b : YAct) {r : Bool} (H : m_laws_eqAct a b = some r) : CallM Tryz.prog 147 [.ag (cAct a), .ag (cAct b)] [] (vb r) [] := by
  replace H := H0 H
  unfold m_laws_eqAct at H
  refine callM_of Tryz.func147 rfl Tryz.ntmps147 Tryz.results147 fun Q hQ hQn => ?_
  exact wk2
instance (a : YAct) (b : YAct) : CT Tryz.prog (m_laws_eqAct a b) := ⟨147, [.ag (cAct a), .ag (cAct b)], [], fun r => vb r, fun r => [], ok_laws_eqAct a b⟩
end Go.Proofs.YtjkpcfbmmkmoaaaGreat

/- The mirror of laws_toAct, and that the code does just that (printed by a program of my own). -/
namespace Go.Proofs.YtjkpcfbmmkmoaaaGreat
set_option maxRecDepth 10000
open Go.RowKit
set_option linter.unusedVariables false
set_option maxHeartbeats 16000000
def m_laws_toAct (a : YAct) : Option YAct :=
 (m_laws_toParcel a.parcel).bind fun y1 =>
 (m_laws_toTrip a.trip).bind fun y2 =>
 some (⟨a.kind, y1, a.order, a.amount, a.until_, y2⟩ : YAct)
theorem ok_laws_toAct (a : YAct) {r : YAct} (H : m_laws_toAct a = some r) : CallM Tryz.prog 130 [.ag (cAct a)] [] (.ag [vi r.kind, vi r.parcel.label.service, vi r.parcel.label.serial, vs r.parcel.label.to_, vs r.parcel.from_, vi r.parcel.weight, .sl (r.parcel.sides.map cInt), vi r.parcel.value, vi r.order, vi r.amount, vi r.until_, vi r.trip.leg, vi r.trip.day]) [] := by
  replace H := H0 H
  unfold m_laws_toAct at H
  refine callM_of Tryz.func130 rfl Tryz.ntmps130 Tryz.results130 fun Q hQ hQn => ?_
  exact wk2
instance (a : YAct) : CT Tryz.prog (m_laws_toAct a) := ⟨130, [.ag (cAct a)], [], fun r => .ag [vi r.kind, vi r.parcel.label.service, vi r.parcel.label.serial, vs r.parcel.label.to_, vs r.parcel.from_, vi r.parcel.weight, .sl (r.parcel.sides.map cInt), vi r.parcel.value, vi r.order, vi r.amount, vi r.until_, vi r.trip.leg, vi r.trip.day], fun r => [], ok_laws_toAct a⟩
end Go.Proofs.YtjkpcfbmmkmoaaaGreat

/- The mirror of laws_szAct, and that the code does just that (printed by a program of my own). -/
namespace Go.Proofs.YtjkpcfbmmkmoaaaGreat
set_option maxRecDepth 10000
open Go.RowKit
set_option linter.unusedVariables false
set_option maxHeartbeats 16000000
def m_laws_szAct (a : YAct) (left : Int) : Option Int :=
 (m_laws_szParcel a.parcel left).bind fun y1 =>
 cond (decide (y1 < 0))
 (some (-1))
 (some y1)
theorem ok_laws_szAct (a : YAct) (left : Int) {r : Int} (H : m_laws_szAct a left = some r) : CallM Tryz.prog 115 [.ag (cAct a), vi left] [] (vi r) [] := by
  replace H := H0 H
  unfold m_laws_szAct at H
  refine callM_of Tryz.func115 rfl Tryz.ntmps115 Tryz.results115 fun Q hQ hQn => ?_
  exact wk2
instance (a : YAct) (left : Int) : CT Tryz.prog (m_laws_szAct a left) := ⟨115, [.ag (cAct a), vi left], [], fun r => vi r, fun r => [], ok_laws_szAct a left⟩
end Go.Proofs.YtjkpcfbmmkmoaaaGreat

/- The mirror of laws_eqActS, and that the code does just that (printed by a program of my own). -/
namespace Go.Proofs.YtjkpcfbmmkmoaaaGreat
set_option maxRecDepth 10000
open Go.RowKit
set_option linter.unusedVariables false
set_option maxHeartbeats 16000000
def m_laws_eqActS_b0 (a : List YAct) (b : List YAct) (s0 : Int) : Option (Int ⊕ (Unit ⊕ Bool)) :=
 cond (decide (s0 < (a.length : Int)))
 ((getI a s0).bind fun y1 =>
 (getI b s0).bind fun y2 =>
 (m_laws_eqAct y1 y2).bind fun y3 =>
 cond (!y3)
 (some (.inr (.inr false)))
 (some (.inl (w64 (s0 + 1)))))
 (some (.inr (.inl ())))
instance (a : List YAct) (b : List YAct) : LoopE (m_laws_eqActS_b0 a b) := ⟨fun s0 => [.sl (a.map cAct), .sl (b.map cAct), .un, .un, .un, vi s0, .un, .un, .un, .un, .un, .un, .un, .un, .un, .un, .un, .un, .un, .un, .un, .un, .un, .un, .un, .un, .un], fun s0 => []⟩
def m_laws_eqActS (a : List YAct) (b : List YAct) : Option Bool :=
 cond (!decide ((a.length : Int) = (b.length : Int)))
 (some false)
 ((iterF (m_laws_eqActS_b0 a b) NN 0).bind (selim (fun o0 =>
 some true) (fun r => some r)))
theorem ok_laws_eqActS (a : List YAct) (b : List YAct) {r : Bool} (H : m_laws_eqActS a b = some r) : CallM Tryz.prog 61 [.sl (a.map cAct), .sl (b.map cAct)] [] (vb r) [] := by
  replace H := H0 H
  unfold m_laws_eqActS at H
  refine callM_of Tryz.func61 rfl Tryz.ntmps61 Tryz.results61 fun Q hQ hQn => ?_
  exact wk2
instance (a : List YAct) (b : List YAct) : CT Tryz.prog (m_laws_eqActS a b) := ⟨61, [.sl (a.map cAct), .sl (b.map cAct)], [], fun r => vb r, fun r => [], ok_laws_eqActS a b⟩
end Go.Proofs.YtjkpcfbmmkmoaaaGreat

/- The mirror of laws_toActS, and that the code does just that (printed by a program of my own). -/
namespace Go.Proofs.YtjkpcfbmmkmoaaaGreat
set_option maxRecDepth 10000
open Go.RowKit
set_option linter.unusedVariables false
set_option maxHeartbeats 16000000
def m_laws_toActS_b0 (a : List YAct) (s0 : Int × (List YAct)) : Option ((Int × (List YAct)) ⊕ (List YAct)) :=
 cond (decide (s0.1 < (a.length : Int)))
 ((getI a s0.1).bind fun y1 =>
 (m_laws_toAct y1).bind fun y2 =>
 (getI s0.2 s0.1).bind fun y3 =>
 some (.inl ((w64 (s0.1 + 1)), (s0.2.set (Int.toNat s0.1) y2))))
 (some (.inr s0.2))
instance (a : List YAct) : LoopE (m_laws_toActS_b0 a) := ⟨fun s0 => [.sl (a.map cAct), .un, .un, .ms 0, vi s0.1, .un, .un, .un, .un, .un, .un, .un, .un, .un, .un, .un, .un, .un, .un, .un, .un, .un, .un], fun s0 => [some ⟨104, 13, s0.2.map cAct⟩]⟩
def m_laws_toActS (a : List YAct) : Option (List YAct) :=
 (chk (mkOk (a.length : Int) 136)).bind fun _ =>
 (iterF (m_laws_toActS_b0 a) NN (0, (List.replicate (Int.toNat (a.length : Int)) (⟨0, (⟨(⟨0, 0, ⟨#[]⟩⟩ : YLabel), ⟨#[]⟩, 0, [], 0⟩ : YParcel), 0, 0, 0, (⟨0, 0⟩ : YTrip)⟩ : YAct)))).bind (fun o0 =>
 some o0)
theorem ok_laws_toActS (a : List YAct) {r : (List YAct)} (H : m_laws_toActS a = some r) : CallM Tryz.prog 50 [.sl (a.map cAct)] [] (.ms 0) [some ⟨104, 13, r.map cAct⟩] := by
  replace H := H0 H
  unfold m_laws_toActS at H
  refine callM_of Tryz.func50 rfl Tryz.ntmps50 Tryz.results50 fun Q hQ hQn => ?_
  exact wk2
instance (a : List YAct) : CT Tryz.prog (m_laws_toActS a) := ⟨50, [.sl (a.map cAct)], [], fun r => .ms 0, fun r => [some ⟨104, 13, r.map cAct⟩], ok_laws_toActS a⟩
end Go.Proofs.YtjkpcfbmmkmoaaaGreat

/- The mirror of laws_szActS, and that the code does just that (printed by a program of my own). -/
namespace Go.Proofs.YtjkpcfbmmkmoaaaGreat
set_option maxRecDepth 10000
open Go.RowKit
set_option linter.unusedVariables false
set_option maxHeartbeats 16000000
def m_laws_szActS_b0 (a : List YAct) (s0 : Int × Int) : Option ((Int × Int) ⊕ (Int ⊕ Int)) :=
 cond (decide (s0.2 < (a.length : Int)))
 ((getI a s0.2).bind fun y1 =>
 (m_laws_szAct y1 s0.1).bind fun y2 =>
 cond (decide (y2 < 0))
 (some (.inr (.inr (-1))))
 (some (.inl (y2, (w64 (s0.2 + 1))))))
 (some (.inr (.inl s0.1)))
instance (a : List YAct) : LoopE (m_laws_szActS_b0 a) := ⟨fun s0 => [.sl (a.map cAct), vi s0.1, .un, .un, .un, vi s0.2, .un, .un, .un, .un, .un, .un, .un, .un, .un, .un, .un, .un, .un, .un, .un, .un, .un, .un, .un, .un, .un], fun s0 => []⟩
def m_laws_szActS (a : List YAct) (left : Int) : Option Int :=
 cond (decide ((w64 (left - (a.length : Int))) < 0))
 (some (-1))
 ((iterF (m_laws_szActS_b0 a) NN ((w64 (left - (a.length : Int))), 0)).bind (selim (fun o0 =>
 some o0) (fun r => some r)))
theorem ok_laws_szActS (a : List YAct) (left : Int) {r : Int} (H : m_laws_szActS a left = some r) : CallM Tryz.prog 40 [.sl (a.map cAct), vi left] [] (vi r) [] := by
  replace H := H0 H
  unfold m_laws_szActS at H
  refine callM_of Tryz.func40 rfl Tryz.ntmps40 Tryz.results40 fun Q hQ hQn => ?_
  exact wk2
instance (a : List YAct) (left : Int) : CT Tryz.prog (m_laws_szActS a left) := ⟨40, [.sl (a.map cAct), vi left], [], fun r => vi r, fun r => [], ok_laws_szActS a left⟩
end Go.Proofs.YtjkpcfbmmkmoaaaGreat

/- The mirror of laws_eqOffice, and that the code does just that (printed by a program of my own). -/
namespace Go.Proofs.YtjkpcfbmmkmoaaaGreat
set_option maxRecDepth 10000
open Go.RowKit
set_option linter.unusedVariables false
set_option maxHeartbeats 16000000
def m_laws_eqOffice (a : YOffice) (b : YOffice) : Option Bool :=
 (m_laws_eqWorld a.world b.world).bind fun y1 =>
 cond (!y1)
 (some false)
 ((m_laws_eqZoneS a.zones b.zones).bind fun y2 =>
 cond (!y2)
 (some false)
 ((m_laws_eqRateS a.rates b.rates).bind fun y3 =>
 cond (!y3)
 (some false)
 ((m_laws_eqIntS a.percents b.percents).bind fun y4 =>
 cond (!y4)
 (some false)
 ((m_laws_eqParcelS a.parcels b.parcels).bind fun y5 =>
 cond (!y5)
 (some false)
 ((m_laws_eqLineS a.lines b.lines).bind fun y6 =>
 cond (!y6)
 (some false)
 ((m_laws_eqActS a.journal b.journal).bind fun y7 =>
 cond (!y7)
 (some false)
 (some true)))))))
theorem ok_laws_eqOffice (a : YOffice) (b : YOffice) {r : Bool} (H : m_laws_eqOffice a b = some r) : CallM Tryz.prog 10 [.ag (cOffice a), .ag (cOffice b)] [] (vb r) [] := by
  replace H := H0 H
  unfold m_laws_eqOffice at H
  refine callM_of Tryz.func10 rfl Tryz.ntmps10 Tryz.results10 fun Q hQ hQn => ?_
  exact wk2
instance (a : YOffice) (b : YOffice) : CT Tryz.prog (m_laws_eqOffice a b) := ⟨10, [.ag (cOffice a), .ag (cOffice b)], [], fun r => vb r, fun r => [], ok_laws_eqOffice a b⟩
end Go.Proofs.YtjkpcfbmmkmoaaaGreat

/- The mirror of laws_toOffice, and that the code does just that (printed by a program of my own). -/
namespace Go.Proofs.YtjkpcfbmmkmoaaaGreat
set_option maxRecDepth 10000
open Go.RowKit
set_option linter.unusedVariables false
set_option maxHeartbeats 16000000
def m_laws_toOffice (a : YOffice) : Option YOffice :=
 (m_laws_toWorld a.world).bind fun y1 =>
 (m_laws_toZoneS a.zones).bind fun y2 =>
 (m_laws_toRateS a.rates).bind fun y3 =>
 (m_laws_toIntS a.percents).bind fun y4 =>
 (m_laws_toParcelS a.parcels).bind fun y5 =>
 (m_laws_toLineS a.lines).bind fun y6 =>
 (m_laws_toActS a.journal).bind fun y7 =>
 some (⟨y1, y2, y3, y4, y5, y6, y7⟩ : YOffice)
theorem ok_laws_toOffice (a : YOffice) {r : YOffice} (H : m_laws_toOffice a = some r) : CallM Tryz.prog 8 [.ag (cOffice a)] [] (.ag [.sl (r.world.network.legs.map cLeg), .sl (r.world.network.off.map cInt), vi r.world.network.change, .sl (r.world.orders.map cOrder), .sl (r.world.bookings.map cBooking), .sl (r.world.closed.map cTrip), vi r.world.now, .sl (r.world.scans.map cScan), .sl (r.world.skip.map cInt), vi r.world.made, .sl (r.zones.map cZone), .sl (r.rates.map cRate), .sl (r.percents.map cInt), .sl (r.parcels.map cParcel), .sl (r.lines.map cLine), .sl (r.journal.map cAct)]) [] := by
  replace H := H0 H
  unfold m_laws_toOffice at H
  refine callM_of Tryz.func8 rfl Tryz.ntmps8 Tryz.results8 fun Q hQ hQn => ?_
  exact wk2
instance (a : YOffice) : CT Tryz.prog (m_laws_toOffice a) := ⟨8, [.ag (cOffice a)], [], fun r => .ag [.sl (r.world.network.legs.map cLeg), .sl (r.world.network.off.map cInt), vi r.world.network.change, .sl (r.world.orders.map cOrder), .sl (r.world.bookings.map cBooking), .sl (r.world.closed.map cTrip), vi r.world.now, .sl (r.world.scans.map cScan), .sl (r.world.skip.map cInt), vi r.world.made, .sl (r.zones.map cZone), .sl (r.rates.map cRate), .sl (r.percents.map cInt), .sl (r.parcels.map cParcel), .sl (r.lines.map cLine), .sl (r.journal.map cAct)], fun r => [], ok_laws_toOffice a⟩
end Go.Proofs.YtjkpcfbmmkmoaaaGreat

/- The mirror of laws_szOffice, and that the code does just that (printed by a program of my own). -/
namespace Go.Proofs.YtjkpcfbmmkmoaaaGreat
set_option maxRecDepth 10000
open Go.RowKit
set_option linter.unusedVariables false
set_option maxHeartbeats 16000000
def m_laws_szOffice (a : YOffice) (left : Int) : Option Int :=
 (m_laws_szWorld a.world left).bind fun y1 =>
 cond (decide (y1 < 0))
 (some (-1))
 ((m_laws_szZoneS a.zones y1).bind fun y2 =>
 cond (decide (y2 < 0))
 (some (-1))
 ((m_laws_szRateS a.rates y2).bind fun y3 =>
 cond (decide (y3 < 0))
 (some (-1))
 ((m_laws_szIntS a.percents y3).bind fun y4 =>
 cond (decide (y4 < 0))
 (some (-1))
 ((m_laws_szParcelS a.parcels y4).bind fun y5 =>
 cond (decide (y5 < 0))
 (some (-1))
 ((m_laws_szLineS a.lines y5).bind fun y6 =>
 cond (decide (y6 < 0))
 (some (-1))
 ((m_laws_szActS a.journal y6).bind fun y7 =>
 cond (decide (y7 < 0))
 (some (-1))
 (some y7)))))))
theorem ok_laws_szOffice (a : YOffice) (left : Int) {r : Int} (H : m_laws_szOffice a left = some r) : CallM Tryz.prog 6 [.ag (cOffice a), vi left] [] (vi r) [] := by
  replace H := H0 H
  unfold m_laws_szOffice at H
  refine callM_of Tryz.func6 rfl Tryz.ntmps6 Tryz.results6 fun Q hQ hQn => ?_
  exact wk2
instance (a : YOffice) (left : Int) : CT Tryz.prog (m_laws_szOffice a left) := ⟨6, [.ag (cOffice a), vi left], [], fun r => vi r, fun r => [], ok_laws_szOffice a left⟩
end Go.Proofs.YtjkpcfbmmkmoaaaGreat

/- What the mirrors of the laws' own functions answer (printed by wip/genplain.py). -/
namespace Go.Proofs.YtjkpcfbmmkmoaaaGreat
set_option maxRecDepth 10000
open Go.RowKit
set_option linter.unusedVariables false
set_option linter.unusedSimpArgs false
theorem mkOk_of {n : Nat} {b : Int} (h : n ≤ 1048576) (hb : 0 ≤ b) (hb2 : b ≤ 134217728) : mkOk (n : Int) b = true := by
  refine decide_eq_true ⟨by omega, by omega, ?_⟩
  have : b * (n : Int) ≤ 134217728 * 1048576 := Int.mul_le_mul hb2 (by omega) (by omega) (by omega)
  omega
theorem totS_len {α : Type} (f : α → Nat) (xs : List α) : xs.length ≤ totS f xs := by unfold totS; omega
theorem totS_mem {α : Type} (f : α → Nat) {xs : List α} {y : α} (h : y ∈ xs) : f y ≤ totS f xs := by
  have : f y ≤ (xs.map f).sum := by
    induction xs with
    | nil => cases h
    | cons x xs ih =>
      simp only [List.map_cons, List.sum_cons]
      rcases List.mem_cons.1 h with rfl | h
      · omega
      · have := ih h; omega
  unfold totS; omega
theorem iter_sz {α : Type} {xs : List α} {f : α → Nat} {body : Int × Int → Option ((Int × Int) ⊕ (Int ⊕ Int))}
    (h1 : ∀ (i : Nat) (l : Int) x, xs[i]? = some x → 0 ≤ l → l ≤ 1048576 → body (l, (i : Int)) = some (if l < f x then .inr (.inr (-1)) else .inl (l - f x, ((i + 1 : Nat) : Int))))
    (h2 : ∀ l, body (l, (xs.length : Int)) = some (.inr (.inl l))) (hN : xs.length < NN) {l : Int} (hl : 0 ≤ l) (hl2 : l ≤ 1048576) :
    iterF body NN (l, 0) = some (if l < ((xs.map f).sum : Nat) then .inr (-1) else .inl (l - ((xs.map f).sum : Nat))) := by
  have key : ∀ (ys : List α) (i N : Nat) (l : Int), xs.drop i = ys → i ≤ xs.length → ys.length < N → 0 ≤ l → l ≤ 1048576 → iterF body N (l, (i : Int)) = some (if l < ((ys.map f).sum : Nat) then .inr (-1) else .inl (l - ((ys.map f).sum : Nat))) := by
    intro ys
    induction ys with
    | nil =>
      intro i N l hd hi hN h0 h1'
      cases N with
      | zero => omega
      | succ N =>
        have : i = xs.length := by have := congrArg List.length hd; simp at this; omega
        subst this
        simp only [iterF, h2]
        show some (Sum.inl l) = _
        rw [if_neg (by simp; omega)]; simp
    | cons y ys ih =>
      intro i N l hd hi hN h0 h1'
      cases N with
      | zero => simp at hN
      | succ N =>
        have hy : xs[i]? = some y := by
          have := congrArg (fun l => l[0]?) hd
          simpa using this
        have hlt : i < xs.length := (List.getElem?_eq_some_iff.1 hy).1
        have hd' : xs.drop (i + 1) = ys := by
          have := congrArg (List.drop 1) hd
          simpa [List.drop_drop] using this
        simp only [iterF, h1 i l y hy h0 h1', List.map_cons, List.sum_cons]
        by_cases hc : l < f y
        · rw [if_pos hc, if_pos (by omega)]; rfl
        · rw [if_neg hc]
          show iterF body N (l - f y, ((i + 1 : Nat) : Int)) = _
          rw [ih (i + 1) N _ hd' hlt (by simp at hN; omega) (by omega) (by omega)]
          by_cases hc2 : l - f y < ((ys.map f).sum : Nat)
          · rw [if_pos hc2, if_pos (by omega)]
          · rw [if_neg hc2, if_neg (by omega)]; congr 2; omega
  exact key xs 0 NN l rfl (Nat.zero_le _) hN hl hl2
theorem szTo_nn {l : Int} {n : Nat} (h : ¬ szTo l n < 0) (h0 : 0 ≤ l) : (n : Int) ≤ l ∧ szTo l n = l - n := by
  rcases szTo_spec l n with ⟨_, e⟩ | ⟨h1, e⟩
  · rw [e] at h; omega
  · exact ⟨h1, e⟩
theorem eqr_Leg (x : YLeg) (h : totLeg x ≤ 1048576) : m_laws_eqLeg x x = some true := by
  simp [m_laws_eqLeg]
theorem cpy_Leg (x : YLeg) (h : totLeg x ≤ 1048576) : m_laws_toLeg x = some x := by
  simp [m_laws_toLeg]
theorem sz_Leg (x : YLeg) {left : Int} (h0 : 0 ≤ left) (h1 : left ≤ 1048576) (ok : okLeg x) : m_laws_szLeg x left = some (szTo left (totLeg x)) := by
  obtain ⟨k0, k1, k2, k3, k4, k5⟩ := ok
  have ht : totLeg x = x.from_.size + x.to_.size := rfl
  unfold m_laws_szLeg
  unfold okStr maxLen at k0
  rw [w64_in (by omega)]
  by_cases c0 : left - ((x.from_.size : Nat) : Int) < 0
  · rw [decide_eq_true c0]; show some (-1) = _; rw [ht]; rcases szTo_spec left (x.from_.size + x.to_.size) with ⟨h, e⟩ | ⟨h, e⟩; · rw [e]
    omega
  rw [decide_eq_false c0]; simp only [cond_false]
  obtain ⟨l1, hl1⟩ : ∃ l : Int, l = left - ((x.from_.size : Nat) : Int) := ⟨_, rfl⟩
  rw [← hl1]
  unfold okStr maxLen at k1
  rw [w64_in (by omega)]
  by_cases c1 : l1 - ((x.to_.size : Nat) : Int) < 0
  · rw [decide_eq_true c1]; show some (-1) = _; rw [ht]; rcases szTo_spec left (x.from_.size + x.to_.size) with ⟨h, e⟩ | ⟨h, e⟩; · rw [e]
    omega
  rw [decide_eq_false c1]; simp only [cond_false]
  obtain ⟨l2, hl2⟩ : ∃ l : Int, l = l1 - ((x.to_.size : Nat) : Int) := ⟨_, rfl⟩
  rw [← hl2]
  rw [ht]; rcases szTo_spec left (x.from_.size + x.to_.size) with ⟨h, e⟩ | ⟨h, e⟩
  · omega
  · rw [e]; (first | (congr 1; omega) | congr 1)
theorem eqr_LegS (a : List YLeg) (hl : a.length ≤ 1048576) (he : ∀ x ∈ a, m_laws_eqLeg x x = some true) : m_laws_eqLegS a a = some true := by
  have e : iterF (m_laws_eqLegS_b0 a a) NN 0 = some (.inl ()) := by
    refine iter_pass (xs := a) (fun i x hx => ?_) ?_ (by unfold NN; omega)
    · obtain ⟨hi, rfl⟩ := List.getElem?_eq_some_iff.1 hx
      have hw := w64_nat hi (by omega)
      have hx2 := he _ (List.mem_of_getElem? hx)
      simp [m_laws_eqLegS_b0, getI_nat, hx, hi, hw, hx2]
    · simp [m_laws_eqLegS_b0]
  unfold m_laws_eqLegS; simp [e]
theorem cpy_LegS (a : List YLeg) (hl : a.length ≤ 1048576) (he : ∀ x ∈ a, m_laws_toLeg x = some x) : m_laws_toLegS a = some a := by
  have e : ∀ z, iterF (m_laws_toLegS_b0 a) NN (0, List.replicate a.length z) = some a := by
    intro z
    refine iter_copy (fun i out x hx ho => ?_) (fun out => ?_) (by unfold NN; omega)
    · obtain ⟨hi, rfl⟩ := List.getElem?_eq_some_iff.1 hx
      have hw := w64_nat hi (by omega)
      have hx3 : out[i]? = some out[i] := List.getElem?_eq_getElem (by omega)
      have hx2 := he _ (List.mem_of_getElem? hx)
      simp [m_laws_toLegS_b0, getI_nat, hx, hx3, hi, hw, hx2]
    · simp [m_laws_toLegS_b0]
  unfold m_laws_toLegS; rw [chk_t (mkOk_of hl (by decide) (by decide))]; simp [e]
theorem sz_LegS (a : List YLeg) {left : Int} (h0 : 0 ≤ left) (h1 : left ≤ 1048576) (hl : a.length ≤ maxLen) (he : ∀ x ∈ a, ∀ l : Int, 0 ≤ l → l ≤ 1048576 → m_laws_szLeg x l = some (szTo l (totLeg x))) : m_laws_szLegS a left = some (szTo left (totS totLeg a)) := by
  unfold maxLen at hl
  unfold m_laws_szLegS
  rw [w64_in (by omega)]
  by_cases hc : left - (a.length : Int) < 0
  · rw [decide_eq_true hc]; show some (-1) = _
    rcases szTo_spec left (totS totLeg a) with ⟨h, e⟩ | ⟨h, e⟩
    · rw [e]
    · have := totS_len totLeg a; omega
  · rw [decide_eq_false hc]
    have e : iterF (m_laws_szLegS_b0 a) NN (left - (a.length : Int), 0) = some (if left - (a.length : Int) < ((a.map totLeg).sum : Nat) then .inr (-1) else .inl (left - (a.length : Int) - ((a.map totLeg).sum : Nat))) := by
      refine iter_sz (fun i l x hx h0 h1 => ?_) (fun l => ?_) (by unfold NN; omega) (by omega) (by omega)
      · obtain ⟨hi, rfl⟩ := List.getElem?_eq_some_iff.1 hx
        have hw := w64_nat hi (by omega)
        have hx2 := he _ (List.mem_of_getElem? hx) l h0 h1
        rcases szTo_spec l (totLeg a[i]) with ⟨h, e⟩ | ⟨h, e⟩
        · rw [e] at hx2; rw [if_pos h]; simp [m_laws_szLegS_b0, getI_nat, hx, hi, hx2]
        · rw [e] at hx2; rw [if_neg (by omega)]; simp [m_laws_szLegS_b0, getI_nat, hx, hi, hx2, hw, show ¬ (l - (totLeg a[i] : Int) < 0) by omega]
      · simp [m_laws_szLegS_b0]
    show (iterF (m_laws_szLegS_b0 a) NN (left - (a.length : Int), 0)).bind _ = _
    rw [e]
    have ht : totS totLeg a = a.length + (a.map totLeg).sum := rfl
    rcases szTo_spec left (totS totLeg a) with ⟨h, e⟩ | ⟨h, e⟩
    · rw [e, if_pos (by omega)]; rfl
    · rw [e, if_neg (by omega)]; show some _ = some _; congr 1; omega
theorem eqr_IntS (a : List Int) (hl : a.length ≤ 1048576) : m_laws_eqIntS a a = some true := by
  have e : iterF (m_laws_eqIntS_b0 a a) NN 0 = some (.inl ()) := by
    refine iter_pass (xs := a) (fun i x hx => ?_) ?_ (by unfold NN; omega)
    · obtain ⟨hi, rfl⟩ := List.getElem?_eq_some_iff.1 hx
      have hw := w64_nat hi (by omega)
      simp [m_laws_eqIntS_b0, getI_nat, hx, hi, hw]
    · simp [m_laws_eqIntS_b0]
  unfold m_laws_eqIntS; simp [e]
theorem cpy_IntS (a : List Int) (hl : a.length ≤ 1048576) : m_laws_toIntS a = some a := by
  have e : ∀ z, iterF (m_laws_toIntS_b0 a) NN (0, List.replicate a.length z) = some a := by
    intro z
    refine iter_copy (fun i out x hx ho => ?_) (fun out => ?_) (by unfold NN; omega)
    · obtain ⟨hi, rfl⟩ := List.getElem?_eq_some_iff.1 hx
      have hw := w64_nat hi (by omega)
      have hx3 : out[i]? = some out[i] := List.getElem?_eq_getElem (by omega)
      simp [m_laws_toIntS_b0, getI_nat, hx, hx3, hi, hw]
    · simp [m_laws_toIntS_b0]
  unfold m_laws_toIntS; rw [chk_t (mkOk_of hl (by decide) (by decide))]; simp [e]
theorem sz_IntS (a : List Int) {left : Int} (h0 : 0 ≤ left) (h1 : left ≤ 1048576) (hl : a.length ≤ maxLen) : m_laws_szIntS a left = some (szTo left a.length) := by
  unfold maxLen at hl
  unfold m_laws_szIntS
  rw [w64_in (by omega)]
  rcases szTo_spec left a.length with ⟨h, e⟩ | ⟨h, e⟩
  · rw [e, decide_eq_true (by omega)]; rfl
  · rw [e, decide_eq_false (by omega)]; rfl
theorem eqr_Network (x : YNetwork) (h : totNetwork x ≤ 1048576) : m_laws_eqNetwork x x = some true := by
  have e0 := eqr_LegS x.legs (by unfold totNetwork at h; have := totS_len totLeg x.legs; omega) (fun y hy => eqr_Leg y (by unfold totNetwork at h; have := totS_mem totLeg hy; omega))
  have e1 := eqr_IntS x.off (by unfold totNetwork at h; have := totS_len totLeg x.legs; omega)
  simp [m_laws_eqNetwork, e0, e1]
theorem cpy_Network (x : YNetwork) (h : totNetwork x ≤ 1048576) : m_laws_toNetwork x = some x := by
  have e0 := cpy_LegS x.legs (by unfold totNetwork at h; have := totS_len totLeg x.legs; omega) (fun y hy => cpy_Leg y (by unfold totNetwork at h; have := totS_mem totLeg hy; omega))
  have e1 := cpy_IntS x.off (by unfold totNetwork at h; have := totS_len totLeg x.legs; omega)
  simp [m_laws_toNetwork, e0, e1]
theorem sz_Network (x : YNetwork) {left : Int} (h0 : 0 ≤ left) (h1 : left ≤ 1048576) (ok : okNetwork x) : m_laws_szNetwork x left = some (szTo left (totNetwork x)) := by
  obtain ⟨k0, k1, k2⟩ := ok
  have ht : totNetwork x = totS totLeg x.legs + x.off.length := rfl
  unfold m_laws_szNetwork
  rw [sz_LegS x.legs (by omega) (by omega) k0.1 (fun y hy l g0 g1 => sz_Leg y g0 g1 (k0.2 y hy))]; simp only [Option.bind_some]
  by_cases c0 : szTo left (totS totLeg x.legs) < 0
  · rw [decide_eq_true c0]; show some (-1) = _; rw [ht]; rcases szTo_spec left (totS totLeg x.legs) with ⟨h2, e2⟩ | ⟨h2, e2⟩; rcases szTo_spec left (totS totLeg x.legs + x.off.length) with ⟨h, e⟩ | ⟨h, e⟩; · rw [e]
    all_goals omega
  rw [decide_eq_false c0]; simp only [cond_false]
  obtain ⟨d0, e0⟩ := szTo_nn c0 (by omega)
  rw [e0]
  obtain ⟨l1, hl1⟩ : ∃ l : Int, l = left - ((totS totLeg x.legs : Nat) : Int) := ⟨_, rfl⟩
  rw [← hl1]
  rw [sz_IntS x.off (by omega) (by omega) k1.1]; simp only [Option.bind_some]
  by_cases c1 : szTo l1 (x.off.length) < 0
  · rw [decide_eq_true c1]; show some (-1) = _; rw [ht]; rcases szTo_spec l1 (x.off.length) with ⟨h2, e2⟩ | ⟨h2, e2⟩; rcases szTo_spec left (totS totLeg x.legs + x.off.length) with ⟨h, e⟩ | ⟨h, e⟩; · rw [e]
    all_goals omega
  rw [decide_eq_false c1]; simp only [cond_false]
  obtain ⟨d1, e1⟩ := szTo_nn c1 (by omega)
  rw [e1]
  obtain ⟨l2, hl2⟩ : ∃ l : Int, l = l1 - ((x.off.length : Nat) : Int) := ⟨_, rfl⟩
  rw [← hl2]
  rw [ht]; rcases szTo_spec left (totS totLeg x.legs + x.off.length) with ⟨h, e⟩ | ⟨h, e⟩
  · omega
  · rw [e]; (first | (congr 1; omega) | congr 1)
theorem eqr_Trip (x : YTrip) : m_laws_eqTrip x x = some true := by
  simp [m_laws_eqTrip]
theorem cpy_Trip (x : YTrip) : m_laws_toTrip x = some x := by
  simp [m_laws_toTrip]
theorem eqr_TripS (a : List YTrip) (hl : a.length ≤ 1048576) (he : ∀ x ∈ a, m_laws_eqTrip x x = some true) : m_laws_eqTripS a a = some true := by
  have e : iterF (m_laws_eqTripS_b0 a a) NN 0 = some (.inl ()) := by
    refine iter_pass (xs := a) (fun i x hx => ?_) ?_ (by unfold NN; omega)
    · obtain ⟨hi, rfl⟩ := List.getElem?_eq_some_iff.1 hx
      have hw := w64_nat hi (by omega)
      have hx2 := he _ (List.mem_of_getElem? hx)
      simp [m_laws_eqTripS_b0, getI_nat, hx, hi, hw, hx2]
    · simp [m_laws_eqTripS_b0]
  unfold m_laws_eqTripS; simp [e]
theorem cpy_TripS (a : List YTrip) (hl : a.length ≤ 1048576) (he : ∀ x ∈ a, m_laws_toTrip x = some x) : m_laws_toTripS a = some a := by
  have e : ∀ z, iterF (m_laws_toTripS_b0 a) NN (0, List.replicate a.length z) = some a := by
    intro z
    refine iter_copy (fun i out x hx ho => ?_) (fun out => ?_) (by unfold NN; omega)
    · obtain ⟨hi, rfl⟩ := List.getElem?_eq_some_iff.1 hx
      have hw := w64_nat hi (by omega)
      have hx3 : out[i]? = some out[i] := List.getElem?_eq_getElem (by omega)
      have hx2 := he _ (List.mem_of_getElem? hx)
      simp [m_laws_toTripS_b0, getI_nat, hx, hx3, hi, hw, hx2]
    · simp [m_laws_toTripS_b0]
  unfold m_laws_toTripS; rw [chk_t (mkOk_of hl (by decide) (by decide))]; simp [e]
theorem sz_TripS (a : List YTrip) {left : Int} (h0 : 0 ≤ left) (h1 : left ≤ 1048576) (hl : a.length ≤ maxLen) : m_laws_szTripS a left = some (szTo left a.length) := by
  unfold maxLen at hl
  unfold m_laws_szTripS
  rw [w64_in (by omega)]
  rcases szTo_spec left a.length with ⟨h, e⟩ | ⟨h, e⟩
  · rw [e, decide_eq_true (by omega)]; rfl
  · rw [e, decide_eq_false (by omega)]; rfl
theorem eqr_Order (x : YOrder) (h : totOrder x ≤ 1048576) : m_laws_eqOrder x x = some true := by
  have e0 := eqr_TripS x.way (by unfold totOrder at h; omega) (fun y hy => eqr_Trip y)
  simp [m_laws_eqOrder, e0]
theorem cpy_Order (x : YOrder) (h : totOrder x ≤ 1048576) : m_laws_toOrder x = some x := by
  have e0 := cpy_TripS x.way (by unfold totOrder at h; omega) (fun y hy => cpy_Trip y)
  simp [m_laws_toOrder, e0]
theorem sz_Order (x : YOrder) {left : Int} (h0 : 0 ≤ left) (h1 : left ≤ 1048576) (ok : okOrder x) : m_laws_szOrder x left = some (szTo left (totOrder x)) := by
  obtain ⟨k0, k1, k2, k3, k4, k5, k6, k7, k8, k9, k10⟩ := ok
  have ht : totOrder x = x.from_.size + x.to_.size + x.way.length + x.place.size := rfl
  unfold m_laws_szOrder
  unfold okStr maxLen at k0
  rw [w64_in (by omega)]
  by_cases c0 : left - ((x.from_.size : Nat) : Int) < 0
  · rw [decide_eq_true c0]; show some (-1) = _; rw [ht]; rcases szTo_spec left (x.from_.size + x.to_.size + x.way.length + x.place.size) with ⟨h, e⟩ | ⟨h, e⟩; · rw [e]
    omega
  rw [decide_eq_false c0]; simp only [cond_false]
  obtain ⟨l1, hl1⟩ : ∃ l : Int, l = left - ((x.from_.size : Nat) : Int) := ⟨_, rfl⟩
  rw [← hl1]
  unfold okStr maxLen at k1
  rw [w64_in (by omega)]
  by_cases c1 : l1 - ((x.to_.size : Nat) : Int) < 0
  · rw [decide_eq_true c1]; show some (-1) = _; rw [ht]; rcases szTo_spec left (x.from_.size + x.to_.size + x.way.length + x.place.size) with ⟨h, e⟩ | ⟨h, e⟩; · rw [e]
    omega
  rw [decide_eq_false c1]; simp only [cond_false]
  obtain ⟨l2, hl2⟩ : ∃ l : Int, l = l1 - ((x.to_.size : Nat) : Int) := ⟨_, rfl⟩
  rw [← hl2]
  rw [sz_TripS x.way (by omega) (by omega) k6.1]; simp only [Option.bind_some]
  by_cases c2 : szTo l2 (x.way.length) < 0
  · rw [decide_eq_true c2]; show some (-1) = _; rw [ht]; rcases szTo_spec l2 (x.way.length) with ⟨h2, e2⟩ | ⟨h2, e2⟩; rcases szTo_spec left (x.from_.size + x.to_.size + x.way.length + x.place.size) with ⟨h, e⟩ | ⟨h, e⟩; · rw [e]
    all_goals omega
  rw [decide_eq_false c2]; simp only [cond_false]
  obtain ⟨d2, e2⟩ := szTo_nn c2 (by omega)
  rw [e2]
  obtain ⟨l3, hl3⟩ : ∃ l : Int, l = l2 - ((x.way.length : Nat) : Int) := ⟨_, rfl⟩
  rw [← hl3]
  unfold okStr maxLen at k9
  rw [w64_in (by omega)]
  by_cases c3 : l3 - ((x.place.size : Nat) : Int) < 0
  · rw [decide_eq_true c3]; show some (-1) = _; rw [ht]; rcases szTo_spec left (x.from_.size + x.to_.size + x.way.length + x.place.size) with ⟨h, e⟩ | ⟨h, e⟩; · rw [e]
    omega
  rw [decide_eq_false c3]; simp only [cond_false]
  obtain ⟨l4, hl4⟩ : ∃ l : Int, l = l3 - ((x.place.size : Nat) : Int) := ⟨_, rfl⟩
  rw [← hl4]
  rw [ht]; rcases szTo_spec left (x.from_.size + x.to_.size + x.way.length + x.place.size) with ⟨h, e⟩ | ⟨h, e⟩
  · omega
  · rw [e]; (first | (congr 1; omega) | congr 1)
theorem eqr_OrderS (a : List YOrder) (hl : a.length ≤ 1048576) (he : ∀ x ∈ a, m_laws_eqOrder x x = some true) : m_laws_eqOrderS a a = some true := by
  have e : iterF (m_laws_eqOrderS_b0 a a) NN 0 = some (.inl ()) := by
    refine iter_pass (xs := a) (fun i x hx => ?_) ?_ (by unfold NN; omega)
    · obtain ⟨hi, rfl⟩ := List.getElem?_eq_some_iff.1 hx
      have hw := w64_nat hi (by omega)
      have hx2 := he _ (List.mem_of_getElem? hx)
      simp [m_laws_eqOrderS_b0, getI_nat, hx, hi, hw, hx2]
    · simp [m_laws_eqOrderS_b0]
  unfold m_laws_eqOrderS; simp [e]
theorem cpy_OrderS (a : List YOrder) (hl : a.length ≤ 1048576) (he : ∀ x ∈ a, m_laws_toOrder x = some x) : m_laws_toOrderS a = some a := by
  have e : ∀ z, iterF (m_laws_toOrderS_b0 a) NN (0, List.replicate a.length z) = some a := by
    intro z
    refine iter_copy (fun i out x hx ho => ?_) (fun out => ?_) (by unfold NN; omega)
    · obtain ⟨hi, rfl⟩ := List.getElem?_eq_some_iff.1 hx
      have hw := w64_nat hi (by omega)
      have hx3 : out[i]? = some out[i] := List.getElem?_eq_getElem (by omega)
      have hx2 := he _ (List.mem_of_getElem? hx)
      simp [m_laws_toOrderS_b0, getI_nat, hx, hx3, hi, hw, hx2]
    · simp [m_laws_toOrderS_b0]
  unfold m_laws_toOrderS; rw [chk_t (mkOk_of hl (by decide) (by decide))]; simp [e]
theorem sz_OrderS (a : List YOrder) {left : Int} (h0 : 0 ≤ left) (h1 : left ≤ 1048576) (hl : a.length ≤ maxLen) (he : ∀ x ∈ a, ∀ l : Int, 0 ≤ l → l ≤ 1048576 → m_laws_szOrder x l = some (szTo l (totOrder x))) : m_laws_szOrderS a left = some (szTo left (totS totOrder a)) := by
  unfold maxLen at hl
  unfold m_laws_szOrderS
  rw [w64_in (by omega)]
  by_cases hc : left - (a.length : Int) < 0
  · rw [decide_eq_true hc]; show some (-1) = _
    rcases szTo_spec left (totS totOrder a) with ⟨h, e⟩ | ⟨h, e⟩
    · rw [e]
    · have := totS_len totOrder a; omega
  · rw [decide_eq_false hc]
    have e : iterF (m_laws_szOrderS_b0 a) NN (left - (a.length : Int), 0) = some (if left - (a.length : Int) < ((a.map totOrder).sum : Nat) then .inr (-1) else .inl (left - (a.length : Int) - ((a.map totOrder).sum : Nat))) := by
      refine iter_sz (fun i l x hx h0 h1 => ?_) (fun l => ?_) (by unfold NN; omega) (by omega) (by omega)
      · obtain ⟨hi, rfl⟩ := List.getElem?_eq_some_iff.1 hx
        have hw := w64_nat hi (by omega)
        have hx2 := he _ (List.mem_of_getElem? hx) l h0 h1
        rcases szTo_spec l (totOrder a[i]) with ⟨h, e⟩ | ⟨h, e⟩
        · rw [e] at hx2; rw [if_pos h]; simp [m_laws_szOrderS_b0, getI_nat, hx, hi, hx2]
        · rw [e] at hx2; rw [if_neg (by omega)]; simp [m_laws_szOrderS_b0, getI_nat, hx, hi, hx2, hw, show ¬ (l - (totOrder a[i] : Int) < 0) by omega]
      · simp [m_laws_szOrderS_b0]
    show (iterF (m_laws_szOrderS_b0 a) NN (left - (a.length : Int), 0)).bind _ = _
    rw [e]
    have ht : totS totOrder a = a.length + (a.map totOrder).sum := rfl
    rcases szTo_spec left (totS totOrder a) with ⟨h, e⟩ | ⟨h, e⟩
    · rw [e, if_pos (by omega)]; rfl
    · rw [e, if_neg (by omega)]; show some _ = some _; congr 1; omega
theorem eqr_Booking (x : YBooking) : m_laws_eqBooking x x = some true := by
  have e0 := eqr_Trip x.trip
  simp [m_laws_eqBooking, e0]
theorem cpy_Booking (x : YBooking) : m_laws_toBooking x = some x := by
  have e0 := cpy_Trip x.trip
  simp [m_laws_toBooking, e0]
theorem eqr_BookingS (a : List YBooking) (hl : a.length ≤ 1048576) (he : ∀ x ∈ a, m_laws_eqBooking x x = some true) : m_laws_eqBookingS a a = some true := by
  have e : iterF (m_laws_eqBookingS_b0 a a) NN 0 = some (.inl ()) := by
    refine iter_pass (xs := a) (fun i x hx => ?_) ?_ (by unfold NN; omega)
    · obtain ⟨hi, rfl⟩ := List.getElem?_eq_some_iff.1 hx
      have hw := w64_nat hi (by omega)
      have hx2 := he _ (List.mem_of_getElem? hx)
      simp [m_laws_eqBookingS_b0, getI_nat, hx, hi, hw, hx2]
    · simp [m_laws_eqBookingS_b0]
  unfold m_laws_eqBookingS; simp [e]
theorem cpy_BookingS (a : List YBooking) (hl : a.length ≤ 1048576) (he : ∀ x ∈ a, m_laws_toBooking x = some x) : m_laws_toBookingS a = some a := by
  have e : ∀ z, iterF (m_laws_toBookingS_b0 a) NN (0, List.replicate a.length z) = some a := by
    intro z
    refine iter_copy (fun i out x hx ho => ?_) (fun out => ?_) (by unfold NN; omega)
    · obtain ⟨hi, rfl⟩ := List.getElem?_eq_some_iff.1 hx
      have hw := w64_nat hi (by omega)
      have hx3 : out[i]? = some out[i] := List.getElem?_eq_getElem (by omega)
      have hx2 := he _ (List.mem_of_getElem? hx)
      simp [m_laws_toBookingS_b0, getI_nat, hx, hx3, hi, hw, hx2]
    · simp [m_laws_toBookingS_b0]
  unfold m_laws_toBookingS; rw [chk_t (mkOk_of hl (by decide) (by decide))]; simp [e]
theorem sz_BookingS (a : List YBooking) {left : Int} (h0 : 0 ≤ left) (h1 : left ≤ 1048576) (hl : a.length ≤ maxLen) : m_laws_szBookingS a left = some (szTo left a.length) := by
  unfold maxLen at hl
  unfold m_laws_szBookingS
  rw [w64_in (by omega)]
  rcases szTo_spec left a.length with ⟨h, e⟩ | ⟨h, e⟩
  · rw [e, decide_eq_true (by omega)]; rfl
  · rw [e, decide_eq_false (by omega)]; rfl
theorem eqr_Scan (x : YScan) (h : totScan x ≤ 1048576) : m_laws_eqScan x x = some true := by
  have e0 := eqr_Trip x.trip
  simp [m_laws_eqScan, e0]
theorem cpy_Scan (x : YScan) (h : totScan x ≤ 1048576) : m_laws_toScan x = some x := by
  have e0 := cpy_Trip x.trip
  simp [m_laws_toScan, e0]
theorem sz_Scan (x : YScan) {left : Int} (h0 : 0 ≤ left) (h1 : left ≤ 1048576) (ok : okScan x) : m_laws_szScan x left = some (szTo left (totScan x)) := by
  obtain ⟨k0, k1, k2, k3, k4⟩ := ok
  have ht : totScan x = x.place.size := rfl
  unfold m_laws_szScan
  unfold okStr maxLen at k3
  rw [w64_in (by omega)]
  by_cases c0 : left - ((x.place.size : Nat) : Int) < 0
  · rw [decide_eq_true c0]; show some (-1) = _; rw [ht]; rcases szTo_spec left (x.place.size) with ⟨h, e⟩ | ⟨h, e⟩; · rw [e]
    omega
  rw [decide_eq_false c0]; simp only [cond_false]
  obtain ⟨l1, hl1⟩ : ∃ l : Int, l = left - ((x.place.size : Nat) : Int) := ⟨_, rfl⟩
  rw [← hl1]
  rw [ht]; rcases szTo_spec left (x.place.size) with ⟨h, e⟩ | ⟨h, e⟩
  · omega
  · rw [e]; (first | (congr 1; omega) | congr 1)
theorem eqr_ScanS (a : List YScan) (hl : a.length ≤ 1048576) (he : ∀ x ∈ a, m_laws_eqScan x x = some true) : m_laws_eqScanS a a = some true := by
  have e : iterF (m_laws_eqScanS_b0 a a) NN 0 = some (.inl ()) := by
    refine iter_pass (xs := a) (fun i x hx => ?_) ?_ (by unfold NN; omega)
    · obtain ⟨hi, rfl⟩ := List.getElem?_eq_some_iff.1 hx
      have hw := w64_nat hi (by omega)
      have hx2 := he _ (List.mem_of_getElem? hx)
      simp [m_laws_eqScanS_b0, getI_nat, hx, hi, hw, hx2]
    · simp [m_laws_eqScanS_b0]
  unfold m_laws_eqScanS; simp [e]
theorem cpy_ScanS (a : List YScan) (hl : a.length ≤ 1048576) (he : ∀ x ∈ a, m_laws_toScan x = some x) : m_laws_toScanS a = some a := by
  have e : ∀ z, iterF (m_laws_toScanS_b0 a) NN (0, List.replicate a.length z) = some a := by
    intro z
    refine iter_copy (fun i out x hx ho => ?_) (fun out => ?_) (by unfold NN; omega)
    · obtain ⟨hi, rfl⟩ := List.getElem?_eq_some_iff.1 hx
      have hw := w64_nat hi (by omega)
      have hx3 : out[i]? = some out[i] := List.getElem?_eq_getElem (by omega)
      have hx2 := he _ (List.mem_of_getElem? hx)
      simp [m_laws_toScanS_b0, getI_nat, hx, hx3, hi, hw, hx2]
    · simp [m_laws_toScanS_b0]
  unfold m_laws_toScanS; rw [chk_t (mkOk_of hl (by decide) (by decide))]; simp [e]
theorem sz_ScanS (a : List YScan) {left : Int} (h0 : 0 ≤ left) (h1 : left ≤ 1048576) (hl : a.length ≤ maxLen) (he : ∀ x ∈ a, ∀ l : Int, 0 ≤ l → l ≤ 1048576 → m_laws_szScan x l = some (szTo l (totScan x))) : m_laws_szScanS a left = some (szTo left (totS totScan a)) := by
  unfold maxLen at hl
  unfold m_laws_szScanS
  rw [w64_in (by omega)]
  by_cases hc : left - (a.length : Int) < 0
  · rw [decide_eq_true hc]; show some (-1) = _
    rcases szTo_spec left (totS totScan a) with ⟨h, e⟩ | ⟨h, e⟩
    · rw [e]
    · have := totS_len totScan a; omega
  · rw [decide_eq_false hc]
    have e : iterF (m_laws_szScanS_b0 a) NN (left - (a.length : Int), 0) = some (if left - (a.length : Int) < ((a.map totScan).sum : Nat) then .inr (-1) else .inl (left - (a.length : Int) - ((a.map totScan).sum : Nat))) := by
      refine iter_sz (fun i l x hx h0 h1 => ?_) (fun l => ?_) (by unfold NN; omega) (by omega) (by omega)
      · obtain ⟨hi, rfl⟩ := List.getElem?_eq_some_iff.1 hx
        have hw := w64_nat hi (by omega)
        have hx2 := he _ (List.mem_of_getElem? hx) l h0 h1
        rcases szTo_spec l (totScan a[i]) with ⟨h, e⟩ | ⟨h, e⟩
        · rw [e] at hx2; rw [if_pos h]; simp [m_laws_szScanS_b0, getI_nat, hx, hi, hx2]
        · rw [e] at hx2; rw [if_neg (by omega)]; simp [m_laws_szScanS_b0, getI_nat, hx, hi, hx2, hw, show ¬ (l - (totScan a[i] : Int) < 0) by omega]
      · simp [m_laws_szScanS_b0]
    show (iterF (m_laws_szScanS_b0 a) NN (left - (a.length : Int), 0)).bind _ = _
    rw [e]
    have ht : totS totScan a = a.length + (a.map totScan).sum := rfl
    rcases szTo_spec left (totS totScan a) with ⟨h, e⟩ | ⟨h, e⟩
    · rw [e, if_pos (by omega)]; rfl
    · rw [e, if_neg (by omega)]; show some _ = some _; congr 1; omega
theorem eqr_World (x : YWorld) (h : totWorld x ≤ 1048576) : m_laws_eqWorld x x = some true := by
  have e0 := eqr_Network x.network (by unfold totWorld at h; have := totS_len totOrder x.orders; have := totS_len totScan x.scans; omega)
  have e1 := eqr_OrderS x.orders (by unfold totWorld at h; have := totS_len totOrder x.orders; have := totS_len totScan x.scans; omega) (fun y hy => eqr_Order y (by unfold totWorld at h; have := totS_mem totOrder hy; omega))
  have e2 := eqr_BookingS x.bookings (by unfold totWorld at h; have := totS_len totOrder x.orders; have := totS_len totScan x.scans; omega) (fun y hy => eqr_Booking y)
  have e3 := eqr_TripS x.closed (by unfold totWorld at h; have := totS_len totOrder x.orders; have := totS_len totScan x.scans; omega) (fun y hy => eqr_Trip y)
  have e4 := eqr_ScanS x.scans (by unfold totWorld at h; have := totS_len totOrder x.orders; have := totS_len totScan x.scans; omega) (fun y hy => eqr_Scan y (by unfold totWorld at h; have := totS_mem totScan hy; omega))
  have e5 := eqr_IntS x.skip (by unfold totWorld at h; have := totS_len totOrder x.orders; have := totS_len totScan x.scans; omega)
  simp [m_laws_eqWorld, e0, e1, e2, e3, e4, e5]
theorem cpy_World (x : YWorld) (h : totWorld x ≤ 1048576) : m_laws_toWorld x = some x := by
  have e0 := cpy_Network x.network (by unfold totWorld at h; have := totS_len totOrder x.orders; have := totS_len totScan x.scans; omega)
  have e1 := cpy_OrderS x.orders (by unfold totWorld at h; have := totS_len totOrder x.orders; have := totS_len totScan x.scans; omega) (fun y hy => cpy_Order y (by unfold totWorld at h; have := totS_mem totOrder hy; omega))
  have e2 := cpy_BookingS x.bookings (by unfold totWorld at h; have := totS_len totOrder x.orders; have := totS_len totScan x.scans; omega) (fun y hy => cpy_Booking y)
  have e3 := cpy_TripS x.closed (by unfold totWorld at h; have := totS_len totOrder x.orders; have := totS_len totScan x.scans; omega) (fun y hy => cpy_Trip y)
  have e4 := cpy_ScanS x.scans (by unfold totWorld at h; have := totS_len totOrder x.orders; have := totS_len totScan x.scans; omega) (fun y hy => cpy_Scan y (by unfold totWorld at h; have := totS_mem totScan hy; omega))
  have e5 := cpy_IntS x.skip (by unfold totWorld at h; have := totS_len totOrder x.orders; have := totS_len totScan x.scans; omega)
  simp [m_laws_toWorld, e0, e1, e2, e3, e4, e5]
theorem sz_World (x : YWorld) {left : Int} (h0 : 0 ≤ left) (h1 : left ≤ 1048576) (ok : okWorld x) : m_laws_szWorld x left = some (szTo left (totWorld x)) := by
  obtain ⟨k0, k1, k2, k3, k4, k5, k6, k7⟩ := ok
  have ht : totWorld x = totNetwork x.network + totS totOrder x.orders + x.bookings.length + x.closed.length + totS totScan x.scans + x.skip.length := rfl
  unfold m_laws_szWorld
  rw [sz_Network x.network (by omega) (by omega) k0]; simp only [Option.bind_some]
  by_cases c0 : szTo left (totNetwork x.network) < 0
  · rw [decide_eq_true c0]; show some (-1) = _; rw [ht]; rcases szTo_spec left (totNetwork x.network) with ⟨h2, e2⟩ | ⟨h2, e2⟩; rcases szTo_spec left (totNetwork x.network + totS totOrder x.orders + x.bookings.length + x.closed.length + totS totScan x.scans + x.skip.length) with ⟨h, e⟩ | ⟨h, e⟩; · rw [e]
    all_goals omega
  rw [decide_eq_false c0]; simp only [cond_false]
  obtain ⟨d0, e0⟩ := szTo_nn c0 (by omega)
  rw [e0]
  obtain ⟨l1, hl1⟩ : ∃ l : Int, l = left - ((totNetwork x.network : Nat) : Int) := ⟨_, rfl⟩
  rw [← hl1]
  rw [sz_OrderS x.orders (by omega) (by omega) k1.1 (fun y hy l g0 g1 => sz_Order y g0 g1 (k1.2 y hy))]; simp only [Option.bind_some]
  by_cases c1 : szTo l1 (totS totOrder x.orders) < 0
  · rw [decide_eq_true c1]; show some (-1) = _; rw [ht]; rcases szTo_spec l1 (totS totOrder x.orders) with ⟨h2, e2⟩ | ⟨h2, e2⟩; rcases szTo_spec left (totNetwork x.network + totS totOrder x.orders + x.bookings.length + x.closed.length + totS totScan x.scans + x.skip.length) with ⟨h, e⟩ | ⟨h, e⟩; · rw [e]
    all_goals omega
  rw [decide_eq_false c1]; simp only [cond_false]
  obtain ⟨d1, e1⟩ := szTo_nn c1 (by omega)
  rw [e1]
  obtain ⟨l2, hl2⟩ : ∃ l : Int, l = l1 - ((totS totOrder x.orders : Nat) : Int) := ⟨_, rfl⟩
  rw [← hl2]
  rw [sz_BookingS x.bookings (by omega) (by omega) k2.1]; simp only [Option.bind_some]
  by_cases c2 : szTo l2 (x.bookings.length) < 0
  · rw [decide_eq_true c2]; show some (-1) = _; rw [ht]; rcases szTo_spec l2 (x.bookings.length) with ⟨h2, e2⟩ | ⟨h2, e2⟩; rcases szTo_spec left (totNetwork x.network + totS totOrder x.orders + x.bookings.length + x.closed.length + totS totScan x.scans + x.skip.length) with ⟨h, e⟩ | ⟨h, e⟩; · rw [e]
    all_goals omega
  rw [decide_eq_false c2]; simp only [cond_false]
  obtain ⟨d2, e2⟩ := szTo_nn c2 (by omega)
  rw [e2]
  obtain ⟨l3, hl3⟩ : ∃ l : Int, l = l2 - ((x.bookings.length : Nat) : Int) := ⟨_, rfl⟩
  rw [← hl3]
  rw [sz_TripS x.closed (by omega) (by omega) k3.1]; simp only [Option.bind_some]
  by_cases c3 : szTo l3 (x.closed.length) < 0
  · rw [decide_eq_true c3]; show some (-1) = _; rw [ht]; rcases szTo_spec l3 (x.closed.length) with ⟨h2, e2⟩ | ⟨h2, e2⟩; rcases szTo_spec left (totNetwork x.network + totS totOrder x.orders + x.bookings.length + x.closed.length + totS totScan x.scans + x.skip.length) with ⟨h, e⟩ | ⟨h, e⟩; · rw [e]
    all_goals omega
  rw [decide_eq_false c3]; simp only [cond_false]
  obtain ⟨d3, e3⟩ := szTo_nn c3 (by omega)
  rw [e3]
  obtain ⟨l4, hl4⟩ : ∃ l : Int, l = l3 - ((x.closed.length : Nat) : Int) := ⟨_, rfl⟩
  rw [← hl4]
  rw [sz_ScanS x.scans (by omega) (by omega) k5.1 (fun y hy l g0 g1 => sz_Scan y g0 g1 (k5.2 y hy))]; simp only [Option.bind_some]
  by_cases c4 : szTo l4 (totS totScan x.scans) < 0
  · rw [decide_eq_true c4]; show some (-1) = _; rw [ht]; rcases szTo_spec l4 (totS totScan x.scans) with ⟨h2, e2⟩ | ⟨h2, e2⟩; rcases szTo_spec left (totNetwork x.network + totS totOrder x.orders + x.bookings.length + x.closed.length + totS totScan x.scans + x.skip.length) with ⟨h, e⟩ | ⟨h, e⟩; · rw [e]
    all_goals omega
  rw [decide_eq_false c4]; simp only [cond_false]
  obtain ⟨d4, e4⟩ := szTo_nn c4 (by omega)
  rw [e4]
  obtain ⟨l5, hl5⟩ : ∃ l : Int, l = l4 - ((totS totScan x.scans : Nat) : Int) := ⟨_, rfl⟩
  rw [← hl5]
  rw [sz_IntS x.skip (by omega) (by omega) k6.1]; simp only [Option.bind_some]
  by_cases c5 : szTo l5 (x.skip.length) < 0
  · rw [decide_eq_true c5]; show some (-1) = _; rw [ht]; rcases szTo_spec l5 (x.skip.length) with ⟨h2, e2⟩ | ⟨h2, e2⟩; rcases szTo_spec left (totNetwork x.network + totS totOrder x.orders + x.bookings.length + x.closed.length + totS totScan x.scans + x.skip.length) with ⟨h, e⟩ | ⟨h, e⟩; · rw [e]
    all_goals omega
  rw [decide_eq_false c5]; simp only [cond_false]
  obtain ⟨d5, e5⟩ := szTo_nn c5 (by omega)
  rw [e5]
  obtain ⟨l6, hl6⟩ : ∃ l : Int, l = l5 - ((x.skip.length : Nat) : Int) := ⟨_, rfl⟩
  rw [← hl6]
  rw [ht]; rcases szTo_spec left (totNetwork x.network + totS totOrder x.orders + x.bookings.length + x.closed.length + totS totScan x.scans + x.skip.length) with ⟨h, e⟩ | ⟨h, e⟩
  · omega
  · rw [e]; (first | (congr 1; omega) | congr 1)
theorem eqr_Zone (x : YZone) (h : totZone x ≤ 1048576) : m_laws_eqZone x x = some true := by
  simp [m_laws_eqZone]
theorem cpy_Zone (x : YZone) (h : totZone x ≤ 1048576) : m_laws_toZone x = some x := by
  simp [m_laws_toZone]
theorem sz_Zone (x : YZone) {left : Int} (h0 : 0 ≤ left) (h1 : left ≤ 1048576) (ok : okZone x) : m_laws_szZone x left = some (szTo left (totZone x)) := by
  obtain ⟨k0, k1⟩ := ok
  have ht : totZone x = x.first.size + x.last.size := rfl
  unfold m_laws_szZone
  unfold okStr maxLen at k0
  rw [w64_in (by omega)]
  by_cases c0 : left - ((x.first.size : Nat) : Int) < 0
  · rw [decide_eq_true c0]; show some (-1) = _; rw [ht]; rcases szTo_spec left (x.first.size + x.last.size) with ⟨h, e⟩ | ⟨h, e⟩; · rw [e]
    omega
  rw [decide_eq_false c0]; simp only [cond_false]
  obtain ⟨l1, hl1⟩ : ∃ l : Int, l = left - ((x.first.size : Nat) : Int) := ⟨_, rfl⟩
  rw [← hl1]
  unfold okStr maxLen at k1
  rw [w64_in (by omega)]
  by_cases c1 : l1 - ((x.last.size : Nat) : Int) < 0
  · rw [decide_eq_true c1]; show some (-1) = _; rw [ht]; rcases szTo_spec left (x.first.size + x.last.size) with ⟨h, e⟩ | ⟨h, e⟩; · rw [e]
    omega
  rw [decide_eq_false c1]; simp only [cond_false]
  obtain ⟨l2, hl2⟩ : ∃ l : Int, l = l1 - ((x.last.size : Nat) : Int) := ⟨_, rfl⟩
  rw [← hl2]
  rw [ht]; rcases szTo_spec left (x.first.size + x.last.size) with ⟨h, e⟩ | ⟨h, e⟩
  · omega
  · rw [e]; (first | (congr 1; omega) | congr 1)
theorem eqr_ZoneS (a : List YZone) (hl : a.length ≤ 1048576) (he : ∀ x ∈ a, m_laws_eqZone x x = some true) : m_laws_eqZoneS a a = some true := by
  have e : iterF (m_laws_eqZoneS_b0 a a) NN 0 = some (.inl ()) := by
    refine iter_pass (xs := a) (fun i x hx => ?_) ?_ (by unfold NN; omega)
    · obtain ⟨hi, rfl⟩ := List.getElem?_eq_some_iff.1 hx
      have hw := w64_nat hi (by omega)
      have hx2 := he _ (List.mem_of_getElem? hx)
      simp [m_laws_eqZoneS_b0, getI_nat, hx, hi, hw, hx2]
    · simp [m_laws_eqZoneS_b0]
  unfold m_laws_eqZoneS; simp [e]
theorem cpy_ZoneS (a : List YZone) (hl : a.length ≤ 1048576) (he : ∀ x ∈ a, m_laws_toZone x = some x) : m_laws_toZoneS a = some a := by
  have e : ∀ z, iterF (m_laws_toZoneS_b0 a) NN (0, List.replicate a.length z) = some a := by
    intro z
    refine iter_copy (fun i out x hx ho => ?_) (fun out => ?_) (by unfold NN; omega)
    · obtain ⟨hi, rfl⟩ := List.getElem?_eq_some_iff.1 hx
      have hw := w64_nat hi (by omega)
      have hx3 : out[i]? = some out[i] := List.getElem?_eq_getElem (by omega)
      have hx2 := he _ (List.mem_of_getElem? hx)
      simp [m_laws_toZoneS_b0, getI_nat, hx, hx3, hi, hw, hx2]
    · simp [m_laws_toZoneS_b0]
  unfold m_laws_toZoneS; rw [chk_t (mkOk_of hl (by decide) (by decide))]; simp [e]
theorem sz_ZoneS (a : List YZone) {left : Int} (h0 : 0 ≤ left) (h1 : left ≤ 1048576) (hl : a.length ≤ maxLen) (he : ∀ x ∈ a, ∀ l : Int, 0 ≤ l → l ≤ 1048576 → m_laws_szZone x l = some (szTo l (totZone x))) : m_laws_szZoneS a left = some (szTo left (totS totZone a)) := by
  unfold maxLen at hl
  unfold m_laws_szZoneS
  rw [w64_in (by omega)]
  by_cases hc : left - (a.length : Int) < 0
  · rw [decide_eq_true hc]; show some (-1) = _
    rcases szTo_spec left (totS totZone a) with ⟨h, e⟩ | ⟨h, e⟩
    · rw [e]
    · have := totS_len totZone a; omega
  · rw [decide_eq_false hc]
    have e : iterF (m_laws_szZoneS_b0 a) NN (left - (a.length : Int), 0) = some (if left - (a.length : Int) < ((a.map totZone).sum : Nat) then .inr (-1) else .inl (left - (a.length : Int) - ((a.map totZone).sum : Nat))) := by
      refine iter_sz (fun i l x hx h0 h1 => ?_) (fun l => ?_) (by unfold NN; omega) (by omega) (by omega)
      · obtain ⟨hi, rfl⟩ := List.getElem?_eq_some_iff.1 hx
        have hw := w64_nat hi (by omega)
        have hx2 := he _ (List.mem_of_getElem? hx) l h0 h1
        rcases szTo_spec l (totZone a[i]) with ⟨h, e⟩ | ⟨h, e⟩
        · rw [e] at hx2; rw [if_pos h]; simp [m_laws_szZoneS_b0, getI_nat, hx, hi, hx2]
        · rw [e] at hx2; rw [if_neg (by omega)]; simp [m_laws_szZoneS_b0, getI_nat, hx, hi, hx2, hw, show ¬ (l - (totZone a[i] : Int) < 0) by omega]
      · simp [m_laws_szZoneS_b0]
    show (iterF (m_laws_szZoneS_b0 a) NN (left - (a.length : Int), 0)).bind _ = _
    rw [e]
    have ht : totS totZone a = a.length + (a.map totZone).sum := rfl
    rcases szTo_spec left (totS totZone a) with ⟨h, e⟩ | ⟨h, e⟩
    · rw [e, if_pos (by omega)]; rfl
    · rw [e, if_neg (by omega)]; show some _ = some _; congr 1; omega
theorem eqr_Rate (x : YRate) : m_laws_eqRate x x = some true := by
  simp [m_laws_eqRate]
theorem cpy_Rate (x : YRate) : m_laws_toRate x = some x := by
  simp [m_laws_toRate]
theorem eqr_RateS (a : List YRate) (hl : a.length ≤ 1048576) (he : ∀ x ∈ a, m_laws_eqRate x x = some true) : m_laws_eqRateS a a = some true := by
  have e : iterF (m_laws_eqRateS_b0 a a) NN 0 = some (.inl ()) := by
    refine iter_pass (xs := a) (fun i x hx => ?_) ?_ (by unfold NN; omega)
    · obtain ⟨hi, rfl⟩ := List.getElem?_eq_some_iff.1 hx
      have hw := w64_nat hi (by omega)
      have hx2 := he _ (List.mem_of_getElem? hx)
      simp [m_laws_eqRateS_b0, getI_nat, hx, hi, hw, hx2]
    · simp [m_laws_eqRateS_b0]
  unfold m_laws_eqRateS; simp [e]
theorem cpy_RateS (a : List YRate) (hl : a.length ≤ 1048576) (he : ∀ x ∈ a, m_laws_toRate x = some x) : m_laws_toRateS a = some a := by
  have e : ∀ z, iterF (m_laws_toRateS_b0 a) NN (0, List.replicate a.length z) = some a := by
    intro z
    refine iter_copy (fun i out x hx ho => ?_) (fun out => ?_) (by unfold NN; omega)
    · obtain ⟨hi, rfl⟩ := List.getElem?_eq_some_iff.1 hx
      have hw := w64_nat hi (by omega)
      have hx3 : out[i]? = some out[i] := List.getElem?_eq_getElem (by omega)
      have hx2 := he _ (List.mem_of_getElem? hx)
      simp [m_laws_toRateS_b0, getI_nat, hx, hx3, hi, hw, hx2]
    · simp [m_laws_toRateS_b0]
  unfold m_laws_toRateS; rw [chk_t (mkOk_of hl (by decide) (by decide))]; simp [e]
theorem sz_RateS (a : List YRate) {left : Int} (h0 : 0 ≤ left) (h1 : left ≤ 1048576) (hl : a.length ≤ maxLen) : m_laws_szRateS a left = some (szTo left a.length) := by
  unfold maxLen at hl
  unfold m_laws_szRateS
  rw [w64_in (by omega)]
  rcases szTo_spec left a.length with ⟨h, e⟩ | ⟨h, e⟩
  · rw [e, decide_eq_true (by omega)]; rfl
  · rw [e, decide_eq_false (by omega)]; rfl
theorem eqr_Label (x : YLabel) (h : totLabel x ≤ 1048576) : m_laws_eqLabel x x = some true := by
  simp [m_laws_eqLabel]
theorem cpy_Label (x : YLabel) (h : totLabel x ≤ 1048576) : m_laws_toLabel x = some x := by
  simp [m_laws_toLabel]
theorem sz_Label (x : YLabel) {left : Int} (h0 : 0 ≤ left) (h1 : left ≤ 1048576) (ok : okLabel x) : m_laws_szLabel x left = some (szTo left (totLabel x)) := by
  obtain ⟨k0, k1, k2⟩ := ok
  have ht : totLabel x = x.to_.size := rfl
  unfold m_laws_szLabel
  unfold okStr maxLen at k2
  rw [w64_in (by omega)]
  by_cases c0 : left - ((x.to_.size : Nat) : Int) < 0
  · rw [decide_eq_true c0]; show some (-1) = _; rw [ht]; rcases szTo_spec left (x.to_.size) with ⟨h, e⟩ | ⟨h, e⟩; · rw [e]
    omega
  rw [decide_eq_false c0]; simp only [cond_false]
  obtain ⟨l1, hl1⟩ : ∃ l : Int, l = left - ((x.to_.size : Nat) : Int) := ⟨_, rfl⟩
  rw [← hl1]
  rw [ht]; rcases szTo_spec left (x.to_.size) with ⟨h, e⟩ | ⟨h, e⟩
  · omega
  · rw [e]; (first | (congr 1; omega) | congr 1)
theorem eqr_Parcel (x : YParcel) (h : totParcel x ≤ 1048576) : m_laws_eqParcel x x = some true := by
  have e0 := eqr_Label x.label (by unfold totParcel at h; omega)
  have e1 := eqr_IntS x.sides (by unfold totParcel at h; omega)
  simp [m_laws_eqParcel, e0, e1]
theorem cpy_Parcel (x : YParcel) (h : totParcel x ≤ 1048576) : m_laws_toParcel x = some x := by
  have e0 := cpy_Label x.label (by unfold totParcel at h; omega)
  have e1 := cpy_IntS x.sides (by unfold totParcel at h; omega)
  simp [m_laws_toParcel, e0, e1]
theorem sz_Parcel (x : YParcel) {left : Int} (h0 : 0 ≤ left) (h1 : left ≤ 1048576) (ok : okParcel x) : m_laws_szParcel x left = some (szTo left (totParcel x)) := by
  obtain ⟨k0, k1, k2, k3, k4⟩ := ok
  have ht : totParcel x = totLabel x.label + x.from_.size + x.sides.length := rfl
  unfold m_laws_szParcel
  rw [sz_Label x.label (by omega) (by omega) k0]; simp only [Option.bind_some]
  by_cases c0 : szTo left (totLabel x.label) < 0
  · rw [decide_eq_true c0]; show some (-1) = _; rw [ht]; rcases szTo_spec left (totLabel x.label) with ⟨h2, e2⟩ | ⟨h2, e2⟩; rcases szTo_spec left (totLabel x.label + x.from_.size + x.sides.length) with ⟨h, e⟩ | ⟨h, e⟩; · rw [e]
    all_goals omega
  rw [decide_eq_false c0]; simp only [cond_false]
  obtain ⟨d0, e0⟩ := szTo_nn c0 (by omega)
  rw [e0]
  obtain ⟨l1, hl1⟩ : ∃ l : Int, l = left - ((totLabel x.label : Nat) : Int) := ⟨_, rfl⟩
  rw [← hl1]
  unfold okStr maxLen at k1
  rw [w64_in (by omega)]
  by_cases c1 : l1 - ((x.from_.size : Nat) : Int) < 0
  · rw [decide_eq_true c1]; show some (-1) = _; rw [ht]; rcases szTo_spec left (totLabel x.label + x.from_.size + x.sides.length) with ⟨h, e⟩ | ⟨h, e⟩; · rw [e]
    omega
  rw [decide_eq_false c1]; simp only [cond_false]
  obtain ⟨l2, hl2⟩ : ∃ l : Int, l = l1 - ((x.from_.size : Nat) : Int) := ⟨_, rfl⟩
  rw [← hl2]
  rw [sz_IntS x.sides (by omega) (by omega) k3.1]; simp only [Option.bind_some]
  by_cases c2 : szTo l2 (x.sides.length) < 0
  · rw [decide_eq_true c2]; show some (-1) = _; rw [ht]; rcases szTo_spec l2 (x.sides.length) with ⟨h2, e2⟩ | ⟨h2, e2⟩; rcases szTo_spec left (totLabel x.label + x.from_.size + x.sides.length) with ⟨h, e⟩ | ⟨h, e⟩; · rw [e]
    all_goals omega
  rw [decide_eq_false c2]; simp only [cond_false]
  obtain ⟨d2, e2⟩ := szTo_nn c2 (by omega)
  rw [e2]
  obtain ⟨l3, hl3⟩ : ∃ l : Int, l = l2 - ((x.sides.length : Nat) : Int) := ⟨_, rfl⟩
  rw [← hl3]
  rw [ht]; rcases szTo_spec left (totLabel x.label + x.from_.size + x.sides.length) with ⟨h, e⟩ | ⟨h, e⟩
  · omega
  · rw [e]; (first | (congr 1; omega) | congr 1)
theorem eqr_ParcelS (a : List YParcel) (hl : a.length ≤ 1048576) (he : ∀ x ∈ a, m_laws_eqParcel x x = some true) : m_laws_eqParcelS a a = some true := by
  have e : iterF (m_laws_eqParcelS_b0 a a) NN 0 = some (.inl ()) := by
    refine iter_pass (xs := a) (fun i x hx => ?_) ?_ (by unfold NN; omega)
    · obtain ⟨hi, rfl⟩ := List.getElem?_eq_some_iff.1 hx
      have hw := w64_nat hi (by omega)
      have hx2 := he _ (List.mem_of_getElem? hx)
      simp [m_laws_eqParcelS_b0, getI_nat, hx, hi, hw, hx2]
    · simp [m_laws_eqParcelS_b0]
  unfold m_laws_eqParcelS; simp [e]
theorem cpy_ParcelS (a : List YParcel) (hl : a.length ≤ 1048576) (he : ∀ x ∈ a, m_laws_toParcel x = some x) : m_laws_toParcelS a = some a := by
  have e : ∀ z, iterF (m_laws_toParcelS_b0 a) NN (0, List.replicate a.length z) = some a := by
    intro z
    refine iter_copy (fun i out x hx ho => ?_) (fun out => ?_) (by unfold NN; omega)
    · obtain ⟨hi, rfl⟩ := List.getElem?_eq_some_iff.1 hx
      have hw := w64_nat hi (by omega)
      have hx3 : out[i]? = some out[i] := List.getElem?_eq_getElem (by omega)
      have hx2 := he _ (List.mem_of_getElem? hx)
      simp [m_laws_toParcelS_b0, getI_nat, hx, hx3, hi, hw, hx2]
    · simp [m_laws_toParcelS_b0]
  unfold m_laws_toParcelS; rw [chk_t (mkOk_of hl (by decide) (by decide))]; simp [e]
theorem sz_ParcelS (a : List YParcel) {left : Int} (h0 : 0 ≤ left) (h1 : left ≤ 1048576) (hl : a.length ≤ maxLen) (he : ∀ x ∈ a, ∀ l : Int, 0 ≤ l → l ≤ 1048576 → m_laws_szParcel x l = some (szTo l (totParcel x))) : m_laws_szParcelS a left = some (szTo left (totS totParcel a)) := by
  unfold maxLen at hl
  unfold m_laws_szParcelS
  rw [w64_in (by omega)]
  by_cases hc : left - (a.length : Int) < 0
  · rw [decide_eq_true hc]; show some (-1) = _
    rcases szTo_spec left (totS totParcel a) with ⟨h, e⟩ | ⟨h, e⟩
    · rw [e]
    · have := totS_len totParcel a; omega
  · rw [decide_eq_false hc]
    have e : iterF (m_laws_szParcelS_b0 a) NN (left - (a.length : Int), 0) = some (if left - (a.length : Int) < ((a.map totParcel).sum : Nat) then .inr (-1) else .inl (left - (a.length : Int) - ((a.map totParcel).sum : Nat))) := by
      refine iter_sz (fun i l x hx h0 h1 => ?_) (fun l => ?_) (by unfold NN; omega) (by omega) (by omega)
      · obtain ⟨hi, rfl⟩ := List.getElem?_eq_some_iff.1 hx
        have hw := w64_nat hi (by omega)
        have hx2 := he _ (List.mem_of_getElem? hx) l h0 h1
        rcases szTo_spec l (totParcel a[i]) with ⟨h, e⟩ | ⟨h, e⟩
        · rw [e] at hx2; rw [if_pos h]; simp [m_laws_szParcelS_b0, getI_nat, hx, hi, hx2]
        · rw [e] at hx2; rw [if_neg (by omega)]; simp [m_laws_szParcelS_b0, getI_nat, hx, hi, hx2, hw, show ¬ (l - (totParcel a[i] : Int) < 0) by omega]
      · simp [m_laws_szParcelS_b0]
    show (iterF (m_laws_szParcelS_b0 a) NN (left - (a.length : Int), 0)).bind _ = _
    rw [e]
    have ht : totS totParcel a = a.length + (a.map totParcel).sum := rfl
    rcases szTo_spec left (totS totParcel a) with ⟨h, e⟩ | ⟨h, e⟩
    · rw [e, if_pos (by omega)]; rfl
    · rw [e, if_neg (by omega)]; show some _ = some _; congr 1; omega
theorem eqr_Line (x : YLine) : m_laws_eqLine x x = some true := by
  simp [m_laws_eqLine]
theorem cpy_Line (x : YLine) : m_laws_toLine x = some x := by
  simp [m_laws_toLine]
theorem eqr_LineS (a : List YLine) (hl : a.length ≤ 1048576) (he : ∀ x ∈ a, m_laws_eqLine x x = some true) : m_laws_eqLineS a a = some true := by
  have e : iterF (m_laws_eqLineS_b0 a a) NN 0 = some (.inl ()) := by
    refine iter_pass (xs := a) (fun i x hx => ?_) ?_ (by unfold NN; omega)
    · obtain ⟨hi, rfl⟩ := List.getElem?_eq_some_iff.1 hx
      have hw := w64_nat hi (by omega)
      have hx2 := he _ (List.mem_of_getElem? hx)
      simp [m_laws_eqLineS_b0, getI_nat, hx, hi, hw, hx2]
    · simp [m_laws_eqLineS_b0]
  unfold m_laws_eqLineS; simp [e]
theorem cpy_LineS (a : List YLine) (hl : a.length ≤ 1048576) (he : ∀ x ∈ a, m_laws_toLine x = some x) : m_laws_toLineS a = some a := by
  have e : ∀ z, iterF (m_laws_toLineS_b0 a) NN (0, List.replicate a.length z) = some a := by
    intro z
    refine iter_copy (fun i out x hx ho => ?_) (fun out => ?_) (by unfold NN; omega)
    · obtain ⟨hi, rfl⟩ := List.getElem?_eq_some_iff.1 hx
      have hw := w64_nat hi (by omega)
      have hx3 : out[i]? = some out[i] := List.getElem?_eq_getElem (by omega)
      have hx2 := he _ (List.mem_of_getElem? hx)
      simp [m_laws_toLineS_b0, getI_nat, hx, hx3, hi, hw, hx2]
    · simp [m_laws_toLineS_b0]
  unfold m_laws_toLineS; rw [chk_t (mkOk_of hl (by decide) (by decide))]; simp [e]
theorem sz_LineS (a : List YLine) {left : Int} (h0 : 0 ≤ left) (h1 : left ≤ 1048576) (hl : a.length ≤ maxLen) : m_laws_szLineS a left = some (szTo left a.length) := by
  unfold maxLen at hl
  unfold m_laws_szLineS
  rw [w64_in (by omega)]
  rcases szTo_spec left a.length with ⟨h, e⟩ | ⟨h, e⟩
  · rw [e, decide_eq_true (by omega)]; rfl
  · rw [e, decide_eq_false (by omega)]; rfl
theorem eqr_Act (x : YAct) (h : totAct x ≤ 1048576) : m_laws_eqAct x x = some true := by
  have e0 := eqr_Parcel x.parcel (by unfold totAct at h; omega)
  have e1 := eqr_Trip x.trip
  simp [m_laws_eqAct, e0, e1]
theorem cpy_Act (x : YAct) (h : totAct x ≤ 1048576) : m_laws_toAct x = some x := by
  have e0 := cpy_Parcel x.parcel (by unfold totAct at h; omega)
  have e1 := cpy_Trip x.trip
  simp [m_laws_toAct, e0, e1]
theorem sz_Act (x : YAct) {left : Int} (h0 : 0 ≤ left) (h1 : left ≤ 1048576) (ok : okAct x) : m_laws_szAct x left = some (szTo left (totAct x)) := by
  obtain ⟨k0, k1, k2, k3, k4, k5⟩ := ok
  have ht : totAct x = totParcel x.parcel := rfl
  unfold m_laws_szAct
  rw [sz_Parcel x.parcel (by omega) (by omega) k1]; simp only [Option.bind_some]
  by_cases c0 : szTo left (totParcel x.parcel) < 0
  · rw [decide_eq_true c0]; show some (-1) = _; rw [ht]; rcases szTo_spec left (totParcel x.parcel) with ⟨h2, e2⟩ | ⟨h2, e2⟩; rcases szTo_spec left (totParcel x.parcel) with ⟨h, e⟩ | ⟨h, e⟩; · rw [e]
    all_goals omega
  rw [decide_eq_false c0]; simp only [cond_false]
  obtain ⟨d0, e0⟩ := szTo_nn c0 (by omega)
  rw [e0]
  obtain ⟨l1, hl1⟩ : ∃ l : Int, l = left - ((totParcel x.parcel : Nat) : Int) := ⟨_, rfl⟩
  rw [← hl1]
  rw [ht]; rcases szTo_spec left (totParcel x.parcel) with ⟨h, e⟩ | ⟨h, e⟩
  · omega
  · rw [e]; (first | (congr 1; omega) | congr 1)
theorem eqr_ActS (a : List YAct) (hl : a.length ≤ 1048576) (he : ∀ x ∈ a, m_laws_eqAct x x = some true) : m_laws_eqActS a a = some true := by
  have e : iterF (m_laws_eqActS_b0 a a) NN 0 = some (.inl ()) := by
    refine iter_pass (xs := a) (fun i x hx => ?_) ?_ (by unfold NN; omega)
    · obtain ⟨hi, rfl⟩ := List.getElem?_eq_some_iff.1 hx
      have hw := w64_nat hi (by omega)
      have hx2 := he _ (List.mem_of_getElem? hx)
      simp [m_laws_eqActS_b0, getI_nat, hx, hi, hw, hx2]
    · simp [m_laws_eqActS_b0]
  unfold m_laws_eqActS; simp [e]
theorem cpy_ActS (a : List YAct) (hl : a.length ≤ 1048576) (he : ∀ x ∈ a, m_laws_toAct x = some x) : m_laws_toActS a = some a := by
  have e : ∀ z, iterF (m_laws_toActS_b0 a) NN (0, List.replicate a.length z) = some a := by
    intro z
    refine iter_copy (fun i out x hx ho => ?_) (fun out => ?_) (by unfold NN; omega)
    · obtain ⟨hi, rfl⟩ := List.getElem?_eq_some_iff.1 hx
      have hw := w64_nat hi (by omega)
      have hx3 : out[i]? = some out[i] := List.getElem?_eq_getElem (by omega)
      have hx2 := he _ (List.mem_of_getElem? hx)
      simp [m_laws_toActS_b0, getI_nat, hx, hx3, hi, hw, hx2]
    · simp [m_laws_toActS_b0]
  unfold m_laws_toActS; rw [chk_t (mkOk_of hl (by decide) (by decide))]; simp [e]
theorem sz_ActS (a : List YAct) {left : Int} (h0 : 0 ≤ left) (h1 : left ≤ 1048576) (hl : a.length ≤ maxLen) (he : ∀ x ∈ a, ∀ l : Int, 0 ≤ l → l ≤ 1048576 → m_laws_szAct x l = some (szTo l (totAct x))) : m_laws_szActS a left = some (szTo left (totS totAct a)) := by
  unfold maxLen at hl
  unfold m_laws_szActS
  rw [w64_in (by omega)]
  by_cases hc : left - (a.length : Int) < 0
  · rw [decide_eq_true hc]; show some (-1) = _
    rcases szTo_spec left (totS totAct a) with ⟨h, e⟩ | ⟨h, e⟩
    · rw [e]
    · have := totS_len totAct a; omega
  · rw [decide_eq_false hc]
    have e : iterF (m_laws_szActS_b0 a) NN (left - (a.length : Int), 0) = some (if left - (a.length : Int) < ((a.map totAct).sum : Nat) then .inr (-1) else .inl (left - (a.length : Int) - ((a.map totAct).sum : Nat))) := by
      refine iter_sz (fun i l x hx h0 h1 => ?_) (fun l => ?_) (by unfold NN; omega) (by omega) (by omega)
      · obtain ⟨hi, rfl⟩ := List.getElem?_eq_some_iff.1 hx
        have hw := w64_nat hi (by omega)
        have hx2 := he _ (List.mem_of_getElem? hx) l h0 h1
        rcases szTo_spec l (totAct a[i]) with ⟨h, e⟩ | ⟨h, e⟩
        · rw [e] at hx2; rw [if_pos h]; simp [m_laws_szActS_b0, getI_nat, hx, hi, hx2]
        · rw [e] at hx2; rw [if_neg (by omega)]; simp [m_laws_szActS_b0, getI_nat, hx, hi, hx2, hw, show ¬ (l - (totAct a[i] : Int) < 0) by omega]
      · simp [m_laws_szActS_b0]
    show (iterF (m_laws_szActS_b0 a) NN (left - (a.length : Int), 0)).bind _ = _
    rw [e]
    have ht : totS totAct a = a.length + (a.map totAct).sum := rfl
    rcases szTo_spec left (totS totAct a) with ⟨h, e⟩ | ⟨h, e⟩
    · rw [e, if_pos (by omega)]; rfl
    · rw [e, if_neg (by omega)]; show some _ = some _; congr 1; omega
theorem eqr_Office (x : YOffice) (h : totOffice x ≤ 1048576) : m_laws_eqOffice x x = some true := by
  have e0 := eqr_World x.world (by unfold totOffice at h; have := totS_len totZone x.zones; have := totS_len totParcel x.parcels; have := totS_len totAct x.journal; omega)
  have e1 := eqr_ZoneS x.zones (by unfold totOffice at h; have := totS_len totZone x.zones; have := totS_len totParcel x.parcels; have := totS_len totAct x.journal; omega) (fun y hy => eqr_Zone y (by unfold totOffice at h; have := totS_mem totZone hy; omega))
  have e2 := eqr_RateS x.rates (by unfold totOffice at h; have := totS_len totZone x.zones; have := totS_len totParcel x.parcels; have := totS_len totAct x.journal; omega) (fun y hy => eqr_Rate y)
  have e3 := eqr_IntS x.percents (by unfold totOffice at h; have := totS_len totZone x.zones; have := totS_len totParcel x.parcels; have := totS_len totAct x.journal; omega)
  have e4 := eqr_ParcelS x.parcels (by unfold totOffice at h; have := totS_len totZone x.zones; have := totS_len totParcel x.parcels; have := totS_len totAct x.journal; omega) (fun y hy => eqr_Parcel y (by unfold totOffice at h; have := totS_mem totParcel hy; omega))
  have e5 := eqr_LineS x.lines (by unfold totOffice at h; have := totS_len totZone x.zones; have := totS_len totParcel x.parcels; have := totS_len totAct x.journal; omega) (fun y hy => eqr_Line y)
  have e6 := eqr_ActS x.journal (by unfold totOffice at h; have := totS_len totZone x.zones; have := totS_len totParcel x.parcels; have := totS_len totAct x.journal; omega) (fun y hy => eqr_Act y (by unfold totOffice at h; have := totS_mem totAct hy; omega))
  simp [m_laws_eqOffice, e0, e1, e2, e3, e4, e5, e6]
theorem cpy_Office (x : YOffice) (h : totOffice x ≤ 1048576) : m_laws_toOffice x = some x := by
  have e0 := cpy_World x.world (by unfold totOffice at h; have := totS_len totZone x.zones; have := totS_len totParcel x.parcels; have := totS_len totAct x.journal; omega)
  have e1 := cpy_ZoneS x.zones (by unfold totOffice at h; have := totS_len totZone x.zones; have := totS_len totParcel x.parcels; have := totS_len totAct x.journal; omega) (fun y hy => cpy_Zone y (by unfold totOffice at h; have := totS_mem totZone hy; omega))
  have e2 := cpy_RateS x.rates (by unfold totOffice at h; have := totS_len totZone x.zones; have := totS_len totParcel x.parcels; have := totS_len totAct x.journal; omega) (fun y hy => cpy_Rate y)
  have e3 := cpy_IntS x.percents (by unfold totOffice at h; have := totS_len totZone x.zones; have := totS_len totParcel x.parcels; have := totS_len totAct x.journal; omega)
  have e4 := cpy_ParcelS x.parcels (by unfold totOffice at h; have := totS_len totZone x.zones; have := totS_len totParcel x.parcels; have := totS_len totAct x.journal; omega) (fun y hy => cpy_Parcel y (by unfold totOffice at h; have := totS_mem totParcel hy; omega))
  have e5 := cpy_LineS x.lines (by unfold totOffice at h; have := totS_len totZone x.zones; have := totS_len totParcel x.parcels; have := totS_len totAct x.journal; omega) (fun y hy => cpy_Line y)
  have e6 := cpy_ActS x.journal (by unfold totOffice at h; have := totS_len totZone x.zones; have := totS_len totParcel x.parcels; have := totS_len totAct x.journal; omega) (fun y hy => cpy_Act y (by unfold totOffice at h; have := totS_mem totAct hy; omega))
  simp [m_laws_toOffice, e0, e1, e2, e3, e4, e5, e6]
theorem sz_Office (x : YOffice) {left : Int} (h0 : 0 ≤ left) (h1 : left ≤ 1048576) (ok : okOffice x) : m_laws_szOffice x left = some (szTo left (totOffice x)) := by
  obtain ⟨k0, k1, k2, k3, k4, k5, k6⟩ := ok
  have ht : totOffice x = totWorld x.world + totS totZone x.zones + x.rates.length + x.percents.length + totS totParcel x.parcels + x.lines.length + totS totAct x.journal := rfl
  unfold m_laws_szOffice
  rw [sz_World x.world (by omega) (by omega) k0]; simp only [Option.bind_some]
  by_cases c0 : szTo left (totWorld x.world) < 0
  · rw [decide_eq_true c0]; show some (-1) = _; rw [ht]; rcases szTo_spec left (totWorld x.world) with ⟨h2, e2⟩ | ⟨h2, e2⟩; rcases szTo_spec left (totWorld x.world + totS totZone x.zones + x.rates.length + x.percents.length + totS totParcel x.parcels + x.lines.length + totS totAct x.journal) with ⟨h, e⟩ | ⟨h, e⟩; · rw [e]
    all_goals omega
  rw [decide_eq_false c0]; simp only [cond_false]
  obtain ⟨d0, e0⟩ := szTo_nn c0 (by omega)
  rw [e0]
  obtain ⟨l1, hl1⟩ : ∃ l : Int, l = left - ((totWorld x.world : Nat) : Int) := ⟨_, rfl⟩
  rw [← hl1]
  rw [sz_ZoneS x.zones (by omega) (by omega) k1.1 (fun y hy l g0 g1 => sz_Zone y g0 g1 (k1.2 y hy))]; simp only [Option.bind_some]
  by_cases c1 : szTo l1 (totS totZone x.zones) < 0
  · rw [decide_eq_true c1]; show some (-1) = _; rw [ht]; rcases szTo_spec l1 (totS totZone x.zones) with ⟨h2, e2⟩ | ⟨h2, e2⟩; rcases szTo_spec left (totWorld x.world + totS totZone x.zones + x.rates.length + x.percents.length + totS totParcel x.parcels + x.lines.length + totS totAct x.journal) with ⟨h, e⟩ | ⟨h, e⟩; · rw [e]
    all_goals omega
  rw [decide_eq_false c1]; simp only [cond_false]
  obtain ⟨d1, e1⟩ := szTo_nn c1 (by omega)
  rw [e1]
  obtain ⟨l2, hl2⟩ : ∃ l : Int, l = l1 - ((totS totZone x.zones : Nat) : Int) := ⟨_, rfl⟩
  rw [← hl2]
  rw [sz_RateS x.rates (by omega) (by omega) k2.1]; simp only [Option.bind_some]
  by_cases c2 : szTo l2 (x.rates.length) < 0
  · rw [decide_eq_true c2]; show some (-1) = _; rw [ht]; rcases szTo_spec l2 (x.rates.length) with ⟨h2, e2⟩ | ⟨h2, e2⟩; rcases szTo_spec left (totWorld x.world + totS totZone x.zones + x.rates.length + x.percents.length + totS totParcel x.parcels + x.lines.length + totS totAct x.journal) with ⟨h, e⟩ | ⟨h, e⟩; · rw [e]
    all_goals omega
  rw [decide_eq_false c2]; simp only [cond_false]
  obtain ⟨d2, e2⟩ := szTo_nn c2 (by omega)
  rw [e2]
  obtain ⟨l3, hl3⟩ : ∃ l : Int, l = l2 - ((x.rates.length : Nat) : Int) := ⟨_, rfl⟩
  rw [← hl3]
  rw [sz_IntS x.percents (by omega) (by omega) k3.1]; simp only [Option.bind_some]
  by_cases c3 : szTo l3 (x.percents.length) < 0
  · rw [decide_eq_true c3]; show some (-1) = _; rw [ht]; rcases szTo_spec l3 (x.percents.length) with ⟨h2, e2⟩ | ⟨h2, e2⟩; rcases szTo_spec left (totWorld x.world + totS totZone x.zones + x.rates.length + x.percents.length + totS totParcel x.parcels + x.lines.length + totS totAct x.journal) with ⟨h, e⟩ | ⟨h, e⟩; · rw [e]
    all_goals omega
  rw [decide_eq_false c3]; simp only [cond_false]
  obtain ⟨d3, e3⟩ := szTo_nn c3 (by omega)
  rw [e3]
  obtain ⟨l4, hl4⟩ : ∃ l : Int, l = l3 - ((x.percents.length : Nat) : Int) := ⟨_, rfl⟩
  rw [← hl4]
  rw [sz_ParcelS x.parcels (by omega) (by omega) k4.1 (fun y hy l g0 g1 => sz_Parcel y g0 g1 (k4.2 y hy))]; simp only [Option.bind_some]
  by_cases c4 : szTo l4 (totS totParcel x.parcels) < 0
  · rw [decide_eq_true c4]; show some (-1) = _; rw [ht]; rcases szTo_spec l4 (totS totParcel x.parcels) with ⟨h2, e2⟩ | ⟨h2, e2⟩; rcases szTo_spec left (totWorld x.world + totS totZone x.zones + x.rates.length + x.percents.length + totS totParcel x.parcels + x.lines.length + totS totAct x.journal) with ⟨h, e⟩ | ⟨h, e⟩; · rw [e]
    all_goals omega
  rw [decide_eq_false c4]; simp only [cond_false]
  obtain ⟨d4, e4⟩ := szTo_nn c4 (by omega)
  rw [e4]
  obtain ⟨l5, hl5⟩ : ∃ l : Int, l = l4 - ((totS totParcel x.parcels : Nat) : Int) := ⟨_, rfl⟩
  rw [← hl5]
  rw [sz_LineS x.lines (by omega) (by omega) k5.1]; simp only [Option.bind_some]
  by_cases c5 : szTo l5 (x.lines.length) < 0
  · rw [decide_eq_true c5]; show some (-1) = _; rw [ht]; rcases szTo_spec l5 (x.lines.length) with ⟨h2, e2⟩ | ⟨h2, e2⟩; rcases szTo_spec left (totWorld x.world + totS totZone x.zones + x.rates.length + x.percents.length + totS totParcel x.parcels + x.lines.length + totS totAct x.journal) with ⟨h, e⟩ | ⟨h, e⟩; · rw [e]
    all_goals omega
  rw [decide_eq_false c5]; simp only [cond_false]
  obtain ⟨d5, e5⟩ := szTo_nn c5 (by omega)
  rw [e5]
  obtain ⟨l6, hl6⟩ : ∃ l : Int, l = l5 - ((x.lines.length : Nat) : Int) := ⟨_, rfl⟩
  rw [← hl6]
  rw [sz_ActS x.journal (by omega) (by omega) k6.1 (fun y hy l g0 g1 => sz_Act y g0 g1 (k6.2 y hy))]; simp only [Option.bind_some]
  by_cases c6 : szTo l6 (totS totAct x.journal) < 0
  · rw [decide_eq_true c6]; show some (-1) = _; rw [ht]; rcases szTo_spec l6 (totS totAct x.journal) with ⟨h2, e2⟩ | ⟨h2, e2⟩; rcases szTo_spec left (totWorld x.world + totS totZone x.zones + x.rates.length + x.percents.length + totS totParcel x.parcels + x.lines.length + totS totAct x.journal) with ⟨h, e⟩ | ⟨h, e⟩; · rw [e]
    all_goals omega
  rw [decide_eq_false c6]; simp only [cond_false]
  obtain ⟨d6, e6⟩ := szTo_nn c6 (by omega)
  rw [e6]
  obtain ⟨l7, hl7⟩ : ∃ l : Int, l = l6 - ((totS totAct x.journal : Nat) : Int) := ⟨_, rfl⟩
  rw [← hl7]
  rw [ht]; rcases szTo_spec left (totWorld x.world + totS totZone x.zones + x.rates.length + x.percents.length + totS totParcel x.parcels + x.lines.length + totS totAct x.journal) with ⟨h, e⟩ | ⟨h, e⟩
  · omega
  · rw [e]; (first | (congr 1; omega) | congr 1)
end Go.Proofs.YtjkpcfbmmkmoaaaGreat

/- What fits into a law's measure is small. -/
namespace Go.Proofs.YtjkpcfbmmkmoaaaGreat
set_option maxRecDepth 10000
open Go.RowKit
set_option linter.unusedVariables false
set_option linter.unusedSimpArgs false
theorem netFit_of {n : YNetwork} (h : totNetwork n ≤ 1048576) : NetFit n := by
  unfold totNetwork at h
  refine ⟨by have := totS_len totLeg n.legs; omega, by omega, fun l hl => ?_⟩
  have h2 : totLeg l = l.from_.size + l.to_.size := rfl
  have := totS_mem totLeg hl
  unfold legFit B60
  omega
theorem wFit_of {w : YWorld} (h : totWorld w ≤ 1048576) : WFit w := by
  unfold totWorld at h
  have h1 := totS_len totOrder w.orders
  have h2 := totS_len totScan w.scans
  refine ⟨netFit_of (by omega), by omega, by omega, by omega, by omega, by omega, fun o ho => ?_⟩
  have h3 : totOrder o = o.from_.size + o.to_.size + o.way.length + o.place.size := rfl
  have := totS_mem totOrder ho
  omega
end Go.Proofs.YtjkpcfbmmkmoaaaGreat

/- The mirror of impl_IsOffice, and that the code does just that (printed by a program of my own). -/
namespace Go.Proofs.YtjkpcfbmmkmoaaaGreat
set_option maxRecDepth 10000
open Go.RowKit
set_option linter.unusedVariables false
set_option maxHeartbeats 16000000
def m_impl_IsOffice_b0 (o : YOffice) (s0 : Int) : Option (Int ⊕ (Unit ⊕ Bool)) :=
 cond (decide (s0 < (o.parcels.length : Int)))
 ((getI o.parcels s0).bind fun y6 =>
 (getI o.world.orders s0).bind fun y7 =>
 (m_impl_PriceOf o.zones o.rates y6).bind fun y8 =>
 cond (!y8.2)
 (some (.inr (.inr false)))
 (cond (!decide (y7.from_ = y6.from_))
 (some (.inr (.inr false)))
 (cond (!decide (y7.to_ = y6.label.to_))
 (some (.inr (.inr false)))
 (cond (!decide (y7.service = y6.label.service))
 (some (.inr (.inr false)))
 (cond (!decide (y7.weight = y6.weight))
 (some (.inr (.inr false)))
 ((m_impl_SumOf o.lines (w64 (s0 + 1)) 1).bind fun y9 =>
 cond (!decide (y9 = y8.1))
 (some (.inr (.inr false)))
 (some (.inl (w64 (s0 + 1))))))))))
 (some (.inr (.inl ())))
instance (o : YOffice) : LoopE (m_impl_IsOffice_b0 o) := ⟨fun s0 => (.un :: .be 0 0 0 :: .un :: .be 1 0 0 :: .un :: .un :: .un :: .un :: .un :: .un :: .un :: .un :: .un :: .un :: .un :: .un :: .un :: .un :: .un :: .un :: .un :: .un :: .un :: .un :: .un :: .un :: .un :: .un :: .un :: .un :: .un :: .un :: .un :: .un :: .un :: .un :: .un :: .un :: .un :: .un :: .un :: .un :: .un :: .un :: .un :: .un :: .un :: .un :: .un :: .un :: .un :: .un :: .un :: .un :: .un :: .un :: .un :: .un :: .un :: .un :: .un :: .sl (o.parcels.map cParcel) :: vi (o.parcels.length : Int) :: vi s0 :: .un :: .un :: .un :: .un :: .un :: .un :: .un :: .un :: .un :: .un :: .un :: .un :: .un :: .un :: .un :: .un :: .un :: .un :: .un :: .un :: .un :: .un :: .un :: .un :: .un :: .un :: .un :: .un :: .un :: .un :: .un :: .un :: .un :: .un :: .un :: .un :: .un :: .un :: .un :: .un :: .un :: .un :: .un :: .un :: .un :: .un :: .un :: .un :: .un :: .un :: .un :: .un :: .un :: .un :: .un :: .un :: .un :: .un :: .un :: .un :: .un :: .un :: .un :: .un :: .un :: .un :: .un :: .un :: .un :: .un :: .un :: .un :: .un :: .un :: .un :: .un :: .un :: .un :: .un :: .un :: .un :: .un :: .un :: .un :: .un :: .un :: .un :: .un :: .un :: .un :: .un :: .un :: []), fun s0 => [some ⟨56, 16, [[.sl (o.world.network.legs.map cLeg), .sl (o.world.network.off.map cInt), vi o.world.network.change, .sl (o.world.orders.map cOrder), .sl (o.world.bookings.map cBooking), .sl (o.world.closed.map cTrip), vi o.world.now, .sl (o.world.scans.map cScan), .sl (o.world.skip.map cInt), vi o.world.made, .sl (o.zones.map cZone), .sl (o.rates.map cRate), .sl (o.percents.map cInt), .sl (o.parcels.map cParcel), .sl (o.lines.map cLine), .sl (o.journal.map cAct)]]⟩, some ⟨49, 10, [[.sl (o.world.network.legs.map cLeg), .sl (o.world.network.off.map cInt), vi o.world.network.change, .sl (o.world.orders.map cOrder), .sl (o.world.bookings.map cBooking), .sl (o.world.closed.map cTrip), vi o.world.now, .sl (o.world.scans.map cScan), .sl (o.world.skip.map cInt), vi o.world.made]]⟩]⟩
def m_impl_IsOffice_b1 (o : YOffice) (s1 : Int) : Option (Int ⊕ (Unit ⊕ Bool)) :=
 cond (decide (s1 < (o.lines.length : Int)))
 ((getI o.lines s1).bind fun y10 =>
 cond (decide ((o.world.orders.length : Int) < y10.order))
 (some (.inr (.inr false)))
 (cond (decide (o.world.now < y10.at_))
 (some (.inr (.inr false)))
 (some (.inl (w64 (s1 + 1))))))
 (some (.inr (.inl ())))
instance (o : YOffice) : LoopE (m_impl_IsOffice_b1 o) := ⟨fun s1 => (.un :: .be 0 0 0 :: .un :: .be 1 0 0 :: .un :: .un :: .un :: .un :: .un :: .un :: .un :: .un :: .un :: .un :: .un :: .un :: .un :: .un :: .un :: .un :: .un :: .un :: .un :: .un :: .un :: .un :: .un :: .un :: .un :: .un :: .un :: .un :: .un :: .un :: .un :: .un :: .un :: .un :: .un :: .un :: .un :: .un :: .un :: .un :: .un :: .un :: .un :: .un :: .un :: .un :: .un :: .un :: .un :: .un :: .un :: .un :: .un :: .un :: .un :: .un :: .un :: .un :: .un :: .un :: .un :: .un :: .un :: .un :: .un :: .un :: .un :: .un :: .un :: .un :: .un :: .un :: .un :: .un :: .un :: .un :: .un :: .un :: .un :: .un :: .un :: .un :: .un :: .un :: .un :: .un :: .un :: .un :: .un :: .un :: .un :: .un :: .un :: .un :: .un :: .un :: .un :: .un :: .un :: .un :: .un :: .un :: .un :: .un :: .un :: .un :: .un :: .un :: .un :: .un :: .un :: .un :: .un :: .un :: .un :: .un :: .un :: .un :: .un :: .un :: .un :: .sl (o.lines.map cLine) :: vi (o.lines.length : Int) :: vi s1 :: .un :: .un :: .un :: .un :: .un :: .un :: .un :: .un :: .un :: .un :: .un :: .un :: .un :: .un :: .un :: .un :: .un :: .un :: .un :: .un :: .un :: .un :: .un :: .un :: .un :: .un :: .un :: .un :: []), fun s1 => [some ⟨56, 16, [[.sl (o.world.network.legs.map cLeg), .sl (o.world.network.off.map cInt), vi o.world.network.change, .sl (o.world.orders.map cOrder), .sl (o.world.bookings.map cBooking), .sl (o.world.closed.map cTrip), vi o.world.now, .sl (o.world.scans.map cScan), .sl (o.world.skip.map cInt), vi o.world.made, .sl (o.zones.map cZone), .sl (o.rates.map cRate), .sl (o.percents.map cInt), .sl (o.parcels.map cParcel), .sl (o.lines.map cLine), .sl (o.journal.map cAct)]]⟩, some ⟨49, 10, [[.sl (o.world.network.legs.map cLeg), .sl (o.world.network.off.map cInt), vi o.world.network.change, .sl (o.world.orders.map cOrder), .sl (o.world.bookings.map cBooking), .sl (o.world.closed.map cTrip), vi o.world.now, .sl (o.world.scans.map cScan), .sl (o.world.skip.map cInt), vi o.world.made]]⟩]⟩
def m_impl_IsOffice_b2 (o : YOffice) (s2 : Int) : Option (Int ⊕ (Unit ⊕ Bool)) :=
 cond (decide (s2 < (o.journal.length : Int)))
 ((getI o.journal s2).bind fun y11 =>
 (m_impl_IsAct y11).bind fun y12 =>
 cond (!y12)
 (some (.inr (.inr false)))
 (some (.inl (w64 (s2 + 1)))))
 (some (.inr (.inl ())))
instance (o : YOffice) : LoopE (m_impl_IsOffice_b2 o) := ⟨fun s2 => (.un :: .un :: .un :: .un :: .un :: .un :: .un :: .un :: .un :: .un :: .un :: .un :: .un :: .un :: .un :: .un :: .un :: .un :: .un :: .un :: .un :: .un :: .un :: .un :: .un :: .un :: .un :: .un :: .un :: .un :: .un :: .un :: .un :: .un :: .un :: .un :: .un :: .un :: .un :: .un :: .un :: .un :: .un :: .un :: .un :: .un :: .un :: .un :: .un :: .un :: .un :: .un :: .un :: .un :: .un :: .un :: .un :: .un :: .un :: .un :: .un :: .un :: .un :: .un :: .un :: .un :: .un :: .un :: .un :: .un :: .un :: .un :: .un :: .un :: .un :: .un :: .un :: .un :: .un :: .un :: .un :: .un :: .un :: .un :: .un :: .un :: .un :: .un :: .un :: .un :: .un :: .un :: .un :: .un :: .un :: .un :: .un :: .un :: .un :: .un :: .un :: .un :: .un :: .un :: .un :: .un :: .un :: .un :: .un :: .un :: .un :: .un :: .un :: .un :: .un :: .un :: .un :: .un :: .un :: .un :: .un :: .un :: .un :: .un :: .un :: .un :: .un :: .un :: .un :: .un :: .un :: .un :: .un :: .un :: .un :: .un :: .un :: .un :: .un :: .un :: .un :: .un :: .un :: .un :: .un :: .un :: .sl (o.journal.map cAct) :: vi (o.journal.length : Int) :: vi s2 :: .un :: .un :: .un :: .un :: .un :: .un :: .un :: []), fun s2 => []⟩
def m_impl_IsOffice (o : YOffice) : Option Bool :=
 (m_impl_IsWorld o.world).bind fun y1 =>
 cond (!y1)
 (some false)
 ((m_impl_AreZones o.zones).bind fun y2 =>
 cond (!y2)
 (some false)
 ((m_impl_AreRates o.rates (o.zones.length : Int)).bind fun y3 =>
 cond (!y3)
 (some false)
 ((m_impl_ArePercents o.percents).bind fun y4 =>
 cond (!y4)
 (some false)
 ((m_impl_AreLines o.lines).bind fun y5 =>
 cond (!y5)
 (some false)
 (cond (!decide ((o.parcels.length : Int) = (o.world.orders.length : Int)))
 (some false)
 (cond (decide (150 < (o.journal.length : Int)))
 (some false)
 ((iterF (m_impl_IsOffice_b0 o) NN 0).bind (selim (fun o0 =>
 (iterF (m_impl_IsOffice_b1 o) NN 0).bind (selim (fun o1 =>
 (iterF (m_impl_IsOffice_b2 o) NN 0).bind (selim (fun o2 =>
 some true) (fun r => some r))) (fun r => some r))) (fun r => some r)))))))))
theorem ok_impl_IsOffice (o : YOffice) {r : Bool} (H : m_impl_IsOffice o = some r) : CallM Tryz.prog 9 [.ag (cOffice o)] [] (vb r) [] := by
  replace H := H0 H
  unfold m_impl_IsOffice at H
  refine callM_of Tryz.func9 rfl Tryz.ntmps9 Tryz.results9 fun Q hQ hQn => ?_
  exact wk2
instance (o : YOffice) : CT Tryz.prog (m_impl_IsOffice o) := ⟨9, [.ag (cOffice o)], [], fun r => vb r, fun r => [], ok_impl_IsOffice o⟩
end Go.Proofs.YtjkpcfbmmkmoaaaGreat

/- The mirror of spec_l12Charged, and that the code does just that (printed by a program of my own). -/
namespace Go.Proofs.YtjkpcfbmmkmoaaaGreat
set_option maxRecDepth 10000
open Go.RowKit
set_option linter.unusedVariables false
set_option maxHeartbeats 16000000
def m_spec_l12Charged (o : YOffice) (i : Int) : Option Bool :=
 (getI o.parcels i).bind fun y1 =>
 (getI o.world.orders i).bind fun y2 =>
 (m_spec_PriceOf o.zones o.rates y1).bind fun y3 =>
 cond y3.2
 (cond (decide (y2.from_ = y1.from_))
 (cond (decide (y2.to_ = y1.label.to_))
 (cond (decide (y2.service = y1.label.service))
 (cond (decide (y2.weight = y1.weight))
 ((m_spec_SumOf o.lines (w64 (i + 1)) 1).bind fun y4 =>
 some (decide (y4 = y3.1)))
 (some false))
 (some false))
 (some false))
 (some false))
 (some false)
theorem ok_spec_l12Charged (o : YOffice) (i : Int) {r : Bool} (H : m_spec_l12Charged o i = some r) : CallM Tryz.prog 46 [.ag (cOffice o), vi i] [] (vb r) [] := by
  replace H := H0 H
  unfold m_spec_l12Charged at H
  refine callM_of Tryz.func46 rfl Tryz.ntmps46 Tryz.results46 fun Q hQ hQn => ?_
  exact wk2
instance (o : YOffice) (i : Int) : CT Tryz.prog (m_spec_l12Charged o i) := ⟨46, [.ag (cOffice o), vi i], [], fun r => vb r, fun r => [], ok_spec_l12Charged o i⟩
end Go.Proofs.YtjkpcfbmmkmoaaaGreat

/- The mirror of spec_IsOffice, and that the code does just that (printed by a program of my own). -/
namespace Go.Proofs.YtjkpcfbmmkmoaaaGreat
set_option maxRecDepth 10000
open Go.RowKit
set_option linter.unusedVariables false
set_option maxHeartbeats 16000000
def m_spec_IsOffice_b0 (o : YOffice) (s0 : Int) : Option (Int ⊕ (Unit ⊕ Bool)) :=
 cond (decide (s0 < (o.parcels.length : Int)))
 ((m_spec_l12Charged o s0).bind fun y6 =>
 cond (!y6)
 (some (.inr (.inr false)))
 (some (.inl (w64 (s0 + 1)))))
 (some (.inr (.inl ())))
instance (o : YOffice) : LoopE (m_spec_IsOffice_b0 o) := ⟨fun s0 => (.un :: .be 0 0 0 :: .un :: vi s0 :: .un :: .un :: .un :: .un :: .un :: .un :: .un :: .un :: .un :: .un :: .un :: .un :: .un :: .un :: .un :: .un :: .un :: .un :: .un :: .un :: .un :: .un :: .un :: .un :: .un :: .un :: .un :: .un :: .un :: .un :: .un :: .un :: .un :: .un :: .un :: .un :: .un :: .un :: .un :: .un :: .un :: .un :: .un :: .un :: .un :: .un :: .un :: .un :: .un :: .un :: .un :: .un :: .un :: .un :: .un :: .un :: .un :: .un :: .un :: .un :: .un :: .un :: .un :: .un :: .un :: .un :: .un :: .un :: .un :: .un :: .un :: .un :: .un :: .un :: .un :: .un :: .un :: .un :: .un :: .un :: .un :: .un :: .un :: .un :: .un :: .un :: .un :: .un :: .un :: .un :: .un :: .un :: .un :: .un :: .un :: .un :: .un :: .un :: .un :: .un :: .un :: .un :: .un :: []), fun s0 => [some ⟨56, 16, [[.sl (o.world.network.legs.map cLeg), .sl (o.world.network.off.map cInt), vi o.world.network.change, .sl (o.world.orders.map cOrder), .sl (o.world.bookings.map cBooking), .sl (o.world.closed.map cTrip), vi o.world.now, .sl (o.world.scans.map cScan), .sl (o.world.skip.map cInt), vi o.world.made, .sl (o.zones.map cZone), .sl (o.rates.map cRate), .sl (o.percents.map cInt), .sl (o.parcels.map cParcel), .sl (o.lines.map cLine), .sl (o.journal.map cAct)]]⟩]⟩
def m_spec_IsOffice_b1 (o : YOffice) (s1 : Int) : Option (Int ⊕ (Unit ⊕ Bool)) :=
 cond (decide (s1 < (o.lines.length : Int)))
 ((getI o.lines s1).bind fun y7 =>
 cond (decide ((o.parcels.length : Int) < y7.order))
 (some (.inr (.inr false)))
 ((getI o.lines s1).bind fun y8 =>
 cond (decide (o.world.now < y8.at_))
 (some (.inr (.inr false)))
 (some (.inl (w64 (s1 + 1))))))
 (some (.inr (.inl ())))
instance (o : YOffice) : LoopE (m_spec_IsOffice_b1 o) := ⟨fun s1 => (.un :: .be 0 0 0 :: .un :: .un :: vi s1 :: .un :: .un :: .un :: .un :: .un :: .un :: .un :: .un :: .un :: .un :: .un :: .un :: .un :: .un :: .un :: .un :: .un :: .un :: .un :: .un :: .un :: .un :: .un :: .un :: .un :: .un :: .un :: .un :: .un :: .un :: .un :: .un :: .un :: .un :: .un :: .un :: .un :: .un :: .un :: .un :: .un :: .un :: .un :: .un :: .un :: .un :: .un :: .un :: .un :: .un :: .un :: .un :: .un :: .un :: .un :: .un :: .un :: .un :: .un :: .un :: .un :: .un :: .un :: .un :: .un :: .un :: .un :: .un :: .un :: .un :: .un :: .un :: .un :: .un :: .un :: .un :: .un :: .un :: .un :: .un :: .un :: .un :: .un :: .un :: .un :: .un :: .un :: .un :: .un :: .un :: .un :: .un :: .un :: .un :: .un :: .un :: .un :: .un :: .un :: .un :: .un :: .un :: []), fun s1 => [some ⟨56, 16, [[.sl (o.world.network.legs.map cLeg), .sl (o.world.network.off.map cInt), vi o.world.network.change, .sl (o.world.orders.map cOrder), .sl (o.world.bookings.map cBooking), .sl (o.world.closed.map cTrip), vi o.world.now, .sl (o.world.scans.map cScan), .sl (o.world.skip.map cInt), vi o.world.made, .sl (o.zones.map cZone), .sl (o.rates.map cRate), .sl (o.percents.map cInt), .sl (o.parcels.map cParcel), .sl (o.lines.map cLine), .sl (o.journal.map cAct)]]⟩]⟩
def m_spec_IsOffice_b2 (o : YOffice) (s2 : Int) : Option (Int ⊕ (Unit ⊕ Bool)) :=
 cond (decide (s2 < (o.journal.length : Int)))
 ((getI o.journal s2).bind fun y9 =>
 (m_spec_IsAct y9).bind fun y10 =>
 cond (!y10)
 (some (.inr (.inr false)))
 (some (.inl (w64 (s2 + 1)))))
 (some (.inr (.inl ())))
instance (o : YOffice) : LoopE (m_spec_IsOffice_b2 o) := ⟨fun s2 => (.un :: .be 0 0 0 :: .un :: .un :: .un :: vi s2 :: .un :: .un :: .un :: .un :: .un :: .un :: .un :: .un :: .un :: .un :: .un :: .un :: .un :: .un :: .un :: .un :: .un :: .un :: .un :: .un :: .un :: .un :: .un :: .un :: .un :: .un :: .un :: .un :: .un :: .un :: .un :: .un :: .un :: .un :: .un :: .un :: .un :: .un :: .un :: .un :: .un :: .un :: .un :: .un :: .un :: .un :: .un :: .un :: .un :: .un :: .un :: .un :: .un :: .un :: .un :: .un :: .un :: .un :: .un :: .un :: .un :: .un :: .un :: .un :: .un :: .un :: .un :: .un :: .un :: .un :: .un :: .un :: .un :: .un :: .un :: .un :: .un :: .un :: .un :: .un :: .un :: .un :: .un :: .un :: .un :: .un :: .un :: .un :: .un :: .un :: .un :: .un :: .un :: .un :: .un :: .un :: .un :: .un :: .un :: .un :: .un :: []), fun s2 => [some ⟨56, 16, [[.sl (o.world.network.legs.map cLeg), .sl (o.world.network.off.map cInt), vi o.world.network.change, .sl (o.world.orders.map cOrder), .sl (o.world.bookings.map cBooking), .sl (o.world.closed.map cTrip), vi o.world.now, .sl (o.world.scans.map cScan), .sl (o.world.skip.map cInt), vi o.world.made, .sl (o.zones.map cZone), .sl (o.rates.map cRate), .sl (o.percents.map cInt), .sl (o.parcels.map cParcel), .sl (o.lines.map cLine), .sl (o.journal.map cAct)]]⟩]⟩
def m_spec_IsOffice (o : YOffice) : Option Bool :=
 (m_spec_IsWorld o.world).bind fun y1 =>
 cond (!y1)
 (some false)
 ((m_spec_AreZones o.zones).bind fun y2 =>
 cond (!y2)
 (some false)
 ((m_spec_AreRates o.rates (o.zones.length : Int)).bind fun y3 =>
 cond (!y3)
 (some false)
 ((m_spec_ArePercents o.percents).bind fun y4 =>
 cond (!y4)
 (some false)
 ((m_spec_AreLines o.lines).bind fun y5 =>
 cond (!y5)
 (some false)
 (cond (!decide ((o.parcels.length : Int) = (o.world.orders.length : Int)))
 (some false)
 (cond (decide (150 < (o.journal.length : Int)))
 (some false)
 ((iterF (m_spec_IsOffice_b0 o) NN 0).bind (selim (fun o0 =>
 (iterF (m_spec_IsOffice_b1 o) NN 0).bind (selim (fun o1 =>
 (iterF (m_spec_IsOffice_b2 o) NN 0).bind (selim (fun o2 =>
 some true) (fun r => some r))) (fun r => some r))) (fun r => some r)))))))))
theorem ok_spec_IsOffice (o : YOffice) {r : Bool} (H : m_spec_IsOffice o = some r) : CallM Tryz.prog 7 [.ag (cOffice o)] [] (vb r) [] := by
  replace H := H0 H
  unfold m_spec_IsOffice at H
  refine callM_of Tryz.func7 rfl Tryz.ntmps7 Tryz.results7 fun Q hQ hQn => ?_
  exact wk2
instance (o : YOffice) : CT Tryz.prog (m_spec_IsOffice o) := ⟨7, [.ag (cOffice o)], [], fun r => vb r, fun r => [], ok_spec_IsOffice o⟩
end Go.Proofs.YtjkpcfbmmkmoaaaGreat

/- Offices: the two sides answer alike. -/
namespace Go.Proofs.YtjkpcfbmmkmoaaaGreat
set_option maxRecDepth 10000
open Go.RowKit
set_option linter.unusedVariables false
set_option linter.unusedSimpArgs false
set_option maxHeartbeats 1000000
structure OFit (o : YOffice) : Prop where
  world : WFit o.world
  zones : zonesFit o.zones
  rates : o.rates.length ≤ 1048576
  pcts : o.percents.length ≤ 2000000
  lines : o.lines.length ≤ 1048576
  parcels : o.parcels.length ≤ 1048576
  journal : o.journal.length ≤ 1048576
  pfit : ∀ p ∈ o.parcels, p.label.to_.size ≤ B60 ∧ p.from_.size ≤ B60 ∧ p.sides.length < NN
  afit : ∀ a ∈ o.journal, a.parcel.label.to_.size ≤ B60 ∧ a.parcel.from_.size ≤ B60 ∧ a.parcel.sides.length < NN
def chargedX (o : YOffice) (i : Nat) (p : YParcel) (v : Int × Bool) (x : Option YOrder) : Bool := match x with
  | some x => v.2 && (decide (x.from_ = p.from_) && (decide (x.to_ = p.label.to_) && (decide (x.service = p.label.service) && (decide (x.weight = p.weight) && decide (sumLn (o.lines.map lnOf) (((i + 1 : Nat) : Int)) 1 = v.1)))))
  | none => false
theorem chargedX_s (o : YOffice) (i : Nat) (p : YParcel) (v : Int × Bool) (x : YOrder) : chargedX o i p v (some x) = (v.2 && (decide (x.from_ = p.from_) && (decide (x.to_ = p.label.to_) && (decide (x.service = p.label.service) && (decide (x.weight = p.weight) && decide (sumLn (o.lines.map lnOf) (((i + 1 : Nat) : Int)) 1 = v.1)))))) := rfl
def chargedC (o : YOffice) (i : Nat) (p : YParcel) : Bool := chargedX o i p ((m_spec_PriceOf o.zones o.rates p).getD (0, false)) o.world.orders[i]?
def lineC (o : YOffice) (_ : Nat) (x : YLine) : Bool := !decide ((o.parcels.length : Int) < x.order) && !decide (o.world.now < x.at_)
def actC (_ : Nat) (a : YAct) : Bool := (m_spec_IsAct a).getD false
def officeV (o : YOffice) : Bool :=
  worldV o.world && (zonesV o.zones && (ratesV o.rates (o.zones.length : Int) && (pctsB o.percents && (linesB (o.lines.map lnOf) && (decide ((o.parcels.length : Int) = (o.world.orders.length : Int)) && (!decide (150 < (o.journal.length : Int)) && (allI (chargedC o) 0 o.parcels && (allI (lineC o) 0 o.lines && allI actC 0 o.journal))))))))
section
variable {o : YOffice} (hf : OFit o)
include hf
theorem office_b0_s (hl : o.parcels.length = o.world.orders.length) : iterF (m_spec_IsOffice_b0 o) NN 0 = some (if allI (chargedC o) 0 o.parcels = true then .inl () else .inr false) := by
  refine iter_fold (A := Unit) (fun _ i => i) _ (fun a _ => a) (fun _ => ()) (fun a i p hp => ?_) (fun a => ?_) (by have := hf.parcels; unfold NN; omega) ()
  · have hlt := (List.getElem?_eq_some_iff.1 hp).1
    have hpl := hf.parcels
    have hg : getI o.parcels (i : Int) = some p := by rw [getI_nat]; exact hp
    obtain ⟨x, hx⟩ : ∃ x, o.world.orders[i]? = some x := ⟨_, List.getElem?_eq_getElem (by omega)⟩
    have hgx : getI o.world.orders (i : Int) = some x := by rw [getI_nat]; exact hx
    have hi : w64 ((i : Int) + 1) = ((i + 1 : Nat) : Int) := w64_nat hlt (by omega)
    obtain ⟨p1, p2, p3⟩ := hf.pfit p (List.mem_of_getElem? hp)
    obtain ⟨_, v, hv⟩ := price_eq hf.zones hf.rates p1 p2 p3
    have hsum : m_spec_SumOf o.lines ((i + 1 : Nat) : Int) 1 = some (sumLn (o.lines.map lnOf) (((i + 1 : Nat) : Int)) 1) := if_pos (by have := hf.lines; omega)
    unfold m_spec_IsOffice_b0 m_spec_l12Charged chargedC
    simp only [jn_eq, decide_eq_true (show (i : Int) < o.parcels.length by omega), cond_true, hg, hgx, hx, Option.bind_some, hi, hv, hsum, Option.getD_some, chargedX_s]
    cases v.2 <;> cases decide (x.from_ = p.from_) <;> cases decide (x.to_ = p.label.to_) <;> cases decide (x.service = p.label.service) <;> cases decide (x.weight = p.weight) <;> cases decide (sumLn (o.lines.map lnOf) (((i + 1 : Nat) : Int)) 1 = v.1) <;> rfl
  · unfold m_spec_IsOffice_b0
    simp
theorem office_b0_i (hl : o.parcels.length = o.world.orders.length) : iterF (m_impl_IsOffice_b0 o) NN 0 = some (if allI (chargedC o) 0 o.parcels = true then .inl () else .inr false) := by
  refine iter_fold (A := Unit) (fun _ i => i) _ (fun a _ => a) (fun _ => ()) (fun a i p hp => ?_) (fun a => ?_) (by have := hf.parcels; unfold NN; omega) ()
  · have hlt := (List.getElem?_eq_some_iff.1 hp).1
    have hpl := hf.parcels
    have hg : getI o.parcels (i : Int) = some p := by rw [getI_nat]; exact hp
    obtain ⟨x, hx⟩ : ∃ x, o.world.orders[i]? = some x := ⟨_, List.getElem?_eq_getElem (by omega)⟩
    have hgx : getI o.world.orders (i : Int) = some x := by rw [getI_nat]; exact hx
    have hi : w64 ((i : Int) + 1) = ((i + 1 : Nat) : Int) := w64_nat hlt (by omega)
    obtain ⟨p1, p2, p3⟩ := hf.pfit p (List.mem_of_getElem? hp)
    obtain ⟨e, v, hv⟩ := price_eq hf.zones hf.rates p1 p2 p3
    have hsum : m_impl_SumOf o.lines ((i + 1 : Nat) : Int) 1 = some (sumLn (o.lines.map lnOf) (((i + 1 : Nat) : Int)) 1) := if_pos (by have := hf.lines; omega)
    unfold m_impl_IsOffice_b0 chargedC
    simp only [jn_eq, decide_eq_true (show (i : Int) < o.parcels.length by omega), cond_true, hg, hgx, hx, Option.bind_some, hi, e, hv, hsum, Option.getD_some, chargedX_s]
    cases v.2 <;> cases decide (x.from_ = p.from_) <;> cases decide (x.to_ = p.label.to_) <;> cases decide (x.service = p.label.service) <;> cases decide (x.weight = p.weight) <;> cases decide (sumLn (o.lines.map lnOf) (((i + 1 : Nat) : Int)) 1 = v.1) <;> rfl
  · unfold m_impl_IsOffice_b0
    simp
theorem office_b1_s : iterF (m_spec_IsOffice_b1 o) NN 0 = some (if allI (lineC o) 0 o.lines = true then .inl () else .inr false) := by
  refine iter_fold (A := Unit) (fun _ i => i) _ (fun a _ => a) (fun _ => ()) (fun a i p hp => ?_) (fun a => ?_) (by have := hf.lines; unfold NN; omega) ()
  · have hlt := (List.getElem?_eq_some_iff.1 hp).1
    have hpl := hf.lines
    have hg : getI o.lines (i : Int) = some p := by rw [getI_nat]; exact hp
    have hi : w64 ((i : Int) + 1) = ((i + 1 : Nat) : Int) := w64_nat hlt (by omega)
    unfold m_spec_IsOffice_b1 lineC
    simp only [jn_eq, decide_eq_true (show (i : Int) < o.lines.length by omega), cond_true, hg, Option.bind_some, hi]
    cases decide ((o.parcels.length : Int) < p.order) <;> cases decide (o.world.now < p.at_) <;> rfl
  · unfold m_spec_IsOffice_b1
    simp
theorem office_b1_i (hl : o.parcels.length = o.world.orders.length) : iterF (m_impl_IsOffice_b1 o) NN 0 = some (if allI (lineC o) 0 o.lines = true then .inl () else .inr false) := by
  refine iter_fold (A := Unit) (fun _ i => i) _ (fun a _ => a) (fun _ => ()) (fun a i p hp => ?_) (fun a => ?_) (by have := hf.lines; unfold NN; omega) ()
  · have hlt := (List.getElem?_eq_some_iff.1 hp).1
    have hpl := hf.lines
    have hg : getI o.lines (i : Int) = some p := by rw [getI_nat]; exact hp
    have hi : w64 ((i : Int) + 1) = ((i + 1 : Nat) : Int) := w64_nat hlt (by omega)
    unfold m_impl_IsOffice_b1 lineC
    rw [hl]
    simp only [jn_eq, decide_eq_true (show (i : Int) < o.lines.length by omega), cond_true, hg, Option.bind_some, hi]
    cases decide ((o.world.orders.length : Int) < p.order) <;> cases decide (o.world.now < p.at_) <;> rfl
  · unfold m_impl_IsOffice_b1
    simp
theorem office_b2_s : iterF (m_spec_IsOffice_b2 o) NN 0 = some (if allI actC 0 o.journal = true then .inl () else .inr false) := by
  refine iter_fold (A := Unit) (fun _ i => i) _ (fun a _ => a) (fun _ => ()) (fun a i p hp => ?_) (fun a => ?_) (by have := hf.journal; unfold NN; omega) ()
  · have hlt := (List.getElem?_eq_some_iff.1 hp).1
    have hpl := hf.journal
    have hg : getI o.journal (i : Int) = some p := by rw [getI_nat]; exact hp
    have hi : w64 ((i : Int) + 1) = ((i + 1 : Nat) : Int) := w64_nat hlt (by omega)
    obtain ⟨p1, p2, p3⟩ := hf.afit p (List.mem_of_getElem? hp)
    obtain ⟨b, _, hb⟩ := act_eq p1 p2 p3
    unfold m_spec_IsOffice_b2 actC
    simp only [jn_eq, decide_eq_true (show (i : Int) < o.journal.length by omega), cond_true, hg, Option.bind_some, hi, hb, Option.getD_some]
    cases b <;> rfl
  · unfold m_spec_IsOffice_b2
    simp
theorem office_b2_i : iterF (m_impl_IsOffice_b2 o) NN 0 = some (if allI actC 0 o.journal = true then .inl () else .inr false) := by
  refine iter_fold (A := Unit) (fun _ i => i) _ (fun a _ => a) (fun _ => ()) (fun a i p hp => ?_) (fun a => ?_) (by have := hf.journal; unfold NN; omega) ()
  · have hlt := (List.getElem?_eq_some_iff.1 hp).1
    have hpl := hf.journal
    have hg : getI o.journal (i : Int) = some p := by rw [getI_nat]; exact hp
    have hi : w64 ((i : Int) + 1) = ((i + 1 : Nat) : Int) := w64_nat hlt (by omega)
    obtain ⟨p1, p2, p3⟩ := hf.afit p (List.mem_of_getElem? hp)
    obtain ⟨b, hb1, hb⟩ := act_eq p1 p2 p3
    unfold m_impl_IsOffice_b2 actC
    simp only [jn_eq, decide_eq_true (show (i : Int) < o.journal.length by omega), cond_true, hg, Option.bind_some, hi, hb1, hb, Option.getD_some]
    cases b <;> rfl
  · unfold m_impl_IsOffice_b2
    simp
theorem spec_office : m_spec_IsOffice o = some (officeV o) := by
  have hp : m_spec_ArePercents o.percents = some (pctsB o.percents) := if_pos hf.pcts
  have hl : m_spec_AreLines o.lines = some (linesB (o.lines.map lnOf)) := if_pos (by have := hf.lines; omega)
  unfold m_spec_IsOffice officeV
  simp only [spec_world hf.world, zones_s hf.zones, rates_s hf.rates, hp, hl, Option.bind_some]
  cases worldV o.world
  · rfl
  cases zonesV o.zones
  · rfl
  cases ratesV o.rates (o.zones.length : Int)
  · rfl
  cases pctsB o.percents
  · rfl
  cases linesB (o.lines.map lnOf)
  · rfl
  by_cases he : (o.parcels.length : Int) = (o.world.orders.length : Int)
  · rw [decide_eq_true he]
    cases decide (150 < (o.journal.length : Int))
    · simp only [office_b0_s hf (by omega), office_b1_s hf, office_b2_s hf, Bool.not_true, Bool.not_false, cond_false, Bool.true_and]
      cases allI (chargedC o) 0 o.parcels <;> cases allI (lineC o) 0 o.lines <;> cases allI actC 0 o.journal <;> rfl
    · rfl
  · rw [decide_eq_false he]; rfl
theorem impl_office : m_impl_IsOffice o = some (officeV o) := by
  have hp : m_impl_ArePercents o.percents = some (pctsB o.percents) := if_pos hf.pcts
  have hl : m_impl_AreLines o.lines = some (linesB (o.lines.map lnOf)) := if_pos (by have := hf.lines; omega)
  unfold m_impl_IsOffice officeV
  simp only [impl_world hf.world, zones_i hf.zones, rates_i hf.rates, hp, hl, Option.bind_some]
  cases worldV o.world
  · rfl
  cases zonesV o.zones
  · rfl
  cases ratesV o.rates (o.zones.length : Int)
  · rfl
  cases pctsB o.percents
  · rfl
  cases linesB (o.lines.map lnOf)
  · rfl
  by_cases he : (o.parcels.length : Int) = (o.world.orders.length : Int)
  · rw [decide_eq_true he]
    cases decide (150 < (o.journal.length : Int))
    · simp only [office_b0_i hf (by omega), office_b1_i hf (by omega), office_b2_i hf, Bool.not_true, Bool.not_false, cond_false, Bool.true_and]
      cases allI (chargedC o) 0 o.parcels <;> cases allI (lineC o) 0 o.lines <;> cases allI actC 0 o.journal <;> rfl
    · rfl
  · rw [decide_eq_false he]; rfl
end
end Go.Proofs.YtjkpcfbmmkmoaaaGreat

/- The mirror of laws_FnExactIsOffice, and that the code does just that (printed by a program of my own). -/
namespace Go.Proofs.YtjkpcfbmmkmoaaaGreat
set_option maxRecDepth 10000
open Go.RowKit
set_option linter.unusedVariables false
set_option maxHeartbeats 16000000
def m_laws_FnExactIsOffice (aO : YOffice) : Option Bool :=
 (m_laws_szOffice aO 1048576).bind fun y1 =>
 cond (decide (y1 < 0))
 (some true)
 ((m_laws_toOffice aO).bind fun y2 =>
 (m_spec_IsOffice y2).bind fun y3 =>
 (m_laws_toOffice aO).bind fun y4 =>
 (m_impl_IsOffice y4).bind fun y5 =>
 cond (!(y5 == y3))
 (some false)
 ((m_laws_toOffice aO).bind fun y6 =>
 (m_laws_eqOffice y4 y6).bind fun y7 =>
 cond (!y7)
 (some false)
 (some true)))
theorem ok_laws_FnExactIsOffice (aO : YOffice) {r : Bool} (H : m_laws_FnExactIsOffice aO = some r) : CallM Tryz.prog 3 [.ag (cOffice aO)] [] (vb r) [] := by
  replace H := H0 H
  unfold m_laws_FnExactIsOffice at H
  refine callM_of Tryz.func3 rfl Tryz.ntmps3 Tryz.results3 fun Q hQ hQn => ?_
  exact wk2
instance (aO : YOffice) : CT Tryz.prog (m_laws_FnExactIsOffice aO) := ⟨3, [.ag (cOffice aO)], [], fun r => vb r, fun r => [], ok_laws_FnExactIsOffice aO⟩
end Go.Proofs.YtjkpcfbmmkmoaaaGreat

/- The law of IsOffice, in plain values. -/
namespace Go.Proofs.YtjkpcfbmmkmoaaaGreat
set_option maxRecDepth 10000
open Go.RowKit
set_option linter.unusedVariables false
set_option linter.unusedSimpArgs false
theorem parcFit {p : YParcel} (h : totParcel p ≤ 1048576) : p.label.to_.size ≤ B60 ∧ p.from_.size ≤ B60 ∧ p.sides.length < NN := by
  have e2 : totParcel p = totLabel p.label + p.from_.size + p.sides.length := rfl
  have e3 : totLabel p.label = p.label.to_.size := rfl
  unfold B60 NN
  omega
theorem oFit_of {o : YOffice} (h : totOffice o ≤ 1048576) : OFit o := by
  unfold totOffice at h
  have h1 := totS_len totZone o.zones
  have h2 := totS_len totParcel o.parcels
  have h3 := totS_len totAct o.journal
  refine ⟨wFit_of (by omega), ⟨by omega, fun z hz => ?_⟩, by omega, by omega, by omega, by omega, by omega, fun p hp => ?_, fun a ha => ?_⟩
  · have := totS_mem totZone hz
    have e : totZone z = z.first.size + z.last.size := rfl
    unfold B60
    omega
  · have := totS_mem totParcel hp
    exact parcFit (by omega)
  · have := totS_mem totAct ha
    have e : totAct a = totParcel a.parcel := rfl
    exact parcFit (by omega)
theorem fit_or_Office {o : YOffice} (ok : okOffice o) : m_laws_szOffice o 1048576 = some (-1) ∨ ∃ y, m_laws_szOffice o 1048576 = some y ∧ ¬ y < 0 ∧ totOffice o ≤ 1048576 := by
  rw [sz_Office o (by omega) (by omega) ok]
  by_cases h : szTo 1048576 (totOffice o) < 0
  · left
    unfold szTo at *
    split at h
    · rw [if_pos (by assumption)]
    · omega
  · right
    obtain ⟨h1, _⟩ := szTo_nn h (by omega)
    exact ⟨_, rfl, h, by omega⟩
theorem lawFnExactIsOffice (o : YOffice) (ok : okOffice o) : CallOk Tryz.prog 3 [.ag (cOffice o)] (vb true) [] := by
  refine ok_laws_FnExactIsOffice o ?_
  unfold m_laws_FnExactIsOffice
  rcases fit_or_Office ok with h | ⟨y, h, h1, ht⟩
  · rw [h]; rfl
  · have hf := oFit_of ht
    simp only [h, cpy_Office o ht, spec_office hf, impl_office hf, eqr_Office o ht, Option.bind_some, decide_eq_false h1, cond_false, Bool.not_true, beq_self_eq_true]
end Go.Proofs.YtjkpcfbmmkmoaaaGreat
