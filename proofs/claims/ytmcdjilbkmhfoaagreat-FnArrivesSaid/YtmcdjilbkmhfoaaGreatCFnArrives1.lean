/- A part of the proof of the statement in the last file of this claim: texts on the language of the program and on its functions. No condition. -/
import Derived.Test.YtmcdjilbkmhfoaaGreatCFnTimeHalves3
import Derived.Test.YtmcdjilbkmhfoaaGreatCFnTimeHalves4
import Derived.Lib.SmallJoins
import Derived.Test.YtmcdjilbkmhfoaaGreatCFnTimeHalves5
import Derived.Test.YtmcdjilbkmhfoaaGreatCFnTimeHalves6
import Derived.Test.YtmcdjilbkmhfoaaGreatCFnTimeHalves8
import Derived.Test.YtmcdjilbkmhfoaaGreatCFnTimeHalves7
/- What a row of bytes decodes to. -/
namespace Go.Proofs.YtmcdjilbkmhfoaaGreat
set_option maxRecDepth 10000
open Go.ChangeShapes Go.WideShapes Go.ChangeAt Go.RowKit Go.Deep
set_option linter.unusedVariables false
theorem decP_b8 : DecP Tryz.prog 5 cB8 (fun x => 0 ≤ x.v ∧ x.v ≤ 255) := by
  intro H enc w base spare held fuel cs x h
  obtain ⟨n, rfl, _, hw⟩ := DataW.trod_int Tryz.underlying5 h
  refine ⟨⟨n⟩, reads_one rfl (.v _ rfl), ?_⟩
  simp [Lit.wf, IntKind.min, IntKind.max, IntKind.signed, IntKind.bits] at hw
  exact ⟨by show 0 ≤ n; omega, by show n ≤ 255; omega⟩
theorem cells_b8 : Tryz.prog.cellsOf 5 = 1 := by kernel_rfl
end Go.Proofs.YtmcdjilbkmhfoaaGreat

/- The mirror of o_spec_l10Copy, and that the code does just that (printed by a program of my own). -/
namespace Go.Proofs.YtmcdjilbkmhfoaaGreat
set_option maxRecDepth 10000
open Go.RowKit
set_option linter.unusedVariables false
set_option maxHeartbeats 16000000
def m_o_spec_l10Copy_b0 (w : YWorld) (y1 : (List Int)) (s0 : Int × (List YOrder)) : Option ((Int × (List YOrder)) ⊕ (List YOrder)) :=
 cond (decide (s0.1 < (w.orders.length : Int)))
 ((getI w.orders s0.1).bind fun y2 =>
 (chk (appOk ((([] : List YTrip) : List YTrip).length + (y2.way : List YTrip).length) 16)).bind fun _ =>
 (frz (.un :: .be 0 0 0 :: .be 1 0 0 :: .be 2 0 0 :: vi s0.1 :: .be 6 0 0 :: .un :: .un :: .un :: .un :: .un :: .un :: .un :: .un :: .un :: .un :: .un :: .un :: .un :: .un :: .un :: .un :: .un :: .un :: .un :: .un :: .un :: .un :: .un :: .un :: .un :: .un :: .un :: .un :: .un :: .un :: .un :: .un :: .un :: .un :: .un :: .un :: .un :: .un :: .un :: .un :: .un :: .un :: .un :: .un :: .un :: .un :: .un :: .un :: .un :: .un :: .un :: .un :: .un :: .un :: .un :: .un :: .un :: .un :: .un :: []) [some ⟨41, 10, [[.sl (w.network.legs.map cLeg), .sl (w.network.off.map cInt), vi w.network.change, .sl (w.orders.map cOrder), .sl (w.bookings.map cBooking), .sl (w.closed.map cTrip), vi w.now, .sl (w.scans.map cScan), .sl (w.skip.map cInt), vi w.made]]⟩, some ⟨41, 10, [[.v (.slice none 0 0), .v (.slice none 0 0), vi 0, .v (.slice none 0 0), .v (.slice none 0 0), .v (.slice none 0 0), vi 0, .v (.slice none 0 0), .v (.slice none 0 0), vi 0]]⟩, some ⟨41, 10, [[.ms 3, .ms 4, vi w.network.change, .ms 5, .sl (w.bookings.map cBooking), .sl (w.closed.map cTrip), vi w.now, .sl (w.scans.map cScan), .sl (w.skip.map cInt), vi w.made]]⟩, some ⟨67, 6, ((([] : List YLeg) : List YLeg) ++ w.network.legs).map cLeg⟩, some ⟨3, 1, y1.map cInt⟩, some ⟨62, 11, s0.2.map cOrder⟩, some ⟨62, 11, [[vs y2.from_, vs y2.to_, vi y2.service, vi y2.weight, vi y2.at_, vi y2.due, .sl (((([] : List YTrip) : List YTrip) ++ y2.way).map cTrip), vi y2.gone, vi y2.state, vs y2.place, vi y2.ended]]⟩]).bind fun _ =>
 (chk (appOk ((s0.2 : List YOrder).length + ([(⟨y2.from_, y2.to_, y2.service, y2.weight, y2.at_, y2.due, ((([] : List YTrip) : List YTrip) ++ y2.way), y2.gone, y2.state, y2.place, y2.ended⟩ : YOrder)] : List YOrder).length) 128)).bind fun _ =>
 some (.inl ((w64 (s0.1 + 1)), ((s0.2 : List YOrder) ++ [(⟨y2.from_, y2.to_, y2.service, y2.weight, y2.at_, y2.due, ((([] : List YTrip) : List YTrip) ++ y2.way), y2.gone, y2.state, y2.place, y2.ended⟩ : YOrder)]))))
 (some (.inr s0.2))
instance (w : YWorld) (y1 : (List Int)) : LoopE (m_o_spec_l10Copy_b0 w y1) := ⟨fun s0 => (.un :: .be 0 0 0 :: .be 1 0 0 :: .be 2 0 0 :: vi s0.1 :: .un :: .un :: .un :: .un :: .un :: .un :: .un :: .un :: .un :: .un :: .un :: .un :: .un :: .un :: .un :: .un :: .un :: .un :: .un :: .un :: .un :: .un :: .un :: .un :: .un :: .un :: .un :: .un :: .un :: .un :: .un :: .un :: .un :: .un :: .un :: .un :: .un :: .un :: .un :: .un :: .un :: .un :: .un :: .un :: .un :: .un :: .un :: .un :: .un :: .un :: .un :: .un :: .un :: .un :: .un :: .un :: .un :: .un :: .un :: .un :: []), fun s0 => [some ⟨41, 10, [[.sl (w.network.legs.map cLeg), .sl (w.network.off.map cInt), vi w.network.change, .sl (w.orders.map cOrder), .sl (w.bookings.map cBooking), .sl (w.closed.map cTrip), vi w.now, .sl (w.scans.map cScan), .sl (w.skip.map cInt), vi w.made]]⟩, some ⟨41, 10, [[.v (.slice none 0 0), .v (.slice none 0 0), vi 0, .v (.slice none 0 0), .v (.slice none 0 0), .v (.slice none 0 0), vi 0, .v (.slice none 0 0), .v (.slice none 0 0), vi 0]]⟩, some ⟨41, 10, [[.ms 3, .ms 4, vi w.network.change, .ms 5, .sl (w.bookings.map cBooking), .sl (w.closed.map cTrip), vi w.now, .sl (w.scans.map cScan), .sl (w.skip.map cInt), vi w.made]]⟩, some ⟨67, 6, ((([] : List YLeg) : List YLeg) ++ w.network.legs).map cLeg⟩, some ⟨3, 1, y1.map cInt⟩, some ⟨62, 11, s0.2.map cOrder⟩]⟩
def m_o_spec_l10Copy (w : YWorld) : Option YWorld :=
 (chk (appOk ((([] : List YLeg) : List YLeg).length + (w.network.legs : List YLeg).length) 64)).bind fun _ =>
 (m_spec_l1Ints w.network.off).bind fun y1 =>
 (iterF (m_o_spec_l10Copy_b0 w y1) NN (0, ([] : List YOrder))).bind (fun o0 =>
 (m_spec_l6Copy w.bookings).bind fun y3 =>
 (chk (appOk ((([] : List YTrip) : List YTrip).length + (w.closed : List YTrip).length) 16)).bind fun _ =>
 (chk (appOk ((([] : List YScan) : List YScan).length + (w.scans : List YScan).length) 56)).bind fun _ =>
 (m_spec_l1Ints w.skip).bind fun y4 =>
 some (⟨(⟨((([] : List YLeg) : List YLeg) ++ w.network.legs), y1, w.network.change⟩ : YNetwork), o0, y3, ((([] : List YTrip) : List YTrip) ++ w.closed), w.now, ((([] : List YScan) : List YScan) ++ w.scans), y4, w.made⟩ : YWorld))
theorem ok_o_spec_l10Copy (w : YWorld) {r : YWorld} (H : m_o_spec_l10Copy w = some r) : CallM Tryz.prog 70 [.ag (cWorld w)] [] (.ag [.ms 0, .ms 1, vi r.network.change, .ms 2, .ms 3, .ms 4, vi r.now, .ms 5, .ms 6, vi r.made]) [some ⟨67, 6, r.network.legs.map cLeg⟩, some ⟨3, 1, r.network.off.map cInt⟩, some ⟨62, 11, r.orders.map cOrder⟩, some ⟨135, 4, r.bookings.map cBooking⟩, some ⟨55, 2, r.closed.map cTrip⟩, some ⟨130, 6, r.scans.map cScan⟩, some ⟨3, 1, r.skip.map cInt⟩] := by
  replace H := H0 H
  unfold m_o_spec_l10Copy at H
  refine callM_of Tryz.func70 rfl Tryz.ntmps70 Tryz.results70 fun Q hQ hQn => ?_
  exact wk2
instance (w : YWorld) : CT Tryz.prog (m_o_spec_l10Copy w) := ⟨70, [.ag (cWorld w)], [], fun r => .ag [.ms 0, .ms 1, vi r.network.change, .ms 2, .ms 3, .ms 4, vi r.now, .ms 5, .ms 6, vi r.made], fun r => [some ⟨67, 6, r.network.legs.map cLeg⟩, some ⟨3, 1, r.network.off.map cInt⟩, some ⟨62, 11, r.orders.map cOrder⟩, some ⟨135, 4, r.bookings.map cBooking⟩, some ⟨55, 2, r.closed.map cTrip⟩, some ⟨130, 6, r.scans.map cScan⟩, some ⟨3, 1, r.skip.map cInt⟩], ok_o_spec_l10Copy w⟩
end Go.Proofs.YtmcdjilbkmhfoaaGreat

/- The mirror of o_spec_AdvanceTo, and that the code does just that (printed by a program of my own). -/
namespace Go.Proofs.YtmcdjilbkmhfoaaGreat
set_option maxRecDepth 10000
open Go.RowKit
set_option linter.unusedVariables false
set_option maxHeartbeats 16000000
def m_o_spec_AdvanceTo_b0 (until_ : Int) (s0 : Int × Int × Int × Int × (List YLeg) × (List Int) × (List YOrder) × (List YBooking) × (List YTrip) × (List YScan) × (List Int)) : Option ((Int × Int × Int × Int × (List YLeg) × (List Int) × (List YOrder) × (List YBooking) × (List YTrip) × (List YScan) × (List Int)) ⊕ (Int × Int × Int × (List YLeg) × (List Int) × (List YOrder) × (List YBooking) × (List YTrip) × (List YScan) × (List Int))) :=
 cond (decide (s0.1 < 240))
 ((m_spec_NextEvent (⟨(⟨s0.2.2.2.2.1, s0.2.2.2.2.2.1, s0.2.1⟩ : YNetwork), s0.2.2.2.2.2.2.1, s0.2.2.2.2.2.2.2.1, s0.2.2.2.2.2.2.2.2.1, s0.2.2.1, s0.2.2.2.2.2.2.2.2.2.1, s0.2.2.2.2.2.2.2.2.2.2, s0.2.2.2.1⟩ : YWorld)).bind fun y4 =>
 cond (decide (y4 < 0))
 (some (.inr (s0.2.1, s0.2.2.1, s0.2.2.2.1, s0.2.2.2.2.1, s0.2.2.2.2.2.1, s0.2.2.2.2.2.2.1, s0.2.2.2.2.2.2.2.1, s0.2.2.2.2.2.2.2.2.1, s0.2.2.2.2.2.2.2.2.2.1, s0.2.2.2.2.2.2.2.2.2.2)))
 (cond (decide (until_ < y4))
 (some (.inr (s0.2.1, s0.2.2.1, s0.2.2.2.1, s0.2.2.2.2.1, s0.2.2.2.2.2.1, s0.2.2.2.2.2.2.1, s0.2.2.2.2.2.2.2.1, s0.2.2.2.2.2.2.2.2.1, s0.2.2.2.2.2.2.2.2.2.1, s0.2.2.2.2.2.2.2.2.2.2)))
 ((rhoM [1, 2, 3, 4, 5, 6, 7, 8]).bind fun _ =>
 (m_p0_spec_l10At (⟨(⟨s0.2.2.2.2.1, s0.2.2.2.2.2.1, s0.2.1⟩ : YNetwork), s0.2.2.2.2.2.2.1, s0.2.2.2.2.2.2.2.1, s0.2.2.2.2.2.2.2.2.1, s0.2.2.1, s0.2.2.2.2.2.2.2.2.2.1, s0.2.2.2.2.2.2.2.2.2.2, s0.2.2.2.1⟩ : YWorld) y4).bind fun y5 =>
 some (.inl ((w64 (s0.1 + 1)), y5.network.change, y5.now, y5.made, y5.network.legs, y5.network.off, y5.orders, y5.bookings, y5.closed, y5.scans, y5.skip)))))
 (some (.inr (s0.2.1, s0.2.2.1, s0.2.2.2.1, s0.2.2.2.2.1, s0.2.2.2.2.2.1, s0.2.2.2.2.2.2.1, s0.2.2.2.2.2.2.2.1, s0.2.2.2.2.2.2.2.2.1, s0.2.2.2.2.2.2.2.2.2.1, s0.2.2.2.2.2.2.2.2.2.2)))
instance (until_ : Int) : LoopE (m_o_spec_AdvanceTo_b0 until_) := ⟨fun s0 => [.un, vi until_, .un, .un, .be 0 0 0, .be 1 0 0, vi s0.1, .un, .un, .un, .un, .un, .un, .un, .un, .un, .un, .un, .un, .un, .un, .un, .un, .un, .un, .un, .un, .un, .un, .un, .un, .un, .un, .un, .un, .un, .un, .un, .un], fun s0 => [some ⟨41, 10, [[.v (.slice none 0 0), .v (.slice none 0 0), vi 0, .v (.slice none 0 0), .v (.slice none 0 0), .v (.slice none 0 0), vi 0, .v (.slice none 0 0), .v (.slice none 0 0), vi 0]]⟩, some ⟨41, 10, [[.ms 2, .ms 3, vi s0.2.1, .ms 4, .ms 5, .ms 6, vi s0.2.2.1, .ms 7, .ms 8, vi s0.2.2.2.1]]⟩, some ⟨67, 6, s0.2.2.2.2.1.map cLeg⟩, some ⟨3, 1, s0.2.2.2.2.2.1.map cInt⟩, some ⟨62, 11, s0.2.2.2.2.2.2.1.map cOrder⟩, some ⟨135, 4, s0.2.2.2.2.2.2.2.1.map cBooking⟩, some ⟨55, 2, s0.2.2.2.2.2.2.2.2.1.map cTrip⟩, some ⟨130, 6, s0.2.2.2.2.2.2.2.2.2.1.map cScan⟩, some ⟨3, 1, s0.2.2.2.2.2.2.2.2.2.2.map cInt⟩]⟩
def m_o_spec_AdvanceTo (w : YWorld) (until_ : Int) : Option YWorld :=
 (m_o_spec_l10Copy w).bind fun y1 =>
 (m_spec_IsWorld w).bind fun y2 =>
 cond (!y2)
 (some y1)
 ((m_spec_l1In until_ w.now 100000).bind fun y3 =>
 cond (!y3)
 (some y1)
 ((iterF (m_o_spec_AdvanceTo_b0 until_) NN (0, y1.network.change, y1.now, y1.made, y1.network.legs, y1.network.off, y1.orders, y1.bookings, y1.closed, y1.scans, y1.skip)).bind (fun o0 =>
 some (⟨(⟨o0.2.2.2.1, o0.2.2.2.2.1, o0.1⟩ : YNetwork), o0.2.2.2.2.2.1, o0.2.2.2.2.2.2.1, o0.2.2.2.2.2.2.2.1, until_, o0.2.2.2.2.2.2.2.2.1, o0.2.2.2.2.2.2.2.2.2, o0.2.2.1⟩ : YWorld))))
theorem ok_o_spec_AdvanceTo (w : YWorld) (until_ : Int) {r : YWorld} (H : m_o_spec_AdvanceTo w until_ = some r) : CallM Tryz.prog 16 [.ag (cWorld w), vi until_] [] (.ag [.ms 0, .ms 1, vi r.network.change, .ms 2, .ms 3, .ms 4, vi r.now, .ms 5, .ms 6, vi r.made]) [some ⟨67, 6, r.network.legs.map cLeg⟩, some ⟨3, 1, r.network.off.map cInt⟩, some ⟨62, 11, r.orders.map cOrder⟩, some ⟨135, 4, r.bookings.map cBooking⟩, some ⟨55, 2, r.closed.map cTrip⟩, some ⟨130, 6, r.scans.map cScan⟩, some ⟨3, 1, r.skip.map cInt⟩] := by
  replace H := H0 H
  unfold m_o_spec_AdvanceTo at H
  refine callM_of Tryz.func16 rfl Tryz.ntmps16 Tryz.results16 fun Q hQ hQn => ?_
  exact wk2
instance (w : YWorld) (until_ : Int) : CT Tryz.prog (m_o_spec_AdvanceTo w until_) := ⟨16, [.ag (cWorld w), vi until_], [], fun r => .ag [.ms 0, .ms 1, vi r.network.change, .ms 2, .ms 3, .ms 4, vi r.now, .ms 5, .ms 6, vi r.made], fun r => [some ⟨67, 6, r.network.legs.map cLeg⟩, some ⟨3, 1, r.network.off.map cInt⟩, some ⟨62, 11, r.orders.map cOrder⟩, some ⟨135, 4, r.bookings.map cBooking⟩, some ⟨55, 2, r.closed.map cTrip⟩, some ⟨130, 6, r.scans.map cScan⟩, some ⟨3, 1, r.skip.map cInt⟩], ok_o_spec_AdvanceTo w until_⟩
end Go.Proofs.YtmcdjilbkmhfoaaGreat

/- AdvanceTo: the program and the reference both answer advV. -/
namespace Go.Proofs.YtmcdjilbkmhfoaaGreat
set_option maxRecDepth 10000
open Go.RowKit
set_option linter.unusedVariables false
set_option linter.unusedSimpArgs false
set_option linter.unusedSectionVars false
theorem iter_st0 {σ ο : Type} {body : σ → Option (σ ⊕ ο)} (S : Nat → σ) {n : Nat} {o : ο} (h1 : ∀ i, i < n → body (S i) = some (.inl (S (i + 1)))) (h2 : body (S n) = some (.inr o)) : ∀ N, n < N → iterF body N (S 0) = some o := by
  have key : ∀ d j, j + d = n → ∀ N, d < N → iterF body N (S j) = some o := by
    intro d
    induction d with
    | zero =>
      intro j hj N hN
      obtain ⟨N, rfl⟩ : ∃ M, N = M + 1 := ⟨N - 1, by omega⟩
      have : j = n := by omega
      subst this
      unfold iterF; rw [h2]; rfl
    | succ d ih =>
      intro j hj N hN
      obtain ⟨N, rfl⟩ : ∃ M, N = M + 1 := ⟨N - 1, by omega⟩
      unfold iterF
      rw [h1 j (by omega)]
      exact ih (j + 1) (by omega) N (by omega)
  intro N hN
  exact key n 0 (by omega) N hN
theorem runL_fold {A α : Type} (f : A → α → A) : ∀ (xs : List α) (i : Nat) (a : A), runL (fun _ a x => some (.inl (f a x) : A ⊕ A)) some i xs a = some (xs.foldl f a)
  | [], i, a => rfl
  | x :: xs, i, a => by
    simp only [runL, Option.bind_some, selim, List.foldl_cons]
    exact runL_fold f xs (i + 1) (f a x)
theorem next_iv {w : YWorld} (h : WOk w) : m_impl_nextEvent w = some (nextV w) := by
  have hnet := h.net
  have hor := h.fit.orders
  have e1 : iterF (m_impl_nextEvent_b0 w) NN ((-1), 0) = some (nextV w) := by
    rw [iter_list (xs := w.orders) (A := Int) (fun a i => (a, i)) (fun _ a o => some (.inl (lessV a (eventV w.network o)))) some (fun a i o ho => ?_) (fun a => ?_) (by unfold NN; omega) (-1)]
    · exact runL_fold (fun a o => lessV a (eventV w.network o)) w.orders 0 (-1)
    · have hlt := (List.getElem?_eq_some_iff.1 ho).1
      have hg : getI w.orders (i : Int) = some o := by rw [getI_nat]; exact ho
      have hi : w64 ((i : Int) + 1) = ((i + 1 : Nat) : Int) := w64_nat hlt (by omega)
      have hok := world_ok h.fit h.ok ho
      unfold m_impl_nextEvent_b0
      simp only [decide_eq_true (show (i : Int) < w.orders.length by omega), cond_true, hg, Option.bind_some, hi, starts_eq, ends_eq]
      by_cases hgl : o.gone < o.way.length
      · obtain ⟨t, htg, htb⟩ := way_at h.fit h.ok ho hok.gone.1 hgl
        obtain ⟨t1, t2, t3, t4, t5⟩ := trip_time h.fit.net hnet htb
        have ht : o.way[o.gone.toNat]? = some t := by unfold getI at htg; rwa [if_pos hok.gone.1] at htg
        have ev : eventV w.network o = some (if o.state = 2 then endsV w.network t else startV w.network t) := by unfold eventV; rw [ht]; rfl
        rw [ev]
        simp only [htg, Option.bind_some, t1, t2, decide_eq_true hgl, lessV]
        rcases hok.cases with ⟨c1, _⟩ | ⟨c1, _⟩ | ⟨c1, c2, _⟩
        · rw [c1]
          simp only [show decide ((1 : Int) = 2) = false from rfl, show decide ((1 : Int) = 1) = true from rfl, cond_true, cond_false, decide_eq_true t3, show ¬ ((1 : Int) = 2) by omega, if_false, selim]
          by_cases ha : a < 0
          · simp [ha]
          · by_cases hb : startV w.network t < a <;> simp [ha, hb]
        · rw [c1]
          simp only [show decide ((2 : Int) = 2) = true from rfl, cond_true, decide_eq_true (show 0 ≤ endsV w.network t by omega), if_true, selim]
          by_cases ha : a < 0
          · simp [ha]
          · by_cases hb : endsV w.network t < a <;> simp [ha, hb]
        · omega
      · have hge := hok.gone.2
        have ev : eventV w.network o = none := by unfold eventV; rw [List.getElem?_eq_none (by omega)]; rfl
        rw [ev, decide_eq_false hgl]
        rcases hok.cases with ⟨c1, _⟩ | ⟨c1, _⟩ | ⟨c1, c2, _⟩
        · rw [c1]; rfl
        · omega
        · rw [c1]; rfl
    · unfold m_impl_nextEvent_b0
      simp
  unfold m_impl_nextEvent
  rw [e1]; rfl
theorem next_sv {w : YWorld} (h : WOk w) : m_spec_NextEvent w = some (nextV w) := by
  have h1 := next_eq h.fit h.ok
  rw [next_iv h] at h1
  unfold m_spec_NextEvent
  rw [spec_world h.fit, h.ok]
  simp only [Option.bind_some, Bool.not_true, cond_false]
  exact h1.symm
theorem chk0 {n c : Nat} (h : n ≤ 1048576) (hc : c ≤ 1024) : chk (appOk (0 + n) c) = some () := app_ok1 (by omega) hc
theorem chkn {n c : Nat} (h : n ≤ 1048576) (hc : c ≤ 1024) : chk (appOk n c) = some () := by have := chk0 h hc; rwa [Nat.zero_add] at this
theorem copyNet_i {n : YNetwork} (h : NetFit n) : m_o_impl_copyNetwork n = some n := by
  unfold m_o_impl_copyNetwork
  simp only [List.length_nil, chk0 h.legs (show 64 ≤ 1024 by omega), chk0 h.off (show 8 ≤ 1024 by omega), Option.bind_some, List.nil_append]
theorem copyTrips_i {l : List YTrip} (h : l.length ≤ 1048576) : m_impl_copyTrips l = some l := by
  unfold m_impl_copyTrips
  simp only [List.length_nil, chk0 h (show 16 ≤ 1024 by omega), Option.bind_some, List.nil_append]
theorem copyBook_i {l : List YBooking} (h : l.length ≤ 1048576) : m_impl_copyBookings l = some l := by
  unfold m_impl_copyBookings
  simp only [List.length_nil, chk0 h (show 32 ≤ 1024 by omega), Option.bind_some, List.nil_append]
theorem take_snoc' {α : Type} {xs : List α} {i : Nat} {x : α} (h : xs[i]? = some x) : xs.take i ++ [x] = xs.take (i + 1) := by
  rw [List.take_add_one, h]; rfl
theorem copyW_i {w : YWorld} (h : WFit w) : m_o_impl_copyWorld w = some w := by
  have hor := h.orders
  unfold m_o_impl_copyWorld
  rw [copyNet_i h.net, Option.bind_some, copyBook_i h.bookings, Option.bind_some, copyTrips_i h.closed, Option.bind_some]
  have e : iterF (m_o_impl_copyWorld_b0 w w.network w.bookings w.closed) NN (0, []) = some w.orders := by
    have := iter_st0 (body := m_o_impl_copyWorld_b0 w w.network w.bookings w.closed) (fun i : Nat => ((i : Int), w.orders.take i)) (n := w.orders.length) (o := w.orders) (fun i hi => ?_) ?_ NN (by unfold NN; omega)
    · simpa using this
    · have ho : w.orders[i]? = some w.orders[i] := List.getElem?_eq_getElem hi
      have hg : getI w.orders (i : Int) = some w.orders[i] := by rw [getI_nat]; exact ho
      have hw : w64 ((i : Int) + 1) = ((i + 1 : Nat) : Int) := w64_nat hi (by omega)
      have hl : (w.orders.take i).length + 1 ≤ 1048576 := by rw [List.length_take]; omega
      unfold m_o_impl_copyWorld_b0
      simp only [decide_eq_true (show (i : Int) < w.orders.length by omega), cond_true, hg, Option.bind_some, copyTrips_i (h.way _ (List.getElem_mem hi)), frz, List.length_cons, List.length_nil, Nat.zero_add, app_ok1 hl (show 128 ≤ 1024 by omega), hw]
      rw [← take_snoc' ho]
    · unfold m_o_impl_copyWorld_b0
      simp
  simp only [List.length_nil, chk0 h.scans (show 56 ≤ 1024 by omega), chk0 h.skip (show 8 ≤ 1024 by omega), Option.bind_some, e, List.nil_append]
theorem ints_s {l : List Int} (h : l.length ≤ 1048576) : m_spec_l1Ints l = some l := by
  unfold m_spec_l1Ints
  simp only [List.length_nil, chk0 h (show 8 ≤ 1024 by omega), Option.bind_some, List.nil_append]
theorem copyBook_s {l : List YBooking} (h : l.length ≤ 1048576) : m_spec_l6Copy l = some l := by
  unfold m_spec_l6Copy
  simp only [List.length_nil, chk0 h (show 32 ≤ 1024 by omega), Option.bind_some, List.nil_append]
theorem copyW_s {w : YWorld} (h : WFit w) : m_o_spec_l10Copy w = some w := by
  have hor := h.orders
  unfold m_o_spec_l10Copy
  have e : iterF (m_o_spec_l10Copy_b0 w w.network.off) NN (0, ([] : List YOrder)) = some w.orders := by
    have := iter_st0 (body := m_o_spec_l10Copy_b0 w w.network.off) (fun i : Nat => ((i : Int), w.orders.take i)) (n := w.orders.length) (o := w.orders) (fun i hi => ?_) ?_ NN (by unfold NN; omega)
    · simpa using this
    · have ho : w.orders[i]? = some w.orders[i] := List.getElem?_eq_getElem hi
      have hg : getI w.orders (i : Int) = some w.orders[i] := by rw [getI_nat]; exact ho
      have hw : w64 ((i : Int) + 1) = ((i + 1 : Nat) : Int) := w64_nat hi (by omega)
      have hl : (w.orders.take i).length + 1 ≤ 1048576 := by rw [List.length_take]; omega
      unfold m_o_spec_l10Copy_b0
      simp only [decide_eq_true (show (i : Int) < w.orders.length by omega), cond_true, hg, Option.bind_some, chkn (h.way _ (List.getElem_mem hi)) (show 16 ≤ 1024 by omega), frz, List.length_cons, List.length_nil, Nat.zero_add, app_ok1 hl (show 128 ≤ 1024 by omega), hw, List.nil_append]
      rw [← take_snoc' ho]
    · unfold m_o_spec_l10Copy_b0
      simp
  simp only [List.length_nil, chk0 h.net.legs (show 64 ≤ 1024 by omega), ints_s h.net.off, ints_s h.skip, chk0 h.closed (show 16 ≤ 1024 by omega), chk0 h.scans (show 56 ≤ 1024 by omega), Option.bind_some, e, copyBook_s h.bookings, List.nil_append]
abbrev OwA := Int × Int × Int × (List YLeg) × (List Int) × (List YOrder) × (List YBooking) × (List YTrip) × (List YScan) × (List Int)
def owA (w : YWorld) : OwA := (w.network.change, w.now, w.made, w.network.legs, w.network.off, w.orders, w.bookings, w.closed, w.scans, w.skip)
theorem WOk.pass {w : YWorld} (h : WOk w) : WorldPass w := by
  have hp := h.parts
  refine ⟨h.fit.net, h.net, ⟨rfl, ⟨h.fit.skip, hp.2.2.2.1, by omega⟩, h.fit.orders⟩, fun o ho => ?_⟩
  obtain ⟨i, hi, rfl⟩ := List.getElem_of_mem ho
  have hok := world_ok h.fit h.ok (List.getElem?_eq_getElem hi)
  refine ⟨hok.gone, h.fit.way _ ho, hok.trip, fun hs => ?_⟩
  rcases hok.cases with ⟨c, _⟩ | ⟨_, c⟩ | ⟨c, _⟩
  · omega
  · exact c
  · omega
theorem run_stop {k : Nat} {w : YWorld} {u : Int} (h : nextV w < 0 ∨ u < nextV w) : runV k w u = w := by
  cases k with
  | zero => rfl
  | succ k => unfold runV; rw [if_pos h]
theorem run_go {k : Nat} {w : YWorld} {u : Int} (h : WOk w) (hk : todoW w ≤ k) (hu : u ≤ 100000) (hc : ¬ (nextV w < 0 ∨ u < nextV w)) : runV k w u = runV (k - 1) (happenV w (nextV w)) u := by
  have := happen_todo h (by omega)
  cases k with
  | zero => omega
  | succ k =>
    rw [Nat.add_sub_cancel]
    conv => lhs; unfold runV; rw [if_neg hc]
theorem adv_loop_i {u : Int} (hu : u ≤ 100000) : ∀ (N k : Nat) (w : YWorld), WOk w → todoW w ≤ k → k < N → iterF (m_impl_AdvanceTo_b0 u) N (nextV w, owA w) = some (owA (runV k w u))
  | 0, k, w, _, _, hN => by omega
  | N + 1, k, w, h, hk, hN => by
    simp only [iterF]
    unfold m_impl_AdvanceTo_b0
    simp only [owA]
    by_cases h0 : 0 ≤ nextV w
    · by_cases h1 : nextV w ≤ u
      · obtain ⟨a, b, c⟩ := happen_next h h0
        have ht := happen_todo h h0
        have hb := (happen_both h.pass (nextV w)).1
        have hw : (⟨⟨w.network.legs, w.network.off, w.network.change⟩, w.orders, w.bookings, w.closed, w.now, w.scans, w.skip, w.made⟩ : YWorld) = w := rfl
        rw [run_go h hk hu (by omega)]
        simp only [decide_eq_true h0, decide_eq_true h1, cond_true, rhoM, Option.bind_some, hw, hb, next_iv a]
        exact adv_loop_i hu N (k - 1) _ a (by omega) (by omega)
      · rw [run_stop (.inr (by omega))]
        simp only [decide_eq_true h0, decide_eq_false h1, cond_true, cond_false]
        rfl
    · rw [run_stop (.inl (by omega))]
      simp only [decide_eq_false h0, cond_false]
      rfl
theorem advance_i {w : YWorld} (hf : WFit w) (u : Int) : m_impl_AdvanceTo w u = some (if worldV w = true ∧ w.now ≤ u ∧ u ≤ 100000 then advV w u else w) := by
  unfold m_impl_AdvanceTo
  rw [copyW_i hf, Option.bind_some, impl_world hf, Option.bind_some, within_eq, l1In_v, Option.bind_some]
  cases hv : worldV w with
  | false => simp
  | true =>
    have h : WOk w := ⟨hf, hv⟩
    by_cases h1 : w.now ≤ u
    · by_cases h2 : u ≤ 100000
      · have e : (nextV w, w.network.change, w.now, w.made, w.network.legs, w.network.off, w.orders, w.bookings, w.closed, w.scans, w.skip) = (nextV w, owA w) := rfl
        have hp := h.parts
        have hN : todoW w < NN := by
          have : ∀ l : List YOrder, (∀ o ∈ l, o.way.length ≤ 1048576) → (l.map todoV).sum ≤ 2097152 * l.length := by
            intro l
            induction l with
            | nil => intro _; simp
            | cons o l ih =>
              intro hl
              have := ih fun x hx => hl x (List.mem_cons_of_mem _ hx)
              have h2 := hl o List.mem_cons_self
              have h3 : todoV o ≤ 2 * o.way.length := by unfold todoV; omega
              simp only [List.map_cons, List.sum_cons, List.length_cons]
              omega
          have := this w.orders hf.way
          have h3 := hp.2.1
          unfold todoW NN
          omega
        simp only [Bool.not_true, cond_false, decide_eq_true h1, decide_eq_true h2, Bool.and_self, next_iv h, Option.bind_some, h1, h2, and_self, if_true, e, adv_loop_i h2 NN (todoW w) w h (Nat.le_refl _) hN]
        rfl
      · simp [h1, h2]
    · simp [h1]
theorem todo_le {w : YWorld} (h : WOk w) : todoW w ≤ 240 := by
  have hp := h.parts
  have hv := h.ok
  unfold worldV at hv
  simp only [Bool.and_eq_true, decide_eq_true_iff] at hv
  have ht := hv.2
  have key : ∀ (l : List YOrder) (a : Int), (∀ o ∈ l, o.way.length ≤ 1048576) → l.length ≤ 30 → 0 ≤ a → a ≤ 1048576 * (30 - l.length : Nat) → l.foldl (fun a o => w64 (a + (o.way.length : Int))) a = a + ((l.map fun o => o.way.length).sum : Nat) := by
    intro l
    induction l with
    | nil => intro a _ _ _ _; simp
    | cons o l ih =>
      intro a hl hn h0 h1
      have h2 := hl o List.mem_cons_self
      simp only [List.length_cons] at hn h1
      have hw : w64 (a + (o.way.length : Int)) = a + (o.way.length : Int) := w64_in (by omega)
      simp only [List.foldl_cons, hw]
      rw [ih _ (fun x hx => hl x (List.mem_cons_of_mem _ hx)) (by omega) (by omega) (by omega)]
      simp only [List.map_cons, List.sum_cons]
      omega
  have hs := key w.orders 0 h.fit.way hp.2.1 (by omega) (by omega)
  unfold tripsV at ht
  rw [hs] at ht
  have h2 : todoW w ≤ 2 * ((w.orders.map fun o => o.way.length).sum) := by
    unfold todoW
    have : ∀ l : List YOrder, (l.map todoV).sum ≤ 2 * (l.map fun o => o.way.length).sum := by
      intro l
      induction l with
      | nil => simp
      | cons o l ih =>
        have : todoV o ≤ 2 * o.way.length := by unfold todoV; omega
        simp only [List.map_cons, List.sum_cons]
        omega
    exact this _
  omega
theorem adv_loop_s {u : Int} (hu : u ≤ 100000) : ∀ (N k j : Nat) (w : YWorld), WOk w → todoW w ≤ k → j + k = 240 → k < N → iterF (m_o_spec_AdvanceTo_b0 u) N ((j : Int), owA w) = some (owA (runV k w u))
  | 0, k, j, w, _, _, _, hN => by omega
  | N + 1, k, j, w, h, hk, hj, hN => by
    simp only [iterF]
    unfold m_o_spec_AdvanceTo_b0
    simp only [owA]
    have hw : (⟨⟨w.network.legs, w.network.off, w.network.change⟩, w.orders, w.bookings, w.closed, w.now, w.scans, w.skip, w.made⟩ : YWorld) = w := rfl
    by_cases hj2 : j < 240
    · simp only [decide_eq_true (show (j : Int) < 240 by omega), cond_true, hw, next_sv h, Option.bind_some]
      by_cases h0 : nextV w < 0
      · rw [run_stop (.inl h0)]
        simp only [decide_eq_true h0, cond_true]
        rfl
      · by_cases h1 : u < nextV w
        · rw [run_stop (.inr h1)]
          simp only [decide_eq_false h0, decide_eq_true h1, cond_true, cond_false]
          rfl
        · obtain ⟨a, b, c⟩ := happen_next h (by omega)
          have ht := happen_todo h (by omega)
          have hb := (happen_both h.pass (nextV w)).2
          have hw1 : w64 ((j : Int) + 1) = ((j + 1 : Nat) : Int) := by rw [w64_in (by omega)]; omega
          rw [run_go h hk hu (by omega)]
          simp only [decide_eq_false h0, decide_eq_false h1, cond_false, rhoM, Option.bind_some, hb, hw1]
          exact adv_loop_s hu N (k - 1) (j + 1) _ a (by omega) (by omega) (by omega)
    · have hk0 : k = 0 := by omega
      subst hk0
      simp only [decide_eq_false (show ¬ (j : Int) < 240 by omega), cond_false]
      rfl
theorem advance_s {w : YWorld} (hf : WFit w) (u : Int) : m_o_spec_AdvanceTo w u = some (if worldV w = true ∧ w.now ≤ u ∧ u ≤ 100000 then advV w u else w) := by
  unfold m_o_spec_AdvanceTo
  rw [copyW_s hf, Option.bind_some, spec_world hf, Option.bind_some, l1In_v, Option.bind_some]
  cases hv : worldV w with
  | false => simp
  | true =>
    have h : WOk w := ⟨hf, hv⟩
    by_cases h1 : w.now ≤ u
    · by_cases h2 : u ≤ 100000
      · have e : ((0 : Int), w.network.change, w.now, w.made, w.network.legs, w.network.off, w.orders, w.bookings, w.closed, w.scans, w.skip) = (((0 : Nat) : Int), owA w) := rfl
        simp only [Bool.not_true, cond_false, decide_eq_true h1, decide_eq_true h2, Bool.and_self, h1, h2, and_self, if_true, e, adv_loop_s h2 NN 240 0 w h (todo_le h) rfl (by unfold NN; omega), Option.bind_some]
        rw [run_any h (todo_le h) (Nat.le_refl _) h2]
        rfl
      · simp [h1, h2]
    · simp [h1]
end Go.Proofs.YtmcdjilbkmhfoaaGreat

/- The mirror of spec_Max, and that the code does just that (printed by a program of my own). -/
namespace Go.Proofs.YtmcdjilbkmhfoaaGreat
set_option maxRecDepth 10000
open Go.RowKit
set_option linter.unusedVariables false
set_option maxHeartbeats 16000000
def m_spec_Max (a : Int) (b : Int) : Option Int :=
 cond (decide (a < b))
 (some b)
 (some a)
theorem ok_spec_Max (a : Int) (b : Int) {r : Int} (H : m_spec_Max a b = some r) : CallM Tryz.prog 190 [vi a, vi b] [] (vi r) [] := by
  replace H := H0 H
  unfold m_spec_Max at H
  refine callM_of Tryz.func190 rfl Tryz.ntmps190 Tryz.results190 fun Q hQ hQn => ?_
  exact wk2
instance (a : Int) (b : Int) : CT Tryz.prog (m_spec_Max a b) := ⟨190, [vi a, vi b], [], fun r => vi r, fun r => [], ok_spec_Max a b⟩
end Go.Proofs.YtmcdjilbkmhfoaaGreat

/- The mirror of spec_l4First, and that the code does just that (printed by a program of my own). -/
namespace Go.Proofs.YtmcdjilbkmhfoaaGreat
set_option maxRecDepth 10000
open Go.RowKit
set_option linter.unusedVariables false
set_option maxHeartbeats 16000000
def m_spec_l4First_b0 (places : List ByteArray) (from1_ : Int) (at2_ : Int) (s0 : Int × (List Int)) : Option ((Int × (List Int)) ⊕ (List Int)) :=
 cond (decide (s0.1 < (places.length : Int)))
 (cond (decide (s0.1 = from1_))
 ((m_spec_Max at2_ 0).bind fun y1 =>
 (chk (appOk ((s0.2 : List Int).length + ([y1] : List Int).length) 8)).bind fun _ =>
 some (.inl ((w64 (s0.1 + 1)), ((s0.2 : List Int) ++ [y1]))))
 ((chk (appOk ((s0.2 : List Int).length + ([(-1)] : List Int).length) 8)).bind fun _ =>
 some (.inl ((w64 (s0.1 + 1)), ((s0.2 : List Int) ++ [(-1)])))))
 (some (.inr s0.2))
instance (places : List ByteArray) (from1_ : Int) (at2_ : Int) : LoopE (m_spec_l4First_b0 places from1_ at2_) := ⟨fun s0 => [.sl (places.map cStr), vi from1_, vi at2_, .un, .un, .un, .un, .ms 0, vi s0.1, .un, .un, .un, .un, .un, .un, .un, .un, .un, .un, .un, .un, .un, .un, .un, .un, .un, .un, .un], fun s0 => [some ⟨3, 1, s0.2.map cInt⟩]⟩
def m_spec_l4First (places : List ByteArray) (from1_ : Int) (at2_ : Int) : Option (List Int) :=
 (iterF (m_spec_l4First_b0 places from1_ at2_) NN (0, ([] : List Int))).bind (fun o0 =>
 some o0)
theorem ok_spec_l4First (places : List ByteArray) (from1_ : Int) (at2_ : Int) {r : (List Int)} (H : m_spec_l4First places from1_ at2_ = some r) : CallM Tryz.prog 233 [.sl (places.map cStr), vi from1_, vi at2_] [] (.ms 0) [some ⟨3, 1, r.map cInt⟩] := by
  replace H := H0 H
  unfold m_spec_l4First at H
  refine callM_of Tryz.func233 rfl Tryz.ntmps233 Tryz.results233 fun Q hQ hQn => ?_
  exact wk2
instance (places : List ByteArray) (from1_ : Int) (at2_ : Int) : CT Tryz.prog (m_spec_l4First places from1_ at2_) := ⟨233, [.sl (places.map cStr), vi from1_, vi at2_], [], fun r => .ms 0, fun r => [some ⟨3, 1, r.map cInt⟩], ok_spec_l4First places from1_ at2_⟩
end Go.Proofs.YtmcdjilbkmhfoaaGreat

/- The mirror of spec_l4Ready, and that the code does just that (printed by a program of my own). -/
namespace Go.Proofs.YtmcdjilbkmhfoaaGreat
set_option maxRecDepth 10000
open Go.RowKit
set_option linter.unusedVariables false
set_option maxHeartbeats 16000000
def m_spec_l4Ready (n : YNetwork) (at1_ : Int) (first : Bool) : Option Int :=
 cond first
 (some at1_)
 (some (w64 (at1_ + n.change)))
theorem ok_spec_l4Ready (n : YNetwork) (at1_ : Int) (first : Bool) {r : Int} (H : m_spec_l4Ready n at1_ first = some r) : CallM Tryz.prog 236 [.ag (cNetwork n), vi at1_, vb first] [] (vi r) [] := by
  replace H := H0 H
  unfold m_spec_l4Ready at H
  refine callM_of Tryz.func236 rfl Tryz.ntmps236 Tryz.results236 fun Q hQ hQn => ?_
  exact wk2
instance (n : YNetwork) (at1_ : Int) (first : Bool) : CT Tryz.prog (m_spec_l4Ready n at1_ first) := ⟨236, [.ag (cNetwork n), vi at1_, vb first], [], fun r => vi r, fun r => [], ok_spec_l4Ready n at1_ first⟩
end Go.Proofs.YtmcdjilbkmhfoaaGreat

/- The mirror of spec_l6Next, and that the code does just that (printed by a program of my own). -/
namespace Go.Proofs.YtmcdjilbkmhfoaaGreat
set_option maxRecDepth 10000
open Go.RowKit
set_option linter.unusedVariables false
set_option maxHeartbeats 16000000
def m_spec_l6Next_b0 (n : YNetwork) (l : List YBooking) (closed : List YTrip) (leg : Int) (at4_ : Int) (weight : Int) (s0 : Int) : Option (Int ⊕ (Unit ⊕ Int)) :=
 cond (decide (s0 ≤ 60))
 ((m_spec_l3Runs n leg s0).bind fun y1 =>
 cond y1
 ((m_spec_l3Starts n (⟨leg, s0⟩ : YTrip)).bind fun y2 =>
 cond (decide (at4_ ≤ y2))
 ((m_spec_l6Closed closed (⟨leg, s0⟩ : YTrip)).bind fun y3 =>
 cond (!y3)
 ((getI n.legs leg).bind fun y4 =>
 (m_spec_LoadOf l (⟨leg, s0⟩ : YTrip)).bind fun y5 =>
 cond (decide (weight ≤ (w64 (y4.room - y5))))
 (some (.inr (.inr s0)))
 (some (.inl (w64 (s0 + 1)))))
 (some (.inl (w64 (s0 + 1)))))
 (some (.inl (w64 (s0 + 1)))))
 (some (.inl (w64 (s0 + 1)))))
 (some (.inr (.inl ())))
instance (n : YNetwork) (l : List YBooking) (closed : List YTrip) (leg : Int) (at4_ : Int) (weight : Int) : LoopE (m_spec_l6Next_b0 n l closed leg at4_ weight) := ⟨fun s0 => [.un, .sl (l.map cBooking), .sl (closed.map cTrip), vi leg, vi at4_, vi weight, .be 0 0 0, .un, .un, .un, .un, .un, .un, vi s0, .un, .un, .un, .un, .un, .un, .un, .un, .un, .un, .un, .un, .un, .un, .un, .un, .un, .un, .un, .un, .un, .un, .un, .un, .un, .un, .un, .un, .un, .un, .un, .un, .un, .un, .un, .un, .un, .un, .un, .un], fun s0 => [some ⟨35, 3, [[.sl (n.legs.map cLeg), .sl (n.off.map cInt), vi n.change]]⟩]⟩
def m_spec_l6Next (n : YNetwork) (l : List YBooking) (closed : List YTrip) (leg : Int) (at4_ : Int) (weight : Int) : Option Int :=
 (iterF (m_spec_l6Next_b0 n l closed leg at4_ weight) NN 0).bind (selim (fun o0 =>
 some (-1)) (fun r => some r))
theorem ok_spec_l6Next (n : YNetwork) (l : List YBooking) (closed : List YTrip) (leg : Int) (at4_ : Int) (weight : Int) {r : Int} (H : m_spec_l6Next n l closed leg at4_ weight = some r) : CallM Tryz.prog 235 [.ag (cNetwork n), .sl (l.map cBooking), .sl (closed.map cTrip), vi leg, vi at4_, vi weight] [] (vi r) [] := by
  replace H := H0 H
  unfold m_spec_l6Next at H
  refine callM_of Tryz.func235 rfl Tryz.ntmps235 Tryz.results235 fun Q hQ hQn => ?_
  exact wk2
instance (n : YNetwork) (l : List YBooking) (closed : List YTrip) (leg : Int) (at4_ : Int) (weight : Int) : CT Tryz.prog (m_spec_l6Next n l closed leg at4_ weight) := ⟨235, [.ag (cNetwork n), .sl (l.map cBooking), .sl (closed.map cTrip), vi leg, vi at4_, vi weight], [], fun r => vi r, fun r => [], ok_spec_l6Next n l closed leg at4_ weight⟩
end Go.Proofs.YtmcdjilbkmhfoaaGreat

/- The mirror of spec_l6Round, and that the code does just that (printed by a program of my own). -/
namespace Go.Proofs.YtmcdjilbkmhfoaaGreat
set_option maxRecDepth 10000
open Go.RowKit
set_option linter.unusedVariables false
set_option maxHeartbeats 16000000
def m_spec_l6Round_b0 (n : YNetwork) (l : List YBooking) (closed : List YTrip) (weight : Int) (places : List ByteArray) (best : List Int) (from6_ : Int) (s0 : Int × (List Int)) : Option ((Int × (List Int)) ⊕ (List Int)) :=
 cond (decide (s0.1 < (n.legs.length : Int)))
 ((getI n.legs s0.1).bind fun y2 =>
 (m_spec_l4Index places y2.from_).bind fun y3 =>
 (getI n.legs s0.1).bind fun y4 =>
 (m_spec_l4Index places y4.to_).bind fun y5 =>
 (getI best y3).bind fun y6 =>
 cond (decide (y6 < 0))
 (some (.inl ((w64 (s0.1 + 1)), s0.2)))
 ((getI best y3).bind fun y7 =>
 (m_spec_l4Ready n y7 (decide (y3 = from6_))).bind fun y8 =>
 (m_spec_l6Next n l closed s0.1 y8 weight).bind fun y9 =>
 cond (decide (y9 < 0))
 (some (.inl ((w64 (s0.1 + 1)), s0.2)))
 ((m_spec_l3Ends n (⟨s0.1, y9⟩ : YTrip)).bind fun y10 =>
 (getI s0.2 y5).bind fun y11 =>
 cond (decide (y11 < 0))
 ((getI s0.2 y5).bind fun y12 =>
 some (.inl ((w64 (s0.1 + 1)), (s0.2.set (Int.toNat y5) y10))))
 ((getI s0.2 y5).bind fun y13 =>
 cond (decide (y10 < y13))
 ((getI s0.2 y5).bind fun y14 =>
 some (.inl ((w64 (s0.1 + 1)), (s0.2.set (Int.toNat y5) y10))))
 (some (.inl ((w64 (s0.1 + 1)), s0.2)))))))
 (some (.inr s0.2))
instance (n : YNetwork) (l : List YBooking) (closed : List YTrip) (weight : Int) (places : List ByteArray) (best : List Int) (from6_ : Int) : LoopE (m_spec_l6Round_b0 n l closed weight places best from6_) := ⟨fun s0 => (.un :: .sl (l.map cBooking) :: .sl (closed.map cTrip) :: vi weight :: .sl (places.map cStr) :: .sl (best.map cInt) :: vi from6_ :: .be 0 0 0 :: .un :: .un :: .un :: .un :: .un :: .un :: .un :: .ms 1 :: vi s0.1 :: .un :: .un :: .un :: .un :: .un :: .un :: .un :: .un :: .un :: .un :: .un :: .un :: .un :: .un :: .un :: .un :: .un :: .un :: .un :: .un :: .un :: .un :: .un :: .un :: .un :: .un :: .un :: .un :: .un :: .un :: .un :: .un :: .un :: .un :: .un :: .un :: .un :: .un :: .un :: .un :: .un :: .un :: .un :: .un :: .un :: .un :: .un :: .un :: .un :: .un :: .un :: .un :: .un :: .un :: .un :: .un :: .un :: .un :: .un :: .un :: .un :: .un :: .un :: .un :: .un :: .un :: .un :: .un :: .un :: .un :: .un :: .un :: .un :: .un :: []), fun s0 => [some ⟨35, 3, [[.sl (n.legs.map cLeg), .sl (n.off.map cInt), vi n.change]]⟩, some ⟨3, 1, s0.2.map cInt⟩]⟩
def m_spec_l6Round (n : YNetwork) (l : List YBooking) (closed : List YTrip) (weight : Int) (places : List ByteArray) (best : List Int) (from6_ : Int) : Option (List Int) :=
 (m_spec_l1Ints best).bind fun y1 =>
 (iterF (m_spec_l6Round_b0 n l closed weight places best from6_) NN (0, y1)).bind (fun o0 =>
 some o0)
theorem ok_spec_l6Round (n : YNetwork) (l : List YBooking) (closed : List YTrip) (weight : Int) (places : List ByteArray) (best : List Int) (from6_ : Int) {r : (List Int)} (H : m_spec_l6Round n l closed weight places best from6_ = some r) : CallM Tryz.prog 234 [.ag (cNetwork n), .sl (l.map cBooking), .sl (closed.map cTrip), vi weight, .sl (places.map cStr), .sl (best.map cInt), vi from6_] [] (.ms 0) [some ⟨3, 1, r.map cInt⟩] := by
  replace H := H0 H
  unfold m_spec_l6Round at H
  refine callM_of Tryz.func234 rfl Tryz.ntmps234 Tryz.results234 fun Q hQ hQn => ?_
  exact wk2
instance (n : YNetwork) (l : List YBooking) (closed : List YTrip) (weight : Int) (places : List ByteArray) (best : List Int) (from6_ : Int) : CT Tryz.prog (m_spec_l6Round n l closed weight places best from6_) := ⟨234, [.ag (cNetwork n), .sl (l.map cBooking), .sl (closed.map cTrip), vi weight, .sl (places.map cStr), .sl (best.map cInt), vi from6_], [], fun r => .ms 0, fun r => [some ⟨3, 1, r.map cInt⟩], ok_spec_l6Round n l closed weight places best from6_⟩
end Go.Proofs.YtmcdjilbkmhfoaaGreat

/- The mirror of spec_BestFree, and that the code does just that (printed by a program of my own). -/
namespace Go.Proofs.YtmcdjilbkmhfoaaGreat
set_option maxRecDepth 10000
open Go.RowKit
set_option linter.unusedVariables false
set_option maxHeartbeats 16000000
def m_spec_BestFree_b0 (n : YNetwork) (l : List YBooking) (closed : List YTrip) (weight : Int) (legs : Int) (y1 : (List ByteArray)) (y2 : Int) (s0 : Int × (List Int)) : Option ((Int × (List Int)) ⊕ (List Int)) :=
 cond (decide (s0.1 < legs))
 (cond (decide (s0.1 < (y1.length : Int)))
 ((m_spec_l6Round n l closed weight y1 s0.2 y2).bind fun y5 =>
 some (.inl ((w64 (s0.1 + 1)), y5)))
 (some (.inr s0.2)))
 (some (.inr s0.2))
instance (n : YNetwork) (l : List YBooking) (closed : List YTrip) (weight : Int) (legs : Int) (y1 : (List ByteArray)) (y2 : Int) : LoopE (m_spec_BestFree_b0 n l closed weight legs y1 y2) := ⟨fun s0 => (.un :: .sl (l.map cBooking) :: .sl (closed.map cTrip) :: .un :: .un :: vi weight :: vi legs :: .be 0 0 0 :: .un :: .un :: .un :: .un :: .un :: .un :: .un :: .ms 1 :: vi y2 :: .ms 2 :: vi s0.1 :: .un :: .un :: .un :: .un :: .un :: .un :: .un :: .un :: .un :: .un :: .un :: .un :: .un :: .un :: .un :: .un :: .un :: .un :: .un :: .un :: .un :: .un :: .un :: .un :: .un :: .un :: .un :: .un :: .un :: .un :: .un :: .un :: .un :: .un :: .un :: .un :: .un :: .un :: .un :: .un :: .un :: .un :: .un :: .un :: .un :: .un :: .un :: .un :: .un :: .un :: []), fun s0 => [some ⟨35, 3, [[.sl (n.legs.map cLeg), .sl (n.off.map cInt), vi n.change]]⟩, some ⟨9, 1, y1.map cStr⟩, some ⟨3, 1, s0.2.map cInt⟩]⟩
def m_spec_BestFree (n : YNetwork) (l : List YBooking) (closed : List YTrip) (from3_ : ByteArray) (at4_ : Int) (weight : Int) (legs : Int) : Option (List Int) :=
 (m_spec_PlacesOf n).bind fun y1 =>
 (m_spec_l4Index y1 from3_).bind fun y2 =>
 (m_spec_AreBookings n l).bind fun y3 =>
 cond (!y3)
 (some ([] : List Int))
 (cond (decide (y2 < 0))
 (some ([] : List Int))
 (cond (decide (100000 < at4_))
 (some ([] : List Int))
 (cond (decide (weight < 1))
 (some ([] : List Int))
 (cond (decide (legs < 0))
 (some ([] : List Int))
 ((m_spec_l4First y1 y2 at4_).bind fun y4 =>
 (iterF (m_spec_BestFree_b0 n l closed weight legs y1 y2) NN (0, y4)).bind (fun o0 =>
 some o0))))))
theorem ok_spec_BestFree (n : YNetwork) (l : List YBooking) (closed : List YTrip) (from3_ : ByteArray) (at4_ : Int) (weight : Int) (legs : Int) {r : (List Int)} (H : m_spec_BestFree n l closed from3_ at4_ weight legs = some r) : CallM Tryz.prog 195 [.ag (cNetwork n), .sl (l.map cBooking), .sl (closed.map cTrip), vs from3_, vi at4_, vi weight, vi legs] [] (.ms 0) [some ⟨3, 1, r.map cInt⟩] := by
  replace H := H0 H
  unfold m_spec_BestFree at H
  refine callM_of Tryz.func195 rfl Tryz.ntmps195 Tryz.results195 fun Q hQ hQn => ?_
  exact wk2
instance (n : YNetwork) (l : List YBooking) (closed : List YTrip) (from3_ : ByteArray) (at4_ : Int) (weight : Int) (legs : Int) : CT Tryz.prog (m_spec_BestFree n l closed from3_ at4_ weight legs) := ⟨195, [.ag (cNetwork n), .sl (l.map cBooking), .sl (closed.map cTrip), vs from3_, vi at4_, vi weight, vi legs], [], fun r => .ms 0, fun r => [some ⟨3, 1, r.map cInt⟩], ok_spec_BestFree n l closed from3_ at4_ weight legs⟩
end Go.Proofs.YtmcdjilbkmhfoaaGreat

/- The mirror of spec_l6Step, and that the code does just that (printed by a program of my own). -/
namespace Go.Proofs.YtmcdjilbkmhfoaaGreat
set_option maxRecDepth 10000
open Go.RowKit
set_option linter.unusedVariables false
set_option maxHeartbeats 16000000
def m_spec_l6Step_b0 (n : YNetwork) (l : List YBooking) (closed : List YTrip) (weight : Int) (places : List ByteArray) (before : List Int) (from6_ : Int) (to_ : Int) (ends : Int) (s0 : Int) : Option (Int ⊕ (Unit ⊕ YTrip)) :=
 cond (decide (s0 < (n.legs.length : Int)))
 ((getI n.legs s0).bind fun y1 =>
 (m_spec_l4Index places y1.from_).bind fun y2 =>
 (getI n.legs s0).bind fun y3 =>
 (getI places to_).bind fun y4 =>
 cond (!decide (y3.to_ = y4))
 (some (.inl (w64 (s0 + 1))))
 ((getI before y2).bind fun y5 =>
 cond (decide (y5 < 0))
 (some (.inl (w64 (s0 + 1))))
 ((getI before y2).bind fun y6 =>
 (m_spec_l4Ready n y6 (decide (y2 = from6_))).bind fun y7 =>
 (m_spec_l6Next n l closed s0 y7 weight).bind fun y8 =>
 cond (decide (0 ≤ y8))
 ((m_spec_l3Ends n (⟨s0, y8⟩ : YTrip)).bind fun y9 =>
 cond (decide (y9 = ends))
 (some (.inr (.inr (⟨s0, y8⟩ : YTrip))))
 (some (.inl (w64 (s0 + 1)))))
 (some (.inl (w64 (s0 + 1)))))))
 (some (.inr (.inl ())))
instance (n : YNetwork) (l : List YBooking) (closed : List YTrip) (weight : Int) (places : List ByteArray) (before : List Int) (from6_ : Int) (to_ : Int) (ends : Int) : LoopE (m_spec_l6Step_b0 n l closed weight places before from6_ to_ ends) := ⟨fun s0 => (.un :: .sl (l.map cBooking) :: .sl (closed.map cTrip) :: vi weight :: .sl (places.map cStr) :: .sl (before.map cInt) :: vi from6_ :: vi to_ :: vi ends :: .be 0 0 0 :: .un :: .un :: .un :: .un :: .un :: .un :: .un :: .un :: .be 1 0 0 :: vi s0 :: .un :: .un :: .un :: .un :: .un :: .un :: .un :: .un :: .un :: .un :: .un :: .un :: .un :: .un :: .un :: .un :: .un :: .un :: .un :: .un :: .un :: .un :: .un :: .un :: .un :: .un :: .un :: .un :: .un :: .un :: .un :: .un :: .un :: .un :: .un :: .un :: .un :: .un :: .un :: .un :: .un :: .un :: .un :: .un :: .un :: .un :: .un :: .un :: .un :: .un :: .un :: .un :: .un :: .un :: .un :: .un :: .un :: .un :: .un :: .un :: .un :: .un :: .un :: .un :: []), fun s0 => [some ⟨35, 3, [[.sl (n.legs.map cLeg), .sl (n.off.map cInt), vi n.change]]⟩, some ⟨55, 2, [[vi 0, vi 0]]⟩]⟩
def m_spec_l6Step (n : YNetwork) (l : List YBooking) (closed : List YTrip) (weight : Int) (places : List ByteArray) (before : List Int) (from6_ : Int) (to_ : Int) (ends : Int) : Option YTrip :=
 (iterF (m_spec_l6Step_b0 n l closed weight places before from6_ to_ ends) NN 0).bind (selim (fun o0 =>
 some (⟨0, 0⟩ : YTrip)) (fun r => some r))
theorem ok_spec_l6Step (n : YNetwork) (l : List YBooking) (closed : List YTrip) (weight : Int) (places : List ByteArray) (before : List Int) (from6_ : Int) (to_ : Int) (ends : Int) {r : YTrip} (H : m_spec_l6Step n l closed weight places before from6_ to_ ends = some r) : CallM Tryz.prog 196 [.ag (cNetwork n), .sl (l.map cBooking), .sl (closed.map cTrip), vi weight, .sl (places.map cStr), .sl (before.map cInt), vi from6_, vi to_, vi ends] [] (.ag [vi r.leg, vi r.day]) [] := by
  replace H := H0 H
  unfold m_spec_l6Step at H
  refine callM_of Tryz.func196 rfl Tryz.ntmps196 Tryz.results196 fun Q hQ hQn => ?_
  exact wk2
instance (n : YNetwork) (l : List YBooking) (closed : List YTrip) (weight : Int) (places : List ByteArray) (before : List Int) (from6_ : Int) (to_ : Int) (ends : Int) : CT Tryz.prog (m_spec_l6Step n l closed weight places before from6_ to_ ends) := ⟨196, [.ag (cNetwork n), .sl (l.map cBooking), .sl (closed.map cTrip), vi weight, .sl (places.map cStr), .sl (before.map cInt), vi from6_, vi to_, vi ends], [], fun r => .ag [vi r.leg, vi r.day], fun r => [], ok_spec_l6Step n l closed weight places before from6_ to_ ends⟩
end Go.Proofs.YtmcdjilbkmhfoaaGreat

/- The mirror of spec_FindRoom, and that the code does just that (printed by a program of my own). -/
namespace Go.Proofs.YtmcdjilbkmhfoaaGreat
set_option maxRecDepth 10000
open Go.RowKit
set_option linter.unusedVariables false
set_option maxHeartbeats 16000000
def m_spec_FindRoom_b0 (n : YNetwork) (l : List YBooking) (closed : List YTrip) (from3_ : ByteArray) (at5_ : Int) (weight : Int) (y1 : (List ByteArray)) (y2 : Int) (y3 : Int) (y6 : Int) (s0 : Int) : Option (Int ⊕ Int) :=
 (m_spec_BestFree n l closed from3_ at5_ weight s0).bind fun y7 =>
 (getI y7 y3).bind fun y8 =>
 cond (!decide (y8 = y6))
 (some (.inl (w64 (s0 + 1))))
 (some (.inr s0))
instance (n : YNetwork) (l : List YBooking) (closed : List YTrip) (from3_ : ByteArray) (at5_ : Int) (weight : Int) (y1 : (List ByteArray)) (y2 : Int) (y3 : Int) (y6 : Int) : LoopE (m_spec_FindRoom_b0 n l closed from3_ at5_ weight y1 y2 y3 y6) := ⟨fun s0 => (.un :: .sl (l.map cBooking) :: .sl (closed.map cTrip) :: vs from3_ :: .un :: vi at5_ :: vi weight :: .be 0 0 0 :: .un :: .un :: .un :: .un :: .un :: .un :: .un :: .un :: .ms 1 :: vi y2 :: vi y3 :: .un :: .ms 2 :: vi y6 :: vi s0 :: .un :: .un :: .un :: .un :: .un :: .un :: .un :: .un :: .un :: .un :: .un :: .un :: .un :: .un :: .un :: .un :: .un :: .un :: .un :: .un :: .un :: .un :: .un :: .un :: .un :: .un :: .un :: .un :: .un :: .un :: .un :: .un :: .un :: .un :: .un :: .un :: .un :: .un :: .un :: .un :: .un :: .un :: .un :: .un :: .un :: .un :: .un :: .un :: .un :: .un :: .un :: .un :: .un :: .un :: .un :: .un :: .un :: .un :: .un :: .un :: .un :: .un :: .un :: .un :: .un :: .un :: .un :: .un :: .un :: .un :: .un :: .un :: .un :: .un :: .un :: .un :: .un :: .un :: .un :: .un :: .un :: .un :: .un :: .un :: .un :: .un :: .un :: .un :: .un :: .un :: .un :: .un :: .un :: .un :: .un :: .un :: .un :: []), fun s0 => [some ⟨35, 3, [[.sl (n.legs.map cLeg), .sl (n.off.map cInt), vi n.change]]⟩, some ⟨9, 1, y1.map cStr⟩, some ⟨55, 2, ([] : List YTrip).map cTrip⟩]⟩
def m_spec_FindRoom_b1 (n : YNetwork) (l : List YBooking) (closed : List YTrip) (from3_ : ByteArray) (at5_ : Int) (weight : Int) (y1 : (List ByteArray)) (y2 : Int) (s1 : Int × Int × Int × (List YTrip)) : Option ((Int × Int × Int × (List YTrip)) ⊕ (List YTrip)) :=
 cond (decide (0 < s1.2.2.1))
 ((m_spec_BestFree n l closed from3_ at5_ weight (w64 (s1.2.2.1 - 1))).bind fun y9 =>
 (m_spec_l6Step n l closed weight y1 y9 y2 s1.1 s1.2.1).bind fun y10 =>
 (chk (appOk (([y10] : List YTrip).length + (s1.2.2.2 : List YTrip).length) 16)).bind fun _ =>
 (getI n.legs y10.leg).bind fun y11 =>
 (m_spec_l4Index y1 y11.from_).bind fun y12 =>
 (getI y9 y12).bind fun y13 =>
 some (.inl (y12, y13, (w64 (s1.2.2.1 - 1)), (([y10] : List YTrip) ++ s1.2.2.2))))
 (some (.inr s1.2.2.2))
instance (n : YNetwork) (l : List YBooking) (closed : List YTrip) (from3_ : ByteArray) (at5_ : Int) (weight : Int) (y1 : (List ByteArray)) (y2 : Int) : LoopE (m_spec_FindRoom_b1 n l closed from3_ at5_ weight y1 y2) := ⟨fun s1 => (.un :: .sl (l.map cBooking) :: .sl (closed.map cTrip) :: vs from3_ :: .un :: vi at5_ :: vi weight :: .be 0 0 0 :: .un :: .un :: .un :: .un :: .un :: .un :: .un :: .un :: .ms 1 :: vi y2 :: vi s1.1 :: .un :: .ms 2 :: vi s1.2.1 :: .un :: vi s1.2.2.1 :: .un :: .un :: .un :: .un :: .un :: .un :: .un :: .un :: .un :: .un :: .un :: .un :: .un :: .un :: .un :: .un :: .un :: .un :: .un :: .un :: .un :: .un :: .un :: .un :: .un :: .un :: .un :: .un :: .un :: .un :: .un :: .un :: .un :: .un :: .un :: .un :: .un :: .un :: .un :: .un :: .un :: .un :: .un :: .un :: .un :: .un :: .un :: .un :: .un :: .un :: .un :: .un :: .un :: .un :: .un :: .un :: .un :: .un :: .un :: .un :: .un :: .un :: .un :: .un :: .un :: .un :: .un :: .un :: .un :: .un :: .un :: .un :: .un :: .un :: .un :: .un :: .un :: .un :: .un :: .un :: .un :: .un :: .un :: .un :: .un :: .un :: .un :: .un :: .un :: .un :: .un :: .un :: .un :: .un :: .un :: .un :: []), fun s1 => [some ⟨35, 3, [[.sl (n.legs.map cLeg), .sl (n.off.map cInt), vi n.change]]⟩, some ⟨9, 1, y1.map cStr⟩, some ⟨55, 2, s1.2.2.2.map cTrip⟩]⟩
def m_spec_FindRoom (n : YNetwork) (l : List YBooking) (closed : List YTrip) (from3_ : ByteArray) (to_ : ByteArray) (at5_ : Int) (weight : Int) : Option ((List YTrip) × Bool) :=
 (m_spec_PlacesOf n).bind fun y1 =>
 (m_spec_l4Index y1 from3_).bind fun y2 =>
 (m_spec_l4Index y1 to_).bind fun y3 =>
 (m_spec_BestFree n l closed from3_ at5_ weight (y1.length : Int)).bind fun y4 =>
 cond (decide (y3 < 0))
 (some (([] : List YTrip), false))
 (cond (decide ((y4.length : Int) = 0))
 (some (([] : List YTrip), false))
 ((getI y4 y3).bind fun y5 =>
 cond (decide (y5 < 0))
 (some (([] : List YTrip), false))
 ((getI y4 y3).bind fun y6 =>
 (iterF (m_spec_FindRoom_b0 n l closed from3_ at5_ weight y1 y2 y3 y6) NN 0).bind (fun o0 =>
 (iterF (m_spec_FindRoom_b1 n l closed from3_ at5_ weight y1 y2) NN (y3, y6, o0, ([] : List YTrip))).bind (fun o1 =>
 some (o1, true))))))
theorem ok_spec_FindRoom (n : YNetwork) (l : List YBooking) (closed : List YTrip) (from3_ : ByteArray) (to_ : ByteArray) (at5_ : Int) (weight : Int) {r : (List YTrip) × Bool} (H : m_spec_FindRoom n l closed from3_ to_ at5_ weight = some r) : CallM Tryz.prog 130 [.ag (cNetwork n), .sl (l.map cBooking), .sl (closed.map cTrip), vs from3_, vs to_, vi at5_, vi weight] [] (.tu [.ms 0, vb r.2]) [some ⟨55, 2, r.1.map cTrip⟩] := by
  replace H := H0 H
  unfold m_spec_FindRoom at H
  refine callM_of Tryz.func130 rfl Tryz.ntmps130 Tryz.results130 fun Q hQ hQn => ?_
  exact wk2
instance (n : YNetwork) (l : List YBooking) (closed : List YTrip) (from3_ : ByteArray) (to_ : ByteArray) (at5_ : Int) (weight : Int) : CT Tryz.prog (m_spec_FindRoom n l closed from3_ to_ at5_ weight) := ⟨130, [.ag (cNetwork n), .sl (l.map cBooking), .sl (closed.map cTrip), vs from3_, vs to_, vi at5_, vi weight], [], fun r => .tu [.ms 0, vb r.2], fun r => [some ⟨55, 2, r.1.map cTrip⟩], ok_spec_FindRoom n l closed from3_ to_ at5_ weight⟩
end Go.Proofs.YtmcdjilbkmhfoaaGreat

/- The mirror of spec_l6Add, and that the code does just that (printed by a program of my own). -/
namespace Go.Proofs.YtmcdjilbkmhfoaaGreat
set_option maxRecDepth 10000
open Go.RowKit
set_option linter.unusedVariables false
set_option maxHeartbeats 16000000
def m_spec_l6Add_b0 (l : List YBooking) (b : YBooking) (s0 : Int) : Option (Int ⊕ Int) :=
 cond (decide (s0 < (l.length : Int)))
 ((getI l s0).bind fun y1 =>
 (m_spec_l6Before y1 b).bind fun y2 =>
 cond y2
 (some (.inl (w64 (s0 + 1))))
 (some (.inr s0)))
 (some (.inr s0))
instance (l : List YBooking) (b : YBooking) : LoopE (m_spec_l6Add_b0 l b) := ⟨fun s0 => [.sl (l.map cBooking), .un, .un, .be 0 0 0, .un, vi s0, .un, .un, .un, .un, .un, .un, .un, .un, .un, .un, .un, .un, .un, .un, .un, .un, .un, .un, .un, .un, .un, .un, .un, .un, .un], fun s0 => [some ⟨135, 4, [[vi b.thing, vi b.trip.leg, vi b.trip.day, vi b.weight]]⟩]⟩
def m_spec_l6Add (l : List YBooking) (b : YBooking) : Option (List YBooking) :=
 (iterF (m_spec_l6Add_b0 l b) NN 0).bind (fun o0 =>
 (chk (slOk 0 o0 l.length)).bind fun _ =>
 (m_spec_l6Copy (subL l 0 o0)).bind fun y3 =>
 (chk (appOk ((y3 : List YBooking).length + ([b] : List YBooking).length) 32)).bind fun _ =>
 (chk (slOk o0 (l.length : Int) l.length)).bind fun _ =>
 (chk (appOk ((((y3 : List YBooking) ++ [b]) : List YBooking).length + ((subL l o0 (l.length : Int)) : List YBooking).length) 32)).bind fun _ =>
 some ((((y3 : List YBooking) ++ [b]) : List YBooking) ++ (subL l o0 (l.length : Int))))
theorem ok_spec_l6Add (l : List YBooking) (b : YBooking) {r : (List YBooking)} (H : m_spec_l6Add l b = some r) : CallM Tryz.prog 197 [.sl (l.map cBooking), .ag (cBooking b)] [] (.ms 0) [some ⟨135, 4, r.map cBooking⟩] := by
  replace H := H0 H
  unfold m_spec_l6Add at H
  refine callM_of Tryz.func197 rfl Tryz.ntmps197 Tryz.results197 fun Q hQ hQn => ?_
  exact wk2
instance (l : List YBooking) (b : YBooking) : CT Tryz.prog (m_spec_l6Add l b) := ⟨197, [.sl (l.map cBooking), .ag (cBooking b)], [], fun r => .ms 0, fun r => [some ⟨135, 4, r.map cBooking⟩], ok_spec_l6Add l b⟩
end Go.Proofs.YtmcdjilbkmhfoaaGreat

/- The mirror of spec_BookWay, and that the code does just that (printed by a program of my own). -/
namespace Go.Proofs.YtmcdjilbkmhfoaaGreat
set_option maxRecDepth 10000
open Go.RowKit
set_option linter.unusedVariables false
set_option maxHeartbeats 16000000
def m_spec_BookWay_b0 (n : YNetwork) (l : List YBooking) (thing : Int) (weight : Int) (way : List YTrip) (s0 : Int × (List YBooking)) : Option ((Int × (List YBooking)) ⊕ (List YBooking)) :=
 cond (decide (s0.1 < (way.length : Int)))
 ((getI way s0.1).bind fun y3 =>
 (m_spec_l6Add s0.2 (⟨thing, y3, weight⟩ : YBooking)).bind fun y4 =>
 some (.inl ((w64 (s0.1 + 1)), y4)))
 (some (.inr s0.2))
instance (n : YNetwork) (l : List YBooking) (thing : Int) (weight : Int) (way : List YTrip) : LoopE (m_spec_BookWay_b0 n l thing weight way) := ⟨fun s0 => [.un, .sl (l.map cBooking), vi thing, vi weight, .sl (way.map cTrip), .be 0 0 0, .un, .un, .un, .un, .un, .un, .ms 1, vi s0.1, .un, .un, .un, .un, .un, .un, .un, .un, .un, .un, .un, .un, .un, .un, .un, .un, .un, .un, .un, .un, .un, .un, .un, .un, .un, .un, .un, .un, .un, .un, .un, .un, .un, .un], fun s0 => [some ⟨35, 3, [[.sl (n.legs.map cLeg), .sl (n.off.map cInt), vi n.change]]⟩, some ⟨135, 4, s0.2.map cBooking⟩]⟩
def m_spec_BookWay (n : YNetwork) (l : List YBooking) (thing : Int) (weight : Int) (way : List YTrip) : Option ((List YBooking) × Bool) :=
 (m_spec_l6Copy l).bind fun y1 =>
 (m_spec_AreBookings n l).bind fun y2 =>
 cond (!y2)
 (some (y1, false))
 (cond (decide (20 < (way.length : Int)))
 (some (y1, false))
 ((iterF (m_spec_BookWay_b0 n l thing weight way) NN (0, y1)).bind (fun o0 =>
 (m_spec_AreBookings n o0).bind fun y5 =>
 cond (!y5)
 ((m_spec_l6Copy l).bind fun y6 =>
 some (y6, false))
 (some (o0, true)))))
theorem ok_spec_BookWay (n : YNetwork) (l : List YBooking) (thing : Int) (weight : Int) (way : List YTrip) {r : (List YBooking) × Bool} (H : m_spec_BookWay n l thing weight way = some r) : CallM Tryz.prog 131 [.ag (cNetwork n), .sl (l.map cBooking), vi thing, vi weight, .sl (way.map cTrip)] [] (.tu [.ms 0, vb r.2]) [some ⟨135, 4, r.1.map cBooking⟩] := by
  replace H := H0 H
  unfold m_spec_BookWay at H
  refine callM_of Tryz.func131 rfl Tryz.ntmps131 Tryz.results131 fun Q hQ hQn => ?_
  exact wk2
instance (n : YNetwork) (l : List YBooking) (thing : Int) (weight : Int) (way : List YTrip) : CT Tryz.prog (m_spec_BookWay n l thing weight way) := ⟨131, [.ag (cNetwork n), .sl (l.map cBooking), vi thing, vi weight, .sl (way.map cTrip)], [], fun r => .tu [.ms 0, vb r.2], fun r => [some ⟨135, 4, r.1.map cBooking⟩], ok_spec_BookWay n l thing weight way⟩
end Go.Proofs.YtmcdjilbkmhfoaaGreat

/- The mirror of spec_DropFrom, and that the code does just that (printed by a program of my own). -/
namespace Go.Proofs.YtmcdjilbkmhfoaaGreat
set_option maxRecDepth 10000
open Go.RowKit
set_option linter.unusedVariables false
set_option maxHeartbeats 16000000
def m_spec_DropFrom_b0 (n : YNetwork) (l : List YBooking) (thing : Int) (at3_ : Int) (y1 : Bool) (s0 : Int × (List YBooking)) : Option ((Int × (List YBooking)) ⊕ (List YBooking)) :=
 cond (decide (s0.1 < (l.length : Int)))
 (cond (!y1)
 ((getI l s0.1).bind fun y2 =>
 (chk (appOk ((s0.2 : List YBooking).length + ([y2] : List YBooking).length) 32)).bind fun _ =>
 some (.inl ((w64 (s0.1 + 1)), ((s0.2 : List YBooking) ++ [y2]))))
 ((getI l s0.1).bind fun y3 =>
 cond (!decide (y3.thing = thing))
 ((getI l s0.1).bind fun y4 =>
 (chk (appOk ((s0.2 : List YBooking).length + ([y4] : List YBooking).length) 32)).bind fun _ =>
 some (.inl ((w64 (s0.1 + 1)), ((s0.2 : List YBooking) ++ [y4]))))
 ((getI l s0.1).bind fun y5 =>
 (m_spec_l3Starts n y5.trip).bind fun y6 =>
 cond (decide (y6 < at3_))
 ((getI l s0.1).bind fun y7 =>
 (chk (appOk ((s0.2 : List YBooking).length + ([y7] : List YBooking).length) 32)).bind fun _ =>
 some (.inl ((w64 (s0.1 + 1)), ((s0.2 : List YBooking) ++ [y7]))))
 (some (.inl ((w64 (s0.1 + 1)), s0.2))))))
 (some (.inr s0.2))
instance (n : YNetwork) (l : List YBooking) (thing : Int) (at3_ : Int) (y1 : Bool) : LoopE (m_spec_DropFrom_b0 n l thing at3_ y1) := ⟨fun s0 => [.un, .sl (l.map cBooking), vi thing, vi at3_, .be 0 0 0, .un, .un, .un, .un, .ms 1, vb y1, vi s0.1, .un, .un, .un, .un, .un, .un, .un, .un, .un, .un, .un, .un, .un, .un, .un, .un, .un, .un, .un, .un, .un, .un, .un, .un, .un, .un, .un, .un, .un, .un, .un, .un, .un, .un, .un, .un, .un, .un, .un, .un], fun s0 => [some ⟨35, 3, [[.sl (n.legs.map cLeg), .sl (n.off.map cInt), vi n.change]]⟩, some ⟨135, 4, s0.2.map cBooking⟩]⟩
def m_spec_DropFrom (n : YNetwork) (l : List YBooking) (thing : Int) (at3_ : Int) : Option (List YBooking) :=
 (m_spec_AreBookings n l).bind fun y1 =>
 (iterF (m_spec_DropFrom_b0 n l thing at3_ y1) NN (0, ([] : List YBooking))).bind (fun o0 =>
 some o0)
theorem ok_spec_DropFrom (n : YNetwork) (l : List YBooking) (thing : Int) (at3_ : Int) {r : (List YBooking)} (H : m_spec_DropFrom n l thing at3_ = some r) : CallM Tryz.prog 191 [.ag (cNetwork n), .sl (l.map cBooking), vi thing, vi at3_] [] (.ms 0) [some ⟨135, 4, r.map cBooking⟩] := by
  replace H := H0 H
  unfold m_spec_DropFrom at H
  refine callM_of Tryz.func191 rfl Tryz.ntmps191 Tryz.results191 fun Q hQ hQn => ?_
  exact wk2
instance (n : YNetwork) (l : List YBooking) (thing : Int) (at3_ : Int) : CT Tryz.prog (m_spec_DropFrom n l thing at3_) := ⟨191, [.ag (cNetwork n), .sl (l.map cBooking), vi thing, vi at3_], [], fun r => .ms 0, fun r => [some ⟨135, 4, r.map cBooking⟩], ok_spec_DropFrom n l thing at3_⟩
end Go.Proofs.YtmcdjilbkmhfoaaGreat

/- The mirror of spec_l3Next, and that the code does just that (printed by a program of my own). -/
namespace Go.Proofs.YtmcdjilbkmhfoaaGreat
set_option maxRecDepth 10000
open Go.RowKit
set_option linter.unusedVariables false
set_option maxHeartbeats 16000000
def m_spec_l3Next_b0 (n : YNetwork) (leg : Int) (at2_ : Int) (s0 : Int) : Option (Int ⊕ (Unit ⊕ Int)) :=
 cond (decide (s0 ≤ 60))
 ((m_spec_l3Runs n leg s0).bind fun y1 =>
 cond y1
 ((m_spec_l3Starts n (⟨leg, s0⟩ : YTrip)).bind fun y2 =>
 cond (decide (at2_ ≤ y2))
 (some (.inr (.inr s0)))
 (some (.inl (w64 (s0 + 1)))))
 (some (.inl (w64 (s0 + 1)))))
 (some (.inr (.inl ())))
instance (n : YNetwork) (leg : Int) (at2_ : Int) : LoopE (m_spec_l3Next_b0 n leg at2_) := ⟨fun s0 => [.un, vi leg, vi at2_, .be 0 0 0, .un, .un, .un, vi s0, .un, .un, .un, .un, .un, .un, .un, .un, .un, .un, .un, .un, .un, .un, .un, .un, .un, .un], fun s0 => [some ⟨35, 3, [[.sl (n.legs.map cLeg), .sl (n.off.map cInt), vi n.change]]⟩]⟩
def m_spec_l3Next (n : YNetwork) (leg : Int) (at2_ : Int) : Option Int :=
 (iterF (m_spec_l3Next_b0 n leg at2_) NN 0).bind (selim (fun o0 =>
 some (-1)) (fun r => some r))
theorem ok_spec_l3Next (n : YNetwork) (leg : Int) (at2_ : Int) {r : Int} (H : m_spec_l3Next n leg at2_ = some r) : CallM Tryz.prog 247 [.ag (cNetwork n), vi leg, vi at2_] [] (vi r) [] := by
  replace H := H0 H
  unfold m_spec_l3Next at H
  refine callM_of Tryz.func247 rfl Tryz.ntmps247 Tryz.results247 fun Q hQ hQn => ?_
  exact wk2
instance (n : YNetwork) (leg : Int) (at2_ : Int) : CT Tryz.prog (m_spec_l3Next n leg at2_) := ⟨247, [.ag (cNetwork n), vi leg, vi at2_], [], fun r => vi r, fun r => [], ok_spec_l3Next n leg at2_⟩
end Go.Proofs.YtmcdjilbkmhfoaaGreat

/- The mirror of spec_l4Round, and that the code does just that (printed by a program of my own). -/
namespace Go.Proofs.YtmcdjilbkmhfoaaGreat
set_option maxRecDepth 10000
open Go.RowKit
set_option linter.unusedVariables false
set_option maxHeartbeats 16000000
def m_spec_l4Round_b0 (n : YNetwork) (places : List ByteArray) (best : List Int) (from3_ : Int) (s0 : Int × (List Int)) : Option ((Int × (List Int)) ⊕ (List Int)) :=
 cond (decide (s0.1 < (n.legs.length : Int)))
 ((getI n.legs s0.1).bind fun y2 =>
 (m_spec_l4Index places y2.from_).bind fun y3 =>
 (getI n.legs s0.1).bind fun y4 =>
 (m_spec_l4Index places y4.to_).bind fun y5 =>
 (getI best y3).bind fun y6 =>
 cond (decide (y6 < 0))
 (some (.inl ((w64 (s0.1 + 1)), s0.2)))
 ((getI best y3).bind fun y7 =>
 (m_spec_l4Ready n y7 (decide (y3 = from3_))).bind fun y8 =>
 (m_spec_l3Next n s0.1 y8).bind fun y9 =>
 cond (decide (y9 < 0))
 (some (.inl ((w64 (s0.1 + 1)), s0.2)))
 ((m_spec_l3Ends n (⟨s0.1, y9⟩ : YTrip)).bind fun y10 =>
 (getI s0.2 y5).bind fun y11 =>
 cond (decide (y11 < 0))
 ((getI s0.2 y5).bind fun y12 =>
 some (.inl ((w64 (s0.1 + 1)), (s0.2.set (Int.toNat y5) y10))))
 ((getI s0.2 y5).bind fun y13 =>
 cond (decide (y10 < y13))
 ((getI s0.2 y5).bind fun y14 =>
 some (.inl ((w64 (s0.1 + 1)), (s0.2.set (Int.toNat y5) y10))))
 (some (.inl ((w64 (s0.1 + 1)), s0.2)))))))
 (some (.inr s0.2))
instance (n : YNetwork) (places : List ByteArray) (best : List Int) (from3_ : Int) : LoopE (m_spec_l4Round_b0 n places best from3_) := ⟨fun s0 => (.un :: .sl (places.map cStr) :: .sl (best.map cInt) :: vi from3_ :: .be 0 0 0 :: .un :: .un :: .un :: .un :: .ms 1 :: vi s0.1 :: .un :: .un :: .un :: .un :: .un :: .un :: .un :: .un :: .un :: .un :: .un :: .un :: .un :: .un :: .un :: .un :: .un :: .un :: .un :: .un :: .un :: .un :: .un :: .un :: .un :: .un :: .un :: .un :: .un :: .un :: .un :: .un :: .un :: .un :: .un :: .un :: .un :: .un :: .un :: .un :: .un :: .un :: .un :: .un :: .un :: .un :: .un :: .un :: .un :: .un :: .un :: .un :: .un :: .un :: .un :: .un :: .un :: .un :: .un :: .un :: .un :: .un :: .un :: .un :: .un :: .un :: .un :: .un :: .un :: .un :: .un :: []), fun s0 => [some ⟨35, 3, [[.sl (n.legs.map cLeg), .sl (n.off.map cInt), vi n.change]]⟩, some ⟨3, 1, s0.2.map cInt⟩]⟩
def m_spec_l4Round (n : YNetwork) (places : List ByteArray) (best : List Int) (from3_ : Int) : Option (List Int) :=
 (m_spec_l1Ints best).bind fun y1 =>
 (iterF (m_spec_l4Round_b0 n places best from3_) NN (0, y1)).bind (fun o0 =>
 some o0)
theorem ok_spec_l4Round (n : YNetwork) (places : List ByteArray) (best : List Int) (from3_ : Int) {r : (List Int)} (H : m_spec_l4Round n places best from3_ = some r) : CallM Tryz.prog 258 [.ag (cNetwork n), .sl (places.map cStr), .sl (best.map cInt), vi from3_] [] (.ms 0) [some ⟨3, 1, r.map cInt⟩] := by
  replace H := H0 H
  unfold m_spec_l4Round at H
  refine callM_of Tryz.func258 rfl Tryz.ntmps258 Tryz.results258 fun Q hQ hQn => ?_
  exact wk2
instance (n : YNetwork) (places : List ByteArray) (best : List Int) (from3_ : Int) : CT Tryz.prog (m_spec_l4Round n places best from3_) := ⟨258, [.ag (cNetwork n), .sl (places.map cStr), .sl (best.map cInt), vi from3_], [], fun r => .ms 0, fun r => [some ⟨3, 1, r.map cInt⟩], ok_spec_l4Round n places best from3_⟩
end Go.Proofs.YtmcdjilbkmhfoaaGreat

/- The mirror of spec_BestArrivals, and that the code does just that (printed by a program of my own). -/
namespace Go.Proofs.YtmcdjilbkmhfoaaGreat
set_option maxRecDepth 10000
open Go.RowKit
set_option linter.unusedVariables false
set_option maxHeartbeats 16000000
def m_spec_BestArrivals_b0 (n : YNetwork) (legs : Int) (y1 : (List ByteArray)) (y2 : Int) (s0 : Int × (List Int)) : Option ((Int × (List Int)) ⊕ (List Int)) :=
 cond (decide (s0.1 < legs))
 (cond (decide (s0.1 < (y1.length : Int)))
 ((m_spec_l4Round n y1 s0.2 y2).bind fun y5 =>
 some (.inl ((w64 (s0.1 + 1)), y5)))
 (some (.inr s0.2)))
 (some (.inr s0.2))
instance (n : YNetwork) (legs : Int) (y1 : (List ByteArray)) (y2 : Int) : LoopE (m_spec_BestArrivals_b0 n legs y1 y2) := ⟨fun s0 => [.un, .un, .un, vi legs, .be 0 0 0, .un, .un, .un, .un, .ms 1, vi y2, .ms 2, vi s0.1, .un, .un, .un, .un, .un, .un, .un, .un, .un, .un, .un, .un, .un, .un, .un, .un, .un, .un, .un, .un, .un, .un, .un, .un, .un, .un, .un, .un, .un, .un, .un, .un, .un, .un, .un, .un, .un, .un, .un, .un, .un, .un], fun s0 => [some ⟨35, 3, [[.sl (n.legs.map cLeg), .sl (n.off.map cInt), vi n.change]]⟩, some ⟨9, 1, y1.map cStr⟩, some ⟨3, 1, s0.2.map cInt⟩]⟩
def m_spec_BestArrivals (n : YNetwork) (from1_ : ByteArray) (at2_ : Int) (legs : Int) : Option (List Int) :=
 (m_spec_PlacesOf n).bind fun y1 =>
 (m_spec_l4Index y1 from1_).bind fun y2 =>
 (m_spec_IsNetwork n).bind fun y3 =>
 cond (!y3)
 (some ([] : List Int))
 (cond (decide (y2 < 0))
 (some ([] : List Int))
 (cond (decide (100000 < at2_))
 (some ([] : List Int))
 (cond (decide (legs < 0))
 (some ([] : List Int))
 ((m_spec_l4First y1 y2 at2_).bind fun y4 =>
 (iterF (m_spec_BestArrivals_b0 n legs y1 y2) NN (0, y4)).bind (fun o0 =>
 some o0)))))
theorem ok_spec_BestArrivals (n : YNetwork) (from1_ : ByteArray) (at2_ : Int) (legs : Int) {r : (List Int)} (H : m_spec_BestArrivals n from1_ at2_ legs = some r) : CallM Tryz.prog 237 [.ag (cNetwork n), vs from1_, vi at2_, vi legs] [] (.ms 0) [some ⟨3, 1, r.map cInt⟩] := by
  replace H := H0 H
  unfold m_spec_BestArrivals at H
  refine callM_of Tryz.func237 rfl Tryz.ntmps237 Tryz.results237 fun Q hQ hQn => ?_
  exact wk2
instance (n : YNetwork) (from1_ : ByteArray) (at2_ : Int) (legs : Int) : CT Tryz.prog (m_spec_BestArrivals n from1_ at2_ legs) := ⟨237, [.ag (cNetwork n), vs from1_, vi at2_, vi legs], [], fun r => .ms 0, fun r => [some ⟨3, 1, r.map cInt⟩], ok_spec_BestArrivals n from1_ at2_ legs⟩
end Go.Proofs.YtmcdjilbkmhfoaaGreat

/- The mirror of spec_EarliestAt, and that the code does just that (printed by a program of my own). -/
namespace Go.Proofs.YtmcdjilbkmhfoaaGreat
set_option maxRecDepth 10000
open Go.RowKit
set_option linter.unusedVariables false
set_option maxHeartbeats 16000000
def m_spec_EarliestAt (n : YNetwork) (from1_ : ByteArray) (to_ : ByteArray) (at3_ : Int) : Option Int :=
 (m_spec_PlacesOf n).bind fun y1 =>
 (m_spec_l4Index y1 to_).bind fun y2 =>
 (m_spec_BestArrivals n from1_ at3_ (y1.length : Int)).bind fun y3 =>
 cond (decide (y2 < 0))
 (some (-1))
 (cond (decide ((y3.length : Int) = 0))
 (some (-1))
 ((getI y3 y2).bind fun y4 =>
 some y4))
theorem ok_spec_EarliestAt (n : YNetwork) (from1_ : ByteArray) (to_ : ByteArray) (at3_ : Int) {r : Int} (H : m_spec_EarliestAt n from1_ to_ at3_ = some r) : CallM Tryz.prog 198 [.ag (cNetwork n), vs from1_, vs to_, vi at3_] [] (vi r) [] := by
  replace H := H0 H
  unfold m_spec_EarliestAt at H
  refine callM_of Tryz.func198 rfl Tryz.ntmps198 Tryz.results198 fun Q hQ hQn => ?_
  exact wk2
instance (n : YNetwork) (from1_ : ByteArray) (to_ : ByteArray) (at3_ : Int) : CT Tryz.prog (m_spec_EarliestAt n from1_ to_ at3_) := ⟨198, [.ag (cNetwork n), vs from1_, vs to_, vi at3_], [], fun r => vi r, fun r => [], ok_spec_EarliestAt n from1_ to_ at3_⟩
end Go.Proofs.YtmcdjilbkmhfoaaGreat

/- The mirror of spec_PromiseOf, and that the code does just that (printed by a program of my own). -/
namespace Go.Proofs.YtmcdjilbkmhfoaaGreat
set_option maxRecDepth 10000
open Go.RowKit
set_option linter.unusedVariables false
set_option maxHeartbeats 16000000
def m_spec_PromiseOf (n : YNetwork) (service : Int) (from2_ : ByteArray) (to_ : ByteArray) (at4_ : Int) : Option Int :=
 (m_spec_EarliestAt n from2_ to_ at4_).bind fun y1 =>
 cond (decide (y1 < 0))
 (some (-1))
 ((m_spec_l1In service 1 3).bind fun y2 =>
 cond (!y2)
 (some (-1))
 (cond (decide (1080 < (Int.tmod y1 1440)))
 (some (w64 ((w64 ((w64 ((w64 ((IntKind.i64.wrap (Int.tdiv y1 1440)) + 1)) + (w64 ((w64 (service - 1)) * (w64 (service - 1)))))) * 1440)) + 1080)))
 (some (w64 ((w64 ((w64 ((IntKind.i64.wrap (Int.tdiv y1 1440)) + (w64 ((w64 (service - 1)) * (w64 (service - 1)))))) * 1440)) + 1080)))))
theorem ok_spec_PromiseOf (n : YNetwork) (service : Int) (from2_ : ByteArray) (to_ : ByteArray) (at4_ : Int) {r : Int} (H : m_spec_PromiseOf n service from2_ to_ at4_ = some r) : CallM Tryz.prog 132 [.ag (cNetwork n), vi service, vs from2_, vs to_, vi at4_] [] (vi r) [] := by
  replace H := H0 H
  unfold m_spec_PromiseOf at H
  refine callM_of Tryz.func132 rfl Tryz.ntmps132 Tryz.results132 fun Q hQ hQn => ?_
  exact wk2
instance (n : YNetwork) (service : Int) (from2_ : ByteArray) (to_ : ByteArray) (at4_ : Int) : CT Tryz.prog (m_spec_PromiseOf n service from2_ to_ at4_) := ⟨132, [.ag (cNetwork n), vi service, vs from2_, vs to_, vi at4_], [], fun r => vi r, fun r => [], ok_spec_PromiseOf n service from2_ to_ at4_⟩
end Go.Proofs.YtmcdjilbkmhfoaaGreat

/- Finding room, booking, promises: the reference's functions come to an end. -/
namespace Go.Proofs.YtmcdjilbkmhfoaaGreat
set_option maxRecDepth 10000
open Go.RowKit
set_option linter.unusedVariables false
set_option linter.unusedSimpArgs false
set_option linter.unusedSectionVars false
theorem idx_lt (l : List ByteArray) (p : ByteArray) : -1 ≤ idxV l p ∧ idxV l p < l.length := by
  unfold idxV
  cases h : l.findIdx? fun y => decide (y = p) with
  | none => simp; omega
  | some k =>
    have := (List.findIdx?_eq_some_iff_getElem.1 h).1
    simp only [Option.elim]; omega
theorem idx_mem {l : List ByteArray} {p : ByteArray} (h : p ∈ l) : 0 ≤ idxV l p := by
  unfold idxV
  cases h' : l.findIdx? fun y => decide (y = p) with
  | none =>
    have := List.findIdx?_eq_none_iff.1 h' p h
    simp at this
  | some k => simp only [Option.elim]; omega
theorem legs_in {n : YNetwork} {l : YLeg} (h : l ∈ n.legs) : l.from_ ∈ placesV n ∧ l.to_ ∈ placesV n := by
  obtain ⟨i, hi, rfl⟩ := List.getElem_of_mem h
  obtain ⟨a, b⟩ := names_get hi
  unfold placesV
  exact ⟨foldS_mem.2 (.inl (List.mem_of_getElem? a)), foldS_mem.2 (.inl (List.mem_of_getElem? b))⟩
theorem len_in {α : Type} {xs : List α} {i : Int} (h : 0 ≤ i ∧ i < xs.length) : ∃ x, getI xs i = some x ∧ x ∈ xs := by
  have hlt : i.toNat < xs.length := by omega
  exact ⟨xs[i.toNat], by unfold getI; rw [if_pos h.1]; exact List.getElem?_eq_getElem hlt, List.getElem_mem hlt⟩
section
variable {n : YNetwork} (hf : NetFit n)
include hf
theorem plen : (placesV n).length ≤ 2097152 := by have := placesV_len n; have := hf.legs; omega
theorem idx_v (p : ByteArray) : m_spec_l4Index (placesV n) p = some (idxV (placesV n) p) := l4Index_v (by have := plen hf; omega) p
theorem runs_v (leg day : Int) : ∃ b, m_spec_l3Runs n leg day = some b := (runs_eq hf leg day).2
theorem l6next_tot {l : List YBooking} (hl : l.length ≤ 1048576) {closed : List YTrip} (hc : closed.length ≤ 1048576) {leg : Int} {y : YLeg} (hy : getI n.legs leg = some y) (at_ weight : Int) : Tot (m_spec_l6Next n l closed leg at_ weight) fun r => True := by
  unfold m_spec_l6Next
  have hl0 : Tot (iterF (m_spec_l6Next_b0 n l closed leg at_ weight) NN 0) fun r => True := by
    refine Tot.loop (fun k s => ∃ i : Nat, s = (i : Int) ∧ i + k = 61) (fun k s hs => ?_) NN 61 0 ⟨0, rfl, rfl⟩ (by unfold NN; omega)
    obtain ⟨i, rfl, hk⟩ := hs
    unfold m_spec_l6Next_b0
    refine Tot.cond (fun hd => ?_) fun hd => Tot.ret trivial
    have hi := of_decide_eq_true hd
    have hw : w64 ((i : Int) + 1) = ((i + 1 : Nat) : Int) := by rw [w64_in (by omega)]; omega
    have go : ∀ {σ : Type}, LoopP (fun k (s : Int) => ∃ i : Nat, s = (i : Int) ∧ i + k = 61) (fun r : Unit ⊕ Int => True) k (Sum.inl (w64 ((i : Int) + 1))) := ⟨k - 1, by omega, i + 1, hw, by omega⟩
    obtain ⟨b, hb⟩ := runs_v hf leg (i : Int)
    obtain ⟨v, hv⟩ := starts_some (n := n) (t := ⟨leg, (i : Int)⟩) hy
    obtain ⟨q, hq⟩ := loadOf_some hl (⟨leg, (i : Int)⟩ : YTrip)
    rw [hb, Option.bind_some]
    refine Tot.cond (fun _ => ?_) fun _ => Tot.ret (go (σ := Unit))
    rw [hv, Option.bind_some]
    refine Tot.cond (fun _ => ?_) fun _ => Tot.ret (go (σ := Unit))
    rw [l6Closed_eq, hasTrip_v hc, Option.bind_some]
    refine Tot.cond (fun _ => ?_) fun _ => Tot.ret (go (σ := Unit))
    rw [hy, Option.bind_some, hq, Option.bind_some]
    exact Tot.cond (fun _ => Tot.ret trivial) fun _ => Tot.ret (go (σ := Unit))
  refine Tot.bind hl0 fun r _ => ?_
  cases r with
  | inl u => exact Tot.ret trivial
  | inr v => exact Tot.ret trivial
theorem l3next_tot {leg : Int} {y : YLeg} (hy : getI n.legs leg = some y) (at_ : Int) : Tot (m_spec_l3Next n leg at_) fun r => True := by
  unfold m_spec_l3Next
  have hl0 : Tot (iterF (m_spec_l3Next_b0 n leg at_) NN 0) fun r => True := by
    refine Tot.loop (fun k s => ∃ i : Nat, s = (i : Int) ∧ i + k = 61) (fun k s hs => ?_) NN 61 0 ⟨0, rfl, rfl⟩ (by unfold NN; omega)
    obtain ⟨i, rfl, hk⟩ := hs
    unfold m_spec_l3Next_b0
    refine Tot.cond (fun hd => ?_) fun hd => Tot.ret trivial
    have hi := of_decide_eq_true hd
    have hw : w64 ((i : Int) + 1) = ((i + 1 : Nat) : Int) := by rw [w64_in (by omega)]; omega
    have go : ∀ {σ : Type}, LoopP (fun k (s : Int) => ∃ i : Nat, s = (i : Int) ∧ i + k = 61) (fun r : Unit ⊕ Int => True) k (Sum.inl (w64 ((i : Int) + 1))) := ⟨k - 1, by omega, i + 1, hw, by omega⟩
    obtain ⟨b, hb⟩ := runs_v hf leg (i : Int)
    obtain ⟨v, hv⟩ := starts_some (n := n) (t := ⟨leg, (i : Int)⟩) hy
    rw [hb, Option.bind_some]
    refine Tot.cond (fun _ => ?_) fun _ => Tot.ret (go (σ := Unit))
    rw [hv, Option.bind_some]
    exact Tot.cond (fun _ => Tot.ret trivial) fun _ => Tot.ret (go (σ := Unit))
  refine Tot.bind hl0 fun r _ => ?_
  cases r with
  | inl u => exact Tot.ret trivial
  | inr v => exact Tot.ret trivial
omit hf in
theorem ready_tot (a : Int) (b : Bool) : Tot (m_spec_l4Ready n a b) fun r => True := by
  unfold m_spec_l4Ready
  exact Tot.cond (fun _ => Tot.ret trivial) fun _ => Tot.ret trivial
omit hf in
theorem max_tot (a b : Int) : Tot (m_spec_Max a b) fun r => True := by
  unfold m_spec_Max
  exact Tot.cond (fun _ => Tot.ret trivial) fun _ => Tot.ret trivial
theorem round_tot {l : List YBooking} (hl : l.length ≤ 1048576) {closed : List YTrip} (hc : closed.length ≤ 1048576) (weight : Int) {best : List Int} (hb : best.length = (placesV n).length) (f : Int) : Tot (m_spec_l6Round n l closed weight (placesV n) best f) fun r => r.length = (placesV n).length := by
  have hp := plen hf
  have hll := hf.legs
  unfold m_spec_l6Round
  refine Tot.bind (P := fun r => r = best) ?_ fun r hr => ?_
  · by_cases h1 : best.length ≤ 1048576
    · exact Tot.of (ints_s h1) rfl
    · unfold m_spec_l1Ints
      exact Tot.chk (app_fit (by simp only [List.length_nil]; omega) (by omega)) (Tot.ret (by simp))
  · subst hr
    refine Tot.bind (P := fun o => o.length = (placesV n).length) ?_ fun o ho => Tot.ret ho
    refine Tot.loop (fun k s => ∃ i : Nat, s.1 = (i : Int) ∧ i + k = n.legs.length ∧ s.2.length = (placesV n).length) (fun k s hs => ?_) NN n.legs.length _ ⟨0, rfl, by omega, hb⟩ (by unfold NN; omega)
    obtain ⟨i, hi, hk, hlen⟩ := hs
    unfold m_spec_l6Round_b0
    rw [hi]
    refine Tot.cond (fun hd => ?_) fun hd => Tot.ret hlen
    have hlt := of_decide_eq_true hd
    have hw : w64 ((i : Int) + 1) = ((i + 1 : Nat) : Int) := by rw [w64_in (by omega)]; omega
    obtain ⟨y, hy, hm⟩ := len_in (xs := n.legs) (i := (i : Int)) ⟨by omega, hlt⟩
    obtain ⟨m1, m2⟩ := legs_in hm
    have a0 := idx_mem m1
    have a1 := (idx_lt (placesV n) y.from_).2
    have b0 := idx_mem m2
    have b1 := (idx_lt (placesV n) y.to_).2
    obtain ⟨v6, g6, _⟩ := len_in (xs := r) (i := idxV (placesV n) y.from_) ⟨a0, by omega⟩
    obtain ⟨v11, g11, _⟩ := len_in (xs := s.2) (i := idxV (placesV n) y.to_) ⟨b0, by omega⟩
    simp only [hy, Option.bind_some, idx_v hf, g6, hw]
    have go : ∀ (s' : List Int), s'.length = (placesV n).length → LoopP (fun k (s : Int × List Int) => ∃ i : Nat, s.1 = (i : Int) ∧ i + k = n.legs.length ∧ s.2.length = (placesV n).length) (fun o : List Int => o.length = (placesV n).length) k (Sum.inl (((i + 1 : Nat) : Int), s')) := fun s' h' => ⟨k - 1, by omega, i + 1, rfl, by omega, h'⟩
    refine Tot.cond (fun _ => Tot.ret (go _ hlen)) fun _ => Tot.bind (ready_tot _ _) fun y8 _ => Tot.bind (l6next_tot hf hl hc hy y8 weight) fun y9 _ => Tot.cond (fun _ => Tot.ret (go _ hlen)) fun _ => ?_
    obtain ⟨e, he⟩ := ends_some (n := n) (t := ⟨(i : Int), y9⟩) hy
    simp only [he, Option.bind_some, g11]
    exact Tot.cond (fun _ => Tot.ret (go _ (by rw [List.length_set]; exact hlen))) fun _ => Tot.cond (fun _ => Tot.ret (go _ (by rw [List.length_set]; exact hlen))) fun _ => Tot.ret (go _ hlen)
theorem round4_tot {best : List Int} (hb : best.length = (placesV n).length) (f : Int) : Tot (m_spec_l4Round n (placesV n) best f) fun r => r.length = (placesV n).length := by
  have hp := plen hf
  have hll := hf.legs
  unfold m_spec_l4Round
  refine Tot.bind (P := fun r => r = best) ?_ fun r hr => ?_
  · by_cases h1 : best.length ≤ 1048576
    · exact Tot.of (ints_s h1) rfl
    · unfold m_spec_l1Ints
      exact Tot.chk (app_fit (by simp only [List.length_nil]; omega) (by omega)) (Tot.ret (by simp))
  · subst hr
    refine Tot.bind (P := fun o => o.length = (placesV n).length) ?_ fun o ho => Tot.ret ho
    refine Tot.loop (fun k s => ∃ i : Nat, s.1 = (i : Int) ∧ i + k = n.legs.length ∧ s.2.length = (placesV n).length) (fun k s hs => ?_) NN n.legs.length _ ⟨0, rfl, by omega, hb⟩ (by unfold NN; omega)
    obtain ⟨i, hi, hk, hlen⟩ := hs
    unfold m_spec_l4Round_b0
    rw [hi]
    refine Tot.cond (fun hd => ?_) fun hd => Tot.ret hlen
    have hlt := of_decide_eq_true hd
    have hw : w64 ((i : Int) + 1) = ((i + 1 : Nat) : Int) := by rw [w64_in (by omega)]; omega
    obtain ⟨y, hy, hm⟩ := len_in (xs := n.legs) (i := (i : Int)) ⟨by omega, hlt⟩
    obtain ⟨m1, m2⟩ := legs_in hm
    have a0 := idx_mem m1
    have a1 := (idx_lt (placesV n) y.from_).2
    have b0 := idx_mem m2
    have b1 := (idx_lt (placesV n) y.to_).2
    obtain ⟨v6, g6, _⟩ := len_in (xs := r) (i := idxV (placesV n) y.from_) ⟨a0, by omega⟩
    obtain ⟨v11, g11, _⟩ := len_in (xs := s.2) (i := idxV (placesV n) y.to_) ⟨b0, by omega⟩
    simp only [hy, Option.bind_some, idx_v hf, g6, hw]
    have go : ∀ (s' : List Int), s'.length = (placesV n).length → LoopP (fun k (s : Int × List Int) => ∃ i : Nat, s.1 = (i : Int) ∧ i + k = n.legs.length ∧ s.2.length = (placesV n).length) (fun o : List Int => o.length = (placesV n).length) k (Sum.inl (((i + 1 : Nat) : Int), s')) := fun s' h' => ⟨k - 1, by omega, i + 1, rfl, by omega, h'⟩
    refine Tot.cond (fun _ => Tot.ret (go _ hlen)) fun _ => Tot.bind (ready_tot _ _) fun y8 _ => Tot.bind (l3next_tot hf hy y8) fun y9 _ => Tot.cond (fun _ => Tot.ret (go _ hlen)) fun _ => ?_
    obtain ⟨e, he⟩ := ends_some (n := n) (t := ⟨(i : Int), y9⟩) hy
    simp only [he, Option.bind_some, g11]
    exact Tot.cond (fun _ => Tot.ret (go _ (by rw [List.length_set]; exact hlen))) fun _ => Tot.cond (fun _ => Tot.ret (go _ (by rw [List.length_set]; exact hlen))) fun _ => Tot.ret (go _ hlen)
theorem first_tot (f at_ : Int) : Tot (m_spec_l4First (placesV n) f at_) fun r => r.length = (placesV n).length := by
  have hp := plen hf
  unfold m_spec_l4First
  refine Tot.bind (P := fun o => o.length = (placesV n).length) ?_ fun o ho => Tot.ret ho
  refine Tot.loop (fun k s => ∃ i : Nat, s.1 = (i : Int) ∧ i + k = (placesV n).length ∧ s.2.length = i) (fun k s hs => ?_) NN (placesV n).length _ ⟨0, rfl, by omega, rfl⟩ (by unfold NN; omega)
  obtain ⟨i, hi, hk, hlen⟩ := hs
  unfold m_spec_l4First_b0
  rw [hi]
  refine Tot.cond (fun hd => ?_) fun hd => Tot.ret (by have := of_decide_eq_false hd; simp only [LoopP]; omega)
  have hlt := of_decide_eq_true hd
  have hw : w64 ((i : Int) + 1) = ((i + 1 : Nat) : Int) := by rw [w64_in (by omega)]; omega
  rw [hw]
  have go : ∀ (x : Int), LoopP (fun k (s : Int × List Int) => ∃ i : Nat, s.1 = (i : Int) ∧ i + k = (placesV n).length ∧ s.2.length = i) (fun o : List Int => o.length = (placesV n).length) k (Sum.inl (((i + 1 : Nat) : Int), s.2 ++ [x])) := fun x => ⟨k - 1, by omega, i + 1, rfl, by omega, by simp [hlen]⟩
  refine Tot.cond (fun _ => Tot.bind (max_tot _ _) fun y _ => Tot.chk (app_fit (by simp only [List.length_cons, List.length_nil]; omega) (by omega)) (Tot.ret (go y))) fun _ => Tot.chk (app_fit (by simp only [List.length_cons, List.length_nil]; omega) (by omega)) (Tot.ret (go _))
theorem free_tot {l : List YBooking} (hl : l.length ≤ 1048576) {closed : List YTrip} (hc : closed.length ≤ 1048576) (from_ : ByteArray) (at_ weight legs : Int) :
    Tot (m_spec_BestFree n l closed from_ at_ weight legs) fun r => (r.length = (placesV n).length ∧ (booksV n l = true ∧ 0 ≤ idxV (placesV n) from_ ∧ at_ ≤ 100000 ∧ 1 ≤ weight ∧ 0 ≤ legs)) ∨ (r = [] ∧ ¬ (booksV n l = true ∧ 0 ≤ idxV (placesV n) from_ ∧ at_ ≤ 100000 ∧ 1 ≤ weight ∧ 0 ≤ legs)) := by
  have hp := plen hf
  unfold m_spec_BestFree
  rw [(places_eq hf).2]
  simp only [Option.bind_some, idx_v hf, specBooks_v hf hl]
  refine Tot.cond (fun h1 => Tot.ret (.inr ⟨rfl, fun h => by simp [h.1] at h1⟩)) fun h1 => Tot.cond (fun h2 => Tot.ret (.inr ⟨rfl, fun h => by have := of_decide_eq_true h2; omega⟩)) fun h2 => Tot.cond (fun h3 => Tot.ret (.inr ⟨rfl, fun h => by have := of_decide_eq_true h3; omega⟩)) fun h3 => Tot.cond (fun h4 => Tot.ret (.inr ⟨rfl, fun h => by have := of_decide_eq_true h4; omega⟩)) fun h4 => Tot.cond (fun h5 => Tot.ret (.inr ⟨rfl, fun h => by have := of_decide_eq_true h5; omega⟩)) fun h5 => Tot.bind (first_tot hf _ _) fun y hy => ?_
  have hbk : booksV n l = true := by simpa using h1
  have := of_decide_eq_false h2
  have := of_decide_eq_false h3
  have := of_decide_eq_false h4
  have := of_decide_eq_false h5
  refine Tot.bind (P := fun o => o.length = (placesV n).length) ?_ fun o ho => Tot.ret (.inl ⟨ho, hbk, by omega, by omega, by omega, by omega⟩)
  refine Tot.loop (fun k s => ∃ i : Nat, s.1 = (i : Int) ∧ i + k = (placesV n).length ∧ s.2.length = (placesV n).length) (fun k s hs => ?_) NN (placesV n).length _ ⟨0, rfl, by omega, hy⟩ (by unfold NN; omega)
  obtain ⟨i, hi, hk, hlen⟩ := hs
  unfold m_spec_BestFree_b0
  rw [hi]
  refine Tot.cond (fun _ => Tot.cond (fun hd => ?_) fun _ => Tot.ret hlen) fun _ => Tot.ret hlen
  have hlt := of_decide_eq_true hd
  have hw : w64 ((i : Int) + 1) = ((i + 1 : Nat) : Int) := by rw [w64_in (by omega)]; omega
  exact Tot.bind (round_tot hf hl hc weight hlen _) fun y5 h5 => Tot.ret ⟨k - 1, by omega, i + 1, hw, by omega, h5⟩
theorem arrivals_tot (from_ : ByteArray) (at_ legs : Int) : Tot (m_spec_BestArrivals n from_ at_ legs) fun r => r.length = (placesV n).length ∨ r = [] := by
  have hp := plen hf
  obtain ⟨_, b, hb⟩ := isNetwork_eq hf
  unfold m_spec_BestArrivals
  rw [(places_eq hf).2]
  simp only [Option.bind_some, idx_v hf, hb]
  refine Tot.cond (fun _ => Tot.ret (.inr rfl)) fun _ => Tot.cond (fun _ => Tot.ret (.inr rfl)) fun _ => Tot.cond (fun _ => Tot.ret (.inr rfl)) fun _ => Tot.cond (fun _ => Tot.ret (.inr rfl)) fun _ => Tot.bind (first_tot hf _ _) fun y hy => ?_
  refine Tot.bind (P := fun o => o.length = (placesV n).length) ?_ fun o ho => Tot.ret (.inl ho)
  refine Tot.loop (fun k s => ∃ i : Nat, s.1 = (i : Int) ∧ i + k = (placesV n).length ∧ s.2.length = (placesV n).length) (fun k s hs => ?_) NN (placesV n).length _ ⟨0, rfl, by omega, hy⟩ (by unfold NN; omega)
  obtain ⟨i, hi, hk, hlen⟩ := hs
  unfold m_spec_BestArrivals_b0
  rw [hi]
  refine Tot.cond (fun _ => Tot.cond (fun hd => ?_) fun _ => Tot.ret hlen) fun _ => Tot.ret hlen
  have hlt := of_decide_eq_true hd
  have hw : w64 ((i : Int) + 1) = ((i + 1 : Nat) : Int) := by rw [w64_in (by omega)]; omega
  exact Tot.bind (round4_tot hf hlen _) fun y5 h5 => Tot.ret ⟨k - 1, by omega, i + 1, hw, by omega, h5⟩
theorem promise_tot (service : Int) (from_ to_ : ByteArray) (at_ : Int) : Tot (m_spec_PromiseOf n service from_ to_ at_) fun r => True := by
  unfold m_spec_PromiseOf m_spec_EarliestAt
  rw [(places_eq hf).2]
  simp only [Option.bind_some, idx_v hf]
  refine Tot.bind (P := fun _ => True) (Tot.bind (arrivals_tot hf _ _ _) fun r hr => Tot.cond (fun _ => Tot.ret trivial) fun h1 => Tot.cond (fun _ => Tot.ret trivial) fun h2 => ?_) fun y _ => ?_
  · have h1' := of_decide_eq_false h1
    have h2' := of_decide_eq_false h2
    have hlt := (idx_lt (placesV n) to_).2
    rcases hr with hr | hr
    · obtain ⟨x, hx, _⟩ := len_in (xs := r) (i := idxV (placesV n) to_) ⟨by omega, by omega⟩
      rw [hx]; exact Tot.ret trivial
    · subst hr; simp at h2'
  · rw [l1In_v]
    simp only [Option.bind_some]
    exact Tot.cond (fun _ => Tot.ret trivial) fun _ => Tot.cond (fun _ => Tot.ret trivial) fun _ => Tot.cond (fun _ => Tot.ret trivial) fun _ => Tot.ret trivial
theorem step_tot {l : List YBooking} (hl : l.length ≤ 1048576) {closed : List YTrip} (hc : closed.length ≤ 1048576) (weight : Int) {before : List Int} (hb : before.length = (placesV n).length) (f : Int) {x : Int} (hx : 0 ≤ x ∧ x < (placesV n).length) (e : Int) (hn0 : 0 < n.legs.length) :
    Tot (m_spec_l6Step n l closed weight (placesV n) before f x e) fun t => ∃ y, getI n.legs t.leg = some y ∧ y ∈ n.legs := by
  have hp := plen hf
  have hll := hf.legs
  unfold m_spec_l6Step
  have hl0 : Tot (iterF (m_spec_l6Step_b0 n l closed weight (placesV n) before f x e) NN 0) fun r => ∀ t, r = .inr t → ∃ y, getI n.legs t.leg = some y ∧ y ∈ n.legs := by
    refine Tot.loop (fun k s => ∃ i : Nat, s = (i : Int) ∧ i + k = n.legs.length) (fun k s hs => ?_) NN n.legs.length 0 ⟨0, rfl, by omega⟩ (by unfold NN; omega)
    obtain ⟨i, rfl, hk⟩ := hs
    unfold m_spec_l6Step_b0
    refine Tot.cond (fun hd => ?_) fun hd => Tot.ret (fun t h => by cases h)
    have hlt := of_decide_eq_true hd
    have hw : w64 ((i : Int) + 1) = ((i + 1 : Nat) : Int) := by rw [w64_in (by omega)]; omega
    obtain ⟨y, hy, hm⟩ := len_in (xs := n.legs) (i := (i : Int)) ⟨by omega, hlt⟩
    obtain ⟨m1, m2⟩ := legs_in hm
    have a0 := idx_mem m1
    have a1 := (idx_lt (placesV n) y.from_).2
    obtain ⟨v6, g6, _⟩ := len_in (xs := before) (i := idxV (placesV n) y.from_) ⟨a0, by omega⟩
    obtain ⟨p, gp, _⟩ := len_in (xs := placesV n) (i := x) hx
    have go : LoopP (fun k (s : Int) => ∃ i : Nat, s = (i : Int) ∧ i + k = n.legs.length) (fun r : Unit ⊕ YTrip => ∀ t, r = .inr t → ∃ y, getI n.legs t.leg = some y ∧ y ∈ n.legs) k (Sum.inl (w64 ((i : Int) + 1))) := ⟨k - 1, by omega, i + 1, hw, by omega⟩
    simp only [hy, Option.bind_some, idx_v hf, gp, g6]
    refine Tot.cond (fun _ => Tot.ret go) fun _ => Tot.cond (fun _ => Tot.ret go) fun _ => Tot.bind (ready_tot _ _) fun y7 _ => Tot.bind (l6next_tot hf hl hc hy y7 weight) fun y8 _ => Tot.cond (fun _ => ?_) fun _ => Tot.ret go
    obtain ⟨v, hv⟩ := ends_some (n := n) (t := ⟨(i : Int), y8⟩) hy
    rw [hv, Option.bind_some]
    exact Tot.cond (fun _ => Tot.ret (fun t h => by cases h; exact ⟨y, hy, hm⟩)) fun _ => Tot.ret go
  refine Tot.bind hl0 fun r hr => ?_
  cases r with
  | inl u =>
    obtain ⟨y, hy, hm⟩ := len_in (xs := n.legs) (i := 0) ⟨by omega, by omega⟩
    exact Tot.ret ⟨y, hy, hm⟩
  | inr t => exact Tot.ret (hr t rfl)
theorem room_tot {l : List YBooking} (hl : l.length ≤ 1048576) {closed : List YTrip} (hc : closed.length ≤ 1048576) (from_ to_ : ByteArray) (at_ weight : Int) :
    Tot (m_spec_FindRoom n l closed from_ to_ at_ weight) fun r => r.1.length ≤ (placesV n).length := by
  have hp := plen hf
  unfold m_spec_FindRoom
  rw [(places_eq hf).2]
  simp only [Option.bind_some, idx_v hf]
  obtain ⟨y4, e4, h4⟩ := free_tot hf hl hc from_ at_ weight ((placesV n).length : Int)
  rw [e4, Option.bind_some]
  refine Tot.cond (fun _ => Tot.ret (by simp)) fun h1 => Tot.cond (fun _ => Tot.ret (by simp)) fun h2 => ?_
  have h1' := of_decide_eq_false h1
  have h2' := of_decide_eq_false h2
  have hlt := (idx_lt (placesV n) to_).2
  rcases h4 with ⟨hlen, hC⟩ | ⟨h4, _⟩
  · obtain ⟨y5, e5, _⟩ := len_in (xs := y4) (i := idxV (placesV n) to_) ⟨by omega, by omega⟩
    simp only [e5, Option.bind_some]
    refine Tot.cond (fun _ => Tot.ret (by simp)) fun h3 => ?_
    have hfree : ∀ legs : Int, 0 ≤ legs → Tot (m_spec_BestFree n l closed from_ at_ weight legs) fun r => r.length = (placesV n).length := fun legs h0 =>
      (free_tot hf hl hc from_ at_ weight legs).mono fun r hr => by
        rcases hr with hr | hr
        · exact hr.1
        · exact absurd ⟨hC.1, hC.2.1, hC.2.2.1, hC.2.2.2.1, h0⟩ hr.2
    have hn0 : 0 < n.legs.length := by have := placesV_len n; omega
    refine Tot.bind (P := fun o : Int => 0 ≤ o ∧ o ≤ (placesV n).length) ?_ fun o ho => ?_
    · refine Tot.loop (fun k s => ∃ i : Nat, s = (i : Int) ∧ i + k = (placesV n).length) (fun k s hs => ?_) NN (placesV n).length 0 ⟨0, rfl, by omega⟩ (by unfold NN; omega)
      obtain ⟨i, rfl, hk⟩ := hs
      unfold m_spec_FindRoom_b0
      have hw : w64 ((i : Int) + 1) = ((i + 1 : Nat) : Int) := by rw [w64_in (by omega)]; omega
      by_cases hi : i = (placesV n).length
      · subst hi
        rw [e4, Option.bind_some, e5, Option.bind_some]
        simp only [decide_true, Bool.not_true, cond_false]
        exact Tot.ret (by simp only [LoopP]; omega)
      · refine Tot.bind (hfree _ (by omega)) fun y7 h7 => ?_
        obtain ⟨v, hv, _⟩ := len_in (xs := y7) (i := idxV (placesV n) to_) ⟨by omega, by omega⟩
        rw [hv, Option.bind_some]
        exact Tot.cond (fun _ => Tot.ret ⟨k - 1, by omega, i + 1, hw, by omega⟩) fun _ => Tot.ret (by simp only [LoopP]; omega)
    · refine Tot.bind (P := fun w : List YTrip => w.length ≤ (placesV n).length) ?_ fun w hw => Tot.ret hw
      refine Tot.loop (fun (k : Nat) (s : Int × Int × Int × List YTrip) => (0 ≤ s.1 ∧ s.1 < ((placesV n).length : Int)) ∧ s.2.2.1 = (k : Int) ∧ s.2.2.2.length + k ≤ (placesV n).length) (fun k s hs => ?_) NN o.toNat _ ⟨⟨by omega, by omega⟩, by simp only; omega, by simp only [List.length_nil]; omega⟩ (by unfold NN; omega)
      obtain ⟨k1, k2, k3⟩ := hs
      unfold m_spec_FindRoom_b1
      refine Tot.cond (fun hd => ?_) fun hd => Tot.ret (by simp only [LoopP]; omega)
      have hlt2 := of_decide_eq_true hd
      have hw : w64 (s.2.2.1 - 1) = ((k - 1 : Nat) : Int) := by rw [w64_in (by omega)]; omega
      rw [hw]
      refine Tot.bind (hfree _ (by omega)) fun y9 h9 => Tot.bind (step_tot hf hl hc weight h9 _ k1 _ hn0) fun t ht => Tot.chk (app_fit (by simp only [List.length_cons, List.length_nil]; omega) (by omega)) ?_
      obtain ⟨y, hy, hm⟩ := ht
      obtain ⟨m1, _⟩ := legs_in hm
      have a0 := idx_mem m1
      have a1 := (idx_lt (placesV n) y.from_).2
      obtain ⟨v, hv, _⟩ := len_in (xs := y9) (i := idxV (placesV n) y.from_) ⟨a0, by omega⟩
      simp only [hy, Option.bind_some, idx_v hf, hv]
      exact Tot.ret ⟨k - 1, by omega, ⟨a0, a1⟩, rfl, by simp only [List.length_append, List.length_cons, List.length_nil]; omega⟩
  · subst h4; simp at h2'
theorem books_trip {l : List YBooking} (hb : booksV n l = true) {b : YBooking} (h : b ∈ l) : tripB n b.trip = true := by
  obtain ⟨i, hi, rfl⟩ := List.getElem_of_mem h
  have := (books_at hb hi).1
  unfold bk1 at this
  rw [List.getElem?_eq_getElem hi] at this
  simp only [Bool.and_eq_true] at this
  exact this.1.1.1
theorem drop_tot {l : List YBooking} (hl : l.length ≤ 1048576) (thing at_ : Int) : Tot (m_spec_DropFrom n l thing at_) fun r => r.length ≤ l.length := by
  unfold m_spec_DropFrom
  rw [specBooks_v hf hl, Option.bind_some]
  refine Tot.bind (P := fun o : List YBooking => o.length ≤ l.length) ?_ fun o ho => Tot.ret ho
  refine Tot.loop (fun k s => ∃ i : Nat, s.1 = (i : Int) ∧ i + k = l.length ∧ s.2.length ≤ i) (fun k s hs => ?_) NN l.length _ ⟨0, rfl, by omega, by simp⟩ (by unfold NN; omega)
  obtain ⟨i, hi, hk, hlen⟩ := hs
  unfold m_spec_DropFrom_b0
  rw [hi]
  refine Tot.cond (fun hd => ?_) fun hd => Tot.ret (by simp only [LoopP]; omega)
  have hlt := of_decide_eq_true hd
  have hw : w64 ((i : Int) + 1) = ((i + 1 : Nat) : Int) := by rw [w64_in (by omega)]; omega
  obtain ⟨y, hy, hm⟩ := len_in (xs := l) (i := (i : Int)) ⟨by omega, hlt⟩
  simp only [hy, Option.bind_some, hw]
  have go : ∀ s' : List YBooking, s'.length ≤ i + 1 → LoopP (fun k (s : Int × List YBooking) => ∃ i : Nat, s.1 = (i : Int) ∧ i + k = l.length ∧ s.2.length ≤ i) (fun o : List YBooking => o.length ≤ l.length) k (Sum.inl (((i + 1 : Nat) : Int), s')) := fun s' h' => ⟨k - 1, by omega, i + 1, rfl, by omega, h'⟩
  have add : Tot ((Go.Proofs.YtmcdjilbkmhfoaaGreat.chk (appOk (s.2.length + [y].length) 32)).bind fun _ => some (Sum.inl (((i + 1 : Nat) : Int), s.2 ++ [y]) : (Int × List YBooking) ⊕ List YBooking)) (LoopP (fun k (s : Int × List YBooking) => ∃ i : Nat, s.1 = (i : Int) ∧ i + k = l.length ∧ s.2.length ≤ i) (fun o : List YBooking => o.length ≤ l.length) k) :=
    Tot.chk (app_fit (by simp only [List.length_cons, List.length_nil]; omega) (by omega)) (Tot.ret (go _ (by simp; omega)))
  refine Tot.cond (fun _ => add) fun hb => Tot.cond (fun _ => add) fun _ => ?_
  have hbk : booksV n l = true := by simpa using hb
  obtain ⟨z, hz, _⟩ := tripB_leg hf (books_trip hf hbk hm)
  obtain ⟨v, hv⟩ := starts_some (n := n) (t := y.trip) hz
  rw [hv, Option.bind_some]
  exact Tot.cond (fun _ => add) fun _ => Tot.ret (go _ (by omega))
omit hf in
theorem add_tot {l : List YBooking} (hl : l.length ≤ 1048575) (b : YBooking) : Tot (m_spec_l6Add l b) fun r => r.length = l.length + 1 := by
  unfold m_spec_l6Add
  refine Tot.bind (P := fun o : Int => 0 ≤ o ∧ o ≤ l.length) ?_ fun o ho => ?_
  · refine Tot.loop (fun k s => ∃ i : Nat, s = (i : Int) ∧ i + k = l.length) (fun k s hs => ?_) NN l.length 0 ⟨0, rfl, by omega⟩ (by unfold NN; omega)
    obtain ⟨i, rfl, hk⟩ := hs
    unfold m_spec_l6Add_b0
    refine Tot.cond (fun hd => ?_) fun hd => Tot.ret (by simp only [LoopP]; omega)
    have hlt := of_decide_eq_true hd
    have hw : w64 ((i : Int) + 1) = ((i + 1 : Nat) : Int) := by rw [w64_in (by omega)]; omega
    obtain ⟨y, hy, hm⟩ := len_in (xs := l) (i := (i : Int)) ⟨by omega, hlt⟩
    rw [hy, Option.bind_some, before_v, Option.bind_some]
    exact Tot.cond (fun _ => Tot.ret ⟨k - 1, by omega, i + 1, hw, by omega⟩) fun _ => Tot.ret (by simp only [LoopP]; omega)
  · have l1 : (subL l 0 o).length = o.toNat := by unfold subL; simp; omega
    have l2 : (subL l o (l.length : Int)).length = l.length - o.toNat := by unfold subL; simp
    refine Tot.chk (by unfold slOk; exact decide_eq_true (by omega)) ?_
    rw [copyBook_s (by omega), Option.bind_some]
    refine Tot.chk (app_fit (by simp only [List.length_cons, List.length_nil]; omega) (by omega)) (Tot.chk (by unfold slOk; exact decide_eq_true (by omega)) (Tot.chk (app_fit (by simp only [List.length_append, List.length_cons, List.length_nil]; omega) (by omega)) (Tot.ret ?_)))
    simp only [List.length_append, List.length_cons, List.length_nil]
    omega
theorem book_tot {l : List YBooking} (hl : l.length ≤ 1048000) (thing weight : Int) (way : List YTrip) : Tot (m_spec_BookWay n l thing weight way) fun r => r.1.length ≤ l.length + 20 ∧ (r.2 = true → r.1.length ≤ 120) := by
  unfold m_spec_BookWay
  rw [copyBook_s (by omega), Option.bind_some, specBooks_v hf (by omega), Option.bind_some]
  refine Tot.cond (fun _ => Tot.ret ⟨by simp only; omega, fun h => by cases h⟩) fun _ => Tot.cond (fun _ => Tot.ret ⟨by simp only; omega, fun h => by cases h⟩) fun hd => ?_
  have hle := of_decide_eq_false hd
  refine Tot.bind (P := fun o : List YBooking => o.length ≤ l.length + 20) ?_ fun o ho => ?_
  · refine Tot.loop (fun k s => ∃ i : Nat, s.1 = (i : Int) ∧ i + k = way.length ∧ s.2.length = l.length + i) (fun k s hs => ?_) NN way.length _ ⟨0, rfl, by omega, rfl⟩ (by unfold NN; omega)
    obtain ⟨i, hi, hk, hlen⟩ := hs
    unfold m_spec_BookWay_b0
    rw [hi]
    refine Tot.cond (fun hd => ?_) fun hd => Tot.ret (by simp only [LoopP]; omega)
    have hlt := of_decide_eq_true hd
    have hw : w64 ((i : Int) + 1) = ((i + 1 : Nat) : Int) := by rw [w64_in (by omega)]; omega
    obtain ⟨y, hy, hm⟩ := len_in (xs := way) (i := (i : Int)) ⟨by omega, hlt⟩
    rw [hy, Option.bind_some, hw]
    exact Tot.bind (add_tot (by omega) _) fun r hr => Tot.ret ⟨k - 1, by omega, i + 1, rfl, by omega, by simp only; omega⟩
  · rw [specBooks_v hf (by omega), Option.bind_some]
    refine Tot.cond (fun _ => Tot.ret ⟨by simp only; omega, fun h => by cases h⟩) fun hb => Tot.ret ⟨ho, fun _ => (books_net (n := n) (l := o) (by simpa using hb)).2⟩
end
end Go.Proofs.YtmcdjilbkmhfoaaGreat

/- Where the reference finds room, the way that it gives ends where it shall. -/
namespace Go.Proofs.YtmcdjilbkmhfoaaGreat
set_option maxRecDepth 10000
open Go.RowKit
set_option linter.unusedVariables false
set_option linter.unusedSimpArgs false
set_option linter.unusedSectionVars false
theorem idx_get {l : List ByteArray} {p : ByteArray} (h : 0 ≤ idxV l p) : getI l (idxV l p) = some p := by
  unfold idxV at h ⊢
  cases h' : l.findIdx? fun y => decide (y = p) with
  | none => rw [h'] at h; simp at h
  | some k =>
    obtain ⟨h1, h2, _⟩ := List.findIdx?_eq_some_iff_getElem.1 h'
    have h2 := of_decide_eq_true h2
    simp only [Option.elim]
    rw [getI_nat, List.getElem?_eq_getElem h1, h2]
theorem getI_set {α : Type} {xs : List α} {i j : Int} {v x : α} (hi : 0 ≤ i) (h : getI (xs.set (Int.toNat i) v) j = some x) : (j = i ∧ x = v) ∨ getI xs j = some x := by
  obtain ⟨h0, h1⟩ := getI_some h
  by_cases he : j = i
  · subst he
    rw [List.getElem?_set_self'] at h1
    cases hx : xs[j.toNat]? with
    | none => rw [hx] at h1; simp at h1
    | some y => rw [hx] at h1; simp at h1; exact .inl ⟨rfl, h1.symm⟩
  · refine .inr ?_
    rw [List.getElem?_set_ne (by omega)] at h1
    unfold getI; rw [if_pos h0]; exact h1
/-- A way to come to x at v with one leg more. -/
def Cand (n : YNetwork) (l : List YBooking) (closed : List YTrip) (weight f : Int) (r : List Int) (x v : Int) : Prop :=
  ∃ (i : Nat) (y : YLeg) (d u z : Int), n.legs[i]? = some y ∧ idxV (placesV n) y.to_ = x ∧ getI r (idxV (placesV n) y.from_) = some u ∧ ¬ u < 0 ∧ m_spec_l4Ready n u (decide (idxV (placesV n) y.from_ = f)) = some z ∧ m_spec_l6Next n l closed (i : Int) z weight = some d ∧ ¬ d < 0 ∧ m_spec_l3Ends n ⟨(i : Int), d⟩ = some v
section
variable {n : YNetwork} (hf : NetFit n)
include hf
theorem round_cand {l : List YBooking} (hl : l.length ≤ 1048576) {closed : List YTrip} (hc : closed.length ≤ 1048576) (weight : Int) {best : List Int} (hb : best.length = (placesV n).length) (f : Int) : Tot (m_spec_l6Round n l closed weight (placesV n) best f) fun r => r.length = (placesV n).length ∧ ∀ x v, getI r x = some v → getI best x = some v ∨ Cand n l closed weight f best x v := by
  have hp := plen hf
  have hll := hf.legs
  unfold m_spec_l6Round
  refine Tot.bind (P := fun r => r = best) ?_ fun r hr => ?_
  · by_cases h1 : best.length ≤ 1048576
    · exact Tot.of (ints_s h1) rfl
    · unfold m_spec_l1Ints
      exact Tot.chk (app_fit (by simp only [List.length_nil]; omega) (by omega)) (Tot.ret (by simp))
  · subst hr
    refine Tot.bind (P := fun o => o.length = (placesV n).length ∧ ∀ x v, getI o x = some v → getI r x = some v ∨ Cand n l closed weight f r x v) ?_ fun o ho => Tot.ret ho
    refine Tot.loop (fun (k : Nat) (s : Int × List Int) => ∃ i : Nat, s.1 = (i : Int) ∧ i + k = n.legs.length ∧ s.2.length = (placesV n).length ∧ ∀ x v, getI s.2 x = some v → getI r x = some v ∨ Cand n l closed weight f r x v) (fun k s hs => ?_) NN n.legs.length _ ⟨0, rfl, by omega, hb, fun x v h => .inl h⟩ (by unfold NN; omega)
    obtain ⟨i, hi, hk, hlen, hcd⟩ := hs
    unfold m_spec_l6Round_b0
    rw [hi]
    refine Tot.cond (fun hd => ?_) fun hd => Tot.ret ⟨hlen, hcd⟩
    have hlt := of_decide_eq_true hd
    have hw : w64 ((i : Int) + 1) = ((i + 1 : Nat) : Int) := by rw [w64_in (by omega)]; omega
    obtain ⟨y, hy, hm⟩ := len_in (xs := n.legs) (i := (i : Int)) ⟨by omega, hlt⟩
    obtain ⟨m1, m2⟩ := legs_in hm
    have a0 := idx_mem m1
    have a1 := (idx_lt (placesV n) y.from_).2
    have b0 := idx_mem m2
    have b1 := (idx_lt (placesV n) y.to_).2
    obtain ⟨v6, g6, _⟩ := len_in (xs := r) (i := idxV (placesV n) y.from_) ⟨a0, by omega⟩
    obtain ⟨v11, g11, _⟩ := len_in (xs := s.2) (i := idxV (placesV n) y.to_) ⟨b0, by omega⟩
    simp only [hy, Option.bind_some, idx_v hf, g6, hw]
    have go : ∀ (s' : List Int), s'.length = (placesV n).length → (∀ x v, getI s' x = some v → getI r x = some v ∨ Cand n l closed weight f r x v) → LoopP (fun (k : Nat) (s : Int × List Int) => ∃ i : Nat, s.1 = (i : Int) ∧ i + k = n.legs.length ∧ s.2.length = (placesV n).length ∧ ∀ x v, getI s.2 x = some v → getI r x = some v ∨ Cand n l closed weight f r x v) (fun o : List Int => o.length = (placesV n).length ∧ ∀ x v, getI o x = some v → getI r x = some v ∨ Cand n l closed weight f r x v) k (Sum.inl (((i + 1 : Nat) : Int), s')) := fun s' h' h'' => ⟨k - 1, by omega, i + 1, rfl, by omega, h', h''⟩
    refine Tot.cond (fun _ => Tot.ret (go _ hlen hcd)) fun hu => ?_
    obtain ⟨z, ez, _⟩ := ready_tot (n := n) v6 (decide (idxV (placesV n) y.from_ = f))
    obtain ⟨d, ed, _⟩ := l6next_tot hf hl hc hy z weight
    rw [ez, Option.bind_some, ed, Option.bind_some]
    refine Tot.cond (fun _ => Tot.ret (go _ hlen hcd)) fun hdn => ?_
    obtain ⟨e, he⟩ := ends_some (n := n) (t := ⟨(i : Int), d⟩) hy
    simp only [he, Option.bind_some, g11]
    have hyi : n.legs[i]? = some y := by rw [getI_nat] at hy; exact hy
    have new : ∀ x v, getI (s.2.set (Int.toNat (idxV (placesV n) y.to_)) e) x = some v → getI r x = some v ∨ Cand n l closed weight f r x v := fun x v h => by
      rcases getI_set b0 h with ⟨rfl, rfl⟩ | h
      · exact .inr ⟨i, y, d, v6, z, hyi, rfl, g6, of_decide_eq_false hu, ez, ed, of_decide_eq_false hdn, he⟩
      · exact hcd x v h
    exact Tot.cond (fun _ => Tot.ret (go _ (by rw [List.length_set]; exact hlen) new)) fun _ => Tot.cond (fun _ => Tot.ret (go _ (by rw [List.length_set]; exact hlen) new)) fun _ => Tot.ret (go _ hlen hcd)
/-- The step that is looked for is found. -/
theorem find_ok {l : List YBooking} (hl : l.length ≤ 1048576) {closed : List YTrip} (hc : closed.length ≤ 1048576) (weight : Int) {before : List Int} (hb : before.length = (placesV n).length) (f : Int) {x : Int} (hx : 0 ≤ x ∧ x < (placesV n).length) {e : Int} (hcd : Cand n l closed weight f before x e) :
    Tot (m_spec_l6Step n l closed weight (placesV n) before f x e) fun t => ∃ y, getI n.legs t.leg = some y ∧ getI (placesV n) x = some y.to_ := by
  have hp := plen hf
  have hll := hf.legs
  obtain ⟨i0, y0, d0, u0, z0, c1, c2, c3, c4, c5, c6, c7, c8⟩ := hcd
  have hi0 := (List.getElem?_eq_some_iff.1 c1).1
  unfold m_spec_l6Step
  have hl0 : Tot (iterF (m_spec_l6Step_b0 n l closed weight (placesV n) before f x e) NN 0) fun r => ∃ t y, r = .inr t ∧ getI n.legs t.leg = some y ∧ getI (placesV n) x = some y.to_ := by
    refine Tot.loop (fun (k : Nat) (s : Int) => ∃ i : Nat, s = (i : Int) ∧ i + k = n.legs.length ∧ i ≤ i0) (fun k s hs => ?_) NN n.legs.length 0 ⟨0, rfl, by omega, by omega⟩ (by unfold NN; omega)
    obtain ⟨i, rfl, hk, hi⟩ := hs
    unfold m_spec_l6Step_b0
    refine Tot.cond (fun hd => ?_) fun hd => by have := of_decide_eq_false hd; omega
    have hlt := of_decide_eq_true hd
    have hw : w64 ((i : Int) + 1) = ((i + 1 : Nat) : Int) := by rw [w64_in (by omega)]; omega
    by_cases hii : i = i0
    · subst hii
      have hy : getI n.legs (i : Int) = some y0 := by rw [getI_nat]; exact c1
      obtain ⟨m1, m2⟩ := legs_in (List.mem_of_getElem? c1)
      have gp : getI (placesV n) x = some y0.to_ := by rw [← c2]; exact idx_get (idx_mem m2)
      simp only [hy, Option.bind_some, idx_v hf, gp, c3, decide_true, Bool.not_true, cond_false, decide_eq_false c4, c5, c6, decide_eq_true (show 0 ≤ d0 by omega), cond_true, c8]
      exact Tot.ret ⟨_, y0, rfl, hy, rfl⟩
    · obtain ⟨y, hy, hm⟩ := len_in (xs := n.legs) (i := (i : Int)) ⟨by omega, hlt⟩
      obtain ⟨m1, m2⟩ := legs_in hm
      have a0 := idx_mem m1
      have a1 := (idx_lt (placesV n) y.from_).2
      obtain ⟨v6, g6, _⟩ := len_in (xs := before) (i := idxV (placesV n) y.from_) ⟨a0, by omega⟩
      obtain ⟨p, gp, _⟩ := len_in (xs := placesV n) (i := x) hx
      have go : LoopP (fun (k : Nat) (s : Int) => ∃ i : Nat, s = (i : Int) ∧ i + k = n.legs.length ∧ i ≤ i0) (fun r : Unit ⊕ YTrip => ∃ t y, r = .inr t ∧ getI n.legs t.leg = some y ∧ getI (placesV n) x = some y.to_) k (Sum.inl (w64 ((i : Int) + 1))) := ⟨k - 1, by omega, i + 1, hw, by omega, by omega⟩
      simp only [hy, Option.bind_some, idx_v hf, gp, g6]
      refine Tot.cond (fun _ => Tot.ret go) fun hto => Tot.cond (fun _ => Tot.ret go) fun _ => Tot.bind (ready_tot _ _) fun y7 _ => Tot.bind (l6next_tot hf hl hc hy y7 weight) fun y8 _ => Tot.cond (fun _ => ?_) fun _ => Tot.ret go
      obtain ⟨v, hv⟩ := ends_some (n := n) (t := ⟨(i : Int), y8⟩) hy
      rw [hv, Option.bind_some]
      have hto' : y.to_ = p := by simpa using hto
      exact Tot.cond (fun _ => Tot.ret ⟨_, y, rfl, hy, by rw [hto']⟩) fun _ => Tot.ret go
  refine Tot.bind hl0 fun r hr => ?_
  obtain ⟨t, y, rfl, h1, h2⟩ := hr
  exact Tot.ret ⟨y, h1, h2⟩
end
def roundV (n : YNetwork) (l : List YBooking) (closed : List YTrip) (weight f : Int) (r : List Int) : List Int := (m_spec_l6Round n l closed weight (placesV n) r f).getD []
/-- What is reached with so many legs. -/
def bestV (n : YNetwork) (l : List YBooking) (closed : List YTrip) (weight f at_ : Int) : Nat → List Int
  | 0 => (m_spec_l4First (placesV n) f at_).getD []
  | k + 1 => roundV n l closed weight f (bestV n l closed weight f at_ k)
section
variable {n : YNetwork} (hf : NetFit n) {l : List YBooking} (hl : l.length ≤ 1048576) {closed : List YTrip} (hc : closed.length ≤ 1048576) (weight f at_ : Int)
include hf hl hc
theorem best_len : ∀ k, (bestV n l closed weight f at_ k).length = (placesV n).length
  | 0 => by
    obtain ⟨r, e, h⟩ := first_tot hf f at_
    unfold bestV; rw [e]; exact h
  | k + 1 => by
    obtain ⟨r, e, h, _⟩ := round_cand hf hl hc weight (best_len k) f
    unfold bestV roundV; rw [e]; exact h
theorem best_next (k : Nat) : m_spec_l6Round n l closed weight (placesV n) (bestV n l closed weight f at_ k) f = some (bestV n l closed weight f at_ (k + 1)) ∧ ∀ x v, getI (bestV n l closed weight f at_ (k + 1)) x = some v → getI (bestV n l closed weight f at_ k) x = some v ∨ Cand n l closed weight f (bestV n l closed weight f at_ k) x v := by
  obtain ⟨r, e, h, h'⟩ := round_cand hf hl hc weight (best_len hf hl hc weight f at_ k) f
  have : bestV n l closed weight f at_ (k + 1) = r := by show (m_spec_l6Round n l closed weight (placesV n) (bestV n l closed weight f at_ k) f).getD [] = r; rw [e]; rfl
  rw [this]
  exact ⟨e, h'⟩
theorem free_best {from_ : ByteArray} (hC : booksV n l = true ∧ 0 ≤ idxV (placesV n) from_ ∧ at_ ≤ 100000 ∧ 1 ≤ weight) {k : Nat} (hk : k ≤ (placesV n).length) : m_spec_BestFree n l closed from_ at_ weight (k : Int) = some (bestV n l closed weight (idxV (placesV n) from_) at_ k) := by
  have hp := plen hf
  obtain ⟨r0, e0, _⟩ := first_tot hf (idxV (placesV n) from_) at_
  have h0 : bestV n l closed weight (idxV (placesV n) from_) at_ 0 = r0 := by unfold bestV; rw [e0]; rfl
  unfold m_spec_BestFree
  rw [(places_eq hf).2]
  simp only [Option.bind_some, idx_v hf, specBooks_v hf hl, hC.1, Bool.not_true, cond_false, decide_eq_false (show ¬ idxV (placesV n) from_ < 0 by omega), decide_eq_false (show ¬ 100000 < at_ by omega), decide_eq_false (show ¬ weight < 1 by omega), decide_eq_false (show ¬ (k : Int) < 0 by omega), e0]
  have e : iterF (m_spec_BestFree_b0 n l closed weight (k : Int) (placesV n) (idxV (placesV n) from_)) NN (0, bestV n l closed weight (idxV (placesV n) from_) at_ 0) = some (bestV n l closed weight (idxV (placesV n) from_) at_ k) := by
   refine iter_st0 (body := m_spec_BestFree_b0 n l closed weight (k : Int) (placesV n) (idxV (placesV n) from_)) (fun i : Nat => ((i : Int), bestV n l closed weight (idxV (placesV n) from_) at_ i)) (n := k) (o := bestV n l closed weight (idxV (placesV n) from_) at_ k) (fun i hi => ?_) ?_ NN (by unfold NN; omega)
   · unfold m_spec_BestFree_b0
     rw [decide_eq_true (show (i : Int) < (k : Int) by omega), decide_eq_true (show (i : Int) < ((placesV n).length : Int) by omega), cond_true, cond_true, (best_next hf hl hc weight _ at_ i).1, Option.bind_some, w64_in (by omega)]
     rfl
   · unfold m_spec_BestFree_b0
     simp
  rw [← h0, e]; rfl
end
section
variable {n : YNetwork} (hf : NetFit n)
include hf
/-- A way that is found ends where it shall. -/
theorem room_last {l : List YBooking} (hl : l.length ≤ 1048576) {closed : List YTrip} (hc : closed.length ≤ 1048576) (from_ to_ : ByteArray) (at_ weight : Int) :
    Tot (m_spec_FindRoom n l closed from_ to_ at_ weight) fun r => r.1.length ≤ (placesV n).length ∧ ∀ t, r.1.getLast? = some t → legTo n t = to_ := by
  have hp := plen hf
  unfold m_spec_FindRoom
  rw [(places_eq hf).2]
  simp only [Option.bind_some, idx_v hf]
  obtain ⟨y4, e4, h4⟩ := free_tot hf hl hc from_ at_ weight ((placesV n).length : Int)
  rw [e4, Option.bind_some]
  refine Tot.cond (fun _ => Tot.ret ⟨by simp, fun t h => by simp at h⟩) fun h1 => Tot.cond (fun _ => Tot.ret ⟨by simp, fun t h => by simp at h⟩) fun h2 => ?_
  have h1' := of_decide_eq_false h1
  have h2' := of_decide_eq_false h2
  have hlt := (idx_lt (placesV n) to_).2
  rcases h4 with ⟨hlen, hC⟩ | ⟨h4, _⟩
  · have hC4 : booksV n l = true ∧ 0 ≤ idxV (placesV n) from_ ∧ at_ ≤ 100000 ∧ 1 ≤ weight := ⟨hC.1, hC.2.1, hC.2.2.1, hC.2.2.2.1⟩
    have hfb : ∀ k : Nat, k ≤ (placesV n).length → m_spec_BestFree n l closed from_ at_ weight (k : Int) = some (bestV n l closed weight (idxV (placesV n) from_) at_ k) := fun k hk => free_best hf hl hc weight at_ hC4 hk
    have hbl := best_len hf hl hc weight (idxV (placesV n) from_) at_
    rw [hfb _ (Nat.le_refl _)] at e4
    obtain rfl := Option.some.inj e4
    obtain ⟨y5, e5, _⟩ := len_in (xs := bestV n l closed weight (idxV (placesV n) from_) at_ (placesV n).length) (i := idxV (placesV n) to_) ⟨by omega, by omega⟩
    simp only [e5, Option.bind_some]
    refine Tot.cond (fun _ => Tot.ret ⟨by simp, fun t h => by simp at h⟩) fun h3 => ?_
    have hn0 : 0 < n.legs.length := by have := placesV_len n; omega
    refine Tot.bind (P := fun o : Int => ∃ k : Nat, o = (k : Int) ∧ k ≤ (placesV n).length ∧ getI (bestV n l closed weight (idxV (placesV n) from_) at_ k) (idxV (placesV n) to_) = some y5 ∧ ∀ j : Nat, j < k → ¬ getI (bestV n l closed weight (idxV (placesV n) from_) at_ j) (idxV (placesV n) to_) = some y5) ?_ fun o ho => ?_
    · refine Tot.loop (fun (k : Nat) (s : Int) => ∃ i : Nat, s = (i : Int) ∧ i + k = (placesV n).length ∧ ∀ j : Nat, j < i → ¬ getI (bestV n l closed weight (idxV (placesV n) from_) at_ j) (idxV (placesV n) to_) = some y5) (fun k s hs => ?_) NN (placesV n).length 0 ⟨0, rfl, by omega, fun j hj => by omega⟩ (by unfold NN; omega)
      obtain ⟨i, rfl, hk, hmin⟩ := hs
      unfold m_spec_FindRoom_b0
      have hw : w64 ((i : Int) + 1) = ((i + 1 : Nat) : Int) := by rw [w64_in (by omega)]; omega
      rw [hfb i (by omega), Option.bind_some]
      by_cases hi : i = (placesV n).length
      · subst hi
        rw [e5, Option.bind_some]
        simp only [decide_true, Bool.not_true, cond_false]
        exact Tot.ret ⟨_, rfl, by omega, e5, hmin⟩
      · obtain ⟨v, hv, _⟩ := len_in (xs := bestV n l closed weight (idxV (placesV n) from_) at_ i) (i := idxV (placesV n) to_) ⟨by omega, by have := hbl i; omega⟩
        rw [hv, Option.bind_some]
        refine Tot.cond (fun hne => Tot.ret ⟨k - 1, by omega, i + 1, hw, by omega, fun j hj => ?_⟩) fun heq => Tot.ret ⟨i, rfl, by omega, ?_, hmin⟩
        · by_cases hji : j = i
          · subst hji; rw [hv]; simpa using hne
          · exact hmin j (by omega)
        · have : v = y5 := by simpa using heq
          rw [hv, this]
    · obtain ⟨k0, rfl, hk0, hat, hmin⟩ := ho
      refine Tot.bind (P := fun w : List YTrip => w.length ≤ (placesV n).length ∧ ∀ t, w.getLast? = some t → legTo n t = to_) ?_ fun w hw => Tot.ret hw
      refine Tot.loop (fun (k : Nat) (s : Int × Int × Int × List YTrip) => (0 ≤ s.1 ∧ s.1 < ((placesV n).length : Int)) ∧ s.2.2.1 = (k : Int) ∧ s.2.2.2.length + k ≤ (placesV n).length ∧ (s.2.2.2 = [] → k = k0 ∧ s.1 = idxV (placesV n) to_ ∧ s.2.1 = y5) ∧ ∀ t, s.2.2.2.getLast? = some t → legTo n t = to_) (fun k s hs => ?_) NN k0 _ ⟨⟨by omega, by omega⟩, rfl, by simp only [List.length_nil]; omega, fun _ => ⟨rfl, rfl, rfl⟩, fun t h => by simp at h⟩ (by unfold NN; omega)
      obtain ⟨k1, k2, k3, k4, k5⟩ := hs
      unfold m_spec_FindRoom_b1
      refine Tot.cond (fun hd => ?_) fun hd => Tot.ret ⟨by omega, k5⟩
      have hlt2 := of_decide_eq_true hd
      have hw : w64 (s.2.2.1 - 1) = ((k - 1 : Nat) : Int) := by rw [w64_in (by omega)]; omega
      rw [hw, hfb (k - 1) (by omega), Option.bind_some]
      refine Tot.bind (P := fun t => ∃ y, getI n.legs t.leg = some y ∧ y ∈ n.legs ∧ (s.2.2.2 = [] → legTo n t = to_)) ?_ fun t ht => Tot.chk (app_fit (by simp only [List.length_cons, List.length_nil]; omega) (by omega)) ?_
      · by_cases he : s.2.2.2 = []
        · obtain ⟨rfl, k6, k7⟩ := k4 he
          have hcd : Cand n l closed weight (idxV (placesV n) from_) (bestV n l closed weight (idxV (placesV n) from_) at_ (k - 1)) (idxV (placesV n) to_) y5 := by
            have h := (best_next hf hl hc weight (idxV (placesV n) from_) at_ (k - 1)).2 (idxV (placesV n) to_) y5 (by rw [show k - 1 + 1 = k by omega]; exact hat)
            rcases h with h | h
            · exact absurd h (hmin (k - 1) (by omega))
            · exact h
          rw [k6, k7]
          refine (find_ok hf hl hc weight (hbl (k - 1)) _ ⟨by omega, by omega⟩ hcd).mono fun t ht => ?_
          obtain ⟨y, hy, hto⟩ := ht
          refine ⟨y, hy, getI_mem hy, fun _ => ?_⟩
          rw [idx_get (by omega)] at hto
          unfold legTo
          rw [hy]
          exact (Option.some.inj hto).symm
        · refine (step_tot hf hl hc weight (hbl (k - 1)) _ k1 _ hn0).mono fun t ht => ?_
          obtain ⟨y, hy, hm⟩ := ht
          exact ⟨y, hy, hm, fun h => absurd h he⟩
      · obtain ⟨y, hy, hm, hlast⟩ := ht
        obtain ⟨m1, _⟩ := legs_in hm
        have a0 := idx_mem m1
        have a1 := (idx_lt (placesV n) y.from_).2
        obtain ⟨v, hv, _⟩ := len_in (xs := bestV n l closed weight (idxV (placesV n) from_) at_ (k - 1)) (i := idxV (placesV n) y.from_) ⟨a0, by have := hbl (k - 1); omega⟩
        simp only [hy, Option.bind_some, idx_v hf, hv]
        refine Tot.ret ⟨k - 1, by omega, ⟨a0, a1⟩, rfl, by simp only [List.length_append, List.length_cons, List.length_nil]; omega, fun h => by simp at h, fun q hq => ?_⟩
        cases hs : s.2.2.2 with
        | nil =>
          rw [hs] at hq
          simp at hq
          rw [← hq]
          exact hlast hs
        | cons a a2 =>
          rw [hs] at hq
          have hq' : (t :: a :: a2).getLast? = some q := hq
          rw [List.getLast?_cons_cons] at hq'
          exact k5 q (by rw [hs]; exact hq')
  · subst h4; simp at h2'
end
end Go.Proofs.YtmcdjilbkmhfoaaGreat

/- The mirror of o_spec_AcceptOrder, and that the code does just that (printed by a program of my own). -/
namespace Go.Proofs.YtmcdjilbkmhfoaaGreat
set_option maxRecDepth 10000
open Go.RowKit
set_option linter.unusedVariables false
set_option maxHeartbeats 16000000
def m_o_spec_AcceptOrder (w : YWorld) (from1_ : ByteArray) (to_ : ByteArray) (service : Int) (weight : Int) : Option (YWorld × Int × Bool) :=
 (m_o_spec_l10Copy w).bind fun y1 =>
 (m_spec_IsWorld w).bind fun y2 =>
 cond (!y2)
 (some (y1, 0, false))
 (cond (decide (30 ≤ (w.orders.length : Int)))
 (some (y1, 0, false))
 (cond (decide (from1_ = to_))
 (some (y1, 0, false))
 ((m_spec_l1In service 1 3).bind fun y3 =>
 cond (!y3)
 (some (y1, 0, false))
 ((m_spec_l1In weight 1 30000).bind fun y4 =>
 cond (!y4)
 (some (y1, 0, false))
 ((m_spec_FindRoom w.network w.bookings w.closed from1_ to_ (w64 (w.now + 1)) weight).bind fun y5 =>
 (m_spec_BookWay w.network w.bookings (w64 ((w.orders.length : Int) + 1)) weight y5.1).bind fun y6 =>
 cond (!y5.2)
 (some (y1, 0, false))
 (cond (!y6.2)
 (some (y1, 0, false))
 ((m_spec_PromiseOf w.network service from1_ to_ (w64 (w.now + 1))).bind fun y7 =>
 (frz (.un :: vs from1_ :: .un :: .un :: .un :: .be 0 0 0 :: .un :: .un :: .un :: .un :: .be 1 0 0 :: .un :: .un :: .be 2 0 0 :: .un :: .un :: vi (w64 ((w.orders.length : Int) + 1)) :: .un :: .un :: .be 10 0 0 :: .un :: .un :: .un :: .un :: .un :: .un :: .un :: .un :: .un :: .un :: .un :: .un :: .un :: .un :: .un :: .un :: .un :: .un :: .un :: .un :: .un :: .un :: .un :: .un :: .un :: .un :: .un :: .un :: .un :: .un :: .un :: .un :: .un :: .un :: .un :: .un :: .un :: .un :: .un :: .un :: .un :: .un :: .un :: .un :: .un :: .un :: .un :: .un :: .un :: .un :: .un :: .un :: .un :: .un :: .un :: .un :: .un :: .un :: .un :: .un :: .un :: .un :: .un :: .un :: .un :: .un :: .un :: .un :: .un :: .un :: .un :: .un :: .un :: .un :: .un :: .un :: .un :: .un :: .un :: .un :: .un :: .un :: .un :: .un :: .un :: .un :: .un :: .un :: .un :: .un :: .un :: .un :: .un :: .un :: .un :: .un :: .un :: .un :: .un :: []) [some ⟨41, 10, [[.sl (w.network.legs.map cLeg), .sl (w.network.off.map cInt), vi w.network.change, .sl (w.orders.map cOrder), .sl (w.bookings.map cBooking), .sl (w.closed.map cTrip), vi w.now, .sl (w.scans.map cScan), .sl (w.skip.map cInt), vi w.made]]⟩, some ⟨41, 10, [[.v (.slice none 0 0), .v (.slice none 0 0), vi 0, .v (.slice none 0 0), .v (.slice none 0 0), .v (.slice none 0 0), vi 0, .v (.slice none 0 0), .v (.slice none 0 0), vi 0]]⟩, some ⟨41, 10, [[.ms 3, .ms 4, vi y1.network.change, .ms 5, .ms 6, .ms 7, vi y1.now, .ms 8, .ms 9, vi y1.made]]⟩, some ⟨67, 6, y1.network.legs.map cLeg⟩, some ⟨3, 1, y1.network.off.map cInt⟩, some ⟨62, 11, y1.orders.map cOrder⟩, some ⟨135, 4, y6.1.map cBooking⟩, some ⟨55, 2, y1.closed.map cTrip⟩, some ⟨130, 6, y1.scans.map cScan⟩, some ⟨3, 1, y1.skip.map cInt⟩, some ⟨62, 11, [[vs from1_, vs to_, vi service, vi weight, vi w.now, vi y7, .sl (y5.1.map cTrip), vi 0, vi 1, vs from1_, vi 0]]⟩]).bind fun _ =>
 (chk (appOk ((y1.orders : List YOrder).length + ([(⟨from1_, to_, service, weight, w.now, y7, y5.1, 0, 1, from1_, 0⟩ : YOrder)] : List YOrder).length) 128)).bind fun _ =>
 (rhoM [2, 3, 4, 12, 6, 7, 8, 9]).bind fun _ =>
 (m_p0_spec_l10Scan (⟨y1.network, ((y1.orders : List YOrder) ++ [(⟨from1_, to_, service, weight, w.now, y7, y5.1, 0, 1, from1_, 0⟩ : YOrder)]), y6.1, y1.closed, y1.now, y1.scans, y1.skip, y1.made⟩ : YWorld) (⟨(w64 ((w.orders.length : Int) + 1)), w.now, 1, from1_, (⟨0, 0⟩ : YTrip)⟩ : YScan)).bind fun y8 =>
 some (y8, (w64 ((w.orders.length : Int) + 1)), true))))))))
theorem ok_o_spec_AcceptOrder (w : YWorld) (from1_ : ByteArray) (to_ : ByteArray) (service : Int) (weight : Int) {r : YWorld × Int × Bool} (H : m_o_spec_AcceptOrder w from1_ to_ service weight = some r) : CallM Tryz.prog 46 [.ag (cWorld w), vs from1_, vs to_, vi service, vi weight] [] (.tu [.ag [.ms 0, .ms 1, vi r.1.network.change, .ms 2, .ms 3, .ms 4, vi r.1.now, .ms 5, .ms 6, vi r.1.made], vi r.2.1, vb r.2.2]) [some ⟨67, 6, r.1.network.legs.map cLeg⟩, some ⟨3, 1, r.1.network.off.map cInt⟩, some ⟨62, 11, r.1.orders.map cOrder⟩, some ⟨135, 4, r.1.bookings.map cBooking⟩, some ⟨55, 2, r.1.closed.map cTrip⟩, some ⟨130, 6, r.1.scans.map cScan⟩, some ⟨3, 1, r.1.skip.map cInt⟩] := by
  replace H := H0 H
  unfold m_o_spec_AcceptOrder at H
  refine callM_of Tryz.func46 rfl Tryz.ntmps46 Tryz.results46 fun Q hQ hQn => ?_
  exact wk2
instance (w : YWorld) (from1_ : ByteArray) (to_ : ByteArray) (service : Int) (weight : Int) : CT Tryz.prog (m_o_spec_AcceptOrder w from1_ to_ service weight) := ⟨46, [.ag (cWorld w), vs from1_, vs to_, vi service, vi weight], [], fun r => .tu [.ag [.ms 0, .ms 1, vi r.1.network.change, .ms 2, .ms 3, .ms 4, vi r.1.now, .ms 5, .ms 6, vi r.1.made], vi r.2.1, vb r.2.2], fun r => [some ⟨67, 6, r.1.network.legs.map cLeg⟩, some ⟨3, 1, r.1.network.off.map cInt⟩, some ⟨62, 11, r.1.orders.map cOrder⟩, some ⟨135, 4, r.1.bookings.map cBooking⟩, some ⟨55, 2, r.1.closed.map cTrip⟩, some ⟨130, 6, r.1.scans.map cScan⟩, some ⟨3, 1, r.1.skip.map cInt⟩], ok_o_spec_AcceptOrder w from1_ to_ service weight⟩
end Go.Proofs.YtmcdjilbkmhfoaaGreat

/- The mirror of p0_spec_l10Again, and that the code does just that (printed by a program of my own). -/
namespace Go.Proofs.YtmcdjilbkmhfoaaGreat
set_option maxRecDepth 10000
open Go.RowKit
set_option linter.unusedVariables false
set_option maxHeartbeats 16000000
def m_p0_spec_l10Again (w : YWorld) (i : Int) : Option YWorld :=
 (getI w.orders i).bind fun y1 =>
 (m_spec_l10Coming y1).bind fun y2 =>
 cond (decide (0 < y2))
 ((getI y1.way (w64 (y2 - 1))).bind fun y3 =>
 (m_spec_l3Ends w.network y3).bind fun y4 =>
 (m_spec_Max (w64 (w.now + 1)) (w64 (y4 + w.network.change))).bind fun y5 =>
 (m_spec_DropFrom w.network w.bookings (w64 (i + 1)) (w64 (w.now + 1))).bind fun y6 =>
 (m_spec_l10Here w.network y1).bind fun y7 =>
 (m_spec_FindRoom w.network y6 w.closed y7 y1.to_ y5 y1.weight).bind fun y8 =>
 (m_spec_BookWay w.network y6 (w64 (i + 1)) y1.weight y8.1).bind fun y9 =>
 (chk (slOk 0 y2 y1.way.length)).bind fun _ =>
 (chk (appOk ((([] : List YTrip) : List YTrip).length + ((subL y1.way 0 y2) : List YTrip).length) 16)).bind fun _ =>
 (getI w.orders i).bind fun y10 =>
 cond y9.2
 ((getI w.orders i).bind fun y11 =>
 (chk (appOk ((((([] : List YTrip) : List YTrip) ++ (subL y1.way 0 y2)) : List YTrip).length + (y8.1 : List YTrip).length) 16)).bind fun _ =>
 (getI w.orders i).bind fun y12 =>
 some (⟨w.network, (w.orders.set (Int.toNat i) (⟨y10.from_, y10.to_, y10.service, y10.weight, y10.at_, y10.due, ((((([] : List YTrip) : List YTrip) ++ (subL y1.way 0 y2)) : List YTrip) ++ y8.1), y10.gone, y10.state, y10.place, y10.ended⟩ : YOrder)), y9.1, w.closed, w.now, w.scans, w.skip, w.made⟩ : YWorld))
 (some (⟨w.network, (w.orders.set (Int.toNat i) (⟨y10.from_, y10.to_, y10.service, y10.weight, y10.at_, y10.due, ((([] : List YTrip) : List YTrip) ++ (subL y1.way 0 y2)), y10.gone, y10.state, y10.place, y10.ended⟩ : YOrder)), y6, w.closed, w.now, w.scans, w.skip, w.made⟩ : YWorld)))
 ((m_spec_DropFrom w.network w.bookings (w64 (i + 1)) (w64 (w.now + 1))).bind fun y13 =>
 (m_spec_l10Here w.network y1).bind fun y14 =>
 (m_spec_FindRoom w.network y13 w.closed y14 y1.to_ (w64 (w.now + 1)) y1.weight).bind fun y15 =>
 (m_spec_BookWay w.network y13 (w64 (i + 1)) y1.weight y15.1).bind fun y16 =>
 (chk (slOk 0 y2 y1.way.length)).bind fun _ =>
 (chk (appOk ((([] : List YTrip) : List YTrip).length + ((subL y1.way 0 y2) : List YTrip).length) 16)).bind fun _ =>
 (getI w.orders i).bind fun y17 =>
 cond y16.2
 ((getI w.orders i).bind fun y18 =>
 (chk (appOk ((((([] : List YTrip) : List YTrip) ++ (subL y1.way 0 y2)) : List YTrip).length + (y15.1 : List YTrip).length) 16)).bind fun _ =>
 (getI w.orders i).bind fun y19 =>
 some (⟨w.network, (w.orders.set (Int.toNat i) (⟨y17.from_, y17.to_, y17.service, y17.weight, y17.at_, y17.due, ((((([] : List YTrip) : List YTrip) ++ (subL y1.way 0 y2)) : List YTrip) ++ y15.1), y17.gone, y17.state, y17.place, y17.ended⟩ : YOrder)), y16.1, w.closed, w.now, w.scans, w.skip, w.made⟩ : YWorld))
 (some (⟨w.network, (w.orders.set (Int.toNat i) (⟨y17.from_, y17.to_, y17.service, y17.weight, y17.at_, y17.due, ((([] : List YTrip) : List YTrip) ++ (subL y1.way 0 y2)), y17.gone, y17.state, y17.place, y17.ended⟩ : YOrder)), y13, w.closed, w.now, w.scans, w.skip, w.made⟩ : YWorld)))
theorem ok_p0_spec_l10Again (w : YWorld) (i : Int) {r : YWorld} (H : m_p0_spec_l10Again w i = some r) : CallM Tryz.prog 123 [.be 0 0 0, vi i] [some ⟨41, 10, [[.ms 1, .ms 2, vi w.network.change, .ms 3, .ms 4, .ms 5, vi w.now, .ms 6, .ms 7, vi w.made]]⟩, some ⟨67, 6, w.network.legs.map cLeg⟩, some ⟨3, 1, w.network.off.map cInt⟩, some ⟨62, 11, w.orders.map cOrder⟩, some ⟨135, 4, w.bookings.map cBooking⟩, some ⟨55, 2, w.closed.map cTrip⟩, some ⟨130, 6, w.scans.map cScan⟩, some ⟨3, 1, w.skip.map cInt⟩] (.tu []) [some ⟨41, 10, [[.ms 1, .ms 2, vi r.network.change, .ms 3, .ms 8, .ms 5, vi r.now, .ms 6, .ms 7, vi r.made]]⟩, some ⟨67, 6, r.network.legs.map cLeg⟩, some ⟨3, 1, r.network.off.map cInt⟩, some ⟨62, 11, r.orders.map cOrder⟩, none, some ⟨55, 2, r.closed.map cTrip⟩, some ⟨130, 6, r.scans.map cScan⟩, some ⟨3, 1, r.skip.map cInt⟩, some ⟨135, 4, r.bookings.map cBooking⟩] := by
  replace H := H0 H
  unfold m_p0_spec_l10Again at H
  refine callM_of Tryz.func123 rfl Tryz.ntmps123 Tryz.results123 fun Q hQ hQn => ?_
  exact wk2
instance (w : YWorld) (i : Int) : CT Tryz.prog (m_p0_spec_l10Again w i) := ⟨123, [.be 0 0 0, vi i], [some ⟨41, 10, [[.ms 1, .ms 2, vi w.network.change, .ms 3, .ms 4, .ms 5, vi w.now, .ms 6, .ms 7, vi w.made]]⟩, some ⟨67, 6, w.network.legs.map cLeg⟩, some ⟨3, 1, w.network.off.map cInt⟩, some ⟨62, 11, w.orders.map cOrder⟩, some ⟨135, 4, w.bookings.map cBooking⟩, some ⟨55, 2, w.closed.map cTrip⟩, some ⟨130, 6, w.scans.map cScan⟩, some ⟨3, 1, w.skip.map cInt⟩], fun r => .tu [], fun r => [some ⟨41, 10, [[.ms 1, .ms 2, vi r.network.change, .ms 3, .ms 8, .ms 5, vi r.now, .ms 6, .ms 7, vi r.made]]⟩, some ⟨67, 6, r.network.legs.map cLeg⟩, some ⟨3, 1, r.network.off.map cInt⟩, some ⟨62, 11, r.orders.map cOrder⟩, none, some ⟨55, 2, r.closed.map cTrip⟩, some ⟨130, 6, r.scans.map cScan⟩, some ⟨3, 1, r.skip.map cInt⟩, some ⟨135, 4, r.bookings.map cBooking⟩], ok_p0_spec_l10Again w i⟩
end Go.Proofs.YtmcdjilbkmhfoaaGreat

/- The mirror of o_spec_ShutTrip, and that the code does just that (printed by a program of my own). -/
namespace Go.Proofs.YtmcdjilbkmhfoaaGreat
set_option maxRecDepth 10000
open Go.RowKit
set_option linter.unusedVariables false
set_option maxHeartbeats 16000000
def m_o_spec_ShutTrip_b0 (t : YTrip) (s0 : Int × Int × Int × Int × (List YLeg) × (List Int) × (List YOrder) × (List YBooking) × (List YTrip) × (List YScan) × (List Int)) : Option ((Int × Int × Int × Int × (List YLeg) × (List Int) × (List YOrder) × (List YBooking) × (List YTrip) × (List YScan) × (List Int)) ⊕ (Int × Int × Int × (List YLeg) × (List Int) × (List YOrder) × (List YBooking) × (List YTrip) × (List YScan) × (List Int))) :=
 cond (decide (s0.1 < (s0.2.2.2.2.2.2.1.length : Int)))
 ((getI s0.2.2.2.2.2.2.1 s0.1).bind fun y6 =>
 (m_spec_l10Coming y6).bind fun y7 =>
 (chk (slOk y7 (y6.way.length : Int) y6.way.length)).bind fun _ =>
 (m_spec_l6Closed (subL y6.way y7 (y6.way.length : Int)) t).bind fun y8 =>
 cond y8
 ((rhoM [2, 3, 4, 5, 6, 7, 8, 9]).bind fun _ =>
 (m_p0_spec_l10Again (⟨(⟨s0.2.2.2.2.1, s0.2.2.2.2.2.1, s0.2.1⟩ : YNetwork), s0.2.2.2.2.2.2.1, s0.2.2.2.2.2.2.2.1, s0.2.2.2.2.2.2.2.2.1, s0.2.2.1, s0.2.2.2.2.2.2.2.2.2.1, s0.2.2.2.2.2.2.2.2.2.2, s0.2.2.2.1⟩ : YWorld) s0.1).bind fun y9 =>
 some (.inl ((w64 (s0.1 + 1)), y9.network.change, y9.now, y9.made, y9.network.legs, y9.network.off, y9.orders, y9.bookings, y9.closed, y9.scans, y9.skip)))
 (some (.inl ((w64 (s0.1 + 1)), s0.2.1, s0.2.2.1, s0.2.2.2.1, s0.2.2.2.2.1, s0.2.2.2.2.2.1, s0.2.2.2.2.2.2.1, s0.2.2.2.2.2.2.2.1, s0.2.2.2.2.2.2.2.2.1, s0.2.2.2.2.2.2.2.2.2.1, s0.2.2.2.2.2.2.2.2.2.2))))
 (some (.inr (s0.2.1, s0.2.2.1, s0.2.2.2.1, s0.2.2.2.2.1, s0.2.2.2.2.2.1, s0.2.2.2.2.2.2.1, s0.2.2.2.2.2.2.2.1, s0.2.2.2.2.2.2.2.2.1, s0.2.2.2.2.2.2.2.2.2.1, s0.2.2.2.2.2.2.2.2.2.2)))
instance (t : YTrip) : LoopE (m_o_spec_ShutTrip_b0 t) := ⟨fun s0 => (.un :: .un :: .un :: .be 0 0 0 :: .be 1 0 0 :: .un :: .be 2 0 0 :: vi s0.1 :: .un :: .un :: .un :: .un :: .un :: .un :: .un :: .un :: .un :: .un :: .un :: .un :: .un :: .un :: .un :: .un :: .un :: .un :: .un :: .un :: .un :: .un :: .un :: .un :: .un :: .un :: .un :: .un :: .un :: .un :: .un :: .un :: .un :: .un :: .un :: .un :: .un :: .un :: .un :: .un :: .un :: .un :: .un :: .un :: .un :: .un :: .un :: .un :: .un :: .un :: .un :: .un :: .un :: .un :: .un :: .un :: .un :: .un :: .un :: .un :: .un :: .un :: .un :: []), fun s0 => [some ⟨55, 2, [[vi t.leg, vi t.day]]⟩, some ⟨41, 10, [[.v (.slice none 0 0), .v (.slice none 0 0), vi 0, .v (.slice none 0 0), .v (.slice none 0 0), .v (.slice none 0 0), vi 0, .v (.slice none 0 0), .v (.slice none 0 0), vi 0]]⟩, some ⟨41, 10, [[.ms 3, .ms 4, vi s0.2.1, .ms 5, .ms 6, .ms 7, vi s0.2.2.1, .ms 8, .ms 9, vi s0.2.2.2.1]]⟩, some ⟨67, 6, s0.2.2.2.2.1.map cLeg⟩, some ⟨3, 1, s0.2.2.2.2.2.1.map cInt⟩, some ⟨62, 11, s0.2.2.2.2.2.2.1.map cOrder⟩, some ⟨135, 4, s0.2.2.2.2.2.2.2.1.map cBooking⟩, some ⟨55, 2, s0.2.2.2.2.2.2.2.2.1.map cTrip⟩, some ⟨130, 6, s0.2.2.2.2.2.2.2.2.2.1.map cScan⟩, some ⟨3, 1, s0.2.2.2.2.2.2.2.2.2.2.map cInt⟩]⟩
def m_o_spec_ShutTrip (w : YWorld) (t : YTrip) : Option (YWorld × Bool) :=
 (m_o_spec_l10Copy w).bind fun y1 =>
 (m_spec_IsWorld w).bind fun y2 =>
 cond (!y2)
 (some (y1, false))
 ((m_spec_IsTrip w.network t).bind fun y3 =>
 cond (!y3)
 (some (y1, false))
 ((m_spec_l3Starts w.network t).bind fun y4 =>
 cond (decide (y4 ≤ w.now))
 (some (y1, false))
 ((m_spec_l6Closed w.closed t).bind fun y5 =>
 cond y5
 (some (y1, false))
 (cond (decide (20 ≤ (w.closed.length : Int)))
 (some (y1, false))
 ((chk (appOk ((y1.closed : List YTrip).length + ([t] : List YTrip).length) 16)).bind fun _ =>
 (iterF (m_o_spec_ShutTrip_b0 t) NN (0, y1.network.change, y1.now, y1.made, y1.network.legs, y1.network.off, y1.orders, y1.bookings, ((y1.closed : List YTrip) ++ [t]), y1.scans, y1.skip)).bind (fun o0 =>
 some ((⟨(⟨o0.2.2.2.1, o0.2.2.2.2.1, o0.1⟩ : YNetwork), o0.2.2.2.2.2.1, o0.2.2.2.2.2.2.1, o0.2.2.2.2.2.2.2.1, o0.2.1, o0.2.2.2.2.2.2.2.2.1, o0.2.2.2.2.2.2.2.2.2, o0.2.2.1⟩ : YWorld), true)))))))
theorem ok_o_spec_ShutTrip (w : YWorld) (t : YTrip) {r : YWorld × Bool} (H : m_o_spec_ShutTrip w t = some r) : CallM Tryz.prog 41 [.ag (cWorld w), .ag (cTrip t)] [] (.tu [.ag [.ms 0, .ms 1, vi r.1.network.change, .ms 2, .ms 3, .ms 4, vi r.1.now, .ms 5, .ms 6, vi r.1.made], vb r.2]) [some ⟨67, 6, r.1.network.legs.map cLeg⟩, some ⟨3, 1, r.1.network.off.map cInt⟩, some ⟨62, 11, r.1.orders.map cOrder⟩, some ⟨135, 4, r.1.bookings.map cBooking⟩, some ⟨55, 2, r.1.closed.map cTrip⟩, some ⟨130, 6, r.1.scans.map cScan⟩, some ⟨3, 1, r.1.skip.map cInt⟩] := by
  replace H := H0 H
  unfold m_o_spec_ShutTrip at H
  refine callM_of Tryz.func41 rfl Tryz.ntmps41 Tryz.results41 fun Q hQ hQn => ?_
  exact wk2
instance (w : YWorld) (t : YTrip) : CT Tryz.prog (m_o_spec_ShutTrip w t) := ⟨41, [.ag (cWorld w), .ag (cTrip t)], [], fun r => .tu [.ag [.ms 0, .ms 1, vi r.1.network.change, .ms 2, .ms 3, .ms 4, vi r.1.now, .ms 5, .ms 6, vi r.1.made], vb r.2], fun r => [some ⟨67, 6, r.1.network.legs.map cLeg⟩, some ⟨3, 1, r.1.network.off.map cInt⟩, some ⟨62, 11, r.1.orders.map cOrder⟩, some ⟨135, 4, r.1.bookings.map cBooking⟩, some ⟨55, 2, r.1.closed.map cTrip⟩, some ⟨130, 6, r.1.scans.map cScan⟩, some ⟨3, 1, r.1.skip.map cInt⟩], ok_o_spec_ShutTrip w t⟩
end Go.Proofs.YtmcdjilbkmhfoaaGreat

/- The mirror of spec_StrandedIn, and that the code does just that (printed by a program of my own). -/
namespace Go.Proofs.YtmcdjilbkmhfoaaGreat
set_option maxRecDepth 10000
open Go.RowKit
set_option linter.unusedVariables false
set_option maxHeartbeats 16000000
def m_spec_StrandedIn_b0 (w : YWorld) (s0 : Int × (List Int)) : Option ((Int × (List Int)) ⊕ (List Int)) :=
 cond (decide (s0.1 < (w.orders.length : Int)))
 ((m_spec_l10Stranded w s0.1).bind fun y2 =>
 cond y2
 ((chk (appOk ((s0.2 : List Int).length + ([(w64 (s0.1 + 1))] : List Int).length) 8)).bind fun _ =>
 some (.inl ((w64 (s0.1 + 1)), ((s0.2 : List Int) ++ [(w64 (s0.1 + 1))]))))
 (some (.inl ((w64 (s0.1 + 1)), s0.2))))
 (some (.inr s0.2))
instance (w : YWorld) : LoopE (m_spec_StrandedIn_b0 w) := ⟨fun s0 => [.un, .be 0 0 0, .un, .ms 1, vi s0.1, .un, .un, .un, .un, .un, .un, .un, .un, .un, .un, .un, .un, .un, .un, .un, .un, .un, .un, .un, .un, .un], fun s0 => [some ⟨41, 10, [[.sl (w.network.legs.map cLeg), .sl (w.network.off.map cInt), vi w.network.change, .sl (w.orders.map cOrder), .sl (w.bookings.map cBooking), .sl (w.closed.map cTrip), vi w.now, .sl (w.scans.map cScan), .sl (w.skip.map cInt), vi w.made]]⟩, some ⟨3, 1, s0.2.map cInt⟩]⟩
def m_spec_StrandedIn (w : YWorld) : Option (List Int) :=
 (m_spec_IsWorld w).bind fun y1 =>
 cond (!y1)
 (some ([] : List Int))
 ((iterF (m_spec_StrandedIn_b0 w) NN (0, ([] : List Int))).bind (fun o0 =>
 some o0))
theorem ok_spec_StrandedIn (w : YWorld) {r : (List Int)} (H : m_spec_StrandedIn w = some r) : CallM Tryz.prog 129 [.ag (cWorld w)] [] (.ms 0) [some ⟨3, 1, r.map cInt⟩] := by
  replace H := H0 H
  unfold m_spec_StrandedIn at H
  refine callM_of Tryz.func129 rfl Tryz.ntmps129 Tryz.results129 fun Q hQ hQn => ?_
  exact wk2
instance (w : YWorld) : CT Tryz.prog (m_spec_StrandedIn w) := ⟨129, [.ag (cWorld w)], [], fun r => .ms 0, fun r => [some ⟨3, 1, r.map cInt⟩], ok_spec_StrandedIn w⟩
end Go.Proofs.YtmcdjilbkmhfoaaGreat

/- The mirror of o_spec_RetryOrders, and that the code does just that (printed by a program of my own). -/
namespace Go.Proofs.YtmcdjilbkmhfoaaGreat
set_option maxRecDepth 10000
open Go.RowKit
set_option linter.unusedVariables false
set_option maxHeartbeats 16000000
def m_o_spec_RetryOrders_b0 (y2 : (List Int)) (s0 : Int × Int × Int × Int × (List YLeg) × (List Int) × (List YOrder) × (List YBooking) × (List YTrip) × (List YScan) × (List Int)) : Option ((Int × Int × Int × Int × (List YLeg) × (List Int) × (List YOrder) × (List YBooking) × (List YTrip) × (List YScan) × (List Int)) ⊕ (Int × Int × Int × (List YLeg) × (List Int) × (List YOrder) × (List YBooking) × (List YTrip) × (List YScan) × (List Int))) :=
 cond (decide (s0.1 < (y2.length : Int)))
 ((getI y2 s0.1).bind fun y3 =>
 (rhoM [1, 2, 3, 4, 5, 6, 7, 8]).bind fun _ =>
 (m_p0_spec_l10Again (⟨(⟨s0.2.2.2.2.1, s0.2.2.2.2.2.1, s0.2.1⟩ : YNetwork), s0.2.2.2.2.2.2.1, s0.2.2.2.2.2.2.2.1, s0.2.2.2.2.2.2.2.2.1, s0.2.2.1, s0.2.2.2.2.2.2.2.2.2.1, s0.2.2.2.2.2.2.2.2.2.2, s0.2.2.2.1⟩ : YWorld) (w64 (y3 - 1))).bind fun y4 =>
 some (.inl ((w64 (s0.1 + 1)), y4.network.change, y4.now, y4.made, y4.network.legs, y4.network.off, y4.orders, y4.bookings, y4.closed, y4.scans, y4.skip)))
 (some (.inr (s0.2.1, s0.2.2.1, s0.2.2.2.1, s0.2.2.2.2.1, s0.2.2.2.2.2.1, s0.2.2.2.2.2.2.1, s0.2.2.2.2.2.2.2.1, s0.2.2.2.2.2.2.2.2.1, s0.2.2.2.2.2.2.2.2.2.1, s0.2.2.2.2.2.2.2.2.2.2)))
instance (y2 : (List Int)) : LoopE (m_o_spec_RetryOrders_b0 y2) := ⟨fun s0 => [.un, .un, .be 0 0 0, .un, .be 1 0 0, .ms 9, vi s0.1, .un, .un, .un, .un, .un, .un, .un, .un, .un, .un, .un, .un, .un, .un, .un, .un, .un, .un, .un, .un, .un, .un, .un], fun s0 => [some ⟨41, 10, [[.v (.slice none 0 0), .v (.slice none 0 0), vi 0, .v (.slice none 0 0), .v (.slice none 0 0), .v (.slice none 0 0), vi 0, .v (.slice none 0 0), .v (.slice none 0 0), vi 0]]⟩, some ⟨41, 10, [[.ms 2, .ms 3, vi s0.2.1, .ms 4, .ms 5, .ms 6, vi s0.2.2.1, .ms 7, .ms 8, vi s0.2.2.2.1]]⟩, some ⟨67, 6, s0.2.2.2.2.1.map cLeg⟩, some ⟨3, 1, s0.2.2.2.2.2.1.map cInt⟩, some ⟨62, 11, s0.2.2.2.2.2.2.1.map cOrder⟩, some ⟨135, 4, s0.2.2.2.2.2.2.2.1.map cBooking⟩, some ⟨55, 2, s0.2.2.2.2.2.2.2.2.1.map cTrip⟩, some ⟨130, 6, s0.2.2.2.2.2.2.2.2.2.1.map cScan⟩, some ⟨3, 1, s0.2.2.2.2.2.2.2.2.2.2.map cInt⟩, some ⟨3, 1, y2.map cInt⟩]⟩
def m_o_spec_RetryOrders (w : YWorld) : Option (YWorld × Int) :=
 (m_o_spec_l10Copy w).bind fun y1 =>
 (m_spec_StrandedIn w).bind fun y2 =>
 (iterF (m_o_spec_RetryOrders_b0 y2) NN (0, y1.network.change, y1.now, y1.made, y1.network.legs, y1.network.off, y1.orders, y1.bookings, y1.closed, y1.scans, y1.skip)).bind (fun o0 =>
 (m_spec_StrandedIn (⟨(⟨o0.2.2.2.1, o0.2.2.2.2.1, o0.1⟩ : YNetwork), o0.2.2.2.2.2.1, o0.2.2.2.2.2.2.1, o0.2.2.2.2.2.2.2.1, o0.2.1, o0.2.2.2.2.2.2.2.2.1, o0.2.2.2.2.2.2.2.2.2, o0.2.2.1⟩ : YWorld)).bind fun y5 =>
 some ((⟨(⟨o0.2.2.2.1, o0.2.2.2.2.1, o0.1⟩ : YNetwork), o0.2.2.2.2.2.1, o0.2.2.2.2.2.2.1, o0.2.2.2.2.2.2.2.1, o0.2.1, o0.2.2.2.2.2.2.2.2.1, o0.2.2.2.2.2.2.2.2.2, o0.2.2.1⟩ : YWorld), (w64 ((y2.length : Int) - (y5.length : Int)))))
theorem ok_o_spec_RetryOrders (w : YWorld) {r : YWorld × Int} (H : m_o_spec_RetryOrders w = some r) : CallM Tryz.prog 44 [.ag (cWorld w)] [] (.tu [.ag [.ms 0, .ms 1, vi r.1.network.change, .ms 2, .ms 3, .ms 4, vi r.1.now, .ms 5, .ms 6, vi r.1.made], vi r.2]) [some ⟨67, 6, r.1.network.legs.map cLeg⟩, some ⟨3, 1, r.1.network.off.map cInt⟩, some ⟨62, 11, r.1.orders.map cOrder⟩, some ⟨135, 4, r.1.bookings.map cBooking⟩, some ⟨55, 2, r.1.closed.map cTrip⟩, some ⟨130, 6, r.1.scans.map cScan⟩, some ⟨3, 1, r.1.skip.map cInt⟩] := by
  replace H := H0 H
  unfold m_o_spec_RetryOrders at H
  refine callM_of Tryz.func44 rfl Tryz.ntmps44 Tryz.results44 fun Q hQ hQn => ?_
  exact wk2
instance (w : YWorld) : CT Tryz.prog (m_o_spec_RetryOrders w) := ⟨44, [.ag (cWorld w)], [], fun r => .tu [.ag [.ms 0, .ms 1, vi r.1.network.change, .ms 2, .ms 3, .ms 4, vi r.1.now, .ms 5, .ms 6, vi r.1.made], vi r.2], fun r => [some ⟨67, 6, r.1.network.legs.map cLeg⟩, some ⟨3, 1, r.1.network.off.map cInt⟩, some ⟨62, 11, r.1.orders.map cOrder⟩, some ⟨135, 4, r.1.bookings.map cBooking⟩, some ⟨55, 2, r.1.closed.map cTrip⟩, some ⟨130, 6, r.1.scans.map cScan⟩, some ⟨3, 1, r.1.skip.map cInt⟩], ok_o_spec_RetryOrders w⟩
end Go.Proofs.YtmcdjilbkmhfoaaGreat
