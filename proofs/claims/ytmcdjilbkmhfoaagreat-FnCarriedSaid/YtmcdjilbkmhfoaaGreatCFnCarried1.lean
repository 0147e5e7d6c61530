/- A part of the proof of the statement in the last file of this claim: texts on the language of the program and on its functions. No condition. -/
import Derived.Test.YtmcdjilbkmhfoaaGreatCFnTimeHalves3
import Derived.Test.YtmcdjilbkmhfoaaGreatCFnTimeHalves4
import Derived.Lib.SmallJoins
import Derived.Test.YtmcdjilbkmhfoaaGreatCFnTimeHalves5
import Derived.Test.YtmcdjilbkmhfoaaGreatCFnTimeHalves6
import Derived.Test.YtmcdjilbkmhfoaaGreatCFnTimeHalves9
import Derived.Test.YtmcdjilbkmhfoaaGreatCFnTimeHalves7
import Derived.Test.YtmcdjilbkmhfoaaGreatCFnTimeHalves8
/- What a row of bytes decodes to. -/
namespace Go.Proofs.YtmcdjilbkmhfoaaGreat
set_option maxRecDepth 10000
open Go.ChangeShapes Go.WideShapes Go.ChangeAt Go.RowKit Go.Deep
set_option linter.unusedVariables false
theorem decP_b8 : DecP Tryz.prog 5 cB8 (fun x => 0 ≤ x.v ∧ x.v ≤ 255) := by
  intro H enc w base spare held fuel cs x h
  obtain ⟨n, rfl, _, hw⟩ := DataW.trod_int Tryz.underlying5 h
  refine ⟨⟨n⟩, reads_one rfl (.v _ rfl), ?_⟩
  simp [Lit.wf, IntKind.min, IntKind.max, IntKind.signed, IntKind.bits] at hw
  exact ⟨by show 0 ≤ n; omega, by show n ≤ 255; omega⟩
theorem cells_b8 : Tryz.prog.cellsOf 5 = 1 := by kernel_rfl
end Go.Proofs.YtmcdjilbkmhfoaaGreat

/- The mirror of p0_spec_l10Act, and that the code does just that (printed by a program of my own). -/
namespace Go.Proofs.YtmcdjilbkmhfoaaGreat
set_option maxRecDepth 10000
open Go.RowKit
set_option linter.unusedVariables false
set_option maxHeartbeats 16000000
def m_p0_spec_l10Act (c : Yl1Cur) (w : YWorld) : Option (YWorld × Yl1Cur) :=
 (rhoM [0]).bind fun _ =>
 (m_p0_spec_l1Below c 6).bind fun y1 =>
 cond (decide (y1.1 = 0))
 (cond (decide (y1.1 = 0))
 ((drwL 8 [4, 8, 10, 13]).bind fun _ =>
 (rhoM [0]).bind fun _ =>
 (m_p0_spec_l4Of y1.2 w.network).bind fun y2 =>
 (rhoM [0]).bind fun _ =>
 (m_p0_spec_l4Of y2.2 w.network).bind fun y3 =>
 (rhoM [0]).bind fun _ =>
 (m_p0_spec_l1Below y3.2 3).bind fun y4 =>
 (rhoM [0]).bind fun _ =>
 (m_p0_spec_l1Below y4.2 4000).bind fun y5 =>
 (m_o_spec_AcceptOrder w y2.1 y3.1 (w64 (1 + y4.1)) (w64 (500 + y5.1))).bind fun y6 =>
 some (y6.1, y5.2))
 (cond (decide (y1.1 = 3))
 ((drwL 8 [3]).bind fun _ =>
 (rhoM [0]).bind fun _ =>
 (m_p0_spec_l10Trip y1.2 w).bind fun y7 =>
 (m_o_spec_ShutTrip w y7.1).bind fun y8 =>
 some (y8.1, y7.2))
 (cond (decide (y1.1 = 4))
 ((m_o_spec_RetryOrders w).bind fun y9 =>
 some (y9.1, y1.2))
 ((drwL 8 [4]).bind fun _ =>
 (rhoM [0]).bind fun _ =>
 (m_p0_spec_l1Below y1.2 40).bind fun y10 =>
 (m_o_spec_AdvanceTo w (w64 (w.now + (w64 (30 * y10.1))))).bind fun y11 =>
 some (y11, y10.2)))))
 (cond (decide (y1.1 = 1))
 (cond (decide (y1.1 = 1))
 ((drwL 8 [4, 8, 10, 13]).bind fun _ =>
 (rhoM [0]).bind fun _ =>
 (m_p0_spec_l4Of y1.2 w.network).bind fun y12 =>
 (rhoM [0]).bind fun _ =>
 (m_p0_spec_l4Of y12.2 w.network).bind fun y13 =>
 (rhoM [0]).bind fun _ =>
 (m_p0_spec_l1Below y13.2 3).bind fun y14 =>
 (rhoM [0]).bind fun _ =>
 (m_p0_spec_l1Below y14.2 4000).bind fun y15 =>
 (m_o_spec_AcceptOrder w y12.1 y13.1 (w64 (1 + y14.1)) (w64 (500 + y15.1))).bind fun y16 =>
 some (y16.1, y15.2))
 (cond (decide (y1.1 = 3))
 ((drwL 8 [3]).bind fun _ =>
 (rhoM [0]).bind fun _ =>
 (m_p0_spec_l10Trip y1.2 w).bind fun y17 =>
 (m_o_spec_ShutTrip w y17.1).bind fun y18 =>
 some (y18.1, y17.2))
 (cond (decide (y1.1 = 4))
 ((m_o_spec_RetryOrders w).bind fun y19 =>
 some (y19.1, y1.2))
 ((drwL 8 [4]).bind fun _ =>
 (rhoM [0]).bind fun _ =>
 (m_p0_spec_l1Below y1.2 40).bind fun y20 =>
 (m_o_spec_AdvanceTo w (w64 (w.now + (w64 (30 * y20.1))))).bind fun y21 =>
 some (y21, y20.2)))))
 (cond (decide (y1.1 = 2))
 ((drwL 8 [4, 8, 10, 13]).bind fun _ =>
 (rhoM [0]).bind fun _ =>
 (m_p0_spec_l4Of y1.2 w.network).bind fun y22 =>
 (rhoM [0]).bind fun _ =>
 (m_p0_spec_l4Of y22.2 w.network).bind fun y23 =>
 (rhoM [0]).bind fun _ =>
 (m_p0_spec_l1Below y23.2 3).bind fun y24 =>
 (rhoM [0]).bind fun _ =>
 (m_p0_spec_l1Below y24.2 4000).bind fun y25 =>
 (m_o_spec_AcceptOrder w y22.1 y23.1 (w64 (1 + y24.1)) (w64 (500 + y25.1))).bind fun y26 =>
 some (y26.1, y25.2))
 (cond (decide (y1.1 = 3))
 ((drwL 8 [3]).bind fun _ =>
 (rhoM [0]).bind fun _ =>
 (m_p0_spec_l10Trip y1.2 w).bind fun y27 =>
 (m_o_spec_ShutTrip w y27.1).bind fun y28 =>
 some (y28.1, y27.2))
 (cond (decide (y1.1 = 4))
 ((m_o_spec_RetryOrders w).bind fun y29 =>
 some (y29.1, y1.2))
 ((drwL 8 [4]).bind fun _ =>
 (rhoM [0]).bind fun _ =>
 (m_p0_spec_l1Below y1.2 40).bind fun y30 =>
 (m_o_spec_AdvanceTo w (w64 (w.now + (w64 (30 * y30.1))))).bind fun y31 =>
 some (y31, y30.2))))))
theorem ok_p0_spec_l10Act (c : Yl1Cur) (w : YWorld) {r : YWorld × Yl1Cur} (H : m_p0_spec_l10Act c w = some r) : CallM Tryz.prog 231 [.be 0 0 0, .ag (cWorld w)] [some ⟨187, 3, [[.sl (c.b.map cB8), vi c.i, vi c.h]]⟩] (.ag [.ms 1, .ms 2, vi r.1.network.change, .ms 3, .ms 4, .ms 5, vi r.1.now, .ms 6, .ms 7, vi r.1.made]) [some ⟨187, 3, [[.sl (r.2.b.map cB8), vi r.2.i, vi r.2.h]]⟩, some ⟨67, 6, r.1.network.legs.map cLeg⟩, some ⟨3, 1, r.1.network.off.map cInt⟩, some ⟨62, 11, r.1.orders.map cOrder⟩, some ⟨135, 4, r.1.bookings.map cBooking⟩, some ⟨55, 2, r.1.closed.map cTrip⟩, some ⟨130, 6, r.1.scans.map cScan⟩, some ⟨3, 1, r.1.skip.map cInt⟩] := by
  replace H := H0 H
  unfold m_p0_spec_l10Act at H
  refine callM_of Tryz.func231 rfl Tryz.ntmps231 Tryz.results231 fun Q hQ hQn => ?_
  exact wk2
instance (c : Yl1Cur) (w : YWorld) : CT Tryz.prog (m_p0_spec_l10Act c w) := ⟨231, [.be 0 0 0, .ag (cWorld w)], [some ⟨187, 3, [[.sl (c.b.map cB8), vi c.i, vi c.h]]⟩], fun r => .ag [.ms 1, .ms 2, vi r.1.network.change, .ms 3, .ms 4, .ms 5, vi r.1.now, .ms 6, .ms 7, vi r.1.made], fun r => [some ⟨187, 3, [[.sl (r.2.b.map cB8), vi r.2.i, vi r.2.h]]⟩, some ⟨67, 6, r.1.network.legs.map cLeg⟩, some ⟨3, 1, r.1.network.off.map cInt⟩, some ⟨62, 11, r.1.orders.map cOrder⟩, some ⟨135, 4, r.1.bookings.map cBooking⟩, some ⟨55, 2, r.1.closed.map cTrip⟩, some ⟨130, 6, r.1.scans.map cScan⟩, some ⟨3, 1, r.1.skip.map cInt⟩], ok_p0_spec_l10Act c w⟩
end Go.Proofs.YtmcdjilbkmhfoaaGreat

/- The mirror of o_spec_NewWorld, and that the code does just that (printed by a program of my own). -/
namespace Go.Proofs.YtmcdjilbkmhfoaaGreat
set_option maxRecDepth 10000
open Go.RowKit
set_option linter.unusedVariables false
set_option maxHeartbeats 16000000
def m_o_spec_NewWorld (n : YNetwork) (skip : List Int) : Option (YWorld × Bool) :=
 (m_o_spec_l10Copy (⟨n, [], [], [], 0, [], skip, 0⟩ : YWorld)).bind fun y1 =>
 (m_spec_IsWorld y1).bind fun y2 =>
 cond (!y2)
 (some ((⟨(⟨[], [], 0⟩ : YNetwork), [], [], [], 0, [], [], 0⟩ : YWorld), false))
 (some (y1, true))
theorem ok_o_spec_NewWorld (n : YNetwork) (skip : List Int) {r : YWorld × Bool} (H : m_o_spec_NewWorld n skip = some r) : CallM Tryz.prog 57 [.ag (cNetwork n), .sl (skip.map cInt)] [] (.tu [.ag [.ms 0, .ms 1, vi r.1.network.change, .ms 2, .ms 3, .ms 4, vi r.1.now, .ms 5, .ms 6, vi r.1.made], vb r.2]) [some ⟨67, 6, r.1.network.legs.map cLeg⟩, some ⟨3, 1, r.1.network.off.map cInt⟩, some ⟨62, 11, r.1.orders.map cOrder⟩, some ⟨135, 4, r.1.bookings.map cBooking⟩, some ⟨55, 2, r.1.closed.map cTrip⟩, some ⟨130, 6, r.1.scans.map cScan⟩, some ⟨3, 1, r.1.skip.map cInt⟩] := by
  replace H := H0 H
  unfold m_o_spec_NewWorld at H
  refine callM_of Tryz.func57 rfl Tryz.ntmps57 Tryz.results57 fun Q hQ hQn => ?_
  exact wk2
instance (n : YNetwork) (skip : List Int) : CT Tryz.prog (m_o_spec_NewWorld n skip) := ⟨57, [.ag (cNetwork n), .sl (skip.map cInt)], [], fun r => .tu [.ag [.ms 0, .ms 1, vi r.1.network.change, .ms 2, .ms 3, .ms 4, vi r.1.now, .ms 5, .ms 6, vi r.1.made], vb r.2], fun r => [some ⟨67, 6, r.1.network.legs.map cLeg⟩, some ⟨3, 1, r.1.network.off.map cInt⟩, some ⟨62, 11, r.1.orders.map cOrder⟩, some ⟨135, 4, r.1.bookings.map cBooking⟩, some ⟨55, 2, r.1.closed.map cTrip⟩, some ⟨130, 6, r.1.scans.map cScan⟩, some ⟨3, 1, r.1.skip.map cInt⟩], ok_o_spec_NewWorld n skip⟩
end Go.Proofs.YtmcdjilbkmhfoaaGreat

/- The mirror of p0_spec_l10Draw, and that the code does just that (printed by a program of my own). -/
namespace Go.Proofs.YtmcdjilbkmhfoaaGreat
set_option maxRecDepth 10000
open Go.RowKit
set_option linter.unusedVariables false
set_option maxHeartbeats 16000000
def m_p0_spec_l10Draw_b0 (most : Int) (y1 : YNetwork × Yl1Cur) (s0 : Int × (List YB8) × Int × Int × (List YLeg)) : Option ((Int × (List YB8) × Int × Int × (List YLeg)) ⊕ ((List YB8) × Int × Int × (List YLeg))) :=
 cond (decide (s0.1 < (s0.2.2.2.2.length : Int)))
 ((rhoM [0]).bind fun _ =>
 (m_p0_spec_l1Once (⟨s0.2.1, s0.2.2.1, s0.2.2.2.1⟩ : Yl1Cur) 2).bind fun y2 =>
 cond y2.1
 ((drwL 8 [4]).bind fun _ =>
 (rhoM [0]).bind fun _ =>
 (m_p0_spec_l1Below y2.2 9).bind fun y3 =>
 (getI s0.2.2.2.2 s0.1).bind fun y4 =>
 some (.inl ((w64 (s0.1 + 1)), y3.2.b, y3.2.i, y3.2.h, (s0.2.2.2.2.set (Int.toNat s0.1) (⟨y4.from_, y4.to_, y4.start, y4.takes, y4.days, (w64 (2000 + (w64 (1000 * y3.1))))⟩ : YLeg)))))
 (some (.inl ((w64 (s0.1 + 1)), y2.2.b, y2.2.i, y2.2.h, s0.2.2.2.2))))
 (some (.inr (s0.2.1, s0.2.2.1, s0.2.2.2.1, s0.2.2.2.2)))
instance (most : Int) (y1 : YNetwork × Yl1Cur) : LoopE (m_p0_spec_l10Draw_b0 most y1) := ⟨fun s0 => (.be 0 0 0 :: vi most :: .un :: .un :: .be 1 0 0 :: .be 2 0 0 :: vi s0.1 :: .un :: .un :: .un :: .un :: .un :: .un :: .un :: .un :: .un :: .un :: .un :: .un :: .un :: .un :: .un :: .un :: .un :: .un :: .un :: .un :: .un :: .un :: .un :: .un :: .un :: .un :: .un :: .un :: .un :: .un :: .un :: .un :: .un :: .un :: .un :: .un :: .un :: .un :: .un :: .un :: .un :: .un :: .un :: .un :: .un :: .un :: .un :: .un :: .un :: .un :: .un :: .un :: .un :: .un :: .un :: []), fun s0 => [some ⟨187, 3, [[.sl (s0.2.1.map cB8), vi s0.2.2.1, vi s0.2.2.2.1]]⟩, some ⟨41, 10, [[.v (.slice none 0 0), .v (.slice none 0 0), vi 0, .v (.slice none 0 0), .v (.slice none 0 0), .v (.slice none 0 0), vi 0, .v (.slice none 0 0), .v (.slice none 0 0), vi 0]]⟩, some ⟨35, 3, [[.ms 3, .ms 4, vi y1.1.change]]⟩, some ⟨67, 6, s0.2.2.2.2.map cLeg⟩, some ⟨3, 1, y1.1.off.map cInt⟩]⟩
def m_p0_spec_l10Draw_b1 (most : Int) (y1 : YNetwork × Yl1Cur) (o0 : (List YB8) × Int × Int × (List YLeg)) (s1 : Int × (List YB8) × Int × Int × (List Int)) : Option ((Int × (List YB8) × Int × Int × (List Int)) ⊕ ((List YB8) × Int × Int × (List Int))) :=
 cond (decide (0 < s1.1))
 ((rhoM [0]).bind fun _ =>
 (m_p0_spec_l1Below (⟨s1.2.1, s1.2.2.1, s1.2.2.2.1⟩ : Yl1Cur) 25).bind fun y6 =>
 (chk (appOk ((s1.2.2.2.2 : List Int).length + ([(w64 (1 + y6.1))] : List Int).length) 8)).bind fun _ =>
 some (.inl ((w64 (s1.1 - 1)), y6.2.b, y6.2.i, y6.2.h, ((s1.2.2.2.2 : List Int) ++ [(w64 (1 + y6.1))]))))
 (some (.inr (s1.2.1, s1.2.2.1, s1.2.2.2.1, s1.2.2.2.2)))
instance (most : Int) (y1 : YNetwork × Yl1Cur) (o0 : (List YB8) × Int × Int × (List YLeg)) : LoopE (m_p0_spec_l10Draw_b1 most y1 o0) := ⟨fun s1 => (.be 0 0 0 :: vi most :: .un :: .un :: .be 1 0 0 :: .be 2 0 0 :: .un :: .ms 5 :: vi s1.1 :: .un :: .un :: .un :: .un :: .un :: .un :: .un :: .un :: .un :: .un :: .un :: .un :: .un :: .un :: .un :: .un :: .un :: .un :: .un :: .un :: .un :: .un :: .un :: .un :: .un :: .un :: .un :: .un :: .un :: .un :: .un :: .un :: .un :: .un :: .un :: .un :: .un :: .un :: .un :: .un :: .un :: .un :: .un :: .un :: .un :: .un :: .un :: .un :: .un :: .un :: .un :: .un :: .un :: []), fun s1 => [some ⟨187, 3, [[.sl (s1.2.1.map cB8), vi s1.2.2.1, vi s1.2.2.2.1]]⟩, some ⟨41, 10, [[.v (.slice none 0 0), .v (.slice none 0 0), vi 0, .v (.slice none 0 0), .v (.slice none 0 0), .v (.slice none 0 0), vi 0, .v (.slice none 0 0), .v (.slice none 0 0), vi 0]]⟩, some ⟨35, 3, [[.ms 3, .ms 4, vi y1.1.change]]⟩, some ⟨67, 6, o0.2.2.2.map cLeg⟩, some ⟨3, 1, y1.1.off.map cInt⟩, some ⟨3, 1, s1.2.2.2.2.map cInt⟩]⟩
def m_p0_spec_l10Draw_b2 (s2 : Int × (List YB8) × Int × Int × Int × Int × Int × (List YLeg) × (List Int) × (List YOrder) × (List YBooking) × (List YTrip) × (List YScan) × (List Int)) : Option ((Int × (List YB8) × Int × Int × Int × Int × Int × (List YLeg) × (List Int) × (List YOrder) × (List YBooking) × (List YTrip) × (List YScan) × (List Int)) ⊕ ((List YB8) × Int × Int × Int × Int × Int × (List YLeg) × (List Int) × (List YOrder) × (List YBooking) × (List YTrip) × (List YScan) × (List Int))) :=
 cond (decide (0 < s2.1))
 ((frz (.be 0 0 0 :: .un :: .un :: .un :: .be 1 0 0 :: .un :: .un :: .un :: .un :: .be 2 0 0 :: .un :: vi s2.1 :: .un :: .un :: .un :: .un :: .un :: .un :: .un :: .un :: .un :: .un :: .un :: .un :: .un :: .un :: .un :: .un :: .un :: .un :: .un :: .un :: .un :: .un :: .un :: .un :: .un :: .un :: .un :: .un :: .un :: .un :: .un :: .un :: .un :: .un :: .un :: .un :: .un :: .un :: .un :: .un :: .un :: .un :: .un :: .un :: .un :: .un :: .un :: .un :: .un :: .un :: []) [some ⟨187, 3, [[.sl (s2.2.1.map cB8), vi s2.2.2.1, vi s2.2.2.2.1]]⟩, some ⟨41, 10, [[.v (.slice none 0 0), .v (.slice none 0 0), vi 0, .v (.slice none 0 0), .v (.slice none 0 0), .v (.slice none 0 0), vi 0, .v (.slice none 0 0), .v (.slice none 0 0), vi 0]]⟩, some ⟨41, 10, [[.sl (s2.2.2.2.2.2.2.2.1.map cLeg), .sl (s2.2.2.2.2.2.2.2.2.1.map cInt), vi s2.2.2.2.2.1, .sl (s2.2.2.2.2.2.2.2.2.2.1.map cOrder), .sl (s2.2.2.2.2.2.2.2.2.2.2.1.map cBooking), .sl (s2.2.2.2.2.2.2.2.2.2.2.2.1.map cTrip), vi s2.2.2.2.2.2.1, .sl (s2.2.2.2.2.2.2.2.2.2.2.2.2.1.map cScan), .sl (s2.2.2.2.2.2.2.2.2.2.2.2.2.2.map cInt), vi s2.2.2.2.2.2.2.1]]⟩]).bind fun _ =>
 (rhoM [0]).bind fun _ =>
 (m_p0_spec_l10Act (⟨s2.2.1, s2.2.2.1, s2.2.2.2.1⟩ : Yl1Cur) (⟨(⟨s2.2.2.2.2.2.2.2.1, s2.2.2.2.2.2.2.2.2.1, s2.2.2.2.2.1⟩ : YNetwork), s2.2.2.2.2.2.2.2.2.2.1, s2.2.2.2.2.2.2.2.2.2.2.1, s2.2.2.2.2.2.2.2.2.2.2.2.1, s2.2.2.2.2.2.1, s2.2.2.2.2.2.2.2.2.2.2.2.2.1, s2.2.2.2.2.2.2.2.2.2.2.2.2.2, s2.2.2.2.2.2.2.1⟩ : YWorld)).bind fun y9 =>
 some (.inl ((w64 (s2.1 - 1)), y9.2.b, y9.2.i, y9.2.h, y9.1.network.change, y9.1.now, y9.1.made, y9.1.network.legs, y9.1.network.off, y9.1.orders, y9.1.bookings, y9.1.closed, y9.1.scans, y9.1.skip)))
 (some (.inr (s2.2.1, s2.2.2.1, s2.2.2.2.1, s2.2.2.2.2.1, s2.2.2.2.2.2.1, s2.2.2.2.2.2.2.1, s2.2.2.2.2.2.2.2.1, s2.2.2.2.2.2.2.2.2.1, s2.2.2.2.2.2.2.2.2.2.1, s2.2.2.2.2.2.2.2.2.2.2.1, s2.2.2.2.2.2.2.2.2.2.2.2.1, s2.2.2.2.2.2.2.2.2.2.2.2.2.1, s2.2.2.2.2.2.2.2.2.2.2.2.2.2)))
instance : LoopE (m_p0_spec_l10Draw_b2) := ⟨fun s2 => (.be 0 0 0 :: .un :: .un :: .un :: .be 1 0 0 :: .un :: .un :: .un :: .un :: .be 2 0 0 :: .un :: vi s2.1 :: .un :: .un :: .un :: .un :: .un :: .un :: .un :: .un :: .un :: .un :: .un :: .un :: .un :: .un :: .un :: .un :: .un :: .un :: .un :: .un :: .un :: .un :: .un :: .un :: .un :: .un :: .un :: .un :: .un :: .un :: .un :: .un :: .un :: .un :: .un :: .un :: .un :: .un :: .un :: .un :: .un :: .un :: .un :: .un :: .un :: .un :: .un :: .un :: .un :: .un :: []), fun s2 => [some ⟨187, 3, [[.sl (s2.2.1.map cB8), vi s2.2.2.1, vi s2.2.2.2.1]]⟩, some ⟨41, 10, [[.v (.slice none 0 0), .v (.slice none 0 0), vi 0, .v (.slice none 0 0), .v (.slice none 0 0), .v (.slice none 0 0), vi 0, .v (.slice none 0 0), .v (.slice none 0 0), vi 0]]⟩, some ⟨41, 10, [[.ms 3, .ms 4, vi s2.2.2.2.2.1, .ms 5, .ms 6, .ms 7, vi s2.2.2.2.2.2.1, .ms 8, .ms 9, vi s2.2.2.2.2.2.2.1]]⟩, some ⟨67, 6, s2.2.2.2.2.2.2.2.1.map cLeg⟩, some ⟨3, 1, s2.2.2.2.2.2.2.2.2.1.map cInt⟩, some ⟨62, 11, s2.2.2.2.2.2.2.2.2.2.1.map cOrder⟩, some ⟨135, 4, s2.2.2.2.2.2.2.2.2.2.2.1.map cBooking⟩, some ⟨55, 2, s2.2.2.2.2.2.2.2.2.2.2.2.1.map cTrip⟩, some ⟨130, 6, s2.2.2.2.2.2.2.2.2.2.2.2.2.1.map cScan⟩, some ⟨3, 1, s2.2.2.2.2.2.2.2.2.2.2.2.2.2.map cInt⟩]⟩
def m_p0_spec_l10Draw (c : Yl1Cur) (most : Int) : Option (YWorld × Yl1Cur) :=
 (rhoM [0]).bind fun _ =>
 (m_p0_spec_l3Draw c 7).bind fun y1 =>
 (iterF (m_p0_spec_l10Draw_b0 most y1) NN (0, y1.2.b, y1.2.i, y1.2.h, y1.1.legs)).bind (fun o0 =>
 (rhoM [0]).bind fun _ =>
 (m_p0_spec_l1Below (⟨o0.1, o0.2.1, o0.2.2.1⟩ : Yl1Cur) 6).bind fun y5 =>
 (iterF (m_p0_spec_l10Draw_b1 most y1 o0) NN (y5.1, y5.2.b, y5.2.i, y5.2.h, ([] : List Int))).bind (fun o1 =>
 (frz (.be 0 0 0 :: vi most :: .un :: .un :: .be 1 0 0 :: .be 2 0 0 :: .un :: .sl (o1.2.2.2.map cInt) :: .un :: .un :: .un :: .un :: .un :: .un :: .un :: .un :: .un :: .un :: .un :: .un :: .un :: .un :: .un :: .un :: .un :: .un :: .un :: .un :: .un :: .un :: .un :: .un :: .un :: .un :: .un :: .un :: .un :: .un :: .un :: .un :: .un :: .un :: .un :: .un :: .un :: .un :: .un :: .un :: .un :: .un :: .un :: .un :: .un :: .un :: .un :: .un :: .un :: .un :: .un :: .un :: .un :: .un :: []) [some ⟨187, 3, [[.sl (o1.1.map cB8), vi o1.2.1, vi o1.2.2.1]]⟩, some ⟨41, 10, [[.v (.slice none 0 0), .v (.slice none 0 0), vi 0, .v (.slice none 0 0), .v (.slice none 0 0), .v (.slice none 0 0), vi 0, .v (.slice none 0 0), .v (.slice none 0 0), vi 0]]⟩, some ⟨35, 3, [[.sl (o0.2.2.2.map cLeg), .sl (y1.1.off.map cInt), vi y1.1.change]]⟩]).bind fun _ =>
 (m_o_spec_NewWorld (⟨o0.2.2.2, y1.1.off, y1.1.change⟩ : YNetwork) o1.2.2.2).bind fun y7 =>
 (rhoM [0]).bind fun _ =>
 (m_p0_spec_l1Below (⟨o1.1, o1.2.1, o1.2.2.1⟩ : Yl1Cur) most).bind fun y8 =>
 (iterF (m_p0_spec_l10Draw_b2) NN (y8.1, y8.2.b, y8.2.i, y8.2.h, y7.1.network.change, y7.1.now, y7.1.made, y7.1.network.legs, y7.1.network.off, y7.1.orders, y7.1.bookings, y7.1.closed, y7.1.scans, y7.1.skip)).bind (fun o2 =>
 some ((⟨(⟨o2.2.2.2.2.2.2.1, o2.2.2.2.2.2.2.2.1, o2.2.2.2.1⟩ : YNetwork), o2.2.2.2.2.2.2.2.2.1, o2.2.2.2.2.2.2.2.2.2.1, o2.2.2.2.2.2.2.2.2.2.2.1, o2.2.2.2.2.1, o2.2.2.2.2.2.2.2.2.2.2.2.1, o2.2.2.2.2.2.2.2.2.2.2.2.2, o2.2.2.2.2.2.1⟩ : YWorld), (⟨o2.1, o2.2.1, o2.2.2.1⟩ : Yl1Cur)))))
theorem ok_p0_spec_l10Draw (c : Yl1Cur) (most : Int) {r : YWorld × Yl1Cur} (H : m_p0_spec_l10Draw c most = some r) : CallM Tryz.prog 178 [.be 0 0 0, vi most] [some ⟨187, 3, [[.sl (c.b.map cB8), vi c.i, vi c.h]]⟩] (.ag [.ms 1, .ms 2, vi r.1.network.change, .ms 3, .ms 4, .ms 5, vi r.1.now, .ms 6, .ms 7, vi r.1.made]) [some ⟨187, 3, [[.sl (r.2.b.map cB8), vi r.2.i, vi r.2.h]]⟩, some ⟨67, 6, r.1.network.legs.map cLeg⟩, some ⟨3, 1, r.1.network.off.map cInt⟩, some ⟨62, 11, r.1.orders.map cOrder⟩, some ⟨135, 4, r.1.bookings.map cBooking⟩, some ⟨55, 2, r.1.closed.map cTrip⟩, some ⟨130, 6, r.1.scans.map cScan⟩, some ⟨3, 1, r.1.skip.map cInt⟩] := by
  replace H := H0 H
  unfold m_p0_spec_l10Draw at H
  refine callM_of Tryz.func178 rfl Tryz.ntmps178 Tryz.results178 fun Q hQ hQn => ?_
  exact wk2
instance (c : Yl1Cur) (most : Int) : CT Tryz.prog (m_p0_spec_l10Draw c most) := ⟨178, [.be 0 0 0, vi most], [some ⟨187, 3, [[.sl (c.b.map cB8), vi c.i, vi c.h]]⟩], fun r => .ag [.ms 1, .ms 2, vi r.1.network.change, .ms 3, .ms 4, .ms 5, vi r.1.now, .ms 6, .ms 7, vi r.1.made], fun r => [some ⟨187, 3, [[.sl (r.2.b.map cB8), vi r.2.i, vi r.2.h]]⟩, some ⟨67, 6, r.1.network.legs.map cLeg⟩, some ⟨3, 1, r.1.network.off.map cInt⟩, some ⟨62, 11, r.1.orders.map cOrder⟩, some ⟨135, 4, r.1.bookings.map cBooking⟩, some ⟨55, 2, r.1.closed.map cTrip⟩, some ⟨130, 6, r.1.scans.map cScan⟩, some ⟨3, 1, r.1.skip.map cInt⟩], ok_p0_spec_l10Draw c most⟩
end Go.Proofs.YtmcdjilbkmhfoaaGreat

/- The mirror of p1_spec_l3Trip, and that the code does just that (printed by a program of my own). -/
namespace Go.Proofs.YtmcdjilbkmhfoaaGreat
set_option maxRecDepth 10000
open Go.RowKit
set_option linter.unusedVariables false
set_option maxHeartbeats 16000000
def m_p1_spec_l3Trip (c : Yl1Cur) (n : YNetwork) : Option (YTrip × Yl1Cur × YNetwork) :=
 (rhoM [0]).bind fun _ =>
 (m_p0_spec_l1Below c (n.legs.length : Int)).bind fun y1 =>
 (rhoM [0]).bind fun _ =>
 (m_p0_spec_l1Below y1.2 10).bind fun y2 =>
 (m_spec_l3Next n y1.1 (w64 (y2.1 * 1440))).bind fun y3 =>
 cond (decide (0 ≤ y3))
 ((rhoM [0]).bind fun _ =>
 (m_p0_spec_l1Once y2.2 4).bind fun y4 =>
 cond (!y4.1)
 (some ((⟨y1.1, y3⟩ : YTrip), y4.2, n))
 (some ((⟨y1.1, y2.1⟩ : YTrip), y4.2, n)))
 (some ((⟨y1.1, y2.1⟩ : YTrip), y2.2, n))
theorem ok_p1_spec_l3Trip (c : Yl1Cur) (n : YNetwork) {r : YTrip × Yl1Cur × YNetwork} (H : m_p1_spec_l3Trip c n = some r) : CallM Tryz.prog 211 [.be 0 0 0, .ag [.ms 1, .ms 2, vi n.change]] [some ⟨187, 3, [[.sl (c.b.map cB8), vi c.i, vi c.h]]⟩, some ⟨67, 6, n.legs.map cLeg⟩, some ⟨3, 1, n.off.map cInt⟩] (.ag [vi r.1.leg, vi r.1.day]) [some ⟨187, 3, [[.sl (r.2.1.b.map cB8), vi r.2.1.i, vi r.2.1.h]]⟩, some ⟨67, 6, r.2.2.legs.map cLeg⟩, some ⟨3, 1, r.2.2.off.map cInt⟩] := by
  replace H := H0 H
  unfold m_p1_spec_l3Trip at H
  refine callM_of Tryz.func211 rfl Tryz.ntmps211 Tryz.results211 fun Q hQ hQn => ?_
  exact wk2
instance (c : Yl1Cur) (n : YNetwork) : CT Tryz.prog (m_p1_spec_l3Trip c n) := ⟨211, [.be 0 0 0, .ag [.ms 1, .ms 2, vi n.change]], [some ⟨187, 3, [[.sl (c.b.map cB8), vi c.i, vi c.h]]⟩, some ⟨67, 6, n.legs.map cLeg⟩, some ⟨3, 1, n.off.map cInt⟩], fun r => .ag [vi r.1.leg, vi r.1.day], fun r => [some ⟨187, 3, [[.sl (r.2.1.b.map cB8), vi r.2.1.i, vi r.2.1.h]]⟩, some ⟨67, 6, r.2.2.legs.map cLeg⟩, some ⟨3, 1, r.2.2.off.map cInt⟩], ok_p1_spec_l3Trip c n⟩
end Go.Proofs.YtmcdjilbkmhfoaaGreat

/- The mirror of p1_spec_l10Trip, and that the code does just that (printed by a program of my own). -/
namespace Go.Proofs.YtmcdjilbkmhfoaaGreat
set_option maxRecDepth 10000
open Go.RowKit
set_option linter.unusedVariables false
set_option maxHeartbeats 16000000
def m_p1_spec_l10Trip (c : Yl1Cur) (w : YWorld) : Option (YTrip × Yl1Cur × YWorld) :=
 cond (decide (0 < (w.bookings.length : Int)))
 ((rhoM [0]).bind fun _ =>
 (m_p0_spec_l1Once c 4).bind fun y1 =>
 cond (!y1.1)
 ((drwL 8 [6]).bind fun _ =>
 (rhoM [0]).bind fun _ =>
 (m_p0_spec_l1Below y1.2 (w.bookings.length : Int)).bind fun y2 =>
 (getI w.bookings y2.1).bind fun y3 =>
 some (y3.trip, y2.2, w))
 ((rhoM [0, 1, 2]).bind fun _ =>
 (m_p1_spec_l3Trip y1.2 w.network).bind fun y4 =>
 some (y4.1, y4.2.1, (⟨(⟨y4.2.2.legs, y4.2.2.off, w.network.change⟩ : YNetwork), w.orders, w.bookings, w.closed, w.now, w.scans, w.skip, w.made⟩ : YWorld))))
 ((rhoM [0, 1, 2]).bind fun _ =>
 (m_p1_spec_l3Trip c w.network).bind fun y5 =>
 some (y5.1, y5.2.1, (⟨(⟨y5.2.2.legs, y5.2.2.off, w.network.change⟩ : YNetwork), w.orders, w.bookings, w.closed, w.now, w.scans, w.skip, w.made⟩ : YWorld)))
theorem ok_p1_spec_l10Trip (c : Yl1Cur) (w : YWorld) {r : YTrip × Yl1Cur × YWorld} (H : m_p1_spec_l10Trip c w = some r) : CallM Tryz.prog 147 [.be 0 0 0, .ag [.ms 1, .ms 2, vi w.network.change, .ms 3, .ms 4, .ms 5, vi w.now, .ms 6, .ms 7, vi w.made]] [some ⟨187, 3, [[.sl (c.b.map cB8), vi c.i, vi c.h]]⟩, some ⟨67, 6, w.network.legs.map cLeg⟩, some ⟨3, 1, w.network.off.map cInt⟩, some ⟨62, 11, w.orders.map cOrder⟩, some ⟨135, 4, w.bookings.map cBooking⟩, some ⟨55, 2, w.closed.map cTrip⟩, some ⟨130, 6, w.scans.map cScan⟩, some ⟨3, 1, w.skip.map cInt⟩] (.ag [vi r.1.leg, vi r.1.day]) [some ⟨187, 3, [[.sl (r.2.1.b.map cB8), vi r.2.1.i, vi r.2.1.h]]⟩, some ⟨67, 6, r.2.2.network.legs.map cLeg⟩, some ⟨3, 1, r.2.2.network.off.map cInt⟩, some ⟨62, 11, r.2.2.orders.map cOrder⟩, some ⟨135, 4, r.2.2.bookings.map cBooking⟩, some ⟨55, 2, r.2.2.closed.map cTrip⟩, some ⟨130, 6, r.2.2.scans.map cScan⟩, some ⟨3, 1, r.2.2.skip.map cInt⟩] := by
  replace H := H0 H
  unfold m_p1_spec_l10Trip at H
  refine callM_of Tryz.func147 rfl Tryz.ntmps147 Tryz.results147 fun Q hQ hQn => ?_
  exact wk2
instance (c : Yl1Cur) (w : YWorld) : CT Tryz.prog (m_p1_spec_l10Trip c w) := ⟨147, [.be 0 0 0, .ag [.ms 1, .ms 2, vi w.network.change, .ms 3, .ms 4, .ms 5, vi w.now, .ms 6, .ms 7, vi w.made]], [some ⟨187, 3, [[.sl (c.b.map cB8), vi c.i, vi c.h]]⟩, some ⟨67, 6, w.network.legs.map cLeg⟩, some ⟨3, 1, w.network.off.map cInt⟩, some ⟨62, 11, w.orders.map cOrder⟩, some ⟨135, 4, w.bookings.map cBooking⟩, some ⟨55, 2, w.closed.map cTrip⟩, some ⟨130, 6, w.scans.map cScan⟩, some ⟨3, 1, w.skip.map cInt⟩], fun r => .ag [vi r.1.leg, vi r.1.day], fun r => [some ⟨187, 3, [[.sl (r.2.1.b.map cB8), vi r.2.1.i, vi r.2.1.h]]⟩, some ⟨67, 6, r.2.2.network.legs.map cLeg⟩, some ⟨3, 1, r.2.2.network.off.map cInt⟩, some ⟨62, 11, r.2.2.orders.map cOrder⟩, some ⟨135, 4, r.2.2.bookings.map cBooking⟩, some ⟨55, 2, r.2.2.closed.map cTrip⟩, some ⟨130, 6, r.2.2.scans.map cScan⟩, some ⟨3, 1, r.2.2.skip.map cInt⟩], ok_p1_spec_l10Trip c w⟩
end Go.Proofs.YtmcdjilbkmhfoaaGreat

/- The mirror of p0_spec_l10Any, and that the code does just that (printed by a program of my own). -/
namespace Go.Proofs.YtmcdjilbkmhfoaaGreat
set_option maxRecDepth 10000
open Go.RowKit
set_option linter.unusedVariables false
set_option maxHeartbeats 16000000
def m_p0_spec_l10Any (c : Yl1Cur) : Option (YWorld × Yl1Cur) :=
 (rhoM [0]).bind fun _ =>
 (m_p0_spec_l10Draw c 9).bind fun y1 =>
 (rhoM [0]).bind fun _ =>
 (m_p0_spec_l1Once y1.2 2).bind fun y2 =>
 cond y2.1
 (some (y1.1, y2.2))
 (cond (decide ((y1.1.orders.length : Int) = 0))
 (some (y1.1, y2.2))
 ((rhoM [0]).bind fun _ =>
 (m_p0_spec_l1Below y2.2 (y1.1.orders.length : Int)).bind fun y3 =>
 (rhoM [0]).bind fun _ =>
 (m_p0_spec_l1Below y3.2 13).bind fun y4 =>
 cond (decide (y4.1 = 0))
 ((drwL 8 [4]).bind fun _ =>
 (rhoM [0]).bind fun _ =>
 (m_p0_spec_l1Below y4.2 5).bind fun y5 =>
 (getI y1.1.orders y3.1).bind fun y6 =>
 some ((⟨y1.1.network, (y1.1.orders.set (Int.toNat y3.1) (⟨y6.from_, y6.to_, y6.service, y6.weight, y6.at_, y6.due, y6.way, y6.gone, y5.1, y6.place, y6.ended⟩ : YOrder)), y1.1.bookings, y1.1.closed, y1.1.now, y1.1.scans, y1.1.skip, y1.1.made⟩ : YWorld), y5.2))
 (cond (decide (y4.1 = 1))
 ((getI y1.1.orders y3.1).bind fun y7 =>
 (getI y1.1.orders y3.1).bind fun y8 =>
 some ((⟨y1.1.network, (y1.1.orders.set (Int.toNat y3.1) (⟨y8.from_, y8.to_, y8.service, y8.weight, y8.at_, y8.due, y8.way, (w64 (y7.gone + 1)), y8.state, y8.place, y8.ended⟩ : YOrder)), y1.1.bookings, y1.1.closed, y1.1.now, y1.1.scans, y1.1.skip, y1.1.made⟩ : YWorld), y4.2))
 (cond (decide (y4.1 = 2))
 ((drwL 8 [11]).bind fun _ =>
 (getI y1.1.orders y3.1).bind fun y9 =>
 (rhoM [0, 90]).bind fun _ =>
 (m_p0_spec_l1Str y4.2 ([⟨#[]⟩, ⟨#[65, 77, 83]⟩, y9.to_])).bind fun y10 =>
 (getI y1.1.orders y3.1).bind fun y11 =>
 some ((⟨y1.1.network, (y1.1.orders.set (Int.toNat y3.1) (⟨y11.from_, y11.to_, y11.service, y11.weight, y11.at_, y11.due, y11.way, y11.gone, y11.state, y10.1, y11.ended⟩ : YOrder)), y1.1.bookings, y1.1.closed, y1.1.now, y1.1.scans, y1.1.skip, y1.1.made⟩ : YWorld), y10.2.1))
 (cond (decide (y4.1 = 3))
 ((getI y1.1.orders y3.1).bind fun y12 =>
 (getI y1.1.orders y3.1).bind fun y13 =>
 some ((⟨y1.1.network, (y1.1.orders.set (Int.toNat y3.1) (⟨y13.from_, y13.to_, y13.service, (w64 (y12.weight + 1)), y13.at_, y13.due, y13.way, y13.gone, y13.state, y13.place, y13.ended⟩ : YOrder)), y1.1.bookings, y1.1.closed, y1.1.now, y1.1.scans, y1.1.skip, y1.1.made⟩ : YWorld), y4.2))
 (cond (decide (y4.1 = 4))
 ((drwL 8 [4]).bind fun _ =>
 (rhoM [0, 34]).bind fun _ =>
 (m_p0_spec_l1Int y4.2 ([1, 300, (-1), 5000])).bind fun y14 =>
 some ((⟨y1.1.network, y1.1.orders, y1.1.bookings, y1.1.closed, (w64 (y1.1.now + y14.1)), y1.1.scans, y1.1.skip, y1.1.made⟩ : YWorld), y14.2.1))
 (cond (decide (y4.1 = 5))
 ((drwL 8 [7]).bind fun _ =>
 (rhoM [0]).bind fun _ =>
 (m_p0_spec_l1Below y4.2 (w64 ((y1.1.bookings.length : Int) + 1))).bind fun y15 =>
 (chk (slOk 0 y15.1 y1.1.bookings.length)).bind fun _ =>
 some ((⟨y1.1.network, y1.1.orders, (subL y1.1.bookings 0 y15.1), y1.1.closed, y1.1.now, y1.1.scans, y1.1.skip, y1.1.made⟩ : YWorld), y15.2))
 (cond (decide (y4.1 = 6))
 ((drwL 8 [4]).bind fun _ =>
 (rhoM [0, 2, 3, 4, 5, 6, 7, 8]).bind fun _ =>
 (m_p1_spec_l10Trip y4.2 y1.1).bind fun y16 =>
 (chk (appOk ((y16.2.2.closed : List YTrip).length + ([y16.1] : List YTrip).length) 16)).bind fun _ =>
 some ((⟨(⟨y16.2.2.network.legs, y16.2.2.network.off, y1.1.network.change⟩ : YNetwork), y16.2.2.orders, y16.2.2.bookings, ((y16.2.2.closed : List YTrip) ++ [y16.1]), y1.1.now, y16.2.2.scans, y16.2.2.skip, y1.1.made⟩ : YWorld), y16.2.1))
 (cond (decide (y4.1 = 7))
 ((getI y1.1.orders y3.1).bind fun y17 =>
 (getI y1.1.orders y3.1).bind fun y18 =>
 some ((⟨y1.1.network, (y1.1.orders.set (Int.toNat y3.1) (⟨y18.from_, y18.to_, y18.service, y18.weight, y18.at_, y18.due, y18.way, y18.gone, y18.state, y18.place, (w64 (y17.ended + 1))⟩ : YOrder)), y1.1.bookings, y1.1.closed, y1.1.now, y1.1.scans, y1.1.skip, y1.1.made⟩ : YWorld), y4.2))
 (cond (decide (y4.1 = 8))
 ((rhoM [0, 10]).bind fun _ =>
 (m_p0_spec_l1Int y4.2 ([0, 1000000000, 1000000001])).bind fun y19 =>
 some ((⟨y1.1.network, y1.1.orders, y1.1.bookings, y1.1.closed, y1.1.now, y1.1.scans, y1.1.skip, y19.1⟩ : YWorld), y19.2.1))
 (cond (decide (y4.1 = 9))
 ((drwL 8 [5]).bind fun _ =>
 (rhoM [0, 42]).bind fun _ =>
 (m_p0_spec_l1Int y4.2 ([0, (-1), 200000, 200001])).bind fun y20 =>
 (getI y1.1.orders y3.1).bind fun y21 =>
 some ((⟨y1.1.network, (y1.1.orders.set (Int.toNat y3.1) (⟨y21.from_, y21.to_, y21.service, y21.weight, y21.at_, y20.1, y21.way, y21.gone, y21.state, y21.place, y21.ended⟩ : YOrder)), y1.1.bookings, y1.1.closed, y1.1.now, y1.1.scans, y1.1.skip, y1.1.made⟩ : YWorld), y20.2.1))
 (some (y1.1, y4.2)))))))))))))
theorem ok_p0_spec_l10Any (c : Yl1Cur) {r : YWorld × Yl1Cur} (H : m_p0_spec_l10Any c = some r) : CallM Tryz.prog 103 [.be 0 0 0] [some ⟨187, 3, [[.sl (c.b.map cB8), vi c.i, vi c.h]]⟩] (.ag [.sl (r.1.network.legs.map cLeg), .sl (r.1.network.off.map cInt), vi r.1.network.change, .sl (r.1.orders.map cOrder), .sl (r.1.bookings.map cBooking), .sl (r.1.closed.map cTrip), vi r.1.now, .sl (r.1.scans.map cScan), .sl (r.1.skip.map cInt), vi r.1.made]) [some ⟨187, 3, [[.sl (r.2.b.map cB8), vi r.2.i, vi r.2.h]]⟩] := by
  replace H := H0 H
  unfold m_p0_spec_l10Any at H
  refine callM_of Tryz.func103 rfl Tryz.ntmps103 Tryz.results103 fun Q hQ hQn => ?_
  exact wk2
instance (c : Yl1Cur) : CT Tryz.prog (m_p0_spec_l10Any c) := ⟨103, [.be 0 0 0], [some ⟨187, 3, [[.sl (c.b.map cB8), vi c.i, vi c.h]]⟩], fun r => .ag [.sl (r.1.network.legs.map cLeg), .sl (r.1.network.off.map cInt), vi r.1.network.change, .sl (r.1.orders.map cOrder), .sl (r.1.bookings.map cBooking), .sl (r.1.closed.map cTrip), vi r.1.now, .sl (r.1.scans.map cScan), .sl (r.1.skip.map cInt), vi r.1.made], fun r => [some ⟨187, 3, [[.sl (r.2.b.map cB8), vi r.2.i, vi r.2.h]]⟩], ok_p0_spec_l10Any c⟩
end Go.Proofs.YtmcdjilbkmhfoaaGreat

/- The mirror of spec_DrawAdvanceTo, and that the code does just that (printed by a program of my own). -/
namespace Go.Proofs.YtmcdjilbkmhfoaaGreat
set_option maxRecDepth 10000
open Go.RowKit
set_option linter.unusedVariables false
set_option maxHeartbeats 16000000
def m_spec_DrawAdvanceTo (code : List YB8) : Option (YWorld × Int) :=
 (m_o_spec_l1New code).bind fun y1 =>
 (rhoM [1]).bind fun _ =>
 (m_p0_spec_l10Any y1).bind fun y2 =>
 (rhoM [1]).bind fun _ =>
 (m_p0_spec_l1Once y2.2 9).bind fun y3 =>
 cond y3.1
 ((drwL 8 [6]).bind fun _ =>
 (rhoM [1, 43]).bind fun _ =>
 (m_p0_spec_l1Int y3.2 ([(-1), 100000, 100001, (w64 (y2.1.now - 1))])).bind fun y4 =>
 some (y2.1, y4.1))
 ((drwL 8 [4]).bind fun _ =>
 (rhoM [1]).bind fun _ =>
 (m_p0_spec_l1Below y3.2 200).bind fun y5 =>
 some (y2.1, (w64 (y2.1.now + (w64 (30 * y5.1))))))
theorem ok_spec_DrawAdvanceTo (code : List YB8) {r : YWorld × Int} (H : m_spec_DrawAdvanceTo code = some r) : CallM Tryz.prog 23 [.sl (code.map cB8)] [] (.tu [.ag [.sl (r.1.network.legs.map cLeg), .sl (r.1.network.off.map cInt), vi r.1.network.change, .sl (r.1.orders.map cOrder), .sl (r.1.bookings.map cBooking), .sl (r.1.closed.map cTrip), vi r.1.now, .sl (r.1.scans.map cScan), .sl (r.1.skip.map cInt), vi r.1.made], vi r.2]) [] := by
  replace H := H0 H
  unfold m_spec_DrawAdvanceTo at H
  refine callM_of Tryz.func23 rfl Tryz.ntmps23 Tryz.results23 fun Q hQ hQn => ?_
  exact wk2
instance (code : List YB8) : CT Tryz.prog (m_spec_DrawAdvanceTo code) := ⟨23, [.sl (code.map cB8)], [], fun r => .tu [.ag [.sl (r.1.network.legs.map cLeg), .sl (r.1.network.off.map cInt), vi r.1.network.change, .sl (r.1.orders.map cOrder), .sl (r.1.bookings.map cBooking), .sl (r.1.closed.map cTrip), vi r.1.now, .sl (r.1.scans.map cScan), .sl (r.1.skip.map cInt), vi r.1.made], vi r.2], fun r => [], ok_spec_DrawAdvanceTo code⟩
end Go.Proofs.YtmcdjilbkmhfoaaGreat

/- Drawn worlds: what the reference draws is a world that its tests can be asked about. -/
namespace Go.Proofs.YtmcdjilbkmhfoaaGreat
set_option maxRecDepth 10000
open Go.RowKit
set_option linter.unusedVariables false
set_option linter.unusedSimpArgs false
set_option linter.unusedSectionVars false
theorem drawP_ok : ∀ p ∈ drawP, m_spec_IsPlace p = some true ∧ p.size = 3 := fun p hp => by
  unfold drawP at hp
  simp only [List.mem_cons, List.not_mem_nil, or_false] at hp
  rcases hp with rfl | rfl | rfl | rfl | rfl | rfl | rfl <;> exact ⟨by decide +kernel, by decide +kernel⟩
theorem LegD.fit {l : YLeg} (h : LegD l) : legFit l := ⟨by rw [(drawP_ok _ h.from_).2]; decide, by rw [(drawP_ok _ h.to_).2]; decide⟩
theorem LegD.ok {l : YLeg} (h : LegD l) : m_spec_IsLeg l = some true := by
  have h1 := h.start
  have h2 := h.takes
  have h3 := h.days
  have h4 := h.room
  unfold m_spec_IsLeg
  rw [(drawP_ok _ h.from_).1, (drawP_ok _ h.to_).1]
  simp only [Option.bind_some, cond_true, decide_eq_false h.ne, Bool.not_false, l1In_v, decide_eq_true h1.1, decide_eq_true h1.2, decide_eq_true h2.1, decide_eq_true h2.2, decide_eq_true h3.1, decide_eq_true h3.2, decide_eq_true h4.1, decide_eq_true h4.2, Bool.and_self]
theorem NetD.fit {n : YNetwork} (h : NetD n) : NetFit n := ⟨by have := h.len; omega, by rcases h.off with e | ⟨a, b, e, _⟩ <;> rw [e] <;> simp, fun l hl => (h.leg l hl).fit⟩
theorem NetD.ok {n : YNetwork} (h : NetD n) : m_spec_IsNetwork n = some true := by
  have hlen := h.len
  have hch := h.change
  have e0 : Tot (iterF (m_spec_IsNetwork_b0 n) NN 0) fun r => r = .inl () := by
    refine Tot.loop (fun (k : Nat) (s : Int) => ∃ i : Nat, s = (i : Int) ∧ i + k = n.legs.length) (fun k s hs => ?_) NN n.legs.length _ ⟨0, rfl, by omega⟩ (by unfold NN; omega)
    obtain ⟨i, rfl, hk⟩ := hs
    unfold m_spec_IsNetwork_b0
    refine Tot.cond (fun hd => ?_) fun hd => Tot.ret rfl
    have hlt := of_decide_eq_true hd
    have hwi : w64 ((i : Int) + 1) = ((i + 1 : Nat) : Int) := by rw [w64_in (by omega)]; omega
    obtain ⟨x, hx, hm⟩ := len_in (xs := n.legs) (i := (i : Int)) ⟨by omega, hlt⟩
    rw [hx, Option.bind_some, (h.leg x hm).ok, Option.bind_some, hwi]
    exact Tot.cond (fun e => by cases e) fun _ => Tot.ret ⟨k - 1, by omega, i + 1, rfl, by omega⟩
  have e1 : Tot (iterF (m_spec_IsNetwork_b1 n) NN 0) fun r => r = .inl () := by
    rcases h.off with e | ⟨a, b, e, g1, g2, g3⟩
    · refine Tot.loop (fun (k : Nat) (s : Int) => s = 0) (fun k s hs => ?_) NN 0 _ rfl (by unfold NN; omega)
      subst hs
      unfold m_spec_IsNetwork_b1
      rw [e]
      exact Tot.cond (fun hd => by simp at hd) fun hd => Tot.ret rfl
    · refine Tot.loop (fun (k : Nat) (s : Int) => (s = 0 ∧ k = 2) ∨ (s = 1 ∧ k = 1) ∨ (s = 2 ∧ k = 0)) (fun k s hs => ?_) NN 2 _ (.inl ⟨rfl, rfl⟩) (by unfold NN; omega)
      unfold m_spec_IsNetwork_b1
      rw [e]
      have x0 : getI [a, b] 0 = some a := rfl
      have x1 : getI [a, b] 1 = some b := rfl
      have w1 : w64 (0 + 1) = 1 := by decide
      have w2 : w64 (1 + 1) = 2 := by decide
      have w0 : w64 (1 - 1) = 0 := by decide
      rcases hs with ⟨rfl, rfl⟩ | ⟨rfl, rfl⟩ | ⟨rfl, rfl⟩
      · refine Tot.cond (fun _ => ?_) fun hd => by simp at hd
        rw [x0, Option.bind_some, l1In_v, Option.bind_some, decide_eq_true g1, decide_eq_true (show a ≤ 60 by omega), w1]
        exact Tot.cond (fun e => by cases e) fun _ => Tot.cond (fun e => by simp at e) fun _ => Tot.ret ⟨1, by omega, .inr (.inl ⟨rfl, rfl⟩)⟩
      · refine Tot.cond (fun _ => ?_) fun hd => by simp at hd
        rw [x1, Option.bind_some, l1In_v, Option.bind_some, decide_eq_true (show 0 ≤ b by omega), decide_eq_true g3, w2, w0, x0, Option.bind_some, Option.bind_some]
        exact Tot.cond (fun e => by cases e) fun _ => Tot.cond (fun _ => Tot.cond (fun e => by have := of_decide_eq_true e; omega) fun _ => Tot.ret ⟨0, by omega, .inr (.inr ⟨rfl, rfl⟩)⟩) fun e => by simp at e
      · exact Tot.cond (fun hd => by simp at hd) fun hd => Tot.ret rfl
  obtain ⟨_, r0, rfl⟩ := e0
  obtain ⟨_, r1, rfl⟩ := e1
  unfold m_spec_IsNetwork
  rw [r0, Option.bind_some]
  simp only [selim]
  rw [r1, Option.bind_some]
  simp only [selim]
  have ho : (n.off.length : Int) ≤ 10 := by rcases h.off with e | ⟨a, b, e, _⟩ <;> rw [e] <;> simp
  rw [decide_eq_true (show (n.legs.length : Int) ≤ 20 by omega), decide_eq_true ho, l1In_v, decide_eq_true hch.1, decide_eq_true hch.2]
  rfl
theorem new_world {n : YNetwork} (h : NetD n) {skip : List Int} (hs : skip.length ≤ 50) : m_o_spec_NewWorld n skip = some ((⟨n, [], [], [], 0, [], skip, 0⟩ : YWorld), true) := by
  have hf : WFit (⟨n, [], [], [], 0, [], skip, 0⟩ : YWorld) := ⟨h.fit, by simp, by simp, by simp, by simp, by simp only; omega, fun o ho => by cases ho⟩
  have hv : worldV (⟨n, [], [], [], 0, [], skip, 0⟩ : YWorld) = true := by
    unfold worldV booksV tripsV
    simp only [h.ok, Option.getD_some]
    simp [allI]
    omega
  unfold m_o_spec_NewWorld
  rw [copyW_s hf, Option.bind_some, spec_world hf, hv]
  rfl
/-- What a drawn world is. -/
structure WD (n : YNetwork) (w : YWorld) : Prop where
  fit : WFit w
  net : w.network = n
  closed : w.closed.length ≤ 1000
section
variable {n : YNetwork} (hn : NetD n)
include hn
theorem leg0 : 0 < n.legs.length ∧ n.legs.length ≤ 20 := by have := hn.len; omega
theorem trip_tot {c : Yl1Cur} (h : CurOk c) : Tot (m_p0_spec_l3Trip c n) fun r => CurOk r.2 := by
  have hl := hn.len
  unfold m_p0_spec_l3Trip
  refine Tot.rho (Tot.bind (below_tot h _) fun y1 h1 => Tot.rho (Tot.bind (below_tot h1.2 10) fun y2 h2 => ?_))
  obtain ⟨y, hy, _⟩ := len_in (xs := n.legs) (i := y1.1) ⟨h1.1.1, h1.1.2.1 (by omega)⟩
  refine Tot.bind (l3next_tot hn.fit hy _) fun y3 _ => Tot.cond (fun _ => Tot.rho (Tot.bind (once_tot h2.2 4) fun y4 h4 => Tot.cond (fun _ => Tot.ret h4) fun _ => Tot.ret h4)) fun _ => Tot.ret h2.2
theorem trip1_tot {c : Yl1Cur} (h : CurOk c) : Tot (m_p1_spec_l3Trip c n) fun r => CurOk r.2.1 ∧ r.2.2 = n := by
  have hl := hn.len
  unfold m_p1_spec_l3Trip
  refine Tot.rho (Tot.bind (below_tot h _) fun y1 h1 => Tot.rho (Tot.bind (below_tot h1.2 10) fun y2 h2 => ?_))
  obtain ⟨y, hy, _⟩ := len_in (xs := n.legs) (i := y1.1) ⟨h1.1.1, h1.1.2.1 (by omega)⟩
  refine Tot.bind (l3next_tot hn.fit hy _) fun y3 _ => Tot.cond (fun _ => Tot.rho (Tot.bind (once_tot h2.2 4) fun y4 h4 => Tot.cond (fun _ => Tot.ret ⟨h4, rfl⟩) fun _ => Tot.ret ⟨h4, rfl⟩)) fun _ => Tot.ret ⟨h2.2, rfl⟩
theorem wtrip_tot {c : Yl1Cur} (h : CurOk c) {w : YWorld} (hw : w.network = n) : Tot (m_p0_spec_l10Trip c w) fun r => CurOk r.2 := by
  unfold m_p0_spec_l10Trip
  rw [hw]
  refine Tot.cond (fun hd => Tot.rho (Tot.bind (once_tot h 4) fun y1 h1 => Tot.cond (fun _ => Tot.drw (Tot.rho (Tot.bind (below_tot h1 _) fun y2 h2 => Tot.get h2.1.1 (h2.1.2.1 (of_decide_eq_true hd)) fun x _ _ => Tot.ret h2.2))) fun _ => Tot.rho (Tot.bind (trip_tot hn h1) fun y4 h4 => Tot.ret h4))) fun _ => Tot.rho (Tot.bind (trip_tot hn h) fun y4 h4 => Tot.ret h4)
theorem wtrip1_tot {c : Yl1Cur} (h : CurOk c) {w : YWorld} (hw : WD n w) : Tot (m_p1_spec_l10Trip c w) fun r => CurOk r.2.1 ∧ r.2.2 = w := by
  have hnet := hw.net
  subst hnet
  unfold m_p1_spec_l10Trip
  refine Tot.cond (fun hd => Tot.rho (Tot.bind (once_tot h 4) fun y1 h1 => Tot.cond (fun _ => Tot.drw (Tot.rho (Tot.bind (below_tot h1 _) fun y2 h2 => Tot.get h2.1.1 (h2.1.2.1 (of_decide_eq_true hd)) fun x _ _ => Tot.ret ⟨h2.2, rfl⟩))) fun _ => Tot.rho (Tot.bind (trip1_tot hn h1) fun y4 h4 => Tot.ret ⟨h4.1, ?_⟩))) fun _ => Tot.rho (Tot.bind (trip1_tot hn h) fun y4 h4 => Tot.ret ⟨h4.1, ?_⟩)
  · simp only [h4.2]
  · simp only [h4.2]
theorem of_tot {c : Yl1Cur} (h : CurOk c) : Tot (m_p0_spec_l4Of c n) fun r => CurOk r.2 := by
  have hl := hn.len
  have hp : 0 < (placesV n).length := by
    have := (legs_in (n := n) (List.getElem_mem (show 0 < n.legs.length by omega))).1
    exact List.length_pos_of_mem this
  unfold m_p0_spec_l4Of
  rw [(places_eq hn.fit).2, Option.bind_some]
  refine Tot.rho (Tot.bind (once_tot h 9) fun y2 h2 => Tot.cond (fun _ => Tot.rho (Tot.bind (place_tot h2) fun y3 h3 => Tot.ret h3.2)) fun _ => Tot.rho (Tot.bind (below_tot h2 _) fun y4 h4 => Tot.get h4.1.1 (h4.1.2.1 (by omega)) fun x _ _ => Tot.ret h4.2))
theorem adv_tot {w : YWorld} (hw : WD n w) (u : Int) : Tot (m_o_spec_AdvanceTo w u) (WD n) := by
  refine Tot.of (advance_s hw.fit u) ?_
  split
  · rename_i h
    obtain ⟨a, b, _⟩ := adv_ok ⟨hw.fit, h.1⟩ h.2.1 h.2.2
    exact ⟨a.fit, b.network.trans hw.net, by rw [b.closed]; exact hw.closed⟩
  · exact hw
theorem act_tot {c : Yl1Cur} (h : CurOk c) {w : YWorld} (hw : WD n w) : Tot (m_p0_spec_l10Act c w) fun r => WD n r.1 ∧ CurOk r.2 := by
  have hl := (leg0 hn).2
  have hnet := hw.net
  unfold m_p0_spec_l10Act
  refine Tot.rho (Tot.bind (below_tot h 6) fun y1 h1 => ?_)
  rw [hnet]
  have hc := h1.2
  refine Tot.cond (fun _ => Tot.cond (fun _ => ?_) fun _ => Tot.cond (fun _ => ?_) fun _ => Tot.cond (fun _ => ?_) fun _ => ?_) fun _ => Tot.cond (fun _ => Tot.cond (fun _ => ?_) fun _ => Tot.cond (fun _ => ?_) fun _ => Tot.cond (fun _ => ?_) fun _ => ?_) fun _ => Tot.cond (fun _ => ?_) fun _ => Tot.cond (fun _ => ?_) fun _ => Tot.cond (fun _ => ?_) fun _ => ?_
  any_goals exact Tot.drw (Tot.rho (Tot.bind (of_tot hn hc) fun y2 h2 => Tot.rho (Tot.bind (of_tot hn h2) fun y3 h3 => Tot.rho (Tot.bind (below_tot h3 3) fun y4 h4 => Tot.rho (Tot.bind (below_tot h4.2 4000) fun y5 h5 => Tot.bind (accept_tot hn.fit hl hw.fit hnet hw.closed _ _ _ _) fun y6 h6 => Tot.ret ⟨⟨h6.1, h6.2.1, h6.2.2⟩, h5.2⟩)))))
  any_goals exact Tot.drw (Tot.rho (Tot.bind (wtrip_tot hn hc hnet) fun y7 h7 => Tot.bind (shut_tot hn.fit hl hw.fit hnet hw.closed _) fun y8 h8 => Tot.ret ⟨⟨h8.1, h8.2.1, h8.2.2⟩, h7⟩))
  any_goals exact Tot.bind (retry_tot hn.fit hl hw.fit hnet hw.closed) fun y9 h9 => Tot.ret ⟨⟨h9.1, h9.2.1, h9.2.2⟩, hc⟩
  all_goals exact Tot.drw (Tot.rho (Tot.bind (below_tot hc 40) fun y10 h10 => Tot.bind (adv_tot hn hw _) fun y11 h11 => Tot.ret ⟨h11, h10.2⟩))
end
theorem draw_tot {c : Yl1Cur} (h : CurOk c) (most : Int) (hm : most ≤ 1000) : Tot (m_p0_spec_l10Draw c most) fun r => ∃ n, NetD n ∧ WD n r.1 ∧ CurOk r.2 := by
  unfold m_p0_spec_l10Draw
  refine Tot.rho (Tot.bind (net_tot h) fun y1 h1 => ?_)
  obtain ⟨h1, hc1⟩ := h1
  refine Tot.bind (P := fun o => CurOk ⟨o.1, o.2.1, o.2.2.1⟩ ∧ NetD ⟨o.2.2.2, y1.1.off, y1.1.change⟩) ?_ fun o0 ho0 => ?_
  · have hlen := h1.len
    refine Tot.loop (fun (k : Nat) (s : Int × (List YB8) × Int × Int × (List YLeg)) => ∃ i : Nat, s.1 = (i : Int) ∧ i + k = s.2.2.2.2.length ∧ CurOk ⟨s.2.1, s.2.2.1, s.2.2.2.1⟩ ∧ NetD ⟨s.2.2.2.2, y1.1.off, y1.1.change⟩) (fun k s hs => ?_) NN y1.1.legs.length _ ⟨0, rfl, by simp, hc1, h1⟩ (by unfold NN; omega)
    obtain ⟨i, hi, hk, hc, hd⟩ := hs
    have hl2 := hd.len
    simp only at hl2
    unfold m_p0_spec_l10Draw_b0
    rw [hi]
    refine Tot.cond (fun hlt => ?_) fun _ => Tot.ret ⟨hc, hd⟩
    have hlt := of_decide_eq_true hlt
    have hwi : w64 ((i : Int) + 1) = ((i + 1 : Nat) : Int) := by rw [w64_in (by omega)]; omega
    rw [hwi]
    refine Tot.rho (Tot.bind (once_tot hc 2) fun y2 h2 => Tot.cond (fun _ => Tot.drw (Tot.rho (Tot.bind (below_tot h2 9) fun y3 h3 => ?_))) fun _ => Tot.ret ⟨k - 1, by omega, i + 1, rfl, by simp only; omega, h2, hd⟩)
    refine Tot.get (by omega) hlt fun x hx _ => Tot.ret ⟨k - 1, by omega, i + 1, rfl, by simp only [List.length_set]; omega, h3.2, ?_⟩
    have b3 := h3.1.2.1 (by omega)
    have b0 := h3.1.1
    have hr : w64 (2000 + w64 (1000 * y3.1)) = 2000 + 1000 * y3.1 := by rw [w64_in (n := 1000 * y3.1) (by omega), w64_in (by omega)]
    refine ⟨by simp only [List.length_set]; exact hl2, fun l hl => ?_, hd.off, hd.change⟩
    rcases List.mem_or_eq_of_mem_set hl with hl | rfl
    · exact hd.leg l hl
    · obtain ⟨a1, a2, a3, a4, a5, a6, a7⟩ := hd.leg x hx
      exact ⟨a1, a2, a3, a4, a5, a6, by simp only [hr]; omega⟩
  · refine Tot.rho (Tot.bind (below_tot ho0.1 6) fun y5 h5 => ?_)
    have b5 := h5.1.2.1 (by omega)
    have b5' := h5.1.1
    refine Tot.bind (P := fun o => CurOk ⟨o.1, o.2.1, o.2.2.1⟩ ∧ o.2.2.2.length ≤ 50) ?_ fun o1 ho1 => ?_
    · refine Tot.loop (fun (k : Nat) (s : Int × (List YB8) × Int × Int × (List Int)) => s.1 = (k : Int) ∧ s.2.2.2.2.length + k ≤ 6 ∧ CurOk ⟨s.2.1, s.2.2.1, s.2.2.2.1⟩) (fun k s hs => ?_) NN y5.1.toNat _ ⟨by simp only; omega, by simp only [List.length_nil]; omega, h5.2⟩ (by unfold NN; omega)
      obtain ⟨hk, hl, hc⟩ := hs
      unfold m_p0_spec_l10Draw_b1
      refine Tot.cond (fun hd => ?_) fun _ => Tot.ret ⟨hc, by simp only; omega⟩
      have hd := of_decide_eq_true hd
      have hwi : w64 (s.1 - 1) = ((k - 1 : Nat) : Int) := by rw [w64_in (by omega)]; omega
      exact Tot.rho (Tot.bind (below_tot hc 25) fun y6 h6 => Tot.chk (app_fit (by simp only [List.length_cons, List.length_nil]; omega) (by omega)) (Tot.ret ⟨k - 1, by omega, hwi, by simp only [List.length_append, List.length_cons, List.length_nil]; omega, h6.2⟩))
    · refine Tot.frz ?_
      rw [new_world ho0.2 ho1.2, Option.bind_some]
      refine Tot.rho (Tot.bind (below_tot ho1.1 most) fun y8 h8 => ?_)
      have b8 := h8.1
      have b8' : y8.1 ≤ 1000 := by
        rcases Int.lt_or_le 0 most with hp | hp
        · have := b8.2.1 hp; omega
        · have := b8.2.2 hp; omega
      refine Tot.bind (P := fun o => CurOk ⟨o.1, o.2.1, o.2.2.1⟩ ∧ WD ⟨o0.2.2.2, y1.1.off, y1.1.change⟩ (⟨(⟨o.2.2.2.2.2.2.1, o.2.2.2.2.2.2.2.1, o.2.2.2.1⟩ : YNetwork), o.2.2.2.2.2.2.2.2.1, o.2.2.2.2.2.2.2.2.2.1, o.2.2.2.2.2.2.2.2.2.2.1, o.2.2.2.2.1, o.2.2.2.2.2.2.2.2.2.2.2.1, o.2.2.2.2.2.2.2.2.2.2.2.2, o.2.2.2.2.2.1⟩ : YWorld)) ?_ fun o2 ho2 => Tot.ret ⟨_, ho0.2, ho2.2, ho2.1⟩
      refine Tot.loop (fun (k : Nat) (s2 : Int × (List YB8) × Int × Int × Int × Int × Int × (List YLeg) × (List Int) × (List YOrder) × (List YBooking) × (List YTrip) × (List YScan) × (List Int)) => s2.1 = (k : Int) ∧ k ≤ 1000 ∧ CurOk ⟨s2.2.1, s2.2.2.1, s2.2.2.2.1⟩ ∧ WD ⟨o0.2.2.2, y1.1.off, y1.1.change⟩ (⟨(⟨s2.2.2.2.2.2.2.2.1, s2.2.2.2.2.2.2.2.2.1, s2.2.2.2.2.1⟩ : YNetwork), s2.2.2.2.2.2.2.2.2.2.1, s2.2.2.2.2.2.2.2.2.2.2.1, s2.2.2.2.2.2.2.2.2.2.2.2.1, s2.2.2.2.2.2.1, s2.2.2.2.2.2.2.2.2.2.2.2.2.1, s2.2.2.2.2.2.2.2.2.2.2.2.2.2, s2.2.2.2.2.2.2.1⟩ : YWorld)) (fun k s hs => ?_) NN y8.1.toNat _ ⟨by simp only; omega, ?_, h8.2, ?_⟩ (by unfold NN; omega)
      · obtain ⟨hk, hkl, hc, hw⟩ := hs
        unfold m_p0_spec_l10Draw_b2
        refine Tot.cond (fun hd => ?_) fun _ => Tot.ret ⟨hc, hw⟩
        have hd := of_decide_eq_true hd
        have hwi : w64 (s.1 - 1) = ((k - 1 : Nat) : Int) := by rw [w64_in (by omega)]; omega
        exact Tot.frz (Tot.rho (Tot.bind (act_tot ho0.2 hc hw) fun y9 h9 => Tot.ret ⟨k - 1, by omega, hwi, by omega, h9.2, h9.1⟩))
      · omega
      · exact ⟨⟨ho0.2.fit, by simp, by simp, by simp, by simp, by have := ho1.2; simp only; omega, fun o ho => by cases ho⟩, rfl, by simp⟩
theorem WFit.set {w : YWorld} (h : WFit w) {i : Nat} {x : YOrder} {o : YOrder} (ho : o ∈ w.orders) (hx : x.way = o.way) : ∀ y ∈ w.orders.set i x, y.way.length ≤ 1048576 := fun y hy => by
  rcases List.mem_or_eq_of_mem_set hy with hy | rfl
  · exact h.way y hy
  · rw [hx]; exact h.way o ho
theorem any_tot {c : Yl1Cur} (h : CurOk c) : Tot (m_p0_spec_l10Any c) fun r => NetD r.1.network ∧ WFit r.1 ∧ CurOk r.2 := by
  unfold m_p0_spec_l10Any
  refine Tot.rho (Tot.bind (draw_tot h 9 (by omega)) fun y1 h1 => ?_)
  obtain ⟨n, hn, hw, hc⟩ := h1
  have hf := hw.fit
  have hcl := hw.closed
  have hnd : NetD y1.1.network := by rw [hw.net]; exact hn
  refine Tot.rho (Tot.bind (once_tot hc 2) fun y2 h2 => Tot.cond (fun _ => Tot.ret ⟨hnd, hf, h2⟩) fun _ => Tot.cond (fun _ => Tot.ret ⟨hnd, hf, h2⟩) fun hz => ?_)
  have hz := of_decide_eq_false hz
  refine Tot.rho (Tot.bind (below_tot h2 _) fun y3 h3 => Tot.rho (Tot.bind (below_tot h3.2 13) fun y4 h4 => ?_))
  have b3 := h3.1.2.1 (by omega)
  obtain ⟨o, ho, hm⟩ := len_in (xs := y1.1.orders) (i := y3.1) ⟨h3.1.1, b3⟩
  have hc4 := h4.2
  rw [ho]
  simp only [Option.bind_some]
  have set : ∀ (x : YOrder), x.way = o.way → WFit (⟨y1.1.network, (y1.1.orders.set (Int.toNat y3.1) x), y1.1.bookings, y1.1.closed, y1.1.now, y1.1.scans, y1.1.skip, y1.1.made⟩ : YWorld) := fun x hx => ⟨hf.net, by simp only [List.length_set]; exact hf.orders, hf.bookings, hf.closed, hf.scans, hf.skip, hf.set hm hx⟩
  have keep : ∀ (a b : Int), WFit (⟨y1.1.network, y1.1.orders, y1.1.bookings, y1.1.closed, a, y1.1.scans, y1.1.skip, b⟩ : YWorld) := fun a b => ⟨hf.net, hf.orders, hf.bookings, hf.closed, hf.scans, hf.skip, hf.way⟩
  refine Tot.cond (fun _ => Tot.drw (Tot.rho (Tot.bind (below_tot hc4 5) fun y5 h5 => Tot.ret ⟨hnd, set _ rfl, h5.2⟩))) fun _ => ?_
  refine Tot.cond (fun _ => Tot.ret ⟨hnd, set _ rfl, hc4⟩) fun _ => ?_
  refine Tot.cond (fun _ => Tot.drw (Tot.rho (Tot.bind (str_tot hc4 (by simp)) fun y10 h10 => Tot.ret ⟨hnd, set _ rfl, h10.2⟩))) fun _ => ?_
  refine Tot.cond (fun _ => Tot.ret ⟨hnd, set _ rfl, hc4⟩) fun _ => ?_
  refine Tot.cond (fun _ => Tot.drw (Tot.rho (Tot.bind (int_tot hc4 (by simp)) fun y14 h14 => Tot.ret ⟨hnd, keep _ _, h14.2⟩))) fun _ => ?_
  refine Tot.cond (fun _ => Tot.drw (Tot.rho (Tot.bind (below_tot hc4 _) fun y15 h15 => ?_))) fun _ => ?_
  · have hb := hf.bookings
    have hw1 : w64 ((y1.1.bookings.length : Int) + 1) = (y1.1.bookings.length : Int) + 1 := w64_in (by omega)
    have b15 := h15.1.2.1 (by rw [hw1]; omega)
    rw [hw1] at b15
    have b0 := h15.1.1
    refine Tot.chk (by unfold slOk; exact decide_eq_true (by omega)) (Tot.ret ⟨hnd, ⟨hf.net, hf.orders, ?_, hf.closed, hf.scans, hf.skip, hf.way⟩, h15.2⟩)
    simp only [subL, List.length_take, List.length_drop]; omega
  refine Tot.cond (fun _ => Tot.drw (Tot.rho (Tot.bind (wtrip1_tot hn hc4 hw) fun y16 h16 => ?_))) fun _ => ?_
  · have e := h16.2
    rw [e]
    refine Tot.chk (app_fit (by simp only [List.length_cons, List.length_nil]; omega) (by omega)) (Tot.ret ⟨hnd, ⟨hf.net, hf.orders, hf.bookings, ?_, hf.scans, hf.skip, hf.way⟩, h16.1⟩)
    simp only [List.length_append, List.length_cons, List.length_nil]; omega
  refine Tot.cond (fun _ => Tot.ret ⟨hnd, set _ rfl, hc4⟩) fun _ => ?_
  refine Tot.cond (fun _ => Tot.rho (Tot.bind (int_tot hc4 (by simp)) fun y19 h19 => Tot.ret ⟨hnd, keep _ _, h19.2⟩)) fun _ => ?_
  exact Tot.cond (fun _ => Tot.drw (Tot.rho (Tot.bind (int_tot hc4 (by simp)) fun y20 h20 => Tot.ret ⟨hnd, set _ rfl, h20.2⟩))) fun _ => Tot.ret ⟨hnd, hf, hc4⟩
/-- What DrawAdvanceTo draws. -/
theorem drawAdv_tot {code : List YB8} (hl : code.length ≤ 4096) (hb : ∀ x ∈ code, 0 ≤ x.v ∧ x.v ≤ 255) : Tot (m_spec_DrawAdvanceTo code) fun r => WFit r.1 := by
  unfold m_spec_DrawAdvanceTo
  exact Tot.bind (new_tot hl hb) fun y1 h1 => Tot.rho (Tot.bind (any_tot h1) fun y2 h2 => Tot.rho (Tot.bind (once_tot h2.2.2 9) fun y3 h3 => Tot.cond (fun _ => Tot.drw (Tot.rho (Tot.bind (int_tot h3 (by simp)) fun y4 _ => Tot.ret h2.2.1))) fun _ => Tot.drw (Tot.rho (Tot.bind (below_tot h3 200) fun y5 _ => Tot.ret h2.2.1))))
end Go.Proofs.YtmcdjilbkmhfoaaGreat

/- The mirror of spec_DrawShutTrip, and that the code does just that (printed by a program of my own). -/
namespace Go.Proofs.YtmcdjilbkmhfoaaGreat
set_option maxRecDepth 10000
open Go.RowKit
set_option linter.unusedVariables false
set_option maxHeartbeats 16000000
def m_spec_DrawShutTrip (code : List YB8) : Option (YWorld × YTrip) :=
 (m_o_spec_l1New code).bind fun y1 =>
 (rhoM [2]).bind fun _ =>
 (m_p0_spec_l10Any y1).bind fun y2 =>
 (drwL 8 [3]).bind fun _ =>
 (rhoM [2]).bind fun _ =>
 (m_p0_spec_l10Trip y2.2 y2.1).bind fun y3 =>
 some (y2.1, y3.1)
theorem ok_spec_DrawShutTrip (code : List YB8) {r : YWorld × YTrip} (H : m_spec_DrawShutTrip code = some r) : CallM Tryz.prog 52 [.sl (code.map cB8)] [] (.tu [.ag [.sl (r.1.network.legs.map cLeg), .sl (r.1.network.off.map cInt), vi r.1.network.change, .sl (r.1.orders.map cOrder), .sl (r.1.bookings.map cBooking), .sl (r.1.closed.map cTrip), vi r.1.now, .sl (r.1.scans.map cScan), .sl (r.1.skip.map cInt), vi r.1.made], .ag [vi r.2.leg, vi r.2.day]]) [] := by
  replace H := H0 H
  unfold m_spec_DrawShutTrip at H
  refine callM_of Tryz.func52 rfl Tryz.ntmps52 Tryz.results52 fun Q hQ hQn => ?_
  exact wk2
instance (code : List YB8) : CT Tryz.prog (m_spec_DrawShutTrip code) := ⟨52, [.sl (code.map cB8)], [], fun r => .tu [.ag [.sl (r.1.network.legs.map cLeg), .sl (r.1.network.off.map cInt), vi r.1.network.change, .sl (r.1.orders.map cOrder), .sl (r.1.bookings.map cBooking), .sl (r.1.closed.map cTrip), vi r.1.now, .sl (r.1.scans.map cScan), .sl (r.1.skip.map cInt), vi r.1.made], .ag [vi r.2.leg, vi r.2.day]], fun r => [], ok_spec_DrawShutTrip code⟩
end Go.Proofs.YtmcdjilbkmhfoaaGreat

/- Draws of a world and a trip. -/
namespace Go.Proofs.YtmcdjilbkmhfoaaGreat
set_option maxRecDepth 10000
open Go.RowKit
set_option linter.unusedVariables false
theorem drawShut_tot {code : List YB8} (hl : code.length ≤ 4096) (hb : ∀ x ∈ code, 0 ≤ x.v ∧ x.v ≤ 255) : Tot (m_spec_DrawShutTrip code) fun r => NetD r.1.network ∧ WFit r.1 := by
  unfold m_spec_DrawShutTrip
  exact Tot.bind (new_tot hl hb) fun y1 h1 => Tot.rho (Tot.bind (any_tot h1) fun y2 h2 => Tot.drw (Tot.rho (Tot.bind (wtrip_tot h2.1 h2.2.2 rfl) fun y3 _ => Tot.ret ⟨h2.1, h2.2.1⟩)))
end Go.Proofs.YtmcdjilbkmhfoaaGreat

/- The mirror of impl_RidingOn, and that the code does just that (printed by a program of my own). -/
namespace Go.Proofs.YtmcdjilbkmhfoaaGreat
set_option maxRecDepth 10000
open Go.RowKit
set_option linter.unusedVariables false
set_option maxHeartbeats 16000000
def m_impl_RidingOn_b0 (w : YWorld) (t : YTrip) (s0 : Int × (List Int)) : Option ((Int × (List Int)) ⊕ (List Int)) :=
 cond (decide (s0.1 < (w.orders.length : Int)))
 ((getI w.orders s0.1).bind fun y2 =>
 cond (decide (y2.state = 2))
 ((getI y2.way y2.gone).bind fun y3 =>
 cond (decide (y3 = t))
 ((chk (appOk ((s0.2 : List Int).length + ([(w64 (s0.1 + 1))] : List Int).length) 8)).bind fun _ =>
 some (.inl ((w64 (s0.1 + 1)), ((s0.2 : List Int) ++ [(w64 (s0.1 + 1))]))))
 (some (.inl ((w64 (s0.1 + 1)), s0.2))))
 (some (.inl ((w64 (s0.1 + 1)), s0.2))))
 (some (.inr s0.2))
instance (w : YWorld) (t : YTrip) : LoopE (m_impl_RidingOn_b0 w t) := ⟨fun s0 => [.un, .un, .un, .be 0 0 0, .un, .ms 1, .un, .un, .un, .un, .un, .un, .un, .un, .sl (w.orders.map cOrder), vi (w.orders.length : Int), vi s0.1, .un, .un, .un, .un, .un, .un, .un, .un, .un, .un, .un, .un, .un, .un, .un, .un, .un, .un, .un, .un, .un, .un, .un, .un], fun s0 => [some ⟨55, 2, [[vi t.leg, vi t.day]]⟩, some ⟨3, 1, s0.2.map cInt⟩]⟩
def m_impl_RidingOn (w : YWorld) (t : YTrip) : Option (List Int) :=
 (m_impl_IsWorld w).bind fun y1 =>
 cond (!y1)
 (some ([] : List Int))
 ((iterF (m_impl_RidingOn_b0 w t) NN (0, ([] : List Int))).bind (fun o0 =>
 some o0))
theorem ok_impl_RidingOn (w : YWorld) (t : YTrip) {r : (List Int)} (H : m_impl_RidingOn w t = some r) : CallM Tryz.prog 29 [.ag (cWorld w), .ag (cTrip t)] [] (.ms 0) [some ⟨3, 1, r.map cInt⟩] := by
  replace H := H0 H
  unfold m_impl_RidingOn at H
  refine callM_of Tryz.func29 rfl Tryz.ntmps29 Tryz.results29 fun Q hQ hQn => ?_
  exact wk2
instance (w : YWorld) (t : YTrip) : CT Tryz.prog (m_impl_RidingOn w t) := ⟨29, [.ag (cWorld w), .ag (cTrip t)], [], fun r => .ms 0, fun r => [some ⟨3, 1, r.map cInt⟩], ok_impl_RidingOn w t⟩
end Go.Proofs.YtmcdjilbkmhfoaaGreat

/- The mirror of spec_RidingOn, and that the code does just that (printed by a program of my own). -/
namespace Go.Proofs.YtmcdjilbkmhfoaaGreat
set_option maxRecDepth 10000
open Go.RowKit
set_option linter.unusedVariables false
set_option maxHeartbeats 16000000
def m_spec_RidingOn_b0 (w : YWorld) (t : YTrip) (s0 : Int × (List Int)) : Option ((Int × (List Int)) ⊕ (List Int)) :=
 cond (decide (s0.1 < (w.orders.length : Int)))
 ((getI w.orders s0.1).bind fun y2 =>
 cond (decide (y2.state = 2))
 ((getI y2.way y2.gone).bind fun y3 =>
 cond (decide (y3 = t))
 ((chk (appOk ((s0.2 : List Int).length + ([(w64 (s0.1 + 1))] : List Int).length) 8)).bind fun _ =>
 some (.inl ((w64 (s0.1 + 1)), ((s0.2 : List Int) ++ [(w64 (s0.1 + 1))]))))
 (some (.inl ((w64 (s0.1 + 1)), s0.2))))
 (some (.inl ((w64 (s0.1 + 1)), s0.2))))
 (some (.inr s0.2))
instance (w : YWorld) (t : YTrip) : LoopE (m_spec_RidingOn_b0 w t) := ⟨fun s0 => [.un, .un, .be 0 0 0, .be 1 0 0, .un, .ms 2, vi s0.1, .un, .un, .un, .un, .un, .un, .un, .un, .un, .un, .un, .un, .un, .un, .un, .un, .un, .un, .un, .un, .un, .un, .un, .un, .un, .un, .un, .un, .un, .un, .un, .un, .un, .un, .un, .un, .un], fun s0 => [some ⟨41, 10, [[.sl (w.network.legs.map cLeg), .sl (w.network.off.map cInt), vi w.network.change, .sl (w.orders.map cOrder), .sl (w.bookings.map cBooking), .sl (w.closed.map cTrip), vi w.now, .sl (w.scans.map cScan), .sl (w.skip.map cInt), vi w.made]]⟩, some ⟨55, 2, [[vi t.leg, vi t.day]]⟩, some ⟨3, 1, s0.2.map cInt⟩]⟩
def m_spec_RidingOn (w : YWorld) (t : YTrip) : Option (List Int) :=
 (m_spec_IsWorld w).bind fun y1 =>
 cond (!y1)
 (some ([] : List Int))
 ((iterF (m_spec_RidingOn_b0 w t) NN (0, ([] : List Int))).bind (fun o0 =>
 some o0))
theorem ok_spec_RidingOn (w : YWorld) (t : YTrip) {r : (List Int)} (H : m_spec_RidingOn w t = some r) : CallM Tryz.prog 30 [.ag (cWorld w), .ag (cTrip t)] [] (.ms 0) [some ⟨3, 1, r.map cInt⟩] := by
  replace H := H0 H
  unfold m_spec_RidingOn at H
  refine callM_of Tryz.func30 rfl Tryz.ntmps30 Tryz.results30 fun Q hQ hQn => ?_
  exact wk
instance (w : YWorld) (t : YTrip) : CT Tryz.prog (m_spec_RidingOn w t) := ⟨30, [.ag (cWorld w), .ag (cTrip t)], [], fun r => .ms 0, fun r => [some ⟨3, 1, r.map cInt⟩], ok_spec_RidingOn w t⟩
end Go.Proofs.YtmcdjilbkmhfoaaGreat

/- The mirror of impl_WhoRides, and that the code does just that (printed by a program of my own). -/
namespace Go.Proofs.YtmcdjilbkmhfoaaGreat
set_option maxRecDepth 10000
open Go.RowKit
set_option linter.unusedVariables false
set_option maxHeartbeats 16000000
def m_impl_WhoRides_b0 (l : List YBooking) (t : YTrip) (s0 : Int × (List Int)) : Option ((Int × (List Int)) ⊕ (List Int)) :=
 cond (decide (s0.1 < (l.length : Int)))
 ((getI l s0.1).bind fun y1 =>
 cond (decide (y1.trip = t))
 ((chk (appOk ((s0.2 : List Int).length + ([y1.thing] : List Int).length) 8)).bind fun _ =>
 some (.inl ((w64 (s0.1 + 1)), ((s0.2 : List Int) ++ [y1.thing]))))
 (some (.inl ((w64 (s0.1 + 1)), s0.2))))
 (some (.inr s0.2))
instance (l : List YBooking) (t : YTrip) : LoopE (m_impl_WhoRides_b0 l t) := ⟨fun s0 => [.un, .un, .un, .be 0 0 0, .un, .ms 1, .un, .un, .un, .sl (l.map cBooking), vi (l.length : Int), vi s0.1, .un, .un, .un, .un, .un, .un, .un, .un, .un, .un, .un, .un, .un, .un], fun s0 => [some ⟨55, 2, [[vi t.leg, vi t.day]]⟩, some ⟨3, 1, s0.2.map cInt⟩]⟩
def m_impl_WhoRides (l : List YBooking) (t : YTrip) : Option (List Int) :=
 (iterF (m_impl_WhoRides_b0 l t) NN (0, ([] : List Int))).bind (fun o0 =>
 some o0)
theorem ok_impl_WhoRides (l : List YBooking) (t : YTrip) {r : (List Int)} (H : m_impl_WhoRides l t = some r) : CallM Tryz.prog 34 [.sl (l.map cBooking), .ag (cTrip t)] [] (.ms 0) [some ⟨3, 1, r.map cInt⟩] := by
  replace H := H0 H
  unfold m_impl_WhoRides at H
  refine callM_of Tryz.func34 rfl Tryz.ntmps34 Tryz.results34 fun Q hQ hQn => ?_
  exact wk2
instance (l : List YBooking) (t : YTrip) : CT Tryz.prog (m_impl_WhoRides l t) := ⟨34, [.sl (l.map cBooking), .ag (cTrip t)], [], fun r => .ms 0, fun r => [some ⟨3, 1, r.map cInt⟩], ok_impl_WhoRides l t⟩
end Go.Proofs.YtmcdjilbkmhfoaaGreat

/- Who rides on a trip has booked it, and all together weigh no more than it carries. -/
namespace Go.Proofs.YtmcdjilbkmhfoaaGreat
set_option maxRecDepth 10000
open Go.RowKit
set_option linter.unusedVariables false
set_option linter.unusedSimpArgs false
structure RidersOk (w : YWorld) (t : YTrip) (r : List Int) : Prop where
  len : r.length ≤ w.orders.length
  pw : r.Pairwise (· < ·)
  at_ : ∀ y ∈ r, ∃ (i : Nat) (o : YOrder), y = (i : Int) + 1 ∧ w.orders[i]? = some o ∧ o.state = 2 ∧ getI o.way o.gone = some t
theorem riding_tot {w : YWorld} (h : WOk w) (t : YTrip) : Tot (m_impl_RidingOn w t) (RidersOk w t) := by
  have hor := h.fit.orders
  unfold m_impl_RidingOn
  rw [impl_world h.fit, h.ok, Option.bind_some]
  simp only [Bool.not_true, cond_false]
  refine Tot.bind (P := RidersOk w t) ?_ fun o ho => Tot.ret ho
  refine Tot.loop (fun (k : Nat) (s : Int × List Int) => ∃ i : Nat, s.1 = (i : Int) ∧ i + k = w.orders.length ∧ s.2.length ≤ i ∧ (∀ y ∈ s.2, y ≤ i) ∧ s.2.Pairwise (· < ·) ∧ ∀ y ∈ s.2, ∃ (i : Nat) (o : YOrder), y = (i : Int) + 1 ∧ w.orders[i]? = some o ∧ o.state = 2 ∧ getI o.way o.gone = some t) (fun k s hs => ?_) NN w.orders.length _ ⟨0, rfl, by omega, by simp, by simp, by simp, by simp⟩ (by unfold NN; omega)
  obtain ⟨i, hi, hk, h1, h2, h3, h4⟩ := hs
  unfold m_impl_RidingOn_b0
  rw [hi]
  refine Tot.cond (fun hd => ?_) fun _ => Tot.ret ⟨by omega, h3, h4⟩
  have hlt : i < w.orders.length := by have := of_decide_eq_true hd; omega
  have hw : w64 ((i : Int) + 1) = ((i + 1 : Nat) : Int) := by rw [w64_in (by omega)]; omega
  have ho := List.getElem?_eq_getElem hlt
  have hg : getI w.orders (i : Int) = some w.orders[i] := by rw [getI_nat]; exact ho
  rw [hg, Option.bind_some, hw]
  have go : Tot (some (Sum.inl (((i + 1 : Nat) : Int), s.2)) : Option ((Int × List Int) ⊕ List Int)) (LoopP (fun (k : Nat) (s : Int × List Int) => ∃ i : Nat, s.1 = (i : Int) ∧ i + k = w.orders.length ∧ s.2.length ≤ i ∧ (∀ y ∈ s.2, y ≤ i) ∧ s.2.Pairwise (· < ·) ∧ ∀ y ∈ s.2, ∃ (i : Nat) (o : YOrder), y = (i : Int) + 1 ∧ w.orders[i]? = some o ∧ o.state = 2 ∧ getI o.way o.gone = some t) (RidersOk w t) k) :=
    Tot.ret ⟨k - 1, by omega, i + 1, rfl, by omega, by simp only; omega, fun y hy => by have := h2 y hy; omega, h3, h4⟩
  refine Tot.cond (fun hs => ?_) fun _ => go
  have hst := of_decide_eq_true hs
  have hok := world_ok h.fit h.ok ho
  have hgl : w.orders[i].gone < w.orders[i].way.length := by
    rcases hok.cases with ⟨c, _⟩ | ⟨_, c⟩ | ⟨c, _⟩
    · omega
    · exact c
    · omega
  obtain ⟨x, hx, _⟩ := way_at h.fit h.ok ho hok.gone.1 hgl
  rw [hx, Option.bind_some]
  refine Tot.cond (fun he => ?_) fun _ => go
  have he := of_decide_eq_true he
  refine Tot.chk (app_fit (by simp only [List.length_cons, List.length_nil]; omega) (by omega)) (Tot.ret ⟨k - 1, by omega, i + 1, rfl, by omega, by simp only [List.length_append, List.length_cons, List.length_nil]; omega, fun y hy => ?_, ?_, fun y hy => ?_⟩)
  · rcases List.mem_append.1 hy with hy | hy
    · have := h2 y hy; omega
    · obtain rfl := List.mem_singleton.1 hy; omega
  · refine List.pairwise_append.2 ⟨h3, List.pairwise_singleton _ _, fun a ha b hb => ?_⟩
    obtain rfl := List.mem_singleton.1 hb
    have := h2 a ha
    omega
  · rcases List.mem_append.1 hy with hy | hy
    · exact h4 y hy
    · obtain rfl := List.mem_singleton.1 hy
      exact ⟨i, _, by omega, ho, hst, by rw [hx, he]⟩
theorem riding_both {w : YWorld} (h : WFit w) (t : YTrip) : m_spec_RidingOn w t = m_impl_RidingOn w t := by
  unfold m_spec_RidingOn m_impl_RidingOn
  rw [spec_world h, impl_world h]
  rfl
theorem riding_not {w : YWorld} (h : WFit w) (hv : worldV w = false) (t : YTrip) : m_impl_RidingOn w t = some [] := by
  unfold m_impl_RidingOn
  rw [impl_world h, hv]
  rfl
/-- The things on a trip. -/
def whoV (l : List YBooking) (t : YTrip) : List Int := l.flatMap fun b => if b.trip = t then [b.thing] else []
theorem who_v {l : List YBooking} (hl : l.length ≤ 1048576) (t : YTrip) : m_impl_WhoRides l t = some (whoV l t) := by
  unfold m_impl_WhoRides
  have e : iterF (m_impl_WhoRides_b0 l t) NN (0, []) = some (whoV l t) := by
    have := iter_st0 (body := m_impl_WhoRides_b0 l t) (fun i : Nat => ((i : Int), whoV (l.take i) t)) (n := l.length) (o := whoV l t) (fun i hi => ?_) ?_ NN (by unfold NN; omega)
    · simpa [whoV] using this
    · have ho : l[i]? = some l[i] := List.getElem?_eq_getElem hi
      have hg : getI l (i : Int) = some l[i] := by rw [getI_nat]; exact ho
      have hw : w64 ((i : Int) + 1) = ((i + 1 : Nat) : Int) := w64_nat hi (by omega)
      have hlen : (whoV (l.take i) t).length ≤ i := by
        have : ∀ (xs : List YBooking), (whoV xs t).length ≤ xs.length := fun xs => by
          induction xs with
          | nil => simp [whoV]
          | cons x xs ih => unfold whoV at ih ⊢; rw [List.flatMap_cons, List.length_append, List.length_cons]; split <;> simp only [List.length_cons, List.length_nil] <;> omega
        have := this (l.take i)
        rw [List.length_take] at this; omega
      unfold m_impl_WhoRides_b0
      simp only [decide_eq_true (show (i : Int) < l.length by omega), cond_true, hg, Option.bind_some, hw]
      have hs : whoV (l.take (i + 1)) t = whoV (l.take i) t ++ (if l[i].trip = t then [l[i].thing] else []) := by
        unfold whoV
        rw [← take_snoc' ho, List.flatMap_append]; simp
      rw [hs]
      by_cases ht : l[i].trip = t
      · rw [decide_eq_true ht, if_pos ht, cond_true]
        have ha : chk (appOk ((whoV (l.take i) t).length + ([l[i].thing] : List Int).length) 8) = some () := app_ok1 (by simp only [List.length_cons, List.length_nil]; omega) (by omega)
        rw [ha]; rfl
      · rw [decide_eq_false ht, if_neg ht, cond_false, List.append_nil]
    · unfold m_impl_WhoRides_b0
      simp
  rw [e]; rfl
theorem who_mem {l : List YBooking} {t : YTrip} {b : YBooking} (h : b ∈ l) (ht : b.trip = t) : b.thing ∈ whoV l t := by
  unfold whoV
  exact List.mem_flatMap.2 ⟨b, h, by rw [if_pos ht]; exact List.mem_singleton.2 rfl⟩
/-- What a trip carries. -/
def loadS (l : List YBooking) (t : YTrip) : Int := (l.map fun b => if b.trip = t then b.weight else 0).sum
theorem loadS_bound {l : List YBooking} (hw : ∀ b ∈ l, 1 ≤ b.weight ∧ b.weight ≤ 1000000) (t : YTrip) : 0 ≤ loadS l t ∧ loadS l t ≤ 1000000 * l.length := by
  induction l with
  | nil => simp [loadS]
  | cons x xs ih =>
    have hx := hw x List.mem_cons_self
    have := ih fun b hb => hw b (List.mem_cons_of_mem _ hb)
    unfold loadS at this ⊢
    rw [List.map_cons, List.sum_cons, List.length_cons]
    split <;> omega
theorem load_v {l : List YBooking} (hl : l.length ≤ 1000) (hw : ∀ b ∈ l, 1 ≤ b.weight ∧ b.weight ≤ 1000000) (t : YTrip) : m_spec_LoadOf l t = some (loadS l t) := by
  unfold m_spec_LoadOf
  have e : iterF (m_spec_LoadOf_b0 l t) NN (0, 0) = some (loadS l t) := by
    have := iter_st0 (body := m_spec_LoadOf_b0 l t) (fun i : Nat => (loadS (l.take i) t, (i : Int))) (n := l.length) (o := loadS l t) (fun i hi => ?_) ?_ NN (by unfold NN; omega)
    · simpa [loadS] using this
    · have ho : l[i]? = some l[i] := List.getElem?_eq_getElem hi
      have hg : getI l (i : Int) = some l[i] := by rw [getI_nat]; exact ho
      have hwi : w64 ((i : Int) + 1) = ((i + 1 : Nat) : Int) := w64_nat hi (by omega)
      have hb := loadS_bound (l := l.take i) (fun b hb => hw b (List.mem_of_mem_take hb)) t
      have hx := hw _ (List.getElem_mem hi)
      have hlen : (l.take i).length ≤ 1000 := by rw [List.length_take]; omega
      unfold m_spec_LoadOf_b0
      have hs : loadS (l.take (i + 1)) t = loadS (l.take i) t + (if l[i].trip = t then l[i].weight else 0) := by
        unfold loadS
        rw [← take_snoc' ho, List.map_append, List.sum_append]; simp
      simp only [decide_eq_true (show (i : Int) < l.length by omega), cond_true, hg, Option.bind_some, hwi]
      rw [hs]
      by_cases ht : l[i].trip = t
      · rw [decide_eq_true ht, if_pos ht, cond_true, w64_in (by omega)]
      · rw [decide_eq_false ht, if_neg ht, cond_false, Int.add_zero]
    · unfold m_spec_LoadOf_b0
      simp
  rw [e]; rfl
theorem sum_pos : ∀ (B : List YBooking), (∀ b ∈ B, 1 ≤ b.weight ∧ b.weight ≤ 1000000) → 0 ≤ (B.map (·.weight)).sum
  | [], _ => by simp
  | x :: xs, hw => by
    have := hw x List.mem_cons_self
    have := sum_pos xs fun b hb => hw b (List.mem_cons_of_mem _ hb)
    rw [List.map_cons, List.sum_cons]; omega
theorem erase_sum : ∀ (B : List YBooking) (b : YBooking), b ∈ B → (B.map (·.weight)).sum = b.weight + ((B.erase b).map (·.weight)).sum
  | x :: xs, b, h => by
    by_cases hx : x = b
    · subst hx; rw [List.erase_cons_head, List.map_cons, List.sum_cons]
    · have hb : b ∈ xs := by rcases List.mem_cons.1 h with rfl | h
                             · exact absurd rfl hx
                             · exact h
      rw [List.erase_cons_tail (by simpa using hx), List.map_cons, List.sum_cons, List.map_cons, List.sum_cons, erase_sum xs b hb]
      omega
/-- Different things weigh no more than all. -/
theorem sum_things : ∀ (R : List (Int × Int)) (B : List YBooking), (∀ b ∈ B, 1 ≤ b.weight ∧ b.weight ≤ 1000000) → R.Pairwise (fun a b => ¬ a.1 = b.1) → (∀ r ∈ R, ∃ b ∈ B, b.thing = r.1 ∧ b.weight = r.2) → (R.map (·.2)).sum ≤ (B.map (·.weight)).sum
  | [], B, hw, _, _ => by
    simp only [List.map_nil, List.sum_nil]
    exact sum_pos B hw
  | r :: R, B, hw, hp, h => by
    obtain ⟨b, hb, h1, h2⟩ := h r List.mem_cons_self
    have hperm : (B.map (·.weight)).sum = b.weight + ((B.erase b).map (·.weight)).sum := erase_sum B b hb
    have := sum_things R (B.erase b) (fun x hx => hw x (List.mem_of_mem_erase hx)) (List.pairwise_cons.1 hp).2 fun x hx => by
      obtain ⟨c, hc, c1, c2⟩ := h x (List.mem_cons_of_mem _ hx)
      refine ⟨c, (List.mem_erase_of_ne ?_).2 hc, c1, c2⟩
      rintro rfl
      exact (List.pairwise_cons.1 hp).1 x hx (h1.symm.trans c1)
    rw [List.map_cons, List.sum_cons, hperm]
    omega
theorem loadS_filter (l : List YBooking) (t : YTrip) : loadS l t = ((l.filter fun b => decide (b.trip = t)).map (·.weight)).sum := by
  unfold loadS
  induction l with
  | nil => rfl
  | cons x xs ih =>
    rw [List.map_cons, List.sum_cons, ih, List.filter_cons]
    by_cases h : x.trip = t
    · rw [if_pos h, if_pos (decide_eq_true h), List.map_cons, List.sum_cons]
    · rw [if_neg h, if_neg (by simpa using h)]; omega
def weightAt (w : YWorld) (y : Int) : Int := (w.orders[(y - 1).toNat]?.map (·.weight)).getD 0
theorem books_w {w : YWorld} (h : WOk w) : ∀ b ∈ w.bookings, 1 ≤ b.weight ∧ b.weight ≤ 1000000 := fun b hb => by
  obtain ⟨i, hi, rfl⟩ := List.getElem_of_mem hb
  have := (books_at (world_books h.ok) hi).1
  unfold bk1 at this
  rw [List.getElem?_eq_getElem hi] at this
  simp only [Bool.and_eq_true, decide_eq_true_iff] at this
  exact this.1.2
/-- A rider's booking. -/
theorem rider_book {w : YWorld} (h : WOk w) {t : YTrip} {r : List Int} (hr : RidersOk w t r) {y : Int} (hy : y ∈ r) : ∃ (i : Nat) (o : YOrder), y = (i : Int) + 1 ∧ w.orders[i]? = some o ∧ (⟨y, t, o.weight⟩ : YBooking) ∈ w.bookings ∧ 1 ≤ o.weight ∧ o.weight ≤ 30000 ∧ tripB w.network t = true := by
  obtain ⟨i, o, h1, h2, h3, h4⟩ := hr.at_ y hy
  have hok := world_ok h.fit h.ok h2
  have hov := world_order h.ok h2
  have hg := getI_some h4
  have hw := allI_iff.1 hok.way _ _ hg.2
  unfold wayC at hw
  simp only [Bool.and_eq_true] at hw
  unfold bookedB at hw
  obtain ⟨b, hb, e⟩ := List.any_eq_true.1 hw.1.2
  have e := of_decide_eq_true e
  unfold orderV at hov
  simp only [Bool.and_eq_true, decide_eq_true_iff] at hov
  refine ⟨i, o, h1, h2, ?_, hov.1.1.1.1.1.1.1.2.1, hov.1.1.1.1.1.1.1.2.2, hw.1.1⟩
  rw [e] at hb
  rw [h1]
  have : ((0 + o.gone.toNat : Nat)) = ((0 + o.gone.toNat : Nat)) := rfl
  simpa using hb
theorem riders_sum {w : YWorld} (h : WOk w) {t : YTrip} {r : List Int} (hr : RidersOk w t r) : (r.map (weightAt w)).sum ≤ loadS w.bookings t := by
  rw [loadS_filter]
  have := sum_things (r.map fun y => (y, weightAt w y)) (w.bookings.filter fun b => decide (b.trip = t)) (fun b hb => books_w h b (List.mem_filter.1 hb).1) ?_ fun p hp => ?_
  · simpa [List.map_map, Function.comp_def] using this
  · refine List.pairwise_map.2 (hr.pw.imp fun {a b} hab => ?_)
    simp only; omega
  · obtain ⟨y, hy, rfl⟩ := List.mem_map.1 hp
    obtain ⟨i, o, h1, h2, h3, _⟩ := rider_book h hr hy
    refine ⟨_, List.mem_filter.2 ⟨h3, by simp⟩, rfl, ?_⟩
    unfold weightAt
    have : (y - 1).toNat = i := by omega
    rw [this, h2]; rfl
theorem riders_room {w : YWorld} (h : WOk w) {t : YTrip} {r : List Int} (hr : RidersOk w t r) (hne : ¬ r.length = 0) : ∃ y, getI w.network.legs t.leg = some y ∧ loadS w.bookings t ≤ y.room := by
  obtain ⟨x, hx⟩ : ∃ x, x ∈ r := by
    cases r with
    | nil => simp at hne
    | cons a r => exact ⟨a, List.mem_cons_self⟩
  obtain ⟨i, o, h1, h2, h3, _, _, h5⟩ := rider_book h hr hx
  obtain ⟨j, hj, hjb⟩ := List.getElem_of_mem h3
  have hb := (books_at (world_books h.ok) hj).2
  obtain ⟨y, hy, _⟩ := tripB_leg h.fit.net h5
  refine ⟨y, hy, ?_⟩
  unfold bk2 at hb
  rw [List.getElem?_eq_getElem hj, hjb] at hb
  have hp := h.parts
  have hlv := load_v (l := w.bookings) (by omega) (books_w h) t
  simp only [hy, hlv] at hb
  simpa using hb
end Go.Proofs.YtmcdjilbkmhfoaaGreat

/- The mirror of spec_DrawRidingOn, and that the code does just that (printed by a program of my own). -/
namespace Go.Proofs.YtmcdjilbkmhfoaaGreat
set_option maxRecDepth 10000
open Go.RowKit
set_option linter.unusedVariables false
set_option maxHeartbeats 16000000
def m_spec_DrawRidingOn (code : List YB8) : Option (YWorld × YTrip) :=
 (m_spec_DrawShutTrip code).bind fun y1 =>
 some (y1.1, y1.2)
theorem ok_spec_DrawRidingOn (code : List YB8) {r : YWorld × YTrip} (H : m_spec_DrawRidingOn code = some r) : CallM Tryz.prog 28 [.sl (code.map cB8)] [] (.tu [.ag [.sl (r.1.network.legs.map cLeg), .sl (r.1.network.off.map cInt), vi r.1.network.change, .sl (r.1.orders.map cOrder), .sl (r.1.bookings.map cBooking), .sl (r.1.closed.map cTrip), vi r.1.now, .sl (r.1.scans.map cScan), .sl (r.1.skip.map cInt), vi r.1.made], .ag [vi r.2.leg, vi r.2.day]]) [] := by
  replace H := H0 H
  unfold m_spec_DrawRidingOn at H
  refine callM_of Tryz.func28 rfl Tryz.ntmps28 Tryz.results28 fun Q hQ hQn => ?_
  exact wk2
instance (code : List YB8) : CT Tryz.prog (m_spec_DrawRidingOn code) := ⟨28, [.sl (code.map cB8)], [], fun r => .tu [.ag [.sl (r.1.network.legs.map cLeg), .sl (r.1.network.off.map cInt), vi r.1.network.change, .sl (r.1.orders.map cOrder), .sl (r.1.bookings.map cBooking), .sl (r.1.closed.map cTrip), vi r.1.now, .sl (r.1.scans.map cScan), .sl (r.1.skip.map cInt), vi r.1.made], .ag [vi r.2.leg, vi r.2.day]], fun r => [], ok_spec_DrawRidingOn code⟩
end Go.Proofs.YtmcdjilbkmhfoaaGreat

/- The mirror of laws_big, and that the code does just that (printed by a program of my own). -/
namespace Go.Proofs.YtmcdjilbkmhfoaaGreat
set_option maxRecDepth 10000
open Go.RowKit
set_option linter.unusedVariables false
set_option maxHeartbeats 16000000
def m_laws_big (code : List YB8) : Option Bool :=
 some (decide (4096 < (code.length : Int)))
theorem ok_laws_big (code : List YB8) {r : Bool} (H : m_laws_big code = some r) : CallM Tryz.prog 22 [.sl (code.map cB8)] [] (vb r) [] := by
  replace H := H0 H
  unfold m_laws_big at H
  refine callM_of Tryz.func22 rfl Tryz.ntmps22 Tryz.results22 fun Q hQ hQn => ?_
  exact wk2
instance (code : List YB8) : CT Tryz.prog (m_laws_big code) := ⟨22, [.sl (code.map cB8)], [], fun r => vb r, fun r => [], ok_laws_big code⟩
end Go.Proofs.YtmcdjilbkmhfoaaGreat

/- The mirror of laws_has, and that the code does just that (printed by a program of my own). -/
namespace Go.Proofs.YtmcdjilbkmhfoaaGreat
set_option maxRecDepth 10000
open Go.RowKit
set_option linter.unusedVariables false
set_option maxHeartbeats 16000000
def m_laws_has_b0 (l : List Int) (x : Int) (s0 : Int) : Option (Int ⊕ (Unit ⊕ Bool)) :=
 cond (decide (s0 < (l.length : Int)))
 ((getI l s0).bind fun y1 =>
 cond (decide (y1 = x))
 (some (.inr (.inr true)))
 (some (.inl (w64 (s0 + 1)))))
 (some (.inr (.inl ())))
instance (l : List Int) (x : Int) : LoopE (m_laws_has_b0 l x) := ⟨fun s0 => [.sl (l.map cInt), vi x, .un, .un, .un, vi s0, .un, .un, .un, .un, .un, .un, .un, .un, .un, .un, .un, .un], fun s0 => []⟩
def m_laws_has (l : List Int) (x : Int) : Option Bool :=
 (iterF (m_laws_has_b0 l x) NN 0).bind (selim (fun o0 =>
 some false) (fun r => some r))
theorem ok_laws_has (l : List Int) (x : Int) {r : Bool} (H : m_laws_has l x = some r) : CallM Tryz.prog 33 [.sl (l.map cInt), vi x] [] (vb r) [] := by
  replace H := H0 H
  unfold m_laws_has at H
  refine callM_of Tryz.func33 rfl Tryz.ntmps33 Tryz.results33 fun Q hQ hQn => ?_
  exact wk2
instance (l : List Int) (x : Int) : CT Tryz.prog (m_laws_has l x) := ⟨33, [.sl (l.map cInt), vi x], [], fun r => vb r, fun r => [], ok_laws_has l x⟩
end Go.Proofs.YtmcdjilbkmhfoaaGreat

/- The mirror of laws_rides, and that the code does just that (printed by a program of my own). -/
namespace Go.Proofs.YtmcdjilbkmhfoaaGreat
set_option maxRecDepth 10000
open Go.RowKit
set_option linter.unusedVariables false
set_option maxHeartbeats 16000000
def m_laws_rides_b0 (l : List YTrip) (t : YTrip) (s0 : Int) : Option (Int ⊕ (Unit ⊕ Bool)) :=
 cond (decide (s0 < (l.length : Int)))
 ((getI l s0).bind fun y1 =>
 cond (decide (y1 = t))
 (some (.inr (.inr true)))
 (some (.inl (w64 (s0 + 1)))))
 (some (.inr (.inl ())))
instance (l : List YTrip) (t : YTrip) : LoopE (m_laws_rides_b0 l t) := ⟨fun s0 => [.sl (l.map cTrip), .un, .un, .be 0 0 0, .un, vi s0, .un, .un, .un, .un, .un, .un, .un, .un, .un, .un, .un, .un], fun s0 => [some ⟨55, 2, [[vi t.leg, vi t.day]]⟩]⟩
def m_laws_rides (l : List YTrip) (t : YTrip) : Option Bool :=
 (iterF (m_laws_rides_b0 l t) NN 0).bind (selim (fun o0 =>
 some false) (fun r => some r))
theorem ok_laws_rides (l : List YTrip) (t : YTrip) {r : Bool} (H : m_laws_rides l t = some r) : CallM Tryz.prog 35 [.sl (l.map cTrip), .ag (cTrip t)] [] (vb r) [] := by
  replace H := H0 H
  unfold m_laws_rides at H
  refine callM_of Tryz.func35 rfl Tryz.ntmps35 Tryz.results35 fun Q hQ hQn => ?_
  exact wk2
instance (l : List YTrip) (t : YTrip) : CT Tryz.prog (m_laws_rides l t) := ⟨35, [.sl (l.map cTrip), .ag (cTrip t)], [], fun r => vb r, fun r => [], ok_laws_rides l t⟩
end Go.Proofs.YtmcdjilbkmhfoaaGreat

/- The mirror of spec_StartsAt, and that the code does just that (printed by a program of my own). -/
namespace Go.Proofs.YtmcdjilbkmhfoaaGreat
set_option maxRecDepth 10000
open Go.RowKit
set_option linter.unusedVariables false
set_option maxHeartbeats 16000000
def m_spec_StartsAt (n : YNetwork) (t : YTrip) : Option Int :=
 (m_spec_IsTrip n t).bind fun y1 =>
 cond (!y1)
 (some (-1))
 ((m_spec_l3Starts n t).bind fun y2 =>
 some y2)
theorem ok_spec_StartsAt (n : YNetwork) (t : YTrip) {r : Int} (H : m_spec_StartsAt n t = some r) : CallM Tryz.prog 32 [.ag (cNetwork n), .ag (cTrip t)] [] (vi r) [] := by
  replace H := H0 H
  unfold m_spec_StartsAt at H
  refine callM_of Tryz.func32 rfl Tryz.ntmps32 Tryz.results32 fun Q hQ hQn => ?_
  exact wk2
instance (n : YNetwork) (t : YTrip) : CT Tryz.prog (m_spec_StartsAt n t) := ⟨32, [.ag (cNetwork n), .ag (cTrip t)], [], fun r => vi r, fun r => [], ok_spec_StartsAt n t⟩
end Go.Proofs.YtmcdjilbkmhfoaaGreat

/- The mirror of laws_FnCarried, and that the code does just that (printed by a program of my own). -/
namespace Go.Proofs.YtmcdjilbkmhfoaaGreat
set_option maxRecDepth 10000
open Go.RowKit
set_option linter.unusedVariables false
set_option maxHeartbeats 16000000
def m_laws_FnCarried_b0 (y2 : YWorld × YTrip) (y10 : YWorld) (y11 : (List Int)) (s0 : Int × Int) : Option ((Int × Int) ⊕ (Int ⊕ Bool)) :=
 cond (decide (s0.2 < (y11.length : Int)))
 ((getI y11 s0.2).bind fun y12 =>
 (getI y10.orders (w64 (y12 - 1))).bind fun y13 =>
 (m_impl_WhoRides y10.bookings y2.2).bind fun y14 =>
 (getI y11 s0.2).bind fun y15 =>
 (m_laws_has y14 y15).bind fun y16 =>
 cond (!y16)
 (some (.inr (.inr false)))
 ((m_laws_rides y10.closed y2.2).bind fun y17 =>
 cond y17
 ((m_laws_rides y2.1.closed y2.2).bind fun y18 =>
 cond (!y18)
 (some (.inr (.inr false)))
 (some (.inl ((w64 (s0.1 + y13.weight)), (w64 (s0.2 + 1))))))
 (some (.inl ((w64 (s0.1 + y13.weight)), (w64 (s0.2 + 1)))))))
 (some (.inr (.inl s0.1)))
instance (y2 : YWorld × YTrip) (y10 : YWorld) (y11 : (List Int)) : LoopE (m_laws_FnCarried_b0 y2 y10 y11) := ⟨fun s0 => (.un :: .un :: .un :: .be 0 0 0 :: .be 1 0 0 :: .be 2 0 0 :: .ms 3 :: vi s0.1 :: vi s0.2 :: .un :: .un :: .un :: .un :: .un :: .un :: .un :: .un :: .un :: .un :: .un :: .un :: .un :: .un :: .un :: .un :: .un :: .un :: .un :: .un :: .un :: .un :: .un :: .un :: .un :: .un :: .un :: .un :: .un :: .un :: .un :: .un :: .un :: .un :: .un :: .un :: .un :: .un :: .un :: .un :: .un :: .un :: .un :: .un :: .un :: .un :: .un :: .un :: .un :: .un :: .un :: .un :: .un :: .un :: .un :: .un :: .un :: .un :: .un :: .un :: .un :: .un :: .un :: .un :: .un :: .un :: .un :: .un :: .un :: .un :: .un :: .un :: .un :: .un :: .un :: .un :: .un :: .un :: .un :: .un :: .un :: .un :: .un :: .un :: .un :: .un :: .un :: .un :: .un :: .un :: .un :: .un :: .un :: .un :: .un :: .un :: .un :: .un :: .un :: .un :: .un :: .un :: .un :: .un :: .un :: .un :: .un :: .un :: .un :: .un :: .un :: []), fun s0 => [some ⟨41, 10, [[.sl (y2.1.network.legs.map cLeg), .sl (y2.1.network.off.map cInt), vi y2.1.network.change, .sl (y2.1.orders.map cOrder), .sl (y2.1.bookings.map cBooking), .sl (y2.1.closed.map cTrip), vi y2.1.now, .sl (y2.1.scans.map cScan), .sl (y2.1.skip.map cInt), vi y2.1.made]]⟩, some ⟨55, 2, [[vi y2.2.leg, vi y2.2.day]]⟩, some ⟨41, 10, [[.sl (y10.network.legs.map cLeg), .sl (y10.network.off.map cInt), vi y10.network.change, .sl (y10.orders.map cOrder), .sl (y10.bookings.map cBooking), .sl (y10.closed.map cTrip), vi y10.now, .sl (y10.scans.map cScan), .sl (y10.skip.map cInt), vi y10.made]]⟩, some ⟨3, 1, y11.map cInt⟩]⟩
def m_laws_FnCarried_b1 (y2 : YWorld × YTrip) (y21 : (List Int)) (s1 : Int × Int) : Option ((Int × Int) ⊕ (Int ⊕ Bool)) :=
 cond (decide (s1.2 < (y21.length : Int)))
 ((getI y21 s1.2).bind fun y22 =>
 (getI y2.1.orders (w64 (y22 - 1))).bind fun y23 =>
 (m_impl_WhoRides y2.1.bookings y2.2).bind fun y24 =>
 (getI y21 s1.2).bind fun y25 =>
 (m_laws_has y24 y25).bind fun y26 =>
 cond (!y26)
 (some (.inr (.inr false)))
 ((m_laws_rides y2.1.closed y2.2).bind fun y27 =>
 cond y27
 ((m_laws_rides y2.1.closed y2.2).bind fun y28 =>
 cond (!y28)
 (some (.inr (.inr false)))
 (some (.inl ((w64 (s1.1 + y23.weight)), (w64 (s1.2 + 1))))))
 (some (.inl ((w64 (s1.1 + y23.weight)), (w64 (s1.2 + 1)))))))
 (some (.inr (.inl s1.1)))
instance (y2 : YWorld × YTrip) (y21 : (List Int)) : LoopE (m_laws_FnCarried_b1 y2 y21) := ⟨fun s1 => (.un :: .un :: .un :: .be 0 0 0 :: .be 1 0 0 :: .be 2 0 0 :: .ms 3 :: vi s1.1 :: vi s1.2 :: .un :: .un :: .un :: .un :: .un :: .un :: .un :: .un :: .un :: .un :: .un :: .un :: .un :: .un :: .un :: .un :: .un :: .un :: .un :: .un :: .un :: .un :: .un :: .un :: .un :: .un :: .un :: .un :: .un :: .un :: .un :: .un :: .un :: .un :: .un :: .un :: .un :: .un :: .un :: .un :: .un :: .un :: .un :: .un :: .un :: .un :: .un :: .un :: .un :: .un :: .un :: .un :: .un :: .un :: .un :: .un :: .un :: .un :: .un :: .un :: .un :: .un :: .un :: .un :: .un :: .un :: .un :: .un :: .un :: .un :: .un :: .un :: .un :: .un :: .un :: .un :: .un :: .un :: .un :: .un :: .un :: .un :: .un :: .un :: .un :: .un :: .un :: .un :: .un :: .un :: .un :: .un :: .un :: .un :: .un :: .un :: .un :: .un :: .un :: .un :: .un :: .un :: .un :: .un :: .un :: .un :: .un :: .un :: .un :: .un :: .un :: []), fun s1 => [some ⟨41, 10, [[.sl (y2.1.network.legs.map cLeg), .sl (y2.1.network.off.map cInt), vi y2.1.network.change, .sl (y2.1.orders.map cOrder), .sl (y2.1.bookings.map cBooking), .sl (y2.1.closed.map cTrip), vi y2.1.now, .sl (y2.1.scans.map cScan), .sl (y2.1.skip.map cInt), vi y2.1.made]]⟩, some ⟨55, 2, [[vi y2.2.leg, vi y2.2.day]]⟩, some ⟨41, 10, [[.sl (y2.1.network.legs.map cLeg), .sl (y2.1.network.off.map cInt), vi y2.1.network.change, .sl (y2.1.orders.map cOrder), .sl (y2.1.bookings.map cBooking), .sl (y2.1.closed.map cTrip), vi y2.1.now, .sl (y2.1.scans.map cScan), .sl (y2.1.skip.map cInt), vi y2.1.made]]⟩, some ⟨3, 1, y21.map cInt⟩]⟩
def m_laws_FnCarried_b2 (y2 : YWorld × YTrip) (y31 : (List Int)) (s2 : Int × Int) : Option ((Int × Int) ⊕ (Int ⊕ Bool)) :=
 cond (decide (s2.2 < (y31.length : Int)))
 ((getI y31 s2.2).bind fun y32 =>
 (getI y2.1.orders (w64 (y32 - 1))).bind fun y33 =>
 (m_impl_WhoRides y2.1.bookings y2.2).bind fun y34 =>
 (getI y31 s2.2).bind fun y35 =>
 (m_laws_has y34 y35).bind fun y36 =>
 cond (!y36)
 (some (.inr (.inr false)))
 ((m_laws_rides y2.1.closed y2.2).bind fun y37 =>
 cond y37
 ((m_laws_rides y2.1.closed y2.2).bind fun y38 =>
 cond (!y38)
 (some (.inr (.inr false)))
 (some (.inl ((w64 (s2.1 + y33.weight)), (w64 (s2.2 + 1))))))
 (some (.inl ((w64 (s2.1 + y33.weight)), (w64 (s2.2 + 1)))))))
 (some (.inr (.inl s2.1)))
instance (y2 : YWorld × YTrip) (y31 : (List Int)) : LoopE (m_laws_FnCarried_b2 y2 y31) := ⟨fun s2 => (.un :: .un :: .un :: .be 0 0 0 :: .be 1 0 0 :: .be 2 0 0 :: .ms 3 :: vi s2.1 :: vi s2.2 :: .un :: .un :: .un :: .un :: .un :: .un :: .un :: .un :: .un :: .un :: .un :: .un :: .un :: .un :: .un :: .un :: .un :: .un :: .un :: .un :: .un :: .un :: .un :: .un :: .un :: .un :: .un :: .un :: .un :: .un :: .un :: .un :: .un :: .un :: .un :: .un :: .un :: .un :: .un :: .un :: .un :: .un :: .un :: .un :: .un :: .un :: .un :: .un :: .un :: .un :: .un :: .un :: .un :: .un :: .un :: .un :: .un :: .un :: .un :: .un :: .un :: .un :: .un :: .un :: .un :: .un :: .un :: .un :: .un :: .un :: .un :: .un :: .un :: .un :: .un :: .un :: .un :: .un :: .un :: .un :: .un :: .un :: .un :: .un :: .un :: .un :: .un :: .un :: .un :: .un :: .un :: .un :: .un :: .un :: .un :: .un :: .un :: .un :: .un :: .un :: .un :: .un :: .un :: .un :: .un :: .un :: .un :: .un :: .un :: .un :: .un :: []), fun s2 => [some ⟨41, 10, [[.sl (y2.1.network.legs.map cLeg), .sl (y2.1.network.off.map cInt), vi y2.1.network.change, .sl (y2.1.orders.map cOrder), .sl (y2.1.bookings.map cBooking), .sl (y2.1.closed.map cTrip), vi y2.1.now, .sl (y2.1.scans.map cScan), .sl (y2.1.skip.map cInt), vi y2.1.made]]⟩, some ⟨55, 2, [[vi y2.2.leg, vi y2.2.day]]⟩, some ⟨41, 10, [[.sl (y2.1.network.legs.map cLeg), .sl (y2.1.network.off.map cInt), vi y2.1.network.change, .sl (y2.1.orders.map cOrder), .sl (y2.1.bookings.map cBooking), .sl (y2.1.closed.map cTrip), vi y2.1.now, .sl (y2.1.scans.map cScan), .sl (y2.1.skip.map cInt), vi y2.1.made]]⟩, some ⟨3, 1, y31.map cInt⟩]⟩
def m_laws_FnCarried (code : List YB8) : Option Bool :=
 (m_laws_big code).bind fun y1 =>
 cond y1
 (some true)
 ((m_spec_DrawRidingOn code).bind fun y2 =>
 (m_spec_IsWorld y2.1).bind fun y3 =>
 cond (!y3)
 ((m_impl_RidingOn y2.1 y2.2).bind fun y4 =>
 some (decide ((y4.length : Int) = 0)))
 ((m_impl_RidingOn y2.1 y2.2).bind fun y5 =>
 (m_spec_RidingOn y2.1 y2.2).bind fun y6 =>
 cond (!decide ((y5.length : Int) = (y6.length : Int)))
 (some false)
 ((m_spec_IsTrip y2.1.network y2.2).bind fun y7 =>
 cond y7
 ((m_spec_StartsAt y2.1.network y2.2).bind fun y8 =>
 cond (decide (y2.1.now ≤ y8))
 ((m_spec_StartsAt y2.1.network y2.2).bind fun y9 =>
 (m_impl_AdvanceTo y2.1 y9).bind fun y10 =>
 (m_impl_RidingOn y10 y2.2).bind fun y11 =>
 (iterF (m_laws_FnCarried_b0 y2 y10 y11) NN (0, 0)).bind (selim (fun o0 =>
 cond (decide ((y11.length : Int) = 0))
 (some true)
 ((getI y10.network.legs y2.2.leg).bind fun y19 =>
 cond (decide (o0 ≤ y19.room))
 ((m_impl_LoadOf y10.bookings y2.2).bind fun y20 =>
 some (decide (o0 ≤ y20)))
 (some false))) (fun r => some r)))
 ((m_impl_RidingOn y2.1 y2.2).bind fun y21 =>
 (iterF (m_laws_FnCarried_b1 y2 y21) NN (0, 0)).bind (selim (fun o1 =>
 cond (decide ((y21.length : Int) = 0))
 (some true)
 ((getI y2.1.network.legs y2.2.leg).bind fun y29 =>
 cond (decide (o1 ≤ y29.room))
 ((m_impl_LoadOf y2.1.bookings y2.2).bind fun y30 =>
 some (decide (o1 ≤ y30)))
 (some false))) (fun r => some r))))
 ((m_impl_RidingOn y2.1 y2.2).bind fun y31 =>
 (iterF (m_laws_FnCarried_b2 y2 y31) NN (0, 0)).bind (selim (fun o2 =>
 cond (decide ((y31.length : Int) = 0))
 (some true)
 ((getI y2.1.network.legs y2.2.leg).bind fun y39 =>
 cond (decide (o2 ≤ y39.room))
 ((m_impl_LoadOf y2.1.bookings y2.2).bind fun y40 =>
 some (decide (o2 ≤ y40)))
 (some false))) (fun r => some r))))))
theorem ok_laws_FnCarried (code : List YB8) {r : Bool} (H : m_laws_FnCarried code = some r) : CallM Tryz.prog 5 [.sl (code.map cB8)] [] (vb r) [] := by
  replace H := H0 H
  unfold m_laws_FnCarried at H
  refine callM_of Tryz.func5 rfl Tryz.ntmps5 Tryz.results5 fun Q hQ hQn => ?_
  exact wk2
instance (code : List YB8) : CT Tryz.prog (m_laws_FnCarried code) := ⟨5, [.sl (code.map cB8)], [], fun r => vb r, fun r => [], ok_laws_FnCarried code⟩
end Go.Proofs.YtmcdjilbkmhfoaaGreat

/- FnCarried: no trip carries more than its room, and only what has booked it. -/
namespace Go.Proofs.YtmcdjilbkmhfoaaGreat
set_option maxRecDepth 10000
open Go.RowKit
set_option linter.unusedVariables false
set_option linter.unusedSimpArgs false
theorem has_eq : @m_laws_has = @m_spec_l1Has := rfl
theorem rides_eq : @m_laws_rides = @m_impl_hasTrip := rfl
theorem weight_bound {w : YWorld} (h : WOk w) {t : YTrip} {r : List Int} (hr : RidersOk w t r) : ∀ (xs : List Int), (∀ y ∈ xs, y ∈ r) → 0 ≤ (xs.map (weightAt w)).sum ∧ (xs.map (weightAt w)).sum ≤ 30000 * xs.length
  | [], _ => by simp
  | y :: xs, hx => by
    obtain ⟨i, o, h1, h2, _, h4, h5, _⟩ := rider_book h hr (hx y List.mem_cons_self)
    have := weight_bound h hr xs fun z hz => hx z (List.mem_cons_of_mem _ hz)
    have e : weightAt w y = o.weight := by
      unfold weightAt
      have : (y - 1).toNat = i := by omega
      rw [this, h2]; rfl
    rw [List.map_cons, List.sum_cons, List.length_cons, e]
    omega
theorem carried_loop {w0 w : YWorld} {t : YTrip} (h : WOk w) (hc : w.closed = w0.closed) {r : List Int} (hr : RidersOk w t r) : iterF (m_laws_FnCarried_b0 (w0, t) w r) NN (0, 0) = some (.inl (r.map (weightAt w)).sum) := by
  have hp := h.parts
  have hlen := hr.len
  refine iter_st0 (body := m_laws_FnCarried_b0 (w0, t) w r) (fun i : Nat => (((r.take i).map (weightAt w)).sum, (i : Int))) (n := r.length) (o := .inl (r.map (weightAt w)).sum) (fun i hi => ?_) ?_ NN (by unfold NN; omega)
  · have ho : r[i]? = some r[i] := List.getElem?_eq_getElem hi
    have hg : getI r (i : Int) = some r[i] := by rw [getI_nat]; exact ho
    have hwi : w64 ((i : Int) + 1) = ((i + 1 : Nat) : Int) := w64_nat hi (by omega)
    obtain ⟨j, o, h1, h2, h3, h4, h5, h6⟩ := rider_book h hr (List.getElem_mem hi)
    have hj := (List.getElem?_eq_some_iff.1 h2).1
    have hw1 : w64 (r[i] - 1) = (j : Int) := by rw [w64_in (by omega)]; omega
    have hgo : getI w.orders (w64 (r[i] - 1)) = some o := by rw [hw1, getI_nat]; exact h2
    have hwho : ((whoV w.bookings t).any fun y => decide (y = r[i])) = true := List.any_eq_true.2 ⟨r[i], who_mem h3 rfl, by simp⟩
    have hwl : (whoV w.bookings t).length ≤ 1048576 := by
      have : ∀ (xs : List YBooking), (whoV xs t).length ≤ xs.length := fun xs => by
        induction xs with
        | nil => simp [whoV]
        | cons x xs ih => unfold whoV at ih ⊢; rw [List.flatMap_cons, List.length_append, List.length_cons]; split <;> simp only [List.length_cons, List.length_nil] <;> omega
      have := this w.bookings
      omega
    have hb := weight_bound h hr (r.take i) fun y hy => List.mem_of_mem_take hy
    have hlt : (r.take i).length ≤ 30 := by rw [List.length_take]; omega
    have he : weightAt w r[i] = o.weight := by
      unfold weightAt
      have : (r[i] - 1).toNat = j := by omega
      rw [this, h2]; rfl
    have hws : w64 (((r.take i).map (weightAt w)).sum + o.weight) = ((r.take (i + 1)).map (weightAt w)).sum := by
      rw [w64_in (by omega), ← take_snoc' ho, List.map_append, List.sum_append, List.map_cons, List.map_nil, List.sum_cons, List.sum_nil, he]; omega
    have hcl : w.closed.length ≤ 1048576 := h.fit.closed
    unfold m_laws_FnCarried_b0
    simp only [decide_eq_true (show (i : Int) < r.length by omega), cond_true, hg, hgo, who_v h.fit.bookings, has_eq, l1Has_v hwl, hwho, rides_eq, hasTrip_v hcl, Option.bind_some, Bool.not_true, cond_false, hwi, hws, ← hc]
    cases (w.closed.any fun y => decide (y = t)) <;> rfl
  · unfold m_laws_FnCarried_b0
    simp
/-- What the law does behind the choice of the world. -/
theorem carried_end {w0 w : YWorld} {t : YTrip} (h : WOk w) (hc : w.closed = w0.closed) {r : List Int} (hr : RidersOk w t r) :
    (iterF (m_laws_FnCarried_b0 (w0, t) w r) NN (0, 0)).bind (selim (fun o0 => cond (decide ((r.length : Int) = 0)) (some true) ((getI w.network.legs t.leg).bind fun y19 => cond (decide (o0 ≤ y19.room)) ((m_impl_LoadOf w.bookings t).bind fun y20 => some (decide (o0 ≤ y20))) (some false))) (fun r => some r)) = some true := by
  rw [carried_loop h hc hr, Option.bind_some]
  simp only [selim]
  by_cases hz : r.length = 0
  · rw [decide_eq_true (by omega)]; rfl
  rw [decide_eq_false (show ¬ (r.length : Int) = 0 by omega), cond_false]
  obtain ⟨y, hy, hroom⟩ := riders_room h hr hz
  have hs := riders_sum h hr
  have hp := h.parts
  rw [hy, Option.bind_some, decide_eq_true (show (r.map (weightAt w)).sum ≤ y.room by omega), cond_true, loadOf_eq, load_v (by omega) (books_w h) t, Option.bind_some, decide_eq_true hs]
theorem carried (code : List YB8) (hb : ∀ x ∈ code, 0 ≤ x.v ∧ x.v ≤ 255) : m_laws_FnCarried code = some true := by
  unfold m_laws_FnCarried m_laws_big m_spec_DrawRidingOn
  rw [Option.bind_some]
  by_cases hbig : 4096 < (code.length : Int)
  · rw [decide_eq_true hbig]; rfl
  rw [decide_eq_false hbig, cond_false]
  obtain ⟨⟨w, t⟩, e, _, hf⟩ := drawShut_tot (code := code) (by omega) hb
  simp only at hf
  rw [e, Option.bind_some]
  simp only [Option.bind_some]
  rw [spec_world hf, Option.bind_some]
  cases hv : worldV w with
  | false =>
    rw [riding_not hf hv]
    rfl
  | true =>
  have hok : WOk w := ⟨hf, hv⟩
  obtain ⟨r, er, hr⟩ := riding_tot hok t
  have e1 : m_laws_FnCarried_b1 (w, t) r = m_laws_FnCarried_b0 (w, t) w r := rfl
  have e2 : m_laws_FnCarried_b2 (w, t) r = m_laws_FnCarried_b0 (w, t) w r := rfl
  have hend := carried_end (w0 := w) hok rfl hr
  simp only [Bool.not_true, cond_false, riding_both hf, er, Option.bind_some, decide_true, isTrip_s hf.net hok.net, e1, e2, hend]
  cases ht : tripB w.network t with
  | false => rfl
  | true =>
  obtain ⟨t1, t2, t3, t4, t5⟩ := trip_time hf.net hok.net ht
  have hst : m_spec_StartsAt w.network t = some (startV w.network t) := by
    unfold m_spec_StartsAt
    rw [isTrip_s hf.net hok.net, ht, t1]; rfl
  simp only [cond_true, hst, Option.bind_some]
  by_cases hn : w.now ≤ startV w.network t
  · rw [decide_eq_true hn, cond_true, advance_i hf, if_pos ⟨hv, hn, by omega⟩, Option.bind_some]
    obtain ⟨a1, a2, _⟩ := adv_ok hok hn (show startV w.network t ≤ 100000 by omega)
    obtain ⟨r', er', hr'⟩ := riding_tot a1 t
    rw [er', Option.bind_some]
    exact carried_end a1 a2.closed hr'
  · rw [decide_eq_false hn]; rfl
end Go.Proofs.YtmcdjilbkmhfoaaGreat
