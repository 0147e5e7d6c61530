/- A part of the proof of the statement in the last file of this claim: texts on the language of the program and on its functions. No condition. -/
import Derived.Test.YtmcdjilbkmhfoaaGreatCFnTimeHalves5
import Derived.Test.YtmcdjilbkmhfoaaGreatCFnTimeHalves6
import Derived.Test.YtmcdjilbkmhfoaaGreatCFnTimeHalves9
import Derived.Test.YtmcdjilbkmhfoaaGreatCFnTimeHalves7
import Derived.Test.YtmcdjilbkmhfoaaGreatCFnTimeHalves8
/- The mirror of p0_spec_l10Act, and that the code does just that (printed by a program of my own). -/
namespace Go.Proofs.YtmcdjilbkmhfoaaGreat
set_option maxRecDepth 10000
open Go.RowKit
set_option linter.unusedVariables false
set_option maxHeartbeats 16000000
def m_p0_spec_l10Act (c : Yl1Cur) (w : YWorld) : Option (YWorld × Yl1Cur) :=
 (rhoM [0]).bind fun _ =>
 (m_p0_spec_l1Below c 6).bind fun y1 =>
 cond (decide (y1.1 = 0))
 (cond (decide (y1.1 = 0))
 ((drwL 8 [4, 8, 10, 13]).bind fun _ =>
 (rhoM [0]).bind fun _ =>
 (m_p0_spec_l4Of y1.2 w.network).bind fun y2 =>
 (rhoM [0]).bind fun _ =>
 (m_p0_spec_l4Of y2.2 w.network).bind fun y3 =>
 (rhoM [0]).bind fun _ =>
 (m_p0_spec_l1Below y3.2 3).bind fun y4 =>
 (rhoM [0]).bind fun _ =>
 (m_p0_spec_l1Below y4.2 4000).bind fun y5 =>
 (m_o_spec_AcceptOrder w y2.1 y3.1 (w64 (1 + y4.1)) (w64 (500 + y5.1))).bind fun y6 =>
 some (y6.1, y5.2))
 (cond (decide (y1.1 = 3))
 ((drwL 8 [3]).bind fun _ =>
 (rhoM [0]).bind fun _ =>
 (m_p0_spec_l10Trip y1.2 w).bind fun y7 =>
 (m_o_spec_ShutTrip w y7.1).bind fun y8 =>
 some (y8.1, y7.2))
 (cond (decide (y1.1 = 4))
 ((m_o_spec_RetryOrders w).bind fun y9 =>
 some (y9.1, y1.2))
 ((drwL 8 [4]).bind fun _ =>
 (rhoM [0]).bind fun _ =>
 (m_p0_spec_l1Below y1.2 40).bind fun y10 =>
 (m_o_spec_AdvanceTo w (w64 (w.now + (w64 (30 * y10.1))))).bind fun y11 =>
 some (y11, y10.2)))))
 (cond (decide (y1.1 = 1))
 (cond (decide (y1.1 = 1))
 ((drwL 8 [4, 8, 10, 13]).bind fun _ =>
 (rhoM [0]).bind fun _ =>
 (m_p0_spec_l4Of y1.2 w.network).bind fun y12 =>
 (rhoM [0]).bind fun _ =>
 (m_p0_spec_l4Of y12.2 w.network).bind fun y13 =>
 (rhoM [0]).bind fun _ =>
 (m_p0_spec_l1Below y13.2 3).bind fun y14 =>
 (rhoM [0]).bind fun _ =>
 (m_p0_spec_l1Below y14.2 4000).bind fun y15 =>
 (m_o_spec_AcceptOrder w y12.1 y13.1 (w64 (1 + y14.1)) (w64 (500 + y15.1))).bind fun y16 =>
 some (y16.1, y15.2))
 (cond (decide (y1.1 = 3))
 ((drwL 8 [3]).bind fun _ =>
 (rhoM [0]).bind fun _ =>
 (m_p0_spec_l10Trip y1.2 w).bind fun y17 =>
 (m_o_spec_ShutTrip w y17.1).bind fun y18 =>
 some (y18.1, y17.2))
 (cond (decide (y1.1 = 4))
 ((m_o_spec_RetryOrders w).bind fun y19 =>
 some (y19.1, y1.2))
 ((drwL 8 [4]).bind fun _ =>
 (rhoM [0]).bind fun _ =>
 (m_p0_spec_l1Below y1.2 40).bind fun y20 =>
 (m_o_spec_AdvanceTo w (w64 (w.now + (w64 (30 * y20.1))))).bind fun y21 =>
 some (y21, y20.2)))))
 (cond (decide (y1.1 = 2))
 ((drwL 8 [4, 8, 10, 13]).bind fun _ =>
 (rhoM [0]).bind fun _ =>
 (m_p0_spec_l4Of y1.2 w.network).bind fun y22 =>
 (rhoM [0]).bind fun _ =>
 (m_p0_spec_l4Of y22.2 w.network).bind fun y23 =>
 (rhoM [0]).bind fun _ =>
 (m_p0_spec_l1Below y23.2 3).bind fun y24 =>
 (rhoM [0]).bind fun _ =>
 (m_p0_spec_l1Below y24.2 4000).bind fun y25 =>
 (m_o_spec_AcceptOrder w y22.1 y23.1 (w64 (1 + y24.1)) (w64 (500 + y25.1))).bind fun y26 =>
 some (y26.1, y25.2))
 (cond (decide (y1.1 = 3))
 ((drwL 8 [3]).bind fun _ =>
 (rhoM [0]).bind fun _ =>
 (m_p0_spec_l10Trip y1.2 w).bind fun y27 =>
 (m_o_spec_ShutTrip w y27.1).bind fun y28 =>
 some (y28.1, y27.2))
 (cond (decide (y1.1 = 4))
 ((m_o_spec_RetryOrders w).bind fun y29 =>
 some (y29.1, y1.2))
 ((drwL 8 [4]).bind fun _ =>
 (rhoM [0]).bind fun _ =>
 (m_p0_spec_l1Below y1.2 40).bind fun y30 =>
 (m_o_spec_AdvanceTo w (w64 (w.now + (w64 (30 * y30.1))))).bind fun y31 =>
 some (y31, y30.2))))))
theorem ok_p0_spec_l10Act (c : Yl1Cur) (w : YWorld) {r : YWorld × Yl1Cur} (H : m_p0_spec_l10Act c w = some r) : CallM Tryz.prog 231 [.be 0 0 0, .ag (cWorld w)] [some ⟨187, 3, [[.sl (c.b.map cB8), vi c.i, vi c.h]]⟩] (.ag [.ms 1, .ms 2, vi r.1.network.change, .ms 3, .ms 4, .ms 5, vi r.1.now, .ms 6, .ms 7, vi r.1.made]) [some ⟨187, 3, [[.sl (r.2.b.map cB8), vi r.2.i, vi r.2.h]]⟩, some ⟨67, 6, r.1.network.legs.map cLeg⟩, some ⟨3, 1, r.1.network.off.map cInt⟩, some ⟨62, 11, r.1.orders.map cOrder⟩, some ⟨135, 4, r.1.bookings.map cBooking⟩, some ⟨55, 2, r.1.closed.map cTrip⟩, some ⟨130, 6, r.1.scans.map cScan⟩, some ⟨3, 1, r.1.skip.map cInt⟩] := by
  replace H := H0 H
  unfold m_p0_spec_l10Act at H
  refine callM_of Tryz.func231 rfl Tryz.ntmps231 Tryz.results231 fun Q hQ hQn => ?_
  exact wk2
instance (c : Yl1Cur) (w : YWorld) : CT Tryz.prog (m_p0_spec_l10Act c w) := ⟨231, [.be 0 0 0, .ag (cWorld w)], [some ⟨187, 3, [[.sl (c.b.map cB8), vi c.i, vi c.h]]⟩], fun r => .ag [.ms 1, .ms 2, vi r.1.network.change, .ms 3, .ms 4, .ms 5, vi r.1.now, .ms 6, .ms 7, vi r.1.made], fun r => [some ⟨187, 3, [[.sl (r.2.b.map cB8), vi r.2.i, vi r.2.h]]⟩, some ⟨67, 6, r.1.network.legs.map cLeg⟩, some ⟨3, 1, r.1.network.off.map cInt⟩, some ⟨62, 11, r.1.orders.map cOrder⟩, some ⟨135, 4, r.1.bookings.map cBooking⟩, some ⟨55, 2, r.1.closed.map cTrip⟩, some ⟨130, 6, r.1.scans.map cScan⟩, some ⟨3, 1, r.1.skip.map cInt⟩], ok_p0_spec_l10Act c w⟩
end Go.Proofs.YtmcdjilbkmhfoaaGreat

/- The mirror of o_spec_NewWorld, and that the code does just that (printed by a program of my own). -/
namespace Go.Proofs.YtmcdjilbkmhfoaaGreat
set_option maxRecDepth 10000
open Go.RowKit
set_option linter.unusedVariables false
set_option maxHeartbeats 16000000
def m_o_spec_NewWorld (n : YNetwork) (skip : List Int) : Option (YWorld × Bool) :=
 (m_o_spec_l10Copy (⟨n, [], [], [], 0, [], skip, 0⟩ : YWorld)).bind fun y1 =>
 (m_spec_IsWorld y1).bind fun y2 =>
 cond (!y2)
 (some ((⟨(⟨[], [], 0⟩ : YNetwork), [], [], [], 0, [], [], 0⟩ : YWorld), false))
 (some (y1, true))
theorem ok_o_spec_NewWorld (n : YNetwork) (skip : List Int) {r : YWorld × Bool} (H : m_o_spec_NewWorld n skip = some r) : CallM Tryz.prog 57 [.ag (cNetwork n), .sl (skip.map cInt)] [] (.tu [.ag [.ms 0, .ms 1, vi r.1.network.change, .ms 2, .ms 3, .ms 4, vi r.1.now, .ms 5, .ms 6, vi r.1.made], vb r.2]) [some ⟨67, 6, r.1.network.legs.map cLeg⟩, some ⟨3, 1, r.1.network.off.map cInt⟩, some ⟨62, 11, r.1.orders.map cOrder⟩, some ⟨135, 4, r.1.bookings.map cBooking⟩, some ⟨55, 2, r.1.closed.map cTrip⟩, some ⟨130, 6, r.1.scans.map cScan⟩, some ⟨3, 1, r.1.skip.map cInt⟩] := by
  replace H := H0 H
  unfold m_o_spec_NewWorld at H
  refine callM_of Tryz.func57 rfl Tryz.ntmps57 Tryz.results57 fun Q hQ hQn => ?_
  exact wk2
instance (n : YNetwork) (skip : List Int) : CT Tryz.prog (m_o_spec_NewWorld n skip) := ⟨57, [.ag (cNetwork n), .sl (skip.map cInt)], [], fun r => .tu [.ag [.ms 0, .ms 1, vi r.1.network.change, .ms 2, .ms 3, .ms 4, vi r.1.now, .ms 5, .ms 6, vi r.1.made], vb r.2], fun r => [some ⟨67, 6, r.1.network.legs.map cLeg⟩, some ⟨3, 1, r.1.network.off.map cInt⟩, some ⟨62, 11, r.1.orders.map cOrder⟩, some ⟨135, 4, r.1.bookings.map cBooking⟩, some ⟨55, 2, r.1.closed.map cTrip⟩, some ⟨130, 6, r.1.scans.map cScan⟩, some ⟨3, 1, r.1.skip.map cInt⟩], ok_o_spec_NewWorld n skip⟩
end Go.Proofs.YtmcdjilbkmhfoaaGreat

/- The mirror of p0_spec_l10Draw, and that the code does just that (printed by a program of my own). -/
namespace Go.Proofs.YtmcdjilbkmhfoaaGreat
set_option maxRecDepth 10000
open Go.RowKit
set_option linter.unusedVariables false
set_option maxHeartbeats 16000000
def m_p0_spec_l10Draw_b0 (most : Int) (y1 : YNetwork × Yl1Cur) (s0 : Int × (List YB8) × Int × Int × (List YLeg)) : Option ((Int × (List YB8) × Int × Int × (List YLeg)) ⊕ ((List YB8) × Int × Int × (List YLeg))) :=
 cond (decide (s0.1 < (s0.2.2.2.2.length : Int)))
 ((rhoM [0]).bind fun _ =>
 (m_p0_spec_l1Once (⟨s0.2.1, s0.2.2.1, s0.2.2.2.1⟩ : Yl1Cur) 2).bind fun y2 =>
 cond y2.1
 ((drwL 8 [4]).bind fun _ =>
 (rhoM [0]).bind fun _ =>
 (m_p0_spec_l1Below y2.2 9).bind fun y3 =>
 (getI s0.2.2.2.2 s0.1).bind fun y4 =>
 some (.inl ((w64 (s0.1 + 1)), y3.2.b, y3.2.i, y3.2.h, (s0.2.2.2.2.set (Int.toNat s0.1) (⟨y4.from_, y4.to_, y4.start, y4.takes, y4.days, (w64 (2000 + (w64 (1000 * y3.1))))⟩ : YLeg)))))
 (some (.inl ((w64 (s0.1 + 1)), y2.2.b, y2.2.i, y2.2.h, s0.2.2.2.2))))
 (some (.inr (s0.2.1, s0.2.2.1, s0.2.2.2.1, s0.2.2.2.2)))
instance (most : Int) (y1 : YNetwork × Yl1Cur) : LoopE (m_p0_spec_l10Draw_b0 most y1) := ⟨fun s0 => (.be 0 0 0 :: vi most :: .un :: .un :: .be 1 0 0 :: .be 2 0 0 :: vi s0.1 :: .un :: .un :: .un :: .un :: .un :: .un :: .un :: .un :: .un :: .un :: .un :: .un :: .un :: .un :: .un :: .un :: .un :: .un :: .un :: .un :: .un :: .un :: .un :: .un :: .un :: .un :: .un :: .un :: .un :: .un :: .un :: .un :: .un :: .un :: .un :: .un :: .un :: .un :: .un :: .un :: .un :: .un :: .un :: .un :: .un :: .un :: .un :: .un :: .un :: .un :: .un :: .un :: .un :: .un :: .un :: []), fun s0 => [some ⟨187, 3, [[.sl (s0.2.1.map cB8), vi s0.2.2.1, vi s0.2.2.2.1]]⟩, some ⟨41, 10, [[.v (.slice none 0 0), .v (.slice none 0 0), vi 0, .v (.slice none 0 0), .v (.slice none 0 0), .v (.slice none 0 0), vi 0, .v (.slice none 0 0), .v (.slice none 0 0), vi 0]]⟩, some ⟨35, 3, [[.ms 3, .ms 4, vi y1.1.change]]⟩, some ⟨67, 6, s0.2.2.2.2.map cLeg⟩, some ⟨3, 1, y1.1.off.map cInt⟩]⟩
def m_p0_spec_l10Draw_b1 (most : Int) (y1 : YNetwork × Yl1Cur) (o0 : (List YB8) × Int × Int × (List YLeg)) (s1 : Int × (List YB8) × Int × Int × (List Int)) : Option ((Int × (List YB8) × Int × Int × (List Int)) ⊕ ((List YB8) × Int × Int × (List Int))) :=
 cond (decide (0 < s1.1))
 ((rhoM [0]).bind fun _ =>
 (m_p0_spec_l1Below (⟨s1.2.1, s1.2.2.1, s1.2.2.2.1⟩ : Yl1Cur) 25).bind fun y6 =>
 (chk (appOk ((s1.2.2.2.2 : List Int).length + ([(w64 (1 + y6.1))] : List Int).length) 8)).bind fun _ =>
 some (.inl ((w64 (s1.1 - 1)), y6.2.b, y6.2.i, y6.2.h, ((s1.2.2.2.2 : List Int) ++ [(w64 (1 + y6.1))]))))
 (some (.inr (s1.2.1, s1.2.2.1, s1.2.2.2.1, s1.2.2.2.2)))
instance (most : Int) (y1 : YNetwork × Yl1Cur) (o0 : (List YB8) × Int × Int × (List YLeg)) : LoopE (m_p0_spec_l10Draw_b1 most y1 o0) := ⟨fun s1 => (.be 0 0 0 :: vi most :: .un :: .un :: .be 1 0 0 :: .be 2 0 0 :: .un :: .ms 5 :: vi s1.1 :: .un :: .un :: .un :: .un :: .un :: .un :: .un :: .un :: .un :: .un :: .un :: .un :: .un :: .un :: .un :: .un :: .un :: .un :: .un :: .un :: .un :: .un :: .un :: .un :: .un :: .un :: .un :: .un :: .un :: .un :: .un :: .un :: .un :: .un :: .un :: .un :: .un :: .un :: .un :: .un :: .un :: .un :: .un :: .un :: .un :: .un :: .un :: .un :: .un :: .un :: .un :: .un :: .un :: []), fun s1 => [some ⟨187, 3, [[.sl (s1.2.1.map cB8), vi s1.2.2.1, vi s1.2.2.2.1]]⟩, some ⟨41, 10, [[.v (.slice none 0 0), .v (.slice none 0 0), vi 0, .v (.slice none 0 0), .v (.slice none 0 0), .v (.slice none 0 0), vi 0, .v (.slice none 0 0), .v (.slice none 0 0), vi 0]]⟩, some ⟨35, 3, [[.ms 3, .ms 4, vi y1.1.change]]⟩, some ⟨67, 6, o0.2.2.2.map cLeg⟩, some ⟨3, 1, y1.1.off.map cInt⟩, some ⟨3, 1, s1.2.2.2.2.map cInt⟩]⟩
def m_p0_spec_l10Draw_b2 (s2 : Int × (List YB8) × Int × Int × Int × Int × Int × (List YLeg) × (List Int) × (List YOrder) × (List YBooking) × (List YTrip) × (List YScan) × (List Int)) : Option ((Int × (List YB8) × Int × Int × Int × Int × Int × (List YLeg) × (List Int) × (List YOrder) × (List YBooking) × (List YTrip) × (List YScan) × (List Int)) ⊕ ((List YB8) × Int × Int × Int × Int × Int × (List YLeg) × (List Int) × (List YOrder) × (List YBooking) × (List YTrip) × (List YScan) × (List Int))) :=
 cond (decide (0 < s2.1))
 ((frz (.be 0 0 0 :: .un :: .un :: .un :: .be 1 0 0 :: .un :: .un :: .un :: .un :: .be 2 0 0 :: .un :: vi s2.1 :: .un :: .un :: .un :: .un :: .un :: .un :: .un :: .un :: .un :: .un :: .un :: .un :: .un :: .un :: .un :: .un :: .un :: .un :: .un :: .un :: .un :: .un :: .un :: .un :: .un :: .un :: .un :: .un :: .un :: .un :: .un :: .un :: .un :: .un :: .un :: .un :: .un :: .un :: .un :: .un :: .un :: .un :: .un :: .un :: .un :: .un :: .un :: .un :: .un :: .un :: []) [some ⟨187, 3, [[.sl (s2.2.1.map cB8), vi s2.2.2.1, vi s2.2.2.2.1]]⟩, some ⟨41, 10, [[.v (.slice none 0 0), .v (.slice none 0 0), vi 0, .v (.slice none 0 0), .v (.slice none 0 0), .v (.slice none 0 0), vi 0, .v (.slice none 0 0), .v (.slice none 0 0), vi 0]]⟩, some ⟨41, 10, [[.sl (s2.2.2.2.2.2.2.2.1.map cLeg), .sl (s2.2.2.2.2.2.2.2.2.1.map cInt), vi s2.2.2.2.2.1, .sl (s2.2.2.2.2.2.2.2.2.2.1.map cOrder), .sl (s2.2.2.2.2.2.2.2.2.2.2.1.map cBooking), .sl (s2.2.2.2.2.2.2.2.2.2.2.2.1.map cTrip), vi s2.2.2.2.2.2.1, .sl (s2.2.2.2.2.2.2.2.2.2.2.2.2.1.map cScan), .sl (s2.2.2.2.2.2.2.2.2.2.2.2.2.2.map cInt), vi s2.2.2.2.2.2.2.1]]⟩]).bind fun _ =>
 (rhoM [0]).bind fun _ =>
 (m_p0_spec_l10Act (⟨s2.2.1, s2.2.2.1, s2.2.2.2.1⟩ : Yl1Cur) (⟨(⟨s2.2.2.2.2.2.2.2.1, s2.2.2.2.2.2.2.2.2.1, s2.2.2.2.2.1⟩ : YNetwork), s2.2.2.2.2.2.2.2.2.2.1, s2.2.2.2.2.2.2.2.2.2.2.1, s2.2.2.2.2.2.2.2.2.2.2.2.1, s2.2.2.2.2.2.1, s2.2.2.2.2.2.2.2.2.2.2.2.2.1, s2.2.2.2.2.2.2.2.2.2.2.2.2.2, s2.2.2.2.2.2.2.1⟩ : YWorld)).bind fun y9 =>
 some (.inl ((w64 (s2.1 - 1)), y9.2.b, y9.2.i, y9.2.h, y9.1.network.change, y9.1.now, y9.1.made, y9.1.network.legs, y9.1.network.off, y9.1.orders, y9.1.bookings, y9.1.closed, y9.1.scans, y9.1.skip)))
 (some (.inr (s2.2.1, s2.2.2.1, s2.2.2.2.1, s2.2.2.2.2.1, s2.2.2.2.2.2.1, s2.2.2.2.2.2.2.1, s2.2.2.2.2.2.2.2.1, s2.2.2.2.2.2.2.2.2.1, s2.2.2.2.2.2.2.2.2.2.1, s2.2.2.2.2.2.2.2.2.2.2.1, s2.2.2.2.2.2.2.2.2.2.2.2.1, s2.2.2.2.2.2.2.2.2.2.2.2.2.1, s2.2.2.2.2.2.2.2.2.2.2.2.2.2)))
instance : LoopE (m_p0_spec_l10Draw_b2) := ⟨fun s2 => (.be 0 0 0 :: .un :: .un :: .un :: .be 1 0 0 :: .un :: .un :: .un :: .un :: .be 2 0 0 :: .un :: vi s2.1 :: .un :: .un :: .un :: .un :: .un :: .un :: .un :: .un :: .un :: .un :: .un :: .un :: .un :: .un :: .un :: .un :: .un :: .un :: .un :: .un :: .un :: .un :: .un :: .un :: .un :: .un :: .un :: .un :: .un :: .un :: .un :: .un :: .un :: .un :: .un :: .un :: .un :: .un :: .un :: .un :: .un :: .un :: .un :: .un :: .un :: .un :: .un :: .un :: .un :: .un :: []), fun s2 => [some ⟨187, 3, [[.sl (s2.2.1.map cB8), vi s2.2.2.1, vi s2.2.2.2.1]]⟩, some ⟨41, 10, [[.v (.slice none 0 0), .v (.slice none 0 0), vi 0, .v (.slice none 0 0), .v (.slice none 0 0), .v (.slice none 0 0), vi 0, .v (.slice none 0 0), .v (.slice none 0 0), vi 0]]⟩, some ⟨41, 10, [[.ms 3, .ms 4, vi s2.2.2.2.2.1, .ms 5, .ms 6, .ms 7, vi s2.2.2.2.2.2.1, .ms 8, .ms 9, vi s2.2.2.2.2.2.2.1]]⟩, some ⟨67, 6, s2.2.2.2.2.2.2.2.1.map cLeg⟩, some ⟨3, 1, s2.2.2.2.2.2.2.2.2.1.map cInt⟩, some ⟨62, 11, s2.2.2.2.2.2.2.2.2.2.1.map cOrder⟩, some ⟨135, 4, s2.2.2.2.2.2.2.2.2.2.2.1.map cBooking⟩, some ⟨55, 2, s2.2.2.2.2.2.2.2.2.2.2.2.1.map cTrip⟩, some ⟨130, 6, s2.2.2.2.2.2.2.2.2.2.2.2.2.1.map cScan⟩, some ⟨3, 1, s2.2.2.2.2.2.2.2.2.2.2.2.2.2.map cInt⟩]⟩
def m_p0_spec_l10Draw (c : Yl1Cur) (most : Int) : Option (YWorld × Yl1Cur) :=
 (rhoM [0]).bind fun _ =>
 (m_p0_spec_l3Draw c 7).bind fun y1 =>
 (iterF (m_p0_spec_l10Draw_b0 most y1) NN (0, y1.2.b, y1.2.i, y1.2.h, y1.1.legs)).bind (fun o0 =>
 (rhoM [0]).bind fun _ =>
 (m_p0_spec_l1Below (⟨o0.1, o0.2.1, o0.2.2.1⟩ : Yl1Cur) 6).bind fun y5 =>
 (iterF (m_p0_spec_l10Draw_b1 most y1 o0) NN (y5.1, y5.2.b, y5.2.i, y5.2.h, ([] : List Int))).bind (fun o1 =>
 (frz (.be 0 0 0 :: vi most :: .un :: .un :: .be 1 0 0 :: .be 2 0 0 :: .un :: .sl (o1.2.2.2.map cInt) :: .un :: .un :: .un :: .un :: .un :: .un :: .un :: .un :: .un :: .un :: .un :: .un :: .un :: .un :: .un :: .un :: .un :: .un :: .un :: .un :: .un :: .un :: .un :: .un :: .un :: .un :: .un :: .un :: .un :: .un :: .un :: .un :: .un :: .un :: .un :: .un :: .un :: .un :: .un :: .un :: .un :: .un :: .un :: .un :: .un :: .un :: .un :: .un :: .un :: .un :: .un :: .un :: .un :: .un :: []) [some ⟨187, 3, [[.sl (o1.1.map cB8), vi o1.2.1, vi o1.2.2.1]]⟩, some ⟨41, 10, [[.v (.slice none 0 0), .v (.slice none 0 0), vi 0, .v (.slice none 0 0), .v (.slice none 0 0), .v (.slice none 0 0), vi 0, .v (.slice none 0 0), .v (.slice none 0 0), vi 0]]⟩, some ⟨35, 3, [[.sl (o0.2.2.2.map cLeg), .sl (y1.1.off.map cInt), vi y1.1.change]]⟩]).bind fun _ =>
 (m_o_spec_NewWorld (⟨o0.2.2.2, y1.1.off, y1.1.change⟩ : YNetwork) o1.2.2.2).bind fun y7 =>
 (rhoM [0]).bind fun _ =>
 (m_p0_spec_l1Below (⟨o1.1, o1.2.1, o1.2.2.1⟩ : Yl1Cur) most).bind fun y8 =>
 (iterF (m_p0_spec_l10Draw_b2) NN (y8.1, y8.2.b, y8.2.i, y8.2.h, y7.1.network.change, y7.1.now, y7.1.made, y7.1.network.legs, y7.1.network.off, y7.1.orders, y7.1.bookings, y7.1.closed, y7.1.scans, y7.1.skip)).bind (fun o2 =>
 some ((⟨(⟨o2.2.2.2.2.2.2.1, o2.2.2.2.2.2.2.2.1, o2.2.2.2.1⟩ : YNetwork), o2.2.2.2.2.2.2.2.2.1, o2.2.2.2.2.2.2.2.2.2.1, o2.2.2.2.2.2.2.2.2.2.2.1, o2.2.2.2.2.1, o2.2.2.2.2.2.2.2.2.2.2.2.1, o2.2.2.2.2.2.2.2.2.2.2.2.2, o2.2.2.2.2.2.1⟩ : YWorld), (⟨o2.1, o2.2.1, o2.2.2.1⟩ : Yl1Cur)))))
theorem ok_p0_spec_l10Draw (c : Yl1Cur) (most : Int) {r : YWorld × Yl1Cur} (H : m_p0_spec_l10Draw c most = some r) : CallM Tryz.prog 178 [.be 0 0 0, vi most] [some ⟨187, 3, [[.sl (c.b.map cB8), vi c.i, vi c.h]]⟩] (.ag [.ms 1, .ms 2, vi r.1.network.change, .ms 3, .ms 4, .ms 5, vi r.1.now, .ms 6, .ms 7, vi r.1.made]) [some ⟨187, 3, [[.sl (r.2.b.map cB8), vi r.2.i, vi r.2.h]]⟩, some ⟨67, 6, r.1.network.legs.map cLeg⟩, some ⟨3, 1, r.1.network.off.map cInt⟩, some ⟨62, 11, r.1.orders.map cOrder⟩, some ⟨135, 4, r.1.bookings.map cBooking⟩, some ⟨55, 2, r.1.closed.map cTrip⟩, some ⟨130, 6, r.1.scans.map cScan⟩, some ⟨3, 1, r.1.skip.map cInt⟩] := by
  replace H := H0 H
  unfold m_p0_spec_l10Draw at H
  refine callM_of Tryz.func178 rfl Tryz.ntmps178 Tryz.results178 fun Q hQ hQn => ?_
  exact wk2
instance (c : Yl1Cur) (most : Int) : CT Tryz.prog (m_p0_spec_l10Draw c most) := ⟨178, [.be 0 0 0, vi most], [some ⟨187, 3, [[.sl (c.b.map cB8), vi c.i, vi c.h]]⟩], fun r => .ag [.ms 1, .ms 2, vi r.1.network.change, .ms 3, .ms 4, .ms 5, vi r.1.now, .ms 6, .ms 7, vi r.1.made], fun r => [some ⟨187, 3, [[.sl (r.2.b.map cB8), vi r.2.i, vi r.2.h]]⟩, some ⟨67, 6, r.1.network.legs.map cLeg⟩, some ⟨3, 1, r.1.network.off.map cInt⟩, some ⟨62, 11, r.1.orders.map cOrder⟩, some ⟨135, 4, r.1.bookings.map cBooking⟩, some ⟨55, 2, r.1.closed.map cTrip⟩, some ⟨130, 6, r.1.scans.map cScan⟩, some ⟨3, 1, r.1.skip.map cInt⟩], ok_p0_spec_l10Draw c most⟩
end Go.Proofs.YtmcdjilbkmhfoaaGreat

/- The mirror of p1_spec_l3Trip, and that the code does just that (printed by a program of my own). -/
namespace Go.Proofs.YtmcdjilbkmhfoaaGreat
set_option maxRecDepth 10000
open Go.RowKit
set_option linter.unusedVariables false
set_option maxHeartbeats 16000000
def m_p1_spec_l3Trip (c : Yl1Cur) (n : YNetwork) : Option (YTrip × Yl1Cur × YNetwork) :=
 (rhoM [0]).bind fun _ =>
 (m_p0_spec_l1Below c (n.legs.length : Int)).bind fun y1 =>
 (rhoM [0]).bind fun _ =>
 (m_p0_spec_l1Below y1.2 10).bind fun y2 =>
 (m_spec_l3Next n y1.1 (w64 (y2.1 * 1440))).bind fun y3 =>
 cond (decide (0 ≤ y3))
 ((rhoM [0]).bind fun _ =>
 (m_p0_spec_l1Once y2.2 4).bind fun y4 =>
 cond (!y4.1)
 (some ((⟨y1.1, y3⟩ : YTrip), y4.2, n))
 (some ((⟨y1.1, y2.1⟩ : YTrip), y4.2, n)))
 (some ((⟨y1.1, y2.1⟩ : YTrip), y2.2, n))
theorem ok_p1_spec_l3Trip (c : Yl1Cur) (n : YNetwork) {r : YTrip × Yl1Cur × YNetwork} (H : m_p1_spec_l3Trip c n = some r) : CallM Tryz.prog 211 [.be 0 0 0, .ag [.ms 1, .ms 2, vi n.change]] [some ⟨187, 3, [[.sl (c.b.map cB8), vi c.i, vi c.h]]⟩, some ⟨67, 6, n.legs.map cLeg⟩, some ⟨3, 1, n.off.map cInt⟩] (.ag [vi r.1.leg, vi r.1.day]) [some ⟨187, 3, [[.sl (r.2.1.b.map cB8), vi r.2.1.i, vi r.2.1.h]]⟩, some ⟨67, 6, r.2.2.legs.map cLeg⟩, some ⟨3, 1, r.2.2.off.map cInt⟩] := by
  replace H := H0 H
  unfold m_p1_spec_l3Trip at H
  refine callM_of Tryz.func211 rfl Tryz.ntmps211 Tryz.results211 fun Q hQ hQn => ?_
  exact wk2
instance (c : Yl1Cur) (n : YNetwork) : CT Tryz.prog (m_p1_spec_l3Trip c n) := ⟨211, [.be 0 0 0, .ag [.ms 1, .ms 2, vi n.change]], [some ⟨187, 3, [[.sl (c.b.map cB8), vi c.i, vi c.h]]⟩, some ⟨67, 6, n.legs.map cLeg⟩, some ⟨3, 1, n.off.map cInt⟩], fun r => .ag [vi r.1.leg, vi r.1.day], fun r => [some ⟨187, 3, [[.sl (r.2.1.b.map cB8), vi r.2.1.i, vi r.2.1.h]]⟩, some ⟨67, 6, r.2.2.legs.map cLeg⟩, some ⟨3, 1, r.2.2.off.map cInt⟩], ok_p1_spec_l3Trip c n⟩
end Go.Proofs.YtmcdjilbkmhfoaaGreat

/- The mirror of p1_spec_l10Trip, and that the code does just that (printed by a program of my own). -/
namespace Go.Proofs.YtmcdjilbkmhfoaaGreat
set_option maxRecDepth 10000
open Go.RowKit
set_option linter.unusedVariables false
set_option maxHeartbeats 16000000
def m_p1_spec_l10Trip (c : Yl1Cur) (w : YWorld) : Option (YTrip × Yl1Cur × YWorld) :=
 cond (decide (0 < (w.bookings.length : Int)))
 ((rhoM [0]).bind fun _ =>
 (m_p0_spec_l1Once c 4).bind fun y1 =>
 cond (!y1.1)
 ((drwL 8 [6]).bind fun _ =>
 (rhoM [0]).bind fun _ =>
 (m_p0_spec_l1Below y1.2 (w.bookings.length : Int)).bind fun y2 =>
 (getI w.bookings y2.1).bind fun y3 =>
 some (y3.trip, y2.2, w))
 ((rhoM [0, 1, 2]).bind fun _ =>
 (m_p1_spec_l3Trip y1.2 w.network).bind fun y4 =>
 some (y4.1, y4.2.1, (⟨(⟨y4.2.2.legs, y4.2.2.off, w.network.change⟩ : YNetwork), w.orders, w.bookings, w.closed, w.now, w.scans, w.skip, w.made⟩ : YWorld))))
 ((rhoM [0, 1, 2]).bind fun _ =>
 (m_p1_spec_l3Trip c w.network).bind fun y5 =>
 some (y5.1, y5.2.1, (⟨(⟨y5.2.2.legs, y5.2.2.off, w.network.change⟩ : YNetwork), w.orders, w.bookings, w.closed, w.now, w.scans, w.skip, w.made⟩ : YWorld)))
theorem ok_p1_spec_l10Trip (c : Yl1Cur) (w : YWorld) {r : YTrip × Yl1Cur × YWorld} (H : m_p1_spec_l10Trip c w = some r) : CallM Tryz.prog 147 [.be 0 0 0, .ag [.ms 1, .ms 2, vi w.network.change, .ms 3, .ms 4, .ms 5, vi w.now, .ms 6, .ms 7, vi w.made]] [some ⟨187, 3, [[.sl (c.b.map cB8), vi c.i, vi c.h]]⟩, some ⟨67, 6, w.network.legs.map cLeg⟩, some ⟨3, 1, w.network.off.map cInt⟩, some ⟨62, 11, w.orders.map cOrder⟩, some ⟨135, 4, w.bookings.map cBooking⟩, some ⟨55, 2, w.closed.map cTrip⟩, some ⟨130, 6, w.scans.map cScan⟩, some ⟨3, 1, w.skip.map cInt⟩] (.ag [vi r.1.leg, vi r.1.day]) [some ⟨187, 3, [[.sl (r.2.1.b.map cB8), vi r.2.1.i, vi r.2.1.h]]⟩, some ⟨67, 6, r.2.2.network.legs.map cLeg⟩, some ⟨3, 1, r.2.2.network.off.map cInt⟩, some ⟨62, 11, r.2.2.orders.map cOrder⟩, some ⟨135, 4, r.2.2.bookings.map cBooking⟩, some ⟨55, 2, r.2.2.closed.map cTrip⟩, some ⟨130, 6, r.2.2.scans.map cScan⟩, some ⟨3, 1, r.2.2.skip.map cInt⟩] := by
  replace H := H0 H
  unfold m_p1_spec_l10Trip at H
  refine callM_of Tryz.func147 rfl Tryz.ntmps147 Tryz.results147 fun Q hQ hQn => ?_
  exact wk2
instance (c : Yl1Cur) (w : YWorld) : CT Tryz.prog (m_p1_spec_l10Trip c w) := ⟨147, [.be 0 0 0, .ag [.ms 1, .ms 2, vi w.network.change, .ms 3, .ms 4, .ms 5, vi w.now, .ms 6, .ms 7, vi w.made]], [some ⟨187, 3, [[.sl (c.b.map cB8), vi c.i, vi c.h]]⟩, some ⟨67, 6, w.network.legs.map cLeg⟩, some ⟨3, 1, w.network.off.map cInt⟩, some ⟨62, 11, w.orders.map cOrder⟩, some ⟨135, 4, w.bookings.map cBooking⟩, some ⟨55, 2, w.closed.map cTrip⟩, some ⟨130, 6, w.scans.map cScan⟩, some ⟨3, 1, w.skip.map cInt⟩], fun r => .ag [vi r.1.leg, vi r.1.day], fun r => [some ⟨187, 3, [[.sl (r.2.1.b.map cB8), vi r.2.1.i, vi r.2.1.h]]⟩, some ⟨67, 6, r.2.2.network.legs.map cLeg⟩, some ⟨3, 1, r.2.2.network.off.map cInt⟩, some ⟨62, 11, r.2.2.orders.map cOrder⟩, some ⟨135, 4, r.2.2.bookings.map cBooking⟩, some ⟨55, 2, r.2.2.closed.map cTrip⟩, some ⟨130, 6, r.2.2.scans.map cScan⟩, some ⟨3, 1, r.2.2.skip.map cInt⟩], ok_p1_spec_l10Trip c w⟩
end Go.Proofs.YtmcdjilbkmhfoaaGreat

/- The mirror of p0_spec_l10Any, and that the code does just that (printed by a program of my own). -/
namespace Go.Proofs.YtmcdjilbkmhfoaaGreat
set_option maxRecDepth 10000
open Go.RowKit
set_option linter.unusedVariables false
set_option maxHeartbeats 16000000
def m_p0_spec_l10Any (c : Yl1Cur) : Option (YWorld × Yl1Cur) :=
 (rhoM [0]).bind fun _ =>
 (m_p0_spec_l10Draw c 9).bind fun y1 =>
 (rhoM [0]).bind fun _ =>
 (m_p0_spec_l1Once y1.2 2).bind fun y2 =>
 cond y2.1
 (some (y1.1, y2.2))
 (cond (decide ((y1.1.orders.length : Int) = 0))
 (some (y1.1, y2.2))
 ((rhoM [0]).bind fun _ =>
 (m_p0_spec_l1Below y2.2 (y1.1.orders.length : Int)).bind fun y3 =>
 (rhoM [0]).bind fun _ =>
 (m_p0_spec_l1Below y3.2 13).bind fun y4 =>
 cond (decide (y4.1 = 0))
 ((drwL 8 [4]).bind fun _ =>
 (rhoM [0]).bind fun _ =>
 (m_p0_spec_l1Below y4.2 5).bind fun y5 =>
 (getI y1.1.orders y3.1).bind fun y6 =>
 some ((⟨y1.1.network, (y1.1.orders.set (Int.toNat y3.1) (⟨y6.from_, y6.to_, y6.service, y6.weight, y6.at_, y6.due, y6.way, y6.gone, y5.1, y6.place, y6.ended⟩ : YOrder)), y1.1.bookings, y1.1.closed, y1.1.now, y1.1.scans, y1.1.skip, y1.1.made⟩ : YWorld), y5.2))
 (cond (decide (y4.1 = 1))
 ((getI y1.1.orders y3.1).bind fun y7 =>
 (getI y1.1.orders y3.1).bind fun y8 =>
 some ((⟨y1.1.network, (y1.1.orders.set (Int.toNat y3.1) (⟨y8.from_, y8.to_, y8.service, y8.weight, y8.at_, y8.due, y8.way, (w64 (y7.gone + 1)), y8.state, y8.place, y8.ended⟩ : YOrder)), y1.1.bookings, y1.1.closed, y1.1.now, y1.1.scans, y1.1.skip, y1.1.made⟩ : YWorld), y4.2))
 (cond (decide (y4.1 = 2))
 ((drwL 8 [11]).bind fun _ =>
 (getI y1.1.orders y3.1).bind fun y9 =>
 (rhoM [0, 90]).bind fun _ =>
 (m_p0_spec_l1Str y4.2 ([⟨#[]⟩, ⟨#[65, 77, 83]⟩, y9.to_])).bind fun y10 =>
 (getI y1.1.orders y3.1).bind fun y11 =>
 some ((⟨y1.1.network, (y1.1.orders.set (Int.toNat y3.1) (⟨y11.from_, y11.to_, y11.service, y11.weight, y11.at_, y11.due, y11.way, y11.gone, y11.state, y10.1, y11.ended⟩ : YOrder)), y1.1.bookings, y1.1.closed, y1.1.now, y1.1.scans, y1.1.skip, y1.1.made⟩ : YWorld), y10.2.1))
 (cond (decide (y4.1 = 3))
 ((getI y1.1.orders y3.1).bind fun y12 =>
 (getI y1.1.orders y3.1).bind fun y13 =>
 some ((⟨y1.1.network, (y1.1.orders.set (Int.toNat y3.1) (⟨y13.from_, y13.to_, y13.service, (w64 (y12.weight + 1)), y13.at_, y13.due, y13.way, y13.gone, y13.state, y13.place, y13.ended⟩ : YOrder)), y1.1.bookings, y1.1.closed, y1.1.now, y1.1.scans, y1.1.skip, y1.1.made⟩ : YWorld), y4.2))
 (cond (decide (y4.1 = 4))
 ((drwL 8 [4]).bind fun _ =>
 (rhoM [0, 34]).bind fun _ =>
 (m_p0_spec_l1Int y4.2 ([1, 300, (-1), 5000])).bind fun y14 =>
 some ((⟨y1.1.network, y1.1.orders, y1.1.bookings, y1.1.closed, (w64 (y1.1.now + y14.1)), y1.1.scans, y1.1.skip, y1.1.made⟩ : YWorld), y14.2.1))
 (cond (decide (y4.1 = 5))
 ((drwL 8 [7]).bind fun _ =>
 (rhoM [0]).bind fun _ =>
 (m_p0_spec_l1Below y4.2 (w64 ((y1.1.bookings.length : Int) + 1))).bind fun y15 =>
 (chk (slOk 0 y15.1 y1.1.bookings.length)).bind fun _ =>
 some ((⟨y1.1.network, y1.1.orders, (subL y1.1.bookings 0 y15.1), y1.1.closed, y1.1.now, y1.1.scans, y1.1.skip, y1.1.made⟩ : YWorld), y15.2))
 (cond (decide (y4.1 = 6))
 ((drwL 8 [4]).bind fun _ =>
 (rhoM [0, 2, 3, 4, 5, 6, 7, 8]).bind fun _ =>
 (m_p1_spec_l10Trip y4.2 y1.1).bind fun y16 =>
 (chk (appOk ((y16.2.2.closed : List YTrip).length + ([y16.1] : List YTrip).length) 16)).bind fun _ =>
 some ((⟨(⟨y16.2.2.network.legs, y16.2.2.network.off, y1.1.network.change⟩ : YNetwork), y16.2.2.orders, y16.2.2.bookings, ((y16.2.2.closed : List YTrip) ++ [y16.1]), y1.1.now, y16.2.2.scans, y16.2.2.skip, y1.1.made⟩ : YWorld), y16.2.1))
 (cond (decide (y4.1 = 7))
 ((getI y1.1.orders y3.1).bind fun y17 =>
 (getI y1.1.orders y3.1).bind fun y18 =>
 some ((⟨y1.1.network, (y1.1.orders.set (Int.toNat y3.1) (⟨y18.from_, y18.to_, y18.service, y18.weight, y18.at_, y18.due, y18.way, y18.gone, y18.state, y18.place, (w64 (y17.ended + 1))⟩ : YOrder)), y1.1.bookings, y1.1.closed, y1.1.now, y1.1.scans, y1.1.skip, y1.1.made⟩ : YWorld), y4.2))
 (cond (decide (y4.1 = 8))
 ((rhoM [0, 10]).bind fun _ =>
 (m_p0_spec_l1Int y4.2 ([0, 1000000000, 1000000001])).bind fun y19 =>
 some ((⟨y1.1.network, y1.1.orders, y1.1.bookings, y1.1.closed, y1.1.now, y1.1.scans, y1.1.skip, y19.1⟩ : YWorld), y19.2.1))
 (cond (decide (y4.1 = 9))
 ((drwL 8 [5]).bind fun _ =>
 (rhoM [0, 42]).bind fun _ =>
 (m_p0_spec_l1Int y4.2 ([0, (-1), 200000, 200001])).bind fun y20 =>
 (getI y1.1.orders y3.1).bind fun y21 =>
 some ((⟨y1.1.network, (y1.1.orders.set (Int.toNat y3.1) (⟨y21.from_, y21.to_, y21.service, y21.weight, y21.at_, y20.1, y21.way, y21.gone, y21.state, y21.place, y21.ended⟩ : YOrder)), y1.1.bookings, y1.1.closed, y1.1.now, y1.1.scans, y1.1.skip, y1.1.made⟩ : YWorld), y20.2.1))
 (some (y1.1, y4.2)))))))))))))
theorem ok_p0_spec_l10Any (c : Yl1Cur) {r : YWorld × Yl1Cur} (H : m_p0_spec_l10Any c = some r) : CallM Tryz.prog 103 [.be 0 0 0] [some ⟨187, 3, [[.sl (c.b.map cB8), vi c.i, vi c.h]]⟩] (.ag [.sl (r.1.network.legs.map cLeg), .sl (r.1.network.off.map cInt), vi r.1.network.change, .sl (r.1.orders.map cOrder), .sl (r.1.bookings.map cBooking), .sl (r.1.closed.map cTrip), vi r.1.now, .sl (r.1.scans.map cScan), .sl (r.1.skip.map cInt), vi r.1.made]) [some ⟨187, 3, [[.sl (r.2.b.map cB8), vi r.2.i, vi r.2.h]]⟩] := by
  replace H := H0 H
  unfold m_p0_spec_l10Any at H
  refine callM_of Tryz.func103 rfl Tryz.ntmps103 Tryz.results103 fun Q hQ hQn => ?_
  exact wk2
instance (c : Yl1Cur) : CT Tryz.prog (m_p0_spec_l10Any c) := ⟨103, [.be 0 0 0], [some ⟨187, 3, [[.sl (c.b.map cB8), vi c.i, vi c.h]]⟩], fun r => .ag [.sl (r.1.network.legs.map cLeg), .sl (r.1.network.off.map cInt), vi r.1.network.change, .sl (r.1.orders.map cOrder), .sl (r.1.bookings.map cBooking), .sl (r.1.closed.map cTrip), vi r.1.now, .sl (r.1.scans.map cScan), .sl (r.1.skip.map cInt), vi r.1.made], fun r => [some ⟨187, 3, [[.sl (r.2.b.map cB8), vi r.2.i, vi r.2.h]]⟩], ok_p0_spec_l10Any c⟩
end Go.Proofs.YtmcdjilbkmhfoaaGreat

/- The mirror of spec_DrawAdvanceTo, and that the code does just that (printed by a program of my own). -/
namespace Go.Proofs.YtmcdjilbkmhfoaaGreat
set_option maxRecDepth 10000
open Go.RowKit
set_option linter.unusedVariables false
set_option maxHeartbeats 16000000
def m_spec_DrawAdvanceTo (code : List YB8) : Option (YWorld × Int) :=
 (m_o_spec_l1New code).bind fun y1 =>
 (rhoM [1]).bind fun _ =>
 (m_p0_spec_l10Any y1).bind fun y2 =>
 (rhoM [1]).bind fun _ =>
 (m_p0_spec_l1Once y2.2 9).bind fun y3 =>
 cond y3.1
 ((drwL 8 [6]).bind fun _ =>
 (rhoM [1, 43]).bind fun _ =>
 (m_p0_spec_l1Int y3.2 ([(-1), 100000, 100001, (w64 (y2.1.now - 1))])).bind fun y4 =>
 some (y2.1, y4.1))
 ((drwL 8 [4]).bind fun _ =>
 (rhoM [1]).bind fun _ =>
 (m_p0_spec_l1Below y3.2 200).bind fun y5 =>
 some (y2.1, (w64 (y2.1.now + (w64 (30 * y5.1))))))
theorem ok_spec_DrawAdvanceTo (code : List YB8) {r : YWorld × Int} (H : m_spec_DrawAdvanceTo code = some r) : CallM Tryz.prog 23 [.sl (code.map cB8)] [] (.tu [.ag [.sl (r.1.network.legs.map cLeg), .sl (r.1.network.off.map cInt), vi r.1.network.change, .sl (r.1.orders.map cOrder), .sl (r.1.bookings.map cBooking), .sl (r.1.closed.map cTrip), vi r.1.now, .sl (r.1.scans.map cScan), .sl (r.1.skip.map cInt), vi r.1.made], vi r.2]) [] := by
  replace H := H0 H
  unfold m_spec_DrawAdvanceTo at H
  refine callM_of Tryz.func23 rfl Tryz.ntmps23 Tryz.results23 fun Q hQ hQn => ?_
  exact wk2
instance (code : List YB8) : CT Tryz.prog (m_spec_DrawAdvanceTo code) := ⟨23, [.sl (code.map cB8)], [], fun r => .tu [.ag [.sl (r.1.network.legs.map cLeg), .sl (r.1.network.off.map cInt), vi r.1.network.change, .sl (r.1.orders.map cOrder), .sl (r.1.bookings.map cBooking), .sl (r.1.closed.map cTrip), vi r.1.now, .sl (r.1.scans.map cScan), .sl (r.1.skip.map cInt), vi r.1.made], vi r.2], fun r => [], ok_spec_DrawAdvanceTo code⟩
end Go.Proofs.YtmcdjilbkmhfoaaGreat

/- Drawn worlds: what the reference draws is a world that its tests can be asked about. -/
namespace Go.Proofs.YtmcdjilbkmhfoaaGreat
set_option maxRecDepth 10000
open Go.RowKit
set_option linter.unusedVariables false
set_option linter.unusedSimpArgs false
set_option linter.unusedSectionVars false
theorem drawP_ok : ∀ p ∈ drawP, m_spec_IsPlace p = some true ∧ p.size = 3 := fun p hp => by
  unfold drawP at hp
  simp only [List.mem_cons, List.not_mem_nil, or_false] at hp
  rcases hp with rfl | rfl | rfl | rfl | rfl | rfl | rfl <;> exact ⟨by decide +kernel, by decide +kernel⟩
theorem LegD.fit {l : YLeg} (h : LegD l) : legFit l := ⟨by rw [(drawP_ok _ h.from_).2]; decide, by rw [(drawP_ok _ h.to_).2]; decide⟩
theorem LegD.ok {l : YLeg} (h : LegD l) : m_spec_IsLeg l = some true := by
  have h1 := h.start
  have h2 := h.takes
  have h3 := h.days
  have h4 := h.room
  unfold m_spec_IsLeg
  rw [(drawP_ok _ h.from_).1, (drawP_ok _ h.to_).1]
  simp only [Option.bind_some, cond_true, decide_eq_false h.ne, Bool.not_false, l1In_v, decide_eq_true h1.1, decide_eq_true h1.2, decide_eq_true h2.1, decide_eq_true h2.2, decide_eq_true h3.1, decide_eq_true h3.2, decide_eq_true h4.1, decide_eq_true h4.2, Bool.and_self]
theorem NetD.fit {n : YNetwork} (h : NetD n) : NetFit n := ⟨by have := h.len; omega, by rcases h.off with e | ⟨a, b, e, _⟩ <;> rw [e] <;> simp, fun l hl => (h.leg l hl).fit⟩
theorem NetD.ok {n : YNetwork} (h : NetD n) : m_spec_IsNetwork n = some true := by
  have hlen := h.len
  have hch := h.change
  have e0 : Tot (iterF (m_spec_IsNetwork_b0 n) NN 0) fun r => r = .inl () := by
    refine Tot.loop (fun (k : Nat) (s : Int) => ∃ i : Nat, s = (i : Int) ∧ i + k = n.legs.length) (fun k s hs => ?_) NN n.legs.length _ ⟨0, rfl, by omega⟩ (by unfold NN; omega)
    obtain ⟨i, rfl, hk⟩ := hs
    unfold m_spec_IsNetwork_b0
    refine Tot.cond (fun hd => ?_) fun hd => Tot.ret rfl
    have hlt := of_decide_eq_true hd
    have hwi : w64 ((i : Int) + 1) = ((i + 1 : Nat) : Int) := by rw [w64_in (by omega)]; omega
    obtain ⟨x, hx, hm⟩ := len_in (xs := n.legs) (i := (i : Int)) ⟨by omega, hlt⟩
    rw [hx, Option.bind_some, (h.leg x hm).ok, Option.bind_some, hwi]
    exact Tot.cond (fun e => by cases e) fun _ => Tot.ret ⟨k - 1, by omega, i + 1, rfl, by omega⟩
  have e1 : Tot (iterF (m_spec_IsNetwork_b1 n) NN 0) fun r => r = .inl () := by
    rcases h.off with e | ⟨a, b, e, g1, g2, g3⟩
    · refine Tot.loop (fun (k : Nat) (s : Int) => s = 0) (fun k s hs => ?_) NN 0 _ rfl (by unfold NN; omega)
      subst hs
      unfold m_spec_IsNetwork_b1
      rw [e]
      exact Tot.cond (fun hd => by simp at hd) fun hd => Tot.ret rfl
    · refine Tot.loop (fun (k : Nat) (s : Int) => (s = 0 ∧ k = 2) ∨ (s = 1 ∧ k = 1) ∨ (s = 2 ∧ k = 0)) (fun k s hs => ?_) NN 2 _ (.inl ⟨rfl, rfl⟩) (by unfold NN; omega)
      unfold m_spec_IsNetwork_b1
      rw [e]
      have x0 : getI [a, b] 0 = some a := rfl
      have x1 : getI [a, b] 1 = some b := rfl
      have w1 : w64 (0 + 1) = 1 := by decide
      have w2 : w64 (1 + 1) = 2 := by decide
      have w0 : w64 (1 - 1) = 0 := by decide
      rcases hs with ⟨rfl, rfl⟩ | ⟨rfl, rfl⟩ | ⟨rfl, rfl⟩
      · refine Tot.cond (fun _ => ?_) fun hd => by simp at hd
        rw [x0, Option.bind_some, l1In_v, Option.bind_some, decide_eq_true g1, decide_eq_true (show a ≤ 60 by omega), w1]
        exact Tot.cond (fun e => by cases e) fun _ => Tot.cond (fun e => by simp at e) fun _ => Tot.ret ⟨1, by omega, .inr (.inl ⟨rfl, rfl⟩)⟩
      · refine Tot.cond (fun _ => ?_) fun hd => by simp at hd
        rw [x1, Option.bind_some, l1In_v, Option.bind_some, decide_eq_true (show 0 ≤ b by omega), decide_eq_true g3, w2, w0, x0, Option.bind_some, Option.bind_some]
        exact Tot.cond (fun e => by cases e) fun _ => Tot.cond (fun _ => Tot.cond (fun e => by have := of_decide_eq_true e; omega) fun _ => Tot.ret ⟨0, by omega, .inr (.inr ⟨rfl, rfl⟩)⟩) fun e => by simp at e
      · exact Tot.cond (fun hd => by simp at hd) fun hd => Tot.ret rfl
  obtain ⟨_, r0, rfl⟩ := e0
  obtain ⟨_, r1, rfl⟩ := e1
  unfold m_spec_IsNetwork
  rw [r0, Option.bind_some]
  simp only [selim]
  rw [r1, Option.bind_some]
  simp only [selim]
  have ho : (n.off.length : Int) ≤ 10 := by rcases h.off with e | ⟨a, b, e, _⟩ <;> rw [e] <;> simp
  rw [decide_eq_true (show (n.legs.length : Int) ≤ 20 by omega), decide_eq_true ho, l1In_v, decide_eq_true hch.1, decide_eq_true hch.2]
  rfl
theorem new_world {n : YNetwork} (h : NetD n) {skip : List Int} (hs : skip.length ≤ 50) : m_o_spec_NewWorld n skip = some ((⟨n, [], [], [], 0, [], skip, 0⟩ : YWorld), true) := by
  have hf : WFit (⟨n, [], [], [], 0, [], skip, 0⟩ : YWorld) := ⟨h.fit, by simp, by simp, by simp, by simp, by simp only; omega, fun o ho => by cases ho⟩
  have hv : worldV (⟨n, [], [], [], 0, [], skip, 0⟩ : YWorld) = true := by
    unfold worldV booksV tripsV
    simp only [h.ok, Option.getD_some]
    simp [allI]
    omega
  unfold m_o_spec_NewWorld
  rw [copyW_s hf, Option.bind_some, spec_world hf, hv]
  rfl
/-- What a drawn world is. -/
structure WD (n : YNetwork) (w : YWorld) : Prop where
  fit : WFit w
  net : w.network = n
  closed : w.closed.length ≤ 1000
section
variable {n : YNetwork} (hn : NetD n)
include hn
theorem leg0 : 0 < n.legs.length ∧ n.legs.length ≤ 20 := by have := hn.len; omega
theorem trip_tot {c : Yl1Cur} (h : CurOk c) : Tot (m_p0_spec_l3Trip c n) fun r => CurOk r.2 := by
  have hl := hn.len
  unfold m_p0_spec_l3Trip
  refine Tot.rho (Tot.bind (below_tot h _) fun y1 h1 => Tot.rho (Tot.bind (below_tot h1.2 10) fun y2 h2 => ?_))
  obtain ⟨y, hy, _⟩ := len_in (xs := n.legs) (i := y1.1) ⟨h1.1.1, h1.1.2.1 (by omega)⟩
  refine Tot.bind (l3next_tot hn.fit hy _) fun y3 _ => Tot.cond (fun _ => Tot.rho (Tot.bind (once_tot h2.2 4) fun y4 h4 => Tot.cond (fun _ => Tot.ret h4) fun _ => Tot.ret h4)) fun _ => Tot.ret h2.2
theorem trip1_tot {c : Yl1Cur} (h : CurOk c) : Tot (m_p1_spec_l3Trip c n) fun r => CurOk r.2.1 ∧ r.2.2 = n := by
  have hl := hn.len
  unfold m_p1_spec_l3Trip
  refine Tot.rho (Tot.bind (below_tot h _) fun y1 h1 => Tot.rho (Tot.bind (below_tot h1.2 10) fun y2 h2 => ?_))
  obtain ⟨y, hy, _⟩ := len_in (xs := n.legs) (i := y1.1) ⟨h1.1.1, h1.1.2.1 (by omega)⟩
  refine Tot.bind (l3next_tot hn.fit hy _) fun y3 _ => Tot.cond (fun _ => Tot.rho (Tot.bind (once_tot h2.2 4) fun y4 h4 => Tot.cond (fun _ => Tot.ret ⟨h4, rfl⟩) fun _ => Tot.ret ⟨h4, rfl⟩)) fun _ => Tot.ret ⟨h2.2, rfl⟩
theorem wtrip_tot {c : Yl1Cur} (h : CurOk c) {w : YWorld} (hw : WD n w) : Tot (m_p0_spec_l10Trip c w) fun r => CurOk r.2 := by
  unfold m_p0_spec_l10Trip
  rw [hw.net]
  refine Tot.cond (fun hd => Tot.rho (Tot.bind (once_tot h 4) fun y1 h1 => Tot.cond (fun _ => Tot.drw (Tot.rho (Tot.bind (below_tot h1 _) fun y2 h2 => Tot.get h2.1.1 (h2.1.2.1 (of_decide_eq_true hd)) fun x _ _ => Tot.ret h2.2))) fun _ => Tot.rho (Tot.bind (trip_tot hn h1) fun y4 h4 => Tot.ret h4))) fun _ => Tot.rho (Tot.bind (trip_tot hn h) fun y4 h4 => Tot.ret h4)
theorem wtrip1_tot {c : Yl1Cur} (h : CurOk c) {w : YWorld} (hw : WD n w) : Tot (m_p1_spec_l10Trip c w) fun r => CurOk r.2.1 ∧ r.2.2 = w := by
  have hnet := hw.net
  subst hnet
  unfold m_p1_spec_l10Trip
  refine Tot.cond (fun hd => Tot.rho (Tot.bind (once_tot h 4) fun y1 h1 => Tot.cond (fun _ => Tot.drw (Tot.rho (Tot.bind (below_tot h1 _) fun y2 h2 => Tot.get h2.1.1 (h2.1.2.1 (of_decide_eq_true hd)) fun x _ _ => Tot.ret ⟨h2.2, rfl⟩))) fun _ => Tot.rho (Tot.bind (trip1_tot hn h1) fun y4 h4 => Tot.ret ⟨h4.1, ?_⟩))) fun _ => Tot.rho (Tot.bind (trip1_tot hn h) fun y4 h4 => Tot.ret ⟨h4.1, ?_⟩)
  · simp only [h4.2]
  · simp only [h4.2]
theorem of_tot {c : Yl1Cur} (h : CurOk c) : Tot (m_p0_spec_l4Of c n) fun r => CurOk r.2 := by
  have hl := hn.len
  have hp : 0 < (placesV n).length := by
    have := (legs_in (n := n) (List.getElem_mem (show 0 < n.legs.length by omega))).1
    exact List.length_pos_of_mem this
  unfold m_p0_spec_l4Of
  rw [(places_eq hn.fit).2, Option.bind_some]
  refine Tot.rho (Tot.bind (once_tot h 9) fun y2 h2 => Tot.cond (fun _ => Tot.rho (Tot.bind (place_tot h2) fun y3 h3 => Tot.ret h3.2)) fun _ => Tot.rho (Tot.bind (below_tot h2 _) fun y4 h4 => Tot.get h4.1.1 (h4.1.2.1 (by omega)) fun x _ _ => Tot.ret h4.2))
theorem adv_tot {w : YWorld} (hw : WD n w) (u : Int) : Tot (m_o_spec_AdvanceTo w u) (WD n) := by
  refine Tot.of (advance_s hw.fit u) ?_
  split
  · rename_i h
    obtain ⟨a, b, _⟩ := adv_ok ⟨hw.fit, h.1⟩ h.2.1 h.2.2
    exact ⟨a.fit, b.network.trans hw.net, by rw [b.closed]; exact hw.closed⟩
  · exact hw
theorem act_tot {c : Yl1Cur} (h : CurOk c) {w : YWorld} (hw : WD n w) : Tot (m_p0_spec_l10Act c w) fun r => WD n r.1 ∧ CurOk r.2 := by
  have hl := (leg0 hn).2
  have hnet := hw.net
  unfold m_p0_spec_l10Act
  refine Tot.rho (Tot.bind (below_tot h 6) fun y1 h1 => ?_)
  rw [hnet]
  have hc := h1.2
  refine Tot.cond (fun _ => Tot.cond (fun _ => ?_) fun _ => Tot.cond (fun _ => ?_) fun _ => Tot.cond (fun _ => ?_) fun _ => ?_) fun _ => Tot.cond (fun _ => Tot.cond (fun _ => ?_) fun _ => Tot.cond (fun _ => ?_) fun _ => Tot.cond (fun _ => ?_) fun _ => ?_) fun _ => Tot.cond (fun _ => ?_) fun _ => Tot.cond (fun _ => ?_) fun _ => Tot.cond (fun _ => ?_) fun _ => ?_
  any_goals exact Tot.drw (Tot.rho (Tot.bind (of_tot hn hc) fun y2 h2 => Tot.rho (Tot.bind (of_tot hn h2) fun y3 h3 => Tot.rho (Tot.bind (below_tot h3 3) fun y4 h4 => Tot.rho (Tot.bind (below_tot h4.2 4000) fun y5 h5 => Tot.bind (accept_tot hn.fit hl hw.fit hnet hw.closed _ _ _ _) fun y6 h6 => Tot.ret ⟨⟨h6.1, h6.2.1, h6.2.2⟩, h5.2⟩)))))
  any_goals exact Tot.drw (Tot.rho (Tot.bind (wtrip_tot hn hc hw) fun y7 h7 => Tot.bind (shut_tot hn.fit hl hw.fit hnet hw.closed _) fun y8 h8 => Tot.ret ⟨⟨h8.1, h8.2.1, h8.2.2⟩, h7⟩))
  any_goals exact Tot.bind (retry_tot hn.fit hl hw.fit hnet hw.closed) fun y9 h9 => Tot.ret ⟨⟨h9.1, h9.2.1, h9.2.2⟩, hc⟩
  all_goals exact Tot.drw (Tot.rho (Tot.bind (below_tot hc 40) fun y10 h10 => Tot.bind (adv_tot hn hw _) fun y11 h11 => Tot.ret ⟨h11, h10.2⟩))
end
theorem draw_tot {c : Yl1Cur} (h : CurOk c) (most : Int) (hm : most ≤ 1000) : Tot (m_p0_spec_l10Draw c most) fun r => ∃ n, NetD n ∧ WD n r.1 ∧ CurOk r.2 := by
  unfold m_p0_spec_l10Draw
  refine Tot.rho (Tot.bind (net_tot h) fun y1 h1 => ?_)
  obtain ⟨h1, hc1⟩ := h1
  refine Tot.bind (P := fun o => CurOk ⟨o.1, o.2.1, o.2.2.1⟩ ∧ NetD ⟨o.2.2.2, y1.1.off, y1.1.change⟩) ?_ fun o0 ho0 => ?_
  · have hlen := h1.len
    refine Tot.loop (fun (k : Nat) (s : Int × (List YB8) × Int × Int × (List YLeg)) => ∃ i : Nat, s.1 = (i : Int) ∧ i + k = s.2.2.2.2.length ∧ CurOk ⟨s.2.1, s.2.2.1, s.2.2.2.1⟩ ∧ NetD ⟨s.2.2.2.2, y1.1.off, y1.1.change⟩) (fun k s hs => ?_) NN y1.1.legs.length _ ⟨0, rfl, by simp, hc1, h1⟩ (by unfold NN; omega)
    obtain ⟨i, hi, hk, hc, hd⟩ := hs
    have hl2 := hd.len
    simp only at hl2
    unfold m_p0_spec_l10Draw_b0
    rw [hi]
    refine Tot.cond (fun hlt => ?_) fun _ => Tot.ret ⟨hc, hd⟩
    have hlt := of_decide_eq_true hlt
    have hwi : w64 ((i : Int) + 1) = ((i + 1 : Nat) : Int) := by rw [w64_in (by omega)]; omega
    rw [hwi]
    refine Tot.rho (Tot.bind (once_tot hc 2) fun y2 h2 => Tot.cond (fun _ => Tot.drw (Tot.rho (Tot.bind (below_tot h2 9) fun y3 h3 => ?_))) fun _ => Tot.ret ⟨k - 1, by omega, i + 1, rfl, by simp only; omega, h2, hd⟩)
    refine Tot.get (by omega) hlt fun x hx _ => Tot.ret ⟨k - 1, by omega, i + 1, rfl, by simp only [List.length_set]; omega, h3.2, ?_⟩
    have b3 := h3.1.2.1 (by omega)
    have b0 := h3.1.1
    have hr : w64 (2000 + w64 (1000 * y3.1)) = 2000 + 1000 * y3.1 := by rw [w64_in (n := 1000 * y3.1) (by omega), w64_in (by omega)]
    refine ⟨by simp only [List.length_set]; exact hl2, fun l hl => ?_, hd.off, hd.change⟩
    rcases List.mem_or_eq_of_mem_set hl with hl | rfl
    · exact hd.leg l hl
    · obtain ⟨a1, a2, a3, a4, a5, a6, a7⟩ := hd.leg x hx
      exact ⟨a1, a2, a3, a4, a5, a6, by simp only [hr]; omega⟩
  · refine Tot.rho (Tot.bind (below_tot ho0.1 6) fun y5 h5 => ?_)
    have b5 := h5.1.2.1 (by omega)
    have b5' := h5.1.1
    refine Tot.bind (P := fun o => CurOk ⟨o.1, o.2.1, o.2.2.1⟩ ∧ o.2.2.2.length ≤ 50) ?_ fun o1 ho1 => ?_
    · refine Tot.loop (fun (k : Nat) (s : Int × (List YB8) × Int × Int × (List Int)) => s.1 = (k : Int) ∧ s.2.2.2.2.length + k ≤ 6 ∧ CurOk ⟨s.2.1, s.2.2.1, s.2.2.2.1⟩) (fun k s hs => ?_) NN y5.1.toNat _ ⟨by simp only; omega, by simp only [List.length_nil]; omega, h5.2⟩ (by unfold NN; omega)
      obtain ⟨hk, hl, hc⟩ := hs
      unfold m_p0_spec_l10Draw_b1
      refine Tot.cond (fun hd => ?_) fun _ => Tot.ret ⟨hc, by simp only; omega⟩
      have hd := of_decide_eq_true hd
      have hwi : w64 (s.1 - 1) = ((k - 1 : Nat) : Int) := by rw [w64_in (by omega)]; omega
      exact Tot.rho (Tot.bind (below_tot hc 25) fun y6 h6 => Tot.chk (app_fit (by simp only [List.length_cons, List.length_nil]; omega) (by omega)) (Tot.ret ⟨k - 1, by omega, hwi, by simp only [List.length_append, List.length_cons, List.length_nil]; omega, h6.2⟩))
    · refine Tot.frz ?_
      rw [new_world ho0.2 ho1.2, Option.bind_some]
      refine Tot.rho (Tot.bind (below_tot ho1.1 most) fun y8 h8 => ?_)
      have b8 := h8.1
      have b8' : y8.1 ≤ 1000 := by
        rcases Int.lt_or_le 0 most with hp | hp
        · have := b8.2.1 hp; omega
        · have := b8.2.2 hp; omega
      refine Tot.bind (P := fun o => CurOk ⟨o.1, o.2.1, o.2.2.1⟩ ∧ WD ⟨o0.2.2.2, y1.1.off, y1.1.change⟩ (⟨(⟨o.2.2.2.2.2.2.1, o.2.2.2.2.2.2.2.1, o.2.2.2.1⟩ : YNetwork), o.2.2.2.2.2.2.2.2.1, o.2.2.2.2.2.2.2.2.2.1, o.2.2.2.2.2.2.2.2.2.2.1, o.2.2.2.2.1, o.2.2.2.2.2.2.2.2.2.2.2.1, o.2.2.2.2.2.2.2.2.2.2.2.2, o.2.2.2.2.2.1⟩ : YWorld)) ?_ fun o2 ho2 => Tot.ret ⟨_, ho0.2, ho2.2, ho2.1⟩
      refine Tot.loop (fun (k : Nat) (s2 : Int × (List YB8) × Int × Int × Int × Int × Int × (List YLeg) × (List Int) × (List YOrder) × (List YBooking) × (List YTrip) × (List YScan) × (List Int)) => s2.1 = (k : Int) ∧ k ≤ 1000 ∧ CurOk ⟨s2.2.1, s2.2.2.1, s2.2.2.2.1⟩ ∧ WD ⟨o0.2.2.2, y1.1.off, y1.1.change⟩ (⟨(⟨s2.2.2.2.2.2.2.2.1, s2.2.2.2.2.2.2.2.2.1, s2.2.2.2.2.1⟩ : YNetwork), s2.2.2.2.2.2.2.2.2.2.1, s2.2.2.2.2.2.2.2.2.2.2.1, s2.2.2.2.2.2.2.2.2.2.2.2.1, s2.2.2.2.2.2.1, s2.2.2.2.2.2.2.2.2.2.2.2.2.1, s2.2.2.2.2.2.2.2.2.2.2.2.2.2, s2.2.2.2.2.2.2.1⟩ : YWorld)) (fun k s hs => ?_) NN y8.1.toNat _ ⟨by simp only; omega, ?_, h8.2, ?_⟩ (by unfold NN; omega)
      · obtain ⟨hk, hkl, hc, hw⟩ := hs
        unfold m_p0_spec_l10Draw_b2
        refine Tot.cond (fun hd => ?_) fun _ => Tot.ret ⟨hc, hw⟩
        have hd := of_decide_eq_true hd
        have hwi : w64 (s.1 - 1) = ((k - 1 : Nat) : Int) := by rw [w64_in (by omega)]; omega
        exact Tot.frz (Tot.rho (Tot.bind (act_tot ho0.2 hc hw) fun y9 h9 => Tot.ret ⟨k - 1, by omega, hwi, by omega, h9.2, h9.1⟩))
      · omega
      · exact ⟨⟨ho0.2.fit, by simp, by simp, by simp, by simp, by have := ho1.2; simp only; omega, fun o ho => by cases ho⟩, rfl, by simp⟩
theorem WFit.set {w : YWorld} (h : WFit w) {i : Nat} {x : YOrder} {o : YOrder} (ho : o ∈ w.orders) (hx : x.way = o.way) : ∀ y ∈ w.orders.set i x, y.way.length ≤ 1048576 := fun y hy => by
  rcases List.mem_or_eq_of_mem_set hy with hy | rfl
  · exact h.way y hy
  · rw [hx]; exact h.way o ho
theorem any_tot {c : Yl1Cur} (h : CurOk c) : Tot (m_p0_spec_l10Any c) fun r => WFit r.1 ∧ CurOk r.2 := by
  unfold m_p0_spec_l10Any
  refine Tot.rho (Tot.bind (draw_tot h 9 (by omega)) fun y1 h1 => ?_)
  obtain ⟨n, hn, hw, hc⟩ := h1
  have hf := hw.fit
  have hcl := hw.closed
  refine Tot.rho (Tot.bind (once_tot hc 2) fun y2 h2 => Tot.cond (fun _ => Tot.ret ⟨hf, h2⟩) fun _ => Tot.cond (fun _ => Tot.ret ⟨hf, h2⟩) fun hz => ?_)
  have hz := of_decide_eq_false hz
  refine Tot.rho (Tot.bind (below_tot h2 _) fun y3 h3 => Tot.rho (Tot.bind (below_tot h3.2 13) fun y4 h4 => ?_))
  have b3 := h3.1.2.1 (by omega)
  obtain ⟨o, ho, hm⟩ := len_in (xs := y1.1.orders) (i := y3.1) ⟨h3.1.1, b3⟩
  have hc4 := h4.2
  rw [ho]
  simp only [Option.bind_some]
  have set : ∀ (x : YOrder), x.way = o.way → WFit (⟨y1.1.network, (y1.1.orders.set (Int.toNat y3.1) x), y1.1.bookings, y1.1.closed, y1.1.now, y1.1.scans, y1.1.skip, y1.1.made⟩ : YWorld) := fun x hx => ⟨hf.net, by simp only [List.length_set]; exact hf.orders, hf.bookings, hf.closed, hf.scans, hf.skip, hf.set hm hx⟩
  have keep : ∀ (a b : Int), WFit (⟨y1.1.network, y1.1.orders, y1.1.bookings, y1.1.closed, a, y1.1.scans, y1.1.skip, b⟩ : YWorld) := fun a b => ⟨hf.net, hf.orders, hf.bookings, hf.closed, hf.scans, hf.skip, hf.way⟩
  refine Tot.cond (fun _ => Tot.drw (Tot.rho (Tot.bind (below_tot hc4 5) fun y5 h5 => Tot.ret ⟨set _ rfl, h5.2⟩))) fun _ => ?_
  refine Tot.cond (fun _ => Tot.ret ⟨set _ rfl, hc4⟩) fun _ => ?_
  refine Tot.cond (fun _ => Tot.drw (Tot.rho (Tot.bind (str_tot hc4 (by simp)) fun y10 h10 => Tot.ret ⟨set _ rfl, h10.2⟩))) fun _ => ?_
  refine Tot.cond (fun _ => Tot.ret ⟨set _ rfl, hc4⟩) fun _ => ?_
  refine Tot.cond (fun _ => Tot.drw (Tot.rho (Tot.bind (int_tot hc4 (by simp)) fun y14 h14 => Tot.ret ⟨keep _ _, h14.2⟩))) fun _ => ?_
  refine Tot.cond (fun _ => Tot.drw (Tot.rho (Tot.bind (below_tot hc4 _) fun y15 h15 => ?_))) fun _ => ?_
  · have hb := hf.bookings
    have hw1 : w64 ((y1.1.bookings.length : Int) + 1) = (y1.1.bookings.length : Int) + 1 := w64_in (by omega)
    have b15 := h15.1.2.1 (by rw [hw1]; omega)
    rw [hw1] at b15
    have b0 := h15.1.1
    refine Tot.chk (by unfold slOk; exact decide_eq_true (by omega)) (Tot.ret ⟨⟨hf.net, hf.orders, ?_, hf.closed, hf.scans, hf.skip, hf.way⟩, h15.2⟩)
    simp only [subL, List.length_take, List.length_drop]; omega
  refine Tot.cond (fun _ => Tot.drw (Tot.rho (Tot.bind (wtrip1_tot hn hc4 hw) fun y16 h16 => ?_))) fun _ => ?_
  · have e := h16.2
    rw [e]
    refine Tot.chk (app_fit (by simp only [List.length_cons, List.length_nil]; omega) (by omega)) (Tot.ret ⟨⟨hf.net, hf.orders, hf.bookings, ?_, hf.scans, hf.skip, hf.way⟩, h16.1⟩)
    simp only [List.length_append, List.length_cons, List.length_nil]; omega
  refine Tot.cond (fun _ => Tot.ret ⟨set _ rfl, hc4⟩) fun _ => ?_
  refine Tot.cond (fun _ => Tot.rho (Tot.bind (int_tot hc4 (by simp)) fun y19 h19 => Tot.ret ⟨keep _ _, h19.2⟩)) fun _ => ?_
  exact Tot.cond (fun _ => Tot.drw (Tot.rho (Tot.bind (int_tot hc4 (by simp)) fun y20 h20 => Tot.ret ⟨set _ rfl, h20.2⟩))) fun _ => Tot.ret ⟨hf, hc4⟩
/-- What DrawAdvanceTo draws. -/
theorem drawAdv_tot {code : List YB8} (hl : code.length ≤ 4096) (hb : ∀ x ∈ code, 0 ≤ x.v ∧ x.v ≤ 255) : Tot (m_spec_DrawAdvanceTo code) fun r => WFit r.1 := by
  unfold m_spec_DrawAdvanceTo
  exact Tot.bind (new_tot hl hb) fun y1 h1 => Tot.rho (Tot.bind (any_tot h1) fun y2 h2 => Tot.rho (Tot.bind (once_tot h2.2 9) fun y3 h3 => Tot.cond (fun _ => Tot.drw (Tot.rho (Tot.bind (int_tot h3 (by simp)) fun y4 _ => Tot.ret h2.1))) fun _ => Tot.drw (Tot.rho (Tot.bind (below_tot h3 200) fun y5 _ => Tot.ret h2.1))))
end Go.Proofs.YtmcdjilbkmhfoaaGreat

/- The mirror of impl_same_impl_Trip_, and that the code does just that (printed by a program of my own). -/
namespace Go.Proofs.YtmcdjilbkmhfoaaGreat
set_option maxRecDepth 10000
open Go.RowKit
set_option linter.unusedVariables false
set_option maxHeartbeats 16000000
def m_impl_same_impl_Trip__b0 (a : List YTrip) (b : List YTrip) (s0 : Int) : Option (Int ⊕ (Unit ⊕ Bool)) :=
 cond (decide (s0 < (a.length : Int)))
 ((getI a s0).bind fun y1 =>
 (getI b s0).bind fun y2 =>
 cond (!decide (y1 = y2))
 (some (.inr (.inr false)))
 (some (.inl (w64 (s0 + 1)))))
 (some (.inr (.inl ())))
instance (a : List YTrip) (b : List YTrip) : LoopE (m_impl_same_impl_Trip__b0 a b) := ⟨fun s0 => [.sl (a.map cTrip), .sl (b.map cTrip), .un, .un, .un, .un, .un, .un, .un, .un, .un, .un, vi (a.length : Int), vi s0, .un, .un, .un, .un, .un, .un, .un, .un, .un, .un, .un, .un], fun s0 => []⟩
def m_impl_same_impl_Trip_ (a : List YTrip) (b : List YTrip) : Option Bool :=
 cond (!decide ((a.length : Int) = (b.length : Int)))
 (some false)
 ((iterF (m_impl_same_impl_Trip__b0 a b) NN 0).bind (selim (fun o0 =>
 some true) (fun r => some r)))
theorem ok_impl_same_impl_Trip_ (a : List YTrip) (b : List YTrip) {r : Bool} (H : m_impl_same_impl_Trip_ a b = some r) : CallM Tryz.prog 116 [.sl (a.map cTrip), .sl (b.map cTrip)] [] (vb r) [] := by
  replace H := H0 H
  unfold m_impl_same_impl_Trip_ at H
  refine callM_of Tryz.func116 rfl Tryz.ntmps116 Tryz.results116 fun Q hQ hQn => ?_
  exact wk2
instance (a : List YTrip) (b : List YTrip) : CT Tryz.prog (m_impl_same_impl_Trip_ a b) := ⟨116, [.sl (a.map cTrip), .sl (b.map cTrip)], [], fun r => vb r, fun r => [], ok_impl_same_impl_Trip_ a b⟩
end Go.Proofs.YtmcdjilbkmhfoaaGreat

/- The mirror of impl_sameOrders, and that the code does just that (printed by a program of my own). -/
namespace Go.Proofs.YtmcdjilbkmhfoaaGreat
set_option maxRecDepth 10000
open Go.RowKit
set_option linter.unusedVariables false
set_option maxHeartbeats 16000000
def m_impl_sameOrders (a : YOrder) (b : YOrder) : Option Bool :=
 cond (decide (a.from_ = b.from_))
 (cond (decide (a.to_ = b.to_))
 (cond (decide (a.service = b.service))
 (cond (decide (a.weight = b.weight))
 (cond (decide (a.at_ = b.at_))
 (cond (decide (a.due = b.due))
 ((m_impl_same_impl_Trip_ a.way b.way).bind fun y1 =>
 cond y1
 (cond (decide (a.gone = b.gone))
 (cond (decide (a.state = b.state))
 (cond (decide (a.place = b.place))
 (some (decide (a.ended = b.ended)))
 (some false))
 (some false))
 (some false))
 (some false))
 (some false))
 (some false))
 (some false))
 (some false))
 (some false))
 (some false)
theorem ok_impl_sameOrders (a : YOrder) (b : YOrder) {r : Bool} (H : m_impl_sameOrders a b = some r) : CallM Tryz.prog 112 [.ag (cOrder a), .ag (cOrder b)] [] (vb r) [] := by
  replace H := H0 H
  unfold m_impl_sameOrders at H
  refine callM_of Tryz.func112 rfl Tryz.ntmps112 Tryz.results112 fun Q hQ hQn => ?_
  exact wk2
instance (a : YOrder) (b : YOrder) : CT Tryz.prog (m_impl_sameOrders a b) := ⟨112, [.ag (cOrder a), .ag (cOrder b)], [], fun r => vb r, fun r => [], ok_impl_sameOrders a b⟩
end Go.Proofs.YtmcdjilbkmhfoaaGreat

/- The mirror of impl_same_impl_Leg_, and that the code does just that (printed by a program of my own). -/
namespace Go.Proofs.YtmcdjilbkmhfoaaGreat
set_option maxRecDepth 10000
open Go.RowKit
set_option linter.unusedVariables false
set_option maxHeartbeats 16000000
def m_impl_same_impl_Leg__b0 (a : List YLeg) (b : List YLeg) (s0 : Int) : Option (Int ⊕ (Unit ⊕ Bool)) :=
 cond (decide (s0 < (a.length : Int)))
 ((getI a s0).bind fun y1 =>
 (getI b s0).bind fun y2 =>
 cond (!decide (y1 = y2))
 (some (.inr (.inr false)))
 (some (.inl (w64 (s0 + 1)))))
 (some (.inr (.inl ())))
instance (a : List YLeg) (b : List YLeg) : LoopE (m_impl_same_impl_Leg__b0 a b) := ⟨fun s0 => [.sl (a.map cLeg), .sl (b.map cLeg), .un, .un, .un, .un, .un, .un, .un, .un, .un, .un, vi (a.length : Int), vi s0, .un, .un, .un, .un, .un, .un, .un, .un, .un, .un, .un, .un], fun s0 => []⟩
def m_impl_same_impl_Leg_ (a : List YLeg) (b : List YLeg) : Option Bool :=
 cond (!decide ((a.length : Int) = (b.length : Int)))
 (some false)
 ((iterF (m_impl_same_impl_Leg__b0 a b) NN 0).bind (selim (fun o0 =>
 some true) (fun r => some r)))
theorem ok_impl_same_impl_Leg_ (a : List YLeg) (b : List YLeg) {r : Bool} (H : m_impl_same_impl_Leg_ a b = some r) : CallM Tryz.prog 113 [.sl (a.map cLeg), .sl (b.map cLeg)] [] (vb r) [] := by
  replace H := H0 H
  unfold m_impl_same_impl_Leg_ at H
  refine callM_of Tryz.func113 rfl Tryz.ntmps113 Tryz.results113 fun Q hQ hQn => ?_
  exact wk2
instance (a : List YLeg) (b : List YLeg) : CT Tryz.prog (m_impl_same_impl_Leg_ a b) := ⟨113, [.sl (a.map cLeg), .sl (b.map cLeg)], [], fun r => vb r, fun r => [], ok_impl_same_impl_Leg_ a b⟩
end Go.Proofs.YtmcdjilbkmhfoaaGreat

/- The mirror of impl_same_int_, and that the code does just that (printed by a program of my own). -/
namespace Go.Proofs.YtmcdjilbkmhfoaaGreat
set_option maxRecDepth 10000
open Go.RowKit
set_option linter.unusedVariables false
set_option maxHeartbeats 16000000
def m_impl_same_int__b0 (a : List Int) (b : List Int) (s0 : Int) : Option (Int ⊕ (Unit ⊕ Bool)) :=
 cond (decide (s0 < (a.length : Int)))
 ((getI a s0).bind fun y1 =>
 (getI b s0).bind fun y2 =>
 cond (!decide (y1 = y2))
 (some (.inr (.inr false)))
 (some (.inl (w64 (s0 + 1)))))
 (some (.inr (.inl ())))
instance (a : List Int) (b : List Int) : LoopE (m_impl_same_int__b0 a b) := ⟨fun s0 => [.sl (a.map cInt), .sl (b.map cInt), .un, .un, .un, .un, .un, .un, .un, .un, .un, .un, vi (a.length : Int), vi s0, .un, .un, .un, .un, .un, .un, .un, .un, .un, .un, .un, .un], fun s0 => []⟩
def m_impl_same_int_ (a : List Int) (b : List Int) : Option Bool :=
 cond (!decide ((a.length : Int) = (b.length : Int)))
 (some false)
 ((iterF (m_impl_same_int__b0 a b) NN 0).bind (selim (fun o0 =>
 some true) (fun r => some r)))
theorem ok_impl_same_int_ (a : List Int) (b : List Int) {r : Bool} (H : m_impl_same_int_ a b = some r) : CallM Tryz.prog 114 [.sl (a.map cInt), .sl (b.map cInt)] [] (vb r) [] := by
  replace H := H0 H
  unfold m_impl_same_int_ at H
  refine callM_of Tryz.func114 rfl Tryz.ntmps114 Tryz.results114 fun Q hQ hQn => ?_
  exact wk2
instance (a : List Int) (b : List Int) : CT Tryz.prog (m_impl_same_int_ a b) := ⟨114, [.sl (a.map cInt), .sl (b.map cInt)], [], fun r => vb r, fun r => [], ok_impl_same_int_ a b⟩
end Go.Proofs.YtmcdjilbkmhfoaaGreat

/- The mirror of impl_same_impl_Booking_, and that the code does just that (printed by a program of my own). -/
namespace Go.Proofs.YtmcdjilbkmhfoaaGreat
set_option maxRecDepth 10000
open Go.RowKit
set_option linter.unusedVariables false
set_option maxHeartbeats 16000000
def m_impl_same_impl_Booking__b0 (a : List YBooking) (b : List YBooking) (s0 : Int) : Option (Int ⊕ (Unit ⊕ Bool)) :=
 cond (decide (s0 < (a.length : Int)))
 ((getI a s0).bind fun y1 =>
 (getI b s0).bind fun y2 =>
 cond (!decide (y1 = y2))
 (some (.inr (.inr false)))
 (some (.inl (w64 (s0 + 1)))))
 (some (.inr (.inl ())))
instance (a : List YBooking) (b : List YBooking) : LoopE (m_impl_same_impl_Booking__b0 a b) := ⟨fun s0 => [.sl (a.map cBooking), .sl (b.map cBooking), .un, .un, .un, .un, .un, .un, .un, .un, .un, .un, vi (a.length : Int), vi s0, .un, .un, .un, .un, .un, .un, .un, .un, .un, .un, .un, .un], fun s0 => []⟩
def m_impl_same_impl_Booking_ (a : List YBooking) (b : List YBooking) : Option Bool :=
 cond (!decide ((a.length : Int) = (b.length : Int)))
 (some false)
 ((iterF (m_impl_same_impl_Booking__b0 a b) NN 0).bind (selim (fun o0 =>
 some true) (fun r => some r)))
theorem ok_impl_same_impl_Booking_ (a : List YBooking) (b : List YBooking) {r : Bool} (H : m_impl_same_impl_Booking_ a b = some r) : CallM Tryz.prog 115 [.sl (a.map cBooking), .sl (b.map cBooking)] [] (vb r) [] := by
  replace H := H0 H
  unfold m_impl_same_impl_Booking_ at H
  refine callM_of Tryz.func115 rfl Tryz.ntmps115 Tryz.results115 fun Q hQ hQn => ?_
  exact wk2
instance (a : List YBooking) (b : List YBooking) : CT Tryz.prog (m_impl_same_impl_Booking_ a b) := ⟨115, [.sl (a.map cBooking), .sl (b.map cBooking)], [], fun r => vb r, fun r => [], ok_impl_same_impl_Booking_ a b⟩
end Go.Proofs.YtmcdjilbkmhfoaaGreat

/- The mirror of impl_same_impl_Scan_, and that the code does just that (printed by a program of my own). -/
namespace Go.Proofs.YtmcdjilbkmhfoaaGreat
set_option maxRecDepth 10000
open Go.RowKit
set_option linter.unusedVariables false
set_option maxHeartbeats 16000000
def m_impl_same_impl_Scan__b0 (a : List YScan) (b : List YScan) (s0 : Int) : Option (Int ⊕ (Unit ⊕ Bool)) :=
 cond (decide (s0 < (a.length : Int)))
 ((getI a s0).bind fun y1 =>
 (getI b s0).bind fun y2 =>
 cond (!decide (y1 = y2))
 (some (.inr (.inr false)))
 (some (.inl (w64 (s0 + 1)))))
 (some (.inr (.inl ())))
instance (a : List YScan) (b : List YScan) : LoopE (m_impl_same_impl_Scan__b0 a b) := ⟨fun s0 => [.sl (a.map cScan), .sl (b.map cScan), .un, .un, .un, .un, .un, .un, .un, .un, .un, .un, vi (a.length : Int), vi s0, .un, .un, .un, .un, .un, .un, .un, .un, .un, .un, .un, .un], fun s0 => []⟩
def m_impl_same_impl_Scan_ (a : List YScan) (b : List YScan) : Option Bool :=
 cond (!decide ((a.length : Int) = (b.length : Int)))
 (some false)
 ((iterF (m_impl_same_impl_Scan__b0 a b) NN 0).bind (selim (fun o0 =>
 some true) (fun r => some r)))
theorem ok_impl_same_impl_Scan_ (a : List YScan) (b : List YScan) {r : Bool} (H : m_impl_same_impl_Scan_ a b = some r) : CallM Tryz.prog 117 [.sl (a.map cScan), .sl (b.map cScan)] [] (vb r) [] := by
  replace H := H0 H
  unfold m_impl_same_impl_Scan_ at H
  refine callM_of Tryz.func117 rfl Tryz.ntmps117 Tryz.results117 fun Q hQ hQn => ?_
  exact wk2
instance (a : List YScan) (b : List YScan) : CT Tryz.prog (m_impl_same_impl_Scan_ a b) := ⟨117, [.sl (a.map cScan), .sl (b.map cScan)], [], fun r => vb r, fun r => [], ok_impl_same_impl_Scan_ a b⟩
end Go.Proofs.YtmcdjilbkmhfoaaGreat

/- The mirror of impl_SameWorlds, and that the code does just that (printed by a program of my own). -/
namespace Go.Proofs.YtmcdjilbkmhfoaaGreat
set_option maxRecDepth 10000
open Go.RowKit
set_option linter.unusedVariables false
set_option maxHeartbeats 16000000
def m_impl_SameWorlds_b0 (a : YWorld) (b : YWorld) (s0 : Int) : Option (Int ⊕ (Unit ⊕ Bool)) :=
 cond (decide (s0 < (a.orders.length : Int)))
 ((getI a.orders s0).bind fun y1 =>
 (getI b.orders s0).bind fun y2 =>
 (m_impl_sameOrders y1 y2).bind fun y3 =>
 cond (!y3)
 (some (.inr (.inr false)))
 (some (.inl (w64 (s0 + 1)))))
 (some (.inr (.inl ())))
instance (a : YWorld) (b : YWorld) : LoopE (m_impl_SameWorlds_b0 a b) := ⟨fun s0 => (.un :: .un :: .be 0 0 0 :: .be 1 0 0 :: .un :: .un :: .un :: .un :: .un :: .un :: .un :: .un :: .un :: .un :: .un :: vi (a.orders.length : Int) :: vi s0 :: .un :: .un :: .un :: .un :: .un :: .un :: .un :: .un :: .un :: .un :: .un :: .un :: .un :: .un :: .un :: .un :: .un :: .un :: .un :: .un :: .un :: .un :: .un :: .un :: .un :: .un :: .un :: .un :: .un :: .un :: .un :: .un :: .un :: .un :: .un :: .un :: .un :: .un :: .un :: .un :: .un :: .un :: .un :: .un :: .un :: .un :: .un :: .un :: .un :: .un :: .un :: .un :: .un :: .un :: .un :: .un :: .un :: .un :: .un :: .un :: .un :: .un :: .un :: .un :: .un :: .un :: .un :: .un :: .un :: .un :: .un :: .un :: .un :: .un :: .un :: .un :: .un :: .un :: .un :: .un :: .un :: .un :: []), fun s0 => [some ⟨41, 10, [[.sl (a.network.legs.map cLeg), .sl (a.network.off.map cInt), vi a.network.change, .sl (a.orders.map cOrder), .sl (a.bookings.map cBooking), .sl (a.closed.map cTrip), vi a.now, .sl (a.scans.map cScan), .sl (a.skip.map cInt), vi a.made]]⟩, some ⟨41, 10, [[.sl (b.network.legs.map cLeg), .sl (b.network.off.map cInt), vi b.network.change, .sl (b.orders.map cOrder), .sl (b.bookings.map cBooking), .sl (b.closed.map cTrip), vi b.now, .sl (b.scans.map cScan), .sl (b.skip.map cInt), vi b.made]]⟩]⟩
def m_impl_SameWorlds (a : YWorld) (b : YWorld) : Option Bool :=
 cond (!decide ((a.orders.length : Int) = (b.orders.length : Int)))
 (some false)
 ((iterF (m_impl_SameWorlds_b0 a b) NN 0).bind (selim (fun o0 =>
 (m_impl_same_impl_Leg_ a.network.legs b.network.legs).bind fun y4 =>
 cond y4
 ((m_impl_same_int_ a.network.off b.network.off).bind fun y5 =>
 cond y5
 (cond (decide (a.network.change = b.network.change))
 ((m_impl_same_impl_Booking_ a.bookings b.bookings).bind fun y6 =>
 cond y6
 ((m_impl_same_impl_Trip_ a.closed b.closed).bind fun y7 =>
 cond y7
 (cond (decide (a.now = b.now))
 ((m_impl_same_impl_Scan_ a.scans b.scans).bind fun y8 =>
 cond y8
 ((m_impl_same_int_ a.skip b.skip).bind fun y9 =>
 cond y9
 (some (decide (a.made = b.made)))
 (some false))
 (some false))
 (some false))
 (some false))
 (some false))
 (some false))
 (some false))
 (some false)) (fun r => some r)))
theorem ok_impl_SameWorlds (a : YWorld) (b : YWorld) {r : Bool} (H : m_impl_SameWorlds a b = some r) : CallM Tryz.prog 26 [.ag (cWorld a), .ag (cWorld b)] [] (vb r) [] := by
  replace H := H0 H
  unfold m_impl_SameWorlds at H
  refine callM_of Tryz.func26 rfl Tryz.ntmps26 Tryz.results26 fun Q hQ hQn => ?_
  exact wk2
instance (a : YWorld) (b : YWorld) : CT Tryz.prog (m_impl_SameWorlds a b) := ⟨26, [.ag (cWorld a), .ag (cWorld b)], [], fun r => vb r, fun r => [], ok_impl_SameWorlds a b⟩
end Go.Proofs.YtmcdjilbkmhfoaaGreat

/- The mirror of laws_at, and that the code does just that (printed by a program of my own). -/
namespace Go.Proofs.YtmcdjilbkmhfoaaGreat
set_option maxRecDepth 10000
open Go.RowKit
set_option linter.unusedVariables false
set_option maxHeartbeats 16000000
def m_laws_at (code : List YB8) (i : Int) : Option Int :=
 cond (decide ((code.length : Int) ≤ i))
 (some 0)
 ((getI code i).bind fun y1 =>
 some (IntKind.i64.wrap y1.v))
theorem ok_laws_at (code : List YB8) (i : Int) {r : Int} (H : m_laws_at code i = some r) : CallM Tryz.prog 25 [.sl (code.map cB8), vi i] [] (vi r) [] := by
  replace H := H0 H
  unfold m_laws_at at H
  refine callM_of Tryz.func25 rfl Tryz.ntmps25 Tryz.results25 fun Q hQ hQn => ?_
  exact wk2
instance (code : List YB8) (i : Int) : CT Tryz.prog (m_laws_at code i) := ⟨25, [.sl (code.map cB8), vi i], [], fun r => vi r, fun r => [], ok_laws_at code i⟩
end Go.Proofs.YtmcdjilbkmhfoaaGreat

/- The mirror of laws_big, and that the code does just that (printed by a program of my own). -/
namespace Go.Proofs.YtmcdjilbkmhfoaaGreat
set_option maxRecDepth 10000
open Go.RowKit
set_option linter.unusedVariables false
set_option maxHeartbeats 16000000
def m_laws_big (code : List YB8) : Option Bool :=
 some (decide (4096 < (code.length : Int)))
theorem ok_laws_big (code : List YB8) {r : Bool} (H : m_laws_big code = some r) : CallM Tryz.prog 22 [.sl (code.map cB8)] [] (vb r) [] := by
  replace H := H0 H
  unfold m_laws_big at H
  refine callM_of Tryz.func22 rfl Tryz.ntmps22 Tryz.results22 fun Q hQ hQn => ?_
  exact wk2
instance (code : List YB8) : CT Tryz.prog (m_laws_big code) := ⟨22, [.sl (code.map cB8)], [], fun r => vb r, fun r => [], ok_laws_big code⟩
end Go.Proofs.YtmcdjilbkmhfoaaGreat

/- The mirror of laws_FnTimeHalves, and that the code does just that (printed by a program of my own). -/
namespace Go.Proofs.YtmcdjilbkmhfoaaGreat
set_option maxRecDepth 10000
open Go.RowKit
set_option linter.unusedVariables false
set_option maxHeartbeats 16000000
def m_laws_FnTimeHalves (code : List YB8) : Option Bool :=
 (m_laws_big code).bind fun y1 =>
 cond y1
 (some true)
 ((m_spec_DrawAdvanceTo code).bind fun y2 =>
 (m_spec_IsWorld y2.1).bind fun y3 =>
 cond (!y3)
 (some true)
 (cond (decide (y2.2 < y2.1.now))
 (some true)
 (cond (decide (100000 < y2.2))
 (some true)
 ((m_laws_at code 1).bind fun y4 =>
 (m_impl_AdvanceTo y2.1 y2.2).bind fun y5 =>
 (m_impl_AdvanceTo y2.1 (w64 (y2.1.now + (IntKind.i64.wrap (Int.tdiv (w64 ((w64 (y2.2 - y2.1.now)) * y4)) 256))))).bind fun y6 =>
 (m_impl_AdvanceTo y6 y2.2).bind fun y7 =>
 (m_impl_SameWorlds y7 y5).bind fun y8 =>
 cond y8
 (cond (decide (y5.now = y2.2))
 ((m_impl_NextEvent y5).bind fun y9 =>
 cond (decide (y9 = (-1)))
 (some true)
 ((m_impl_NextEvent y5).bind fun y10 =>
 some (decide (y2.2 < y10))))
 (some false))
 (some false)))))
theorem ok_laws_FnTimeHalves (code : List YB8) {r : Bool} (H : m_laws_FnTimeHalves code = some r) : CallM Tryz.prog 4 [.sl (code.map cB8)] [] (vb r) [] := by
  replace H := H0 H
  unfold m_laws_FnTimeHalves at H
  refine callM_of Tryz.func4 rfl Tryz.ntmps4 Tryz.results4 fun Q hQ hQn => ?_
  exact wk2
instance (code : List YB8) : CT Tryz.prog (m_laws_FnTimeHalves code) := ⟨4, [.sl (code.map cB8)], [], fun r => vb r, fun r => [], ok_laws_FnTimeHalves code⟩
end Go.Proofs.YtmcdjilbkmhfoaaGreat

/- FnTimeHalves: time run in two halves, or at once. -/
namespace Go.Proofs.YtmcdjilbkmhfoaaGreat
set_option maxRecDepth 10000
open Go.RowKit
set_option linter.unusedVariables false
set_option linter.unusedSimpArgs false
theorem iter_all {α : Type} {body : Int → Option (Int ⊕ (Unit ⊕ Bool))} {xs : List α} (h1 : ∀ (i : Nat) x, xs[i]? = some x → body (i : Int) = some (.inl (w64 ((i : Int) + 1)))) (h2 : body (xs.length : Int) = some (.inr (.inl ()))) (hl : xs.length ≤ 1048576) : iterF body NN 0 = some (.inl ()) := by
  exact iter_st0 (body := body) (fun i : Nat => (i : Int)) (n := xs.length) (o := .inl ()) (fun i hi => by rw [h1 i _ (List.getElem?_eq_getElem hi), w64_nat hi (by omega)]) h2 NN (by unfold NN; omega)
theorem same_t {α : Type} [DecidableEq α] {F : List α → List α → Option Bool} {B : List α → List α → Int → Option (Int ⊕ (Unit ⊕ Bool))}
    (hF : ∀ a b, F a b = cond (!decide ((a.length : Int) = (b.length : Int))) (some false) ((iterF (B a b) NN 0).bind (selim (fun _ => some true) (fun r => some r))))
    (hB : ∀ a b s0, B a b s0 = cond (decide (s0 < (a.length : Int))) ((getI a s0).bind fun y1 => (getI b s0).bind fun y2 => cond (!decide (y1 = y2)) (some (.inr (.inr false))) (some (.inl (w64 (s0 + 1))))) (some (.inr (.inl ())))) {l : List α} (hl : l.length ≤ 1048576) : F l l = some true := by
  have e : iterF (B l l) NN 0 = some (.inl ()) := by
    refine iter_all (xs := l) (fun i x hx => ?_) ?_ hl
    · have hlt := (List.getElem?_eq_some_iff.1 hx).1
      have hg : getI l (i : Int) = some x := by rw [getI_nat]; exact hx
      rw [hB, decide_eq_true (show (i : Int) < l.length by omega), hg]
      simp
    · rw [hB]; simp
  rw [hF, e]
  simp [selim]
theorem sameT_t {l : List YTrip} (hl : l.length ≤ 1048576) : m_impl_same_impl_Trip_ l l = some true := same_t (F := m_impl_same_impl_Trip_) (B := m_impl_same_impl_Trip__b0) (fun _ _ => rfl) (fun _ _ _ => rfl) hl
theorem sameB_t {l : List YBooking} (hl : l.length ≤ 1048576) : m_impl_same_impl_Booking_ l l = some true := same_t (F := m_impl_same_impl_Booking_) (B := m_impl_same_impl_Booking__b0) (fun _ _ => rfl) (fun _ _ _ => rfl) hl
theorem sameL_t {l : List YLeg} (hl : l.length ≤ 1048576) : m_impl_same_impl_Leg_ l l = some true := same_t (F := m_impl_same_impl_Leg_) (B := m_impl_same_impl_Leg__b0) (fun _ _ => rfl) (fun _ _ _ => rfl) hl
theorem sameS_t {l : List YScan} (hl : l.length ≤ 1048576) : m_impl_same_impl_Scan_ l l = some true := same_t (F := m_impl_same_impl_Scan_) (B := m_impl_same_impl_Scan__b0) (fun _ _ => rfl) (fun _ _ _ => rfl) hl
theorem sameI_t {l : List Int} (hl : l.length ≤ 1048576) : m_impl_same_int_ l l = some true := same_t (F := m_impl_same_int_) (B := m_impl_same_int__b0) (fun _ _ => rfl) (fun _ _ _ => rfl) hl
theorem sameO_t {o : YOrder} (h : o.way.length ≤ 1048576) : m_impl_sameOrders o o = some true := by
  unfold m_impl_sameOrders
  simp only [decide_true, cond_true, sameT_t h, Option.bind_some]
theorem sameW_t {w : YWorld} (h : WFit w) : m_impl_SameWorlds w w = some true := by
  unfold m_impl_SameWorlds
  have e : iterF (m_impl_SameWorlds_b0 w w) NN 0 = some (.inl ()) := by
    refine iter_all (xs := w.orders) (fun i x hx => ?_) ?_ h.orders
    · have hlt := (List.getElem?_eq_some_iff.1 hx).1
      have hg : getI w.orders (i : Int) = some x := by rw [getI_nat]; exact hx
      unfold m_impl_SameWorlds_b0
      rw [decide_eq_true (show (i : Int) < w.orders.length by omega), hg]
      simp only [Option.bind_some, sameO_t (h.way x (List.mem_of_getElem? hx)), cond_true, Bool.not_true, cond_false]
    · unfold m_impl_SameWorlds_b0; simp
  rw [e]
  simp only [decide_true, Bool.not_true, cond_false, Option.bind_some, selim, sameL_t h.net.legs, sameI_t h.net.off, sameB_t h.bookings, sameT_t h.closed, sameS_t h.scans, sameI_t h.skip, cond_true]
theorem at_tot {code : List YB8} (hb : ∀ x ∈ code, 0 ≤ x.v ∧ x.v ≤ 255) {i : Int} (h0 : 0 ≤ i) : Tot (m_laws_at code i) fun r => 0 ≤ r ∧ r ≤ 255 := by
  unfold m_laws_at
  refine Tot.cond (fun _ => Tot.ret ⟨by omega, by omega⟩) fun hd => ?_
  have hlt := of_decide_eq_false hd
  refine Tot.get h0 (by omega) fun x hx _ => Tot.ret ?_
  have := hb x hx
  have e : IntKind.i64.wrap x.v = x.v := w64_in (n := x.v) (by omega)
  rw [e]; exact this
theorem next_i {w : YWorld} (h : WOk w) : m_impl_NextEvent w = some (nextV w) := by
  unfold m_impl_NextEvent
  rw [impl_world h.fit, h.ok, Option.bind_some, next_iv h]
  rfl
theorem timeHalves (code : List YB8) (hb : ∀ x ∈ code, 0 ≤ x.v ∧ x.v ≤ 255) : m_laws_FnTimeHalves code = some true := by
  unfold m_laws_FnTimeHalves m_laws_big
  rw [Option.bind_some]
  by_cases hbig : 4096 < (code.length : Int)
  · rw [decide_eq_true hbig]; rfl
  rw [decide_eq_false hbig, cond_false]
  obtain ⟨⟨w, u⟩, e, hf⟩ := drawAdv_tot (code := code) (by omega) hb
  simp only at hf
  rw [e, Option.bind_some]
  simp only
  rw [spec_world hf, Option.bind_some]
  cases hv : worldV w with
  | false => rfl
  | true =>
  have hok : WOk w := ⟨hf, hv⟩
  have hp := hok.parts.1
  simp only [Bool.not_true, cond_false]
  by_cases h1 : u < w.now
  · rw [decide_eq_true h1]; rfl
  by_cases h2 : 100000 < u
  · rw [decide_eq_false h1, decide_eq_true h2]; rfl
  rw [decide_eq_false h1, decide_eq_false h2, cond_false, cond_false]
  obtain ⟨y4, e4, h4⟩ := at_tot hb (i := 1) (by omega)
  have w1 : w64 (u - w.now) = u - w.now := w64_in (by omega)
  have hmul : 0 ≤ (u - w.now) * y4 ∧ (u - w.now) * y4 ≤ 25500000 := by
    refine ⟨Int.mul_nonneg (by omega) h4.1, ?_⟩
    have a := Int.mul_le_mul_of_nonneg_left h4.2 (show 0 ≤ u - w.now by omega)
    omega
  have hmul2 : (u - w.now) * y4 ≤ (u - w.now) * 255 := Int.mul_le_mul_of_nonneg_left h4.2 (by omega)
  have w2 : w64 ((u - w.now) * y4) = (u - w.now) * y4 := w64_in (by omega)
  have hdiv : Int.tdiv ((u - w.now) * y4) 256 = ((u - w.now) * y4) / 256 := Int.tdiv_eq_ediv_of_nonneg hmul.1
  have w3 : IntKind.i64.wrap (((u - w.now) * y4) / 256) = ((u - w.now) * y4) / 256 := w64_in (n := ((u - w.now) * y4) / 256) (by omega)
  have w4 : w64 (w.now + ((u - w.now) * y4) / 256) = w.now + ((u - w.now) * y4) / 256 := w64_in (by omega)
  have hm : w.now ≤ w.now + ((u - w.now) * y4) / 256 ∧ w.now + ((u - w.now) * y4) / 256 ≤ u := by omega
  generalize hmd : w.now + ((u - w.now) * y4) / 256 = m at *
  have a1 := advance_i hf u
  rw [if_pos ⟨hv, by omega, by omega⟩] at a1
  have a2 := advance_i hf m
  rw [if_pos ⟨hv, by omega, by omega⟩] at a2
  obtain ⟨k1, _, k3⟩ := adv_ok hok (u := u) (by omega) (by omega)
  obtain ⟨m1, _, _⟩ := adv_ok hok (u := m) (by omega) (by omega)
  have a3 := advance_i m1.fit u
  rw [if_pos ⟨m1.ok, (show (advV w m).now ≤ u from hm.2), by omega⟩, adv_adv hok hm.1 hm.2 (by omega)] at a3
  simp only [e4, Option.bind_some, w1, w2, hdiv, w3, hmd, w4, a1, a2, a3, sameW_t k1.fit, cond_true, next_i k1]
  have hnow : (advV w u).now = u := rfl
  rw [hnow, decide_eq_true rfl, cond_true]
  rcases k3 with k3 | k3
  · rw [decide_eq_true (next_of_neg k1 k3).1]; rfl
  · by_cases hn : nextV (advV w u) = -1
    · rw [decide_eq_true hn]; rfl
    · rw [decide_eq_false hn, cond_false, decide_eq_true k3]
end Go.Proofs.YtmcdjilbkmhfoaaGreat
