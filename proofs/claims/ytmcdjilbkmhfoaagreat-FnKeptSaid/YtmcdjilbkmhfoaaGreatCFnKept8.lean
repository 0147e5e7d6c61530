/- A part of the proof of the statement in the last file of this claim: texts on the language of the program and on its functions. No condition. -/
import Derived.Test.YtmcdjilbkmhfoaaGreatCFnKept5
import Derived.Test.YtmcdjilbkmhfoaaGreatCFnKept7
import Derived.Test.YtmcdjilbkmhfoaaGreatCFnKept6
import Derived.Test.YtmcdjilbkmhfoaaGreatCFnKept4
namespace Go.Proofs.YtmcdjilbkmhfoaaGreat
set_option maxRecDepth 10000
open Go.RowKit
set_option linter.unusedVariables false
set_option maxHeartbeats 16000000
def m_p0_impl_happen_b0 (w : YWorld) (at1_ : Int) (s0 : Int × Int × Int × Int × (List YLeg) × (List Int) × (List YOrder) × (List YBooking) × (List YTrip) × (List Int) × (List YScan)) : Option ((Int × Int × Int × Int × (List YLeg) × (List Int) × (List YOrder) × (List YBooking) × (List YTrip) × (List Int) × (List YScan)) ⊕ (Int × Int × Int × (List YLeg) × (List Int) × (List YOrder) × (List YBooking) × (List YTrip) × (List Int) × (List YScan))) :=
 cond (decide (s0.1 < (w.orders.length : Int)))
 ((getI s0.2.2.2.2.2.2.1 s0.1).bind fun y1 =>
 cond (!decide (y1.state = 2))
 (some (.inl ((w64 (s0.1 + 1)), s0.2.1, s0.2.2.1, s0.2.2.2.1, s0.2.2.2.2.1, s0.2.2.2.2.2.1, s0.2.2.2.2.2.2.1, s0.2.2.2.2.2.2.2.1, s0.2.2.2.2.2.2.2.2.1, s0.2.2.2.2.2.2.2.2.2.1, s0.2.2.2.2.2.2.2.2.2.2)))
 ((getI y1.way y1.gone).bind fun y2 =>
 (m_impl_ends (⟨s0.2.2.2.2.1, s0.2.2.2.2.2.1, w.network.change⟩ : YNetwork) y2).bind fun y3 =>
 cond (!decide (y3 = at1_))
 (some (.inl ((w64 (s0.1 + 1)), s0.2.1, s0.2.2.1, s0.2.2.2.1, s0.2.2.2.2.1, s0.2.2.2.2.2.1, s0.2.2.2.2.2.2.1, s0.2.2.2.2.2.2.2.1, s0.2.2.2.2.2.2.2.2.1, s0.2.2.2.2.2.2.2.2.2.1, s0.2.2.2.2.2.2.2.2.2.2)))
 ((rgI s0.2.2.2.2.2.2.1 s0.1).bind fun y4 =>
 (getI y4.way y4.gone).bind fun y5 =>
 (rgI s0.2.2.2.2.2.2.1 s0.1).bind fun y6 =>
 (getI s0.2.2.2.2.1 y5.leg).bind fun y7 =>
 (rgI s0.2.2.2.2.2.2.1 s0.1).bind fun y8 =>
 (frzL (s0.2.2.2.2.2.2.1.set (Int.toNat s0.1) (⟨y6.from_, y6.to_, y6.service, y6.weight, y6.at_, y6.due, y6.way, (w64 (y6.gone + 1)), 1, y7.to_, y6.ended⟩ : YOrder)) (fun y9 => (.be 0 0 0 :: vi at1_ :: .un :: .un :: .be 9 0 0 :: vi s0.1 :: .be 3 (Int.toNat s0.1) 0 :: .be 10 0 0 :: .un :: .un :: .un :: .un :: .un :: .un :: .un :: .un :: .un :: .un :: vi (w.orders.length : Int) :: vi s0.1 :: .un :: .un :: .un :: .un :: .un :: .un :: .un :: .un :: .un :: .un :: .un :: .un :: .un :: .un :: .un :: .un :: .un :: .un :: .un :: .un :: .un :: .un :: .un :: .un :: .un :: .un :: .un :: .un :: .un :: .un :: .un :: .un :: .un :: .un :: .un :: .un :: .un :: .un :: .un :: .un :: .un :: .un :: .un :: .un :: .un :: .un :: .un :: .un :: .un :: .un :: .un :: .un :: .un :: .un :: .un :: .un :: .un :: .un :: .un :: .un :: .un :: .un :: .un :: .un :: .un :: .un :: .un :: .un :: .un :: .un :: .un :: .un :: .un :: .un :: .un :: .un :: .un :: .un :: .un :: .un :: .un :: .un :: .un :: .un :: .un :: .un :: .un :: .un :: .un :: .un :: .un :: .un :: .un :: .un :: .un :: .un :: .un :: .un :: .un :: .un :: .un :: .un :: .un :: .un :: .un :: .un :: .un :: .un :: .un :: .un :: .un :: .un :: .un :: .un :: .un :: .un :: .un :: .un :: .un :: .un :: .un :: .un :: .un :: .un :: .un :: .un :: .un :: .un :: .un :: .un :: .un :: .un :: .un :: .un :: .un :: .un :: .un :: .un :: .un :: .un :: .un :: .un :: .un :: .un :: .un :: .un :: .un :: .un :: .un :: .un :: .un :: .un :: .un :: .un :: .un :: .un :: .un :: .un :: .un :: .un :: .un :: .un :: .un :: .un :: .un :: .un :: .un :: [])) (fun y9 => [some ⟨41, 10, [[.ms 1, .ms 2, vi s0.2.1, .ms 3, .ms 4, .ms 5, vi s0.2.2.1, .ms 8, .ms 7, vi s0.2.2.2.1]]⟩, some ⟨67, 6, s0.2.2.2.2.1.map cLeg⟩, some ⟨3, 1, s0.2.2.2.2.2.1.map cInt⟩, some ⟨62, 11, y9.map cOrder⟩, some ⟨135, 4, s0.2.2.2.2.2.2.2.1.map cBooking⟩, some ⟨55, 2, s0.2.2.2.2.2.2.2.2.1.map cTrip⟩, none, some ⟨3, 1, s0.2.2.2.2.2.2.2.2.2.1.map cInt⟩, some ⟨130, 6, s0.2.2.2.2.2.2.2.2.2.2.map cScan⟩, some ⟨35, 3, [[.ms 1, .ms 2, vi w.network.change]]⟩, some ⟨55, 2, [[vi y5.leg, vi y5.day]]⟩])).bind fun y9 =>
 (rhoM [0, 1, 2, 3, 4, 5, 8, 7]).bind fun _ =>
 (m_p0_impl_makeScan (⟨(⟨s0.2.2.2.2.1, s0.2.2.2.2.2.1, s0.2.1⟩ : YNetwork), y9, s0.2.2.2.2.2.2.2.1, s0.2.2.2.2.2.2.2.2.1, s0.2.2.1, s0.2.2.2.2.2.2.2.2.2.2, s0.2.2.2.2.2.2.2.2.2.1, s0.2.2.2.1⟩ : YWorld) (⟨(w64 (s0.1 + 1)), at1_, 2, ⟨#[]⟩, y5⟩ : YScan)).bind fun y10 =>
 (rgI y10.orders s0.1).bind fun y11 =>
 cond (decide (y11.place = y11.to_))
 ((frzL (y10.orders.set (Int.toNat s0.1) (⟨y11.from_, y11.to_, y11.service, y11.weight, y11.at_, y11.due, y11.way, y11.gone, 3, y11.place, at1_⟩ : YOrder)) (fun y12 => (.be 0 0 0 :: vi at1_ :: .un :: .un :: .be 9 0 0 :: vi s0.1 :: .be 3 (Int.toNat s0.1) 0 :: .un :: .un :: .un :: .un :: .un :: .un :: .un :: .un :: .un :: .un :: .un :: vi (w.orders.length : Int) :: vi s0.1 :: .un :: .un :: .un :: .un :: .un :: .un :: .un :: .un :: .un :: .un :: .un :: .un :: .un :: .un :: .un :: .un :: .un :: .un :: .un :: .un :: .un :: .un :: .un :: .un :: .un :: .un :: .un :: .un :: .un :: .un :: .un :: .un :: .un :: .un :: .un :: .un :: .un :: .un :: .un :: .un :: .un :: .un :: .un :: .un :: .un :: .un :: .un :: .un :: .un :: .un :: .un :: .un :: .un :: .un :: .un :: .un :: .un :: .un :: .un :: .un :: .un :: .un :: .un :: .un :: .un :: .un :: .un :: .un :: .un :: .un :: .un :: .un :: .un :: .un :: .un :: .un :: .un :: .un :: .un :: .un :: .un :: .un :: .un :: .un :: .un :: .un :: .un :: .un :: .un :: .un :: .un :: .un :: .un :: .un :: .un :: .un :: .un :: .un :: .un :: .un :: .un :: .un :: .un :: .un :: .un :: .un :: .un :: .un :: .un :: .un :: .un :: .un :: .un :: .un :: .un :: .un :: .un :: .un :: .un :: .un :: .un :: .un :: .un :: .un :: .un :: .un :: .un :: .un :: .un :: .un :: .un :: .un :: .un :: .un :: .un :: .un :: .un :: .un :: .un :: .un :: .un :: .un :: .un :: .un :: .un :: .un :: .un :: .un :: .un :: .un :: .un :: .un :: .un :: .un :: .un :: .un :: .un :: .un :: .un :: .un :: .un :: .un :: .un :: .un :: .un :: .un :: .un :: [])) (fun y12 => [some ⟨41, 10, [[.ms 1, .ms 2, vi y10.network.change, .ms 3, .ms 4, .ms 5, vi y10.now, .ms 8, .ms 7, vi y10.made]]⟩, some ⟨67, 6, y10.network.legs.map cLeg⟩, some ⟨3, 1, y10.network.off.map cInt⟩, some ⟨62, 11, y12.map cOrder⟩, some ⟨135, 4, y10.bookings.map cBooking⟩, some ⟨55, 2, y10.closed.map cTrip⟩, none, some ⟨3, 1, y10.skip.map cInt⟩, some ⟨130, 6, y10.scans.map cScan⟩, some ⟨35, 3, [[.ms 1, .ms 2, vi w.network.change]]⟩])).bind fun y12 =>
 (rgI y12 s0.1).bind fun y13 =>
 (rhoM [0, 1, 2, 3, 4, 5, 8, 7]).bind fun _ =>
 (m_p0_impl_makeScan (⟨y10.network, y12, y10.bookings, y10.closed, y10.now, y10.scans, y10.skip, y10.made⟩ : YWorld) (⟨(w64 (s0.1 + 1)), at1_, 4, y13.place, (⟨0, 0⟩ : YTrip)⟩ : YScan)).bind fun y14 =>
 some (.inl ((w64 (s0.1 + 1)), y14.network.change, y14.now, y14.made, y14.network.legs, y14.network.off, y14.orders, y14.bookings, y14.closed, y14.skip, y14.scans)))
 (some (.inl ((w64 (s0.1 + 1)), y10.network.change, y10.now, y10.made, y10.network.legs, y10.network.off, y10.orders, y10.bookings, y10.closed, y10.skip, y10.scans))))))
 (some (.inr (s0.2.1, s0.2.2.1, s0.2.2.2.1, s0.2.2.2.2.1, s0.2.2.2.2.2.1, s0.2.2.2.2.2.2.1, s0.2.2.2.2.2.2.2.1, s0.2.2.2.2.2.2.2.2.1, s0.2.2.2.2.2.2.2.2.2.1, s0.2.2.2.2.2.2.2.2.2.2)))
instance (w : YWorld) (at1_ : Int) : LoopE (m_p0_impl_happen_b0 w at1_) := ⟨fun s0 => (.be 0 0 0 :: vi at1_ :: .un :: .un :: .be 9 0 0 :: .un :: .un :: .un :: .un :: .un :: .un :: .un :: .un :: .un :: .un :: .un :: .un :: .un :: vi (w.orders.length : Int) :: vi s0.1 :: .un :: .un :: .un :: .un :: .un :: .un :: .un :: .un :: .un :: .un :: .un :: .un :: .un :: .un :: .un :: .un :: .un :: .un :: .un :: .un :: .un :: .un :: .un :: .un :: .un :: .un :: .un :: .un :: .un :: .un :: .un :: .un :: .un :: .un :: .un :: .un :: .un :: .un :: .un :: .un :: .un :: .un :: .un :: .un :: .un :: .un :: .un :: .un :: .un :: .un :: .un :: .un :: .un :: .un :: .un :: .un :: .un :: .un :: .un :: .un :: .un :: .un :: .un :: .un :: .un :: .un :: .un :: .un :: .un :: .un :: .un :: .un :: .un :: .un :: .un :: .un :: .un :: .un :: .un :: .un :: .un :: .un :: .un :: .un :: .un :: .un :: .un :: .un :: .un :: .un :: .un :: .un :: .un :: .un :: .un :: .un :: .un :: .un :: .un :: .un :: .un :: .un :: .un :: .un :: .un :: .un :: .un :: .un :: .un :: .un :: .un :: .un :: .un :: .un :: .un :: .un :: .un :: .un :: .un :: .un :: .un :: .un :: .un :: .un :: .un :: .un :: .un :: .un :: .un :: .un :: .un :: .un :: .un :: .un :: .un :: .un :: .un :: .un :: .un :: .un :: .un :: .un :: .un :: .un :: .un :: .un :: .un :: .un :: .un :: .un :: .un :: .un :: .un :: .un :: .un :: .un :: .un :: .un :: .un :: .un :: .un :: .un :: .un :: .un :: .un :: .un :: .un :: []), fun s0 => [some ⟨41, 10, [[.ms 1, .ms 2, vi s0.2.1, .ms 3, .ms 4, .ms 5, vi s0.2.2.1, .ms 8, .ms 7, vi s0.2.2.2.1]]⟩, some ⟨67, 6, s0.2.2.2.2.1.map cLeg⟩, some ⟨3, 1, s0.2.2.2.2.2.1.map cInt⟩, some ⟨62, 11, s0.2.2.2.2.2.2.1.map cOrder⟩, some ⟨135, 4, s0.2.2.2.2.2.2.2.1.map cBooking⟩, some ⟨55, 2, s0.2.2.2.2.2.2.2.2.1.map cTrip⟩, none, some ⟨3, 1, s0.2.2.2.2.2.2.2.2.2.1.map cInt⟩, some ⟨130, 6, s0.2.2.2.2.2.2.2.2.2.2.map cScan⟩, some ⟨35, 3, [[.ms 1, .ms 2, vi w.network.change]]⟩]⟩
def m_p0_impl_happen_b1 (w : YWorld) (at1_ : Int) (o0 : Int × Int × Int × (List YLeg) × (List Int) × (List YOrder) × (List YBooking) × (List YTrip) × (List Int) × (List YScan)) (s1 : Int × Int × Int × Int × (List YLeg) × (List Int) × (List YOrder) × (List YBooking) × (List YTrip) × (List Int) × (List YScan)) : Option ((Int × Int × Int × Int × (List YLeg) × (List Int) × (List YOrder) × (List YBooking) × (List YTrip) × (List Int) × (List YScan)) ⊕ (Int × Int × Int × (List YLeg) × (List Int) × (List YOrder) × (List YBooking) × (List YTrip) × (List Int) × (List YScan))) :=
 cond (decide (s1.1 < (o0.2.2.2.2.2.1.length : Int)))
 ((getI s1.2.2.2.2.2.2.1 s1.1).bind fun y15 =>
 cond (decide (y15.state = 1))
 (cond (decide (y15.gone < (y15.way.length : Int)))
 ((getI y15.way y15.gone).bind fun y16 =>
 (m_impl_starts (⟨s1.2.2.2.2.1, s1.2.2.2.2.2.1, w.network.change⟩ : YNetwork) y16).bind fun y17 =>
 cond (decide (y17 = at1_))
 ((rgI s1.2.2.2.2.2.2.1 s1.1).bind fun y18 =>
 (frzL (s1.2.2.2.2.2.2.1.set (Int.toNat s1.1) (⟨y18.from_, y18.to_, y18.service, y18.weight, y18.at_, y18.due, y18.way, y18.gone, 2, ⟨#[]⟩, y18.ended⟩ : YOrder)) (fun y19 => (.be 0 0 0 :: vi at1_ :: .un :: .un :: .be 9 0 0 :: .un :: .un :: .un :: vi s1.1 :: .be 3 (Int.toNat s1.1) 0 :: .un :: .un :: .un :: .un :: .un :: .un :: .un :: .un :: .un :: .un :: .un :: .un :: .un :: .un :: .un :: .un :: .un :: .un :: .un :: .un :: .un :: .un :: .un :: .un :: .un :: .un :: .un :: .un :: .un :: .un :: .un :: .un :: .un :: .un :: .un :: .un :: .un :: .un :: .un :: .un :: .un :: .un :: .un :: .un :: .un :: .un :: .un :: .un :: .un :: .un :: .un :: .un :: .un :: .un :: .un :: .un :: .un :: .un :: .un :: .un :: .un :: .un :: .un :: .un :: .un :: .un :: .un :: .un :: .un :: .un :: .un :: .un :: .un :: .un :: .un :: .un :: .un :: .un :: .un :: .un :: .un :: .un :: .un :: .un :: .un :: .un :: .un :: .un :: .un :: .un :: .un :: .un :: .un :: .un :: .un :: .un :: .un :: .un :: .un :: .un :: .un :: .un :: .un :: .un :: .un :: .un :: .un :: vi (o0.2.2.2.2.2.1.length : Int) :: vi s1.1 :: .un :: .un :: .un :: .un :: .un :: .un :: .un :: .un :: .un :: .un :: .un :: .un :: .un :: .un :: .un :: .un :: .un :: .un :: .un :: .un :: .un :: .un :: .un :: .un :: .un :: .un :: .un :: .un :: .un :: .un :: .un :: .un :: .un :: .un :: .un :: .un :: .un :: .un :: .un :: .un :: .un :: .un :: .un :: .un :: .un :: .un :: .un :: .un :: .un :: .un :: .un :: .un :: .un :: .un :: .un :: .un :: .un :: .un :: .un :: .un :: .un :: .un :: .un :: .un :: .un :: .un :: .un :: .un :: [])) (fun y19 => [some ⟨41, 10, [[.ms 1, .ms 2, vi s1.2.1, .ms 3, .ms 4, .ms 5, vi s1.2.2.1, .ms 8, .ms 7, vi s1.2.2.2.1]]⟩, some ⟨67, 6, s1.2.2.2.2.1.map cLeg⟩, some ⟨3, 1, s1.2.2.2.2.2.1.map cInt⟩, some ⟨62, 11, y19.map cOrder⟩, some ⟨135, 4, s1.2.2.2.2.2.2.2.1.map cBooking⟩, some ⟨55, 2, s1.2.2.2.2.2.2.2.2.1.map cTrip⟩, none, some ⟨3, 1, s1.2.2.2.2.2.2.2.2.2.1.map cInt⟩, some ⟨130, 6, s1.2.2.2.2.2.2.2.2.2.2.map cScan⟩, some ⟨35, 3, [[.ms 1, .ms 2, vi w.network.change]]⟩])).bind fun y19 =>
 (drwL 8 [15]).bind fun _ =>
 (rgI y19 s1.1).bind fun y20 =>
 (getI y20.way y20.gone).bind fun y21 =>
 (rhoM [0, 1, 2, 3, 4, 5, 8, 7]).bind fun _ =>
 (m_p0_impl_makeScan (⟨(⟨s1.2.2.2.2.1, s1.2.2.2.2.2.1, s1.2.1⟩ : YNetwork), y19, s1.2.2.2.2.2.2.2.1, s1.2.2.2.2.2.2.2.2.1, s1.2.2.1, s1.2.2.2.2.2.2.2.2.2.2, s1.2.2.2.2.2.2.2.2.2.1, s1.2.2.2.1⟩ : YWorld) (⟨(w64 (s1.1 + 1)), at1_, 3, ⟨#[]⟩, y21⟩ : YScan)).bind fun y22 =>
 some (.inl ((w64 (s1.1 + 1)), y22.network.change, y22.now, y22.made, y22.network.legs, y22.network.off, y22.orders, y22.bookings, y22.closed, y22.skip, y22.scans)))
 (some (.inl ((w64 (s1.1 + 1)), s1.2.1, s1.2.2.1, s1.2.2.2.1, s1.2.2.2.2.1, s1.2.2.2.2.2.1, s1.2.2.2.2.2.2.1, s1.2.2.2.2.2.2.2.1, s1.2.2.2.2.2.2.2.2.1, s1.2.2.2.2.2.2.2.2.2.1, s1.2.2.2.2.2.2.2.2.2.2))))
 (some (.inl ((w64 (s1.1 + 1)), s1.2.1, s1.2.2.1, s1.2.2.2.1, s1.2.2.2.2.1, s1.2.2.2.2.2.1, s1.2.2.2.2.2.2.1, s1.2.2.2.2.2.2.2.1, s1.2.2.2.2.2.2.2.2.1, s1.2.2.2.2.2.2.2.2.2.1, s1.2.2.2.2.2.2.2.2.2.2))))
 (some (.inl ((w64 (s1.1 + 1)), s1.2.1, s1.2.2.1, s1.2.2.2.1, s1.2.2.2.2.1, s1.2.2.2.2.2.1, s1.2.2.2.2.2.2.1, s1.2.2.2.2.2.2.2.1, s1.2.2.2.2.2.2.2.2.1, s1.2.2.2.2.2.2.2.2.2.1, s1.2.2.2.2.2.2.2.2.2.2))))
 (some (.inr (s1.2.1, s1.2.2.1, s1.2.2.2.1, s1.2.2.2.2.1, s1.2.2.2.2.2.1, s1.2.2.2.2.2.2.1, s1.2.2.2.2.2.2.2.1, s1.2.2.2.2.2.2.2.2.1, s1.2.2.2.2.2.2.2.2.2.1, s1.2.2.2.2.2.2.2.2.2.2)))
instance (w : YWorld) (at1_ : Int) (o0 : Int × Int × Int × (List YLeg) × (List Int) × (List YOrder) × (List YBooking) × (List YTrip) × (List Int) × (List YScan)) : LoopE (m_p0_impl_happen_b1 w at1_ o0) := ⟨fun s1 => (.be 0 0 0 :: vi at1_ :: .un :: .un :: .be 9 0 0 :: .un :: .un :: .un :: .un :: .un :: .un :: .un :: .un :: .un :: .un :: .un :: .un :: .un :: .un :: .un :: .un :: .un :: .un :: .un :: .un :: .un :: .un :: .un :: .un :: .un :: .un :: .un :: .un :: .un :: .un :: .un :: .un :: .un :: .un :: .un :: .un :: .un :: .un :: .un :: .un :: .un :: .un :: .un :: .un :: .un :: .un :: .un :: .un :: .un :: .un :: .un :: .un :: .un :: .un :: .un :: .un :: .un :: .un :: .un :: .un :: .un :: .un :: .un :: .un :: .un :: .un :: .un :: .un :: .un :: .un :: .un :: .un :: .un :: .un :: .un :: .un :: .un :: .un :: .un :: .un :: .un :: .un :: .un :: .un :: .un :: .un :: .un :: .un :: .un :: .un :: .un :: .un :: .un :: .un :: .un :: .un :: .un :: .un :: .un :: .un :: .un :: .un :: .un :: .un :: .un :: .un :: .un :: .un :: .un :: .un :: .un :: .un :: vi (o0.2.2.2.2.2.1.length : Int) :: vi s1.1 :: .un :: .un :: .un :: .un :: .un :: .un :: .un :: .un :: .un :: .un :: .un :: .un :: .un :: .un :: .un :: .un :: .un :: .un :: .un :: .un :: .un :: .un :: .un :: .un :: .un :: .un :: .un :: .un :: .un :: .un :: .un :: .un :: .un :: .un :: .un :: .un :: .un :: .un :: .un :: .un :: .un :: .un :: .un :: .un :: .un :: .un :: .un :: .un :: .un :: .un :: .un :: .un :: .un :: .un :: .un :: .un :: .un :: .un :: .un :: .un :: .un :: .un :: .un :: .un :: .un :: .un :: .un :: .un :: []), fun s1 => [some ⟨41, 10, [[.ms 1, .ms 2, vi s1.2.1, .ms 3, .ms 4, .ms 5, vi s1.2.2.1, .ms 8, .ms 7, vi s1.2.2.2.1]]⟩, some ⟨67, 6, s1.2.2.2.2.1.map cLeg⟩, some ⟨3, 1, s1.2.2.2.2.2.1.map cInt⟩, some ⟨62, 11, s1.2.2.2.2.2.2.1.map cOrder⟩, some ⟨135, 4, s1.2.2.2.2.2.2.2.1.map cBooking⟩, some ⟨55, 2, s1.2.2.2.2.2.2.2.2.1.map cTrip⟩, none, some ⟨3, 1, s1.2.2.2.2.2.2.2.2.2.1.map cInt⟩, some ⟨130, 6, s1.2.2.2.2.2.2.2.2.2.2.map cScan⟩, some ⟨35, 3, [[.ms 1, .ms 2, vi w.network.change]]⟩]⟩
def m_p0_impl_happen (w : YWorld) (at1_ : Int) : Option YWorld :=
 (iterF (m_p0_impl_happen_b0 w at1_) NN (0, w.network.change, w.now, w.made, w.network.legs, w.network.off, w.orders, w.bookings, w.closed, w.skip, w.scans)).bind (fun o0 =>
 (iterF (m_p0_impl_happen_b1 w at1_ o0) NN (0, o0.1, o0.2.1, o0.2.2.1, o0.2.2.2.1, o0.2.2.2.2.1, o0.2.2.2.2.2.1, o0.2.2.2.2.2.2.1, o0.2.2.2.2.2.2.2.1, o0.2.2.2.2.2.2.2.2.1, o0.2.2.2.2.2.2.2.2.2)).bind (fun o1 =>
 some (⟨(⟨o1.2.2.2.1, o1.2.2.2.2.1, o1.1⟩ : YNetwork), o1.2.2.2.2.2.1, o1.2.2.2.2.2.2.1, o1.2.2.2.2.2.2.2.1, at1_, o1.2.2.2.2.2.2.2.2.2, o1.2.2.2.2.2.2.2.2.1, o1.2.2.1⟩ : YWorld)))
theorem ok_p0_impl_happen (w : YWorld) (at1_ : Int) {r : YWorld} (H : m_p0_impl_happen w at1_ = some r) : CallM Tryz.prog 83 [.be 0 0 0, vi at1_] [some ⟨41, 10, [[.ms 1, .ms 2, vi w.network.change, .ms 3, .ms 4, .ms 5, vi w.now, .ms 6, .ms 7, vi w.made]]⟩, some ⟨67, 6, w.network.legs.map cLeg⟩, some ⟨3, 1, w.network.off.map cInt⟩, some ⟨62, 11, w.orders.map cOrder⟩, some ⟨135, 4, w.bookings.map cBooking⟩, some ⟨55, 2, w.closed.map cTrip⟩, some ⟨130, 6, w.scans.map cScan⟩, some ⟨3, 1, w.skip.map cInt⟩] (.tu []) [some ⟨41, 10, [[.ms 1, .ms 2, vi r.network.change, .ms 3, .ms 4, .ms 5, vi r.now, .ms 8, .ms 7, vi r.made]]⟩, some ⟨67, 6, r.network.legs.map cLeg⟩, some ⟨3, 1, r.network.off.map cInt⟩, some ⟨62, 11, r.orders.map cOrder⟩, some ⟨135, 4, r.bookings.map cBooking⟩, some ⟨55, 2, r.closed.map cTrip⟩, none, some ⟨3, 1, r.skip.map cInt⟩, some ⟨130, 6, r.scans.map cScan⟩] := by
  replace H := H0 H
  unfold m_p0_impl_happen at H
  refine callM_of Tryz.func83 rfl Tryz.ntmps83 Tryz.results83 fun Q hQ hQn => ?_
  exact wk2
instance (w : YWorld) (at1_ : Int) : CT Tryz.prog (m_p0_impl_happen w at1_) := ⟨83, [.be 0 0 0, vi at1_], [some ⟨41, 10, [[.ms 1, .ms 2, vi w.network.change, .ms 3, .ms 4, .ms 5, vi w.now, .ms 6, .ms 7, vi w.made]]⟩, some ⟨67, 6, w.network.legs.map cLeg⟩, some ⟨3, 1, w.network.off.map cInt⟩, some ⟨62, 11, w.orders.map cOrder⟩, some ⟨135, 4, w.bookings.map cBooking⟩, some ⟨55, 2, w.closed.map cTrip⟩, some ⟨130, 6, w.scans.map cScan⟩, some ⟨3, 1, w.skip.map cInt⟩], fun r => .tu [], fun r => [some ⟨41, 10, [[.ms 1, .ms 2, vi r.network.change, .ms 3, .ms 4, .ms 5, vi r.now, .ms 8, .ms 7, vi r.made]]⟩, some ⟨67, 6, r.network.legs.map cLeg⟩, some ⟨3, 1, r.network.off.map cInt⟩, some ⟨62, 11, r.orders.map cOrder⟩, some ⟨135, 4, r.bookings.map cBooking⟩, some ⟨55, 2, r.closed.map cTrip⟩, none, some ⟨3, 1, r.skip.map cInt⟩, some ⟨130, 6, r.scans.map cScan⟩], ok_p0_impl_happen w at1_⟩
def m_p0_spec_l10Scan (w : YWorld) (s : YScan) : Option YWorld :=
 cond (decide (w.made < 1000000000))
 ((m_spec_l1Has w.skip (w64 (w.made + 1))).bind fun y1 =>
 cond (!y1)
 (cond (decide ((w.scans.length : Int) < 200))
 ((chk (appOk ((w.scans : List YScan).length + ([s] : List YScan).length) 56)).bind fun _ =>
 some (⟨w.network, w.orders, w.bookings, w.closed, w.now, ((w.scans : List YScan) ++ [s]), w.skip, (w64 (w.made + 1))⟩ : YWorld))
 (some (⟨w.network, w.orders, w.bookings, w.closed, w.now, w.scans, w.skip, (w64 (w.made + 1))⟩ : YWorld)))
 (some (⟨w.network, w.orders, w.bookings, w.closed, w.now, w.scans, w.skip, (w64 (w.made + 1))⟩ : YWorld)))
 ((m_spec_l1Has w.skip w.made).bind fun y2 =>
 cond (!y2)
 (cond (decide ((w.scans.length : Int) < 200))
 ((chk (appOk ((w.scans : List YScan).length + ([s] : List YScan).length) 56)).bind fun _ =>
 some (⟨w.network, w.orders, w.bookings, w.closed, w.now, ((w.scans : List YScan) ++ [s]), w.skip, w.made⟩ : YWorld))
 (some w))
 (some w))
theorem ok_p0_spec_l10Scan (w : YWorld) (s : YScan) {r : YWorld} (H : m_p0_spec_l10Scan w s = some r) : CallM Tryz.prog 133 [.be 0 0 0, .ag (cScan s)] [some ⟨41, 10, [[.ms 1, .ms 2, vi w.network.change, .ms 3, .ms 4, .ms 5, vi w.now, .ms 6, .ms 7, vi w.made]]⟩, some ⟨67, 6, w.network.legs.map cLeg⟩, some ⟨3, 1, w.network.off.map cInt⟩, some ⟨62, 11, w.orders.map cOrder⟩, some ⟨135, 4, w.bookings.map cBooking⟩, some ⟨55, 2, w.closed.map cTrip⟩, some ⟨130, 6, w.scans.map cScan⟩, some ⟨3, 1, w.skip.map cInt⟩] (.tu []) [some ⟨41, 10, [[.ms 1, .ms 2, vi r.network.change, .ms 3, .ms 4, .ms 5, vi r.now, .ms 8, .ms 7, vi r.made]]⟩, some ⟨67, 6, r.network.legs.map cLeg⟩, some ⟨3, 1, r.network.off.map cInt⟩, some ⟨62, 11, r.orders.map cOrder⟩, some ⟨135, 4, r.bookings.map cBooking⟩, some ⟨55, 2, r.closed.map cTrip⟩, none, some ⟨3, 1, r.skip.map cInt⟩, some ⟨130, 6, r.scans.map cScan⟩] := by
  replace H := H0 H
  unfold m_p0_spec_l10Scan at H
  refine callM_of Tryz.func133 rfl Tryz.ntmps133 Tryz.results133 fun Q hQ hQn => ?_
  exact wk2
instance (w : YWorld) (s : YScan) : CT Tryz.prog (m_p0_spec_l10Scan w s) := ⟨133, [.be 0 0 0, .ag (cScan s)], [some ⟨41, 10, [[.ms 1, .ms 2, vi w.network.change, .ms 3, .ms 4, .ms 5, vi w.now, .ms 6, .ms 7, vi w.made]]⟩, some ⟨67, 6, w.network.legs.map cLeg⟩, some ⟨3, 1, w.network.off.map cInt⟩, some ⟨62, 11, w.orders.map cOrder⟩, some ⟨135, 4, w.bookings.map cBooking⟩, some ⟨55, 2, w.closed.map cTrip⟩, some ⟨130, 6, w.scans.map cScan⟩, some ⟨3, 1, w.skip.map cInt⟩], fun r => .tu [], fun r => [some ⟨41, 10, [[.ms 1, .ms 2, vi r.network.change, .ms 3, .ms 4, .ms 5, vi r.now, .ms 8, .ms 7, vi r.made]]⟩, some ⟨67, 6, r.network.legs.map cLeg⟩, some ⟨3, 1, r.network.off.map cInt⟩, some ⟨62, 11, r.orders.map cOrder⟩, some ⟨135, 4, r.bookings.map cBooking⟩, some ⟨55, 2, r.closed.map cTrip⟩, none, some ⟨3, 1, r.skip.map cInt⟩, some ⟨130, 6, r.scans.map cScan⟩], ok_p0_spec_l10Scan w s⟩
def m_p0_spec_l10At_b0 (at1_ : Int) (s0 : Int × Int × Int × Int × (List YLeg) × (List Int) × (List YOrder) × (List YBooking) × (List YTrip) × (List Int) × (List YScan)) : Option ((Int × Int × Int × Int × (List YLeg) × (List Int) × (List YOrder) × (List YBooking) × (List YTrip) × (List Int) × (List YScan)) ⊕ (Int × Int × Int × (List YLeg) × (List Int) × (List YOrder) × (List YBooking) × (List YTrip) × (List Int) × (List YScan))) :=
 cond (decide (s0.1 < (s0.2.2.2.2.2.2.1.length : Int)))
 ((getI s0.2.2.2.2.2.2.1 s0.1).bind fun y1 =>
 cond (!decide (y1.state = 2))
 (some (.inl ((w64 (s0.1 + 1)), s0.2.1, s0.2.2.1, s0.2.2.2.1, s0.2.2.2.2.1, s0.2.2.2.2.2.1, s0.2.2.2.2.2.2.1, s0.2.2.2.2.2.2.2.1, s0.2.2.2.2.2.2.2.2.1, s0.2.2.2.2.2.2.2.2.2.1, s0.2.2.2.2.2.2.2.2.2.2)))
 ((getI y1.way y1.gone).bind fun y2 =>
 (m_spec_l3Ends (⟨s0.2.2.2.2.1, s0.2.2.2.2.2.1, s0.2.1⟩ : YNetwork) y2).bind fun y3 =>
 cond (!decide (y3 = at1_))
 (some (.inl ((w64 (s0.1 + 1)), s0.2.1, s0.2.2.1, s0.2.2.2.1, s0.2.2.2.2.1, s0.2.2.2.2.2.1, s0.2.2.2.2.2.2.1, s0.2.2.2.2.2.2.2.1, s0.2.2.2.2.2.2.2.2.1, s0.2.2.2.2.2.2.2.2.2.1, s0.2.2.2.2.2.2.2.2.2.2)))
 ((getI y1.way y1.gone).bind fun y4 =>
 (rhoM [0, 1, 2, 3, 4, 5, 8, 7]).bind fun _ =>
 (m_p0_spec_l10Scan (⟨(⟨s0.2.2.2.2.1, s0.2.2.2.2.2.1, s0.2.1⟩ : YNetwork), s0.2.2.2.2.2.2.1, s0.2.2.2.2.2.2.2.1, s0.2.2.2.2.2.2.2.2.1, s0.2.2.1, s0.2.2.2.2.2.2.2.2.2.2, s0.2.2.2.2.2.2.2.2.2.1, s0.2.2.2.1⟩ : YWorld) (⟨(w64 (s0.1 + 1)), at1_, 2, ⟨#[]⟩, y4⟩ : YScan)).bind fun y5 =>
 (getI y1.way y1.gone).bind fun y6 =>
 (getI y5.network.legs y6.leg).bind fun y7 =>
 (getI y5.orders s0.1).bind fun y8 =>
 (getI y5.orders s0.1).bind fun y9 =>
 (getI y5.orders s0.1).bind fun y10 =>
 (getI y5.orders s0.1).bind fun y11 =>
 cond (decide (y7.to_ = y1.to_))
 ((getI y5.orders s0.1).bind fun y12 =>
 (getI y5.orders s0.1).bind fun y13 =>
 (frzL (y5.orders.set (Int.toNat s0.1) (⟨y8.from_, y8.to_, y8.service, y8.weight, y8.at_, y8.due, y8.way, (w64 (y1.gone + 1)), 3, y7.to_, at1_⟩ : YOrder)) (fun y14 => (.be 0 0 0 :: vi at1_ :: .un :: .un :: vi s0.1 :: .be 9 0 0 :: .un :: .un :: .un :: .un :: .un :: .un :: .un :: .un :: .un :: .un :: .un :: .un :: .un :: .un :: .un :: .un :: .un :: .un :: .un :: .un :: .un :: .un :: .un :: .un :: .un :: .un :: .un :: .un :: .un :: .un :: .un :: .un :: .un :: .un :: .un :: .un :: .un :: .un :: .un :: .un :: .un :: .un :: .un :: .un :: .un :: .un :: .un :: .un :: .un :: .un :: .un :: .un :: .un :: .un :: .un :: .un :: .un :: .un :: .un :: .un :: .un :: .un :: .un :: .un :: .un :: .un :: .un :: .un :: .un :: .un :: .un :: .un :: .un :: .un :: .un :: .un :: .un :: .un :: .un :: .un :: .un :: .un :: .un :: .un :: .un :: .un :: .un :: .un :: .un :: .un :: .un :: .un :: .un :: .un :: .un :: .un :: .un :: .un :: .un :: .un :: .un :: .un :: .un :: .un :: .un :: .un :: .un :: .un :: .un :: .un :: .un :: .un :: .un :: .un :: .un :: .un :: .un :: .un :: .un :: .un :: .un :: .un :: .un :: .un :: .un :: .un :: .un :: .un :: .un :: .un :: .un :: .un :: .un :: .un :: .un :: .un :: .un :: .un :: .un :: .un :: .un :: .un :: .un :: .un :: .un :: .un :: .un :: .un :: .un :: .un :: .un :: .un :: .un :: .un :: .un :: .un :: .un :: .un :: .un :: .un :: .un :: .un :: .un :: .un :: .un :: .un :: .un :: .un :: .un :: .un :: .un :: .un :: .un :: .un :: .un :: .un :: .un :: .un :: .un :: .un :: .un :: .un :: .un :: .un :: .un :: .un :: .un :: .un :: .un :: .un :: .un :: .un :: .un :: [])) (fun y14 => [some ⟨41, 10, [[.ms 1, .ms 2, vi y5.network.change, .ms 3, .ms 4, .ms 5, vi y5.now, .ms 8, .ms 7, vi y5.made]]⟩, some ⟨67, 6, y5.network.legs.map cLeg⟩, some ⟨3, 1, y5.network.off.map cInt⟩, some ⟨62, 11, y14.map cOrder⟩, some ⟨135, 4, y5.bookings.map cBooking⟩, some ⟨55, 2, y5.closed.map cTrip⟩, none, some ⟨3, 1, y5.skip.map cInt⟩, some ⟨130, 6, y5.scans.map cScan⟩, some ⟨62, 11, [[vs y1.from_, vs y1.to_, vi y1.service, vi y1.weight, vi y1.at_, vi y1.due, .sl (y1.way.map cTrip), vi y1.gone, vi y1.state, vs y1.place, vi y1.ended]]⟩])).bind fun y14 =>
 (rhoM [0, 1, 2, 3, 4, 5, 8, 7]).bind fun _ =>
 (m_p0_spec_l10Scan (⟨y5.network, y14, y5.bookings, y5.closed, y5.now, y5.scans, y5.skip, y5.made⟩ : YWorld) (⟨(w64 (s0.1 + 1)), at1_, 4, y1.to_, (⟨0, 0⟩ : YTrip)⟩ : YScan)).bind fun y15 =>
 some (.inl ((w64 (s0.1 + 1)), y15.network.change, y15.now, y15.made, y15.network.legs, y15.network.off, y15.orders, y15.bookings, y15.closed, y15.skip, y15.scans)))
 (some (.inl ((w64 (s0.1 + 1)), y5.network.change, y5.now, y5.made, y5.network.legs, y5.network.off, (y5.orders.set (Int.toNat s0.1) (⟨y8.from_, y8.to_, y8.service, y8.weight, y8.at_, y8.due, y8.way, (w64 (y1.gone + 1)), 1, y7.to_, y8.ended⟩ : YOrder)), y5.bookings, y5.closed, y5.skip, y5.scans))))))
 (some (.inr (s0.2.1, s0.2.2.1, s0.2.2.2.1, s0.2.2.2.2.1, s0.2.2.2.2.2.1, s0.2.2.2.2.2.2.1, s0.2.2.2.2.2.2.2.1, s0.2.2.2.2.2.2.2.2.1, s0.2.2.2.2.2.2.2.2.2.1, s0.2.2.2.2.2.2.2.2.2.2)))
instance (at1_ : Int) : LoopE (m_p0_spec_l10At_b0 at1_) := ⟨fun s0 => (.be 0 0 0 :: vi at1_ :: .un :: .un :: vi s0.1 :: .un :: .un :: .un :: .un :: .un :: .un :: .un :: .un :: .un :: .un :: .un :: .un :: .un :: .un :: .un :: .un :: .un :: .un :: .un :: .un :: .un :: .un :: .un :: .un :: .un :: .un :: .un :: .un :: .un :: .un :: .un :: .un :: .un :: .un :: .un :: .un :: .un :: .un :: .un :: .un :: .un :: .un :: .un :: .un :: .un :: .un :: .un :: .un :: .un :: .un :: .un :: .un :: .un :: .un :: .un :: .un :: .un :: .un :: .un :: .un :: .un :: .un :: .un :: .un :: .un :: .un :: .un :: .un :: .un :: .un :: .un :: .un :: .un :: .un :: .un :: .un :: .un :: .un :: .un :: .un :: .un :: .un :: .un :: .un :: .un :: .un :: .un :: .un :: .un :: .un :: .un :: .un :: .un :: .un :: .un :: .un :: .un :: .un :: .un :: .un :: .un :: .un :: .un :: .un :: .un :: .un :: .un :: .un :: .un :: .un :: .un :: .un :: .un :: .un :: .un :: .un :: .un :: .un :: .un :: .un :: .un :: .un :: .un :: .un :: .un :: .un :: .un :: .un :: .un :: .un :: .un :: .un :: .un :: .un :: .un :: .un :: .un :: .un :: .un :: .un :: .un :: .un :: .un :: .un :: .un :: .un :: .un :: .un :: .un :: .un :: .un :: .un :: .un :: .un :: .un :: .un :: .un :: .un :: .un :: .un :: .un :: .un :: .un :: .un :: .un :: .un :: .un :: .un :: .un :: .un :: .un :: .un :: .un :: .un :: .un :: .un :: .un :: .un :: .un :: .un :: .un :: .un :: .un :: .un :: .un :: .un :: .un :: .un :: .un :: .un :: .un :: .un :: .un :: .un :: []), fun s0 => [some ⟨41, 10, [[.ms 1, .ms 2, vi s0.2.1, .ms 3, .ms 4, .ms 5, vi s0.2.2.1, .ms 8, .ms 7, vi s0.2.2.2.1]]⟩, some ⟨67, 6, s0.2.2.2.2.1.map cLeg⟩, some ⟨3, 1, s0.2.2.2.2.2.1.map cInt⟩, some ⟨62, 11, s0.2.2.2.2.2.2.1.map cOrder⟩, some ⟨135, 4, s0.2.2.2.2.2.2.2.1.map cBooking⟩, some ⟨55, 2, s0.2.2.2.2.2.2.2.2.1.map cTrip⟩, none, some ⟨3, 1, s0.2.2.2.2.2.2.2.2.2.1.map cInt⟩, some ⟨130, 6, s0.2.2.2.2.2.2.2.2.2.2.map cScan⟩]⟩
def m_p0_spec_l10At_b1 (at1_ : Int) (s1 : Int × Int × Int × Int × (List YLeg) × (List Int) × (List YOrder) × (List YBooking) × (List YTrip) × (List Int) × (List YScan)) : Option ((Int × Int × Int × Int × (List YLeg) × (List Int) × (List YOrder) × (List YBooking) × (List YTrip) × (List Int) × (List YScan)) ⊕ (Int × Int × Int × (List YLeg) × (List Int) × (List YOrder) × (List YBooking) × (List YTrip) × (List Int) × (List YScan))) :=
 cond (decide (s1.1 < (s1.2.2.2.2.2.2.1.length : Int)))
 ((getI s1.2.2.2.2.2.2.1 s1.1).bind fun y16 =>
 cond (decide (y16.state = 1))
 (cond (decide (y16.gone < (y16.way.length : Int)))
 ((getI y16.way y16.gone).bind fun y17 =>
 (m_spec_l3Starts (⟨s1.2.2.2.2.1, s1.2.2.2.2.2.1, s1.2.1⟩ : YNetwork) y17).bind fun y18 =>
 cond (decide (y18 = at1_))
 ((getI s1.2.2.2.2.2.2.1 s1.1).bind fun y19 =>
 (getI s1.2.2.2.2.2.2.1 s1.1).bind fun y20 =>
 (frzL (s1.2.2.2.2.2.2.1.set (Int.toNat s1.1) (⟨y19.from_, y19.to_, y19.service, y19.weight, y19.at_, y19.due, y19.way, y19.gone, 2, ⟨#[]⟩, y19.ended⟩ : YOrder)) (fun y21 => (.be 0 0 0 :: vi at1_ :: .un :: .un :: .un :: .un :: vi s1.1 :: .be 9 0 0 :: .un :: .un :: .un :: .un :: .un :: .un :: .un :: .un :: .un :: .un :: .un :: .un :: .un :: .un :: .un :: .un :: .un :: .un :: .un :: .un :: .un :: .un :: .un :: .un :: .un :: .un :: .un :: .un :: .un :: .un :: .un :: .un :: .un :: .un :: .un :: .un :: .un :: .un :: .un :: .un :: .un :: .un :: .un :: .un :: .un :: .un :: .un :: .un :: .un :: .un :: .un :: .un :: .un :: .un :: .un :: .un :: .un :: .un :: .un :: .un :: .un :: .un :: .un :: .un :: .un :: .un :: .un :: .un :: .un :: .un :: .un :: .un :: .un :: .un :: .un :: .un :: .un :: .un :: .un :: .un :: .un :: .un :: .un :: .un :: .un :: .un :: .un :: .un :: .un :: .un :: .un :: .un :: .un :: .un :: .un :: .un :: .un :: .un :: .un :: .un :: .un :: .un :: .un :: .un :: .un :: .un :: .un :: .un :: .un :: .un :: .un :: .un :: .un :: .un :: .un :: .un :: .un :: .un :: .un :: .un :: .un :: .un :: .un :: .un :: .un :: .un :: .un :: .un :: .un :: .un :: .un :: .un :: .un :: .un :: .un :: .un :: .un :: .un :: .un :: .un :: .un :: .un :: .un :: .un :: .un :: .un :: .un :: .un :: .un :: .un :: .un :: .un :: .un :: .un :: .un :: .un :: .un :: .un :: .un :: .un :: .un :: .un :: .un :: .un :: .un :: .un :: .un :: .un :: .un :: .un :: .un :: .un :: .un :: .un :: .un :: .un :: .un :: .un :: .un :: .un :: .un :: .un :: .un :: .un :: .un :: .un :: .un :: .un :: .un :: .un :: .un :: [])) (fun y21 => [some ⟨41, 10, [[.ms 1, .ms 2, vi s1.2.1, .ms 3, .ms 4, .ms 5, vi s1.2.2.1, .ms 8, .ms 7, vi s1.2.2.2.1]]⟩, some ⟨67, 6, s1.2.2.2.2.1.map cLeg⟩, some ⟨3, 1, s1.2.2.2.2.2.1.map cInt⟩, some ⟨62, 11, y21.map cOrder⟩, some ⟨135, 4, s1.2.2.2.2.2.2.2.1.map cBooking⟩, some ⟨55, 2, s1.2.2.2.2.2.2.2.2.1.map cTrip⟩, none, some ⟨3, 1, s1.2.2.2.2.2.2.2.2.2.1.map cInt⟩, some ⟨130, 6, s1.2.2.2.2.2.2.2.2.2.2.map cScan⟩, some ⟨62, 11, [[vs y16.from_, vs y16.to_, vi y16.service, vi y16.weight, vi y16.at_, vi y16.due, .sl (y16.way.map cTrip), vi y16.gone, vi y16.state, vs y16.place, vi y16.ended]]⟩])).bind fun y21 =>
 (getI y16.way y16.gone).bind fun y22 =>
 (rhoM [0, 1, 2, 3, 4, 5, 8, 7]).bind fun _ =>
 (m_p0_spec_l10Scan (⟨(⟨s1.2.2.2.2.1, s1.2.2.2.2.2.1, s1.2.1⟩ : YNetwork), y21, s1.2.2.2.2.2.2.2.1, s1.2.2.2.2.2.2.2.2.1, s1.2.2.1, s1.2.2.2.2.2.2.2.2.2.2, s1.2.2.2.2.2.2.2.2.2.1, s1.2.2.2.1⟩ : YWorld) (⟨(w64 (s1.1 + 1)), at1_, 3, ⟨#[]⟩, y22⟩ : YScan)).bind fun y23 =>
 some (.inl ((w64 (s1.1 + 1)), y23.network.change, y23.now, y23.made, y23.network.legs, y23.network.off, y23.orders, y23.bookings, y23.closed, y23.skip, y23.scans)))
 (some (.inl ((w64 (s1.1 + 1)), s1.2.1, s1.2.2.1, s1.2.2.2.1, s1.2.2.2.2.1, s1.2.2.2.2.2.1, s1.2.2.2.2.2.2.1, s1.2.2.2.2.2.2.2.1, s1.2.2.2.2.2.2.2.2.1, s1.2.2.2.2.2.2.2.2.2.1, s1.2.2.2.2.2.2.2.2.2.2))))
 (some (.inl ((w64 (s1.1 + 1)), s1.2.1, s1.2.2.1, s1.2.2.2.1, s1.2.2.2.2.1, s1.2.2.2.2.2.1, s1.2.2.2.2.2.2.1, s1.2.2.2.2.2.2.2.1, s1.2.2.2.2.2.2.2.2.1, s1.2.2.2.2.2.2.2.2.2.1, s1.2.2.2.2.2.2.2.2.2.2))))
 (some (.inl ((w64 (s1.1 + 1)), s1.2.1, s1.2.2.1, s1.2.2.2.1, s1.2.2.2.2.1, s1.2.2.2.2.2.1, s1.2.2.2.2.2.2.1, s1.2.2.2.2.2.2.2.1, s1.2.2.2.2.2.2.2.2.1, s1.2.2.2.2.2.2.2.2.2.1, s1.2.2.2.2.2.2.2.2.2.2))))
 (some (.inr (s1.2.1, s1.2.2.1, s1.2.2.2.1, s1.2.2.2.2.1, s1.2.2.2.2.2.1, s1.2.2.2.2.2.2.1, s1.2.2.2.2.2.2.2.1, s1.2.2.2.2.2.2.2.2.1, s1.2.2.2.2.2.2.2.2.2.1, s1.2.2.2.2.2.2.2.2.2.2)))
instance (at1_ : Int) : LoopE (m_p0_spec_l10At_b1 at1_) := ⟨fun s1 => (.be 0 0 0 :: vi at1_ :: .un :: .un :: .un :: .un :: vi s1.1 :: .un :: .un :: .un :: .un :: .un :: .un :: .un :: .un :: .un :: .un :: .un :: .un :: .un :: .un :: .un :: .un :: .un :: .un :: .un :: .un :: .un :: .un :: .un :: .un :: .un :: .un :: .un :: .un :: .un :: .un :: .un :: .un :: .un :: .un :: .un :: .un :: .un :: .un :: .un :: .un :: .un :: .un :: .un :: .un :: .un :: .un :: .un :: .un :: .un :: .un :: .un :: .un :: .un :: .un :: .un :: .un :: .un :: .un :: .un :: .un :: .un :: .un :: .un :: .un :: .un :: .un :: .un :: .un :: .un :: .un :: .un :: .un :: .un :: .un :: .un :: .un :: .un :: .un :: .un :: .un :: .un :: .un :: .un :: .un :: .un :: .un :: .un :: .un :: .un :: .un :: .un :: .un :: .un :: .un :: .un :: .un :: .un :: .un :: .un :: .un :: .un :: .un :: .un :: .un :: .un :: .un :: .un :: .un :: .un :: .un :: .un :: .un :: .un :: .un :: .un :: .un :: .un :: .un :: .un :: .un :: .un :: .un :: .un :: .un :: .un :: .un :: .un :: .un :: .un :: .un :: .un :: .un :: .un :: .un :: .un :: .un :: .un :: .un :: .un :: .un :: .un :: .un :: .un :: .un :: .un :: .un :: .un :: .un :: .un :: .un :: .un :: .un :: .un :: .un :: .un :: .un :: .un :: .un :: .un :: .un :: .un :: .un :: .un :: .un :: .un :: .un :: .un :: .un :: .un :: .un :: .un :: .un :: .un :: .un :: .un :: .un :: .un :: .un :: .un :: .un :: .un :: .un :: .un :: .un :: .un :: .un :: .un :: .un :: .un :: .un :: .un :: .un :: []), fun s1 => [some ⟨41, 10, [[.ms 1, .ms 2, vi s1.2.1, .ms 3, .ms 4, .ms 5, vi s1.2.2.1, .ms 8, .ms 7, vi s1.2.2.2.1]]⟩, some ⟨67, 6, s1.2.2.2.2.1.map cLeg⟩, some ⟨3, 1, s1.2.2.2.2.2.1.map cInt⟩, some ⟨62, 11, s1.2.2.2.2.2.2.1.map cOrder⟩, some ⟨135, 4, s1.2.2.2.2.2.2.2.1.map cBooking⟩, some ⟨55, 2, s1.2.2.2.2.2.2.2.2.1.map cTrip⟩, none, some ⟨3, 1, s1.2.2.2.2.2.2.2.2.2.1.map cInt⟩, some ⟨130, 6, s1.2.2.2.2.2.2.2.2.2.2.map cScan⟩]⟩
def m_p0_spec_l10At (w : YWorld) (at1_ : Int) : Option YWorld :=
 (iterF (m_p0_spec_l10At_b0 at1_) NN (0, w.network.change, w.now, w.made, w.network.legs, w.network.off, w.orders, w.bookings, w.closed, w.skip, w.scans)).bind (fun o0 =>
 (iterF (m_p0_spec_l10At_b1 at1_) NN (0, o0.1, o0.2.1, o0.2.2.1, o0.2.2.2.1, o0.2.2.2.2.1, o0.2.2.2.2.2.1, o0.2.2.2.2.2.2.1, o0.2.2.2.2.2.2.2.1, o0.2.2.2.2.2.2.2.2.1, o0.2.2.2.2.2.2.2.2.2)).bind (fun o1 =>
 some (⟨(⟨o1.2.2.2.1, o1.2.2.2.2.1, o1.1⟩ : YNetwork), o1.2.2.2.2.2.1, o1.2.2.2.2.2.2.1, o1.2.2.2.2.2.2.2.1, at1_, o1.2.2.2.2.2.2.2.2.2, o1.2.2.2.2.2.2.2.2.1, o1.2.2.1⟩ : YWorld)))
theorem ok_p0_spec_l10At (w : YWorld) (at1_ : Int) {r : YWorld} (H : m_p0_spec_l10At w at1_ = some r) : CallM Tryz.prog 73 [.be 0 0 0, vi at1_] [some ⟨41, 10, [[.ms 1, .ms 2, vi w.network.change, .ms 3, .ms 4, .ms 5, vi w.now, .ms 6, .ms 7, vi w.made]]⟩, some ⟨67, 6, w.network.legs.map cLeg⟩, some ⟨3, 1, w.network.off.map cInt⟩, some ⟨62, 11, w.orders.map cOrder⟩, some ⟨135, 4, w.bookings.map cBooking⟩, some ⟨55, 2, w.closed.map cTrip⟩, some ⟨130, 6, w.scans.map cScan⟩, some ⟨3, 1, w.skip.map cInt⟩] (.tu []) [some ⟨41, 10, [[.ms 1, .ms 2, vi r.network.change, .ms 3, .ms 4, .ms 5, vi r.now, .ms 8, .ms 7, vi r.made]]⟩, some ⟨67, 6, r.network.legs.map cLeg⟩, some ⟨3, 1, r.network.off.map cInt⟩, some ⟨62, 11, r.orders.map cOrder⟩, some ⟨135, 4, r.bookings.map cBooking⟩, some ⟨55, 2, r.closed.map cTrip⟩, none, some ⟨3, 1, r.skip.map cInt⟩, some ⟨130, 6, r.scans.map cScan⟩] := by
  replace H := H0 H
  unfold m_p0_spec_l10At at H
  refine callM_of Tryz.func73 rfl Tryz.ntmps73 Tryz.results73 fun Q hQ hQn => ?_
  exact wk2
instance (w : YWorld) (at1_ : Int) : CT Tryz.prog (m_p0_spec_l10At w at1_) := ⟨73, [.be 0 0 0, vi at1_], [some ⟨41, 10, [[.ms 1, .ms 2, vi w.network.change, .ms 3, .ms 4, .ms 5, vi w.now, .ms 6, .ms 7, vi w.made]]⟩, some ⟨67, 6, w.network.legs.map cLeg⟩, some ⟨3, 1, w.network.off.map cInt⟩, some ⟨62, 11, w.orders.map cOrder⟩, some ⟨135, 4, w.bookings.map cBooking⟩, some ⟨55, 2, w.closed.map cTrip⟩, some ⟨130, 6, w.scans.map cScan⟩, some ⟨3, 1, w.skip.map cInt⟩], fun r => .tu [], fun r => [some ⟨41, 10, [[.ms 1, .ms 2, vi r.network.change, .ms 3, .ms 4, .ms 5, vi r.now, .ms 8, .ms 7, vi r.made]]⟩, some ⟨67, 6, r.network.legs.map cLeg⟩, some ⟨3, 1, r.network.off.map cInt⟩, some ⟨62, 11, r.orders.map cOrder⟩, some ⟨135, 4, r.bookings.map cBooking⟩, some ⟨55, 2, r.closed.map cTrip⟩, none, some ⟨3, 1, r.skip.map cInt⟩, some ⟨130, 6, r.scans.map cScan⟩], ok_p0_spec_l10At w at1_⟩
end Go.Proofs.YtmcdjilbkmhfoaaGreat
namespace Go.Proofs.YtmcdjilbkmhfoaaGreat
set_option maxRecDepth 10000
open Go.RowKit
set_option linter.unusedVariables false
set_option linter.unusedSimpArgs false
set_option linter.unusedSectionVars false
theorem hasInt_eq : @m_impl_hasInt = @m_spec_l1Has := rfl
def addScan (w : YWorld) (s : YScan) : YWorld := { w with scans := (mkScan w.skip (w.scans, w.made) s).1, made := (mkScan w.skip (w.scans, w.made) s).2 }
structure ScanInv (w : YWorld) : Prop where
  skip : w.skip.length ≤ 1048576
  len : w.scans.length ≤ 200
  made : 0 ≤ w.made ∧ w.made ≤ 1000000000
theorem app_ok1 {a b c : Nat} (h : a + b ≤ 1048576) (hc : c ≤ 1024) : chk (appOk (a + b) c) = some () := by
  refine chk_t ?_
  unfold appOk
  refine decide_eq_true ⟨by omega, ?_⟩
  have : (a + b) * c ≤ 1048576 * 1024 := Nat.mul_le_mul h hc
  omega
theorem ite_len {α : Type} {c : Prop} [Decidable c] {l : List α} {s : α} (h : c → l.length < 200) (h2 : l.length ≤ 200) : (if c then l ++ [s] else l).length ≤ 200 := by
  by_cases hc : c
  · have := h hc; rw [if_pos hc]; simp; omega
  · rw [if_neg hc]; exact h2
theorem addScan_inv {w : YWorld} (h : ScanInv w) (s : YScan) : ScanInv (addScan w s) := by
  obtain ⟨h1, h2, h3⟩ := h
  unfold addScan mkScan
  refine ⟨h1, ?_, ?_⟩
  · exact ite_len (fun h => h.2) h2
  · simp only
    split <;> omega
theorem scan_i {w : YWorld} (h : ScanInv w) (s : YScan) : m_p0_impl_makeScan w s = some (addScan w s) := by
  obtain ⟨h1, h2, h3⟩ := h
  have hw : w64 (w.made + 1) = w.made + 1 := w64_in (by omega)
  have hm : (if 1000000000 < w.made + 1 then 1000000000 else w.made + 1) = (if w.made < 1000000000 then w.made + 1 else w.made) := by split <;> split <;> omega
  have ha := app_ok1 (a := w.scans.length) (b := 1) (c := 56) (by omega) (by omega)
  unfold m_p0_impl_makeScan addScan mkScan
  rw [hw, hm, hasInt_eq, l1Has_v h1]
  simp only [Option.bind_some, List.length_cons, List.length_nil, Nat.zero_add, ha]
  cases hb : w.skip.any fun y => decide (y = if w.made < 1000000000 then w.made + 1 else w.made) with
  | true => simp
  | false =>
    by_cases hl : w.scans.length < 200
    · rw [decide_eq_true (show (w.scans.length : Int) < 200 by omega)]; simp [hl]
    · rw [decide_eq_false (show ¬ (w.scans.length : Int) < 200 by omega)]; simp [hl]
theorem scan_s {w : YWorld} (h : ScanInv w) (s : YScan) : m_p0_spec_l10Scan w s = some (addScan w s) := by
  obtain ⟨h1, h2, h3⟩ := h
  have hw : w64 (w.made + 1) = w.made + 1 := w64_in (by omega)
  have ha := app_ok1 (a := w.scans.length) (b := 1) (c := 56) (by omega) (by omega)
  unfold m_p0_spec_l10Scan addScan mkScan
  rw [hw]
  simp only [l1Has_v h1, Option.bind_some, List.length_cons, List.length_nil, Nat.zero_add, ha]
  by_cases hm : w.made < 1000000000
  · rw [decide_eq_true hm, cond_true]
    simp only [if_pos hm]
    cases hb : w.skip.any fun y => decide (y = w.made + 1) with
    | true => simp
    | false =>
      by_cases hl : w.scans.length < 200
      · rw [decide_eq_true (show (w.scans.length : Int) < 200 by omega)]; simp [hl]
      · rw [decide_eq_false (show ¬ (w.scans.length : Int) < 200 by omega)]; simp [hl]
  · rw [decide_eq_false hm, cond_false]
    simp only [if_neg hm]
    cases hb : w.skip.any fun y => decide (y = w.made) with
    | true => simp
    | false =>
      by_cases hl : w.scans.length < 200
      · rw [decide_eq_true (show (w.scans.length : Int) < 200 by omega)]; simp [hl]
      · rw [decide_eq_false (show ¬ (w.scans.length : Int) < 200 by omega)]; simp [hl]
abbrev OwT := Int × Int × Int × (List YLeg) × (List Int) × (List YOrder) × (List YBooking) × (List YTrip) × (List Int) × (List YScan)
def owT (w : YWorld) : OwT := (w.network.change, w.now, w.made, w.network.legs, w.network.off, w.orders, w.bookings, w.closed, w.skip, w.scans)
def twT (i : Int) (w : YWorld) : Int × OwT := (i, owT w)
def addScans (w : YWorld) (l : List YScan) : YWorld := l.foldl addScan w
theorem addScans_eq : ∀ (l : List YScan) (w : YWorld), addScans w l = { w with scans := (l.foldl (mkScan w.skip) (w.scans, w.made)).1, made := (l.foldl (mkScan w.skip) (w.scans, w.made)).2 }
  | [], w => rfl
  | s :: l, w => by
    show addScans (addScan w s) l = _
    rw [addScans_eq l (addScan w s)]
    rfl
def stepW (f : YOrder → YOrder) (g : Nat → YOrder → List YScan) (i : Nat) (o : YOrder) (w : YWorld) : YWorld := addScans { w with orders := w.orders.set i (f o) } (g i o)
def passW (f : YOrder → YOrder) (g : Nat → YOrder → List YScan) : Nat → List YOrder → YWorld → YWorld
  | _, [], w => w
  | i, o :: os, w => passW f g (i + 1) os (stepW f g i o w)
theorem stepW_eq (f : YOrder → YOrder) (g : Nat → YOrder → List YScan) (i : Nat) (o : YOrder) (w : YWorld) : stepW f g i o w = { w with orders := w.orders.set i (f o), scans := ((g i o).foldl (mkScan w.skip) (w.scans, w.made)).1, made := ((g i o).foldl (mkScan w.skip) (w.scans, w.made)).2 } := by
  unfold stepW; rw [addScans_eq]
theorem passW_eq (f : YOrder → YOrder) (g : Nat → YOrder → List YScan) : ∀ (os pre : List YOrder) (w : YWorld), w.orders = pre ++ os →
    passW f g pre.length os w = { w with orders := pre ++ os.map f, scans := ((scansOf g pre.length os).foldl (mkScan w.skip) (w.scans, w.made)).1, made := ((scansOf g pre.length os).foldl (mkScan w.skip) (w.scans, w.made)).2 }
  | [], pre, w, h => by simp only [passW, scansOf, List.map_nil, List.foldl_nil]; rw [← h]
  | o :: os, pre, w, h => by
    have hset : w.orders.set pre.length (f o) = (pre ++ [f o]) ++ os := by rw [h, List.set_append_right _ _ (Nat.le_refl _)]; simp
    have := passW_eq f g os (pre ++ [f o]) (stepW f g pre.length o w) (by rw [stepW_eq]; exact hset)
    simp only [List.length_append, List.length_cons, List.length_nil] at this
    show passW f g (pre.length + 1) os (stepW f g pre.length o w) = _
    rw [this, stepW_eq]
    simp only [scansOf, List.foldl_append, List.map_cons, List.append_assoc, List.cons_append, List.nil_append]
theorem loop_pass {f : YOrder → YOrder} {g : Nat → YOrder → List YScan} {body : Int × OwT → Option ((Int × OwT) ⊕ OwT)} {n : Nat} {Inv : YWorld → Prop} {Good : Nat → YOrder → Prop}
    (h1 : ∀ (i : Nat) (o : YOrder) (w : YWorld), w.orders.length = n → w.orders[i]? = some o → Inv w → Good i o → body (twT i w) = some (.inl (twT ((i + 1 : Nat) : Int) (stepW f g i o w))) ∧ Inv (stepW f g i o w))
    (h2 : ∀ w : YWorld, w.orders.length = n → body (twT n w) = some (.inr (owT w))) :
    ∀ (os : List YOrder) (i : Nat) (N : Nat) (w : YWorld), w.orders.drop i = os → w.orders.length = n → i ≤ n → os.length < N → Inv w → (∀ (j : Nat) (o : YOrder), os[j]? = some o → Good (i + j) o) → iterF body N (twT i w) = some (owT (passW f g i os w))
  | [], i, 0, w, _, _, _, hN, _, _ => by simp at hN
  | [], i, N + 1, w, hd, hl, hi, hN, hI, hG => by
    have : i = n := by have := congrArg List.length hd; simp at this; omega
    subst this
    simp only [iterF, h2 w hl, passW]
    rfl
  | o :: os, i, 0, w, _, _, _, hN, _, _ => by simp at hN
  | o :: os, i, N + 1, w, hd, hl, hi, hN, hI, hG => by
    have ho : w.orders[i]? = some o := by
      have := congrArg (fun l : List YOrder => l[0]?) hd
      simpa using this
    have hlt : i < w.orders.length := (List.getElem?_eq_some_iff.1 ho).1
    obtain ⟨e1, e2⟩ := h1 i o w hl ho hI (by simpa using hG 0 o rfl)
    have hor : (stepW f g i o w).orders = w.orders.set i (f o) := by rw [stepW_eq]
    simp only [iterF, e1, passW]
    refine loop_pass h1 h2 os (i + 1) N (stepW f g i o w) ?_ (by rw [hor, List.length_set]; exact hl) (by omega) (by simp at hN; omega) e2 fun j o' hj => ?_
    · rw [hor, List.drop_set]
      have : (w.orders.drop (i + 1)) = os := by
        have := congrArg (List.drop 1) hd
        simpa [List.drop_drop] using this
      rw [if_pos (by omega), this]
    · have := hG (j + 1) o' (by simpa using hj)
      rwa [show i + (j + 1) = i + 1 + j by omega] at this
structure PassInv (n : YNetwork) (k : Nat) (w : YWorld) : Prop where
  net : w.network = n
  scans : ScanInv w
  orders : w.orders.length ≤ 1048576
theorem addScans_inv : ∀ (l : List YScan) (w : YWorld), ScanInv w → ScanInv (addScans w l)
  | [], w, h => h
  | s :: l, w, h => addScans_inv l _ (addScan_inv h s)
theorem PassInv.step {n : YNetwork} {k : Nat} {w : YWorld} (h : PassInv n k w) (f : YOrder → YOrder) (g : Nat → YOrder → List YScan) (i : Nat) (o : YOrder) : PassInv n k (stepW f g i o w) := by
  have hs : ScanInv { w with orders := w.orders.set i (f o) } := ⟨h.scans.skip, h.scans.len, h.scans.made⟩
  have h1 := addScans_inv (g i o) _ hs
  rw [stepW_eq]
  unfold stepW at *
  rw [addScans_eq] at h1
  exact ⟨h.net, h1, by simp only [List.length_set]; exact h.orders⟩
structure PassOk (n : YNetwork) (o : YOrder) : Prop where
  gone : 0 ≤ o.gone ∧ o.gone ≤ o.way.length
  len : o.way.length ≤ 1048576
  trip : ∀ t ∈ o.way, tripB n t = true
  rides : o.state = 2 → o.gone < o.way.length
theorem set_same {α : Type} {xs : List α} {i : Nat} {x : α} (h : xs[i]? = some x) : xs.set i x = xs := by
  apply List.ext_getElem?
  intro j
  rw [List.getElem?_set]
  split
  · rename_i e; subst e
    split
    · exact h.symm
    · rename_i hl; exact absurd (List.getElem?_eq_some_iff.1 h).1 hl
  · rfl
theorem load_none {n : YNetwork} {at_ : Int} {i : Nat} {o : YOrder} (h : ¬ o.state = 1 ∨ o.way[o.gone.toNat]? = none ∨ ∃ t, o.way[o.gone.toNat]? = some t ∧ ¬ startV n t = at_) : loadV n at_ o = o ∧ loadsV n at_ i o = [] := by
  unfold loadV loadsV
  rcases h with h | h | ⟨t, h, h'⟩
  · cases o.way[o.gone.toNat]? with
    | none => exact ⟨rfl, rfl⟩
    | some t => simp [h]
  · rw [h]; exact ⟨rfl, rfl⟩
  · rw [h]; simp [h']
section
variable {n : YNetwork} (hf : NetFit n) (hn : m_spec_IsNetwork n = some true)
include hf hn
theorem pass1_i (w0 : YWorld) (h0 : w0.network = n) (hl0 : w0.orders.length ≤ 1048576) {at_ : Int} (i : Nat) (o : YOrder) (w : YWorld) (hl : w.orders.length = w0.orders.length) (ho : w.orders[i]? = some o) (hI : PassInv n 0 w) (hG : PassOk n o) :
    m_p0_impl_happen_b0 w0 at_ (twT i w) = some (.inl (twT ((i + 1 : Nat) : Int) (stepW (arriveV n at_) (dropsV n at_) i o w))) := by
  have hlt := (List.getElem?_eq_some_iff.1 ho).1
  have hgg := hG.gone
  have hg : getI w.orders (i : Int) = some o := by rw [getI_nat]; exact ho
  have hr : rgI w.orders (i : Int) = some o := hg
  have hi : w64 ((i : Int) + 1) = ((i + 1 : Nat) : Int) := w64_nat hlt (by have := hI.orders; omega)
  have hd : decide ((i : Int) < (w0.orders.length : Int)) = true := decide_eq_true (by omega)
  have hnet : (⟨w.network.legs, w.network.off, w0.network.change⟩ : YNetwork) = n := by rw [hI.net, h0]
  have hnet2 : (⟨w.network.legs, w.network.off, w.network.change⟩ : YNetwork) = n := hI.net
  unfold m_p0_impl_happen_b0 twT owT
  simp only [hd, cond_true, hg, Option.bind_some, hi, hnet, ends_eq]
  by_cases hs : o.state = 2
  · have hgl := hG.rides hs
    have hgt : o.gone.toNat < o.way.length := by omega
    have ht : o.way[o.gone.toNat]? = some o.way[o.gone.toNat] := List.getElem?_eq_getElem hgt
    generalize o.way[o.gone.toNat] = t at ht
    have hgw : getI o.way o.gone = some t := by unfold getI; rw [if_pos hG.gone.1]; exact ht
    have htb := hG.trip t (List.mem_of_getElem? ht)
    obtain ⟨y, hy, _⟩ := tripB_leg hf htb
    obtain ⟨t1, t2, t3, t4, t5⟩ := trip_time hf hn htb
    have hto : legTo n t = y.to_ := by unfold legTo; rw [hy]; rfl
    have hyl : getI w.network.legs t.leg = some y := by rw [hI.net]; exact hy
    have hw1 : w64 (o.gone + 1) = o.gone + 1 := w64_in (by have := hG.len; omega)
    simp only [decide_eq_true hs, Bool.not_true, cond_false, hgw, Option.bind_some, t2]
    by_cases he : endsV n t = at_
    · have inv1 : ∀ os : List YOrder, ScanInv { w with orders := os } := fun os => ⟨hI.scans.skip, hI.scans.len, hI.scans.made⟩
      have ea : arriveV n at_ o = arr1 n at_ o t := by unfold arriveV; rw [ht]; simp only [hs, he, and_self, if_true]
      have ed : dropsV n at_ i o = ⟨((i + 1 : Nat) : Int), at_, 2, ⟨#[]⟩, t⟩ :: (if legTo n t = o.to_ then [⟨((i + 1 : Nat) : Int), at_, 4, legTo n t, ⟨0, 0⟩⟩] else []) := by unfold dropsV; rw [ht]; simp only [hs, he, and_self, if_true]
      unfold stepW
      rw [ea, ed]
      unfold arr1
      simp only [decide_eq_true he, Bool.not_true, cond_false, hr, hgw, hyl, Option.bind_some, frzL, rhoM, hnet2, Int.toNat_natCast, hw1]
      rw [show (⟨n, w.orders.set i ⟨o.from_, o.to_, o.service, o.weight, o.at_, o.due, o.way, o.gone + 1, 1, y.to_, o.ended⟩, w.bookings, w.closed, w.now, w.scans, w.skip, w.made⟩ : YWorld) = { w with orders := w.orders.set i ⟨o.from_, o.to_, o.service, o.weight, o.at_, o.due, o.way, o.gone + 1, 1, y.to_, o.ended⟩ } by rw [← hI.net]]
      rw [scan_i (inv1 _)]
      have hlt' : i < (w.orders.set i (⟨o.from_, o.to_, o.service, o.weight, o.at_, o.due, o.way, o.gone + 1, 1, y.to_, o.ended⟩ : YOrder)).length := by rw [List.length_set]; exact hlt
      have hr2 : rgI (w.orders.set i (⟨o.from_, o.to_, o.service, o.weight, o.at_, o.due, o.way, o.gone + 1, 1, y.to_, o.ended⟩ : YOrder)) (i : Int) = some ⟨o.from_, o.to_, o.service, o.weight, o.at_, o.due, o.way, o.gone + 1, 1, y.to_, o.ended⟩ := by
        unfold rgI; rw [getI_nat, List.getElem?_set_self hlt]
      simp only [Option.bind_some, addScan, hr2, hto]
      by_cases hc : y.to_ = o.to_
      · have hr3 : rgI (w.orders.set i (⟨o.from_, o.to_, o.service, o.weight, o.at_, o.due, o.way, o.gone + 1, 3, y.to_, at_⟩ : YOrder)) (i : Int) = some ⟨o.from_, o.to_, o.service, o.weight, o.at_, o.due, o.way, o.gone + 1, 3, y.to_, at_⟩ := by
          unfold rgI; rw [getI_nat, List.getElem?_set_self hlt]
        simp only [decide_eq_true hc, cond_true, List.set_set, hr3, Option.bind_some]
        have inv2 := addScan_inv (inv1 (w.orders.set i ⟨o.from_, o.to_, o.service, o.weight, o.at_, o.due, o.way, o.gone + 1, 3, y.to_, at_⟩)) (⟨((i + 1 : Nat) : Int), at_, 2, ⟨#[]⟩, t⟩ : YScan)
        have e2 := scan_i inv2 ⟨((i + 1 : Nat) : Int), at_, 4, y.to_, ⟨0, 0⟩⟩
        unfold addScan at e2
        simp only at e2
        simp only [e2, Option.bind_some, if_pos hc, addScans, List.foldl_cons, List.foldl_nil, addScan]
      · simp only [decide_eq_false hc, cond_false, if_neg hc, addScans, List.foldl_cons, List.foldl_nil, addScan]
    · have ea : arriveV n at_ o = o := by unfold arriveV; rw [ht]; simp only [he, and_false, if_false]
      have ed : dropsV n at_ i o = [] := by unfold dropsV; rw [ht]; simp only [he, and_false, if_false]
      simp only [decide_eq_false he, Bool.not_false, cond_true, stepW, ea, ed, addScans, List.foldl_nil, set_same ho]
  · have ea : arriveV n at_ o = o := by
      unfold arriveV
      cases o.way[o.gone.toNat]? with
      | none => rfl
      | some t => simp [hs]
    have ed : dropsV n at_ i o = [] := by
      unfold dropsV
      cases o.way[o.gone.toNat]? with
      | none => rfl
      | some t => simp [hs]
    simp only [decide_eq_false hs, Bool.not_false, cond_true, stepW, ea, ed, addScans, List.foldl_nil, set_same ho]
theorem pass1_s {at_ : Int} (i : Nat) (o : YOrder) (w : YWorld) (ho : w.orders[i]? = some o) (hI : PassInv n 0 w) (hG : PassOk n o) :
    m_p0_spec_l10At_b0 at_ (twT i w) = some (.inl (twT ((i + 1 : Nat) : Int) (stepW (arriveV n at_) (dropsV n at_) i o w))) := by
  have hlt := (List.getElem?_eq_some_iff.1 ho).1
  have hgg := hG.gone
  have hg : getI w.orders (i : Int) = some o := by rw [getI_nat]; exact ho
  have hi : w64 ((i : Int) + 1) = ((i + 1 : Nat) : Int) := w64_nat hlt (by have := hI.orders; omega)
  have hd : decide ((i : Int) < (w.orders.length : Int)) = true := decide_eq_true (by omega)
  have hnet2 : (⟨w.network.legs, w.network.off, w.network.change⟩ : YNetwork) = n := hI.net
  unfold m_p0_spec_l10At_b0 twT owT
  simp only [hd, cond_true, hg, Option.bind_some, hi, hnet2]
  by_cases hs : o.state = 2
  · have hgl := hG.rides hs
    have hgt : o.gone.toNat < o.way.length := by omega
    have ht : o.way[o.gone.toNat]? = some o.way[o.gone.toNat] := List.getElem?_eq_getElem hgt
    generalize o.way[o.gone.toNat] = t at ht
    have hgw : getI o.way o.gone = some t := by unfold getI; rw [if_pos hG.gone.1]; exact ht
    have htb := hG.trip t (List.mem_of_getElem? ht)
    obtain ⟨y, hy, _⟩ := tripB_leg hf htb
    obtain ⟨t1, t2, t3, t4, t5⟩ := trip_time hf hn htb
    have hto : legTo n t = y.to_ := by unfold legTo; rw [hy]; rfl
    have hw1 : w64 (o.gone + 1) = o.gone + 1 := w64_in (by have := hG.len; omega)
    simp only [decide_eq_true hs, Bool.not_true, cond_false, hgw, Option.bind_some, t2]
    by_cases he : endsV n t = at_
    · have ea : arriveV n at_ o = arr1 n at_ o t := by unfold arriveV; rw [ht]; simp only [hs, he, and_self, if_true]
      have ed : dropsV n at_ i o = ⟨((i + 1 : Nat) : Int), at_, 2, ⟨#[]⟩, t⟩ :: (if legTo n t = o.to_ then [⟨((i + 1 : Nat) : Int), at_, 4, legTo n t, ⟨0, 0⟩⟩] else []) := by unfold dropsV; rw [ht]; simp only [hs, he, and_self, if_true]
      unfold stepW
      rw [ea, ed]
      unfold arr1
      simp only [decide_eq_true he, Bool.not_true, cond_false, Option.bind_some, frzL, rhoM, Int.toNat_natCast, hw1]
      have e1 := scan_s hI.scans ⟨((i + 1 : Nat) : Int), at_, 2, ⟨#[]⟩, t⟩
      have hw : w = ⟨n, w.orders, w.bookings, w.closed, w.now, w.scans, w.skip, w.made⟩ := by rw [← hI.net]
      rw [← hI.net] at hy
      rw [show (⟨n, w.orders, w.bookings, w.closed, w.now, w.scans, w.skip, w.made⟩ : YWorld) = w from hw.symm, e1]
      simp only [Option.bind_some, addScan, hg, hy, hto]
      by_cases hc : y.to_ = o.to_
      · have inv2 : ScanInv { addScan w ⟨((i + 1 : Nat) : Int), at_, 2, ⟨#[]⟩, t⟩ with orders := w.orders.set i ⟨o.from_, o.to_, o.service, o.weight, o.at_, o.due, o.way, o.gone + 1, 3, y.to_, at_⟩ } := by
          obtain ⟨a, b, c⟩ := addScan_inv hI.scans ⟨((i + 1 : Nat) : Int), at_, 2, ⟨#[]⟩, t⟩
          exact ⟨a, b, c⟩
        have e2 := scan_s inv2 ⟨((i + 1 : Nat) : Int), at_, 4, o.to_, ⟨0, 0⟩⟩
        unfold addScan at e2
        simp only at e2
        have hcd : decide (y.to_ = o.to_) = true := decide_eq_true hc
        simp only [hcd, cond_true, Option.bind_some, e2, if_pos hc, addScans, List.foldl_cons, List.foldl_nil, addScan]
        simp only [hc]
      · simp only [decide_eq_false hc, cond_false, if_neg hc, addScans, List.foldl_cons, List.foldl_nil, addScan]
    · have ea : arriveV n at_ o = o := by unfold arriveV; rw [ht]; simp only [he, and_false, if_false]
      have ed : dropsV n at_ i o = [] := by unfold dropsV; rw [ht]; simp only [he, and_false, if_false]
      simp only [decide_eq_false he, Bool.not_false, cond_true, stepW, ea, ed, addScans, List.foldl_nil, set_same ho]
  · have ea : arriveV n at_ o = o := by
      unfold arriveV
      cases o.way[o.gone.toNat]? with
      | none => rfl
      | some t => simp [hs]
    have ed : dropsV n at_ i o = [] := by
      unfold dropsV
      cases o.way[o.gone.toNat]? with
      | none => rfl
      | some t => simp [hs]
    simp only [decide_eq_false hs, Bool.not_false, cond_true, stepW, ea, ed, addScans, List.foldl_nil, set_same ho]
theorem pass2_i (w0 : YWorld) (h0 : w0.network = n) (o0 : OwT) {at_ : Int} (i : Nat) (o : YOrder) (w : YWorld) (hl : w.orders.length = o0.2.2.2.2.2.1.length) (ho : w.orders[i]? = some o) (hI : PassInv n 0 w) (hG : PassOk n o) :
    m_p0_impl_happen_b1 w0 at_ o0 (twT i w) = some (.inl (twT ((i + 1 : Nat) : Int) (stepW (loadV n at_) (loadsV n at_) i o w))) := by
  have hlt := (List.getElem?_eq_some_iff.1 ho).1
  have hgg := hG.gone
  have hg : getI w.orders (i : Int) = some o := by rw [getI_nat]; exact ho
  have hr : rgI w.orders (i : Int) = some o := hg
  have hi : w64 ((i : Int) + 1) = ((i + 1 : Nat) : Int) := w64_nat hlt (by have := hI.orders; omega)
  have hd : decide ((i : Int) < (o0.2.2.2.2.2.1.length : Int)) = true := decide_eq_true (by omega)
  have hnet : (⟨w.network.legs, w.network.off, w0.network.change⟩ : YNetwork) = n := by rw [hI.net, h0]
  have hnet2 : (⟨w.network.legs, w.network.off, w.network.change⟩ : YNetwork) = n := hI.net
  unfold m_p0_impl_happen_b1 twT owT
  simp only [hd, cond_true, hg, Option.bind_some, hi, hnet, starts_eq]
  by_cases hs : o.state = 1
  · by_cases hgl : o.gone < o.way.length
    · have hgt : o.gone.toNat < o.way.length := by omega
      have ht : o.way[o.gone.toNat]? = some o.way[o.gone.toNat] := List.getElem?_eq_getElem hgt
      generalize o.way[o.gone.toNat] = t at ht
      have hgw : getI o.way o.gone = some t := by unfold getI; rw [if_pos hG.gone.1]; exact ht
      have htb := hG.trip t (List.mem_of_getElem? ht)
      obtain ⟨t1, t2, t3, t4, t5⟩ := trip_time hf hn htb
      simp only [decide_eq_true hs, decide_eq_true hgl, cond_true, hgw, Option.bind_some, t1]
      by_cases he : startV n t = at_
      · have ea : loadV n at_ o = ⟨o.from_, o.to_, o.service, o.weight, o.at_, o.due, o.way, o.gone, 2, ⟨#[]⟩, o.ended⟩ := by unfold loadV; rw [ht]; simp only [hs, he, and_self, if_true]
        have ed : loadsV n at_ i o = [⟨((i + 1 : Nat) : Int), at_, 3, ⟨#[]⟩, t⟩] := by unfold loadsV; rw [ht]; simp only [hs, he, and_self, if_true]
        have hr2 : rgI (w.orders.set i (⟨o.from_, o.to_, o.service, o.weight, o.at_, o.due, o.way, o.gone, 2, ⟨#[]⟩, o.ended⟩ : YOrder)) (i : Int) = some ⟨o.from_, o.to_, o.service, o.weight, o.at_, o.due, o.way, o.gone, 2, ⟨#[]⟩, o.ended⟩ := by
          unfold rgI; rw [getI_nat, List.getElem?_set_self hlt]
        have inv1 : ScanInv { w with orders := w.orders.set i ⟨o.from_, o.to_, o.service, o.weight, o.at_, o.due, o.way, o.gone, 2, ⟨#[]⟩, o.ended⟩ } := ⟨hI.scans.skip, hI.scans.len, hI.scans.made⟩
        have e1 := scan_i inv1 ⟨((i + 1 : Nat) : Int), at_, 3, ⟨#[]⟩, t⟩
        have hnw : w.network = n := hI.net
        simp only [hnw] at e1
        unfold stepW
        rw [ea, ed]
        simp only [decide_eq_true he, cond_true, hr, Option.bind_some, frzL, rhoM, drwL, hnet2, Int.toNat_natCast, hr2, hgw, e1, addScans, List.foldl_cons, List.foldl_nil, addScan, hnw]
      · obtain ⟨ea, ed⟩ := load_none (n := n) (at_ := at_) (i := i) (.inr (.inr ⟨t, ht, he⟩))
        simp only [decide_eq_false he, cond_false, stepW, ea, ed, addScans, List.foldl_nil, set_same ho]
    · obtain ⟨ea, ed⟩ := load_none (n := n) (at_ := at_) (i := i) (o := o) (.inr (.inl (List.getElem?_eq_none (by omega))))
      simp only [decide_eq_true hs, decide_eq_false hgl, cond_true, cond_false, stepW, ea, ed, addScans, List.foldl_nil, set_same ho]
  · obtain ⟨ea, ed⟩ := load_none (n := n) (at_ := at_) (i := i) (o := o) (.inl hs)
    simp only [decide_eq_false hs, cond_false, stepW, ea, ed, addScans, List.foldl_nil, set_same ho]
theorem pass2_s {at_ : Int} (i : Nat) (o : YOrder) (w : YWorld) (ho : w.orders[i]? = some o) (hI : PassInv n 0 w) (hG : PassOk n o) :
    m_p0_spec_l10At_b1 at_ (twT i w) = some (.inl (twT ((i + 1 : Nat) : Int) (stepW (loadV n at_) (loadsV n at_) i o w))) := by
  have hlt := (List.getElem?_eq_some_iff.1 ho).1
  have hgg := hG.gone
  have hg : getI w.orders (i : Int) = some o := by rw [getI_nat]; exact ho
  have hi : w64 ((i : Int) + 1) = ((i + 1 : Nat) : Int) := w64_nat hlt (by have := hI.orders; omega)
  have hd : decide ((i : Int) < (w.orders.length : Int)) = true := decide_eq_true (by omega)
  have hnet2 : (⟨w.network.legs, w.network.off, w.network.change⟩ : YNetwork) = n := hI.net
  unfold m_p0_spec_l10At_b1 twT owT
  simp only [hd, cond_true, hg, Option.bind_some, hi, hnet2]
  by_cases hs : o.state = 1
  · by_cases hgl : o.gone < o.way.length
    · have hgt : o.gone.toNat < o.way.length := by omega
      have ht : o.way[o.gone.toNat]? = some o.way[o.gone.toNat] := List.getElem?_eq_getElem hgt
      generalize o.way[o.gone.toNat] = t at ht
      have hgw : getI o.way o.gone = some t := by unfold getI; rw [if_pos hG.gone.1]; exact ht
      have htb := hG.trip t (List.mem_of_getElem? ht)
      obtain ⟨t1, t2, t3, t4, t5⟩ := trip_time hf hn htb
      simp only [decide_eq_true hs, decide_eq_true hgl, cond_true, hgw, Option.bind_some, t1]
      by_cases he : startV n t = at_
      · have ea : loadV n at_ o = ⟨o.from_, o.to_, o.service, o.weight, o.at_, o.due, o.way, o.gone, 2, ⟨#[]⟩, o.ended⟩ := by unfold loadV; rw [ht]; simp only [hs, he, and_self, if_true]
        have ed : loadsV n at_ i o = [⟨((i + 1 : Nat) : Int), at_, 3, ⟨#[]⟩, t⟩] := by unfold loadsV; rw [ht]; simp only [hs, he, and_self, if_true]
        have inv1 : ScanInv { w with orders := w.orders.set i ⟨o.from_, o.to_, o.service, o.weight, o.at_, o.due, o.way, o.gone, 2, ⟨#[]⟩, o.ended⟩ } := ⟨hI.scans.skip, hI.scans.len, hI.scans.made⟩
        have e1 := scan_s inv1 ⟨((i + 1 : Nat) : Int), at_, 3, ⟨#[]⟩, t⟩
        have hnw : w.network = n := hI.net
        simp only [hnw] at e1
        unfold stepW
        rw [ea, ed]
        simp only [decide_eq_true he, cond_true, Option.bind_some, frzL, rhoM, drwL, hnet2, Int.toNat_natCast, hgw, e1, addScans, List.foldl_cons, List.foldl_nil, addScan, hnw]
      · obtain ⟨ea, ed⟩ := load_none (n := n) (at_ := at_) (i := i) (.inr (.inr ⟨t, ht, he⟩))
        simp only [decide_eq_false he, cond_false, stepW, ea, ed, addScans, List.foldl_nil, set_same ho]
    · obtain ⟨ea, ed⟩ := load_none (n := n) (at_ := at_) (i := i) (o := o) (.inr (.inl (List.getElem?_eq_none (by omega))))
      simp only [decide_eq_true hs, decide_eq_false hgl, cond_true, cond_false, stepW, ea, ed, addScans, List.foldl_nil, set_same ho]
  · obtain ⟨ea, ed⟩ := load_none (n := n) (at_ := at_) (i := i) (o := o) (.inl hs)
    simp only [decide_eq_false hs, cond_false, stepW, ea, ed, addScans, List.foldl_nil, set_same ho]
end
structure WorldPass (w : YWorld) : Prop where
  net : NetFit w.network
  isNet : m_spec_IsNetwork w.network = some true
  inv : PassInv w.network 0 w
  ord : ∀ o ∈ w.orders, PassOk w.network o
theorem passOk_same {n : YNetwork} {at_ : Int} {o : YOrder} (h : PassOk n o) : PassOk n (arriveV n at_ o) := by
  have hs := arrive_same n at_ o
  refine ⟨?_, by rw [hs.way]; exact h.len, by rw [hs.way]; exact h.trip, ?_⟩
  · rw [hs.way]
    have := h.gone
    unfold arriveV
    split
    · rename_i t ht
      have hlt := (List.getElem?_eq_some_iff.1 ht).1
      split
      · unfold arr1; split <;> (simp only; omega)
      · exact this
    · exact this
  · unfold arriveV
    split
    · split
      · unfold arr1; split <;> (intro h'; simp at h')
      · exact h.rides
    · exact h.rides
theorem happen_both {w : YWorld} (h : WorldPass w) (at_ : Int) : m_p0_impl_happen w at_ = some (happenV w at_) ∧ m_p0_spec_l10At w at_ = some (happenV w at_) := by
  have hlen := h.inv.orders
  have p1 : passW (arriveV w.network at_) (dropsV w.network at_) 0 w.orders w = { w with orders := w.orders.map (arriveV w.network at_), scans := ((scansOf (dropsV w.network at_) 0 w.orders).foldl (mkScan w.skip) (w.scans, w.made)).1, made := ((scansOf (dropsV w.network at_) 0 w.orders).foldl (mkScan w.skip) (w.scans, w.made)).2 } := by
    have := passW_eq (arriveV w.network at_) (dropsV w.network at_) w.orders [] w rfl
    simpa using this
  have i1 : PassInv w.network 0 (passW (arriveV w.network at_) (dropsV w.network at_) 0 w.orders w) := by
    have : ∀ (os : List YOrder) (i : Nat) (v : YWorld), PassInv w.network 0 v → PassInv w.network 0 (passW (arriveV w.network at_) (dropsV w.network at_) i os v) := by
      intro os
      induction os with
      | nil => intro i v hv; exact hv
      | cons o os ih => intro i v hv; exact ih (i + 1) _ (hv.step _ _ i o)
    exact this _ _ _ h.inv
  have o1 : (passW (arriveV w.network at_) (dropsV w.network at_) 0 w.orders w).orders = w.orders.map (arriveV w.network at_) := by rw [p1]
  have p2 := passW_eq (loadV w.network at_) (loadsV w.network at_) (w.orders.map (arriveV w.network at_)) [] (passW (arriveV w.network at_) (dropsV w.network at_) 0 w.orders w) (by rw [o1]; rfl)
  simp only [List.length_nil, List.nil_append] at p2
  have hgood : ∀ (j : Nat) (o : YOrder), w.orders[j]? = some o → PassOk w.network o := fun j o ho => h.ord o (List.mem_of_getElem? ho)
  have hgood2 : ∀ (j : Nat) (o : YOrder), (w.orders.map (arriveV w.network at_))[j]? = some o → PassOk w.network o := fun j o ho => by
    rw [List.getElem?_map] at ho
    obtain ⟨o0, h0, rfl⟩ := Option.map_eq_some_iff.1 ho
    exact passOk_same (hgood j o0 h0)
  have fin : ∀ v : YWorld, v = passW (loadV w.network at_) (loadsV w.network at_) 0 (w.orders.map (arriveV w.network at_)) (passW (arriveV w.network at_) (dropsV w.network at_) 0 w.orders w) → { v with now := at_ } = happenV w at_ := by
    rintro v rfl
    rw [p2, p1]
    unfold happenV scans1 stepV
    simp only [List.map_map, List.foldl_append]
    rfl
  constructor
  · unfold m_p0_impl_happen
    have l1 := loop_pass (f := arriveV w.network at_) (g := dropsV w.network at_) (body := m_p0_impl_happen_b0 w at_) (n := w.orders.length) (Inv := PassInv w.network 0) (Good := fun _ o => PassOk w.network o)
      (fun i o v hv ho hI hG => ⟨pass1_i h.net h.isNet w rfl hlen i o v hv ho hI hG, hI.step _ _ i o⟩)
      (fun v hv => by unfold m_p0_impl_happen_b0 twT owT; simp only [decide_eq_false (show ¬ (w.orders.length : Int) < (w.orders.length : Int) by omega), cond_false]) w.orders 0 NN w rfl rfl (Nat.zero_le _) (by unfold NN; omega) h.inv hgood
    have e1 : ((0 : Int), w.network.change, w.now, w.made, w.network.legs, w.network.off, w.orders, w.bookings, w.closed, w.skip, w.scans) = twT ((0 : Nat) : Int) w := rfl
    rw [e1, l1, Option.bind_some]
    generalize hv1 : passW (arriveV w.network at_) (dropsV w.network at_) 0 w.orders w = v1 at *
    have hl2 : v1.orders.length = w.orders.length := by rw [o1, List.length_map]
    have l2 := loop_pass (f := loadV w.network at_) (g := loadsV w.network at_) (body := m_p0_impl_happen_b1 w at_ (owT v1)) (n := v1.orders.length) (Inv := PassInv w.network 0) (Good := fun _ o => PassOk w.network o)
      (fun i o v hv ho hI hG => ⟨pass2_i h.net h.isNet w rfl (owT v1) i o v hv ho hI hG, hI.step _ _ i o⟩)
      (fun v hv => by unfold m_p0_impl_happen_b1 twT owT; simp only [decide_eq_false (show ¬ (v1.orders.length : Int) < (v1.orders.length : Int) by omega), cond_false]) (w.orders.map (arriveV w.network at_)) 0 NN v1 (by rw [o1]; rfl) rfl (Nat.zero_le _) (by rw [List.length_map]; unfold NN; omega) i1 hgood2
    have e2 : ((0 : Int), (owT v1).1, (owT v1).2.1, (owT v1).2.2.1, (owT v1).2.2.2.1, (owT v1).2.2.2.2.1, (owT v1).2.2.2.2.2.1, (owT v1).2.2.2.2.2.2.1, (owT v1).2.2.2.2.2.2.2.1, (owT v1).2.2.2.2.2.2.2.2.1, (owT v1).2.2.2.2.2.2.2.2.2) = twT ((0 : Nat) : Int) v1 := rfl
    rw [e2, l2, Option.bind_some]
    exact congrArg some (fin _ rfl)
  · unfold m_p0_spec_l10At
    have l1 := loop_pass (f := arriveV w.network at_) (g := dropsV w.network at_) (body := m_p0_spec_l10At_b0 at_) (n := w.orders.length) (Inv := PassInv w.network 0) (Good := fun _ o => PassOk w.network o)
      (fun i o v hv ho hI hG => ⟨pass1_s h.net h.isNet i o v ho hI hG, hI.step _ _ i o⟩)
      (fun v hv => by unfold m_p0_spec_l10At_b0 twT owT; simp only [decide_eq_false (show ¬ (w.orders.length : Int) < (v.orders.length : Int) by omega), cond_false]) w.orders 0 NN w rfl rfl (Nat.zero_le _) (by unfold NN; omega) h.inv hgood
    have e1 : ((0 : Int), w.network.change, w.now, w.made, w.network.legs, w.network.off, w.orders, w.bookings, w.closed, w.skip, w.scans) = twT ((0 : Nat) : Int) w := rfl
    rw [e1, l1, Option.bind_some]
    generalize hv1 : passW (arriveV w.network at_) (dropsV w.network at_) 0 w.orders w = v1 at *
    have l2 := loop_pass (f := loadV w.network at_) (g := loadsV w.network at_) (body := m_p0_spec_l10At_b1 at_) (n := v1.orders.length) (Inv := PassInv w.network 0) (Good := fun _ o => PassOk w.network o)
      (fun i o v hv ho hI hG => ⟨pass2_s h.net h.isNet i o v ho hI hG, hI.step _ _ i o⟩)
      (fun v hv => by unfold m_p0_spec_l10At_b1 twT owT; simp only [decide_eq_false (show ¬ (v1.orders.length : Int) < (v.orders.length : Int) by omega), cond_false]) (w.orders.map (arriveV w.network at_)) 0 NN v1 (by rw [o1]; rfl) rfl (Nat.zero_le _) (by rw [List.length_map]; unfold NN; omega) i1 hgood2
    have e2 : ((0 : Int), (owT v1).1, (owT v1).2.1, (owT v1).2.2.1, (owT v1).2.2.2.1, (owT v1).2.2.2.2.1, (owT v1).2.2.2.2.2.1, (owT v1).2.2.2.2.2.2.1, (owT v1).2.2.2.2.2.2.2.1, (owT v1).2.2.2.2.2.2.2.2.1, (owT v1).2.2.2.2.2.2.2.2.2) = twT ((0 : Nat) : Int) v1 := rfl
    rw [e2, l2, Option.bind_some]
    exact congrArg some (fin _ rfl)
end Go.Proofs.YtmcdjilbkmhfoaaGreat
namespace Go.Proofs.YtmcdjilbkmhfoaaGreat
set_option maxRecDepth 10000
open Go.RowKit
set_option linter.unusedVariables false
set_option maxHeartbeats 16000000
def m_o_impl_copyNetwork (n : YNetwork) : Option YNetwork :=
 (chk (appOk ((([] : List YLeg) : List YLeg).length + (n.legs : List YLeg).length) 64)).bind fun _ =>
 (chk (appOk ((([] : List Int) : List Int).length + (n.off : List Int).length) 8)).bind fun _ =>
 some (⟨((([] : List YLeg) : List YLeg) ++ n.legs), ((([] : List Int) : List Int) ++ n.off), n.change⟩ : YNetwork)
theorem ok_o_impl_copyNetwork (n : YNetwork) {r : YNetwork} (H : m_o_impl_copyNetwork n = some r) : CallM Tryz.prog 149 [.ag (cNetwork n)] [] (.ag [.ms 0, .ms 1, vi r.change]) [some ⟨67, 6, r.legs.map cLeg⟩, some ⟨3, 1, r.off.map cInt⟩] := by
  replace H := H0 H
  unfold m_o_impl_copyNetwork at H
  refine callM_of Tryz.func149 rfl Tryz.ntmps149 Tryz.results149 fun Q hQ hQn => ?_
  exact wk2
instance (n : YNetwork) : CT Tryz.prog (m_o_impl_copyNetwork n) := ⟨149, [.ag (cNetwork n)], [], fun r => .ag [.ms 0, .ms 1, vi r.change], fun r => [some ⟨67, 6, r.legs.map cLeg⟩, some ⟨3, 1, r.off.map cInt⟩], ok_o_impl_copyNetwork n⟩
def m_impl_copyBookings (l : List YBooking) : Option (List YBooking) :=
 (chk (appOk ((([] : List YBooking) : List YBooking).length + (l : List YBooking).length) 32)).bind fun _ =>
 some ((([] : List YBooking) : List YBooking) ++ l)
theorem ok_impl_copyBookings (l : List YBooking) {r : (List YBooking)} (H : m_impl_copyBookings l = some r) : CallM Tryz.prog 169 [.sl (l.map cBooking)] [] (.ms 0) [some ⟨135, 4, r.map cBooking⟩] := by
  replace H := H0 H
  unfold m_impl_copyBookings at H
  refine callM_of Tryz.func169 rfl Tryz.ntmps169 Tryz.results169 fun Q hQ hQn => ?_
  exact wk2
instance (l : List YBooking) : CT Tryz.prog (m_impl_copyBookings l) := ⟨169, [.sl (l.map cBooking)], [], fun r => .ms 0, fun r => [some ⟨135, 4, r.map cBooking⟩], ok_impl_copyBookings l⟩
def m_impl_copyTrips (l : List YTrip) : Option (List YTrip) :=
 (chk (appOk ((([] : List YTrip) : List YTrip).length + (l : List YTrip).length) 16)).bind fun _ =>
 some ((([] : List YTrip) : List YTrip) ++ l)
theorem ok_impl_copyTrips (l : List YTrip) {r : (List YTrip)} (H : m_impl_copyTrips l = some r) : CallM Tryz.prog 137 [.sl (l.map cTrip)] [] (.ms 0) [some ⟨55, 2, r.map cTrip⟩] := by
  replace H := H0 H
  unfold m_impl_copyTrips at H
  refine callM_of Tryz.func137 rfl Tryz.ntmps137 Tryz.results137 fun Q hQ hQn => ?_
  exact wk2
instance (l : List YTrip) : CT Tryz.prog (m_impl_copyTrips l) := ⟨137, [.sl (l.map cTrip)], [], fun r => .ms 0, fun r => [some ⟨55, 2, r.map cTrip⟩], ok_impl_copyTrips l⟩
def m_o_impl_copyWorld_b0 (w : YWorld) (y1 : YNetwork) (y2 : (List YBooking)) (y3 : (List YTrip)) (s0 : Int × (List YOrder)) : Option ((Int × (List YOrder)) ⊕ (List YOrder)) :=
 cond (decide (s0.1 < (w.orders.length : Int)))
 ((getI w.orders s0.1).bind fun y4 =>
 (m_impl_copyTrips y4.way).bind fun y5 =>
 (frz [.un, .un, .be 0 0 0, .be 1 0 0, .un, .be 9 0 0, .un, .un, .un, .un, .un, .un, .un, .un, .un, .un, .un, .un, .un, .un, .un, .un, .un, .un, .un, .un, .un, .un, .un, .sl (w.orders.map cOrder), vi (w.orders.length : Int), vi s0.1, .un, .un, .un, .un, .un, .un, .un, .un, .un, .un, .un, .un, .un, .un, .un] [some ⟨41, 10, [[.v (.slice none 0 0), .v (.slice none 0 0), vi 0, .v (.slice none 0 0), .v (.slice none 0 0), .v (.slice none 0 0), vi 0, .v (.slice none 0 0), .v (.slice none 0 0), vi 0]]⟩, some ⟨41, 10, [[.ms 2, .ms 3, vi y1.change, .ms 4, .ms 5, .ms 6, vi w.now, .ms 7, .ms 8, vi w.made]]⟩, some ⟨67, 6, y1.legs.map cLeg⟩, some ⟨3, 1, y1.off.map cInt⟩, some ⟨62, 11, s0.2.map cOrder⟩, some ⟨135, 4, y2.map cBooking⟩, some ⟨55, 2, y3.map cTrip⟩, some ⟨130, 6, ((([] : List YScan) : List YScan) ++ w.scans).map cScan⟩, some ⟨3, 1, ((([] : List Int) : List Int) ++ w.skip).map cInt⟩, some ⟨62, 11, [[vs y4.from_, vs y4.to_, vi y4.service, vi y4.weight, vi y4.at_, vi y4.due, .sl (y5.map cTrip), vi y4.gone, vi y4.state, vs y4.place, vi y4.ended]]⟩]).bind fun _ =>
 (chk (appOk ((s0.2 : List YOrder).length + ([(⟨y4.from_, y4.to_, y4.service, y4.weight, y4.at_, y4.due, y5, y4.gone, y4.state, y4.place, y4.ended⟩ : YOrder)] : List YOrder).length) 128)).bind fun _ =>
 some (.inl ((w64 (s0.1 + 1)), ((s0.2 : List YOrder) ++ [(⟨y4.from_, y4.to_, y4.service, y4.weight, y4.at_, y4.due, y5, y4.gone, y4.state, y4.place, y4.ended⟩ : YOrder)]))))
 (some (.inr s0.2))
instance (w : YWorld) (y1 : YNetwork) (y2 : (List YBooking)) (y3 : (List YTrip)) : LoopE (m_o_impl_copyWorld_b0 w y1 y2 y3) := ⟨fun s0 => [.un, .un, .be 0 0 0, .be 1 0 0, .un, .un, .un, .un, .un, .un, .un, .un, .un, .un, .un, .un, .un, .un, .un, .un, .un, .un, .un, .un, .un, .un, .un, .un, .un, .sl (w.orders.map cOrder), vi (w.orders.length : Int), vi s0.1, .un, .un, .un, .un, .un, .un, .un, .un, .un, .un, .un, .un, .un, .un, .un], fun s0 => [some ⟨41, 10, [[.v (.slice none 0 0), .v (.slice none 0 0), vi 0, .v (.slice none 0 0), .v (.slice none 0 0), .v (.slice none 0 0), vi 0, .v (.slice none 0 0), .v (.slice none 0 0), vi 0]]⟩, some ⟨41, 10, [[.ms 2, .ms 3, vi y1.change, .ms 4, .ms 5, .ms 6, vi w.now, .ms 7, .ms 8, vi w.made]]⟩, some ⟨67, 6, y1.legs.map cLeg⟩, some ⟨3, 1, y1.off.map cInt⟩, some ⟨62, 11, s0.2.map cOrder⟩, some ⟨135, 4, y2.map cBooking⟩, some ⟨55, 2, y3.map cTrip⟩, some ⟨130, 6, ((([] : List YScan) : List YScan) ++ w.scans).map cScan⟩, some ⟨3, 1, ((([] : List Int) : List Int) ++ w.skip).map cInt⟩]⟩
def m_o_impl_copyWorld (w : YWorld) : Option YWorld :=
 (m_o_impl_copyNetwork w.network).bind fun y1 =>
 (m_impl_copyBookings w.bookings).bind fun y2 =>
 (m_impl_copyTrips w.closed).bind fun y3 =>
 (chk (appOk ((([] : List YScan) : List YScan).length + (w.scans : List YScan).length) 56)).bind fun _ =>
 (chk (appOk ((([] : List Int) : List Int).length + (w.skip : List Int).length) 8)).bind fun _ =>
 (iterF (m_o_impl_copyWorld_b0 w y1 y2 y3) NN (0, [])).bind (fun o0 =>
 some (⟨y1, o0, y2, y3, w.now, ((([] : List YScan) : List YScan) ++ w.scans), ((([] : List Int) : List Int) ++ w.skip), w.made⟩ : YWorld))
theorem ok_o_impl_copyWorld (w : YWorld) {r : YWorld} (H : m_o_impl_copyWorld w = some r) : CallM Tryz.prog 80 [.ag (cWorld w)] [] (.ag [.ms 0, .ms 1, vi r.network.change, .ms 2, .ms 3, .ms 4, vi r.now, .ms 5, .ms 6, vi r.made]) [some ⟨67, 6, r.network.legs.map cLeg⟩, some ⟨3, 1, r.network.off.map cInt⟩, some ⟨62, 11, r.orders.map cOrder⟩, some ⟨135, 4, r.bookings.map cBooking⟩, some ⟨55, 2, r.closed.map cTrip⟩, some ⟨130, 6, r.scans.map cScan⟩, some ⟨3, 1, r.skip.map cInt⟩] := by
  replace H := H0 H
  unfold m_o_impl_copyWorld at H
  refine callM_of Tryz.func80 rfl Tryz.ntmps80 Tryz.results80 fun Q hQ hQn => ?_
  exact wk2
instance (w : YWorld) : CT Tryz.prog (m_o_impl_copyWorld w) := ⟨80, [.ag (cWorld w)], [], fun r => .ag [.ms 0, .ms 1, vi r.network.change, .ms 2, .ms 3, .ms 4, vi r.now, .ms 5, .ms 6, vi r.made], fun r => [some ⟨67, 6, r.network.legs.map cLeg⟩, some ⟨3, 1, r.network.off.map cInt⟩, some ⟨62, 11, r.orders.map cOrder⟩, some ⟨135, 4, r.bookings.map cBooking⟩, some ⟨55, 2, r.closed.map cTrip⟩, some ⟨130, 6, r.scans.map cScan⟩, some ⟨3, 1, r.skip.map cInt⟩], ok_o_impl_copyWorld w⟩
def m_impl_AdvanceTo_b0 (until_ : Int) (s0 : Int × Int × Int × Int × (List YLeg) × (List Int) × (List YOrder) × (List YBooking) × (List YTrip) × (List YScan) × (List Int)) : Option ((Int × Int × Int × Int × (List YLeg) × (List Int) × (List YOrder) × (List YBooking) × (List YTrip) × (List YScan) × (List Int)) ⊕ (Int × Int × Int × (List YLeg) × (List Int) × (List YOrder) × (List YBooking) × (List YTrip) × (List YScan) × (List Int))) :=
 cond (decide (0 ≤ s0.1))
 (cond (decide (s0.1 ≤ until_))
 ((rhoM [1, 2, 3, 4, 5, 6, 7, 8]).bind fun _ =>
 (m_p0_impl_happen (⟨(⟨s0.2.2.2.2.1, s0.2.2.2.2.2.1, s0.2.1⟩ : YNetwork), s0.2.2.2.2.2.2.1, s0.2.2.2.2.2.2.2.1, s0.2.2.2.2.2.2.2.2.1, s0.2.2.1, s0.2.2.2.2.2.2.2.2.2.1, s0.2.2.2.2.2.2.2.2.2.2, s0.2.2.2.1⟩ : YWorld) s0.1).bind fun y5 =>
 (m_impl_nextEvent y5).bind fun y6 =>
 some (.inl (y6, y5.network.change, y5.now, y5.made, y5.network.legs, y5.network.off, y5.orders, y5.bookings, y5.closed, y5.scans, y5.skip)))
 (some (.inr (s0.2.1, s0.2.2.1, s0.2.2.2.1, s0.2.2.2.2.1, s0.2.2.2.2.2.1, s0.2.2.2.2.2.2.1, s0.2.2.2.2.2.2.2.1, s0.2.2.2.2.2.2.2.2.1, s0.2.2.2.2.2.2.2.2.2.1, s0.2.2.2.2.2.2.2.2.2.2))))
 (some (.inr (s0.2.1, s0.2.2.1, s0.2.2.2.1, s0.2.2.2.2.1, s0.2.2.2.2.2.1, s0.2.2.2.2.2.2.1, s0.2.2.2.2.2.2.2.1, s0.2.2.2.2.2.2.2.2.1, s0.2.2.2.2.2.2.2.2.2.1, s0.2.2.2.2.2.2.2.2.2.2)))
instance (until_ : Int) : LoopE (m_impl_AdvanceTo_b0 until_) := ⟨fun s0 => [.un, vi until_, .un, .un, .be 0 0 0, .be 1 0 0, vi s0.1, .un, .un, .un, .un, .un, .un, .un, .un, .un, .un, .un, .un, .un, .un, .un, .un, .un, .un, .un, .un, .un, .un, .un, .un, .un, .un, .un, .un, .un], fun s0 => [some ⟨41, 10, [[.v (.slice none 0 0), .v (.slice none 0 0), vi 0, .v (.slice none 0 0), .v (.slice none 0 0), .v (.slice none 0 0), vi 0, .v (.slice none 0 0), .v (.slice none 0 0), vi 0]]⟩, some ⟨41, 10, [[.ms 2, .ms 3, vi s0.2.1, .ms 4, .ms 5, .ms 6, vi s0.2.2.1, .ms 7, .ms 8, vi s0.2.2.2.1]]⟩, some ⟨67, 6, s0.2.2.2.2.1.map cLeg⟩, some ⟨3, 1, s0.2.2.2.2.2.1.map cInt⟩, some ⟨62, 11, s0.2.2.2.2.2.2.1.map cOrder⟩, some ⟨135, 4, s0.2.2.2.2.2.2.2.1.map cBooking⟩, some ⟨55, 2, s0.2.2.2.2.2.2.2.2.1.map cTrip⟩, some ⟨130, 6, s0.2.2.2.2.2.2.2.2.2.1.map cScan⟩, some ⟨3, 1, s0.2.2.2.2.2.2.2.2.2.2.map cInt⟩]⟩
def m_impl_AdvanceTo (w : YWorld) (until_ : Int) : Option YWorld :=
 (m_o_impl_copyWorld w).bind fun y1 =>
 (m_impl_IsWorld w).bind fun y2 =>
 cond (!y2)
 (some y1)
 ((m_impl_within until_ w.now 100000).bind fun y3 =>
 cond (!y3)
 (some y1)
 ((m_impl_nextEvent y1).bind fun y4 =>
 (iterF (m_impl_AdvanceTo_b0 until_) NN (y4, y1.network.change, y1.now, y1.made, y1.network.legs, y1.network.off, y1.orders, y1.bookings, y1.closed, y1.scans, y1.skip)).bind (fun o0 =>
 some (⟨(⟨o0.2.2.2.1, o0.2.2.2.2.1, o0.1⟩ : YNetwork), o0.2.2.2.2.2.1, o0.2.2.2.2.2.2.1, o0.2.2.2.2.2.2.2.1, until_, o0.2.2.2.2.2.2.2.2.1, o0.2.2.2.2.2.2.2.2.2, o0.2.2.1⟩ : YWorld))))
theorem ok_impl_AdvanceTo (w : YWorld) (until_ : Int) {r : YWorld} (H : m_impl_AdvanceTo w until_ = some r) : CallM Tryz.prog 18 [.ag (cWorld w), vi until_] [] (.ag [.sl (r.network.legs.map cLeg), .sl (r.network.off.map cInt), vi r.network.change, .sl (r.orders.map cOrder), .sl (r.bookings.map cBooking), .sl (r.closed.map cTrip), vi r.now, .sl (r.scans.map cScan), .sl (r.skip.map cInt), vi r.made]) [] := by
  replace H := H0 H
  unfold m_impl_AdvanceTo at H
  refine callM_of Tryz.func18 rfl Tryz.ntmps18 Tryz.results18 fun Q hQ hQn => ?_
  exact wk2
instance (w : YWorld) (until_ : Int) : CT Tryz.prog (m_impl_AdvanceTo w until_) := ⟨18, [.ag (cWorld w), vi until_], [], fun r => .ag [.sl (r.network.legs.map cLeg), .sl (r.network.off.map cInt), vi r.network.change, .sl (r.orders.map cOrder), .sl (r.bookings.map cBooking), .sl (r.closed.map cTrip), vi r.now, .sl (r.scans.map cScan), .sl (r.skip.map cInt), vi r.made], fun r => [], ok_impl_AdvanceTo w until_⟩
def m_spec_l1Ints (l : List Int) : Option (List Int) :=
 (chk (appOk ((([] : List Int) : List Int).length + (l : List Int).length) 8)).bind fun _ =>
 some ((([] : List Int) : List Int) ++ l)
theorem ok_spec_l1Ints (l : List Int) {r : (List Int)} (H : m_spec_l1Ints l = some r) : CallM Tryz.prog 162 [.sl (l.map cInt)] [] (.ms 0) [some ⟨3, 1, r.map cInt⟩] := by
  replace H := H0 H
  unfold m_spec_l1Ints at H
  refine callM_of Tryz.func162 rfl Tryz.ntmps162 Tryz.results162 fun Q hQ hQn => ?_
  exact wk
instance (l : List Int) : CT Tryz.prog (m_spec_l1Ints l) := ⟨162, [.sl (l.map cInt)], [], fun r => .ms 0, fun r => [some ⟨3, 1, r.map cInt⟩], ok_spec_l1Ints l⟩
def m_spec_l6Copy (l : List YBooking) : Option (List YBooking) :=
 (chk (appOk ((([] : List YBooking) : List YBooking).length + (l : List YBooking).length) 32)).bind fun _ =>
 some ((([] : List YBooking) : List YBooking) ++ l)
theorem ok_spec_l6Copy (l : List YBooking) {r : (List YBooking)} (H : m_spec_l6Copy l = some r) : CallM Tryz.prog 163 [.sl (l.map cBooking)] [] (.ms 0) [some ⟨135, 4, r.map cBooking⟩] := by
  replace H := H0 H
  unfold m_spec_l6Copy at H
  refine callM_of Tryz.func163 rfl Tryz.ntmps163 Tryz.results163 fun Q hQ hQn => ?_
  exact wk
instance (l : List YBooking) : CT Tryz.prog (m_spec_l6Copy l) := ⟨163, [.sl (l.map cBooking)], [], fun r => .ms 0, fun r => [some ⟨135, 4, r.map cBooking⟩], ok_spec_l6Copy l⟩
def m_o_spec_l10Copy_b0 (w : YWorld) (y1 : (List Int)) (s0 : Int × (List YOrder)) : Option ((Int × (List YOrder)) ⊕ (List YOrder)) :=
 cond (decide (s0.1 < (w.orders.length : Int)))
 ((getI w.orders s0.1).bind fun y2 =>
 (chk (appOk ((([] : List YTrip) : List YTrip).length + (y2.way : List YTrip).length) 16)).bind fun _ =>
 (frz (.un :: .be 0 0 0 :: .be 1 0 0 :: .be 2 0 0 :: vi s0.1 :: .be 6 0 0 :: .un :: .un :: .un :: .un :: .un :: .un :: .un :: .un :: .un :: .un :: .un :: .un :: .un :: .un :: .un :: .un :: .un :: .un :: .un :: .un :: .un :: .un :: .un :: .un :: .un :: .un :: .un :: .un :: .un :: .un :: .un :: .un :: .un :: .un :: .un :: .un :: .un :: .un :: .un :: .un :: .un :: .un :: .un :: .un :: .un :: .un :: .un :: .un :: .un :: .un :: .un :: .un :: .un :: .un :: .un :: .un :: .un :: .un :: .un :: []) [some ⟨41, 10, [[.sl (w.network.legs.map cLeg), .sl (w.network.off.map cInt), vi w.network.change, .sl (w.orders.map cOrder), .sl (w.bookings.map cBooking), .sl (w.closed.map cTrip), vi w.now, .sl (w.scans.map cScan), .sl (w.skip.map cInt), vi w.made]]⟩, some ⟨41, 10, [[.v (.slice none 0 0), .v (.slice none 0 0), vi 0, .v (.slice none 0 0), .v (.slice none 0 0), .v (.slice none 0 0), vi 0, .v (.slice none 0 0), .v (.slice none 0 0), vi 0]]⟩, some ⟨41, 10, [[.ms 3, .ms 4, vi w.network.change, .ms 5, .sl (w.bookings.map cBooking), .sl (w.closed.map cTrip), vi w.now, .sl (w.scans.map cScan), .sl (w.skip.map cInt), vi w.made]]⟩, some ⟨67, 6, ((([] : List YLeg) : List YLeg) ++ w.network.legs).map cLeg⟩, some ⟨3, 1, y1.map cInt⟩, some ⟨62, 11, s0.2.map cOrder⟩, some ⟨62, 11, [[vs y2.from_, vs y2.to_, vi y2.service, vi y2.weight, vi y2.at_, vi y2.due, .sl (((([] : List YTrip) : List YTrip) ++ y2.way).map cTrip), vi y2.gone, vi y2.state, vs y2.place, vi y2.ended]]⟩]).bind fun _ =>
 (chk (appOk ((s0.2 : List YOrder).length + ([(⟨y2.from_, y2.to_, y2.service, y2.weight, y2.at_, y2.due, ((([] : List YTrip) : List YTrip) ++ y2.way), y2.gone, y2.state, y2.place, y2.ended⟩ : YOrder)] : List YOrder).length) 128)).bind fun _ =>
 some (.inl ((w64 (s0.1 + 1)), ((s0.2 : List YOrder) ++ [(⟨y2.from_, y2.to_, y2.service, y2.weight, y2.at_, y2.due, ((([] : List YTrip) : List YTrip) ++ y2.way), y2.gone, y2.state, y2.place, y2.ended⟩ : YOrder)]))))
 (some (.inr s0.2))
instance (w : YWorld) (y1 : (List Int)) : LoopE (m_o_spec_l10Copy_b0 w y1) := ⟨fun s0 => (.un :: .be 0 0 0 :: .be 1 0 0 :: .be 2 0 0 :: vi s0.1 :: .un :: .un :: .un :: .un :: .un :: .un :: .un :: .un :: .un :: .un :: .un :: .un :: .un :: .un :: .un :: .un :: .un :: .un :: .un :: .un :: .un :: .un :: .un :: .un :: .un :: .un :: .un :: .un :: .un :: .un :: .un :: .un :: .un :: .un :: .un :: .un :: .un :: .un :: .un :: .un :: .un :: .un :: .un :: .un :: .un :: .un :: .un :: .un :: .un :: .un :: .un :: .un :: .un :: .un :: .un :: .un :: .un :: .un :: .un :: .un :: []), fun s0 => [some ⟨41, 10, [[.sl (w.network.legs.map cLeg), .sl (w.network.off.map cInt), vi w.network.change, .sl (w.orders.map cOrder), .sl (w.bookings.map cBooking), .sl (w.closed.map cTrip), vi w.now, .sl (w.scans.map cScan), .sl (w.skip.map cInt), vi w.made]]⟩, some ⟨41, 10, [[.v (.slice none 0 0), .v (.slice none 0 0), vi 0, .v (.slice none 0 0), .v (.slice none 0 0), .v (.slice none 0 0), vi 0, .v (.slice none 0 0), .v (.slice none 0 0), vi 0]]⟩, some ⟨41, 10, [[.ms 3, .ms 4, vi w.network.change, .ms 5, .sl (w.bookings.map cBooking), .sl (w.closed.map cTrip), vi w.now, .sl (w.scans.map cScan), .sl (w.skip.map cInt), vi w.made]]⟩, some ⟨67, 6, ((([] : List YLeg) : List YLeg) ++ w.network.legs).map cLeg⟩, some ⟨3, 1, y1.map cInt⟩, some ⟨62, 11, s0.2.map cOrder⟩]⟩
def m_o_spec_l10Copy (w : YWorld) : Option YWorld :=
 (chk (appOk ((([] : List YLeg) : List YLeg).length + (w.network.legs : List YLeg).length) 64)).bind fun _ =>
 (m_spec_l1Ints w.network.off).bind fun y1 =>
 (iterF (m_o_spec_l10Copy_b0 w y1) NN (0, ([] : List YOrder))).bind (fun o0 =>
 (m_spec_l6Copy w.bookings).bind fun y3 =>
 (chk (appOk ((([] : List YTrip) : List YTrip).length + (w.closed : List YTrip).length) 16)).bind fun _ =>
 (chk (appOk ((([] : List YScan) : List YScan).length + (w.scans : List YScan).length) 56)).bind fun _ =>
 (m_spec_l1Ints w.skip).bind fun y4 =>
 some (⟨(⟨((([] : List YLeg) : List YLeg) ++ w.network.legs), y1, w.network.change⟩ : YNetwork), o0, y3, ((([] : List YTrip) : List YTrip) ++ w.closed), w.now, ((([] : List YScan) : List YScan) ++ w.scans), y4, w.made⟩ : YWorld))
theorem ok_o_spec_l10Copy (w : YWorld) {r : YWorld} (H : m_o_spec_l10Copy w = some r) : CallM Tryz.prog 70 [.ag (cWorld w)] [] (.ag [.ms 0, .ms 1, vi r.network.change, .ms 2, .ms 3, .ms 4, vi r.now, .ms 5, .ms 6, vi r.made]) [some ⟨67, 6, r.network.legs.map cLeg⟩, some ⟨3, 1, r.network.off.map cInt⟩, some ⟨62, 11, r.orders.map cOrder⟩, some ⟨135, 4, r.bookings.map cBooking⟩, some ⟨55, 2, r.closed.map cTrip⟩, some ⟨130, 6, r.scans.map cScan⟩, some ⟨3, 1, r.skip.map cInt⟩] := by
  replace H := H0 H
  unfold m_o_spec_l10Copy at H
  refine callM_of Tryz.func70 rfl Tryz.ntmps70 Tryz.results70 fun Q hQ hQn => ?_
  exact wk2
instance (w : YWorld) : CT Tryz.prog (m_o_spec_l10Copy w) := ⟨70, [.ag (cWorld w)], [], fun r => .ag [.ms 0, .ms 1, vi r.network.change, .ms 2, .ms 3, .ms 4, vi r.now, .ms 5, .ms 6, vi r.made], fun r => [some ⟨67, 6, r.network.legs.map cLeg⟩, some ⟨3, 1, r.network.off.map cInt⟩, some ⟨62, 11, r.orders.map cOrder⟩, some ⟨135, 4, r.bookings.map cBooking⟩, some ⟨55, 2, r.closed.map cTrip⟩, some ⟨130, 6, r.scans.map cScan⟩, some ⟨3, 1, r.skip.map cInt⟩], ok_o_spec_l10Copy w⟩
end Go.Proofs.YtmcdjilbkmhfoaaGreat
namespace Go.Proofs.YtmcdjilbkmhfoaaGreat
set_option maxRecDepth 10000
open Go.RowKit
set_option linter.unusedVariables false
set_option linter.unusedSimpArgs false
set_option linter.unusedSectionVars false
theorem iter_st0 {σ ο : Type} {body : σ → Option (σ ⊕ ο)} (S : Nat → σ) {n : Nat} {o : ο} (h1 : ∀ i, i < n → body (S i) = some (.inl (S (i + 1)))) (h2 : body (S n) = some (.inr o)) : ∀ N, n < N → iterF body N (S 0) = some o := by
  have key : ∀ d j, j + d = n → ∀ N, d < N → iterF body N (S j) = some o := by
    intro d
    induction d with
    | zero =>
      intro j hj N hN
      obtain ⟨N, rfl⟩ : ∃ M, N = M + 1 := ⟨N - 1, by omega⟩
      have : j = n := by omega
      subst this
      unfold iterF; rw [h2]; rfl
    | succ d ih =>
      intro j hj N hN
      obtain ⟨N, rfl⟩ : ∃ M, N = M + 1 := ⟨N - 1, by omega⟩
      unfold iterF
      rw [h1 j (by omega)]
      exact ih (j + 1) (by omega) N (by omega)
  intro N hN
  exact key n 0 (by omega) N hN
theorem runL_fold {A α : Type} (f : A → α → A) : ∀ (xs : List α) (i : Nat) (a : A), runL (fun _ a x => some (.inl (f a x) : A ⊕ A)) some i xs a = some (xs.foldl f a)
  | [], i, a => rfl
  | x :: xs, i, a => by
    simp only [runL, Option.bind_some, selim, List.foldl_cons]
    exact runL_fold f xs (i + 1) (f a x)
theorem next_iv {w : YWorld} (h : WOk w) : m_impl_nextEvent w = some (nextV w) := by
  have hnet := h.net
  have hor := h.fit.orders
  have e1 : iterF (m_impl_nextEvent_b0 w) NN ((-1), 0) = some (nextV w) := by
    rw [iter_list (xs := w.orders) (A := Int) (fun a i => (a, i)) (fun _ a o => some (.inl (lessV a (eventV w.network o)))) some (fun a i o ho => ?_) (fun a => ?_) (by unfold NN; omega) (-1)]
    · exact runL_fold (fun a o => lessV a (eventV w.network o)) w.orders 0 (-1)
    · have hlt := (List.getElem?_eq_some_iff.1 ho).1
      have hg : getI w.orders (i : Int) = some o := by rw [getI_nat]; exact ho
      have hi : w64 ((i : Int) + 1) = ((i + 1 : Nat) : Int) := w64_nat hlt (by omega)
      have hok := world_ok h.fit h.ok ho
      unfold m_impl_nextEvent_b0
      simp only [decide_eq_true (show (i : Int) < w.orders.length by omega), cond_true, hg, Option.bind_some, hi, starts_eq, ends_eq]
      by_cases hgl : o.gone < o.way.length
      · obtain ⟨t, htg, htb⟩ := way_at h.fit h.ok ho hok.gone.1 hgl
        obtain ⟨t1, t2, t3, t4, t5⟩ := trip_time h.fit.net hnet htb
        have ht : o.way[o.gone.toNat]? = some t := by unfold getI at htg; rwa [if_pos hok.gone.1] at htg
        have ev : eventV w.network o = some (if o.state = 2 then endsV w.network t else startV w.network t) := by unfold eventV; rw [ht]; rfl
        rw [ev]
        simp only [htg, Option.bind_some, t1, t2, decide_eq_true hgl, lessV]
        rcases hok.cases with ⟨c1, _⟩ | ⟨c1, _⟩ | ⟨c1, c2, _⟩
        · rw [c1]
          simp only [show decide ((1 : Int) = 2) = false from rfl, show decide ((1 : Int) = 1) = true from rfl, cond_true, cond_false, decide_eq_true t3, show ¬ ((1 : Int) = 2) by omega, if_false, selim]
          by_cases ha : a < 0
          · simp [ha]
          · by_cases hb : startV w.network t < a <;> simp [ha, hb]
        · rw [c1]
          simp only [show decide ((2 : Int) = 2) = true from rfl, cond_true, decide_eq_true (show 0 ≤ endsV w.network t by omega), if_true, selim]
          by_cases ha : a < 0
          · simp [ha]
          · by_cases hb : endsV w.network t < a <;> simp [ha, hb]
        · omega
      · have hge := hok.gone.2
        have ev : eventV w.network o = none := by unfold eventV; rw [List.getElem?_eq_none (by omega)]; rfl
        rw [ev, decide_eq_false hgl]
        rcases hok.cases with ⟨c1, _⟩ | ⟨c1, _⟩ | ⟨c1, c2, _⟩
        · rw [c1]; rfl
        · omega
        · rw [c1]; rfl
    · unfold m_impl_nextEvent_b0
      simp
  unfold m_impl_nextEvent
  rw [e1]; rfl
theorem chk0 {n c : Nat} (h : n ≤ 1048576) (hc : c ≤ 1024) : chk (appOk (0 + n) c) = some () := app_ok1 (by omega) hc
theorem chkn {n c : Nat} (h : n ≤ 1048576) (hc : c ≤ 1024) : chk (appOk n c) = some () := by have := chk0 h hc; rwa [Nat.zero_add] at this
theorem copyNet_i {n : YNetwork} (h : NetFit n) : m_o_impl_copyNetwork n = some n := by
  unfold m_o_impl_copyNetwork
  simp only [List.length_nil, chk0 h.legs (show 64 ≤ 1024 by omega), chk0 h.off (show 8 ≤ 1024 by omega), Option.bind_some, List.nil_append]
theorem copyTrips_i {l : List YTrip} (h : l.length ≤ 1048576) : m_impl_copyTrips l = some l := by
  unfold m_impl_copyTrips
  simp only [List.length_nil, chk0 h (show 16 ≤ 1024 by omega), Option.bind_some, List.nil_append]
theorem copyBook_i {l : List YBooking} (h : l.length ≤ 1048576) : m_impl_copyBookings l = some l := by
  unfold m_impl_copyBookings
  simp only [List.length_nil, chk0 h (show 32 ≤ 1024 by omega), Option.bind_some, List.nil_append]
theorem take_snoc' {α : Type} {xs : List α} {i : Nat} {x : α} (h : xs[i]? = some x) : xs.take i ++ [x] = xs.take (i + 1) := by
  rw [List.take_add_one, h]; rfl
theorem copyW_i {w : YWorld} (h : WFit w) : m_o_impl_copyWorld w = some w := by
  have hor := h.orders
  unfold m_o_impl_copyWorld
  rw [copyNet_i h.net, Option.bind_some, copyBook_i h.bookings, Option.bind_some, copyTrips_i h.closed, Option.bind_some]
  have e : iterF (m_o_impl_copyWorld_b0 w w.network w.bookings w.closed) NN (0, []) = some w.orders := by
    have := iter_st0 (body := m_o_impl_copyWorld_b0 w w.network w.bookings w.closed) (fun i : Nat => ((i : Int), w.orders.take i)) (n := w.orders.length) (o := w.orders) (fun i hi => ?_) ?_ NN (by unfold NN; omega)
    · simpa using this
    · have ho : w.orders[i]? = some w.orders[i] := List.getElem?_eq_getElem hi
      have hg : getI w.orders (i : Int) = some w.orders[i] := by rw [getI_nat]; exact ho
      have hw : w64 ((i : Int) + 1) = ((i + 1 : Nat) : Int) := w64_nat hi (by omega)
      have hl : (w.orders.take i).length + 1 ≤ 1048576 := by rw [List.length_take]; omega
      unfold m_o_impl_copyWorld_b0
      simp only [decide_eq_true (show (i : Int) < w.orders.length by omega), cond_true, hg, Option.bind_some, copyTrips_i (h.way _ (List.getElem_mem hi)), frz, List.length_cons, List.length_nil, Nat.zero_add, app_ok1 hl (show 128 ≤ 1024 by omega), hw]
      rw [← take_snoc' ho]
    · unfold m_o_impl_copyWorld_b0
      simp
  simp only [List.length_nil, chk0 h.scans (show 56 ≤ 1024 by omega), chk0 h.skip (show 8 ≤ 1024 by omega), Option.bind_some, e, List.nil_append]
theorem ints_s {l : List Int} (h : l.length ≤ 1048576) : m_spec_l1Ints l = some l := by
  unfold m_spec_l1Ints
  simp only [List.length_nil, chk0 h (show 8 ≤ 1024 by omega), Option.bind_some, List.nil_append]
theorem copyBook_s {l : List YBooking} (h : l.length ≤ 1048576) : m_spec_l6Copy l = some l := by
  unfold m_spec_l6Copy
  simp only [List.length_nil, chk0 h (show 32 ≤ 1024 by omega), Option.bind_some, List.nil_append]
theorem copyW_s {w : YWorld} (h : WFit w) : m_o_spec_l10Copy w = some w := by
  have hor := h.orders
  unfold m_o_spec_l10Copy
  have e : iterF (m_o_spec_l10Copy_b0 w w.network.off) NN (0, ([] : List YOrder)) = some w.orders := by
    have := iter_st0 (body := m_o_spec_l10Copy_b0 w w.network.off) (fun i : Nat => ((i : Int), w.orders.take i)) (n := w.orders.length) (o := w.orders) (fun i hi => ?_) ?_ NN (by unfold NN; omega)
    · simpa using this
    · have ho : w.orders[i]? = some w.orders[i] := List.getElem?_eq_getElem hi
      have hg : getI w.orders (i : Int) = some w.orders[i] := by rw [getI_nat]; exact ho
      have hw : w64 ((i : Int) + 1) = ((i + 1 : Nat) : Int) := w64_nat hi (by omega)
      have hl : (w.orders.take i).length + 1 ≤ 1048576 := by rw [List.length_take]; omega
      unfold m_o_spec_l10Copy_b0
      simp only [decide_eq_true (show (i : Int) < w.orders.length by omega), cond_true, hg, Option.bind_some, chkn (h.way _ (List.getElem_mem hi)) (show 16 ≤ 1024 by omega), frz, List.length_cons, List.length_nil, Nat.zero_add, app_ok1 hl (show 128 ≤ 1024 by omega), hw, List.nil_append]
      rw [← take_snoc' ho]
    · unfold m_o_spec_l10Copy_b0
      simp
  simp only [List.length_nil, chk0 h.net.legs (show 64 ≤ 1024 by omega), ints_s h.net.off, ints_s h.skip, chk0 h.closed (show 16 ≤ 1024 by omega), chk0 h.scans (show 56 ≤ 1024 by omega), Option.bind_some, e, copyBook_s h.bookings, List.nil_append]
abbrev OwA := Int × Int × Int × (List YLeg) × (List Int) × (List YOrder) × (List YBooking) × (List YTrip) × (List YScan) × (List Int)
def owA (w : YWorld) : OwA := (w.network.change, w.now, w.made, w.network.legs, w.network.off, w.orders, w.bookings, w.closed, w.scans, w.skip)
theorem WOk.pass {w : YWorld} (h : WOk w) : WorldPass w := by
  have hp := h.parts
  refine ⟨h.fit.net, h.net, ⟨rfl, ⟨h.fit.skip, hp.2.2.2.1, by omega⟩, h.fit.orders⟩, fun o ho => ?_⟩
  obtain ⟨i, hi, rfl⟩ := List.getElem_of_mem ho
  have hok := world_ok h.fit h.ok (List.getElem?_eq_getElem hi)
  refine ⟨hok.gone, h.fit.way _ ho, hok.trip, fun hs => ?_⟩
  rcases hok.cases with ⟨c, _⟩ | ⟨_, c⟩ | ⟨c, _⟩
  · omega
  · exact c
  · omega
theorem run_stop {k : Nat} {w : YWorld} {u : Int} (h : nextV w < 0 ∨ u < nextV w) : runV k w u = w := by
  cases k with
  | zero => rfl
  | succ k => unfold runV; rw [if_pos h]
theorem run_go {k : Nat} {w : YWorld} {u : Int} (h : WOk w) (hk : todoW w ≤ k) (hu : u ≤ 100000) (hc : ¬ (nextV w < 0 ∨ u < nextV w)) : runV k w u = runV (k - 1) (happenV w (nextV w)) u := by
  have := happen_todo h (by omega)
  cases k with
  | zero => omega
  | succ k =>
    rw [Nat.add_sub_cancel]
    conv => lhs; unfold runV; rw [if_neg hc]
theorem adv_loop_i {u : Int} (hu : u ≤ 100000) : ∀ (N k : Nat) (w : YWorld), WOk w → todoW w ≤ k → k < N → iterF (m_impl_AdvanceTo_b0 u) N (nextV w, owA w) = some (owA (runV k w u))
  | 0, k, w, _, _, hN => by omega
  | N + 1, k, w, h, hk, hN => by
    simp only [iterF]
    unfold m_impl_AdvanceTo_b0
    simp only [owA]
    by_cases h0 : 0 ≤ nextV w
    · by_cases h1 : nextV w ≤ u
      · obtain ⟨a, b, c⟩ := happen_next h h0
        have ht := happen_todo h h0
        have hb := (happen_both h.pass (nextV w)).1
        have hw : (⟨⟨w.network.legs, w.network.off, w.network.change⟩, w.orders, w.bookings, w.closed, w.now, w.scans, w.skip, w.made⟩ : YWorld) = w := rfl
        rw [run_go h hk hu (by omega)]
        simp only [decide_eq_true h0, decide_eq_true h1, cond_true, rhoM, Option.bind_some, hw, hb, next_iv a]
        exact adv_loop_i hu N (k - 1) _ a (by omega) (by omega)
      · rw [run_stop (.inr (by omega))]
        simp only [decide_eq_true h0, decide_eq_false h1, cond_true, cond_false]
        rfl
    · rw [run_stop (.inl (by omega))]
      simp only [decide_eq_false h0, cond_false]
      rfl
theorem advance_i {w : YWorld} (hf : WFit w) (u : Int) : m_impl_AdvanceTo w u = some (if worldV w = true ∧ w.now ≤ u ∧ u ≤ 100000 then advV w u else w) := by
  unfold m_impl_AdvanceTo
  rw [copyW_i hf, Option.bind_some, impl_world hf, Option.bind_some, within_eq, l1In_v, Option.bind_some]
  cases hv : worldV w with
  | false => simp
  | true =>
    have h : WOk w := ⟨hf, hv⟩
    by_cases h1 : w.now ≤ u
    · by_cases h2 : u ≤ 100000
      · have e : (nextV w, w.network.change, w.now, w.made, w.network.legs, w.network.off, w.orders, w.bookings, w.closed, w.scans, w.skip) = (nextV w, owA w) := rfl
        have hp := h.parts
        have hN : todoW w < NN := by
          have : ∀ l : List YOrder, (∀ o ∈ l, o.way.length ≤ 1048576) → (l.map todoV).sum ≤ 2097152 * l.length := by
            intro l
            induction l with
            | nil => intro _; simp
            | cons o l ih =>
              intro hl
              have := ih fun x hx => hl x (List.mem_cons_of_mem _ hx)
              have h2 := hl o List.mem_cons_self
              have h3 : todoV o ≤ 2 * o.way.length := by unfold todoV; omega
              simp only [List.map_cons, List.sum_cons, List.length_cons]
              omega
          have := this w.orders hf.way
          have h3 := hp.2.1
          unfold todoW NN
          omega
        simp only [Bool.not_true, cond_false, decide_eq_true h1, decide_eq_true h2, Bool.and_self, next_iv h, Option.bind_some, h1, h2, and_self, if_true, e, adv_loop_i h2 NN (todoW w) w h (Nat.le_refl _) hN]
        rfl
      · simp [h1, h2]
    · simp [h1]
end Go.Proofs.YtmcdjilbkmhfoaaGreat
namespace Go.Proofs.YtmcdjilbkmhfoaaGreat
set_option maxRecDepth 10000
open Go.RowKit
set_option linter.unusedVariables false
set_option maxHeartbeats 16000000
def m_spec_Max (a : Int) (b : Int) : Option Int :=
 cond (decide (a < b))
 (some b)
 (some a)
theorem ok_spec_Max (a : Int) (b : Int) {r : Int} (H : m_spec_Max a b = some r) : CallM Tryz.prog 190 [vi a, vi b] [] (vi r) [] := by
  replace H := H0 H
  unfold m_spec_Max at H
  refine callM_of Tryz.func190 rfl Tryz.ntmps190 Tryz.results190 fun Q hQ hQn => ?_
  exact wk2
instance (a : Int) (b : Int) : CT Tryz.prog (m_spec_Max a b) := ⟨190, [vi a, vi b], [], fun r => vi r, fun r => [], ok_spec_Max a b⟩
def m_spec_l4First_b0 (places : List ByteArray) (from1_ : Int) (at2_ : Int) (s0 : Int × (List Int)) : Option ((Int × (List Int)) ⊕ (List Int)) :=
 cond (decide (s0.1 < (places.length : Int)))
 (cond (decide (s0.1 = from1_))
 ((m_spec_Max at2_ 0).bind fun y1 =>
 (chk (appOk ((s0.2 : List Int).length + ([y1] : List Int).length) 8)).bind fun _ =>
 some (.inl ((w64 (s0.1 + 1)), ((s0.2 : List Int) ++ [y1]))))
 ((chk (appOk ((s0.2 : List Int).length + ([(-1)] : List Int).length) 8)).bind fun _ =>
 some (.inl ((w64 (s0.1 + 1)), ((s0.2 : List Int) ++ [(-1)])))))
 (some (.inr s0.2))
instance (places : List ByteArray) (from1_ : Int) (at2_ : Int) : LoopE (m_spec_l4First_b0 places from1_ at2_) := ⟨fun s0 => [.sl (places.map cStr), vi from1_, vi at2_, .un, .un, .un, .un, .ms 0, vi s0.1, .un, .un, .un, .un, .un, .un, .un, .un, .un, .un, .un, .un, .un, .un, .un, .un, .un, .un, .un], fun s0 => [some ⟨3, 1, s0.2.map cInt⟩]⟩
def m_spec_l4First (places : List ByteArray) (from1_ : Int) (at2_ : Int) : Option (List Int) :=
 (iterF (m_spec_l4First_b0 places from1_ at2_) NN (0, ([] : List Int))).bind (fun o0 =>
 some o0)
theorem ok_spec_l4First (places : List ByteArray) (from1_ : Int) (at2_ : Int) {r : (List Int)} (H : m_spec_l4First places from1_ at2_ = some r) : CallM Tryz.prog 233 [.sl (places.map cStr), vi from1_, vi at2_] [] (.ms 0) [some ⟨3, 1, r.map cInt⟩] := by
  replace H := H0 H
  unfold m_spec_l4First at H
  refine callM_of Tryz.func233 rfl Tryz.ntmps233 Tryz.results233 fun Q hQ hQn => ?_
  exact wk2
instance (places : List ByteArray) (from1_ : Int) (at2_ : Int) : CT Tryz.prog (m_spec_l4First places from1_ at2_) := ⟨233, [.sl (places.map cStr), vi from1_, vi at2_], [], fun r => .ms 0, fun r => [some ⟨3, 1, r.map cInt⟩], ok_spec_l4First places from1_ at2_⟩
def m_spec_l4Ready (n : YNetwork) (at1_ : Int) (first : Bool) : Option Int :=
 cond first
 (some at1_)
 (some (w64 (at1_ + n.change)))
theorem ok_spec_l4Ready (n : YNetwork) (at1_ : Int) (first : Bool) {r : Int} (H : m_spec_l4Ready n at1_ first = some r) : CallM Tryz.prog 236 [.ag (cNetwork n), vi at1_, vb first] [] (vi r) [] := by
  replace H := H0 H
  unfold m_spec_l4Ready at H
  refine callM_of Tryz.func236 rfl Tryz.ntmps236 Tryz.results236 fun Q hQ hQn => ?_
  exact wk2
instance (n : YNetwork) (at1_ : Int) (first : Bool) : CT Tryz.prog (m_spec_l4Ready n at1_ first) := ⟨236, [.ag (cNetwork n), vi at1_, vb first], [], fun r => vi r, fun r => [], ok_spec_l4Ready n at1_ first⟩
def m_spec_l6Next_b0 (n : YNetwork) (l : List YBooking) (closed : List YTrip) (leg : Int) (at4_ : Int) (weight : Int) (s0 : Int) : Option (Int ⊕ (Unit ⊕ Int)) :=
 cond (decide (s0 ≤ 60))
 ((m_spec_l3Runs n leg s0).bind fun y1 =>
 cond y1
 ((m_spec_l3Starts n (⟨leg, s0⟩ : YTrip)).bind fun y2 =>
 cond (decide (at4_ ≤ y2))
 ((m_spec_l6Closed closed (⟨leg, s0⟩ : YTrip)).bind fun y3 =>
 cond (!y3)
 ((getI n.legs leg).bind fun y4 =>
 (m_spec_LoadOf l (⟨leg, s0⟩ : YTrip)).bind fun y5 =>
 cond (decide (weight ≤ (w64 (y4.room - y5))))
 (some (.inr (.inr s0)))
 (some (.inl (w64 (s0 + 1)))))
 (some (.inl (w64 (s0 + 1)))))
 (some (.inl (w64 (s0 + 1)))))
 (some (.inl (w64 (s0 + 1)))))
 (some (.inr (.inl ())))
instance (n : YNetwork) (l : List YBooking) (closed : List YTrip) (leg : Int) (at4_ : Int) (weight : Int) : LoopE (m_spec_l6Next_b0 n l closed leg at4_ weight) := ⟨fun s0 => [.un, .sl (l.map cBooking), .sl (closed.map cTrip), vi leg, vi at4_, vi weight, .be 0 0 0, .un, .un, .un, .un, .un, .un, vi s0, .un, .un, .un, .un, .un, .un, .un, .un, .un, .un, .un, .un, .un, .un, .un, .un, .un, .un, .un, .un, .un, .un, .un, .un, .un, .un, .un, .un, .un, .un, .un, .un, .un, .un, .un, .un, .un, .un, .un, .un], fun s0 => [some ⟨35, 3, [[.sl (n.legs.map cLeg), .sl (n.off.map cInt), vi n.change]]⟩]⟩
def m_spec_l6Next (n : YNetwork) (l : List YBooking) (closed : List YTrip) (leg : Int) (at4_ : Int) (weight : Int) : Option Int :=
 (iterF (m_spec_l6Next_b0 n l closed leg at4_ weight) NN 0).bind (selim (fun o0 =>
 some (-1)) (fun r => some r))
theorem ok_spec_l6Next (n : YNetwork) (l : List YBooking) (closed : List YTrip) (leg : Int) (at4_ : Int) (weight : Int) {r : Int} (H : m_spec_l6Next n l closed leg at4_ weight = some r) : CallM Tryz.prog 235 [.ag (cNetwork n), .sl (l.map cBooking), .sl (closed.map cTrip), vi leg, vi at4_, vi weight] [] (vi r) [] := by
  replace H := H0 H
  unfold m_spec_l6Next at H
  refine callM_of Tryz.func235 rfl Tryz.ntmps235 Tryz.results235 fun Q hQ hQn => ?_
  exact wk2
instance (n : YNetwork) (l : List YBooking) (closed : List YTrip) (leg : Int) (at4_ : Int) (weight : Int) : CT Tryz.prog (m_spec_l6Next n l closed leg at4_ weight) := ⟨235, [.ag (cNetwork n), .sl (l.map cBooking), .sl (closed.map cTrip), vi leg, vi at4_, vi weight], [], fun r => vi r, fun r => [], ok_spec_l6Next n l closed leg at4_ weight⟩
def m_spec_l6Round_b0 (n : YNetwork) (l : List YBooking) (closed : List YTrip) (weight : Int) (places : List ByteArray) (best : List Int) (from6_ : Int) (s0 : Int × (List Int)) : Option ((Int × (List Int)) ⊕ (List Int)) :=
 cond (decide (s0.1 < (n.legs.length : Int)))
 ((getI n.legs s0.1).bind fun y2 =>
 (m_spec_l4Index places y2.from_).bind fun y3 =>
 (getI n.legs s0.1).bind fun y4 =>
 (m_spec_l4Index places y4.to_).bind fun y5 =>
 (getI best y3).bind fun y6 =>
 cond (decide (y6 < 0))
 (some (.inl ((w64 (s0.1 + 1)), s0.2)))
 ((getI best y3).bind fun y7 =>
 (m_spec_l4Ready n y7 (decide (y3 = from6_))).bind fun y8 =>
 (m_spec_l6Next n l closed s0.1 y8 weight).bind fun y9 =>
 cond (decide (y9 < 0))
 (some (.inl ((w64 (s0.1 + 1)), s0.2)))
 ((m_spec_l3Ends n (⟨s0.1, y9⟩ : YTrip)).bind fun y10 =>
 (getI s0.2 y5).bind fun y11 =>
 cond (decide (y11 < 0))
 ((getI s0.2 y5).bind fun y12 =>
 some (.inl ((w64 (s0.1 + 1)), (s0.2.set (Int.toNat y5) y10))))
 ((getI s0.2 y5).bind fun y13 =>
 cond (decide (y10 < y13))
 ((getI s0.2 y5).bind fun y14 =>
 some (.inl ((w64 (s0.1 + 1)), (s0.2.set (Int.toNat y5) y10))))
 (some (.inl ((w64 (s0.1 + 1)), s0.2)))))))
 (some (.inr s0.2))
instance (n : YNetwork) (l : List YBooking) (closed : List YTrip) (weight : Int) (places : List ByteArray) (best : List Int) (from6_ : Int) : LoopE (m_spec_l6Round_b0 n l closed weight places best from6_) := ⟨fun s0 => (.un :: .sl (l.map cBooking) :: .sl (closed.map cTrip) :: vi weight :: .sl (places.map cStr) :: .sl (best.map cInt) :: vi from6_ :: .be 0 0 0 :: .un :: .un :: .un :: .un :: .un :: .un :: .un :: .ms 1 :: vi s0.1 :: .un :: .un :: .un :: .un :: .un :: .un :: .un :: .un :: .un :: .un :: .un :: .un :: .un :: .un :: .un :: .un :: .un :: .un :: .un :: .un :: .un :: .un :: .un :: .un :: .un :: .un :: .un :: .un :: .un :: .un :: .un :: .un :: .un :: .un :: .un :: .un :: .un :: .un :: .un :: .un :: .un :: .un :: .un :: .un :: .un :: .un :: .un :: .un :: .un :: .un :: .un :: .un :: .un :: .un :: .un :: .un :: .un :: .un :: .un :: .un :: .un :: .un :: .un :: .un :: .un :: .un :: .un :: .un :: .un :: .un :: .un :: .un :: .un :: .un :: []), fun s0 => [some ⟨35, 3, [[.sl (n.legs.map cLeg), .sl (n.off.map cInt), vi n.change]]⟩, some ⟨3, 1, s0.2.map cInt⟩]⟩
def m_spec_l6Round (n : YNetwork) (l : List YBooking) (closed : List YTrip) (weight : Int) (places : List ByteArray) (best : List Int) (from6_ : Int) : Option (List Int) :=
 (m_spec_l1Ints best).bind fun y1 =>
 (iterF (m_spec_l6Round_b0 n l closed weight places best from6_) NN (0, y1)).bind (fun o0 =>
 some o0)
theorem ok_spec_l6Round (n : YNetwork) (l : List YBooking) (closed : List YTrip) (weight : Int) (places : List ByteArray) (best : List Int) (from6_ : Int) {r : (List Int)} (H : m_spec_l6Round n l closed weight places best from6_ = some r) : CallM Tryz.prog 234 [.ag (cNetwork n), .sl (l.map cBooking), .sl (closed.map cTrip), vi weight, .sl (places.map cStr), .sl (best.map cInt), vi from6_] [] (.ms 0) [some ⟨3, 1, r.map cInt⟩] := by
  replace H := H0 H
  unfold m_spec_l6Round at H
  refine callM_of Tryz.func234 rfl Tryz.ntmps234 Tryz.results234 fun Q hQ hQn => ?_
  exact wk2
instance (n : YNetwork) (l : List YBooking) (closed : List YTrip) (weight : Int) (places : List ByteArray) (best : List Int) (from6_ : Int) : CT Tryz.prog (m_spec_l6Round n l closed weight places best from6_) := ⟨234, [.ag (cNetwork n), .sl (l.map cBooking), .sl (closed.map cTrip), vi weight, .sl (places.map cStr), .sl (best.map cInt), vi from6_], [], fun r => .ms 0, fun r => [some ⟨3, 1, r.map cInt⟩], ok_spec_l6Round n l closed weight places best from6_⟩
def m_spec_BestFree_b0 (n : YNetwork) (l : List YBooking) (closed : List YTrip) (weight : Int) (legs : Int) (y1 : (List ByteArray)) (y2 : Int) (s0 : Int × (List Int)) : Option ((Int × (List Int)) ⊕ (List Int)) :=
 cond (decide (s0.1 < legs))
 (cond (decide (s0.1 < (y1.length : Int)))
 ((m_spec_l6Round n l closed weight y1 s0.2 y2).bind fun y5 =>
 some (.inl ((w64 (s0.1 + 1)), y5)))
 (some (.inr s0.2)))
 (some (.inr s0.2))
instance (n : YNetwork) (l : List YBooking) (closed : List YTrip) (weight : Int) (legs : Int) (y1 : (List ByteArray)) (y2 : Int) : LoopE (m_spec_BestFree_b0 n l closed weight legs y1 y2) := ⟨fun s0 => (.un :: .sl (l.map cBooking) :: .sl (closed.map cTrip) :: .un :: .un :: vi weight :: vi legs :: .be 0 0 0 :: .un :: .un :: .un :: .un :: .un :: .un :: .un :: .ms 1 :: vi y2 :: .ms 2 :: vi s0.1 :: .un :: .un :: .un :: .un :: .un :: .un :: .un :: .un :: .un :: .un :: .un :: .un :: .un :: .un :: .un :: .un :: .un :: .un :: .un :: .un :: .un :: .un :: .un :: .un :: .un :: .un :: .un :: .un :: .un :: .un :: .un :: .un :: .un :: .un :: .un :: .un :: .un :: .un :: .un :: .un :: .un :: .un :: .un :: .un :: .un :: .un :: .un :: .un :: .un :: .un :: []), fun s0 => [some ⟨35, 3, [[.sl (n.legs.map cLeg), .sl (n.off.map cInt), vi n.change]]⟩, some ⟨9, 1, y1.map cStr⟩, some ⟨3, 1, s0.2.map cInt⟩]⟩
def m_spec_BestFree (n : YNetwork) (l : List YBooking) (closed : List YTrip) (from3_ : ByteArray) (at4_ : Int) (weight : Int) (legs : Int) : Option (List Int) :=
 (m_spec_PlacesOf n).bind fun y1 =>
 (m_spec_l4Index y1 from3_).bind fun y2 =>
 (m_spec_AreBookings n l).bind fun y3 =>
 cond (!y3)
 (some ([] : List Int))
 (cond (decide (y2 < 0))
 (some ([] : List Int))
 (cond (decide (100000 < at4_))
 (some ([] : List Int))
 (cond (decide (weight < 1))
 (some ([] : List Int))
 (cond (decide (legs < 0))
 (some ([] : List Int))
 ((m_spec_l4First y1 y2 at4_).bind fun y4 =>
 (iterF (m_spec_BestFree_b0 n l closed weight legs y1 y2) NN (0, y4)).bind (fun o0 =>
 some o0))))))
theorem ok_spec_BestFree (n : YNetwork) (l : List YBooking) (closed : List YTrip) (from3_ : ByteArray) (at4_ : Int) (weight : Int) (legs : Int) {r : (List Int)} (H : m_spec_BestFree n l closed from3_ at4_ weight legs = some r) : CallM Tryz.prog 195 [.ag (cNetwork n), .sl (l.map cBooking), .sl (closed.map cTrip), vs from3_, vi at4_, vi weight, vi legs] [] (.ms 0) [some ⟨3, 1, r.map cInt⟩] := by
  replace H := H0 H
  unfold m_spec_BestFree at H
  refine callM_of Tryz.func195 rfl Tryz.ntmps195 Tryz.results195 fun Q hQ hQn => ?_
  exact wk2
instance (n : YNetwork) (l : List YBooking) (closed : List YTrip) (from3_ : ByteArray) (at4_ : Int) (weight : Int) (legs : Int) : CT Tryz.prog (m_spec_BestFree n l closed from3_ at4_ weight legs) := ⟨195, [.ag (cNetwork n), .sl (l.map cBooking), .sl (closed.map cTrip), vs from3_, vi at4_, vi weight, vi legs], [], fun r => .ms 0, fun r => [some ⟨3, 1, r.map cInt⟩], ok_spec_BestFree n l closed from3_ at4_ weight legs⟩
def m_spec_l6Step_b0 (n : YNetwork) (l : List YBooking) (closed : List YTrip) (weight : Int) (places : List ByteArray) (before : List Int) (from6_ : Int) (to_ : Int) (ends : Int) (s0 : Int) : Option (Int ⊕ (Unit ⊕ YTrip)) :=
 cond (decide (s0 < (n.legs.length : Int)))
 ((getI n.legs s0).bind fun y1 =>
 (m_spec_l4Index places y1.from_).bind fun y2 =>
 (getI n.legs s0).bind fun y3 =>
 (getI places to_).bind fun y4 =>
 cond (!decide (y3.to_ = y4))
 (some (.inl (w64 (s0 + 1))))
 ((getI before y2).bind fun y5 =>
 cond (decide (y5 < 0))
 (some (.inl (w64 (s0 + 1))))
 ((getI before y2).bind fun y6 =>
 (m_spec_l4Ready n y6 (decide (y2 = from6_))).bind fun y7 =>
 (m_spec_l6Next n l closed s0 y7 weight).bind fun y8 =>
 cond (decide (0 ≤ y8))
 ((m_spec_l3Ends n (⟨s0, y8⟩ : YTrip)).bind fun y9 =>
 cond (decide (y9 = ends))
 (some (.inr (.inr (⟨s0, y8⟩ : YTrip))))
 (some (.inl (w64 (s0 + 1)))))
 (some (.inl (w64 (s0 + 1)))))))
 (some (.inr (.inl ())))
instance (n : YNetwork) (l : List YBooking) (closed : List YTrip) (weight : Int) (places : List ByteArray) (before : List Int) (from6_ : Int) (to_ : Int) (ends : Int) : LoopE (m_spec_l6Step_b0 n l closed weight places before from6_ to_ ends) := ⟨fun s0 => (.un :: .sl (l.map cBooking) :: .sl (closed.map cTrip) :: vi weight :: .sl (places.map cStr) :: .sl (before.map cInt) :: vi from6_ :: vi to_ :: vi ends :: .be 0 0 0 :: .un :: .un :: .un :: .un :: .un :: .un :: .un :: .un :: .be 1 0 0 :: vi s0 :: .un :: .un :: .un :: .un :: .un :: .un :: .un :: .un :: .un :: .un :: .un :: .un :: .un :: .un :: .un :: .un :: .un :: .un :: .un :: .un :: .un :: .un :: .un :: .un :: .un :: .un :: .un :: .un :: .un :: .un :: .un :: .un :: .un :: .un :: .un :: .un :: .un :: .un :: .un :: .un :: .un :: .un :: .un :: .un :: .un :: .un :: .un :: .un :: .un :: .un :: .un :: .un :: .un :: .un :: .un :: .un :: .un :: .un :: .un :: .un :: .un :: .un :: .un :: .un :: []), fun s0 => [some ⟨35, 3, [[.sl (n.legs.map cLeg), .sl (n.off.map cInt), vi n.change]]⟩, some ⟨55, 2, [[vi 0, vi 0]]⟩]⟩
def m_spec_l6Step (n : YNetwork) (l : List YBooking) (closed : List YTrip) (weight : Int) (places : List ByteArray) (before : List Int) (from6_ : Int) (to_ : Int) (ends : Int) : Option YTrip :=
 (iterF (m_spec_l6Step_b0 n l closed weight places before from6_ to_ ends) NN 0).bind (selim (fun o0 =>
 some (⟨0, 0⟩ : YTrip)) (fun r => some r))
theorem ok_spec_l6Step (n : YNetwork) (l : List YBooking) (closed : List YTrip) (weight : Int) (places : List ByteArray) (before : List Int) (from6_ : Int) (to_ : Int) (ends : Int) {r : YTrip} (H : m_spec_l6Step n l closed weight places before from6_ to_ ends = some r) : CallM Tryz.prog 196 [.ag (cNetwork n), .sl (l.map cBooking), .sl (closed.map cTrip), vi weight, .sl (places.map cStr), .sl (before.map cInt), vi from6_, vi to_, vi ends] [] (.ag [vi r.leg, vi r.day]) [] := by
  replace H := H0 H
  unfold m_spec_l6Step at H
  refine callM_of Tryz.func196 rfl Tryz.ntmps196 Tryz.results196 fun Q hQ hQn => ?_
  exact wk2
instance (n : YNetwork) (l : List YBooking) (closed : List YTrip) (weight : Int) (places : List ByteArray) (before : List Int) (from6_ : Int) (to_ : Int) (ends : Int) : CT Tryz.prog (m_spec_l6Step n l closed weight places before from6_ to_ ends) := ⟨196, [.ag (cNetwork n), .sl (l.map cBooking), .sl (closed.map cTrip), vi weight, .sl (places.map cStr), .sl (before.map cInt), vi from6_, vi to_, vi ends], [], fun r => .ag [vi r.leg, vi r.day], fun r => [], ok_spec_l6Step n l closed weight places before from6_ to_ ends⟩
def m_spec_FindRoom_b0 (n : YNetwork) (l : List YBooking) (closed : List YTrip) (from3_ : ByteArray) (at5_ : Int) (weight : Int) (y1 : (List ByteArray)) (y2 : Int) (y3 : Int) (y6 : Int) (s0 : Int) : Option (Int ⊕ Int) :=
 (m_spec_BestFree n l closed from3_ at5_ weight s0).bind fun y7 =>
 (getI y7 y3).bind fun y8 =>
 cond (!decide (y8 = y6))
 (some (.inl (w64 (s0 + 1))))
 (some (.inr s0))
instance (n : YNetwork) (l : List YBooking) (closed : List YTrip) (from3_ : ByteArray) (at5_ : Int) (weight : Int) (y1 : (List ByteArray)) (y2 : Int) (y3 : Int) (y6 : Int) : LoopE (m_spec_FindRoom_b0 n l closed from3_ at5_ weight y1 y2 y3 y6) := ⟨fun s0 => (.un :: .sl (l.map cBooking) :: .sl (closed.map cTrip) :: vs from3_ :: .un :: vi at5_ :: vi weight :: .be 0 0 0 :: .un :: .un :: .un :: .un :: .un :: .un :: .un :: .un :: .ms 1 :: vi y2 :: vi y3 :: .un :: .ms 2 :: vi y6 :: vi s0 :: .un :: .un :: .un :: .un :: .un :: .un :: .un :: .un :: .un :: .un :: .un :: .un :: .un :: .un :: .un :: .un :: .un :: .un :: .un :: .un :: .un :: .un :: .un :: .un :: .un :: .un :: .un :: .un :: .un :: .un :: .un :: .un :: .un :: .un :: .un :: .un :: .un :: .un :: .un :: .un :: .un :: .un :: .un :: .un :: .un :: .un :: .un :: .un :: .un :: .un :: .un :: .un :: .un :: .un :: .un :: .un :: .un :: .un :: .un :: .un :: .un :: .un :: .un :: .un :: .un :: .un :: .un :: .un :: .un :: .un :: .un :: .un :: .un :: .un :: .un :: .un :: .un :: .un :: .un :: .un :: .un :: .un :: .un :: .un :: .un :: .un :: .un :: .un :: .un :: .un :: .un :: .un :: .un :: .un :: .un :: .un :: .un :: []), fun s0 => [some ⟨35, 3, [[.sl (n.legs.map cLeg), .sl (n.off.map cInt), vi n.change]]⟩, some ⟨9, 1, y1.map cStr⟩, some ⟨55, 2, ([] : List YTrip).map cTrip⟩]⟩
def m_spec_FindRoom_b1 (n : YNetwork) (l : List YBooking) (closed : List YTrip) (from3_ : ByteArray) (at5_ : Int) (weight : Int) (y1 : (List ByteArray)) (y2 : Int) (s1 : Int × Int × Int × (List YTrip)) : Option ((Int × Int × Int × (List YTrip)) ⊕ (List YTrip)) :=
 cond (decide (0 < s1.2.2.1))
 ((m_spec_BestFree n l closed from3_ at5_ weight (w64 (s1.2.2.1 - 1))).bind fun y9 =>
 (m_spec_l6Step n l closed weight y1 y9 y2 s1.1 s1.2.1).bind fun y10 =>
 (chk (appOk (([y10] : List YTrip).length + (s1.2.2.2 : List YTrip).length) 16)).bind fun _ =>
 (getI n.legs y10.leg).bind fun y11 =>
 (m_spec_l4Index y1 y11.from_).bind fun y12 =>
 (getI y9 y12).bind fun y13 =>
 some (.inl (y12, y13, (w64 (s1.2.2.1 - 1)), (([y10] : List YTrip) ++ s1.2.2.2))))
 (some (.inr s1.2.2.2))
instance (n : YNetwork) (l : List YBooking) (closed : List YTrip) (from3_ : ByteArray) (at5_ : Int) (weight : Int) (y1 : (List ByteArray)) (y2 : Int) : LoopE (m_spec_FindRoom_b1 n l closed from3_ at5_ weight y1 y2) := ⟨fun s1 => (.un :: .sl (l.map cBooking) :: .sl (closed.map cTrip) :: vs from3_ :: .un :: vi at5_ :: vi weight :: .be 0 0 0 :: .un :: .un :: .un :: .un :: .un :: .un :: .un :: .un :: .ms 1 :: vi y2 :: vi s1.1 :: .un :: .ms 2 :: vi s1.2.1 :: .un :: vi s1.2.2.1 :: .un :: .un :: .un :: .un :: .un :: .un :: .un :: .un :: .un :: .un :: .un :: .un :: .un :: .un :: .un :: .un :: .un :: .un :: .un :: .un :: .un :: .un :: .un :: .un :: .un :: .un :: .un :: .un :: .un :: .un :: .un :: .un :: .un :: .un :: .un :: .un :: .un :: .un :: .un :: .un :: .un :: .un :: .un :: .un :: .un :: .un :: .un :: .un :: .un :: .un :: .un :: .un :: .un :: .un :: .un :: .un :: .un :: .un :: .un :: .un :: .un :: .un :: .un :: .un :: .un :: .un :: .un :: .un :: .un :: .un :: .un :: .un :: .un :: .un :: .un :: .un :: .un :: .un :: .un :: .un :: .un :: .un :: .un :: .un :: .un :: .un :: .un :: .un :: .un :: .un :: .un :: .un :: .un :: .un :: .un :: .un :: []), fun s1 => [some ⟨35, 3, [[.sl (n.legs.map cLeg), .sl (n.off.map cInt), vi n.change]]⟩, some ⟨9, 1, y1.map cStr⟩, some ⟨55, 2, s1.2.2.2.map cTrip⟩]⟩
def m_spec_FindRoom (n : YNetwork) (l : List YBooking) (closed : List YTrip) (from3_ : ByteArray) (to_ : ByteArray) (at5_ : Int) (weight : Int) : Option ((List YTrip) × Bool) :=
 (m_spec_PlacesOf n).bind fun y1 =>
 (m_spec_l4Index y1 from3_).bind fun y2 =>
 (m_spec_l4Index y1 to_).bind fun y3 =>
 (m_spec_BestFree n l closed from3_ at5_ weight (y1.length : Int)).bind fun y4 =>
 cond (decide (y3 < 0))
 (some (([] : List YTrip), false))
 (cond (decide ((y4.length : Int) = 0))
 (some (([] : List YTrip), false))
 ((getI y4 y3).bind fun y5 =>
 cond (decide (y5 < 0))
 (some (([] : List YTrip), false))
 ((getI y4 y3).bind fun y6 =>
 (iterF (m_spec_FindRoom_b0 n l closed from3_ at5_ weight y1 y2 y3 y6) NN 0).bind (fun o0 =>
 (iterF (m_spec_FindRoom_b1 n l closed from3_ at5_ weight y1 y2) NN (y3, y6, o0, ([] : List YTrip))).bind (fun o1 =>
 some (o1, true))))))
theorem ok_spec_FindRoom (n : YNetwork) (l : List YBooking) (closed : List YTrip) (from3_ : ByteArray) (to_ : ByteArray) (at5_ : Int) (weight : Int) {r : (List YTrip) × Bool} (H : m_spec_FindRoom n l closed from3_ to_ at5_ weight = some r) : CallM Tryz.prog 130 [.ag (cNetwork n), .sl (l.map cBooking), .sl (closed.map cTrip), vs from3_, vs to_, vi at5_, vi weight] [] (.tu [.ms 0, vb r.2]) [some ⟨55, 2, r.1.map cTrip⟩] := by
  replace H := H0 H
  unfold m_spec_FindRoom at H
  refine callM_of Tryz.func130 rfl Tryz.ntmps130 Tryz.results130 fun Q hQ hQn => ?_
  exact wk2
instance (n : YNetwork) (l : List YBooking) (closed : List YTrip) (from3_ : ByteArray) (to_ : ByteArray) (at5_ : Int) (weight : Int) : CT Tryz.prog (m_spec_FindRoom n l closed from3_ to_ at5_ weight) := ⟨130, [.ag (cNetwork n), .sl (l.map cBooking), .sl (closed.map cTrip), vs from3_, vs to_, vi at5_, vi weight], [], fun r => .tu [.ms 0, vb r.2], fun r => [some ⟨55, 2, r.1.map cTrip⟩], ok_spec_FindRoom n l closed from3_ to_ at5_ weight⟩
def m_spec_l6Add_b0 (l : List YBooking) (b : YBooking) (s0 : Int) : Option (Int ⊕ Int) :=
 cond (decide (s0 < (l.length : Int)))
 ((getI l s0).bind fun y1 =>
 (m_spec_l6Before y1 b).bind fun y2 =>
 cond y2
 (some (.inl (w64 (s0 + 1))))
 (some (.inr s0)))
 (some (.inr s0))
instance (l : List YBooking) (b : YBooking) : LoopE (m_spec_l6Add_b0 l b) := ⟨fun s0 => [.sl (l.map cBooking), .un, .un, .be 0 0 0, .un, vi s0, .un, .un, .un, .un, .un, .un, .un, .un, .un, .un, .un, .un, .un, .un, .un, .un, .un, .un, .un, .un, .un, .un, .un, .un, .un], fun s0 => [some ⟨135, 4, [[vi b.thing, vi b.trip.leg, vi b.trip.day, vi b.weight]]⟩]⟩
def m_spec_l6Add (l : List YBooking) (b : YBooking) : Option (List YBooking) :=
 (iterF (m_spec_l6Add_b0 l b) NN 0).bind (fun o0 =>
 (chk (slOk 0 o0 l.length)).bind fun _ =>
 (m_spec_l6Copy (subL l 0 o0)).bind fun y3 =>
 (chk (appOk ((y3 : List YBooking).length + ([b] : List YBooking).length) 32)).bind fun _ =>
 (chk (slOk o0 (l.length : Int) l.length)).bind fun _ =>
 (chk (appOk ((((y3 : List YBooking) ++ [b]) : List YBooking).length + ((subL l o0 (l.length : Int)) : List YBooking).length) 32)).bind fun _ =>
 some ((((y3 : List YBooking) ++ [b]) : List YBooking) ++ (subL l o0 (l.length : Int))))
theorem ok_spec_l6Add (l : List YBooking) (b : YBooking) {r : (List YBooking)} (H : m_spec_l6Add l b = some r) : CallM Tryz.prog 197 [.sl (l.map cBooking), .ag (cBooking b)] [] (.ms 0) [some ⟨135, 4, r.map cBooking⟩] := by
  replace H := H0 H
  unfold m_spec_l6Add at H
  refine callM_of Tryz.func197 rfl Tryz.ntmps197 Tryz.results197 fun Q hQ hQn => ?_
  exact wk2
instance (l : List YBooking) (b : YBooking) : CT Tryz.prog (m_spec_l6Add l b) := ⟨197, [.sl (l.map cBooking), .ag (cBooking b)], [], fun r => .ms 0, fun r => [some ⟨135, 4, r.map cBooking⟩], ok_spec_l6Add l b⟩
def m_spec_BookWay_b0 (n : YNetwork) (l : List YBooking) (thing : Int) (weight : Int) (way : List YTrip) (s0 : Int × (List YBooking)) : Option ((Int × (List YBooking)) ⊕ (List YBooking)) :=
 cond (decide (s0.1 < (way.length : Int)))
 ((getI way s0.1).bind fun y3 =>
 (m_spec_l6Add s0.2 (⟨thing, y3, weight⟩ : YBooking)).bind fun y4 =>
 some (.inl ((w64 (s0.1 + 1)), y4)))
 (some (.inr s0.2))
instance (n : YNetwork) (l : List YBooking) (thing : Int) (weight : Int) (way : List YTrip) : LoopE (m_spec_BookWay_b0 n l thing weight way) := ⟨fun s0 => [.un, .sl (l.map cBooking), vi thing, vi weight, .sl (way.map cTrip), .be 0 0 0, .un, .un, .un, .un, .un, .un, .ms 1, vi s0.1, .un, .un, .un, .un, .un, .un, .un, .un, .un, .un, .un, .un, .un, .un, .un, .un, .un, .un, .un, .un, .un, .un, .un, .un, .un, .un, .un, .un, .un, .un, .un, .un, .un, .un], fun s0 => [some ⟨35, 3, [[.sl (n.legs.map cLeg), .sl (n.off.map cInt), vi n.change]]⟩, some ⟨135, 4, s0.2.map cBooking⟩]⟩
def m_spec_BookWay (n : YNetwork) (l : List YBooking) (thing : Int) (weight : Int) (way : List YTrip) : Option ((List YBooking) × Bool) :=
 (m_spec_l6Copy l).bind fun y1 =>
 (m_spec_AreBookings n l).bind fun y2 =>
 cond (!y2)
 (some (y1, false))
 (cond (decide (20 < (way.length : Int)))
 (some (y1, false))
 ((iterF (m_spec_BookWay_b0 n l thing weight way) NN (0, y1)).bind (fun o0 =>
 (m_spec_AreBookings n o0).bind fun y5 =>
 cond (!y5)
 ((m_spec_l6Copy l).bind fun y6 =>
 some (y6, false))
 (some (o0, true)))))
theorem ok_spec_BookWay (n : YNetwork) (l : List YBooking) (thing : Int) (weight : Int) (way : List YTrip) {r : (List YBooking) × Bool} (H : m_spec_BookWay n l thing weight way = some r) : CallM Tryz.prog 131 [.ag (cNetwork n), .sl (l.map cBooking), vi thing, vi weight, .sl (way.map cTrip)] [] (.tu [.ms 0, vb r.2]) [some ⟨135, 4, r.1.map cBooking⟩] := by
  replace H := H0 H
  unfold m_spec_BookWay at H
  refine callM_of Tryz.func131 rfl Tryz.ntmps131 Tryz.results131 fun Q hQ hQn => ?_
  exact wk2
instance (n : YNetwork) (l : List YBooking) (thing : Int) (weight : Int) (way : List YTrip) : CT Tryz.prog (m_spec_BookWay n l thing weight way) := ⟨131, [.ag (cNetwork n), .sl (l.map cBooking), vi thing, vi weight, .sl (way.map cTrip)], [], fun r => .tu [.ms 0, vb r.2], fun r => [some ⟨135, 4, r.1.map cBooking⟩], ok_spec_BookWay n l thing weight way⟩
end Go.Proofs.YtmcdjilbkmhfoaaGreat
namespace Go.Proofs.YtmcdjilbkmhfoaaGreat
set_option maxRecDepth 10000
open Go.RowKit
set_option linter.unusedVariables false
set_option linter.unusedSimpArgs false
set_option linter.unusedSectionVars false
theorem idx_lt (l : List ByteArray) (p : ByteArray) : -1 ≤ idxV l p ∧ idxV l p < l.length := by
  unfold idxV
  cases h : l.findIdx? fun y => decide (y = p) with
  | none => simp; omega
  | some k =>
    have := (List.findIdx?_eq_some_iff_getElem.1 h).1
    simp only [Option.elim]; omega
theorem idx_mem {l : List ByteArray} {p : ByteArray} (h : p ∈ l) : 0 ≤ idxV l p := by
  unfold idxV
  cases h' : l.findIdx? fun y => decide (y = p) with
  | none =>
    have := List.findIdx?_eq_none_iff.1 h' p h
    simp at this
  | some k => simp only [Option.elim]; omega
theorem legs_in {n : YNetwork} {l : YLeg} (h : l ∈ n.legs) : l.from_ ∈ placesV n ∧ l.to_ ∈ placesV n := by
  obtain ⟨i, hi, rfl⟩ := List.getElem_of_mem h
  obtain ⟨a, b⟩ := names_get hi
  unfold placesV
  exact ⟨foldS_mem.2 (.inl (List.mem_of_getElem? a)), foldS_mem.2 (.inl (List.mem_of_getElem? b))⟩
theorem len_in {α : Type} {xs : List α} {i : Int} (h : 0 ≤ i ∧ i < xs.length) : ∃ x, getI xs i = some x ∧ x ∈ xs := by
  have hlt : i.toNat < xs.length := by omega
  exact ⟨xs[i.toNat], by unfold getI; rw [if_pos h.1]; exact List.getElem?_eq_getElem hlt, List.getElem_mem hlt⟩
section
variable {n : YNetwork} (hf : NetFit n)
include hf
theorem plen : (placesV n).length ≤ 2097152 := by have := placesV_len n; have := hf.legs; omega
theorem idx_v (p : ByteArray) : m_spec_l4Index (placesV n) p = some (idxV (placesV n) p) := l4Index_v (by have := plen hf; omega) p
theorem runs_v (leg day : Int) : ∃ b, m_spec_l3Runs n leg day = some b := (runs_eq hf leg day).2
theorem l6next_tot {l : List YBooking} (hl : l.length ≤ 1048576) {closed : List YTrip} (hc : closed.length ≤ 1048576) {leg : Int} {y : YLeg} (hy : getI n.legs leg = some y) (at_ weight : Int) : Tot (m_spec_l6Next n l closed leg at_ weight) fun r => True := by
  unfold m_spec_l6Next
  have hl0 : Tot (iterF (m_spec_l6Next_b0 n l closed leg at_ weight) NN 0) fun r => True := by
    refine Tot.loop (fun k s => ∃ i : Nat, s = (i : Int) ∧ i + k = 61) (fun k s hs => ?_) NN 61 0 ⟨0, rfl, rfl⟩ (by unfold NN; omega)
    obtain ⟨i, rfl, hk⟩ := hs
    unfold m_spec_l6Next_b0
    refine Tot.cond (fun hd => ?_) fun hd => Tot.ret trivial
    have hi := of_decide_eq_true hd
    have hw : w64 ((i : Int) + 1) = ((i + 1 : Nat) : Int) := by rw [w64_in (by omega)]; omega
    have go : ∀ {σ : Type}, LoopP (fun k (s : Int) => ∃ i : Nat, s = (i : Int) ∧ i + k = 61) (fun r : Unit ⊕ Int => True) k (Sum.inl (w64 ((i : Int) + 1))) := ⟨k - 1, by omega, i + 1, hw, by omega⟩
    obtain ⟨b, hb⟩ := runs_v hf leg (i : Int)
    obtain ⟨v, hv⟩ := starts_some (n := n) (t := ⟨leg, (i : Int)⟩) hy
    obtain ⟨q, hq⟩ := loadOf_some hl (⟨leg, (i : Int)⟩ : YTrip)
    rw [hb, Option.bind_some]
    refine Tot.cond (fun _ => ?_) fun _ => Tot.ret (go (σ := Unit))
    rw [hv, Option.bind_some]
    refine Tot.cond (fun _ => ?_) fun _ => Tot.ret (go (σ := Unit))
    rw [l6Closed_eq, hasTrip_v hc, Option.bind_some]
    refine Tot.cond (fun _ => ?_) fun _ => Tot.ret (go (σ := Unit))
    rw [hy, Option.bind_some, hq, Option.bind_some]
    exact Tot.cond (fun _ => Tot.ret trivial) fun _ => Tot.ret (go (σ := Unit))
  refine Tot.bind hl0 fun r _ => ?_
  cases r with
  | inl u => exact Tot.ret trivial
  | inr v => exact Tot.ret trivial
omit hf in
theorem ready_tot (a : Int) (b : Bool) : Tot (m_spec_l4Ready n a b) fun r => True := by
  unfold m_spec_l4Ready
  exact Tot.cond (fun _ => Tot.ret trivial) fun _ => Tot.ret trivial
omit hf in
theorem max_tot (a b : Int) : Tot (m_spec_Max a b) fun r => True := by
  unfold m_spec_Max
  exact Tot.cond (fun _ => Tot.ret trivial) fun _ => Tot.ret trivial
theorem first_tot (f at_ : Int) : Tot (m_spec_l4First (placesV n) f at_) fun r => r.length = (placesV n).length := by
  have hp := plen hf
  unfold m_spec_l4First
  refine Tot.bind (P := fun o => o.length = (placesV n).length) ?_ fun o ho => Tot.ret ho
  refine Tot.loop (fun k s => ∃ i : Nat, s.1 = (i : Int) ∧ i + k = (placesV n).length ∧ s.2.length = i) (fun k s hs => ?_) NN (placesV n).length _ ⟨0, rfl, by omega, rfl⟩ (by unfold NN; omega)
  obtain ⟨i, hi, hk, hlen⟩ := hs
  unfold m_spec_l4First_b0
  rw [hi]
  refine Tot.cond (fun hd => ?_) fun hd => Tot.ret (by have := of_decide_eq_false hd; simp only [LoopP]; omega)
  have hlt := of_decide_eq_true hd
  have hw : w64 ((i : Int) + 1) = ((i + 1 : Nat) : Int) := by rw [w64_in (by omega)]; omega
  rw [hw]
  have go : ∀ (x : Int), LoopP (fun k (s : Int × List Int) => ∃ i : Nat, s.1 = (i : Int) ∧ i + k = (placesV n).length ∧ s.2.length = i) (fun o : List Int => o.length = (placesV n).length) k (Sum.inl (((i + 1 : Nat) : Int), s.2 ++ [x])) := fun x => ⟨k - 1, by omega, i + 1, rfl, by omega, by simp [hlen]⟩
  refine Tot.cond (fun _ => Tot.bind (max_tot _ _) fun y _ => Tot.chk (app_fit (by simp only [List.length_cons, List.length_nil]; omega) (by omega)) (Tot.ret (go y))) fun _ => Tot.chk (app_fit (by simp only [List.length_cons, List.length_nil]; omega) (by omega)) (Tot.ret (go _))
end
end Go.Proofs.YtmcdjilbkmhfoaaGreat
