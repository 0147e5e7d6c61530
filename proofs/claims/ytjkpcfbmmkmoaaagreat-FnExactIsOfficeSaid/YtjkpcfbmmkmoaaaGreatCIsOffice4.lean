/- A part of the proof of the statement in the last file of this claim: texts on the language of the program and on its functions. No condition. -/
import Derived.Test.YtjkpcfbmmkmoaaaGreatCIsOffice3
import Derived.Sort.Walk0
/- The mirror of impl_IsAct, and that the code does just that (printed by a program of my own). -/
namespace Go.Proofs.YtjkpcfbmmkmoaaaGreat
set_option maxRecDepth 10000
open Go.RowKit
set_option linter.unusedVariables false
set_option maxHeartbeats 16000000
def m_impl_IsAct (a : YAct) : Option Bool :=
 (jn 3 22 (
 cond (decide (a.kind = 1))
 ((m_impl_IsParcel a.parcel).bind fun y1 =>
 some (.inl (y1, a.parcel.label.service, a.parcel.label.serial, a.parcel.label.to_, a.parcel.from_, a.parcel.weight, a.parcel.sides, a.parcel.value, 0, 0, 0, 0, 0)))
 (cond (decide (a.kind = 2))
 ((m_impl_within a.order 1 9999).bind fun y2 =>
 cond y2
 ((m_impl_within a.amount 1 100000).bind fun y3 =>
 some (.inl (y3, 0, 0, ⟨#[]⟩, ⟨#[]⟩, 0, [], 0, a.order, a.amount, 0, 0, 0)))
 (some (.inl (false, 0, 0, ⟨#[]⟩, ⟨#[]⟩, 0, [], 0, a.order, a.amount, 0, 0, 0))))
 (cond (decide (a.kind = 3))
 ((m_impl_within a.until_ 0 100000).bind fun y4 =>
 some (.inl (y4, 0, 0, ⟨#[]⟩, ⟨#[]⟩, 0, [], 0, 0, 0, a.until_, 0, 0)))
 (cond (decide (a.kind = 4))
 ((m_impl_within a.trip.leg 0 19).bind fun y5 =>
 cond y5
 ((m_impl_within a.trip.day 0 60).bind fun y6 =>
 some (.inl (y6, 0, 0, ⟨#[]⟩, ⟨#[]⟩, 0, [], 0, 0, 0, 0, a.trip.leg, a.trip.day)))
 (some (.inl (false, 0, 0, ⟨#[]⟩, ⟨#[]⟩, 0, [], 0, 0, 0, 0, a.trip.leg, a.trip.day))))
 (cond (decide (a.kind = 5))
 (some (.inl (true, 0, 0, ⟨#[]⟩, ⟨#[]⟩, 0, [], 0, 0, 0, 0, 0, 0)))
 (cond (decide (a.kind = 6))
 ((m_impl_within a.order 1 9999).bind fun y7 =>
 some (.inl (y7, 0, 0, ⟨#[]⟩, ⟨#[]⟩, 0, [], 0, a.order, 0, 0, 0, 0)))
 (some (.inl (false, 0, 0, ⟨#[]⟩, ⟨#[]⟩, 0, [], 0, 0, 0, 0, 0, 0)))))))) : Option ((Bool × Int × Int × ByteArray × ByteArray × Int × (List Int) × Int × Int × Int × Int × Int × Int) ⊕ Empty)) (fun z8 => (.un :: .be 0 0 0 :: .un :: .be 1 0 0 :: vb z8.1 :: .un :: .un :: .un :: .un :: .un :: .un :: .un :: .un :: .un :: .un :: .un :: .un :: .un :: .un :: .un :: .un :: .un :: .un :: .un :: .un :: .un :: .un :: .un :: .un :: .un :: .un :: .un :: .un :: .un :: .un :: .un :: .un :: .un :: .un :: .un :: .un :: .un :: .un :: .un :: .un :: .un :: .un :: .un :: .un :: .un :: .un :: .un :: .un :: .un :: .un :: .un :: .un :: .un :: .un :: .un :: .un :: .un :: .un :: .un :: .un :: .un :: .un :: .un :: .un :: .un :: .un :: .un :: .un :: [])) (fun z8 => [some ⟨104, 13, [[vi a.kind, vi a.parcel.label.service, vi a.parcel.label.serial, vs a.parcel.label.to_, vs a.parcel.from_, vi a.parcel.weight, .sl (a.parcel.sides.map cInt), vi a.parcel.value, vi a.order, vi a.amount, vi a.until_, vi a.trip.leg, vi a.trip.day]]⟩, some ⟨104, 13, [[vi a.kind, vi z8.2.1, vi z8.2.2.1, vs z8.2.2.2.1, vs z8.2.2.2.2.1, vi z8.2.2.2.2.2.1, .sl (z8.2.2.2.2.2.2.1.map cInt), vi z8.2.2.2.2.2.2.2.1, vi z8.2.2.2.2.2.2.2.2.1, vi z8.2.2.2.2.2.2.2.2.2.1, vi z8.2.2.2.2.2.2.2.2.2.2.1, vi z8.2.2.2.2.2.2.2.2.2.2.2.1, vi z8.2.2.2.2.2.2.2.2.2.2.2.2]]⟩])).bind (selim (fun z8 =>
 cond z8.1
 ((m_impl_sameActs a (⟨a.kind, (⟨(⟨z8.2.1, z8.2.2.1, z8.2.2.2.1⟩ : YLabel), z8.2.2.2.2.1, z8.2.2.2.2.2.1, z8.2.2.2.2.2.2.1, z8.2.2.2.2.2.2.2.1⟩ : YParcel), z8.2.2.2.2.2.2.2.2.1, z8.2.2.2.2.2.2.2.2.2.1, z8.2.2.2.2.2.2.2.2.2.2.1, (⟨z8.2.2.2.2.2.2.2.2.2.2.2.1, z8.2.2.2.2.2.2.2.2.2.2.2.2⟩ : YTrip)⟩ : YAct)).bind fun y9 =>
 some y9)
 (some false)) (fun r => nomatch r))
theorem ok_impl_IsAct (a : YAct) {r : Bool} (H : m_impl_IsAct a = some r) : CallM Tryz.prog 58 [.ag (cAct a)] [] (vb r) [] := by
  replace H := H0 H
  unfold m_impl_IsAct at H
  refine callM_of Tryz.func58 rfl Tryz.ntmps58 Tryz.results58 fun Q hQ hQn => ?_
  exact wk2
instance (a : YAct) : CT Tryz.prog (m_impl_IsAct a) := ⟨58, [.ag (cAct a)], [], fun r => vb r, fun r => [], ok_impl_IsAct a⟩
end Go.Proofs.YtjkpcfbmmkmoaaaGreat

/- The mirror of spec_IsLabel, and that the code does just that (printed by a program of my own). -/
namespace Go.Proofs.YtjkpcfbmmkmoaaaGreat
set_option maxRecDepth 10000
open Go.RowKit
set_option linter.unusedVariables false
set_option maxHeartbeats 16000000
def m_spec_IsLabel (l : YLabel) : Option Bool :=
 (m_spec_l1In l.service 1 3).bind fun y1 =>
 cond y1
 ((m_spec_l1In l.serial 0 999999999).bind fun y2 =>
 cond y2
 ((m_spec_IsPlace l.to_).bind fun y3 =>
 some y3)
 (some false))
 (some false)
theorem ok_spec_IsLabel (l : YLabel) {r : Bool} (H : m_spec_IsLabel l = some r) : CallM Tryz.prog 192 [.ag (cLabel l)] [] (vb r) [] := by
  replace H := H0 H
  unfold m_spec_IsLabel at H
  refine callM_of Tryz.func192 rfl Tryz.ntmps192 Tryz.results192 fun Q hQ hQn => ?_
  exact wk2
instance (l : YLabel) : CT Tryz.prog (m_spec_IsLabel l) := ⟨192, [.ag (cLabel l)], [], fun r => vb r, fun r => [], ok_spec_IsLabel l⟩
end Go.Proofs.YtjkpcfbmmkmoaaaGreat

/- The mirror of spec_l2Three, and that the code does just that (printed by a program of my own). -/
namespace Go.Proofs.YtjkpcfbmmkmoaaaGreat
set_option maxRecDepth 10000
open Go.RowKit
set_option linter.unusedVariables false
set_option maxHeartbeats 16000000
def m_spec_l2Three_b0 (l : List Int) (s0 : Int) : Option (Int ⊕ (Unit ⊕ Bool)) :=
 cond (decide (s0 < (l.length : Int)))
 ((getI l s0).bind fun y1 =>
 (m_spec_l1In y1 1 2000).bind fun y2 =>
 cond (!y2)
 (some (.inr (.inr false)))
 (some (.inl (w64 (s0 + 1)))))
 (some (.inr (.inl ())))
instance (l : List Int) : LoopE (m_spec_l2Three_b0 l) := ⟨fun s0 => [.sl (l.map cInt), .un, .un, vi s0, .un, .un, .un, .un, .un, .un, .un, .un, .un, .un, .un, .un, .un, .un, .un], fun s0 => []⟩
def m_spec_l2Three (l : List Int) : Option Bool :=
 (iterF (m_spec_l2Three_b0 l) NN 0).bind (selim (fun o0 =>
 some (decide ((l.length : Int) = 3))) (fun r => some r))
theorem ok_spec_l2Three (l : List Int) {r : Bool} (H : m_spec_l2Three l = some r) : CallM Tryz.prog 193 [.sl (l.map cInt)] [] (vb r) [] := by
  replace H := H0 H
  unfold m_spec_l2Three at H
  refine callM_of Tryz.func193 rfl Tryz.ntmps193 Tryz.results193 fun Q hQ hQn => ?_
  exact wk2
instance (l : List Int) : CT Tryz.prog (m_spec_l2Three l) := ⟨193, [.sl (l.map cInt)], [], fun r => vb r, fun r => [], ok_spec_l2Three l⟩
end Go.Proofs.YtjkpcfbmmkmoaaaGreat

/- The mirror of spec_l1Ints, and that the code does just that (printed by a program of my own). -/
namespace Go.Proofs.YtjkpcfbmmkmoaaaGreat
set_option maxRecDepth 10000
open Go.RowKit
set_option linter.unusedVariables false
set_option maxHeartbeats 16000000
def m_spec_l1Ints (l : List Int) : Option (List Int) :=
 (chk (appOk ((([] : List Int) : List Int).length + (l : List Int).length) 8)).bind fun _ =>
 some ((([] : List Int) : List Int) ++ l)
theorem ok_spec_l1Ints (l : List Int) {r : (List Int)} (H : m_spec_l1Ints l = some r) : CallM Tryz.prog 149 [.sl (l.map cInt)] [] (.ms 0) [some ⟨3, 1, r.map cInt⟩] := by
  replace H := H0 H
  unfold m_spec_l1Ints at H
  refine callM_of Tryz.func149 rfl Tryz.ntmps149 Tryz.results149 fun Q hQ hQn => ?_
  exact wk
instance (l : List Int) : CT Tryz.prog (m_spec_l1Ints l) := ⟨149, [.sl (l.map cInt)], [], fun r => .ms 0, fun r => [some ⟨3, 1, r.map cInt⟩], ok_spec_l1Ints l⟩
end Go.Proofs.YtjkpcfbmmkmoaaaGreat

/- The mirror of spec_SortSides, and that the code does just that (printed by a program of my own). -/
namespace Go.Proofs.YtjkpcfbmmkmoaaaGreat
set_option maxRecDepth 10000
open Go.RowKit
set_option linter.unusedVariables false
set_option maxHeartbeats 16000000
def m_spec_SortSides_b1 (l : List Int) (s0 : Int × (List Int)) (s1 : Int) : Option (Int ⊕ Int) :=
 cond (decide (s1 < (s0.2.length : Int)))
 ((getI s0.2 s1).bind fun y1 =>
 (getI l s0.1).bind fun y2 =>
 cond (decide (y2 ≤ y1))
 (some (.inl (w64 (s1 + 1))))
 (some (.inr s1)))
 (some (.inr s1))
instance (l : List Int) (s0 : Int × (List Int)) : LoopE (m_spec_SortSides_b1 l s0) := ⟨fun s1 => [.sl (l.map cInt), .un, .un, .ms 0, vi s0.1, vi s1, .un, .un, .un, .un, .un, .un, .un, .un, .un, .un, .un, .un, .un, .un, .un, .un, .un, .un, .un, .un, .un, .un, .un, .un, .un, .un, .un, .un, .un, .un, .un, .un, .un, .un, .un, .un, .un, .un, .un], fun s1 => [some ⟨3, 1, s0.2.map cInt⟩]⟩
def m_spec_SortSides_b0 (l : List Int) (s0 : Int × (List Int)) : Option ((Int × (List Int)) ⊕ (List Int)) :=
 cond (decide (s0.1 < (l.length : Int)))
 ((iterF (m_spec_SortSides_b1 l s0) NN 0).bind (fun o1 =>
 (chk (slOk 0 o1 s0.2.length)).bind fun _ =>
 (m_spec_l1Ints (subL s0.2 0 o1)).bind fun y3 =>
 (getI l s0.1).bind fun y4 =>
 (chk (appOk ((y3 : List Int).length + ([y4] : List Int).length) 8)).bind fun _ =>
 (chk (slOk o1 (s0.2.length : Int) s0.2.length)).bind fun _ =>
 (chk (appOk ((((y3 : List Int) ++ [y4]) : List Int).length + ((subL s0.2 o1 (s0.2.length : Int)) : List Int).length) 8)).bind fun _ =>
 some (.inl ((w64 (s0.1 + 1)), ((((y3 : List Int) ++ [y4]) : List Int) ++ (subL s0.2 o1 (s0.2.length : Int)))))))
 (some (.inr s0.2))
instance (l : List Int) : LoopE (m_spec_SortSides_b0 l) := ⟨fun s0 => [.sl (l.map cInt), .un, .un, .ms 0, vi s0.1, .un, .un, .un, .un, .un, .un, .un, .un, .un, .un, .un, .un, .un, .un, .un, .un, .un, .un, .un, .un, .un, .un, .un, .un, .un, .un, .un, .un, .un, .un, .un, .un, .un, .un, .un, .un, .un, .un, .un, .un], fun s0 => [some ⟨3, 1, s0.2.map cInt⟩]⟩
def m_spec_SortSides (l : List Int) : Option (List Int) :=
 (iterF (m_spec_SortSides_b0 l) NN (0, ([] : List Int))).bind (fun o0 =>
 some o0)
theorem ok_spec_SortSides (l : List Int) {r : (List Int)} (H : m_spec_SortSides l = some r) : CallM Tryz.prog 216 [.sl (l.map cInt)] [] (.ms 0) [some ⟨3, 1, r.map cInt⟩] := by
  replace H := H0 H
  unfold m_spec_SortSides at H
  refine callM_of Tryz.func216 rfl Tryz.ntmps216 Tryz.results216 fun Q hQ hQn => ?_
  exact wk2
instance (l : List Int) : CT Tryz.prog (m_spec_SortSides l) := ⟨216, [.sl (l.map cInt)], [], fun r => .ms 0, fun r => [some ⟨3, 1, r.map cInt⟩], ok_spec_SortSides l⟩
end Go.Proofs.YtjkpcfbmmkmoaaaGreat

/- The mirror of spec_GirthOf, and that the code does just that (printed by a program of my own). -/
namespace Go.Proofs.YtjkpcfbmmkmoaaaGreat
set_option maxRecDepth 10000
open Go.RowKit
set_option linter.unusedVariables false
set_option maxHeartbeats 16000000
def m_spec_GirthOf (sides : List Int) : Option Int :=
 (m_spec_l2Three sides).bind fun y1 =>
 cond (!y1)
 (some 0)
 ((m_spec_SortSides sides).bind fun y2 =>
 (getI y2 0).bind fun y3 =>
 (getI y2 1).bind fun y4 =>
 (getI y2 2).bind fun y5 =>
 some (w64 ((w64 (y3 + (w64 (2 * y4)))) + (w64 (2 * y5)))))
theorem ok_spec_GirthOf (sides : List Int) {r : Int} (H : m_spec_GirthOf sides = some r) : CallM Tryz.prog 194 [.sl (sides.map cInt)] [] (vi r) [] := by
  replace H := H0 H
  unfold m_spec_GirthOf at H
  refine callM_of Tryz.func194 rfl Tryz.ntmps194 Tryz.results194 fun Q hQ hQn => ?_
  exact wk2
instance (sides : List Int) : CT Tryz.prog (m_spec_GirthOf sides) := ⟨194, [.sl (sides.map cInt)], [], fun r => vi r, fun r => [], ok_spec_GirthOf sides⟩
end Go.Proofs.YtjkpcfbmmkmoaaaGreat

/- The mirror of spec_IsParcel, and that the code does just that (printed by a program of my own). -/
namespace Go.Proofs.YtjkpcfbmmkmoaaaGreat
set_option maxRecDepth 10000
open Go.RowKit
set_option linter.unusedVariables false
set_option maxHeartbeats 16000000
def m_spec_IsParcel (p : YParcel) : Option Bool :=
 (m_spec_IsLabel p.label).bind fun y1 =>
 cond y1
 ((m_spec_IsPlace p.from_).bind fun y2 =>
 cond y2
 (cond (!decide (p.from_ = p.label.to_))
 ((m_spec_l1In p.weight 1 30000).bind fun y3 =>
 cond y3
 ((m_spec_l2Three p.sides).bind fun y4 =>
 cond y4
 ((m_spec_GirthOf p.sides).bind fun y5 =>
 cond (decide (y5 ≤ 3600))
 ((m_spec_l1In p.value 0 500000).bind fun y6 =>
 some y6)
 (some false))
 (some false))
 (some false))
 (some false))
 (some false))
 (some false)
theorem ok_spec_IsParcel (p : YParcel) {r : Bool} (H : m_spec_IsParcel p = some r) : CallM Tryz.prog 127 [.ag (cParcel p)] [] (vb r) [] := by
  replace H := H0 H
  unfold m_spec_IsParcel at H
  refine callM_of Tryz.func127 rfl Tryz.ntmps127 Tryz.results127 fun Q hQ hQn => ?_
  exact wk2
instance (p : YParcel) : CT Tryz.prog (m_spec_IsParcel p) := ⟨127, [.ag (cParcel p)], [], fun r => vb r, fun r => [], ok_spec_IsParcel p⟩
end Go.Proofs.YtjkpcfbmmkmoaaaGreat

/- The mirror of spec_IsAct, and that the code does just that (printed by a program of my own). -/
namespace Go.Proofs.YtjkpcfbmmkmoaaaGreat
set_option maxRecDepth 10000
open Go.RowKit
set_option linter.unusedVariables false
set_option maxHeartbeats 16000000
def m_spec_IsAct (a : YAct) : Option Bool :=
 (jn 2 7 (
 cond (decide (a.kind = 1))
 ((m_spec_IsParcel a.parcel).bind fun y1 =>
 cond (!y1)
 (some (.inr false))
 (some (.inl ())))
 (cond (!decide (a.parcel.label = (⟨0, 0, ⟨#[]⟩⟩ : YLabel)))
 (some (.inr false))
 (cond (!decide (a.parcel.from_ = ⟨#[]⟩))
 (some (.inr false))
 (cond (!decide (a.parcel.weight = 0))
 (some (.inr false))
 (cond (decide (0 < (a.parcel.sides.length : Int)))
 (some (.inr false))
 (cond (!decide (a.parcel.value = 0))
 (some (.inr false))
 (some (.inl ()))))))) : Option (Unit ⊕ Bool)) (fun z2 => (.un :: .be 0 0 0 :: .un :: .un :: .un :: .un :: .un :: .un :: .un :: .un :: .un :: .un :: .un :: .un :: .un :: .un :: .un :: .un :: .un :: .un :: .un :: .un :: .un :: .un :: .un :: .un :: .un :: .un :: .un :: .un :: .un :: .un :: .un :: .un :: .un :: .un :: .un :: .un :: .un :: .un :: .un :: .un :: .un :: .un :: .un :: .un :: .un :: .un :: .un :: .un :: .un :: .un :: .un :: .un :: .un :: .un :: .un :: .un :: .un :: .un :: .un :: .un :: .un :: .un :: .un :: .un :: .un :: .un :: .un :: .un :: .un :: .un :: .un :: .un :: .un :: .un :: .un :: .un :: .un :: .un :: .un :: .un :: .un :: .un :: .un :: .un :: .un :: .un :: .un :: .un :: .un :: .un :: .un :: .un :: .un :: .un :: .un :: .un :: .un :: .un :: .un :: .un :: .un :: .un :: .un :: .un :: .un :: .un :: .un :: .un :: .un :: .un :: .un :: .un :: .un :: .un :: .un :: .un :: .un :: .un :: .un :: .un :: .un :: .un :: .un :: .un :: .un :: .un :: .un :: .un :: .un :: [])) (fun z2 => [some ⟨104, 13, [[vi a.kind, vi a.parcel.label.service, vi a.parcel.label.serial, vs a.parcel.label.to_, vs a.parcel.from_, vi a.parcel.weight, .sl (a.parcel.sides.map cInt), vi a.parcel.value, vi a.order, vi a.amount, vi a.until_, vi a.trip.leg, vi a.trip.day]]⟩])).bind (selim (fun z2 =>
 (jn 7 8 (
 cond (decide (a.kind = 2))
 (some (.inl true))
 (some (.inl (decide (a.kind = 6)))) : Option (Bool ⊕ Empty)) (fun z3 => (.un :: .be 0 0 0 :: .un :: .un :: vb z3 :: .un :: .un :: .un :: .un :: .un :: .un :: .un :: .un :: .un :: .un :: .un :: .un :: .un :: .un :: .un :: .un :: .un :: .un :: .un :: .un :: .un :: .un :: .un :: .un :: .un :: .un :: .un :: .un :: .un :: .un :: .un :: .un :: .un :: .un :: .un :: .un :: .un :: .un :: .un :: .un :: .un :: .un :: .un :: .un :: .un :: .un :: .un :: .un :: .un :: .un :: .un :: .un :: .un :: .un :: .un :: .un :: .un :: .un :: .un :: .un :: .un :: .un :: .un :: .un :: .un :: .un :: .un :: .un :: .un :: .un :: .un :: .un :: .un :: .un :: .un :: .un :: .un :: .un :: .un :: .un :: .un :: .un :: .un :: .un :: .un :: .un :: .un :: .un :: .un :: .un :: .un :: .un :: .un :: .un :: .un :: .un :: .un :: .un :: .un :: .un :: .un :: .un :: .un :: .un :: .un :: .un :: .un :: .un :: .un :: .un :: .un :: .un :: .un :: .un :: .un :: .un :: .un :: .un :: .un :: .un :: .un :: .un :: .un :: .un :: .un :: .un :: [])) (fun z3 => [some ⟨104, 13, [[vi a.kind, vi a.parcel.label.service, vi a.parcel.label.serial, vs a.parcel.label.to_, vs a.parcel.from_, vi a.parcel.weight, .sl (a.parcel.sides.map cInt), vi a.parcel.value, vi a.order, vi a.amount, vi a.until_, vi a.trip.leg, vi a.trip.day]]⟩])).bind (selim (fun z3 =>
 (jn 8 10 (
 cond z3
 ((m_spec_l1In a.order 1 9999).bind fun y4 =>
 cond (!y4)
 (some (.inr false))
 (cond (!z3)
 (cond (!decide (a.order = 0))
 (some (.inr false))
 (some (.inl ())))
 (some (.inl ()))))
 (cond (!z3)
 (cond (!decide (a.order = 0))
 (some (.inr false))
 (some (.inl ())))
 (some (.inl ()))) : Option (Unit ⊕ Bool)) (fun z5 => (.un :: .be 0 0 0 :: .un :: .un :: .un :: .un :: .un :: .un :: .un :: .un :: .un :: .un :: .un :: .un :: .un :: .un :: .un :: .un :: .un :: .un :: .un :: .un :: .un :: .un :: .un :: .un :: .un :: .un :: .un :: .un :: .un :: .un :: .un :: .un :: .un :: .un :: .un :: .un :: .un :: .un :: .un :: .un :: .un :: .un :: .un :: .un :: .un :: .un :: .un :: .un :: .un :: .un :: .un :: .un :: .un :: .un :: .un :: .un :: .un :: .un :: .un :: .un :: .un :: .un :: .un :: .un :: .un :: .un :: .un :: .un :: .un :: .un :: .un :: .un :: .un :: .un :: .un :: .un :: .un :: .un :: .un :: .un :: .un :: .un :: .un :: .un :: .un :: .un :: .un :: .un :: .un :: .un :: .un :: .un :: .un :: .un :: .un :: .un :: .un :: .un :: .un :: .un :: .un :: .un :: .un :: .un :: .un :: .un :: .un :: .un :: .un :: .un :: .un :: .un :: .un :: .un :: .un :: .un :: .un :: .un :: .un :: .un :: .un :: .un :: .un :: .un :: .un :: .un :: .un :: .un :: .un :: [])) (fun z5 => [some ⟨104, 13, [[vi a.kind, vi a.parcel.label.service, vi a.parcel.label.serial, vs a.parcel.label.to_, vs a.parcel.from_, vi a.parcel.weight, .sl (a.parcel.sides.map cInt), vi a.parcel.value, vi a.order, vi a.amount, vi a.until_, vi a.trip.leg, vi a.trip.day]]⟩])).bind (selim (fun z5 =>
 (jn 10 12 (
 cond (decide (a.kind = 2))
 ((m_spec_l1In a.amount 1 100000).bind fun y6 =>
 cond (!y6)
 (some (.inr false))
 (cond (!decide (a.kind = 2))
 (cond (!decide (a.amount = 0))
 (some (.inr false))
 (some (.inl ())))
 (some (.inl ()))))
 (cond (!decide (a.kind = 2))
 (cond (!decide (a.amount = 0))
 (some (.inr false))
 (some (.inl ())))
 (some (.inl ()))) : Option (Unit ⊕ Bool)) (fun z7 => (.un :: .be 0 0 0 :: .un :: .un :: .un :: .un :: .un :: .un :: .un :: .un :: .un :: .un :: .un :: .un :: .un :: .un :: .un :: .un :: .un :: .un :: .un :: .un :: .un :: .un :: .un :: .un :: .un :: .un :: .un :: .un :: .un :: .un :: .un :: .un :: .un :: .un :: .un :: .un :: .un :: .un :: .un :: .un :: .un :: .un :: .un :: .un :: .un :: .un :: .un :: .un :: .un :: .un :: .un :: .un :: .un :: .un :: .un :: .un :: .un :: .un :: .un :: .un :: .un :: .un :: .un :: .un :: .un :: .un :: .un :: .un :: .un :: .un :: .un :: .un :: .un :: .un :: .un :: .un :: .un :: .un :: .un :: .un :: .un :: .un :: .un :: .un :: .un :: .un :: .un :: .un :: .un :: .un :: .un :: .un :: .un :: .un :: .un :: .un :: .un :: .un :: .un :: .un :: .un :: .un :: .un :: .un :: .un :: .un :: .un :: .un :: .un :: .un :: .un :: .un :: .un :: .un :: .un :: .un :: .un :: .un :: .un :: .un :: .un :: .un :: .un :: .un :: .un :: .un :: .un :: .un :: .un :: [])) (fun z7 => [some ⟨104, 13, [[vi a.kind, vi a.parcel.label.service, vi a.parcel.label.serial, vs a.parcel.label.to_, vs a.parcel.from_, vi a.parcel.weight, .sl (a.parcel.sides.map cInt), vi a.parcel.value, vi a.order, vi a.amount, vi a.until_, vi a.trip.leg, vi a.trip.day]]⟩])).bind (selim (fun z7 =>
 (jn 12 14 (
 cond (decide (a.kind = 3))
 ((m_spec_l1In a.until_ 0 100000).bind fun y8 =>
 cond (!y8)
 (some (.inr false))
 (cond (!decide (a.kind = 3))
 (cond (!decide (a.until_ = 0))
 (some (.inr false))
 (some (.inl ())))
 (some (.inl ()))))
 (cond (!decide (a.kind = 3))
 (cond (!decide (a.until_ = 0))
 (some (.inr false))
 (some (.inl ())))
 (some (.inl ()))) : Option (Unit ⊕ Bool)) (fun z9 => (.un :: .be 0 0 0 :: .un :: .un :: .un :: .un :: .un :: .un :: .un :: .un :: .un :: .un :: .un :: .un :: .un :: .un :: .un :: .un :: .un :: .un :: .un :: .un :: .un :: .un :: .un :: .un :: .un :: .un :: .un :: .un :: .un :: .un :: .un :: .un :: .un :: .un :: .un :: .un :: .un :: .un :: .un :: .un :: .un :: .un :: .un :: .un :: .un :: .un :: .un :: .un :: .un :: .un :: .un :: .un :: .un :: .un :: .un :: .un :: .un :: .un :: .un :: .un :: .un :: .un :: .un :: .un :: .un :: .un :: .un :: .un :: .un :: .un :: .un :: .un :: .un :: .un :: .un :: .un :: .un :: .un :: .un :: .un :: .un :: .un :: .un :: .un :: .un :: .un :: .un :: .un :: .un :: .un :: .un :: .un :: .un :: .un :: .un :: .un :: .un :: .un :: .un :: .un :: .un :: .un :: .un :: .un :: .un :: .un :: .un :: .un :: .un :: .un :: .un :: .un :: .un :: .un :: .un :: .un :: .un :: .un :: .un :: .un :: .un :: .un :: .un :: .un :: .un :: .un :: .un :: .un :: .un :: [])) (fun z9 => [some ⟨104, 13, [[vi a.kind, vi a.parcel.label.service, vi a.parcel.label.serial, vs a.parcel.label.to_, vs a.parcel.from_, vi a.parcel.weight, .sl (a.parcel.sides.map cInt), vi a.parcel.value, vi a.order, vi a.amount, vi a.until_, vi a.trip.leg, vi a.trip.day]]⟩])).bind (selim (fun z9 =>
 (jn 14 16 (
 cond (decide (a.kind = 4))
 ((m_spec_l1In a.trip.leg 0 19).bind fun y10 =>
 cond (!y10)
 (some (.inr false))
 ((m_spec_l1In a.trip.day 0 60).bind fun y11 =>
 cond (!y11)
 (some (.inr false))
 (cond (!decide (a.kind = 4))
 (cond (!decide (a.trip = (⟨0, 0⟩ : YTrip)))
 (some (.inr false))
 (some (.inl ())))
 (some (.inl ())))))
 (cond (!decide (a.kind = 4))
 (cond (!decide (a.trip = (⟨0, 0⟩ : YTrip)))
 (some (.inr false))
 (some (.inl ())))
 (some (.inl ()))) : Option (Unit ⊕ Bool)) (fun z12 => (.un :: .be 0 0 0 :: .un :: .un :: .un :: .un :: .un :: .un :: .un :: .un :: .un :: .un :: .un :: .un :: .un :: .un :: .un :: .un :: .un :: .un :: .un :: .un :: .un :: .un :: .un :: .un :: .un :: .un :: .un :: .un :: .un :: .un :: .un :: .un :: .un :: .un :: .un :: .un :: .un :: .un :: .un :: .un :: .un :: .un :: .un :: .un :: .un :: .un :: .un :: .un :: .un :: .un :: .un :: .un :: .un :: .un :: .un :: .un :: .un :: .un :: .un :: .un :: .un :: .un :: .un :: .un :: .un :: .un :: .un :: .un :: .un :: .un :: .un :: .un :: .un :: .un :: .un :: .un :: .un :: .un :: .un :: .un :: .un :: .un :: .un :: .un :: .un :: .un :: .un :: .un :: .un :: .un :: .un :: .un :: .un :: .un :: .un :: .un :: .un :: .un :: .un :: .un :: .un :: .un :: .un :: .un :: .un :: .un :: .un :: .un :: .un :: .un :: .un :: .un :: .un :: .un :: .un :: .un :: .un :: .un :: .un :: .un :: .un :: .un :: .un :: .un :: .un :: .un :: .un :: .un :: .un :: [])) (fun z12 => [some ⟨104, 13, [[vi a.kind, vi a.parcel.label.service, vi a.parcel.label.serial, vs a.parcel.label.to_, vs a.parcel.from_, vi a.parcel.weight, .sl (a.parcel.sides.map cInt), vi a.parcel.value, vi a.order, vi a.amount, vi a.until_, vi a.trip.leg, vi a.trip.day]]⟩])).bind (selim (fun z12 =>
 (m_spec_l1In a.kind 1 6).bind fun y13 =>
 some y13) (fun r => some r))) (fun r => some r))) (fun r => some r))) (fun r => some r))) (fun r => nomatch r))) (fun r => some r))
theorem ok_spec_IsAct (a : YAct) {r : Bool} (H : m_spec_IsAct a = some r) : CallM Tryz.prog 47 [.ag (cAct a)] [] (vb r) [] := by
  replace H := H0 H
  unfold m_spec_IsAct at H
  refine callM_of Tryz.func47 rfl Tryz.ntmps47 Tryz.results47 fun Q hQ hQn => ?_
  exact wk2
instance (a : YAct) : CT Tryz.prog (m_spec_IsAct a) := ⟨47, [.ag (cAct a)], [], fun r => vb r, fun r => [], ok_spec_IsAct a⟩
end Go.Proofs.YtjkpcfbmmkmoaaaGreat

/- Sides, labels, parcels and acts: the two sides answer alike. -/
namespace Go.Proofs.YtjkpcfbmmkmoaaaGreat
set_option maxRecDepth 10000
open Go.RowKit Go.Sort
set_option linter.unusedVariables false
set_option linter.unusedSimpArgs false
set_option maxHeartbeats 1000000
theorem threeB_eq : @m_impl_threeSides_b0 = @m_spec_l2Three_b0 := by
  funext l i; unfold m_impl_threeSides_b0 m_spec_l2Three_b0; rw [within_eq]
theorem three_eq (l : List Int) : m_impl_threeSides l = m_spec_l2Three l := by
  unfold m_impl_threeSides m_spec_l2Three; rw [threeB_eq]
def threeV (l : List Int) : Bool := l.all (fun n => decide (1 ≤ n) && decide (n ≤ 2000)) && decide ((l.length : Int) = 3)
theorem three_v {l : List Int} (h : l.length < NN) : m_spec_l2Three l = some (threeV l) := by
  have e : iterF (m_spec_l2Three_b0 l) NN 0 = some (if l.any (fun n => !(decide (1 ≤ n) && decide (n ≤ 2000))) = true then .inr false else .inl ()) := by
    refine iter_find (fun i hi => ?_) ?_ h
    · have hx : l[i]? = some l[i] := List.getElem?_eq_getElem hi
      have hw := w64_nat hi (by unfold NN at h; omega)
      unfold m_spec_l2Three_b0
      rw [decide_eq_true (by omega : (i : Int) < l.length), cond_true, getI_nat, hx, Option.bind_some, l1In_v, Option.bind_some, hw]
      cases (decide (1 ≤ l[i]) && decide (l[i] ≤ 2000)) <;> rfl
    · unfold m_spec_l2Three_b0
      rw [decide_eq_false (by omega : ¬ ((l.length : Int) < l.length))]; rfl
  unfold m_spec_l2Three threeV
  rw [e, List.all_eq_not_any_not]
  cases l.any (fun n => !(decide (1 ≤ n) && decide (n ≤ 2000))) <;> rfl
theorem iter_more {σ ο : Type} {body : σ → Option (σ ⊕ ο)} {o : ο} : ∀ {n : Nat} {s : σ}, iterF body n s = some o → ∀ k, iterF body (n + k) s = some o
  | 0, s, h, k => by cases h
  | n + 1, s, h, k => by
    rw [Nat.add_right_comm]
    unfold iterF at *
    cases hb : body s with
    | none => rw [hb] at h; cases h
    | some x =>
      rw [hb] at h
      cases x with
      | inl s' => exact iter_more (n := n) h k
      | inr o' => exact h
theorem iter_NN {σ ο : Type} {body : σ → Option (σ ⊕ ο)} {o : ο} {n : Nat} {s : σ} (h : iterF body n s = some o) (hn : n ≤ NN) : iterF body NN s = some o := by
  have := iter_more h (NN - n)
  rwa [Nat.add_sub_cancel' hn] at this
theorem itl {σ ο : Type} {body : σ → Option (σ ⊕ ο)} {n : Nat} {s s' : σ} (h : body s = some (.inl s')) : iterF body (n + 1) s = iterF body n s' := by
  show (body s).bind _ = _
  rw [h]; rfl
theorem itr {σ ο : Type} {body : σ → Option (σ ⊕ ο)} {n : Nat} {s : σ} {o : ο} (h : body s = some (.inr o)) : iterF body (n + 1) s = some o := by
  show (body s).bind _ = _
  rw [h]; rfl
theorem w1 : w64 1 = 1 := by decide
theorem w2 : w64 2 = 2 := by decide
theorem w3 : w64 3 = 3 := by decide
/-- Where y goes. -/
def pos2 (a b y : Int) : Int := if y ≤ a then (if y ≤ b then 2 else 1) else 0
theorem inn0 (l : List Int) (i : Int) : iterF (m_spec_SortSides_b1 l (i, [])) NN 0 = some ((0 : Nat) : Int) := iter_NN (n := 1) (itr (by simp [m_spec_SortSides_b1])) (by unfold NN; omega)
theorem inn1 {l : List Int} {i y a : Int} (h : getI l i = some y) : iterF (m_spec_SortSides_b1 l (i, [a])) NN 0 = some (((if y ≤ a then 1 else 0 : Nat)) : Int) := by
  refine iter_NN (n := 2) ?_ (by unfold NN; omega)
  have q0 : getI [a] 0 = some a := rfl
  by_cases h1 : y ≤ a
  · rw [if_pos h1, itl (s' := 1) (by simp [m_spec_SortSides_b1, h, q0, h1, w1]), itr (o := 1) (by simp [m_spec_SortSides_b1])]; rfl
  · rw [if_neg h1, itr (o := 0) (by simp [m_spec_SortSides_b1, h, q0, h1])]; rfl
theorem inn2 {l : List Int} {i y a b : Int} (h : getI l i = some y) : iterF (m_spec_SortSides_b1 l (i, [a, b])) NN 0 = some (((if y ≤ a then (if y ≤ b then 2 else 1) else 0 : Nat)) : Int) := by
  refine iter_NN (n := 3) ?_ (by unfold NN; omega)
  have q0 : getI [a, b] 0 = some a := rfl
  have q1 : getI [a, b] 1 = some b := rfl
  by_cases h1 : y ≤ a
  · rw [if_pos h1, itl (s' := 1) (by simp [m_spec_SortSides_b1, h, q0, h1, w1])]
    by_cases h2 : y ≤ b
    · rw [if_pos h2, itl (s' := 2) (by simp [m_spec_SortSides_b1, h, q1, h2, w2]), itr (o := 2) (by simp [m_spec_SortSides_b1])]; rfl
    · rw [if_neg h2, itr (o := 1) (by simp [m_spec_SortSides_b1, h, q1, h2])]; rfl
  · rw [if_neg h1, itr (o := 0) (by simp [m_spec_SortSides_b1, h, q0, h1])]; rfl
theorem l1Ints_v {l : List Int} (h : l.length ≤ 1048576) : m_spec_l1Ints l = some l := by
  have c : chk (appOk (([] : List Int).length + l.length) 8) = some () := chk_t (decide_eq_true ⟨by simp; omega, by simp; omega⟩)
  unfold m_spec_l1Ints
  rw [c]
  rfl
theorem outb {l out : List Int} {i y : Int} {k : Nat} (hi : i < (l.length : Int)) (hy : getI l i = some y) (hk : iterF (m_spec_SortSides_b1 l (i, out)) NN 0 = some (k : Int)) (hkl : k ≤ out.length) (hl : out.length ≤ 1000) :
    m_spec_SortSides_b0 l (i, out) = some (.inl (w64 (i + 1), out.take k ++ [y] ++ out.drop k)) := by
  unfold m_spec_SortSides_b0
  have t1 : subL out 0 (k : Int) = out.take k := by simp [subL]
  have t2 : subL out (k : Int) (out.length : Int) = out.drop k := by simp only [subL, Int.toNat_natCast]; exact List.take_of_length_le (by simp)
  have c1 : chk (slOk 0 (k : Int) (out.length : Int)) = some () := chk_t (decide_eq_true ⟨by omega, by omega, by omega⟩)
  have c2 : chk (slOk (k : Int) (out.length : Int) (out.length : Int)) = some () := chk_t (decide_eq_true ⟨by omega, by omega, by omega⟩)
  have c3 : chk (appOk ((out.take k).length + ([y] : List Int).length) 8) = some () := chk_t (decide_eq_true ⟨by simp; omega, by simp; omega⟩)
  have c4 : chk (appOk ((out.take k ++ [y]).length + (out.drop k).length) 8) = some () := chk_t (decide_eq_true ⟨by simp; omega, by simp; omega⟩)
  simp only [decide_eq_true hi, cond_true, hk, Option.bind_some, c1, t1, l1Ints_v (l := out.take k) (by simp; omega), hy, c3, c2, t2, c4]
theorem srt_spec (x y z : Int) : m_spec_SortSides [x, y, z] = some (srt3 [x, y, z]) := by
  have g0 : getI [x, y, z] 0 = some x := rfl
  have g1 : getI [x, y, z] 1 = some y := rfl
  have g2 : getI [x, y, z] 2 = some z := rfl
  have e : iterF (m_spec_SortSides_b0 [x, y, z]) NN (0, []) = some (srt3 [x, y, z]) := by
    refine iter_NN (n := 4) ?_ (by unfold NN; omega)
    have e0 := outb (l := [x, y, z]) (by simp) g0 (inn0 _ _) (Nat.le_refl _) (by simp)
    have hE : ∀ o : List Int, m_spec_SortSides_b0 [x, y, z] (3, o) = some (.inr o) := fun o => by simp [m_spec_SortSides_b0]
    simp only [List.take_nil, List.drop_nil, List.nil_append, List.append_nil, show w64 ((0 : Int) + 1) = 1 by decide] at e0
    have e1 := outb (l := [x, y, z]) (out := [x]) (by simp) g1 (inn1 g1) (by split <;> simp) (by simp)
    simp only [show w64 ((1 : Int) + 1) = 2 by decide] at e1
    have e2 := fun a b => outb (l := [x, y, z]) (out := [a, b]) (by simp) g2 (inn2 g2) (by split <;> (try split) <;> simp) (by simp)
    simp only [show w64 ((2 : Int) + 1) = 3 by decide] at e2
    have hs : srt3 [x, y, z] = (Sort.insertionSort gtI #[x, y, z] 0 3).toList := rfl
    rw [hs]
    unfold Sort.insertionSort
    rw [insOuter, if_pos (by omega), insOuter, if_pos (by omega), insOuter, if_neg (by omega)]
    by_cases h1 : y ≤ x
    · have h1' : ¬ x < y := by omega
      rw [if_pos h1] at e1
      have e2' := e2 x y
      by_cases h2 : z ≤ x
      · by_cases h3 : z ≤ y
        · rw [if_pos h2, if_pos h3] at e2'
          simp at e1 e2'
          rw [itl e0, itl e1, itl e2', itr (hE _)]; simp [insInner, swp, gtI, h1', show ¬ y < z by omega]
        · rw [if_pos h2, if_neg h3] at e2'
          simp at e1 e2'
          rw [itl e0, itl e1, itl e2', itr (hE _)]; simp [insInner, swp, gtI, h1', show y < z by omega, show ¬ x < z by omega]
      · rw [if_neg h2] at e2'
        simp at e1 e2'
        rw [itl e0, itl e1, itl e2', itr (hE _)]; simp [insInner, swp, gtI, h1', show y < z by omega, show x < z by omega]
    · have h1' : x < y := by omega
      rw [if_neg h1] at e1
      have e2' := e2 y x
      by_cases h2 : z ≤ y
      · by_cases h3 : z ≤ x
        · rw [if_pos h2, if_pos h3] at e2'
          simp at e1 e2'
          rw [itl e0, itl e1, itl e2', itr (hE _)]; simp [insInner, swp, gtI, h1', show ¬ x < z by omega]
        · rw [if_pos h2, if_neg h3] at e2'
          simp at e1 e2'
          rw [itl e0, itl e1, itl e2', itr (hE _)]; simp [insInner, swp, gtI, h1', show x < z by omega, show ¬ y < z by omega]
      · rw [if_neg h2] at e2'
        simp at e1 e2'
        rw [itl e0, itl e1, itl e2', itr (hE _)]; simp [insInner, swp, gtI, h1', show y < z by omega, show x < z by omega]
  unfold m_spec_SortSides
  rw [e]; rfl
theorem three_len {l : List Int} (h : threeV l = true) : l.length = 3 := by
  unfold threeV at h
  have := (Bool.and_eq_true _ _ ▸ h : _ ∧ _).2
  have := of_decide_eq_true this
  omega
theorem girth_eq {l : List Int} (h : l.length < NN) : m_impl_GirthOf l = m_spec_GirthOf l ∧ ∃ b, m_spec_GirthOf l = some b := by
  unfold m_impl_GirthOf m_spec_GirthOf
  rw [three_eq, three_v h]
  cases ht : threeV l with
  | false => exact ⟨rfl, _, rfl⟩
  | true =>
    have h3 := three_len ht
    match l, h3 with
    | [x, y, z], _ =>
      have hm : m_impl_SortSides [x, y, z] = some (srt3 [x, y, z]) := if_pos rfl
      have hl := srt3_len [x, y, z]
      match hs : srt3 [x, y, z], hl with
      | [a, b, c], _ =>
        simp only [srt_spec, hm, hs, Option.bind_some, Bool.not_true, cond_false]
        exact ⟨trivial, _, rfl⟩
theorem label_eq {l : YLabel} (h : l.to_.size ≤ B60) : m_impl_IsLabel l = m_spec_IsLabel l ∧ ∃ b, m_spec_IsLabel l = some b := by
  obtain ⟨e, b, hb⟩ := isPlace_eq h
  unfold m_impl_IsLabel m_spec_IsLabel
  rw [within_eq, e, hb, l1In_v, l1In_v]
  refine ⟨rfl, ?_⟩
  cases (decide (1 ≤ l.service) && decide (l.service ≤ 3)) <;> cases (decide (0 ≤ l.serial) && decide (l.serial ≤ 999999999)) <;> exact ⟨_, rfl⟩
theorem parcel_eq {p : YParcel} (h1 : p.label.to_.size ≤ B60) (h2 : p.from_.size ≤ B60) (h3 : p.sides.length < NN) : m_impl_IsParcel p = m_spec_IsParcel p ∧ ∃ b, m_spec_IsParcel p = some b := by
  obtain ⟨e1, b1, hb1⟩ := label_eq h1
  obtain ⟨e2, b2, hb2⟩ := isPlace_eq h2
  obtain ⟨e3, b3, hb3⟩ := girth_eq h3
  unfold m_impl_IsParcel m_spec_IsParcel
  rw [within_eq, e1, e2, e3, three_eq, hb1, hb2, hb3, three_v h3, l1In_v, l1In_v]
  refine ⟨rfl, ?_⟩
  simp only [Option.bind_some]
  generalize (decide (1 ≤ p.weight) && decide (p.weight ≤ 30000)) = c1
  generalize threeV p.sides = c2
  generalize decide (b3 ≤ 3600) = c3
  generalize (!decide (p.from_ = p.label.to_)) = c4
  cases b1
  · exact ⟨_, rfl⟩
  cases b2
  · exact ⟨_, rfl⟩
  cases c4
  · exact ⟨_, rfl⟩
  cases c1
  · exact ⟨_, rfl⟩
  cases c2
  · exact ⟨_, rfl⟩
  cases c3 <;> exact ⟨_, rfl⟩
theorem same_v {a b : List Int} (h : a.length < NN) : m_impl_same_int_ a b = some (decide (a = b)) := by
  unfold m_impl_same_int_
  by_cases hl : a.length = b.length
  · have e : iterF (m_impl_same_int__b0 a b) NN 0 = some (if (List.range a.length).all (fun i => decide (a[i]? = b[i]?)) = true then .inl () else .inr false) := by
      refine iter_check (fun i hi _ => ?_) (fun _ => ?_) h
      · have hx : a[i]? = some a[i] := List.getElem?_eq_getElem hi
        have hy : b[i]? = some b[i] := List.getElem?_eq_getElem (by omega)
        have hw := w64_nat hi (by unfold NN at h; omega)
        unfold m_impl_same_int__b0
        rw [decide_eq_true (by omega : (i : Int) < a.length), cond_true, getI_nat, getI_nat, hx, hy, Option.bind_some, Option.bind_some, hw]
        by_cases he : a[i] = b[i] <;> simp [he]
      · unfold m_impl_same_int__b0
        rw [decide_eq_false (by omega : ¬ ((a.length : Int) < a.length))]; rfl
    rw [decide_eq_true (by omega : (a.length : Int) = b.length), e]
    by_cases hab : a = b
    · subst hab
      simp
    · rw [if_neg, decide_eq_false hab]
      · rfl
      · intro hall
        refine hab (List.ext_getElem? fun i => ?_)
        by_cases hi : i < a.length
        · exact of_decide_eq_true (List.all_eq_true.1 hall i (List.mem_range.2 hi))
        · rw [List.getElem?_eq_none (by omega), List.getElem?_eq_none (by omega)]
  · rw [decide_eq_false (by omega : ¬ ((a.length : Int) = b.length)), decide_eq_false (fun e => hl (by rw [e]))]
    rfl
theorem jn_eq {ο α : Type} (i j : Nat) (J : Option (ο ⊕ α)) (T : ο → List PV) (M : ο → Mem) : jn i j J T M = J := by unfold jn; rfl
theorem cnd1 (b c : Bool) : (bif b then some c else some false) = some (b && c) := by cases b <;> rfl
theorem cnd2 (b c : Bool) : (bif !b then some false else some c) = some (b && c) := by cases b <;> rfl
theorem cnd3 (b c : Bool) : (bif b then some false else some c) = some (!b && c) := by cases b <;> rfl
theorem bndc {α β : Type} (b : Bool) (X Y : Option α) (S : α → Option β) : (bif b then X else Y).bind S = bif b then X.bind S else Y.bind S := by cases b <;> rfl
theorem bexI {α β γ : Type} {o : α} {F : α → Option γ} {G : β → Option γ} : (some (Sum.inl o)).bind (selim F G) = F o := rfl
theorem bexO {α β γ : Type} {o : β} {F : α → Option γ} {G : β → Option γ} : (some (Sum.inr o)).bind (selim F G) = G o := rfl
theorem sameParcels_v {a b : YParcel} (h : a.sides.length < NN) : m_impl_sameParcels a b = some (decide (a.label = b.label) && (decide (a.from_ = b.from_) && (decide (a.weight = b.weight) && (decide (a.sides = b.sides) && decide (a.value = b.value))))) := by
  unfold m_impl_sameParcels
  simp only [same_v h, Option.bind_some, cnd1]
theorem sameActs_v {a b : YAct} (h : a.parcel.sides.length < NN) : m_impl_sameActs a b = some (decide (a.kind = b.kind) && ((decide (a.parcel.label = b.parcel.label) && (decide (a.parcel.from_ = b.parcel.from_) && (decide (a.parcel.weight = b.parcel.weight) && (decide (a.parcel.sides = b.parcel.sides) && decide (a.parcel.value = b.parcel.value))))) && (decide (a.order = b.order) && (decide (a.amount = b.amount) && (decide (a.until_ = b.until_) && decide (a.trip = b.trip)))))) := by
  unfold m_impl_sameActs
  simp only [sameParcels_v h, Option.bind_some, cnd1]
theorem act_eq {a : YAct} (h1 : a.parcel.label.to_.size ≤ B60) (h2 : a.parcel.from_.size ≤ B60) (h3 : a.parcel.sides.length < NN) : ∃ b, m_impl_IsAct a = some b ∧ m_spec_IsAct a = some b := by
  obtain ⟨e1, b1, hb1⟩ := parcel_eq h1 h2 h3
  have hz : decide (0 < (a.parcel.sides.length : Int)) = !decide (a.parcel.sides = []) := by
    cases a.parcel.sides <;> simp
  unfold m_impl_IsAct m_spec_IsAct
  simp only [jn_eq, within_eq, e1, hb1, l1In_v, sameActs_v h3, hz, Option.bind_some]
  generalize hq1 : decide (a.parcel.label = ⟨0, 0, ⟨#[]⟩⟩) = q1
  generalize hq2 : decide (a.parcel.from_ = ⟨#[]⟩) = q2
  generalize hq3 : decide (a.parcel.weight = 0) = q3
  generalize hq4 : decide (a.parcel.sides = []) = q4
  generalize hq5 : decide (a.parcel.value = 0) = q5
  generalize hq6 : decide (a.order = 0) = q6
  generalize hq7 : decide (a.amount = 0) = q7
  generalize hq8 : decide (a.until_ = 0) = q8
  generalize hq9 : decide (a.trip = ⟨0, 0⟩) = q9
  have kk : a.kind = 1 ∨ a.kind = 2 ∨ a.kind = 3 ∨ a.kind = 4 ∨ a.kind = 5 ∨ a.kind = 6 ∨ (a.kind ≠ 1 ∧ a.kind ≠ 2 ∧ a.kind ≠ 3 ∧ a.kind ≠ 4 ∧ a.kind ≠ 5 ∧ a.kind ≠ 6) := by omega
  rcases kk with k | k | k | k | k | k | ⟨n1, n2, n3, n4, n5, n6⟩
  all_goals try (simp only [n1, n2, n3, n4, n5, n6, Int.reduceEq, decide_true, decide_false, Bool.not_true, Bool.not_false, cond_true, cond_false, Option.bind_some, selim, bndc])
  all_goals try simp only [k, Int.reduceEq, decide_true, decide_false, Bool.not_true, Bool.not_false, cond_true, cond_false, Option.bind_some, selim, bndc]
  case inr.inr.inr.inr.inr.inr =>
    have hf : (decide (1 ≤ a.kind) && decide (a.kind ≤ 6)) = false := by
      rw [Bool.and_eq_false_iff, decide_eq_false_iff_not, decide_eq_false_iff_not]; omega
    simp only [hf, cnd1, cnd2, Bool.and_false]
    exact ⟨_, rfl, rfl⟩
  all_goals
    simp only [hq1, hq2, hq3, hq4, hq5, hq6, hq7, hq8, hq9, cnd1, cnd2, Bool.true_and, Bool.and_true, Int.reduceLE, decide_true]
    exact ⟨_, rfl, by congr 1; try ac_rfl⟩
end Go.Proofs.YtjkpcfbmmkmoaaaGreat

/- The mirror of impl_IsLeg, and that the code does just that (printed by a program of my own). -/
namespace Go.Proofs.YtjkpcfbmmkmoaaaGreat
set_option maxRecDepth 10000
open Go.RowKit
set_option linter.unusedVariables false
set_option maxHeartbeats 16000000
def m_impl_IsLeg (l : YLeg) : Option Bool :=
 (m_impl_IsPlace l.from_).bind fun y1 =>
 cond y1
 ((m_impl_IsPlace l.to_).bind fun y2 =>
 cond y2
 (cond (!decide (l.from_ = l.to_))
 ((m_impl_within l.start 0 1439).bind fun y3 =>
 cond y3
 ((m_impl_within l.takes 1 4320).bind fun y4 =>
 cond y4
 ((m_impl_within l.days 1 127).bind fun y5 =>
 cond y5
 ((m_impl_within l.room 0 1000000).bind fun y6 =>
 some y6)
 (some false))
 (some false))
 (some false))
 (some false))
 (some false))
 (some false)
theorem ok_impl_IsLeg (l : YLeg) {r : Bool} (H : m_impl_IsLeg l = some r) : CallM Tryz.prog 217 [.ag (cLeg l)] [] (vb r) [] := by
  replace H := H0 H
  unfold m_impl_IsLeg at H
  refine callM_of Tryz.func217 rfl Tryz.ntmps217 Tryz.results217 fun Q hQ hQn => ?_
  exact wk
instance (l : YLeg) : CT Tryz.prog (m_impl_IsLeg l) := ⟨217, [.ag (cLeg l)], [], fun r => vb r, fun r => [], ok_impl_IsLeg l⟩
end Go.Proofs.YtjkpcfbmmkmoaaaGreat

/- The mirror of impl_IsNetwork, and that the code does just that (printed by a program of my own). -/
namespace Go.Proofs.YtjkpcfbmmkmoaaaGreat
set_option maxRecDepth 10000
open Go.RowKit
set_option linter.unusedVariables false
set_option maxHeartbeats 16000000
def m_impl_IsNetwork_b0 (n : YNetwork) (s0 : Int) : Option (Int ⊕ (Unit ⊕ Bool)) :=
 cond (decide (s0 < (n.legs.length : Int)))
 ((getI n.legs s0).bind fun y1 =>
 (m_impl_IsLeg y1).bind fun y2 =>
 cond (!y2)
 (some (.inr (.inr false)))
 (some (.inl (w64 (s0 + 1)))))
 (some (.inr (.inl ())))
instance (n : YNetwork) : LoopE (m_impl_IsNetwork_b0 n) := ⟨fun s0 => (.un :: .be 0 0 0 :: .un :: .un :: .un :: .un :: .un :: .un :: .sl (n.legs.map cLeg) :: vi (n.legs.length : Int) :: vi s0 :: .un :: .un :: .un :: .un :: .un :: .un :: .un :: .un :: .un :: .un :: .un :: .un :: .un :: .un :: .un :: .un :: .un :: .un :: .un :: .un :: .un :: .un :: .un :: .un :: .un :: .un :: .un :: .un :: .un :: .un :: .un :: .un :: .un :: .un :: .un :: .un :: .un :: .un :: .un :: .un :: .un :: .un :: .un :: .un :: .un :: .un :: .un :: .un :: []), fun s0 => [some ⟨43, 3, [[.sl (n.legs.map cLeg), .sl (n.off.map cInt), vi n.change]]⟩]⟩
def m_impl_IsNetwork_b1 (n : YNetwork) (s1 : Int) : Option (Int ⊕ (Unit ⊕ Bool)) :=
 cond (decide (s1 < (n.off.length : Int)))
 ((getI n.off s1).bind fun y3 =>
 (m_impl_within y3 0 60).bind fun y4 =>
 cond (!y4)
 (some (.inr (.inr false)))
 (cond (decide (0 < s1))
 ((getI n.off (w64 (s1 - 1))).bind fun y5 =>
 cond (decide (y3 ≤ y5))
 (some (.inr (.inr false)))
 (some (.inl (w64 (s1 + 1)))))
 (some (.inl (w64 (s1 + 1))))))
 (some (.inr (.inl ())))
instance (n : YNetwork) : LoopE (m_impl_IsNetwork_b1 n) := ⟨fun s1 => (.un :: .be 0 0 0 :: .un :: .un :: .un :: .un :: .un :: .un :: .un :: .un :: .un :: .un :: .un :: .un :: .un :: .un :: .un :: .un :: .un :: .sl (n.off.map cInt) :: vi (n.off.length : Int) :: vi s1 :: .un :: .un :: .un :: .un :: .un :: .un :: .un :: .un :: .un :: .un :: .un :: .un :: .un :: .un :: .un :: .un :: .un :: .un :: .un :: .un :: .un :: .un :: .un :: .un :: .un :: .un :: .un :: .un :: .un :: .un :: .un :: .un :: .un :: .un :: .un :: .un :: .un :: []), fun s1 => [some ⟨43, 3, [[.sl (n.legs.map cLeg), .sl (n.off.map cInt), vi n.change]]⟩]⟩
def m_impl_IsNetwork (n : YNetwork) : Option Bool :=
 (iterF (m_impl_IsNetwork_b0 n) NN 0).bind (selim (fun o0 =>
 (iterF (m_impl_IsNetwork_b1 n) NN 0).bind (selim (fun o1 =>
 cond (decide ((n.legs.length : Int) ≤ 20))
 (cond (decide ((n.off.length : Int) ≤ 10))
 ((m_impl_within n.change 0 240).bind fun y6 =>
 some y6)
 (some false))
 (some false)) (fun r => some r))) (fun r => some r))
theorem ok_impl_IsNetwork (n : YNetwork) {r : Bool} (H : m_impl_IsNetwork n = some r) : CallM Tryz.prog 196 [.ag (cNetwork n)] [] (vb r) [] := by
  replace H := H0 H
  unfold m_impl_IsNetwork at H
  refine callM_of Tryz.func196 rfl Tryz.ntmps196 Tryz.results196 fun Q hQ hQn => ?_
  exact wk
instance (n : YNetwork) : CT Tryz.prog (m_impl_IsNetwork n) := ⟨196, [.ag (cNetwork n)], [], fun r => vb r, fun r => [], ok_impl_IsNetwork n⟩
end Go.Proofs.YtjkpcfbmmkmoaaaGreat

/- The mirror of spec_IsLeg, and that the code does just that (printed by a program of my own). -/
namespace Go.Proofs.YtjkpcfbmmkmoaaaGreat
set_option maxRecDepth 10000
open Go.RowKit
set_option linter.unusedVariables false
set_option maxHeartbeats 16000000
def m_spec_IsLeg (l : YLeg) : Option Bool :=
 (m_spec_IsPlace l.from_).bind fun y1 =>
 cond y1
 ((m_spec_IsPlace l.to_).bind fun y2 =>
 cond y2
 (cond (!decide (l.from_ = l.to_))
 ((m_spec_l1In l.start 0 1439).bind fun y3 =>
 cond y3
 ((m_spec_l1In l.takes 1 4320).bind fun y4 =>
 cond y4
 ((m_spec_l1In l.days 1 127).bind fun y5 =>
 cond y5
 ((m_spec_l1In l.room 0 1000000).bind fun y6 =>
 some y6)
 (some false))
 (some false))
 (some false))
 (some false))
 (some false))
 (some false)
theorem ok_spec_IsLeg (l : YLeg) {r : Bool} (H : m_spec_IsLeg l = some r) : CallM Tryz.prog 213 [.ag (cLeg l)] [] (vb r) [] := by
  replace H := H0 H
  unfold m_spec_IsLeg at H
  refine callM_of Tryz.func213 rfl Tryz.ntmps213 Tryz.results213 fun Q hQ hQn => ?_
  exact wk
instance (l : YLeg) : CT Tryz.prog (m_spec_IsLeg l) := ⟨213, [.ag (cLeg l)], [], fun r => vb r, fun r => [], ok_spec_IsLeg l⟩
end Go.Proofs.YtjkpcfbmmkmoaaaGreat

/- The mirror of spec_IsNetwork, and that the code does just that (printed by a program of my own). -/
namespace Go.Proofs.YtjkpcfbmmkmoaaaGreat
set_option maxRecDepth 10000
open Go.RowKit
set_option linter.unusedVariables false
set_option maxHeartbeats 16000000
def m_spec_IsNetwork_b0 (n : YNetwork) (s0 : Int) : Option (Int ⊕ (Unit ⊕ Bool)) :=
 cond (decide (s0 < (n.legs.length : Int)))
 ((getI n.legs s0).bind fun y1 =>
 (m_spec_IsLeg y1).bind fun y2 =>
 cond (!y2)
 (some (.inr (.inr false)))
 (some (.inl (w64 (s0 + 1)))))
 (some (.inr (.inl ())))
instance (n : YNetwork) : LoopE (m_spec_IsNetwork_b0 n) := ⟨fun s0 => (.un :: .be 0 0 0 :: .un :: vi s0 :: .un :: .un :: .un :: .un :: .un :: .un :: .un :: .un :: .un :: .un :: .un :: .un :: .un :: .un :: .un :: .un :: .un :: .un :: .un :: .un :: .un :: .un :: .un :: .un :: .un :: .un :: .un :: .un :: .un :: .un :: .un :: .un :: .un :: .un :: .un :: .un :: .un :: .un :: .un :: .un :: .un :: .un :: .un :: .un :: .un :: .un :: .un :: .un :: .un :: .un :: .un :: .un :: .un :: .un :: .un :: .un :: .un :: .un :: .un :: .un :: .un :: .un :: []), fun s0 => [some ⟨43, 3, [[.sl (n.legs.map cLeg), .sl (n.off.map cInt), vi n.change]]⟩]⟩
def m_spec_IsNetwork_b1 (n : YNetwork) (s1 : Int) : Option (Int ⊕ (Unit ⊕ Bool)) :=
 cond (decide (s1 < (n.off.length : Int)))
 ((getI n.off s1).bind fun y3 =>
 (m_spec_l1In y3 0 60).bind fun y4 =>
 cond (!y4)
 (some (.inr (.inr false)))
 (cond (decide (0 < s1))
 ((getI n.off (w64 (s1 - 1))).bind fun y5 =>
 (getI n.off s1).bind fun y6 =>
 cond (decide (y6 ≤ y5))
 (some (.inr (.inr false)))
 (some (.inl (w64 (s1 + 1)))))
 (some (.inl (w64 (s1 + 1))))))
 (some (.inr (.inl ())))
instance (n : YNetwork) : LoopE (m_spec_IsNetwork_b1 n) := ⟨fun s1 => (.un :: .be 0 0 0 :: .un :: .un :: vi s1 :: .un :: .un :: .un :: .un :: .un :: .un :: .un :: .un :: .un :: .un :: .un :: .un :: .un :: .un :: .un :: .un :: .un :: .un :: .un :: .un :: .un :: .un :: .un :: .un :: .un :: .un :: .un :: .un :: .un :: .un :: .un :: .un :: .un :: .un :: .un :: .un :: .un :: .un :: .un :: .un :: .un :: .un :: .un :: .un :: .un :: .un :: .un :: .un :: .un :: .un :: .un :: .un :: .un :: .un :: .un :: .un :: .un :: .un :: .un :: .un :: .un :: []), fun s1 => [some ⟨43, 3, [[.sl (n.legs.map cLeg), .sl (n.off.map cInt), vi n.change]]⟩]⟩
def m_spec_IsNetwork (n : YNetwork) : Option Bool :=
 (iterF (m_spec_IsNetwork_b0 n) NN 0).bind (selim (fun o0 =>
 (iterF (m_spec_IsNetwork_b1 n) NN 0).bind (selim (fun o1 =>
 cond (decide ((n.legs.length : Int) ≤ 20))
 (cond (decide ((n.off.length : Int) ≤ 10))
 ((m_spec_l1In n.change 0 240).bind fun y7 =>
 some y7)
 (some false))
 (some false)) (fun r => some r))) (fun r => some r))
theorem ok_spec_IsNetwork (n : YNetwork) {r : Bool} (H : m_spec_IsNetwork n = some r) : CallM Tryz.prog 179 [.ag (cNetwork n)] [] (vb r) [] := by
  replace H := H0 H
  unfold m_spec_IsNetwork at H
  refine callM_of Tryz.func179 rfl Tryz.ntmps179 Tryz.results179 fun Q hQ hQn => ?_
  exact wk
instance (n : YNetwork) : CT Tryz.prog (m_spec_IsNetwork n) := ⟨179, [.ag (cNetwork n)], [], fun r => vb r, fun r => [], ok_spec_IsNetwork n⟩
end Go.Proofs.YtjkpcfbmmkmoaaaGreat

/- The mirror of impl_starts, and that the code does just that (printed by a program of my own). -/
namespace Go.Proofs.YtjkpcfbmmkmoaaaGreat
set_option maxRecDepth 10000
open Go.RowKit
set_option linter.unusedVariables false
set_option maxHeartbeats 16000000
def m_impl_starts (n : YNetwork) (t : YTrip) : Option Int :=
 (getI n.legs t.leg).bind fun y1 =>
 some (w64 ((w64 (t.day * 1440)) + y1.start))
theorem ok_impl_starts (n : YNetwork) (t : YTrip) {r : Int} (H : m_impl_starts n t = some r) : CallM Tryz.prog 171 [.ag (cNetwork n), .ag (cTrip t)] [] (vi r) [] := by
  replace H := H0 H
  unfold m_impl_starts at H
  refine callM_of Tryz.func171 rfl Tryz.ntmps171 Tryz.results171 fun Q hQ hQn => ?_
  exact wk
instance (n : YNetwork) (t : YTrip) : CT Tryz.prog (m_impl_starts n t) := ⟨171, [.ag (cNetwork n), .ag (cTrip t)], [], fun r => vi r, fun r => [], ok_impl_starts n t⟩
end Go.Proofs.YtjkpcfbmmkmoaaaGreat

/- The mirror of impl_ends, and that the code does just that (printed by a program of my own). -/
namespace Go.Proofs.YtjkpcfbmmkmoaaaGreat
set_option maxRecDepth 10000
open Go.RowKit
set_option linter.unusedVariables false
set_option maxHeartbeats 16000000
def m_impl_ends (n : YNetwork) (t : YTrip) : Option Int :=
 (m_impl_starts n t).bind fun y1 =>
 (getI n.legs t.leg).bind fun y2 =>
 some (w64 (y1 + y2.takes))
theorem ok_impl_ends (n : YNetwork) (t : YTrip) {r : Int} (H : m_impl_ends n t = some r) : CallM Tryz.prog 170 [.ag (cNetwork n), .ag (cTrip t)] [] (vi r) [] := by
  replace H := H0 H
  unfold m_impl_ends at H
  refine callM_of Tryz.func170 rfl Tryz.ntmps170 Tryz.results170 fun Q hQ hQn => ?_
  exact wk
instance (n : YNetwork) (t : YTrip) : CT Tryz.prog (m_impl_ends n t) := ⟨170, [.ag (cNetwork n), .ag (cTrip t)], [], fun r => vi r, fun r => [], ok_impl_ends n t⟩
end Go.Proofs.YtjkpcfbmmkmoaaaGreat

/- The mirror of spec_l3Starts, and that the code does just that (printed by a program of my own). -/
namespace Go.Proofs.YtjkpcfbmmkmoaaaGreat
set_option maxRecDepth 10000
open Go.RowKit
set_option linter.unusedVariables false
set_option maxHeartbeats 16000000
def m_spec_l3Starts (n : YNetwork) (t : YTrip) : Option Int :=
 (getI n.legs t.leg).bind fun y1 =>
 some (w64 ((w64 (t.day * 1440)) + y1.start))
theorem ok_spec_l3Starts (n : YNetwork) (t : YTrip) {r : Int} (H : m_spec_l3Starts n t = some r) : CallM Tryz.prog 161 [.ag (cNetwork n), .ag (cTrip t)] [] (vi r) [] := by
  replace H := H0 H
  unfold m_spec_l3Starts at H
  refine callM_of Tryz.func161 rfl Tryz.ntmps161 Tryz.results161 fun Q hQ hQn => ?_
  exact wk
instance (n : YNetwork) (t : YTrip) : CT Tryz.prog (m_spec_l3Starts n t) := ⟨161, [.ag (cNetwork n), .ag (cTrip t)], [], fun r => vi r, fun r => [], ok_spec_l3Starts n t⟩
end Go.Proofs.YtjkpcfbmmkmoaaaGreat

/- The mirror of spec_l3Ends, and that the code does just that (printed by a program of my own). -/
namespace Go.Proofs.YtjkpcfbmmkmoaaaGreat
set_option maxRecDepth 10000
open Go.RowKit
set_option linter.unusedVariables false
set_option maxHeartbeats 16000000
def m_spec_l3Ends (n : YNetwork) (t : YTrip) : Option Int :=
 (m_spec_l3Starts n t).bind fun y1 =>
 (getI n.legs t.leg).bind fun y2 =>
 some (w64 (y1 + y2.takes))
theorem ok_spec_l3Ends (n : YNetwork) (t : YTrip) {r : Int} (H : m_spec_l3Ends n t = some r) : CallM Tryz.prog 162 [.ag (cNetwork n), .ag (cTrip t)] [] (vi r) [] := by
  replace H := H0 H
  unfold m_spec_l3Ends at H
  refine callM_of Tryz.func162 rfl Tryz.ntmps162 Tryz.results162 fun Q hQ hQn => ?_
  exact wk
instance (n : YNetwork) (t : YTrip) : CT Tryz.prog (m_spec_l3Ends n t) := ⟨162, [.ag (cNetwork n), .ag (cTrip t)], [], fun r => vi r, fun r => [], ok_spec_l3Ends n t⟩
end Go.Proofs.YtjkpcfbmmkmoaaaGreat

/- The two sides' functions on places, legs and networks answer alike. -/
namespace Go.Proofs.YtjkpcfbmmkmoaaaGreat
set_option maxRecDepth 10000
open Go.RowKit
set_option linter.unusedVariables false
set_option linter.unusedSimpArgs false
theorem starts_eq : @m_impl_starts = @m_spec_l3Starts := rfl
theorem ends_eq : @m_impl_ends = @m_spec_l3Ends := rfl
def legFit (l : YLeg) : Prop := l.from_.size ≤ B60 ∧ l.to_.size ≤ B60
theorem isLeg_eq {l : YLeg} (h : legFit l) : m_impl_IsLeg l = m_spec_IsLeg l ∧ ∃ b, m_spec_IsLeg l = some b := by
  obtain ⟨e1, b1, s1⟩ := isPlace_eq (s := l.from_) h.1
  obtain ⟨e2, b2, s2⟩ := isPlace_eq (s := l.to_) h.2
  constructor
  · unfold m_impl_IsLeg m_spec_IsLeg; rw [e1, e2, within_eq]
  · unfold m_spec_IsLeg
    rw [s1, s2]
    simp only [Option.bind_some, l1In_v]
    cases b1 <;> cases b2 <;> cases (decide (l.from_ = l.to_)) <;> cases (decide (0 ≤ l.start) && decide (l.start ≤ 1439)) <;> cases (decide (1 ≤ l.takes) && decide (l.takes ≤ 4320)) <;> cases (decide (1 ≤ l.days) && decide (l.days ≤ 127)) <;> exact ⟨_, rfl⟩
structure NetFit (n : YNetwork) : Prop where
  legs : n.legs.length ≤ 1048576
  off : n.off.length ≤ 1048576
  leg : ∀ l ∈ n.legs, legFit l
theorem getI_mem {α : Type} {xs : List α} {i : Int} {x : α} (h : getI xs i = some x) : x ∈ xs := List.mem_of_getElem? (getI_some h).2
theorem netB0_eq {n : YNetwork} (h : NetFit n) : m_impl_IsNetwork_b0 n = m_spec_IsNetwork_b0 n := by
  funext i
  unfold m_impl_IsNetwork_b0 m_spec_IsNetwork_b0
  cases hg : getI n.legs i with
  | none => rfl
  | some y => simp only [Option.bind_some, (isLeg_eq (h.leg y (getI_mem hg))).1]
theorem netB1_eq {n : YNetwork} : m_impl_IsNetwork_b1 n = m_spec_IsNetwork_b1 n := by
  funext i
  unfold m_impl_IsNetwork_b1 m_spec_IsNetwork_b1
  rw [within_eq]
  cases hg : getI n.off i with
  | none => rfl
  | some y => simp only [Option.bind_some]
theorem netL0 {n : YNetwork} (h : NetFit n) : ∃ o, iterF (m_spec_IsNetwork_b0 n) NN 0 = some o := by
  refine iter_idx (n := n.legs.length) (by have := h.legs; unfold NN; omega) (fun i hi => ?_) ⟨_, by simp [m_spec_IsNetwork_b0]; rfl⟩
  have hw := w64_nat hi (by have := h.legs; omega)
  have hg : getI n.legs (i : Int) = some n.legs[i] := by rw [getI_nat]; exact List.getElem?_eq_getElem hi
  obtain ⟨b, hb⟩ := (isLeg_eq (h.leg _ (List.getElem_mem hi))).2
  cases b with
  | true => exact st_go (by simp only [m_spec_IsNetwork_b0, decide_eq_true (show (i : Int) < n.legs.length by omega), cond_true, hg, Option.bind_some, hb, hw, Bool.not_true, cond_false])
  | false => exact st_out (by simp only [m_spec_IsNetwork_b0, decide_eq_true (show (i : Int) < n.legs.length by omega), cond_true, hg, Option.bind_some, hb, Bool.not_false, cond_true]; rfl)
theorem netL1 {n : YNetwork} (h : NetFit n) : ∃ o, iterF (m_spec_IsNetwork_b1 n) NN 0 = some o := by
  refine iter_idx (n := n.off.length) (by have := h.off; unfold NN; omega) (fun i hi => ?_) ⟨_, by simp [m_spec_IsNetwork_b1]; rfl⟩
  have hw := w64_nat hi (by have := h.off; omega)
  have hg : getI n.off (i : Int) = some n.off[i] := by rw [getI_nat]; exact List.getElem?_eq_getElem hi
  have hd := decide_eq_true (show (i : Int) < n.off.length by omega)
  cases hb : decide (0 ≤ n.off[i]) && decide (n.off[i] ≤ 60) with
  | false => exact st_out (by simp only [m_spec_IsNetwork_b1, hd, cond_true, hg, Option.bind_some, l1In_v, hb, Bool.not_false]; rfl)
  | true =>
    by_cases h0 : 0 < (i : Int)
    · have hw2 : w64 ((i : Int) - 1) = ((i - 1 : Nat) : Int) := by rw [w64_in (by have := h.off; omega)]; omega
      have hg2 : getI n.off ((i - 1 : Nat) : Int) = some n.off[i - 1] := by rw [getI_nat]; exact List.getElem?_eq_getElem (by omega)
      cases hc : decide (n.off[i] ≤ n.off[i - 1]) with
      | true => exact st_out (by simp only [m_spec_IsNetwork_b1, hd, cond_true, hg, Option.bind_some, l1In_v, hb, Bool.not_true, cond_false, decide_eq_true h0, hw2, hg2, hc]; rfl)
      | false => exact st_go (by simp only [m_spec_IsNetwork_b1, hd, cond_true, hg, Option.bind_some, l1In_v, hb, Bool.not_true, cond_false, decide_eq_true h0, hw2, hg2, hc, hw])
    · exact st_go (by simp only [m_spec_IsNetwork_b1, hd, cond_true, hg, Option.bind_some, l1In_v, hb, Bool.not_true, cond_false, decide_eq_false h0, hw])
theorem isNetwork_eq {n : YNetwork} (h : NetFit n) : m_impl_IsNetwork n = m_spec_IsNetwork n ∧ ∃ b, m_spec_IsNetwork n = some b := by
  constructor
  · unfold m_impl_IsNetwork m_spec_IsNetwork; rw [netB0_eq h, netB1_eq, within_eq]
  · obtain ⟨o0, h0⟩ := netL0 h
    obtain ⟨o1, h1⟩ := netL1 h
    unfold m_spec_IsNetwork
    rw [h0, h1]
    simp only [Option.bind_some, l1In_v]
    rcases o0 with o0 | o0
    · rcases o1 with o1 | o1
      · simp only [selim]
        cases decide ((n.legs.length : Int) ≤ 20) <;> cases decide ((n.off.length : Int) ≤ 10) <;> exact ⟨_, rfl⟩
      · exact ⟨_, rfl⟩
    · exact ⟨_, rfl⟩
end Go.Proofs.YtjkpcfbmmkmoaaaGreat

/- The mirror of impl_runs, and that the code does just that (printed by a program of my own). -/
namespace Go.Proofs.YtjkpcfbmmkmoaaaGreat
set_option maxRecDepth 10000
open Go.RowKit
set_option linter.unusedVariables false
set_option maxHeartbeats 16000000
def m_impl_runs_b0 (n : YNetwork) (day : Int) (s0 : Int) : Option (Int ⊕ (Unit ⊕ Bool)) :=
 cond (decide (s0 < (n.off.length : Int)))
 ((getI n.off s0).bind fun y3 =>
 cond (decide (y3 = day))
 (some (.inr (.inr false)))
 (some (.inl (w64 (s0 + 1)))))
 (some (.inr (.inl ())))
instance (n : YNetwork) (day : Int) : LoopE (m_impl_runs_b0 n day) := ⟨fun s0 => [.un, .un, vi day, .un, .un, .un, .un, .un, .un, .un, .un, .un, .un, .un, .un, .un, .un, .un, .un, .un, .un, .un, .un, .un, .un, .un, .un, .un, .un, .un, .un, .un, .un, .un, .un, .un, .un, .sl (n.off.map cInt), vi (n.off.length : Int), vi s0, .un, .un, .un, .un, .un, .un, .un], fun s0 => []⟩
def m_impl_runs (n : YNetwork) (leg : Int) (day : Int) : Option Bool :=
 cond (decide (leg < 0))
 (some false)
 (cond (decide ((n.legs.length : Int) ≤ leg))
 (some false)
 ((m_impl_within day 0 60).bind fun y1 =>
 cond (!y1)
 (some false)
 ((getI n.legs leg).bind fun y2 =>
 (chk (decide (0 ≤ (Int.tmod day 7)))).bind fun _ =>
 cond (decide ((IntKind.i64.wrap (BitVec.ofInt IntKind.i64.bits (Int.fdiv y2.days (2 ^ (min (Int.toNat (Int.tmod day 7)) IntKind.i64.bits))) &&& BitVec.ofInt IntKind.i64.bits 1).toNat) = 0))
 (some false)
 ((iterF (m_impl_runs_b0 n day) NN 0).bind (selim (fun o0 =>
 some true) (fun r => some r))))))
theorem ok_impl_runs (n : YNetwork) (leg : Int) (day : Int) {r : Bool} (H : m_impl_runs n leg day = some r) : CallM Tryz.prog 218 [.ag (cNetwork n), vi leg, vi day] [] (vb r) [] := by
  replace H := H0 H
  unfold m_impl_runs at H
  refine callM_of Tryz.func218 rfl Tryz.ntmps218 Tryz.results218 fun Q hQ hQn => ?_
  exact wk
instance (n : YNetwork) (leg : Int) (day : Int) : CT Tryz.prog (m_impl_runs n leg day) := ⟨218, [.ag (cNetwork n), vi leg, vi day], [], fun r => vb r, fun r => [], ok_impl_runs n leg day⟩
end Go.Proofs.YtjkpcfbmmkmoaaaGreat

/- The mirror of impl_RunsOn, and that the code does just that (printed by a program of my own). -/
namespace Go.Proofs.YtjkpcfbmmkmoaaaGreat
set_option maxRecDepth 10000
open Go.RowKit
set_option linter.unusedVariables false
set_option maxHeartbeats 16000000
def m_impl_RunsOn (n : YNetwork) (leg : Int) (day : Int) : Option Bool :=
 (m_impl_IsNetwork n).bind fun y1 =>
 cond y1
 ((m_impl_runs n leg day).bind fun y2 =>
 some y2)
 (some false)
theorem ok_impl_RunsOn (n : YNetwork) (leg : Int) (day : Int) {r : Bool} (H : m_impl_RunsOn n leg day = some r) : CallM Tryz.prog 199 [.ag (cNetwork n), vi leg, vi day] [] (vb r) [] := by
  replace H := H0 H
  unfold m_impl_RunsOn at H
  refine callM_of Tryz.func199 rfl Tryz.ntmps199 Tryz.results199 fun Q hQ hQn => ?_
  exact wk
instance (n : YNetwork) (leg : Int) (day : Int) : CT Tryz.prog (m_impl_RunsOn n leg day) := ⟨199, [.ag (cNetwork n), vi leg, vi day], [], fun r => vb r, fun r => [], ok_impl_RunsOn n leg day⟩
end Go.Proofs.YtjkpcfbmmkmoaaaGreat

/- The mirror of impl_IsTrip, and that the code does just that (printed by a program of my own). -/
namespace Go.Proofs.YtjkpcfbmmkmoaaaGreat
set_option maxRecDepth 10000
open Go.RowKit
set_option linter.unusedVariables false
set_option maxHeartbeats 16000000
def m_impl_IsTrip (n : YNetwork) (t : YTrip) : Option Bool :=
 (m_impl_RunsOn n t.leg t.day).bind fun y1 =>
 some y1
theorem ok_impl_IsTrip (n : YNetwork) (t : YTrip) {r : Bool} (H : m_impl_IsTrip n t = some r) : CallM Tryz.prog 132 [.ag (cNetwork n), .ag (cTrip t)] [] (vb r) [] := by
  replace H := H0 H
  unfold m_impl_IsTrip at H
  refine callM_of Tryz.func132 rfl Tryz.ntmps132 Tryz.results132 fun Q hQ hQn => ?_
  exact wk
instance (n : YNetwork) (t : YTrip) : CT Tryz.prog (m_impl_IsTrip n t) := ⟨132, [.ag (cNetwork n), .ag (cTrip t)], [], fun r => vb r, fun r => [], ok_impl_IsTrip n t⟩
end Go.Proofs.YtjkpcfbmmkmoaaaGreat

/- The mirror of spec_l1Has, and that the code does just that (printed by a program of my own). -/
namespace Go.Proofs.YtjkpcfbmmkmoaaaGreat
set_option maxRecDepth 10000
open Go.RowKit
set_option linter.unusedVariables false
set_option maxHeartbeats 16000000
def m_spec_l1Has_b0 (l : List Int) (x : Int) (s0 : Int) : Option (Int ⊕ (Unit ⊕ Bool)) :=
 cond (decide (s0 < (l.length : Int)))
 ((getI l s0).bind fun y1 =>
 cond (decide (y1 = x))
 (some (.inr (.inr true)))
 (some (.inl (w64 (s0 + 1)))))
 (some (.inr (.inl ())))
instance (l : List Int) (x : Int) : LoopE (m_spec_l1Has_b0 l x) := ⟨fun s0 => [.sl (l.map cInt), vi x, .un, .un, .un, vi s0, .un, .un, .un, .un, .un, .un, .un, .un, .un, .un, .un, .un], fun s0 => []⟩
def m_spec_l1Has (l : List Int) (x : Int) : Option Bool :=
 (iterF (m_spec_l1Has_b0 l x) NN 0).bind (selim (fun o0 =>
 some false) (fun r => some r))
theorem ok_spec_l1Has (l : List Int) (x : Int) {r : Bool} (H : m_spec_l1Has l x = some r) : CallM Tryz.prog 182 [.sl (l.map cInt), vi x] [] (vb r) [] := by
  replace H := H0 H
  unfold m_spec_l1Has at H
  refine callM_of Tryz.func182 rfl Tryz.ntmps182 Tryz.results182 fun Q hQ hQn => ?_
  exact wk
instance (l : List Int) (x : Int) : CT Tryz.prog (m_spec_l1Has l x) := ⟨182, [.sl (l.map cInt), vi x], [], fun r => vb r, fun r => [], ok_spec_l1Has l x⟩
end Go.Proofs.YtjkpcfbmmkmoaaaGreat

/- The mirror of spec_l3Runs, and that the code does just that (printed by a program of my own). -/
namespace Go.Proofs.YtjkpcfbmmkmoaaaGreat
set_option maxRecDepth 10000
open Go.RowKit
set_option linter.unusedVariables false
set_option maxHeartbeats 16000000
def m_spec_l3Runs (n : YNetwork) (leg : Int) (day : Int) : Option Bool :=
 (m_spec_l1In leg 0 (w64 ((n.legs.length : Int) - 1))).bind fun y1 =>
 cond y1
 ((m_spec_l1In day 0 60).bind fun y2 =>
 cond y2
 ((getI n.legs leg).bind fun y3 =>
 (chk (decide (0 ≤ (Int.tmod day 7)))).bind fun _ =>
 cond (decide ((IntKind.i64.wrap (BitVec.ofInt IntKind.i64.bits (Int.fdiv y3.days (2 ^ (min (Int.toNat (Int.tmod day 7)) IntKind.i64.bits))) &&& BitVec.ofInt IntKind.i64.bits 1).toNat) = 1))
 ((m_spec_l1Has n.off day).bind fun y4 =>
 some (!y4))
 (some false))
 (some false))
 (some false)
theorem ok_spec_l3Runs (n : YNetwork) (leg : Int) (day : Int) {r : Bool} (H : m_spec_l3Runs n leg day = some r) : CallM Tryz.prog 117 [.ag (cNetwork n), vi leg, vi day] [] (vb r) [] := by
  replace H := H0 H
  unfold m_spec_l3Runs at H
  refine callM_of Tryz.func117 rfl Tryz.ntmps117 Tryz.results117 fun Q hQ hQn => ?_
  exact wk
instance (n : YNetwork) (leg : Int) (day : Int) : CT Tryz.prog (m_spec_l3Runs n leg day) := ⟨117, [.ag (cNetwork n), vi leg, vi day], [], fun r => vb r, fun r => [], ok_spec_l3Runs n leg day⟩
end Go.Proofs.YtjkpcfbmmkmoaaaGreat

/- The mirror of spec_RunsOn, and that the code does just that (printed by a program of my own). -/
namespace Go.Proofs.YtjkpcfbmmkmoaaaGreat
set_option maxRecDepth 10000
open Go.RowKit
set_option linter.unusedVariables false
set_option maxHeartbeats 16000000
def m_spec_RunsOn (n : YNetwork) (leg : Int) (day : Int) : Option Bool :=
 (m_spec_IsNetwork n).bind fun y1 =>
 cond y1
 ((m_spec_l3Runs n leg day).bind fun y2 =>
 some y2)
 (some false)
theorem ok_spec_RunsOn (n : YNetwork) (leg : Int) (day : Int) {r : Bool} (H : m_spec_RunsOn n leg day = some r) : CallM Tryz.prog 214 [.ag (cNetwork n), vi leg, vi day] [] (vb r) [] := by
  replace H := H0 H
  unfold m_spec_RunsOn at H
  refine callM_of Tryz.func214 rfl Tryz.ntmps214 Tryz.results214 fun Q hQ hQn => ?_
  exact wk
instance (n : YNetwork) (leg : Int) (day : Int) : CT Tryz.prog (m_spec_RunsOn n leg day) := ⟨214, [.ag (cNetwork n), vi leg, vi day], [], fun r => vb r, fun r => [], ok_spec_RunsOn n leg day⟩
end Go.Proofs.YtjkpcfbmmkmoaaaGreat

/- The mirror of spec_IsTrip, and that the code does just that (printed by a program of my own). -/
namespace Go.Proofs.YtjkpcfbmmkmoaaaGreat
set_option maxRecDepth 10000
open Go.RowKit
set_option linter.unusedVariables false
set_option maxHeartbeats 16000000
def m_spec_IsTrip (n : YNetwork) (t : YTrip) : Option Bool :=
 (m_spec_RunsOn n t.leg t.day).bind fun y1 =>
 some y1
theorem ok_spec_IsTrip (n : YNetwork) (t : YTrip) {r : Bool} (H : m_spec_IsTrip n t = some r) : CallM Tryz.prog 185 [.ag (cNetwork n), .ag (cTrip t)] [] (vb r) [] := by
  replace H := H0 H
  unfold m_spec_IsTrip at H
  refine callM_of Tryz.func185 rfl Tryz.ntmps185 Tryz.results185 fun Q hQ hQn => ?_
  exact wk
instance (n : YNetwork) (t : YTrip) : CT Tryz.prog (m_spec_IsTrip n t) := ⟨185, [.ag (cNetwork n), .ag (cTrip t)], [], fun r => vb r, fun r => [], ok_spec_IsTrip n t⟩
end Go.Proofs.YtjkpcfbmmkmoaaaGreat

/- The mirror of impl_hasTrip, and that the code does just that (printed by a program of my own). -/
namespace Go.Proofs.YtjkpcfbmmkmoaaaGreat
set_option maxRecDepth 10000
open Go.RowKit
set_option linter.unusedVariables false
set_option maxHeartbeats 16000000
def m_impl_hasTrip_b0 (l : List YTrip) (t : YTrip) (s0 : Int) : Option (Int ⊕ (Unit ⊕ Bool)) :=
 cond (decide (s0 < (l.length : Int)))
 ((getI l s0).bind fun y1 =>
 cond (decide (y1 = t))
 (some (.inr (.inr true)))
 (some (.inl (w64 (s0 + 1)))))
 (some (.inr (.inl ())))
instance (l : List YTrip) (t : YTrip) : LoopE (m_impl_hasTrip_b0 l t) := ⟨fun s0 => [.un, .un, .un, .be 0 0 0, .un, .un, .un, .sl (l.map cTrip), vi (l.length : Int), vi s0, .un, .un, .un, .un, .un, .un, .un], fun s0 => [some ⟨102, 2, [[vi t.leg, vi t.day]]⟩]⟩
def m_impl_hasTrip (l : List YTrip) (t : YTrip) : Option Bool :=
 (iterF (m_impl_hasTrip_b0 l t) NN 0).bind (selim (fun o0 =>
 some false) (fun r => some r))
theorem ok_impl_hasTrip (l : List YTrip) (t : YTrip) {r : Bool} (H : m_impl_hasTrip l t = some r) : CallM Tryz.prog 133 [.sl (l.map cTrip), .ag (cTrip t)] [] (vb r) [] := by
  replace H := H0 H
  unfold m_impl_hasTrip at H
  refine callM_of Tryz.func133 rfl Tryz.ntmps133 Tryz.results133 fun Q hQ hQn => ?_
  exact wk
instance (l : List YTrip) (t : YTrip) : CT Tryz.prog (m_impl_hasTrip l t) := ⟨133, [.sl (l.map cTrip), .ag (cTrip t)], [], fun r => vb r, fun r => [], ok_impl_hasTrip l t⟩
end Go.Proofs.YtjkpcfbmmkmoaaaGreat

/- The mirror of spec_l6Closed, and that the code does just that (printed by a program of my own). -/
namespace Go.Proofs.YtjkpcfbmmkmoaaaGreat
set_option maxRecDepth 10000
open Go.RowKit
set_option linter.unusedVariables false
set_option maxHeartbeats 16000000
def m_spec_l6Closed_b0 (l : List YTrip) (t : YTrip) (s0 : Int) : Option (Int ⊕ (Unit ⊕ Bool)) :=
 cond (decide (s0 < (l.length : Int)))
 ((getI l s0).bind fun y1 =>
 cond (decide (y1 = t))
 (some (.inr (.inr true)))
 (some (.inl (w64 (s0 + 1)))))
 (some (.inr (.inl ())))
instance (l : List YTrip) (t : YTrip) : LoopE (m_spec_l6Closed_b0 l t) := ⟨fun s0 => [.sl (l.map cTrip), .un, .un, .be 0 0 0, .un, vi s0, .un, .un, .un, .un, .un, .un, .un, .un, .un, .un, .un, .un], fun s0 => [some ⟨102, 2, [[vi t.leg, vi t.day]]⟩]⟩
def m_spec_l6Closed (l : List YTrip) (t : YTrip) : Option Bool :=
 (iterF (m_spec_l6Closed_b0 l t) NN 0).bind (selim (fun o0 =>
 some false) (fun r => some r))
theorem ok_spec_l6Closed (l : List YTrip) (t : YTrip) {r : Bool} (H : m_spec_l6Closed l t = some r) : CallM Tryz.prog 118 [.sl (l.map cTrip), .ag (cTrip t)] [] (vb r) [] := by
  replace H := H0 H
  unfold m_spec_l6Closed at H
  refine callM_of Tryz.func118 rfl Tryz.ntmps118 Tryz.results118 fun Q hQ hQn => ?_
  exact wk
instance (l : List YTrip) (t : YTrip) : CT Tryz.prog (m_spec_l6Closed l t) := ⟨118, [.sl (l.map cTrip), .ag (cTrip t)], [], fun r => vb r, fun r => [], ok_spec_l6Closed l t⟩
end Go.Proofs.YtjkpcfbmmkmoaaaGreat

/- The mirror of impl_LoadOf, and that the code does just that (printed by a program of my own). -/
namespace Go.Proofs.YtjkpcfbmmkmoaaaGreat
set_option maxRecDepth 10000
open Go.RowKit
set_option linter.unusedVariables false
set_option maxHeartbeats 16000000
def m_impl_LoadOf_b0 (l : List YBooking) (t : YTrip) (s0 : Int × Int) : Option ((Int × Int) ⊕ Int) :=
 cond (decide (s0.2 < (l.length : Int)))
 ((getI l s0.2).bind fun y1 =>
 cond (decide (y1.trip = t))
 (some (.inl ((w64 (s0.1 + y1.weight)), (w64 (s0.2 + 1)))))
 (some (.inl (s0.1, (w64 (s0.2 + 1))))))
 (some (.inr s0.1))
instance (l : List YBooking) (t : YTrip) : LoopE (m_impl_LoadOf_b0 l t) := ⟨fun s0 => [.un, .un, .un, .be 0 0 0, .un, vi s0.1, .un, .un, .sl (l.map cBooking), vi (l.length : Int), vi s0.2, .un, .un, .un, .un, .un, .un, .un, .un, .un, .un, .un, .un, .un], fun s0 => [some ⟨102, 2, [[vi t.leg, vi t.day]]⟩]⟩
def m_impl_LoadOf (l : List YBooking) (t : YTrip) : Option Int :=
 (iterF (m_impl_LoadOf_b0 l t) NN (0, 0)).bind (fun o0 =>
 some o0)
theorem ok_impl_LoadOf (l : List YBooking) (t : YTrip) {r : Int} (H : m_impl_LoadOf l t = some r) : CallM Tryz.prog 198 [.sl (l.map cBooking), .ag (cTrip t)] [] (vi r) [] := by
  replace H := H0 H
  unfold m_impl_LoadOf at H
  refine callM_of Tryz.func198 rfl Tryz.ntmps198 Tryz.results198 fun Q hQ hQn => ?_
  exact wk
instance (l : List YBooking) (t : YTrip) : CT Tryz.prog (m_impl_LoadOf l t) := ⟨198, [.sl (l.map cBooking), .ag (cTrip t)], [], fun r => vi r, fun r => [], ok_impl_LoadOf l t⟩
end Go.Proofs.YtjkpcfbmmkmoaaaGreat

/- The mirror of spec_LoadOf, and that the code does just that (printed by a program of my own). -/
namespace Go.Proofs.YtjkpcfbmmkmoaaaGreat
set_option maxRecDepth 10000
open Go.RowKit
set_option linter.unusedVariables false
set_option maxHeartbeats 16000000
def m_spec_LoadOf_b0 (l : List YBooking) (t : YTrip) (s0 : Int × Int) : Option ((Int × Int) ⊕ Int) :=
 cond (decide (s0.2 < (l.length : Int)))
 ((getI l s0.2).bind fun y1 =>
 cond (decide (y1.trip = t))
 ((getI l s0.2).bind fun y2 =>
 some (.inl ((w64 (s0.1 + y2.weight)), (w64 (s0.2 + 1)))))
 (some (.inl (s0.1, (w64 (s0.2 + 1))))))
 (some (.inr s0.1))
instance (l : List YBooking) (t : YTrip) : LoopE (m_spec_LoadOf_b0 l t) := ⟨fun s0 => [.sl (l.map cBooking), .un, .un, .be 0 0 0, .un, vi s0.1, vi s0.2, .un, .un, .un, .un, .un, .un, .un, .un, .un, .un, .un, .un, .un, .un, .un, .un, .un, .un, .un, .un, .un], fun s0 => [some ⟨102, 2, [[vi t.leg, vi t.day]]⟩]⟩
def m_spec_LoadOf (l : List YBooking) (t : YTrip) : Option Int :=
 (iterF (m_spec_LoadOf_b0 l t) NN (0, 0)).bind (fun o0 =>
 some o0)
theorem ok_spec_LoadOf (l : List YBooking) (t : YTrip) {r : Int} (H : m_spec_LoadOf l t = some r) : CallM Tryz.prog 181 [.sl (l.map cBooking), .ag (cTrip t)] [] (vi r) [] := by
  replace H := H0 H
  unfold m_spec_LoadOf at H
  refine callM_of Tryz.func181 rfl Tryz.ntmps181 Tryz.results181 fun Q hQ hQn => ?_
  exact wk
instance (l : List YBooking) (t : YTrip) : CT Tryz.prog (m_spec_LoadOf l t) := ⟨181, [.sl (l.map cBooking), .ag (cTrip t)], [], fun r => vi r, fun r => [], ok_spec_LoadOf l t⟩
end Go.Proofs.YtjkpcfbmmkmoaaaGreat

/- The two sides' functions on trips and loads answer alike. -/
namespace Go.Proofs.YtjkpcfbmmkmoaaaGreat
set_option maxRecDepth 10000
open Go.RowKit
set_option linter.unusedVariables false
set_option linter.unusedSimpArgs false
theorem l1Has_v {l : List Int} (h : l.length ≤ 1048576) (x : Int) : m_spec_l1Has l x = some (l.any fun y => decide (y = x)) := by
  unfold m_spec_l1Has
  rw [iter_find (xs := l) (p := fun y => decide (y = x)) (r := .inr true) (e := .inl ()) (fun i hi => ?_) (by simp [m_spec_l1Has_b0]) (by unfold NN; omega)]
  · cases l.any fun y => decide (y = x) <;> rfl
  · have hw := w64_nat hi (by omega)
    have hg : getI l (i : Int) = some l[i] := by rw [getI_nat]; exact List.getElem?_eq_getElem hi
    simp only [m_spec_l1Has_b0, decide_eq_true (show (i : Int) < l.length by omega), cond_true, hg, Option.bind_some, hw]
    cases decide (l[i] = x) <;> rfl
theorem hasTrip_v {l : List YTrip} (h : l.length ≤ 1048576) (x : YTrip) : m_impl_hasTrip l x = some (l.any fun y => decide (y = x)) := by
  unfold m_impl_hasTrip
  rw [iter_find (xs := l) (p := fun y => decide (y = x)) (r := .inr true) (e := .inl ()) (fun i hi => ?_) (by simp [m_impl_hasTrip_b0]) (by unfold NN; omega)]
  · cases l.any fun y => decide (y = x) <;> rfl
  · have hw := w64_nat hi (by omega)
    have hg : getI l (i : Int) = some l[i] := by rw [getI_nat]; exact List.getElem?_eq_getElem hi
    simp only [m_impl_hasTrip_b0, decide_eq_true (show (i : Int) < l.length by omega), cond_true, hg, Option.bind_some, hw]
    cases decide (l[i] = x) <;> rfl
theorem l6Closed_eq : @m_spec_l6Closed = @m_impl_hasTrip := rfl
theorem impl_off_v {n : YNetwork} (h : n.off.length ≤ 1048576) (x : Int) : (iterF (m_impl_runs_b0 n x) NN 0).bind (selim (fun _ => some true) (fun r => some r)) = some (!(n.off.any fun y => decide (y = x))) := by
  rw [iter_find (xs := n.off) (p := fun y => decide (y = x)) (r := .inr false) (e := .inl ()) (fun i hi => ?_) (by simp [m_impl_runs_b0]) (by unfold NN; omega)]
  · cases n.off.any fun y => decide (y = x) <;> rfl
  · have hw := w64_nat hi (by omega)
    have hg : getI n.off (i : Int) = some n.off[i] := by rw [getI_nat]; exact List.getElem?_eq_getElem hi
    simp only [m_impl_runs_b0, decide_eq_true (show (i : Int) < n.off.length by omega), cond_true, hg, Option.bind_some, hw]
    cases decide (n.off[i] = x) <;> rfl
/-- The lowest bit. -/
def lowBit (x : Int) : Int := IntKind.i64.wrap (BitVec.ofInt IntKind.i64.bits x &&& BitVec.ofInt IntKind.i64.bits 1).toNat
theorem lowBit_01 (x : Int) : lowBit x = 0 ∨ lowBit x = 1 := by
  unfold lowBit
  have h : (BitVec.ofInt IntKind.i64.bits x &&& BitVec.ofInt IntKind.i64.bits 1).toNat ≤ 1 := by
    rw [BitVec.toNat_and]
    refine Nat.le_trans Nat.and_le_right ?_
    decide
  rw [show IntKind.i64.wrap ((BitVec.ofInt IntKind.i64.bits x &&& BitVec.ofInt IntKind.i64.bits 1).toNat : Int) = ((BitVec.ofInt IntKind.i64.bits x &&& BitVec.ofInt IntKind.i64.bits 1).toNat : Int) from w64_in (by omega)]
  omega
theorem runs_eq {n : YNetwork} (h : NetFit n) (leg day : Int) : m_impl_runs n leg day = m_spec_l3Runs n leg day ∧ ∃ b, m_spec_l3Runs n leg day = some b := by
  have hl := h.legs
  have hw : w64 ((n.legs.length : Int) - 1) = n.legs.length - 1 := w64_in (by omega)
  unfold m_impl_runs m_spec_l3Runs
  rw [within_eq, hw, l1In_v, l1In_v]
  simp only [Option.bind_some]
  by_cases h1 : leg < 0
  · simp only [decide_eq_true h1, decide_eq_false (show ¬ 0 ≤ leg by omega), cond_true, Bool.false_and, cond_false]
    exact ⟨trivial, _, rfl⟩
  by_cases h2 : (n.legs.length : Int) ≤ leg
  · simp only [decide_eq_false h1, decide_eq_true h2, decide_eq_false (show ¬ leg ≤ (n.legs.length : Int) - 1 by omega), cond_true, Bool.and_false, cond_false]
    exact ⟨trivial, _, rfl⟩
  simp only [decide_eq_false h1, decide_eq_false h2, decide_eq_true (show 0 ≤ leg by omega), decide_eq_true (show leg ≤ (n.legs.length : Int) - 1 by omega), cond_true, Bool.and_true, cond_false]
  by_cases h3 : 0 ≤ day ∧ day ≤ 60
  · simp only [decide_eq_true h3.1, decide_eq_true h3.2, Bool.and_true, Bool.not_true, cond_false, cond_true]
    have hg : getI n.legs leg = some (n.legs[leg.toNat]'(by omega)) := by
      unfold getI; rw [if_pos (by omega)]; exact List.getElem?_eq_getElem _
    rw [hg]
    simp only [Option.bind_some]
    have hm : 0 ≤ Int.tmod day 7 := Int.tmod_nonneg 7 h3.1
    rw [chk_t (decide_eq_true hm)]
    simp only [Option.bind_some]
    rw [impl_off_v h.off, l1Has_v h.off]
    generalize Int.fdiv _ _ = q
    have hb := lowBit_01 q
    unfold lowBit at hb
    rcases hb with hb | hb
    · rw [hb]; exact ⟨rfl, _, rfl⟩
    · rw [hb]; exact ⟨rfl, _, rfl⟩
  · have : (decide (0 ≤ day) && decide (day ≤ 60)) = false := by rw [← Bool.decide_and]; exact decide_eq_false h3
    rw [this]
    exact ⟨rfl, _, rfl⟩
theorem runsOn_eq {n : YNetwork} (h : NetFit n) (leg day : Int) : m_impl_RunsOn n leg day = m_spec_RunsOn n leg day ∧ ∃ b, m_spec_RunsOn n leg day = some b := by
  obtain ⟨e, b, s⟩ := isNetwork_eq h
  obtain ⟨e2, b2, s2⟩ := runs_eq h leg day
  unfold m_impl_RunsOn m_spec_RunsOn
  rw [e, e2, s, s2]
  refine ⟨rfl, ?_⟩
  cases b <;> exact ⟨_, rfl⟩
theorem isTrip_eq {n : YNetwork} (h : NetFit n) (t : YTrip) : m_impl_IsTrip n t = m_spec_IsTrip n t ∧ ∃ b, m_spec_IsTrip n t = some b := by
  obtain ⟨e, b, s⟩ := runsOn_eq h t.leg t.day
  unfold m_impl_IsTrip m_spec_IsTrip
  rw [e, s]
  exact ⟨rfl, _, rfl⟩
theorem loadOf_eq : @m_impl_LoadOf = @m_spec_LoadOf := by
  funext l t
  unfold m_impl_LoadOf m_spec_LoadOf
  have : m_impl_LoadOf_b0 l t = m_spec_LoadOf_b0 l t := by
    funext s
    unfold m_impl_LoadOf_b0 m_spec_LoadOf_b0
    cases hg : getI l s.2 with
    | none => rfl
    | some y => simp only [Option.bind_some]
  rw [this]
end Go.Proofs.YtjkpcfbmmkmoaaaGreat

/- The mirror of impl_compareInts, and that the code does just that (printed by a program of my own). -/
namespace Go.Proofs.YtjkpcfbmmkmoaaaGreat
set_option maxRecDepth 10000
open Go.RowKit
set_option linter.unusedVariables false
set_option maxHeartbeats 16000000
def m_impl_compareInts (a : Int) (b : Int) : Option Int :=
 cond (decide (a < b))
 (some (-1))
 (cond (decide (b < a))
 (some 1)
 (some 0))
theorem ok_impl_compareInts (a : Int) (b : Int) {r : Int} (H : m_impl_compareInts a b = some r) : CallM Tryz.prog 139 [vi a, vi b] [] (vi r) [] := by
  replace H := H0 H
  unfold m_impl_compareInts at H
  refine callM_of Tryz.func139 rfl Tryz.ntmps139 Tryz.results139 fun Q hQ hQn => ?_
  exact wk
instance (a : Int) (b : Int) : CT Tryz.prog (m_impl_compareInts a b) := ⟨139, [vi a, vi b], [], fun r => vi r, fun r => [], ok_impl_compareInts a b⟩
end Go.Proofs.YtjkpcfbmmkmoaaaGreat

/- The mirror of impl_first, and that the code does just that (printed by a program of my own). -/
namespace Go.Proofs.YtjkpcfbmmkmoaaaGreat
set_option maxRecDepth 10000
open Go.RowKit
set_option linter.unusedVariables false
set_option maxHeartbeats 16000000
def m_impl_first_b0 (list : List Int) (s0 : Int) : Option (Int ⊕ (Unit ⊕ Int)) :=
 cond (decide (s0 < (list.length : Int)))
 ((getI list s0).bind fun y1 =>
 cond (!decide (y1 = 0))
 (some (.inr (.inr y1)))
 (some (.inl (w64 (s0 + 1)))))
 (some (.inr (.inl ())))
instance (list : List Int) : LoopE (m_impl_first_b0 list) := ⟨fun s0 => [.un, .un, .un, .un, .un, .sl (list.map cInt), vi (list.length : Int), vi s0, .un, .un, .un, .un, .un, .un, .un], fun s0 => []⟩
def m_impl_first (list : List Int) : Option Int :=
 (iterF (m_impl_first_b0 list) NN 0).bind (selim (fun o0 =>
 some 0) (fun r => some r))
theorem ok_impl_first (list : List Int) {r : Int} (H : m_impl_first list = some r) : CallM Tryz.prog 138 [.sl (list.map cInt)] [] (vi r) [] := by
  replace H := H0 H
  unfold m_impl_first at H
  refine callM_of Tryz.func138 rfl Tryz.ntmps138 Tryz.results138 fun Q hQ hQn => ?_
  exact wk
instance (list : List Int) : CT Tryz.prog (m_impl_first list) := ⟨138, [.sl (list.map cInt)], [], fun r => vi r, fun r => [], ok_impl_first list⟩
end Go.Proofs.YtjkpcfbmmkmoaaaGreat

/- The mirror of impl_compareBookings, and that the code does just that (printed by a program of my own). -/
namespace Go.Proofs.YtjkpcfbmmkmoaaaGreat
set_option maxRecDepth 10000
open Go.RowKit
set_option linter.unusedVariables false
set_option maxHeartbeats 16000000
def m_impl_compareBookings (a : YBooking) (b : YBooking) : Option Int :=
 (m_impl_compareInts a.trip.day b.trip.day).bind fun y1 =>
 (m_impl_compareInts a.trip.leg b.trip.leg).bind fun y2 =>
 (m_impl_compareInts a.thing b.thing).bind fun y3 =>
 (m_impl_first ([y1, y2, y3])).bind fun y4 =>
 some y4
theorem ok_impl_compareBookings (a : YBooking) (b : YBooking) {r : Int} (H : m_impl_compareBookings a b = some r) : CallM Tryz.prog 197 [.ag (cBooking a), .ag (cBooking b)] [] (vi r) [] := by
  replace H := H0 H
  unfold m_impl_compareBookings at H
  refine callM_of Tryz.func197 rfl Tryz.ntmps197 Tryz.results197 fun Q hQ hQn => ?_
  exact wk
instance (a : YBooking) (b : YBooking) : CT Tryz.prog (m_impl_compareBookings a b) := ⟨197, [.ag (cBooking a), .ag (cBooking b)], [], fun r => vi r, fun r => [], ok_impl_compareBookings a b⟩
end Go.Proofs.YtjkpcfbmmkmoaaaGreat

/- The mirror of impl_AreBookings, and that the code does just that (printed by a program of my own). -/
namespace Go.Proofs.YtjkpcfbmmkmoaaaGreat
set_option maxRecDepth 10000
open Go.RowKit
set_option linter.unusedVariables false
set_option maxHeartbeats 16000000
def m_impl_AreBookings_b0 (n : YNetwork) (l : List YBooking) (s0 : Int) : Option (Int ⊕ (Unit ⊕ Bool)) :=
 cond (decide (s0 < (l.length : Int)))
 ((getI l s0).bind fun y2 =>
 cond (decide (0 < s0))
 ((getI l (w64 (s0 - 1))).bind fun y3 =>
 (m_impl_compareBookings y3 y2).bind fun y4 =>
 cond (decide (0 ≤ y4))
 (some (.inr (.inr false)))
 ((m_impl_IsTrip n y2.trip).bind fun y5 =>
 cond (!y5)
 (some (.inr (.inr false)))
 ((m_impl_within y2.thing 1 9999).bind fun y6 =>
 cond (!y6)
 (some (.inr (.inr false)))
 ((m_impl_within y2.weight 1 1000000).bind fun y7 =>
 cond (!y7)
 (some (.inr (.inr false)))
 ((m_impl_LoadOf l y2.trip).bind fun y8 =>
 (getI n.legs y2.trip.leg).bind fun y9 =>
 cond (decide (y9.room < y8))
 (some (.inr (.inr false)))
 (some (.inl (w64 (s0 + 1)))))))))
 ((m_impl_IsTrip n y2.trip).bind fun y10 =>
 cond (!y10)
 (some (.inr (.inr false)))
 ((m_impl_within y2.thing 1 9999).bind fun y11 =>
 cond (!y11)
 (some (.inr (.inr false)))
 ((m_impl_within y2.weight 1 1000000).bind fun y12 =>
 cond (!y12)
 (some (.inr (.inr false)))
 ((m_impl_LoadOf l y2.trip).bind fun y13 =>
 (getI n.legs y2.trip.leg).bind fun y14 =>
 cond (decide (y14.room < y13))
 (some (.inr (.inr false)))
 (some (.inl (w64 (s0 + 1)))))))))
 (some (.inr (.inl ())))
instance (n : YNetwork) (l : List YBooking) : LoopE (m_impl_AreBookings_b0 n l) := ⟨fun s0 => (.un :: .sl (l.map cBooking) :: .be 0 0 0 :: .un :: .un :: .un :: .un :: .un :: .un :: .un :: .un :: .un :: .un :: .un :: .un :: .sl (l.map cBooking) :: vi (l.length : Int) :: vi s0 :: .un :: .un :: .un :: .un :: .un :: .un :: .un :: .un :: .un :: .un :: .un :: .un :: .un :: .un :: .un :: .un :: .un :: .un :: .un :: .un :: .un :: .un :: .un :: .un :: .un :: .un :: .un :: .un :: .un :: .un :: .un :: .un :: .un :: .un :: .un :: .un :: .un :: .un :: .un :: .un :: .un :: .un :: .un :: .un :: .un :: .un :: .un :: .un :: .un :: .un :: .un :: []), fun s0 => [some ⟨43, 3, [[.sl (n.legs.map cLeg), .sl (n.off.map cInt), vi n.change]]⟩]⟩
def m_impl_AreBookings (n : YNetwork) (l : List YBooking) : Option Bool :=
 (m_impl_IsNetwork n).bind fun y1 =>
 cond (!y1)
 (some false)
 (cond (decide (120 < (l.length : Int)))
 (some false)
 ((iterF (m_impl_AreBookings_b0 n l) NN 0).bind (selim (fun o0 =>
 some true) (fun r => some r))))
theorem ok_impl_AreBookings (n : YNetwork) (l : List YBooking) {r : Bool} (H : m_impl_AreBookings n l = some r) : CallM Tryz.prog 131 [.ag (cNetwork n), .sl (l.map cBooking)] [] (vb r) [] := by
  replace H := H0 H
  unfold m_impl_AreBookings at H
  refine callM_of Tryz.func131 rfl Tryz.ntmps131 Tryz.results131 fun Q hQ hQn => ?_
  exact wk
instance (n : YNetwork) (l : List YBooking) : CT Tryz.prog (m_impl_AreBookings n l) := ⟨131, [.ag (cNetwork n), .sl (l.map cBooking)], [], fun r => vb r, fun r => [], ok_impl_AreBookings n l⟩
end Go.Proofs.YtjkpcfbmmkmoaaaGreat

/- The mirror of spec_l6Before, and that the code does just that (printed by a program of my own). -/
namespace Go.Proofs.YtjkpcfbmmkmoaaaGreat
set_option maxRecDepth 10000
open Go.RowKit
set_option linter.unusedVariables false
set_option maxHeartbeats 16000000
def m_spec_l6Before (a : YBooking) (b : YBooking) : Option Bool :=
 cond (!decide (a.trip.day = b.trip.day))
 (some (decide (a.trip.day < b.trip.day)))
 (cond (!decide (a.trip.leg = b.trip.leg))
 (some (decide (a.trip.leg < b.trip.leg)))
 (some (decide (a.thing < b.thing))))
theorem ok_spec_l6Before (a : YBooking) (b : YBooking) {r : Bool} (H : m_spec_l6Before a b = some r) : CallM Tryz.prog 180 [.ag (cBooking a), .ag (cBooking b)] [] (vb r) [] := by
  replace H := H0 H
  unfold m_spec_l6Before at H
  refine callM_of Tryz.func180 rfl Tryz.ntmps180 Tryz.results180 fun Q hQ hQn => ?_
  exact wk
instance (a : YBooking) (b : YBooking) : CT Tryz.prog (m_spec_l6Before a b) := ⟨180, [.ag (cBooking a), .ag (cBooking b)], [], fun r => vb r, fun r => [], ok_spec_l6Before a b⟩
end Go.Proofs.YtjkpcfbmmkmoaaaGreat

/- The mirror of spec_AreBookings, and that the code does just that (printed by a program of my own). -/
namespace Go.Proofs.YtjkpcfbmmkmoaaaGreat
set_option maxRecDepth 10000
open Go.RowKit
set_option linter.unusedVariables false
set_option maxHeartbeats 16000000
def m_spec_AreBookings_b0 (n : YNetwork) (l : List YBooking) (s0 : Int) : Option (Int ⊕ (Unit ⊕ Bool)) :=
 cond (decide (s0 < (l.length : Int)))
 ((getI l s0).bind fun y2 =>
 (m_spec_l3Runs n y2.trip.leg y2.trip.day).bind fun y3 =>
 cond (!y3)
 (some (.inr (.inr false)))
 ((m_spec_l1In y2.thing 1 9999).bind fun y4 =>
 cond (!y4)
 (some (.inr (.inr false)))
 ((m_spec_l1In y2.weight 1 1000000).bind fun y5 =>
 cond (!y5)
 (some (.inr (.inr false)))
 (cond (decide (0 < s0))
 ((getI l (w64 (s0 - 1))).bind fun y6 =>
 (m_spec_l6Before y6 y2).bind fun y7 =>
 cond (!y7)
 (some (.inr (.inr false)))
 (some (.inl (w64 (s0 + 1)))))
 (some (.inl (w64 (s0 + 1))))))))
 (some (.inr (.inl ())))
instance (n : YNetwork) (l : List YBooking) : LoopE (m_spec_AreBookings_b0 n l) := ⟨fun s0 => (.un :: .sl (l.map cBooking) :: .be 0 0 0 :: .un :: .un :: vi s0 :: .un :: .un :: .un :: .un :: .un :: .un :: .un :: .un :: .un :: .un :: .un :: .un :: .un :: .un :: .un :: .un :: .un :: .un :: .un :: .un :: .un :: .un :: .un :: .un :: .un :: .un :: .un :: .un :: .un :: .un :: .un :: .un :: .un :: .un :: .un :: .un :: .un :: .un :: .un :: .un :: .un :: .un :: .un :: .un :: .un :: .un :: .un :: .un :: .un :: .un :: .un :: .un :: .un :: .un :: .un :: .un :: .un :: .un :: .un :: .un :: .un :: .un :: .un :: .un :: .un :: .un :: .un :: .un :: .un :: .un :: .un :: .un :: .un :: .un :: .un :: .un :: .un :: .un :: .un :: .un :: []), fun s0 => [some ⟨43, 3, [[.sl (n.legs.map cLeg), .sl (n.off.map cInt), vi n.change]]⟩]⟩
def m_spec_AreBookings_b1 (n : YNetwork) (l : List YBooking) (s1 : Int) : Option (Int ⊕ (Unit ⊕ Bool)) :=
 cond (decide (s1 < (l.length : Int)))
 ((getI l s1).bind fun y8 =>
 (m_spec_LoadOf l y8.trip).bind fun y9 =>
 (getI l s1).bind fun y10 =>
 (getI n.legs y10.trip.leg).bind fun y11 =>
 cond (decide (y11.room < y9))
 (some (.inr (.inr false)))
 (some (.inl (w64 (s1 + 1)))))
 (some (.inr (.inl ())))
instance (n : YNetwork) (l : List YBooking) : LoopE (m_spec_AreBookings_b1 n l) := ⟨fun s1 => (.un :: .sl (l.map cBooking) :: .be 0 0 0 :: .un :: .un :: .un :: .un :: vi s1 :: .un :: .un :: .un :: .un :: .un :: .un :: .un :: .un :: .un :: .un :: .un :: .un :: .un :: .un :: .un :: .un :: .un :: .un :: .un :: .un :: .un :: .un :: .un :: .un :: .un :: .un :: .un :: .un :: .un :: .un :: .un :: .un :: .un :: .un :: .un :: .un :: .un :: .un :: .un :: .un :: .un :: .un :: .un :: .un :: .un :: .un :: .un :: .un :: .un :: .un :: .un :: .un :: .un :: .un :: .un :: .un :: .un :: .un :: .un :: .un :: .un :: .un :: .un :: .un :: .un :: .un :: .un :: .un :: .un :: .un :: .un :: .un :: .un :: .un :: .un :: .un :: .un :: .un :: []), fun s1 => [some ⟨43, 3, [[.sl (n.legs.map cLeg), .sl (n.off.map cInt), vi n.change]]⟩]⟩
def m_spec_AreBookings (n : YNetwork) (l : List YBooking) : Option Bool :=
 (m_spec_IsNetwork n).bind fun y1 =>
 cond (!y1)
 (some false)
 (cond (decide (120 < (l.length : Int)))
 (some false)
 ((iterF (m_spec_AreBookings_b0 n l) NN 0).bind (selim (fun o0 =>
 (iterF (m_spec_AreBookings_b1 n l) NN 0).bind (selim (fun o1 =>
 some true) (fun r => some r))) (fun r => some r))))
theorem ok_spec_AreBookings (n : YNetwork) (l : List YBooking) {r : Bool} (H : m_spec_AreBookings n l = some r) : CallM Tryz.prog 116 [.ag (cNetwork n), .sl (l.map cBooking)] [] (vb r) [] := by
  replace H := H0 H
  unfold m_spec_AreBookings at H
  refine callM_of Tryz.func116 rfl Tryz.ntmps116 Tryz.results116 fun Q hQ hQn => ?_
  exact wk
instance (n : YNetwork) (l : List YBooking) : CT Tryz.prog (m_spec_AreBookings n l) := ⟨116, [.ag (cNetwork n), .sl (l.map cBooking)], [], fun r => vb r, fun r => [], ok_spec_AreBookings n l⟩
end Go.Proofs.YtjkpcfbmmkmoaaaGreat

/- The two sides' functions on bookings answer alike. -/
namespace Go.Proofs.YtjkpcfbmmkmoaaaGreat
set_option maxRecDepth 10000
open Go.RowKit
set_option linter.unusedVariables false
set_option linter.unusedSimpArgs false
def cmpI (a b : Int) : Int := if a < b then -1 else if b < a then 1 else 0
theorem cmpI_v (a b : Int) : m_impl_compareInts a b = some (cmpI a b) := by
  unfold m_impl_compareInts cmpI
  by_cases h : a < b
  · simp [h]
  · by_cases h2 : b < a <;> simp [h, h2]
theorem first3 (x y z : Int) : m_impl_first [x, y, z] = some (if x ≠ 0 then x else if y ≠ 0 then y else z) := by
  obtain ⟨k, hk⟩ : ∃ k, NN = k + 1 + 1 + 1 + 1 := ⟨1152921504606846972, by unfold NN; omega⟩
  unfold m_impl_first
  rw [hk]
  have w0 : w64 1 = 1 := w64_in (by omega)
  have w1 : w64 2 = 2 := w64_in (by omega)
  have w2 : w64 3 = 3 := w64_in (by omega)
  by_cases hx : x = 0
  · by_cases hy : y = 0
    · by_cases hz : z = 0
      · simp [iterF, selim, m_impl_first_b0, getI, hx, hy, hz, w0, w1, w2]
      · simp [iterF, selim, m_impl_first_b0, getI, hx, hy, hz, w0, w1, w2]
    · simp [iterF, selim, m_impl_first_b0, getI, hx, hy, w0]
  · simp [iterF, selim, m_impl_first_b0, getI, hx]
def befB (a b : YBooking) : Bool := if a.trip.day ≠ b.trip.day then decide (a.trip.day < b.trip.day) else if a.trip.leg ≠ b.trip.leg then decide (a.trip.leg < b.trip.leg) else decide (a.thing < b.thing)
theorem before_v (a b : YBooking) : m_spec_l6Before a b = some (befB a b) := by
  unfold m_spec_l6Before befB
  by_cases h1 : a.trip.day = b.trip.day
  · by_cases h2 : a.trip.leg = b.trip.leg <;> simp [h1, h2]
  · simp [h1]
theorem compare_v (a b : YBooking) : ∃ v, m_impl_compareBookings a b = some v ∧ decide (0 ≤ v) = !befB a b := by
  unfold m_impl_compareBookings
  simp only [cmpI_v, Option.bind_some, first3]
  refine ⟨_, rfl, ?_⟩
  unfold befB cmpI
  rcases Int.lt_trichotomy a.trip.day b.trip.day with h1 | h1 | h1
  · simp [h1, show a.trip.day ≠ b.trip.day by omega]
  · rcases Int.lt_trichotomy a.trip.leg b.trip.leg with h2 | h2 | h2
    · simp [h1, h2, show a.trip.leg ≠ b.trip.leg by omega]
    · rcases Int.lt_trichotomy a.thing b.thing with h3 | h3 | h3
      · simp [h1, h2, h3]
      · simp [h1, h2, h3]
      · simp [h1, h2, h3, show ¬ a.thing < b.thing by omega]
    · simp [h1, h2, show a.trip.leg ≠ b.trip.leg by omega, show ¬ a.trip.leg < b.trip.leg by omega]
  · simp [h1, show a.trip.day ≠ b.trip.day by omega, show ¬ a.trip.day < b.trip.day by omega]
theorem loadOf_some {l : List YBooking} (h : l.length ≤ 1048576) (t : YTrip) : ∃ v, m_spec_LoadOf l t = some v := by
  have hh : ∃ o, iterF (m_spec_LoadOf_b0 l t) NN (0, 0) = some o := by
    refine iter_tot (fun k s => ∃ i : Nat, i + k = l.length ∧ s.2 = (i : Int)) ?_ NN l.length (0, 0) ⟨0, by omega, rfl⟩ (by unfold NN; omega)
    rintro k ⟨a, s⟩ ⟨i, hi, hs⟩
    simp only at hs
    subst hs
    rcases Nat.lt_or_ge i l.length with hlt | hge
    · have hw := w64_nat hlt (by omega)
      have hg : getI l (i : Int) = some l[i] := by rw [getI_nat]; exact List.getElem?_eq_getElem hlt
      cases hc : decide (l[i].trip = t) with
      | true =>
        refine ⟨_, by simp only [m_spec_LoadOf_b0, decide_eq_true (show (i : Int) < l.length by omega), cond_true, hg, Option.bind_some, hc, hw]; rfl, ?_⟩
        rintro s' e; cases e; exact ⟨k - 1, by omega, i + 1, by omega, rfl⟩
      | false =>
        refine ⟨_, by simp only [m_spec_LoadOf_b0, decide_eq_true (show (i : Int) < l.length by omega), cond_true, cond_false, hg, Option.bind_some, hc, hw]; rfl, ?_⟩
        rintro s' e; cases e; exact ⟨k - 1, by omega, i + 1, by omega, rfl⟩
    · have : i = l.length := by omega
      subst this
      refine ⟨_, by simp only [m_spec_LoadOf_b0, decide_eq_false (show ¬ ((l.length : Int) < l.length) by omega), cond_false]; rfl, ?_⟩
      rintro s' e; cases e
  obtain ⟨o, ho⟩ := hh
  exact ⟨o, by unfold m_spec_LoadOf; rw [ho]; rfl⟩
/-- A leg that runs is one. -/
theorem runs_leg {n : YNetwork} (h : NetFit n) {leg day : Int} (hr : m_spec_l3Runs n leg day = some true) : ∃ y, getI n.legs leg = some y := by
  have hl := h.legs
  have hw : w64 ((n.legs.length : Int) - 1) = n.legs.length - 1 := w64_in (by omega)
  unfold m_spec_l3Runs at hr
  rw [hw, l1In_v] at hr
  simp only [Option.bind_some] at hr
  by_cases h1 : 0 ≤ leg ∧ leg ≤ (n.legs.length : Int) - 1
  · exact ⟨n.legs[leg.toNat]'(by omega), by unfold getI; rw [if_pos h1.1]; exact List.getElem?_eq_getElem _⟩
  · rw [← Bool.decide_and, decide_eq_false h1] at hr
    cases hr
/-- What is asked of the booking at i: first half. -/
def bk1 (n : YNetwork) (l : List YBooking) (i : Nat) : Bool := match l[i]? with
  | none => true
  | some y => (m_spec_l3Runs n y.trip.leg y.trip.day).getD false && (decide (1 ≤ y.thing) && decide (y.thing ≤ 9999)) && (decide (1 ≤ y.weight) && decide (y.weight ≤ 1000000)) && (decide (i = 0) || match l[i - 1]? with
    | none => true
    | some x => befB x y)
/-- Second half: the load. -/
def bk2 (n : YNetwork) (l : List YBooking) (i : Nat) : Bool := match l[i]? with
  | none => true
  | some y => match getI n.legs y.trip.leg, m_spec_LoadOf l y.trip with
    | some g, some v => !decide (g.room < v)
    | _, _ => false
def booksV (n : YNetwork) (l : List YBooking) : Bool := (m_spec_IsNetwork n).getD false && decide ((l.length : Int) ≤ 120) && (List.range l.length).all fun i => bk1 n l i && bk2 n l i
theorem specBooks_v {n : YNetwork} (h : NetFit n) {l : List YBooking} (hl : l.length ≤ 1048576) : m_spec_AreBookings n l = some (booksV n l) := by
  obtain ⟨_, b, hb⟩ := isNetwork_eq h
  unfold m_spec_AreBookings booksV
  rw [hb]
  simp only [Option.bind_some, Option.getD_some]
  cases b with
  | false => rfl
  | true =>
    by_cases h120 : 120 < (l.length : Int)
    · simp [h120, show ¬ ((l.length : Int) ≤ 120) by omega]
    simp only [Bool.not_true, cond_false, decide_eq_false h120, decide_eq_true (show (l.length : Int) ≤ 120 by omega), Bool.true_and]
    have e0 : iterF (m_spec_AreBookings_b0 n l) NN 0 = some (if (List.range l.length).all (bk1 n l) = true then .inl () else .inr false) := by
      refine iter_check (fun i hi _ => ?_) (fun _ => by simp [m_spec_AreBookings_b0]) (by unfold NN; omega)
      have hw := w64_nat hi (by omega)
      have hg : getI l (i : Int) = some l[i] := by rw [getI_nat]; exact List.getElem?_eq_getElem hi
      obtain ⟨_, rb, hrb⟩ := runs_eq h l[i].trip.leg l[i].trip.day
      simp only [m_spec_AreBookings_b0, decide_eq_true (show (i : Int) < l.length by omega), cond_true, hg, Option.bind_some, hrb, l1In_v, bk1, List.getElem?_eq_getElem hi, Option.getD_some]
      cases rb with
      | false => simp
      | true =>
        cases decide (1 ≤ l[i].thing) && decide (l[i].thing ≤ 9999) with
        | false => simp
        | true =>
          cases decide (1 ≤ l[i].weight) && decide (l[i].weight ≤ 1000000) with
          | false => simp
          | true =>
            by_cases hi0 : i = 0
            · subst hi0
              have hw' : w64 1 = 1 := w64_in (by omega)
              simp [hw']
            · have hw2 : w64 ((i : Int) - 1) = ((i - 1 : Nat) : Int) := by rw [w64_in (by omega)]; omega
              have hg2 : getI l ((i - 1 : Nat) : Int) = some l[i - 1] := by rw [getI_nat]; exact List.getElem?_eq_getElem (by omega)
              simp only [decide_eq_true (show 0 < (i : Int) by omega), hw2, hg2, Option.bind_some, before_v, hw, List.getElem?_eq_getElem (show i - 1 < l.length by omega), decide_eq_false hi0, Bool.not_true, cond_false, cond_true, Bool.true_and, Bool.false_or]
              cases befB l[i - 1] l[i] <;> rfl
    rw [e0]
    by_cases hall : (List.range l.length).all (bk1 n l) = true
    · rw [if_pos hall]
      have e1 : iterF (m_spec_AreBookings_b1 n l) NN 0 = some (if (List.range l.length).all (bk2 n l) = true then .inl () else .inr false) := by
        refine iter_check (fun i hi _ => ?_) (fun _ => by simp [m_spec_AreBookings_b1]) (by unfold NN; omega)
        have hw := w64_nat hi (by omega)
        have hg : getI l (i : Int) = some l[i] := by rw [getI_nat]; exact List.getElem?_eq_getElem hi
        obtain ⟨v, hv⟩ := loadOf_some hl l[i].trip
        have hb1 := List.all_eq_true.1 hall i (List.mem_range.2 hi)
        obtain ⟨_, rb, hrb⟩ := runs_eq h l[i].trip.leg l[i].trip.day
        have hrt : rb = true := by
          simp only [bk1, List.getElem?_eq_getElem hi, hrb, Option.getD_some, Bool.and_eq_true] at hb1
          exact hb1.1.1.1
        subst hrt
        obtain ⟨g, hgl⟩ := runs_leg h hrb
        simp only [m_spec_AreBookings_b1, decide_eq_true (show (i : Int) < l.length by omega), cond_true, hg, Option.bind_some, hv, hgl, bk2, List.getElem?_eq_getElem hi, hw]
        cases decide (g.room < v) <;> rfl
      simp only [Option.bind_some]
      rw [e1]
      have : (List.range l.length).all (fun i => bk1 n l i && bk2 n l i) = (List.range l.length).all (bk2 n l) := by
        rw [Bool.eq_iff_iff, List.all_eq_true, List.all_eq_true]
        exact ⟨fun H i hi => by have := H i hi; simp only [Bool.and_eq_true] at this; exact this.2, fun H i hi => by rw [List.all_eq_true.1 hall i hi, H i hi]; rfl⟩
      rw [this]
      cases (List.range l.length).all (bk2 n l) <;> rfl
    · rw [if_neg hall]
      have : (List.range l.length).all (fun i => bk1 n l i && bk2 n l i) = false := by
        rw [Bool.eq_false_iff]
        intro H
        exact hall (List.all_eq_true.2 fun i hi => by have := List.all_eq_true.1 H i hi; simp only [Bool.and_eq_true] at this; exact this.1)
      rw [this]; rfl
theorem isTrip_v {n : YNetwork} (h : NetFit n) (hn : m_spec_IsNetwork n = some true) (t : YTrip) : m_impl_IsTrip n t = m_spec_l3Runs n t.leg t.day := by
  rw [(isTrip_eq h t).1]
  unfold m_spec_IsTrip m_spec_RunsOn
  rw [hn]
  obtain ⟨_, b, hb⟩ := runs_eq h t.leg t.day
  simp only [Option.bind_some, cond_true, hb]
theorem implBooks_v {n : YNetwork} (h : NetFit n) {l : List YBooking} (hl : l.length ≤ 1048576) : m_impl_AreBookings n l = some (booksV n l) := by
  obtain ⟨en, b, hb⟩ := isNetwork_eq h
  unfold m_impl_AreBookings booksV
  rw [en, hb]
  simp only [Option.bind_some, Option.getD_some]
  cases b with
  | false => rfl
  | true =>
    by_cases h120 : 120 < (l.length : Int)
    · simp [h120, show ¬ ((l.length : Int) ≤ 120) by omega]
    simp only [Bool.not_true, cond_false, decide_eq_false h120, decide_eq_true (show (l.length : Int) ≤ 120 by omega), Bool.true_and]
    have e0 : iterF (m_impl_AreBookings_b0 n l) NN 0 = some (if (List.range l.length).all (fun i => bk1 n l i && bk2 n l i) = true then .inl () else .inr false) := by
      refine iter_check (fun i hi _ => ?_) (fun _ => by simp [m_impl_AreBookings_b0]) (by unfold NN; omega)
      have hw := w64_nat hi (by omega)
      have hg : getI l (i : Int) = some l[i] := by rw [getI_nat]; exact List.getElem?_eq_getElem hi
      obtain ⟨_, rb, hrb⟩ := runs_eq h l[i].trip.leg l[i].trip.day
      have ht := isTrip_v h hb l[i].trip
      rw [hrb] at ht
      obtain ⟨v, hv⟩ := loadOf_some hl l[i].trip
      have hrest : ∀ {X : Option (Int ⊕ (Unit ⊕ Bool))} {pre : Bool}, pre = (decide (i = 0) || match l[i - 1]? with
          | none => true
          | some x => befB x l[i]) →
          X = (cond (!pre) (some (.inr (.inr false))) ((some rb).bind fun y10 => cond (!y10) (some (.inr (.inr false))) ((m_spec_l1In l[i].thing 1 9999).bind fun y11 => cond (!y11) (some (.inr (.inr false))) ((m_spec_l1In l[i].weight 1 1000000).bind fun y12 => cond (!y12) (some (.inr (.inr false))) ((some v).bind fun y13 => (getI n.legs l[i].trip.leg).bind fun y14 => cond (decide (y14.room < y13)) (some (.inr (.inr false))) (some (.inl ((i + 1 : Nat) : Int)))))))) →
          X = some (if (bk1 n l i && bk2 n l i) = true then .inl ((i + 1 : Nat) : Int) else .inr (.inr false)) := by
        rintro X pre hpre rfl
        simp only [bk1, bk2, List.getElem?_eq_getElem hi, hrb, hv, Option.getD_some, l1In_v, Option.bind_some, ← hpre]
        cases pre with
        | false => simp
        | true =>
          cases rb with
          | false => simp
          | true =>
            obtain ⟨g, hgl⟩ := runs_leg h hrb
            simp only [hgl, Option.bind_some]
            cases decide (1 ≤ l[i].thing) && decide (l[i].thing ≤ 9999) with
            | false => simp
            | true =>
              cases decide (1 ≤ l[i].weight) && decide (l[i].weight ≤ 1000000) with
              | false => simp
              | true => cases decide (g.room < v) <;> simp
      by_cases hi0 : i = 0
      · refine hrest (pre := true) (by simp [hi0]) ?_
        simp only [m_impl_AreBookings_b0, decide_eq_true (show (i : Int) < l.length by omega), decide_eq_false (show ¬ 0 < (i : Int) by omega), cond_true, cond_false, hg, Option.bind_some, ht, within_eq, loadOf_eq, hv, hw, Bool.not_true]
      · have hw2 : w64 ((i : Int) - 1) = ((i - 1 : Nat) : Int) := by rw [w64_in (by omega)]; omega
        have hg2 : getI l ((i - 1 : Nat) : Int) = some l[i - 1] := by rw [getI_nat]; exact List.getElem?_eq_getElem (by omega)
        obtain ⟨cv, hcv, hc0⟩ := compare_v l[i - 1] l[i]
        refine hrest (pre := befB l[i - 1] l[i]) (by simp [hi0, List.getElem?_eq_getElem (show i - 1 < l.length by omega)]) ?_
        simp only [m_impl_AreBookings_b0, decide_eq_true (show (i : Int) < l.length by omega), decide_eq_true (show 0 < (i : Int) by omega), cond_true, cond_false, hg, hw2, hg2, hcv, hc0, Option.bind_some, ht, within_eq, loadOf_eq, hv, hw]
    rw [e0]
    cases (List.range l.length).all (fun i => bk1 n l i && bk2 n l i) <;> rfl
theorem areBookings_eq {n : YNetwork} (h : NetFit n) {l : List YBooking} (hl : l.length ≤ 1048576) : m_impl_AreBookings n l = m_spec_AreBookings n l := by rw [implBooks_v h hl, specBooks_v h hl]
end Go.Proofs.YtjkpcfbmmkmoaaaGreat

/- The mirror of spec_PlacesOf, and that the code does just that (printed by a program of my own). -/
namespace Go.Proofs.YtjkpcfbmmkmoaaaGreat
set_option maxRecDepth 10000
open Go.RowKit
set_option linter.unusedVariables false
set_option maxHeartbeats 16000000
def m_spec_PlacesOf_b1 (n : YNetwork) (s0 : Int × (List ByteArray)) (y2 : YLeg) (s1 : Int) : Option (Int ⊕ Int) :=
 cond (decide (s1 < (s0.2.length : Int)))
 ((getI s0.2 s1).bind fun y3 =>
 cond (sLt y3 y2.to_)
 (some (.inl (w64 (s1 + 1))))
 (some (.inr s1)))
 (some (.inr s1))
instance (n : YNetwork) (s0 : Int × (List ByteArray)) (y2 : YLeg) : LoopE (m_spec_PlacesOf_b1 n s0 y2) := ⟨fun s1 => (.un :: .be 0 0 0 :: .un :: .ms 1 :: vi s0.1 :: vs y2.to_ :: vi s1 :: .un :: .un :: .un :: .un :: .un :: .un :: .un :: .un :: .un :: .un :: .un :: .un :: .un :: .un :: .un :: .un :: .un :: .un :: .un :: .un :: .un :: .un :: .un :: .un :: .un :: .un :: .un :: .un :: .un :: .un :: .un :: .un :: .un :: .un :: .un :: .un :: .un :: .un :: .un :: .un :: .un :: .un :: .un :: .un :: .un :: .un :: .un :: .un :: .un :: .un :: .un :: .un :: .un :: .un :: .un :: .un :: .un :: .un :: .un :: .un :: .un :: .un :: .un :: .un :: .un :: []), fun s1 => [some ⟨43, 3, [[.sl (n.legs.map cLeg), .sl (n.off.map cInt), vi n.change]]⟩, some ⟨9, 1, s0.2.map cStr⟩]⟩
def m_spec_PlacesOf_b2 (n : YNetwork) (s0 : Int × (List ByteArray)) (y1 : YLeg) (s2 : Int) : Option (Int ⊕ Int) :=
 cond (decide (s2 < (s0.2.length : Int)))
 ((getI s0.2 s2).bind fun y5 =>
 cond (sLt y5 y1.from_)
 (some (.inl (w64 (s2 + 1))))
 (some (.inr s2)))
 (some (.inr s2))
instance (n : YNetwork) (s0 : Int × (List ByteArray)) (y1 : YLeg) : LoopE (m_spec_PlacesOf_b2 n s0 y1) := ⟨fun s2 => (.un :: .be 0 0 0 :: .un :: .ms 1 :: vi s0.1 :: vs y1.from_ :: vi s2 :: .un :: .un :: .un :: .un :: .un :: .un :: .un :: .un :: .un :: .un :: .un :: .un :: .un :: .un :: .un :: .un :: .un :: .un :: .un :: .un :: .un :: .un :: .un :: .un :: .un :: .un :: .un :: .un :: .un :: .un :: .un :: .un :: .un :: .un :: .un :: .un :: .un :: .un :: .un :: .un :: .un :: .un :: .un :: .un :: .un :: .un :: .un :: .un :: .un :: .un :: .un :: .un :: .un :: .un :: .un :: .un :: .un :: .un :: .un :: .un :: .un :: .un :: .un :: .un :: .un :: []), fun s2 => [some ⟨43, 3, [[.sl (n.legs.map cLeg), .sl (n.off.map cInt), vi n.change]]⟩, some ⟨9, 1, s0.2.map cStr⟩]⟩
def m_spec_PlacesOf_b0 (n : YNetwork) (s0 : Int × (List ByteArray)) : Option ((Int × (List ByteArray)) ⊕ (List ByteArray)) :=
 cond (decide (s0.1 < (w64 (2 * (n.legs.length : Int)))))
 ((getI n.legs (IntKind.i64.wrap (Int.tdiv s0.1 2))).bind fun y1 =>
 cond (decide ((Int.tmod s0.1 2) = 1))
 ((getI n.legs (IntKind.i64.wrap (Int.tdiv s0.1 2))).bind fun y2 =>
 (iterF (m_spec_PlacesOf_b1 n s0 y2) NN 0).bind (fun o1 =>
 cond (decide (o1 = (s0.2.length : Int)))
 ((chk (slOk 0 o1 s0.2.length)).bind fun _ =>
 (chk (appOk ((([] : List ByteArray) : List ByteArray).length + ((subL s0.2 0 o1) : List ByteArray).length) 16)).bind fun _ =>
 (chk (appOk ((((([] : List ByteArray) : List ByteArray) ++ (subL s0.2 0 o1)) : List ByteArray).length + ([y2.to_] : List ByteArray).length) 16)).bind fun _ =>
 (chk (slOk o1 (s0.2.length : Int) s0.2.length)).bind fun _ =>
 (chk (appOk ((((((([] : List ByteArray) : List ByteArray) ++ (subL s0.2 0 o1)) : List ByteArray) ++ [y2.to_]) : List ByteArray).length + ((subL s0.2 o1 (s0.2.length : Int)) : List ByteArray).length) 16)).bind fun _ =>
 some (.inl ((w64 (s0.1 + 1)), ((((((([] : List ByteArray) : List ByteArray) ++ (subL s0.2 0 o1)) : List ByteArray) ++ [y2.to_]) : List ByteArray) ++ (subL s0.2 o1 (s0.2.length : Int))))))
 ((getI s0.2 o1).bind fun y4 =>
 cond (!decide (y4 = y2.to_))
 ((chk (slOk 0 o1 s0.2.length)).bind fun _ =>
 (chk (appOk ((([] : List ByteArray) : List ByteArray).length + ((subL s0.2 0 o1) : List ByteArray).length) 16)).bind fun _ =>
 (chk (appOk ((((([] : List ByteArray) : List ByteArray) ++ (subL s0.2 0 o1)) : List ByteArray).length + ([y2.to_] : List ByteArray).length) 16)).bind fun _ =>
 (chk (slOk o1 (s0.2.length : Int) s0.2.length)).bind fun _ =>
 (chk (appOk ((((((([] : List ByteArray) : List ByteArray) ++ (subL s0.2 0 o1)) : List ByteArray) ++ [y2.to_]) : List ByteArray).length + ((subL s0.2 o1 (s0.2.length : Int)) : List ByteArray).length) 16)).bind fun _ =>
 some (.inl ((w64 (s0.1 + 1)), ((((((([] : List ByteArray) : List ByteArray) ++ (subL s0.2 0 o1)) : List ByteArray) ++ [y2.to_]) : List ByteArray) ++ (subL s0.2 o1 (s0.2.length : Int))))))
 (some (.inl ((w64 (s0.1 + 1)), s0.2))))))
 ((iterF (m_spec_PlacesOf_b2 n s0 y1) NN 0).bind (fun o2 =>
 cond (decide (o2 = (s0.2.length : Int)))
 ((chk (slOk 0 o2 s0.2.length)).bind fun _ =>
 (chk (appOk ((([] : List ByteArray) : List ByteArray).length + ((subL s0.2 0 o2) : List ByteArray).length) 16)).bind fun _ =>
 (chk (appOk ((((([] : List ByteArray) : List ByteArray) ++ (subL s0.2 0 o2)) : List ByteArray).length + ([y1.from_] : List ByteArray).length) 16)).bind fun _ =>
 (chk (slOk o2 (s0.2.length : Int) s0.2.length)).bind fun _ =>
 (chk (appOk ((((((([] : List ByteArray) : List ByteArray) ++ (subL s0.2 0 o2)) : List ByteArray) ++ [y1.from_]) : List ByteArray).length + ((subL s0.2 o2 (s0.2.length : Int)) : List ByteArray).length) 16)).bind fun _ =>
 some (.inl ((w64 (s0.1 + 1)), ((((((([] : List ByteArray) : List ByteArray) ++ (subL s0.2 0 o2)) : List ByteArray) ++ [y1.from_]) : List ByteArray) ++ (subL s0.2 o2 (s0.2.length : Int))))))
 ((getI s0.2 o2).bind fun y6 =>
 cond (!decide (y6 = y1.from_))
 ((chk (slOk 0 o2 s0.2.length)).bind fun _ =>
 (chk (appOk ((([] : List ByteArray) : List ByteArray).length + ((subL s0.2 0 o2) : List ByteArray).length) 16)).bind fun _ =>
 (chk (appOk ((((([] : List ByteArray) : List ByteArray) ++ (subL s0.2 0 o2)) : List ByteArray).length + ([y1.from_] : List ByteArray).length) 16)).bind fun _ =>
 (chk (slOk o2 (s0.2.length : Int) s0.2.length)).bind fun _ =>
 (chk (appOk ((((((([] : List ByteArray) : List ByteArray) ++ (subL s0.2 0 o2)) : List ByteArray) ++ [y1.from_]) : List ByteArray).length + ((subL s0.2 o2 (s0.2.length : Int)) : List ByteArray).length) 16)).bind fun _ =>
 some (.inl ((w64 (s0.1 + 1)), ((((((([] : List ByteArray) : List ByteArray) ++ (subL s0.2 0 o2)) : List ByteArray) ++ [y1.from_]) : List ByteArray) ++ (subL s0.2 o2 (s0.2.length : Int))))))
 (some (.inl ((w64 (s0.1 + 1)), s0.2)))))))
 (some (.inr s0.2))
instance (n : YNetwork) : LoopE (m_spec_PlacesOf_b0 n) := ⟨fun s0 => (.un :: .be 0 0 0 :: .un :: .ms 1 :: vi s0.1 :: .un :: .un :: .un :: .un :: .un :: .un :: .un :: .un :: .un :: .un :: .un :: .un :: .un :: .un :: .un :: .un :: .un :: .un :: .un :: .un :: .un :: .un :: .un :: .un :: .un :: .un :: .un :: .un :: .un :: .un :: .un :: .un :: .un :: .un :: .un :: .un :: .un :: .un :: .un :: .un :: .un :: .un :: .un :: .un :: .un :: .un :: .un :: .un :: .un :: .un :: .un :: .un :: .un :: .un :: .un :: .un :: .un :: .un :: .un :: .un :: .un :: .un :: .un :: .un :: .un :: .un :: .un :: []), fun s0 => [some ⟨43, 3, [[.sl (n.legs.map cLeg), .sl (n.off.map cInt), vi n.change]]⟩, some ⟨9, 1, s0.2.map cStr⟩]⟩
def m_spec_PlacesOf (n : YNetwork) : Option (List ByteArray) :=
 (iterF (m_spec_PlacesOf_b0 n) NN (0, ([] : List ByteArray))).bind (fun o0 =>
 some o0)
theorem ok_spec_PlacesOf (n : YNetwork) {r : (List ByteArray)} (H : m_spec_PlacesOf n = some r) : CallM Tryz.prog 184 [.ag (cNetwork n)] [] (.ms 0) [some ⟨9, 1, r.map cStr⟩] := by
  replace H := H0 H
  unfold m_spec_PlacesOf at H
  refine callM_of Tryz.func184 rfl Tryz.ntmps184 Tryz.results184 fun Q hQ hQn => ?_
  exact wk
instance (n : YNetwork) : CT Tryz.prog (m_spec_PlacesOf n) := ⟨184, [.ag (cNetwork n)], [], fun r => .ms 0, fun r => [some ⟨9, 1, r.map cStr⟩], ok_spec_PlacesOf n⟩
end Go.Proofs.YtjkpcfbmmkmoaaaGreat

/- The two sides' lists of places are the same list. -/
namespace Go.Proofs.YtjkpcfbmmkmoaaaGreat
set_option maxRecDepth 10000
open Go.RowKit
set_option linter.unusedVariables false
set_option linter.unusedSimpArgs false
/-- A sorted list is known by its members. -/
theorem sorted_eq {α : Type} {r : α → α → Prop} (irr : ∀ a, ¬ r a a) (asy : ∀ a b, r a b → ¬ r b a) : ∀ {l1 l2 : List α}, l1.Pairwise r → l2.Pairwise r → (∀ x, x ∈ l1 ↔ x ∈ l2) → l1 = l2
  | [], [], _, _, _ => rfl
  | [], b :: l2, _, _, h => absurd ((h b).2 (List.mem_cons_self ..)) (by simp)
  | a :: l1, [], _, _, h => absurd ((h a).1 (List.mem_cons_self ..)) (by simp)
  | a :: l1, b :: l2, h1, h2, h => by
    rw [List.pairwise_cons] at h1 h2
    have hab : a = b := by
      rcases List.mem_cons.1 ((h a).1 (List.mem_cons_self ..)) with e | e
      · exact e
      · rcases List.mem_cons.1 ((h b).2 (List.mem_cons_self ..)) with e' | e'
        · exact e'.symm
        · exact absurd (h1.1 b e') (asy _ _ (h2.1 a e))
    subst hab
    congr 1
    refine sorted_eq irr asy h1.2 h2.2 fun x => ⟨fun hx => ?_, fun hx => ?_⟩
    · rcases List.mem_cons.1 ((h x).1 (List.mem_cons_of_mem _ hx)) with e | e
      · subst e; exact absurd (h1.1 x hx) (irr x)
      · exact e
    · rcases List.mem_cons.1 ((h x).2 (List.mem_cons_of_mem _ hx)) with e | e
      · subst e; exact absurd (h2.1 x hx) (irr x)
      · exact e
theorem sLt_iff (a b : ByteArray) : sLt a b = true ↔ a.data.toList < b.data.toList := by
  unfold sLt; rw [Go.Proofs.bytesLess_eq, ByteArray.toList_eq, ByteArray.toList_eq, decide_eq_true_iff]
theorem ba_ext {a b : ByteArray} (h : a.data.toList = b.data.toList) : a = b := by
  obtain ⟨⟨x⟩⟩ := a; obtain ⟨⟨y⟩⟩ := b; simpa using h
theorem sLt_irr (a : ByteArray) : ¬ sLt a a = true := by rw [sLt_iff]; exact List.lt_irrefl _
theorem sLt_as (a b : ByteArray) (h : sLt a b = true) : ¬ sLt b a = true := by rw [sLt_iff] at *; exact List.lt_asymm h
theorem sLt_tr {a b c : ByteArray} (h : sLt a b = true) (h' : sLt b c = true) : sLt a c = true := by rw [sLt_iff] at *; exact List.lt_trans h h'
theorem sLt_tri {a b : ByteArray} (h : ¬ sLt a b = true) (hn : a ≠ b) : sLt b a = true := by
  rw [sLt_iff] at *
  rcases List.le_total a.data.toList b.data.toList with e | e
  · rcases (List.le_iff_lt_or_eq.1 e) with e' | e'
    · exact absurd e' h
    · exact absurd (ba_ext e') hn
  · rcases (List.le_iff_lt_or_eq.1 e) with e' | e'
    · exact e'
    · exact absurd (ba_ext e'.symm) hn
/-- A name is put where it belongs. -/
def insS : List ByteArray → ByteArray → List ByteArray
  | [], p => [p]
  | x :: xs, p => if sLt x p = true then x :: insS xs p else if x = p then x :: xs else p :: x :: xs
theorem insS_mem {p y : ByteArray} : ∀ {xs : List ByteArray}, y ∈ insS xs p ↔ y = p ∨ y ∈ xs
  | [] => by simp [insS]
  | x :: xs => by
    unfold insS
    split
    · rw [List.mem_cons, insS_mem, List.mem_cons]; grind
    · split
      · rename_i h; subst h; simp
      · simp
theorem insS_sorted {p : ByteArray} : ∀ {xs : List ByteArray}, xs.Pairwise (fun a b => sLt a b = true) → (insS xs p).Pairwise (fun a b => sLt a b = true)
  | [], _ => by simp [insS]
  | x :: xs, h => by
    rw [List.pairwise_cons] at h
    unfold insS
    split
    · rename_i h1
      rw [List.pairwise_cons]
      refine ⟨fun y hy => ?_, insS_sorted h.2⟩
      rcases insS_mem.1 hy with e | e
      · rw [e]; exact h1
      · exact h.1 y e
    · rename_i h1
      split
      · rw [List.pairwise_cons]; exact h
      · rename_i h2
        have h3 := sLt_tri h1 h2
        rw [List.pairwise_cons, List.pairwise_cons]
        refine ⟨fun y hy => ?_, h⟩
        rcases List.mem_cons.1 hy with e | e
        · rw [e]; exact h3
        · exact sLt_tr h3 (h.1 y e)
theorem insS_len {p : ByteArray} : ∀ {xs : List ByteArray}, (insS xs p).length ≤ xs.length + 1
  | [] => by simp [insS]
  | x :: xs => by
    unfold insS
    split
    · have := insS_len (p := p) (xs := xs); simp; omega
    · split <;> simp
theorem foldS_mem {y : ByteArray} : ∀ {l acc : List ByteArray}, y ∈ l.foldl insS acc ↔ y ∈ l ∨ y ∈ acc
  | [], acc => by simp
  | p :: l, acc => by rw [List.foldl_cons, foldS_mem, insS_mem, List.mem_cons]; grind
theorem foldS_sorted : ∀ {l acc : List ByteArray}, acc.Pairwise (fun a b => sLt a b = true) → (l.foldl insS acc).Pairwise (fun a b => sLt a b = true)
  | [], acc, h => h
  | p :: l, acc, h => foldS_sorted (l := l) (insS_sorted h)
theorem foldS_len : ∀ {l acc : List ByteArray}, (l.foldl insS acc).length ≤ l.length + acc.length
  | [], acc => by simp
  | p :: l, acc => by
    have h1 := foldS_len (l := l) (acc := insS acc p)
    have h2 := insS_len (p := p) (xs := acc)
    simp only [List.foldl_cons, List.length_cons]; omega
/-! The program's: a list without repeats, sorted. -/
theorem dd_mem {y : ByteArray} : ∀ {l acc : List ByteArray}, y ∈ l.foldl dd acc ↔ y ∈ l ∨ y ∈ acc
  | [], acc => by simp
  | p :: l, acc => by
    rw [List.foldl_cons, dd_mem, List.mem_cons]
    unfold dd
    split
    · rename_i h
      have h := inL_iff.1 h
      constructor
      · grind
      · rintro ((rfl | h') | h') <;> grind
    · simp; grind
theorem dd_nodup : ∀ {l acc : List ByteArray}, acc.Nodup → (l.foldl dd acc).Nodup
  | [], acc, h => h
  | p :: l, acc, h => by
    rw [List.foldl_cons]
    refine dd_nodup ?_
    unfold dd
    split
    · exact h
    · rename_i h1
      rw [List.nodup_append]
      refine ⟨h, by simp, ?_⟩
      intro a ha b hb
      simp at hb
      rintro rfl
      subst hb
      exact h1 (inL_iff.2 ha)
theorem srtS_mem {y : ByteArray} {xs : List ByteArray} : y ∈ srtS xs ↔ y ∈ xs := by
  unfold srtS
  rw [List.mem_map]
  constructor
  · rintro ⟨l, hl, rfl⟩
    rw [List.mem_mergeSort, List.mem_map] at hl
    obtain ⟨b, hb, rfl⟩ := hl
    have : (⟨b.data.toList.toArray⟩ : ByteArray) = b := ba_ext (by simp)
    rw [this]; exact hb
  · intro h
    exact ⟨y.data.toList, by rw [List.mem_mergeSort, List.mem_map]; exact ⟨y, h, rfl⟩, ba_ext (by simp)⟩
theorem srtS_sorted {xs : List ByteArray} (h : xs.Nodup) : (srtS xs).Pairwise (fun a b => sLt a b = true) := by
  unfold srtS
  rw [List.pairwise_map]
  have h1 : ((xs.map fun b : ByteArray => b.data.toList).mergeSort fun x y => decide (x ≤ y)).Pairwise (fun a b => decide (a ≤ b) = true) :=
    List.pairwise_mergeSort (fun a b c => by simp only [decide_eq_true_iff]; exact List.le_trans) (fun a b => by simp only [Bool.or_eq_true, decide_eq_true_iff]; exact List.le_total a b) _
  have h2 : ((xs.map fun b : ByteArray => b.data.toList).mergeSort fun x y => decide (x ≤ y)).Nodup := by
    rw [(List.mergeSort_perm _ _).nodup_iff]
    unfold List.Nodup
    rw [List.pairwise_map]
    exact h.imp fun hne e => hne (ba_ext e)
  refine (h1.and h2).imp ?_
  rintro a b ⟨h3, h4⟩
  rw [sLt_iff]
  rcases (List.le_iff_lt_or_eq.1 (of_decide_eq_true h3)) with e | e
  · simpa using e
  · exact absurd e h4
/-- The places of a network. -/
def placesV (n : YNetwork) : List ByteArray := (namesOf n).foldl insS []
theorem impl_places {n : YNetwork} (h : NetFit n) : m_impl_PlacesOf n = some (placesV n) := by
  unfold m_impl_PlacesOf
  rw [if_pos ⟨h.legs, List.all_eq_true.2 fun l hl => decide_eq_true (by have := h.leg l hl; unfold legFit B60 at this; unfold maxLen; omega)⟩]
  congr 1
  exact sorted_eq (r := fun a b => sLt a b = true) sLt_irr sLt_as (srtS_sorted (dd_nodup List.nodup_nil)) (foldS_sorted List.Pairwise.nil) fun x => by
    rw [srtS_mem, dd_mem]; unfold placesV; rw [foldS_mem]
/-- A loop that counts as_ long as_ a test holds. -/
theorem iter_tw {α : Type} {xs : List α} {p : α → Bool} {body : Int → Option (Int ⊕ Int)} (h1 : ∀ i (hi : i < xs.length), body (i : Int) = some (if p xs[i] = true then .inl ((i + 1 : Nat) : Int) else .inr (i : Int))) (h2 : body (xs.length : Int) = some (.inr (xs.length : Int))) (hN : xs.length < NN) :
    iterF body NN 0 = some ((xs.takeWhile p).length : Int) := by
  have key : ∀ (ys : List α) (i N : Nat), xs.drop i = ys → i ≤ xs.length → ys.length < N → iterF body N (i : Int) = some ((i + (ys.takeWhile p).length : Nat) : Int) := by
    intro ys
    induction ys with
    | nil =>
      intro i N hd hi hN
      cases N with
      | zero => omega
      | succ N =>
        have : i = xs.length := by have := congrArg List.length hd; simp at this; omega
        subst this
        simp only [iterF, h2]
        rfl
    | cons y ys ih =>
      intro i N hd hi hN
      cases N with
      | zero => simp at hN
      | succ N =>
        have hy : xs[i]? = some y := by
          have := congrArg (fun l => l[0]?) hd
          simpa using this
        have hlt : i < xs.length := (List.getElem?_eq_some_iff.1 hy).1
        have hyv : xs[i] = y := (List.getElem?_eq_some_iff.1 hy).2
        have hd' : xs.drop (i + 1) = ys := by
          have := congrArg (List.drop 1) hd
          simpa [List.drop_drop] using this
        simp only [iterF, h1 i hlt, hyv]
        cases hp : p y with
        | true =>
          simp only [if_true]
          have := ih (i + 1) N hd' hlt (by simp at hN; omega)
          refine this.trans ?_
          rw [List.takeWhile_cons_of_pos hp]
          congr 2
          simp; omega
        | false =>
          simp only [Bool.false_eq_true, if_false]
          rw [List.takeWhile_cons_of_neg (by simp [hp])]
          rfl
  simpa using key xs 0 NN rfl (Nat.zero_le _) hN
theorem insS_eq (p : ByteArray) : ∀ (xs : List ByteArray), insS xs p =
    if xs[(xs.takeWhile fun x => sLt x p).length]? = some p then xs else xs.take (xs.takeWhile fun x => sLt x p).length ++ [p] ++ xs.drop (xs.takeWhile fun x => sLt x p).length
  | [] => by simp [insS]
  | x :: xs => by
    unfold insS
    cases h : sLt x p with
    | true =>
      simp only [if_true]
      rw [List.takeWhile_cons_of_pos (by exact h), insS_eq p xs]
      simp only [List.length_cons, List.getElem?_cons_succ, List.take_succ_cons, List.drop_succ_cons]
      split <;> simp
    | false =>
      rw [List.takeWhile_cons_of_neg (by simp [h])]
      simp only [List.length_nil, List.getElem?_cons_zero, List.take_zero, List.drop_zero, Option.some.injEq, Bool.false_eq_true, if_false]
      split <;> simp
/-- One round of the reference's loop. -/
theorem spec_ins {out : List ByteArray} {p : ByteArray} {i' : Int} (hl : out.length ≤ 4194304) :
    (cond (decide (((out.takeWhile fun x => sLt x p).length : Int) = (out.length : Int)))
     ((chk (slOk 0 ((out.takeWhile fun x => sLt x p).length : Int) out.length)).bind fun _ =>
     (chk (appOk ((([] : List ByteArray) : List ByteArray).length + ((subL out 0 ((out.takeWhile fun x => sLt x p).length : Int)) : List ByteArray).length) 16)).bind fun _ =>
     (chk (appOk ((((([] : List ByteArray) : List ByteArray) ++ (subL out 0 ((out.takeWhile fun x => sLt x p).length : Int))) : List ByteArray).length + ([p] : List ByteArray).length) 16)).bind fun _ =>
     (chk (slOk ((out.takeWhile fun x => sLt x p).length : Int) (out.length : Int) out.length)).bind fun _ =>
     (chk (appOk ((((((([] : List ByteArray) : List ByteArray) ++ (subL out 0 ((out.takeWhile fun x => sLt x p).length : Int))) : List ByteArray) ++ [p]) : List ByteArray).length + ((subL out ((out.takeWhile fun x => sLt x p).length : Int) (out.length : Int)) : List ByteArray).length) 16)).bind fun _ =>
     (some (.inl (i', ((((((([] : List ByteArray) : List ByteArray) ++ (subL out 0 ((out.takeWhile fun x => sLt x p).length : Int))) : List ByteArray) ++ [p]) : List ByteArray) ++ (subL out ((out.takeWhile fun x => sLt x p).length : Int) (out.length : Int))))) : Option ((Int × List ByteArray) ⊕ List ByteArray)))
     ((getI out ((out.takeWhile fun x => sLt x p).length : Int)).bind fun y4 =>
     cond (!decide (y4 = p))
     ((chk (slOk 0 ((out.takeWhile fun x => sLt x p).length : Int) out.length)).bind fun _ =>
     (chk (appOk ((([] : List ByteArray) : List ByteArray).length + ((subL out 0 ((out.takeWhile fun x => sLt x p).length : Int)) : List ByteArray).length) 16)).bind fun _ =>
     (chk (appOk ((((([] : List ByteArray) : List ByteArray) ++ (subL out 0 ((out.takeWhile fun x => sLt x p).length : Int))) : List ByteArray).length + ([p] : List ByteArray).length) 16)).bind fun _ =>
     (chk (slOk ((out.takeWhile fun x => sLt x p).length : Int) (out.length : Int) out.length)).bind fun _ =>
     (chk (appOk ((((((([] : List ByteArray) : List ByteArray) ++ (subL out 0 ((out.takeWhile fun x => sLt x p).length : Int))) : List ByteArray) ++ [p]) : List ByteArray).length + ((subL out ((out.takeWhile fun x => sLt x p).length : Int) (out.length : Int)) : List ByteArray).length) 16)).bind fun _ =>
     some (.inl (i', ((((((([] : List ByteArray) : List ByteArray) ++ (subL out 0 ((out.takeWhile fun x => sLt x p).length : Int))) : List ByteArray) ++ [p]) : List ByteArray) ++ (subL out ((out.takeWhile fun x => sLt x p).length : Int) (out.length : Int))))))
     (some (.inl (i', out))))) = some (.inl (i', insS out p)) := by
  have hk : (out.takeWhile fun x => sLt x p).length ≤ out.length := (List.takeWhile_sublist _).length_le
  rw [insS_eq]
  generalize hkk : (out.takeWhile fun x => sLt x p).length = k at *
  have e1 : subL out 0 (k : Int) = out.take k := by simp [subL]
  have e2 : subL out (k : Int) (out.length : Int) = out.drop k := by
    unfold subL
    rw [Int.toNat_natCast, Int.toNat_natCast, List.take_of_length_le (by simp)]
  have c1 : chk (slOk 0 (k : Int) out.length) = some () := chk_t (by unfold slOk; rw [decide_eq_true_iff]; omega)
  have c2 : chk (slOk (k : Int) (out.length : Int) out.length) = some () := chk_t (by unfold slOk; rw [decide_eq_true_iff]; omega)
  have ap : ∀ n : Nat, n ≤ 8388608 → chk (appOk n 16) = some () := fun n hn => chk_t (by unfold appOk; rw [decide_eq_true_iff]; omega)
  simp only [e1, e2, c1, c2, Option.bind_some, List.nil_append]
  rw [ap _ (by simp; omega), ap _ (by simp; omega), ap _ (by simp; omega)]
  simp only [Option.bind_some]
  by_cases hke : (k : Int) = out.length
  · have hke' : k = out.length := by omega
    rw [decide_eq_true hke, cond_true, if_neg (by rw [hke']; simp)]
  · rw [decide_eq_false hke, cond_false, getI_nat]
    have hlt : k < out.length := by omega
    rw [List.getElem?_eq_getElem hlt]
    simp only [Option.bind_some]
    by_cases he : out[k] = p
    · rw [decide_eq_true he, if_pos (by rw [he])]; rfl
    · rw [decide_eq_false he, if_neg (by simpa using he)]; rfl
theorem names_get {n : YNetwork} {i : Nat} (h : i < n.legs.length) : (namesOf n)[2 * i]? = some n.legs[i].from_ ∧ (namesOf n)[2 * i + 1]? = some n.legs[i].to_ := by
  unfold namesOf
  have key : ∀ (l : List YLeg) (i : Nat) (h : i < l.length), (l.flatMap fun x => [x.from_, x.to_])[2 * i]? = some l[i].from_ ∧ (l.flatMap fun x => [x.from_, x.to_])[2 * i + 1]? = some l[i].to_ := by
    intro l
    induction l with
    | nil => intro i h; simp at h
    | cons a l ih =>
      intro i h
      cases i with
      | zero => simp [List.flatMap_cons]
      | succ i =>
        have := ih i (by simpa using h)
        simp only [List.flatMap_cons, List.getElem_cons_succ]
        rw [show 2 * (i + 1) = 2 * i + 2 by omega, show 2 * i + 2 + 1 = 2 * i + 1 + 2 by omega]
        simpa using this
  exact key n.legs i h
theorem names_len (n : YNetwork) : (namesOf n).length = 2 * n.legs.length := by
  unfold namesOf
  induction n.legs with
  | nil => rfl
  | cons a l ih => simp only [List.flatMap_cons, List.length_append, ih, List.length_cons, List.length_nil]; omega
theorem twL {out : List ByteArray} {p : ByteArray} (hl : out.length ≤ 4194304) {body : Int → Option (Int ⊕ Int)} (hb : ∀ i : Int, body i = cond (decide (i < (out.length : Int))) ((getI out i).bind fun y => cond (sLt y p) (some (.inl (w64 (i + 1)))) (some (.inr i))) (some (.inr i))) :
    iterF body NN 0 = some ((out.takeWhile fun x => sLt x p).length : Int) := by
  refine iter_tw (fun i hi => ?_) ?_ (by unfold NN; omega)
  · have hw := w64_nat hi (by omega)
    have hg : getI out (i : Int) = some out[i] := by rw [getI_nat]; exact List.getElem?_eq_getElem hi
    rw [hb, decide_eq_true (show (i : Int) < out.length by omega), cond_true, hg]
    simp only [Option.bind_some, hw]
    cases sLt out[i] p <;> rfl
  · rw [hb, decide_eq_false (by omega)]; rfl
theorem spec_round {n : YNetwork} (h : n.legs.length ≤ 1048576) {i : Nat} {p : ByteArray} (hp : (namesOf n)[i]? = some p) {out : List ByteArray} (ho : out.length ≤ 4194304) :
    m_spec_PlacesOf_b0 n ((i : Int), out) = some (.inl (((i + 1 : Nat) : Int), insS out p)) := by
  have hi : i < 2 * n.legs.length := by rw [← names_len]; exact (List.getElem?_eq_some_iff.1 hp).1
  have hw2 : w64 (2 * (n.legs.length : Int)) = 2 * n.legs.length := w64_in (by omega)
  have hdiv : IntKind.i64.wrap (Int.tdiv (i : Int) 2) = ((i / 2 : Nat) : Int) := by
    rw [show Int.tdiv (i : Int) 2 = ((i / 2 : Nat) : Int) from rfl]
    exact w64_in (by omega)
  have hmod : Int.tmod (i : Int) 2 = ((i % 2 : Nat) : Int) := rfl
  have hw : w64 ((i : Int) + 1) = ((i + 1 : Nat) : Int) := w64_nat hi (by omega)
  have hlt : i / 2 < n.legs.length := by omega
  have hg : getI n.legs ((i / 2 : Nat) : Int) = some n.legs[i / 2] := by rw [getI_nat]; exact List.getElem?_eq_getElem hlt
  obtain ⟨n1, n2⟩ := names_get hlt
  unfold m_spec_PlacesOf_b0
  simp only [hw2, hdiv, hmod, hw, hg, Option.bind_some]
  rw [decide_eq_true (show (i : Int) < 2 * (n.legs.length : Int) by omega), cond_true]
  rcases Nat.mod_two_eq_zero_or_one i with hm | hm
  · rw [hm, decide_eq_false (show ¬ ((0 : Nat) : Int) = 1 by omega), cond_false]
    have hp' : p = n.legs[i / 2].from_ := by
      rw [show i = 2 * (i / 2) by omega, n1] at hp
      exact (Option.some.inj hp).symm
    rw [← hp']
    rw [twL ho (body := m_spec_PlacesOf_b2 n ((i : Int), out) n.legs[i / 2]) (p := p) (fun j => by rw [hp']; rfl)]
    exact spec_ins ho
  · rw [hm, decide_eq_true (show ((1 : Nat) : Int) = 1 by omega), cond_true]
    have hp' : p = n.legs[i / 2].to_ := by
      rw [show i = 2 * (i / 2) + 1 by omega] at hp
      rw [n2] at hp
      exact (Option.some.inj hp).symm
    rw [← hp']
    rw [twL ho (body := m_spec_PlacesOf_b1 n ((i : Int), out) n.legs[i / 2]) (p := p) (fun j => by rw [hp']; rfl)]
    exact spec_ins ho
theorem spec_places {n : YNetwork} (h : n.legs.length ≤ 1048576) : m_spec_PlacesOf n = some (placesV n) := by
  have key : ∀ (ps : List ByteArray) (i N : Nat) (out : List ByteArray), (namesOf n).drop i = ps → i ≤ (namesOf n).length → ps.length < N → out.length ≤ i → iterF (m_spec_PlacesOf_b0 n) N ((i : Int), out) = some (ps.foldl insS out) := by
    have hnl := names_len n
    intro ps
    induction ps with
    | nil =>
      intro i N out hd hi hN ho
      cases N with
      | zero => omega
      | succ N =>
        have : i = (namesOf n).length := by have := congrArg List.length hd; simp at this; omega
        subst this
        have hw2 : w64 (2 * (n.legs.length : Int)) = 2 * n.legs.length := w64_in (by omega)
        simp only [iterF, m_spec_PlacesOf_b0, hw2]
        rw [decide_eq_false (by rw [hnl]; omega)]
        rfl
    | cons p ps ih =>
      intro i N out hd hi hN ho
      cases N with
      | zero => simp at hN
      | succ N =>
        have hp : (namesOf n)[i]? = some p := by
          have := congrArg (fun l => l[0]?) hd
          simpa using this
        have hlt := (List.getElem?_eq_some_iff.1 hp).1
        have hd' : (namesOf n).drop (i + 1) = ps := by
          have := congrArg (List.drop 1) hd
          simpa [List.drop_drop] using this
        simp only [iterF, spec_round h hp (show out.length ≤ 4194304 by omega)]
        exact ih (i + 1) N (insS out p) hd' hlt (by simp at hN; omega) (by have := insS_len (p := p) (xs := out); omega)
  have hnl := names_len n
  unfold m_spec_PlacesOf
  rw [show ((0 : Int)) = ((0 : Nat) : Int) from rfl, key (namesOf n) 0 NN [] rfl (Nat.zero_le _) (by unfold NN; omega) (by simp)]
  rfl
theorem places_eq {n : YNetwork} (h : NetFit n) : m_impl_PlacesOf n = m_spec_PlacesOf n ∧ m_spec_PlacesOf n = some (placesV n) := ⟨(impl_places h).trans (spec_places h.legs).symm, spec_places h.legs⟩
theorem placesV_len (n : YNetwork) : (placesV n).length ≤ 2 * n.legs.length := by
  have := foldS_len (l := namesOf n) (acc := [])
  rw [names_len] at this
  simpa [placesV] using this
end Go.Proofs.YtjkpcfbmmkmoaaaGreat

/- The mirror of impl_isState, and that the code does just that (printed by a program of my own). -/
namespace Go.Proofs.YtjkpcfbmmkmoaaaGreat
set_option maxRecDepth 10000
open Go.RowKit
set_option linter.unusedVariables false
set_option maxHeartbeats 16000000
def m_impl_isState (w : YWorld) (o : YOrder) : Option Bool :=
 cond (decide (0 < o.gone))
 ((getI o.way (w64 (o.gone - 1))).bind fun y1 =>
 (m_impl_ends w.network y1).bind fun y2 =>
 cond (decide (w.now < y2))
 (some false)
 ((getI w.network.legs y1.leg).bind fun y3 =>
 cond (decide (o.state = 1))
 (cond (decide (o.place = y3.to_))
 (cond (!decide (y3.to_ = o.to_))
 (cond (decide (o.ended = 0))
 (cond (decide (o.gone = (o.way.length : Int)))
 (some true)
 ((getI o.way o.gone).bind fun y4 =>
 (m_impl_starts w.network y4).bind fun y5 =>
 some (decide (w.now < y5))))
 (some false))
 (some false))
 (some false))
 (cond (decide (o.state = 2))
 (cond (decide (o.place = ⟨#[]⟩))
 (cond (decide (o.ended = 0))
 (cond (decide (o.gone < (o.way.length : Int)))
 ((getI o.way o.gone).bind fun y6 =>
 (m_impl_starts w.network y6).bind fun y7 =>
 cond (decide (y7 ≤ w.now))
 ((getI o.way o.gone).bind fun y8 =>
 (m_impl_ends w.network y8).bind fun y9 =>
 some (decide (w.now < y9)))
 (some false))
 (some false))
 (some false))
 (some false))
 (cond (decide (o.state = 3))
 (cond (decide (o.gone = (o.way.length : Int)))
 (cond (decide (0 < o.gone))
 (cond (decide (o.place = o.to_))
 (cond (decide (y3.to_ = o.to_))
 ((getI o.way (w64 (o.gone - 1))).bind fun y10 =>
 (m_impl_ends w.network y10).bind fun y11 =>
 some (decide (o.ended = y11)))
 (some false))
 (some false))
 (some false))
 (some false))
 (some false)))))
 (cond (decide (o.state = 1))
 (cond (decide (o.place = o.from_))
 (cond (!decide (o.from_ = o.to_))
 (cond (decide (o.ended = 0))
 (cond (decide (o.gone = (o.way.length : Int)))
 (some true)
 ((getI o.way o.gone).bind fun y12 =>
 (m_impl_starts w.network y12).bind fun y13 =>
 some (decide (w.now < y13))))
 (some false))
 (some false))
 (some false))
 (cond (decide (o.state = 2))
 (cond (decide (o.place = ⟨#[]⟩))
 (cond (decide (o.ended = 0))
 (cond (decide (o.gone < (o.way.length : Int)))
 ((getI o.way o.gone).bind fun y14 =>
 (m_impl_starts w.network y14).bind fun y15 =>
 cond (decide (y15 ≤ w.now))
 ((getI o.way o.gone).bind fun y16 =>
 (m_impl_ends w.network y16).bind fun y17 =>
 some (decide (w.now < y17)))
 (some false))
 (some false))
 (some false))
 (some false))
 (cond (decide (o.state = 3))
 (cond (decide (o.gone = (o.way.length : Int)))
 (cond (decide (0 < o.gone))
 (cond (decide (o.place = o.to_))
 (cond (decide (o.from_ = o.to_))
 ((getI o.way (w64 (o.gone - 1))).bind fun y18 =>
 (m_impl_ends w.network y18).bind fun y19 =>
 some (decide (o.ended = y19)))
 (some false))
 (some false))
 (some false))
 (some false))
 (some false))))
theorem ok_impl_isState (w : YWorld) (o : YOrder) {r : Bool} (H : m_impl_isState w o = some r) : CallM Tryz.prog 205 [.ag (cWorld w), .ag (cOrder o)] [] (vb r) [] := by
  replace H := H0 H
  unfold m_impl_isState at H
  refine callM_of Tryz.func205 rfl Tryz.ntmps205 Tryz.results205 fun Q hQ hQn => ?_
  exact wk
instance (w : YWorld) (o : YOrder) : CT Tryz.prog (m_impl_isState w o) := ⟨205, [.ag (cWorld w), .ag (cOrder o)], [], fun r => vb r, fun r => [], ok_impl_isState w o⟩
end Go.Proofs.YtjkpcfbmmkmoaaaGreat

/- The mirror of spec_l10State, and that the code does just that (printed by a program of my own). -/
namespace Go.Proofs.YtjkpcfbmmkmoaaaGreat
set_option maxRecDepth 10000
open Go.RowKit
set_option linter.unusedVariables false
set_option maxHeartbeats 16000000
def m_spec_l10State (n : YNetwork) (x : YOrder) (now : Int) : Option Bool :=
 cond (decide (0 < x.gone))
 ((getI x.way (w64 (x.gone - 1))).bind fun y1 =>
 (getI n.legs y1.leg).bind fun y2 =>
 (getI x.way (w64 (x.gone - 1))).bind fun y3 =>
 (m_spec_l3Ends n y3).bind fun y4 =>
 cond (decide (now < y4))
 (some false)
 (cond (decide (x.state = 1))
 (cond (decide (x.place = y2.to_))
 (cond (!decide (y2.to_ = x.to_))
 (cond (decide (x.ended = 0))
 (cond (decide (x.gone = (x.way.length : Int)))
 (some true)
 ((getI x.way x.gone).bind fun y5 =>
 (m_spec_l3Starts n y5).bind fun y6 =>
 some (decide (now < y6))))
 (some false))
 (some false))
 (some false))
 (cond (decide (x.state = 2))
 (cond (decide (x.place = ⟨#[]⟩))
 (cond (decide (x.ended = 0))
 (cond (decide (x.gone < (x.way.length : Int)))
 ((getI x.way x.gone).bind fun y7 =>
 (m_spec_l3Starts n y7).bind fun y8 =>
 cond (decide (y8 ≤ now))
 ((getI x.way x.gone).bind fun y9 =>
 (m_spec_l3Ends n y9).bind fun y10 =>
 some (decide (now < y10)))
 (some false))
 (some false))
 (some false))
 (some false))
 (cond (decide (x.state = 3))
 (cond (decide (x.place = x.to_))
 (cond (decide (y2.to_ = x.to_))
 (cond (decide (x.gone = (x.way.length : Int)))
 (cond (decide (0 < x.gone))
 ((getI x.way (w64 (x.gone - 1))).bind fun y11 =>
 (m_spec_l3Ends n y11).bind fun y12 =>
 some (decide (x.ended = y12)))
 (some false))
 (some false))
 (some false))
 (some false))
 (some false)))))
 (cond (decide (x.state = 1))
 (cond (decide (x.place = x.from_))
 (cond (!decide (x.from_ = x.to_))
 (cond (decide (x.ended = 0))
 (cond (decide (x.gone = (x.way.length : Int)))
 (some true)
 ((getI x.way x.gone).bind fun y13 =>
 (m_spec_l3Starts n y13).bind fun y14 =>
 some (decide (now < y14))))
 (some false))
 (some false))
 (some false))
 (cond (decide (x.state = 2))
 (cond (decide (x.place = ⟨#[]⟩))
 (cond (decide (x.ended = 0))
 (cond (decide (x.gone < (x.way.length : Int)))
 ((getI x.way x.gone).bind fun y15 =>
 (m_spec_l3Starts n y15).bind fun y16 =>
 cond (decide (y16 ≤ now))
 ((getI x.way x.gone).bind fun y17 =>
 (m_spec_l3Ends n y17).bind fun y18 =>
 some (decide (now < y18)))
 (some false))
 (some false))
 (some false))
 (some false))
 (cond (decide (x.state = 3))
 (cond (decide (x.place = x.to_))
 (cond (decide (x.from_ = x.to_))
 (cond (decide (x.gone = (x.way.length : Int)))
 (cond (decide (0 < x.gone))
 ((getI x.way (w64 (x.gone - 1))).bind fun y19 =>
 (m_spec_l3Ends n y19).bind fun y20 =>
 some (decide (x.ended = y20)))
 (some false))
 (some false))
 (some false))
 (some false))
 (some false))))
theorem ok_spec_l10State (n : YNetwork) (x : YOrder) (now : Int) {r : Bool} (H : m_spec_l10State n x now = some r) : CallM Tryz.prog 188 [.ag (cNetwork n), .ag (cOrder x), vi now] [] (vb r) [] := by
  replace H := H0 H
  unfold m_spec_l10State at H
  refine callM_of Tryz.func188 rfl Tryz.ntmps188 Tryz.results188 fun Q hQ hQn => ?_
  exact wk
instance (n : YNetwork) (x : YOrder) (now : Int) : CT Tryz.prog (m_spec_l10State n x now) := ⟨188, [.ag (cNetwork n), .ag (cOrder x), vi now], [], fun r => vb r, fun r => [], ok_spec_l10State n x now⟩
end Go.Proofs.YtjkpcfbmmkmoaaaGreat

/- The mirror of impl_placeAt, and that the code does just that (printed by a program of my own). -/
namespace Go.Proofs.YtjkpcfbmmkmoaaaGreat
set_option maxRecDepth 10000
open Go.RowKit
set_option linter.unusedVariables false
set_option maxHeartbeats 16000000
def m_impl_placeAt_b0 (places : List ByteArray) (s : ByteArray) (s0 : Int) : Option (Int ⊕ (Unit ⊕ Int)) :=
 cond (decide (s0 < (places.length : Int)))
 ((getI places s0).bind fun y1 =>
 cond (decide (y1 = s))
 (some (.inr (.inr s0)))
 (some (.inl (w64 (s0 + 1)))))
 (some (.inr (.inl ())))
instance (places : List ByteArray) (s : ByteArray) : LoopE (m_impl_placeAt_b0 places s) := ⟨fun s0 => [.un, vs s, .un, .un, .un, .un, .un, .sl (places.map cStr), vi (places.length : Int), vi s0, .un, .un, .un, .un, .un, .un, .un, .un, .un], fun s0 => []⟩
def m_impl_placeAt (places : List ByteArray) (s : ByteArray) : Option Int :=
 (iterF (m_impl_placeAt_b0 places s) NN 0).bind (selim (fun o0 =>
 some (-1)) (fun r => some r))
theorem ok_impl_placeAt (places : List ByteArray) (s : ByteArray) {r : Int} (H : m_impl_placeAt places s = some r) : CallM Tryz.prog 200 [.sl (places.map cStr), vs s] [] (vi r) [] := by
  replace H := H0 H
  unfold m_impl_placeAt at H
  refine callM_of Tryz.func200 rfl Tryz.ntmps200 Tryz.results200 fun Q hQ hQn => ?_
  exact wk
instance (places : List ByteArray) (s : ByteArray) : CT Tryz.prog (m_impl_placeAt places s) := ⟨200, [.sl (places.map cStr), vs s], [], fun r => vi r, fun r => [], ok_impl_placeAt places s⟩
end Go.Proofs.YtjkpcfbmmkmoaaaGreat

/- The mirror of spec_l4Index, and that the code does just that (printed by a program of my own). -/
namespace Go.Proofs.YtjkpcfbmmkmoaaaGreat
set_option maxRecDepth 10000
open Go.RowKit
set_option linter.unusedVariables false
set_option maxHeartbeats 16000000
def m_spec_l4Index_b0 (l : List ByteArray) (p : ByteArray) (s0 : Int) : Option (Int ⊕ (Unit ⊕ Int)) :=
 cond (decide (s0 < (l.length : Int)))
 ((getI l s0).bind fun y1 =>
 cond (decide (y1 = p))
 (some (.inr (.inr s0)))
 (some (.inl (w64 (s0 + 1)))))
 (some (.inr (.inl ())))
instance (l : List ByteArray) (p : ByteArray) : LoopE (m_spec_l4Index_b0 l p) := ⟨fun s0 => [.sl (l.map cStr), vs p, .un, .un, .un, vi s0, .un, .un, .un, .un, .un, .un, .un, .un, .un, .un, .un, .un, .un], fun s0 => []⟩
def m_spec_l4Index (l : List ByteArray) (p : ByteArray) : Option Int :=
 (iterF (m_spec_l4Index_b0 l p) NN 0).bind (selim (fun o0 =>
 some (-1)) (fun r => some r))
theorem ok_spec_l4Index (l : List ByteArray) (p : ByteArray) {r : Int} (H : m_spec_l4Index l p = some r) : CallM Tryz.prog 183 [.sl (l.map cStr), vs p] [] (vi r) [] := by
  replace H := H0 H
  unfold m_spec_l4Index at H
  refine callM_of Tryz.func183 rfl Tryz.ntmps183 Tryz.results183 fun Q hQ hQn => ?_
  exact wk
instance (l : List ByteArray) (p : ByteArray) : CT Tryz.prog (m_spec_l4Index l p) := ⟨183, [.sl (l.map cStr), vs p], [], fun r => vi r, fun r => [], ok_spec_l4Index l p⟩
end Go.Proofs.YtjkpcfbmmkmoaaaGreat

/- The two sides' functions on an order's state answer alike. -/
namespace Go.Proofs.YtjkpcfbmmkmoaaaGreat
set_option maxRecDepth 10000
open Go.RowKit
set_option linter.unusedVariables false
set_option linter.unusedSimpArgs false
theorem placeAt_eq : @m_impl_placeAt = @m_spec_l4Index := rfl
theorem ends_none {n : YNetwork} {t : YTrip} (h : getI n.legs t.leg = none) : m_spec_l3Ends n t = none := by
  unfold m_spec_l3Ends m_spec_l3Starts; rw [h]; rfl
theorem ends_some {n : YNetwork} {t : YTrip} {y : YLeg} (h : getI n.legs t.leg = some y) : ∃ v, m_spec_l3Ends n t = some v := by
  unfold m_spec_l3Ends m_spec_l3Starts; rw [h]; exact ⟨_, rfl⟩
theorem state_eq (w : YWorld) (o : YOrder) : m_impl_isState w o = m_spec_l10State w.network o w.now := by
  unfold m_impl_isState m_spec_l10State
  rw [ends_eq, starts_eq]
  cases decide (0 < o.gone) with
  | false =>
    simp only [cond_false]
    cases decide (o.state = 1) <;> cases decide (o.state = 2) <;> cases decide (o.state = 3) <;> try rfl
    all_goals cases decide (o.gone = (o.way.length : Int)) <;> cases decide (o.place = o.to_) <;> cases decide (o.from_ = o.to_) <;> rfl
  | true =>
    simp only [cond_true]
    cases hg : getI o.way (w64 (o.gone - 1)) with
    | none => rfl
    | some y1 =>
      simp only [Option.bind_some, hg]
      cases hl : getI w.network.legs y1.leg with
      | none => rw [ends_none hl]; rfl
      | some y2 =>
        obtain ⟨v, hv⟩ := ends_some hl
        simp only [hv, Option.bind_some]
        cases decide (w.now < v) <;> try rfl
        simp only [cond_false]
        cases decide (o.state = 1) <;> cases decide (o.state = 2) <;> cases decide (o.state = 3) <;> try rfl
        all_goals cases decide (o.gone = (o.way.length : Int)) <;> cases decide (o.place = o.to_) <;> cases decide (y2.to_ = o.to_) <;> rfl
end Go.Proofs.YtjkpcfbmmkmoaaaGreat

/- The mirror of impl_hasBooking, and that the code does just that (printed by a program of my own). -/
namespace Go.Proofs.YtjkpcfbmmkmoaaaGreat
set_option maxRecDepth 10000
open Go.RowKit
set_option linter.unusedVariables false
set_option maxHeartbeats 16000000
def m_impl_hasBooking_b0 (w : YWorld) (id : Int) (t : YTrip) (s0 : Int) : Option (Int ⊕ (Unit ⊕ Bool)) :=
 cond (decide (s0 < (w.bookings.length : Int)))
 ((getI w.bookings s0).bind fun y1 =>
 cond (decide (y1.thing = id))
 (cond (decide (y1.trip = t))
 ((getI w.orders (w64 (id - 1))).bind fun y2 =>
 some (.inr (.inr (decide (y1.weight = y2.weight)))))
 (some (.inl (w64 (s0 + 1)))))
 (some (.inl (w64 (s0 + 1)))))
 (some (.inr (.inl ())))
instance (w : YWorld) (id : Int) (t : YTrip) : LoopE (m_impl_hasBooking_b0 w id t) := ⟨fun s0 => [.un, vi id, .un, .be 0 0 0, .un, .be 1 0 0, .un, .un, .un, .un, .sl (w.bookings.map cBooking), vi (w.bookings.length : Int), vi s0, .un, .un, .un, .un, .un, .un, .un, .un, .un, .un, .un, .un, .un, .un, .un, .un, .un, .un, .un, .un, .un, .un, .un, .un], fun s0 => [some ⟨49, 10, [[.sl (w.network.legs.map cLeg), .sl (w.network.off.map cInt), vi w.network.change, .sl (w.orders.map cOrder), .sl (w.bookings.map cBooking), .sl (w.closed.map cTrip), vi w.now, .sl (w.scans.map cScan), .sl (w.skip.map cInt), vi w.made]]⟩, some ⟨102, 2, [[vi t.leg, vi t.day]]⟩]⟩
def m_impl_hasBooking (w : YWorld) (id : Int) (t : YTrip) : Option Bool :=
 (iterF (m_impl_hasBooking_b0 w id t) NN 0).bind (selim (fun o0 =>
 some false) (fun r => some r))
theorem ok_impl_hasBooking (w : YWorld) (id : Int) (t : YTrip) {r : Bool} (H : m_impl_hasBooking w id t = some r) : CallM Tryz.prog 202 [.ag (cWorld w), vi id, .ag (cTrip t)] [] (vb r) [] := by
  replace H := H0 H
  unfold m_impl_hasBooking at H
  refine callM_of Tryz.func202 rfl Tryz.ntmps202 Tryz.results202 fun Q hQ hQn => ?_
  exact wk
instance (w : YWorld) (id : Int) (t : YTrip) : CT Tryz.prog (m_impl_hasBooking w id t) := ⟨202, [.ag (cWorld w), vi id, .ag (cTrip t)], [], fun r => vb r, fun r => [], ok_impl_hasBooking w id t⟩
end Go.Proofs.YtjkpcfbmmkmoaaaGreat

/- The mirror of spec_l10Booked, and that the code does just that (printed by a program of my own). -/
namespace Go.Proofs.YtjkpcfbmmkmoaaaGreat
set_option maxRecDepth 10000
open Go.RowKit
set_option linter.unusedVariables false
set_option maxHeartbeats 16000000
def m_spec_l10Booked_b0 (l : List YBooking) (thing : Int) (t : YTrip) (weight : Int) (s0 : Int) : Option (Int ⊕ (Unit ⊕ Bool)) :=
 cond (decide (s0 < (l.length : Int)))
 ((getI l s0).bind fun y1 =>
 cond (decide (y1 = (⟨thing, t, weight⟩ : YBooking)))
 (some (.inr (.inr true)))
 (some (.inl (w64 (s0 + 1)))))
 (some (.inr (.inl ())))
instance (l : List YBooking) (thing : Int) (t : YTrip) (weight : Int) : LoopE (m_spec_l10Booked_b0 l thing t weight) := ⟨fun s0 => [.sl (l.map cBooking), vi thing, .un, vi weight, .un, .un, .be 0 0 0, .un, .un, vi s0, .un, .un, .un, .un, .un, .un, .un, .un, .un, .un, .un, .un, .un, .un, .un], fun s0 => [some ⟨102, 2, [[vi t.leg, vi t.day]]⟩]⟩
def m_spec_l10Booked (l : List YBooking) (thing : Int) (t : YTrip) (weight : Int) : Option Bool :=
 (iterF (m_spec_l10Booked_b0 l thing t weight) NN 0).bind (selim (fun o0 =>
 some false) (fun r => some r))
theorem ok_spec_l10Booked (l : List YBooking) (thing : Int) (t : YTrip) (weight : Int) {r : Bool} (H : m_spec_l10Booked l thing t weight = some r) : CallM Tryz.prog 186 [.sl (l.map cBooking), vi thing, .ag (cTrip t), vi weight] [] (vb r) [] := by
  replace H := H0 H
  unfold m_spec_l10Booked at H
  refine callM_of Tryz.func186 rfl Tryz.ntmps186 Tryz.results186 fun Q hQ hQn => ?_
  exact wk
instance (l : List YBooking) (thing : Int) (t : YTrip) (weight : Int) : CT Tryz.prog (m_spec_l10Booked l thing t weight) := ⟨186, [.sl (l.map cBooking), vi thing, .ag (cTrip t), vi weight], [], fun r => vb r, fun r => [], ok_spec_l10Booked l thing t weight⟩
end Go.Proofs.YtjkpcfbmmkmoaaaGreat

/- The mirror of impl_toCome, and that the code does just that (printed by a program of my own). -/
namespace Go.Proofs.YtjkpcfbmmkmoaaaGreat
set_option maxRecDepth 10000
open Go.RowKit
set_option linter.unusedVariables false
set_option maxHeartbeats 16000000
def m_impl_toCome (o : YOrder) : Option Int :=
 cond (decide (o.state = 2))
 (some (if (o.way.length : Int) < (w64 (o.gone + 1)) then (o.way.length : Int) else (w64 (o.gone + 1))))
 (some o.gone)
theorem ok_impl_toCome (o : YOrder) {r : Int} (H : m_impl_toCome o = some r) : CallM Tryz.prog 203 [.ag (cOrder o)] [] (vi r) [] := by
  replace H := H0 H
  unfold m_impl_toCome at H
  refine callM_of Tryz.func203 rfl Tryz.ntmps203 Tryz.results203 fun Q hQ hQn => ?_
  exact wk
instance (o : YOrder) : CT Tryz.prog (m_impl_toCome o) := ⟨203, [.ag (cOrder o)], [], fun r => vi r, fun r => [], ok_impl_toCome o⟩
end Go.Proofs.YtjkpcfbmmkmoaaaGreat

/- The mirror of spec_l10Coming, and that the code does just that (printed by a program of my own). -/
namespace Go.Proofs.YtjkpcfbmmkmoaaaGreat
set_option maxRecDepth 10000
open Go.RowKit
set_option linter.unusedVariables false
set_option maxHeartbeats 16000000
def m_spec_l10Coming (x : YOrder) : Option Int :=
 cond (decide (x.state = 2))
 (some (w64 (x.gone + 1)))
 (some x.gone)
theorem ok_spec_l10Coming (x : YOrder) {r : Int} (H : m_spec_l10Coming x = some r) : CallM Tryz.prog 189 [.ag (cOrder x)] [] (vi r) [] := by
  replace H := H0 H
  unfold m_spec_l10Coming at H
  refine callM_of Tryz.func189 rfl Tryz.ntmps189 Tryz.results189 fun Q hQ hQn => ?_
  exact wk
instance (x : YOrder) : CT Tryz.prog (m_spec_l10Coming x) := ⟨189, [.ag (cOrder x)], [], fun r => vi r, fun r => [], ok_spec_l10Coming x⟩
end Go.Proofs.YtjkpcfbmmkmoaaaGreat

/- The two sides' tests of scans, ways and orders answer alike: parts. -/
namespace Go.Proofs.YtjkpcfbmmkmoaaaGreat
set_option maxRecDepth 10000
open Go.RowKit
set_option linter.unusedVariables false
set_option linter.unusedSimpArgs false
/-- A loop that looks for the first element that passes. -/
theorem iter_fidx {α ο : Type} {xs : List α} {p : α → Bool} {body : Int → Option (Int ⊕ ο)} {f : Nat → ο} {e : ο} (h1 : ∀ i (hi : i < xs.length), body (i : Int) = some (if p xs[i] = true then .inr (f i) else .inl ((i + 1 : Nat) : Int))) (h2 : body (xs.length : Int) = some (.inr e)) (hN : xs.length < NN) :
    iterF body NN 0 = some ((xs.findIdx? p).elim e f) := by
  have key : ∀ (ys : List α) (i N : Nat), xs.drop i = ys → i ≤ xs.length → ys.length < N → iterF body N (i : Int) = some ((ys.findIdx? p).elim e fun k => f (i + k)) := by
    intro ys
    induction ys with
    | nil =>
      intro i N hd hi hN
      cases N with
      | zero => omega
      | succ N =>
        have : i = xs.length := by have := congrArg List.length hd; simp at this; omega
        subst this
        simp only [iterF, h2]
        rfl
    | cons y ys ih =>
      intro i N hd hi hN
      cases N with
      | zero => simp at hN
      | succ N =>
        have hy : xs[i]? = some y := by
          have := congrArg (fun l => l[0]?) hd
          simpa using this
        have hlt : i < xs.length := (List.getElem?_eq_some_iff.1 hy).1
        have hyv : xs[i] = y := (List.getElem?_eq_some_iff.1 hy).2
        have hd' : xs.drop (i + 1) = ys := by
          have := congrArg (List.drop 1) hd
          simpa [List.drop_drop] using this
        simp only [iterF, h1 i hlt, hyv]
        rw [List.findIdx?_cons]
        cases hp : p y with
        | true => simp
        | false =>
          simp only [Bool.false_eq_true, if_false]
          have := ih (i + 1) N hd' hlt (by simp at hN; omega)
          refine this.trans ?_
          cases ys.findIdx? p with
          | none => rfl
          | some k => simp only [Option.map_some, Option.elim_some]; congr 2; omega
  have := key xs 0 NN rfl (Nat.zero_le _) hN
  simpa using this
/-- Where a name stands; -1 if nowhere. -/
def idxV (l : List ByteArray) (p : ByteArray) : Int := (l.findIdx? fun y => decide (y = p)).elim (-1) fun k => (k : Int)
theorem l4Index_v {l : List ByteArray} (h : l.length ≤ 4194304) (p : ByteArray) : m_spec_l4Index l p = some (idxV l p) := by
  unfold m_spec_l4Index
  rw [iter_fidx (xs := l) (p := fun y => decide (y = p)) (f := fun i => .inr (i : Int)) (e := .inl ()) (fun i hi => ?_) (by simp [m_spec_l4Index_b0]) (by unfold NN; omega)]
  · unfold idxV
    cases l.findIdx? fun y => decide (y = p) <;> rfl
  · have hw := w64_nat hi (by omega)
    have hg : getI l (i : Int) = some l[i] := by rw [getI_nat]; exact List.getElem?_eq_getElem hi
    simp only [m_spec_l4Index_b0, decide_eq_true (show (i : Int) < l.length by omega), cond_true, hg, Option.bind_some, hw]
    cases decide (l[i] = p) <;> rfl
/-! Bookings: one for a thing and a trip. -/
def UniqB (l : List YBooking) : Prop := ∀ x ∈ l, ∀ y ∈ l, x.thing = y.thing → x.trip = y.trip → x = y
theorem befB_tr {a b c : YBooking} (h : befB a b = true) (h' : befB b c = true) : befB a c = true := by
  unfold befB at *
  split at h
  · have h1 := of_decide_eq_true h
    split at h'
    · have h2 := of_decide_eq_true h'
      rw [if_pos (by omega)]; exact decide_eq_true (by omega)
    · rename_i h2
      rw [if_pos (by omega)]; exact decide_eq_true (by omega)
  · rename_i h0
    split at h
    · have h1 := of_decide_eq_true h
      split at h'
      · have h2 := of_decide_eq_true h'
        rw [if_pos (by omega)]; exact decide_eq_true (by omega)
      · rename_i h2
        rw [if_neg (by omega)]
        split at h'
        · have h3 := of_decide_eq_true h'
          rw [if_pos (by omega)]; exact decide_eq_true (by omega)
        · rename_i h3
          rw [if_pos (by omega)]; exact decide_eq_true (by omega)
    · rename_i h00
      have h1 := of_decide_eq_true h
      split at h'
      · have h2 := of_decide_eq_true h'
        rw [if_pos (by omega)]; exact decide_eq_true (by omega)
      · rename_i h2
        rw [if_neg (by omega)]
        split at h'
        · have h3 := of_decide_eq_true h'
          rw [if_pos (by omega)]; exact decide_eq_true (by omega)
        · rename_i h3
          have h4 := of_decide_eq_true h'
          rw [if_neg (by omega)]; exact decide_eq_true (by omega)
theorem books_net {n : YNetwork} {l : List YBooking} (h : booksV n l = true) : m_spec_IsNetwork n = some true ∧ l.length ≤ 120 := by
  unfold booksV at h
  simp only [Bool.and_eq_true, decide_eq_true_iff] at h
  refine ⟨?_, by omega⟩
  cases hn : m_spec_IsNetwork n with
  | none => rw [hn] at h; cases h.1.1
  | some b => rw [hn] at h; have := h.1.1; simp at this; rw [this]
theorem books_at {n : YNetwork} {l : List YBooking} (h : booksV n l = true) {i : Nat} (hi : i < l.length) : bk1 n l i = true ∧ bk2 n l i = true := by
  unfold booksV at h
  simp only [Bool.and_eq_true] at h
  have := List.all_eq_true.1 h.2 i (List.mem_range.2 hi)
  simpa only [Bool.and_eq_true] using this
theorem books_lt {n : YNetwork} {l : List YBooking} (h : booksV n l = true) : ∀ (j i : Nat) (hj : j < l.length) (hij : i < j), befB (l[i]'(by omega)) l[j] = true := by
  intro j
  induction j with
  | zero => intro i hj hij; omega
  | succ j ih =>
    intro i hj hij
    have h1 := (books_at h hj).1
    unfold bk1 at h1
    rw [List.getElem?_eq_getElem hj] at h1
    simp only [Nat.add_sub_cancel, List.getElem?_eq_getElem (show j < l.length by omega), Bool.and_eq_true, Bool.or_eq_true, decide_eq_true_iff] at h1
    have h2 : befB l[j] l[j + 1] = true := by
      rcases h1.2 with h3 | h3
      · omega
      · exact h3
    rcases Nat.lt_or_ge i j with h3 | h3
    · exact befB_tr (ih i (by omega) h3) h2
    · have : i = j := by omega
      subst this; exact h2
theorem befB_irr {a b : YBooking} (h1 : a.thing = b.thing) (h2 : a.trip = b.trip) : befB a b = false := by
  unfold befB
  rw [h2, h1]
  simp
theorem books_uniq {n : YNetwork} {l : List YBooking} (h : booksV n l = true) : UniqB l := by
  intro x hx y hy ht htr
  obtain ⟨i, hi, rfl⟩ := List.getElem_of_mem hx
  obtain ⟨j, hj, rfl⟩ := List.getElem_of_mem hy
  rcases Nat.lt_trichotomy i j with h1 | h1 | h1
  · have := books_lt h j i hj h1
    rw [befB_irr ht htr] at this; cases this
  · subst h1; rfl
  · have := books_lt h i j hi h1
    rw [befB_irr ht.symm htr.symm] at this; cases this
def bookedB (l : List YBooking) (thing : Int) (t : YTrip) (wt : Int) : Bool := l.any fun y => decide (y = (⟨thing, t, wt⟩ : YBooking))
theorem booked_v {l : List YBooking} (h : l.length ≤ 1048576) (thing : Int) (t : YTrip) (wt : Int) : m_spec_l10Booked l thing t wt = some (bookedB l thing t wt) := by
  unfold m_spec_l10Booked
  rw [iter_find (xs := l) (p := fun y => decide (y = (⟨thing, t, wt⟩ : YBooking))) (r := .inr true) (e := .inl ()) (fun i hi => ?_) (by simp [m_spec_l10Booked_b0]) (by unfold NN; omega)]
  · unfold bookedB
    cases l.any fun y => decide (y = (⟨thing, t, wt⟩ : YBooking)) <;> rfl
  · have hw := w64_nat hi (by omega)
    have hg : getI l (i : Int) = some l[i] := by rw [getI_nat]; exact List.getElem?_eq_getElem hi
    simp only [m_spec_l10Booked_b0, decide_eq_true (show (i : Int) < l.length by omega), cond_true, hg, Option.bind_some, hw]
    cases decide (l[i] = (⟨thing, t, wt⟩ : YBooking)) <;> rfl
theorem hasBooking_v {w : YWorld} (h : w.bookings.length ≤ 1048576) (hu : UniqB w.bookings) {id : Int} {o : YOrder} (ho : getI w.orders (w64 (id - 1)) = some o) (t : YTrip) : m_impl_hasBooking w id t = some (bookedB w.bookings id t o.weight) := by
  unfold m_impl_hasBooking
  have e : iterF (m_impl_hasBooking_b0 w id t) NN 0 = runL (fun _ (_ : Unit) (x : YBooking) => some (if x.thing = id ∧ x.trip = t then .inr (.inr (decide (x.weight = o.weight))) else .inl ())) (fun _ => some (.inl ())) 0 w.bookings () := by
    refine iter_list (A := Unit) (fun _ i => i) _ _ (fun _ i x hx => ?_) (fun _ => ?_) (by unfold NN; omega) ()
    · have hi := (List.getElem?_eq_some_iff.1 hx).1
      have hw := w64_nat hi (by omega)
      have hg : getI w.bookings (i : Int) = some x := by rw [getI_nat]; exact hx
      simp only [m_impl_hasBooking_b0, decide_eq_true (show (i : Int) < w.bookings.length by omega), cond_true, hg, Option.bind_some, hw, ho]
      by_cases h1 : x.thing = id
      · by_cases h2 : x.trip = t
        · simp [h1, h2]
        · simp [h1, h2]
      · simp [h1]
    · simp [m_impl_hasBooking_b0]
  have key : ∀ (l : List YBooking) (i : Nat), (∀ x ∈ l, x ∈ w.bookings) → runL (fun _ (_ : Unit) (x : YBooking) => some (if x.thing = id ∧ x.trip = t then (.inr (.inr (decide (x.weight = o.weight))) : Unit ⊕ (Unit ⊕ Bool)) else .inl ())) (fun _ => some (Sum.inl () : Unit ⊕ Bool)) i l () = some (if l.any (fun y => decide (y.thing = id ∧ y.trip = t)) = true then Sum.inr (bookedB l id t o.weight) else Sum.inl ()) := by
    intro l
    induction l with
    | nil => intro i _; rfl
    | cons x l ih =>
      intro i hm
      simp only [runL]
      by_cases hc : x.thing = id ∧ x.trip = t
      · rw [if_pos hc]
        simp only [Option.bind_some, List.any_cons, decide_eq_true hc, Bool.true_or, if_true]
        show some (Sum.inr (decide (x.weight = o.weight)) : Unit ⊕ Bool) = _
        congr 2
        unfold bookedB
        rw [List.any_cons]
        by_cases hw : x.weight = o.weight
        · rw [decide_eq_true hw]
          have : x = (⟨id, t, o.weight⟩ : YBooking) := by obtain ⟨a, b, c⟩ := x; simp at hc hw ⊢; exact ⟨hc.1, hc.2, hw⟩
          rw [decide_eq_true this]; rfl
        · rw [decide_eq_false hw]
          symm
          rw [Bool.or_eq_false_iff]
          refine ⟨decide_eq_false (fun e => hw (by rw [e])), ?_⟩
          rw [Bool.eq_false_iff]
          intro h3
          obtain ⟨y, hy, he⟩ := List.any_eq_true.1 h3
          have he := of_decide_eq_true he
          have := hu x (hm x (List.mem_cons_self ..)) y (hm y (List.mem_cons_of_mem _ hy)) (by rw [he]; exact hc.1) (by rw [he]; exact hc.2)
          exact hw (by rw [this, he])
      · rw [if_neg hc]
        simp only [Option.bind_some, selim]
        rw [ih (i + 1) (fun y hy => hm y (List.mem_cons_of_mem _ hy))]
        simp only [List.any_cons, decide_eq_false hc, Bool.false_or]
        have : bookedB (x :: l) id t o.weight = bookedB l id t o.weight := by
          unfold bookedB
          rw [List.any_cons, decide_eq_false (fun e => hc (by rw [e]; exact ⟨rfl, rfl⟩)), Bool.false_or]
        rw [this]
  rw [e, key w.bookings 0 (fun x h => h)]
  cases ha : w.bookings.any (fun y => decide (y.thing = id ∧ y.trip = t)) with
  | true => rfl
  | false =>
    show some false = _
    congr 1
    symm
    unfold bookedB
    rw [Bool.eq_false_iff]
    intro h3
    obtain ⟨y, hy, he⟩ := List.any_eq_true.1 h3
    have he := of_decide_eq_true he
    have := List.any_eq_false.1 ha y hy
    apply this
    rw [he]; simp
theorem coming_v {o : YOrder} (h : 0 ≤ o.gone ∧ o.gone ≤ o.way.length) (hl : o.way.length ≤ 1048576) : ∃ k, m_spec_l10Coming o = some (k : Int) ∧ 0 ≤ k ∧ m_impl_toCome o = some (if (o.way.length : Int) < k then (o.way.length : Int) else k) ∧ k ≤ o.way.length + 1 := by
  unfold m_spec_l10Coming m_impl_toCome
  have hw : w64 (o.gone + 1) = o.gone + 1 := w64_in (by omega)
  simp only [hw]
  cases decide (o.state = 2) with
  | true => exact ⟨o.gone + 1, rfl, by omega, rfl, by omega⟩
  | false => exact ⟨o.gone, rfl, by omega, by rw [if_neg (show ¬ (o.way.length : Int) < o.gone by omega)]; rfl, by omega⟩
end Go.Proofs.YtjkpcfbmmkmoaaaGreat

/- The mirror of impl_IsWay, and that the code does just that (printed by a program of my own). -/
namespace Go.Proofs.YtjkpcfbmmkmoaaaGreat
set_option maxRecDepth 10000
open Go.RowKit
set_option linter.unusedVariables false
set_option maxHeartbeats 16000000
def m_impl_IsWay_b0 (n : YNetwork) (way : List YTrip) (to_ : ByteArray) (s0 : Int × ByteArray × Int) : Option ((Int × ByteArray × Int) ⊕ (ByteArray ⊕ Bool)) :=
 cond (decide (s0.2.2 < (way.length : Int)))
 ((getI way s0.2.2).bind fun y5 =>
 (m_impl_IsTrip n y5).bind fun y6 =>
 cond (!y6)
 (some (.inr (.inr false)))
 ((getI n.legs y5.leg).bind fun y7 =>
 cond (!decide (y7.from_ = s0.2.1))
 (some (.inr (.inr false)))
 ((m_impl_starts n y5).bind fun y8 =>
 cond (decide (y8 < s0.1))
 (some (.inr (.inr false)))
 ((getI n.legs y5.leg).bind fun y9 =>
 (getI way s0.2.2).bind fun y10 =>
 (m_impl_ends n y10).bind fun y11 =>
 some (.inl ((w64 (y11 + n.change)), y9.to_, (w64 (s0.2.2 + 1))))))))
 (some (.inr (.inl s0.2.1)))
instance (n : YNetwork) (way : List YTrip) (to_ : ByteArray) : LoopE (m_impl_IsWay_b0 n way to_) := ⟨fun s0 => (.un :: .sl (way.map cTrip) :: .un :: vs to_ :: vi s0.1 :: .be 0 0 0 :: .un :: .un :: .un :: .un :: .un :: .un :: vs s0.2.1 :: .un :: .un :: .un :: .un :: .un :: .un :: .un :: .un :: .un :: .un :: .un :: .un :: .un :: .un :: .un :: .un :: .un :: .un :: .un :: .un :: .sl (way.map cTrip) :: vi (way.length : Int) :: vi s0.2.2 :: .un :: .un :: .un :: .un :: .un :: .un :: .un :: .un :: .un :: .un :: .un :: .un :: .un :: .un :: .un :: .un :: .un :: .un :: .un :: .un :: .un :: .un :: .un :: .un :: .un :: .un :: .un :: .un :: .un :: .un :: .un :: .un :: .un :: .un :: .un :: .un :: .un :: .un :: .un :: .un :: .un :: .un :: .un :: .un :: .un :: .un :: []), fun s0 => [some ⟨43, 3, [[.sl (n.legs.map cLeg), .sl (n.off.map cInt), vi n.change]]⟩]⟩
def m_impl_IsWay (n : YNetwork) (way : List YTrip) (from2_ : ByteArray) (to_ : ByteArray) (at4_ : Int) : Option Bool :=
 (m_impl_PlacesOf n).bind fun y1 =>
 (m_impl_IsNetwork n).bind fun y2 =>
 cond (!y2)
 (some false)
 ((m_impl_placeAt y1 from2_).bind fun y3 =>
 cond (decide (y3 < 0))
 (some false)
 ((m_impl_placeAt y1 to_).bind fun y4 =>
 cond (decide (y4 < 0))
 (some false)
 ((iterF (m_impl_IsWay_b0 n way to_) NN (at4_, from2_, 0)).bind (selim (fun o0 =>
 some (decide (o0 = to_))) (fun r => some r)))))
theorem ok_impl_IsWay (n : YNetwork) (way : List YTrip) (from2_ : ByteArray) (to_ : ByteArray) (at4_ : Int) {r : Bool} (H : m_impl_IsWay n way from2_ to_ at4_ = some r) : CallM Tryz.prog 204 [.ag (cNetwork n), .sl (way.map cTrip), vs from2_, vs to_, vi at4_] [] (vb r) [] := by
  replace H := H0 H
  unfold m_impl_IsWay at H
  refine callM_of Tryz.func204 rfl Tryz.ntmps204 Tryz.results204 fun Q hQ hQn => ?_
  exact wk
instance (n : YNetwork) (way : List YTrip) (from2_ : ByteArray) (to_ : ByteArray) (at4_ : Int) : CT Tryz.prog (m_impl_IsWay n way from2_ to_ at4_) := ⟨204, [.ag (cNetwork n), .sl (way.map cTrip), vs from2_, vs to_, vi at4_], [], fun r => vb r, fun r => [], ok_impl_IsWay n way from2_ to_ at4_⟩
end Go.Proofs.YtjkpcfbmmkmoaaaGreat

/- The mirror of spec_IsWay, and that the code does just that (printed by a program of my own). -/
namespace Go.Proofs.YtjkpcfbmmkmoaaaGreat
set_option maxRecDepth 10000
open Go.RowKit
set_option linter.unusedVariables false
set_option maxHeartbeats 16000000
def m_spec_IsWay_b0 (n : YNetwork) (way : List YTrip) (to_ : ByteArray) (s0 : ByteArray × Int × Int) : Option ((ByteArray × Int × Int) ⊕ (ByteArray ⊕ Bool)) :=
 cond (decide (s0.2.2 < (way.length : Int)))
 ((getI way s0.2.2).bind fun y5 =>
 (m_spec_IsTrip n y5).bind fun y6 =>
 cond (!y6)
 (some (.inr (.inr false)))
 ((getI way s0.2.2).bind fun y7 =>
 (getI n.legs y7.leg).bind fun y8 =>
 cond (!decide (y8.from_ = s0.1))
 (some (.inr (.inr false)))
 ((getI way s0.2.2).bind fun y9 =>
 (m_spec_l3Starts n y9).bind fun y10 =>
 cond (decide (y10 < s0.2.1))
 (some (.inr (.inr false)))
 ((getI way s0.2.2).bind fun y11 =>
 (getI n.legs y11.leg).bind fun y12 =>
 (getI way s0.2.2).bind fun y13 =>
 (m_spec_l3Ends n y13).bind fun y14 =>
 some (.inl (y12.to_, (w64 (y14 + n.change)), (w64 (s0.2.2 + 1))))))))
 (some (.inr (.inl s0.1)))
instance (n : YNetwork) (way : List YTrip) (to_ : ByteArray) : LoopE (m_spec_IsWay_b0 n way to_) := ⟨fun s0 => (.un :: .sl (way.map cTrip) :: .un :: vs to_ :: .un :: .be 0 0 0 :: .un :: .un :: .un :: .un :: .un :: .un :: vs s0.1 :: vi s0.2.1 :: vi s0.2.2 :: .un :: .un :: .un :: .un :: .un :: .un :: .un :: .un :: .un :: .un :: .un :: .un :: .un :: .un :: .un :: .un :: .un :: .un :: .un :: .un :: .un :: .un :: .un :: .un :: .un :: .un :: .un :: .un :: .un :: .un :: .un :: .un :: .un :: .un :: .un :: .un :: .un :: .un :: .un :: .un :: .un :: .un :: .un :: .un :: .un :: .un :: .un :: .un :: .un :: .un :: .un :: .un :: .un :: .un :: .un :: .un :: .un :: .un :: .un :: .un :: .un :: .un :: .un :: .un :: .un :: .un :: .un :: .un :: .un :: .un :: .un :: .un :: .un :: .un :: .un :: .un :: .un :: .un :: []), fun s0 => [some ⟨43, 3, [[.sl (n.legs.map cLeg), .sl (n.off.map cInt), vi n.change]]⟩]⟩
def m_spec_IsWay (n : YNetwork) (way : List YTrip) (from2_ : ByteArray) (to_ : ByteArray) (at4_ : Int) : Option Bool :=
 (m_spec_PlacesOf n).bind fun y1 =>
 (m_spec_IsNetwork n).bind fun y2 =>
 cond (!y2)
 (some false)
 ((m_spec_l4Index y1 from2_).bind fun y3 =>
 cond (decide (y3 < 0))
 (some false)
 ((m_spec_l4Index y1 to_).bind fun y4 =>
 cond (decide (y4 < 0))
 (some false)
 ((iterF (m_spec_IsWay_b0 n way to_) NN (from2_, at4_, 0)).bind (selim (fun o0 =>
 some (decide (o0 = to_))) (fun r => some r)))))
theorem ok_spec_IsWay (n : YNetwork) (way : List YTrip) (from2_ : ByteArray) (to_ : ByteArray) (at4_ : Int) {r : Bool} (H : m_spec_IsWay n way from2_ to_ at4_ = some r) : CallM Tryz.prog 187 [.ag (cNetwork n), .sl (way.map cTrip), vs from2_, vs to_, vi at4_] [] (vb r) [] := by
  replace H := H0 H
  unfold m_spec_IsWay at H
  refine callM_of Tryz.func187 rfl Tryz.ntmps187 Tryz.results187 fun Q hQ hQn => ?_
  exact wk
instance (n : YNetwork) (way : List YTrip) (from2_ : ByteArray) (to_ : ByteArray) (at4_ : Int) : CT Tryz.prog (m_spec_IsWay n way from2_ to_ at4_) := ⟨187, [.ag (cNetwork n), .sl (way.map cTrip), vs from2_, vs to_, vi at4_], [], fun r => vb r, fun r => [], ok_spec_IsWay n way from2_ to_ at4_⟩
end Go.Proofs.YtjkpcfbmmkmoaaaGreat

/- The mirror of impl_IsScan, and that the code does just that (printed by a program of my own). -/
namespace Go.Proofs.YtjkpcfbmmkmoaaaGreat
set_option maxRecDepth 10000
open Go.RowKit
set_option linter.unusedVariables false
set_option maxHeartbeats 16000000
def m_impl_IsScan (n : YNetwork) (s : YScan) : Option Bool :=
 (m_impl_IsNetwork n).bind fun y1 =>
 cond (!y1)
 (some false)
 ((m_impl_within s.thing 1 9999).bind fun y2 =>
 cond (!y2)
 (some false)
 ((m_impl_within s.at_ 0 100000).bind fun y3 =>
 cond (!y3)
 (some false)
 (cond (decide (s.kind = 1))
 (cond (decide (s.kind = 1))
 ((m_impl_PlacesOf n).bind fun y4 =>
 (m_impl_placeAt y4 s.place).bind fun y5 =>
 cond (decide (0 ≤ y5))
 (some (decide (s.trip = (⟨0, 0⟩ : YTrip))))
 (some false))
 (cond (decide (s.kind = 3))
 (cond (decide (s.place = ⟨#[]⟩))
 ((m_impl_IsTrip n s.trip).bind fun y6 =>
 cond y6
 ((m_impl_starts n s.trip).bind fun y7 =>
 some (decide (s.at_ ≤ y7)))
 (some false))
 (some false))
 (cond (decide (s.kind = 2))
 (cond (decide (s.place = ⟨#[]⟩))
 ((m_impl_IsTrip n s.trip).bind fun y8 =>
 cond y8
 ((m_impl_ends n s.trip).bind fun y9 =>
 some (decide (y9 ≤ s.at_)))
 (some false))
 (some false))
 (some false))))
 (cond (decide (s.kind = 4))
 ((m_impl_PlacesOf n).bind fun y10 =>
 (m_impl_placeAt y10 s.place).bind fun y11 =>
 cond (decide (0 ≤ y11))
 (some (decide (s.trip = (⟨0, 0⟩ : YTrip))))
 (some false))
 (cond (decide (s.kind = 3))
 (cond (decide (s.place = ⟨#[]⟩))
 ((m_impl_IsTrip n s.trip).bind fun y12 =>
 cond y12
 ((m_impl_starts n s.trip).bind fun y13 =>
 some (decide (s.at_ ≤ y13)))
 (some false))
 (some false))
 (cond (decide (s.kind = 2))
 (cond (decide (s.place = ⟨#[]⟩))
 ((m_impl_IsTrip n s.trip).bind fun y14 =>
 cond y14
 ((m_impl_ends n s.trip).bind fun y15 =>
 some (decide (y15 ≤ s.at_)))
 (some false))
 (some false))
 (some false)))))))
theorem ok_impl_IsScan (n : YNetwork) (s : YScan) {r : Bool} (H : m_impl_IsScan n s = some r) : CallM Tryz.prog 134 [.ag (cNetwork n), .ag (cScan s)] [] (vb r) [] := by
  replace H := H0 H
  unfold m_impl_IsScan at H
  refine callM_of Tryz.func134 rfl Tryz.ntmps134 Tryz.results134 fun Q hQ hQn => ?_
  exact wk
instance (n : YNetwork) (s : YScan) : CT Tryz.prog (m_impl_IsScan n s) := ⟨134, [.ag (cNetwork n), .ag (cScan s)], [], fun r => vb r, fun r => [], ok_impl_IsScan n s⟩
end Go.Proofs.YtjkpcfbmmkmoaaaGreat

/- The mirror of spec_IsScan, and that the code does just that (printed by a program of my own). -/
namespace Go.Proofs.YtjkpcfbmmkmoaaaGreat
set_option maxRecDepth 10000
open Go.RowKit
set_option linter.unusedVariables false
set_option maxHeartbeats 16000000
def m_spec_IsScan (n : YNetwork) (s : YScan) : Option Bool :=
 (m_spec_IsNetwork n).bind fun y1 =>
 cond (!y1)
 (some false)
 ((m_spec_l1In s.thing 1 9999).bind fun y2 =>
 cond (!y2)
 (some false)
 ((m_spec_l1In s.at_ 0 100000).bind fun y3 =>
 cond (!y3)
 (some false)
 (cond (decide (s.kind = 1))
 (cond (decide (s.kind = 1))
 ((m_spec_PlacesOf n).bind fun y4 =>
 (m_spec_l4Index y4 s.place).bind fun y5 =>
 cond (decide (0 ≤ y5))
 (some (decide (s.trip = (⟨0, 0⟩ : YTrip))))
 (some false))
 (cond (decide (s.kind = 3))
 (cond (decide (s.place = ⟨#[]⟩))
 ((m_spec_IsTrip n s.trip).bind fun y6 =>
 cond y6
 ((m_spec_l3Starts n s.trip).bind fun y7 =>
 some (decide (s.at_ ≤ y7)))
 (some false))
 (some false))
 (cond (decide (s.kind = 2))
 (cond (decide (s.place = ⟨#[]⟩))
 ((m_spec_IsTrip n s.trip).bind fun y8 =>
 cond y8
 ((m_spec_l3Ends n s.trip).bind fun y9 =>
 some (decide (y9 ≤ s.at_)))
 (some false))
 (some false))
 (some false))))
 (cond (decide (s.kind = 4))
 ((m_spec_PlacesOf n).bind fun y10 =>
 (m_spec_l4Index y10 s.place).bind fun y11 =>
 cond (decide (0 ≤ y11))
 (some (decide (s.trip = (⟨0, 0⟩ : YTrip))))
 (some false))
 (cond (decide (s.kind = 3))
 (cond (decide (s.place = ⟨#[]⟩))
 ((m_spec_IsTrip n s.trip).bind fun y12 =>
 cond y12
 ((m_spec_l3Starts n s.trip).bind fun y13 =>
 some (decide (s.at_ ≤ y13)))
 (some false))
 (some false))
 (cond (decide (s.kind = 2))
 (cond (decide (s.place = ⟨#[]⟩))
 ((m_spec_IsTrip n s.trip).bind fun y14 =>
 cond y14
 ((m_spec_l3Ends n s.trip).bind fun y15 =>
 some (decide (y15 ≤ s.at_)))
 (some false))
 (some false))
 (some false)))))))
theorem ok_spec_IsScan (n : YNetwork) (s : YScan) {r : Bool} (H : m_spec_IsScan n s = some r) : CallM Tryz.prog 119 [.ag (cNetwork n), .ag (cScan s)] [] (vb r) [] := by
  replace H := H0 H
  unfold m_spec_IsScan at H
  refine callM_of Tryz.func119 rfl Tryz.ntmps119 Tryz.results119 fun Q hQ hQn => ?_
  exact wk
instance (n : YNetwork) (s : YScan) : CT Tryz.prog (m_spec_IsScan n s) := ⟨119, [.ag (cNetwork n), .ag (cScan s)], [], fun r => vb r, fun r => [], ok_spec_IsScan n s⟩
end Go.Proofs.YtjkpcfbmmkmoaaaGreat

/- The two sides' tests of scans and ways answer alike. -/
namespace Go.Proofs.YtjkpcfbmmkmoaaaGreat
set_option maxRecDepth 10000
open Go.RowKit
set_option linter.unusedVariables false
set_option linter.unusedSimpArgs false
/-- Two loops that go side by side. -/
theorem iter_sim {σ τ ο : Type} {f : σ → Option (σ ⊕ ο)} {g : τ → Option (τ ⊕ ο)} (φ : σ → τ) (h : ∀ s, g (φ s) = (f s).bind (selim (fun s' => some (.inl (φ s'))) (fun r => some (.inr r)))) : ∀ (N : Nat) (s : σ), iterF g N (φ s) = iterF f N s
  | 0, s => rfl
  | N + 1, s => by
    simp only [iterF, h]
    cases f s with
    | none => rfl
    | some o =>
      cases o with
      | inl s' => exact iter_sim φ h N s'
      | inr r => rfl
theorem trip_leg {n : YNetwork} (h : NetFit n) {t : YTrip} (ht : m_spec_IsTrip n t = some true) : ∃ y, getI n.legs t.leg = some y := by
  unfold m_spec_IsTrip m_spec_RunsOn at ht
  obtain ⟨_, b, hb⟩ := isNetwork_eq h
  obtain ⟨_, b2, hb2⟩ := runs_eq h t.leg t.day
  rw [hb] at ht
  simp only [Option.bind_some, hb2] at ht
  cases b with
  | false => simp at ht
  | true =>
    simp at ht
    subst ht
    exact runs_leg h hb2
theorem starts_some {n : YNetwork} {t : YTrip} {y : YLeg} (h : getI n.legs t.leg = some y) : ∃ v, m_spec_l3Starts n t = some v := by
  unfold m_spec_l3Starts; rw [h]; exact ⟨_, rfl⟩
theorem isScan_eq {n : YNetwork} (h : NetFit n) (s : YScan) : m_impl_IsScan n s = m_spec_IsScan n s := by
  unfold m_impl_IsScan m_spec_IsScan
  rw [(isNetwork_eq h).1, within_eq, (places_eq h).1, (isTrip_eq h s.trip).1, starts_eq, ends_eq, placeAt_eq]
theorem isScan_some {n : YNetwork} (h : NetFit n) (s : YScan) : ∃ b, m_spec_IsScan n s = some b := by
  obtain ⟨_, b, hb⟩ := isNetwork_eq h
  have hp := (places_eq h).2
  have hpl := placesV_len n
  have hl := h.legs
  obtain ⟨_, b2, hb2⟩ := isTrip_eq h s.trip
  unfold m_spec_IsScan
  rw [hb, hp, hb2]
  simp only [Option.bind_some, l1In_v, l4Index_v (show (placesV n).length ≤ 4194304 by omega)]
  cases b with
  | false => exact ⟨_, rfl⟩
  | true =>
    cases decide (1 ≤ s.thing) && decide (s.thing ≤ 9999) <;> try exact ⟨_, rfl⟩
    cases decide (0 ≤ s.at_) && decide (s.at_ ≤ 100000) <;> try exact ⟨_, rfl⟩
    cases decide (0 ≤ idxV (placesV n) s.place)
    all_goals
      cases b2 with
      | false => cases decide (s.kind = 1) <;> cases decide (s.kind = 3) <;> cases decide (s.kind = 2) <;> cases decide (s.kind = 4) <;> cases decide (s.place = ⟨#[]⟩) <;> exact ⟨_, rfl⟩
      | true =>
        obtain ⟨y, hy⟩ := trip_leg h hb2
        obtain ⟨v1, hv1⟩ := starts_some hy
        obtain ⟨v2, hv2⟩ := ends_some hy
        rw [hv1, hv2]
        cases decide (s.kind = 1) <;> cases decide (s.kind = 3) <;> cases decide (s.kind = 2) <;> cases decide (s.kind = 4) <;> cases decide (s.place = ⟨#[]⟩) <;> exact ⟨_, rfl⟩
theorem isWay_eq {n : YNetwork} (h : NetFit n) (way : List YTrip) (a b : ByteArray) (t : Int) : m_impl_IsWay n way a b t = m_spec_IsWay n way a b t := by
  have e : iterF (m_impl_IsWay_b0 n way b) NN (t, a, 0) = iterF (m_spec_IsWay_b0 n way b) NN (a, t, 0) := by
    refine iter_sim (f := m_spec_IsWay_b0 n way b) (fun s : ByteArray × Int × Int => (s.2.1, s.1, s.2.2)) (fun s => ?_) NN (a, t, 0)
    unfold m_impl_IsWay_b0 m_spec_IsWay_b0
    simp only
    cases decide (s.2.2 < (way.length : Int)) with
    | false => rfl
    | true =>
      simp only [cond_true]
      cases hg : getI way s.2.2 with
      | none => rfl
      | some y =>
        simp only [Option.bind_some, (isTrip_eq h y).1, starts_eq, ends_eq]
        cases m_spec_IsTrip n y with
        | none => rfl
        | some c =>
          cases c with
          | false => rfl
          | true =>
            simp only [Option.bind_some, Bool.not_true, cond_false]
            cases getI n.legs y.leg with
            | none => rfl
            | some g =>
              simp only [Option.bind_some]
              cases decide (g.from_ = s.1) with
              | false => rfl
              | true =>
                simp only [Bool.not_true, cond_false]
                cases m_spec_l3Starts n y with
                | none => rfl
                | some v =>
                  simp only [Option.bind_some]
                  cases decide (v < s.2.1) with
                  | true => rfl
                  | false =>
                    simp only [cond_false]
                    cases m_spec_l3Ends n y <;> rfl
  unfold m_impl_IsWay m_spec_IsWay
  rw [(isNetwork_eq h).1, (places_eq h).1, placeAt_eq, e]
theorem isWay_some {n : YNetwork} (h : NetFit n) {way : List YTrip} (hw : way.length ≤ 1048576) (a b : ByteArray) (t : Int) : ∃ r, m_spec_IsWay n way a b t = some r := by
  obtain ⟨_, b1, hb⟩ := isNetwork_eq h
  have hp := (places_eq h).2
  have hpl := placesV_len n
  have hl := h.legs
  have e : ∃ o, iterF (m_spec_IsWay_b0 n way b) NN (a, t, 0) = some o := by
    refine iter_tot (fun k s => ∃ i : Nat, i + k = way.length ∧ s.2.2 = (i : Int)) ?_ NN way.length _ ⟨0, by omega, rfl⟩ (by unfold NN; omega)
    rintro k ⟨p, r, s⟩ ⟨i, hi, hs⟩
    simp only at hs
    subst hs
    unfold m_spec_IsWay_b0
    rcases Nat.lt_or_ge i way.length with hlt | hge
    · have hw := w64_nat hlt (by omega)
      have hg : getI way (i : Int) = some way[i] := by rw [getI_nat]; exact List.getElem?_eq_getElem hlt
      obtain ⟨_, c, hc⟩ := isTrip_eq h way[i]
      simp only [decide_eq_true (show (i : Int) < way.length by omega), cond_true, hg, Option.bind_some, hc, hw]
      cases c with
      | false => exact ⟨_, rfl, fun s' e => by cases e⟩
      | true =>
        obtain ⟨y, hy⟩ := trip_leg h hc
        obtain ⟨v1, hv1⟩ := starts_some hy
        obtain ⟨v2, hv2⟩ := ends_some hy
        simp only [hy, hv1, hv2, Option.bind_some, Bool.not_true, cond_false]
        cases decide (y.from_ = p) with
        | false => exact ⟨_, rfl, fun s' e => by cases e⟩
        | true =>
          simp only [Bool.not_true, cond_false]
          cases decide (v1 < r) with
          | true => exact ⟨_, rfl, fun s' e => by cases e⟩
          | false => exact ⟨_, rfl, fun s' e => by cases e; exact ⟨k - 1, by omega, i + 1, by omega, rfl⟩⟩
    · simp only [decide_eq_false (show ¬ (i : Int) < way.length by omega), cond_false]
      exact ⟨_, rfl, fun s' e => by cases e⟩
  obtain ⟨o, ho⟩ := e
  unfold m_spec_IsWay
  rw [hp, hb]
  simp only [Option.bind_some, l4Index_v (show (placesV n).length ≤ 4194304 by omega), ho]
  cases b1 with
  | false => exact ⟨_, rfl⟩
  | true => cases decide (idxV (placesV n) a < 0) <;> cases decide (idxV (placesV n) b < 0) <;> cases o <;> exact ⟨_, rfl⟩
end Go.Proofs.YtjkpcfbmmkmoaaaGreat

/- The mirror of impl_isOrder, and that the code does just that (printed by a program of my own). -/
namespace Go.Proofs.YtjkpcfbmmkmoaaaGreat
set_option maxRecDepth 10000
open Go.RowKit
set_option linter.unusedVariables false
set_option maxHeartbeats 16000000
def m_impl_isOrder_b0 (w : YWorld) (id : Int) (y1 : YOrder) (s0 : ByteArray × Int) : Option ((ByteArray × Int) ⊕ (ByteArray ⊕ Bool)) :=
 cond (decide (s0.2 < (y1.way.length : Int)))
 ((getI y1.way s0.2).bind fun y9 =>
 (m_impl_IsTrip w.network y9).bind fun y10 =>
 cond (!y10)
 (some (.inr (.inr false)))
 ((m_impl_hasBooking w id y9).bind fun y11 =>
 cond (!y11)
 (some (.inr (.inr false)))
 ((m_impl_toCome y1).bind fun y12 =>
 cond (decide (y12 ≤ s0.2))
 ((m_impl_hasTrip w.closed y9).bind fun y13 =>
 cond y13
 (some (.inr (.inr false)))
 ((getI w.network.legs y9.leg).bind fun y14 =>
 cond (decide (y14.to_ = y1.to_))
 (cond (decide (s0.2 < (w64 ((y1.way.length : Int) - 1))))
 (some (.inr (.inr false)))
 (some (.inl (y14.to_, (w64 (s0.2 + 1))))))
 (some (.inl (y14.to_, (w64 (s0.2 + 1)))))))
 ((getI w.network.legs y9.leg).bind fun y15 =>
 cond (decide (y15.to_ = y1.to_))
 (cond (decide (s0.2 < (w64 ((y1.way.length : Int) - 1))))
 (some (.inr (.inr false)))
 (some (.inl (y15.to_, (w64 (s0.2 + 1))))))
 (some (.inl (y15.to_, (w64 (s0.2 + 1)))))))))
 (some (.inr (.inl s0.1)))
instance (w : YWorld) (id : Int) (y1 : YOrder) : LoopE (m_impl_isOrder_b0 w id y1) := ⟨fun s0 => (.un :: vi id :: .un :: .be 0 0 0 :: .un :: .un :: .un :: .be 1 0 0 :: vs s0.1 :: .un :: .un :: .un :: .un :: .un :: .un :: .un :: .un :: .un :: .un :: .un :: .un :: .un :: .un :: .un :: .un :: .un :: .un :: .un :: .un :: .un :: .un :: .un :: .un :: .un :: .un :: .un :: .un :: .un :: .un :: .un :: .un :: .un :: .un :: .un :: .un :: .un :: .un :: .un :: .un :: .un :: .un :: .un :: .un :: .un :: .un :: .un :: .un :: .un :: .un :: .un :: .un :: .un :: .un :: .un :: .un :: .un :: .un :: .un :: .un :: .un :: .un :: .un :: .un :: .un :: .sl (y1.way.map cTrip) :: vi (y1.way.length : Int) :: vi s0.2 :: .un :: .un :: .un :: .un :: .un :: .un :: .un :: .un :: .un :: .un :: .un :: .un :: .un :: .un :: .un :: .un :: .un :: .un :: .un :: .un :: .un :: .un :: .un :: .un :: .un :: .un :: .un :: .un :: .un :: .un :: .un :: .un :: .un :: .un :: .un :: .un :: .un :: .un :: .un :: .un :: .un :: .un :: .un :: .un :: .un :: .un :: .un :: .un :: .un :: .un :: .un :: .un :: .un :: .un :: .un :: .un :: .un :: .un :: .un :: .un :: .un :: .un :: .un :: .un :: .un :: []), fun s0 => [some ⟨49, 10, [[.sl (w.network.legs.map cLeg), .sl (w.network.off.map cInt), vi w.network.change, .sl (w.orders.map cOrder), .sl (w.bookings.map cBooking), .sl (w.closed.map cTrip), vi w.now, .sl (w.scans.map cScan), .sl (w.skip.map cInt), vi w.made]]⟩, some ⟨109, 11, [[vs y1.from_, vs y1.to_, vi y1.service, vi y1.weight, vi y1.at_, vi y1.due, .sl (y1.way.map cTrip), vi y1.gone, vi y1.state, vs y1.place, vi y1.ended]]⟩]⟩
def m_impl_isOrder (w : YWorld) (id : Int) (places : List ByteArray) : Option Bool :=
 (getI w.orders (w64 (id - 1))).bind fun y1 =>
 cond (decide (y1.from_ = y1.to_))
 (some false)
 ((m_impl_placeAt places y1.from_).bind fun y2 =>
 cond (decide (y2 < 0))
 (some false)
 ((m_impl_placeAt places y1.to_).bind fun y3 =>
 cond (decide (y3 < 0))
 (some false)
 ((m_impl_within y1.service 1 3).bind fun y4 =>
 cond (!y4)
 (some false)
 ((m_impl_within y1.weight 1 30000).bind fun y5 =>
 cond (!y5)
 (some false)
 ((m_impl_within y1.at_ 0 w.now).bind fun y6 =>
 cond (!y6)
 (some false)
 ((m_impl_within y1.due 0 200000).bind fun y7 =>
 cond (!y7)
 (some false)
 ((m_impl_within y1.gone 0 (y1.way.length : Int)).bind fun y8 =>
 cond (!y8)
 (some false)
 ((iterF (m_impl_isOrder_b0 w id y1) NN (y1.from_, 0)).bind (selim (fun o0 =>
 (m_impl_IsWay w.network y1.way y1.from_ o0 (w64 (y1.at_ + 1))).bind fun y16 =>
 cond y16
 ((m_impl_isState w y1).bind fun y17 =>
 some y17)
 (some false)) (fun r => some r))))))))))
theorem ok_impl_isOrder (w : YWorld) (id : Int) (places : List ByteArray) {r : Bool} (H : m_impl_isOrder w id places = some r) : CallM Tryz.prog 136 [.ag (cWorld w), vi id, .sl (places.map cStr)] [] (vb r) [] := by
  replace H := H0 H
  unfold m_impl_isOrder at H
  refine callM_of Tryz.func136 rfl Tryz.ntmps136 Tryz.results136 fun Q hQ hQn => ?_
  exact wk
instance (w : YWorld) (id : Int) (places : List ByteArray) : CT Tryz.prog (m_impl_isOrder w id places) := ⟨136, [.ag (cWorld w), vi id, .sl (places.map cStr)], [], fun r => vb r, fun r => [], ok_impl_isOrder w id places⟩
end Go.Proofs.YtjkpcfbmmkmoaaaGreat

/- The mirror of spec_l10Order, and that the code does just that (printed by a program of my own). -/
namespace Go.Proofs.YtjkpcfbmmkmoaaaGreat
set_option maxRecDepth 10000
open Go.RowKit
set_option linter.unusedVariables false
set_option maxHeartbeats 16000000
def m_spec_l10Order_b0 (w : YWorld) (i : Int) (y1 : YOrder) (s0 : ByteArray × Int) : Option ((ByteArray × Int) ⊕ (ByteArray ⊕ Bool)) :=
 cond (decide (s0.2 < (y1.way.length : Int)))
 ((getI y1.way s0.2).bind fun y10 =>
 (getI y1.way s0.2).bind fun y11 =>
 (m_spec_l3Runs w.network y10.leg y11.day).bind fun y12 =>
 cond (!y12)
 (some (.inr (.inr false)))
 ((getI y1.way s0.2).bind fun y13 =>
 (m_spec_l10Booked w.bookings (w64 (i + 1)) y13 y1.weight).bind fun y14 =>
 cond (!y14)
 (some (.inr (.inr false)))
 ((getI y1.way s0.2).bind fun y15 =>
 (getI w.network.legs y15.leg).bind fun y16 =>
 cond (decide (y16.to_ = y1.to_))
 (cond (decide ((w64 (s0.2 + 1)) < (y1.way.length : Int)))
 (some (.inr (.inr false)))
 (some (.inl (y16.to_, (w64 (s0.2 + 1))))))
 (some (.inl (y16.to_, (w64 (s0.2 + 1))))))))
 (some (.inr (.inl s0.1)))
instance (w : YWorld) (i : Int) (y1 : YOrder) : LoopE (m_spec_l10Order_b0 w i y1) := ⟨fun s0 => (.un :: vi i :: .be 0 0 0 :: .un :: .un :: .be 1 0 0 :: .be 2 0 0 :: .un :: vs s0.1 :: vi s0.2 :: .un :: .un :: .un :: .un :: .un :: .un :: .un :: .un :: .un :: .un :: .un :: .un :: .un :: .un :: .un :: .un :: .un :: .un :: .un :: .un :: .un :: .un :: .un :: .un :: .un :: .un :: .un :: .un :: .un :: .un :: .un :: .un :: .un :: .un :: .un :: .un :: .un :: .un :: .un :: .un :: .un :: .un :: .un :: .un :: .un :: .un :: .un :: .un :: .un :: .un :: .un :: .un :: .un :: .un :: .un :: .un :: .un :: .un :: .un :: .un :: .un :: .un :: .un :: .un :: .un :: .un :: .un :: .un :: .un :: .un :: .un :: .un :: .un :: .un :: .un :: .un :: .un :: .un :: .un :: .un :: .un :: .un :: .un :: .un :: .un :: .un :: .un :: .un :: .un :: .un :: .un :: .un :: .un :: .un :: .un :: .un :: .un :: .un :: .un :: .un :: .un :: .un :: .un :: .un :: .un :: .un :: .un :: .un :: .un :: .un :: .un :: .un :: .un :: .un :: .un :: .un :: .un :: .un :: .un :: .un :: .un :: .un :: .un :: .un :: .un :: .un :: .un :: .un :: .un :: .un :: .un :: .un :: .un :: .un :: .un :: .un :: .un :: .un :: .un :: .un :: .un :: .un :: .un :: .un :: .un :: .un :: .un :: .un :: .un :: .un :: .un :: .un :: .un :: .un :: .un :: .un :: .un :: .un :: .un :: .un :: .un :: .un :: []), fun s0 => [some ⟨49, 10, [[.sl (w.network.legs.map cLeg), .sl (w.network.off.map cInt), vi w.network.change, .sl (w.orders.map cOrder), .sl (w.bookings.map cBooking), .sl (w.closed.map cTrip), vi w.now, .sl (w.scans.map cScan), .sl (w.skip.map cInt), vi w.made]]⟩, some ⟨43, 3, [[.sl (w.network.legs.map cLeg), .sl (w.network.off.map cInt), vi w.network.change]]⟩, some ⟨109, 11, [[vs y1.from_, vs y1.to_, vi y1.service, vi y1.weight, vi y1.at_, vi y1.due, .sl (y1.way.map cTrip), vi y1.gone, vi y1.state, vs y1.place, vi y1.ended]]⟩]⟩
def m_spec_l10Order_b1 (w : YWorld) (y1 : YOrder) (s1 : Int) : Option (Int ⊕ (Unit ⊕ Bool)) :=
 cond (decide (s1 < (y1.way.length : Int)))
 ((getI y1.way s1).bind fun y20 =>
 (m_spec_l6Closed w.closed y20).bind fun y21 =>
 cond y21
 (some (.inr (.inr false)))
 (some (.inl (w64 (s1 + 1)))))
 (some (.inr (.inl ())))
instance (w : YWorld) (y1 : YOrder) : LoopE (m_spec_l10Order_b1 w y1) := ⟨fun s1 => (.un :: .un :: .be 0 0 0 :: .un :: .un :: .un :: .be 1 0 0 :: .un :: .un :: .un :: vi s1 :: .un :: .un :: .un :: .un :: .un :: .un :: .un :: .un :: .un :: .un :: .un :: .un :: .un :: .un :: .un :: .un :: .un :: .un :: .un :: .un :: .un :: .un :: .un :: .un :: .un :: .un :: .un :: .un :: .un :: .un :: .un :: .un :: .un :: .un :: .un :: .un :: .un :: .un :: .un :: .un :: .un :: .un :: .un :: .un :: .un :: .un :: .un :: .un :: .un :: .un :: .un :: .un :: .un :: .un :: .un :: .un :: .un :: .un :: .un :: .un :: .un :: .un :: .un :: .un :: .un :: .un :: .un :: .un :: .un :: .un :: .un :: .un :: .un :: .un :: .un :: .un :: .un :: .un :: .un :: .un :: .un :: .un :: .un :: .un :: .un :: .un :: .un :: .un :: .un :: .un :: .un :: .un :: .un :: .un :: .un :: .un :: .un :: .un :: .un :: .un :: .un :: .un :: .un :: .un :: .un :: .un :: .un :: .un :: .un :: .un :: .un :: .un :: .un :: .un :: .un :: .un :: .un :: .un :: .un :: .un :: .un :: .un :: .un :: .un :: .un :: .un :: .un :: .un :: .un :: .un :: .un :: .un :: .un :: .un :: .un :: .un :: .un :: .un :: .un :: .un :: .un :: .un :: .un :: .un :: .un :: .un :: .un :: .un :: .un :: .un :: .un :: .un :: .un :: .un :: .un :: .un :: .un :: .un :: .un :: .un :: .un :: []), fun s1 => [some ⟨49, 10, [[.sl (w.network.legs.map cLeg), .sl (w.network.off.map cInt), vi w.network.change, .sl (w.orders.map cOrder), .sl (w.bookings.map cBooking), .sl (w.closed.map cTrip), vi w.now, .sl (w.scans.map cScan), .sl (w.skip.map cInt), vi w.made]]⟩, some ⟨109, 11, [[vs y1.from_, vs y1.to_, vi y1.service, vi y1.weight, vi y1.at_, vi y1.due, .sl (y1.way.map cTrip), vi y1.gone, vi y1.state, vs y1.place, vi y1.ended]]⟩]⟩
def m_spec_l10Order (w : YWorld) (i : Int) : Option Bool :=
 (getI w.orders i).bind fun y1 =>
 (m_spec_PlacesOf w.network).bind fun y2 =>
 (m_spec_l4Index y2 y1.from_).bind fun y3 =>
 cond (decide (y3 < 0))
 (some false)
 ((m_spec_l4Index y2 y1.to_).bind fun y4 =>
 cond (decide (y4 < 0))
 (some false)
 (cond (decide (y1.from_ = y1.to_))
 (some false)
 ((m_spec_l1In y1.service 1 3).bind fun y5 =>
 cond (!y5)
 (some false)
 ((m_spec_l1In y1.weight 1 30000).bind fun y6 =>
 cond (!y6)
 (some false)
 ((m_spec_l1In y1.at_ 0 w.now).bind fun y7 =>
 cond (!y7)
 (some false)
 ((m_spec_l1In y1.due 0 200000).bind fun y8 =>
 cond (!y8)
 (some false)
 ((m_spec_l1In y1.gone 0 (y1.way.length : Int)).bind fun y9 =>
 cond (!y9)
 (some false)
 ((iterF (m_spec_l10Order_b0 w i y1) NN (y1.from_, 0)).bind (selim (fun o0 =>
 (m_spec_IsWay w.network y1.way y1.from_ o0 (w64 (y1.at_ + 1))).bind fun y17 =>
 cond (!y17)
 (some false)
 ((m_spec_l10State w.network y1 w.now).bind fun y18 =>
 cond (!y18)
 (some false)
 ((m_spec_l10Coming y1).bind fun y19 =>
 (iterF (m_spec_l10Order_b1 w y1) NN y19).bind (selim (fun o1 =>
 some true) (fun r => some r))))) (fun r => some r))))))))))
theorem ok_spec_l10Order (w : YWorld) (i : Int) {r : Bool} (H : m_spec_l10Order w i = some r) : CallM Tryz.prog 120 [.ag (cWorld w), vi i] [] (vb r) [] := by
  replace H := H0 H
  unfold m_spec_l10Order at H
  refine callM_of Tryz.func120 rfl Tryz.ntmps120 Tryz.results120 fun Q hQ hQn => ?_
  exact wk
instance (w : YWorld) (i : Int) : CT Tryz.prog (m_spec_l10Order w i) := ⟨120, [.ag (cWorld w), vi i], [], fun r => vb r, fun r => [], ok_spec_l10Order w i⟩
end Go.Proofs.YtjkpcfbmmkmoaaaGreat

/- The mirror of impl_IsWorld, and that the code does just that (printed by a program of my own). -/
namespace Go.Proofs.YtjkpcfbmmkmoaaaGreat
set_option maxRecDepth 10000
open Go.RowKit
set_option linter.unusedVariables false
set_option maxHeartbeats 16000000
def m_impl_IsWorld_b0 (w : YWorld) (s0 : Int) : Option (Int ⊕ (Unit ⊕ Bool)) :=
 cond (decide (s0 < (w.closed.length : Int)))
 ((getI w.closed s0).bind fun y4 =>
 (m_impl_IsTrip w.network y4).bind fun y5 =>
 cond (!y5)
 (some (.inr (.inr false)))
 ((chk (slOk 0 s0 w.closed.length)).bind fun _ =>
 (m_impl_hasTrip (subL w.closed 0 s0) y4).bind fun y6 =>
 cond y6
 (some (.inr (.inr false)))
 (some (.inl (w64 (s0 + 1))))))
 (some (.inr (.inl ())))
instance (w : YWorld) : LoopE (m_impl_IsWorld_b0 w) := ⟨fun s0 => (.un :: .be 0 0 0 :: .un :: .be 1 0 0 :: .un :: .un :: .un :: .un :: .un :: .un :: .un :: .un :: .un :: .un :: .un :: .un :: .un :: .un :: .un :: .un :: .un :: .un :: .un :: .un :: .un :: .un :: .un :: .un :: .un :: .un :: .un :: .un :: .un :: .un :: .un :: .un :: .un :: .un :: .un :: .un :: .un :: .un :: .un :: .un :: .un :: .un :: .un :: .un :: .un :: .un :: .un :: .un :: .un :: .un :: .un :: .un :: .un :: .un :: .un :: .sl (w.closed.map cTrip) :: vi (w.closed.length : Int) :: vi s0 :: .un :: .un :: .un :: .un :: .un :: .un :: .un :: .un :: .un :: .un :: .un :: .un :: .un :: .un :: .un :: .un :: .un :: .un :: .un :: .un :: .un :: .un :: .un :: .un :: .un :: .un :: .un :: .un :: .un :: .un :: .un :: .un :: .un :: .un :: .un :: .un :: .un :: .un :: .un :: .un :: .un :: .un :: .un :: .un :: .un :: .un :: .un :: .un :: .un :: .un :: .un :: .un :: .un :: .un :: .un :: .un :: .un :: .un :: .un :: .un :: .un :: .un :: .un :: []), fun s0 => [some ⟨49, 10, [[.sl (w.network.legs.map cLeg), .sl (w.network.off.map cInt), vi w.network.change, .sl (w.orders.map cOrder), .sl (w.bookings.map cBooking), .sl (w.closed.map cTrip), vi w.now, .sl (w.scans.map cScan), .sl (w.skip.map cInt), vi w.made]]⟩, some ⟨43, 3, [[.sl (w.network.legs.map cLeg), .sl (w.network.off.map cInt), vi w.network.change]]⟩]⟩
def m_impl_IsWorld_b1 (w : YWorld) (s1 : Int) : Option (Int ⊕ (Unit ⊕ Bool)) :=
 cond (decide (s1 < (w.scans.length : Int)))
 ((getI w.scans s1).bind fun y7 =>
 (m_impl_IsScan w.network y7).bind fun y8 =>
 cond (!y8)
 (some (.inr (.inr false)))
 (cond (decide (w.now < y7.at_))
 (some (.inr (.inr false)))
 (some (.inl (w64 (s1 + 1))))))
 (some (.inr (.inl ())))
instance (w : YWorld) : LoopE (m_impl_IsWorld_b1 w) := ⟨fun s1 => (.un :: .be 0 0 0 :: .un :: .be 1 0 0 :: .un :: .un :: .un :: .un :: .un :: .un :: .un :: .un :: .un :: .un :: .un :: .un :: .un :: .un :: .un :: .un :: .un :: .un :: .un :: .un :: .un :: .un :: .un :: .un :: .un :: .un :: .un :: .un :: .un :: .un :: .un :: .un :: .un :: .un :: .un :: .un :: .un :: .un :: .un :: .un :: .un :: .un :: .un :: .un :: .un :: .un :: .un :: .un :: .un :: .un :: .un :: .un :: .un :: .un :: .un :: .un :: .un :: .un :: .un :: .un :: .un :: .un :: .un :: .un :: .un :: .un :: .un :: .un :: .un :: .un :: .un :: .un :: .un :: .un :: .un :: .un :: .sl (w.scans.map cScan) :: vi (w.scans.length : Int) :: vi s1 :: .un :: .un :: .un :: .un :: .un :: .un :: .un :: .un :: .un :: .un :: .un :: .un :: .un :: .un :: .un :: .un :: .un :: .un :: .un :: .un :: .un :: .un :: .un :: .un :: .un :: .un :: .un :: .un :: .un :: .un :: .un :: .un :: .un :: .un :: .un :: .un :: .un :: .un :: .un :: .un :: .un :: .un :: []), fun s1 => [some ⟨49, 10, [[.sl (w.network.legs.map cLeg), .sl (w.network.off.map cInt), vi w.network.change, .sl (w.orders.map cOrder), .sl (w.bookings.map cBooking), .sl (w.closed.map cTrip), vi w.now, .sl (w.scans.map cScan), .sl (w.skip.map cInt), vi w.made]]⟩, some ⟨43, 3, [[.sl (w.network.legs.map cLeg), .sl (w.network.off.map cInt), vi w.network.change]]⟩]⟩
def m_impl_IsWorld_b2 (w : YWorld) (y9 : List ByteArray) (s2 : Int × Int) : Option ((Int × Int) ⊕ (Int ⊕ Bool)) :=
 cond (decide (s2.2 < (w.orders.length : Int)))
 ((getI w.orders s2.2).bind fun y10 =>
 (m_impl_isOrder w (w64 (s2.2 + 1)) y9).bind fun y11 =>
 cond (!y11)
 (some (.inr (.inr false)))
 (some (.inl ((w64 (s2.1 + (y10.way.length : Int))), (w64 (s2.2 + 1))))))
 (some (.inr (.inl s2.1)))
instance (w : YWorld) (y9 : List ByteArray) : LoopE (m_impl_IsWorld_b2 w y9) := ⟨fun s2 => (.un :: .be 0 0 0 :: .un :: .un :: .un :: .un :: .un :: .un :: .ms 1 :: vi s2.1 :: .un :: .un :: .un :: .un :: .un :: .un :: .un :: .un :: .un :: .un :: .un :: .un :: .un :: .un :: .un :: .un :: .un :: .un :: .un :: .un :: .un :: .un :: .un :: .un :: .un :: .un :: .un :: .un :: .un :: .un :: .un :: .un :: .un :: .un :: .un :: .un :: .un :: .un :: .un :: .un :: .un :: .un :: .un :: .un :: .un :: .un :: .un :: .un :: .un :: .un :: .un :: .un :: .un :: .un :: .un :: .un :: .un :: .un :: .un :: .un :: .un :: .un :: .un :: .un :: .un :: .un :: .un :: .un :: .un :: .un :: .un :: .un :: .un :: .un :: .un :: .un :: .un :: .un :: .un :: .un :: .un :: .un :: .un :: .un :: .un :: .un :: .un :: .un :: .un :: .un :: .un :: .sl (w.orders.map cOrder) :: vi (w.orders.length : Int) :: vi s2.2 :: .un :: .un :: .un :: .un :: .un :: .un :: .un :: .un :: .un :: .un :: .un :: .un :: .un :: .un :: .un :: .un :: .un :: .un :: .un :: .un :: .un :: []), fun s2 => [some ⟨49, 10, [[.sl (w.network.legs.map cLeg), .sl (w.network.off.map cInt), vi w.network.change, .sl (w.orders.map cOrder), .sl (w.bookings.map cBooking), .sl (w.closed.map cTrip), vi w.now, .sl (w.scans.map cScan), .sl (w.skip.map cInt), vi w.made]]⟩, some ⟨9, 1, y9.map cStr⟩]⟩
def m_impl_IsWorld (w : YWorld) : Option Bool :=
 (m_impl_AreBookings w.network w.bookings).bind fun y1 =>
 cond (!y1)
 (some false)
 ((m_impl_within w.now 0 100000).bind fun y2 =>
 cond (!y2)
 (some false)
 (cond (decide (30 < (w.orders.length : Int)))
 (some false)
 (cond (decide (20 < (w.closed.length : Int)))
 (some false)
 (cond (decide (200 < (w.scans.length : Int)))
 (some false)
 (cond (decide (50 < (w.skip.length : Int)))
 (some false)
 ((m_impl_within w.made (w.scans.length : Int) 1000000000).bind fun y3 =>
 cond (!y3)
 (some false)
 ((iterF (m_impl_IsWorld_b0 w) NN 0).bind (selim (fun o0 =>
 (iterF (m_impl_IsWorld_b1 w) NN 0).bind (selim (fun o1 =>
 (m_impl_PlacesOf w.network).bind fun y9 =>
 (iterF (m_impl_IsWorld_b2 w y9) NN (0, 0)).bind (selim (fun o2 =>
 some (decide (o2 = (w.bookings.length : Int)))) (fun r => some r))) (fun r => some r))) (fun r => some r)))))))))
theorem ok_impl_IsWorld (w : YWorld) {r : Bool} (H : m_impl_IsWorld w = some r) : CallM Tryz.prog 51 [.ag (cWorld w)] [] (vb r) [] := by
  replace H := H0 H
  unfold m_impl_IsWorld at H
  refine callM_of Tryz.func51 rfl Tryz.ntmps51 Tryz.results51 fun Q hQ hQn => ?_
  exact wk
instance (w : YWorld) : CT Tryz.prog (m_impl_IsWorld w) := ⟨51, [.ag (cWorld w)], [], fun r => vb r, fun r => [], ok_impl_IsWorld w⟩
end Go.Proofs.YtjkpcfbmmkmoaaaGreat

/- The mirror of spec_IsWorld, and that the code does just that (printed by a program of my own). -/
namespace Go.Proofs.YtjkpcfbmmkmoaaaGreat
set_option maxRecDepth 10000
open Go.RowKit
set_option linter.unusedVariables false
set_option maxHeartbeats 16000000
def m_spec_IsWorld_b0 (w : YWorld) (s0 : Int) : Option (Int ⊕ (Unit ⊕ Bool)) :=
 cond (decide (s0 < (w.closed.length : Int)))
 ((getI w.closed s0).bind fun y4 =>
 (getI w.closed s0).bind fun y5 =>
 (m_spec_l3Runs w.network y4.leg y5.day).bind fun y6 =>
 cond (!y6)
 (some (.inr (.inr false)))
 ((chk (slOk 0 s0 w.closed.length)).bind fun _ =>
 (getI w.closed s0).bind fun y7 =>
 (m_spec_l6Closed (subL w.closed 0 s0) y7).bind fun y8 =>
 cond y8
 (some (.inr (.inr false)))
 (some (.inl (w64 (s0 + 1))))))
 (some (.inr (.inl ())))
instance (w : YWorld) : LoopE (m_spec_IsWorld_b0 w) := ⟨fun s0 => (.un :: .be 0 0 0 :: .un :: vi s0 :: .un :: .un :: .un :: .un :: .un :: .un :: .un :: .un :: .un :: .un :: .un :: .un :: .un :: .un :: .un :: .un :: .un :: .un :: .un :: .un :: .un :: .un :: .un :: .un :: .un :: .un :: .un :: .un :: .un :: .un :: .un :: .un :: .un :: .un :: .un :: .un :: .un :: .un :: .un :: .un :: .un :: .un :: .un :: .un :: .un :: .un :: .un :: .un :: .un :: .un :: .un :: .un :: .un :: .un :: .un :: .un :: .un :: .un :: .un :: .un :: .un :: .un :: .un :: .un :: .un :: .un :: .un :: .un :: .un :: .un :: .un :: .un :: .un :: .un :: .un :: .un :: .un :: .un :: .un :: .un :: .un :: .un :: .un :: .un :: .un :: .un :: .un :: .un :: .un :: .un :: .un :: .un :: .un :: .un :: .un :: .un :: .un :: .un :: .un :: .un :: .un :: .un :: .un :: .un :: .un :: .un :: .un :: .un :: .un :: .un :: .un :: .un :: .un :: .un :: .un :: .un :: .un :: .un :: .un :: .un :: .un :: .un :: .un :: .un :: .un :: .un :: .un :: .un :: .un :: .un :: .un :: .un :: .un :: .un :: .un :: []), fun s0 => [some ⟨49, 10, [[.sl (w.network.legs.map cLeg), .sl (w.network.off.map cInt), vi w.network.change, .sl (w.orders.map cOrder), .sl (w.bookings.map cBooking), .sl (w.closed.map cTrip), vi w.now, .sl (w.scans.map cScan), .sl (w.skip.map cInt), vi w.made]]⟩]⟩
def m_spec_IsWorld_b1 (w : YWorld) (s1 : Int) : Option (Int ⊕ (Unit ⊕ Bool)) :=
 cond (decide (s1 < (w.scans.length : Int)))
 ((getI w.scans s1).bind fun y9 =>
 (m_spec_IsScan w.network y9).bind fun y10 =>
 cond (!y10)
 (some (.inr (.inr false)))
 ((getI w.scans s1).bind fun y11 =>
 cond (decide (w.now < y11.at_))
 (some (.inr (.inr false)))
 (some (.inl (w64 (s1 + 1))))))
 (some (.inr (.inl ())))
instance (w : YWorld) : LoopE (m_spec_IsWorld_b1 w) := ⟨fun s1 => (.un :: .be 0 0 0 :: .un :: .un :: vi s1 :: .un :: .un :: .un :: .un :: .un :: .un :: .un :: .un :: .un :: .un :: .un :: .un :: .un :: .un :: .un :: .un :: .un :: .un :: .un :: .un :: .un :: .un :: .un :: .un :: .un :: .un :: .un :: .un :: .un :: .un :: .un :: .un :: .un :: .un :: .un :: .un :: .un :: .un :: .un :: .un :: .un :: .un :: .un :: .un :: .un :: .un :: .un :: .un :: .un :: .un :: .un :: .un :: .un :: .un :: .un :: .un :: .un :: .un :: .un :: .un :: .un :: .un :: .un :: .un :: .un :: .un :: .un :: .un :: .un :: .un :: .un :: .un :: .un :: .un :: .un :: .un :: .un :: .un :: .un :: .un :: .un :: .un :: .un :: .un :: .un :: .un :: .un :: .un :: .un :: .un :: .un :: .un :: .un :: .un :: .un :: .un :: .un :: .un :: .un :: .un :: .un :: .un :: .un :: .un :: .un :: .un :: .un :: .un :: .un :: .un :: .un :: .un :: .un :: .un :: .un :: .un :: .un :: .un :: .un :: .un :: .un :: .un :: .un :: .un :: .un :: .un :: .un :: .un :: .un :: .un :: .un :: .un :: .un :: .un :: []), fun s1 => [some ⟨49, 10, [[.sl (w.network.legs.map cLeg), .sl (w.network.off.map cInt), vi w.network.change, .sl (w.orders.map cOrder), .sl (w.bookings.map cBooking), .sl (w.closed.map cTrip), vi w.now, .sl (w.scans.map cScan), .sl (w.skip.map cInt), vi w.made]]⟩]⟩
def m_spec_IsWorld_b2 (w : YWorld) (s2 : Int × Int) : Option ((Int × Int) ⊕ (Int ⊕ Bool)) :=
 cond (decide (s2.2 < (w.orders.length : Int)))
 ((m_spec_l10Order w s2.2).bind fun y12 =>
 cond (!y12)
 (some (.inr (.inr false)))
 ((getI w.orders s2.2).bind fun y13 =>
 some (.inl ((w64 (s2.1 + (y13.way.length : Int))), (w64 (s2.2 + 1))))))
 (some (.inr (.inl s2.1)))
instance (w : YWorld) : LoopE (m_spec_IsWorld_b2 w) := ⟨fun s2 => (.un :: .be 0 0 0 :: .un :: .un :: .un :: vi s2.1 :: vi s2.2 :: .un :: .un :: .un :: .un :: .un :: .un :: .un :: .un :: .un :: .un :: .un :: .un :: .un :: .un :: .un :: .un :: .un :: .un :: .un :: .un :: .un :: .un :: .un :: .un :: .un :: .un :: .un :: .un :: .un :: .un :: .un :: .un :: .un :: .un :: .un :: .un :: .un :: .un :: .un :: .un :: .un :: .un :: .un :: .un :: .un :: .un :: .un :: .un :: .un :: .un :: .un :: .un :: .un :: .un :: .un :: .un :: .un :: .un :: .un :: .un :: .un :: .un :: .un :: .un :: .un :: .un :: .un :: .un :: .un :: .un :: .un :: .un :: .un :: .un :: .un :: .un :: .un :: .un :: .un :: .un :: .un :: .un :: .un :: .un :: .un :: .un :: .un :: .un :: .un :: .un :: .un :: .un :: .un :: .un :: .un :: .un :: .un :: .un :: .un :: .un :: .un :: .un :: .un :: .un :: .un :: .un :: .un :: .un :: .un :: .un :: .un :: .un :: .un :: .un :: .un :: .un :: .un :: .un :: .un :: .un :: .un :: .un :: .un :: .un :: .un :: .un :: .un :: .un :: .un :: .un :: .un :: .un :: []), fun s2 => [some ⟨49, 10, [[.sl (w.network.legs.map cLeg), .sl (w.network.off.map cInt), vi w.network.change, .sl (w.orders.map cOrder), .sl (w.bookings.map cBooking), .sl (w.closed.map cTrip), vi w.now, .sl (w.scans.map cScan), .sl (w.skip.map cInt), vi w.made]]⟩]⟩
def m_spec_IsWorld (w : YWorld) : Option Bool :=
 (m_spec_AreBookings w.network w.bookings).bind fun y1 =>
 cond (!y1)
 (some false)
 ((m_spec_l1In w.now 0 100000).bind fun y2 =>
 cond (!y2)
 (some false)
 (cond (decide (30 < (w.orders.length : Int)))
 (some false)
 (cond (decide (20 < (w.closed.length : Int)))
 (some false)
 (cond (decide (200 < (w.scans.length : Int)))
 (some false)
 (cond (decide (50 < (w.skip.length : Int)))
 (some false)
 ((m_spec_l1In w.made (w.scans.length : Int) 1000000000).bind fun y3 =>
 cond (!y3)
 (some false)
 ((iterF (m_spec_IsWorld_b0 w) NN 0).bind (selim (fun o0 =>
 (iterF (m_spec_IsWorld_b1 w) NN 0).bind (selim (fun o1 =>
 (iterF (m_spec_IsWorld_b2 w) NN (0, 0)).bind (selim (fun o2 =>
 some (decide (o2 = (w.bookings.length : Int)))) (fun r => some r))) (fun r => some r))) (fun r => some r)))))))))
theorem ok_spec_IsWorld (w : YWorld) {r : Bool} (H : m_spec_IsWorld w = some r) : CallM Tryz.prog 41 [.ag (cWorld w)] [] (vb r) [] := by
  replace H := H0 H
  unfold m_spec_IsWorld at H
  refine callM_of Tryz.func41 rfl Tryz.ntmps41 Tryz.results41 fun Q hQ hQn => ?_
  exact wk
instance (w : YWorld) : CT Tryz.prog (m_spec_IsWorld w) := ⟨41, [.ag (cWorld w)], [], fun r => vb r, fun r => [], ok_spec_IsWorld w⟩
end Go.Proofs.YtjkpcfbmmkmoaaaGreat

/- The two sides' tests of orders and worlds answer alike. -/
namespace Go.Proofs.YtjkpcfbmmkmoaaaGreat
set_option maxRecDepth 10000
open Go.RowKit
set_option linter.unusedVariables false
set_option linter.unusedSimpArgs false
set_option linter.unusedSectionVars false
/-- All of a list, the index at hand. -/
def allI {α : Type} (c : Nat → α → Bool) : Nat → List α → Bool
  | _, [] => true
  | i, x :: xs => c i x && allI c (i + 1) xs
theorem allI_iff {α : Type} {c : Nat → α → Bool} : ∀ {xs : List α} {i : Nat}, allI c i xs = true ↔ ∀ (j : Nat) (x : α), xs[j]? = some x → c (i + j) x = true
  | [], i => by simp [allI]
  | x :: xs, i => by
    simp only [allI, Bool.and_eq_true, allI_iff]
    constructor
    · rintro ⟨h1, h2⟩ j y hj
      cases j with
      | zero => obtain rfl : x = y := by simpa using hj
                exact h1
      | succ j => have := h2 j y (by simpa using hj); rwa [Nat.add_right_comm] at this
    · intro h
      exact ⟨h 0 x rfl, fun j y hj => by have := h (j + 1) y (by simpa using hj); rwa [← Nat.add_assoc, Nat.add_right_comm] at this⟩
theorem allI_and {α : Type} (c d : Nat → α → Bool) : ∀ (xs : List α) (i : Nat), allI (fun i x => c i x && d i x) i xs = (allI c i xs && allI d i xs)
  | [], i => rfl
  | x :: xs, i => by
    simp only [allI, allI_and c d xs (i + 1)]
    cases c i x <;> cases d i x <;> cases allI c (i + 1) xs <;> cases allI d (i + 1) xs <;> rfl
theorem allI_congr {α : Type} {c d : Nat → α → Bool} {xs : List α} {i : Nat} (h : ∀ (j : Nat) (x : α), xs[j]? = some x → c (i + j) x = d (i + j) x) : allI c i xs = allI d i xs := by
  rw [Bool.eq_iff_iff, allI_iff, allI_iff]
  exact ⟨fun H j x hx => by rw [← h j x hx]; exact H j x hx, fun H j x hx => by rw [h j x hx]; exact H j x hx⟩
theorem iter_fold {A α σ γ : Type} {xs : List α} {body : σ → Option (σ ⊕ (γ ⊕ Bool))} (mk : A → Int → σ) (c : Nat → α → Bool) (f : A → α → A) (g : A → γ)
    (h1 : ∀ a (i : Nat) x, xs[i]? = some x → body (mk a i) = some (if c i x = true then .inl (mk (f a x) ((i + 1 : Nat) : Int)) else .inr (.inr false)))
    (h2 : ∀ a, body (mk a (xs.length : Int)) = some (.inr (.inl (g a)))) (hN : xs.length < NN) (a : A) : iterF body NN (mk a 0) = some (if allI c 0 xs = true then .inl (g (xs.foldl f a)) else .inr false) := by
  rw [iter_list mk (fun i a x => some (if c i x = true then .inl (f a x) else .inr (.inr false))) (fun a => some (.inl (g a))) (fun a i x hx => by rw [h1 a i x hx]; cases c i x <;> rfl) (fun a => by rw [h2 a]; rfl) hN a]
  have key : ∀ (xs : List α) (i : Nat) (a : A), runL (fun i a x => some (if c i x = true then (.inl (f a x) : A ⊕ (γ ⊕ Bool)) else .inr (.inr false))) (fun a => some (.inl (g a))) i xs a = some (if allI c i xs = true then .inl (g (xs.foldl f a)) else .inr false) := by
    intro xs
    induction xs with
    | nil => intro i a; rfl
    | cons x xs ih =>
      intro i a
      simp only [runL, allI]
      by_cases hcx : c i x = true
      · simp only [hcx, if_true, Option.bind_some, selim, ih, Bool.true_and, List.foldl_cons]
      · simp only [Bool.not_eq_true] at hcx
        simp [hcx]
  exact key xs 0 a
/-! The parts of an order's test. -/
def tripB (n : YNetwork) (t : YTrip) : Bool := (m_spec_l3Runs n t.leg t.day).getD false
def legTo (n : YNetwork) (t : YTrip) : ByteArray := ((getI n.legs t.leg).map (·.to_)).getD ⟨#[]⟩
def closedB (l : List YTrip) (t : YTrip) : Bool := l.any fun y => decide (y = t)
theorem tripB_v {n : YNetwork} (h : NetFit n) (t : YTrip) : m_spec_l3Runs n t.leg t.day = some (tripB n t) := by
  obtain ⟨_, b, hb⟩ := runs_eq h t.leg t.day
  unfold tripB; rw [hb]; rfl
theorem tripB_leg {n : YNetwork} (h : NetFit n) {t : YTrip} (ht : tripB n t = true) : ∃ y, getI n.legs t.leg = some y ∧ y ∈ n.legs := by
  have := tripB_v h t
  rw [ht] at this
  obtain ⟨y, hy⟩ := runs_leg h this
  exact ⟨y, hy, getI_mem hy⟩
def wayC (w : YWorld) (id : Int) (o : YOrder) (i : Nat) (t : YTrip) : Bool := tripB w.network t && bookedB w.bookings id t o.weight && !(decide (legTo w.network t = o.to_) && decide (i + 1 < o.way.length))
def endV (n : YNetwork) (o : YOrder) : ByteArray := o.way.foldl (fun _ t => legTo n t) o.from_
def comesV (o : YOrder) : Int := if o.state = 2 then o.gone + 1 else o.gone
def orderV (w : YWorld) (i : Nat) (o : YOrder) : Bool :=
  !decide (idxV (placesV w.network) o.from_ < 0) && !decide (idxV (placesV w.network) o.to_ < 0) && !decide (o.from_ = o.to_) && (decide (1 ≤ o.service) && decide (o.service ≤ 3)) && (decide (1 ≤ o.weight) && decide (o.weight ≤ 30000)) && (decide (0 ≤ o.at_) && decide (o.at_ ≤ w.now)) && (decide (0 ≤ o.due) && decide (o.due ≤ 200000)) && (decide (0 ≤ o.gone) && decide (o.gone ≤ (o.way.length : Int))) &&
    allI (wayC w ((i + 1 : Nat) : Int) o) 0 o.way && (m_spec_IsWay w.network o.way o.from_ (endV w.network o) (w64 (o.at_ + 1))).getD false && (m_spec_l10State w.network o w.now).getD false && !((o.way.drop (comesV o).toNat).any (closedB w.closed))
structure WFit (w : YWorld) : Prop where
  net : NetFit w.network
  orders : w.orders.length ≤ 1048576
  bookings : w.bookings.length ≤ 1048576
  closed : w.closed.length ≤ 1048576
  scans : w.scans.length ≤ 1048576
  skip : w.skip.length ≤ 1048576
  way : ∀ o ∈ w.orders, o.way.length ≤ 1048576
theorem state_some {n : YNetwork} {o : YOrder} (hg : 0 ≤ o.gone ∧ o.gone ≤ o.way.length) (hl : o.way.length ≤ 1048576) (hw : ∀ t ∈ o.way, ∃ y, getI n.legs t.leg = some y) (now : Int) : ∃ b, m_spec_l10State n o now = some b := by
  have hat : ∀ (i : Int), 0 ≤ i → i < o.way.length → ∃ t y, getI o.way i = some t ∧ getI n.legs t.leg = some y := by
    intro i h0 h1
    have hlt : i.toNat < o.way.length := by omega
    obtain ⟨y, hy⟩ := hw o.way[i.toNat] (List.getElem_mem hlt)
    exact ⟨o.way[i.toNat], y, by unfold getI; rw [if_pos h0]; exact List.getElem?_eq_getElem hlt, hy⟩
  have hw1 : w64 (o.gone - 1) = o.gone - 1 := w64_in (by omega)
  have hend : o.gone < o.way.length → ∃ t s e, getI o.way o.gone = some t ∧ m_spec_l3Starts n t = some s ∧ m_spec_l3Ends n t = some e := by
    intro h1
    obtain ⟨t, y, ht, hy⟩ := hat o.gone hg.1 h1
    obtain ⟨s, hs⟩ := starts_some hy
    obtain ⟨e, he⟩ := ends_some hy
    exact ⟨t, s, e, ht, hs, he⟩
  unfold m_spec_l10State
  rw [hw1]
  by_cases h0 : 0 < o.gone
  · rw [decide_eq_true h0, cond_true]
    obtain ⟨t, y, ht, hy⟩ := hat (o.gone - 1) (by omega) (by omega)
    obtain ⟨e, he⟩ := ends_some hy
    simp only [ht, hy, he, Option.bind_some]
    cases decide (now < e) with
    | true => exact ⟨_, rfl⟩
    | false =>
      simp only [cond_false]
      by_cases h1 : o.gone < o.way.length
      · obtain ⟨t2, s2, e2, ht2, hs2, he2⟩ := hend h1
        simp only [ht2, hs2, he2, Option.bind_some]
        cases decide (o.state = 1) <;> cases decide (o.state = 2) <;> cases decide (o.state = 3) <;> cases decide (o.place = y.to_) <;> cases decide (y.to_ = o.to_) <;> cases decide (o.ended = 0) <;> cases decide (o.gone = (o.way.length : Int)) <;> cases decide (o.place = ⟨#[]⟩) <;> cases decide (o.gone < (o.way.length : Int)) <;> cases decide (s2 ≤ now) <;> cases decide (o.place = o.to_) <;> exact ⟨_, rfl⟩
      · rw [decide_eq_true (show o.gone = (o.way.length : Int) by omega), decide_eq_false h1]
        cases decide (o.state = 1) <;> cases decide (o.state = 2) <;> cases decide (o.state = 3) <;> cases decide (o.place = y.to_) <;> cases decide (y.to_ = o.to_) <;> cases decide (o.ended = 0) <;> cases decide (o.place = ⟨#[]⟩) <;> cases decide (o.place = o.to_) <;> exact ⟨_, rfl⟩
  · rw [decide_eq_false h0, cond_false]
    by_cases h1 : o.gone < o.way.length
    · obtain ⟨t2, s2, e2, ht2, hs2, he2⟩ := hend h1
      simp only [ht2, hs2, he2, Option.bind_some]
      cases decide (o.state = 1) <;> cases decide (o.state = 2) <;> cases decide (o.state = 3) <;> cases decide (o.place = o.from_) <;> cases decide (o.from_ = o.to_) <;> cases decide (o.ended = 0) <;> cases decide (o.gone = (o.way.length : Int)) <;> cases decide (o.place = ⟨#[]⟩) <;> cases decide (o.gone < (o.way.length : Int)) <;> cases decide (s2 ≤ now) <;> cases decide (o.place = o.to_) <;> exact ⟨_, rfl⟩
    · rw [decide_eq_true (show o.gone = (o.way.length : Int) by omega), decide_eq_false h1]
      cases decide (o.state = 1) <;> cases decide (o.state = 2) <;> cases decide (o.state = 3) <;> cases decide (o.place = o.from_) <;> cases decide (o.from_ = o.to_) <;> cases decide (o.ended = 0) <;> cases decide (o.place = ⟨#[]⟩) <;> cases decide (o.place = o.to_) <;> exact ⟨_, rfl⟩
/-- The loop that looks for a closed trip, from an index on. -/
theorem closed_loop {w : YWorld} (hc : w.closed.length ≤ 1048576) {o : YOrder} (hl : o.way.length ≤ 1048576) {k : Int} (h0 : 0 ≤ k) : iterF (m_spec_l10Order_b1 w o) NN k = some (if (o.way.drop k.toNat).any (closedB w.closed) = true then .inr false else .inl ()) := by
  have key : ∀ (ts : List YTrip) (i N : Nat), o.way.drop i = ts → ts.length < N → iterF (m_spec_l10Order_b1 w o) N (i : Int) = some (if ts.any (closedB w.closed) = true then .inr false else .inl ()) := by
    intro ts
    induction ts with
    | nil =>
      intro i N hd hN
      cases N with
      | zero => omega
      | succ N =>
        have : o.way.length ≤ i := by have := congrArg List.length hd; simp at this; omega
        simp only [iterF, m_spec_l10Order_b1]
        rw [decide_eq_false (show ¬ (i : Int) < o.way.length by omega)]
        rfl
    | cons t ts ih =>
      intro i N hd hN
      cases N with
      | zero => simp at hN
      | succ N =>
        have ht : o.way[i]? = some t := by
          have := congrArg (fun l : List YTrip => l[0]?) hd
          simpa using this
        have hlt := (List.getElem?_eq_some_iff.1 ht).1
        have hd' : o.way.drop (i + 1) = ts := by
          have := congrArg (List.drop 1) hd
          simpa [List.drop_drop] using this
        have hg : getI o.way (i : Int) = some t := by rw [getI_nat]; exact ht
        simp only [iterF, m_spec_l10Order_b1]
        rw [decide_eq_true (show (i : Int) < o.way.length by omega), cond_true, hg]
        simp only [Option.bind_some]
        rw [l6Closed_eq, hasTrip_v hc, w64_nat hlt (by omega)]
        have hcd : (w.closed.any fun y => decide (y = t)) = closedB w.closed t := rfl
        rw [hcd]
        by_cases hcl : closedB w.closed t = true
        · simp [hcl, List.any_cons]
        · simp only [Bool.not_eq_true] at hcl
          simp only [hcl, List.any_cons, Option.bind_some, cond_false, selim, Bool.false_or]
          exact ih (i + 1) N hd' (by simp at hN; omega)
  have := key (o.way.drop k.toNat) k.toNat NN rfl (by simp; unfold NN; omega)
  rw [show ((k.toNat : Nat) : Int) = k by omega] at this
  exact this
/-- What is closed from an index on, asked trip by trip. -/
theorem closed_drop (cl : YTrip → Bool) (k : Int) : ∀ (ts : List YTrip) (i : Nat), allI (fun i t => !(decide (k ≤ (i : Int)) && cl t)) i ts = !((ts.drop (k - i).toNat).any cl)
  | [], i => by simp [allI]
  | t :: ts, i => by
    simp only [allI, closed_drop cl k ts (i + 1)]
    by_cases h : k ≤ (i : Int)
    · rw [decide_eq_true h, show (k - (i : Int)).toNat = 0 by omega, show (k - ((i + 1 : Nat) : Int)).toNat = 0 by omega]
      simp
    · rw [decide_eq_false h]
      obtain ⟨m, hm⟩ : ∃ m, (k - (i : Int)).toNat = m + 1 := ⟨(k - (i : Int)).toNat - 1, by omega⟩
      rw [hm, show (k - ((i + 1 : Nat) : Int)).toNat = m by omega]
      simp
theorem comes_v {o : YOrder} (h : 0 ≤ o.gone ∧ o.gone ≤ o.way.length) (hl : o.way.length ≤ 1048576) : m_spec_l10Coming o = some (comesV o) ∧ 0 ≤ comesV o ∧ m_impl_toCome o = some (if (o.way.length : Int) < comesV o then (o.way.length : Int) else comesV o) := by
  unfold m_spec_l10Coming m_impl_toCome comesV
  have hw : w64 (o.gone + 1) = o.gone + 1 := w64_in (by omega)
  simp only [hw]
  by_cases h2 : o.state = 2
  · rw [decide_eq_true h2, if_pos h2]; exact ⟨rfl, by omega, rfl⟩
  · rw [decide_eq_false h2, if_neg h2]; exact ⟨rfl, by omega, by rw [if_neg (show ¬ (o.way.length : Int) < o.gone by omega)]; rfl⟩
section
variable {w : YWorld} (hf : WFit w) (hb : booksV w.network w.bookings = true)
include hf hb
theorem way_spec {o : YOrder} (hl : o.way.length ≤ 1048576) (i : Nat) (hi : i < 1048576) : iterF (m_spec_l10Order_b0 w (i : Int) o) NN (o.from_, 0) = some (if allI (wayC w ((i + 1 : Nat) : Int) o) 0 o.way = true then .inl (endV w.network o) else .inr false) := by
  refine iter_fold (A := ByteArray) (fun a i => (a, i)) _ (fun _ t => legTo w.network t) id (fun a j t ht => ?_) (fun a => ?_) (by unfold NN; omega) o.from_
  · have hlt := (List.getElem?_eq_some_iff.1 ht).1
    have hg : getI o.way (j : Int) = some t := by rw [getI_nat]; exact ht
    have hj : w64 ((j : Int) + 1) = ((j + 1 : Nat) : Int) := w64_nat hlt (by omega)
    have hi1 : w64 ((i : Int) + 1) = ((i + 1 : Nat) : Int) := by rw [w64_in (by omega)]; omega
    unfold m_spec_l10Order_b0
    simp only [decide_eq_true (show (j : Int) < o.way.length by omega), cond_true, hg, Option.bind_some, hj, hi1, tripB_v hf.net, booked_v hf.bookings]
    unfold wayC
    cases ht' : tripB w.network t with
    | false => simp
    | true =>
      obtain ⟨y, hy, _⟩ := tripB_leg hf.net ht'
      have hlt' : legTo w.network t = y.to_ := by unfold legTo; rw [hy]; rfl
      simp only [hy, Option.bind_some, hlt', Bool.not_true, cond_false]
      cases bookedB w.bookings ((i + 1 : Nat) : Int) t o.weight with
      | false => simp
      | true =>
        simp only [Bool.not_true, cond_false, Bool.true_and]
        by_cases h1 : y.to_ = o.to_
        · by_cases h2 : j + 1 < o.way.length
          · simp [h1, h2, show ((j : Int) + 1) < o.way.length by omega]
          · simp [h1, h2, show ¬ ((j : Int) + 1) < o.way.length by omega]
        · simp [h1]
  · unfold m_spec_l10Order_b0
    simp
theorem way_impl {o : YOrder} (hl : o.way.length ≤ 1048576) (i : Nat) (hi : i < 1048576) (ho : getI w.orders (i : Int) = some o) (hg0 : 0 ≤ o.gone ∧ o.gone ≤ o.way.length) :
    iterF (m_impl_isOrder_b0 w ((i + 1 : Nat) : Int) o) NN (o.from_, 0) = some (if (allI (wayC w ((i + 1 : Nat) : Int) o) 0 o.way && !((o.way.drop (comesV o).toNat).any (closedB w.closed))) = true then .inl (endV w.network o) else .inr false) := by
  obtain ⟨c1, c2, c3⟩ := comes_v hg0 hl
  have hcl : (!((o.way.drop (comesV o).toNat).any (closedB w.closed))) = allI (fun j t => !(decide ((if (o.way.length : Int) < comesV o then (o.way.length : Int) else comesV o) ≤ (j : Int)) && closedB w.closed t)) 0 o.way := by
    rw [closed_drop]
    congr 2
    split
    · rename_i h
      rw [List.drop_eq_nil_of_le (by omega), List.drop_eq_nil_of_le (by omega)]
    · congr 1; omega
  rw [hcl, ← allI_and]
  have hnet := (books_net hb).1
  refine iter_fold (A := ByteArray) (fun a i => (a, i)) _ (fun _ t => legTo w.network t) id (fun a j t ht => ?_) (fun a => ?_) (by unfold NN; omega) o.from_
  · have hlt := (List.getElem?_eq_some_iff.1 ht).1
    have hg : getI o.way (j : Int) = some t := by rw [getI_nat]; exact ht
    have hj : w64 ((j : Int) + 1) = ((j + 1 : Nat) : Int) := w64_nat hlt (by omega)
    have hw1 : w64 ((o.way.length : Int) - 1) = (o.way.length : Int) - 1 := w64_in (by omega)
    have ho' : getI w.orders (w64 (((i + 1 : Nat) : Int) - 1)) = some o := by rw [w64_in (by omega), show ((i + 1 : Nat) : Int) - 1 = (i : Int) by omega]; exact ho
    unfold m_impl_isOrder_b0
    simp only [decide_eq_true (show (j : Int) < o.way.length by omega), cond_true, hg, Option.bind_some, hj, hw1, isTrip_v hf.net hnet, tripB_v hf.net, hasBooking_v hf.bookings (books_uniq hb) ho', c3, hasTrip_v hf.closed]
    unfold wayC
    cases ht' : tripB w.network t with
    | false => simp
    | true =>
      obtain ⟨y, hy, _⟩ := tripB_leg hf.net ht'
      have hlt' : legTo w.network t = y.to_ := by unfold legTo; rw [hy]; rfl
      simp only [hy, Option.bind_some, hlt', Bool.not_true, cond_false]
      cases bookedB w.bookings ((i + 1 : Nat) : Int) t o.weight with
      | false => simp
      | true =>
        simp only [Bool.not_true, cond_false, Bool.true_and]
        generalize (if (o.way.length : Int) < comesV o then (o.way.length : Int) else comesV o) = k
        have hcc : closedB w.closed t = w.closed.any fun y => decide (y = t) := rfl
        rw [hcc]
        by_cases h3 : k ≤ (j : Int)
        · rw [decide_eq_true h3, cond_true]
          cases w.closed.any fun y => decide (y = t) with
          | true => simp
          | false =>
            simp only [cond_false]
            by_cases h1 : y.to_ = o.to_
            · by_cases h2 : j + 1 < o.way.length
              · simp [h1, h2, show (j : Int) < (o.way.length : Int) - 1 by omega]
              · simp [h1, h2, show ¬ (j : Int) < (o.way.length : Int) - 1 by omega]
            · simp [h1]
        · rw [decide_eq_false h3, cond_false]
          by_cases h1 : y.to_ = o.to_
          · by_cases h2 : j + 1 < o.way.length
            · simp [h1, h2, show (j : Int) < (o.way.length : Int) - 1 by omega]
            · simp [h1, h2, show ¬ (j : Int) < (o.way.length : Int) - 1 by omega]
          · simp [h1]
  · unfold m_impl_isOrder_b0
    simp
theorem way_state {o : YOrder} (hl : o.way.length ≤ 1048576) {i : Nat} (hg0 : 0 ≤ o.gone ∧ o.gone ≤ o.way.length) (h : allI (wayC w ((i + 1 : Nat) : Int) o) 0 o.way = true) : m_spec_l10State w.network o w.now = some ((m_spec_l10State w.network o w.now).getD false) := by
  obtain ⟨b, hb'⟩ := state_some (n := w.network) hg0 hl (fun t ht => by
    obtain ⟨j, hj, rfl⟩ := List.getElem_of_mem ht
    have := allI_iff.1 h j _ (List.getElem?_eq_getElem hj)
    unfold wayC at this
    simp only [Bool.and_eq_true] at this
    obtain ⟨y, hy, _⟩ := tripB_leg hf.net this.1.1
    exact ⟨y, hy⟩) w.now
  rw [hb']; rfl
theorem spec_order {o : YOrder} {i : Nat} (ho : getI w.orders (i : Int) = some o) : m_spec_l10Order w (i : Int) = some (orderV w i o) := by
  have hl := hf.way o (getI_mem ho)
  have hi : i < 1048576 := by have := (List.getElem?_eq_some_iff.1 (by rw [← getI_nat]; exact ho)).1; have := hf.orders; omega
  have hp := (places_eq hf.net).2
  have hpl := placesV_len w.network
  have hll := hf.net.legs
  unfold m_spec_l10Order orderV
  rw [ho, hp]
  simp only [Option.bind_some, l1In_v, l4Index_v (show (placesV w.network).length ≤ 4194304 by omega)]
  cases decide (idxV (placesV w.network) o.from_ < 0) with
  | true => rfl
  | false =>
  cases decide (idxV (placesV w.network) o.to_ < 0) with
  | true => rfl
  | false =>
  cases decide (o.from_ = o.to_) with
  | true => rfl
  | false =>
  simp only [cond_false, Bool.not_false, Bool.true_and]
  cases decide (1 ≤ o.service) && decide (o.service ≤ 3) with
  | false => rfl
  | true =>
  cases decide (1 ≤ o.weight) && decide (o.weight ≤ 30000) with
  | false => rfl
  | true =>
  cases decide (0 ≤ o.at_) && decide (o.at_ ≤ w.now) with
  | false => rfl
  | true =>
  cases decide (0 ≤ o.due) && decide (o.due ≤ 200000) with
  | false => rfl
  | true =>
  simp only [cond_false, Bool.not_true, Bool.true_and]
  cases hg : decide (0 ≤ o.gone) && decide (o.gone ≤ (o.way.length : Int)) with
  | false => rfl
  | true =>
  simp only [Bool.and_eq_true, decide_eq_true_iff] at hg
  obtain ⟨c1, c2, c3⟩ := comes_v hg hl
  simp only [Bool.not_true, cond_false, Bool.true_and]
  rw [way_spec hf hb hl i hi]
  cases hal : allI (wayC w ((i + 1 : Nat) : Int) o) 0 o.way with
  | false => rfl
  | true =>
  have hst := way_state hf hb hl hg hal
  obtain ⟨r, hr⟩ := isWay_some hf.net hl o.from_ (endV w.network o) (w64 (o.at_ + 1))
  simp only [if_true, Option.bind_some, selim, hr, Option.getD_some, Bool.true_and]
  cases r with
  | false => rfl
  | true =>
  rw [hst]
  simp only [Option.getD_some]
  cases (m_spec_l10State w.network o w.now).getD false with
  | false => rfl
  | true =>
  simp only [Bool.not_true, cond_false, Option.bind_some, c1, closed_loop hf.closed hl c2, Bool.true_and]
  cases (o.way.drop (comesV o).toNat).any (closedB w.closed) <;> rfl
theorem impl_order {o : YOrder} {i : Nat} (ho : getI w.orders (i : Int) = some o) : m_impl_isOrder w ((i + 1 : Nat) : Int) (placesV w.network) = some (orderV w i o) := by
  have hl := hf.way o (getI_mem ho)
  have hi : i < 1048576 := by have := (List.getElem?_eq_some_iff.1 (by rw [← getI_nat]; exact ho)).1; have := hf.orders; omega
  have hpl := placesV_len w.network
  have hll := hf.net.legs
  have ho' : getI w.orders (w64 (((i + 1 : Nat) : Int) - 1)) = some o := by rw [w64_in (by omega), show ((i + 1 : Nat) : Int) - 1 = (i : Int) by omega]; exact ho
  unfold m_impl_isOrder orderV
  rw [ho', within_eq, placeAt_eq]
  simp only [Option.bind_some, l1In_v, l4Index_v (show (placesV w.network).length ≤ 4194304 by omega)]
  cases decide (o.from_ = o.to_) with
  | true => simp only [cond_true, Bool.not_true, Bool.and_false, Bool.false_and]
  | false =>
  cases decide (idxV (placesV w.network) o.from_ < 0) with
  | true => rfl
  | false =>
  cases decide (idxV (placesV w.network) o.to_ < 0) with
  | true => rfl
  | false =>
  simp only [cond_false, Bool.not_false, Bool.true_and]
  cases decide (1 ≤ o.service) && decide (o.service ≤ 3) with
  | false => rfl
  | true =>
  cases decide (1 ≤ o.weight) && decide (o.weight ≤ 30000) with
  | false => rfl
  | true =>
  cases decide (0 ≤ o.at_) && decide (o.at_ ≤ w.now) with
  | false => rfl
  | true =>
  cases decide (0 ≤ o.due) && decide (o.due ≤ 200000) with
  | false => rfl
  | true =>
  simp only [cond_false, Bool.not_true, Bool.true_and]
  cases hg : decide (0 ≤ o.gone) && decide (o.gone ≤ (o.way.length : Int)) with
  | false => rfl
  | true =>
  simp only [Bool.and_eq_true, decide_eq_true_iff] at hg
  simp only [Bool.not_true, cond_false, Bool.true_and]
  rw [way_impl hf hb hl i hi ho hg]
  cases hal : allI (wayC w ((i + 1 : Nat) : Int) o) 0 o.way with
  | false => rfl
  | true =>
  have hst := way_state hf hb hl hg hal
  obtain ⟨r, hr⟩ := isWay_some hf.net hl o.from_ (endV w.network o) (w64 (o.at_ + 1))
  simp only [Bool.true_and]
  rw [hr]
  cases (o.way.drop (comesV o).toNat).any (closedB w.closed) with
  | true => simp
  | false =>
  simp only [Bool.not_false, if_true, Option.bind_some, selim, isWay_eq hf.net, hr, Option.getD_some, Bool.true_and, state_eq, Bool.and_true]
  cases r with
  | false => rfl
  | true =>
  rw [hst]
  rfl
end
end Go.Proofs.YtjkpcfbmmkmoaaaGreat

/- The mirror of impl_AreZones, and that the code does just that (printed by a program of my own). -/
namespace Go.Proofs.YtjkpcfbmmkmoaaaGreat
set_option maxRecDepth 10000
open Go.RowKit
set_option linter.unusedVariables false
set_option maxHeartbeats 16000000
def m_impl_AreZones_b0 (l : List YZone) (s0 : Int) : Option (Int ⊕ (Unit ⊕ Bool)) :=
 cond (decide (s0 < (l.length : Int)))
 ((jn 3 6 (
 (getI l s0).bind fun y1 =>
 (m_impl_IsPlace y1.first).bind fun y2 =>
 cond (!y2)
 (some (.inr false))
 ((m_impl_IsPlace y1.last).bind fun y3 =>
 cond (!y3)
 (some (.inr false))
 (cond (!sLe y1.first y1.last)
 (some (.inr false))
 (cond (decide (0 < s0))
 ((getI l (w64 (s0 - 1))).bind fun y4 =>
 cond (sLe y1.first y4.last)
 (some (.inr false))
 (some (.inl ())))
 (some (.inl ()))))) : Option (Unit ⊕ Bool)) (fun z5 => [.sl (l.map cZone), .un, .un, .un, .un, .sl (l.map cZone), vi (l.length : Int), vi s0, .un, .un, .un, .un, .un, .un, .un, .un, .un, .un, .un, .un, .un, .un, .un, .un, .un, .un, .un, .un, .un, .un, .un, .un, .un, .un, .un, .un, .un, .un, .un, .un, .un, .un, .un, .un, .un, .un, .un, .un]) (fun z5 => [])).bind (selim (fun z5 =>
 some (.inl (w64 (s0 + 1)))) (fun r => some (.inr (.inr r)))))
 (some (.inr (.inl ())))
instance (l : List YZone) : LoopE (m_impl_AreZones_b0 l) := ⟨fun s0 => [.sl (l.map cZone), .un, .un, .un, .un, .sl (l.map cZone), vi (l.length : Int), vi s0, .un, .un, .un, .un, .un, .un, .un, .un, .un, .un, .un, .un, .un, .un, .un, .un, .un, .un, .un, .un, .un, .un, .un, .un, .un, .un, .un, .un, .un, .un, .un, .un, .un, .un, .un, .un, .un, .un, .un, .un], fun s0 => []⟩
def m_impl_AreZones (l : List YZone) : Option Bool :=
 (iterF (m_impl_AreZones_b0 l) NN 0).bind (selim (fun o0 =>
 some (decide ((l.length : Int) ≤ 8))) (fun r => some r))
theorem ok_impl_AreZones (l : List YZone) {r : Bool} (H : m_impl_AreZones l = some r) : CallM Tryz.prog 52 [.sl (l.map cZone)] [] (vb r) [] := by
  replace H := H0 H
  unfold m_impl_AreZones at H
  refine callM_of Tryz.func52 rfl Tryz.ntmps52 Tryz.results52 fun Q hQ hQn => ?_
  exact wk2
instance (l : List YZone) : CT Tryz.prog (m_impl_AreZones l) := ⟨52, [.sl (l.map cZone)], [], fun r => vb r, fun r => [], ok_impl_AreZones l⟩
end Go.Proofs.YtjkpcfbmmkmoaaaGreat

/- The mirror of impl_AreRates, and that the code does just that (printed by a program of my own). -/
namespace Go.Proofs.YtjkpcfbmmkmoaaaGreat
set_option maxRecDepth 10000
open Go.RowKit
set_option linter.unusedVariables false
set_option maxHeartbeats 16000000
def m_impl_AreRates_b0 (l : List YRate) (zones : Int) (s0 : Int) : Option (Int ⊕ (Unit ⊕ Bool)) :=
 cond (decide (s0 < (l.length : Int)))
 ((jn 3 12 (
 (getI l s0).bind fun y1 =>
 cond (decide (y1.zone < 0))
 (some (.inr false))
 (cond (decide (zones ≤ y1.zone))
 (some (.inr false))
 ((m_impl_within y1.service 1 3).bind fun y2 =>
 cond (!y2)
 (some (.inr false))
 ((m_impl_within y1.limit 1 1000000000).bind fun y3 =>
 cond (!y3)
 (some (.inr false))
 ((m_impl_within y1.price 0 100000).bind fun y4 =>
 cond (!y4)
 (some (.inr false))
 (cond (decide (s0 = 0))
 (some (.inl ()))
 ((getI l (w64 (s0 - 1))).bind fun y5 =>
 (m_impl_compareInts y5.zone y1.zone).bind fun y6 =>
 (m_impl_compareInts y5.service y1.service).bind fun y7 =>
 (m_impl_compareInts y5.limit y1.limit).bind fun y8 =>
 (m_impl_first ([y6, y7, y8])).bind fun y9 =>
 cond (decide (0 ≤ y9))
 (some (.inr false))
 (cond (decide (y5.zone = y1.zone))
 (cond (decide (y5.service = y1.service))
 (cond (decide (y1.price < y5.price))
 (some (.inr false))
 (some (.inl ())))
 (some (.inl ())))
 (some (.inl ()))))))))) : Option (Unit ⊕ Bool)) (fun z10 => (.sl (l.map cRate) :: vi zones :: .un :: .un :: .un :: .un :: .un :: .un :: .sl (l.map cRate) :: vi (l.length : Int) :: vi s0 :: .un :: .un :: .un :: .un :: .un :: .un :: .un :: .un :: .un :: .un :: .un :: .un :: .un :: .un :: .un :: .un :: .un :: .un :: .un :: .un :: .un :: .un :: .un :: .un :: .un :: .un :: .un :: .un :: .un :: .un :: .un :: .un :: .un :: .un :: .un :: .un :: .un :: .un :: .un :: .un :: .un :: .un :: .un :: .un :: .un :: .un :: .un :: .un :: .un :: .un :: .un :: .un :: .un :: .un :: .un :: .un :: .un :: .un :: .un :: .un :: .un :: .un :: .un :: .un :: .un :: .un :: .un :: .un :: .un :: .un :: .un :: .un :: .un :: .un :: .un :: .un :: .un :: .un :: .un :: [])) (fun z10 => [])).bind (selim (fun z10 =>
 some (.inl (w64 (s0 + 1)))) (fun r => some (.inr (.inr r)))))
 (some (.inr (.inl ())))
instance (l : List YRate) (zones : Int) : LoopE (m_impl_AreRates_b0 l zones) := ⟨fun s0 => (.sl (l.map cRate) :: vi zones :: .un :: .un :: .un :: .un :: .un :: .un :: .sl (l.map cRate) :: vi (l.length : Int) :: vi s0 :: .un :: .un :: .un :: .un :: .un :: .un :: .un :: .un :: .un :: .un :: .un :: .un :: .un :: .un :: .un :: .un :: .un :: .un :: .un :: .un :: .un :: .un :: .un :: .un :: .un :: .un :: .un :: .un :: .un :: .un :: .un :: .un :: .un :: .un :: .un :: .un :: .un :: .un :: .un :: .un :: .un :: .un :: .un :: .un :: .un :: .un :: .un :: .un :: .un :: .un :: .un :: .un :: .un :: .un :: .un :: .un :: .un :: .un :: .un :: .un :: .un :: .un :: .un :: .un :: .un :: .un :: .un :: .un :: .un :: .un :: .un :: .un :: .un :: .un :: .un :: .un :: .un :: .un :: .un :: []), fun s0 => []⟩
def m_impl_AreRates (l : List YRate) (zones : Int) : Option Bool :=
 (iterF (m_impl_AreRates_b0 l zones) NN 0).bind (selim (fun o0 =>
 some (decide ((l.length : Int) ≤ 24))) (fun r => some r))
theorem ok_impl_AreRates (l : List YRate) (zones : Int) {r : Bool} (H : m_impl_AreRates l zones = some r) : CallM Tryz.prog 53 [.sl (l.map cRate), vi zones] [] (vb r) [] := by
  replace H := H0 H
  unfold m_impl_AreRates at H
  refine callM_of Tryz.func53 rfl Tryz.ntmps53 Tryz.results53 fun Q hQ hQn => ?_
  exact wk2
instance (l : List YRate) (zones : Int) : CT Tryz.prog (m_impl_AreRates l zones) := ⟨53, [.sl (l.map cRate), vi zones], [], fun r => vb r, fun r => [], ok_impl_AreRates l zones⟩
end Go.Proofs.YtjkpcfbmmkmoaaaGreat

/- The mirror of impl_ZoneOf, and that the code does just that (printed by a program of my own). -/
namespace Go.Proofs.YtjkpcfbmmkmoaaaGreat
set_option maxRecDepth 10000
open Go.RowKit
set_option linter.unusedVariables false
set_option maxHeartbeats 16000000
def m_impl_ZoneOf_b0 (l : List YZone) (place_ : ByteArray) (s0 : Int) : Option (Int ⊕ (Unit ⊕ Int)) :=
 cond (decide (s0 < (l.length : Int)))
 ((jn 5 8 (
 (getI l s0).bind fun y3 =>
 cond (sLe y3.first place_)
 (cond (sLe place_ y3.last)
 (some (.inr s0))
 (some (.inl ())))
 (some (.inl ())) : Option (Unit ⊕ Int)) (fun z4 => [.un, vs place_, .un, .un, .un, .un, .un, .un, .un, .un, .un, .un, .un, .un, .un, .sl (l.map cZone), vi (l.length : Int), vi s0, .un, .un, .un, .un, .un, .un, .un, .un, .un, .un, .un, .un, .un, .un, .un, .un]) (fun z4 => [])).bind (selim (fun z4 =>
 some (.inl (w64 (s0 + 1)))) (fun r => some (.inr (.inr r)))))
 (some (.inr (.inl ())))
instance (l : List YZone) (place_ : ByteArray) : LoopE (m_impl_ZoneOf_b0 l place_) := ⟨fun s0 => [.un, vs place_, .un, .un, .un, .un, .un, .un, .un, .un, .un, .un, .un, .un, .un, .sl (l.map cZone), vi (l.length : Int), vi s0, .un, .un, .un, .un, .un, .un, .un, .un, .un, .un, .un, .un, .un, .un, .un, .un], fun s0 => []⟩
def m_impl_ZoneOf (l : List YZone) (place_ : ByteArray) : Option Int :=
 (m_impl_AreZones l).bind fun y1 =>
 cond (!y1)
 (some (-1))
 ((m_impl_IsPlace place_).bind fun y2 =>
 cond (!y2)
 (some (-1))
 ((iterF (m_impl_ZoneOf_b0 l place_) NN 0).bind (selim (fun o0 =>
 some (-1)) (fun r => some r))))
theorem ok_impl_ZoneOf (l : List YZone) (place_ : ByteArray) {r : Int} (H : m_impl_ZoneOf l place_ = some r) : CallM Tryz.prog 142 [.sl (l.map cZone), vs place_] [] (vi r) [] := by
  replace H := H0 H
  unfold m_impl_ZoneOf at H
  refine callM_of Tryz.func142 rfl Tryz.ntmps142 Tryz.results142 fun Q hQ hQn => ?_
  exact wk2
instance (l : List YZone) (place_ : ByteArray) : CT Tryz.prog (m_impl_ZoneOf l place_) := ⟨142, [.sl (l.map cZone), vs place_], [], fun r => vi r, fun r => [], ok_impl_ZoneOf l place_⟩
end Go.Proofs.YtjkpcfbmmkmoaaaGreat

/- The mirror of impl_VolumeOf, and that the code does just that (printed by a program of my own). -/
namespace Go.Proofs.YtjkpcfbmmkmoaaaGreat
set_option maxRecDepth 10000
open Go.RowKit
set_option linter.unusedVariables false
set_option maxHeartbeats 16000000
def m_impl_VolumeOf (sides : List Int) : Option Int :=
 (m_impl_threeSides sides).bind fun y1 =>
 cond (!y1)
 (some 0)
 ((getI sides 0).bind fun y2 =>
 (getI sides 1).bind fun y3 =>
 (getI sides 2).bind fun y4 =>
 some (w64 ((w64 (y2 * y3)) * y4)))
theorem ok_impl_VolumeOf (sides : List Int) {r : Int} (H : m_impl_VolumeOf sides = some r) : CallM Tryz.prog 209 [.sl (sides.map cInt)] [] (vi r) [] := by
  replace H := H0 H
  unfold m_impl_VolumeOf at H
  refine callM_of Tryz.func209 rfl Tryz.ntmps209 Tryz.results209 fun Q hQ hQn => ?_
  exact wk2
instance (sides : List Int) : CT Tryz.prog (m_impl_VolumeOf sides) := ⟨209, [.sl (sides.map cInt)], [], fun r => vi r, fun r => [], ok_impl_VolumeOf sides⟩
end Go.Proofs.YtjkpcfbmmkmoaaaGreat

/- The mirror of impl_ChargeWeight, and that the code does just that (printed by a program of my own). -/
namespace Go.Proofs.YtjkpcfbmmkmoaaaGreat
set_option maxRecDepth 10000
open Go.RowKit
set_option linter.unusedVariables false
set_option maxHeartbeats 16000000
def m_impl_ChargeWeight (p : YParcel) : Option Int :=
 (m_impl_IsParcel p).bind fun y1 =>
 cond (!y1)
 (some 0)
 ((m_impl_VolumeOf p.sides).bind fun y2 =>
 some (if (IntKind.i64.wrap (Int.tdiv (w64 (y2 + 4999)) 5000)) > p.weight then (IntKind.i64.wrap (Int.tdiv (w64 (y2 + 4999)) 5000)) else p.weight))
theorem ok_impl_ChargeWeight (p : YParcel) {r : Int} (H : m_impl_ChargeWeight p = some r) : CallM Tryz.prog 143 [.ag (cParcel p)] [] (vi r) [] := by
  replace H := H0 H
  unfold m_impl_ChargeWeight at H
  refine callM_of Tryz.func143 rfl Tryz.ntmps143 Tryz.results143 fun Q hQ hQn => ?_
  exact wk2
instance (p : YParcel) : CT Tryz.prog (m_impl_ChargeWeight p) := ⟨143, [.ag (cParcel p)], [], fun r => vi r, fun r => [], ok_impl_ChargeWeight p⟩
end Go.Proofs.YtjkpcfbmmkmoaaaGreat

/- The mirror of impl_PriceOf, and that the code does just that (printed by a program of my own). -/
namespace Go.Proofs.YtjkpcfbmmkmoaaaGreat
set_option maxRecDepth 10000
open Go.RowKit
set_option linter.unusedVariables false
set_option maxHeartbeats 16000000
def m_impl_PriceOf_b0 (rates : List YRate) (p : YParcel) (y4 : Int) (s0 : Int) : Option (Int ⊕ (Unit ⊕ (Int × Bool))) :=
 cond (decide (s0 < (rates.length : Int)))
 ((jn 6 9 (
 (getI rates s0).bind fun y5 =>
 cond (decide (y5.zone = y4))
 (cond (decide (y5.service = p.label.service))
 ((m_impl_ChargeWeight p).bind fun y6 =>
 cond (decide (y6 ≤ y5.limit))
 (some (.inr (y5.price, true)))
 (some (.inl ())))
 (some (.inl ())))
 (some (.inl ())) : Option (Unit ⊕ (Int × Bool))) (fun z7 => (.un :: .un :: .un :: .un :: .un :: .be 0 0 0 :: .un :: .un :: vi y4 :: .un :: .un :: .un :: .un :: .un :: .un :: .un :: .un :: .un :: .un :: .un :: .un :: .un :: .un :: .un :: .un :: .un :: .un :: .un :: .un :: .un :: .un :: .sl (rates.map cRate) :: vi (rates.length : Int) :: vi s0 :: .un :: .un :: .un :: .un :: .un :: .un :: .un :: .un :: .un :: .un :: .un :: .un :: .un :: .un :: .un :: .un :: .un :: .un :: .un :: .un :: .un :: .un :: .un :: .un :: .un :: [])) (fun z7 => [some ⟨100, 7, [[vi p.label.service, vi p.label.serial, vs p.label.to_, vs p.from_, vi p.weight, .sl (p.sides.map cInt), vi p.value]]⟩])).bind (selim (fun z7 =>
 some (.inl (w64 (s0 + 1)))) (fun r => some (.inr (.inr r)))))
 (some (.inr (.inl ())))
instance (rates : List YRate) (p : YParcel) (y4 : Int) : LoopE (m_impl_PriceOf_b0 rates p y4) := ⟨fun s0 => (.un :: .un :: .un :: .un :: .un :: .be 0 0 0 :: .un :: .un :: vi y4 :: .un :: .un :: .un :: .un :: .un :: .un :: .un :: .un :: .un :: .un :: .un :: .un :: .un :: .un :: .un :: .un :: .un :: .un :: .un :: .un :: .un :: .un :: .sl (rates.map cRate) :: vi (rates.length : Int) :: vi s0 :: .un :: .un :: .un :: .un :: .un :: .un :: .un :: .un :: .un :: .un :: .un :: .un :: .un :: .un :: .un :: .un :: .un :: .un :: .un :: .un :: .un :: .un :: .un :: .un :: .un :: []), fun s0 => [some ⟨100, 7, [[vi p.label.service, vi p.label.serial, vs p.label.to_, vs p.from_, vi p.weight, .sl (p.sides.map cInt), vi p.value]]⟩]⟩
def m_impl_PriceOf (zones : List YZone) (rates : List YRate) (p : YParcel) : Option (Int × Bool) :=
 (m_impl_AreZones zones).bind fun y1 =>
 cond (!y1)
 (some (0, false))
 ((m_impl_AreRates rates (zones.length : Int)).bind fun y2 =>
 cond (!y2)
 (some (0, false))
 ((m_impl_IsParcel p).bind fun y3 =>
 cond (!y3)
 (some (0, false))
 ((m_impl_ZoneOf zones p.label.to_).bind fun y4 =>
 (iterF (m_impl_PriceOf_b0 rates p y4) NN 0).bind (selim (fun o0 =>
 some (0, false)) (fun r => some r)))))
theorem ok_impl_PriceOf (zones : List YZone) (rates : List YRate) (p : YParcel) {r : Int × Bool} (H : m_impl_PriceOf zones rates p = some r) : CallM Tryz.prog 56 [.sl (zones.map cZone), .sl (rates.map cRate), .ag (cParcel p)] [] (.tu [vi r.1, vb r.2]) [] := by
  replace H := H0 H
  unfold m_impl_PriceOf at H
  refine callM_of Tryz.func56 rfl Tryz.ntmps56 Tryz.results56 fun Q hQ hQn => ?_
  exact wk2
instance (zones : List YZone) (rates : List YRate) (p : YParcel) : CT Tryz.prog (m_impl_PriceOf zones rates p) := ⟨56, [.sl (zones.map cZone), .sl (rates.map cRate), .ag (cParcel p)], [], fun r => .tu [vi r.1, vb r.2], fun r => [], ok_impl_PriceOf zones rates p⟩
end Go.Proofs.YtjkpcfbmmkmoaaaGreat

/- The mirror of spec_AreZones, and that the code does just that (printed by a program of my own). -/
namespace Go.Proofs.YtjkpcfbmmkmoaaaGreat
set_option maxRecDepth 10000
open Go.RowKit
set_option linter.unusedVariables false
set_option maxHeartbeats 16000000
def m_spec_AreZones_b0 (l : List YZone) (s0 : Int) : Option (Int ⊕ (Unit ⊕ Bool)) :=
 cond (decide (s0 < (l.length : Int)))
 ((jn 4 3 (
 (getI l s0).bind fun y1 =>
 (m_spec_IsPlace y1.first).bind fun y2 =>
 cond (!y2)
 (some (.inr false))
 ((getI l s0).bind fun y3 =>
 (m_spec_IsPlace y3.last).bind fun y4 =>
 cond (!y4)
 (some (.inr false))
 ((getI l s0).bind fun y5 =>
 (getI l s0).bind fun y6 =>
 cond (!sLe y5.first y6.last)
 (some (.inr false))
 (cond (decide (0 < s0))
 ((getI l (w64 (s0 - 1))).bind fun y7 =>
 (getI l s0).bind fun y8 =>
 cond (!sLt y7.last y8.first)
 (some (.inr false))
 (some (.inl ())))
 (some (.inl ()))))) : Option (Unit ⊕ Bool)) (fun z9 => (.sl (l.map cZone) :: .un :: .un :: vi s0 :: .un :: .un :: .un :: .un :: .un :: .un :: .un :: .un :: .un :: .un :: .un :: .un :: .un :: .un :: .un :: .un :: .un :: .un :: .un :: .un :: .un :: .un :: .un :: .un :: .un :: .un :: .un :: .un :: .un :: .un :: .un :: .un :: .un :: .un :: .un :: .un :: .un :: .un :: .un :: .un :: .un :: .un :: .un :: .un :: .un :: .un :: .un :: .un :: .un :: .un :: .un :: .un :: .un :: .un :: .un :: .un :: [])) (fun z9 => [])).bind (selim (fun z9 =>
 some (.inl (w64 (s0 + 1)))) (fun r => some (.inr (.inr r)))))
 (some (.inr (.inl ())))
instance (l : List YZone) : LoopE (m_spec_AreZones_b0 l) := ⟨fun s0 => (.sl (l.map cZone) :: .un :: .un :: vi s0 :: .un :: .un :: .un :: .un :: .un :: .un :: .un :: .un :: .un :: .un :: .un :: .un :: .un :: .un :: .un :: .un :: .un :: .un :: .un :: .un :: .un :: .un :: .un :: .un :: .un :: .un :: .un :: .un :: .un :: .un :: .un :: .un :: .un :: .un :: .un :: .un :: .un :: .un :: .un :: .un :: .un :: .un :: .un :: .un :: .un :: .un :: .un :: .un :: .un :: .un :: .un :: .un :: .un :: .un :: .un :: .un :: []), fun s0 => []⟩
def m_spec_AreZones (l : List YZone) : Option Bool :=
 (iterF (m_spec_AreZones_b0 l) NN 0).bind (selim (fun o0 =>
 some (decide ((l.length : Int) ≤ 8))) (fun r => some r))
theorem ok_spec_AreZones (l : List YZone) {r : Bool} (H : m_spec_AreZones l = some r) : CallM Tryz.prog 42 [.sl (l.map cZone)] [] (vb r) [] := by
  replace H := H0 H
  unfold m_spec_AreZones at H
  refine callM_of Tryz.func42 rfl Tryz.ntmps42 Tryz.results42 fun Q hQ hQn => ?_
  exact wk2
instance (l : List YZone) : CT Tryz.prog (m_spec_AreZones l) := ⟨42, [.sl (l.map cZone)], [], fun r => vb r, fun r => [], ok_spec_AreZones l⟩
end Go.Proofs.YtjkpcfbmmkmoaaaGreat

/- The mirror of spec_l2After, and that the code does just that (printed by a program of my own). -/
namespace Go.Proofs.YtjkpcfbmmkmoaaaGreat
set_option maxRecDepth 10000
open Go.RowKit
set_option linter.unusedVariables false
set_option maxHeartbeats 16000000
def m_spec_l2After (a : YRate) (b : YRate) : Option Bool :=
 cond (decide (a.zone < b.zone))
 (some true)
 (cond (decide (b.zone = a.zone))
 (cond (decide (a.service < b.service))
 (some true)
 (cond (decide (b.service = a.service))
 (cond (decide (a.limit < b.limit))
 (some (decide (a.price ≤ b.price)))
 (some false))
 (some false)))
 (some false))
theorem ok_spec_l2After (a : YRate) (b : YRate) {r : Bool} (H : m_spec_l2After a b = some r) : CallM Tryz.prog 122 [.ag (cRate a), .ag (cRate b)] [] (vb r) [] := by
  replace H := H0 H
  unfold m_spec_l2After at H
  refine callM_of Tryz.func122 rfl Tryz.ntmps122 Tryz.results122 fun Q hQ hQn => ?_
  exact wk2
instance (a : YRate) (b : YRate) : CT Tryz.prog (m_spec_l2After a b) := ⟨122, [.ag (cRate a), .ag (cRate b)], [], fun r => vb r, fun r => [], ok_spec_l2After a b⟩
end Go.Proofs.YtjkpcfbmmkmoaaaGreat

/- The mirror of spec_AreRates, and that the code does just that (printed by a program of my own). -/
namespace Go.Proofs.YtjkpcfbmmkmoaaaGreat
set_option maxRecDepth 10000
open Go.RowKit
set_option linter.unusedVariables false
set_option maxHeartbeats 16000000
def m_spec_AreRates_b0 (l : List YRate) (zones : Int) (s0 : Int) : Option (Int ⊕ (Unit ⊕ Bool)) :=
 cond (decide (s0 < (l.length : Int)))
 ((jn 4 3 (
 (getI l s0).bind fun y1 =>
 cond (decide (y1.zone < 0))
 (some (.inr false))
 ((getI l s0).bind fun y2 =>
 cond (decide (zones ≤ y2.zone))
 (some (.inr false))
 ((getI l s0).bind fun y3 =>
 (m_spec_l1In y3.service 1 3).bind fun y4 =>
 cond (!y4)
 (some (.inr false))
 ((getI l s0).bind fun y5 =>
 (m_spec_l1In y5.limit 1 1000000000).bind fun y6 =>
 cond (!y6)
 (some (.inr false))
 ((getI l s0).bind fun y7 =>
 (m_spec_l1In y7.price 0 100000).bind fun y8 =>
 cond (!y8)
 (some (.inr false))
 (cond (decide (0 < s0))
 ((getI l (w64 (s0 - 1))).bind fun y9 =>
 (getI l s0).bind fun y10 =>
 (m_spec_l2After y9 y10).bind fun y11 =>
 cond (!y11)
 (some (.inr false))
 (some (.inl ())))
 (some (.inl ()))))))) : Option (Unit ⊕ Bool)) (fun z12 => (.sl (l.map cRate) :: vi zones :: .un :: .un :: .un :: vi s0 :: .un :: .un :: .un :: .un :: .un :: .un :: .un :: .un :: .un :: .un :: .un :: .un :: .un :: .un :: .un :: .un :: .un :: .un :: .un :: .un :: .un :: .un :: .un :: .un :: .un :: .un :: .un :: .un :: .un :: .un :: .un :: .un :: .un :: .un :: .un :: .un :: .un :: .un :: .un :: .un :: .un :: .un :: .un :: .un :: .un :: .un :: .un :: .un :: .un :: .un :: .un :: .un :: .un :: .un :: .un :: .un :: .un :: .un :: .un :: .un :: .un :: .un :: .un :: .un :: .un :: .un :: .un :: .un :: [])) (fun z12 => [])).bind (selim (fun z12 =>
 some (.inl (w64 (s0 + 1)))) (fun r => some (.inr (.inr r)))))
 (some (.inr (.inl ())))
instance (l : List YRate) (zones : Int) : LoopE (m_spec_AreRates_b0 l zones) := ⟨fun s0 => (.sl (l.map cRate) :: vi zones :: .un :: .un :: .un :: vi s0 :: .un :: .un :: .un :: .un :: .un :: .un :: .un :: .un :: .un :: .un :: .un :: .un :: .un :: .un :: .un :: .un :: .un :: .un :: .un :: .un :: .un :: .un :: .un :: .un :: .un :: .un :: .un :: .un :: .un :: .un :: .un :: .un :: .un :: .un :: .un :: .un :: .un :: .un :: .un :: .un :: .un :: .un :: .un :: .un :: .un :: .un :: .un :: .un :: .un :: .un :: .un :: .un :: .un :: .un :: .un :: .un :: .un :: .un :: .un :: .un :: .un :: .un :: .un :: .un :: .un :: .un :: .un :: .un :: []), fun s0 => []⟩
def m_spec_AreRates (l : List YRate) (zones : Int) : Option Bool :=
 (iterF (m_spec_AreRates_b0 l zones) NN 0).bind (selim (fun o0 =>
 some (decide ((l.length : Int) ≤ 24))) (fun r => some r))
theorem ok_spec_AreRates (l : List YRate) (zones : Int) {r : Bool} (H : m_spec_AreRates l zones = some r) : CallM Tryz.prog 43 [.sl (l.map cRate), vi zones] [] (vb r) [] := by
  replace H := H0 H
  unfold m_spec_AreRates at H
  refine callM_of Tryz.func43 rfl Tryz.ntmps43 Tryz.results43 fun Q hQ hQn => ?_
  exact wk2
instance (l : List YRate) (zones : Int) : CT Tryz.prog (m_spec_AreRates l zones) := ⟨43, [.sl (l.map cRate), vi zones], [], fun r => vb r, fun r => [], ok_spec_AreRates l zones⟩
end Go.Proofs.YtjkpcfbmmkmoaaaGreat

/- The mirror of spec_ZoneOf, and that the code does just that (printed by a program of my own). -/
namespace Go.Proofs.YtjkpcfbmmkmoaaaGreat
set_option maxRecDepth 10000
open Go.RowKit
set_option linter.unusedVariables false
set_option maxHeartbeats 16000000
def m_spec_ZoneOf_b0 (l : List YZone) (place_ : ByteArray) (s0 : Int) : Option (Int ⊕ (Unit ⊕ Int)) :=
 cond (decide (s0 < (l.length : Int)))
 ((jn 6 5 (
 (getI l s0).bind fun y3 =>
 cond (sLe y3.first place_)
 ((getI l s0).bind fun y4 =>
 cond (sLe place_ y4.last)
 (some (.inr s0))
 (some (.inl ())))
 (some (.inl ())) : Option (Unit ⊕ Int)) (fun z5 => [.sl (l.map cZone), vs place_, .un, .un, .un, vi s0, .un, .un, .un, .un, .un, .un, .un, .un, .un, .un, .un, .un, .un, .un, .un, .un, .un, .un, .un, .un, .un, .un, .un, .un, .un, .un, .un, .un, .un, .un, .un]) (fun z5 => [])).bind (selim (fun z5 =>
 some (.inl (w64 (s0 + 1)))) (fun r => some (.inr (.inr r)))))
 (some (.inr (.inl ())))
instance (l : List YZone) (place_ : ByteArray) : LoopE (m_spec_ZoneOf_b0 l place_) := ⟨fun s0 => [.sl (l.map cZone), vs place_, .un, .un, .un, vi s0, .un, .un, .un, .un, .un, .un, .un, .un, .un, .un, .un, .un, .un, .un, .un, .un, .un, .un, .un, .un, .un, .un, .un, .un, .un, .un, .un, .un, .un, .un, .un], fun s0 => []⟩
def m_spec_ZoneOf (l : List YZone) (place_ : ByteArray) : Option Int :=
 (m_spec_AreZones l).bind fun y1 =>
 cond (!y1)
 (some (-1))
 ((m_spec_IsPlace place_).bind fun y2 =>
 cond (!y2)
 (some (-1))
 ((iterF (m_spec_ZoneOf_b0 l place_) NN 0).bind (selim (fun o0 =>
 some (-1)) (fun r => some r))))
theorem ok_spec_ZoneOf (l : List YZone) (place_ : ByteArray) {r : Int} (H : m_spec_ZoneOf l place_ = some r) : CallM Tryz.prog 190 [.sl (l.map cZone), vs place_] [] (vi r) [] := by
  replace H := H0 H
  unfold m_spec_ZoneOf at H
  refine callM_of Tryz.func190 rfl Tryz.ntmps190 Tryz.results190 fun Q hQ hQn => ?_
  exact wk2
instance (l : List YZone) (place_ : ByteArray) : CT Tryz.prog (m_spec_ZoneOf l place_) := ⟨190, [.sl (l.map cZone), vs place_], [], fun r => vi r, fun r => [], ok_spec_ZoneOf l place_⟩
end Go.Proofs.YtjkpcfbmmkmoaaaGreat

/- The mirror of spec_VolumeOf, and that the code does just that (printed by a program of my own). -/
namespace Go.Proofs.YtjkpcfbmmkmoaaaGreat
set_option maxRecDepth 10000
open Go.RowKit
set_option linter.unusedVariables false
set_option maxHeartbeats 16000000
def m_spec_VolumeOf (sides : List Int) : Option Int :=
 (m_spec_l2Three sides).bind fun y1 =>
 cond (!y1)
 (some 0)
 ((getI sides 0).bind fun y2 =>
 (getI sides 1).bind fun y3 =>
 (getI sides 2).bind fun y4 =>
 some (w64 ((w64 (y2 * y3)) * y4)))
theorem ok_spec_VolumeOf (sides : List Int) {r : Int} (H : m_spec_VolumeOf sides = some r) : CallM Tryz.prog 215 [.sl (sides.map cInt)] [] (vi r) [] := by
  replace H := H0 H
  unfold m_spec_VolumeOf at H
  refine callM_of Tryz.func215 rfl Tryz.ntmps215 Tryz.results215 fun Q hQ hQn => ?_
  exact wk2
instance (sides : List Int) : CT Tryz.prog (m_spec_VolumeOf sides) := ⟨215, [.sl (sides.map cInt)], [], fun r => vi r, fun r => [], ok_spec_VolumeOf sides⟩
end Go.Proofs.YtjkpcfbmmkmoaaaGreat

/- The mirror of spec_ChargeWeight, and that the code does just that (printed by a program of my own). -/
namespace Go.Proofs.YtjkpcfbmmkmoaaaGreat
set_option maxRecDepth 10000
open Go.RowKit
set_option linter.unusedVariables false
set_option maxHeartbeats 16000000
def m_spec_ChargeWeight (p : YParcel) : Option Int :=
 (m_spec_IsParcel p).bind fun y1 =>
 cond (!y1)
 (some 0)
 ((m_spec_VolumeOf p.sides).bind fun y2 =>
 cond (decide (p.weight < (IntKind.i64.wrap (Int.tdiv (w64 (y2 + 4999)) 5000))))
 (some (IntKind.i64.wrap (Int.tdiv (w64 (y2 + 4999)) 5000)))
 (some p.weight))
theorem ok_spec_ChargeWeight (p : YParcel) {r : Int} (H : m_spec_ChargeWeight p = some r) : CallM Tryz.prog 191 [.ag (cParcel p)] [] (vi r) [] := by
  replace H := H0 H
  unfold m_spec_ChargeWeight at H
  refine callM_of Tryz.func191 rfl Tryz.ntmps191 Tryz.results191 fun Q hQ hQn => ?_
  exact wk2
instance (p : YParcel) : CT Tryz.prog (m_spec_ChargeWeight p) := ⟨191, [.ag (cParcel p)], [], fun r => vi r, fun r => [], ok_spec_ChargeWeight p⟩
end Go.Proofs.YtjkpcfbmmkmoaaaGreat

/- The mirror of spec_PriceOf, and that the code does just that (printed by a program of my own). -/
namespace Go.Proofs.YtjkpcfbmmkmoaaaGreat
set_option maxRecDepth 10000
open Go.RowKit
set_option linter.unusedVariables false
set_option maxHeartbeats 16000000
def m_spec_PriceOf_b0 (rates : List YRate) (p : YParcel) (y4 : Int) (s0 : Int) : Option (Int ⊕ (Unit ⊕ (Int × Bool))) :=
 cond (decide (s0 < (rates.length : Int)))
 ((jn 7 6 (
 (getI rates s0).bind fun y5 =>
 cond (decide (y5.zone = y4))
 ((getI rates s0).bind fun y6 =>
 cond (decide (y6.service = p.label.service))
 ((m_spec_ChargeWeight p).bind fun y7 =>
 (getI rates s0).bind fun y8 =>
 cond (decide (y7 ≤ y8.limit))
 ((getI rates s0).bind fun y9 =>
 some (.inr (y9.price, true)))
 (some (.inl ())))
 (some (.inl ())))
 (some (.inl ())) : Option (Unit ⊕ (Int × Bool))) (fun z10 => (.un :: .sl (rates.map cRate) :: .un :: .un :: .un :: .be 0 0 0 :: .un :: .un :: vi y4 :: vi s0 :: .un :: .un :: .un :: .un :: .un :: .un :: .un :: .un :: .un :: .un :: .un :: .un :: .un :: .un :: .un :: .un :: .un :: .un :: .un :: .un :: .un :: .un :: .un :: .un :: .un :: .un :: .un :: .un :: .un :: .un :: .un :: .un :: .un :: .un :: .un :: .un :: .un :: .un :: .un :: .un :: .un :: .un :: .un :: .un :: .un :: .un :: .un :: .un :: .un :: .un :: .un :: .un :: .un :: .un :: .un :: .un :: .un :: .un :: .un :: [])) (fun z10 => [some ⟨100, 7, [[vi p.label.service, vi p.label.serial, vs p.label.to_, vs p.from_, vi p.weight, .sl (p.sides.map cInt), vi p.value]]⟩])).bind (selim (fun z10 =>
 some (.inl (w64 (s0 + 1)))) (fun r => some (.inr (.inr r)))))
 (some (.inr (.inl ())))
instance (rates : List YRate) (p : YParcel) (y4 : Int) : LoopE (m_spec_PriceOf_b0 rates p y4) := ⟨fun s0 => (.un :: .sl (rates.map cRate) :: .un :: .un :: .un :: .be 0 0 0 :: .un :: .un :: vi y4 :: vi s0 :: .un :: .un :: .un :: .un :: .un :: .un :: .un :: .un :: .un :: .un :: .un :: .un :: .un :: .un :: .un :: .un :: .un :: .un :: .un :: .un :: .un :: .un :: .un :: .un :: .un :: .un :: .un :: .un :: .un :: .un :: .un :: .un :: .un :: .un :: .un :: .un :: .un :: .un :: .un :: .un :: .un :: .un :: .un :: .un :: .un :: .un :: .un :: .un :: .un :: .un :: .un :: .un :: .un :: .un :: .un :: .un :: .un :: .un :: .un :: []), fun s0 => [some ⟨100, 7, [[vi p.label.service, vi p.label.serial, vs p.label.to_, vs p.from_, vi p.weight, .sl (p.sides.map cInt), vi p.value]]⟩]⟩
def m_spec_PriceOf (zones : List YZone) (rates : List YRate) (p : YParcel) : Option (Int × Bool) :=
 (m_spec_AreZones zones).bind fun y1 =>
 cond (!y1)
 (some (0, false))
 ((m_spec_AreRates rates (zones.length : Int)).bind fun y2 =>
 cond (!y2)
 (some (0, false))
 ((m_spec_IsParcel p).bind fun y3 =>
 cond (!y3)
 (some (0, false))
 ((m_spec_ZoneOf zones p.label.to_).bind fun y4 =>
 (iterF (m_spec_PriceOf_b0 rates p y4) NN 0).bind (selim (fun o0 =>
 some (0, false)) (fun r => some r)))))
theorem ok_spec_PriceOf (zones : List YZone) (rates : List YRate) (p : YParcel) {r : Int × Bool} (H : m_spec_PriceOf zones rates p = some r) : CallM Tryz.prog 126 [.sl (zones.map cZone), .sl (rates.map cRate), .ag (cParcel p)] [] (.tu [vi r.1, vb r.2]) [] := by
  replace H := H0 H
  unfold m_spec_PriceOf at H
  refine callM_of Tryz.func126 rfl Tryz.ntmps126 Tryz.results126 fun Q hQ hQn => ?_
  exact wk2
instance (zones : List YZone) (rates : List YRate) (p : YParcel) : CT Tryz.prog (m_spec_PriceOf zones rates p) := ⟨126, [.sl (zones.map cZone), .sl (rates.map cRate), .ag (cParcel p)], [], fun r => .tu [vi r.1, vb r.2], fun r => [], ok_spec_PriceOf zones rates p⟩
end Go.Proofs.YtjkpcfbmmkmoaaaGreat

/- Zones, rates and prices: the two sides answer alike. -/
namespace Go.Proofs.YtjkpcfbmmkmoaaaGreat
set_option maxRecDepth 10000
open Go.RowKit
set_option linter.unusedVariables false
set_option linter.unusedSimpArgs false
set_option maxHeartbeats 1000000
def plB (s : ByteArray) : Bool := (m_spec_IsPlace s).getD false
theorem plB_s {s : ByteArray} (h : s.size ≤ B60) : m_spec_IsPlace s = some (plB s) := by
  obtain ⟨_, b, hb⟩ := isPlace_eq h
  unfold plB; rw [hb]; rfl
theorem plB_i {s : ByteArray} (h : s.size ≤ B60) : m_impl_IsPlace s = some (plB s) := (isPlace_eq h).1.trans (plB_s h)
theorem sLe_not (a b : ByteArray) : sLe a b = !sLt b a := by
  have h1 : sLe a b = (sLt a b || (a.toList == b.toList)) := rfl
  rw [h1, baB]
  by_cases e : a = b
  · subst e
    have := sLt_irr a
    simp [this]
  · rw [decide_eq_false e, Bool.or_false]
    cases h : sLt a b with
    | true =>
      have := sLt_as a b h
      simp [this]
    | false =>
      have := sLt_tri (a := a) (b := b) (by simp [h]) e
      simp [this]
def zprev (o : Option YZone) (z : YZone) : Bool := match o with
  | some y => sLt y.last z.first
  | none => false
theorem zprev_s (y z : YZone) : zprev (some y) z = sLt y.last z.first := rfl
def zoneC (l : List YZone) (i : Nat) (z : YZone) : Bool :=
  plB z.first && (plB z.last && (sLe z.first z.last && (decide (i = 0) || zprev l[i - 1]? z)))
def zonesV (l : List YZone) : Bool := allI (zoneC l) 0 l && decide ((l.length : Int) ≤ 8)
def zonesFit (l : List YZone) : Prop := l.length ≤ 1048576 ∧ ∀ z ∈ l, z.first.size ≤ B60 ∧ z.last.size ≤ B60
theorem w64_pred {i n : Nat} (h0 : 0 < i) (hi : i < n) (hn : n ≤ 1048576) : w64 ((i : Int) - 1) = ((i - 1 : Nat) : Int) := by
  rw [w64_in (by omega)]; omega
theorem zones_s {l : List YZone} (hf : zonesFit l) : m_spec_AreZones l = some (zonesV l) := by
  have e : iterF (m_spec_AreZones_b0 l) NN 0 = some (if allI (zoneC l) 0 l = true then .inl () else .inr false) := by
    refine iter_fold (A := Unit) (fun _ i => i) _ (fun a _ => a) (fun _ => ()) (fun a i z hz => ?_) (fun a => ?_) (by have := hf.1; unfold NN; omega) ()
    · have hlt := (List.getElem?_eq_some_iff.1 hz).1
      have hl := hf.1
      obtain ⟨p1, p2⟩ := hf.2 z (List.mem_of_getElem? hz)
      have hg : getI l (i : Int) = some z := by rw [getI_nat]; exact hz
      have hi : w64 ((i : Int) + 1) = ((i + 1 : Nat) : Int) := w64_nat hlt (by omega)
      unfold m_spec_AreZones_b0
      simp only [jn_eq, decide_eq_true (show (i : Int) < l.length by omega), cond_true, hg, Option.bind_some, hi, plB_s p1, plB_s p2]
      unfold zoneC
      by_cases h0 : i = 0
      · subst h0
        rw [decide_eq_false (show ¬ (0 < ((0 : Nat) : Int)) by omega)]
        cases plB z.first <;> cases plB z.last <;> cases sLe z.first z.last <;> rfl
      · have hp := w64_pred (Nat.pos_of_ne_zero h0) hlt hl
        obtain ⟨y, hy⟩ : ∃ y, l[i - 1]? = some y := ⟨_, List.getElem?_eq_getElem (by omega)⟩
        have hgy : getI l ((i - 1 : Nat) : Int) = some y := by rw [getI_nat]; exact hy
        rw [decide_eq_true (show 0 < (i : Int) by omega), decide_eq_false h0, hp, hgy, hy, zprev_s]
        simp only [Option.bind_some]
        cases plB z.first <;> cases plB z.last <;> cases sLe z.first z.last <;> cases sLt y.last z.first <;> rfl
    · unfold m_spec_AreZones_b0
      simp
  unfold m_spec_AreZones zonesV
  rw [e]
  cases allI (zoneC l) 0 l <;> rfl
theorem zones_i {l : List YZone} (hf : zonesFit l) : m_impl_AreZones l = some (zonesV l) := by
  have e : iterF (m_impl_AreZones_b0 l) NN 0 = some (if allI (zoneC l) 0 l = true then .inl () else .inr false) := by
    refine iter_fold (A := Unit) (fun _ i => i) _ (fun a _ => a) (fun _ => ()) (fun a i z hz => ?_) (fun a => ?_) (by have := hf.1; unfold NN; omega) ()
    · have hlt := (List.getElem?_eq_some_iff.1 hz).1
      have hl := hf.1
      obtain ⟨p1, p2⟩ := hf.2 z (List.mem_of_getElem? hz)
      have hg : getI l (i : Int) = some z := by rw [getI_nat]; exact hz
      have hi : w64 ((i : Int) + 1) = ((i + 1 : Nat) : Int) := w64_nat hlt (by omega)
      unfold m_impl_AreZones_b0
      simp only [jn_eq, decide_eq_true (show (i : Int) < l.length by omega), cond_true, hg, Option.bind_some, hi, plB_i p1, plB_i p2]
      unfold zoneC
      by_cases h0 : i = 0
      · subst h0
        rw [decide_eq_false (show ¬ (0 < ((0 : Nat) : Int)) by omega)]
        cases plB z.first <;> cases plB z.last <;> cases sLe z.first z.last <;> rfl
      · have hp := w64_pred (Nat.pos_of_ne_zero h0) hlt hl
        obtain ⟨y, hy⟩ : ∃ y, l[i - 1]? = some y := ⟨_, List.getElem?_eq_getElem (by omega)⟩
        have hgy : getI l ((i - 1 : Nat) : Int) = some y := by rw [getI_nat]; exact hy
        rw [decide_eq_true (show 0 < (i : Int) by omega), decide_eq_false h0, hp, hgy, hy, zprev_s]
        simp only [Option.bind_some, sLe_not z.first y.last]
        cases plB z.first <;> cases plB z.last <;> cases sLe z.first z.last <;> cases sLt y.last z.first <;> rfl
    · unfold m_impl_AreZones_b0
      simp
  unfold m_impl_AreZones zonesV
  rw [e]
  cases allI (zoneC l) 0 l <;> rfl
def afterV (a b : YRate) : Bool := decide (a.zone < b.zone) || (decide (b.zone = a.zone) && (decide (a.service < b.service) || (decide (b.service = a.service) && (decide (a.limit < b.limit) && decide (a.price ≤ b.price)))))
theorem after_s (a b : YRate) : m_spec_l2After a b = some (afterV a b) := by
  unfold m_spec_l2After afterV
  cases decide (a.zone < b.zone) <;> cases decide (b.zone = a.zone) <;> cases decide (a.service < b.service) <;> cases decide (b.service = a.service) <;> cases decide (a.limit < b.limit) <;> rfl
def rprev (o : Option YRate) (r : YRate) : Bool := match o with
  | some y => afterV y r
  | none => false
theorem rprev_s (y r : YRate) : rprev (some y) r = afterV y r := rfl
def rateC (l : List YRate) (zones : Int) (i : Nat) (r : YRate) : Bool :=
  !decide (r.zone < 0) && (!decide (zones ≤ r.zone) && ((decide (1 ≤ r.service) && decide (r.service ≤ 3)) && ((decide (1 ≤ r.limit) && decide (r.limit ≤ 1000000000)) && ((decide (0 ≤ r.price) && decide (r.price ≤ 100000)) && (decide (i = 0) || rprev l[i - 1]? r)))))
def ratesV (l : List YRate) (zones : Int) : Bool := allI (rateC l zones) 0 l && decide ((l.length : Int) ≤ 24)
theorem rates_s {l : List YRate} {zones : Int} (hl : l.length ≤ 1048576) : m_spec_AreRates l zones = some (ratesV l zones) := by
  have e : iterF (m_spec_AreRates_b0 l zones) NN 0 = some (if allI (rateC l zones) 0 l = true then .inl () else .inr false) := by
    refine iter_fold (A := Unit) (fun _ i => i) _ (fun a _ => a) (fun _ => ()) (fun a i z hz => ?_) (fun a => ?_) (by unfold NN; omega) ()
    · have hlt := (List.getElem?_eq_some_iff.1 hz).1
      have hg : getI l (i : Int) = some z := by rw [getI_nat]; exact hz
      have hi : w64 ((i : Int) + 1) = ((i + 1 : Nat) : Int) := w64_nat hlt (by omega)
      unfold m_spec_AreRates_b0
      simp only [jn_eq, decide_eq_true (show (i : Int) < l.length by omega), cond_true, hg, Option.bind_some, hi, l1In_v]
      unfold rateC
      generalize (decide (1 ≤ z.service) && decide (z.service ≤ 3)) = c1
      generalize (decide (1 ≤ z.limit) && decide (z.limit ≤ 1000000000)) = c2
      generalize (decide (0 ≤ z.price) && decide (z.price ≤ 100000)) = c3
      by_cases h0 : i = 0
      · subst h0
        rw [decide_eq_false (show ¬ (0 < ((0 : Nat) : Int)) by omega)]
        cases decide (z.zone < 0) <;> cases decide (zones ≤ z.zone) <;> cases c1 <;> cases c2 <;> cases c3 <;> rfl
      · have hp := w64_pred (Nat.pos_of_ne_zero h0) hlt hl
        obtain ⟨y, hy⟩ : ∃ y, l[i - 1]? = some y := ⟨_, List.getElem?_eq_getElem (by omega)⟩
        have hgy : getI l ((i - 1 : Nat) : Int) = some y := by rw [getI_nat]; exact hy
        rw [decide_eq_true (show 0 < (i : Int) by omega), decide_eq_false h0, hp, hgy, hy, rprev_s]
        simp only [Option.bind_some, after_s]
        cases decide (z.zone < 0) <;> cases decide (zones ≤ z.zone) <;> cases c1 <;> cases c2 <;> cases c3 <;> cases afterV y z <;> rfl
    · unfold m_spec_AreRates_b0
      simp
  unfold m_spec_AreRates ratesV
  rw [e]
  cases allI (rateC l zones) 0 l <;> rfl
theorem after_i (a b : YRate) (h : ¬ (0 ≤ (if cmpI a.zone b.zone ≠ 0 then cmpI a.zone b.zone else if cmpI a.service b.service ≠ 0 then cmpI a.service b.service else cmpI a.limit b.limit))) : afterV a b = !(decide (a.zone = b.zone) && (decide (a.service = b.service) && decide (b.price < a.price))) := by
  unfold cmpI at h
  unfold afterV
  rw [Bool.eq_iff_iff]
  simp only [Bool.or_eq_true, Bool.and_eq_true, decide_eq_true_eq, Bool.not_eq_true', Bool.and_eq_false_iff, decide_eq_false_iff_not]
  repeat' split at h
  all_goals omega
theorem after_n (a b : YRate) (h : 0 ≤ (if cmpI a.zone b.zone ≠ 0 then cmpI a.zone b.zone else if cmpI a.service b.service ≠ 0 then cmpI a.service b.service else cmpI a.limit b.limit)) : afterV a b = false := by
  unfold cmpI at h
  unfold afterV
  rw [Bool.eq_false_iff]
  intro h2
  simp only [Bool.or_eq_true, Bool.and_eq_true, decide_eq_true_eq] at h2
  repeat' split at h
  all_goals omega
theorem rates_i {l : List YRate} {zones : Int} (hl : l.length ≤ 1048576) : m_impl_AreRates l zones = some (ratesV l zones) := by
  have e : iterF (m_impl_AreRates_b0 l zones) NN 0 = some (if allI (rateC l zones) 0 l = true then .inl () else .inr false) := by
    refine iter_fold (A := Unit) (fun _ i => i) _ (fun a _ => a) (fun _ => ()) (fun a i z hz => ?_) (fun a => ?_) (by unfold NN; omega) ()
    · have hlt := (List.getElem?_eq_some_iff.1 hz).1
      have hg : getI l (i : Int) = some z := by rw [getI_nat]; exact hz
      have hi : w64 ((i : Int) + 1) = ((i + 1 : Nat) : Int) := w64_nat hlt (by omega)
      unfold m_impl_AreRates_b0
      simp only [jn_eq, decide_eq_true (show (i : Int) < l.length by omega), cond_true, hg, Option.bind_some, hi, within_v]
      unfold rateC
      generalize (decide (1 ≤ z.service) && decide (z.service ≤ 3)) = c1
      generalize (decide (1 ≤ z.limit) && decide (z.limit ≤ 1000000000)) = c2
      generalize (decide (0 ≤ z.price) && decide (z.price ≤ 100000)) = c3
      by_cases h0 : i = 0
      · subst h0
        rw [decide_eq_true (show ((0 : Nat) : Int) = 0 by omega)]
        cases decide (z.zone < 0) <;> cases decide (zones ≤ z.zone) <;> cases c1 <;> cases c2 <;> cases c3 <;> rfl
      · have hp := w64_pred (Nat.pos_of_ne_zero h0) hlt hl
        obtain ⟨y, hy⟩ : ∃ y, l[i - 1]? = some y := ⟨_, List.getElem?_eq_getElem (by omega)⟩
        have hgy : getI l ((i - 1 : Nat) : Int) = some y := by rw [getI_nat]; exact hy
        rw [decide_eq_false (show ¬ ((i : Int) = 0) by omega), decide_eq_false h0, hp, hgy, hy, rprev_s]
        simp only [Option.bind_some, cmpI_v, first3]
        by_cases hc : 0 ≤ (if cmpI y.zone z.zone ≠ 0 then cmpI y.zone z.zone else if cmpI y.service z.service ≠ 0 then cmpI y.service z.service else cmpI y.limit z.limit)
        · rw [decide_eq_true hc, after_n y z hc]
          cases decide (z.zone < 0) <;> cases decide (zones ≤ z.zone) <;> cases c1 <;> cases c2 <;> cases c3 <;> rfl
        · rw [decide_eq_false hc, after_i y z hc]
          cases decide (z.zone < 0) <;> cases decide (zones ≤ z.zone) <;> cases c1 <;> cases c2 <;> cases c3 <;> cases decide (y.zone = z.zone) <;> cases decide (y.service = z.service) <;> cases decide (z.price < y.price) <;> rfl
    · unfold m_impl_AreRates_b0
      simp
  unfold m_impl_AreRates ratesV
  rw [e]
  cases allI (rateC l zones) 0 l <;> rfl
theorem zoneOfB_eq : @m_impl_ZoneOf_b0 = @m_spec_ZoneOf_b0 := by
  funext l q i
  unfold m_impl_ZoneOf_b0 m_spec_ZoneOf_b0
  simp only [jn_eq]
  cases getI l i <;> rfl
theorem zoneOfL_some {l : List YZone} (hl : l.length ≤ 1048576) (q : ByteArray) : ∃ o, iterF (m_spec_ZoneOf_b0 l q) NN 0 = some o := by
  refine iter_idx (n := l.length) (by unfold NN; omega) (fun i hi => ?_) ?_
  · have hg : getI l (i : Int) = some l[i] := by rw [getI_nat]; exact List.getElem?_eq_getElem hi
    have hw : w64 ((i : Int) + 1) = ((i + 1 : Nat) : Int) := w64_nat hi (by omega)
    unfold m_spec_ZoneOf_b0
    simp only [jn_eq, decide_eq_true (show (i : Int) < l.length by omega), cond_true, hg, Option.bind_some, hw]
    cases sLe l[i].first q <;> cases sLe q l[i].last
    · exact st_go rfl
    · exact st_go rfl
    · exact st_go rfl
    · exact st_out rfl
  · unfold m_spec_ZoneOf_b0
    rw [decide_eq_false (by omega)]
    exact ⟨_, rfl⟩
theorem zoneOf_eq {l : List YZone} (hf : zonesFit l) {q : ByteArray} (hq : q.size ≤ B60) : m_impl_ZoneOf l q = m_spec_ZoneOf l q ∧ ∃ v, m_spec_ZoneOf l q = some v := by
  unfold m_impl_ZoneOf m_spec_ZoneOf
  rw [zones_i hf, zones_s hf, zoneOfB_eq, plB_i hq, plB_s hq]
  refine ⟨rfl, ?_⟩
  obtain ⟨o, ho⟩ := zoneOfL_some hf.1 q
  rw [ho]
  cases zonesV l <;> cases plB q <;> (try exact ⟨_, rfl⟩)
  cases o <;> exact ⟨_, rfl⟩
theorem volume_eq {l : List Int} (h : l.length < NN) : m_impl_VolumeOf l = m_spec_VolumeOf l ∧ ∃ v, m_spec_VolumeOf l = some v := by
  unfold m_impl_VolumeOf m_spec_VolumeOf
  rw [three_eq, three_v h]
  refine ⟨rfl, ?_⟩
  cases ht : threeV l with
  | false => exact ⟨_, rfl⟩
  | true =>
    match l, three_len ht with
    | [x, y, z], _ => exact ⟨_, rfl⟩
theorem charge_eq {p : YParcel} (h1 : p.label.to_.size ≤ B60) (h2 : p.from_.size ≤ B60) (h3 : p.sides.length < NN) : m_impl_ChargeWeight p = m_spec_ChargeWeight p ∧ ∃ v, m_spec_ChargeWeight p = some v := by
  obtain ⟨e1, b, hb⟩ := parcel_eq h1 h2 h3
  obtain ⟨e2, v, hv⟩ := volume_eq h3
  unfold m_impl_ChargeWeight m_spec_ChargeWeight
  rw [e1, hb, e2, hv]
  simp only [Option.bind_some]
  generalize IntKind.i64.wrap (Int.tdiv (w64 (v + 4999)) 5000) = x
  cases b
  · exact ⟨rfl, _, rfl⟩
  · by_cases h : p.weight < x
    · rw [if_pos h, decide_eq_true h]; exact ⟨rfl, _, rfl⟩
    · rw [if_neg h, decide_eq_false h]; exact ⟨rfl, _, rfl⟩
theorem priceB_eq {rates : List YRate} {p : YParcel} {z : Int} (hc : m_impl_ChargeWeight p = m_spec_ChargeWeight p) : m_impl_PriceOf_b0 rates p z = m_spec_PriceOf_b0 rates p z := by
  funext i
  unfold m_impl_PriceOf_b0 m_spec_PriceOf_b0
  simp only [jn_eq, hc]
  cases hg : getI rates i with
  | none => simp
  | some y => simp only [Option.bind_some]
theorem price_eq {zones : List YZone} {rates : List YRate} {p : YParcel} (hz : zonesFit zones) (hr : rates.length ≤ 1048576) (h1 : p.label.to_.size ≤ B60) (h2 : p.from_.size ≤ B60) (h3 : p.sides.length < NN) :
    m_impl_PriceOf zones rates p = m_spec_PriceOf zones rates p ∧ ∃ v, m_spec_PriceOf zones rates p = some v := by
  obtain ⟨e1, b, hb⟩ := parcel_eq h1 h2 h3
  obtain ⟨e2, z, hv⟩ := zoneOf_eq hz h1
  obtain ⟨e3, cw, hcw⟩ := charge_eq h1 h2 h3
  have hL : ∃ o, iterF (m_spec_PriceOf_b0 rates p z) NN 0 = some o := by
    refine iter_idx (n := rates.length) (by unfold NN; omega) (fun i hi => ?_) ?_
    · have hg : getI rates (i : Int) = some rates[i] := by rw [getI_nat]; exact List.getElem?_eq_getElem hi
      have hw : w64 ((i : Int) + 1) = ((i + 1 : Nat) : Int) := w64_nat hi (by omega)
      unfold m_spec_PriceOf_b0
      simp only [jn_eq, decide_eq_true (show (i : Int) < rates.length by omega), cond_true, hg, Option.bind_some, hw, hcw]
      cases decide (rates[i].zone = z) <;> cases decide (rates[i].service = p.label.service) <;> cases decide (cw ≤ rates[i].limit) <;> (first | exact st_go rfl | exact st_out rfl)
    · unfold m_spec_PriceOf_b0
      rw [decide_eq_false (by omega)]
      exact ⟨_, rfl⟩
  obtain ⟨o, ho⟩ := hL
  unfold m_impl_PriceOf m_spec_PriceOf
  rw [zones_i hz, zones_s hz, rates_i hr, rates_s hr, e1, e2, hb, hv]
  simp only [Option.bind_some, priceB_eq e3, ho]
  refine ⟨trivial, ?_⟩
  cases zonesV zones
  · exact ⟨_, rfl⟩
  cases ratesV rates (zones.length : Int)
  · exact ⟨_, rfl⟩
  cases b
  · exact ⟨_, rfl⟩
  cases o <;> exact ⟨_, rfl⟩
end Go.Proofs.YtjkpcfbmmkmoaaaGreat
