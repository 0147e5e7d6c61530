/- A part of the proof of the statement in the last file of this claim: texts on the language of the program and on its functions. No condition. -/
import Derived.Test.YtkfbakhnpfmfmaaGreatDoorCParseAct4
import Derived.Test.YtkfbakhnpfmfmaaGreatDoorCParseAct5
import Derived.Test.YtkfbakhnpfmfmaaGreatDoorCParseAct6
set_option linter.unusedVariables false
set_option linter.unusedSimpArgs false
set_option linter.unusedSectionVars false
namespace Go.Proofs.YtkfbakhnpfmfmaaGreatDoor
set_option maxRecDepth 10000
open Go.RowKit
set_option linter.unusedVariables false
set_option maxHeartbeats 16000000
def m_o_spec_ParseAct (s : ByteArray) : Option (YAct × Bool) :=
 (m_spec_l2Split s 32).bind fun y1 =>
 (jn 4 7 (
 cond (decide (1 < (y1.length : Int)))
 ((getI y1 1).bind fun y2 =>
 (m_spec_ParseInt y2).bind fun y3 =>
 some (.inl y3.1))
 (some (.inl 0)) : Option (Int ⊕ Empty)) (fun z4 => (vs s :: .un :: .be 0 0 0 :: .un :: .ms 1 :: .be 2 0 0 :: vi z4 :: (U 109 []))) (fun z4 => [some ⟨.of 30, 13, [[vi 0, vi 0, vi 0, vs (⟨#[]⟩), vs (⟨#[]⟩), vi 0, .v (.slice none 0 0), vi 0, vi 0, vi 0, vi 0, vi 0, vi 0]]⟩, some ⟨.of 9, 1, y1.map cStr⟩, some ⟨.of 30, 13, [[vi 0, vi 0, vi 0, vs (⟨#[]⟩), vs (⟨#[]⟩), vi 0, .v (.slice none 0 0), vi 0, vi 0, vi 0, vi 0, vi 0, vi 0]]⟩])).bind (selim (fun z4 =>
 (jn 7 21 (
 (getI y1 0).bind fun y5 =>
 cond (decide (y5 = ⟨#[116, 97, 107, 101]⟩))
 (cond (decide (5 < (s.size : Int)))
 ((chk (slOk 5 (s.size : Int) s.size)).bind fun _ =>
 (m_o_spec_ParseParcel (subS s 5 (s.size : Int))).bind fun y6 =>
 some (.inl (1, y6.1.label.service, y6.1.label.serial, y6.1.label.to_, y6.1.from_, y6.1.weight, y6.1.value, 0, 0, 0, 0, 0, y6.1.sides)))
 ((getI y1 0).bind fun y7 =>
 cond (decide (y7 = ⟨#[112, 97, 121]⟩))
 (cond (decide ((y1.length : Int) = 3))
 ((getI y1 2).bind fun y8 =>
 (m_spec_ParseInt y8).bind fun y9 =>
 some (.inl (2, 0, 0, ⟨#[]⟩, ⟨#[]⟩, 0, 0, z4, y9.1, 0, 0, 0, [])))
 ((getI y1 0).bind fun y10 =>
 cond (decide (y10 = ⟨#[114, 117, 110]⟩))
 (cond (decide ((y1.length : Int) = 2))
 (some (.inl (3, 0, 0, ⟨#[]⟩, ⟨#[]⟩, 0, 0, 0, 0, z4, 0, 0, [])))
 ((getI y1 0).bind fun y11 =>
 cond (decide (y11 = ⟨#[115, 104, 117, 116]⟩))
 (cond (decide ((y1.length : Int) = 2))
 ((getI y1 1).bind fun y12 =>
 (m_spec_l12Trip y12).bind fun y13 =>
 some (.inl (4, 0, 0, ⟨#[]⟩, ⟨#[]⟩, 0, 0, 0, 0, 0, y13.leg, y13.day, [])))
 ((getI y1 0).bind fun y14 =>
 cond (decide (y14 = ⟨#[114, 101, 116, 114, 121]⟩))
 (some (.inl (5, 0, 0, ⟨#[]⟩, ⟨#[]⟩, 0, 0, 0, 0, 0, 0, 0, [])))
 ((getI y1 0).bind fun y15 =>
 cond (decide (y15 = ⟨#[114, 101, 102, 117, 110, 100]⟩))
 (some (.inl (6, 0, 0, ⟨#[]⟩, ⟨#[]⟩, 0, 0, z4, 0, 0, 0, 0, [])))
 (some (.inl (0, 0, 0, ⟨#[]⟩, ⟨#[]⟩, 0, 0, 0, 0, 0, 0, 0, []))))))
 ((getI y1 0).bind fun y16 =>
 cond (decide (y16 = ⟨#[114, 101, 116, 114, 121]⟩))
 (some (.inl (5, 0, 0, ⟨#[]⟩, ⟨#[]⟩, 0, 0, 0, 0, 0, 0, 0, [])))
 ((getI y1 0).bind fun y17 =>
 cond (decide (y17 = ⟨#[114, 101, 102, 117, 110, 100]⟩))
 (some (.inl (6, 0, 0, ⟨#[]⟩, ⟨#[]⟩, 0, 0, z4, 0, 0, 0, 0, [])))
 (some (.inl (0, 0, 0, ⟨#[]⟩, ⟨#[]⟩, 0, 0, 0, 0, 0, 0, 0, [])))))))
 ((getI y1 0).bind fun y18 =>
 cond (decide (y18 = ⟨#[115, 104, 117, 116]⟩))
 (cond (decide ((y1.length : Int) = 2))
 ((getI y1 1).bind fun y19 =>
 (m_spec_l12Trip y19).bind fun y20 =>
 some (.inl (4, 0, 0, ⟨#[]⟩, ⟨#[]⟩, 0, 0, 0, 0, 0, y20.leg, y20.day, [])))
 ((getI y1 0).bind fun y21 =>
 cond (decide (y21 = ⟨#[114, 101, 116, 114, 121]⟩))
 (some (.inl (5, 0, 0, ⟨#[]⟩, ⟨#[]⟩, 0, 0, 0, 0, 0, 0, 0, [])))
 ((getI y1 0).bind fun y22 =>
 cond (decide (y22 = ⟨#[114, 101, 102, 117, 110, 100]⟩))
 (some (.inl (6, 0, 0, ⟨#[]⟩, ⟨#[]⟩, 0, 0, z4, 0, 0, 0, 0, [])))
 (some (.inl (0, 0, 0, ⟨#[]⟩, ⟨#[]⟩, 0, 0, 0, 0, 0, 0, 0, []))))))
 ((getI y1 0).bind fun y23 =>
 cond (decide (y23 = ⟨#[114, 101, 116, 114, 121]⟩))
 (some (.inl (5, 0, 0, ⟨#[]⟩, ⟨#[]⟩, 0, 0, 0, 0, 0, 0, 0, [])))
 ((getI y1 0).bind fun y24 =>
 cond (decide (y24 = ⟨#[114, 101, 102, 117, 110, 100]⟩))
 (some (.inl (6, 0, 0, ⟨#[]⟩, ⟨#[]⟩, 0, 0, z4, 0, 0, 0, 0, [])))
 (some (.inl (0, 0, 0, ⟨#[]⟩, ⟨#[]⟩, 0, 0, 0, 0, 0, 0, 0, []))))))))
 ((getI y1 0).bind fun y25 =>
 cond (decide (y25 = ⟨#[114, 117, 110]⟩))
 (cond (decide ((y1.length : Int) = 2))
 (some (.inl (3, 0, 0, ⟨#[]⟩, ⟨#[]⟩, 0, 0, 0, 0, z4, 0, 0, [])))
 ((getI y1 0).bind fun y26 =>
 cond (decide (y26 = ⟨#[115, 104, 117, 116]⟩))
 (cond (decide ((y1.length : Int) = 2))
 ((getI y1 1).bind fun y27 =>
 (m_spec_l12Trip y27).bind fun y28 =>
 some (.inl (4, 0, 0, ⟨#[]⟩, ⟨#[]⟩, 0, 0, 0, 0, 0, y28.leg, y28.day, [])))
 ((getI y1 0).bind fun y29 =>
 cond (decide (y29 = ⟨#[114, 101, 116, 114, 121]⟩))
 (some (.inl (5, 0, 0, ⟨#[]⟩, ⟨#[]⟩, 0, 0, 0, 0, 0, 0, 0, [])))
 ((getI y1 0).bind fun y30 =>
 cond (decide (y30 = ⟨#[114, 101, 102, 117, 110, 100]⟩))
 (some (.inl (6, 0, 0, ⟨#[]⟩, ⟨#[]⟩, 0, 0, z4, 0, 0, 0, 0, [])))
 (some (.inl (0, 0, 0, ⟨#[]⟩, ⟨#[]⟩, 0, 0, 0, 0, 0, 0, 0, []))))))
 ((getI y1 0).bind fun y31 =>
 cond (decide (y31 = ⟨#[114, 101, 116, 114, 121]⟩))
 (some (.inl (5, 0, 0, ⟨#[]⟩, ⟨#[]⟩, 0, 0, 0, 0, 0, 0, 0, [])))
 ((getI y1 0).bind fun y32 =>
 cond (decide (y32 = ⟨#[114, 101, 102, 117, 110, 100]⟩))
 (some (.inl (6, 0, 0, ⟨#[]⟩, ⟨#[]⟩, 0, 0, z4, 0, 0, 0, 0, [])))
 (some (.inl (0, 0, 0, ⟨#[]⟩, ⟨#[]⟩, 0, 0, 0, 0, 0, 0, 0, [])))))))
 ((getI y1 0).bind fun y33 =>
 cond (decide (y33 = ⟨#[115, 104, 117, 116]⟩))
 (cond (decide ((y1.length : Int) = 2))
 ((getI y1 1).bind fun y34 =>
 (m_spec_l12Trip y34).bind fun y35 =>
 some (.inl (4, 0, 0, ⟨#[]⟩, ⟨#[]⟩, 0, 0, 0, 0, 0, y35.leg, y35.day, [])))
 ((getI y1 0).bind fun y36 =>
 cond (decide (y36 = ⟨#[114, 101, 116, 114, 121]⟩))
 (some (.inl (5, 0, 0, ⟨#[]⟩, ⟨#[]⟩, 0, 0, 0, 0, 0, 0, 0, [])))
 ((getI y1 0).bind fun y37 =>
 cond (decide (y37 = ⟨#[114, 101, 102, 117, 110, 100]⟩))
 (some (.inl (6, 0, 0, ⟨#[]⟩, ⟨#[]⟩, 0, 0, z4, 0, 0, 0, 0, [])))
 (some (.inl (0, 0, 0, ⟨#[]⟩, ⟨#[]⟩, 0, 0, 0, 0, 0, 0, 0, []))))))
 ((getI y1 0).bind fun y38 =>
 cond (decide (y38 = ⟨#[114, 101, 116, 114, 121]⟩))
 (some (.inl (5, 0, 0, ⟨#[]⟩, ⟨#[]⟩, 0, 0, 0, 0, 0, 0, 0, [])))
 ((getI y1 0).bind fun y39 =>
 cond (decide (y39 = ⟨#[114, 101, 102, 117, 110, 100]⟩))
 (some (.inl (6, 0, 0, ⟨#[]⟩, ⟨#[]⟩, 0, 0, z4, 0, 0, 0, 0, [])))
 (some (.inl (0, 0, 0, ⟨#[]⟩, ⟨#[]⟩, 0, 0, 0, 0, 0, 0, 0, [])))))))))
 ((getI y1 0).bind fun y40 =>
 cond (decide (y40 = ⟨#[112, 97, 121]⟩))
 (cond (decide ((y1.length : Int) = 3))
 ((getI y1 2).bind fun y41 =>
 (m_spec_ParseInt y41).bind fun y42 =>
 some (.inl (2, 0, 0, ⟨#[]⟩, ⟨#[]⟩, 0, 0, z4, y42.1, 0, 0, 0, [])))
 ((getI y1 0).bind fun y43 =>
 cond (decide (y43 = ⟨#[114, 117, 110]⟩))
 (cond (decide ((y1.length : Int) = 2))
 (some (.inl (3, 0, 0, ⟨#[]⟩, ⟨#[]⟩, 0, 0, 0, 0, z4, 0, 0, [])))
 ((getI y1 0).bind fun y44 =>
 cond (decide (y44 = ⟨#[115, 104, 117, 116]⟩))
 (cond (decide ((y1.length : Int) = 2))
 ((getI y1 1).bind fun y45 =>
 (m_spec_l12Trip y45).bind fun y46 =>
 some (.inl (4, 0, 0, ⟨#[]⟩, ⟨#[]⟩, 0, 0, 0, 0, 0, y46.leg, y46.day, [])))
 ((getI y1 0).bind fun y47 =>
 cond (decide (y47 = ⟨#[114, 101, 116, 114, 121]⟩))
 (some (.inl (5, 0, 0, ⟨#[]⟩, ⟨#[]⟩, 0, 0, 0, 0, 0, 0, 0, [])))
 ((getI y1 0).bind fun y48 =>
 cond (decide (y48 = ⟨#[114, 101, 102, 117, 110, 100]⟩))
 (some (.inl (6, 0, 0, ⟨#[]⟩, ⟨#[]⟩, 0, 0, z4, 0, 0, 0, 0, [])))
 (some (.inl (0, 0, 0, ⟨#[]⟩, ⟨#[]⟩, 0, 0, 0, 0, 0, 0, 0, []))))))
 ((getI y1 0).bind fun y49 =>
 cond (decide (y49 = ⟨#[114, 101, 116, 114, 121]⟩))
 (some (.inl (5, 0, 0, ⟨#[]⟩, ⟨#[]⟩, 0, 0, 0, 0, 0, 0, 0, [])))
 ((getI y1 0).bind fun y50 =>
 cond (decide (y50 = ⟨#[114, 101, 102, 117, 110, 100]⟩))
 (some (.inl (6, 0, 0, ⟨#[]⟩, ⟨#[]⟩, 0, 0, z4, 0, 0, 0, 0, [])))
 (some (.inl (0, 0, 0, ⟨#[]⟩, ⟨#[]⟩, 0, 0, 0, 0, 0, 0, 0, [])))))))
 ((getI y1 0).bind fun y51 =>
 cond (decide (y51 = ⟨#[115, 104, 117, 116]⟩))
 (cond (decide ((y1.length : Int) = 2))
 ((getI y1 1).bind fun y52 =>
 (m_spec_l12Trip y52).bind fun y53 =>
 some (.inl (4, 0, 0, ⟨#[]⟩, ⟨#[]⟩, 0, 0, 0, 0, 0, y53.leg, y53.day, [])))
 ((getI y1 0).bind fun y54 =>
 cond (decide (y54 = ⟨#[114, 101, 116, 114, 121]⟩))
 (some (.inl (5, 0, 0, ⟨#[]⟩, ⟨#[]⟩, 0, 0, 0, 0, 0, 0, 0, [])))
 ((getI y1 0).bind fun y55 =>
 cond (decide (y55 = ⟨#[114, 101, 102, 117, 110, 100]⟩))
 (some (.inl (6, 0, 0, ⟨#[]⟩, ⟨#[]⟩, 0, 0, z4, 0, 0, 0, 0, [])))
 (some (.inl (0, 0, 0, ⟨#[]⟩, ⟨#[]⟩, 0, 0, 0, 0, 0, 0, 0, []))))))
 ((getI y1 0).bind fun y56 =>
 cond (decide (y56 = ⟨#[114, 101, 116, 114, 121]⟩))
 (some (.inl (5, 0, 0, ⟨#[]⟩, ⟨#[]⟩, 0, 0, 0, 0, 0, 0, 0, [])))
 ((getI y1 0).bind fun y57 =>
 cond (decide (y57 = ⟨#[114, 101, 102, 117, 110, 100]⟩))
 (some (.inl (6, 0, 0, ⟨#[]⟩, ⟨#[]⟩, 0, 0, z4, 0, 0, 0, 0, [])))
 (some (.inl (0, 0, 0, ⟨#[]⟩, ⟨#[]⟩, 0, 0, 0, 0, 0, 0, 0, []))))))))
 ((getI y1 0).bind fun y58 =>
 cond (decide (y58 = ⟨#[114, 117, 110]⟩))
 (cond (decide ((y1.length : Int) = 2))
 (some (.inl (3, 0, 0, ⟨#[]⟩, ⟨#[]⟩, 0, 0, 0, 0, z4, 0, 0, [])))
 ((getI y1 0).bind fun y59 =>
 cond (decide (y59 = ⟨#[115, 104, 117, 116]⟩))
 (cond (decide ((y1.length : Int) = 2))
 ((getI y1 1).bind fun y60 =>
 (m_spec_l12Trip y60).bind fun y61 =>
 some (.inl (4, 0, 0, ⟨#[]⟩, ⟨#[]⟩, 0, 0, 0, 0, 0, y61.leg, y61.day, [])))
 ((getI y1 0).bind fun y62 =>
 cond (decide (y62 = ⟨#[114, 101, 116, 114, 121]⟩))
 (some (.inl (5, 0, 0, ⟨#[]⟩, ⟨#[]⟩, 0, 0, 0, 0, 0, 0, 0, [])))
 ((getI y1 0).bind fun y63 =>
 cond (decide (y63 = ⟨#[114, 101, 102, 117, 110, 100]⟩))
 (some (.inl (6, 0, 0, ⟨#[]⟩, ⟨#[]⟩, 0, 0, z4, 0, 0, 0, 0, [])))
 (some (.inl (0, 0, 0, ⟨#[]⟩, ⟨#[]⟩, 0, 0, 0, 0, 0, 0, 0, []))))))
 ((getI y1 0).bind fun y64 =>
 cond (decide (y64 = ⟨#[114, 101, 116, 114, 121]⟩))
 (some (.inl (5, 0, 0, ⟨#[]⟩, ⟨#[]⟩, 0, 0, 0, 0, 0, 0, 0, [])))
 ((getI y1 0).bind fun y65 =>
 cond (decide (y65 = ⟨#[114, 101, 102, 117, 110, 100]⟩))
 (some (.inl (6, 0, 0, ⟨#[]⟩, ⟨#[]⟩, 0, 0, z4, 0, 0, 0, 0, [])))
 (some (.inl (0, 0, 0, ⟨#[]⟩, ⟨#[]⟩, 0, 0, 0, 0, 0, 0, 0, [])))))))
 ((getI y1 0).bind fun y66 =>
 cond (decide (y66 = ⟨#[115, 104, 117, 116]⟩))
 (cond (decide ((y1.length : Int) = 2))
 ((getI y1 1).bind fun y67 =>
 (m_spec_l12Trip y67).bind fun y68 =>
 some (.inl (4, 0, 0, ⟨#[]⟩, ⟨#[]⟩, 0, 0, 0, 0, 0, y68.leg, y68.day, [])))
 ((getI y1 0).bind fun y69 =>
 cond (decide (y69 = ⟨#[114, 101, 116, 114, 121]⟩))
 (some (.inl (5, 0, 0, ⟨#[]⟩, ⟨#[]⟩, 0, 0, 0, 0, 0, 0, 0, [])))
 ((getI y1 0).bind fun y70 =>
 cond (decide (y70 = ⟨#[114, 101, 102, 117, 110, 100]⟩))
 (some (.inl (6, 0, 0, ⟨#[]⟩, ⟨#[]⟩, 0, 0, z4, 0, 0, 0, 0, [])))
 (some (.inl (0, 0, 0, ⟨#[]⟩, ⟨#[]⟩, 0, 0, 0, 0, 0, 0, 0, []))))))
 ((getI y1 0).bind fun y71 =>
 cond (decide (y71 = ⟨#[114, 101, 116, 114, 121]⟩))
 (some (.inl (5, 0, 0, ⟨#[]⟩, ⟨#[]⟩, 0, 0, 0, 0, 0, 0, 0, [])))
 ((getI y1 0).bind fun y72 =>
 cond (decide (y72 = ⟨#[114, 101, 102, 117, 110, 100]⟩))
 (some (.inl (6, 0, 0, ⟨#[]⟩, ⟨#[]⟩, 0, 0, z4, 0, 0, 0, 0, [])))
 (some (.inl (0, 0, 0, ⟨#[]⟩, ⟨#[]⟩, 0, 0, 0, 0, 0, 0, 0, [])))))))) : Option ((Int × Int × Int × ByteArray × ByteArray × Int × Int × Int × Int × Int × Int × Int × (List Int)) ⊕ Empty)) (fun z73 => (vs s :: .un :: .be 0 0 0 :: .un :: .un :: .be 1 0 0 :: (U 110 []))) (fun z73 => [some ⟨.of 30, 13, [[vi 0, vi 0, vi 0, vs (⟨#[]⟩), vs (⟨#[]⟩), vi 0, .v (.slice none 0 0), vi 0, vi 0, vi 0, vi 0, vi 0, vi 0]]⟩, some ⟨.of 30, 13, [[vi z73.1, vi z73.2.1, vi z73.2.2.1, vs z73.2.2.2.1, vs z73.2.2.2.2.1, vi z73.2.2.2.2.2.1, .ms 2, vi z73.2.2.2.2.2.2.1, vi z73.2.2.2.2.2.2.2.1, vi z73.2.2.2.2.2.2.2.2.1, vi z73.2.2.2.2.2.2.2.2.2.1, vi z73.2.2.2.2.2.2.2.2.2.2.1, vi z73.2.2.2.2.2.2.2.2.2.2.2.1]]⟩, some ⟨.of 3, 1, z73.2.2.2.2.2.2.2.2.2.2.2.2.map cInt⟩])).bind (selim (fun z73 =>
 (m_spec_IsAct (⟨z73.1, (⟨(⟨z73.2.1, z73.2.2.1, z73.2.2.2.1⟩ : YLabel), z73.2.2.2.2.1, z73.2.2.2.2.2.1, z73.2.2.2.2.2.2.2.2.2.2.2.2, z73.2.2.2.2.2.2.1⟩ : YParcel), z73.2.2.2.2.2.2.2.1, z73.2.2.2.2.2.2.2.2.1, z73.2.2.2.2.2.2.2.2.2.1, (⟨z73.2.2.2.2.2.2.2.2.2.2.1, z73.2.2.2.2.2.2.2.2.2.2.2.1⟩ : YTrip)⟩ : YAct)).bind fun y74 =>
 cond (!y74)
 (some ((⟨0, (⟨(⟨0, 0, ⟨#[]⟩⟩ : YLabel), ⟨#[]⟩, 0, [], 0⟩ : YParcel), 0, 0, 0, (⟨0, 0⟩ : YTrip)⟩ : YAct), false))
 ((m_spec_FormatAct (⟨z73.1, (⟨(⟨z73.2.1, z73.2.2.1, z73.2.2.2.1⟩ : YLabel), z73.2.2.2.2.1, z73.2.2.2.2.2.1, z73.2.2.2.2.2.2.2.2.2.2.2.2, z73.2.2.2.2.2.2.1⟩ : YParcel), z73.2.2.2.2.2.2.2.1, z73.2.2.2.2.2.2.2.2.1, z73.2.2.2.2.2.2.2.2.2.1, (⟨z73.2.2.2.2.2.2.2.2.2.2.1, z73.2.2.2.2.2.2.2.2.2.2.2.1⟩ : YTrip)⟩ : YAct)).bind fun y75 =>
 cond (!decide (y75 = s))
 (some ((⟨0, (⟨(⟨0, 0, ⟨#[]⟩⟩ : YLabel), ⟨#[]⟩, 0, [], 0⟩ : YParcel), 0, 0, 0, (⟨0, 0⟩ : YTrip)⟩ : YAct), false))
 (some ((⟨z73.1, (⟨(⟨z73.2.1, z73.2.2.1, z73.2.2.2.1⟩ : YLabel), z73.2.2.2.2.1, z73.2.2.2.2.2.1, z73.2.2.2.2.2.2.2.2.2.2.2.2, z73.2.2.2.2.2.2.1⟩ : YParcel), z73.2.2.2.2.2.2.2.1, z73.2.2.2.2.2.2.2.2.1, z73.2.2.2.2.2.2.2.2.2.1, (⟨z73.2.2.2.2.2.2.2.2.2.2.1, z73.2.2.2.2.2.2.2.2.2.2.2.1⟩ : YTrip)⟩ : YAct), true)))) (fun r => nomatch r))) (fun r => nomatch r))
instance (s : ByteArray) : CT Tryz.prog (m_o_spec_ParseAct s) := ⟨6, [vs s], [], fun r => .tu [.ag [vi r.1.kind, vi r.1.parcel.label.service, vi r.1.parcel.label.serial, vs r.1.parcel.label.to_, vs r.1.parcel.from_, vi r.1.parcel.weight, .ms 0, vi r.1.parcel.value, vi r.1.order, vi r.1.amount, vi r.1.until_, vi r.1.trip.leg, vi r.1.trip.day], vb r.2], fun r => [some ⟨.of 3, 1, r.1.parcel.sides.map cInt⟩], fun H => by replace H := H0 H; unfold m_o_spec_ParseAct at H; exact callM_of Tryz.func6 rfl Tryz.ntmps6 Tryz.results6 fun Q hQ hQn => wk3⟩
def m_impl_readTrip (s : ByteArray) : Option (YTrip × Bool) :=
 (m_strings_Cut s (⟨#[47]⟩)).bind fun y1 =>
 (m_impl_ParseInt y1.1).bind fun y2 =>
 (m_impl_ParseInt y1.2.1).bind fun y3 =>
 cond y1.2.2
 (cond y2.2
 (some ((⟨y2.1, y3.1⟩ : YTrip), y3.2))
 (some ((⟨y2.1, y3.1⟩ : YTrip), false)))
 (some ((⟨y2.1, y3.1⟩ : YTrip), false))
instance (s : ByteArray) : CT Tryz.prog (m_impl_readTrip s) := ⟨29, [vs s], [], fun r => .tu [.ag [vi r.1.leg, vi r.1.day], vb r.2], fun r => [], fun H => by replace H := H0 H; unfold m_impl_readTrip at H; exact callM_of Tryz.func29 rfl Tryz.ntmps29 Tryz.results29 fun Q hQ hQn => wk3⟩
def m_o_impl_ParseAct (s : ByteArray) : Option (YAct × Bool) :=
 (m_strings_Cut s (⟨#[32]⟩)).bind fun y1 =>
 (jn 3 23 (
 cond (decide (y1.1 = ⟨#[116, 97, 107, 101]⟩))
 ((m_o_impl_ParseParcel y1.2.1).bind fun y2 =>
 some (.inl (1, y2.1.label.service, y2.1.label.serial, y2.1.label.to_, y2.1.from_, y2.1.weight, y2.1.value, 0, 0, 0, 0, 0, y2.1.sides)))
 (cond (decide (y1.1 = ⟨#[112, 97, 121]⟩))
 ((m_strings_Cut y1.2.1 (⟨#[32]⟩)).bind fun y3 =>
 (m_impl_ParseInt y3.1).bind fun y4 =>
 (m_impl_ParseInt y3.2.1).bind fun y5 =>
 some (.inl (2, 0, 0, ⟨#[]⟩, ⟨#[]⟩, 0, 0, y4.1, y5.1, 0, 0, 0, [])))
 (cond (decide (y1.1 = ⟨#[114, 117, 110]⟩))
 ((m_impl_ParseInt y1.2.1).bind fun y6 =>
 some (.inl (3, 0, 0, ⟨#[]⟩, ⟨#[]⟩, 0, 0, 0, 0, y6.1, 0, 0, [])))
 (cond (decide (y1.1 = ⟨#[115, 104, 117, 116]⟩))
 ((m_impl_readTrip y1.2.1).bind fun y7 =>
 some (.inl (4, 0, 0, ⟨#[]⟩, ⟨#[]⟩, 0, 0, 0, 0, 0, y7.1.leg, y7.1.day, [])))
 (cond (decide (y1.1 = ⟨#[114, 101, 116, 114, 121]⟩))
 (some (.inl (5, 0, 0, ⟨#[]⟩, ⟨#[]⟩, 0, 0, 0, 0, 0, 0, 0, [])))
 (cond (decide (y1.1 = ⟨#[114, 101, 102, 117, 110, 100]⟩))
 ((m_impl_ParseInt y1.2.1).bind fun y8 =>
 some (.inl (6, 0, 0, ⟨#[]⟩, ⟨#[]⟩, 0, 0, y8.1, 0, 0, 0, 0, [])))
 (some (.inl (0, 0, 0, ⟨#[]⟩, ⟨#[]⟩, 0, 0, 0, 0, 0, 0, 0, [])))))))) : Option ((Int × Int × Int × ByteArray × ByteArray × Int × Int × Int × Int × Int × Int × Int × (List Int)) ⊕ Empty)) (fun z9 => (vs s :: .un :: .be 0 0 0 :: (U 4 (.be 1 0 0 :: (U 81 []))))) (fun z9 => [some ⟨.of 30, 13, [[vi 0, vi 0, vi 0, vs (⟨#[]⟩), vs (⟨#[]⟩), vi 0, .v (.slice none 0 0), vi 0, vi 0, vi 0, vi 0, vi 0, vi 0]]⟩, some ⟨.of 30, 13, [[vi z9.1, vi z9.2.1, vi z9.2.2.1, vs z9.2.2.2.1, vs z9.2.2.2.2.1, vi z9.2.2.2.2.2.1, .ms 2, vi z9.2.2.2.2.2.2.1, vi z9.2.2.2.2.2.2.2.1, vi z9.2.2.2.2.2.2.2.2.1, vi z9.2.2.2.2.2.2.2.2.2.1, vi z9.2.2.2.2.2.2.2.2.2.2.1, vi z9.2.2.2.2.2.2.2.2.2.2.2.1]]⟩, some ⟨.of 3, 1, z9.2.2.2.2.2.2.2.2.2.2.2.2.map cInt⟩])).bind (selim (fun z9 =>
 cond (decide (s = ⟨#[]⟩))
 (some ((⟨0, (⟨(⟨0, 0, ⟨#[]⟩⟩ : YLabel), ⟨#[]⟩, 0, [], 0⟩ : YParcel), 0, 0, 0, (⟨0, 0⟩ : YTrip)⟩ : YAct), false))
 ((m_impl_FormatAct (⟨z9.1, (⟨(⟨z9.2.1, z9.2.2.1, z9.2.2.2.1⟩ : YLabel), z9.2.2.2.2.1, z9.2.2.2.2.2.1, z9.2.2.2.2.2.2.2.2.2.2.2.2, z9.2.2.2.2.2.2.1⟩ : YParcel), z9.2.2.2.2.2.2.2.1, z9.2.2.2.2.2.2.2.2.1, z9.2.2.2.2.2.2.2.2.2.1, (⟨z9.2.2.2.2.2.2.2.2.2.2.1, z9.2.2.2.2.2.2.2.2.2.2.2.1⟩ : YTrip)⟩ : YAct)).bind fun y10 =>
 cond (!decide (y10 = s))
 (some ((⟨0, (⟨(⟨0, 0, ⟨#[]⟩⟩ : YLabel), ⟨#[]⟩, 0, [], 0⟩ : YParcel), 0, 0, 0, (⟨0, 0⟩ : YTrip)⟩ : YAct), false))
 (some ((⟨z9.1, (⟨(⟨z9.2.1, z9.2.2.1, z9.2.2.2.1⟩ : YLabel), z9.2.2.2.2.1, z9.2.2.2.2.2.1, z9.2.2.2.2.2.2.2.2.2.2.2.2, z9.2.2.2.2.2.2.1⟩ : YParcel), z9.2.2.2.2.2.2.2.1, z9.2.2.2.2.2.2.2.2.1, z9.2.2.2.2.2.2.2.2.2.1, (⟨z9.2.2.2.2.2.2.2.2.2.2.1, z9.2.2.2.2.2.2.2.2.2.2.2.1⟩ : YTrip)⟩ : YAct), true)))) (fun r => nomatch r))
instance (s : ByteArray) : CT Tryz.prog (m_o_impl_ParseAct s) := ⟨7, [vs s], [], fun r => .tu [.ag [vi r.1.kind, vi r.1.parcel.label.service, vi r.1.parcel.label.serial, vs r.1.parcel.label.to_, vs r.1.parcel.from_, vi r.1.parcel.weight, .ms 0, vi r.1.parcel.value, vi r.1.order, vi r.1.amount, vi r.1.until_, vi r.1.trip.leg, vi r.1.trip.day], vb r.2], fun r => [some ⟨.of 3, 1, r.1.parcel.sides.map cInt⟩], fun H => by replace H := H0 H; unfold m_o_impl_ParseAct at H; exact callM_of Tryz.func7 rfl Tryz.ntmps7 Tryz.results7 fun Q hQ hQn => wk3⟩
end Go.Proofs.YtkfbakhnpfmfmaaGreatDoor
namespace Go.Proofs.YtkfbakhnpfmfmaaGreatDoor
set_option maxRecDepth 10000
open Go.RowKit Go.Sort
set_option linter.unusedVariables false
set_option linter.unusedSimpArgs false
set_option maxHeartbeats 4000000
abbrev zP : YParcel := ⟨⟨0, 0, ⟨#[]⟩⟩, ⟨#[]⟩, 0, [], 0⟩
abbrev zA : YAct := ⟨0, zP, 0, 0, 0, ⟨0, 0⟩⟩
inductive ActF : YAct → Prop
  | take (p : YParcel) (n : Int) (h : PGood p n) : ActF ⟨1, p, 0, 0, 0, ⟨0, 0⟩⟩
  | pay (o m : Int) (h : 1 ≤ o ∧ o ≤ 9999) (h2 : 1 ≤ m ∧ m ≤ 100000) : ActF ⟨2, zP, o, m, 0, ⟨0, 0⟩⟩
  | run (u : Int) (h : 0 ≤ u ∧ u ≤ 100000) : ActF ⟨3, zP, 0, 0, u, ⟨0, 0⟩⟩
  | shut (l d : Int) (h : 0 ≤ l ∧ l ≤ 19) (h2 : 0 ≤ d ∧ d ≤ 60) : ActF ⟨4, zP, 0, 0, 0, ⟨l, d⟩⟩
  | retry : ActF ⟨5, zP, 0, 0, 0, ⟨0, 0⟩⟩
  | refund (o : Int) (h : 1 ≤ o ∧ o ≤ 9999) : ActF ⟨6, zP, o, 0, 0, ⟨0, 0⟩⟩
theorem act_inv {a : YAct} (h1 : a.parcel.label.to_.size ≤ B60) (h2 : a.parcel.from_.size ≤ B60) (h3 : a.parcel.sides.length < NN) (h : m_impl_IsAct a = some true) : ActF a := by
  obtain ⟨e1, b1, hb1⟩ := parcel_eq h1 h2 h3
  obtain ⟨k, p, o, m, u, t⟩ := a
  obtain ⟨lg, d⟩ := t
  obtain ⟨lb, fr, w, sd, v⟩ := p
  simp only at h1 h2 h3 e1 hb1
  have sv := fun b => sameActs_v (a := ⟨k, ⟨lb, fr, w, sd, v⟩, o, m, u, ⟨lg, d⟩⟩) (b := b) h3
  unfold m_impl_IsAct at h
  simp only [jn_eq, within_eq, e1, hb1, l1In_v, Option.bind_some] at h
  by_cases k1 : k = 1
  · subst k1
    simp only [decide_true, cond_true, Option.bind_some, selim, sv] at h
    cases b1 with
    | false => cases h
    | true =>
      simp at h
      obtain ⟨rfl, rfl, rfl, rfl, rfl⟩ := h
      obtain ⟨n, hn⟩ := parcel_txt h1 h2 h3 hb1
      exact .take _ n hn
  by_cases k2 : k = 2
  · subst k2
    simp only [Int.reduceEq, decide_true, decide_false, cond_true, cond_false, Option.bind_some, selim, sv, bndc] at h
    cases ha : (decide (1 ≤ o) && decide (o ≤ 9999)) <;> rw [ha] at h
    · cases h
    cases hb : (decide (1 ≤ m) && decide (m ≤ 100000)) <;> rw [hb] at h
    · cases h
    simp at h ha hb
    obtain ⟨⟨rfl, rfl, rfl, rfl, rfl⟩, rfl, rfl, rfl⟩ := h
    exact .pay o m ha hb
  by_cases k3 : k = 3
  · subst k3
    simp only [Int.reduceEq, decide_true, decide_false, cond_true, cond_false, Option.bind_some, selim, sv, bndc] at h
    cases ha : (decide (0 ≤ u) && decide (u ≤ 100000)) <;> rw [ha] at h
    · cases h
    simp at h ha
    obtain ⟨⟨rfl, rfl, rfl, rfl, rfl⟩, rfl, rfl, rfl, rfl⟩ := h
    exact .run u ha
  by_cases k4 : k = 4
  · subst k4
    simp only [Int.reduceEq, decide_true, decide_false, cond_true, cond_false, Option.bind_some, selim, sv, bndc] at h
    cases ha : (decide (0 ≤ lg) && decide (lg ≤ 19)) <;> rw [ha] at h
    · cases h
    cases hb : (decide (0 ≤ d) && decide (d ≤ 60)) <;> rw [hb] at h
    · cases h
    simp at h ha hb
    obtain ⟨⟨rfl, rfl, rfl, rfl, rfl⟩, rfl, rfl, rfl⟩ := h
    exact .shut lg d ha hb
  by_cases k5 : k = 5
  · subst k5
    simp only [Int.reduceEq, decide_true, decide_false, cond_true, cond_false, Option.bind_some, selim, sv, bndc] at h
    simp at h
    obtain ⟨⟨rfl, rfl, rfl, rfl, rfl⟩, rfl, rfl, rfl, rfl, rfl⟩ := h
    exact .retry
  by_cases k6 : k = 6
  · subst k6
    simp only [Int.reduceEq, decide_true, decide_false, cond_true, cond_false, Option.bind_some, selim, sv, bndc] at h
    cases ha : (decide (1 ≤ o) && decide (o ≤ 9999)) <;> rw [ha] at h
    · cases h
    simp at h ha
    obtain ⟨⟨rfl, rfl, rfl, rfl, rfl⟩, rfl, rfl, rfl, rfl⟩ := h
    exact .refund o ha
  simp only [decide_eq_false k1, decide_eq_false k2, decide_eq_false k3, decide_eq_false k4, decide_eq_false k5, decide_eq_false k6, cond_false, Option.bind_some, selim] at h
  cases h
theorem dtx (a b : List UInt8) : decide (txt a = (⟨b.toArray⟩ : ByteArray)) = decide (a = b) := by
  rw [decide_eq_decide]
  exact ⟨fun h => by have := congrArg (fun x : ByteArray => x.data.toList) h; simpa [txt] using this, fun h => by rw [h]; rfl⟩
structure RT (a : YAct) (s : ByteArray) : Prop where
  fi : m_impl_FormatAct a = some s
  fs : m_spec_FormatAct a = some s
  ne : decide (s = ⟨#[]⟩) = false
  pi : m_o_impl_ParseAct s = some (a, true)
  ps : m_o_spec_ParseAct s = some (a, true)
theorem rt_retry (hi : m_impl_IsAct ⟨5, zP, 0, 0, 0, ⟨0, 0⟩⟩ = some true) (hs : m_spec_IsAct ⟨5, zP, 0, 0, 0, ⟨0, 0⟩⟩ = some true) : ∃ s, RT ⟨5, zP, 0, 0, 0, ⟨0, 0⟩⟩ s := by
  have f1 : m_impl_FormatAct ⟨5, zP, 0, 0, 0, ⟨0, 0⟩⟩ = some (txt [114, 101, 116, 114, 121]) := by
    unfold m_impl_FormatAct
    rw [hi]; rfl
  have f2 : m_spec_FormatAct ⟨5, zP, 0, 0, 0, ⟨0, 0⟩⟩ = some (txt [114, 101, 116, 114, 121]) := by
    unfold m_spec_FormatAct
    rw [hs]; rfl
  have ne : decide (txt [114, 101, 116, 114, 121] = ⟨#[]⟩) = false := by rw [dtx]; rfl
  refine ⟨txt [114, 101, 116, 114, 121], f1, f2, ne, ?_, ?_⟩
  · have e1 := cut_not (c := 32) (a := [114, 101, 116, 114, 121]) (by decide) (by decide)
    unfold m_o_impl_ParseAct
    rw [show (⟨#[32]⟩ : ByteArray) = txt [32] from rfl, e1]
    simp only [jn_eq, Option.bind_some, dtx, selim, ne]
    simp [f1, selim]
  · have e1 : m_spec_l2Split (txt [114, 101, 116, 114, 121]) 32 = _ := l2Split_eq (c := 32) (L := [114, 101, 116, 114, 121]) (by decide)
    rw [splitL_none (by decide)] at e1
    unfold m_o_spec_ParseAct
    rw [e1]
    simp only [jn_eq, Option.bind_some, List.map_cons, List.map_nil, show ∀ a : ByteArray, getI [a] 0 = some a from fun _ => rfl, dtx]
    simp [f2, hs, selim, dtx]
theorem rt_pay {o m : Int} (h : 1 ≤ o ∧ o ≤ 9999) (h2 : 1 ≤ m ∧ m ≤ 100000) (hi : m_impl_IsAct ⟨2, zP, o, m, 0, ⟨0, 0⟩⟩ = some true) (hs : m_spec_IsAct ⟨2, zP, o, m, 0, ⟨0, 0⟩⟩ = some true) : ∃ s, RT ⟨2, zP, o, m, 0, ⟨0, 0⟩⟩ s := by
  have et : ∀ l : List UInt8, (⟨l.toArray⟩ : ByteArray) = txt l := fun _ => rfl
  have l0 := itoa_len (n := o) (small64 (by omega))
  have l1 := itoa_len (n := m) (small64 (by omega))
  have f1 : m_impl_FormatAct ⟨2, zP, o, m, 0, ⟨0, 0⟩⟩ = some (txt ([112, 97, 121] ++ 32 :: (Lib.itoa o ++ 32 :: Lib.itoa m))) := by
    unfold m_impl_FormatAct
    simp only [hi, Option.bind_some, Bool.not_true, cond_false, Int.reduceEq, decide_true, decide_false, cond_true, et, txt_app, fI (n := o) (small64 (by omega)), fI (n := m) (small64 (by omega))]
    repeat rw [bOk (by simp only [txt_size, List.length_append, List.length_cons, List.length_nil]; omega), Option.bind_some]
    simp
  have f2 : m_spec_FormatAct ⟨2, zP, o, m, 0, ⟨0, 0⟩⟩ = some (txt ([112, 97, 121] ++ 32 :: (Lib.itoa o ++ 32 :: Lib.itoa m))) := by
    unfold m_spec_FormatAct
    simp only [hs, Option.bind_some, Bool.not_true, cond_false, Int.reduceEq, decide_true, decide_false, cond_true, et, txt_app, fS (n := o) (small64 (by omega)), fS (n := m) (small64 (by omega))]
    repeat rw [bOk (by simp only [txt_size, List.length_append, List.length_cons, List.length_nil]; omega), Option.bind_some]
    simp
  have ne : decide (txt ([112, 97, 121] ++ 32 :: (Lib.itoa o ++ 32 :: Lib.itoa m)) = ⟨#[]⟩) = false := by rw [dtx]; exact decide_eq_false (by simp)
  refine ⟨txt ([112, 97, 121] ++ 32 :: (Lib.itoa o ++ 32 :: Lib.itoa m)), f1, f2, ne, ?_, ?_⟩
  · have e1 := cut_at (c := 32) (a := [112, 97, 121]) (b := (Lib.itoa o ++ 32 :: Lib.itoa m)) (by decide) (by simp; omega)
    unfold m_o_impl_ParseAct
    rw [show (⟨#[32]⟩ : ByteArray) = txt [32] from rfl, e1]
    simp only [jn_eq, Option.bind_some, dtx]
    rw [cut_at (c := 32) (a := Lib.itoa o) (b := Lib.itoa m) (itoa_no (n := o) (by omega) (c := 32) (by decide)) (by omega)]
    simp only [Option.bind_some, iint_at (n := o) ⟨by omega, by omega⟩, iint_at (n := m) ⟨by omega, by omega⟩, selim, ne]
    simp [f1, selim]
  · have e1 : m_spec_l2Split (txt ([112, 97, 121] ++ 32 :: (Lib.itoa o ++ 32 :: Lib.itoa m))) 32 = _ := l2Split_eq (c := 32) (L := [112, 97, 121] ++ 32 :: (Lib.itoa o ++ 32 :: Lib.itoa m)) (by simp; omega)
    rw [splitL_app (by decide), splitL_app (itoa_no (n := o) (by omega) (c := 32) (by decide)), splitL_none (itoa_no (n := m) (by omega) (by decide))] at e1
    unfold m_o_spec_ParseAct
    rw [e1]
    simp only [jn_eq, Option.bind_some, List.map_cons, List.map_nil, show ∀ a b c : ByteArray, getI [a, b, c] 0 = some a from fun _ _ _ => rfl, show ∀ a b c : ByteArray, getI [a, b, c] 1 = some b from fun _ _ _ => rfl, show ∀ a b c : ByteArray, getI [a, b, c] 2 = some c from fun _ _ _ => rfl, dtx]
    simp [pint_itoa (n := o) (by omega) (by omega), pint_itoa (n := m) (by omega) (by omega), f2, hs, selim, dtx]
theorem rt_run {u : Int} (h : 0 ≤ u ∧ u ≤ 100000) (hi : m_impl_IsAct ⟨3, zP, 0, 0, u, ⟨0, 0⟩⟩ = some true) (hs : m_spec_IsAct ⟨3, zP, 0, 0, u, ⟨0, 0⟩⟩ = some true) : ∃ s, RT ⟨3, zP, 0, 0, u, ⟨0, 0⟩⟩ s := by
  have et : ∀ l : List UInt8, (⟨l.toArray⟩ : ByteArray) = txt l := fun _ => rfl
  have l0 := itoa_len (n := u) (small64 (by omega))
  have f1 : m_impl_FormatAct ⟨3, zP, 0, 0, u, ⟨0, 0⟩⟩ = some (txt ([114, 117, 110] ++ 32 :: Lib.itoa u)) := by
    unfold m_impl_FormatAct
    simp only [hi, Option.bind_some, Bool.not_true, cond_false, Int.reduceEq, decide_true, decide_false, cond_true, et, txt_app, fI (n := u) (small64 (by omega))]
    repeat rw [bOk (by simp only [txt_size, List.length_append, List.length_cons, List.length_nil]; omega), Option.bind_some]
    simp
  have f2 : m_spec_FormatAct ⟨3, zP, 0, 0, u, ⟨0, 0⟩⟩ = some (txt ([114, 117, 110] ++ 32 :: Lib.itoa u)) := by
    unfold m_spec_FormatAct
    simp only [hs, Option.bind_some, Bool.not_true, cond_false, Int.reduceEq, decide_true, decide_false, cond_true, et, txt_app, fS (n := u) (small64 (by omega))]
    repeat rw [bOk (by simp only [txt_size, List.length_append, List.length_cons, List.length_nil]; omega), Option.bind_some]
    simp
  have ne : decide (txt ([114, 117, 110] ++ 32 :: Lib.itoa u) = ⟨#[]⟩) = false := by rw [dtx]; exact decide_eq_false (by simp)
  refine ⟨txt ([114, 117, 110] ++ 32 :: Lib.itoa u), f1, f2, ne, ?_, ?_⟩
  · have e1 := cut_at (c := 32) (a := [114, 117, 110]) (b := Lib.itoa u) (by decide) (by simp; omega)
    unfold m_o_impl_ParseAct
    rw [show (⟨#[32]⟩ : ByteArray) = txt [32] from rfl, e1]
    simp only [jn_eq, Option.bind_some, dtx]
    simp only [Option.bind_some, iint_at (n := u) ⟨by omega, by omega⟩, selim, ne]
    simp [f1, selim]
  · have e1 : m_spec_l2Split (txt ([114, 117, 110] ++ 32 :: Lib.itoa u)) 32 = _ := l2Split_eq (c := 32) (L := [114, 117, 110] ++ 32 :: Lib.itoa u) (by simp; omega)
    rw [splitL_app (by decide), splitL_none (itoa_no (n := u) (by omega) (by decide))] at e1
    unfold m_o_spec_ParseAct
    rw [e1]
    simp only [jn_eq, Option.bind_some, List.map_cons, List.map_nil, show ∀ a b : ByteArray, getI [a, b] 0 = some a from fun _ _ => rfl, show ∀ a b : ByteArray, getI [a, b] 1 = some b from fun _ _ => rfl, dtx]
    simp [pint_itoa (n := u) (by omega) (by omega), f2, hs, selim, dtx]
theorem rt_refund {o : Int} (h : 1 ≤ o ∧ o ≤ 9999) (hi : m_impl_IsAct ⟨6, zP, o, 0, 0, ⟨0, 0⟩⟩ = some true) (hs : m_spec_IsAct ⟨6, zP, o, 0, 0, ⟨0, 0⟩⟩ = some true) : ∃ s, RT ⟨6, zP, o, 0, 0, ⟨0, 0⟩⟩ s := by
  have et : ∀ l : List UInt8, (⟨l.toArray⟩ : ByteArray) = txt l := fun _ => rfl
  have l0 := itoa_len (n := o) (small64 (by omega))
  have f1 : m_impl_FormatAct ⟨6, zP, o, 0, 0, ⟨0, 0⟩⟩ = some (txt ([114, 101, 102, 117, 110, 100] ++ 32 :: Lib.itoa o)) := by
    unfold m_impl_FormatAct
    simp only [hi, Option.bind_some, Bool.not_true, cond_false, Int.reduceEq, decide_true, decide_false, cond_true, et, txt_app, fI (n := o) (small64 (by omega))]
    repeat rw [bOk (by simp only [txt_size, List.length_append, List.length_cons, List.length_nil]; omega), Option.bind_some]
    simp
  have f2 : m_spec_FormatAct ⟨6, zP, o, 0, 0, ⟨0, 0⟩⟩ = some (txt ([114, 101, 102, 117, 110, 100] ++ 32 :: Lib.itoa o)) := by
    unfold m_spec_FormatAct
    simp only [hs, Option.bind_some, Bool.not_true, cond_false, Int.reduceEq, decide_true, decide_false, cond_true, et, txt_app, fS (n := o) (small64 (by omega))]
    repeat rw [bOk (by simp only [txt_size, List.length_append, List.length_cons, List.length_nil]; omega), Option.bind_some]
    simp
  have ne : decide (txt ([114, 101, 102, 117, 110, 100] ++ 32 :: Lib.itoa o) = ⟨#[]⟩) = false := by rw [dtx]; exact decide_eq_false (by simp)
  refine ⟨txt ([114, 101, 102, 117, 110, 100] ++ 32 :: Lib.itoa o), f1, f2, ne, ?_, ?_⟩
  · have e1 := cut_at (c := 32) (a := [114, 101, 102, 117, 110, 100]) (b := Lib.itoa o) (by decide) (by simp; omega)
    unfold m_o_impl_ParseAct
    rw [show (⟨#[32]⟩ : ByteArray) = txt [32] from rfl, e1]
    simp only [jn_eq, Option.bind_some, dtx]
    simp only [Option.bind_some, iint_at (n := o) ⟨by omega, by omega⟩, selim, ne]
    simp [f1, selim]
  · have e1 : m_spec_l2Split (txt ([114, 101, 102, 117, 110, 100] ++ 32 :: Lib.itoa o)) 32 = _ := l2Split_eq (c := 32) (L := [114, 101, 102, 117, 110, 100] ++ 32 :: Lib.itoa o) (by simp; omega)
    rw [splitL_app (by decide), splitL_none (itoa_no (n := o) (by omega) (by decide))] at e1
    unfold m_o_spec_ParseAct
    rw [e1]
    simp only [jn_eq, Option.bind_some, List.map_cons, List.map_nil, show ∀ a b : ByteArray, getI [a, b] 0 = some a from fun _ _ => rfl, show ∀ a b : ByteArray, getI [a, b] 1 = some b from fun _ _ => rfl, dtx]
    simp [pint_itoa (n := o) (by omega) (by omega), f2, hs, selim, dtx]
theorem rt_shut {l d : Int} (h : 0 ≤ l ∧ l ≤ 19) (h2 : 0 ≤ d ∧ d ≤ 60) (hi : m_impl_IsAct ⟨4, zP, 0, 0, 0, ⟨l, d⟩⟩ = some true) (hs : m_spec_IsAct ⟨4, zP, 0, 0, 0, ⟨l, d⟩⟩ = some true) : ∃ s, RT ⟨4, zP, 0, 0, 0, ⟨l, d⟩⟩ s := by
  have et : ∀ l : List UInt8, (⟨l.toArray⟩ : ByteArray) = txt l := fun _ => rfl
  have l0 := itoa_len (n := l) (small64 (by omega))
  have l1 := itoa_len (n := d) (small64 (by omega))
  have tt : m_impl_tripText ⟨l, d⟩ = some (txt (Lib.itoa l ++ 47 :: Lib.itoa d)) := by
    unfold m_impl_tripText
    simp only [fI (n := l) (small64 (by omega)), fI (n := d) (small64 (by omega)), Option.bind_some, et, txt_app]
    repeat rw [bOk (by simp only [txt_size, List.length_append, List.length_cons, List.length_nil]; omega), Option.bind_some]
    simp
  have hn : (32 : UInt8) ∉ Lib.itoa l ++ 47 :: Lib.itoa d := by
    have a := itoa_no (n := l) (by omega) (c := 32) (by decide)
    have b := itoa_no (n := d) (by omega) (c := 32) (by decide)
    simp [a, b]
  have hq := itoa_no (n := l) (by omega) (c := 47) (by decide)
  have hq2 := itoa_no (n := d) (by omega) (c := 47) (by decide)
  have f1 : m_impl_FormatAct ⟨4, zP, 0, 0, 0, ⟨l, d⟩⟩ = some (txt ([115, 104, 117, 116] ++ 32 :: (Lib.itoa l ++ 47 :: Lib.itoa d))) := by
    unfold m_impl_FormatAct
    simp only [hi, Option.bind_some, Bool.not_true, cond_false, Int.reduceEq, decide_true, decide_false, cond_true, et, txt_app, tt]
    repeat rw [bOk (by simp only [txt_size, List.length_append, List.length_cons, List.length_nil]; omega), Option.bind_some]
    simp
  have f2 : m_spec_FormatAct ⟨4, zP, 0, 0, 0, ⟨l, d⟩⟩ = some (txt ([115, 104, 117, 116] ++ 32 :: (Lib.itoa l ++ 47 :: Lib.itoa d))) := by
    unfold m_spec_FormatAct
    simp only [hs, Option.bind_some, Bool.not_true, cond_false, Int.reduceEq, decide_true, decide_false, cond_true, et, txt_app, fS (n := l) (small64 (by omega)), fS (n := d) (small64 (by omega))]
    repeat rw [bOk (by simp only [txt_size, List.length_append, List.length_cons, List.length_nil]; omega), Option.bind_some]
    simp
  have ne : decide (txt ([115, 104, 117, 116] ++ 32 :: (Lib.itoa l ++ 47 :: Lib.itoa d)) = ⟨#[]⟩) = false := by rw [dtx]; exact decide_eq_false (by simp)
  refine ⟨txt ([115, 104, 117, 116] ++ 32 :: (Lib.itoa l ++ 47 :: Lib.itoa d)), f1, f2, ne, ?_, ?_⟩
  · have e1 := cut_at (c := 32) (a := [115, 104, 117, 116]) (b := (Lib.itoa l ++ 47 :: Lib.itoa d)) (by decide) (by simp; omega)
    unfold m_o_impl_ParseAct
    rw [show (⟨#[32]⟩ : ByteArray) = txt [32] from rfl, e1]
    simp only [jn_eq, Option.bind_some, dtx]
    have rt : m_impl_readTrip (txt (Lib.itoa l ++ 47 :: Lib.itoa d)) = some (⟨l, d⟩, true) := by
      unfold m_impl_readTrip
      rw [show (⟨#[47]⟩ : ByteArray) = txt [47] from rfl, cut_at (c := 47) hq (by omega)]
      simp only [Option.bind_some, iint_at (n := l) ⟨by omega, by omega⟩, iint_at (n := d) ⟨by omega, by omega⟩, cond_true]
    simp only [Option.bind_some, rt, selim, ne]
    simp [f1, selim]
  · have e1 : m_spec_l2Split (txt ([115, 104, 117, 116] ++ 32 :: (Lib.itoa l ++ 47 :: Lib.itoa d))) 32 = _ := l2Split_eq (c := 32) (L := [115, 104, 117, 116] ++ 32 :: (Lib.itoa l ++ 47 :: Lib.itoa d)) (by simp; omega)
    rw [splitL_app (by decide), splitL_none hn] at e1
    unfold m_o_spec_ParseAct
    rw [e1]
    simp only [jn_eq, Option.bind_some, List.map_cons, List.map_nil, show ∀ a b : ByteArray, getI [a, b] 0 = some a from fun _ _ => rfl, show ∀ a b : ByteArray, getI [a, b] 1 = some b from fun _ _ => rfl, dtx]
    obtain ⟨r, hr, _⟩ := pint_tot (s := txt (Lib.itoa l ++ 47 :: Lib.itoa d)) (by rw [txt_size]; simp; omega)
    have rt : m_spec_l12Trip (txt (Lib.itoa l ++ 47 :: Lib.itoa d)) = some ⟨l, d⟩ := by
      have e2 : m_spec_l2Split (txt (Lib.itoa l ++ 47 :: Lib.itoa d)) 47 = _ := l2Split_eq (c := 47) (L := Lib.itoa l ++ 47 :: Lib.itoa d) (by simp; omega)
      rw [splitL_app hq, splitL_none hq2] at e2
      unfold m_spec_l12Trip
      rw [e2]
      simp [show ∀ a b : ByteArray, getI [a, b] 0 = some a from fun _ _ => rfl, show ∀ a b : ByteArray, getI [a, b] 1 = some b from fun _ _ => rfl, pint_itoa (n := l) (by omega) (by omega), pint_itoa (n := d) (by omega) (by omega)]
    simp [hr, rt, f2, hs, selim, dtx]
theorem rt_take {p : YParcel} {n : Int} (g : PGood p n) (hi : m_impl_IsAct ⟨1, p, 0, 0, 0, ⟨0, 0⟩⟩ = some true) (hs : m_spec_IsAct ⟨1, p, 0, 0, 0, ⟨0, 0⟩⟩ = some true) : ∃ s, RT ⟨1, p, 0, 0, 0, ⟨0, 0⟩⟩ s := by
  have et : ∀ l : List UInt8, (⟨l.toArray⟩ : ByteArray) = txt l := fun _ => rfl
  have hl := parcT_len g
  obtain ⟨r1, r2⟩ := parcel_rt g
  have f1 : m_impl_FormatAct ⟨1, p, 0, 0, 0, ⟨0, 0⟩⟩ = some (txt ([116, 97, 107, 101] ++ 32 :: parcT p n)) := by
    unfold m_impl_FormatAct
    simp only [hi, Option.bind_some, Bool.not_true, cond_false, Int.reduceEq, decide_true, decide_false, cond_true, et, txt_app, g.fi]
    repeat rw [bOk (by simp only [txt_size, List.length_append, List.length_cons, List.length_nil]; omega), Option.bind_some]
    simp
  have f2 : m_spec_FormatAct ⟨1, p, 0, 0, 0, ⟨0, 0⟩⟩ = some (txt ([116, 97, 107, 101] ++ 32 :: parcT p n)) := by
    unfold m_spec_FormatAct
    simp only [hs, Option.bind_some, Bool.not_true, cond_false, Int.reduceEq, decide_true, decide_false, cond_true, et, txt_app, g.fs]
    repeat rw [bOk (by simp only [txt_size, List.length_append, List.length_cons, List.length_nil]; omega), Option.bind_some]
    simp
  have ne : decide (txt ([116, 97, 107, 101] ++ 32 :: parcT p n) = ⟨#[]⟩) = false := by rw [dtx]; exact decide_eq_false (by simp)
  refine ⟨txt ([116, 97, 107, 101] ++ 32 :: parcT p n), f1, f2, ne, ?_, ?_⟩
  · have e1 := cut_at (c := 32) (a := [116, 97, 107, 101]) (b := parcT p n) (by decide) (by simp; omega)
    unfold m_o_impl_ParseAct
    rw [show (⟨#[32]⟩ : ByteArray) = txt [32] from rfl, e1]
    simp only [jn_eq, Option.bind_some, dtx]
    simp only [Option.bind_some, r1, selim, ne]
    simp [f1, selim]
  · have e1 : m_spec_l2Split (txt ([116, 97, 107, 101] ++ 32 :: parcT p n)) 32 = _ := l2Split_eq (c := 32) (L := [116, 97, 107, 101] ++ 32 :: parcT p n) (by simp; omega)
    rw [splitL_app (by decide), parc_split g] at e1
    unfold m_o_spec_ParseAct
    rw [e1]
    simp only [jn_eq, Option.bind_some, List.map_cons, List.map_nil, show ∀ a b c d e f : ByteArray, getI [a, b, c, d, e, f] 0 = some a from fun _ _ _ _ _ _ => rfl, show ∀ a b c d e f : ByteArray, getI [a, b, c, d, e, f] 1 = some b from fun _ _ _ _ _ _ => rfl, show ∀ a b c d e f : ByteArray, getI [a, b, c, d, e, f] 2 = some c from fun _ _ _ _ _ _ => rfl, show ∀ a b c d e f : ByteArray, getI [a, b, c, d, e, f] 3 = some d from fun _ _ _ _ _ _ => rfl, show ∀ a b c d e f : ByteArray, getI [a, b, c, d, e, f] 4 = some e from fun _ _ _ _ _ _ => rfl, show ∀ a b c d e f : ByteArray, getI [a, b, c, d, e, f] 5 = some f from fun _ _ _ _ _ _ => rfl, dtx]
    obtain ⟨r, hr, _⟩ := pint_tot (s := txt (labT p.label n)) (by rw [txt_size]; have := labT_len g.lab ⟨g.n0, g.n1⟩; omega)
    have hsz : (txt ([116, 97, 107, 101] ++ 32 :: parcT p n)).size = 5 + (parcT p n).length := by rw [txt_size]; simp; omega
    have hsub : subS (txt ([116, 97, 107, 101] ++ 32 :: parcT p n)) 5 ((5 + (parcT p n).length : Nat) : Int) = txt (parcT p n) := by
      have := subS_at (a := [116, 97, 107, 101, 32]) (b := parcT p n) (c := []) (i := 5) (j := 5 + (parcT p n).length) rfl rfl
      simpa using this
    have hsl : chk (slOk 5 ((5 + (parcT p n).length : Nat) : Int) ((5 + (parcT p n).length : Nat) : Int)) = some () := chk_t (decide_eq_true ⟨by omega, by omega, by omega⟩)
    have hlt : decide ((5 : Int) < ((5 + (parcT p n).length : Nat) : Int)) = true := decide_eq_true (by have : 0 < (parcT p n).length := (by unfold parcT; simp; omega); omega)
    rw [hsz]
    simp only [hr, hlt, hsl, hsub, r2, Option.bind_some]
    simp [hr, f2, hs, selim, dtx]
theorem act_rt {a : YAct} (hF : ActF a) (hi : m_impl_IsAct a = some true) (hs : m_spec_IsAct a = some true) : ∃ s, RT a s := by
  cases hF with
  | take p n h => exact rt_take h hi hs
  | pay o m h h2 => exact rt_pay h h2 hi hs
  | run u h => exact rt_run h hi hs
  | shut l d h h2 => exact rt_shut h h2 hi hs
  | retry => exact rt_retry hi hs
  | refund o h => exact rt_refund h hi hs
theorem splitL_len (c : UInt8) : ∀ l : List UInt8, (splitL c l).length ≤ l.length + 1 ∧ 0 < (splitL c l).length
  | [] => by simp [splitL]
  | x :: xs => by
    have := splitL_len c xs
    unfold splitL
    split
    · simp; omega
    · cases h : splitL c xs with
      | nil => rw [h] at this; simp at this
      | cons p ps => rw [h] at this; simp at this ⊢; omega
theorem splitL_mem (c : UInt8) : ∀ (l p : List UInt8), p ∈ splitL c l → p.length ≤ l.length
  | [], p, h => by simp [splitL] at h; simp [h]
  | x :: xs, p, h => by
    have ih := splitL_mem c xs
    unfold splitL at h
    split at h
    · rcases List.mem_cons.1 h with rfl | h
      · simp
      · have := ih p h; simp; omega
    · cases hs : splitL c xs with
      | nil => have := (splitL_len c xs).2; rw [hs] at this; simp at this
      | cons q qs =>
        rw [hs] at h ih
        rcases List.mem_cons.1 h with rfl | h
        · have := ih q (by simp); simp; omega
        · have := ih p (by simp [h]); simp; omega
structure Parts (s : ByteArray) (l : List ByteArray) : Prop where
  pos : 0 < l.length
  len : l.length ≤ s.size + 1
  mem : ∀ y ∈ l, y.size ≤ s.size
theorem parts_of (s : ByteArray) (c : UInt8) : Parts s ((splitL c s.data.toList).map txt) := by
  have hs : s.data.toList.length = s.size := by rw [Array.length_toList]; rfl
  have h := splitL_len c s.data.toList
  refine ⟨by simpa using h.2, by rw [List.length_map]; omega, fun y hy => ?_⟩
  obtain ⟨p, hp, rfl⟩ := List.mem_map.1 hy
  have := splitL_mem c _ p hp
  rw [txt_size]; omega
theorem split_tot {s : ByteArray} (hs : s.size ≤ 100000000) (c : UInt8) : ∃ l, m_strings_Split s (txt [c]) = some l ∧ Parts s l := by
  have := split_at (c := c) (L := s.data.toList) (by rw [Array.length_toList]; exact hs)
  rw [txt_data] at this
  exact ⟨_, this, parts_of s c⟩
theorem l2_tot {s : ByteArray} (hs : s.size ≤ 100000000) (c : UInt8) : ∃ l, m_spec_l2Split s (c.toNat : Int) = some l ∧ Parts s l := by
  have := l2Split_eq (c := c) (L := s.data.toList) (by rw [Array.length_toList]; exact hs)
  rw [txt_data] at this
  exact ⟨_, this, parts_of s c⟩
theorem parts_loop {PI : ByteArray → Option (Int × Bool)} {body : Int × List Int → Option ((Int × List Int) ⊕ List Int)} {l : List ByteArray}
    (hb : ∀ i o, body (i, o) = cond (decide (i < (l.length : Int))) ((getI l i).bind fun y => (PI y).bind fun z => (chk (appOk ((o : List Int).length + ([z.1] : List Int).length) 8)).bind fun _ => some (.inl (w64 (i + 1), o ++ [z.1]))) (some (.inr o)))
    (hPI : ∀ y ∈ l, ∃ r, PI y = some r ∧ in64 r.1) (hl : l.length ≤ 2000000) : ∃ o, iterF body NN (0, []) = some o ∧ o.length ≤ l.length ∧ ∀ x ∈ o, in64 x := by
  have key : ∀ (k i N : Nat) (o : List Int), i + k = l.length → k < N → o.length = i → (∀ x ∈ o, in64 x) → ∃ o', iterF body N ((i : Int), o) = some o' ∧ o'.length ≤ l.length ∧ ∀ x ∈ o', in64 x := by
    intro k
    induction k with
    | zero =>
      intro i N o hi hN ho hx
      obtain ⟨N, rfl⟩ : ∃ M, N = M + 1 := ⟨N - 1, by omega⟩
      refine ⟨o, ?_, by omega, hx⟩
      rw [itr (o := o)]
      rw [hb, decide_eq_false (by omega)]; rfl
    | succ k ih =>
      intro i N o hi hN ho hx
      obtain ⟨N, rfl⟩ : ∃ M, N = M + 1 := ⟨N - 1, by omega⟩
      have hg : l[i]? = some l[i] := List.getElem?_eq_getElem (by omega)
      obtain ⟨r, hr, hr2⟩ := hPI _ (List.getElem_mem (by omega : i < l.length))
      rw [itl (s' := (((i + 1 : Nat) : Int), o ++ [r.1]))]
      · refine ih (i + 1) N _ (by omega) (by omega) (by simp; omega) fun x hx' => ?_
        rcases List.mem_append.1 hx' with h | h
        · exact hx x h
        · rw [List.mem_singleton.1 h]; exact hr2
      · rw [hb, decide_eq_true (by omega), cond_true, getI_nat, hg, Option.bind_some, hr, Option.bind_some, appI (by simp; omega), Option.bind_some, w64_nat (n := l.length) (by omega) (by omega)]
  exact key l.length 0 NN [] (by omega) (by unfold NN; omega) rfl (by simp)
theorem zPI : ParcelI zP := ⟨by decide, by decide, by decide, by decide, by decide, by decide, by simp, by decide⟩
theorem getS {l : List ByteArray} {s : ByteArray} {k : Nat} (h : Parts s l) (hk : k < l.length) : ∃ y, getI l (k : Int) = some y ∧ y.size ≤ s.size ∧ y ∈ l := by
  have hg : l[k]? = some l[k] := List.getElem?_eq_getElem hk
  exact ⟨_, by rw [getI_nat, hg], h.mem _ (List.getElem_mem hk), List.getElem_mem hk⟩
theorem parcel_toti {s : ByteArray} (hs : s.size ≤ 1048576) : ∃ r : YParcel × Bool, m_o_impl_ParseParcel s = some r ∧ ParcelI r.1 := by
  obtain ⟨l, hl, hP⟩ := split_tot (s := s) (by omega) 32
  unfold m_o_impl_ParseParcel
  rw [show (⟨#[32]⟩ : ByteArray) = txt [32] from rfl, show (⟨#[120]⟩ : ByteArray) = txt [120] from rfl, hl, Option.bind_some]
  by_cases h5 : l.length = 5
  · obtain ⟨y0, g0, z0, _⟩ := getS hP (k := 0) (by omega)
    obtain ⟨y1, g1, z1, _⟩ := getS hP (k := 1) (by omega)
    obtain ⟨y2, g2, z2, _⟩ := getS hP (k := 2) (by omega)
    obtain ⟨y3, g3, z3, _⟩ := getS hP (k := 3) (by omega)
    obtain ⟨y4, g4, z4, _⟩ := getS hP (k := 4) (by omega)
    obtain ⟨a, ha, a1, a2, a3⟩ := label_toti (s := y0) (by omega)
    obtain ⟨b, hb, b1⟩ := iint_tot (s := y2) (by omega)
    obtain ⟨c, hc, c1⟩ := iint_tot (s := y4) (by omega)
    obtain ⟨l2, hl2, hP2⟩ := split_tot (s := y3) (by omega) 120
    obtain ⟨o, ho, o1, o2⟩ := parts_loop (PI := m_impl_ParseInt) (body := m_o_impl_ParseParcel_b0 s y1 a b c l2) (l := l2) (fun i o => rfl) (fun y hy => iint_tot (by have := hP2.mem y hy; omega)) (by have := hP2.len; omega)
    have hI : ParcelI ⟨a.1, y1, b.1, o, c.1⟩ := ⟨a1, a2, by simp only; omega, by simp only; omega, b1, by have := hP2.len; simp only; omega, o2, c1⟩
    obtain ⟨t, _, f1, _⟩ := parcel_both hI
    have e0 : getI l 0 = some y0 := g0
    have e1 : getI l 1 = some y1 := g1
    have e2 : getI l 2 = some y2 := g2
    have e3 : getI l 3 = some y3 := g3
    have e4 : getI l 4 = some y4 := g4
    simp only [show decide ((l.length : Int) = 5) = true from decide_eq_true (by omega), Bool.not_true, cond_false, e0, e1, e2, e3, e4, Option.bind_some, ha, hb, hc, hl2, ho, f1]
    cases decide (s = ⟨#[]⟩) with
    | true => exact ⟨_, rfl, zPI⟩
    | false =>
      cases decide (txt t = s) with
      | true => exact ⟨_, rfl, hI⟩
      | false => exact ⟨_, rfl, zPI⟩
  · rw [decide_eq_false (by omega)]
    exact ⟨_, rfl, zPI⟩
theorem parcel_tots {s : ByteArray} (hs : s.size ≤ 1048576) : ∃ r : YParcel × Bool, m_o_spec_ParseParcel s = some r ∧ ParcelI r.1 := by
  obtain ⟨l, hl, hP⟩ := l2_tot (s := s) (by omega) 32
  have hl' : m_spec_l2Split s 32 = some l := hl
  unfold m_o_spec_ParseParcel
  rw [hl', Option.bind_some]
  by_cases h5 : l.length = 5
  · obtain ⟨y0, g0, z0, _⟩ := getS hP (k := 0) (by omega)
    obtain ⟨y1, g1, z1, _⟩ := getS hP (k := 1) (by omega)
    obtain ⟨y2, g2, z2, _⟩ := getS hP (k := 2) (by omega)
    obtain ⟨y3, g3, z3, _⟩ := getS hP (k := 3) (by omega)
    obtain ⟨y4, g4, z4, _⟩ := getS hP (k := 4) (by omega)
    obtain ⟨a, ha, a1, a2, a3⟩ := label_tots (s := y0) (by omega)
    obtain ⟨b, hb, b1⟩ := pint_tot (s := y2) (by omega)
    obtain ⟨c, hc, c1⟩ := pint_tot (s := y4) (by omega)
    obtain ⟨l2, hl2, hP2⟩ := l2_tot (s := y3) (by omega) 120
    have hl2' : m_spec_l2Split y3 120 = some l2 := hl2
    obtain ⟨o, ho, o1, o2⟩ := parts_loop (PI := m_spec_ParseInt) (body := m_o_spec_ParseParcel_b0 s l y1 a b l2) (l := l2) (fun i o => rfl) (fun y hy => pint_tot (by have := hP2.mem y hy; omega)) (by have := hP2.len; omega)
    have hI : ParcelI ⟨a.1, y1, b.1, o, c.1⟩ := ⟨a1, a2, by simp only; omega, by simp only; omega, b1, by have := hP2.len; simp only; omega, o2, c1⟩
    obtain ⟨t, _, _, f1⟩ := parcel_both hI
    have e0 : getI l 0 = some y0 := g0
    have e1 : getI l 1 = some y1 := g1
    have e2 : getI l 2 = some y2 := g2
    have e3 : getI l 3 = some y3 := g3
    have e4 : getI l 4 = some y4 := g4
    simp only [show decide ((l.length : Int) = 5) = true from decide_eq_true (by omega), Bool.not_true, cond_false, e0, e1, e2, e3, e4, Option.bind_some, ha, hb, hc, hl2', ho, f1]
    cases a.2 with
    | false => exact ⟨_, rfl, zPI⟩
    | true =>
      cases decide (txt t = s) with
      | true => exact ⟨_, rfl, hI⟩
      | false => exact ⟨_, rfl, zPI⟩
  · rw [decide_eq_false (by omega)]
    exact ⟨_, rfl, zPI⟩
theorem trip_toti {s : ByteArray} (hs : s.size ≤ 1048576) : ∃ r : YTrip × Bool, m_impl_readTrip s = some r ∧ in64 r.1.leg ∧ in64 r.1.day := by
  have hz : s.data.toList.length = s.size := by rw [Array.length_toList]; rfl
  unfold m_impl_readTrip m_strings_Cut
  rw [if_pos (by omega), Option.bind_some]
  have hc : ∃ a b d, Lib.cut s.data.toList (⟨#[47]⟩ : ByteArray).data.toList = (a, b, d) ∧ a.length ≤ s.size ∧ b.length ≤ s.size := by
    rcases in_parts 47 s.data.toList with h | ⟨a, b, e, h⟩
    · exact ⟨_, _, _, cut_no h, by omega, by simp⟩
    · rw [e] at hz
      simp at hz
      exact ⟨a, b, true, by rw [e]; exact cut_app h, by omega, by omega⟩
  obtain ⟨a, b, d, e, ha, hb⟩ := hc
  obtain ⟨x, hx, x1⟩ := iint_tot (s := txt a) (by rw [txt_size]; omega)
  obtain ⟨y, hy, y1⟩ := iint_tot (s := txt b) (by rw [txt_size]; omega)
  simp only [e, hx, hy, Option.bind_some]
  cases d with
  | false => exact ⟨_, rfl, x1, y1⟩
  | true => cases x.2 <;> exact ⟨_, rfl, x1, y1⟩
theorem trip_tots {s : ByteArray} (hs : s.size ≤ 1048576) : ∃ r : YTrip, m_spec_l12Trip s = some r ∧ in64 r.leg ∧ in64 r.day := by
  obtain ⟨l, hl, hP⟩ := l2_tot (s := s) (by omega) 47
  have hl' : m_spec_l2Split s 47 = some l := hl
  have z : in64 (-1) ∧ in64 0 := ⟨by decide, by decide⟩
  unfold m_spec_l12Trip
  rw [hl', Option.bind_some]
  by_cases h5 : l.length = 2
  · obtain ⟨y0, g0, z0, _⟩ := getS hP (k := 0) (by omega)
    obtain ⟨y1, g1, z1, _⟩ := getS hP (k := 1) (by omega)
    obtain ⟨b, hb, b1⟩ := pint_tot (s := y0) (by omega)
    obtain ⟨c, hc, c1⟩ := pint_tot (s := y1) (by omega)
    have e0 : getI l 0 = some y0 := g0
    have e1 : getI l 1 = some y1 := g1
    simp only [show decide ((l.length : Int) = 2) = true from decide_eq_true (by omega), Bool.not_true, cond_false, e0, e1, Option.bind_some, hb, hc]
    cases b.2
    · exact ⟨_, rfl, z⟩
    · cases c.2
      · exact ⟨_, rfl, z⟩
      · exact ⟨_, rfl, b1, c1⟩
  · rw [decide_eq_false (by omega)]
    exact ⟨_, rfl, z⟩
def mkA (z : Int × Int × Int × ByteArray × ByteArray × Int × Int × Int × Int × Int × Int × Int × List Int) : YAct := ⟨z.1, ⟨⟨z.2.1, z.2.2.1, z.2.2.2.1⟩, z.2.2.2.2.1, z.2.2.2.2.2.1, z.2.2.2.2.2.2.2.2.2.2.2.2, z.2.2.2.2.2.2.1⟩, z.2.2.2.2.2.2.2.1, z.2.2.2.2.2.2.2.2.1, z.2.2.2.2.2.2.2.2.2.1, ⟨z.2.2.2.2.2.2.2.2.2.2.1, z.2.2.2.2.2.2.2.2.2.2.2.1⟩⟩
abbrev ZT := Int × Int × Int × ByteArray × ByteArray × Int × Int × Int × Int × Int × Int × Int × List Int
def TZ (x : Option (ZT ⊕ Empty)) : Prop := ∃ z, x = some (.inl z) ∧ ActI (mkA z)
theorem tz_cond {b : Bool} {x y : Option (ZT ⊕ Empty)} (h1 : b = true → TZ x) (h2 : b = false → TZ y) : TZ (cond b x y) := by
  cases b
  · exact h2 rfl
  · exact h1 rfl
theorem tz_bind {α : Type} {m : Option α} {a : α} {f : α → Option (ZT ⊕ Empty)} (h : m = some a) (h1 : TZ (f a)) : TZ (m.bind f) := by rw [h]; exact h1
theorem z64 : in64 0 := by decide
theorem tz_z {k o m u l d : Int} (h1 : in64 o) (h2 : in64 m) (h3 : in64 u) (h4 : in64 l) (h5 : in64 d) : TZ (some (.inl (k, 0, 0, ⟨#[]⟩, ⟨#[]⟩, 0, 0, o, m, u, l, d, []))) := ⟨_, rfl, zPI, h1, h2, h3, h4, h5⟩
theorem tz_p {p : YParcel} (h : ParcelI p) : TZ (some (.inl (1, p.label.service, p.label.serial, p.label.to_, p.from_, p.weight, p.value, 0, 0, 0, 0, 0, p.sides))) := ⟨_, rfl, h, z64, z64, z64, z64, z64⟩
theorem cut_tot {s : ByteArray} (hs : s.size ≤ 1048576) (c : UInt8) : ∃ r : ByteArray × ByteArray × Bool, m_strings_Cut s (txt [c]) = some r ∧ r.1.size ≤ 1048576 ∧ r.2.1.size ≤ 1048576 := by
  have hz : s.data.toList.length = s.size := by rw [Array.length_toList]; rfl
  unfold m_strings_Cut
  rw [if_pos (by omega), txt_l]
  rcases in_parts c s.data.toList with h | ⟨a, b, e, h⟩
  · rw [cut_no h]; exact ⟨_, rfl, by simp only [txt_size]; omega, by simp [txt_size]⟩
  · rw [e] at hz
    simp at hz
    rw [e, cut_app h]
    exact ⟨_, rfl, by simp only [txt_size]; omega, by simp only [txt_size]; omega⟩
def Ans (F : YAct → Option ByteArray) (s : ByteArray) (r : YAct × Bool) : Prop := r = (zA, false) ∨ (r.2 = true ∧ ActI r.1 ∧ F r.1 = some s)
theorem impl_parse {s : ByteArray} (hs : s.size ≤ 1048576) : ∃ r, m_o_impl_ParseAct s = some r ∧ Ans m_impl_FormatAct s r ∧ (r.2 = true → decide (s = ⟨#[]⟩) = false) := by
  obtain ⟨c, hc, c1, c2⟩ := cut_tot hs 32
  obtain ⟨p, hp, p1⟩ := parcel_toti (s := c.2.1) c2
  obtain ⟨e, he, e1, e2⟩ := cut_tot (s := c.2.1) c2 32
  obtain ⟨i1, hi1, i1'⟩ := iint_tot (s := e.1) (by omega)
  obtain ⟨i2, hi2, i2'⟩ := iint_tot (s := e.2.1) (by omega)
  obtain ⟨i3, hi3, i3'⟩ := iint_tot (s := c.2.1) (by omega)
  obtain ⟨t, ht, t1, t2⟩ := trip_toti (s := c.2.1) c2
  unfold m_o_impl_ParseAct
  rw [show (⟨#[32]⟩ : ByteArray) = txt [32] from rfl, hc, Option.bind_some]
  simp only [jn_eq]
  have key : ∀ (x : Option (ZT ⊕ Empty)) (K : ZT → Option (YAct × Bool)), TZ x → (∀ z, K z = cond (decide (s = ⟨#[]⟩)) (some (zA, false)) ((m_impl_FormatAct (mkA z)).bind fun y10 => cond (!decide (y10 = s)) (some (zA, false)) (some (mkA z, true)))) →
      ∃ r, x.bind (selim K fun r => nomatch r) = some r ∧ Ans m_impl_FormatAct s r ∧ (r.2 = true → decide (s = ⟨#[]⟩) = false) := by
    rintro x K ⟨z, rfl, hI⟩ hK
    obtain ⟨b, f1, f2⟩ := act_both hI
    show ∃ r, K z = some r ∧ _
    rw [hK, f1, Option.bind_some]
    cases hd : decide (s = ⟨#[]⟩) with
    | true => exact ⟨_, rfl, .inl rfl, fun h => by cases h⟩
    | false =>
      cases hq : decide (b = s) with
      | false => exact ⟨_, rfl, .inl rfl, fun h => by cases h⟩
      | true => exact ⟨_, rfl, .inr ⟨rfl, hI, by rw [f1, of_decide_eq_true hq]⟩, fun _ => rfl⟩
  refine key _ _ ?_ fun z => rfl
  refine tz_cond (fun _ => tz_bind hp (tz_p p1)) fun _ => tz_cond (fun _ => tz_bind he (tz_bind hi1 (tz_bind hi2 (tz_z i1' i2' z64 z64 z64)))) fun _ => tz_cond (fun _ => tz_bind hi3 (tz_z z64 z64 i3' z64 z64)) fun _ => tz_cond (fun _ => tz_bind ht (tz_z z64 z64 z64 t1 t2)) fun _ => tz_cond (fun _ => tz_z z64 z64 z64 z64 z64) fun _ => tz_cond (fun _ => tz_bind hi3 (tz_z i3' z64 z64 z64 z64)) fun _ => tz_z z64 z64 z64 z64 z64
theorem spec_parse {s : ByteArray} (hs : s.size ≤ 1048576) : ∃ r, m_o_spec_ParseAct s = some r ∧ Ans m_spec_FormatAct s r ∧ (r.2 = true → m_spec_IsAct r.1 = some true) := by
  obtain ⟨l, hl, hP⟩ := l2_tot (s := s) (by omega) 32
  have hl' : m_spec_l2Split s 32 = some l := hl
  obtain ⟨y0, g0, z0, _⟩ := getS hP (k := 0) hP.pos
  have e0 : getI l 0 = some y0 := g0
  have h1 : ∃ z, cond (decide (1 < (l.length : Int))) ((getI l 1).bind fun y2 => (m_spec_ParseInt y2).bind fun y3 => some (.inl y3.1)) (some (.inl 0)) = (some (.inl z) : Option (Int ⊕ Empty)) ∧ in64 z := by
    by_cases h : 1 < l.length
    · obtain ⟨y, g, z, _⟩ := getS hP (k := 1) h
      have e : getI l 1 = some y := g
      obtain ⟨r, hr, hr1⟩ := pint_tot (s := y) (by omega)
      rw [decide_eq_true (by omega), e]
      exact ⟨r.1, by simp [hr], hr1⟩
    · rw [decide_eq_false (by omega)]
      exact ⟨0, rfl, z64⟩
  obtain ⟨z4, hz4, z4'⟩ := h1
  have hsub : decide (5 < (s.size : Int)) = true → ∃ r : YParcel × Bool, m_o_spec_ParseParcel (subS s 5 (s.size : Int)) = some r ∧ ParcelI r.1 := fun h => by
    have := of_decide_eq_true h
    exact parcel_tots (by show (s.extract 5 _).size ≤ _; rw [ByteArray.size_extract]; omega)
  have hsl : decide (5 < (s.size : Int)) = true → chk (slOk 5 (s.size : Int) (s.size : Int)) = some () := fun h => by
    have := of_decide_eq_true h
    exact chk_t (decide_eq_true ⟨by omega, by omega, by omega⟩)
  have h3 : decide ((l.length : Int) = 3) = true → ∃ y, getI l 2 = some y ∧ ∃ r : Int × Bool, m_spec_ParseInt y = some r ∧ in64 r.1 := fun h => by
    have := of_decide_eq_true h
    obtain ⟨y, g, z, _⟩ := getS hP (k := 2) (by omega)
    exact ⟨y, g, pint_tot (by omega)⟩
  have h2 : decide ((l.length : Int) = 2) = true → ∃ y, getI l 1 = some y ∧ ∃ r : YTrip, m_spec_l12Trip y = some r ∧ in64 r.leg ∧ in64 r.day := fun h => by
    have := of_decide_eq_true h
    obtain ⟨y, g, z, _⟩ := getS hP (k := 1) (by omega)
    exact ⟨y, g, trip_tots (by omega)⟩
  have key : ∀ (x : Option (ZT ⊕ Empty)) (T : ZT → List PV) (M : ZT → Mem) (K : ZT → Option (YAct × Bool)), TZ x → (∀ z, K z = (m_spec_IsAct (mkA z)).bind fun y74 => cond (!y74) (some (zA, false)) ((m_spec_FormatAct (mkA z)).bind fun y75 => cond (!decide (y75 = s)) (some (zA, false)) (some (mkA z, true)))) →
      ∃ r, (jn 7 21 x T M).bind (selim K fun r => nomatch r) = some r ∧ Ans m_spec_FormatAct s r ∧ (r.2 = true → m_spec_IsAct r.1 = some true) := by
    rintro x T M K ⟨z, rfl, hI⟩ hK
    obtain ⟨b, f1, f2⟩ := act_both hI
    obtain ⟨v, i1, i2⟩ := act_eq (a := mkA z) (by have := hI.1.2.2.1; unfold B60; omega) (by have := hI.1.2.2.2.1; unfold B60; omega) (by have := hI.1.2.2.2.2.2.1; unfold NN; omega)
    rw [jn_eq]
    show ∃ r, K z = some r ∧ _
    rw [hK, i2, f2]
    cases v with
    | false => exact ⟨_, rfl, .inl rfl, fun h => by cases h⟩
    | true =>
      simp only [Option.bind_some, Bool.not_true, cond_false]
      cases hq : decide (b = s) with
      | false => exact ⟨_, rfl, .inl rfl, fun h => by cases h⟩
      | true => exact ⟨_, rfl, .inr ⟨rfl, hI, by rw [f2, of_decide_eq_true hq]⟩, fun _ => i2⟩
  unfold m_o_spec_ParseAct
  rw [hl', Option.bind_some]
  rw [show ∀ (x : Option (Int ⊕ Empty)) T M, jn 4 7 x T M = x from fun x T M => jn_eq 4 7 x T M, hz4, Option.bind_some]
  refine key _ _ _ _ ?_ fun z => rfl
  repeat' first
    | refine tz_cond (fun _ => ?_) (fun _ => ?_)
    | refine tz_bind e0 ?_
    | exact tz_z (by first | exact z64 | assumption) (by first | exact z64 | assumption) (by first | exact z64 | assumption) (by first | exact z64 | assumption) (by first | exact z64 | assumption)
    | exact tz_p (by assumption)
    | refine tz_bind (hsl (by assumption)) ?_
    | (obtain ⟨r, hr, hr'⟩ := hsub (by assumption); refine tz_bind hr ?_)
    | (obtain ⟨y, hy, r, hr, hr'⟩ := h3 (by assumption); refine tz_bind hy (tz_bind hr ?_))
    | (obtain ⟨y, hy, r, hr, hr', hr2⟩ := h2 (by assumption); refine tz_bind hy (tz_bind hr ?_))
end Go.Proofs.YtkfbakhnpfmfmaaGreatDoor
namespace Go.Proofs.YtkfbakhnpfmfmaaGreatDoor
set_option maxRecDepth 10000
open Go.RowKit
set_option linter.unusedVariables false
set_option maxHeartbeats 16000000
def m_laws_eqLabel (a : YLabel) (b : YLabel) : Option Bool :=
 cond (!decide (a.service = b.service))
 (some false)
 (cond (!decide (a.serial = b.serial))
 (some false)
 (cond (!decide (a.to_ = b.to_))
 (some false)
 (some true)))
instance (a : YLabel) (b : YLabel) : CT Tryz.prog (m_laws_eqLabel a b) := ⟨54, [.ag (cLabel a), .ag (cLabel b)], [], fun r => vb r, fun r => [], fun H => by replace H := H0 H; unfold m_laws_eqLabel at H; exact callM_of Tryz.func54 rfl Tryz.ntmps54 Tryz.results54 fun Q hQ hQn => wk3⟩
def m_laws_eqIntS_b0 (a : List Int) (b : List Int) (s0 : Int) : Option (Int ⊕ (Unit ⊕ Bool)) :=
 cond (decide (s0 < (a.length : Int)))
 ((getI a s0).bind fun y1 =>
 (getI b s0).bind fun y2 =>
 cond (!decide (y1 = y2))
 (some (.inr (.inr false)))
 (some (.inl (w64 (s0 + 1)))))
 (some (.inr (.inl ())))
instance (a : List Int) (b : List Int) : LoopE (m_laws_eqIntS_b0 a b) := ⟨fun s0 => (.sl (a.map cInt) :: .sl (b.map cInt) :: (U 3 (vi s0 :: (U 20 [])))), fun s0 => []⟩
def m_laws_eqIntS (a : List Int) (b : List Int) : Option Bool :=
 cond (!decide ((a.length : Int) = (b.length : Int)))
 (some false)
 ((iterF (m_laws_eqIntS_b0 a b) NN 0).bind (selim (fun o0 =>
 some true) (fun r => some r)))
theorem ok_laws_eqIntS (a : List Int) (b : List Int) {r : Bool} (H : m_laws_eqIntS a b = some r) : CallM Tryz.prog 55 [.sl (a.map cInt), .sl (b.map cInt)] [] (vb r) [] := by
  replace H := H0 H
  unfold m_laws_eqIntS at H
  refine callM_of Tryz.func55 rfl Tryz.ntmps55 Tryz.results55 fun Q hQ hQn => ?_
  exact wk3
instance (a : List Int) (b : List Int) : CT Tryz.prog (m_laws_eqIntS a b) := ⟨55, [.sl (a.map cInt), .sl (b.map cInt)], [], fun r => vb r, fun r => [], ok_laws_eqIntS a b⟩
def m_laws_eqParcel (a : YParcel) (b : YParcel) : Option Bool :=
 (m_laws_eqLabel a.label b.label).bind fun y1 =>
 cond (!y1)
 (some false)
 (cond (!decide (a.from_ = b.from_))
 (some false)
 (cond (!decide (a.weight = b.weight))
 (some false)
 ((m_laws_eqIntS a.sides b.sides).bind fun y2 =>
 cond (!y2)
 (some false)
 (cond (!decide (a.value = b.value))
 (some false)
 (some true)))))
instance (a : YParcel) (b : YParcel) : CT Tryz.prog (m_laws_eqParcel a b) := ⟨30, [.ag (cParcel a), .ag (cParcel b)], [], fun r => vb r, fun r => [], fun H => by replace H := H0 H; unfold m_laws_eqParcel at H; exact callM_of Tryz.func30 rfl Tryz.ntmps30 Tryz.results30 fun Q hQ hQn => wk3⟩
def m_laws_eqTrip (a : YTrip) (b : YTrip) : Option Bool :=
 cond (!decide (a.leg = b.leg))
 (some false)
 (cond (!decide (a.day = b.day))
 (some false)
 (some true))
instance (a : YTrip) (b : YTrip) : CT Tryz.prog (m_laws_eqTrip a b) := ⟨31, [.ag (cTrip a), .ag (cTrip b)], [], fun r => vb r, fun r => [], fun H => by replace H := H0 H; unfold m_laws_eqTrip at H; exact callM_of Tryz.func31 rfl Tryz.ntmps31 Tryz.results31 fun Q hQ hQn => wk3⟩
def m_laws_eqAct (a : YAct) (b : YAct) : Option Bool :=
 cond (!decide (a.kind = b.kind))
 (some false)
 ((m_laws_eqParcel a.parcel b.parcel).bind fun y1 =>
 cond (!y1)
 (some false)
 (cond (!decide (a.order = b.order))
 (some false)
 (cond (!decide (a.amount = b.amount))
 (some false)
 (cond (!decide (a.until_ = b.until_))
 (some false)
 ((m_laws_eqTrip a.trip b.trip).bind fun y2 =>
 cond (!y2)
 (some false)
 (some true))))))
instance (a : YAct) (b : YAct) : CT Tryz.prog (m_laws_eqAct a b) := ⟨8, [.ag (cAct a), .ag (cAct b)], [], fun r => vb r, fun r => [], fun H => by replace H := H0 H; unfold m_laws_eqAct at H; exact callM_of Tryz.func8 rfl Tryz.ntmps8 Tryz.results8 fun Q hQ hQn => wk3⟩
set_option linter.unusedSimpArgs false
theorem eqr_Label (x : YLabel) (h : totLabel x ≤ 1048576) : m_laws_eqLabel x x = some true := by
  simp [m_laws_eqLabel]
theorem eqr_IntS (a : List Int) (hl : a.length ≤ 1048576) : m_laws_eqIntS a a = some true := by
  have e : iterF (m_laws_eqIntS_b0 a a) NN 0 = some (.inl ()) := by
    refine iter_pass (xs := a) (fun i x hx => ?_) ?_ (by unfold NN; omega)
    · obtain ⟨hi, rfl⟩ := List.getElem?_eq_some_iff.1 hx
      have hw := w64_nat hi (by omega)
      simp [m_laws_eqIntS_b0, getI_nat, hx, hi, hw]
    · simp [m_laws_eqIntS_b0]
  unfold m_laws_eqIntS; simp [e]
theorem eqr_Parcel (x : YParcel) (h : totParcel x ≤ 1048576) : m_laws_eqParcel x x = some true := by
  have e0 := eqr_Label x.label (by unfold totParcel at h; omega)
  have e1 := eqr_IntS x.sides (by unfold totParcel at h; omega)
  simp [m_laws_eqParcel, e0, e1]
theorem eqr_Trip (x : YTrip) : m_laws_eqTrip x x = some true := by
  simp [m_laws_eqTrip]
theorem eqr_Act (x : YAct) (h : totAct x ≤ 1048576) : m_laws_eqAct x x = some true := by
  have e0 := eqr_Parcel x.parcel (by unfold totAct at h; omega)
  have e1 := eqr_Trip x.trip
  simp [m_laws_eqAct, e0, e1]
def m_p0_laws_markIntS_b0 (s0 : Int × Int × (List Int)) : Option ((Int × Int × (List Int)) ⊕ (Int × (List Int))) :=
 cond (decide (s0.2.1 < (s0.2.2.length : Int)))
 ((getI s0.2.2 s0.2.1).bind fun y1 =>
 some (.inl ((w64 (s0.1 + 1)), (w64 (s0.2.1 + 1)), (s0.2.2.set (Int.toNat s0.2.1) s0.1))))
 (some (.inr (s0.1, s0.2.2)))
instance : LoopE (m_p0_laws_markIntS_b0) := ⟨fun s0 => (.ms 0 :: vi s0.1 :: (U 3 (vi s0.2.1 :: (U 13 [])))), fun s0 => [some ⟨.of 3, 1, s0.2.2.map cInt⟩]⟩
def m_p0_laws_markIntS (a : List Int) (k : Int) : Option (Int × (List Int)) :=
 (iterF (m_p0_laws_markIntS_b0) NN (k, 0, a)).bind (fun o0 =>
 some (o0.1, o0.2))
instance (a : List Int) (k : Int) : CT Tryz.prog (m_p0_laws_markIntS a k) := ⟨36, [.ms 0, vi k], [some ⟨.of 3, 1, a.map cInt⟩], fun r => vi r.1, fun r => [some ⟨.of 3, 1, r.2.map cInt⟩], fun H => by replace H := H0 H; unfold m_p0_laws_markIntS at H; exact callM_of Tryz.func36 rfl Tryz.ntmps36 Tryz.results36 fun Q hQ hQn => wk3⟩
def m_laws_heldIntS_b0 (a : List Int) (s0 : Int × Int) : Option ((Int × Int) ⊕ (Int ⊕ Int)) :=
 cond (decide (s0.2 < (a.length : Int)))
 ((getI a s0.2).bind fun y1 =>
 cond (!decide (y1 = s0.1))
 (some (.inr (.inr (-1))))
 (some (.inl ((w64 (s0.1 + 1)), (w64 (s0.2 + 1))))))
 (some (.inr (.inl s0.1)))
instance (a : List Int) : LoopE (m_laws_heldIntS_b0 a) := ⟨fun s0 => (.sl (a.map cInt) :: vi s0.1 :: (U 3 (vi s0.2 :: (U 15 [])))), fun s0 => []⟩
def m_laws_heldIntS (a : List Int) (k : Int) : Option Int :=
 (iterF (m_laws_heldIntS_b0 a) NN (k, 0)).bind (selim (fun o0 =>
 some o0) (fun r => some r))
instance (a : List Int) (k : Int) : CT Tryz.prog (m_laws_heldIntS a k) := ⟨37, [.sl (a.map cInt), vi k], [], fun r => vi r, fun r => [], fun H => by replace H := H0 H; unfold m_laws_heldIntS at H; exact callM_of Tryz.func37 rfl Tryz.ntmps37 Tryz.results37 fun Q hQ hQn => wk3⟩
theorem iter_st {σ ο : Type} {body : σ → Option (σ ⊕ ο)} (S : Nat → σ) {n : Nat} {o : ο} (h1 : ∀ i, i < n → body (S i) = some (.inl (S (i + 1)))) (h2 : body (S n) = some (.inr o)) : ∀ N, n < N → iterF body N (S 0) = some o := by
  have key : ∀ d j, j + d = n → ∀ N, d < N → iterF body N (S j) = some o := by
    intro d
    induction d with
    | zero =>
      intro j hj N hN
      obtain ⟨N, rfl⟩ : ∃ M, N = M + 1 := ⟨N - 1, by omega⟩
      have : j = n := by omega
      subst this
      unfold iterF; rw [h2]; rfl
    | succ d ih =>
      intro j hj N hN
      obtain ⟨N, rfl⟩ : ∃ M, N = M + 1 := ⟨N - 1, by omega⟩
      unfold iterF
      rw [h1 j (by omega)]
      exact ih (j + 1) (by omega) N (by omega)
  intro N hN
  exact key n 0 (by omega) N hN
theorem getI_lt' {α : Type} {xs : List α} {i : Nat} (h : i < xs.length) : getI xs (i : Int) = some xs[i] := by
  rw [getI_nat]; exact List.getElem?_eq_getElem h
theorem set_step {α : Type} {M a : List α} {i : Nat} {v : α} (hM : M.length = i) (hi : i < a.length) : (M ++ a.drop i).set i v = (M ++ [v]) ++ a.drop (i + 1) := by
  rw [List.drop_eq_getElem_cons hi, List.set_append_right _ _ (by omega)]
  rw [show i - M.length = 0 by omega, List.set_cons_zero, List.append_assoc]
  rfl
def mkI (k : Int) (n : Nat) : List Int := (List.range n).map fun i : Nat => k + (i : Int)
theorem mkI_len {k : Int} {n : Nat} : (mkI k n).length = n := by simp [mkI]
theorem mkI_succ {k : Int} {n : Nat} : mkI k (n + 1) = mkI k n ++ [k + (n : Int)] := by simp [mkI, List.range_succ]
theorem markIntS_eq (a : List Int) (k : Int) (ha : a.length ≤ 1048576) (h0 : 1 ≤ k) (h1 : k ≤ 1000000000) : m_p0_laws_markIntS a k = some (k + a.length, mkI k a.length) := by
  unfold m_p0_laws_markIntS
  have e0 : (k, 0, a) = (fun i : Nat => ((k + (i : Int), (i : Int), mkI k i ++ a.drop i) : Int × Int × List Int)) 0 := by simp [mkI]
  have hh : iterF m_p0_laws_markIntS_b0 NN ((fun i : Nat => (k + (i : Int), (i : Int), mkI k i ++ a.drop i)) 0) = some ((k + a.length, mkI k a.length)) := by
    refine iter_st (fun i : Nat => (k + (i : Int), (i : Int), mkI k i ++ a.drop i)) (n := a.length) ?_ ?_ NN (by unfold NN; omega)
    · intro i hi
      have hL : i < (mkI k i ++ a.drop i).length := by simp [mkI_len]; omega
      have w1 : w64 (k + (i : Int) + 1) = k + ((i + 1 : Nat) : Int) := by rw [w64_in (by omega)]; omega
      have w2 : w64 ((i : Int) + 1) = ((i + 1 : Nat) : Int) := by rw [w64_in (by omega)]; omega
      have d1 : decide ((i : Int) < ((mkI k i ++ a.drop i).length : Int)) = true := decide_eq_true (by omega)
      simp only [m_p0_laws_markIntS_b0, d1, cond_true, getI_lt' hL, Option.bind_some, w1, w2, Int.toNat_natCast, set_step mkI_len hi, mkI_succ]
    · have d1 : decide ((a.length : Int) < ((mkI k a.length).length : Int)) = false := decide_eq_false (by simp [mkI_len])
      simp only [m_p0_laws_markIntS_b0, List.drop_length, List.append_nil, d1, cond_false]
  rw [e0, hh]
  rfl
theorem heldIntS_eq (k : Int) (n : Nat) (hn : n ≤ 1048576) (h0 : 1 ≤ k) (h1 : k ≤ 1000000000) : m_laws_heldIntS (mkI k n) k = some (k + n) := by
  unfold m_laws_heldIntS
  have e0 : (k, 0) = (fun i : Nat => ((k + (i : Int), (i : Int)) : Int × Int)) 0 := by simp
  have hh : iterF (m_laws_heldIntS_b0 (mkI k n)) NN ((fun i : Nat => (k + (i : Int), (i : Int))) 0) = some (Sum.inl (k + n)) := by
    refine iter_st (fun i : Nat => (k + (i : Int), (i : Int))) (n := n) ?_ ?_ NN (by unfold NN; omega)
    · intro i hi
      have hL : i < (mkI k n).length := by rw [mkI_len]; exact hi
      have w1 : w64 (k + (i : Int) + 1) = k + ((i + 1 : Nat) : Int) := by rw [w64_in (by omega)]; omega
      have w2 : w64 ((i : Int) + 1) = ((i + 1 : Nat) : Int) := by rw [w64_in (by omega)]; omega
      have d1 : decide ((i : Int) < ((mkI k n).length : Int)) = true := decide_eq_true (by omega)
      have g : (mkI k n)[i] = k + (i : Int) := by simp [mkI]
      simp only [m_laws_heldIntS_b0, d1, cond_true, getI_lt' hL, Option.bind_some, w1, w2, g, decide_true, Bool.not_true, cond_false]
    · have d1 : decide ((n : Int) < ((mkI k n).length : Int)) = false := decide_eq_false (by simp [mkI_len])
      simp only [m_laws_heldIntS_b0, d1, cond_false]
  rw [e0, hh]
  rfl
def m_p0_laws_markParcel (a : YParcel) (k : Int) : Option (Int × YParcel) :=
 (rhoM [0]).bind fun _ =>
 (m_p0_laws_markIntS a.sides k).bind fun y1 =>
 some (y1.1, (⟨a.label, a.from_, a.weight, y1.2, a.value⟩ : YParcel))
instance (a : YParcel) (k : Int) : CT Tryz.prog (m_p0_laws_markParcel a k) := ⟨32, [.ag [vi a.label.service, vi a.label.serial, vs a.label.to_, vs a.from_, vi a.weight, .ms 0, vi a.value], vi k], [some ⟨.of 3, 1, a.sides.map cInt⟩], fun r => vi r.1, fun r => [some ⟨.of 3, 1, r.2.sides.map cInt⟩], fun H => by replace H := H0 H; unfold m_p0_laws_markParcel at H; exact callM_of Tryz.func32 rfl Tryz.ntmps32 Tryz.results32 fun Q hQ hQn => wk3⟩
def m_p0_laws_markAct (a : YAct) (k : Int) : Option (Int × YAct) :=
 (rhoM [0]).bind fun _ =>
 (m_p0_laws_markParcel a.parcel k).bind fun y1 =>
 some (y1.1, (⟨a.kind, (⟨a.parcel.label, a.parcel.from_, a.parcel.weight, y1.2.sides, a.parcel.value⟩ : YParcel), a.order, a.amount, a.until_, a.trip⟩ : YAct))
instance (a : YAct) (k : Int) : CT Tryz.prog (m_p0_laws_markAct a k) := ⟨9, [.ag [vi a.kind, vi a.parcel.label.service, vi a.parcel.label.serial, vs a.parcel.label.to_, vs a.parcel.from_, vi a.parcel.weight, .ms 0, vi a.parcel.value, vi a.order, vi a.amount, vi a.until_, vi a.trip.leg, vi a.trip.day], vi k], [some ⟨.of 3, 1, a.parcel.sides.map cInt⟩], fun r => vi r.1, fun r => [some ⟨.of 3, 1, r.2.parcel.sides.map cInt⟩], fun H => by replace H := H0 H; unfold m_p0_laws_markAct at H; exact callM_of Tryz.func9 rfl Tryz.ntmps9 Tryz.results9 fun Q hQ hQn => wk3⟩
def m_laws_heldParcel (a : YParcel) (k : Int) : Option Int :=
 (m_laws_heldIntS a.sides k).bind fun y1 =>
 cond (decide (y1 < 0))
 (some (-1))
 (some y1)
instance (a : YParcel) (k : Int) : CT Tryz.prog (m_laws_heldParcel a k) := ⟨33, [.ag (cParcel a), vi k], [], fun r => vi r, fun r => [], fun H => by replace H := H0 H; unfold m_laws_heldParcel at H; exact callM_of Tryz.func33 rfl Tryz.ntmps33 Tryz.results33 fun Q hQ hQn => wk3⟩
def m_laws_heldAct (a : YAct) (k : Int) : Option Int :=
 (m_laws_heldParcel a.parcel k).bind fun y1 =>
 cond (decide (y1 < 0))
 (some (-1))
 (some y1)
instance (a : YAct) (k : Int) : CT Tryz.prog (m_laws_heldAct a k) := ⟨10, [.ag (cAct a), vi k], [], fun r => vi r, fun r => [], fun H => by replace H := H0 H; unfold m_laws_heldAct at H; exact callM_of Tryz.func10 rfl Tryz.ntmps10 Tryz.results10 fun Q hQ hQn => wk3⟩
def m_laws_FnExactParseAct (aS : ByteArray) : Option Bool :=
 cond (decide (1048576 < (aS.size : Int)))
 (some true)
 ((m_o_spec_ParseAct aS).bind fun y1 =>
 (m_o_impl_ParseAct aS).bind fun y2 =>
 (m_laws_eqAct y2.1 y1.1).bind fun y3 =>
 cond (!y3)
 (some false)
 (cond (!(y2.2 == y1.2))
 (some false)
 ((rhoM [2]).bind fun _ =>
 (m_p0_laws_markAct y2.1 1).bind fun y4 =>
 (m_laws_heldAct (⟨y2.1.kind, (⟨y2.1.parcel.label, y2.1.parcel.from_, y2.1.parcel.weight, y4.2.parcel.sides, y2.1.parcel.value⟩ : YParcel), y2.1.order, y2.1.amount, y2.1.until_, y2.1.trip⟩ : YAct) 1).bind fun y5 =>
 cond (decide (y5 < 0))
 (some false)
 (cond (!decide (y5 = y4.1))
 (some false)
 ((m_o_impl_ParseAct aS).bind fun y6 =>
 (m_laws_eqAct y6.1 y1.1).bind fun y7 =>
 cond (!y7)
 (some false)
 (cond (!(y6.2 == y1.2))
 (some false)
 ((m_laws_heldAct (⟨y2.1.kind, (⟨y2.1.parcel.label, y2.1.parcel.from_, y2.1.parcel.weight, y4.2.parcel.sides, y2.1.parcel.value⟩ : YParcel), y2.1.order, y2.1.amount, y2.1.until_, y2.1.trip⟩ : YAct) 1).bind fun y8 =>
 cond (decide (y8 < 0))
 (some false)
 (cond (!decide (y8 = y4.1))
 (some false)
 (some true)))))))))
theorem ok_laws_FnExactParseAct (aS : ByteArray) {r : Bool} (H : m_laws_FnExactParseAct aS = some r) : CallM Tryz.prog 3 [vs aS] [] (vb r) [] := by
  replace H := H0 H
  unfold m_laws_FnExactParseAct at H
  refine callM_of Tryz.func3 rfl Tryz.ntmps3 Tryz.results3 fun Q hQ hQn => ?_
  exact wk3
instance (aS : ByteArray) : CT Tryz.prog (m_laws_FnExactParseAct aS) := ⟨3, [vs aS], [], fun r => vb r, fun r => [], ok_laws_FnExactParseAct aS⟩
end Go.Proofs.YtkfbakhnpfmfmaaGreatDoor
