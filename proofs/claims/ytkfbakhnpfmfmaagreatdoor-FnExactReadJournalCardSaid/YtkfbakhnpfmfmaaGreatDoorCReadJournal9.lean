/- A part of the proof of the statement in the last file of this claim: texts on the language of the program and on its functions. No condition. -/
import Derived.Test.YtkfbakhnpfmfmaaGreatDoorCReadJournal8
import Derived.Test.YtkfbakhnpfmfmaaGreatDoorCReadJournal7
set_option linter.unusedVariables false
set_option linter.unusedSimpArgs false
set_option linter.unusedSectionVars false
namespace Go.Proofs.YtkfbakhnpfmfmaaGreatDoor
set_option maxRecDepth 10000
open Go.RowKit
set_option linter.unusedVariables false
set_option linter.unusedSimpArgs false
theorem RepC.alUp {w w' : World} {p : PV} {x : Value} (h : RepC w (Al w) p x) (hu : Up w w') : RepC w' (Al w') p x :=
  h.ext (fun b hb => Nat.lt_of_lt_of_le hb hu.size) (fun b o hb => hu.cell (p := ⟨b, o, none⟩) hb)
theorem argS (s : ByteArray) {w : World} {E : Env} : ∀ (i : Nat) (p : PV), [vs s][i]? = some p → ∃ x, (#[.string s] : Array Value)[i]? = some x ∧ Rep w E p x
  | 0, p, hp => by obtain rfl := Option.some.inj hp; exact ⟨_, rfl, .c (.v _ rfl)⟩
  | n + 1, p, hp => by simp at hp
theorem argP {w : World} {E : Env} {p q : PV} {u v : Value} (hp : Rep w E p u) (hq : Rep w E q v) : ∀ (i : Nat) (r : PV), [p, q][i]? = some r → ∃ x, (#[u, v] : Array Value)[i]? = some x ∧ Rep w E r x
  | 0, r, h => by obtain rfl := Option.some.inj h; exact ⟨_, rfl, hp⟩
  | 1, r, h => by obtain rfl := Option.some.inj h; exact ⟨_, rfl, hq⟩
  | n + 2, r, h => by simp at h
theorem eqActS_w {r : List YAct} (he : m_laws_eqActS r r = some true) {w : World} (ht : TabF w) {u v : Value} (hu : RepC w (Al w) (.sl (r.map cAct)) u) (hv : RepC w (Al w) (.sl (r.map cAct)) v) :
    Calls Tryz.prog 13 #[u, v] w fun e w' => e = .returned (.bool true) ∧ Up w w' := by
  have c := CT.ok (P := Tryz.prog) he
  simp only [CT.f, CT.args, CT.m0, CT.res, CT.mem] at c
  exact CallM.val c (tab_of_F ht) rfl (argP (.c hu) (.c hv))
theorem heldActS_w {r : List YAct} {k q : Int} (he : m_laws_heldActS r k = some q) {w : World} (ht : TabF w) {u : Value} (hu : RepC w (Al w) (.sl (r.map cAct)) u) :
    Calls Tryz.prog 15 #[u, .int .i64 k] w fun e w' => e = .returned (.int .i64 q) ∧ Up w w' := by
  have c := CT.ok (P := Tryz.prog) he
  simp only [CT.f, CT.args, CT.m0, CT.res, CT.mem] at c
  exact CallM.val c (tab_of_F ht) rfl (argP (.c hu) (.c (.v _ rfl)))
theorem upO_up {w a b : World} {O : Nat → Prop} (h : Up w a) (k : UpO O a b) (hO : ∀ q, O q → w.heap.size ≤ q) : Up w b :=
  ⟨k.os.trans h.os, k.tape.trans h.tape, k.output.trans h.output, Nat.le_trans h.size k.size, fun x hx => (k.block x (Nat.lt_of_lt_of_le hx h.size) fun h' => by have := hO x h'; omega).trans (h.block x hx)⟩
set_option maxHeartbeats 4000000 in
set_option maxRecDepth 100000 in
theorem FnExactReadJournal_walk (s : ByteArray) (w : World) (ht : TabF w) : Calls Tryz.prog 4 #[.string s] w fun e w' => e = .returned (.bool true) ∧ Up w w' := by
  by_cases hs : 1048576 < (s.size : Int)
  · go_enter Tryz.func4, Tryz.ntmps4
    go_wp2
    go_ret
    exact ⟨rfl, by (repeat (first | exact Up.rfl' _ | (refine Up.al _ ?_) | (refine Up.dr _ ?_) | (refine Up.dr1 ?_) | (refine Up.sc ?_ (by first | exact Nat.le_refl _ | (simp; done) | omega) _) | (refine Up.step (by assumption) ?_)))⟩
  have hL : s.data.toList.length ≤ 1048576 := by rw [Array.length_toList]; show s.size ≤ _; omega
  have hS := sread hL
  have hK := kread hL
  have hok := read_ok hL
  rw [txt_data] at hS hK
  generalize rd (linesOf s.data.toList) [] = r at *
  have hE : m_laws_eqActS r r = some true := eqr_ActS r (by have := hok.1; omega) fun a ha => eqr_Act a (by have := (actF_tot (hok.2 a ha)).1; omega)
  have hsd : ∀ a ∈ r, a.parcel.sides.length ≤ 3 := fun a ha => (actF_tot (hok.2 a ha)).2
  have hq := nAc_le 1 r hsd
  have hq0 := nAc_ge 1 r
  have hl := hok.1
  have hH := heldActS_eq r 1 (by omega) (fun a ha => by have := hsd a ha; omega) (by omega) (by omega)
  have hM := fun (w0 a : World) (h0 : TabF w0) (hu : Up w0 a) (us : Nat → Value) (W : Nat → Blk) (B : Blk) (h : OwnA w0 a r us W B) => markActs h0 hu (k := 1) h (by omega) (fun a ha => by have := hsd a ha; omega) (by omega) (by omega)
  have cS := fun (w : World) (h : TabF w) => CallM.rows (CT.ok (P := Tryz.prog) hS) isC_act h rfl (argS s)
  have cK := fun (w : World) (h : TabF w) => CallM.acts (CT.ok (P := Tryz.prog) hK) h rfl (argS s)
  have hn : decide (nAc 1 r < 0) = false := decide_eq_false (by omega)
  have cE := fun (w : World) (h : TabF w) (u v : Value) (hu : RepC w (Al w) (.sl (r.map cAct)) u) (hv : RepC w (Al w) (.sl (r.map cAct)) v) => eqActS_w hE h hu hv
  have cH := fun (w : World) (h : TabF w) (u : Value) (hu : RepC w (Al w) (.sl ((mkAc 1 r).map cAct)) u) => heldActS_w hH h hu
  have HT := Lib.hid ht
  have HM := Lib.hid hM
  have HS := Lib.hid cS
  have HK := Lib.hid cK
  have HE := Lib.hid cE
  have HH := Lib.hid cH
  clear ht hM cS cK cE cH hH hE hS hK hok hsd hL
  have hn0 : ¬ nAc 1 r < 0 := by omega
  generalize nAc 1 r = q at *
  clear hq hq0 hl
  go_enter Tryz.func4, Tryz.ntmps4
  go_wp2_with fail
  refine (HS.out w HT.out).mono ?_
  rintro e w1 ⟨v0, rfl, hb1, q1⟩
  have T1 := Lib.hid (tabF_up HT.out hb1)
  have Q1 := Lib.hid q1
  clear q1
  go_wp2_with fail
  refine (HK.out w1 T1.out).mono ?_
  rintro e w2 ⟨us, W, B, rfl, hb2, o2⟩
  have O2 := Lib.hid o2
  have U2 := Lib.hid hb2
  clear o2 hb2
  go_wp2_with fail
  refine (HE.out w2 (tabF_up T1.out U2.out) _ _ O2.out.rep (RepC.alUp Q1.out U2.out)).mono ?_
  rintro e w3 ⟨rfl, hb3⟩
  have U3 := Lib.hid (Up.step hb3 U2.out)
  have O3 := Lib.hid (O2.out.up hb3)
  clear hb3
  go_wp2_with fail
  refine (HM.out w1 w3 T1.out U3.out us W B O3.out).mono ?_
  rintro e w4 ⟨rfl, o4, hu4⟩
  have U4 := Lib.hid (upO_up U3.out hu4 fun b hb => by
    rcases hb with ⟨hz, rfl⟩ | ⟨j, h1, h2, rfl⟩
    · exact O3.out.newB hz
    · exact O3.out.newW j h1 h2)
  have O4 := Lib.hid o4
  clear o4 hu4
  go_wp2_with fail
  refine (HH.out w4 (tabF_up T1.out U4.out) _ O4.out.rep).mono ?_
  rintro e w5 ⟨rfl, hb5⟩
  have U5 := Lib.hid (Up.step hb5 U4.out)
  have O5 := Lib.hid (O4.out.up hb5)
  clear hb5
  go_wp2_with fail
  refine (HK.out w5 (tabF_up T1.out U5.out)).mono ?_
  rintro e w6 ⟨us2, W2, B2, rfl, hb6, o6⟩
  have U6 := Lib.hid (Up.step hb6 U5.out)
  have O6 := Lib.hid (O5.out.up hb6)
  have N6 := Lib.hid o6
  clear hb6 o6
  go_wp2_with fail
  refine (HE.out w6 (tabF_up T1.out U6.out) _ _ N6.out.rep (RepC.alUp Q1.out U6.out)).mono ?_
  rintro e w7 ⟨rfl, hb7⟩
  have U7 := Lib.hid (Up.step hb7 U6.out)
  have O7 := Lib.hid (O6.out.up hb7)
  clear hb7
  go_wp2_with fail
  refine (HH.out w7 (tabF_up T1.out U7.out) _ O7.out.rep).mono ?_
  rintro e w8 ⟨rfl, hb8⟩
  have U8 := Lib.hid (Up.step (Up.step hb8 U7.out) hb1)
  clear hb8 hb1
  go_wp2_with fail
  go_ret
  exact ⟨rfl, U8.out⟩
end Go.Proofs.YtkfbakhnpfmfmaaGreatDoor
