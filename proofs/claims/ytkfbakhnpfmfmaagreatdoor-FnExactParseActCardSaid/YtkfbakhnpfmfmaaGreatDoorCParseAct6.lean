/- A part of the proof of the statement in the last file of this claim: texts on the language of the program and on its functions. No condition. -/
import Derived.Test.YtkfbakhnpfmfmaaGreatDoorCParseAct5
import Derived.Laws.ResultCell
import Derived.Test.YtkfbakhnpfmfmaaGreatDoorCParseAct4
import Derived.Test.YtkfbakhnpfmfmaaGreatDoorCParseAct3
import Derived.OpenShut
import Derived.Test.YtkfbakhnpfmfmaaGreatDoorProg
import Derived.Laws.BytesArg
set_option linter.unusedVariables false
set_option linter.unusedSimpArgs false
set_option linter.unusedSectionVars false
namespace Go.Proofs.YtkfbakhnpfmfmaaGreatDoor
set_option maxRecDepth 10000
open Go.RowKit
set_option linter.unusedVariables false
set_option linter.unusedSimpArgs false
set_option maxHeartbeats 2000000
def noLabel : YLabel := ⟨0, 0, ⟨#[]⟩⟩
def m_impl_ParseLabel (s : ByteArray) : Option (YLabel × Bool) :=
  if s.size ≤ 100000000 then if s.size = 15 then match Lib.atoiAll (s.extract 0 1).data.toList, Lib.atoiAll (s.extract 1 10).data.toList with
    | .ok a, .ok b => (m_impl_FormatLabel ⟨a, b, s.extract 10 13⟩).bind fun t => some (if t = s then (⟨a, b, s.extract 10 13⟩, true) else (noLabel, false))
    | _, _ => some (noLabel, false)
  else some (noLabel, false) else none
theorem ag_lab {w : World} (a b : Int) (t : ByteArray) : ∀ (i : Nat) (p : PV), [PV.ag (cLabel ⟨a, b, t⟩)][i]? = some p → ∃ x, (#[.agg #[.int .i64 a, .int .i64 b, .string t]] : Array Value)[i]? = some x ∧ Rep w (E1 (fun b => b < w.heap.size) (fun _ => none) 0) p x := by
  intro i p hp
  match i, hp with
  | 0, hp =>
    obtain rfl := Option.some.inj hp
    refine ⟨_, rfl, .ag _ _ rfl (fun j x hx3 => ?_) fun j p x hp hx3 => ?_⟩
    · match j, hx3 with
      | 0, h | 1, h | 2, h => obtain rfl := Option.some.inj h; rfl
      | j + 3, h => simp at h
    · match j, hp, hx3 with
      | 0, hp, hx2 | 1, hp, hx2 | 2, hp, hx2 => obtain rfl := Option.some.inj hx2; obtain rfl := Option.some.inj hp; exact .c (.v _ rfl)
      | j + 3, hp, _ => simp [cLabel] at hp
  | n + 1, hp => simp at hp
theorem formatLabel_at {a b : Int} {t z : ByteArray} (h : m_impl_FormatLabel ⟨a, b, t⟩ = some z) (w : World) (ht : TabF w) : Calls Tryz.prog 60 #[.agg #[.int .i64 a, .int .i64 b, .string t]] w fun e w' => e = .returned (.string z) ∧ Up w w' := by
  have c := CT.ok (P := Tryz.prog) h
  simp only [CT.f, CT.args, CT.m0, CT.res, CT.mem] at c
  exact CallM.val c (tab_of_F ht) rfl (ag_lab a b t)
def Bx (b : Nat) (w : World) (x y z : Value) : Prop := w.heap[b]? = some (.cells #[x, y, z] 23)
theorem Bx.c {b : Nat} {w : World} {x y z : Value} (h : Bx b w x y z) : w.cell? ⟨b, 0, none⟩ = some x ∧ w.cell? ⟨b, 1, none⟩ = some y ∧ w.cell? ⟨b, 2, none⟩ = some z ∧ w.frozen? ⟨b, 0, none⟩ = false ∧ w.frozen? ⟨b, 1, none⟩ = false ∧ w.frozen? ⟨b, 2, none⟩ = false := by
  unfold Bx at h
  simp [World.cell?, World.frozen?, h]
theorem Bx.up {b : Nat} {w w' : World} {x y z : Value} (h : Bx b w x y z) (hu : Up w w') : Bx b w' x y z := (hu.block b (Array.getElem?_eq_some_iff.1 h).1).trans h
theorem Bx.new (w : World) (x y z : Value) : Bx w.heap.size (w.alloc (.cells #[x, y, z] 23)) x y z := Array.getElem?_push_size
theorem Bx.old {b : Nat} {w : World} {x y z : Value} (h : Bx b w x y z) (o : Obj) : Bx b (w.alloc o) x y z := by
  have hb := (Array.getElem?_eq_some_iff.1 h).1
  unfold Bx at *
  rw [← h]; exact Array.getElem?_push_lt hb |>.trans (Array.getElem?_eq_getElem hb).symm
theorem Bx.lt {b : Nat} {w : World} {x y z : Value} (h : Bx b w x y z) : b < w.heap.size := (Array.getElem?_eq_some_iff.1 h).1
theorem parseLabel_len (s : ByteArray) (w : World) (hs : ¬ s.size = 15) (hm : s.size ≤ 100000000) : Calls Tryz.prog 51 #[.string s] w fun e w' => e = .returned (.tuple #[.agg #[.int .i64 0, .int .i64 0, .string ⟨#[]⟩], .bool false]) ∧ Up w w' := by
  have hs1 : ¬ (s.size : Int) = 15 := by omega
  go_enter Tryz.func51, Tryz.ntmps51
  go_wp2
  (try simp only [Exit.inBlock, Exit.then])
  refine bodyPost_ret (v := .tuple #[.agg #[.int .i64 0, .int .i64 0, .string ⟨#[]⟩], .bool false]) ?_ rfl ?_
  · rw [results_cell_tmp rfl]
    go_simp
  · exact ⟨rfl, by (repeat (first | exact Up.rfl' _ | (refine Up.al _ ?_) | (refine Up.dr _ ?_) | (refine Up.dr1 ?_) | (refine Up.sc ?_ (by first | exact Nat.le_refl _ | (simp; done) | omega) _) | (refine Up.step (by assumption) ?_)))⟩
theorem ext_sz {s : ByteArray} {i j : Nat} (hs : s.size = 15) : (s.extract i j).size ≤ 15 := by rw [ByteArray.size_extract]; omega
theorem parseLabel_bad1 (s : ByteArray) (w : World) (ht : TabF w) (hs : s.size = 15) (h1 : ∀ v, Lib.atoiAll (s.extract 0 1).data.toList ≠ .ok v) : Calls Tryz.prog 51 #[.string s] w fun e w' => e = .returned (.tuple #[.agg #[.int .i64 0, .int .i64 0, .string ⟨#[]⟩], .bool false]) ∧ Up w w' := by
  have hz := ext_sz (i := 0) (j := 1) hs
  have hz2 := ext_sz (i := 1) (j := 10) hs
  have hA := fun w1 (hu : Up w w1) => atoi_bad (s.extract 0 1) (by omega) h1 w1 (tabF_up ht hu)
  have hs1 : (s.size : Int) = 15 := by omega
  by_cases h2 : ∃ v, Lib.atoiAll (s.extract 1 10).data.toList = .ok v
  · obtain ⟨v, h2⟩ := h2
    have hB := fun w1 => atoi_good (s.extract 1 10) (by omega) h2 w1
    clear h1 h2 hz hz2
    go_enter Tryz.func51, Tryz.ntmps51
    go_wp2_with (first
      | (go_at_call 52; with_reducible (refine (hA _ (by (repeat (first | exact Up.rfl' _ | (refine Up.al _ ?_) | (refine Up.dr _ ?_) | (refine Up.dr1 ?_) | (refine Up.sc ?_ (by first | exact Nat.le_refl _ | (simp; done) | omega) _) | (refine Up.step (by assumption) ?_))))).mono ?_); rintro e w1 ⟨n, t, p, rfl, hu1⟩; have B1 := (Bx.new w _ _ _).up hu1)
      | (go_at_call 52; with_reducible (refine (hB _).mono ?_); rintro e w2 ⟨rfl, hu2⟩; have B2 := B1.up hu2; obtain ⟨d0, d1, d2, e0, e1, e2⟩ := B2.c; have z1 := B2.lt; have z2 := Nat.ne_of_lt z1))
    (try simp only [Exit.inBlock, Exit.then])
    refine bodyPost_ret (v := .tuple #[.agg #[.int .i64 0, .int .i64 0, .string ⟨#[]⟩], .bool false]) ?_ rfl ?_
    · rw [results_cell_tmp rfl]
      go_simp
    · exact ⟨rfl, by (repeat (first | exact Up.rfl' _ | (refine Up.al _ ?_) | (refine Up.dr _ ?_) | (refine Up.dr1 ?_) | (refine Up.sc ?_ (by first | exact Nat.le_refl _ | (simp; done) | omega) _) | (refine Up.step (by assumption) ?_)))⟩
  · have hB := fun w1 (hu : Up w w1) => atoi_bad (s.extract 1 10) (by omega) (fun v e => h2 ⟨v, e⟩) w1 (tabF_up ht hu)
    clear h1 h2 hz hz2
    go_enter Tryz.func51, Tryz.ntmps51
    go_wp2_with (first
      | (go_at_call 52; with_reducible (refine (hA _ (by (repeat (first | exact Up.rfl' _ | (refine Up.al _ ?_) | (refine Up.dr _ ?_) | (refine Up.dr1 ?_) | (refine Up.sc ?_ (by first | exact Nat.le_refl _ | (simp; done) | omega) _) | (refine Up.step (by assumption) ?_))))).mono ?_); rintro e w1 ⟨n, t, p, rfl, hu1⟩; have B1 := (Bx.new w _ _ _).up hu1)
      | (go_at_call 52; with_reducible (refine (hB _ (by (repeat (first | exact Up.rfl' _ | (refine Up.al _ ?_) | (refine Up.dr _ ?_) | (refine Up.dr1 ?_) | (refine Up.sc ?_ (by first | exact Nat.le_refl _ | (simp; done) | omega) _) | (refine Up.step (by assumption) ?_))))).mono ?_); rintro e w2 ⟨n2, t2, p2, rfl, hu2⟩; have B2 := B1.up hu2; obtain ⟨d0, d1, d2, e0, e1, e2⟩ := B2.c; have z1 := B2.lt; have z2 := Nat.ne_of_lt z1))
    (try simp only [Exit.inBlock, Exit.then])
    refine bodyPost_ret (v := .tuple #[.agg #[.int .i64 0, .int .i64 0, .string ⟨#[]⟩], .bool false]) ?_ rfl ?_
    · rw [results_cell_tmp rfl]
      go_simp
    · exact ⟨rfl, by (repeat (first | exact Up.rfl' _ | (refine Up.al _ ?_) | (refine Up.dr _ ?_) | (refine Up.dr1 ?_) | (refine Up.sc ?_ (by first | exact Nat.le_refl _ | (simp; done) | omega) _) | (refine Up.step (by assumption) ?_)))⟩
theorem parseLabel_bad2 (s : ByteArray) (w : World) (ht : TabF w) (hs : s.size = 15) {a : Int} (h1 : Lib.atoiAll (s.extract 0 1).data.toList = .ok a) (h2 : ∀ v, Lib.atoiAll (s.extract 1 10).data.toList ≠ .ok v) : Calls Tryz.prog 51 #[.string s] w fun e w' => e = .returned (.tuple #[.agg #[.int .i64 0, .int .i64 0, .string ⟨#[]⟩], .bool false]) ∧ Up w w' := by
  have hz := ext_sz (i := 0) (j := 1) hs
  have hz2 := ext_sz (i := 1) (j := 10) hs
  have hA := fun w1 => atoi_good (s.extract 0 1) (by omega) h1 w1
  have hB := fun w1 (hu : Up w w1) => atoi_bad (s.extract 1 10) (by omega) h2 w1 (tabF_up ht hu)
  have hs1 : (s.size : Int) = 15 := by omega
  clear h1 h2 hz hz2
  go_enter Tryz.func51, Tryz.ntmps51
  go_wp2_with (first
    | (go_at_call 52; with_reducible (refine (hA _).mono ?_); rintro e w1 ⟨rfl, hu1⟩; have B1 := (Bx.new w _ _ _).up hu1)
    | (go_at_call 52; with_reducible (refine (hB _ (by (repeat (first | exact Up.rfl' _ | (refine Up.al _ ?_) | (refine Up.dr _ ?_) | (refine Up.dr1 ?_) | (refine Up.sc ?_ (by first | exact Nat.le_refl _ | (simp; done) | omega) _) | (refine Up.step (by assumption) ?_))))).mono ?_); rintro e w2 ⟨n2, t2, p2, rfl, hu2⟩; have B2 := B1.up hu2; obtain ⟨d0, d1, d2, e0, e1, e2⟩ := B2.c; have z1 := B2.lt; have z2 := Nat.ne_of_lt z1))
  (try simp only [Exit.inBlock, Exit.then])
  refine bodyPost_ret (v := .tuple #[.agg #[.int .i64 0, .int .i64 0, .string ⟨#[]⟩], .bool false]) ?_ rfl ?_
  · rw [results_cell_tmp rfl]
    go_simp
  · exact ⟨rfl, by (repeat (first | exact Up.rfl' _ | (refine Up.al _ ?_) | (refine Up.dr _ ?_) | (refine Up.dr1 ?_) | (refine Up.sc ?_ (by first | exact Nat.le_refl _ | (simp; done) | omega) _) | (refine Up.step (by assumption) ?_)))⟩
theorem parseLabel_fmt (s : ByteArray) (w : World) (ht : TabF w) (hs : s.size = 15) {a b : Int} (h1 : Lib.atoiAll (s.extract 0 1).data.toList = .ok a) (h2 : Lib.atoiAll (s.extract 1 10).data.toList = .ok b) {t : ByteArray} (hF : m_impl_FormatLabel ⟨a, b, s.extract 10 13⟩ = some t) : Calls Tryz.prog 51 #[.string s] w fun e w' => e = .returned (if t = s then .tuple #[.agg #[.int .i64 a, .int .i64 b, .string (s.extract 10 13)], .bool true] else .tuple #[.agg #[.int .i64 0, .int .i64 0, .string ⟨#[]⟩], .bool false]) ∧ Up w w' := by
  have hz := ext_sz (i := 0) (j := 1) hs
  have hz2 := ext_sz (i := 1) (j := 10) hs
  have hA := fun w1 => atoi_good (s.extract 0 1) (by omega) h1 w1
  have hB := fun w1 => atoi_good (s.extract 1 10) (by omega) h2 w1
  have hC := fun w1 (hu : Up w w1) => formatLabel_at hF w1 (tabF_up ht hu)
  have hs1 : (s.size : Int) = 15 := by omega
  clear hF h1 h2 hz hz2
  by_cases ce : t = s
  · rw [if_pos ce]
    rw [ce] at hC
    clear ce
    go_enter Tryz.func51, Tryz.ntmps51
    go_wp2_with (first
      | (go_at_call 52; with_reducible (refine (hA _).mono ?_); rintro e w1 ⟨rfl, hu1⟩; have B1 := (Bx.new w _ _ _).up hu1)
      | (go_at_call 52; with_reducible (refine (hB _).mono ?_); rintro e w2 ⟨rfl, hu2⟩; have B2 := B1.up hu2; obtain ⟨d0, d1, d2, e0, e1, e2⟩ := B2.c; have z1 := B2.lt; have z2 := Nat.ne_of_lt z1)
      | (go_at_call 60; with_reducible (refine (hC _ (by (repeat (first | exact Up.rfl' _ | (refine Up.al _ ?_) | (refine Up.dr _ ?_) | (refine Up.dr1 ?_) | (refine Up.sc ?_ (by first | exact Nat.le_refl _ | (simp; done) | omega) _) | (refine Up.step (by assumption) ?_))))).mono ?_); rintro e w3 ⟨rfl, hu3⟩; have B3 := (B2.old _).up hu3; obtain ⟨d0, d1, d2, e0, e1, e2⟩ := B3.c; have B4 := (Bx.new w2 _ _ _).up hu3; obtain ⟨g0, g1, g2, -, -, -⟩ := B4.c))
    (try simp only [Exit.inBlock, Exit.then])
    refine bodyPost_ret (v := .tuple #[.agg #[.int .i64 a, .int .i64 b, .string (s.extract 10 13)], .bool true]) ?_ rfl ?_
    · rw [results_cell_tmp rfl]
      go_simp
    · exact ⟨rfl, by (repeat (first | exact Up.rfl' _ | (refine Up.al _ ?_) | (refine Up.dr _ ?_) | (refine Up.dr1 ?_) | (refine Up.sc ?_ (by first | exact Nat.le_refl _ | (simp; done) | omega) _) | (refine Up.step (by assumption) ?_)))⟩
  · rw [if_neg ce]
    have hq := bts_ne ce
    clear ce
    go_enter Tryz.func51, Tryz.ntmps51
    go_wp2_with (first
      | (go_at_call 52; with_reducible (refine (hA _).mono ?_); rintro e w1 ⟨rfl, hu1⟩; have B1 := (Bx.new w _ _ _).up hu1)
      | (go_at_call 52; with_reducible (refine (hB _).mono ?_); rintro e w2 ⟨rfl, hu2⟩; have B2 := B1.up hu2; obtain ⟨d0, d1, d2, e0, e1, e2⟩ := B2.c; have z1 := B2.lt; have z2 := Nat.ne_of_lt z1)
      | (go_at_call 60; with_reducible (refine (hC _ (by (repeat (first | exact Up.rfl' _ | (refine Up.al _ ?_) | (refine Up.dr _ ?_) | (refine Up.dr1 ?_) | (refine Up.sc ?_ (by first | exact Nat.le_refl _ | (simp; done) | omega) _) | (refine Up.step (by assumption) ?_))))).mono ?_); rintro e w3 ⟨rfl, hu3⟩; have B3 := (B2.old _).up hu3; obtain ⟨d0, d1, d2, e0, e1, e2⟩ := B3.c; have B4 := (Bx.new w2 _ _ _).up hu3; obtain ⟨g0, g1, g2, -, -, -⟩ := B4.c))
    (try simp only [Exit.inBlock, Exit.then])
    refine bodyPost_ret (v := .tuple #[.agg #[.int .i64 0, .int .i64 0, .string ⟨#[]⟩], .bool false]) ?_ rfl ?_
    · rw [results_cell_tmp rfl]
      go_simp
    · exact ⟨rfl, by (repeat (first | exact Up.rfl' _ | (refine Up.al _ ?_) | (refine Up.dr _ ?_) | (refine Up.dr1 ?_) | (refine Up.sc ?_ (by first | exact Nat.le_refl _ | (simp; done) | omega) _) | (refine Up.step (by assumption) ?_)))⟩
theorem labV {w : World} {E : Env} (r : YLabel × Bool) : Rep w E (.tu [.ag (cLabel r.1), vb r.2]) (.tuple #[.agg #[.int .i64 r.1.service, .int .i64 r.1.serial, .string r.1.to_], .bool r.2]) := by
  refine .tu _ _ rfl fun j p x hp hx => ?_
  match j, hp, hx with
  | 0, hp, hx =>
    obtain rfl := Option.some.inj hp
    obtain rfl := Option.some.inj hx
    refine .ag _ _ rfl (fun j x hx3 => ?_) fun j p x hp hx3 => ?_
    · match j, hx3 with
      | 0, h | 1, h | 2, h => obtain rfl := Option.some.inj h; rfl
      | j + 3, h => simp at h
    · match j, hp, hx3 with
      | 0, hp, hx2 | 1, hp, hx2 | 2, hp, hx2 => obtain rfl := Option.some.inj hx2; obtain rfl := Option.some.inj hp; exact .c (.v _ rfl)
      | j + 3, hp, _ => simp [cLabel] at hp
  | 1, hp, hx =>
    obtain rfl := Option.some.inj hp
    obtain rfl := Option.some.inj hx
    exact .c (.v _ rfl)
  | j + 2, hp, hx => simp at hx
theorem ok_impl_ParseLabel (s : ByteArray) {r : YLabel × Bool} (H : m_impl_ParseLabel s = some r) : CallM Tryz.prog 51 [Go.Proofs.YtkfbakhnpfmfmaaGreatDoor.vs s] [] (.tu [.ag (cLabel r.1), vb r.2]) [] := by
  refine callM_r (fun w E => labV r) fun S β w vs hsz ht hl ha => ?_
  obtain ⟨x, hx, hr1⟩ := ha 0 _ rfl
  obtain rfl := ar1 hl hx
  obtain rfl := rv1 hr1
  have bad : ∀ {X : Prop}, some (noLabel, false) = some r → (Calls Tryz.prog 51 #[.string s] w fun e w' => e = .returned (.tuple #[.agg #[.int .i64 0, .int .i64 0, .string ⟨#[]⟩], .bool false]) ∧ Up w w') → Calls Tryz.prog 51 #[.string s] w fun e w' => e = .returned (.tuple #[.agg #[.int .i64 r.1.service, .int .i64 r.1.serial, .string r.1.to_], .bool r.2]) ∧ Up w w' := fun e h => by
    obtain rfl := Option.some.inj e
    exact h
  unfold m_impl_ParseLabel at H
  by_cases hm : s.size ≤ 100000000
  case neg => rw [if_neg hm] at H; cases H
  rw [if_pos hm] at H
  by_cases hs : s.size = 15
  · rw [if_pos hs] at H
    by_cases h1 : ∃ v, Lib.atoiAll (s.extract 0 1).data.toList = .ok v
    · obtain ⟨a, h1⟩ := h1
      rw [h1] at H
      by_cases h2 : ∃ v, Lib.atoiAll (s.extract 1 10).data.toList = .ok v
      · obtain ⟨b, h2⟩ := h2
        rw [h2] at H
        simp only at H
        cases hF : m_impl_FormatLabel ⟨a, b, s.extract 10 13⟩ with
        | none => rw [hF] at H; cases H
        | some t =>
          rw [hF, Option.bind_some] at H
          obtain rfl := Option.some.inj H
          refine (parseLabel_fmt s w ht hs h1 h2 hF).mono fun e w' ⟨h1, h2⟩ => ⟨?_, h2⟩
          rw [h1]
          split <;> rfl
      · have h2' : ∀ v, Lib.atoiAll (s.extract 1 10).data.toList ≠ .ok v := fun v e => h2 ⟨v, e⟩
        refine bad (X := True) ?_ (parseLabel_bad2 s w ht hs h1 h2')
        rw [← H]
        cases hh : Lib.atoiAll (s.extract 1 10).data.toList with
        | ok v => exact absurd hh (h2' v)
        | _ => rfl
    · have h1' : ∀ v, Lib.atoiAll (s.extract 0 1).data.toList ≠ .ok v := fun v e => h1 ⟨v, e⟩
      refine bad (X := True) ?_ (parseLabel_bad1 s w ht hs h1')
      rw [← H]
      cases hh : Lib.atoiAll (s.extract 0 1).data.toList with
      | ok v => exact absurd hh (h1' v)
      | _ => rfl
  · rw [if_neg hs] at H
    exact bad (X := True) H (parseLabel_len s w hs hm)
instance (s : ByteArray) : CT Tryz.prog (m_impl_ParseLabel s) := ⟨51, [vs s], [], fun r => .tu [.ag [vi r.1.service, vi r.1.serial, vs r.1.to_], vb r.2], fun r => [], ok_impl_ParseLabel s⟩
set_option maxHeartbeats 16000000
def m_spec_l2Split_b0 (s : ByteArray) (at1_ : Int) (s0 : Int × Int × (List ByteArray)) : Option ((Int × Int × (List ByteArray)) ⊕ (Int × (List ByteArray))) :=
 cond (decide (s0.2.1 < (s.size : Int)))
 ((jn 6 5 (
 (getB s s0.2.1).bind fun y1 =>
 cond (decide (y1 = at1_))
 ((chk (slOk s0.1 s0.2.1 s.size)).bind fun _ =>
 (chk (appOk ((s0.2.2 : List ByteArray).length + ([(subS s s0.1 s0.2.1)] : List ByteArray).length) 16)).bind fun _ =>
 some (.inl ((w64 (s0.2.1 + 1)), ((s0.2.2 : List ByteArray) ++ [(subS s s0.1 s0.2.1)]))))
 (some (.inl (s0.1, s0.2.2))) : Option ((Int × (List ByteArray)) ⊕ Empty)) (fun z2 => (vs s :: v8 at1_ :: (U 3 (.ms 0 :: vi z2.1 :: vi s0.2.1 :: (U 27 []))))) (fun z2 => [some ⟨.of 9, 1, z2.2.map cStr⟩])).bind (selim (fun z2 =>
 some (.inl (z2.1, (w64 (s0.2.1 + 1)), z2.2))) (fun r => nomatch r)))
 (some (.inr (s0.1, s0.2.2)))
instance (s : ByteArray) (at1_ : Int) : LoopE (m_spec_l2Split_b0 s at1_) := ⟨fun s0 => (vs s :: v8 at1_ :: (U 3 (.ms 0 :: vi s0.1 :: vi s0.2.1 :: (U 27 [])))), fun s0 => [some ⟨.of 9, 1, s0.2.2.map cStr⟩]⟩
def m_spec_l2Split (s : ByteArray) (at1_ : Int) : Option (List ByteArray) :=
 (iterF (m_spec_l2Split_b0 s at1_) NN (0, 0, ([] : List ByteArray))).bind (fun o0 =>
 (chk (slOk o0.1 (s.size : Int) s.size)).bind fun _ =>
 (chk (appOk ((o0.2 : List ByteArray).length + ([(subS s o0.1 (s.size : Int))] : List ByteArray).length) 16)).bind fun _ =>
 some ((o0.2 : List ByteArray) ++ [(subS s o0.1 (s.size : Int))]))
instance (s : ByteArray) (at1_ : Int) : CT Tryz.prog (m_spec_l2Split s at1_) := ⟨21, [vs s, v8 at1_], [], fun r => .ms 0, fun r => [some ⟨.of 9, 1, r.map cStr⟩], fun H => by replace H := H0 H; unfold m_spec_l2Split at H; exact callM_of Tryz.func21 rfl Tryz.ntmps21 Tryz.results21 fun Q hQ hQn => wk3⟩
theorem subS_at {a b c : List UInt8} {i j : Nat} (hi : a.length = i) (hj : j = i + b.length) : subS (txt (a ++ b ++ c)) (i : Int) (j : Int) = txt b := by
  subst hi hj
  unfold subS
  apply ByteArray.ext
  rw [ByteArray.data_extract]
  simp only [txt, Int.toNat_natCast]
  apply Array.toList_inj.1
  rw [Array.toList_extract]
  simp [List.extract_eq_take_drop]
theorem l2_loop {c : UInt8} (L : List UInt8) (hL : L.length ≤ 100000000) : ∀ (rest pre cur : List UInt8) (O : List ByteArray) (N : Nat), L = pre ++ cur ++ rest → c ∉ cur → O.length ≤ pre.length → rest.length < N →
    ∃ f O', iterF (m_spec_l2Split_b0 (txt L) (c.toNat : Int)) N ((pre.length : Int), ((pre.length + cur.length : Nat) : Int), O) = some (((f : Nat) : Int), O') ∧ f ≤ L.length ∧ O'.length ≤ L.length ∧ O' ++ [txt (L.drop f)] = O ++ (splitL c (cur ++ rest)).map txt
  | [], pre, cur, O, 0, h, hc, hO, hN => by simp at hN
  | [], pre, cur, O, N + 1, h, hc, hO, hN => by
    have hs : (txt L).size = pre.length + cur.length := by rw [txt_size, h]; simp
    refine ⟨pre.length, O, ?_, by rw [h]; simp, by rw [h]; simp; omega, ?_⟩
    · unfold iterF m_spec_l2Split_b0
      have d : decide (((pre.length + cur.length : Nat) : Int) < ((txt L).size : Int)) = false := decide_eq_false (by rw [hs]; omega)
      simp only [d, cond_false, Option.bind_some, selim]
    · rw [List.append_nil, splitL_none hc, h]; simp
  | x :: rest, pre, cur, O, 0, h, hc, hO, hN => by simp at hN
  | x :: rest, pre, cur, O, N + 1, h, hc, hO, hN => by
    have hl : L.length = pre.length + cur.length + (rest.length + 1) := by rw [h]; simp; omega
    have hs : (txt L).size = L.length := txt_size L
    have hx : L[pre.length + cur.length]? = some x := by rw [h, ← List.length_append]; simp
    have d : decide (((pre.length + cur.length : Nat) : Int) < ((txt L).size : Int)) = true := decide_eq_true (by rw [hs, hl]; omega)
    have hg := getB_txt hx
    have hw : w64 (((pre.length + cur.length : Nat) : Int) + 1) = ((pre.length + cur.length + 1 : Nat) : Int) := by rw [w64_in (by omega)]; omega
    have hlen : N > rest.length := by simp at hN; omega
    by_cases hxc : x = c
    · subst hxc
      have e1 : decide ((x.toNat : Int) = (x.toNat : Int)) = true := decide_eq_true rfl
      have hsub : subS (txt L) (pre.length : Int) ((pre.length + cur.length : Nat) : Int) = txt cur := by rw [h]; exact subS_at rfl rfl
      have hsl : slOk (pre.length : Int) ((pre.length + cur.length : Nat) : Int) ((txt L).size : Int) = true := decide_eq_true ⟨by omega, by omega, by rw [hs, hl]; omega⟩
      have hap : appOk (O.length + [txt cur].length) 16 = true := decide_eq_true ⟨by simp; omega, by simp; omega⟩
      obtain ⟨f, O', i1, i2, i3, i4⟩ := l2_loop (c := x) L hL rest (pre ++ cur ++ [x]) [] (O ++ [txt cur]) N (by rw [h]; simp) (by simp) (by simp; omega) hlen
      refine ⟨f, O', ?_, i2, i3, ?_⟩
      · have e2 : (pre ++ cur ++ [x]).length = pre.length + cur.length + 1 := by simp; omega
        rw [e2] at i1
        rw [← i1]
        conv => lhs; unfold iterF
        unfold m_spec_l2Split_b0 jn
        simp only [d, cond_true, hg, Option.bind_some, e1, decide_true, hsl, hsub, hap, chk_t, selim, hw, List.length_nil, Nat.add_zero]
      · rw [i4, splitL_app hc]; simp
    · have hxn : ¬ (x.toNat : Int) = (c.toNat : Int) := fun e => hxc (UInt8.toNat_inj.1 (by omega))
      have e1 : decide ((x.toNat : Int) = (c.toNat : Int)) = false := decide_eq_false hxn
      obtain ⟨f, O', i1, i2, i3, i4⟩ := l2_loop (c := c) L hL rest pre (cur ++ [x]) O N (by rw [h]; simp) (by simp [hc, Ne.symm hxc]) hO hlen
      refine ⟨f, O', ?_, i2, i3, ?_⟩
      · have e2 : pre.length + (cur ++ [x]).length = pre.length + cur.length + 1 := by simp; omega
        rw [e2] at i1
        rw [← i1]
        conv => lhs; unfold iterF
        unfold m_spec_l2Split_b0 jn
        simp only [d, cond_true, cond_false, hg, Option.bind_some, e1, selim, hw]
      · rw [i4]; simp
theorem l2Split_eq {c : UInt8} {L : List UInt8} (hL : L.length ≤ 100000000) : m_spec_l2Split (txt L) (c.toNat : Int) = some ((splitL c L).map txt) := by
  obtain ⟨f, O', i1, i2, i3, i4⟩ := l2_loop (c := c) L hL L [] [] [] NN (by simp) (by simp) (by simp) (by unfold NN; omega)
  unfold m_spec_l2Split
  have hs : (txt L).size = L.length := txt_size L
  have hsub : subS (txt L) (f : Int) ((txt L).size : Int) = txt (L.drop f) := by
    rw [hs]
    have := subS_at (a := L.take f) (b := L.drop f) (c := []) (i := f) (j := L.length) (by simp; omega) (by simp; omega)
    rwa [List.append_nil, List.take_append_drop] at this
  have hsl : slOk (f : Int) ((txt L).size : Int) ((txt L).size : Int) = true := decide_eq_true ⟨by omega, by rw [hs]; omega, by omega⟩
  have hap : appOk (O'.length + [txt (L.drop f)].length) 16 = true := decide_eq_true ⟨by simp; omega, by simp; omega⟩
  have i1' : iterF (m_spec_l2Split_b0 (txt L) (c.toNat : Int)) NN (0, 0, ([] : List ByteArray)) = some ((f : Int), O') := i1
  rw [i1']
  simp only [Option.bind_some, hsl, hsub, hap, chk_t]
  rw [i4]
  rfl
def m_impl_threeSides_b0 (l : List Int) (s0 : Int) : Option (Int ⊕ (Unit ⊕ Bool)) :=
 cond (decide (s0 < (l.length : Int)))
 ((getI l s0).bind fun y1 =>
 (m_impl_within y1 1 2000).bind fun y2 =>
 cond (!y2)
 (some (.inr (.inr false)))
 (some (.inl (w64 (s0 + 1)))))
 (some (.inr (.inl ())))
instance (l : List Int) : LoopE (m_impl_threeSides_b0 l) := ⟨fun s0 => (.sl (l.map cInt) :: (U 4 (.sl (l.map cInt) :: vi (l.length : Int) :: vi s0 :: (U 10 [])))), fun s0 => []⟩
def m_impl_threeSides (l : List Int) : Option Bool :=
 (iterF (m_impl_threeSides_b0 l) NN 0).bind (selim (fun o0 =>
 some (decide ((l.length : Int) = 3))) (fun r => some r))
instance (l : List Int) : CT Tryz.prog (m_impl_threeSides l) := ⟨63, [.sl (l.map cInt)], [], fun r => vb r, fun r => [], fun H => by replace H := H0 H; unfold m_impl_threeSides at H; exact callM_of Tryz.func63 rfl Tryz.ntmps63 Tryz.results63 fun Q hQ hQn => wk3⟩
def m_impl_GirthOf (sides : List Int) : Option Int :=
 (m_impl_threeSides sides).bind fun y1 =>
 cond (!y1)
 (some 0)
 ((m_impl_SortSides sides).bind fun y2 =>
 (getI y2 0).bind fun y3 =>
 (getI y2 1).bind fun y4 =>
 (getI y2 2).bind fun y5 =>
 some (w64 ((w64 (y3 + (w64 (2 * y4)))) + (w64 (2 * y5)))))
instance (sides : List Int) : CT Tryz.prog (m_impl_GirthOf sides) := ⟨64, [.sl (sides.map cInt)], [], fun r => vi r, fun r => [], fun H => by replace H := H0 H; unfold m_impl_GirthOf at H; exact callM_of Tryz.func64 rfl Tryz.ntmps64 Tryz.results64 fun Q hQ hQn => wk3⟩
def m_impl_IsParcel (p : YParcel) : Option Bool :=
 (m_impl_IsLabel p.label).bind fun y1 =>
 cond y1
 ((m_impl_IsPlace p.from_).bind fun y2 =>
 cond y2
 (cond (!decide (p.from_ = p.label.to_))
 ((m_impl_within p.weight 1 30000).bind fun y3 =>
 cond y3
 ((m_impl_threeSides p.sides).bind fun y4 =>
 cond y4
 ((m_impl_GirthOf p.sides).bind fun y5 =>
 cond (decide (y5 ≤ 3600))
 ((m_impl_within p.value 0 500000).bind fun y6 =>
 some y6)
 (some false))
 (some false))
 (some false))
 (some false))
 (some false))
 (some false)
instance (p : YParcel) : CT Tryz.prog (m_impl_IsParcel p) := ⟨42, [.ag (cParcel p)], [], fun r => vb r, fun r => [], fun H => by replace H := H0 H; unfold m_impl_IsParcel at H; exact callM_of Tryz.func42 rfl Tryz.ntmps42 Tryz.results42 fun Q hQ hQn => wk3⟩
def m_impl_same_int__b0 (a : List Int) (b : List Int) (s0 : Int) : Option (Int ⊕ (Unit ⊕ Bool)) :=
 cond (decide (s0 < (a.length : Int)))
 ((getI a s0).bind fun y1 =>
 (getI b s0).bind fun y2 =>
 cond (!decide (y1 = y2))
 (some (.inr (.inr false)))
 (some (.inl (w64 (s0 + 1)))))
 (some (.inr (.inl ())))
instance (a : List Int) (b : List Int) : LoopE (m_impl_same_int__b0 a b) := ⟨fun s0 => (.sl (a.map cInt) :: .sl (b.map cInt) :: (U 10 (vi (a.length : Int) :: vi s0 :: (U 12 [])))), fun s0 => []⟩
def m_impl_same_int_ (a : List Int) (b : List Int) : Option Bool :=
 cond (!decide ((a.length : Int) = (b.length : Int)))
 (some false)
 ((iterF (m_impl_same_int__b0 a b) NN 0).bind (selim (fun o0 =>
 some true) (fun r => some r)))
instance (a : List Int) (b : List Int) : CT Tryz.prog (m_impl_same_int_ a b) := ⟨87, [.sl (a.map cInt), .sl (b.map cInt)], [], fun r => vb r, fun r => [], fun H => by replace H := H0 H; unfold m_impl_same_int_ at H; exact callM_of Tryz.func87 rfl Tryz.ntmps87 Tryz.results87 fun Q hQ hQn => wk3⟩
def m_impl_sameParcels (a : YParcel) (b : YParcel) : Option Bool :=
 cond (decide (a.label = b.label))
 (cond (decide (a.from_ = b.from_))
 (cond (decide (a.weight = b.weight))
 ((m_impl_same_int_ a.sides b.sides).bind fun y1 =>
 cond y1
 (some (decide (a.value = b.value)))
 (some false))
 (some false))
 (some false))
 (some false)
instance (a : YParcel) (b : YParcel) : CT Tryz.prog (m_impl_sameParcels a b) := ⟨65, [.ag (cParcel a), .ag (cParcel b)], [], fun r => vb r, fun r => [], fun H => by replace H := H0 H; unfold m_impl_sameParcels at H; exact callM_of Tryz.func65 rfl Tryz.ntmps65 Tryz.results65 fun Q hQ hQn => wk3⟩
def m_impl_sameActs (a : YAct) (b : YAct) : Option Bool :=
 cond (decide (a.kind = b.kind))
 ((m_impl_sameParcels a.parcel b.parcel).bind fun y1 =>
 cond y1
 (cond (decide (a.order = b.order))
 (cond (decide (a.amount = b.amount))
 (cond (decide (a.until_ = b.until_))
 (some (decide (a.trip = b.trip)))
 (some false))
 (some false))
 (some false))
 (some false))
 (some false)
instance (a : YAct) (b : YAct) : CT Tryz.prog (m_impl_sameActs a b) := ⟨44, [.ag (cAct a), .ag (cAct b)], [], fun r => vb r, fun r => [], fun H => by replace H := H0 H; unfold m_impl_sameActs at H; exact callM_of Tryz.func44 rfl Tryz.ntmps44 Tryz.results44 fun Q hQ hQn => wk3⟩
def m_impl_IsAct (a : YAct) : Option Bool :=
 (jn 3 22 (
 cond (decide (a.kind = 1))
 ((m_impl_IsParcel a.parcel).bind fun y1 =>
 some (.inl (y1, a.parcel.label.service, a.parcel.label.serial, a.parcel.label.to_, a.parcel.from_, a.parcel.weight, a.parcel.sides, a.parcel.value, 0, 0, 0, 0, 0)))
 (cond (decide (a.kind = 2))
 ((m_impl_within a.order 1 9999).bind fun y2 =>
 cond y2
 ((m_impl_within a.amount 1 100000).bind fun y3 =>
 some (.inl (y3, 0, 0, ⟨#[]⟩, ⟨#[]⟩, 0, [], 0, a.order, a.amount, 0, 0, 0)))
 (some (.inl (false, 0, 0, ⟨#[]⟩, ⟨#[]⟩, 0, [], 0, a.order, a.amount, 0, 0, 0))))
 (cond (decide (a.kind = 3))
 ((m_impl_within a.until_ 0 100000).bind fun y4 =>
 some (.inl (y4, 0, 0, ⟨#[]⟩, ⟨#[]⟩, 0, [], 0, 0, 0, a.until_, 0, 0)))
 (cond (decide (a.kind = 4))
 ((m_impl_within a.trip.leg 0 19).bind fun y5 =>
 cond y5
 ((m_impl_within a.trip.day 0 60).bind fun y6 =>
 some (.inl (y6, 0, 0, ⟨#[]⟩, ⟨#[]⟩, 0, [], 0, 0, 0, 0, a.trip.leg, a.trip.day)))
 (some (.inl (false, 0, 0, ⟨#[]⟩, ⟨#[]⟩, 0, [], 0, 0, 0, 0, a.trip.leg, a.trip.day))))
 (cond (decide (a.kind = 5))
 (some (.inl (true, 0, 0, ⟨#[]⟩, ⟨#[]⟩, 0, [], 0, 0, 0, 0, 0, 0)))
 (cond (decide (a.kind = 6))
 ((m_impl_within a.order 1 9999).bind fun y7 =>
 some (.inl (y7, 0, 0, ⟨#[]⟩, ⟨#[]⟩, 0, [], 0, a.order, 0, 0, 0, 0)))
 (some (.inl (false, 0, 0, ⟨#[]⟩, ⟨#[]⟩, 0, [], 0, 0, 0, 0, 0, 0)))))))) : Option ((Bool × Int × Int × ByteArray × ByteArray × Int × (List Int) × Int × Int × Int × Int × Int × Int) ⊕ Empty)) (fun z8 => (.un :: .be 0 0 0 :: .un :: .be 1 0 0 :: vb z8.1 :: (U 68 []))) (fun z8 => [some ⟨.of 30, 13, [[vi a.kind, vi a.parcel.label.service, vi a.parcel.label.serial, vs a.parcel.label.to_, vs a.parcel.from_, vi a.parcel.weight, .sl (a.parcel.sides.map cInt), vi a.parcel.value, vi a.order, vi a.amount, vi a.until_, vi a.trip.leg, vi a.trip.day]]⟩, some ⟨.of 30, 13, [[vi a.kind, vi z8.2.1, vi z8.2.2.1, vs z8.2.2.2.1, vs z8.2.2.2.2.1, vi z8.2.2.2.2.2.1, .sl (z8.2.2.2.2.2.2.1.map cInt), vi z8.2.2.2.2.2.2.2.1, vi z8.2.2.2.2.2.2.2.2.1, vi z8.2.2.2.2.2.2.2.2.2.1, vi z8.2.2.2.2.2.2.2.2.2.2.1, vi z8.2.2.2.2.2.2.2.2.2.2.2.1, vi z8.2.2.2.2.2.2.2.2.2.2.2.2]]⟩])).bind (selim (fun z8 =>
 cond z8.1
 ((m_impl_sameActs a (⟨a.kind, (⟨(⟨z8.2.1, z8.2.2.1, z8.2.2.2.1⟩ : YLabel), z8.2.2.2.2.1, z8.2.2.2.2.2.1, z8.2.2.2.2.2.2.1, z8.2.2.2.2.2.2.2.1⟩ : YParcel), z8.2.2.2.2.2.2.2.2.1, z8.2.2.2.2.2.2.2.2.2.1, z8.2.2.2.2.2.2.2.2.2.2.1, (⟨z8.2.2.2.2.2.2.2.2.2.2.2.1, z8.2.2.2.2.2.2.2.2.2.2.2.2⟩ : YTrip)⟩ : YAct)).bind fun y9 =>
 some y9)
 (some false)) (fun r => nomatch r))
instance (a : YAct) : CT Tryz.prog (m_impl_IsAct a) := ⟨19, [.ag (cAct a)], [], fun r => vb r, fun r => [], fun H => by replace H := H0 H; unfold m_impl_IsAct at H; exact callM_of Tryz.func19 rfl Tryz.ntmps19 Tryz.results19 fun Q hQ hQn => wk3⟩
def m_spec_l1Ints (l : List Int) : Option (List Int) :=
 (chk (appOk ((([] : List Int) : List Int).length + (l : List Int).length) 8)).bind fun _ =>
 some ((([] : List Int) : List Int) ++ l)
instance (l : List Int) : CT Tryz.prog (m_spec_l1Ints l) := ⟨124, [.sl (l.map cInt)], [], fun r => .ms 0, fun r => [some ⟨.of 3, 1, r.map cInt⟩], fun H => by replace H := H0 H; unfold m_spec_l1Ints at H; exact callM_of Tryz.func124 rfl Tryz.ntmps124 Tryz.results124 fun Q hQ hQn => wk3⟩
def m_spec_SortSides_b1 (l : List Int) (s0 : Int × (List Int)) (s1 : Int) : Option (Int ⊕ Int) :=
 cond (decide (s1 < (s0.2.length : Int)))
 ((getI s0.2 s1).bind fun y1 =>
 (getI l s0.1).bind fun y2 =>
 cond (decide (y2 ≤ y1))
 (some (.inl (w64 (s1 + 1))))
 (some (.inr s1)))
 (some (.inr s1))
instance (l : List Int) (s0 : Int × (List Int)) : LoopE (m_spec_SortSides_b1 l s0) := ⟨fun s1 => (.sl (l.map cInt) :: .un :: .un :: .ms 0 :: vi s0.1 :: vi s1 :: (U 39 [])), fun s1 => [some ⟨.of 3, 1, s0.2.map cInt⟩]⟩
def m_spec_SortSides_b0 (l : List Int) (s0 : Int × (List Int)) : Option ((Int × (List Int)) ⊕ (List Int)) :=
 cond (decide (s0.1 < (l.length : Int)))
 ((iterF (m_spec_SortSides_b1 l s0) NN 0).bind (fun o1 =>
 (chk (slOk 0 o1 s0.2.length)).bind fun _ =>
 (m_spec_l1Ints (subL s0.2 0 o1)).bind fun y3 =>
 (getI l s0.1).bind fun y4 =>
 (chk (appOk ((y3 : List Int).length + ([y4] : List Int).length) 8)).bind fun _ =>
 (chk (slOk o1 (s0.2.length : Int) s0.2.length)).bind fun _ =>
 (chk (appOk ((((y3 : List Int) ++ [y4]) : List Int).length + ((subL s0.2 o1 (s0.2.length : Int)) : List Int).length) 8)).bind fun _ =>
 some (.inl ((w64 (s0.1 + 1)), ((((y3 : List Int) ++ [y4]) : List Int) ++ (subL s0.2 o1 (s0.2.length : Int)))))))
 (some (.inr s0.2))
instance (l : List Int) : LoopE (m_spec_SortSides_b0 l) := ⟨fun s0 => (.sl (l.map cInt) :: .un :: .un :: .ms 0 :: vi s0.1 :: (U 40 [])), fun s0 => [some ⟨.of 3, 1, s0.2.map cInt⟩]⟩
def m_spec_SortSides (l : List Int) : Option (List Int) :=
 (iterF (m_spec_SortSides_b0 l) NN (0, ([] : List Int))).bind (fun o0 =>
 some o0)
instance (l : List Int) : CT Tryz.prog (m_spec_SortSides l) := ⟨88, [.sl (l.map cInt)], [], fun r => .ms 0, fun r => [some ⟨.of 3, 1, r.map cInt⟩], fun H => by replace H := H0 H; unfold m_spec_SortSides at H; exact callM_of Tryz.func88 rfl Tryz.ntmps88 Tryz.results88 fun Q hQ hQn => wk3⟩
def m_spec_l2Three_b0 (l : List Int) (s0 : Int) : Option (Int ⊕ (Unit ⊕ Bool)) :=
 cond (decide (s0 < (l.length : Int)))
 ((getI l s0).bind fun y1 =>
 (m_spec_l1In y1 1 2000).bind fun y2 =>
 cond (!y2)
 (some (.inr (.inr false)))
 (some (.inl (w64 (s0 + 1)))))
 (some (.inr (.inl ())))
instance (l : List Int) : LoopE (m_spec_l2Three_b0 l) := ⟨fun s0 => (.sl (l.map cInt) :: .un :: .un :: vi s0 :: (U 15 [])), fun s0 => []⟩
def m_spec_l2Three (l : List Int) : Option Bool :=
 (iterF (m_spec_l2Three_b0 l) NN 0).bind (selim (fun o0 =>
 some (decide ((l.length : Int) = 3))) (fun r => some r))
instance (l : List Int) : CT Tryz.prog (m_spec_l2Three l) := ⟨68, [.sl (l.map cInt)], [], fun r => vb r, fun r => [], fun H => by replace H := H0 H; unfold m_spec_l2Three at H; exact callM_of Tryz.func68 rfl Tryz.ntmps68 Tryz.results68 fun Q hQ hQn => wk3⟩
def m_spec_GirthOf (sides : List Int) : Option Int :=
 (m_spec_l2Three sides).bind fun y1 =>
 cond (!y1)
 (some 0)
 ((m_spec_SortSides sides).bind fun y2 =>
 (getI y2 0).bind fun y3 =>
 (getI y2 1).bind fun y4 =>
 (getI y2 2).bind fun y5 =>
 some (w64 ((w64 (y3 + (w64 (2 * y4)))) + (w64 (2 * y5)))))
instance (sides : List Int) : CT Tryz.prog (m_spec_GirthOf sides) := ⟨69, [.sl (sides.map cInt)], [], fun r => vi r, fun r => [], fun H => by replace H := H0 H; unfold m_spec_GirthOf at H; exact callM_of Tryz.func69 rfl Tryz.ntmps69 Tryz.results69 fun Q hQ hQn => wk3⟩
def m_spec_IsLabel (l : YLabel) : Option Bool :=
 (m_spec_l1In l.service 1 3).bind fun y1 =>
 cond y1
 ((m_spec_l1In l.serial 0 999999999).bind fun y2 =>
 cond y2
 ((m_spec_IsPlace l.to_).bind fun y3 =>
 some y3)
 (some false))
 (some false)
instance (l : YLabel) : CT Tryz.prog (m_spec_IsLabel l) := ⟨66, [.ag (cLabel l)], [], fun r => vb r, fun r => [], fun H => by replace H := H0 H; unfold m_spec_IsLabel at H; exact callM_of Tryz.func66 rfl Tryz.ntmps66 Tryz.results66 fun Q hQ hQn => wk3⟩
def m_spec_IsParcel (p : YParcel) : Option Bool :=
 (m_spec_IsLabel p.label).bind fun y1 =>
 cond y1
 ((m_spec_IsPlace p.from_).bind fun y2 =>
 cond y2
 (cond (!decide (p.from_ = p.label.to_))
 ((m_spec_l1In p.weight 1 30000).bind fun y3 =>
 cond y3
 ((m_spec_l2Three p.sides).bind fun y4 =>
 cond y4
 ((m_spec_GirthOf p.sides).bind fun y5 =>
 cond (decide (y5 ≤ 3600))
 ((m_spec_l1In p.value 0 500000).bind fun y6 =>
 some y6)
 (some false))
 (some false))
 (some false))
 (some false))
 (some false))
 (some false)
instance (p : YParcel) : CT Tryz.prog (m_spec_IsParcel p) := ⟨45, [.ag (cParcel p)], [], fun r => vb r, fun r => [], fun H => by replace H := H0 H; unfold m_spec_IsParcel at H; exact callM_of Tryz.func45 rfl Tryz.ntmps45 Tryz.results45 fun Q hQ hQn => wk3⟩
def m_spec_IsAct (a : YAct) : Option Bool :=
 (jn 2 7 (
 cond (decide (a.kind = 1))
 ((m_spec_IsParcel a.parcel).bind fun y1 =>
 cond (!y1)
 (some (.inr false))
 (some (.inl ())))
 (cond (!decide (a.parcel.label = (⟨0, 0, ⟨#[]⟩⟩ : YLabel)))
 (some (.inr false))
 (cond (!decide (a.parcel.from_ = ⟨#[]⟩))
 (some (.inr false))
 (cond (!decide (a.parcel.weight = 0))
 (some (.inr false))
 (cond (decide (0 < (a.parcel.sides.length : Int)))
 (some (.inr false))
 (cond (!decide (a.parcel.value = 0))
 (some (.inr false))
 (some (.inl ()))))))) : Option (Unit ⊕ Bool)) (fun z2 => (.un :: .be 0 0 0 :: (U 129 []))) (fun z2 => [some ⟨.of 30, 13, [[vi a.kind, vi a.parcel.label.service, vi a.parcel.label.serial, vs a.parcel.label.to_, vs a.parcel.from_, vi a.parcel.weight, .sl (a.parcel.sides.map cInt), vi a.parcel.value, vi a.order, vi a.amount, vi a.until_, vi a.trip.leg, vi a.trip.day]]⟩])).bind (selim (fun z2 =>
 (jn 7 8 (
 cond (decide (a.kind = 2))
 (some (.inl true))
 (some (.inl (decide (a.kind = 6)))) : Option (Bool ⊕ Empty)) (fun z3 => (.un :: .be 0 0 0 :: .un :: .un :: vb z3 :: (U 126 []))) (fun z3 => [some ⟨.of 30, 13, [[vi a.kind, vi a.parcel.label.service, vi a.parcel.label.serial, vs a.parcel.label.to_, vs a.parcel.from_, vi a.parcel.weight, .sl (a.parcel.sides.map cInt), vi a.parcel.value, vi a.order, vi a.amount, vi a.until_, vi a.trip.leg, vi a.trip.day]]⟩])).bind (selim (fun z3 =>
 (jn 8 10 (
 cond z3
 ((m_spec_l1In a.order 1 9999).bind fun y4 =>
 cond (!y4)
 (some (.inr false))
 (cond (!z3)
 (cond (!decide (a.order = 0))
 (some (.inr false))
 (some (.inl ())))
 (some (.inl ()))))
 (cond (!z3)
 (cond (!decide (a.order = 0))
 (some (.inr false))
 (some (.inl ())))
 (some (.inl ()))) : Option (Unit ⊕ Bool)) (fun z5 => (.un :: .be 0 0 0 :: (U 129 []))) (fun z5 => [some ⟨.of 30, 13, [[vi a.kind, vi a.parcel.label.service, vi a.parcel.label.serial, vs a.parcel.label.to_, vs a.parcel.from_, vi a.parcel.weight, .sl (a.parcel.sides.map cInt), vi a.parcel.value, vi a.order, vi a.amount, vi a.until_, vi a.trip.leg, vi a.trip.day]]⟩])).bind (selim (fun z5 =>
 (jn 10 12 (
 cond (decide (a.kind = 2))
 ((m_spec_l1In a.amount 1 100000).bind fun y6 =>
 cond (!y6)
 (some (.inr false))
 (cond (!decide (a.kind = 2))
 (cond (!decide (a.amount = 0))
 (some (.inr false))
 (some (.inl ())))
 (some (.inl ()))))
 (cond (!decide (a.kind = 2))
 (cond (!decide (a.amount = 0))
 (some (.inr false))
 (some (.inl ())))
 (some (.inl ()))) : Option (Unit ⊕ Bool)) (fun z7 => (.un :: .be 0 0 0 :: (U 129 []))) (fun z7 => [some ⟨.of 30, 13, [[vi a.kind, vi a.parcel.label.service, vi a.parcel.label.serial, vs a.parcel.label.to_, vs a.parcel.from_, vi a.parcel.weight, .sl (a.parcel.sides.map cInt), vi a.parcel.value, vi a.order, vi a.amount, vi a.until_, vi a.trip.leg, vi a.trip.day]]⟩])).bind (selim (fun z7 =>
 (jn 12 14 (
 cond (decide (a.kind = 3))
 ((m_spec_l1In a.until_ 0 100000).bind fun y8 =>
 cond (!y8)
 (some (.inr false))
 (cond (!decide (a.kind = 3))
 (cond (!decide (a.until_ = 0))
 (some (.inr false))
 (some (.inl ())))
 (some (.inl ()))))
 (cond (!decide (a.kind = 3))
 (cond (!decide (a.until_ = 0))
 (some (.inr false))
 (some (.inl ())))
 (some (.inl ()))) : Option (Unit ⊕ Bool)) (fun z9 => (.un :: .be 0 0 0 :: (U 129 []))) (fun z9 => [some ⟨.of 30, 13, [[vi a.kind, vi a.parcel.label.service, vi a.parcel.label.serial, vs a.parcel.label.to_, vs a.parcel.from_, vi a.parcel.weight, .sl (a.parcel.sides.map cInt), vi a.parcel.value, vi a.order, vi a.amount, vi a.until_, vi a.trip.leg, vi a.trip.day]]⟩])).bind (selim (fun z9 =>
 (jn 14 16 (
 cond (decide (a.kind = 4))
 ((m_spec_l1In a.trip.leg 0 19).bind fun y10 =>
 cond (!y10)
 (some (.inr false))
 ((m_spec_l1In a.trip.day 0 60).bind fun y11 =>
 cond (!y11)
 (some (.inr false))
 (cond (!decide (a.kind = 4))
 (cond (!decide (a.trip = (⟨0, 0⟩ : YTrip)))
 (some (.inr false))
 (some (.inl ())))
 (some (.inl ())))))
 (cond (!decide (a.kind = 4))
 (cond (!decide (a.trip = (⟨0, 0⟩ : YTrip)))
 (some (.inr false))
 (some (.inl ())))
 (some (.inl ()))) : Option (Unit ⊕ Bool)) (fun z12 => (.un :: .be 0 0 0 :: (U 129 []))) (fun z12 => [some ⟨.of 30, 13, [[vi a.kind, vi a.parcel.label.service, vi a.parcel.label.serial, vs a.parcel.label.to_, vs a.parcel.from_, vi a.parcel.weight, .sl (a.parcel.sides.map cInt), vi a.parcel.value, vi a.order, vi a.amount, vi a.until_, vi a.trip.leg, vi a.trip.day]]⟩])).bind (selim (fun z12 =>
 (m_spec_l1In a.kind 1 6).bind fun y13 =>
 some y13) (fun r => some r))) (fun r => some r))) (fun r => some r))) (fun r => some r))) (fun r => nomatch r))) (fun r => some r))
instance (a : YAct) : CT Tryz.prog (m_spec_IsAct a) := ⟨20, [.ag (cAct a)], [], fun r => vb r, fun r => [], fun H => by replace H := H0 H; unfold m_spec_IsAct at H; exact callM_of Tryz.func20 rfl Tryz.ntmps20 Tryz.results20 fun Q hQ hQn => wk3⟩
end Go.Proofs.YtkfbakhnpfmfmaaGreatDoor
namespace Go.Proofs.YtkfbakhnpfmfmaaGreatDoor
set_option maxRecDepth 10000
open Go.RowKit Go.Sort
set_option linter.unusedVariables false
set_option linter.unusedSimpArgs false
set_option maxHeartbeats 1000000
theorem threeB_eq : @m_impl_threeSides_b0 = @m_spec_l2Three_b0 := by
  funext l i; unfold m_impl_threeSides_b0 m_spec_l2Three_b0; rw [within_eq]
theorem three_eq (l : List Int) : m_impl_threeSides l = m_spec_l2Three l := by
  unfold m_impl_threeSides m_spec_l2Three; rw [threeB_eq]
def threeV (l : List Int) : Bool := l.all (fun n => decide (1 ≤ n) && decide (n ≤ 2000)) && decide ((l.length : Int) = 3)
theorem three_v {l : List Int} (h : l.length < NN) : m_spec_l2Three l = some (threeV l) := by
  have e : iterF (m_spec_l2Three_b0 l) NN 0 = some (if l.any (fun n => !(decide (1 ≤ n) && decide (n ≤ 2000))) = true then .inr false else .inl ()) := by
    refine iter_find (fun i hi => ?_) ?_ h
    · have hx : l[i]? = some l[i] := List.getElem?_eq_getElem hi
      have hw := w64_nat hi (by unfold NN at h; omega)
      unfold m_spec_l2Three_b0
      rw [decide_eq_true (by omega : (i : Int) < l.length), cond_true, getI_nat, hx, Option.bind_some, l1In_v, Option.bind_some, hw]
      cases (decide (1 ≤ l[i]) && decide (l[i] ≤ 2000)) <;> rfl
    · unfold m_spec_l2Three_b0
      rw [decide_eq_false (by omega : ¬ ((l.length : Int) < l.length))]; rfl
  unfold m_spec_l2Three threeV
  rw [e, List.all_eq_not_any_not]
  cases l.any (fun n => !(decide (1 ≤ n) && decide (n ≤ 2000))) <;> rfl
theorem iter_more {σ ο : Type} {body : σ → Option (σ ⊕ ο)} {o : ο} : ∀ {n : Nat} {s : σ}, iterF body n s = some o → ∀ k, iterF body (n + k) s = some o
  | 0, s, h, k => by cases h
  | n + 1, s, h, k => by
    rw [Nat.add_right_comm]
    unfold iterF at *
    cases hb : body s with
    | none => rw [hb] at h; cases h
    | some x =>
      rw [hb] at h
      cases x with
      | inl s' => exact iter_more (n := n) h k
      | inr o' => exact h
theorem iter_NN {σ ο : Type} {body : σ → Option (σ ⊕ ο)} {o : ο} {n : Nat} {s : σ} (h : iterF body n s = some o) (hn : n ≤ NN) : iterF body NN s = some o := by
  have := iter_more h (NN - n)
  rwa [Nat.add_sub_cancel' hn] at this
theorem itl {σ ο : Type} {body : σ → Option (σ ⊕ ο)} {n : Nat} {s s' : σ} (h : body s = some (.inl s')) : iterF body (n + 1) s = iterF body n s' := by
  show (body s).bind _ = _
  rw [h]; rfl
theorem itr {σ ο : Type} {body : σ → Option (σ ⊕ ο)} {n : Nat} {s : σ} {o : ο} (h : body s = some (.inr o)) : iterF body (n + 1) s = some o := by
  show (body s).bind _ = _
  rw [h]; rfl
theorem w1 : w64 1 = 1 := by decide
theorem w2 : w64 2 = 2 := by decide
theorem w3 : w64 3 = 3 := by decide
theorem inn0 (l : List Int) (i : Int) : iterF (m_spec_SortSides_b1 l (i, [])) NN 0 = some ((0 : Nat) : Int) := iter_NN (n := 1) (itr (by simp [m_spec_SortSides_b1])) (by unfold NN; omega)
theorem inn1 {l : List Int} {i y a : Int} (h : getI l i = some y) : iterF (m_spec_SortSides_b1 l (i, [a])) NN 0 = some (((if y ≤ a then 1 else 0 : Nat)) : Int) := by
  refine iter_NN (n := 2) ?_ (by unfold NN; omega)
  have q0 : getI [a] 0 = some a := rfl
  by_cases h1 : y ≤ a
  · rw [if_pos h1, itl (s' := 1) (by simp [m_spec_SortSides_b1, h, q0, h1, w1]), itr (o := 1) (by simp [m_spec_SortSides_b1])]; rfl
  · rw [if_neg h1, itr (o := 0) (by simp [m_spec_SortSides_b1, h, q0, h1])]; rfl
theorem inn2 {l : List Int} {i y a b : Int} (h : getI l i = some y) : iterF (m_spec_SortSides_b1 l (i, [a, b])) NN 0 = some (((if y ≤ a then (if y ≤ b then 2 else 1) else 0 : Nat)) : Int) := by
  refine iter_NN (n := 3) ?_ (by unfold NN; omega)
  have q0 : getI [a, b] 0 = some a := rfl
  have q1 : getI [a, b] 1 = some b := rfl
  by_cases h1 : y ≤ a
  · rw [if_pos h1, itl (s' := 1) (by simp [m_spec_SortSides_b1, h, q0, h1, w1])]
    by_cases h2 : y ≤ b
    · rw [if_pos h2, itl (s' := 2) (by simp [m_spec_SortSides_b1, h, q1, h2, w2]), itr (o := 2) (by simp [m_spec_SortSides_b1])]; rfl
    · rw [if_neg h2, itr (o := 1) (by simp [m_spec_SortSides_b1, h, q1, h2])]; rfl
  · rw [if_neg h1, itr (o := 0) (by simp [m_spec_SortSides_b1, h, q0, h1])]; rfl
theorem l1Ints_v {l : List Int} (h : l.length ≤ 1048576) : m_spec_l1Ints l = some l := by
  have c : chk (appOk (([] : List Int).length + l.length) 8) = some () := chk_t (decide_eq_true ⟨by simp; omega, by simp; omega⟩)
  unfold m_spec_l1Ints
  rw [c]
  rfl
theorem outb {l out : List Int} {i y : Int} {k : Nat} (hi : i < (l.length : Int)) (hy : getI l i = some y) (hk : iterF (m_spec_SortSides_b1 l (i, out)) NN 0 = some (k : Int)) (hkl : k ≤ out.length) (hl : out.length ≤ 1000) :
    m_spec_SortSides_b0 l (i, out) = some (.inl (w64 (i + 1), out.take k ++ [y] ++ out.drop k)) := by
  unfold m_spec_SortSides_b0
  have t1 : subL out 0 (k : Int) = out.take k := by simp [subL]
  have t2 : subL out (k : Int) (out.length : Int) = out.drop k := by simp only [subL, Int.toNat_natCast]; exact List.take_of_length_le (by simp)
  have c1 : chk (slOk 0 (k : Int) (out.length : Int)) = some () := chk_t (decide_eq_true ⟨by omega, by omega, by omega⟩)
  have c2 : chk (slOk (k : Int) (out.length : Int) (out.length : Int)) = some () := chk_t (decide_eq_true ⟨by omega, by omega, by omega⟩)
  have c3 : chk (appOk ((out.take k).length + ([y] : List Int).length) 8) = some () := chk_t (decide_eq_true ⟨by simp; omega, by simp; omega⟩)
  have c4 : chk (appOk ((out.take k ++ [y]).length + (out.drop k).length) 8) = some () := chk_t (decide_eq_true ⟨by simp; omega, by simp; omega⟩)
  simp only [decide_eq_true hi, cond_true, hk, Option.bind_some, c1, t1, l1Ints_v (l := out.take k) (by simp; omega), hy, c3, c2, t2, c4]
theorem srt_spec (x y z : Int) : m_spec_SortSides [x, y, z] = some (srt3 [x, y, z]) := by
  have g0 : getI [x, y, z] 0 = some x := rfl
  have g1 : getI [x, y, z] 1 = some y := rfl
  have g2 : getI [x, y, z] 2 = some z := rfl
  have e : iterF (m_spec_SortSides_b0 [x, y, z]) NN (0, []) = some (srt3 [x, y, z]) := by
    refine iter_NN (n := 4) ?_ (by unfold NN; omega)
    have e0 := outb (l := [x, y, z]) (by simp) g0 (inn0 _ _) (Nat.le_refl _) (by simp)
    have hE : ∀ o : List Int, m_spec_SortSides_b0 [x, y, z] (3, o) = some (.inr o) := fun o => by simp [m_spec_SortSides_b0]
    simp only [List.take_nil, List.drop_nil, List.nil_append, List.append_nil, show w64 ((0 : Int) + 1) = 1 by decide] at e0
    have e1 := outb (l := [x, y, z]) (out := [x]) (by simp) g1 (inn1 g1) (by split <;> simp) (by simp)
    simp only [show w64 ((1 : Int) + 1) = 2 by decide] at e1
    have e2 := fun a b => outb (l := [x, y, z]) (out := [a, b]) (by simp) g2 (inn2 g2) (by split <;> (try split) <;> simp) (by simp)
    simp only [show w64 ((2 : Int) + 1) = 3 by decide] at e2
    have hs : srt3 [x, y, z] = (Sort.insertionSort gtI #[x, y, z] 0 3).toList := rfl
    rw [hs]
    unfold Sort.insertionSort
    rw [insOuter, if_pos (by omega), insOuter, if_pos (by omega), insOuter, if_neg (by omega)]
    by_cases h1 : y ≤ x
    · have h1' : ¬ x < y := by omega
      rw [if_pos h1] at e1
      have e2' := e2 x y
      by_cases h2 : z ≤ x
      · by_cases h3 : z ≤ y
        · rw [if_pos h2, if_pos h3] at e2'
          simp at e1 e2'
          rw [itl e0, itl e1, itl e2', itr (hE _)]; simp [insInner, swp, gtI, h1', show ¬ y < z by omega]
        · rw [if_pos h2, if_neg h3] at e2'
          simp at e1 e2'
          rw [itl e0, itl e1, itl e2', itr (hE _)]; simp [insInner, swp, gtI, h1', show y < z by omega, show ¬ x < z by omega]
      · rw [if_neg h2] at e2'
        simp at e1 e2'
        rw [itl e0, itl e1, itl e2', itr (hE _)]; simp [insInner, swp, gtI, h1', show y < z by omega, show x < z by omega]
    · have h1' : x < y := by omega
      rw [if_neg h1] at e1
      have e2' := e2 y x
      by_cases h2 : z ≤ y
      · by_cases h3 : z ≤ x
        · rw [if_pos h2, if_pos h3] at e2'
          simp at e1 e2'
          rw [itl e0, itl e1, itl e2', itr (hE _)]; simp [insInner, swp, gtI, h1', show ¬ x < z by omega]
        · rw [if_pos h2, if_neg h3] at e2'
          simp at e1 e2'
          rw [itl e0, itl e1, itl e2', itr (hE _)]; simp [insInner, swp, gtI, h1', show x < z by omega, show ¬ y < z by omega]
      · rw [if_neg h2] at e2'
        simp at e1 e2'
        rw [itl e0, itl e1, itl e2', itr (hE _)]; simp [insInner, swp, gtI, h1', show y < z by omega, show x < z by omega]
  unfold m_spec_SortSides
  rw [e]; rfl
theorem three_len {l : List Int} (h : threeV l = true) : l.length = 3 := by
  unfold threeV at h
  have := (Bool.and_eq_true _ _ ▸ h : _ ∧ _).2
  have := of_decide_eq_true this
  omega
theorem girth_eq {l : List Int} (h : l.length < NN) : m_impl_GirthOf l = m_spec_GirthOf l ∧ ∃ b, m_spec_GirthOf l = some b := by
  unfold m_impl_GirthOf m_spec_GirthOf
  rw [three_eq, three_v h]
  cases ht : threeV l with
  | false => exact ⟨rfl, _, rfl⟩
  | true =>
    have h3 := three_len ht
    match l, h3 with
    | [x, y, z], _ =>
      have hm : m_impl_SortSides [x, y, z] = some (srt3 [x, y, z]) := if_pos rfl
      have hl := srt3_len [x, y, z]
      match hs : srt3 [x, y, z], hl with
      | [a, b, c], _ =>
        simp only [srt_spec, hm, hs, Option.bind_some, Bool.not_true, cond_false]
        exact ⟨trivial, _, rfl⟩
theorem label_eq {l : YLabel} (h : l.to_.size ≤ B60) : m_impl_IsLabel l = m_spec_IsLabel l ∧ ∃ b, m_spec_IsLabel l = some b := by
  obtain ⟨e, b, hb⟩ := isPlace_eq h
  unfold m_impl_IsLabel m_spec_IsLabel
  rw [within_eq, e, hb, l1In_v, l1In_v]
  refine ⟨rfl, ?_⟩
  cases (decide (1 ≤ l.service) && decide (l.service ≤ 3)) <;> cases (decide (0 ≤ l.serial) && decide (l.serial ≤ 999999999)) <;> exact ⟨_, rfl⟩
theorem parcel_eq {p : YParcel} (h1 : p.label.to_.size ≤ B60) (h2 : p.from_.size ≤ B60) (h3 : p.sides.length < NN) : m_impl_IsParcel p = m_spec_IsParcel p ∧ ∃ b, m_spec_IsParcel p = some b := by
  obtain ⟨e1, b1, hb1⟩ := label_eq h1
  obtain ⟨e2, b2, hb2⟩ := isPlace_eq h2
  obtain ⟨e3, b3, hb3⟩ := girth_eq h3
  unfold m_impl_IsParcel m_spec_IsParcel
  rw [within_eq, e1, e2, e3, three_eq, hb1, hb2, hb3, three_v h3, l1In_v, l1In_v]
  refine ⟨rfl, ?_⟩
  simp only [Option.bind_some]
  generalize (decide (1 ≤ p.weight) && decide (p.weight ≤ 30000)) = c1
  generalize threeV p.sides = c2
  generalize decide (b3 ≤ 3600) = c3
  generalize (!decide (p.from_ = p.label.to_)) = c4
  cases b1
  · exact ⟨_, rfl⟩
  cases b2
  · exact ⟨_, rfl⟩
  cases c4
  · exact ⟨_, rfl⟩
  cases c1
  · exact ⟨_, rfl⟩
  cases c2
  · exact ⟨_, rfl⟩
  cases c3 <;> exact ⟨_, rfl⟩
theorem same_v {a b : List Int} (h : a.length < NN) : m_impl_same_int_ a b = some (decide (a = b)) := by
  unfold m_impl_same_int_
  by_cases hl : a.length = b.length
  · have e : iterF (m_impl_same_int__b0 a b) NN 0 = some (if (List.range a.length).all (fun i => decide (a[i]? = b[i]?)) = true then .inl () else .inr false) := by
      refine iter_check (fun i hi _ => ?_) (fun _ => ?_) h
      · have hx : a[i]? = some a[i] := List.getElem?_eq_getElem hi
        have hy : b[i]? = some b[i] := List.getElem?_eq_getElem (by omega)
        have hw := w64_nat hi (by unfold NN at h; omega)
        unfold m_impl_same_int__b0
        rw [decide_eq_true (by omega : (i : Int) < a.length), cond_true, getI_nat, getI_nat, hx, hy, Option.bind_some, Option.bind_some, hw]
        by_cases he : a[i] = b[i] <;> simp [he]
      · unfold m_impl_same_int__b0
        rw [decide_eq_false (by omega : ¬ ((a.length : Int) < a.length))]; rfl
    rw [decide_eq_true (by omega : (a.length : Int) = b.length), e]
    by_cases hab : a = b
    · subst hab
      simp
    · rw [if_neg, decide_eq_false hab]
      · rfl
      · intro hall
        refine hab (List.ext_getElem? fun i => ?_)
        by_cases hi : i < a.length
        · exact of_decide_eq_true (List.all_eq_true.1 hall i (List.mem_range.2 hi))
        · rw [List.getElem?_eq_none (by omega), List.getElem?_eq_none (by omega)]
  · rw [decide_eq_false (by omega : ¬ ((a.length : Int) = b.length)), decide_eq_false (fun e => hl (by rw [e]))]
    rfl
theorem jn_eq {ο α : Type} (i j : Nat) (J : Option (ο ⊕ α)) (T : ο → List PV) (M : ο → Mem) : jn i j J T M = J := by unfold jn; rfl
theorem cnd1 (b c : Bool) : (bif b then some c else some false) = some (b && c) := by cases b <;> rfl
theorem cnd2 (b c : Bool) : (bif !b then some false else some c) = some (b && c) := by cases b <;> rfl
theorem bndc {α β : Type} (b : Bool) (X Y : Option α) (S : α → Option β) : (bif b then X else Y).bind S = bif b then X.bind S else Y.bind S := by cases b <;> rfl
theorem sameParcels_v {a b : YParcel} (h : a.sides.length < NN) : m_impl_sameParcels a b = some (decide (a.label = b.label) && (decide (a.from_ = b.from_) && (decide (a.weight = b.weight) && (decide (a.sides = b.sides) && decide (a.value = b.value))))) := by
  unfold m_impl_sameParcels
  simp only [same_v h, Option.bind_some, cnd1]
theorem sameActs_v {a b : YAct} (h : a.parcel.sides.length < NN) : m_impl_sameActs a b = some (decide (a.kind = b.kind) && ((decide (a.parcel.label = b.parcel.label) && (decide (a.parcel.from_ = b.parcel.from_) && (decide (a.parcel.weight = b.parcel.weight) && (decide (a.parcel.sides = b.parcel.sides) && decide (a.parcel.value = b.parcel.value))))) && (decide (a.order = b.order) && (decide (a.amount = b.amount) && (decide (a.until_ = b.until_) && decide (a.trip = b.trip)))))) := by
  unfold m_impl_sameActs
  simp only [sameParcels_v h, Option.bind_some, cnd1]
theorem act_eq {a : YAct} (h1 : a.parcel.label.to_.size ≤ B60) (h2 : a.parcel.from_.size ≤ B60) (h3 : a.parcel.sides.length < NN) : ∃ b, m_impl_IsAct a = some b ∧ m_spec_IsAct a = some b := by
  obtain ⟨e1, b1, hb1⟩ := parcel_eq h1 h2 h3
  have hz : decide (0 < (a.parcel.sides.length : Int)) = !decide (a.parcel.sides = []) := by
    cases a.parcel.sides <;> simp
  unfold m_impl_IsAct m_spec_IsAct
  simp only [jn_eq, within_eq, e1, hb1, l1In_v, sameActs_v h3, hz, Option.bind_some]
  generalize hq1 : decide (a.parcel.label = ⟨0, 0, ⟨#[]⟩⟩) = q1
  generalize hq2 : decide (a.parcel.from_ = ⟨#[]⟩) = q2
  generalize hq3 : decide (a.parcel.weight = 0) = q3
  generalize hq4 : decide (a.parcel.sides = []) = q4
  generalize hq5 : decide (a.parcel.value = 0) = q5
  generalize hq6 : decide (a.order = 0) = q6
  generalize hq7 : decide (a.amount = 0) = q7
  generalize hq8 : decide (a.until_ = 0) = q8
  generalize hq9 : decide (a.trip = ⟨0, 0⟩) = q9
  have kk : a.kind = 1 ∨ a.kind = 2 ∨ a.kind = 3 ∨ a.kind = 4 ∨ a.kind = 5 ∨ a.kind = 6 ∨ (a.kind ≠ 1 ∧ a.kind ≠ 2 ∧ a.kind ≠ 3 ∧ a.kind ≠ 4 ∧ a.kind ≠ 5 ∧ a.kind ≠ 6) := by omega
  rcases kk with k | k | k | k | k | k | ⟨n1, n2, n3, n4, n5, n6⟩
  all_goals try (simp only [n1, n2, n3, n4, n5, n6, Int.reduceEq, decide_true, decide_false, Bool.not_true, Bool.not_false, cond_true, cond_false, Option.bind_some, selim, bndc])
  all_goals try simp only [k, Int.reduceEq, decide_true, decide_false, Bool.not_true, Bool.not_false, cond_true, cond_false, Option.bind_some, selim, bndc]
  case inr.inr.inr.inr.inr.inr =>
    have hf : (decide (1 ≤ a.kind) && decide (a.kind ≤ 6)) = false := by
      rw [Bool.and_eq_false_iff, decide_eq_false_iff_not, decide_eq_false_iff_not]; omega
    simp only [hf, cnd1, cnd2, Bool.and_false]
    exact ⟨_, rfl, rfl⟩
  all_goals
    simp only [hq1, hq2, hq3, hq4, hq5, hq6, hq7, hq8, hq9, cnd1, cnd2, Bool.true_and, Bool.and_true, Int.reduceLE, decide_true]
    exact ⟨_, rfl, by congr 1; try ac_rfl⟩
end Go.Proofs.YtkfbakhnpfmfmaaGreatDoor
namespace Go.Proofs.YtkfbakhnpfmfmaaGreatDoor
set_option maxRecDepth 10000
open Go.RowKit
set_option linter.unusedVariables false
set_option maxHeartbeats 16000000
def m_spec_l1Body (l : YLabel) : Option ByteArray :=
 (m_spec_FormatInt l.service).bind fun y1 =>
 (m_spec_l1Padded l.serial 9).bind fun y2 =>
 (chk (strOk y1 y2)).bind fun _ =>
 (chk (strOk (y1 ++ y2) l.to_)).bind fun _ =>
 some ((y1 ++ y2) ++ l.to_)
instance (l : YLabel) : CT Tryz.prog (m_spec_l1Body l) := ⟨89, [.ag (cLabel l)], [], fun r => vs r, fun r => [], fun H => by replace H := H0 H; unfold m_spec_l1Body at H; exact callM_of Tryz.func89 rfl Tryz.ntmps89 Tryz.results89 fun Q hQ hQn => wk3⟩
def m_spec_CheckOf (l : YLabel) : Option Int :=
 (m_spec_IsLabel l).bind fun y1 =>
 cond (!y1)
 (some (-1))
 ((m_spec_l1Body l).bind fun y2 =>
 (chk (strOk y2 (⟨#[48, 48]⟩))).bind fun _ =>
 (m_spec_Digits (y2 ++ ⟨#[48, 48]⟩)).bind fun y3 =>
 (m_spec_Mod97 y3.1).bind fun y4 =>
 some (w64 (98 - y4)))
instance (l : YLabel) : CT Tryz.prog (m_spec_CheckOf l) := ⟨91, [.ag (cLabel l)], [], fun r => vi r, fun r => [], fun H => by replace H := H0 H; unfold m_spec_CheckOf at H; exact callM_of Tryz.func91 rfl Tryz.ntmps91 Tryz.results91 fun Q hQ hQn => wk3⟩
def m_spec_FormatLabel (l : YLabel) : Option ByteArray :=
 (m_spec_IsLabel l).bind fun y1 =>
 cond (!y1)
 (some (⟨#[]⟩))
 ((m_spec_l1Body l).bind fun y2 =>
 (m_spec_CheckOf l).bind fun y3 =>
 (m_spec_l1Padded y3 2).bind fun y4 =>
 (chk (strOk y2 y4)).bind fun _ =>
 some (y2 ++ y4))
instance (l : YLabel) : CT Tryz.prog (m_spec_FormatLabel l) := ⟨70, [.ag (cLabel l)], [], fun r => vs r, fun r => [], fun H => by replace H := H0 H; unfold m_spec_FormatLabel at H; exact callM_of Tryz.func70 rfl Tryz.ntmps70 Tryz.results70 fun Q hQ hQn => wk3⟩
end Go.Proofs.YtkfbakhnpfmfmaaGreatDoor
namespace Go.Proofs.YtkfbakhnpfmfmaaGreatDoor
set_option maxRecDepth 10000
open Go.RowKit Go.Sort
set_option linter.unusedVariables false
set_option linter.unusedSimpArgs false
set_option maxHeartbeats 1000000
def isDL (c : UInt8) : Prop := (48 ≤ c.toNat ∧ c.toNat ≤ 57) ∨ (65 ≤ c.toNat ∧ c.toNat ≤ 90)
theorem dgt_isDL {c : UInt8} (h : isDL c) : ∃ a, dgt c = some a := by
  unfold dgt
  by_cases h1 : 48 ≤ c.toNat ∧ c.toNat ≤ 57
  · exact ⟨_, if_pos h1⟩
  · rw [if_neg h1]
    rcases h with h | h
    · exact absurd h h1
    · exact ⟨_, if_pos h⟩
theorem dgts_isDL : ∀ {l : List UInt8}, (∀ c ∈ l, isDL c) → ∃ a, dgts l = some a ∧ a.length ≤ 21 * l.length
  | [], _ => ⟨[], rfl, by simp⟩
  | c :: cs, h => by
    obtain ⟨a, ha⟩ := dgt_isDL (h c (by simp))
    obtain ⟨b, hb, hbl⟩ := dgts_isDL (l := cs) fun x hx => h x (by simp [hx])
    have := dgt_len ha
    exact ⟨a ++ b, by simp only [dgts, ha, hb], by simp; omega⟩
theorem dgts_app {l m a b : List UInt8} (h1 : dgts l = some a) (h2 : dgts m = some b) : dgts (l ++ m) = some (a ++ b) := by
  induction l generalizing a with
  | nil => simp [dgts] at h1; subst h1; simpa using h2
  | cons c l ih =>
    simp only [dgts] at h1
    cases hc : dgt c with
    | none => rw [hc] at h1; cases h1
    | some x =>
      cases hl : dgts l with
      | none => rw [hc, hl] at h1; cases h1
      | some y =>
        rw [hc, hl] at h1
        cases h1
        simp only [List.cons_append, dgts, hc, ih hl, List.append_assoc]
theorem dec_isd : ∀ (k u : Nat), u ≤ k → ∀ c ∈ Lib.decDigits u, isDL c := by
  intro k
  induction k with
  | zero =>
    intro u hu c hc
    obtain rfl : u = 0 := by omega
    rw [Lib.decDigits, dif_pos (by omega)] at hc
    simp at hc
    subst hc
    left; decide
  | succ k ih =>
    intro u hu c hc
    rw [Lib.decDigits] at hc
    by_cases h10 : u < 10
    · rw [dif_pos h10] at hc
      obtain rfl := List.mem_singleton.1 hc
      left
      rw [UInt8.toNat_ofNat']
      omega
    · rw [dif_neg h10] at hc
      rcases List.mem_append.1 hc with h | h
      · exact ih _ (by omega) c h
      · obtain rfl := List.mem_singleton.1 h
        left
        rw [UInt8.toNat_ofNat']
        omega
theorem itoa_isd {n : Int} (h : 0 ≤ n) : ∀ c ∈ Lib.itoa n, isDL c := by
  unfold Lib.itoa
  rw [if_neg (by omega)]
  exact dec_isd _ _ (Nat.le_refl _)
theorem padL_isd {n : Int} {d : Nat} (h : 0 ≤ n) : ∀ c ∈ padL n d, isDL c := by
  intro c hc
  rcases List.mem_append.1 hc with h1 | h1
  · rw [List.eq_of_mem_replicate h1]; left; decide
  · exact itoa_isd h c h1
theorem placeB_at {l : List UInt8} {i : Nat} {c : UInt8} (h : l[i]? = some c) (hi : i < 3) : m_spec_IsPlace_b0 (txt l) (i : Int) = some (if 65 ≤ c.toNat ∧ c.toNat ≤ 90 then .inl ((i + 1 : Nat) : Int) else .inr (.inr false)) := by
  have hcl := c.toNat_lt
  unfold m_spec_IsPlace_b0
  rw [decide_eq_true (show (i : Int) < 3 by omega), getB_txt h]
  simp only [cond_true, Option.bind_some, wrap_b (y := (c.toNat : Int)) ⟨by omega, by omega⟩, l1In_v, w64_nat (n := 3) hi (by omega)]
  by_cases h1 : 65 ≤ c.toNat ∧ c.toNat ≤ 90
  · rw [if_pos h1, decide_eq_true (show (65 : Int) ≤ c.toNat by omega), decide_eq_true (show (c.toNat : Int) ≤ 90 by omega)]; rfl
  · rw [if_neg h1]
    have e : (decide ((65 : Int) ≤ c.toNat) && decide ((c.toNat : Int) ≤ 90)) = false := by
      by_cases h : 65 ≤ c.toNat
      · rw [decide_eq_false (show ¬ (c.toNat : Int) ≤ 90 by omega), Bool.and_false]
      · rw [decide_eq_false (show ¬ (65 : Int) ≤ (c.toNat : Int) by omega), Bool.false_and]
    rw [e]; rfl
theorem txt_data (s : ByteArray) : txt s.data.toList = s := ByteArray.ext (by simp [txt])
theorem place_up {s : ByteArray} (h : m_spec_IsPlace s = some true) : s.size = 3 ∧ ∀ c ∈ s.data.toList, isDL c := by
  by_cases h3 : s.size = 3
  · refine ⟨h3, ?_⟩
    have hl : s.data.toList.length = 3 := by rw [Array.length_toList]; exact h3
    obtain ⟨n, hn⟩ : ∃ n, NN = n + 1 + 1 + 1 := ⟨NN - 3, by unfold NN; omega⟩
    unfold m_spec_IsPlace at h
    rw [h3, hn, ← txt_data s] at h
    revert h hl
    generalize s.data.toList = l
    intro hl h
    match l, hl with
    | [a, b, c], _ =>
      have ea := placeB_at (l := [a, b, c]) (i := 0) rfl (by omega)
      have eb := placeB_at (l := [a, b, c]) (i := 1) rfl (by omega)
      have ec := placeB_at (l := [a, b, c]) (i := 2) rfl (by omega)
      by_cases ha : 65 ≤ a.toNat ∧ a.toNat ≤ 90
      · rw [if_pos ha] at ea
        by_cases hb : 65 ≤ b.toNat ∧ b.toNat ≤ 90
        · rw [if_pos hb] at eb
          by_cases hc : 65 ≤ c.toNat ∧ c.toNat ≤ 90
          · intro x hx
            simp at hx
            rcases hx with rfl | rfl | rfl
            · exact .inr ha
            · exact .inr hb
            · exact .inr hc
          · rw [if_neg hc] at ec
            have e := (itl (n := n + 1 + 1) ea).trans ((itl (n := n + 1) eb).trans (itr (n := n) ec))
            rw [show ((0 : Nat) : Int) = 0 from rfl] at e
            rw [e] at h
            cases h
        · rw [if_neg hb] at eb
          have e := (itl (n := n + 1 + 1) ea).trans (itr (n := n + 1) eb)
          rw [show ((0 : Nat) : Int) = 0 from rfl] at e
          rw [e] at h
          cases h
      · rw [if_neg ha] at ea
        have e := itr (n := n + 1 + 1) ea
        rw [show ((0 : Nat) : Int) = 0 from rfl] at e
        rw [e] at h
        cases h
  · unfold m_spec_IsPlace at h
    rw [decide_eq_false (by omega)] at h
    cases h
def bodyL (l : YLabel) : List UInt8 := Lib.itoa l.service ++ padL l.serial 9 ++ l.to_.data.toList
theorem isLabel_t {l : YLabel} (h : m_spec_IsLabel l = some true) : l.to_.size = 3 ∧ ∀ c ∈ bodyL l, isDL c := by
  unfold m_spec_IsLabel at h
  rw [l1In_v, l1In_v] at h
  simp only [Option.bind_some] at h
  cases h1 : (decide (1 ≤ l.service) && decide (l.service ≤ 3)) with
  | false => rw [h1] at h; cases h
  | true =>
    cases h2 : (decide (0 ≤ l.serial) && decide (l.serial ≤ 999999999)) with
    | false => rw [h1, h2] at h; cases h
    | true =>
      rw [h1, h2] at h
      have h3 : m_spec_IsPlace l.to_ = some true := by
        cases hp : m_spec_IsPlace l.to_ with
        | none => rw [hp] at h; cases h
        | some b => rw [hp] at h; exact h
      obtain ⟨hs, hp⟩ := place_up h3
      simp only [Bool.and_eq_true, decide_eq_true_eq] at h1 h2
      refine ⟨hs, fun c hc => ?_⟩
      rcases List.mem_append.1 hc with hc | hc
      · rcases List.mem_append.1 hc with hc | hc
        · exact itoa_isd (by omega) c hc
        · exact padL_isd (by omega) c hc
      · exact hp c hc
theorem bodyL_len {l : YLabel} (h1 : in64 l.service) (h2 : in64 l.serial) (h3 : l.to_.size ≤ 3) : (bodyL l).length ≤ 45 := by
  have a := itoa_len h1
  have b := padL_len (d := 9) h2 (by omega)
  have c : l.to_.data.toList.length = l.to_.size := by rw [Array.length_toList]; rfl
  unfold bodyL
  simp only [List.length_append]
  omega
theorem fI {n : Int} (h : in64 n) : m_impl_FormatInt n = some (txt (Lib.itoa n)) := by unfold m_impl_FormatInt; rw [if_pos h]
theorem fS {n : Int} (h : in64 n) : m_spec_FormatInt n = some (txt (Lib.itoa n)) := by unfold m_spec_FormatInt; rw [if_pos h]
theorem sOk {a b : ByteArray} (ha : a.size ≤ 100000) (hb : b.size ≤ 100000) : chk (strOk a b) = some () := chk_t (strOk_s (by unfold B60; omega))
theorem body_both {l : YLabel} (h1 : in64 l.service) (h2 : in64 l.serial) (h3 : l.to_.size ≤ 3) : m_impl_bodyOf l = some (txt (bodyL l)) ∧ m_spec_l1Body l = some (txt (bodyL l)) := by
  have a := itoa_len h1
  have b := padL_len (d := 9) h2 (by omega)
  have e : (txt (Lib.itoa l.service) ++ txt (padL l.serial 9)) ++ l.to_ = txt (bodyL l) := by
    rw [← txt_data l.to_, txt_app, txt_app]; rfl
  have c1 : chk (strOk (txt (Lib.itoa l.service)) (txt (padL l.serial 9))) = some () := sOk (by rw [txt_size]; omega) (by rw [txt_size]; omega)
  have c2 : chk (strOk (txt (Lib.itoa l.service) ++ txt (padL l.serial 9)) l.to_) = some () := sOk (by rw [txt_app, txt_size, List.length_append]; omega) (by omega)
  have p1 := padded_im (d := 9) h2 (by omega)
  have p2 := padded_spec (d := 9) h2 (by omega)
  rw [show ((9 : Nat) : Int) = 9 from rfl] at p1 p2
  refine ⟨?_, ?_⟩
  · unfold m_impl_bodyOf
    simp only [fI h1, p1, Option.bind_some, c1, c2, e]
  · unfold m_spec_l1Body
    simp only [fS h1, p2, Option.bind_some, c1, c2, e]
theorem ok_in64 {n : Int} (h : okInt n) : in64 n := bounds_i64 h
theorem w64_in64 (n : Int) : in64 (w64 n) := ok_in64 (wf_wrap .i64 n)
theorem check_both {l : YLabel} (h1 : in64 l.service) (h2 : in64 l.serial) (h : m_spec_IsLabel l = some true) (hi : m_impl_IsLabel l = some true) : ∃ n, in64 n ∧ m_impl_CheckOf l = some n ∧ m_spec_CheckOf l = some n := by
  obtain ⟨hs, hd⟩ := isLabel_t h
  obtain ⟨b1, b2⟩ := body_both h1 h2 (by omega)
  have hl := bodyL_len h1 h2 (by omega)
  obtain ⟨a, ha, hal⟩ := dgts_isDL hd
  have h00 : dgts [48, 48] = some [48, 48] := rfl
  have happ := dgts_app ha h00
  have e48 : (⟨#[48, 48]⟩ : ByteArray) = txt [48, 48] := rfl
  have c1 : chk (strOk (txt a) (txt [48, 48])) = some () := sOk (by rw [txt_size]; omega) (by rw [txt_size]; simp)
  have c2 : chk (strOk (txt (bodyL l)) (txt [48, 48])) = some () := sOk (by rw [txt_size]; omega) (by rw [txt_size]; simp)
  obtain ⟨m, hm⟩ := mod97_tot (s := txt (a ++ [48, 48])) (by rw [txt_size, List.length_append]; unfold NN; simp; omega)
  refine ⟨w64 (98 - m), w64_in64 _, ?_, ?_⟩
  · unfold m_impl_CheckOf
    have d1 := digits_im (l := bodyL l) (by omega)
    rw [ha] at d1
    simp only [Option.getD_some, Option.isSome_some] at d1
    simp only [hi, b1, d1, Option.bind_some, Bool.not_true, cond_false, e48, c1, txt_app, mod97_eq, hm]
  · unfold m_spec_CheckOf
    have d1 := digits_spec (l := bodyL l ++ [48, 48]) (by rw [List.length_append]; simp; omega)
    rw [happ] at d1
    simp only [Option.getD_some, Option.isSome_some] at d1
    simp only [h, b2, d1, Option.bind_some, Bool.not_true, cond_false, e48, c2, txt_app, hm]
theorem label_both {l : YLabel} (h1 : in64 l.service) (h2 : in64 l.serial) (h3 : l.to_.size ≤ B60) : ∃ b : List UInt8, b.length ≤ 100 ∧ m_impl_FormatLabel l = some (txt b) ∧ m_spec_FormatLabel l = some (txt b) := by
  obtain ⟨e, v, hv⟩ := label_eq h3
  have hi : m_impl_IsLabel l = some v := e.trans hv
  cases v with
  | false =>
    refine ⟨[], by simp, ?_, ?_⟩
    · unfold m_impl_FormatLabel; simp only [hi, Option.bind_some, Bool.not_false, cond_true]; rfl
    · unfold m_spec_FormatLabel; simp only [hv, Option.bind_some, Bool.not_false, cond_true]; rfl
  | true =>
    obtain ⟨hs, hd⟩ := isLabel_t hv
    obtain ⟨b1, b2⟩ := body_both h1 h2 (by omega)
    have hl := bodyL_len h1 h2 (by omega)
    obtain ⟨n, hn, c1, c2⟩ := check_both h1 h2 hv hi
    have p1 := padded_im (d := 2) hn (by omega)
    have p2 := padded_spec (d := 2) hn (by omega)
    have pl := padL_len (d := 2) hn (by omega)
    rw [show ((2 : Nat) : Int) = 2 from rfl] at p1 p2
    have c3 : chk (strOk (txt (bodyL l)) (txt (padL n 2))) = some () := sOk (by rw [txt_size]; omega) (by rw [txt_size]; omega)
    refine ⟨bodyL l ++ padL n 2, by rw [List.length_append]; omega, ?_, ?_⟩
    · unfold m_impl_FormatLabel; simp only [hi, b1, c1, p1, c3, Option.bind_some, Bool.not_true, cond_false, txt_app]
    · unfold m_spec_FormatLabel; simp only [hv, b2, c2, p2, c3, Option.bind_some, Bool.not_true, cond_false, txt_app]
end Go.Proofs.YtkfbakhnpfmfmaaGreatDoor
namespace Go.Proofs.YtkfbakhnpfmfmaaGreatDoor
set_option maxRecDepth 10000
open Go.RowKit
set_option linter.unusedVariables false
set_option maxHeartbeats 16000000
def m_spec_ParseInt_b0 (s : ByteArray) (s0 : Int × Int) : Option ((Int × Int) ⊕ (Int ⊕ (Int × Bool))) :=
 cond (decide (s0.2 < (s.size : Int)))
 (cond (decide (s0.2 < 11))
 ((getB s s0.2).bind fun y1 =>
 (m_spec_l1In (IntKind.i64.wrap y1) 48 57).bind fun y2 =>
 cond (!y2)
 (some (.inr (.inr (0, false))))
 ((getB s s0.2).bind fun y3 =>
 some (.inl ((w64 ((w64 (10 * s0.1)) + (IntKind.i64.wrap (IntKind.u8.wrap (y3 - 48))))), (w64 (s0.2 + 1))))))
 (some (.inr (.inl s0.1))))
 (some (.inr (.inl s0.1)))
instance (s : ByteArray) : LoopE (m_spec_ParseInt_b0 s) := ⟨fun s0 => (vs s :: (U 3 (vi s0.1 :: vi s0.2 :: (U 33 [])))), fun s0 => []⟩
def m_spec_ParseInt (s : ByteArray) : Option (Int × Bool) :=
 (iterF (m_spec_ParseInt_b0 s) NN (0, 0)).bind (selim (fun o0 =>
 cond (decide (1000000000 < o0))
 (some (0, false))
 ((m_spec_FormatInt o0).bind fun y4 =>
 cond (!decide (y4 = s))
 (some (0, false))
 (some (o0, true)))) (fun r => some r))
instance (s : ByteArray) : CT Tryz.prog (m_spec_ParseInt s) := ⟨22, [vs s], [], fun r => .tu [vi r.1, vb r.2], fun r => [], fun H => by replace H := H0 H; unfold m_spec_ParseInt at H; exact callM_of Tryz.func22 rfl Tryz.ntmps22 Tryz.results22 fun Q hQ hQn => wk3⟩
set_option linter.unusedSimpArgs false
theorem u8_wrap {y : Int} (h : 0 ≤ y ∧ y ≤ 255) : IntKind.u8.wrap y = y := by
  simp only [IntKind.wrap, IntKind.bits, IntKind.signed, Bool.false_and, Bool.false_eq_true, if_false]
  omega
theorem parse_le : ∀ (l : List UInt8) (acc u : Nat), Lib.parseUint10 acc l = .ok u → acc ≤ u
  | [], acc, u, h => by
    simp only [Lib.parseUint10] at h
    injection h with h; omega
  | c :: r, acc, u, h => by
    simp only [Lib.parseUint10] at h
    split at h
    · split at h
      · cases h
      · split at h
        · cases h
        · have := parse_le r _ u h; omega
    · cases h
theorem dec_len : ∀ (k u : Nat), u < 10 ^ (k + 1) → (Lib.decDigits u).length ≤ k + 1
  | k, u, h => by
    rw [Lib.decDigits]
    split
    · simp
    · rename_i hu
      match k, h with
      | 0, h => omega
      | k + 1, h =>
        have := dec_len k (u / 10) (by rw [Nat.pow_succ] at h; omega)
        simp; omega
theorem pint_loop {L : List UInt8} (hL : L.length ≤ 10) {u : Nat} (hu : u ≤ 1000000000) : ∀ (rest pre : List UInt8) (acc N : Nat), L = pre ++ rest → Lib.parseUint10 acc rest = .ok u → rest.length < N →
    iterF (m_spec_ParseInt_b0 (txt L)) N ((acc : Int), (pre.length : Int)) = some (.inl (u : Int))
  | [], pre, acc, 0, h, hp, hN => by simp at hN
  | [], pre, acc, N + 1, h, hp, hN => by
    have hs : (txt L).size = pre.length := by rw [txt_size, h]; simp
    have d : decide ((pre.length : Int) < ((txt L).size : Int)) = false := decide_eq_false (by omega)
    simp only [Lib.parseUint10] at hp
    injection hp with hp
    subst hp
    unfold iterF m_spec_ParseInt_b0
    simp only [d, cond_false, Option.bind_some, selim]
  | x :: rest, pre, acc, 0, h, hp, hN => by simp at hN
  | x :: rest, pre, acc, N + 1, h, hp, hN => by
    have hl : L.length = pre.length + (rest.length + 1) := by rw [h]; simp
    have hs : (txt L).size = L.length := txt_size L
    have hx : L[pre.length]? = some x := by rw [h]; simp
    have hg := getB_txt hx
    have d : decide ((pre.length : Int) < ((txt L).size : Int)) = true := decide_eq_true (by omega)
    have d2 : decide ((pre.length : Int) < 11) = true := decide_eq_true (by omega)
    have hp0 := hp
    simp only [Lib.parseUint10] at hp
    split at hp
    · rename_i hd
      split at hp
      · cases hp
      · split at hp
        · cases hp
        · have hle := parse_le _ _ _ hp
          have i1 := pint_loop hL hu rest (pre ++ [x]) _ N (by rw [h]; simp) hp (by simp at hN; omega)
          have w0 : IntKind.i64.wrap (x.toNat : Int) = (x.toNat : Int) := wrap_b ⟨by omega, by omega⟩
          have w1 : IntKind.u8.wrap ((x.toNat : Int) - 48) = (x.toNat : Int) - 48 := u8_wrap ⟨by omega, by omega⟩
          have w2 : IntKind.i64.wrap ((x.toNat : Int) - 48) = (x.toNat : Int) - 48 := wrap_b ⟨by omega, by omega⟩
          have w3 : w64 (10 * (acc : Int)) = 10 * (acc : Int) := w64_in (by omega)
          have w4 : w64 (10 * (acc : Int) + ((x.toNat : Int) - 48)) = ((acc * 10 + (x.toNat - 48) : Nat) : Int) := by rw [w64_in (by omega)]; omega
          have w5 : w64 ((pre.length : Int) + 1) = ((pre ++ [x]).length : Int) := by rw [w64_in (by omega)]; simp
          have d3 : (decide ((48 : Int) ≤ (x.toNat : Int)) && decide ((x.toNat : Int) ≤ 57)) = true := by rw [decide_eq_true (by omega), decide_eq_true (by omega)]; rfl
          rw [← i1]
          conv => lhs; unfold iterF
          unfold m_spec_ParseInt_b0
          simp only [d, d2, cond_true, hg, Option.bind_some, w0, l1In_v, d3, Bool.not_true, cond_false, w1, w2, w3, w4, w5, selim]
    · cases hp
theorem pint_itoa {n : Int} (h0 : 0 ≤ n) (h1 : n ≤ 1000000000) : m_spec_ParseInt (txt (Lib.itoa n)) = some (n, true) := by
  obtain ⟨u, rfl⟩ := Int.eq_ofNat_of_zero_le h0
  have hp := parse_dec u u (Nat.le_refl _) (by omega)
  have hl := dec_len 9 u (by omega)
  have hu : u ≤ 1000000000 := by omega
  unfold m_spec_ParseInt
  rw [itoaN]
  have i1 := pint_loop (L := Lib.decDigits u) hl hu (Lib.decDigits u) [] 0 NN rfl hp (by unfold NN; omega)
  have i2 : iterF (m_spec_ParseInt_b0 (txt (Lib.decDigits u))) NN (0, 0) = some (.inl (u : Int)) := i1
  rw [i2]
  have d : decide ((1000000000 : Int) < (u : Int)) = false := decide_eq_false (by omega)
  simp only [Option.bind_some, selim, d, cond_false, fS (n := (u : Int)) ⟨by omega, by omega⟩, itoaN, decide_true, Bool.not_true]
theorem pint_tot {s : ByteArray} (hs : s.size ≤ 100000000) : ∃ r : Int × Bool, m_spec_ParseInt s = some r ∧ in64 r.1 := by
  have ht : ∃ o, iterF (m_spec_ParseInt_b0 s) NN (0, 0) = some o ∧ (∀ a, o = .inl a → in64 a) ∧ ∀ r, o = .inr r → in64 r.1 := by
    have key : ∀ (k i : Nat) (acc : Int) (N : Nat), i + k = s.size → k < N → in64 acc → ∃ o, iterF (m_spec_ParseInt_b0 s) N (acc, (i : Int)) = some o ∧ (∀ a, o = .inl a → in64 a) ∧ ∀ r, o = .inr r → in64 r.1 := by
      intro k
      induction k with
      | zero =>
        intro i acc N hi hN ha
        obtain ⟨N, rfl⟩ : ∃ M, N = M + 1 := ⟨N - 1, by omega⟩
        have d : decide ((i : Int) < (s.size : Int)) = false := decide_eq_false (by omega)
        refine ⟨.inl acc, ?_, (fun a h => by injection h with h; subst h; exact ha), (fun r h => by cases h)⟩
        unfold iterF m_spec_ParseInt_b0
        simp only [d, cond_false, Option.bind_some, selim]
      | succ k ih =>
        intro i acc N hi hN ha
        obtain ⟨N, rfl⟩ : ∃ M, N = M + 1 := ⟨N - 1, by omega⟩
        have d : decide ((i : Int) < (s.size : Int)) = true := decide_eq_true (by omega)
        show ∃ o, (m_spec_ParseInt_b0 s (acc, (i : Int))).bind (selim (iterF (m_spec_ParseInt_b0 s) N) some) = some o ∧ _
        by_cases d2 : (i : Int) < 11
        · have hg : getB s (i : Int) = some (byteAt s i) := by unfold getB; rw [if_pos ⟨by omega, by omega⟩]; rfl
          have w5 : w64 ((i : Int) + 1) = ((i + 1 : Nat) : Int) := by rw [w64_in (by omega)]; omega
          have hb : m_spec_ParseInt_b0 s (acc, (i : Int)) = cond (decide ((48 : Int) ≤ IntKind.i64.wrap (byteAt s i)) && decide (IntKind.i64.wrap (byteAt s i) ≤ 57)) (some (.inl (w64 (w64 (10 * acc) + IntKind.i64.wrap (IntKind.u8.wrap (byteAt s i - 48))), ((i + 1 : Nat) : Int)))) (some (.inr (.inr (0, false)))) := by
            unfold m_spec_ParseInt_b0
            simp only [d, decide_eq_true d2, cond_true, hg, Option.bind_some, l1In_v, w5]
            cases (decide ((48 : Int) ≤ IntKind.i64.wrap (byteAt s i)) && decide (IntKind.i64.wrap (byteAt s i) ≤ 57)) <;> rfl
          rw [hb]
          cases (decide ((48 : Int) ≤ IntKind.i64.wrap (byteAt s i)) && decide (IntKind.i64.wrap (byteAt s i) ≤ 57)) with
          | false => exact ⟨.inr (0, false), rfl, (fun a h => by cases h), (fun r h => by injection h with h; subst h; exact ⟨by omega, by omega⟩)⟩
          | true => exact ih (i + 1) (w64 (w64 (10 * acc) + IntKind.i64.wrap (IntKind.u8.wrap (byteAt s i - 48)))) N (by omega) (by omega) (w64_in64 _)
        · have hb : m_spec_ParseInt_b0 s (acc, (i : Int)) = some (.inr (.inl acc)) := by
            unfold m_spec_ParseInt_b0
            simp only [d, decide_eq_false d2, cond_true, cond_false]
          rw [hb]
          exact ⟨.inl acc, rfl, (fun a h => by injection h with h; subst h; exact ha), (fun r h => by cases h)⟩
    exact key s.size 0 0 NN (by omega) (by unfold NN; omega) ⟨by omega, by omega⟩
  obtain ⟨o, ho, hA, hB⟩ := ht
  unfold m_spec_ParseInt
  rw [ho]
  cases o with
  | inr r => exact ⟨r, rfl, hB r rfl⟩
  | inl a =>
    have ha := hA a rfl
    have z : in64 0 := ⟨by omega, by omega⟩
    simp only [Option.bind_some, selim, fS ha]
    by_cases h1 : (1000000000 : Int) < a
    · exact ⟨_, by rw [decide_eq_true h1]; rfl, z⟩
    · rw [decide_eq_false h1, cond_false]
      cases decide (txt (Lib.itoa a) = s) with
      | true => exact ⟨_, rfl, ha⟩
      | false => exact ⟨_, rfl, z⟩
def m_spec_ParseLabel_b0 (s : ByteArray) (y1 : Int) (s0 : Int × Int) : Option ((Int × Int) ⊕ Int) :=
 cond (decide (s0.1 < 10))
 ((getB s s0.1).bind fun y2 =>
 some (.inl ((w64 (s0.1 + 1)), (w64 ((w64 ((w64 (10 * s0.2)) + (IntKind.i64.wrap y2))) - 48)))))
 (some (.inr s0.2))
instance (s : ByteArray) (y1 : Int) : LoopE (m_spec_ParseLabel_b0 s y1) := ⟨fun s0 => (vs s :: .un :: .be 0 0 0 :: .un :: .be 1 0 0 :: vi s0.1 :: (U 31 [])), fun s0 => [some ⟨.of 23, 3, [[vi 0, vi 0, vs (⟨#[]⟩)]]⟩, some ⟨.of 23, 3, [[vi (w64 ((IntKind.i64.wrap y1) - 48)), vi s0.2, vs (subS s 10 13)]]⟩]⟩
def m_spec_ParseLabel (s : ByteArray) : Option (YLabel × Bool) :=
 cond (!decide ((s.size : Int) = 15))
 (some ((⟨0, 0, ⟨#[]⟩⟩ : YLabel), false))
 ((getB s 0).bind fun y1 =>
 (chk (slOk 10 13 s.size)).bind fun _ =>
 (iterF (m_spec_ParseLabel_b0 s y1) NN (1, 0)).bind (fun o0 =>
 (m_spec_FormatLabel (⟨(w64 ((IntKind.i64.wrap y1) - 48)), o0, (subS s 10 13)⟩ : YLabel)).bind fun y3 =>
 cond (!decide (y3 = s))
 (some ((⟨0, 0, ⟨#[]⟩⟩ : YLabel), false))
 (some ((⟨(w64 ((IntKind.i64.wrap y1) - 48)), o0, (subS s 10 13)⟩ : YLabel), true))))
instance (s : ByteArray) : CT Tryz.prog (m_spec_ParseLabel s) := ⟨48, [vs s], [], fun r => .tu [.ag [vi r.1.service, vi r.1.serial, vs r.1.to_], vb r.2], fun r => [], fun H => by replace H := H0 H; unfold m_spec_ParseLabel at H; exact callM_of Tryz.func48 rfl Tryz.ntmps48 Tryz.results48 fun Q hQ hQn => wk3⟩
end Go.Proofs.YtkfbakhnpfmfmaaGreatDoor
namespace Go.Proofs.YtkfbakhnpfmfmaaGreatDoor
set_option maxRecDepth 10000
open Go.RowKit Go.Sort
set_option linter.unusedVariables false
set_option linter.unusedSimpArgs false
set_option maxHeartbeats 1000000
theorem mod97_rng {s : ByteArray} {m : Int} (hs : s.size < NN) (h : m_spec_Mod97 s = some m) : -1 ≤ m ∧ m ≤ 96 := by
  have key : ∀ (k N i : Nat) (a : Int), i + k = s.size → k < N → 0 ≤ a ∧ a ≤ 96 → ∃ o, iterF (m_spec_Mod97_b0 s) N (a, (i : Int)) = some o ∧ (∀ x, o = .inl x → 0 ≤ x ∧ x ≤ 96) ∧ ∀ x, o = .inr x → x = -1 := by
    intro k
    induction k with
    | zero =>
      intro N i a hi hN ha
      obtain ⟨N, rfl⟩ : ∃ M, N = M + 1 := ⟨N - 1, by omega⟩
      refine ⟨.inl a, ?_, fun x e => by cases e; exact ha, fun x e => by cases e⟩
      unfold iterF m_spec_Mod97_b0
      simp only [decide_eq_false (show ¬ (i : Int) < (s.size : Int) by omega), cond_false, Option.bind_some, selim]
    | succ k ih =>
      intro N i a hi hN ha
      obtain ⟨N, rfl⟩ : ∃ M, N = M + 1 := ⟨N - 1, by omega⟩
      obtain ⟨y, hy⟩ := getB_some (s := s) (i := i) (by omega)
      have hw := getB_in hy
      have hb : m_spec_Mod97_b0 s (a, (i : Int)) = if 48 ≤ y ∧ y ≤ 57 then some (.inl (Int.tmod (10 * a + (y - 48)) 97, ((i + 1 : Nat) : Int))) else some (.inr (.inr (-1))) := by
        unfold m_spec_Mod97_b0
        simp only [decide_eq_true (show (i : Int) < (s.size : Int) by omega), cond_true, hy, Option.bind_some, wrap_b hw, l1In_v]
        by_cases hd : 48 ≤ y ∧ y ≤ 57
        · rw [if_pos hd]
          simp only [decide_eq_true hd.1, decide_eq_true hd.2, Bool.and_true, Bool.not_true, cond_false]
          rw [u8_wrap (y := y - 48) ⟨by omega, by omega⟩, wrap_b (y := y - 48) ⟨by omega, by omega⟩, w64_in (n := 10 * a) (by omega), w64_in (n := 10 * a + (y - 48)) (by omega), w64_nat (i := i) (n := s.size) (by omega) (by unfold NN at hs; omega)]
        · have e : (decide (48 ≤ y) && decide (y ≤ 57)) = false := by
            rw [Bool.and_eq_false_iff, decide_eq_false_iff_not, decide_eq_false_iff_not]; omega
          rw [if_neg hd, e]; rfl
      show ∃ o, (m_spec_Mod97_b0 s (a, (i : Int))).bind (selim (iterF (m_spec_Mod97_b0 s) N) some) = some o ∧ _
      rw [hb]
      by_cases hd : 48 ≤ y ∧ y ≤ 57
      · rw [if_pos hd]
        have t1 := Int.tmod_nonneg (a := 10 * a + (y - 48)) 97 (by omega)
        have t2 := Int.tmod_lt_of_pos (10 * a + (y - 48)) (b := 97) (by omega)
        exact ih N (i + 1) _ (by omega) (by omega) ⟨t1, by omega⟩
      · rw [if_neg hd]
        exact ⟨_, rfl, (fun x e => by cases e), (fun x e => by cases e; rfl)⟩
  obtain ⟨o, h1, h2, h3⟩ := key s.size NN 0 0 (by omega) hs ⟨by omega, by omega⟩
  unfold m_spec_Mod97 at h
  have h1' : iterF (m_spec_Mod97_b0 s) NN (0, 0) = some o := h1
  rw [h1'] at h
  cases o with
  | inl x =>
    have := h2 x rfl
    simp only [Option.bind_some, selim] at h
    cases hd : decide (s = ⟨#[]⟩) <;> rw [hd] at h <;> simp only [cond_true, cond_false] at h <;> injection h with h <;> omega
  | inr x =>
    have := h3 x rfl
    simp only [Option.bind_some, selim] at h
    injection h with h
    omega
theorem check_rng {l : YLabel} {n : Int} (h1 : in64 l.service) (h2 : in64 l.serial) (h : m_spec_IsLabel l = some true) (hc : m_spec_CheckOf l = some n) : 0 ≤ n ∧ n ≤ 99 := by
  obtain ⟨hs, hd⟩ := isLabel_t h
  obtain ⟨b1, b2⟩ := body_both h1 h2 (by omega)
  have hl := bodyL_len h1 h2 (by omega)
  obtain ⟨a, ha, hal⟩ := dgts_isDL hd
  have happ := dgts_app ha (show dgts [48, 48] = some [48, 48] from rfl)
  have c2 : chk (strOk (txt (bodyL l)) (txt [48, 48])) = some () := sOk (by rw [txt_size]; omega) (by rw [txt_size]; simp)
  have hz : (txt (a ++ [48, 48])).size < NN := by rw [txt_size, List.length_append]; unfold NN; simp; omega
  obtain ⟨m, hm⟩ := mod97_tot hz
  have hr := mod97_rng hz hm
  unfold m_spec_CheckOf at hc
  have d1 := digits_spec (l := bodyL l ++ [48, 48]) (by rw [List.length_append]; simp; omega)
  rw [happ] at d1
  simp only [Option.getD_some, Option.isSome_some] at d1
  simp only [h, b2, d1, Option.bind_some, Bool.not_true, cond_false, show (⟨#[48, 48]⟩ : ByteArray) = txt [48, 48] from rfl, c2, txt_app, hm] at hc
  injection hc with hc
  rw [w64_in (by omega)] at hc
  omega
def labT (l : YLabel) (n : Int) : List UInt8 := bodyL l ++ padL n 2
theorem label_rng {l : YLabel} (h : m_spec_IsLabel l = some true) : (1 ≤ l.service ∧ l.service ≤ 3) ∧ (0 ≤ l.serial ∧ l.serial ≤ 999999999) := by
  unfold m_spec_IsLabel at h
  simp only [l1In_v, Option.bind_some] at h
  cases h1 : (decide (1 ≤ l.service) && decide (l.service ≤ 3)) with
  | false => rw [h1] at h; cases h
  | true =>
    cases h2 : (decide (0 ≤ l.serial) && decide (l.serial ≤ 999999999)) with
    | false => rw [h1, h2] at h; cases h
    | true => simpa only [Bool.and_eq_true, decide_eq_true_eq] using And.intro h1 h2
theorem label_txt {l : YLabel} (h3 : l.to_.size ≤ B60) (h : m_spec_IsLabel l = some true) : ∃ n, 0 ≤ n ∧ n ≤ 99 ∧ m_impl_FormatLabel l = some (txt (labT l n)) ∧ m_spec_FormatLabel l = some (txt (labT l n)) := by
  obtain ⟨r1, r2⟩ := label_rng h
  have h1 : in64 l.service := ⟨by omega, by omega⟩
  have h2 : in64 l.serial := ⟨by omega, by omega⟩
  obtain ⟨e, v, hv⟩ := label_eq h3
  obtain rfl : true = v := Option.some.inj (h.symm.trans hv)
  have hi := e.trans h
  obtain ⟨hs, hd⟩ := isLabel_t h
  obtain ⟨b1, b2⟩ := body_both h1 h2 (by omega)
  have hl := bodyL_len h1 h2 (by omega)
  obtain ⟨n, hn, c1, c2⟩ := check_both h1 h2 h hi
  obtain ⟨n0, n1⟩ := check_rng h1 h2 h c2
  have p1 := padded_im (d := 2) hn (by omega)
  have p2 := padded_spec (d := 2) hn (by omega)
  have pl := padL_len (d := 2) hn (by omega)
  rw [show ((2 : Nat) : Int) = 2 from rfl] at p1 p2
  have c3 : chk (strOk (txt (bodyL l)) (txt (padL n 2))) = some () := sOk (by rw [txt_size]; omega) (by rw [txt_size]; omega)
  refine ⟨n, n0, n1, ?_, ?_⟩
  · unfold m_impl_FormatLabel; simp only [hi, b1, c1, p1, c3, Option.bind_some, Bool.not_true, cond_false, txt_app]; rfl
  · unfold m_spec_FormatLabel; simp only [h, b2, c2, p2, c3, Option.bind_some, Bool.not_true, cond_false, txt_app]; rfl
theorem labT_dl {l : YLabel} {n : Int} (h : m_spec_IsLabel l = some true) (hn : 0 ≤ n) : ∀ c ∈ labT l n, isDL c := fun c hc => by
  rcases List.mem_append.1 hc with h1 | h1
  · exact (isLabel_t h).2 c h1
  · exact padL_isd hn c h1
theorem itoa1 {n : Int} (h0 : 0 ≤ n) (h1 : n ≤ 9) : Lib.itoa n = [UInt8.ofNat (48 + n.toNat)] := by
  obtain ⟨u, rfl⟩ := Int.eq_ofNat_of_zero_le h0
  rw [itoaN, Lib.decDigits, dif_pos (by omega)]; rfl
theorem pad_len {n : Int} {k : Nat} (h0 : 0 ≤ n) (h1 : n.toNat < 10 ^ (k + 1)) : (padL n (k + 1)).length = k + 1 := by
  obtain ⟨u, rfl⟩ := Int.eq_ofNat_of_zero_le h0
  have := dec_len k u (by simpa using h1)
  unfold padL
  rw [itoaN]
  simp
  omega
theorem parse_z (l : List UInt8) : ∀ k, Lib.parseUint10 0 (List.replicate k 48 ++ l) = Lib.parseUint10 0 l
  | 0 => rfl
  | k + 1 => by rw [List.replicate_succ, List.cons_append, Lib.parseUint10]; simpa using parse_z l k
theorem parse_pad {n : Int} {d : Nat} (h0 : 0 ≤ n) (h1 : n ≤ 1000000000000) : Lib.parseUint10 0 (padL n d) = .ok n.toNat := by
  obtain ⟨u, rfl⟩ := Int.eq_ofNat_of_zero_le h0
  unfold padL
  rw [parse_z, itoaN]
  exact parse_dec u u (Nat.le_refl _) (by omega)
theorem pad_dig {n : Int} {d : Nat} (h : 0 ≤ n) : ∀ c ∈ padL n d, 48 ≤ c.toNat ∧ c.toNat ≤ 57 := by
  intro c hc
  rcases List.mem_append.1 hc with h1 | h1
  · rw [List.eq_of_mem_replicate h1]; decide
  · exact itoa_dig h c h1
theorem atoi_of {l : List UInt8} {u : Nat} (hne : l ≠ []) (hd : ∀ c ∈ l, 48 ≤ c.toNat ∧ c.toNat ≤ 57) (hp : Lib.parseUint10 0 l = .ok u) (hu : u ≤ 1000000000000) : Lib.atoiAll l = .ok u := by
  cases l with
  | nil => exact absurd rfl hne
  | cons c r =>
    have := hd c List.mem_cons_self
    have e1 : ¬ c.toNat = 43 := by omega
    have e2 : ¬ c.toNat = 45 := by omega
    have e3 : ¬ (9223372036854775808 : Nat) ≤ u := by omega
    unfold Lib.atoiAll Lib.parseMag
    simp [e1, e2, hp, e3]
theorem ext_at {a b c : List UInt8} {i j : Nat} (hi : a.length = i) (hj : j = i + b.length) : (txt (a ++ b ++ c)).extract i j = txt b := subS_at hi hj
theorem plab_loop {L : List UInt8} {y1 : Int} {u : Nat} (hu : u ≤ 1000000000) : ∀ (rest : List UInt8) (k acc N : Nat), k + rest.length = 10 → (∀ i c, rest[i]? = some c → L[k + i]? = some c) → Lib.parseUint10 acc rest = .ok u → rest.length < N →
    iterF (m_spec_ParseLabel_b0 (txt L) y1) N ((k : Int), (acc : Int)) = some (u : Int)
  | [], k, acc, 0, _, _, _, hN => by simp at hN
  | [], k, acc, N + 1, hk, hL, hp, hN => by
    simp only [Lib.parseUint10] at hp
    injection hp with hp
    subst hp
    unfold iterF m_spec_ParseLabel_b0
    simp only [decide_eq_false (show ¬ (k : Int) < 10 by simp at hk; omega), cond_false, Option.bind_some, selim]
  | x :: rest, k, acc, 0, _, _, _, hN => by simp at hN
  | x :: rest, k, acc, N + 1, hk, hL, hp, hN => by
    have hg := getB_txt (hL 0 x rfl)
    simp only [Nat.add_zero] at hg
    simp only [List.length_cons] at hk hN
    simp only [Lib.parseUint10] at hp
    split at hp
    · rename_i hd
      split at hp
      · cases hp
      · split at hp
        · cases hp
        · have hle := parse_le _ _ _ hp
          have i1 := plab_loop (y1 := y1) hu rest (k + 1) _ N (by omega) (fun i c h => by have := hL (i + 1) c h; rwa [show k + 1 + i = k + (i + 1) by omega]) hp (by omega)
          rw [← i1]
          conv => lhs; unfold iterF
          unfold m_spec_ParseLabel_b0
          simp only [decide_eq_true (show (k : Int) < 10 by omega), cond_true, hg, Option.bind_some, selim]
          rw [wrap_b (y := (x.toNat : Int)) ⟨by omega, by omega⟩, w64_in (n := (k : Int) + 1) (by omega), w64_in (n := 10 * (acc : Int)) (by omega), w64_in (n := 10 * (acc : Int) + (x.toNat : Int)) (by omega), w64_in (by omega)]
          congr 2
          omega
    · cases hp
theorem label_rt {l : YLabel} (h3 : l.to_.size ≤ B60) (h : m_spec_IsLabel l = some true) {n : Int} (n0 : 0 ≤ n) (n1 : n ≤ 99) (f1 : m_impl_FormatLabel l = some (txt (labT l n))) (f2 : m_spec_FormatLabel l = some (txt (labT l n))) :
    m_impl_ParseLabel (txt (labT l n)) = some (l, true) ∧ m_spec_ParseLabel (txt (labT l n)) = some (l, true) := by
  obtain ⟨r1, r2⟩ := label_rng h
  obtain ⟨hs, _⟩ := isLabel_t h
  have hl3 : l.to_.data.toList.length = 3 := by rw [Array.length_toList]; exact hs
  have e1 := itoa1 (n := l.service) (by omega) (by omega)
  have e9 : (padL l.serial 9).length = 9 := pad_len (n := l.serial) (k := 8) (by omega) (by omega)
  have e2 : (padL n 2).length = 2 := pad_len (n := n) (k := 1) n0 (by omega)
  have hT : labT l n = [UInt8.ofNat (48 + l.service.toNat)] ++ padL l.serial 9 ++ l.to_.data.toList ++ padL n 2 := by unfold labT bodyL; rw [e1]
  have hsz : (txt (labT l n)).size = 15 := by rw [txt_size, hT]; simp only [List.length_append, List.length_cons, List.length_nil]; omega
  have x1 : (txt (labT l n)).extract 0 1 = txt [UInt8.ofNat (48 + l.service.toNat)] := by
    rw [hT]; have := ext_at (a := []) (b := [UInt8.ofNat (48 + l.service.toNat)]) (c := padL l.serial 9 ++ l.to_.data.toList ++ padL n 2) (i := 0) (j := 1) rfl rfl
    simpa only [List.nil_append, List.append_assoc] using this
  have x2 : (txt (labT l n)).extract 1 10 = txt (padL l.serial 9) := by
    rw [hT]; have := ext_at (a := [UInt8.ofNat (48 + l.service.toNat)]) (b := padL l.serial 9) (c := l.to_.data.toList ++ padL n 2) (i := 1) (j := 10) rfl (by omega)
    simpa only [List.append_assoc] using this
  have x3 : (txt (labT l n)).extract 10 13 = l.to_ := by
    rw [hT]; have := ext_at (a := [UInt8.ofNat (48 + l.service.toNat)] ++ padL l.serial 9) (b := l.to_.data.toList) (c := padL n 2) (i := 10) (j := 13) (by simp; omega) (by omega)
    rwa [txt_data] at this
  have s1 : ((48 + l.service.toNat : Nat) : Int) = 48 + l.service := by omega
  have u1 : (UInt8.ofNat (48 + l.service.toNat)).toNat = 48 + l.service.toNat := by rw [UInt8.toNat_ofNat']; omega
  constructor
  · have a1 : Lib.atoiAll (txt [UInt8.ofNat (48 + l.service.toNat)]).data.toList = .ok l.service := by rw [txt_l, ← e1]; exact atoi_itoa (by omega) (by omega)
    have a2 : Lib.atoiAll (txt (padL l.serial 9)).data.toList = .ok l.serial := by
      rw [txt_l, atoi_of (u := l.serial.toNat) (fun e => by rw [e] at e9; cases e9) (pad_dig (by omega)) (parse_pad (by omega) (by omega)) (by omega)]
      congr 1; omega
    unfold m_impl_ParseLabel
    rw [if_pos (by omega), if_pos hsz, x1, x2, x3]
    simp only [a1, a2]
    rw [show (⟨l.service, l.serial, l.to_⟩ : YLabel) = l from rfl, f1]
    simp
  · have g0 : getB (txt (labT l n)) 0 = some ((UInt8.ofNat (48 + l.service.toNat)).toNat : Int) := getB_txt (l := labT l n) (i := 0) (by rw [hT]; rfl)
    have i1 := plab_loop (L := labT l n) (y1 := ((UInt8.ofNat (48 + l.service.toNat)).toNat : Int)) (u := l.serial.toNat) (by omega) (padL l.serial 9) 1 0 NN (by omega) (fun i c hc => by
      have hi := (List.getElem?_eq_some_iff.1 hc).1
      rw [hT]
      simp only [List.cons_append, List.nil_append, Nat.add_comm 1, List.getElem?_cons_succ]
      rw [List.append_assoc, List.getElem?_append_left hi, hc]) (parse_pad (by omega) (by omega)) (by unfold NN; omega)
    have i2 : iterF (m_spec_ParseLabel_b0 (txt (labT l n)) ((UInt8.ofNat (48 + l.service.toNat)).toNat : Int)) NN (1, 0) = some (l.serial.toNat : Int) := i1
    unfold m_spec_ParseLabel
    have x3' : subS (txt (labT l n)) 10 13 = l.to_ := x3
    have hsl : chk (slOk 10 13 ((txt (labT l n)).size : Int)) = some () := chk_t (decide_eq_true ⟨by omega, by omega, by omega⟩)
    have w0 : w64 (IntKind.i64.wrap ((UInt8.ofNat (48 + l.service.toNat)).toNat : Int) - 48) = l.service := by
      rw [u1, wrap_b ⟨by omega, by omega⟩, w64_in (by omega)]; omega
    have w1 : ((l.serial.toNat : Nat) : Int) = l.serial := by omega
    rw [hsz] at hsl
    simp only [hsz, g0, hsl, i2, x3', w0, w1, f2, Option.bind_some, decide_true, Bool.not_true, cond_false, show decide (((15 : Nat) : Int) = 15) = true from rfl]
theorem noLab : in64 noLabel.service ∧ in64 noLabel.serial ∧ noLabel.to_.size ≤ 15 := ⟨by decide, by decide, by decide⟩
theorem label_toti {s : ByteArray} (hs : s.size ≤ 100000000) : ∃ r : YLabel × Bool, m_impl_ParseLabel s = some r ∧ in64 r.1.service ∧ in64 r.1.serial ∧ r.1.to_.size ≤ 15 := by
  unfold m_impl_ParseLabel
  rw [if_pos hs]
  by_cases h15 : s.size = 15
  · rw [if_pos h15]
    have hx := ext_sz (i := 10) (j := 13) h15
    cases h1 : Lib.atoiAll (s.extract 0 1).data.toList with
    | ok a =>
      cases h2 : Lib.atoiAll (s.extract 1 10).data.toList with
      | ok b =>
        obtain ⟨x, hx2, f1, f2⟩ := label_both (l := ⟨a, b, s.extract 10 13⟩) (atoi_in h1) (atoi_in h2) (by unfold B60; simp only; omega)
        simp only [f1, Option.bind_some]
        by_cases he : txt x = s
        · rw [if_pos he]; exact ⟨_, rfl, atoi_in h1, atoi_in h2, hx⟩
        · rw [if_neg he]; exact ⟨_, rfl, noLab⟩
      | _ => exact ⟨_, rfl, noLab⟩
    | _ => exact ⟨_, rfl, noLab⟩
  · rw [if_neg h15]; exact ⟨_, rfl, noLab⟩
theorem label_tots {s : ByteArray} (hs : s.size ≤ 100000000) : ∃ r : YLabel × Bool, m_spec_ParseLabel s = some r ∧ in64 r.1.service ∧ in64 r.1.serial ∧ r.1.to_.size ≤ 15 := by
  unfold m_spec_ParseLabel
  by_cases h15 : s.size = 15
  · have hx := ext_sz (i := 10) (j := 13) h15
    obtain ⟨y, hy⟩ := getB_some (s := s) (i := 0) (by omega)
    have hsl : chk (slOk 10 13 (s.size : Int)) = some () := chk_t (decide_eq_true ⟨by omega, by omega, by omega⟩)
    have ht : ∀ (k i N : Nat) (a : Int), i + k = 10 → k < N → in64 a → ∃ o, iterF (m_spec_ParseLabel_b0 s y) N ((i : Int), a) = some o ∧ in64 o := by
      intro k
      induction k with
      | zero =>
        intro i N a hi hN ha
        obtain ⟨N, rfl⟩ : ∃ M, N = M + 1 := ⟨N - 1, by omega⟩
        refine ⟨a, ?_, ha⟩
        unfold iterF m_spec_ParseLabel_b0
        simp only [decide_eq_false (show ¬ (i : Int) < 10 by omega), cond_false, Option.bind_some, selim]
      | succ k ih =>
        intro i N a hi hN ha
        obtain ⟨N, rfl⟩ : ∃ M, N = M + 1 := ⟨N - 1, by omega⟩
        obtain ⟨z, hz⟩ := getB_some (s := s) (i := i) (by omega)
        show ∃ o, (m_spec_ParseLabel_b0 s y ((i : Int), a)).bind (selim (iterF (m_spec_ParseLabel_b0 s y) N) some) = some o ∧ _
        unfold m_spec_ParseLabel_b0
        simp only [decide_eq_true (show (i : Int) < 10 by omega), cond_true, hz, Option.bind_some, selim]
        rw [w64_nat (i := i) (n := 10) (by omega) (by omega)]
        exact ih (i + 1) N _ (by omega) (by omega) (w64_in64 _)
    obtain ⟨o, ho, ho2⟩ := ht 9 1 NN 0 rfl (by unfold NN; omega) ⟨by omega, by omega⟩
    have ho' : iterF (m_spec_ParseLabel_b0 s y) NN (1, 0) = some o := ho
    obtain ⟨x, hx2, f1, f2⟩ := label_both (l := ⟨w64 (IntKind.i64.wrap y - 48), o, subS s 10 13⟩) (w64_in64 _) ho2 (by unfold B60; show (s.extract 10 13).size ≤ _; omega)
    have hy' : getB s 0 = some y := hy
    simp only [h15, hy', hsl, ho', f2, Option.bind_some, decide_true, Bool.not_true, cond_false, show decide (((15 : Nat) : Int) = 15) = true from rfl]
    cases hd : decide (txt x = s) with
    | true => exact ⟨_, rfl, w64_in64 _, ho2, hx⟩
    | false => exact ⟨_, rfl, noLab⟩
  · have hd : decide ((s.size : Int) = 15) = false := decide_eq_false (by omega)
    simp only [hd, Bool.not_false, cond_true]
    exact ⟨_, rfl, noLab⟩
end Go.Proofs.YtkfbakhnpfmfmaaGreatDoor
namespace Go.Proofs.YtkfbakhnpfmfmaaGreatDoor
set_option maxRecDepth 10000
open Go.RowKit
set_option linter.unusedVariables false
set_option maxHeartbeats 16000000
def m_impl_FormatParcel (p : YParcel) : Option ByteArray :=
 (m_impl_IsParcel p).bind fun y1 =>
 cond (!y1)
 (some (⟨#[]⟩))
 ((getI p.sides 0).bind fun y2 =>
 (m_impl_FormatInt y2).bind fun y3 =>
 (chk (strOk y3 (⟨#[120]⟩))).bind fun _ =>
 (getI p.sides 1).bind fun y4 =>
 (m_impl_FormatInt y4).bind fun y5 =>
 (chk (strOk (y3 ++ ⟨#[120]⟩) y5)).bind fun _ =>
 (chk (strOk ((y3 ++ ⟨#[120]⟩) ++ y5) (⟨#[120]⟩))).bind fun _ =>
 (getI p.sides 2).bind fun y6 =>
 (m_impl_FormatInt y6).bind fun y7 =>
 (chk (strOk (((y3 ++ ⟨#[120]⟩) ++ y5) ++ ⟨#[120]⟩) y7)).bind fun _ =>
 (m_impl_FormatLabel p.label).bind fun y8 =>
 (chk (strOk y8 (⟨#[32]⟩))).bind fun _ =>
 (chk (strOk (y8 ++ ⟨#[32]⟩) p.from_)).bind fun _ =>
 (chk (strOk ((y8 ++ ⟨#[32]⟩) ++ p.from_) (⟨#[32]⟩))).bind fun _ =>
 (m_impl_FormatInt p.weight).bind fun y9 =>
 (chk (strOk (((y8 ++ ⟨#[32]⟩) ++ p.from_) ++ ⟨#[32]⟩) y9)).bind fun _ =>
 (chk (strOk ((((y8 ++ ⟨#[32]⟩) ++ p.from_) ++ ⟨#[32]⟩) ++ y9) (⟨#[32]⟩))).bind fun _ =>
 (chk (strOk (((((y8 ++ ⟨#[32]⟩) ++ p.from_) ++ ⟨#[32]⟩) ++ y9) ++ ⟨#[32]⟩) ((((y3 ++ ⟨#[120]⟩) ++ y5) ++ ⟨#[120]⟩) ++ y7))).bind fun _ =>
 (chk (strOk ((((((y8 ++ ⟨#[32]⟩) ++ p.from_) ++ ⟨#[32]⟩) ++ y9) ++ ⟨#[32]⟩) ++ ((((y3 ++ ⟨#[120]⟩) ++ y5) ++ ⟨#[120]⟩) ++ y7)) (⟨#[32]⟩))).bind fun _ =>
 (m_impl_FormatInt p.value).bind fun y10 =>
 (chk (strOk (((((((y8 ++ ⟨#[32]⟩) ++ p.from_) ++ ⟨#[32]⟩) ++ y9) ++ ⟨#[32]⟩) ++ ((((y3 ++ ⟨#[120]⟩) ++ y5) ++ ⟨#[120]⟩) ++ y7)) ++ ⟨#[32]⟩) y10)).bind fun _ =>
 some ((((((((y8 ++ ⟨#[32]⟩) ++ p.from_) ++ ⟨#[32]⟩) ++ y9) ++ ⟨#[32]⟩) ++ ((((y3 ++ ⟨#[120]⟩) ++ y5) ++ ⟨#[120]⟩) ++ y7)) ++ ⟨#[32]⟩) ++ y10))
instance (p : YParcel) : CT Tryz.prog (m_impl_FormatParcel p) := ⟨39, [.ag (cParcel p)], [], fun r => vs r, fun r => [], fun H => by replace H := H0 H; unfold m_impl_FormatParcel at H; exact callM_of Tryz.func39 rfl Tryz.ntmps39 Tryz.results39 fun Q hQ hQn => wk3⟩
def m_impl_tripText (t : YTrip) : Option ByteArray :=
 (m_impl_FormatInt t.leg).bind fun y1 =>
 (chk (strOk y1 (⟨#[47]⟩))).bind fun _ =>
 (m_impl_FormatInt t.day).bind fun y2 =>
 (chk (strOk (y1 ++ ⟨#[47]⟩) y2)).bind fun _ =>
 some ((y1 ++ ⟨#[47]⟩) ++ y2)
instance (t : YTrip) : CT Tryz.prog (m_impl_tripText t) := ⟨41, [.ag (cTrip t)], [], fun r => vs r, fun r => [], fun H => by replace H := H0 H; unfold m_impl_tripText at H; exact callM_of Tryz.func41 rfl Tryz.ntmps41 Tryz.results41 fun Q hQ hQn => wk3⟩
def m_impl_FormatAct (a : YAct) : Option ByteArray :=
 (m_impl_IsAct a).bind fun y1 =>
 cond (!y1)
 (some (⟨#[]⟩))
 (cond (decide (a.kind = 1))
 ((m_impl_FormatParcel a.parcel).bind fun y2 =>
 (chk (strOk (⟨#[116, 97, 107, 101, 32]⟩) y2)).bind fun _ =>
 some (⟨#[116, 97, 107, 101, 32]⟩ ++ y2))
 (cond (decide (a.kind = 2))
 ((m_impl_FormatInt a.order).bind fun y3 =>
 (chk (strOk (⟨#[112, 97, 121, 32]⟩) y3)).bind fun _ =>
 (chk (strOk (⟨#[112, 97, 121, 32]⟩ ++ y3) (⟨#[32]⟩))).bind fun _ =>
 (m_impl_FormatInt a.amount).bind fun y4 =>
 (chk (strOk ((⟨#[112, 97, 121, 32]⟩ ++ y3) ++ ⟨#[32]⟩) y4)).bind fun _ =>
 some (((⟨#[112, 97, 121, 32]⟩ ++ y3) ++ ⟨#[32]⟩) ++ y4))
 (cond (decide (a.kind = 3))
 ((m_impl_FormatInt a.until_).bind fun y5 =>
 (chk (strOk (⟨#[114, 117, 110, 32]⟩) y5)).bind fun _ =>
 some (⟨#[114, 117, 110, 32]⟩ ++ y5))
 (cond (decide (a.kind = 4))
 ((m_impl_tripText a.trip).bind fun y6 =>
 (chk (strOk (⟨#[115, 104, 117, 116, 32]⟩) y6)).bind fun _ =>
 some (⟨#[115, 104, 117, 116, 32]⟩ ++ y6))
 (cond (decide (a.kind = 5))
 (some (⟨#[114, 101, 116, 114, 121]⟩))
 ((m_impl_FormatInt a.order).bind fun y7 =>
 (chk (strOk (⟨#[114, 101, 102, 117, 110, 100, 32]⟩) y7)).bind fun _ =>
 some (⟨#[114, 101, 102, 117, 110, 100, 32]⟩ ++ y7)))))))
instance (a : YAct) : CT Tryz.prog (m_impl_FormatAct a) := ⟨18, [.ag (cAct a)], [], fun r => vs r, fun r => [], fun H => by replace H := H0 H; unfold m_impl_FormatAct at H; exact callM_of Tryz.func18 rfl Tryz.ntmps18 Tryz.results18 fun Q hQ hQn => wk3⟩
def m_spec_FormatParcel (p : YParcel) : Option ByteArray :=
 (m_spec_IsParcel p).bind fun y1 =>
 cond (!y1)
 (some (⟨#[]⟩))
 ((m_spec_FormatLabel p.label).bind fun y2 =>
 (chk (strOk y2 (⟨#[32]⟩))).bind fun _ =>
 (chk (strOk (y2 ++ ⟨#[32]⟩) p.from_)).bind fun _ =>
 (chk (strOk ((y2 ++ ⟨#[32]⟩) ++ p.from_) (⟨#[32]⟩))).bind fun _ =>
 (m_spec_FormatInt p.weight).bind fun y3 =>
 (chk (strOk (((y2 ++ ⟨#[32]⟩) ++ p.from_) ++ ⟨#[32]⟩) y3)).bind fun _ =>
 (chk (strOk ((((y2 ++ ⟨#[32]⟩) ++ p.from_) ++ ⟨#[32]⟩) ++ y3) (⟨#[32]⟩))).bind fun _ =>
 (getI p.sides 0).bind fun y4 =>
 (m_spec_FormatInt y4).bind fun y5 =>
 (chk (strOk (((((y2 ++ ⟨#[32]⟩) ++ p.from_) ++ ⟨#[32]⟩) ++ y3) ++ ⟨#[32]⟩) y5)).bind fun _ =>
 (chk (strOk ((((((y2 ++ ⟨#[32]⟩) ++ p.from_) ++ ⟨#[32]⟩) ++ y3) ++ ⟨#[32]⟩) ++ y5) (⟨#[120]⟩))).bind fun _ =>
 (getI p.sides 1).bind fun y6 =>
 (m_spec_FormatInt y6).bind fun y7 =>
 (chk (strOk (((((((y2 ++ ⟨#[32]⟩) ++ p.from_) ++ ⟨#[32]⟩) ++ y3) ++ ⟨#[32]⟩) ++ y5) ++ ⟨#[120]⟩) y7)).bind fun _ =>
 (chk (strOk ((((((((y2 ++ ⟨#[32]⟩) ++ p.from_) ++ ⟨#[32]⟩) ++ y3) ++ ⟨#[32]⟩) ++ y5) ++ ⟨#[120]⟩) ++ y7) (⟨#[120]⟩))).bind fun _ =>
 (getI p.sides 2).bind fun y8 =>
 (m_spec_FormatInt y8).bind fun y9 =>
 (chk (strOk (((((((((y2 ++ ⟨#[32]⟩) ++ p.from_) ++ ⟨#[32]⟩) ++ y3) ++ ⟨#[32]⟩) ++ y5) ++ ⟨#[120]⟩) ++ y7) ++ ⟨#[120]⟩) y9)).bind fun _ =>
 (chk (strOk ((((((((((y2 ++ ⟨#[32]⟩) ++ p.from_) ++ ⟨#[32]⟩) ++ y3) ++ ⟨#[32]⟩) ++ y5) ++ ⟨#[120]⟩) ++ y7) ++ ⟨#[120]⟩) ++ y9) (⟨#[32]⟩))).bind fun _ =>
 (m_spec_FormatInt p.value).bind fun y10 =>
 (chk (strOk (((((((((((y2 ++ ⟨#[32]⟩) ++ p.from_) ++ ⟨#[32]⟩) ++ y3) ++ ⟨#[32]⟩) ++ y5) ++ ⟨#[120]⟩) ++ y7) ++ ⟨#[120]⟩) ++ y9) ++ ⟨#[32]⟩) y10)).bind fun _ =>
 some ((((((((((((y2 ++ ⟨#[32]⟩) ++ p.from_) ++ ⟨#[32]⟩) ++ y3) ++ ⟨#[32]⟩) ++ y5) ++ ⟨#[120]⟩) ++ y7) ++ ⟨#[120]⟩) ++ y9) ++ ⟨#[32]⟩) ++ y10))
instance (p : YParcel) : CT Tryz.prog (m_spec_FormatParcel p) := ⟨49, [.ag (cParcel p)], [], fun r => vs r, fun r => [], fun H => by replace H := H0 H; unfold m_spec_FormatParcel at H; exact callM_of Tryz.func49 rfl Tryz.ntmps49 Tryz.results49 fun Q hQ hQn => wk3⟩
def m_spec_FormatAct (a : YAct) : Option ByteArray :=
 (m_spec_IsAct a).bind fun y1 =>
 cond (!y1)
 (some (⟨#[]⟩))
 (cond (decide (a.kind = 1))
 ((m_spec_FormatParcel a.parcel).bind fun y2 =>
 (chk (strOk (⟨#[116, 97, 107, 101, 32]⟩) y2)).bind fun _ =>
 some (⟨#[116, 97, 107, 101, 32]⟩ ++ y2))
 (cond (decide (a.kind = 2))
 ((m_spec_FormatInt a.order).bind fun y3 =>
 (chk (strOk (⟨#[112, 97, 121, 32]⟩) y3)).bind fun _ =>
 (chk (strOk (⟨#[112, 97, 121, 32]⟩ ++ y3) (⟨#[32]⟩))).bind fun _ =>
 (m_spec_FormatInt a.amount).bind fun y4 =>
 (chk (strOk ((⟨#[112, 97, 121, 32]⟩ ++ y3) ++ ⟨#[32]⟩) y4)).bind fun _ =>
 some (((⟨#[112, 97, 121, 32]⟩ ++ y3) ++ ⟨#[32]⟩) ++ y4))
 (cond (decide (a.kind = 3))
 ((m_spec_FormatInt a.until_).bind fun y5 =>
 (chk (strOk (⟨#[114, 117, 110, 32]⟩) y5)).bind fun _ =>
 some (⟨#[114, 117, 110, 32]⟩ ++ y5))
 (cond (decide (a.kind = 4))
 ((m_spec_FormatInt a.trip.leg).bind fun y6 =>
 (chk (strOk (⟨#[115, 104, 117, 116, 32]⟩) y6)).bind fun _ =>
 (chk (strOk (⟨#[115, 104, 117, 116, 32]⟩ ++ y6) (⟨#[47]⟩))).bind fun _ =>
 (m_spec_FormatInt a.trip.day).bind fun y7 =>
 (chk (strOk ((⟨#[115, 104, 117, 116, 32]⟩ ++ y6) ++ ⟨#[47]⟩) y7)).bind fun _ =>
 some (((⟨#[115, 104, 117, 116, 32]⟩ ++ y6) ++ ⟨#[47]⟩) ++ y7))
 (cond (decide (a.kind = 5))
 (some (⟨#[114, 101, 116, 114, 121]⟩))
 ((m_spec_FormatInt a.order).bind fun y8 =>
 (chk (strOk (⟨#[114, 101, 102, 117, 110, 100, 32]⟩) y8)).bind fun _ =>
 some (⟨#[114, 101, 102, 117, 110, 100, 32]⟩ ++ y8)))))))
instance (a : YAct) : CT Tryz.prog (m_spec_FormatAct a) := ⟨25, [.ag (cAct a)], [], fun r => vs r, fun r => [], fun H => by replace H := H0 H; unfold m_spec_FormatAct at H; exact callM_of Tryz.func25 rfl Tryz.ntmps25 Tryz.results25 fun Q hQ hQn => wk3⟩
end Go.Proofs.YtkfbakhnpfmfmaaGreatDoor
namespace Go.Proofs.YtkfbakhnpfmfmaaGreatDoor
set_option maxRecDepth 10000
open Go.RowKit Go.Sort
set_option linter.unusedVariables false
set_option linter.unusedSimpArgs false
set_option maxHeartbeats 4000000
def ParcelI (p : YParcel) : Prop := in64 p.label.service ∧ in64 p.label.serial ∧ p.label.to_.size ≤ 2000000 ∧ p.from_.size ≤ 2000000 ∧ in64 p.weight ∧ p.sides.length ≤ 2000000 ∧ (∀ x ∈ p.sides, in64 x) ∧ in64 p.value
theorem bOk {a b : ByteArray} (ha : a.size + b.size ≤ 100000000) : chk (strOk a b) = some () := chk_t (strOk_s (by unfold B60; omega))
theorem parcel_both {p : YParcel} (h : ParcelI p) : ∃ b : List UInt8, b.length ≤ 3000000 ∧ m_impl_FormatParcel p = some (txt b) ∧ m_spec_FormatParcel p = some (txt b) := by
  obtain ⟨h1, h2, h3, h4, h5, h6, h7, h8⟩ := h
  obtain ⟨e, v, hv⟩ := parcel_eq (p := p) (by unfold B60; omega) (by unfold B60; omega) (by unfold NN; omega)
  have hi : m_impl_IsParcel p = some v := e.trans hv
  cases v with
  | false =>
    refine ⟨[], by simp, ?_, ?_⟩
    · unfold m_impl_FormatParcel; simp only [hi, Option.bind_some, Bool.not_false, cond_true]; rfl
    · unfold m_spec_FormatParcel; simp only [hv, Option.bind_some, Bool.not_false, cond_true]; rfl
  | true =>
    have h3s : threeV p.sides = true := by
      cases ht : threeV p.sides with
      | true => rfl
      | false =>
        exfalso
        revert hv
        unfold m_spec_IsParcel
        obtain ⟨_, b1, hb1⟩ := label_eq (l := p.label) (by unfold B60; omega)
        obtain ⟨_, b2, hb2⟩ := isPlace_eq (s := p.from_) (by omega)
        rw [hb1, hb2, three_v (by unfold NN; omega), ht, l1In_v]
        simp only [Option.bind_some]
        cases b1 <;> cases b2 <;> cases (!decide (p.from_ = p.label.to_)) <;> cases (decide (1 ≤ p.weight) && decide (p.weight ≤ 30000)) <;> simp
    have hl3 := three_len h3s
    obtain ⟨x, y, z, hs⟩ : ∃ x y z, p.sides = [x, y, z] := by
      match hp : p.sides, hl3 with
      | [x, y, z], _ => exact ⟨x, y, z, rfl⟩
    have i1 : in64 x := h7 x (by rw [hs]; simp)
    have i2 : in64 y := h7 y (by rw [hs]; simp)
    have i3 : in64 z := h7 z (by rw [hs]; simp)
    have l1 := itoa_len i1
    have l2 := itoa_len i2
    have l3 := itoa_len i3
    have l4 := itoa_len h5
    have l5 := itoa_len h8
    obtain ⟨b, hb, f1, f2⟩ := label_both (l := p.label) h1 h2 (by unfold B60; omega)
    have g0 : getI p.sides 0 = some x := by rw [hs]; rfl
    have g1 : getI p.sides 1 = some y := by rw [hs]; rfl
    have g2 : getI p.sides 2 = some z := by rw [hs]; rfl
    have ex : (⟨#[120]⟩ : ByteArray) = txt [120] := rfl
    have es : (⟨#[32]⟩ : ByteArray) = txt [32] := rfl
    have hfl : p.from_.data.toList.length = p.from_.size := by rw [Array.length_toList]; rfl
    have hft : p.from_ = txt p.from_.data.toList := (txt_data _).symm
    generalize p.from_.data.toList = fl at *
    refine ⟨b ++ [32] ++ fl ++ [32] ++ Lib.itoa p.weight ++ [32] ++ Lib.itoa x ++ [120] ++ Lib.itoa y ++ [120] ++ Lib.itoa z ++ [32] ++ Lib.itoa p.value, by simp only [List.length_append, List.length_cons, List.length_nil]; omega, ?_, ?_⟩
    · unfold m_impl_FormatParcel
      simp only [hi, g0, g1, g2, fI i1, fI i2, fI i3, fI h5, fI h8, f1, Option.bind_some, Bool.not_true, cond_false, ex, es, hft, txt_app]
      repeat rw [bOk (by simp only [txt_size, List.length_append, List.length_cons, List.length_nil]; omega), Option.bind_some]
      simp only [List.append_assoc]
    · unfold m_spec_FormatParcel
      simp only [hv, g0, g1, g2, fS i1, fS i2, fS i3, fS h5, fS h8, f2, Option.bind_some, Bool.not_true, cond_false, ex, es, hft, txt_app]
      repeat rw [bOk (by simp only [txt_size, List.length_append, List.length_cons, List.length_nil]; omega), Option.bind_some]
def ActI (a : YAct) : Prop := ParcelI a.parcel ∧ in64 a.order ∧ in64 a.amount ∧ in64 a.until_ ∧ in64 a.trip.leg ∧ in64 a.trip.day
theorem act_both {a : YAct} (h : ActI a) : ∃ b : ByteArray, m_impl_FormatAct a = some b ∧ m_spec_FormatAct a = some b := by
  obtain ⟨hp, h1, h2, h3, h4, h5⟩ := h
  have hp' := hp
  obtain ⟨p1, p2, p3, p4, p5, p6, p7, p8⟩ := hp'
  obtain ⟨v, hi, hv⟩ := act_eq (a := a) (by unfold B60; omega) (by unfold B60; omega) (by unfold NN; omega)
  obtain ⟨b, hb, f1, f2⟩ := parcel_both hp
  have l1 := itoa_len h1
  have l2 := itoa_len h2
  have l3 := itoa_len h3
  have l4 := itoa_len h4
  have l5 := itoa_len h5
  unfold m_impl_FormatAct m_spec_FormatAct m_impl_tripText
  have lit : ∀ l : List UInt8, (⟨l.toArray⟩ : ByteArray) = txt l := fun l => rfl
  have et : (⟨#[116, 97, 107, 101, 32]⟩ : ByteArray) = txt [116, 97, 107, 101, 32] := rfl
  have ep : (⟨#[112, 97, 121, 32]⟩ : ByteArray) = txt [112, 97, 121, 32] := rfl
  have es : (⟨#[32]⟩ : ByteArray) = txt [32] := rfl
  have er : (⟨#[114, 117, 110, 32]⟩ : ByteArray) = txt [114, 117, 110, 32] := rfl
  have eh : (⟨#[115, 104, 117, 116, 32]⟩ : ByteArray) = txt [115, 104, 117, 116, 32] := rfl
  have el : (⟨#[47]⟩ : ByteArray) = txt [47] := rfl
  have ef : (⟨#[114, 101, 102, 117, 110, 100, 32]⟩ : ByteArray) = txt [114, 101, 102, 117, 110, 100, 32] := rfl
  simp only [hi, hv, f1, f2, fI h1, fI h2, fI h3, fI h4, fI h5, fS h1, fS h2, fS h3, fS h4, fS h5, Option.bind_some, et, ep, es, er, eh, el, ef, txt_app]
  repeat rw [bOk (by simp only [txt_size, List.length_append, List.length_cons, List.length_nil]; omega), Option.bind_some]
  simp only [List.append_assoc]
  cases v <;> cases decide (a.kind = 1) <;> cases decide (a.kind = 2) <;> cases decide (a.kind = 3) <;> cases decide (a.kind = 4) <;> cases decide (a.kind = 5) <;> exact ⟨_, rfl, rfl⟩
end Go.Proofs.YtkfbakhnpfmfmaaGreatDoor
namespace Go.Proofs.YtkfbakhnpfmfmaaGreatDoor
set_option maxRecDepth 10000
open Go.RowKit
set_option linter.unusedVariables false
structure Mk (TO : TypeId → Nat → Prop) (D : Nat → Prop) (w w' : World) : Prop where
  os : w'.os = w.os
  tape : w'.tape = w.tape
  output : w'.output = w.output
  size : w.heap.size ≤ w'.heap.size
  low : ∀ b, b < w.heap.size → ¬ D b → w'.heap[b]? = w.heap[b]?
  row : ∀ (b : Nat) (cs : Array Value) (T : TypeId), w.heap[b]? = some (.cells cs T (0, 0)) → ∃ cs' : Array Value, w'.heap[b]? = some (.cells cs' T (0, 0)) ∧ cs'.size = cs.size ∧ ∀ j, TO T j → cs'[j]? = cs[j]?
section
variable {TO : TypeId → Nat → Prop} {D : Nat → Prop} {B : Nat} {w a b : World}
theorem Mk.rfl' : Mk TO D w w := ⟨rfl, rfl, rfl, Nat.le_refl _, fun _ _ _ => rfl, fun b cs T h => ⟨cs, h, rfl, fun _ _ => rfl⟩⟩
theorem Mk.trans (h : Mk TO D w a) (k : Mk TO D a b) : Mk TO D w b :=
  ⟨k.os.trans h.os, k.tape.trans h.tape, k.output.trans h.output, Nat.le_trans h.size k.size, fun x hx hd => (k.low x (Nat.lt_of_lt_of_le hx h.size) hd).trans (h.low x hx hd), fun x cs T hx => by
    obtain ⟨c1, h1, h2, h3⟩ := h.row x cs T hx
    obtain ⟨c2, k1, k2, k3⟩ := k.row x c1 T h1
    exact ⟨c2, k1, k2.trans h2, fun j hj => (k3 j hj).trans (h3 j hj)⟩⟩
theorem Mk.up (h : Mk TO D w a) (k : Up a b) : Mk TO D w b :=
  ⟨k.os.trans h.os, k.tape.trans h.tape, k.output.trans h.output, Nat.le_trans h.size k.size, fun x hx hd => (k.block x (Nat.lt_of_lt_of_le hx h.size)).trans (h.low x hx hd), fun x cs T hx => by
    obtain ⟨c1, h1, h2, h3⟩ := h.row x cs T hx
    exact ⟨c1, (k.block x (Array.getElem?_eq_some_iff.1 h1).1).trans h1, h2, h3⟩⟩
theorem Mk.set (h : Mk TO D w a) {g j : Nat} {cs : Array Value} {T : TypeId} (hg : a.heap[g]? = some (.cells cs T (0, 0))) (hBg : D g) (hT : ¬ TO T j) (v : Value) : Mk TO D w (a.setCell ⟨g, j, none⟩ v) := by
  have hs : (a.setCell ⟨g, j, none⟩ v).heap[g]? = some (.cells (cs.setIfInBounds j v) T (0, 0)) := heap_setCell_same a g j cs T v hg
  have ho : ∀ x, x ≠ g → (a.setCell ⟨g, j, none⟩ v).heap[x]? = a.heap[x]? := fun x hx => heap_setCell_other a ⟨g, j, none⟩ x v hx
  have hz : (a.setCell ⟨g, j, none⟩ v).heap.size = a.heap.size := by simp
  refine ⟨h.os, h.tape, h.output, by rw [hz]; exact h.size, fun x hx hd => (ho x (by rintro rfl; exact hd hBg)).trans (h.low x hx hd), fun x c T' hx => ?_⟩
  obtain ⟨c1, h1, h2, h3⟩ := h.row x c T' hx
  by_cases e : x = g
  · subst e
    rw [hg] at h1
    obtain ⟨rfl, rfl⟩ : cs = c1 ∧ T = T' := by simpa using h1
    refine ⟨_, hs, by simpa using h2, fun q hq => ?_⟩
    rw [Array.getElem?_setIfInBounds_ne (by intro e; subst e; exact hT hq)]
    exact h3 q hq
  · exact ⟨c1, (ho x e).trans h1, h2, h3⟩
def ShapeS (w : World) (B : Nat) (T : TypeId) (k : Nat) (v : Value) (n : Nat) : Prop :=
  (∃ c, v = .slice none 0 c ∧ n = 0) ∨ ∃ (g c : Nat) (cs : Array Value), v = .slice (some ⟨g, 0, none⟩) n c ∧ B ≤ g ∧ w.heap[g]? = some (.cells cs T (0, 0)) ∧ n * k ≤ cs.size
theorem ShapeS.mk {T : TypeId} {k : Nat} {v : Value} {n B' : Nat} (h : ShapeS w B' T k v n) (m : Mk TO D w a) : ShapeS a B' T k v n := by
  rcases h with h | ⟨g, c, cs, h1, h2, h3, h4⟩
  · exact .inl h
  · obtain ⟨c1, k1, k2, _⟩ := m.row g cs T h3
    exact .inr ⟨g, c, c1, h1, h2, k1, by omega⟩
theorem ShapeS.more {T : TypeId} {k : Nat} {v : Value} {n B' : Nat} (h : ShapeS w B' T k v n) (hB : B ≤ B') : ShapeS w B T k v n := by
  rcases h with h | ⟨g, c, cs, h1, h2, h3, h4⟩
  · exact .inl h
  · exact .inr ⟨g, c, cs, h1, Nat.le_trans hB h2, h3, h4⟩
theorem ShapeS.up {T : TypeId} {k : Nat} {v : Value} {n B' : Nat} (h : ShapeS w B' T k v n) (m : Up w a) : ShapeS a B' T k v n := by
  rcases h with h | ⟨g, c, cs, h1, h2, h3, h4⟩
  · exact .inl h
  · exact .inr ⟨g, c, cs, h1, h2, (m.block g (Array.getElem?_eq_some_iff.1 h3).1).trans h3, h4⟩
def ShapeD (w : World) (D : Nat → Prop) (T : TypeId) (k : Nat) (v : Value) (n : Nat) : Prop :=
  (∃ c, v = .slice none 0 c ∧ n = 0) ∨ ∃ (g c : Nat) (cs : Array Value), v = .slice (some ⟨g, 0, none⟩) n c ∧ D g ∧ w.heap[g]? = some (.cells cs T (0, 0)) ∧ n * k ≤ cs.size
theorem ShapeD.mk {T : TypeId} {k : Nat} {v : Value} {n : Nat} {D' : Nat → Prop} (h : ShapeD w D' T k v n) (m : Mk TO D w a) : ShapeD a D' T k v n := by
  rcases h with h | ⟨g, c, cs, h1, h2, h3, h4⟩
  · exact .inl h
  · obtain ⟨c1, k1, k2, _⟩ := m.row g cs T h3
    exact .inr ⟨g, c, c1, h1, h2, k1, by omega⟩
theorem ShapeD.up {T : TypeId} {k : Nat} {v : Value} {n : Nat} {D' : Nat → Prop} (h : ShapeD w D' T k v n) (m : Up w a) : ShapeD a D' T k v n := by
  rcases h with h | ⟨g, c, cs, h1, h2, h3, h4⟩
  · exact .inl h
  · exact .inr ⟨g, c, cs, h1, h2, (m.block g (Array.getElem?_eq_some_iff.1 h3).1).trans h3, h4⟩
def RowA (w : World) (g m : Nat) (T : TypeId) : Prop := ∃ cs : Array Value, w.heap[g]? = some (.cells cs T (0, 0)) ∧ m ≤ cs.size
theorem RowA.mk {g m : Nat} {T : TypeId} (h : RowA w g m T) (k : Mk TO D w a) : RowA a g m T := by
  obtain ⟨cs, h1, h2⟩ := h
  obtain ⟨c1, k1, k2, _⟩ := k.row g cs T h1
  exact ⟨c1, k1, by omega⟩
theorem RowA.up {g m : Nat} {T : TypeId} (h : RowA w g m T) (k : Up w a) : RowA a g m T := by
  obtain ⟨cs, h1, h2⟩ := h
  exact ⟨cs, (k.block g (Array.getElem?_eq_some_iff.1 h1).1).trans h1, h2⟩
theorem RowA.cell {g m j : Nat} {T : TypeId} (h : RowA w g m T) (hj : j < m) : (∃ u, w.cell? ⟨g, j, none⟩ = some u) ∧ w.frozen? ⟨g, j, none⟩ = false := by
  obtain ⟨cs, h1, h2⟩ := h
  exact ⟨⟨cs[j]'(by omega), by rw [cell_of_row w g j cs T (0, 0) h1]; exact Array.getElem?_eq_getElem _⟩, frozen_of_row w g j cs T h1⟩
theorem RowA.set {g m j : Nat} {T : TypeId} {g' : Nat} (h : RowA w g m T) (hg : RowA w g' 0 T) (v : Value) : RowA (w.setCell ⟨g', j, none⟩ v) g m T := by
  obtain ⟨cs, h1, h2⟩ := h
  obtain ⟨cs', h1', _⟩ := hg
  by_cases e : g = g'
  · subst e
    exact ⟨_, heap_setCell_same w g j cs T v h1, by simpa using h2⟩
  · exact ⟨cs, (heap_setCell_other w ⟨g', j, none⟩ g v e).trans h1, h2⟩
theorem Mk.setR (h : Mk TO D w a) {g m j : Nat} {T : TypeId} (hg : RowA a g m T) (hBg : D g) (hT : ¬ TO T j) (v : Value) : Mk TO D w (a.setCell ⟨g, j, none⟩ v) := by
  obtain ⟨cs, h1, _⟩ := hg
  exact h.set h1 hBg hT v
theorem RowA.keep {g m j : Nat} {T : TypeId} (h : RowA w g m T) (v : Value) : RowA (w.setCell ⟨g, j, none⟩ v) g m T := h.set (by obtain ⟨cs, h1, _⟩ := h; exact ⟨cs, h1, Nat.zero_le _⟩) v
end
set_option linter.unusedSimpArgs false
def digs : Nat → Nat → ByteArray → ByteArray
  | 0, _, s => s
  | f + 1, m, s => if 0 < m then digs f (m / 10) (strOfNums [48 + (m : Int) % 10] ++ s) else s
def markTxt (k : Int) : ByteArray := ⟨#[109]⟩ ++ digs k.toNat k.toNat ⟨#[]⟩
def m_laws_markText (k : Int) : Option ByteArray := if 1 ≤ k ∧ k ≤ 1099511627776 then some (markTxt k) else none
theorem markText_exact (k : Int) (w : World) (h0 : 1 ≤ k) (h1 : k ≤ 1099511627776) : Calls Tryz.prog 35 #[.int .i64 k] w fun e w' => e = .returned (.string (markTxt k)) ∧ Up w w' := by
  go_enter Tryz.func35, Tryz.ntmps35
  have hk : ¬ k ≤ 0 := by omega
  go_wp2
  go_loopw [3, 0] (fun out kk wr => ∃ (m f : Nat) (s : ByteArray), kk = .int .i64 m ∧ out = .string s ∧ s.size + m ≤ 1099511627777 ∧ m ≤ f ∧ digs f m s = digs k.toNat k.toNat ⟨#[]⟩ ∧ Up w wr) (fun _ kk _ => (intOf kk).toNat)
  case atStart => exact ⟨k.toNat, k.toNat, ⟨#[]⟩, by congr 1; omega, rfl, by show (0 : Nat) + k.toNat ≤ _; omega, Nat.le_refl _, rfl, by (repeat (first | exact Up.rfl' _ | (refine Up.al _ ?_) | (refine Up.dr _ ?_) | (refine Up.dr1 ?_) | (refine Up.sc ?_ (by first | exact Nat.le_refl _ | (simp; done) | omega) _) | (refine Up.step (by assumption) ?_)))⟩
  case round =>
    obtain ⟨m, f, s, rfl, rfl, hm, hmf, hd, hb⟩ := hrel
    by_cases hlt : 0 < m
    · obtain ⟨f, rfl⟩ : ∃ f', f = f' + 1 := ⟨f - 1, by omega⟩
      have hd' : digs f (m / 10) (strOfNums [48 + (m : Int) % 10] ++ s) = digs k.toNat k.toNat ⟨#[]⟩ := by rw [← hd]; simp only [digs, hlt, if_true]
      have hcv := run_convert_bytes_arg (P := Tryz.prog) (wr.alloc (.cells #[.int .u8 (48 + (m : Int) % 10)] 5)) 40 5 Tryz.underlying40 Tryz.underlying5 wr.heap.size 0 1 1 [48 + (m : Int) % 10] rfl (fun i hi => (by obtain rfl : i = 0 := (by omega); simp [go_sem])) 9 Tryz.underlying9
      have hsz : (strOfNums [48 + (m : Int) % 10]).size = 1 := by simp [strOfNums, ByteArray.size]
      go_wp2
      exact ⟨⟨m / 10, f, _, by congr 1, rfl, by rw [ByteArray.size_append, hsz]; omega, by omega, hd', by (repeat (first | exact Up.rfl' _ | (refine Up.al _ ?_) | (refine Up.dr _ ?_) | (refine Up.dr1 ?_) | (refine Up.sc ?_ (by first | exact Nat.le_refl _ | (simp; done) | omega) _) | (refine Up.step (by assumption) ?_)))⟩, by simp [intOf]; omega⟩
    · obtain rfl : m = 0 := by omega
      go_wp2
      go_ret
      have hd' : s = digs k.toNat k.toNat ⟨#[]⟩ := by rw [← hd]; cases f <;> simp [digs]
      exact ⟨by rw [hd']; rfl, hb⟩
theorem rep_vT {w : World} {E : Env} {x y : Value} (h : Rep w E (.v x) y) : y = x := by
  cases h with
  | c h => cases h with
    | v _ _ => rfl
theorem ok_laws_markText (k : Int) {r : ByteArray} (H : m_laws_markText k = some r) : CallM Tryz.prog 35 [vi k] [] (vs r) [] := by
  unfold m_laws_markText at H
  split at H
  case isFalse => cases H
  rename_i hok
  obtain rfl := Option.some.inj H
  intro S β w vs ω hk hl ha
  obtain ⟨x, hx0, hr⟩ := ha 0 _ rfl
  have hv : vs = #[x] := by
    have h1 : vs.size = 1 := hl
    apply Array.ext (by simp [h1])
    intro i h2 h3
    have : i = 0 := by omega
    subst this
    have := (Array.getElem?_eq_some_iff.1 hx0).2
    simpa using this
  subst hv
  obtain rfl := rep_vT hr
  refine (markText_exact k w hok.1 hok.2).mono ?_
  rintro e w' ⟨rfl, hu⟩
  have hnone : ∀ l B, β l = some B → False := fun l B hB => by
    obtain ⟨mb, hmb⟩ := hk.dom l B hB
    simp at hmb
  exact ⟨_, E1 S β 0, rfl, ⟨⟨hu.os, hu.tape, hu.output, hu.size, fun b hb _ => hu.block b hb⟩, fun b hb => Nat.lt_of_lt_of_le (hk.sz b hb) hu.size, fun l B hB => (hnone l B hB).elim, fun l l' B B' hB => (hnone l B hB).elim, fun l hl => hk.used l hl, fun l B hB => (hnone l B hB).elim, fun l mb h => (by simp at h), fun l B hB => (hnone l B hB).elim, hk.tab, fun _ _ h => h.elim⟩, fun b h => h, fun b h => .inl h, ⟨fun l B hl => absurd hl (Nat.not_lt_zero l), fun _ _ h => h.elim⟩, .c (.v _ rfl)⟩
instance (k : Int) : CT Tryz.prog (m_laws_markText k) := ⟨35, [vi k], [], fun r => vs r, fun r => [], ok_laws_markText k⟩
set_option maxHeartbeats 16000000
def m_o_spec_ParseParcel_b0 (s : ByteArray) (y1 : (List ByteArray)) (y2 : ByteArray) (y4 : YLabel × Bool) (y6 : Int × Bool) (y8 : (List ByteArray)) (s0 : Int × (List Int)) : Option ((Int × (List Int)) ⊕ (List Int)) :=
 cond (decide (s0.1 < (y8.length : Int)))
 ((getI y8 s0.1).bind fun y9 =>
 (m_spec_ParseInt y9).bind fun y10 =>
 (chk (appOk ((s0.2 : List Int).length + ([y10.1] : List Int).length) 8)).bind fun _ =>
 some (.inl ((w64 (s0.1 + 1)), ((s0.2 : List Int) ++ [y10.1]))))
 (some (.inr s0.2))
instance (s : ByteArray) (y1 : (List ByteArray)) (y2 : ByteArray) (y4 : YLabel × Bool) (y6 : Int × Bool) (y8 : (List ByteArray)) : LoopE (m_o_spec_ParseParcel_b0 s y1 y2 y4 y6 y8) := ⟨fun s0 => (vs s :: .un :: .be 0 0 0 :: .un :: .ms 1 :: .be 2 0 0 :: .un :: vb y4.2 :: .un :: .un :: .ms 4 :: vi s0.1 :: (U 75 [])), fun s0 => [some ⟨.of 26, 7, [[vi 0, vi 0, vs (⟨#[]⟩), vs (⟨#[]⟩), vi 0, .v (.slice none 0 0), vi 0]]⟩, some ⟨.of 9, 1, y1.map cStr⟩, some ⟨.of 26, 7, [[vi y4.1.service, vi y4.1.serial, vs y4.1.to_, vs y2, vi y6.1, .ms 3, vi 0]]⟩, some ⟨.of 3, 1, s0.2.map cInt⟩, some ⟨.of 9, 1, y8.map cStr⟩]⟩
def m_o_spec_ParseParcel (s : ByteArray) : Option (YParcel × Bool) :=
 (m_spec_l2Split s 32).bind fun y1 =>
 cond (!decide ((y1.length : Int) = 5))
 (some ((⟨(⟨0, 0, ⟨#[]⟩⟩ : YLabel), ⟨#[]⟩, 0, [], 0⟩ : YParcel), false))
 ((getI y1 1).bind fun y2 =>
 (getI y1 0).bind fun y3 =>
 (m_spec_ParseLabel y3).bind fun y4 =>
 (getI y1 2).bind fun y5 =>
 (m_spec_ParseInt y5).bind fun y6 =>
 (getI y1 3).bind fun y7 =>
 (m_spec_l2Split y7 120).bind fun y8 =>
 (iterF (m_o_spec_ParseParcel_b0 s y1 y2 y4 y6 y8) NN (0, [])).bind (fun o0 =>
 (getI y1 4).bind fun y11 =>
 (m_spec_ParseInt y11).bind fun y12 =>
 cond (!y4.2)
 (some ((⟨(⟨0, 0, ⟨#[]⟩⟩ : YLabel), ⟨#[]⟩, 0, [], 0⟩ : YParcel), false))
 ((m_spec_FormatParcel (⟨y4.1, y2, y6.1, o0, y12.1⟩ : YParcel)).bind fun y13 =>
 cond (!decide (y13 = s))
 (some ((⟨(⟨0, 0, ⟨#[]⟩⟩ : YLabel), ⟨#[]⟩, 0, [], 0⟩ : YParcel), false))
 (some ((⟨y4.1, y2, y6.1, o0, y12.1⟩ : YParcel), true)))))
instance (s : ByteArray) : CT Tryz.prog (m_o_spec_ParseParcel s) := ⟨23, [vs s], [], fun r => .tu [.ag [vi r.1.label.service, vi r.1.label.serial, vs r.1.label.to_, vs r.1.from_, vi r.1.weight, .ms 0, vi r.1.value], vb r.2], fun r => [some ⟨.of 3, 1, r.1.sides.map cInt⟩], fun H => by replace H := H0 H; unfold m_o_spec_ParseParcel at H; exact callM_of Tryz.func23 rfl Tryz.ntmps23 Tryz.results23 fun Q hQ hQn => wk3⟩
def m_o_impl_ParseParcel_b0 (s : ByteArray) (y2 : ByteArray) (y4 : YLabel × Bool) (y6 : Int × Bool) (y8 : Int × Bool) (y10 : List ByteArray) (s0 : Int × (List Int)) : Option ((Int × (List Int)) ⊕ (List Int)) :=
 cond (decide (s0.1 < (y10.length : Int)))
 ((getI y10 s0.1).bind fun y11 =>
 (m_impl_ParseInt y11).bind fun y12 =>
 (chk (appOk ((s0.2 : List Int).length + ([y12.1] : List Int).length) 8)).bind fun _ =>
 some (.inl ((w64 (s0.1 + 1)), ((s0.2 : List Int) ++ [y12.1]))))
 (some (.inr s0.2))
instance (s : ByteArray) (y2 : ByteArray) (y4 : YLabel × Bool) (y6 : Int × Bool) (y8 : Int × Bool) (y10 : List ByteArray) : LoopE (m_o_impl_ParseParcel_b0 s y2 y4 y6 y8 y10) := ⟨fun s0 => (vs s :: .un :: .be 0 0 0 :: .un :: .un :: .be 1 0 0 :: (U 41 (.ms 3 :: vi (y10.length : Int) :: vi s0.1 :: (U 25 [])))), fun s0 => [some ⟨.of 26, 7, [[vi 0, vi 0, vs (⟨#[]⟩), vs (⟨#[]⟩), vi 0, .v (.slice none 0 0), vi 0]]⟩, some ⟨.of 26, 7, [[vi y4.1.service, vi y4.1.serial, vs y4.1.to_, vs y2, vi y6.1, .ms 2, vi y8.1]]⟩, some ⟨.of 3, 1, s0.2.map cInt⟩, some ⟨.of 9, 1, y10.map cStr⟩]⟩
def m_o_impl_ParseParcel (s : ByteArray) : Option (YParcel × Bool) :=
 (m_strings_Split s (⟨#[32]⟩)).bind fun y1 =>
 cond (!decide ((y1.length : Int) = 5))
 (some ((⟨(⟨0, 0, ⟨#[]⟩⟩ : YLabel), ⟨#[]⟩, 0, [], 0⟩ : YParcel), false))
 ((getI y1 1).bind fun y2 =>
 (getI y1 0).bind fun y3 =>
 (m_impl_ParseLabel y3).bind fun y4 =>
 (getI y1 2).bind fun y5 =>
 (m_impl_ParseInt y5).bind fun y6 =>
 (getI y1 4).bind fun y7 =>
 (m_impl_ParseInt y7).bind fun y8 =>
 (getI y1 3).bind fun y9 =>
 (m_strings_Split y9 (⟨#[120]⟩)).bind fun y10 =>
 (iterF (m_o_impl_ParseParcel_b0 s y2 y4 y6 y8 y10) NN (0, [])).bind (fun o0 =>
 cond (decide (s = ⟨#[]⟩))
 (some ((⟨(⟨0, 0, ⟨#[]⟩⟩ : YLabel), ⟨#[]⟩, 0, [], 0⟩ : YParcel), false))
 ((m_impl_FormatParcel (⟨y4.1, y2, y6.1, o0, y8.1⟩ : YParcel)).bind fun y13 =>
 cond (!decide (y13 = s))
 (some ((⟨(⟨0, 0, ⟨#[]⟩⟩ : YLabel), ⟨#[]⟩, 0, [], 0⟩ : YParcel), false))
 (some ((⟨y4.1, y2, y6.1, o0, y8.1⟩ : YParcel), true)))))
instance (s : ByteArray) : CT Tryz.prog (m_o_impl_ParseParcel s) := ⟨27, [vs s], [], fun r => .tu [.ag [vi r.1.label.service, vi r.1.label.serial, vs r.1.label.to_, vs r.1.from_, vi r.1.weight, .ms 0, vi r.1.value], vb r.2], fun r => [some ⟨.of 3, 1, r.1.sides.map cInt⟩], fun H => by replace H := H0 H; unfold m_o_impl_ParseParcel at H; exact callM_of Tryz.func27 rfl Tryz.ntmps27 Tryz.results27 fun Q hQ hQn => wk3⟩
end Go.Proofs.YtkfbakhnpfmfmaaGreatDoor
namespace Go.Proofs.YtkfbakhnpfmfmaaGreatDoor
set_option maxRecDepth 10000
open Go.RowKit Go.Sort
set_option linter.unusedVariables false
set_option linter.unusedSimpArgs false
set_option maxHeartbeats 4000000
theorem parcel_inv {p : YParcel} (h1 : p.label.to_.size ≤ B60) (h2 : p.from_.size ≤ B60) (h3 : p.sides.length < NN) (h : m_spec_IsParcel p = some true) : m_spec_IsLabel p.label = some true ∧ m_spec_IsPlace p.from_ = some true ∧ (1 ≤ p.weight ∧ p.weight ≤ 30000) ∧ threeV p.sides = true ∧ (0 ≤ p.value ∧ p.value ≤ 500000) := by
  obtain ⟨_, b1, hb1⟩ := label_eq h1
  obtain ⟨_, b2, hb2⟩ := isPlace_eq h2
  obtain ⟨_, b3, hb3⟩ := girth_eq h3
  revert h
  unfold m_spec_IsParcel
  simp only [hb1, hb2, hb3, three_v h3, l1In_v, Option.bind_some]
  cases b1 <;> cases b2 <;> cases (!decide (p.from_ = p.label.to_)) <;> cases hw : (decide (1 ≤ p.weight) && decide (p.weight ≤ 30000)) <;> cases threeV p.sides <;> cases decide (b3 ≤ 3600) <;> simp_all
theorem three_at {l : List Int} (h : threeV l = true) : ∃ x y z, l = [x, y, z] ∧ (1 ≤ x ∧ x ≤ 2000) ∧ (1 ≤ y ∧ y ≤ 2000) ∧ (1 ≤ z ∧ z ≤ 2000) := by
  have hl := three_len h
  match l, hl with
  | [x, y, z], _ => exact ⟨x, y, z, rfl, by simpa [threeV] using h⟩
def sidesT : List Int → List UInt8
  | [x, y, z] => Lib.itoa x ++ 120 :: (Lib.itoa y ++ 120 :: Lib.itoa z)
  | _ => []
def parcT (p : YParcel) (n : Int) : List UInt8 := labT p.label n ++ 32 :: (p.from_.data.toList ++ 32 :: (Lib.itoa p.weight ++ 32 :: (sidesT p.sides ++ 32 :: Lib.itoa p.value)))
theorem isDL_no {l : List UInt8} (h : ∀ c ∈ l, isDL c) {c : UInt8} (hc : c.toNat < 48 ∨ 90 < c.toNat) : c ∉ l := fun hm => by have := h c hm; unfold isDL at this; omega
theorem itoa_no {n : Int} (h : 0 ≤ n) {c : UInt8} (hc : c.toNat < 48 ∨ 57 < c.toNat) : c ∉ Lib.itoa n := not_dig (itoa_dig h) hc
theorem sidesT_no {x y z : Int} (hx : 0 ≤ x) (hy : 0 ≤ y) (hz : 0 ≤ z) : (32 : UInt8) ∉ sidesT [x, y, z] := by
  have a := itoa_no hx (c := 32) (by decide)
  have b := itoa_no hy (c := 32) (by decide)
  have c := itoa_no hz (c := 32) (by decide)
  unfold sidesT
  simp [a, b, c]
structure PGood (p : YParcel) (n : Int) : Prop where
  lab : m_spec_IsLabel p.label = some true
  n0 : 0 ≤ n
  n1 : n ≤ 99
  fli : m_impl_FormatLabel p.label = some (txt (labT p.label n))
  fls : m_spec_FormatLabel p.label = some (txt (labT p.label n))
  fi : m_impl_FormatParcel p = some (txt (parcT p n))
  fs : m_spec_FormatParcel p = some (txt (parcT p n))
  to3 : p.label.to_.size = 3
  fr : p.from_.size = 3 ∧ ∀ c ∈ p.from_.data.toList, isDL c
  w : 1 ≤ p.weight ∧ p.weight ≤ 30000
  v : 0 ≤ p.value ∧ p.value ≤ 500000
  sd : ∃ x y z, p.sides = [x, y, z] ∧ (1 ≤ x ∧ x ≤ 2000) ∧ (1 ≤ y ∧ y ≤ 2000) ∧ (1 ≤ z ∧ z ≤ 2000)
theorem small64 {n : Int} (h : 0 ≤ n ∧ n ≤ 1000000000) : in64 n := ⟨by omega, by omega⟩
theorem labT_len {l : YLabel} {n : Int} (h : m_spec_IsLabel l = some true) (hn : 0 ≤ n ∧ n ≤ 99) : (labT l n).length ≤ 100 := by
  obtain ⟨r1, r2⟩ := label_rng h
  have a := bodyL_len (l := l) (small64 (by omega)) (small64 (by omega)) (by have := (isLabel_t h).1; omega)
  have b := padL_len (n := n) (d := 2) (small64 (by omega)) (by omega)
  unfold labT
  rw [List.length_append]; omega
theorem parcel_txt {p : YParcel} (h1 : p.label.to_.size ≤ B60) (h2 : p.from_.size ≤ B60) (h3 : p.sides.length < NN) (h : m_spec_IsParcel p = some true) : ∃ n, PGood p n := by
  obtain ⟨q1, q2, q3, q4, q5⟩ := parcel_inv h1 h2 h3 h
  obtain ⟨n, n0, n1, f1, f2⟩ := label_txt h1 q1
  obtain ⟨x, y, z, hs, hx, hy, hz⟩ := three_at q4
  obtain ⟨g1, g2⟩ := place_up q2
  have hi : m_impl_IsParcel p = some true := (parcel_eq h1 h2 h3).1.trans h
  have i1 : in64 x := small64 (by omega)
  have i2 : in64 y := small64 (by omega)
  have i3 : in64 z := small64 (by omega)
  have i4 : in64 p.weight := small64 (by omega)
  have i5 : in64 p.value := small64 (by omega)
  have l1 := itoa_len i1
  have l2 := itoa_len i2
  have l3 := itoa_len i3
  have l4 := itoa_len i4
  have l5 := itoa_len i5
  have lb := labT_len q1 ⟨n0, n1⟩
  have s0 : getI p.sides 0 = some x := by rw [hs]; rfl
  have s1 : getI p.sides 1 = some y := by rw [hs]; rfl
  have s2 : getI p.sides 2 = some z := by rw [hs]; rfl
  have ex : (⟨#[120]⟩ : ByteArray) = txt [120] := rfl
  have es : (⟨#[32]⟩ : ByteArray) = txt [32] := rfl
  have hfl : p.from_.data.toList.length = p.from_.size := by rw [Array.length_toList]; rfl
  have hft : p.from_ = txt p.from_.data.toList := (txt_data _).symm
  refine ⟨n, q1, n0, n1, f1, f2, ?_, ?_, (isLabel_t q1).1, ⟨g1, g2⟩, q3, q5, x, y, z, hs, hx, hy, hz⟩
  · unfold m_impl_FormatParcel parcT
    simp only [hi, s0, s1, s2, fI i1, fI i2, fI i3, fI i4, fI i5, f1, Option.bind_some, Bool.not_true, cond_false, ex, es]
    generalize p.from_.data.toList = fl at *
    rw [hft]
    simp only [txt_app]
    repeat rw [bOk (by simp only [txt_size, List.length_append, List.length_cons, List.length_nil]; omega), Option.bind_some]
    simp [hs, sidesT]
  · unfold m_spec_FormatParcel parcT
    simp only [h, s0, s1, s2, fS i1, fS i2, fS i3, fS i4, fS i5, f2, Option.bind_some, Bool.not_true, cond_false, ex, es]
    generalize p.from_.data.toList = fl at *
    rw [hft]
    simp only [txt_app]
    repeat rw [bOk (by simp only [txt_size, List.length_append, List.length_cons, List.length_nil]; omega), Option.bind_some]
    simp [hs, sidesT]
theorem parc_split {p : YParcel} {n : Int} (h : PGood p n) : splitL 32 (parcT p n) = [labT p.label n, p.from_.data.toList, Lib.itoa p.weight, sidesT p.sides, Lib.itoa p.value] := by
  obtain ⟨x, y, z, hs, hx, hy, hz⟩ := h.sd
  unfold parcT
  rw [splitL_app (isDL_no (labT_dl h.lab h.n0) (by decide)), splitL_app (isDL_no h.fr.2 (by decide)), splitL_app (itoa_no (by have := h.w; omega) (by decide)), splitL_app (by rw [hs]; exact sidesT_no (by omega) (by omega) (by omega)), splitL_none (itoa_no h.v.1 (by decide))]
theorem sides_split {x y z : Int} (hx : 0 ≤ x) (hy : 0 ≤ y) (hz : 0 ≤ z) : splitL 120 (sidesT [x, y, z]) = [Lib.itoa x, Lib.itoa y, Lib.itoa z] := by
  unfold sidesT
  rw [splitL_app (itoa_no hx (by decide)), splitL_app (itoa_no hy (by decide)), splitL_none (itoa_no hz (by decide))]
theorem parcT_len {p : YParcel} {n : Int} (h : PGood p n) : (parcT p n).length ≤ 1000 := by
  obtain ⟨x, y, z, hs, hx, hy, hz⟩ := h.sd
  have l1 := itoa_len (n := x) (small64 (by omega))
  have l2 := itoa_len (n := y) (small64 (by omega))
  have l3 := itoa_len (n := z) (small64 (by omega))
  have l4 := itoa_len (n := p.weight) (small64 (by have := h.w; omega))
  have l5 := itoa_len (n := p.value) (small64 (by have := h.v; omega))
  have lb := labT_len h.lab ⟨h.n0, h.n1⟩
  have hfl : p.from_.data.toList.length = p.from_.size := by rw [Array.length_toList]; rfl
  have := h.fr.1
  unfold parcT
  rw [hs]
  simp only [sidesT, List.length_append, List.length_cons]
  omega
theorem w1' : w64 ((0 : Int) + 1) = 1 := by decide
theorem w2' : w64 ((1 : Int) + 1) = 2 := by decide
theorem w3' : w64 ((2 : Int) + 1) = 3 := by decide
theorem appI {a b : List Int} (h : a.length + b.length ≤ 100000000) : chk (appOk (a.length + b.length) 8) = some () := chk_t (decide_eq_true ⟨by omega, by omega⟩)
theorem iint_at {n : Int} (h : 0 ≤ n ∧ n ≤ 1000000000) : m_impl_ParseInt (txt (Lib.itoa n)) = some (n, true) := iint_itoa h.1 h.2 (by have := itoa_len (small64 h); omega)
theorem parcel_rt {p : YParcel} {n : Int} (h : PGood p n) : m_o_impl_ParseParcel (txt (parcT p n)) = some (p, true) ∧ m_o_spec_ParseParcel (txt (parcT p n)) = some (p, true) := by
  obtain ⟨x, y, z, hs, hx, hy, hz⟩ := h.sd
  have hl := parcT_len h
  obtain ⟨r1, r2⟩ := label_rt (by have := h.to3; unfold B60; omega) h.lab h.n0 h.n1 h.fli h.fls
  have hw := h.w
  have hv := h.v
  have hsl : (sidesT p.sides).length ≤ 1000 := by
    unfold parcT at hl
    simp only [List.length_append, List.length_cons] at hl
    omega
  have sp := parc_split h
  have ss : splitL 120 (sidesT p.sides) = [Lib.itoa x, Lib.itoa y, Lib.itoa z] := by rw [hs]; exact sides_split (by omega) (by omega) (by omega)
  have hft := txt_data p.from_
  constructor
  · have e1 := split_at (c := 32) (L := parcT p n) (by omega)
    have e2 := split_at (c := 120) (L := sidesT p.sides) (by omega)
    rw [sp] at e1
    rw [ss] at e2
    have it : ∀ a b c d e, iterF (m_o_impl_ParseParcel_b0 a b c d e [txt (Lib.itoa x), txt (Lib.itoa y), txt (Lib.itoa z)]) NN (0, []) = some [x, y, z] := by
      intro a b c d e
      refine iter_NN (n := 4) ?_ (by unfold NN; omega)
      rw [itl (s' := (1, [x])), itl (s' := (2, [x, y])), itl (s' := (3, [x, y, z])), itr (o := [x, y, z])]
      all_goals unfold m_o_impl_ParseParcel_b0
      · rfl
      · simp only [show decide ((2 : Int) < (([txt (Lib.itoa x), txt (Lib.itoa y), txt (Lib.itoa z)] : List ByteArray).length : Int)) = true from rfl, cond_true, show getI [txt (Lib.itoa x), txt (Lib.itoa y), txt (Lib.itoa z)] 2 = some (txt (Lib.itoa z)) from rfl, Option.bind_some, iint_at (n := z) ⟨by omega, by omega⟩, appI (a := [x, y]) (b := [z]) (by simp), w3']; rfl
      · simp only [show decide ((1 : Int) < (([txt (Lib.itoa x), txt (Lib.itoa y), txt (Lib.itoa z)] : List ByteArray).length : Int)) = true from rfl, cond_true, show getI [txt (Lib.itoa x), txt (Lib.itoa y), txt (Lib.itoa z)] 1 = some (txt (Lib.itoa y)) from rfl, Option.bind_some, iint_at (n := y) ⟨by omega, by omega⟩, appI (a := [x]) (b := [y]) (by simp), w2']; rfl
      · simp only [show decide ((0 : Int) < (([txt (Lib.itoa x), txt (Lib.itoa y), txt (Lib.itoa z)] : List ByteArray).length : Int)) = true from rfl, cond_true, show getI [txt (Lib.itoa x), txt (Lib.itoa y), txt (Lib.itoa z)] 0 = some (txt (Lib.itoa x)) from rfl, Option.bind_some, iint_at (n := x) ⟨by omega, by omega⟩, appI (a := []) (b := [x]) (by simp), w1']; rfl
    have hne : decide (txt (parcT p n) = ⟨#[]⟩) = false := decide_eq_false fun e => by
      have := congrArg ByteArray.size e
      rw [txt_size] at this
      have h2 : (parcT p n).length = 0 := this
      unfold parcT at h2
      simp at h2
    unfold m_o_impl_ParseParcel
    rw [show (⟨#[32]⟩ : ByteArray) = txt [32] from rfl, show (⟨#[120]⟩ : ByteArray) = txt [120] from rfl, e1]
    simp only [List.map_cons, List.map_nil, Option.bind_some]
    simp only [show ∀ a b c d e : ByteArray, decide ((([a, b, c, d, e] : List ByteArray).length : Int) = 5) = true from fun _ _ _ _ _ => rfl, show ∀ a b c d e : ByteArray, getI [a, b, c, d, e] 0 = some a from fun _ _ _ _ _ => rfl, show ∀ a b c d e : ByteArray, getI [a, b, c, d, e] 1 = some b from fun _ _ _ _ _ => rfl, show ∀ a b c d e : ByteArray, getI [a, b, c, d, e] 2 = some c from fun _ _ _ _ _ => rfl, show ∀ a b c d e : ByteArray, getI [a, b, c, d, e] 3 = some d from fun _ _ _ _ _ => rfl, show ∀ a b c d e : ByteArray, getI [a, b, c, d, e] 4 = some e from fun _ _ _ _ _ => rfl, Bool.not_true, cond_false, Option.bind_some, r1, iint_at (n := p.weight) ⟨by omega, by omega⟩, iint_at (n := p.value) ⟨by omega, by omega⟩, e2, List.map_cons, List.map_nil, it, hne, hft]
    rw [← hs]
    show (m_impl_FormatParcel p).bind _ = _
    rw [h.fi]
    simp
  · have e1 := l2Split_eq (c := 32) (L := parcT p n) (by omega)
    have e2 := l2Split_eq (c := 120) (L := sidesT p.sides) (by omega)
    rw [sp] at e1
    rw [ss] at e2
    have it : ∀ a b c d e, iterF (m_o_spec_ParseParcel_b0 a b c d e [txt (Lib.itoa x), txt (Lib.itoa y), txt (Lib.itoa z)]) NN (0, []) = some [x, y, z] := by
      intro a b c d e
      refine iter_NN (n := 4) ?_ (by unfold NN; omega)
      rw [itl (s' := (1, [x])), itl (s' := (2, [x, y])), itl (s' := (3, [x, y, z])), itr (o := [x, y, z])]
      all_goals unfold m_o_spec_ParseParcel_b0
      · rfl
      · simp only [show decide ((2 : Int) < (([txt (Lib.itoa x), txt (Lib.itoa y), txt (Lib.itoa z)] : List ByteArray).length : Int)) = true from rfl, cond_true, show getI [txt (Lib.itoa x), txt (Lib.itoa y), txt (Lib.itoa z)] 2 = some (txt (Lib.itoa z)) from rfl, Option.bind_some, pint_itoa (n := z) (by omega) (by omega), appI (a := [x, y]) (b := [z]) (by simp), w3']; rfl
      · simp only [show decide ((1 : Int) < (([txt (Lib.itoa x), txt (Lib.itoa y), txt (Lib.itoa z)] : List ByteArray).length : Int)) = true from rfl, cond_true, show getI [txt (Lib.itoa x), txt (Lib.itoa y), txt (Lib.itoa z)] 1 = some (txt (Lib.itoa y)) from rfl, Option.bind_some, pint_itoa (n := y) (by omega) (by omega), appI (a := [x]) (b := [y]) (by simp), w2']; rfl
      · simp only [show decide ((0 : Int) < (([txt (Lib.itoa x), txt (Lib.itoa y), txt (Lib.itoa z)] : List ByteArray).length : Int)) = true from rfl, cond_true, show getI [txt (Lib.itoa x), txt (Lib.itoa y), txt (Lib.itoa z)] 0 = some (txt (Lib.itoa x)) from rfl, Option.bind_some, pint_itoa (n := x) (by omega) (by omega), appI (a := []) (b := [x]) (by simp), w1']; rfl
    unfold m_o_spec_ParseParcel
    have e1' : m_spec_l2Split (txt (parcT p n)) 32 = _ := e1
    have e2' : m_spec_l2Split (txt (sidesT p.sides)) 120 = _ := e2
    rw [e1']
    simp only [List.map_cons, List.map_nil, Option.bind_some]
    simp only [show ∀ a b c d e : ByteArray, decide ((([a, b, c, d, e] : List ByteArray).length : Int) = 5) = true from fun _ _ _ _ _ => rfl, show ∀ a b c d e : ByteArray, getI [a, b, c, d, e] 0 = some a from fun _ _ _ _ _ => rfl, show ∀ a b c d e : ByteArray, getI [a, b, c, d, e] 1 = some b from fun _ _ _ _ _ => rfl, show ∀ a b c d e : ByteArray, getI [a, b, c, d, e] 2 = some c from fun _ _ _ _ _ => rfl, show ∀ a b c d e : ByteArray, getI [a, b, c, d, e] 3 = some d from fun _ _ _ _ _ => rfl, show ∀ a b c d e : ByteArray, getI [a, b, c, d, e] 4 = some e from fun _ _ _ _ _ => rfl, Bool.not_true, cond_false, Option.bind_some, r2, pint_itoa (n := p.weight) (by omega) (by omega), pint_itoa (n := p.value) (by omega) (by omega), e2', List.map_cons, List.map_nil, it, hft]
    rw [← hs]
    show (m_spec_FormatParcel p).bind _ = _
    rw [h.fs]
    simp
end Go.Proofs.YtkfbakhnpfmfmaaGreatDoor
namespace Go.Proofs.YtkfbakhnpfmfmaaGreatDoor
set_option maxRecDepth 10000
open Go.RowKit
set_option linter.unusedVariables false
set_option maxHeartbeats 16000000
def m_spec_l12Trip (s : ByteArray) : Option YTrip :=
 (m_spec_l2Split s 47).bind fun y1 =>
 cond (!decide ((y1.length : Int) = 2))
 (some (⟨(-1), 0⟩ : YTrip))
 ((getI y1 0).bind fun y2 =>
 (m_spec_ParseInt y2).bind fun y3 =>
 (getI y1 1).bind fun y4 =>
 (m_spec_ParseInt y4).bind fun y5 =>
 cond (!y3.2)
 (some (⟨(-1), 0⟩ : YTrip))
 (cond (!y5.2)
 (some (⟨(-1), 0⟩ : YTrip))
 (some (⟨y3.1, y5.1⟩ : YTrip))))
instance (s : ByteArray) : CT Tryz.prog (m_spec_l12Trip s) := ⟨24, [vs s], [], fun r => .ag [vi r.leg, vi r.day], fun r => [], fun H => by replace H := H0 H; unfold m_spec_l12Trip at H; exact callM_of Tryz.func24 rfl Tryz.ntmps24 Tryz.results24 fun Q hQ hQn => wk3⟩
end Go.Proofs.YtkfbakhnpfmfmaaGreatDoor
