/- A part of the proof of the statement in the last file of this claim: texts on the language of the program and on its functions. No condition. -/
import Derived.Test.YtkfbakhnpfmfmaaGreatDoorCReadJournal5
import Derived.Laws.ResultCell
import Derived.Test.YtkfbakhnpfmfmaaGreatDoorCReadJournal4
import Derived.Lib.Hide
import Derived.OpenShut
set_option linter.unusedVariables false
set_option linter.unusedSimpArgs false
set_option linter.unusedSectionVars false
namespace Go.Proofs.YtkfbakhnpfmfmaaGreatDoor
set_option maxRecDepth 10000
open Go.RowKit
set_option linter.unusedVariables false
set_option linter.unusedSimpArgs false
set_option maxHeartbeats 2000000
def noLabel : YLabel := ⟨0, 0, ⟨#[]⟩⟩
def m_impl_ParseLabel (s : ByteArray) : Option (YLabel × Bool) :=
  if s.size ≤ 100000000 then if s.size = 15 then match Lib.atoiAll (s.extract 0 1).data.toList, Lib.atoiAll (s.extract 1 10).data.toList with
    | .ok a, .ok b => (m_impl_FormatLabel ⟨a, b, s.extract 10 13⟩).bind fun t => some (if t = s then (⟨a, b, s.extract 10 13⟩, true) else (noLabel, false))
    | _, _ => some (noLabel, false)
  else some (noLabel, false) else none
theorem ag_lab {w : World} (a b : Int) (t : ByteArray) : ∀ (i : Nat) (p : PV), [PV.ag (cLabel ⟨a, b, t⟩)][i]? = some p → ∃ x, (#[.agg #[.int .i64 a, .int .i64 b, .string t]] : Array Value)[i]? = some x ∧ Rep w (E1 (fun b => b < w.heap.size) (fun _ => none) 0) p x := by
  intro i p hp
  match i, hp with
  | 0, hp =>
    obtain rfl := Option.some.inj hp
    refine ⟨_, rfl, .ag _ _ rfl (fun j x hx3 => ?_) fun j p x hp hx3 => ?_⟩
    · match j, hx3 with
      | 0, h | 1, h | 2, h => obtain rfl := Option.some.inj h; rfl
      | j + 3, h => simp at h
    · match j, hp, hx3 with
      | 0, hp, hx2 | 1, hp, hx2 | 2, hp, hx2 => obtain rfl := Option.some.inj hx2; obtain rfl := Option.some.inj hp; exact .c (.v _ rfl)
      | j + 3, hp, _ => simp [cLabel] at hp
  | n + 1, hp => simp at hp
theorem formatLabel_at {a b : Int} {t z : ByteArray} (h : m_impl_FormatLabel ⟨a, b, t⟩ = some z) (w : World) (ht : TabF w) : Calls Tryz.prog 60 #[.agg #[.int .i64 a, .int .i64 b, .string t]] w fun e w' => e = .returned (.string z) ∧ Up w w' := by
  have c := CT.ok (P := Tryz.prog) h
  simp only [CT.f, CT.args, CT.m0, CT.res, CT.mem] at c
  exact CallM.val c (tab_of_F ht) rfl (ag_lab a b t)
def Bx (b : Nat) (w : World) (x y z : Value) : Prop := w.heap[b]? = some (.cells #[x, y, z] 23)
theorem Bx.c {b : Nat} {w : World} {x y z : Value} (h : Bx b w x y z) : w.cell? ⟨b, 0, none⟩ = some x ∧ w.cell? ⟨b, 1, none⟩ = some y ∧ w.cell? ⟨b, 2, none⟩ = some z ∧ w.frozen? ⟨b, 0, none⟩ = false ∧ w.frozen? ⟨b, 1, none⟩ = false ∧ w.frozen? ⟨b, 2, none⟩ = false := by
  unfold Bx at h
  simp [World.cell?, World.frozen?, h]
theorem Bx.up {b : Nat} {w w' : World} {x y z : Value} (h : Bx b w x y z) (hu : Up w w') : Bx b w' x y z := (hu.block b (Array.getElem?_eq_some_iff.1 h).1).trans h
theorem Bx.new (w : World) (x y z : Value) : Bx w.heap.size (w.alloc (.cells #[x, y, z] 23)) x y z := Array.getElem?_push_size
theorem Bx.old {b : Nat} {w : World} {x y z : Value} (h : Bx b w x y z) (o : Obj) : Bx b (w.alloc o) x y z := by
  have hb := (Array.getElem?_eq_some_iff.1 h).1
  unfold Bx at *
  rw [← h]; exact Array.getElem?_push_lt hb |>.trans (Array.getElem?_eq_getElem hb).symm
theorem Bx.lt {b : Nat} {w : World} {x y z : Value} (h : Bx b w x y z) : b < w.heap.size := (Array.getElem?_eq_some_iff.1 h).1
theorem parseLabel_len (s : ByteArray) (w : World) (hs : ¬ s.size = 15) (hm : s.size ≤ 100000000) : Calls Tryz.prog 51 #[.string s] w fun e w' => e = .returned (.tuple #[.agg #[.int .i64 0, .int .i64 0, .string ⟨#[]⟩], .bool false]) ∧ Up w w' := by
  have hs1 : ¬ (s.size : Int) = 15 := by omega
  go_enter Tryz.func51, Tryz.ntmps51
  go_wp2
  (try simp only [Exit.inBlock, Exit.then])
  refine bodyPost_ret (v := .tuple #[.agg #[.int .i64 0, .int .i64 0, .string ⟨#[]⟩], .bool false]) ?_ rfl ?_
  · rw [results_cell_tmp rfl]
    go_simp
  · exact ⟨rfl, by (repeat (first | exact Up.rfl' _ | (refine Up.al _ ?_) | (refine Up.dr _ ?_) | (refine Up.dr1 ?_) | (refine Up.sc ?_ (by first | exact Nat.le_refl _ | (simp; done) | omega) _) | (refine Up.step (by assumption) ?_)))⟩
theorem ext_sz {s : ByteArray} {i j : Nat} (hs : s.size = 15) : (s.extract i j).size ≤ 15 := by rw [ByteArray.size_extract]; omega
theorem parseLabel_bad1 (s : ByteArray) (w : World) (ht : TabF w) (hs : s.size = 15) (h1 : ∀ v, Lib.atoiAll (s.extract 0 1).data.toList ≠ .ok v) : Calls Tryz.prog 51 #[.string s] w fun e w' => e = .returned (.tuple #[.agg #[.int .i64 0, .int .i64 0, .string ⟨#[]⟩], .bool false]) ∧ Up w w' := by
  have hz := ext_sz (i := 0) (j := 1) hs
  have hz2 := ext_sz (i := 1) (j := 10) hs
  have hA := fun w1 (hu : Up w w1) => atoi_bad (s.extract 0 1) (by omega) h1 w1 (tabF_up ht hu)
  have hs1 : (s.size : Int) = 15 := by omega
  by_cases h2 : ∃ v, Lib.atoiAll (s.extract 1 10).data.toList = .ok v
  · obtain ⟨v, h2⟩ := h2
    have hB := fun w1 => atoi_good (s.extract 1 10) (by omega) h2 w1
    clear h1 h2 hz hz2
    go_enter Tryz.func51, Tryz.ntmps51
    go_wp2_with (first
      | (go_at_call 52; with_reducible (refine (hA _ (by (repeat (first | exact Up.rfl' _ | (refine Up.al _ ?_) | (refine Up.dr _ ?_) | (refine Up.dr1 ?_) | (refine Up.sc ?_ (by first | exact Nat.le_refl _ | (simp; done) | omega) _) | (refine Up.step (by assumption) ?_))))).mono ?_); rintro e w1 ⟨n, t, p, rfl, hu1⟩; have B1 := (Bx.new w _ _ _).up hu1)
      | (go_at_call 52; with_reducible (refine (hB _).mono ?_); rintro e w2 ⟨rfl, hu2⟩; have B2 := B1.up hu2; obtain ⟨d0, d1, d2, e0, e1, e2⟩ := B2.c; have z1 := B2.lt; have z2 := Nat.ne_of_lt z1))
    (try simp only [Exit.inBlock, Exit.then])
    refine bodyPost_ret (v := .tuple #[.agg #[.int .i64 0, .int .i64 0, .string ⟨#[]⟩], .bool false]) ?_ rfl ?_
    · rw [results_cell_tmp rfl]
      go_simp
    · exact ⟨rfl, by (repeat (first | exact Up.rfl' _ | (refine Up.al _ ?_) | (refine Up.dr _ ?_) | (refine Up.dr1 ?_) | (refine Up.sc ?_ (by first | exact Nat.le_refl _ | (simp; done) | omega) _) | (refine Up.step (by assumption) ?_)))⟩
  · have hB := fun w1 (hu : Up w w1) => atoi_bad (s.extract 1 10) (by omega) (fun v e => h2 ⟨v, e⟩) w1 (tabF_up ht hu)
    clear h1 h2 hz hz2
    go_enter Tryz.func51, Tryz.ntmps51
    go_wp2_with (first
      | (go_at_call 52; with_reducible (refine (hA _ (by (repeat (first | exact Up.rfl' _ | (refine Up.al _ ?_) | (refine Up.dr _ ?_) | (refine Up.dr1 ?_) | (refine Up.sc ?_ (by first | exact Nat.le_refl _ | (simp; done) | omega) _) | (refine Up.step (by assumption) ?_))))).mono ?_); rintro e w1 ⟨n, t, p, rfl, hu1⟩; have B1 := (Bx.new w _ _ _).up hu1)
      | (go_at_call 52; with_reducible (refine (hB _ (by (repeat (first | exact Up.rfl' _ | (refine Up.al _ ?_) | (refine Up.dr _ ?_) | (refine Up.dr1 ?_) | (refine Up.sc ?_ (by first | exact Nat.le_refl _ | (simp; done) | omega) _) | (refine Up.step (by assumption) ?_))))).mono ?_); rintro e w2 ⟨n2, t2, p2, rfl, hu2⟩; have B2 := B1.up hu2; obtain ⟨d0, d1, d2, e0, e1, e2⟩ := B2.c; have z1 := B2.lt; have z2 := Nat.ne_of_lt z1))
    (try simp only [Exit.inBlock, Exit.then])
    refine bodyPost_ret (v := .tuple #[.agg #[.int .i64 0, .int .i64 0, .string ⟨#[]⟩], .bool false]) ?_ rfl ?_
    · rw [results_cell_tmp rfl]
      go_simp
    · exact ⟨rfl, by (repeat (first | exact Up.rfl' _ | (refine Up.al _ ?_) | (refine Up.dr _ ?_) | (refine Up.dr1 ?_) | (refine Up.sc ?_ (by first | exact Nat.le_refl _ | (simp; done) | omega) _) | (refine Up.step (by assumption) ?_)))⟩
theorem parseLabel_bad2 (s : ByteArray) (w : World) (ht : TabF w) (hs : s.size = 15) {a : Int} (h1 : Lib.atoiAll (s.extract 0 1).data.toList = .ok a) (h2 : ∀ v, Lib.atoiAll (s.extract 1 10).data.toList ≠ .ok v) : Calls Tryz.prog 51 #[.string s] w fun e w' => e = .returned (.tuple #[.agg #[.int .i64 0, .int .i64 0, .string ⟨#[]⟩], .bool false]) ∧ Up w w' := by
  have hz := ext_sz (i := 0) (j := 1) hs
  have hz2 := ext_sz (i := 1) (j := 10) hs
  have hA := fun w1 => atoi_good (s.extract 0 1) (by omega) h1 w1
  have hB := fun w1 (hu : Up w w1) => atoi_bad (s.extract 1 10) (by omega) h2 w1 (tabF_up ht hu)
  have hs1 : (s.size : Int) = 15 := by omega
  clear h1 h2 hz hz2
  go_enter Tryz.func51, Tryz.ntmps51
  go_wp2_with (first
    | (go_at_call 52; with_reducible (refine (hA _).mono ?_); rintro e w1 ⟨rfl, hu1⟩; have B1 := (Bx.new w _ _ _).up hu1)
    | (go_at_call 52; with_reducible (refine (hB _ (by (repeat (first | exact Up.rfl' _ | (refine Up.al _ ?_) | (refine Up.dr _ ?_) | (refine Up.dr1 ?_) | (refine Up.sc ?_ (by first | exact Nat.le_refl _ | (simp; done) | omega) _) | (refine Up.step (by assumption) ?_))))).mono ?_); rintro e w2 ⟨n2, t2, p2, rfl, hu2⟩; have B2 := B1.up hu2; obtain ⟨d0, d1, d2, e0, e1, e2⟩ := B2.c; have z1 := B2.lt; have z2 := Nat.ne_of_lt z1))
  (try simp only [Exit.inBlock, Exit.then])
  refine bodyPost_ret (v := .tuple #[.agg #[.int .i64 0, .int .i64 0, .string ⟨#[]⟩], .bool false]) ?_ rfl ?_
  · rw [results_cell_tmp rfl]
    go_simp
  · exact ⟨rfl, by (repeat (first | exact Up.rfl' _ | (refine Up.al _ ?_) | (refine Up.dr _ ?_) | (refine Up.dr1 ?_) | (refine Up.sc ?_ (by first | exact Nat.le_refl _ | (simp; done) | omega) _) | (refine Up.step (by assumption) ?_)))⟩
theorem parseLabel_fmt (s : ByteArray) (w : World) (ht : TabF w) (hs : s.size = 15) {a b : Int} (h1 : Lib.atoiAll (s.extract 0 1).data.toList = .ok a) (h2 : Lib.atoiAll (s.extract 1 10).data.toList = .ok b) {t : ByteArray} (hF : m_impl_FormatLabel ⟨a, b, s.extract 10 13⟩ = some t) : Calls Tryz.prog 51 #[.string s] w fun e w' => e = .returned (if t = s then .tuple #[.agg #[.int .i64 a, .int .i64 b, .string (s.extract 10 13)], .bool true] else .tuple #[.agg #[.int .i64 0, .int .i64 0, .string ⟨#[]⟩], .bool false]) ∧ Up w w' := by
  have hz := ext_sz (i := 0) (j := 1) hs
  have hz2 := ext_sz (i := 1) (j := 10) hs
  have hA := fun w1 => atoi_good (s.extract 0 1) (by omega) h1 w1
  have hB := fun w1 => atoi_good (s.extract 1 10) (by omega) h2 w1
  have hC := fun w1 (hu : Up w w1) => formatLabel_at hF w1 (tabF_up ht hu)
  have hs1 : (s.size : Int) = 15 := by omega
  clear hF h1 h2 hz hz2
  by_cases ce : t = s
  · rw [if_pos ce]
    rw [ce] at hC
    clear ce
    go_enter Tryz.func51, Tryz.ntmps51
    go_wp2_with (first
      | (go_at_call 52; with_reducible (refine (hA _).mono ?_); rintro e w1 ⟨rfl, hu1⟩; have B1 := (Bx.new w _ _ _).up hu1)
      | (go_at_call 52; with_reducible (refine (hB _).mono ?_); rintro e w2 ⟨rfl, hu2⟩; have B2 := B1.up hu2; obtain ⟨d0, d1, d2, e0, e1, e2⟩ := B2.c; have z1 := B2.lt; have z2 := Nat.ne_of_lt z1)
      | (go_at_call 60; with_reducible (refine (hC _ (by (repeat (first | exact Up.rfl' _ | (refine Up.al _ ?_) | (refine Up.dr _ ?_) | (refine Up.dr1 ?_) | (refine Up.sc ?_ (by first | exact Nat.le_refl _ | (simp; done) | omega) _) | (refine Up.step (by assumption) ?_))))).mono ?_); rintro e w3 ⟨rfl, hu3⟩; have B3 := (B2.old _).up hu3; obtain ⟨d0, d1, d2, e0, e1, e2⟩ := B3.c; have B4 := (Bx.new w2 _ _ _).up hu3; obtain ⟨g0, g1, g2, -, -, -⟩ := B4.c))
    (try simp only [Exit.inBlock, Exit.then])
    refine bodyPost_ret (v := .tuple #[.agg #[.int .i64 a, .int .i64 b, .string (s.extract 10 13)], .bool true]) ?_ rfl ?_
    · rw [results_cell_tmp rfl]
      go_simp
    · exact ⟨rfl, by (repeat (first | exact Up.rfl' _ | (refine Up.al _ ?_) | (refine Up.dr _ ?_) | (refine Up.dr1 ?_) | (refine Up.sc ?_ (by first | exact Nat.le_refl _ | (simp; done) | omega) _) | (refine Up.step (by assumption) ?_)))⟩
  · rw [if_neg ce]
    have hq := bts_ne ce
    clear ce
    go_enter Tryz.func51, Tryz.ntmps51
    go_wp2_with (first
      | (go_at_call 52; with_reducible (refine (hA _).mono ?_); rintro e w1 ⟨rfl, hu1⟩; have B1 := (Bx.new w _ _ _).up hu1)
      | (go_at_call 52; with_reducible (refine (hB _).mono ?_); rintro e w2 ⟨rfl, hu2⟩; have B2 := B1.up hu2; obtain ⟨d0, d1, d2, e0, e1, e2⟩ := B2.c; have z1 := B2.lt; have z2 := Nat.ne_of_lt z1)
      | (go_at_call 60; with_reducible (refine (hC _ (by (repeat (first | exact Up.rfl' _ | (refine Up.al _ ?_) | (refine Up.dr _ ?_) | (refine Up.dr1 ?_) | (refine Up.sc ?_ (by first | exact Nat.le_refl _ | (simp; done) | omega) _) | (refine Up.step (by assumption) ?_))))).mono ?_); rintro e w3 ⟨rfl, hu3⟩; have B3 := (B2.old _).up hu3; obtain ⟨d0, d1, d2, e0, e1, e2⟩ := B3.c; have B4 := (Bx.new w2 _ _ _).up hu3; obtain ⟨g0, g1, g2, -, -, -⟩ := B4.c))
    (try simp only [Exit.inBlock, Exit.then])
    refine bodyPost_ret (v := .tuple #[.agg #[.int .i64 0, .int .i64 0, .string ⟨#[]⟩], .bool false]) ?_ rfl ?_
    · rw [results_cell_tmp rfl]
      go_simp
    · exact ⟨rfl, by (repeat (first | exact Up.rfl' _ | (refine Up.al _ ?_) | (refine Up.dr _ ?_) | (refine Up.dr1 ?_) | (refine Up.sc ?_ (by first | exact Nat.le_refl _ | (simp; done) | omega) _) | (refine Up.step (by assumption) ?_)))⟩
theorem labV {w : World} {E : Env} (r : YLabel × Bool) : Rep w E (.tu [.ag (cLabel r.1), vb r.2]) (.tuple #[.agg #[.int .i64 r.1.service, .int .i64 r.1.serial, .string r.1.to_], .bool r.2]) := by
  refine .tu _ _ rfl fun j p x hp hx => ?_
  match j, hp, hx with
  | 0, hp, hx =>
    obtain rfl := Option.some.inj hp
    obtain rfl := Option.some.inj hx
    refine .ag _ _ rfl (fun j x hx3 => ?_) fun j p x hp hx3 => ?_
    · match j, hx3 with
      | 0, h | 1, h | 2, h => obtain rfl := Option.some.inj h; rfl
      | j + 3, h => simp at h
    · match j, hp, hx3 with
      | 0, hp, hx2 | 1, hp, hx2 | 2, hp, hx2 => obtain rfl := Option.some.inj hx2; obtain rfl := Option.some.inj hp; exact .c (.v _ rfl)
      | j + 3, hp, _ => simp [cLabel] at hp
  | 1, hp, hx =>
    obtain rfl := Option.some.inj hp
    obtain rfl := Option.some.inj hx
    exact .c (.v _ rfl)
  | j + 2, hp, hx => simp at hx
theorem ok_impl_ParseLabel (s : ByteArray) {r : YLabel × Bool} (H : m_impl_ParseLabel s = some r) : CallM Tryz.prog 51 [Go.Proofs.YtkfbakhnpfmfmaaGreatDoor.vs s] [] (.tu [.ag (cLabel r.1), vb r.2]) [] := by
  refine callM_r (fun w E => labV r) fun S β w vs hsz ht hl ha => ?_
  obtain ⟨x, hx, hr1⟩ := ha 0 _ rfl
  obtain rfl := ar1 hl hx
  obtain rfl := rv1 hr1
  have bad : ∀ {X : Prop}, some (noLabel, false) = some r → (Calls Tryz.prog 51 #[.string s] w fun e w' => e = .returned (.tuple #[.agg #[.int .i64 0, .int .i64 0, .string ⟨#[]⟩], .bool false]) ∧ Up w w') → Calls Tryz.prog 51 #[.string s] w fun e w' => e = .returned (.tuple #[.agg #[.int .i64 r.1.service, .int .i64 r.1.serial, .string r.1.to_], .bool r.2]) ∧ Up w w' := fun e h => by
    obtain rfl := Option.some.inj e
    exact h
  unfold m_impl_ParseLabel at H
  by_cases hm : s.size ≤ 100000000
  case neg => rw [if_neg hm] at H; cases H
  rw [if_pos hm] at H
  by_cases hs : s.size = 15
  · rw [if_pos hs] at H
    by_cases h1 : ∃ v, Lib.atoiAll (s.extract 0 1).data.toList = .ok v
    · obtain ⟨a, h1⟩ := h1
      rw [h1] at H
      by_cases h2 : ∃ v, Lib.atoiAll (s.extract 1 10).data.toList = .ok v
      · obtain ⟨b, h2⟩ := h2
        rw [h2] at H
        simp only at H
        cases hF : m_impl_FormatLabel ⟨a, b, s.extract 10 13⟩ with
        | none => rw [hF] at H; cases H
        | some t =>
          rw [hF, Option.bind_some] at H
          obtain rfl := Option.some.inj H
          refine (parseLabel_fmt s w ht hs h1 h2 hF).mono fun e w' ⟨h1, h2⟩ => ⟨?_, h2⟩
          rw [h1]
          split <;> rfl
      · have h2' : ∀ v, Lib.atoiAll (s.extract 1 10).data.toList ≠ .ok v := fun v e => h2 ⟨v, e⟩
        refine bad (X := True) ?_ (parseLabel_bad2 s w ht hs h1 h2')
        rw [← H]
        cases hh : Lib.atoiAll (s.extract 1 10).data.toList with
        | ok v => exact absurd hh (h2' v)
        | _ => rfl
    · have h1' : ∀ v, Lib.atoiAll (s.extract 0 1).data.toList ≠ .ok v := fun v e => h1 ⟨v, e⟩
      refine bad (X := True) ?_ (parseLabel_bad1 s w ht hs h1')
      rw [← H]
      cases hh : Lib.atoiAll (s.extract 0 1).data.toList with
      | ok v => exact absurd hh (h1' v)
      | _ => rfl
  · rw [if_neg hs] at H
    exact bad (X := True) H (parseLabel_len s w hs hm)
instance (s : ByteArray) : CT Tryz.prog (m_impl_ParseLabel s) := ⟨51, [vs s], [], fun r => .tu [.ag [vi r.1.service, vi r.1.serial, vs r.1.to_], vb r.2], fun r => [], ok_impl_ParseLabel s⟩
set_option maxHeartbeats 16000000
def m_p0_laws_markIntS_b0 (s0 : Int × Int × (List Int)) : Option ((Int × Int × (List Int)) ⊕ (Int × (List Int))) :=
 cond (decide (s0.2.1 < (s0.2.2.length : Int)))
 ((getI s0.2.2 s0.2.1).bind fun y1 =>
 some (.inl ((w64 (s0.1 + 1)), (w64 (s0.2.1 + 1)), (s0.2.2.set (Int.toNat s0.2.1) s0.1))))
 (some (.inr (s0.1, s0.2.2)))
instance : LoopE (m_p0_laws_markIntS_b0) := ⟨fun s0 => (.ms 0 :: vi s0.1 :: (U 3 (vi s0.2.1 :: (U 13 [])))), fun s0 => [some ⟨.of 3, 1, s0.2.2.map cInt⟩]⟩
def m_p0_laws_markIntS (a : List Int) (k : Int) : Option (Int × (List Int)) :=
 (iterF (m_p0_laws_markIntS_b0) NN (k, 0, a)).bind (fun o0 =>
 some (o0.1, o0.2))
instance (a : List Int) (k : Int) : CT Tryz.prog (m_p0_laws_markIntS a k) := ⟨36, [.ms 0, vi k], [some ⟨.of 3, 1, a.map cInt⟩], fun r => vi r.1, fun r => [some ⟨.of 3, 1, r.2.map cInt⟩], fun H => by replace H := H0 H; unfold m_p0_laws_markIntS at H; exact callM_of Tryz.func36 rfl Tryz.ntmps36 Tryz.results36 fun Q hQ hQn => wk3⟩
set_option maxRecDepth 4000
theorem st_km {t t' : TypeId} {l : Nat} : (TK.mk t (some t')).st [.ms l] = TK.mk t (some t') := nrfl rfl
attribute [go_sem] st_km
theorem cutB_setA {m m' : Mem} {α : Type} {f : α → List PV} [hf : PlainC f] {ρ : Nat → Option Nat} {t t' : TypeId} {k l j k2 n : Nat} {T2 : TK} {es2 : List (List PV)} {cs : List PV} {x : α} {xs : List α} (hm : msAt 0 cs = some (l, j)) (h1 : oneKd m = true) (hl : look m l = some ⟨T2, k2, es2⟩) (ht : T2.t = t') (h : cutL ρ m m' cs (f x)) :
    cutF ρ m m' ⟨⟨t, some t'⟩, k, (xs.map f).set n cs⟩ ⟨⟨t, some t'⟩, k, (xs.set n x).map f⟩ := by
  by_cases hn : n < xs.length
  · exact cutB_setK hn hm h1 hl ht h
  · rw [List.set_eq_of_length_le (by simpa using hn), List.set_eq_of_length_le (by omega)]
    exact cutB_same
theorem yc {p : Prop} (h : p := by (try simp only [U_s, U_z]); (with_reducible refine cutS ?_); (first | (with_reducible apply cutL_0) | (with_reducible apply cutL_1) | (with_reducible apply cutL_2) | (with_reducible apply cutL_3) | (with_reducible apply cutL_4) | (with_reducible apply cutL_5) | (with_reducible apply cutL_6) | (with_reducible apply cutL_7) | (with_reducible apply cutL_8) | (with_reducible apply cutL_9) | (with_reducible apply cutL_10) | (with_reducible apply cutL_11) | (with_reducible apply cutL_12)); (repeat' (first       | (with_reducible exact lowB_0) | (with_reducible refine lowB_c ?_) | (with_reducible refine lowB_d ?_) | (with_reducible refine cutT_un ?_)       | (with_reducible refine cutT_c ?_ ?_)       | (with_reducible exact cutT_nil)       | (with_reducible exact cutV_c rfl)       | exact cutV_c rfl       | (with_reducible exact cutL_nil)       | (with_reducible refine cutL_c ?_ ?_)       | exact .c _ rfl       | exact .un _       | exact cutC_ms rfl rfl       | exact cutC_be rfl rfl       | exact cutC_nilsl0 | exact cutC_nilsl       | exact cutC_nilms rfl rfl       | (refine cutC_fms rfl ?_) | (refine cutC_fmso rfl rfl ?_) | (refine cutC_fss rfl rfl rfl ?_)       | (refine cutC_fbe rfl rfl ?_)       | (with_reducible refine cutC_fnL ?_) | (with_reducible refine cutV_ag ?_)       | (with_reducible refine cutV_tu ?_)       | (with_reducible exact cutAs_nil)       | (with_reducible refine cutAs_c ?_ ?_)       | (with_reducible refine cutA_ag ?_)       | (with_reducible refine cutA_k ?_)       | (with_reducible refine cutV_k ?_)       | (with_reducible exact rowsOk_nil)       | (refine rowsOk_live rfl ?_ ?_)       | (refine rowsOk_new0 rfl ?_) | (refine rowsOk_new rfl ?_)       | (with_reducible refine rowsOk_dead ?_)       | (with_reducible refine cutB_one ?_)       | (with_reducible exact cutB_nil)       | (with_reducible refine cutB_two ?_)       | (with_reducible exact cutE_n)       | (with_reducible refine cutE_c ?_ ?_)       | (with_reducible exact cutB_same)       | (with_reducible refine cutB_set ?_)       | exact cutB_same       | (refine cutB_set ?_)       | (refine cutB_rep ?_)       | (refine cutB_snoc ?_)       | (refine cutB_setN rfl ?_)       | (refine cutB_snocK rfl rfl rfl rfl ?_)       | (refine cutB_setA rfl rfl rfl rfl ?_)       | (simp only [cInt, cStr, cBool, cB8, cl1Cur, cLabel, cParcel, cZone, cRate, cLeg, cNetwork, cTrip, cBooking, cScan, cOrder, cWorld, cLine, cAct, cOffice, cItem, cChute, cInlet, cCentre, cThing, cBelief])       | (with_unfolding_all rfl))); (all_goals first | (exact dropped_of rfl) | exact none); (first | done | fail)) : p := h
theorem wk4 {p : Prop} (h : p := by
  (simp only [List.length_cons, List.length_nil, Nat.reduceAdd, Nat.reduceSub, List.replicate_succ, List.replicate_zero, List.cons_append, List.nil_append, go_sem]);
  repeat' (first
    | ((with_reducible refine pDyn_fn ?_ ?_ ?_); (focus (simp [isR])); (focus (simp only [go_sem])); (simp only [List.cons_append, List.nil_append]))
    | ((with_reducible refine pwp_drwL H rfl (by kernel_rfl) ?_); (clear H; intro H; simp only [go_sem, Nat.reduceAdd, Nat.reduceSub, Nat.reduceMul, Nat.reduceLT, Nat.reduceLeDiff, Nat.reduceEqDiff, if_true, eq_self]))
    | ((with_reducible refine rhoSD (rhoH H) ?_); (refine call_ioD H rfl rfl ?_ ?_ ?_ ?_ ?_ ?_ ?_ ?_); (focus (first | rfl | (simp only [CT.args, List.map_cons, List.map_nil, renA, renC, ren1, sig_z, sig_s, sig_n]; done))); (focus (simp [CT.args, CT.m0, goodA, goodC, lowA, lowC, low1, isR])); (focus (first | exact List.nodup_nil | decide)); (focus ((simp only [CT.m0]); (repeat' (first | exact inRows_nil | (refine inRows_map (by rfl) ?_) | (refine inRows_one (by rfl) (by rfl) (by simp [goodC, lowC, low1, isR]) ?_))))); (focus (intro y_; simp [CT.mem, CT.m0])); (focus (intro y_; (simp only [CT.mem]); (repeat (first | exact hm_nil | exact hm_one | exact hm_oneT | (refine hm_c hm_one ?_) | (refine hm_c (goodD_cells (by simp [goodC, isR])) ?_) | exact goodD_cells (by simp [goodC, isR]) | (refine hm_none ?_))))); (focus (intro y_; (simp [CT.res, goodV, goodA, goodC, isR]))); (clear H; intro y_ hy H; simp only [CT.res, CT.mem, putIn, List.drop_succ_cons, List.drop_zero, Option.map_none, go_sem, Nat.reduceAdd, Nat.reduceSub, Nat.reduceMul, Nat.reduceLT, Nat.reduceLeDiff, Nat.reduceEqDiff, if_true, eq_self]))
    | ((with_reducible refine jnS (jnH H) ?_); (first | ((refine pwp_jn2 H ?_ ?_ (fun K_ hL H => ?_) (fun o_ H => ?_)); (focus (decide +kernel)); (focus (decide +kernel))) | ((refine pwp_jn H ?_ ?_ (fun K_ hL H => ?_) (fun o_ H => ?_)); (focus (decide +kernel)); (focus (decide +kernel)))))
    | ((with_reducible refine rhoS (rhoH H) ?_); (refine call_io H rfl rfl rfl ?_ ?_ ?_ ?_ ?_ ?_ ?_ ?_); (focus (first | rfl | (simp only [CT.args, List.map_cons, List.map_nil, renA, renC, ren1, sig_z, sig_s, sig_n]; done))); (focus (simp [CT.args, CT.m0, goodA, goodC, lowA, lowC, low1, isR])); (focus (first | exact List.nodup_nil | decide)); (focus ((simp only [CT.m0]); (repeat' (first | exact inRows_nil | (refine inRows_map (by rfl) ?_) | (refine inRows_one (by rfl) (by rfl) (by simp [goodC, lowC, low1, isR]) ?_))))); (focus (intro y_; simp [CT.mem, CT.m0])); (focus (intro y_; (simp only [CT.mem]); (repeat (first | exact hm_nil | exact hm_one | exact hm_oneT | (refine hm_c hm_one ?_) | (refine hm_c (goodD_cells (by simp [goodC, isR])) ?_) | exact goodD_cells (by simp [goodC, isR]) | (refine hm_none ?_))))); (focus (intro y_; (simp [CT.res, goodV, goodA, goodC, isR]))); (clear H; intro y_ hy H; simp only [CT.res, CT.mem, putIn, List.drop_succ_cons, List.drop_zero, Option.map_none, go_sem, Nat.reduceAdd, Nat.reduceSub, Nat.reduceMul, Nat.reduceLT, Nat.reduceLeDiff, Nat.reduceEqDiff, if_true, eq_self]))
    | ((with_reducible refine pwp_frzL H ?_ ?_); (focus (exact yc)); (clear H; intro z_ H))
    | ((with_reducible refine pwp_frz H ?_ ?_); (focus (exact yc)); (clear H; intro H))
    | ((with_reducible refine pwp_seq ?_); intro K_ hK)
    | ((with_reducible refine pwp_block ?_))
    | ((with_reducible refine pwp_region ?_); simp only [go_sem, Nat.reduceAdd, Nat.reduceSub, Nat.reduceMul, Nat.reduceLT, Nat.reduceLeDiff, Nat.reduceEqDiff, if_true, eq_self])
    | ((with_reducible refine pwp_skip ?_); (try simp only [thenP_normal, blockP_normal]))
    | ((with_reducible refine pwp_exit ?_); (simp only [thenP_exit, blockP_exit, thenP_normal, blockP_normal, if_true, if_false, eq_self, Nat.reduceEqDiff, Nat.one_ne_zero, Nat.zero_ne_one]); (try simp only [bexR, bsr, bsl] at H))
    | ((with_reducible refine pwp_ret ?_); (try simp only [thenP_ret, blockP_ret]))
    | ((with_reducible refine hQ _ _ ?_); (try simp only [bexR, bsr, bsl] at H); replace H := Hret H; subst H; simp only [Fin, resP, oneP, go_sem, Nat.reduceAdd, Nat.reduceSub, Nat.reduceMul, Nat.reduceLT, Nat.reduceLeDiff, Nat.reduceEqDiff, if_true, eq_self]; exact yc)
    | ((with_reducible refine hQn _ _ ?_); (try simp only [bexR, bsr, bsl] at H); replace H := Hret H; subst H; simp only [Fin, resP, oneP, go_sem, Nat.reduceAdd, Nat.reduceSub, Nat.reduceMul, Nat.reduceLT, Nat.reduceLeDiff, Nat.reduceEqDiff, if_true, eq_self]; exact yc)
    | ((with_reducible refine gateS ?_); (refine gate2_intro (fun hg => Hc1k H hg ?_) (fun hg => Hc2k H hg ?_)) <;> (clear H; intro H; simp only [go_sem, Nat.reduceAdd, Nat.reduceSub, Nat.reduceMul, Nat.reduceLT, Nat.reduceLeDiff, Nat.reduceEqDiff, if_true, eq_self]))
    | ((with_reducible refine pwp_condE ?_); simp only [evP_tmp, getD_z, getD_s, evP_bool]; (first | (with_reducible refine condP_tt ?_) | (with_reducible refine condP_ff ?_) | ((refine condP_intro (fun hg => Hc1k H hg ?_) (fun hg => Hc2k H hg ?_)) <;> (clear H; intro H))))
    | ((with_reducible refine idxS ?_); replace H := Hcall H; obtain ⟨y_, hy, H⟩ := H; (with_reducible apply idx_sl hy); (focus (first | (simp only [go_sem]; done) | (simp only [go_sem]; decide))); (focus (first | rfl | (simp only [go_sem]; rfl))); simp only [go_sem, Nat.reduceAdd, Nat.reduceSub, Nat.reduceMul, Nat.reduceLT, Nat.reduceLeDiff, Nat.reduceEqDiff, if_true, eq_self])
    | ((with_reducible refine idxM ?_); replace H := Hcall H; obtain ⟨y_, hy, H⟩ := H; (first | (refine idx_msb hy (by rfl) (by first | (simp only [go_sem]; done) | (simp only [go_sem]; decide)) (by first | rfl | (simp only [go_sem]; rfl)) ?_) | (refine idx_msov hy (by rfl) (by first | (simp only [go_sem]; done) | (simp only [go_sem]; decide)) (by first | rfl | (simp only [go_sem]; rfl)) ?_)); simp only [go_sem, Nat.reduceAdd, Nat.reduceSub, Nat.reduceMul, Nat.reduceLT, Nat.reduceLeDiff, Nat.reduceEqDiff, if_true, eq_self])
    | ((with_reducible refine idxB ?_); replace H := Hcall H; obtain ⟨y_, hy, H⟩ := H; (with_reducible apply idx_str hy); (focus (simp only [go_sem])); simp only [go_sem, Nat.reduceAdd, Nat.reduceSub, Nat.reduceMul, Nat.reduceLT, Nat.reduceLeDiff, Nat.reduceEqDiff, if_true, eq_self])
    | ((with_reducible refine callS ?_); replace H := Hcall H; obtain ⟨y_, hy, H⟩ := H; (first | ((with_reducible apply call_deep); (focus (exact CT.ok hy)); (focus (simp [isCA, isC, isC1])); (focus (exact Nat.le_of_ble_eq_true rfl)); (focus (exact xf)); (focus (first | exact gV_ag rfl | exact gV_tu rfl | exact gV_agM rfl | exact gV_tuM rfl | exact (fun h => (by cases h)) | (simp [CT.res, goodV, goodA, goodC, isR]))); (simp only [CT.res, CT.mem, go_sem, Nat.reduceAdd, Nat.reduceSub, Nat.reduceMul, Nat.reduceLT, Nat.reduceLeDiff, Nat.reduceEqDiff, if_true, eq_self])) | ((with_reducible apply call_deep); (focus (exact xs)); (focus (simp [isCA, isC, isC1])); (focus (exact Nat.le_of_ble_eq_true rfl)); (focus (exact xf)); (focus (first | exact gV_ag rfl | exact gV_tu rfl | exact gV_agM rfl | exact gV_tuM rfl | exact (fun h => (by cases h)) | (simp [CT.res, goodV, goodA, goodC, isR]))); (simp only [CT.res, CT.mem, go_sem, Nat.reduceAdd, Nat.reduceSub, Nat.reduceMul, Nat.reduceLT, Nat.reduceLeDiff, Nat.reduceEqDiff, if_true, eq_self])) | ((with_reducible apply call_flat); (focus (first | (simp only [snapA, snapV, snapC, snapL, live_look, look_z, look_s, rowQ_map, drop_mp, take_mp, List.forall_mem_nil, true_and, and_true, if_true]; (first | exact CT.ok hy | (simp only [all_nil, all_cons, isC, isC1, true_and, and_true, if_true]; exact CT.ok hy))) | (simp only [snapA, snapV, snapC, snapL, live_look, look_z, look_s, rowQ_map, drop_mp, take_mp, List.forall_mem_nil, true_and, and_true, if_true]; (first | (exact xs) | (simp only [all_nil, all_cons, isC, isC1, true_and, and_true, if_true]; (exact xs)))) | (simp only [snapA, snapV, snapC, snapL, live_look, look_z, look_s, rowQ_map, drop_mp, take_mp, List.forall_mem_nil, true_and, and_true, if_true]; (exact xs)))); (focus (exact Nat.le_of_ble_eq_true rfl)); (focus (exact xf)); (focus (first | exact gV_agF rfl | exact (fun _ => rfl) | (simp [CT.res, goodV, goodA, goodC, isF]))); (simp only [CT.res, CT.mem, go_sem, Nat.reduceAdd, Nat.reduceSub, Nat.reduceMul, Nat.reduceLT, Nat.reduceLeDiff, Nat.reduceEqDiff, if_true, eq_self]))))
    | ((with_reducible refine slcS ?_); replace H := Hchk H; obtain ⟨hc, H⟩ := H; (first | ((with_reducible apply slice_sl hc); (focus rfl); (focus rfl); (focus (first | (simp only [go_sem]; done) | (simp only [go_sem]; decide))); (focus (first | rfl | (intro x_; rfl))); simp only [go_sem, Nat.reduceAdd, Nat.reduceSub, Nat.reduceMul, Nat.reduceLT, Nat.reduceLeDiff, Nat.reduceEqDiff, if_true, eq_self]) | ((refine slice_msb hc (by rfl) (by rfl) (by rfl) (by first | (simp only [go_sem]; done) | (simp only [go_sem]; decide)) (by first | rfl | (simp only [go_sem]; rfl)) ?_); simp only [go_sem, Nat.reduceAdd, Nat.reduceSub, Nat.reduceMul, Nat.reduceLT, Nat.reduceLeDiff, Nat.reduceEqDiff, if_true, eq_self]) | ((with_reducible apply slice_str hc); (focus rfl); (focus rfl); (focus (simp only [go_sem])); simp only [go_sem, Nat.reduceAdd, Nat.reduceSub, Nat.reduceMul, Nat.reduceLT, Nat.reduceLeDiff, Nat.reduceEqDiff, if_true, eq_self])))
    | ((with_reducible refine appS ?_); replace H := Hchk H; obtain ⟨hc, H⟩ := H; (first | (refine app_msb hc (by first | (simp only [go_sem]; done) | (simp only [go_sem]; rfl)) (by first | (simp only [go_sem]; done) | (simp only [go_sem]; rfl)) (by first | (simp only [go_sem]; done) | (simp only [go_sem]; rfl)) (by first | (simp only [go_sem]; done) | (simp only [go_sem]; rfl)) (by rfl) (by first | rfl | exact src_ss' (by rfl) (by rfl) (by rfl)) rfl rfl (by intro x_; rfl) rfl ?_) | (refine app_nlb hc (by first | (simp only [go_sem]; done) | (simp only [go_sem]; rfl)) (by first | (simp only [go_sem]; done) | (simp only [go_sem]; rfl)) (by first | (simp only [go_sem]; done) | (simp only [go_sem]; rfl)) (by first | (simp only [go_sem]; done) | (simp only [go_sem]; rfl)) (by first | rfl | exact src_ss' (by rfl) (by rfl) (by rfl)) rfl rfl (by intro x_; rfl) ?_) | (refine app_msK hc rfl (by first | (simp only [go_sem]; done) | (simp only [go_sem]; rfl)) (by first | (simp only [go_sem]; done) | (simp only [go_sem]; rfl)) (by first | (simp only [go_sem]; done) | (simp only [go_sem]; rfl)) (by first | (simp only [go_sem]; done) | (simp only [go_sem]; rfl)) (by rfl) (by rfl) (by rfl) (by rfl) rfl rfl (by rfl) ?_)); simp only [go_sem, Nat.reduceAdd, Nat.reduceSub, Nat.reduceMul, Nat.reduceLT, Nat.reduceLeDiff, Nat.reduceEqDiff, if_true, eq_self])
    | ((with_reducible refine mkS ?_); replace H := Hchk H; obtain ⟨hc, H⟩ := H; (refine make_b hc (by first | (simp only [go_sem]; done) | (simp only [go_sem]; rfl)) (by first | (simp only [go_sem]; done) | (simp only [go_sem]; rfl)) (by first | (simp only [go_sem]; done) | (simp only [go_sem]; rfl)) (by first | (simp only [go_sem]; done) | (simp only [go_sem]; rfl)) rfl rfl ?_); simp only [go_sem, Nat.reduceAdd, Nat.reduceSub, Nat.reduceMul, Nat.reduceLT, Nat.reduceLeDiff, Nat.reduceEqDiff, if_true, eq_self])
    | ((with_reducible refine optS ?_); (first | (with_reducible refine opt_if (by decide) ?_) | (replace H := Hchk H; obtain ⟨hc, H⟩ := H; (first | (refine opt_if hc ?_) | (refine opt_if (of_decide_eq_true hc) ?_) | (refine opt_if ⟨rfl, of_decide_eq_true hc⟩ ?_)))); simp only [go_sem, Nat.reduceAdd, Nat.reduceSub, Nat.reduceMul, Nat.reduceLT, Nat.reduceLeDiff, Nat.reduceEqDiff, if_true, eq_self])
    | ((with_reducible refine loopS ?_); (refine pwp_loopH (Hlp H) ?_ ?_); (focus (simp only [LoopE.T, LoopE.M, U_s, U_z]; exact yc)); (clear H; intro n_ s_ H K_ hL; replace H := Hrd H; simp only [LoopE.T, LoopE.M, U_s, U_z]))
    | ((with_reducible refine pwp_draw (by kernel_rfl) ?_); simp only [go_sem, Nat.reduceAdd, Nat.reduceSub, Nat.reduceMul, Nat.reduceLT, Nat.reduceLeDiff, Nat.reduceEqDiff, if_true, eq_self])
    | ((with_reducible refine endD_intro (by kernel_rfl) ?_); (try simp only [thenP_normal, blockP_normal]))
    | ((with_reducible refine hK _ _ ?_); clear hK)
    | (clear hK; (with_reducible refine hK _ _ ?_); clear hK)
    | (clear hK; clear hK; (with_reducible refine hK _ _ ?_); clear hK)
    | (clear hK; clear hK; clear hK; (with_reducible refine hK _ _ ?_); clear hK)
    | (clear hK; clear hK; clear hK; clear hK; (with_reducible refine hK _ _ ?_); clear hK)
    | (clear hK; clear hK; clear hK; clear hK; clear hK; (with_reducible refine hK _ _ ?_); clear hK)
    | ((with_reducible refine And.intro ?_ ?_); omega)
    | (simp only [nxt_app, nxd_app, nxe_app, atM_app]; simp only [go_sem, Nat.reduceAdd, Nat.reduceSub, Nat.reduceMul, Nat.reduceLT, Nat.reduceLeDiff, Nat.reduceEqDiff, if_true, eq_self])
    | ((first | simp only [lit3 hy, Option.map_some, List.drop_zero, go_sem] | simp only [lit3s hy, Option.map_some, List.drop_zero, go_sem] | simp only [idxmapN hy, idxmap hy, idxset hy, go_sem, Nat.reduceAdd, Nat.reduceSub, Nat.reduceMul, Nat.reduceLT, Nat.reduceLeDiff, Nat.reduceEqDiff, if_true, eq_self] | simp only [idxmap hy, idxset hy, go_sem, Nat.reduceAdd, Nat.reduceSub, Nat.reduceMul, Nat.reduceLT, Nat.reduceLeDiff, Nat.reduceEqDiff, if_true, eq_self]))
    | ((with_reducible replace H := HexL H); (with_reducible refine hL _ _ _ H ?_); (try simp only [LoopE.T, LoopE.M, U_s, U_z]); exact yc)
    | ((with_reducible replace H := HexL H); clear hL; (with_reducible refine hL _ _ _ H ?_); (try simp only [LoopE.T, LoopE.M, U_s, U_z]); exact yc)
    | ((with_reducible refine jnX H hL ?_); exact yc)
    | (with_reducible exact (Hnone H).elim)
    | ((with_reducible replace H := rgH H); obtain ⟨y_, hy, H⟩ := H; (first | simp only [lit3 hy, Option.map_some, List.drop_zero, go_sem] | simp only [lit3s hy, Option.map_some, List.drop_zero, go_sem] | simp only [idxmapN hy, idxmap hy, idxset hy, go_sem, Nat.reduceAdd, Nat.reduceSub, Nat.reduceMul, Nat.reduceLT, Nat.reduceLeDiff, Nat.reduceEqDiff, if_true, eq_self] | simp only [idxmap hy, idxset hy, go_sem, Nat.reduceAdd, Nat.reduceSub, Nat.reduceMul, Nat.reduceLT, Nat.reduceLeDiff, Nat.reduceEqDiff, if_true, eq_self])))) : p := h
def m_laws_heldIntS_b0 (a : List Int) (s0 : Int × Int) : Option ((Int × Int) ⊕ (Int ⊕ Int)) :=
 cond (decide (s0.2 < (a.length : Int)))
 ((getI a s0.2).bind fun y1 =>
 cond (!decide (y1 = s0.1))
 (some (.inr (.inr (-1))))
 (some (.inl ((w64 (s0.1 + 1)), (w64 (s0.2 + 1))))))
 (some (.inr (.inl s0.1)))
instance (a : List Int) : LoopE (m_laws_heldIntS_b0 a) := ⟨fun s0 => (.sl (a.map cInt) :: vi s0.1 :: (U 3 (vi s0.2 :: (U 15 [])))), fun s0 => []⟩
def m_laws_heldIntS (a : List Int) (k : Int) : Option Int :=
 (iterF (m_laws_heldIntS_b0 a) NN (k, 0)).bind (selim (fun o0 =>
 some o0) (fun r => some r))
instance (a : List Int) (k : Int) : CT Tryz.prog (m_laws_heldIntS a k) := ⟨37, [.sl (a.map cInt), vi k], [], fun r => vi r, fun r => [], fun H => by replace H := H0 H; unfold m_laws_heldIntS at H; exact callM_of Tryz.func37 rfl Tryz.ntmps37 Tryz.results37 fun Q hQ hQn => wk4⟩
theorem iter_st {σ ο : Type} {body : σ → Option (σ ⊕ ο)} (S : Nat → σ) {n : Nat} {o : ο} (h1 : ∀ i, i < n → body (S i) = some (.inl (S (i + 1)))) (h2 : body (S n) = some (.inr o)) : ∀ N, n < N → iterF body N (S 0) = some o := by
  have key : ∀ d j, j + d = n → ∀ N, d < N → iterF body N (S j) = some o := by
    intro d
    induction d with
    | zero =>
      intro j hj N hN
      obtain ⟨N, rfl⟩ : ∃ M, N = M + 1 := ⟨N - 1, by omega⟩
      have : j = n := by omega
      subst this
      unfold iterF; rw [h2]; rfl
    | succ d ih =>
      intro j hj N hN
      obtain ⟨N, rfl⟩ : ∃ M, N = M + 1 := ⟨N - 1, by omega⟩
      unfold iterF
      rw [h1 j (by omega)]
      exact ih (j + 1) (by omega) N (by omega)
  intro N hN
  exact key n 0 (by omega) N hN
theorem getI_lt' {α : Type} {xs : List α} {i : Nat} (h : i < xs.length) : getI xs (i : Int) = some xs[i] := by
  rw [getI_nat]; exact List.getElem?_eq_getElem h
theorem set_step {α : Type} {M a : List α} {i : Nat} {v : α} (hM : M.length = i) (hi : i < a.length) : (M ++ a.drop i).set i v = (M ++ [v]) ++ a.drop (i + 1) := by
  rw [List.drop_eq_getElem_cons hi, List.set_append_right _ _ (by omega)]
  rw [show i - M.length = 0 by omega, List.set_cons_zero, List.append_assoc]
  rfl
theorem txt_some {k : Int} (h : 1 ≤ k ∧ k ≤ 1099511627776) : m_laws_markText k = some (markTxt k) := by unfold m_laws_markText; rw [if_pos h]
def mkI (k : Int) (n : Nat) : List Int := (List.range n).map fun i : Nat => k + (i : Int)
theorem mkI_len {k : Int} {n : Nat} : (mkI k n).length = n := by simp [mkI]
theorem mkI_succ {k : Int} {n : Nat} : mkI k (n + 1) = mkI k n ++ [k + (n : Int)] := by simp [mkI, List.range_succ]
theorem markIntS_eq (a : List Int) (k : Int) (ha : a.length ≤ 1048576) (h0 : 1 ≤ k) (h1 : k ≤ 1000000000) : m_p0_laws_markIntS a k = some (k + a.length, mkI k a.length) := by
  unfold m_p0_laws_markIntS
  have e0 : (k, 0, a) = (fun i : Nat => ((k + (i : Int), (i : Int), mkI k i ++ a.drop i) : Int × Int × List Int)) 0 := by simp [mkI]
  have hh : iterF m_p0_laws_markIntS_b0 NN ((fun i : Nat => (k + (i : Int), (i : Int), mkI k i ++ a.drop i)) 0) = some ((k + a.length, mkI k a.length)) := by
    refine iter_st (fun i : Nat => (k + (i : Int), (i : Int), mkI k i ++ a.drop i)) (n := a.length) ?_ ?_ NN (by unfold NN; omega)
    · intro i hi
      have hL : i < (mkI k i ++ a.drop i).length := by simp [mkI_len]; omega
      have w1 : w64 (k + (i : Int) + 1) = k + ((i + 1 : Nat) : Int) := by rw [w64_in (by omega)]; omega
      have w2 : w64 ((i : Int) + 1) = ((i + 1 : Nat) : Int) := by rw [w64_in (by omega)]; omega
      have d1 : decide ((i : Int) < ((mkI k i ++ a.drop i).length : Int)) = true := decide_eq_true (by omega)
      simp only [m_p0_laws_markIntS_b0, d1, cond_true, getI_lt' hL, Option.bind_some, w1, w2, Int.toNat_natCast, set_step mkI_len hi, mkI_succ]
    · have d1 : decide ((a.length : Int) < ((mkI k a.length).length : Int)) = false := decide_eq_false (by simp [mkI_len])
      simp only [m_p0_laws_markIntS_b0, List.drop_length, List.append_nil, d1, cond_false]
  rw [e0, hh]
  rfl
theorem heldIntS_eq (k : Int) (n : Nat) (hn : n ≤ 1048576) (h0 : 1 ≤ k) (h1 : k ≤ 1000000000) : m_laws_heldIntS (mkI k n) k = some (k + n) := by
  unfold m_laws_heldIntS
  have e0 : (k, 0) = (fun i : Nat => ((k + (i : Int), (i : Int)) : Int × Int)) 0 := by simp
  have hh : iterF (m_laws_heldIntS_b0 (mkI k n)) NN ((fun i : Nat => (k + (i : Int), (i : Int))) 0) = some (Sum.inl (k + n)) := by
    refine iter_st (fun i : Nat => (k + (i : Int), (i : Int))) (n := n) ?_ ?_ NN (by unfold NN; omega)
    · intro i hi
      have hL : i < (mkI k n).length := by rw [mkI_len]; exact hi
      have w1 : w64 (k + (i : Int) + 1) = k + ((i + 1 : Nat) : Int) := by rw [w64_in (by omega)]; omega
      have w2 : w64 ((i : Int) + 1) = ((i + 1 : Nat) : Int) := by rw [w64_in (by omega)]; omega
      have d1 : decide ((i : Int) < ((mkI k n).length : Int)) = true := decide_eq_true (by omega)
      have g : (mkI k n)[i] = k + (i : Int) := by simp [mkI]
      simp only [m_laws_heldIntS_b0, d1, cond_true, getI_lt' hL, Option.bind_some, w1, w2, g, decide_true, Bool.not_true, cond_false]
    · have d1 : decide ((n : Int) < ((mkI k n).length : Int)) = false := decide_eq_false (by simp [mkI_len])
      simp only [m_laws_heldIntS_b0, d1, cond_false]
  rw [e0, hh]
  rfl
def m_laws_heldActS_b0 (a : List YAct) (s0 : Int × Int) : Option ((Int × Int) ⊕ (Int ⊕ Int)) :=
 cond (decide (s0.2 < (a.length : Int)))
 ((getI a s0.2).bind fun y1 =>
 cond (!decide (y1.kind = s0.1))
 (some (.inr (.inr (-1))))
 ((getI a s0.2).bind fun y2 =>
 cond (!decide (y2.parcel.label.service = (w64 (s0.1 + 1))))
 (some (.inr (.inr (-1))))
 ((getI a s0.2).bind fun y3 =>
 cond (!decide (y3.parcel.label.serial = (w64 ((w64 (s0.1 + 1)) + 1))))
 (some (.inr (.inr (-1))))
 ((getI a s0.2).bind fun y4 =>
 (m_laws_markText (w64 ((w64 ((w64 (s0.1 + 1)) + 1)) + 1))).bind fun y5 =>
 cond (!decide (y4.parcel.label.to_ = y5))
 (some (.inr (.inr (-1))))
 ((getI a s0.2).bind fun y6 =>
 (m_laws_markText (w64 ((w64 ((w64 ((w64 (s0.1 + 1)) + 1)) + 1)) + 1))).bind fun y7 =>
 cond (!decide (y6.parcel.from_ = y7))
 (some (.inr (.inr (-1))))
 ((getI a s0.2).bind fun y8 =>
 cond (!decide (y8.parcel.weight = (w64 ((w64 ((w64 ((w64 ((w64 (s0.1 + 1)) + 1)) + 1)) + 1)) + 1))))
 (some (.inr (.inr (-1))))
 ((getI a s0.2).bind fun y9 =>
 (m_laws_heldIntS y9.parcel.sides (w64 ((w64 ((w64 ((w64 ((w64 ((w64 (s0.1 + 1)) + 1)) + 1)) + 1)) + 1)) + 1))).bind fun y10 =>
 cond (decide (y10 < 0))
 (some (.inr (.inr (-1))))
 ((getI a s0.2).bind fun y11 =>
 cond (!decide (y11.parcel.value = y10))
 (some (.inr (.inr (-1))))
 ((getI a s0.2).bind fun y12 =>
 cond (!decide (y12.order = (w64 (y10 + 1))))
 (some (.inr (.inr (-1))))
 ((getI a s0.2).bind fun y13 =>
 cond (!decide (y13.amount = (w64 ((w64 (y10 + 1)) + 1))))
 (some (.inr (.inr (-1))))
 ((getI a s0.2).bind fun y14 =>
 cond (!decide (y14.until_ = (w64 ((w64 ((w64 (y10 + 1)) + 1)) + 1))))
 (some (.inr (.inr (-1))))
 ((getI a s0.2).bind fun y15 =>
 cond (!decide (y15.trip.leg = (w64 ((w64 ((w64 ((w64 (y10 + 1)) + 1)) + 1)) + 1))))
 (some (.inr (.inr (-1))))
 ((getI a s0.2).bind fun y16 =>
 cond (!decide (y16.trip.day = (w64 ((w64 ((w64 ((w64 ((w64 (y10 + 1)) + 1)) + 1)) + 1)) + 1))))
 (some (.inr (.inr (-1))))
 (some (.inl ((w64 ((w64 ((w64 ((w64 ((w64 ((w64 (y10 + 1)) + 1)) + 1)) + 1)) + 1)) + 1)), (w64 (s0.2 + 1))))))))))))))))))
 (some (.inr (.inl s0.1)))
instance (a : List YAct) : LoopE (m_laws_heldActS_b0 a) := ⟨fun s0 => (.sl (a.map cAct) :: vi s0.1 :: (U 3 (vi s0.2 :: (U 138 [])))), fun s0 => []⟩
def m_laws_heldActS (a : List YAct) (k : Int) : Option Int :=
 (iterF (m_laws_heldActS_b0 a) NN (k, 0)).bind (selim (fun o0 =>
 some o0) (fun r => some r))
instance (a : List YAct) (k : Int) : CT Tryz.prog (m_laws_heldActS a k) := ⟨15, [.sl (a.map cAct), vi k], [], fun r => vi r, fun r => [], fun H => by replace H := H0 H; unfold m_laws_heldActS at H; exact callM_of Tryz.func15 rfl Tryz.ntmps15 Tryz.results15 fun Q hQ hQn => wk4⟩
set_option maxHeartbeats 4000000
def mAc (k : Int) (n : Nat) : YAct := ⟨k, ⟨⟨k + 1, k + 2, markTxt (k + 3)⟩, markTxt (k + 4), k + 5, mkI (k + 6) n, k + 6 + n⟩, k + 7 + n, k + 8 + n, k + 9 + n, ⟨k + 10 + n, k + 11 + n⟩⟩
def nAc (k : Int) : List YAct → Int
  | [] => k
  | o :: os => nAc (k + 12 + (o.parcel.sides.length : Int)) os
def mkAc (k : Int) : List YAct → List YAct
  | [] => []
  | o :: os => mAc k o.parcel.sides.length :: mkAc (k + 12 + (o.parcel.sides.length : Int)) os
theorem nAc_ge (k : Int) (os : List YAct) : k ≤ nAc k os := by
  induction os generalizing k with
  | nil => exact Int.le_refl _
  | cons o os ih => have := ih (k + 12 + (o.parcel.sides.length : Int)); unfold nAc; omega
theorem nAc_snoc (k : Int) (os : List YAct) (o : YAct) : nAc k (os ++ [o]) = nAc k os + 12 + (o.parcel.sides.length : Int) := by
  induction os generalizing k with
  | nil => rfl
  | cons x os ih => simp only [List.cons_append, nAc]; exact ih _
theorem nAc_app (k : Int) (xs ys : List YAct) : nAc k (xs ++ ys) = nAc (nAc k xs) ys := by
  induction xs generalizing k with
  | nil => rfl
  | cons x os ih => simp only [List.cons_append, nAc]; exact ih _
theorem nAc_take (k : Int) (os : List YAct) (i : Nat) : nAc k (os.take i) ≤ nAc k os := by
  have := nAc_app k (os.take i) (os.drop i)
  rw [List.take_append_drop] at this
  rw [this]; exact nAc_ge _ _
theorem nAc_le (k : Int) (os : List YAct) (hs : ∀ a ∈ os, a.parcel.sides.length ≤ 3) : nAc k os ≤ k + 15 * os.length := by
  induction os generalizing k with
  | nil => simp [nAc]
  | cons o os ih =>
    have := ih (k + 12 + (o.parcel.sides.length : Int)) fun a ha => hs a (by simp [ha])
    have := hs o (by simp)
    unfold nAc
    simp only [List.length_cons]
    omega
theorem mkAc_len (k : Int) (os : List YAct) : (mkAc k os).length = os.length := by
  induction os generalizing k with
  | nil => rfl
  | cons o os ih => simp only [mkAc, List.length_cons, ih]
theorem mkAc_get (k : Int) (os : List YAct) (i : Nat) : (mkAc k os)[i]? = (os[i]?).map fun o => mAc (nAc k (os.take i)) o.parcel.sides.length := by
  induction os generalizing k i with
  | nil => simp [mkAc]
  | cons o os ih =>
    cases i with
    | zero => simp [mkAc, nAc]
    | succ i => simp only [mkAc, List.getElem?_cons_succ, ih, List.take_succ_cons, nAc]
theorem heldActS_eq (os : List YAct) (k : Int) (hn : os.length ≤ 1048576) (hw : ∀ o ∈ os, o.parcel.sides.length ≤ 1048576) (h0 : 1 ≤ k) (h1 : nAc k os ≤ 1000000000) : m_laws_heldActS (mkAc k os) k = some (nAc k os) := by
  unfold m_laws_heldActS
  have e0 : (k, 0) = (fun i : Nat => ((nAc k (os.take i), (i : Int)) : Int × Int)) 0 := by simp [nAc]
  have hh : iterF (m_laws_heldActS_b0 (mkAc k os)) NN ((fun i : Nat => (nAc k (os.take i), (i : Int))) 0) = some (Sum.inl (nAc k os)) := by
    refine iter_st (fun i : Nat => (nAc k (os.take i), (i : Int))) (n := os.length) ?_ ?_ NN (by unfold NN; omega)
    · intro i hi
      have hx : os[i]? = some os[i] := List.getElem?_eq_getElem hi
      have hm : os[i] ∈ os := List.getElem_mem hi
      have hwl := hw _ hm
      have hq2 : nAc k (os.take (i + 1)) = nAc k (os.take i) + 12 + (os[i].parcel.sides.length : Int) := by rw [List.take_add_one, hx]; exact nAc_snoc _ _ _
      have hq0 : 1 ≤ nAc k (os.take i) := Int.le_trans h0 (nAc_ge _ _)
      have hq1 : nAc k (os.take (i + 1)) ≤ 1000000000 := Int.le_trans (nAc_take _ _ _) h1
      have hg : getI (mkAc k os) (i : Int) = some (mAc (nAc k (os.take i)) os[i].parcel.sides.length) := by rw [getI_nat, mkAc_get, hx]; rfl
      have d1 : decide ((i : Int) < ((mkAc k os).length : Int)) = true := decide_eq_true (by rw [mkAc_len]; omega)
      rw [hq2] at hq1 ⊢
      generalize nAc k (os.take i) = q at *
      generalize os[i].parcel.sides.length = n at *
      generalize mkAc k os = L at *
      have w1 : w64 (q + 1) = q + 1 := w64_in (by omega)
      have w2 : w64 (q + 1 + 1) = q + 2 := by rw [w64_in (by omega)]; omega
      have w3 : w64 (q + 2 + 1) = q + 3 := by rw [w64_in (by omega)]; omega
      have w4 : w64 (q + 3 + 1) = q + 4 := by rw [w64_in (by omega)]; omega
      have w5 : w64 (q + 4 + 1) = q + 5 := by rw [w64_in (by omega)]; omega
      have w6 : w64 (q + 5 + 1) = q + 6 := by rw [w64_in (by omega)]; omega
      have hT := heldIntS_eq (q + 6) n hwl (by omega) (by omega)
      have w7 : w64 (q + 6 + (n : Int) + 1) = q + 7 + n := by rw [w64_in (by omega)]; omega
      have w8 : w64 (q + 7 + (n : Int) + 1) = q + 8 + n := by rw [w64_in (by omega)]; omega
      have w9 : w64 (q + 8 + (n : Int) + 1) = q + 9 + n := by rw [w64_in (by omega)]; omega
      have w10 : w64 (q + 9 + (n : Int) + 1) = q + 10 + n := by rw [w64_in (by omega)]; omega
      have w11 : w64 (q + 10 + (n : Int) + 1) = q + 11 + n := by rw [w64_in (by omega)]; omega
      have w12 : w64 (q + 11 + (n : Int) + 1) = q + 12 + n := by rw [w64_in (by omega)]; omega
      have wi : w64 ((i : Int) + 1) = ((i + 1 : Nat) : Int) := by rw [w64_in (by omega)]; omega
      have t0 : m_laws_markText (q + 3) = some (markTxt (q + 3)) := txt_some (by omega)
      have t1 : m_laws_markText (q + 4) = some (markTxt (q + 4)) := txt_some (by omega)
      have dn : decide (q + 6 + (n : Int) < 0) = false := decide_eq_false (by omega)
      simp only [m_laws_heldActS_b0, d1, cond_true, hg, Option.bind_some, mAc, w1, w2, w3, w4, w5, w6, t0, t1, hT, dn, w7, w8, w9, w10, w11, w12, wi, decide_true, Bool.not_true, cond_false]
    · have d1 : decide ((os.length : Int) < ((mkAc k os).length : Int)) = false := decide_eq_false (by rw [mkAc_len]; omega)
      simp only [m_laws_heldActS_b0, d1, cond_false, List.take_length]
  rw [e0, hh]
  rfl
set_option maxRecDepth 100000
set_option maxHeartbeats 8000000
structure MX (w a : World) (g n : Nat) (P : Nat → Option Value) (Q : Nat → Prop) : Prop where
  os : a.os = w.os
  tape : a.tape = w.tape
  output : a.output = w.output
  size : w.heap.size ≤ a.heap.size
  row : ∃ c : Array Value, a.heap[g]? = some (.cells c 30 (0, 0)) ∧ c.size = n ∧ ∀ o v, P o = some v → c[o]? = some v
  oth : ∀ b, b < w.heap.size → b ≠ g → ¬ Q b → a.heap[b]? = w.heap[b]?
section
variable {w a b : World} {g n : Nat} {P P' : Nat → Option Value} {Q : Nat → Prop}
theorem MX.lt (h : MX w a g n P Q) : g < a.heap.size := by obtain ⟨c, h1, _⟩ := h.row; exact (Array.getElem?_eq_some_iff.1 h1).1
theorem MX.start (h : ∃ c : Array Value, w.heap[g]? = some (.cells c 30 (0, 0)) ∧ c.size = n ∧ ∀ o v, P o = some v → c[o]? = some v) : MX w w g n P Q := ⟨rfl, rfl, rfl, Nat.le_refl _, h, fun _ _ _ _ => rfl⟩
theorem MX.set (h : MX w a g n P Q) (o : Nat) (v : Value) (ho : o < n) : MX w (a.setCell ⟨g, o, none⟩ v) g n (fun x => if x = o then some v else P x) Q := by
  obtain ⟨c, h1, h2, h3⟩ := h.row
  refine ⟨h.os, h.tape, h.output, by rw [World.size_setCell]; exact h.size, ⟨_, heap_setCell_same a g o c _ v h1, by simpa using h2, fun x u hx => ?_⟩, fun x hx hg hq => (heap_setCell_other a ⟨g, o, none⟩ x v hg).trans (h.oth x hx hg hq)⟩
  by_cases e : x = o
  · subst e
    simp only [if_true] at hx
    rw [Array.getElem?_setIfInBounds_self_of_lt (by omega)]; exact hx
  · simp only [e, if_false] at hx
    rw [Array.getElem?_setIfInBounds_ne (Ne.symm e)]; exact h3 x u hx
theorem MX.up (h : MX w a g n P Q) (k : Up a b) : MX w b g n P Q := by
  obtain ⟨c, h1, h2, h3⟩ := h.row
  exact ⟨k.os.trans h.os, k.tape.trans h.tape, k.output.trans h.output, Nat.le_trans h.size k.size, ⟨c, (k.block g h.lt).trans h1, h2, h3⟩, fun x hx hg hq => (k.block x (Nat.lt_of_lt_of_le hx h.size)).trans (h.oth x hx hg hq)⟩
theorem MX.upO (h : MX w a g n P Q) {O : Nat → Prop} (k : UpO O a b) (hO : ∀ x, O x → x ≠ g ∧ Q x) : MX w b g n P Q := by
  obtain ⟨c, h1, h2, h3⟩ := h.row
  exact ⟨k.os.trans h.os, k.tape.trans h.tape, k.output.trans h.output, Nat.le_trans h.size k.size, ⟨c, (k.block g h.lt fun ho => (hO g ho).1 rfl).trans h1, h2, h3⟩, fun x hx hg hq => (k.block x (Nat.lt_of_lt_of_le hx h.size) fun ho => hq (hO x ho).2).trans (h.oth x hx hg hq)⟩
theorem MX.weak (h : MX w a g n P Q) (hP : ∀ o v, P' o = some v → P o = some v) : MX w a g n P' Q := by
  obtain ⟨c, h1, h2, h3⟩ := h.row
  exact ⟨h.os, h.tape, h.output, h.size, ⟨c, h1, h2, fun o v ho => h3 o v (hP o v ho)⟩, h.oth⟩
theorem MX.more (h : MX w a g n P Q) {Q' : Nat → Prop} (hQ : ∀ x, Q x → Q' x) : MX w a g n P Q' := ⟨h.os, h.tape, h.output, h.size, h.row, fun x hx hg hq => h.oth x hx hg fun h' => hq (hQ x h')⟩
theorem MX.trans (h : MX w a g n P Q) {Q' : Nat → Prop} (k : MX a b g n P' Q') (hQ : ∀ x, Q' x → Q x) : MX w b g n P' Q :=
  ⟨k.os.trans h.os, k.tape.trans h.tape, k.output.trans h.output, Nat.le_trans h.size k.size, k.row, fun x hx hg hq => (k.oth x (Nat.lt_of_lt_of_le hx h.size) hg fun h' => hq (hQ x h')).trans (h.oth x hx hg hq)⟩
theorem MX.cell (h : MX w a g n P Q) {o : Nat} {v : Value} (hP : P o = some v) : a.cell? ⟨g, o, none⟩ = some v := by
  obtain ⟨c, h1, h2, h3⟩ := h.row
  rw [cell_of_row a g o c _ (0, 0) h1]; exact h3 o v hP
theorem MX.any (h : MX w a g n P Q) {o : Nat} (ho : o < n) : (∃ u, a.cell? ⟨g, o, none⟩ = some u) ∧ a.frozen? ⟨g, o, none⟩ = false := by
  obtain ⟨c, h1, h2, h3⟩ := h.row
  exact ⟨⟨c[o]'(by omega), by rw [cell_of_row a g o c _ (0, 0) h1]; exact Array.getElem?_eq_getElem _⟩, frozen_of_row a g o c _ h1⟩
end
def SdB (w : World) (xs : List Int) (u : Value) (B : Blk) : Prop :=
  (xs = [] ∧ B.z = true ∧ ∃ A c, u = .slice A 0 c) ∨ (B.z = false ∧ u = B.sv ∧ BlkRep w E00 ⟨.of 3, 1, xs.map cInt⟩ B)
theorem SdB.keep {w a : World} {xs : List Int} {u : Value} {B : Blk} (h : SdB w xs u B) (hh : B.z = false → a.heap[B.b]? = w.heap[B.b]?) : SdB a xs u B := by
  rcases h with h | ⟨h1, h2, h3⟩
  · exact .inl h
  · exact .inr ⟨h1, h2, h3.keep0 hh⟩
theorem SdB.one {w : World} {xs : List Int} {u : Value} {B : Blk} (h : SdB w xs u B) : ∃ A c, u = .slice A xs.length c := by
  rcases h with ⟨rfl, _, A, c, rfl⟩ | ⟨h1, rfl, h3⟩
  · exact ⟨A, c, rfl⟩
  · refine ⟨some ⟨B.b, 0, none⟩, B.c, ?_⟩
    have := h3.n
    simp only [List.length_map] at this
    simp [Blk.sv, h1, this]
theorem SdB.lt {a : World} {xs : List Int} {u : Value} {B : Blk} (h : SdB a xs u B) (hz : B.z = false) : B.b < a.heap.size := by
  rcases h with ⟨_, h2, _⟩ | ⟨_, _, hb⟩
  · rw [hz] at h2; cases h2
  · obtain ⟨cells, m1, _⟩ := hb.mem hz
    exact (Array.getElem?_eq_some_iff.1 m1).1
theorem markIntS_0 (A : Option Addr) (c : Nat) (k : Int) (w : World) : Calls Tryz.prog 36 #[.slice A 0 c, .int .i64 k] w fun e w' => e = .returned (.int .i64 k) ∧ w' = w := by
  go_enter Tryz.func36, Tryz.ntmps36
  go_wp2
  go_loopw [5, 1] (fun i kk wr => i = .int .i64 0 ∧ kk = .int .i64 k ∧ wr = w) (fun _ _ _ => 0)
  case atStart => exact ⟨rfl, rfl, rfl⟩
  case round =>
    obtain ⟨rfl, rfl, rfl⟩ := hrel
    go_wp2
    go_ret
    exact ⟨rfl, rfl⟩
theorem int_v {cs : List PV} {l : List Int} (h : cs ∈ l.map cInt) {p : PV} (hp : p ∈ cs) : ∃ v, p = .v v := by
  obtain ⟨x, _, rfl⟩ := List.mem_map.1 h
  simp only [cInt, List.mem_cons, List.not_mem_nil, or_false] at hp
  exact ⟨_, hp⟩
theorem tab_low {w0 w : World} (h : TabF w0) (hu : Up w0 w) {O : Nat → Prop} (hO : ∀ b, O b → w0.heap.size ≤ b) : Tab w O :=
  ⟨fun b => b < w0.heap.size, fun b hb => ⟨Nat.lt_of_lt_of_le hb hu.size, fun ho => by have := hO b ho; omega⟩, fun w' hw' => tabF_eq h fun b hb => (hw' b hb).trans (hu.block b hb)⟩
theorem markSd {w0 w : World} (h0 : TabF w0) (hu : Up w0 w) {xs : List Int} {u : Value} {B : Blk} (hB : B.z = false → w0.heap.size ≤ B.b) (h : SdB w xs u B) (hn : xs.length ≤ 1048576) {k : Int} (k0 : 1 ≤ k) (k1 : k ≤ 1000000000) :
    Calls Tryz.prog 36 #[u, .int .i64 k] w fun e w' => e = .returned (.int .i64 (k + (xs.length : Int))) ∧ SdB w' (mkI k xs.length) u B ∧ UpO (fun b => B.z = false ∧ b = B.b) w w' := by
  rcases h with ⟨rfl, hz, A, c, rfl⟩ | ⟨hz, rfl, hb⟩
  · refine (markIntS_0 A c k w).mono ?_
    rintro e w' ⟨rfl, rfl⟩
    exact ⟨by simp, .inl ⟨rfl, hz, A, c, rfl⟩, UpO.refl _ _⟩
  · have hm := markIntS_eq xs k hn k0 k1
    have hC := CT.ok (P := Tryz.prog) hm
    simp only [CT.f, CT.args, CT.m0, CT.res, CT.mem] at hC
    refine (hC.mark (fun cs hcs p hp => int_v hcs hp) hb (tab_low h0 hu fun b hb => hb.2 ▸ hB hb.1)).mono ?_
    rintro e w' ⟨rfl, h2, h3⟩
    exact ⟨rfl, .inr ⟨hz, rfl, h2⟩, h3⟩
def actMV (k : Int) (n : Nat) : Nat → Option Value
  | 0 => some (.int .i64 k)
  | 1 => some (.int .i64 (k + 1))
  | 2 => some (.int .i64 (k + 1 + 1))
  | 3 => some (.string (markTxt (k + 1 + 1 + 1)))
  | 4 => some (.string (markTxt (k + 1 + 1 + 1 + 1)))
  | 5 => some (.int .i64 (k + 1 + 1 + 1 + 1 + 1))
  | 7 => some (.int .i64 (k + 1 + 1 + 1 + 1 + 1 + 1 + (n : Int)))
  | 8 => some (.int .i64 (k + 1 + 1 + 1 + 1 + 1 + 1 + (n : Int) + 1))
  | 9 => some (.int .i64 (k + 1 + 1 + 1 + 1 + 1 + 1 + (n : Int) + 1 + 1))
  | 10 => some (.int .i64 (k + 1 + 1 + 1 + 1 + 1 + 1 + (n : Int) + 1 + 1 + 1))
  | 11 => some (.int .i64 (k + 1 + 1 + 1 + 1 + 1 + 1 + (n : Int) + 1 + 1 + 1 + 1))
  | 12 => some (.int .i64 (k + 1 + 1 + 1 + 1 + 1 + 1 + (n : Int) + 1 + 1 + 1 + 1 + 1))
  | _ => none
def slen (os : List YAct) (j : Nat) : Nat := match os[j]? with
  | some o => o.parcel.sides.length
  | none => 0
def PPa (os : List YAct) (us : Nat → Value) (k : Int) (j : Nat) (o : Nat) : Option Value :=
  if o / 13 < os.length then (if o % 13 = 6 then some (us (o / 13)) else if o / 13 < j then actMV (nAc k (os.take (o / 13))) (slen os (o / 13)) (o % 13) else none) else none
def QS (os : List YAct) (W : Nat → Blk) (b : Nat) : Prop := ∃ j, j < os.length ∧ (W j).z = false ∧ b = (W j).b
structure MIa (os : List YAct) (us : Nat → Value) (W : Nat → Blk) (k : Int) (g N : Nat) (w : World) (j : Nat) (a : World) : Prop where
  mx : MX w a g N (PPa os us k j) (QS os W)
  done : ∀ i, i < j → ∀ o, os[i]? = some o → SdB a (mkI (nAc k (os.take i) + 6) o.parcel.sides.length) (us i) (W i)
  rest : ∀ i, j ≤ i → ∀ o, os[i]? = some o → SdB a o.parcel.sides (us i) (W i)
theorem slen_get {os : List YAct} {j : Nat} {o : YAct} (h : os[j]? = some o) : slen os j = o.parcel.sides.length := by simp [slen, h]
theorem PPa_step {os : List YAct} {us : Nat → Value} {k : Int} {j : Nat} {act : YAct} (hj : os[j]? = some act) {q : Int} (hq : q = nAc k (os.take j)) {n : Nat} (hn : n = act.parcel.sides.length) (o : Nat) (v : Value) (h : PPa os us k (j + 1) o = some v) :
    (if o = j * 13 + 12 then some (.int .i64 (q + 1 + 1 + 1 + 1 + 1 + 1 + (n : Int) + 1 + 1 + 1 + 1 + 1)) else if o = j * 13 + 11 then some (.int .i64 (q + 1 + 1 + 1 + 1 + 1 + 1 + (n : Int) + 1 + 1 + 1 + 1)) else if o = j * 13 + 10 then some (.int .i64 (q + 1 + 1 + 1 + 1 + 1 + 1 + (n : Int) + 1 + 1 + 1)) else if o = j * 13 + 9 then some (.int .i64 (q + 1 + 1 + 1 + 1 + 1 + 1 + (n : Int) + 1 + 1)) else if o = j * 13 + 8 then some (.int .i64 (q + 1 + 1 + 1 + 1 + 1 + 1 + (n : Int) + 1)) else if o = j * 13 + 7 then some (.int .i64 (q + 1 + 1 + 1 + 1 + 1 + 1 + (n : Int))) else if o = j * 13 + 5 then some (.int .i64 (q + 1 + 1 + 1 + 1 + 1)) else if o = j * 13 + 4 then some (.string (markTxt (q + 1 + 1 + 1 + 1))) else if o = j * 13 + 3 then some (.string (markTxt (q + 1 + 1 + 1))) else if o = j * 13 + 2 then some (.int .i64 (q + 1 + 1)) else if o = j * 13 + 1 then some (.int .i64 (q + 1)) else if o = j * 13 then some (.int .i64 q) else PPa os us k j o) = some v := by
  have hlt : j < os.length := (List.getElem?_eq_some_iff.1 hj).1
  by_cases hd : o / 13 = j
  · have h6 : o = j * 13 + o % 13 := by omega
    unfold PPa at h ⊢
    rw [hd, if_pos hlt] at h
    have hm : o % 13 < 13 := Nat.mod_lt _ (by omega)
    by_cases c6 : o % 13 = 6
    · rw [if_pos c6] at h
      rw [if_neg (by omega), if_neg (by omega), if_neg (by omega), if_neg (by omega), if_neg (by omega), if_neg (by omega), if_neg (by omega), if_neg (by omega), if_neg (by omega), if_neg (by omega), if_neg (by omega), if_neg (by omega), hd, if_pos hlt, if_pos c6]
      exact h
    · rw [if_neg c6, if_pos (by omega), slen_get hj, ← hn, ← hq] at h
      rw [hd, if_pos hlt, if_neg c6, if_neg (Nat.lt_irrefl j)]
      have : o % 13 = 0 ∨ o % 13 = 1 ∨ o % 13 = 2 ∨ o % 13 = 3 ∨ o % 13 = 4 ∨ o % 13 = 5 ∨ o % 13 = 7 ∨ o % 13 = 8 ∨ o % 13 = 9 ∨ o % 13 = 10 ∨ o % 13 = 11 ∨ o % 13 = 12 := by omega
      rcases this with e | e | e | e | e | e | e | e | e | e | e | e <;> rw [e] at h h6 <;> simp only [actMV] at h <;> rw [h6] <;> simp <;> simpa using h
  · have ho : PPa os us k j o = some v := by
      unfold PPa at h ⊢
      split at h
      · rename_i h1
        rw [if_pos h1]
        split at h
        · rename_i h2; rw [if_pos h2]; exact h
        · rename_i h2
          rw [if_neg h2]
          split at h
          · rename_i h3; rw [if_pos (by omega)]; exact h
          · cases h
      · cases h
    rw [if_neg (by omega), if_neg (by omega), if_neg (by omega), if_neg (by omega), if_neg (by omega), if_neg (by omega), if_neg (by omega), if_neg (by omega), if_neg (by omega), if_neg (by omega), if_neg (by omega), if_neg (by omega)]
    exact ho
theorem markActS_x (os : List YAct) (us : Nat → Value) (W : Nat → Blk) (k : Int) (g c N : Nat) (hN : os.length * 13 ≤ N) (w0 : World) (ht : TabF w0) (w : World) (hu0 : Up w0 w) (hs : MIa os us W k g N w 0 w) (hn : os.length ≤ 1048576) (hw : ∀ o ∈ os, o.parcel.sides.length ≤ 1048576) (h0 : 1 ≤ k) (h1 : nAc k os ≤ 1000000000)
    (hg0 : w0.heap.size ≤ g) (hg1 : ∀ j, j < os.length → (W j).z = false → w0.heap.size ≤ (W j).b) (hg : ∀ j, j < os.length → (W j).z = false → (W j).b ≠ g) (hd : ∀ i j, i < os.length → j < os.length → (W i).z = false → (W j).z = false → (W i).b = (W j).b → i = j) :
    Calls Tryz.prog 14 #[.slice (some ⟨g, 0, none⟩) os.length c, .int .i64 k] w fun e w' => e = .returned (.int .i64 (nAc k os)) ∧ MIa os us W k g N w os.length w' := by
  have HG := Lib.hid hg
  have HD := Lib.hid hd
  have HW := Lib.hid hw
  have H1 := Lib.hid h1
  have HT := Lib.hid ht
  have HU0 := Lib.hid hu0
  have HG0 := Lib.hid hg0
  have HG1 := Lib.hid hg1
  have upw : ∀ {a : World} {P : Nat → Option Value} {Q : Nat → Prop}, MX w a g N P Q → (∀ b, Q b → w0.heap.size ≤ b) → Up w0 a := fun {a P Q} h hQ =>
    ⟨h.os.trans hu0.os, h.tape.trans hu0.tape, h.output.trans hu0.output, Nat.le_trans hu0.size h.size, fun b hb => (h.oth b (Nat.lt_of_lt_of_le hb hu0.size) (by omega) fun hq => by have := hQ b hq; omega).trans (hu0.block b hb)⟩
  have HUP := Lib.hid (fun (a : World) (P : Nat → Option Value) (h : MX w a g N P (QS os W)) => upw h fun b ⟨j, h1, h2, h3⟩ => h3 ▸ hg1 j h1 h2)
  clear hg hd hw h1 ht hu0 hg0 hg1 upw
  go_enter Tryz.func14, Tryz.ntmps14
  go_wp2
  go_loopw [5, 1] (fun i kk wr => ∃ j : Nat, j ≤ os.length ∧ i = .int .i64 j ∧ kk = .int .i64 (nAc k (os.take j)) ∧ MIa os us W k g N w j wr) (fun i _ _ => os.length - (intOf i).toNat)
  case atStart => exact ⟨0, by omega, rfl, rfl, hs⟩
  case round =>
    obtain ⟨j, hj, rfl, rfl, hM⟩ := hrel
    by_cases hlt : j < os.length
    · obtain ⟨ord, ho⟩ : ∃ o, os[j]? = some o := ⟨_, List.getElem?_eq_getElem hlt⟩
      have hq2 : nAc k (os.take (j + 1)) = nAc k (os.take j) + 12 + (ord.parcel.sides.length : Int) := by rw [List.take_add_one, ho]; exact nAc_snoc _ _ _
      have hq0 : 1 ≤ nAc k (os.take j) := Int.le_trans h0 (nAc_ge _ _)
      have hq1 : nAc k (os.take (j + 1)) ≤ 1000000000 := Int.le_trans (nAc_take _ _ _) H1.out
      have hwl := HW.out ord (List.mem_of_getElem? ho)
      have hway := hM.rest j (Nat.le_refl j) ord ho
      obtain ⟨A6, c6, hu6⟩ := hway.one
      have HST := Lib.hid (fun (o : Nat) (v : Value) => PPa_step (os := os) (us := us) (k := k) ho rfl rfl o v)
      have HQ := Lib.hid hq2
      have HO := Lib.hid ho
      have HMI := Lib.hid hM
      have X0 : MX wr wr g N (PPa os us k j) (fun _ => False) := MX.start hM.mx.row
      have p6 : PPa os us k j (j * 13 + 6) = some (us j) := by
        unfold PPa
        rw [show (j * 13 + 6) / 13 = j by omega, if_pos hlt, if_pos (by omega)]
      have HUR := Lib.hid (HUP.out _ _ hM.mx)
      rw [hq2] at hq1
      clear hq2 ho hM hs
      generalize hqq : nAc k (os.take j) = q at *
      generalize hnn : ord.parcel.sides.length = n at *
      have HE := Lib.hid hqq
      clear hqq
      obtain ⟨⟨u0, d0⟩, f0⟩ := X0.any (o := j * 13) (by omega)
      obtain ⟨⟨u1, d1⟩, f1⟩ := X0.any (o := j * 13 + 1) (by omega)
      obtain ⟨⟨u2, d2⟩, f2⟩ := X0.any (o := j * 13 + 2) (by omega)
      have X0h := Lib.hid X0
      have HP := Lib.hid p6
      have HWy := Lib.hid hway
      have HU := Lib.hid hu6
      clear X0 p6 hway hu6
      go_wp2_with fail
      refine (markText_exact _ _ (by omega) (by omega)).mono ?_
      rintro e w1 ⟨rfl, hb1⟩
      have X1 := (((X0h.out.set (j * 13) (.int .i64 q) (by omega)).set (j * 13 + 1) (.int .i64 (q + 1)) (by omega)).set (j * 13 + 2) (.int .i64 (q + 1 + 1)) (by omega)).up hb1
      clear hb1 d0 f0 d1 f1 d2 f2
      obtain ⟨⟨u3, d3⟩, f3⟩ := X1.any (o := j * 13 + 3) (by omega)
      have X1h := Lib.hid X1
      clear X1
      go_wp2_with fail
      refine (markText_exact _ _ (by omega) (by omega)).mono ?_
      rintro e w2 ⟨rfl, hb2⟩
      have X2 := (X1h.out.set (j * 13 + 3) (.string (markTxt (q + 1 + 1 + 1))) (by omega)).up hb2
      clear hb2 d3 f3
      obtain ⟨⟨u4, d4⟩, f4⟩ := X2.any (o := j * 13 + 4) (by omega)
      obtain ⟨⟨u5, d5⟩, f5⟩ := X2.any (o := j * 13 + 5) (by omega)
      have d6 : w2.cell? ⟨g, j * 13 + 6, none⟩ = some (us j) := X2.cell (by simp only [if_neg (show ¬ j * 13 + 6 = j * 13 + 3 by omega), if_neg (show ¬ j * 13 + 6 = j * 13 + 2 by omega), if_neg (show ¬ j * 13 + 6 = j * 13 + 1 by omega), if_neg (show ¬ j * 13 + 6 = j * 13 by omega)]; exact HP.out)
      rw [HU.out] at d6
      have X2h := Lib.hid X2
      clear X2
      go_wp2_with fail
      have Xc := ((X2h.out.set (j * 13 + 4) (.string (markTxt (q + 1 + 1 + 1 + 1))) (by omega)).set (j * 13 + 5) (.int .i64 (q + 1 + 1 + 1 + 1 + 1)) (by omega))
      have hwc := HWy.out.keep fun hz => Xc.oth _ (HWy.out.lt hz) (HG.out j hlt hz) (fun h => h)
      have hupc : Up w0 _ := HUP.out _ _ ((HMI.out.mx.trans Xc fun x hx => hx.elim))
      have hcall := markSd HT.out hupc (HG1.out j hlt) hwc (by omega) (k := q + 1 + 1 + 1 + 1 + 1 + 1) (by omega) (by omega)
      rw [HU.out, hnn] at hcall
      have HCA := Lib.hid hcall
      have XcH := Lib.hid Xc
      clear hcall hwc Xc hupc
      refine HCA.out.mono ?_
      rintro e w3 ⟨rfl, hway3, hb3⟩
      have X3 := (XcH.out.more (Q' := fun b => (W j).z = false ∧ b = (W j).b) (fun _ h => h.elim)).upO hb3 (fun x hx => ⟨by rw [hx.2]; exact HG.out j hlt hx.1, hx⟩)
      clear d4 f4 d5 f5 d6
      obtain ⟨⟨u7, d7⟩, f7⟩ := X3.any (o := j * 13 + 7) (by omega)
      obtain ⟨⟨u8, d8⟩, f8⟩ := X3.any (o := j * 13 + 8) (by omega)
      obtain ⟨⟨u9, d9⟩, f9⟩ := X3.any (o := j * 13 + 9) (by omega)
      obtain ⟨⟨u10, d10⟩, f10⟩ := X3.any (o := j * 13 + 10) (by omega)
      obtain ⟨⟨u11, d11⟩, f11⟩ := X3.any (o := j * 13 + 11) (by omega)
      obtain ⟨⟨u12, d12⟩, f12⟩ := X3.any (o := j * 13 + 12) (by omega)
      have X3h := Lib.hid X3
      have HW3 := Lib.hid hway3
      clear X3 hway3 hb3
      go_wp2_with fail
      have X5 := ((((((X3h.out.set (j * 13 + 7) (.int .i64 (q + 1 + 1 + 1 + 1 + 1 + 1 + (n : Int))) (by omega)).set (j * 13 + 8) (.int .i64 (q + 1 + 1 + 1 + 1 + 1 + 1 + (n : Int) + 1)) (by omega)).set (j * 13 + 9) (.int .i64 (q + 1 + 1 + 1 + 1 + 1 + 1 + (n : Int) + 1 + 1)) (by omega)).set (j * 13 + 10) (.int .i64 (q + 1 + 1 + 1 + 1 + 1 + 1 + (n : Int) + 1 + 1 + 1)) (by omega)).set (j * 13 + 11) (.int .i64 (q + 1 + 1 + 1 + 1 + 1 + 1 + (n : Int) + 1 + 1 + 1 + 1)) (by omega)).set (j * 13 + 12) (.int .i64 (q + 1 + 1 + 1 + 1 + 1 + 1 + (n : Int) + 1 + 1 + 1 + 1 + 1)) (by omega))
      have hlen : ∀ {i : Nat} {o : YAct}, os[i]? = some o → i < os.length := fun h => (List.getElem?_eq_some_iff.1 h).1
      have keep : ∀ {i : Nat} {xs : List Int} {u : Value}, i < os.length → i ≠ j → SdB wr xs u (W i) → SdB _ xs u (W i) := fun {i xs u} hi hne h =>
        h.keep fun hz => X5.oth _ (h.lt hz) (HG.out i hi hz) fun hh => hne (HD.out i j hi hlt hz hh.1 hh.2)
      refine ⟨⟨j + 1, by omega, by go_num, by rw [HQ.out]; congr 1; omega, ⟨(HMI.out.mx.trans X5 fun x hx => ⟨j, hlt, hx.1, hx.2⟩).weak HST.out, fun i hi o hio => ?_, fun i hi o hio => ?_⟩⟩, by simp [intOf]; omega⟩
      · rcases Nat.lt_or_ge i j with h | h
        · exact keep (hlen hio) (by omega) (HMI.out.done i h o hio)
        · obtain rfl : i = j := by omega
          have e : ord = o := by have := HO.out; rw [hio] at this; exact (Option.some.inj this).symm
          subst e
          rw [hnn, HU.out]
          have h3 := HW3.out
          rw [show q + 1 + 1 + 1 + 1 + 1 + 1 = nAc k (os.take i) + 6 by rw [HE.out]; omega] at h3
          refine h3.keep fun hz => ?_
          have hne := HG.out i hlt hz
          rw [heap_setCell_other _ _ _ _ hne, heap_setCell_other _ _ _ _ hne, heap_setCell_other _ _ _ _ hne, heap_setCell_other _ _ _ _ hne, heap_setCell_other _ _ _ _ hne, heap_setCell_other _ _ _ _ hne]
      · exact keep (hlen hio) (by omega) (HMI.out.rest i (by omega) o hio)
    · obtain rfl : j = os.length := by omega
      have HT2 := Lib.hid (show nAc k (os.take os.length) = nAc k os by rw [List.take_length])
      go_wp2_with fail
      go_ret
      exact ⟨reti (by rw [HT2.out]), hM⟩
set_option maxRecDepth 10000
set_option maxHeartbeats 16000000
def m_spec_l1In (x : Int) (least : Int) (most : Int) : Option Bool :=
 cond (decide (least ≤ x))
 (some (decide (x ≤ most)))
 (some false)
instance (x : Int) (least : Int) (most : Int) : CT Tryz.prog (m_spec_l1In x least most) := ⟨46, [vi x, vi least, vi most], [], fun r => vb r, fun r => [], fun H => by replace H := H0 H; unfold m_spec_l1In at H; exact callM_of Tryz.func46 rfl Tryz.ntmps46 Tryz.results46 fun Q hQ hQn => wk3⟩
def m_spec_IsPlace_b0 (s : ByteArray) (s0 : Int) : Option (Int ⊕ (Unit ⊕ Bool)) :=
 cond (decide (s0 < 3))
 ((getB s s0).bind fun y1 =>
 (m_spec_l1In (IntKind.i64.wrap y1) 65 90).bind fun y2 =>
 cond (!y2)
 (some (.inr (.inr false)))
 (some (.inl (w64 (s0 + 1)))))
 (some (.inr (.inl ())))
instance (s : ByteArray) : LoopE (m_spec_IsPlace_b0 s) := ⟨fun s0 => (vs s :: .un :: .un :: vi s0 :: (U 13 [])), fun s0 => []⟩
def m_spec_IsPlace (s : ByteArray) : Option Bool :=
 cond (!decide ((s.size : Int) = 3))
 (some false)
 ((iterF (m_spec_IsPlace_b0 s) NN 0).bind (selim (fun o0 =>
 some true) (fun r => some r)))
instance (s : ByteArray) : CT Tryz.prog (m_spec_IsPlace s) := ⟨67, [vs s], [], fun r => vb r, fun r => [], fun H => by replace H := H0 H; unfold m_spec_IsPlace at H; exact callM_of Tryz.func67 rfl Tryz.ntmps67 Tryz.results67 fun Q hQ hQn => wk3⟩
theorem within_v (n l h : Int) : m_impl_within n l h = some (decide (l ≤ n) && decide (n ≤ h)) := by
  unfold m_impl_within; cases decide (l ≤ n) <;> rfl
theorem l1In_v (n l h : Int) : m_spec_l1In n l h = some (decide (l ≤ n) && decide (n ≤ h)) := by
  unfold m_spec_l1In; cases decide (l ≤ n) <;> rfl
theorem within_eq : @m_impl_within = @m_spec_l1In := by funext n l h; rw [within_v, l1In_v]
theorem getB_in {s : ByteArray} {i c : Int} (h : getB s i = some c) : 0 ≤ c ∧ c ≤ 255 := by
  unfold getB at h
  split at h
  · cases h
    unfold byteAt
    cases hb : s[i.toNat]? with
    | none => simp
    | some b =>
      have := b.toNat_lt
      simp only [Option.map_some, Option.getD_some]
      omega
  · cases h
theorem placeB_eq {s : ByteArray} (hs : s.size = 3) : m_impl_IsPlace_b0 s = m_spec_IsPlace_b0 s := by
  funext i
  unfold m_impl_IsPlace_b0 m_spec_IsPlace_b0
  rw [hs]
  cases hi : decide (i < 3) with
  | false => simp [hi]
  | true =>
    simp only [show ((3 : Nat) : Int) = 3 from rfl, hi, cond_true]
    cases hg : getB s i with
    | none => rfl
    | some y =>
      obtain ⟨h0, h1⟩ := getB_in hg
      simp only [Option.bind_some, hg]
      rw [show IntKind.i64.wrap y = y from w64_in (by omega), l1In_v]
      simp only [Option.bind_some]
      by_cases h2 : y < 65
      · simp [h2, show ¬ (65 ≤ y) by omega]
      · by_cases h3 : 90 < y
        · simp [h2, h3, show ¬ (y ≤ 90) by omega]
        · simp [h2, h3, show 65 ≤ y by omega, show y ≤ 90 by omega]
theorem getB_some {s : ByteArray} {i : Nat} (h : i < s.size) : ∃ c, getB s (i : Int) = some c := by
  unfold getB; exact ⟨_, if_pos ⟨by omega, by omega⟩⟩
theorem placeL_some {s : ByteArray} (hs : s.size ≤ 1152921504606846000) : ∀ (k i N : Nat), i + k = s.size → k < N → ∃ o, iterF (m_impl_IsPlace_b0 s) N (i : Int) = some o ∧ (o = .inl () ∨ o = .inr false) := by
  intro k
  induction k with
  | zero =>
    intro i N hi hk
    cases N with
    | zero => omega
    | succ N => exact ⟨.inl (), by simp [iterF, m_impl_IsPlace_b0, show ¬ ((i : Int) < s.size) by omega], .inl rfl⟩
  | succ k ih =>
    intro i N hi hk
    cases N with
    | zero => omega
    | succ N =>
      obtain ⟨c, hc⟩ := getB_some (s := s) (i := i) (by omega)
      have hw := w64_nat (i := i) (n := s.size) (by omega) (by omega)
      by_cases h2 : c < 65
      · exact ⟨.inr false, by simp [iterF, m_impl_IsPlace_b0, show (i : Int) < s.size by omega, hc, h2], .inr rfl⟩
      · by_cases h3 : 90 < c
        · exact ⟨.inr false, by simp [iterF, m_impl_IsPlace_b0, show (i : Int) < s.size by omega, hc, h2, h3], .inr rfl⟩
        · obtain ⟨o, ho, hoo⟩ := ih (i + 1) N (by omega) (by omega)
          refine ⟨o, ?_, hoo⟩
          simp only [iterF, m_impl_IsPlace_b0, decide_eq_true (show (i : Int) < s.size by omega), cond_true, hc, Option.bind_some, decide_eq_false h2, decide_eq_false h3, cond_false, hw]
          exact ho
theorem isPlace_eq {s : ByteArray} (hs : s.size ≤ 1152921504606846000) : m_impl_IsPlace s = m_spec_IsPlace s ∧ ∃ b, m_spec_IsPlace s = some b := by
  obtain ⟨o, ho, hoo⟩ := placeL_some hs s.size 0 NN (by omega) (by unfold NN; omega)
  have ho' : iterF (m_impl_IsPlace_b0 s) NN 0 = some o := ho
  by_cases h3 : s.size = 3
  · have e : m_spec_IsPlace s = (iterF (m_impl_IsPlace_b0 s) NN 0).bind (selim (fun _ => some true) (fun r => some r)) := by
      unfold m_spec_IsPlace; rw [placeB_eq h3, h3]; rfl
    have e2 : m_impl_IsPlace s = (iterF (m_impl_IsPlace_b0 s) NN 0).bind (selim (fun _ => some (decide ((s.size : Int) = 3))) (fun r => some r)) := rfl
    rw [e, e2, ho', h3]
    rcases hoo with rfl | rfl
    · exact ⟨rfl, _, rfl⟩
    · exact ⟨rfl, _, rfl⟩
  · have e : m_spec_IsPlace s = some false := by unfold m_spec_IsPlace; rw [decide_eq_false (by omega)]; rfl
    have e2 : m_impl_IsPlace s = some false := by
      unfold m_impl_IsPlace; rw [ho']
      rcases hoo with rfl | rfl
      · show some _ = some _; rw [decide_eq_false (by omega)]
      · rfl
    exact ⟨by rw [e, e2], _, e⟩
def B60 : Nat := 1152921504606846000
def m_spec_l1Padded_b0 (digits : Int) (s0 : ByteArray) : Option (ByteArray ⊕ ByteArray) :=
 cond (decide ((s0.size : Int) < digits))
 ((chk (strOk (⟨#[48]⟩) s0)).bind fun _ =>
 some (.inl (⟨#[48]⟩ ++ s0)))
 (some (.inr s0))
instance (digits : Int) : LoopE (m_spec_l1Padded_b0 digits) := ⟨fun s0 => (.un :: vi digits :: (U 3 (vs s0 :: (U 9 [])))), fun s0 => []⟩
def m_spec_l1Padded (n : Int) (digits : Int) : Option ByteArray :=
 (m_spec_FormatInt n).bind fun y1 =>
 (iterF (m_spec_l1Padded_b0 digits) NN y1).bind (fun o0 =>
 some o0)
instance (n : Int) (digits : Int) : CT Tryz.prog (m_spec_l1Padded n digits) := ⟨90, [vi n, vi digits], [], fun r => vs r, fun r => [], fun H => by replace H := H0 H; unfold m_spec_l1Padded at H; exact callM_of Tryz.func90 rfl Tryz.ntmps90 Tryz.results90 fun Q hQ hQn => wk3⟩
def m_spec_Digits_b0 (s : ByteArray) (s0 : ByteArray × Int) : Option ((ByteArray × Int) ⊕ (ByteArray ⊕ (ByteArray × Bool))) :=
 cond (decide (s0.2 < (s.size : Int)))
 ((jn 5 4 (
 (getB s s0.2).bind fun y1 =>
 (m_spec_l1In (IntKind.i64.wrap y1) 48 57).bind fun y2 =>
 cond y2
 ((chk (slOk s0.2 (w64 (s0.2 + 1)) s.size)).bind fun _ =>
 (chk (strOk s0.1 (subS s s0.2 (w64 (s0.2 + 1))))).bind fun _ =>
 some (.inl (s0.1 ++ (subS s s0.2 (w64 (s0.2 + 1))))))
 ((m_spec_l1In (IntKind.i64.wrap y1) 65 90).bind fun y3 =>
 cond y3
 ((m_spec_FormatInt (w64 ((w64 ((IntKind.i64.wrap y1) - 65)) + 10))).bind fun y4 =>
 (chk (strOk s0.1 y4)).bind fun _ =>
 some (.inl (s0.1 ++ y4)))
 (some (.inr (⟨#[]⟩, false)))) : Option (ByteArray ⊕ (ByteArray × Bool))) (fun z5 => (vs s :: (U 3 (vs z5 :: vi s0.2 :: (U 31 []))))) (fun z5 => [])).bind (selim (fun z5 =>
 some (.inl (z5, (w64 (s0.2 + 1))))) (fun r => some (.inr (.inr r)))))
 (some (.inr (.inl s0.1)))
instance (s : ByteArray) : LoopE (m_spec_Digits_b0 s) := ⟨fun s0 => (vs s :: (U 3 (vs s0.1 :: vi s0.2 :: (U 31 [])))), fun s0 => []⟩
def m_spec_Digits (s : ByteArray) : Option (ByteArray × Bool) :=
 (iterF (m_spec_Digits_b0 s) NN (⟨#[]⟩, 0)).bind (selim (fun o0 =>
 some (o0, true)) (fun r => some r))
instance (s : ByteArray) : CT Tryz.prog (m_spec_Digits s) := ⟨125, [vs s], [], fun r => .tu [vs r.1, vb r.2], fun r => [], fun H => by replace H := H0 H; unfold m_spec_Digits at H; exact callM_of Tryz.func125 rfl Tryz.ntmps125 Tryz.results125 fun Q hQ hQn => wk3⟩
def m_spec_Mod97_b0 (s : ByteArray) (s0 : Int × Int) : Option ((Int × Int) ⊕ (Int ⊕ Int)) :=
 cond (decide (s0.2 < (s.size : Int)))
 ((getB s s0.2).bind fun y1 =>
 (m_spec_l1In (IntKind.i64.wrap y1) 48 57).bind fun y2 =>
 cond (!y2)
 (some (.inr (.inr (-1))))
 ((getB s s0.2).bind fun y3 =>
 some (.inl ((Int.tmod (w64 ((w64 (10 * s0.1)) + (IntKind.i64.wrap (IntKind.u8.wrap (y3 - 48))))) 97), (w64 (s0.2 + 1))))))
 (some (.inr (.inl s0.1)))
instance (s : ByteArray) : LoopE (m_spec_Mod97_b0 s) := ⟨fun s0 => (vs s :: .un :: .un :: vi s0.1 :: vi s0.2 :: (U 24 [])), fun s0 => []⟩
def m_spec_Mod97 (s : ByteArray) : Option Int :=
 (iterF (m_spec_Mod97_b0 s) NN (0, 0)).bind (selim (fun o0 =>
 cond (decide (s = ⟨#[]⟩))
 (some (-1))
 (some o0)) (fun r => some r))
instance (s : ByteArray) : CT Tryz.prog (m_spec_Mod97 s) := ⟨126, [vs s], [], fun r => vi r, fun r => [], fun H => by replace H := H0 H; unfold m_spec_Mod97 at H; exact callM_of Tryz.func126 rfl Tryz.ntmps126 Tryz.results126 fun Q hQ hQn => wk3⟩
end Go.Proofs.YtkfbakhnpfmfmaaGreatDoor
namespace Go.Proofs.YtkfbakhnpfmfmaaGreatDoor
set_option maxRecDepth 10000
open Go.RowKit Go.Sort
set_option linter.unusedVariables false
set_option linter.unusedSimpArgs false
set_option maxHeartbeats 1000000
theorem txt_app (a b : List UInt8) : txt a ++ txt b = txt (a ++ b) := by
  apply ByteArray.ext
  rw [ByteArray.data_append]
  simp [txt]
theorem strOk_s {a b : ByteArray} (h : a.size + b.size ≤ B60) : strOk a b = true := by
  unfold strOk
  unfold B60 at h
  exact decide_eq_true (by omega)
theorem repl_cons (k : Nat) (l : List UInt8) : (48 : UInt8) :: (List.replicate k 48 ++ l) = List.replicate (k + 1) 48 ++ l := by rw [List.replicate_succ]; rfl
theorem itoa_len {n : Int} (h : in64 n) : (Lib.itoa n).length ≤ 21 := Lib.itoa_length_le n h.1 h.2
theorem padded_spec {n : Int} {d : Nat} (h : in64 n) (hd : d ≤ 20) : m_spec_l1Padded n (d : Int) = some (txt (padL n d)) := by
  have hl := itoa_len h
  unfold m_spec_l1Padded
  have hF : m_spec_FormatInt n = some (txt (Lib.itoa n)) := by unfold m_spec_FormatInt; rw [if_pos h]
  rw [hF, Option.bind_some]
  have key : ∀ (k N c : Nat), k = d - ((Lib.itoa n).length + c) → k < N → iterF (m_spec_l1Padded_b0 (d : Int)) N (txt (List.replicate c 48 ++ Lib.itoa n)) = some (txt (List.replicate (c + k) 48 ++ Lib.itoa n)) := by
    intro k
    induction k with
    | zero =>
      intro N c hk hN
      cases N with
      | zero => omega
      | succ N =>
        simp only [iterF, m_spec_l1Padded_b0, txt_size, List.length_append, List.length_replicate]
        rw [decide_eq_false (by omega)]
        rfl
    | succ k ih =>
      intro N c hk hN
      cases N with
      | zero => omega
      | succ N =>
        have e1 : (⟨#[48]⟩ : ByteArray) ++ txt (List.replicate c 48 ++ Lib.itoa n) = txt (List.replicate (c + 1) 48 ++ Lib.itoa n) := by
          rw [← repl_cons]; exact txt_app [48] _
        simp only [iterF, m_spec_l1Padded_b0]
        rw [e1, strOk_s (by rw [txt_size]; simp [ByteArray.size]; unfold B60; omega), txt_size]
        rw [decide_eq_true (by simp; omega)]
        have := ih N (c + 1) (by omega) (by omega)
        rw [show c + 1 + k = c + (k + 1) by omega] at this
        exact this
  have := key (d - (Lib.itoa n).length) NN 0 (by omega) (by unfold NN; omega)
  simp only [List.replicate_zero, List.nil_append, Nat.zero_add] at this
  rw [this]
  rfl
theorem padded_im {n : Int} {d : Nat} (h : in64 n) (hd : d ≤ 20) : m_impl_padded n (d : Int) = some (txt (padL n d)) := by
  unfold m_impl_padded
  rw [if_pos ⟨h, by omega, by omega⟩]
  rfl
theorem padL_len {n : Int} {d : Nat} (h : in64 n) (hd : d ≤ 20) : (padL n d).length ≤ 21 := by
  have := itoa_len h
  unfold padL
  simp
  omega
theorem wrap_b {y : Int} (h : 0 ≤ y ∧ y ≤ 255) : IntKind.i64.wrap y = y := w64_in ⟨by omega, by omega⟩
theorem mod97_eq : @m_impl_Mod97 = @m_spec_Mod97 := by
  have e : @m_impl_Mod97_b0 = @m_spec_Mod97_b0 := by
    funext s s0
    unfold m_impl_Mod97_b0 m_spec_Mod97_b0
    cases hd : decide (s0.2 < (s.size : Int))
    · rfl
    simp only [cond_true]
    cases hy : getB s s0.2 with
    | none => rfl
    | some y =>
      have hw := getB_in hy
      simp only [Option.bind_some, wrap_b hw, l1In_v]
      by_cases h1 : y < 48
      · rw [decide_eq_true h1, decide_eq_false (show ¬ 48 ≤ y by omega)]; rfl
      · rw [decide_eq_false h1, decide_eq_true (show 48 ≤ y by omega)]
        by_cases h2 : 57 < y
        · rw [decide_eq_true h2, decide_eq_false (show ¬ y ≤ 57 by omega)]; rfl
        · rw [decide_eq_false h2, decide_eq_true (show y ≤ 57 by omega)]; rfl
  funext s
  unfold m_impl_Mod97 m_spec_Mod97
  rw [e]
theorem mod97_tot {s : ByteArray} (h : s.size < NN) : ∃ m, m_spec_Mod97 s = some m := by
  have ht : ∃ o, iterF (m_spec_Mod97_b0 s) NN (0, 0) = some o := by
    refine iter_tot (fun k s0 => ∃ i : Nat, i + k = s.size ∧ s0.2 = (i : Int)) ?_ NN s.size (0, 0) ⟨0, by omega, rfl⟩ h
    rintro k ⟨m, x⟩ ⟨i, hi, hx⟩
    simp only at hx
    subst hx
    unfold m_spec_Mod97_b0
    by_cases hlt : i < s.size
    · obtain ⟨y, hy⟩ := getB_some hlt
      have hw := getB_in hy
      simp only [hy, Option.bind_some, wrap_b hw, l1In_v, decide_eq_true (show (i : Int) < (s.size : Int) by omega), cond_true]
      cases (decide (48 ≤ y) && decide (y ≤ 57))
      · exact ⟨_, rfl, fun s' e => by cases e⟩
      · refine ⟨_, rfl, fun s' e => ?_⟩
        cases e
        exact ⟨k - 1, by omega, i + 1, by omega, w64_nat hlt (by unfold NN at h; omega)⟩
    · simp only [decide_eq_false (show ¬ (i : Int) < (s.size : Int) by omega), cond_false]
      exact ⟨_, rfl, fun s' e => by cases e⟩
  obtain ⟨o, ho⟩ := ht
  unfold m_spec_Mod97
  rw [ho]
  cases o with
  | inl a => simp only [Option.bind_some, selim]; cases decide (s = ⟨#[]⟩) <;> exact ⟨_, rfl⟩
  | inr r => exact ⟨_, rfl⟩
theorem getB_txt {l : List UInt8} {i : Nat} {c : UInt8} (h : l[i]? = some c) : getB (txt l) (i : Int) = some (c.toNat : Int) := by
  have hlt := (List.getElem?_eq_some_iff.1 h).1
  unfold getB
  rw [if_pos ⟨by omega, by rw [txt_size]; omega⟩]
  unfold byteAt
  have hb : (txt l)[i]? = some c := by
    have hs : i < (txt l).size := by rw [txt_size]; exact hlt
    rw [getElem?_pos (txt l) i hs, ← txt_get l i hs, h]
  rw [Int.toNat_natCast, hb]
  rfl
theorem subS_txt {l : List UInt8} {i : Nat} {c : UInt8} (h : l[i]? = some c) : subS (txt l) (i : Int) ((i + 1 : Nat) : Int) = txt [c] := by
  unfold subS
  apply ByteArray.ext
  rw [ByteArray.data_extract]
  simp only [txt, Int.toNat_natCast]
  apply Array.toList_inj.1
  rw [Array.toList_extract]
  simp only [List.extract_eq_take_drop]
  have hlt := (List.getElem?_eq_some_iff.1 h).1
  rw [show i + 1 - i = 1 by omega]
  apply List.ext_getElem?
  intro n
  rw [List.getElem?_take]
  cases n with
  | zero => simp [h]
  | succ n => simp
theorem digits_spec {l : List UInt8} (hl : l.length ≤ 100000) : m_spec_Digits (txt l) = some (txt ((dgts l).getD []), (dgts l).isSome) := by
  have key : ∀ (k N i : Nat) (acc : List UInt8), i + k = l.length → k < N → dgts (l.take i) = some acc → acc.length ≤ 21 * i →
      iterF (m_spec_Digits_b0 (txt l)) N (txt acc, (i : Int)) = some (match dgts l with | some a => .inl (txt a) | none => .inr (⟨#[]⟩, false)) := by
    intro k
    induction k with
    | zero =>
      intro N i acc hi hN ha hal
      cases N with
      | zero => omega
      | succ N =>
        obtain rfl : i = l.length := by omega
        rw [List.take_length] at ha
        simp only [iterF, m_spec_Digits_b0, txt_size]
        rw [decide_eq_false (by omega), ha]
        rfl
    | succ k ih =>
      intro N i acc hi hN ha hal
      cases N with
      | zero => omega
      | succ N =>
        have hlt : i < l.length := by omega
        obtain ⟨c, hc⟩ : ∃ c, l[i]? = some c := ⟨_, List.getElem?_eq_getElem hlt⟩
        have hcl := c.toNat_lt
        have htk : dgts (l.take (i + 1)) = match some acc, dgt c with
            | some a, some b => some (a ++ b)
            | _, _ => none := by
          rw [List.take_add_one, hc, show (some c).toList = [c] from rfl, dgts_snoc, ha] <;> rfl
        have hw : IntKind.i64.wrap (c.toNat : Int) = (c.toNat : Int) := wrap_b ⟨by omega, by omega⟩
        have h1 : w64 ((i : Int) + 1) = ((i + 1 : Nat) : Int) := w64_nat hlt (by omega)
        simp only [iterF, m_spec_Digits_b0, jn, txt_size, getB_txt hc, hw, l1In_v, h1, subS_txt hc, Option.bind_some]
        rw [decide_eq_true (show (i : Int) < (l.length : Int) by omega)]
        by_cases hd1 : 48 ≤ c.toNat ∧ c.toNat ≤ 57
        · have hd : dgt c = some [c] := by unfold dgt; rw [if_pos hd1]
          rw [hd] at htk
          rw [decide_eq_true (show (48 : Int) ≤ (c.toNat : Int) by omega), decide_eq_true (show (c.toNat : Int) ≤ 57 by omega), strOk_s (by rw [txt_size, txt_size]; simp; unfold B60; omega), chk_t (show slOk (i : Int) ((i + 1 : Nat) : Int) l.length = true by unfold slOk; exact decide_eq_true (by omega)), txt_app]
          exact ih N (i + 1) (acc ++ [c]) (by omega) (by omega) htk (by simp; omega)
        · by_cases hd2 : 65 ≤ c.toNat ∧ c.toNat ≤ 90
          · have hd : dgt c = some (Lib.itoa ((c.toNat - 55 : Nat) : Int)) := by unfold dgt; rw [if_neg hd1, if_pos hd2]
            have hdl := dgt_len hd
            rw [hd] at htk
            have e1 : (decide ((48 : Int) ≤ (c.toNat : Int)) && decide ((c.toNat : Int) ≤ 57)) = false := by
              rw [decide_eq_false (show ¬ (c.toNat : Int) ≤ 57 by omega), Bool.and_false]
            have e2 : w64 (w64 ((c.toNat : Int) - 65) + 10) = ((c.toNat - 55 : Nat) : Int) := by
              rw [w64_in (n := (c.toNat : Int) - 65) ⟨by omega, by omega⟩, w64_in (n := (c.toNat : Int) - 65 + 10) ⟨by omega, by omega⟩]; omega
            have e3 : m_spec_FormatInt ((c.toNat - 55 : Nat) : Int) = some (txt (Lib.itoa ((c.toNat - 55 : Nat) : Int))) := by
              unfold m_spec_FormatInt; rw [if_pos ⟨by omega, by omega⟩]
            rw [e1, decide_eq_true (show (65 : Int) ≤ (c.toNat : Int) by omega), decide_eq_true (show (c.toNat : Int) ≤ 90 by omega), e2, e3]
            simp only [Bool.and_true, cond_false, cond_true, Option.bind_some]
            rw [strOk_s (by rw [txt_size, txt_size]; unfold B60; omega), txt_app]
            exact ih N (i + 1) _ (by omega) (by omega) htk (by simp; omega)
          · have hd : dgt c = none := by unfold dgt; rw [if_neg hd1, if_neg hd2]
            have hn := dgts_none hc hd
            have e1 : (decide ((48 : Int) ≤ (c.toNat : Int)) && decide ((c.toNat : Int) ≤ 57)) = false := by
              by_cases h : 48 ≤ c.toNat
              · rw [decide_eq_false (show ¬ (c.toNat : Int) ≤ 57 by omega), Bool.and_false]
              · rw [decide_eq_false (show ¬ (48 : Int) ≤ (c.toNat : Int) by omega), Bool.false_and]
            have e2 : (decide ((65 : Int) ≤ (c.toNat : Int)) && decide ((c.toNat : Int) ≤ 90)) = false := by
              by_cases h : 65 ≤ c.toNat
              · rw [decide_eq_false (show ¬ (c.toNat : Int) ≤ 90 by omega), Bool.and_false]
              · rw [decide_eq_false (show ¬ (65 : Int) ≤ (c.toNat : Int) by omega), Bool.false_and]
            rw [e1, e2, hn]
            rfl
  have := key l.length NN 0 [] (by omega) (by unfold NN; omega) (by simp [dgts]) (by simp)
  unfold m_spec_Digits
  rw [show (⟨#[]⟩ : ByteArray) = txt [] from rfl, show (0 : Int) = ((0 : Nat) : Int) from rfl, this]
  cases dgts l <;> rfl
theorem digits_im {l : List UInt8} (hl : l.length ≤ 100000) : m_impl_Digits (txt l) = some (txt ((dgts l).getD []), (dgts l).isSome) := by
  unfold m_impl_Digits
  rw [if_pos (by rw [txt_size]; omega)]
  rfl
end Go.Proofs.YtkfbakhnpfmfmaaGreatDoor
namespace Go.Proofs.YtkfbakhnpfmfmaaGreatDoor
set_option maxRecDepth 10000
open Go.RowKit
set_option linter.unusedVariables false
set_option maxHeartbeats 16000000
def m_spec_l2Split_b0 (s : ByteArray) (at1_ : Int) (s0 : Int × Int × (List ByteArray)) : Option ((Int × Int × (List ByteArray)) ⊕ (Int × (List ByteArray))) :=
 cond (decide (s0.2.1 < (s.size : Int)))
 ((jn 6 5 (
 (getB s s0.2.1).bind fun y1 =>
 cond (decide (y1 = at1_))
 ((chk (slOk s0.1 s0.2.1 s.size)).bind fun _ =>
 (chk (appOk ((s0.2.2 : List ByteArray).length + ([(subS s s0.1 s0.2.1)] : List ByteArray).length) 16)).bind fun _ =>
 some (.inl ((w64 (s0.2.1 + 1)), ((s0.2.2 : List ByteArray) ++ [(subS s s0.1 s0.2.1)]))))
 (some (.inl (s0.1, s0.2.2))) : Option ((Int × (List ByteArray)) ⊕ Empty)) (fun z2 => (vs s :: v8 at1_ :: (U 3 (.ms 0 :: vi z2.1 :: vi s0.2.1 :: (U 27 []))))) (fun z2 => [some ⟨.of 9, 1, z2.2.map cStr⟩])).bind (selim (fun z2 =>
 some (.inl (z2.1, (w64 (s0.2.1 + 1)), z2.2))) (fun r => nomatch r)))
 (some (.inr (s0.1, s0.2.2)))
instance (s : ByteArray) (at1_ : Int) : LoopE (m_spec_l2Split_b0 s at1_) := ⟨fun s0 => (vs s :: v8 at1_ :: (U 3 (.ms 0 :: vi s0.1 :: vi s0.2.1 :: (U 27 [])))), fun s0 => [some ⟨.of 9, 1, s0.2.2.map cStr⟩]⟩
def m_spec_l2Split (s : ByteArray) (at1_ : Int) : Option (List ByteArray) :=
 (iterF (m_spec_l2Split_b0 s at1_) NN (0, 0, ([] : List ByteArray))).bind (fun o0 =>
 (chk (slOk o0.1 (s.size : Int) s.size)).bind fun _ =>
 (chk (appOk ((o0.2 : List ByteArray).length + ([(subS s o0.1 (s.size : Int))] : List ByteArray).length) 16)).bind fun _ =>
 some ((o0.2 : List ByteArray) ++ [(subS s o0.1 (s.size : Int))]))
instance (s : ByteArray) (at1_ : Int) : CT Tryz.prog (m_spec_l2Split s at1_) := ⟨21, [vs s, v8 at1_], [], fun r => .ms 0, fun r => [some ⟨.of 9, 1, r.map cStr⟩], fun H => by replace H := H0 H; unfold m_spec_l2Split at H; exact callM_of Tryz.func21 rfl Tryz.ntmps21 Tryz.results21 fun Q hQ hQn => wk3⟩
set_option linter.unusedSimpArgs false
theorem subS_at {a b c : List UInt8} {i j : Nat} (hi : a.length = i) (hj : j = i + b.length) : subS (txt (a ++ b ++ c)) (i : Int) (j : Int) = txt b := by
  subst hi hj
  unfold subS
  apply ByteArray.ext
  rw [ByteArray.data_extract]
  simp only [txt, Int.toNat_natCast]
  apply Array.toList_inj.1
  rw [Array.toList_extract]
  simp [List.extract_eq_take_drop]
theorem l2_loop {c : UInt8} (L : List UInt8) (hL : L.length ≤ 100000000) : ∀ (rest pre cur : List UInt8) (O : List ByteArray) (N : Nat), L = pre ++ cur ++ rest → c ∉ cur → O.length ≤ pre.length → rest.length < N →
    ∃ f O', iterF (m_spec_l2Split_b0 (txt L) (c.toNat : Int)) N ((pre.length : Int), ((pre.length + cur.length : Nat) : Int), O) = some (((f : Nat) : Int), O') ∧ f ≤ L.length ∧ O'.length ≤ L.length ∧ O' ++ [txt (L.drop f)] = O ++ (splitL c (cur ++ rest)).map txt
  | [], pre, cur, O, 0, h, hc, hO, hN => by simp at hN
  | [], pre, cur, O, N + 1, h, hc, hO, hN => by
    have hs : (txt L).size = pre.length + cur.length := by rw [txt_size, h]; simp
    refine ⟨pre.length, O, ?_, by rw [h]; simp, by rw [h]; simp; omega, ?_⟩
    · unfold iterF m_spec_l2Split_b0
      have d : decide (((pre.length + cur.length : Nat) : Int) < ((txt L).size : Int)) = false := decide_eq_false (by rw [hs]; omega)
      simp only [d, cond_false, Option.bind_some, selim]
    · rw [List.append_nil, splitL_none hc, h]; simp
  | x :: rest, pre, cur, O, 0, h, hc, hO, hN => by simp at hN
  | x :: rest, pre, cur, O, N + 1, h, hc, hO, hN => by
    have hl : L.length = pre.length + cur.length + (rest.length + 1) := by rw [h]; simp; omega
    have hs : (txt L).size = L.length := txt_size L
    have hx : L[pre.length + cur.length]? = some x := by rw [h, ← List.length_append]; simp
    have d : decide (((pre.length + cur.length : Nat) : Int) < ((txt L).size : Int)) = true := decide_eq_true (by rw [hs, hl]; omega)
    have hg := getB_txt hx
    have hw : w64 (((pre.length + cur.length : Nat) : Int) + 1) = ((pre.length + cur.length + 1 : Nat) : Int) := by rw [w64_in (by omega)]; omega
    have hlen : N > rest.length := by simp at hN; omega
    by_cases hxc : x = c
    · subst hxc
      have e1 : decide ((x.toNat : Int) = (x.toNat : Int)) = true := decide_eq_true rfl
      have hsub : subS (txt L) (pre.length : Int) ((pre.length + cur.length : Nat) : Int) = txt cur := by rw [h]; exact subS_at rfl rfl
      have hsl : slOk (pre.length : Int) ((pre.length + cur.length : Nat) : Int) ((txt L).size : Int) = true := decide_eq_true ⟨by omega, by omega, by rw [hs, hl]; omega⟩
      have hap : appOk (O.length + [txt cur].length) 16 = true := decide_eq_true ⟨by simp; omega, by simp; omega⟩
      obtain ⟨f, O', i1, i2, i3, i4⟩ := l2_loop (c := x) L hL rest (pre ++ cur ++ [x]) [] (O ++ [txt cur]) N (by rw [h]; simp) (by simp) (by simp; omega) hlen
      refine ⟨f, O', ?_, i2, i3, ?_⟩
      · have e2 : (pre ++ cur ++ [x]).length = pre.length + cur.length + 1 := by simp; omega
        rw [e2] at i1
        rw [← i1]
        conv => lhs; unfold iterF
        unfold m_spec_l2Split_b0 jn
        simp only [d, cond_true, hg, Option.bind_some, e1, decide_true, hsl, hsub, hap, chk_t, selim, hw, List.length_nil, Nat.add_zero]
      · rw [i4, splitL_app hc]; simp
    · have hxn : ¬ (x.toNat : Int) = (c.toNat : Int) := fun e => hxc (UInt8.toNat_inj.1 (by omega))
      have e1 : decide ((x.toNat : Int) = (c.toNat : Int)) = false := decide_eq_false hxn
      obtain ⟨f, O', i1, i2, i3, i4⟩ := l2_loop (c := c) L hL rest pre (cur ++ [x]) O N (by rw [h]; simp) (by simp [hc, Ne.symm hxc]) hO hlen
      refine ⟨f, O', ?_, i2, i3, ?_⟩
      · have e2 : pre.length + (cur ++ [x]).length = pre.length + cur.length + 1 := by simp; omega
        rw [e2] at i1
        rw [← i1]
        conv => lhs; unfold iterF
        unfold m_spec_l2Split_b0 jn
        simp only [d, cond_true, cond_false, hg, Option.bind_some, e1, selim, hw]
      · rw [i4]; simp
theorem l2Split_eq {c : UInt8} {L : List UInt8} (hL : L.length ≤ 100000000) : m_spec_l2Split (txt L) (c.toNat : Int) = some ((splitL c L).map txt) := by
  obtain ⟨f, O', i1, i2, i3, i4⟩ := l2_loop (c := c) L hL L [] [] [] NN (by simp) (by simp) (by simp) (by unfold NN; omega)
  unfold m_spec_l2Split
  have hs : (txt L).size = L.length := txt_size L
  have hsub : subS (txt L) (f : Int) ((txt L).size : Int) = txt (L.drop f) := by
    rw [hs]
    have := subS_at (a := L.take f) (b := L.drop f) (c := []) (i := f) (j := L.length) (by simp; omega) (by simp; omega)
    rwa [List.append_nil, List.take_append_drop] at this
  have hsl : slOk (f : Int) ((txt L).size : Int) ((txt L).size : Int) = true := decide_eq_true ⟨by omega, by rw [hs]; omega, by omega⟩
  have hap : appOk (O'.length + [txt (L.drop f)].length) 16 = true := decide_eq_true ⟨by simp; omega, by simp; omega⟩
  have i1' : iterF (m_spec_l2Split_b0 (txt L) (c.toNat : Int)) NN (0, 0, ([] : List ByteArray)) = some ((f : Int), O') := i1
  rw [i1']
  simp only [Option.bind_some, hsl, hsub, hap, chk_t]
  rw [i4]
  rfl
def m_impl_threeSides_b0 (l : List Int) (s0 : Int) : Option (Int ⊕ (Unit ⊕ Bool)) :=
 cond (decide (s0 < (l.length : Int)))
 ((getI l s0).bind fun y1 =>
 (m_impl_within y1 1 2000).bind fun y2 =>
 cond (!y2)
 (some (.inr (.inr false)))
 (some (.inl (w64 (s0 + 1)))))
 (some (.inr (.inl ())))
instance (l : List Int) : LoopE (m_impl_threeSides_b0 l) := ⟨fun s0 => (.sl (l.map cInt) :: (U 4 (.sl (l.map cInt) :: vi (l.length : Int) :: vi s0 :: (U 10 [])))), fun s0 => []⟩
def m_impl_threeSides (l : List Int) : Option Bool :=
 (iterF (m_impl_threeSides_b0 l) NN 0).bind (selim (fun o0 =>
 some (decide ((l.length : Int) = 3))) (fun r => some r))
instance (l : List Int) : CT Tryz.prog (m_impl_threeSides l) := ⟨63, [.sl (l.map cInt)], [], fun r => vb r, fun r => [], fun H => by replace H := H0 H; unfold m_impl_threeSides at H; exact callM_of Tryz.func63 rfl Tryz.ntmps63 Tryz.results63 fun Q hQ hQn => wk3⟩
def m_impl_GirthOf (sides : List Int) : Option Int :=
 (m_impl_threeSides sides).bind fun y1 =>
 cond (!y1)
 (some 0)
 ((m_impl_SortSides sides).bind fun y2 =>
 (getI y2 0).bind fun y3 =>
 (getI y2 1).bind fun y4 =>
 (getI y2 2).bind fun y5 =>
 some (w64 ((w64 (y3 + (w64 (2 * y4)))) + (w64 (2 * y5)))))
instance (sides : List Int) : CT Tryz.prog (m_impl_GirthOf sides) := ⟨64, [.sl (sides.map cInt)], [], fun r => vi r, fun r => [], fun H => by replace H := H0 H; unfold m_impl_GirthOf at H; exact callM_of Tryz.func64 rfl Tryz.ntmps64 Tryz.results64 fun Q hQ hQn => wk3⟩
def m_impl_IsParcel (p : YParcel) : Option Bool :=
 (m_impl_IsLabel p.label).bind fun y1 =>
 cond y1
 ((m_impl_IsPlace p.from_).bind fun y2 =>
 cond y2
 (cond (!decide (p.from_ = p.label.to_))
 ((m_impl_within p.weight 1 30000).bind fun y3 =>
 cond y3
 ((m_impl_threeSides p.sides).bind fun y4 =>
 cond y4
 ((m_impl_GirthOf p.sides).bind fun y5 =>
 cond (decide (y5 ≤ 3600))
 ((m_impl_within p.value 0 500000).bind fun y6 =>
 some y6)
 (some false))
 (some false))
 (some false))
 (some false))
 (some false))
 (some false)
instance (p : YParcel) : CT Tryz.prog (m_impl_IsParcel p) := ⟨42, [.ag (cParcel p)], [], fun r => vb r, fun r => [], fun H => by replace H := H0 H; unfold m_impl_IsParcel at H; exact callM_of Tryz.func42 rfl Tryz.ntmps42 Tryz.results42 fun Q hQ hQn => wk3⟩
def m_impl_same_int__b0 (a : List Int) (b : List Int) (s0 : Int) : Option (Int ⊕ (Unit ⊕ Bool)) :=
 cond (decide (s0 < (a.length : Int)))
 ((getI a s0).bind fun y1 =>
 (getI b s0).bind fun y2 =>
 cond (!decide (y1 = y2))
 (some (.inr (.inr false)))
 (some (.inl (w64 (s0 + 1)))))
 (some (.inr (.inl ())))
instance (a : List Int) (b : List Int) : LoopE (m_impl_same_int__b0 a b) := ⟨fun s0 => (.sl (a.map cInt) :: .sl (b.map cInt) :: (U 10 (vi (a.length : Int) :: vi s0 :: (U 12 [])))), fun s0 => []⟩
def m_impl_same_int_ (a : List Int) (b : List Int) : Option Bool :=
 cond (!decide ((a.length : Int) = (b.length : Int)))
 (some false)
 ((iterF (m_impl_same_int__b0 a b) NN 0).bind (selim (fun o0 =>
 some true) (fun r => some r)))
instance (a : List Int) (b : List Int) : CT Tryz.prog (m_impl_same_int_ a b) := ⟨87, [.sl (a.map cInt), .sl (b.map cInt)], [], fun r => vb r, fun r => [], fun H => by replace H := H0 H; unfold m_impl_same_int_ at H; exact callM_of Tryz.func87 rfl Tryz.ntmps87 Tryz.results87 fun Q hQ hQn => wk3⟩
def m_impl_sameParcels (a : YParcel) (b : YParcel) : Option Bool :=
 cond (decide (a.label = b.label))
 (cond (decide (a.from_ = b.from_))
 (cond (decide (a.weight = b.weight))
 ((m_impl_same_int_ a.sides b.sides).bind fun y1 =>
 cond y1
 (some (decide (a.value = b.value)))
 (some false))
 (some false))
 (some false))
 (some false)
instance (a : YParcel) (b : YParcel) : CT Tryz.prog (m_impl_sameParcels a b) := ⟨65, [.ag (cParcel a), .ag (cParcel b)], [], fun r => vb r, fun r => [], fun H => by replace H := H0 H; unfold m_impl_sameParcels at H; exact callM_of Tryz.func65 rfl Tryz.ntmps65 Tryz.results65 fun Q hQ hQn => wk3⟩
def m_impl_sameActs (a : YAct) (b : YAct) : Option Bool :=
 cond (decide (a.kind = b.kind))
 ((m_impl_sameParcels a.parcel b.parcel).bind fun y1 =>
 cond y1
 (cond (decide (a.order = b.order))
 (cond (decide (a.amount = b.amount))
 (cond (decide (a.until_ = b.until_))
 (some (decide (a.trip = b.trip)))
 (some false))
 (some false))
 (some false))
 (some false))
 (some false)
instance (a : YAct) (b : YAct) : CT Tryz.prog (m_impl_sameActs a b) := ⟨44, [.ag (cAct a), .ag (cAct b)], [], fun r => vb r, fun r => [], fun H => by replace H := H0 H; unfold m_impl_sameActs at H; exact callM_of Tryz.func44 rfl Tryz.ntmps44 Tryz.results44 fun Q hQ hQn => wk3⟩
def m_impl_IsAct (a : YAct) : Option Bool :=
 (jn 3 22 (
 cond (decide (a.kind = 1))
 ((m_impl_IsParcel a.parcel).bind fun y1 =>
 some (.inl (y1, a.parcel.label.service, a.parcel.label.serial, a.parcel.label.to_, a.parcel.from_, a.parcel.weight, a.parcel.sides, a.parcel.value, 0, 0, 0, 0, 0)))
 (cond (decide (a.kind = 2))
 ((m_impl_within a.order 1 9999).bind fun y2 =>
 cond y2
 ((m_impl_within a.amount 1 100000).bind fun y3 =>
 some (.inl (y3, 0, 0, ⟨#[]⟩, ⟨#[]⟩, 0, [], 0, a.order, a.amount, 0, 0, 0)))
 (some (.inl (false, 0, 0, ⟨#[]⟩, ⟨#[]⟩, 0, [], 0, a.order, a.amount, 0, 0, 0))))
 (cond (decide (a.kind = 3))
 ((m_impl_within a.until_ 0 100000).bind fun y4 =>
 some (.inl (y4, 0, 0, ⟨#[]⟩, ⟨#[]⟩, 0, [], 0, 0, 0, a.until_, 0, 0)))
 (cond (decide (a.kind = 4))
 ((m_impl_within a.trip.leg 0 19).bind fun y5 =>
 cond y5
 ((m_impl_within a.trip.day 0 60).bind fun y6 =>
 some (.inl (y6, 0, 0, ⟨#[]⟩, ⟨#[]⟩, 0, [], 0, 0, 0, 0, a.trip.leg, a.trip.day)))
 (some (.inl (false, 0, 0, ⟨#[]⟩, ⟨#[]⟩, 0, [], 0, 0, 0, 0, a.trip.leg, a.trip.day))))
 (cond (decide (a.kind = 5))
 (some (.inl (true, 0, 0, ⟨#[]⟩, ⟨#[]⟩, 0, [], 0, 0, 0, 0, 0, 0)))
 (cond (decide (a.kind = 6))
 ((m_impl_within a.order 1 9999).bind fun y7 =>
 some (.inl (y7, 0, 0, ⟨#[]⟩, ⟨#[]⟩, 0, [], 0, a.order, 0, 0, 0, 0)))
 (some (.inl (false, 0, 0, ⟨#[]⟩, ⟨#[]⟩, 0, [], 0, 0, 0, 0, 0, 0)))))))) : Option ((Bool × Int × Int × ByteArray × ByteArray × Int × (List Int) × Int × Int × Int × Int × Int × Int) ⊕ Empty)) (fun z8 => (.un :: .be 0 0 0 :: .un :: .be 1 0 0 :: vb z8.1 :: (U 68 []))) (fun z8 => [some ⟨.of 30, 13, [[vi a.kind, vi a.parcel.label.service, vi a.parcel.label.serial, vs a.parcel.label.to_, vs a.parcel.from_, vi a.parcel.weight, .sl (a.parcel.sides.map cInt), vi a.parcel.value, vi a.order, vi a.amount, vi a.until_, vi a.trip.leg, vi a.trip.day]]⟩, some ⟨.of 30, 13, [[vi a.kind, vi z8.2.1, vi z8.2.2.1, vs z8.2.2.2.1, vs z8.2.2.2.2.1, vi z8.2.2.2.2.2.1, .sl (z8.2.2.2.2.2.2.1.map cInt), vi z8.2.2.2.2.2.2.2.1, vi z8.2.2.2.2.2.2.2.2.1, vi z8.2.2.2.2.2.2.2.2.2.1, vi z8.2.2.2.2.2.2.2.2.2.2.1, vi z8.2.2.2.2.2.2.2.2.2.2.2.1, vi z8.2.2.2.2.2.2.2.2.2.2.2.2]]⟩])).bind (selim (fun z8 =>
 cond z8.1
 ((m_impl_sameActs a (⟨a.kind, (⟨(⟨z8.2.1, z8.2.2.1, z8.2.2.2.1⟩ : YLabel), z8.2.2.2.2.1, z8.2.2.2.2.2.1, z8.2.2.2.2.2.2.1, z8.2.2.2.2.2.2.2.1⟩ : YParcel), z8.2.2.2.2.2.2.2.2.1, z8.2.2.2.2.2.2.2.2.2.1, z8.2.2.2.2.2.2.2.2.2.2.1, (⟨z8.2.2.2.2.2.2.2.2.2.2.2.1, z8.2.2.2.2.2.2.2.2.2.2.2.2⟩ : YTrip)⟩ : YAct)).bind fun y9 =>
 some y9)
 (some false)) (fun r => nomatch r))
instance (a : YAct) : CT Tryz.prog (m_impl_IsAct a) := ⟨19, [.ag (cAct a)], [], fun r => vb r, fun r => [], fun H => by replace H := H0 H; unfold m_impl_IsAct at H; exact callM_of Tryz.func19 rfl Tryz.ntmps19 Tryz.results19 fun Q hQ hQn => wk3⟩
def m_spec_l1Ints (l : List Int) : Option (List Int) :=
 (chk (appOk ((([] : List Int) : List Int).length + (l : List Int).length) 8)).bind fun _ =>
 some ((([] : List Int) : List Int) ++ l)
instance (l : List Int) : CT Tryz.prog (m_spec_l1Ints l) := ⟨124, [.sl (l.map cInt)], [], fun r => .ms 0, fun r => [some ⟨.of 3, 1, r.map cInt⟩], fun H => by replace H := H0 H; unfold m_spec_l1Ints at H; exact callM_of Tryz.func124 rfl Tryz.ntmps124 Tryz.results124 fun Q hQ hQn => wk3⟩
def m_spec_SortSides_b1 (l : List Int) (s0 : Int × (List Int)) (s1 : Int) : Option (Int ⊕ Int) :=
 cond (decide (s1 < (s0.2.length : Int)))
 ((getI s0.2 s1).bind fun y1 =>
 (getI l s0.1).bind fun y2 =>
 cond (decide (y2 ≤ y1))
 (some (.inl (w64 (s1 + 1))))
 (some (.inr s1)))
 (some (.inr s1))
instance (l : List Int) (s0 : Int × (List Int)) : LoopE (m_spec_SortSides_b1 l s0) := ⟨fun s1 => (.sl (l.map cInt) :: .un :: .un :: .ms 0 :: vi s0.1 :: vi s1 :: (U 39 [])), fun s1 => [some ⟨.of 3, 1, s0.2.map cInt⟩]⟩
def m_spec_SortSides_b0 (l : List Int) (s0 : Int × (List Int)) : Option ((Int × (List Int)) ⊕ (List Int)) :=
 cond (decide (s0.1 < (l.length : Int)))
 ((iterF (m_spec_SortSides_b1 l s0) NN 0).bind (fun o1 =>
 (chk (slOk 0 o1 s0.2.length)).bind fun _ =>
 (m_spec_l1Ints (subL s0.2 0 o1)).bind fun y3 =>
 (getI l s0.1).bind fun y4 =>
 (chk (appOk ((y3 : List Int).length + ([y4] : List Int).length) 8)).bind fun _ =>
 (chk (slOk o1 (s0.2.length : Int) s0.2.length)).bind fun _ =>
 (chk (appOk ((((y3 : List Int) ++ [y4]) : List Int).length + ((subL s0.2 o1 (s0.2.length : Int)) : List Int).length) 8)).bind fun _ =>
 some (.inl ((w64 (s0.1 + 1)), ((((y3 : List Int) ++ [y4]) : List Int) ++ (subL s0.2 o1 (s0.2.length : Int)))))))
 (some (.inr s0.2))
instance (l : List Int) : LoopE (m_spec_SortSides_b0 l) := ⟨fun s0 => (.sl (l.map cInt) :: .un :: .un :: .ms 0 :: vi s0.1 :: (U 40 [])), fun s0 => [some ⟨.of 3, 1, s0.2.map cInt⟩]⟩
def m_spec_SortSides (l : List Int) : Option (List Int) :=
 (iterF (m_spec_SortSides_b0 l) NN (0, ([] : List Int))).bind (fun o0 =>
 some o0)
instance (l : List Int) : CT Tryz.prog (m_spec_SortSides l) := ⟨88, [.sl (l.map cInt)], [], fun r => .ms 0, fun r => [some ⟨.of 3, 1, r.map cInt⟩], fun H => by replace H := H0 H; unfold m_spec_SortSides at H; exact callM_of Tryz.func88 rfl Tryz.ntmps88 Tryz.results88 fun Q hQ hQn => wk3⟩
def m_spec_l2Three_b0 (l : List Int) (s0 : Int) : Option (Int ⊕ (Unit ⊕ Bool)) :=
 cond (decide (s0 < (l.length : Int)))
 ((getI l s0).bind fun y1 =>
 (m_spec_l1In y1 1 2000).bind fun y2 =>
 cond (!y2)
 (some (.inr (.inr false)))
 (some (.inl (w64 (s0 + 1)))))
 (some (.inr (.inl ())))
instance (l : List Int) : LoopE (m_spec_l2Three_b0 l) := ⟨fun s0 => (.sl (l.map cInt) :: .un :: .un :: vi s0 :: (U 15 [])), fun s0 => []⟩
def m_spec_l2Three (l : List Int) : Option Bool :=
 (iterF (m_spec_l2Three_b0 l) NN 0).bind (selim (fun o0 =>
 some (decide ((l.length : Int) = 3))) (fun r => some r))
instance (l : List Int) : CT Tryz.prog (m_spec_l2Three l) := ⟨68, [.sl (l.map cInt)], [], fun r => vb r, fun r => [], fun H => by replace H := H0 H; unfold m_spec_l2Three at H; exact callM_of Tryz.func68 rfl Tryz.ntmps68 Tryz.results68 fun Q hQ hQn => wk3⟩
def m_spec_GirthOf (sides : List Int) : Option Int :=
 (m_spec_l2Three sides).bind fun y1 =>
 cond (!y1)
 (some 0)
 ((m_spec_SortSides sides).bind fun y2 =>
 (getI y2 0).bind fun y3 =>
 (getI y2 1).bind fun y4 =>
 (getI y2 2).bind fun y5 =>
 some (w64 ((w64 (y3 + (w64 (2 * y4)))) + (w64 (2 * y5)))))
instance (sides : List Int) : CT Tryz.prog (m_spec_GirthOf sides) := ⟨69, [.sl (sides.map cInt)], [], fun r => vi r, fun r => [], fun H => by replace H := H0 H; unfold m_spec_GirthOf at H; exact callM_of Tryz.func69 rfl Tryz.ntmps69 Tryz.results69 fun Q hQ hQn => wk3⟩
def m_spec_IsLabel (l : YLabel) : Option Bool :=
 (m_spec_l1In l.service 1 3).bind fun y1 =>
 cond y1
 ((m_spec_l1In l.serial 0 999999999).bind fun y2 =>
 cond y2
 ((m_spec_IsPlace l.to_).bind fun y3 =>
 some y3)
 (some false))
 (some false)
instance (l : YLabel) : CT Tryz.prog (m_spec_IsLabel l) := ⟨66, [.ag (cLabel l)], [], fun r => vb r, fun r => [], fun H => by replace H := H0 H; unfold m_spec_IsLabel at H; exact callM_of Tryz.func66 rfl Tryz.ntmps66 Tryz.results66 fun Q hQ hQn => wk3⟩
def m_spec_IsParcel (p : YParcel) : Option Bool :=
 (m_spec_IsLabel p.label).bind fun y1 =>
 cond y1
 ((m_spec_IsPlace p.from_).bind fun y2 =>
 cond y2
 (cond (!decide (p.from_ = p.label.to_))
 ((m_spec_l1In p.weight 1 30000).bind fun y3 =>
 cond y3
 ((m_spec_l2Three p.sides).bind fun y4 =>
 cond y4
 ((m_spec_GirthOf p.sides).bind fun y5 =>
 cond (decide (y5 ≤ 3600))
 ((m_spec_l1In p.value 0 500000).bind fun y6 =>
 some y6)
 (some false))
 (some false))
 (some false))
 (some false))
 (some false))
 (some false)
instance (p : YParcel) : CT Tryz.prog (m_spec_IsParcel p) := ⟨45, [.ag (cParcel p)], [], fun r => vb r, fun r => [], fun H => by replace H := H0 H; unfold m_spec_IsParcel at H; exact callM_of Tryz.func45 rfl Tryz.ntmps45 Tryz.results45 fun Q hQ hQn => wk3⟩
def m_spec_IsAct (a : YAct) : Option Bool :=
 (jn 2 7 (
 cond (decide (a.kind = 1))
 ((m_spec_IsParcel a.parcel).bind fun y1 =>
 cond (!y1)
 (some (.inr false))
 (some (.inl ())))
 (cond (!decide (a.parcel.label = (⟨0, 0, ⟨#[]⟩⟩ : YLabel)))
 (some (.inr false))
 (cond (!decide (a.parcel.from_ = ⟨#[]⟩))
 (some (.inr false))
 (cond (!decide (a.parcel.weight = 0))
 (some (.inr false))
 (cond (decide (0 < (a.parcel.sides.length : Int)))
 (some (.inr false))
 (cond (!decide (a.parcel.value = 0))
 (some (.inr false))
 (some (.inl ()))))))) : Option (Unit ⊕ Bool)) (fun z2 => (.un :: .be 0 0 0 :: (U 129 []))) (fun z2 => [some ⟨.of 30, 13, [[vi a.kind, vi a.parcel.label.service, vi a.parcel.label.serial, vs a.parcel.label.to_, vs a.parcel.from_, vi a.parcel.weight, .sl (a.parcel.sides.map cInt), vi a.parcel.value, vi a.order, vi a.amount, vi a.until_, vi a.trip.leg, vi a.trip.day]]⟩])).bind (selim (fun z2 =>
 (jn 7 8 (
 cond (decide (a.kind = 2))
 (some (.inl true))
 (some (.inl (decide (a.kind = 6)))) : Option (Bool ⊕ Empty)) (fun z3 => (.un :: .be 0 0 0 :: .un :: .un :: vb z3 :: (U 126 []))) (fun z3 => [some ⟨.of 30, 13, [[vi a.kind, vi a.parcel.label.service, vi a.parcel.label.serial, vs a.parcel.label.to_, vs a.parcel.from_, vi a.parcel.weight, .sl (a.parcel.sides.map cInt), vi a.parcel.value, vi a.order, vi a.amount, vi a.until_, vi a.trip.leg, vi a.trip.day]]⟩])).bind (selim (fun z3 =>
 (jn 8 10 (
 cond z3
 ((m_spec_l1In a.order 1 9999).bind fun y4 =>
 cond (!y4)
 (some (.inr false))
 (cond (!z3)
 (cond (!decide (a.order = 0))
 (some (.inr false))
 (some (.inl ())))
 (some (.inl ()))))
 (cond (!z3)
 (cond (!decide (a.order = 0))
 (some (.inr false))
 (some (.inl ())))
 (some (.inl ()))) : Option (Unit ⊕ Bool)) (fun z5 => (.un :: .be 0 0 0 :: (U 129 []))) (fun z5 => [some ⟨.of 30, 13, [[vi a.kind, vi a.parcel.label.service, vi a.parcel.label.serial, vs a.parcel.label.to_, vs a.parcel.from_, vi a.parcel.weight, .sl (a.parcel.sides.map cInt), vi a.parcel.value, vi a.order, vi a.amount, vi a.until_, vi a.trip.leg, vi a.trip.day]]⟩])).bind (selim (fun z5 =>
 (jn 10 12 (
 cond (decide (a.kind = 2))
 ((m_spec_l1In a.amount 1 100000).bind fun y6 =>
 cond (!y6)
 (some (.inr false))
 (cond (!decide (a.kind = 2))
 (cond (!decide (a.amount = 0))
 (some (.inr false))
 (some (.inl ())))
 (some (.inl ()))))
 (cond (!decide (a.kind = 2))
 (cond (!decide (a.amount = 0))
 (some (.inr false))
 (some (.inl ())))
 (some (.inl ()))) : Option (Unit ⊕ Bool)) (fun z7 => (.un :: .be 0 0 0 :: (U 129 []))) (fun z7 => [some ⟨.of 30, 13, [[vi a.kind, vi a.parcel.label.service, vi a.parcel.label.serial, vs a.parcel.label.to_, vs a.parcel.from_, vi a.parcel.weight, .sl (a.parcel.sides.map cInt), vi a.parcel.value, vi a.order, vi a.amount, vi a.until_, vi a.trip.leg, vi a.trip.day]]⟩])).bind (selim (fun z7 =>
 (jn 12 14 (
 cond (decide (a.kind = 3))
 ((m_spec_l1In a.until_ 0 100000).bind fun y8 =>
 cond (!y8)
 (some (.inr false))
 (cond (!decide (a.kind = 3))
 (cond (!decide (a.until_ = 0))
 (some (.inr false))
 (some (.inl ())))
 (some (.inl ()))))
 (cond (!decide (a.kind = 3))
 (cond (!decide (a.until_ = 0))
 (some (.inr false))
 (some (.inl ())))
 (some (.inl ()))) : Option (Unit ⊕ Bool)) (fun z9 => (.un :: .be 0 0 0 :: (U 129 []))) (fun z9 => [some ⟨.of 30, 13, [[vi a.kind, vi a.parcel.label.service, vi a.parcel.label.serial, vs a.parcel.label.to_, vs a.parcel.from_, vi a.parcel.weight, .sl (a.parcel.sides.map cInt), vi a.parcel.value, vi a.order, vi a.amount, vi a.until_, vi a.trip.leg, vi a.trip.day]]⟩])).bind (selim (fun z9 =>
 (jn 14 16 (
 cond (decide (a.kind = 4))
 ((m_spec_l1In a.trip.leg 0 19).bind fun y10 =>
 cond (!y10)
 (some (.inr false))
 ((m_spec_l1In a.trip.day 0 60).bind fun y11 =>
 cond (!y11)
 (some (.inr false))
 (cond (!decide (a.kind = 4))
 (cond (!decide (a.trip = (⟨0, 0⟩ : YTrip)))
 (some (.inr false))
 (some (.inl ())))
 (some (.inl ())))))
 (cond (!decide (a.kind = 4))
 (cond (!decide (a.trip = (⟨0, 0⟩ : YTrip)))
 (some (.inr false))
 (some (.inl ())))
 (some (.inl ()))) : Option (Unit ⊕ Bool)) (fun z12 => (.un :: .be 0 0 0 :: (U 129 []))) (fun z12 => [some ⟨.of 30, 13, [[vi a.kind, vi a.parcel.label.service, vi a.parcel.label.serial, vs a.parcel.label.to_, vs a.parcel.from_, vi a.parcel.weight, .sl (a.parcel.sides.map cInt), vi a.parcel.value, vi a.order, vi a.amount, vi a.until_, vi a.trip.leg, vi a.trip.day]]⟩])).bind (selim (fun z12 =>
 (m_spec_l1In a.kind 1 6).bind fun y13 =>
 some y13) (fun r => some r))) (fun r => some r))) (fun r => some r))) (fun r => some r))) (fun r => nomatch r))) (fun r => some r))
instance (a : YAct) : CT Tryz.prog (m_spec_IsAct a) := ⟨20, [.ag (cAct a)], [], fun r => vb r, fun r => [], fun H => by replace H := H0 H; unfold m_spec_IsAct at H; exact callM_of Tryz.func20 rfl Tryz.ntmps20 Tryz.results20 fun Q hQ hQn => wk3⟩
end Go.Proofs.YtkfbakhnpfmfmaaGreatDoor
namespace Go.Proofs.YtkfbakhnpfmfmaaGreatDoor
set_option maxRecDepth 10000
open Go.RowKit Go.Sort
set_option linter.unusedVariables false
set_option linter.unusedSimpArgs false
set_option maxHeartbeats 1000000
theorem threeB_eq : @m_impl_threeSides_b0 = @m_spec_l2Three_b0 := by
  funext l i; unfold m_impl_threeSides_b0 m_spec_l2Three_b0; rw [within_eq]
theorem three_eq (l : List Int) : m_impl_threeSides l = m_spec_l2Three l := by
  unfold m_impl_threeSides m_spec_l2Three; rw [threeB_eq]
def threeV (l : List Int) : Bool := l.all (fun n => decide (1 ≤ n) && decide (n ≤ 2000)) && decide ((l.length : Int) = 3)
theorem three_v {l : List Int} (h : l.length < NN) : m_spec_l2Three l = some (threeV l) := by
  have e : iterF (m_spec_l2Three_b0 l) NN 0 = some (if l.any (fun n => !(decide (1 ≤ n) && decide (n ≤ 2000))) = true then .inr false else .inl ()) := by
    refine iter_find (fun i hi => ?_) ?_ h
    · have hx : l[i]? = some l[i] := List.getElem?_eq_getElem hi
      have hw := w64_nat hi (by unfold NN at h; omega)
      unfold m_spec_l2Three_b0
      rw [decide_eq_true (by omega : (i : Int) < l.length), cond_true, getI_nat, hx, Option.bind_some, l1In_v, Option.bind_some, hw]
      cases (decide (1 ≤ l[i]) && decide (l[i] ≤ 2000)) <;> rfl
    · unfold m_spec_l2Three_b0
      rw [decide_eq_false (by omega : ¬ ((l.length : Int) < l.length))]; rfl
  unfold m_spec_l2Three threeV
  rw [e, List.all_eq_not_any_not]
  cases l.any (fun n => !(decide (1 ≤ n) && decide (n ≤ 2000))) <;> rfl
theorem iter_more {σ ο : Type} {body : σ → Option (σ ⊕ ο)} {o : ο} : ∀ {n : Nat} {s : σ}, iterF body n s = some o → ∀ k, iterF body (n + k) s = some o
  | 0, s, h, k => by cases h
  | n + 1, s, h, k => by
    rw [Nat.add_right_comm]
    unfold iterF at *
    cases hb : body s with
    | none => rw [hb] at h; cases h
    | some x =>
      rw [hb] at h
      cases x with
      | inl s' => exact iter_more (n := n) h k
      | inr o' => exact h
theorem iter_NN {σ ο : Type} {body : σ → Option (σ ⊕ ο)} {o : ο} {n : Nat} {s : σ} (h : iterF body n s = some o) (hn : n ≤ NN) : iterF body NN s = some o := by
  have := iter_more h (NN - n)
  rwa [Nat.add_sub_cancel' hn] at this
theorem itl {σ ο : Type} {body : σ → Option (σ ⊕ ο)} {n : Nat} {s s' : σ} (h : body s = some (.inl s')) : iterF body (n + 1) s = iterF body n s' := by
  show (body s).bind _ = _
  rw [h]; rfl
theorem itr {σ ο : Type} {body : σ → Option (σ ⊕ ο)} {n : Nat} {s : σ} {o : ο} (h : body s = some (.inr o)) : iterF body (n + 1) s = some o := by
  show (body s).bind _ = _
  rw [h]; rfl
theorem w1 : w64 1 = 1 := by decide
theorem w2 : w64 2 = 2 := by decide
theorem w3 : w64 3 = 3 := by decide
theorem inn0 (l : List Int) (i : Int) : iterF (m_spec_SortSides_b1 l (i, [])) NN 0 = some ((0 : Nat) : Int) := iter_NN (n := 1) (itr (by simp [m_spec_SortSides_b1])) (by unfold NN; omega)
theorem inn1 {l : List Int} {i y a : Int} (h : getI l i = some y) : iterF (m_spec_SortSides_b1 l (i, [a])) NN 0 = some (((if y ≤ a then 1 else 0 : Nat)) : Int) := by
  refine iter_NN (n := 2) ?_ (by unfold NN; omega)
  have q0 : getI [a] 0 = some a := rfl
  by_cases h1 : y ≤ a
  · rw [if_pos h1, itl (s' := 1) (by simp [m_spec_SortSides_b1, h, q0, h1, w1]), itr (o := 1) (by simp [m_spec_SortSides_b1])]; rfl
  · rw [if_neg h1, itr (o := 0) (by simp [m_spec_SortSides_b1, h, q0, h1])]; rfl
theorem inn2 {l : List Int} {i y a b : Int} (h : getI l i = some y) : iterF (m_spec_SortSides_b1 l (i, [a, b])) NN 0 = some (((if y ≤ a then (if y ≤ b then 2 else 1) else 0 : Nat)) : Int) := by
  refine iter_NN (n := 3) ?_ (by unfold NN; omega)
  have q0 : getI [a, b] 0 = some a := rfl
  have q1 : getI [a, b] 1 = some b := rfl
  by_cases h1 : y ≤ a
  · rw [if_pos h1, itl (s' := 1) (by simp [m_spec_SortSides_b1, h, q0, h1, w1])]
    by_cases h2 : y ≤ b
    · rw [if_pos h2, itl (s' := 2) (by simp [m_spec_SortSides_b1, h, q1, h2, w2]), itr (o := 2) (by simp [m_spec_SortSides_b1])]; rfl
    · rw [if_neg h2, itr (o := 1) (by simp [m_spec_SortSides_b1, h, q1, h2])]; rfl
  · rw [if_neg h1, itr (o := 0) (by simp [m_spec_SortSides_b1, h, q0, h1])]; rfl
theorem l1Ints_v {l : List Int} (h : l.length ≤ 1048576) : m_spec_l1Ints l = some l := by
  have c : chk (appOk (([] : List Int).length + l.length) 8) = some () := chk_t (decide_eq_true ⟨by simp; omega, by simp; omega⟩)
  unfold m_spec_l1Ints
  rw [c]
  rfl
theorem outb {l out : List Int} {i y : Int} {k : Nat} (hi : i < (l.length : Int)) (hy : getI l i = some y) (hk : iterF (m_spec_SortSides_b1 l (i, out)) NN 0 = some (k : Int)) (hkl : k ≤ out.length) (hl : out.length ≤ 1000) :
    m_spec_SortSides_b0 l (i, out) = some (.inl (w64 (i + 1), out.take k ++ [y] ++ out.drop k)) := by
  unfold m_spec_SortSides_b0
  have t1 : subL out 0 (k : Int) = out.take k := by simp [subL]
  have t2 : subL out (k : Int) (out.length : Int) = out.drop k := by simp only [subL, Int.toNat_natCast]; exact List.take_of_length_le (by simp)
  have c1 : chk (slOk 0 (k : Int) (out.length : Int)) = some () := chk_t (decide_eq_true ⟨by omega, by omega, by omega⟩)
  have c2 : chk (slOk (k : Int) (out.length : Int) (out.length : Int)) = some () := chk_t (decide_eq_true ⟨by omega, by omega, by omega⟩)
  have c3 : chk (appOk ((out.take k).length + ([y] : List Int).length) 8) = some () := chk_t (decide_eq_true ⟨by simp; omega, by simp; omega⟩)
  have c4 : chk (appOk ((out.take k ++ [y]).length + (out.drop k).length) 8) = some () := chk_t (decide_eq_true ⟨by simp; omega, by simp; omega⟩)
  simp only [decide_eq_true hi, cond_true, hk, Option.bind_some, c1, t1, l1Ints_v (l := out.take k) (by simp; omega), hy, c3, c2, t2, c4]
theorem srt_spec (x y z : Int) : m_spec_SortSides [x, y, z] = some (srt3 [x, y, z]) := by
  have g0 : getI [x, y, z] 0 = some x := rfl
  have g1 : getI [x, y, z] 1 = some y := rfl
  have g2 : getI [x, y, z] 2 = some z := rfl
  have e : iterF (m_spec_SortSides_b0 [x, y, z]) NN (0, []) = some (srt3 [x, y, z]) := by
    refine iter_NN (n := 4) ?_ (by unfold NN; omega)
    have e0 := outb (l := [x, y, z]) (by simp) g0 (inn0 _ _) (Nat.le_refl _) (by simp)
    have hE : ∀ o : List Int, m_spec_SortSides_b0 [x, y, z] (3, o) = some (.inr o) := fun o => by simp [m_spec_SortSides_b0]
    simp only [List.take_nil, List.drop_nil, List.nil_append, List.append_nil, show w64 ((0 : Int) + 1) = 1 by decide] at e0
    have e1 := outb (l := [x, y, z]) (out := [x]) (by simp) g1 (inn1 g1) (by split <;> simp) (by simp)
    simp only [show w64 ((1 : Int) + 1) = 2 by decide] at e1
    have e2 := fun a b => outb (l := [x, y, z]) (out := [a, b]) (by simp) g2 (inn2 g2) (by split <;> (try split) <;> simp) (by simp)
    simp only [show w64 ((2 : Int) + 1) = 3 by decide] at e2
    have hs : srt3 [x, y, z] = (Sort.insertionSort gtI #[x, y, z] 0 3).toList := rfl
    rw [hs]
    unfold Sort.insertionSort
    rw [insOuter, if_pos (by omega), insOuter, if_pos (by omega), insOuter, if_neg (by omega)]
    by_cases h1 : y ≤ x
    · have h1' : ¬ x < y := by omega
      rw [if_pos h1] at e1
      have e2' := e2 x y
      by_cases h2 : z ≤ x
      · by_cases h3 : z ≤ y
        · rw [if_pos h2, if_pos h3] at e2'
          simp at e1 e2'
          rw [itl e0, itl e1, itl e2', itr (hE _)]; simp [insInner, swp, gtI, h1', show ¬ y < z by omega]
        · rw [if_pos h2, if_neg h3] at e2'
          simp at e1 e2'
          rw [itl e0, itl e1, itl e2', itr (hE _)]; simp [insInner, swp, gtI, h1', show y < z by omega, show ¬ x < z by omega]
      · rw [if_neg h2] at e2'
        simp at e1 e2'
        rw [itl e0, itl e1, itl e2', itr (hE _)]; simp [insInner, swp, gtI, h1', show y < z by omega, show x < z by omega]
    · have h1' : x < y := by omega
      rw [if_neg h1] at e1
      have e2' := e2 y x
      by_cases h2 : z ≤ y
      · by_cases h3 : z ≤ x
        · rw [if_pos h2, if_pos h3] at e2'
          simp at e1 e2'
          rw [itl e0, itl e1, itl e2', itr (hE _)]; simp [insInner, swp, gtI, h1', show ¬ x < z by omega]
        · rw [if_pos h2, if_neg h3] at e2'
          simp at e1 e2'
          rw [itl e0, itl e1, itl e2', itr (hE _)]; simp [insInner, swp, gtI, h1', show x < z by omega, show ¬ y < z by omega]
      · rw [if_neg h2] at e2'
        simp at e1 e2'
        rw [itl e0, itl e1, itl e2', itr (hE _)]; simp [insInner, swp, gtI, h1', show y < z by omega, show x < z by omega]
  unfold m_spec_SortSides
  rw [e]; rfl
theorem three_len {l : List Int} (h : threeV l = true) : l.length = 3 := by
  unfold threeV at h
  have := (Bool.and_eq_true _ _ ▸ h : _ ∧ _).2
  have := of_decide_eq_true this
  omega
theorem girth_eq {l : List Int} (h : l.length < NN) : m_impl_GirthOf l = m_spec_GirthOf l ∧ ∃ b, m_spec_GirthOf l = some b := by
  unfold m_impl_GirthOf m_spec_GirthOf
  rw [three_eq, three_v h]
  cases ht : threeV l with
  | false => exact ⟨rfl, _, rfl⟩
  | true =>
    have h3 := three_len ht
    match l, h3 with
    | [x, y, z], _ =>
      have hm : m_impl_SortSides [x, y, z] = some (srt3 [x, y, z]) := if_pos rfl
      have hl := srt3_len [x, y, z]
      match hs : srt3 [x, y, z], hl with
      | [a, b, c], _ =>
        simp only [srt_spec, hm, hs, Option.bind_some, Bool.not_true, cond_false]
        exact ⟨trivial, _, rfl⟩
theorem label_eq {l : YLabel} (h : l.to_.size ≤ B60) : m_impl_IsLabel l = m_spec_IsLabel l ∧ ∃ b, m_spec_IsLabel l = some b := by
  obtain ⟨e, b, hb⟩ := isPlace_eq h
  unfold m_impl_IsLabel m_spec_IsLabel
  rw [within_eq, e, hb, l1In_v, l1In_v]
  refine ⟨rfl, ?_⟩
  cases (decide (1 ≤ l.service) && decide (l.service ≤ 3)) <;> cases (decide (0 ≤ l.serial) && decide (l.serial ≤ 999999999)) <;> exact ⟨_, rfl⟩
theorem parcel_eq {p : YParcel} (h1 : p.label.to_.size ≤ B60) (h2 : p.from_.size ≤ B60) (h3 : p.sides.length < NN) : m_impl_IsParcel p = m_spec_IsParcel p ∧ ∃ b, m_spec_IsParcel p = some b := by
  obtain ⟨e1, b1, hb1⟩ := label_eq h1
  obtain ⟨e2, b2, hb2⟩ := isPlace_eq h2
  obtain ⟨e3, b3, hb3⟩ := girth_eq h3
  unfold m_impl_IsParcel m_spec_IsParcel
  rw [within_eq, e1, e2, e3, three_eq, hb1, hb2, hb3, three_v h3, l1In_v, l1In_v]
  refine ⟨rfl, ?_⟩
  simp only [Option.bind_some]
  generalize (decide (1 ≤ p.weight) && decide (p.weight ≤ 30000)) = c1
  generalize threeV p.sides = c2
  generalize decide (b3 ≤ 3600) = c3
  generalize (!decide (p.from_ = p.label.to_)) = c4
  cases b1
  · exact ⟨_, rfl⟩
  cases b2
  · exact ⟨_, rfl⟩
  cases c4
  · exact ⟨_, rfl⟩
  cases c1
  · exact ⟨_, rfl⟩
  cases c2
  · exact ⟨_, rfl⟩
  cases c3 <;> exact ⟨_, rfl⟩
theorem same_v {a b : List Int} (h : a.length < NN) : m_impl_same_int_ a b = some (decide (a = b)) := by
  unfold m_impl_same_int_
  by_cases hl : a.length = b.length
  · have e : iterF (m_impl_same_int__b0 a b) NN 0 = some (if (List.range a.length).all (fun i => decide (a[i]? = b[i]?)) = true then .inl () else .inr false) := by
      refine iter_check (fun i hi _ => ?_) (fun _ => ?_) h
      · have hx : a[i]? = some a[i] := List.getElem?_eq_getElem hi
        have hy : b[i]? = some b[i] := List.getElem?_eq_getElem (by omega)
        have hw := w64_nat hi (by unfold NN at h; omega)
        unfold m_impl_same_int__b0
        rw [decide_eq_true (by omega : (i : Int) < a.length), cond_true, getI_nat, getI_nat, hx, hy, Option.bind_some, Option.bind_some, hw]
        by_cases he : a[i] = b[i] <;> simp [he]
      · unfold m_impl_same_int__b0
        rw [decide_eq_false (by omega : ¬ ((a.length : Int) < a.length))]; rfl
    rw [decide_eq_true (by omega : (a.length : Int) = b.length), e]
    by_cases hab : a = b
    · subst hab
      simp
    · rw [if_neg, decide_eq_false hab]
      · rfl
      · intro hall
        refine hab (List.ext_getElem? fun i => ?_)
        by_cases hi : i < a.length
        · exact of_decide_eq_true (List.all_eq_true.1 hall i (List.mem_range.2 hi))
        · rw [List.getElem?_eq_none (by omega), List.getElem?_eq_none (by omega)]
  · rw [decide_eq_false (by omega : ¬ ((a.length : Int) = b.length)), decide_eq_false (fun e => hl (by rw [e]))]
    rfl
theorem jn_eq {ο α : Type} (i j : Nat) (J : Option (ο ⊕ α)) (T : ο → List PV) (M : ο → Mem) : jn i j J T M = J := by unfold jn; rfl
theorem cnd1 (b c : Bool) : (bif b then some c else some false) = some (b && c) := by cases b <;> rfl
theorem cnd2 (b c : Bool) : (bif !b then some false else some c) = some (b && c) := by cases b <;> rfl
theorem bndc {α β : Type} (b : Bool) (X Y : Option α) (S : α → Option β) : (bif b then X else Y).bind S = bif b then X.bind S else Y.bind S := by cases b <;> rfl
theorem sameParcels_v {a b : YParcel} (h : a.sides.length < NN) : m_impl_sameParcels a b = some (decide (a.label = b.label) && (decide (a.from_ = b.from_) && (decide (a.weight = b.weight) && (decide (a.sides = b.sides) && decide (a.value = b.value))))) := by
  unfold m_impl_sameParcels
  simp only [same_v h, Option.bind_some, cnd1]
theorem sameActs_v {a b : YAct} (h : a.parcel.sides.length < NN) : m_impl_sameActs a b = some (decide (a.kind = b.kind) && ((decide (a.parcel.label = b.parcel.label) && (decide (a.parcel.from_ = b.parcel.from_) && (decide (a.parcel.weight = b.parcel.weight) && (decide (a.parcel.sides = b.parcel.sides) && decide (a.parcel.value = b.parcel.value))))) && (decide (a.order = b.order) && (decide (a.amount = b.amount) && (decide (a.until_ = b.until_) && decide (a.trip = b.trip)))))) := by
  unfold m_impl_sameActs
  simp only [sameParcels_v h, Option.bind_some, cnd1]
theorem act_eq {a : YAct} (h1 : a.parcel.label.to_.size ≤ B60) (h2 : a.parcel.from_.size ≤ B60) (h3 : a.parcel.sides.length < NN) : ∃ b, m_impl_IsAct a = some b ∧ m_spec_IsAct a = some b := by
  obtain ⟨e1, b1, hb1⟩ := parcel_eq h1 h2 h3
  have hz : decide (0 < (a.parcel.sides.length : Int)) = !decide (a.parcel.sides = []) := by
    cases a.parcel.sides <;> simp
  unfold m_impl_IsAct m_spec_IsAct
  simp only [jn_eq, within_eq, e1, hb1, l1In_v, sameActs_v h3, hz, Option.bind_some]
  generalize hq1 : decide (a.parcel.label = ⟨0, 0, ⟨#[]⟩⟩) = q1
  generalize hq2 : decide (a.parcel.from_ = ⟨#[]⟩) = q2
  generalize hq3 : decide (a.parcel.weight = 0) = q3
  generalize hq4 : decide (a.parcel.sides = []) = q4
  generalize hq5 : decide (a.parcel.value = 0) = q5
  generalize hq6 : decide (a.order = 0) = q6
  generalize hq7 : decide (a.amount = 0) = q7
  generalize hq8 : decide (a.until_ = 0) = q8
  generalize hq9 : decide (a.trip = ⟨0, 0⟩) = q9
  have kk : a.kind = 1 ∨ a.kind = 2 ∨ a.kind = 3 ∨ a.kind = 4 ∨ a.kind = 5 ∨ a.kind = 6 ∨ (a.kind ≠ 1 ∧ a.kind ≠ 2 ∧ a.kind ≠ 3 ∧ a.kind ≠ 4 ∧ a.kind ≠ 5 ∧ a.kind ≠ 6) := by omega
  rcases kk with k | k | k | k | k | k | ⟨n1, n2, n3, n4, n5, n6⟩
  all_goals try (simp only [n1, n2, n3, n4, n5, n6, Int.reduceEq, decide_true, decide_false, Bool.not_true, Bool.not_false, cond_true, cond_false, Option.bind_some, selim, bndc])
  all_goals try simp only [k, Int.reduceEq, decide_true, decide_false, Bool.not_true, Bool.not_false, cond_true, cond_false, Option.bind_some, selim, bndc]
  case inr.inr.inr.inr.inr.inr =>
    have hf : (decide (1 ≤ a.kind) && decide (a.kind ≤ 6)) = false := by
      rw [Bool.and_eq_false_iff, decide_eq_false_iff_not, decide_eq_false_iff_not]; omega
    simp only [hf, cnd1, cnd2, Bool.and_false]
    exact ⟨_, rfl, rfl⟩
  all_goals
    simp only [hq1, hq2, hq3, hq4, hq5, hq6, hq7, hq8, hq9, cnd1, cnd2, Bool.true_and, Bool.and_true, Int.reduceLE, decide_true]
    exact ⟨_, rfl, by congr 1; try ac_rfl⟩
end Go.Proofs.YtkfbakhnpfmfmaaGreatDoor
namespace Go.Proofs.YtkfbakhnpfmfmaaGreatDoor
set_option maxRecDepth 10000
open Go.RowKit
set_option linter.unusedVariables false
set_option maxHeartbeats 16000000
def m_spec_l1Body (l : YLabel) : Option ByteArray :=
 (m_spec_FormatInt l.service).bind fun y1 =>
 (m_spec_l1Padded l.serial 9).bind fun y2 =>
 (chk (strOk y1 y2)).bind fun _ =>
 (chk (strOk (y1 ++ y2) l.to_)).bind fun _ =>
 some ((y1 ++ y2) ++ l.to_)
instance (l : YLabel) : CT Tryz.prog (m_spec_l1Body l) := ⟨89, [.ag (cLabel l)], [], fun r => vs r, fun r => [], fun H => by replace H := H0 H; unfold m_spec_l1Body at H; exact callM_of Tryz.func89 rfl Tryz.ntmps89 Tryz.results89 fun Q hQ hQn => wk3⟩
def m_spec_CheckOf (l : YLabel) : Option Int :=
 (m_spec_IsLabel l).bind fun y1 =>
 cond (!y1)
 (some (-1))
 ((m_spec_l1Body l).bind fun y2 =>
 (chk (strOk y2 (⟨#[48, 48]⟩))).bind fun _ =>
 (m_spec_Digits (y2 ++ ⟨#[48, 48]⟩)).bind fun y3 =>
 (m_spec_Mod97 y3.1).bind fun y4 =>
 some (w64 (98 - y4)))
instance (l : YLabel) : CT Tryz.prog (m_spec_CheckOf l) := ⟨91, [.ag (cLabel l)], [], fun r => vi r, fun r => [], fun H => by replace H := H0 H; unfold m_spec_CheckOf at H; exact callM_of Tryz.func91 rfl Tryz.ntmps91 Tryz.results91 fun Q hQ hQn => wk3⟩
def m_spec_FormatLabel (l : YLabel) : Option ByteArray :=
 (m_spec_IsLabel l).bind fun y1 =>
 cond (!y1)
 (some (⟨#[]⟩))
 ((m_spec_l1Body l).bind fun y2 =>
 (m_spec_CheckOf l).bind fun y3 =>
 (m_spec_l1Padded y3 2).bind fun y4 =>
 (chk (strOk y2 y4)).bind fun _ =>
 some (y2 ++ y4))
instance (l : YLabel) : CT Tryz.prog (m_spec_FormatLabel l) := ⟨70, [.ag (cLabel l)], [], fun r => vs r, fun r => [], fun H => by replace H := H0 H; unfold m_spec_FormatLabel at H; exact callM_of Tryz.func70 rfl Tryz.ntmps70 Tryz.results70 fun Q hQ hQn => wk3⟩
end Go.Proofs.YtkfbakhnpfmfmaaGreatDoor
namespace Go.Proofs.YtkfbakhnpfmfmaaGreatDoor
set_option maxRecDepth 10000
open Go.RowKit Go.Sort
set_option linter.unusedVariables false
set_option linter.unusedSimpArgs false
set_option maxHeartbeats 1000000
def isDL (c : UInt8) : Prop := (48 ≤ c.toNat ∧ c.toNat ≤ 57) ∨ (65 ≤ c.toNat ∧ c.toNat ≤ 90)
theorem dgt_isDL {c : UInt8} (h : isDL c) : ∃ a, dgt c = some a := by
  unfold dgt
  by_cases h1 : 48 ≤ c.toNat ∧ c.toNat ≤ 57
  · exact ⟨_, if_pos h1⟩
  · rw [if_neg h1]
    rcases h with h | h
    · exact absurd h h1
    · exact ⟨_, if_pos h⟩
theorem dgts_isDL : ∀ {l : List UInt8}, (∀ c ∈ l, isDL c) → ∃ a, dgts l = some a ∧ a.length ≤ 21 * l.length
  | [], _ => ⟨[], rfl, by simp⟩
  | c :: cs, h => by
    obtain ⟨a, ha⟩ := dgt_isDL (h c (by simp))
    obtain ⟨b, hb, hbl⟩ := dgts_isDL (l := cs) fun x hx => h x (by simp [hx])
    have := dgt_len ha
    exact ⟨a ++ b, by simp only [dgts, ha, hb], by simp; omega⟩
theorem dgts_app {l m a b : List UInt8} (h1 : dgts l = some a) (h2 : dgts m = some b) : dgts (l ++ m) = some (a ++ b) := by
  induction l generalizing a with
  | nil => simp [dgts] at h1; subst h1; simpa using h2
  | cons c l ih =>
    simp only [dgts] at h1
    cases hc : dgt c with
    | none => rw [hc] at h1; cases h1
    | some x =>
      cases hl : dgts l with
      | none => rw [hc, hl] at h1; cases h1
      | some y =>
        rw [hc, hl] at h1
        cases h1
        simp only [List.cons_append, dgts, hc, ih hl, List.append_assoc]
theorem dec_isd : ∀ (k u : Nat), u ≤ k → ∀ c ∈ Lib.decDigits u, isDL c := by
  intro k
  induction k with
  | zero =>
    intro u hu c hc
    obtain rfl : u = 0 := by omega
    rw [Lib.decDigits, dif_pos (by omega)] at hc
    simp at hc
    subst hc
    left; decide
  | succ k ih =>
    intro u hu c hc
    rw [Lib.decDigits] at hc
    by_cases h10 : u < 10
    · rw [dif_pos h10] at hc
      obtain rfl := List.mem_singleton.1 hc
      left
      rw [UInt8.toNat_ofNat']
      omega
    · rw [dif_neg h10] at hc
      rcases List.mem_append.1 hc with h | h
      · exact ih _ (by omega) c h
      · obtain rfl := List.mem_singleton.1 h
        left
        rw [UInt8.toNat_ofNat']
        omega
theorem itoa_isd {n : Int} (h : 0 ≤ n) : ∀ c ∈ Lib.itoa n, isDL c := by
  unfold Lib.itoa
  rw [if_neg (by omega)]
  exact dec_isd _ _ (Nat.le_refl _)
theorem padL_isd {n : Int} {d : Nat} (h : 0 ≤ n) : ∀ c ∈ padL n d, isDL c := by
  intro c hc
  rcases List.mem_append.1 hc with h1 | h1
  · rw [List.eq_of_mem_replicate h1]; left; decide
  · exact itoa_isd h c h1
theorem placeB_at {l : List UInt8} {i : Nat} {c : UInt8} (h : l[i]? = some c) (hi : i < 3) : m_spec_IsPlace_b0 (txt l) (i : Int) = some (if 65 ≤ c.toNat ∧ c.toNat ≤ 90 then .inl ((i + 1 : Nat) : Int) else .inr (.inr false)) := by
  have hcl := c.toNat_lt
  unfold m_spec_IsPlace_b0
  rw [decide_eq_true (show (i : Int) < 3 by omega), getB_txt h]
  simp only [cond_true, Option.bind_some, wrap_b (y := (c.toNat : Int)) ⟨by omega, by omega⟩, l1In_v, w64_nat (n := 3) hi (by omega)]
  by_cases h1 : 65 ≤ c.toNat ∧ c.toNat ≤ 90
  · rw [if_pos h1, decide_eq_true (show (65 : Int) ≤ c.toNat by omega), decide_eq_true (show (c.toNat : Int) ≤ 90 by omega)]; rfl
  · rw [if_neg h1]
    have e : (decide ((65 : Int) ≤ c.toNat) && decide ((c.toNat : Int) ≤ 90)) = false := by
      by_cases h : 65 ≤ c.toNat
      · rw [decide_eq_false (show ¬ (c.toNat : Int) ≤ 90 by omega), Bool.and_false]
      · rw [decide_eq_false (show ¬ (65 : Int) ≤ (c.toNat : Int) by omega), Bool.false_and]
    rw [e]; rfl
theorem txt_data (s : ByteArray) : txt s.data.toList = s := ByteArray.ext (by simp [txt])
theorem place_up {s : ByteArray} (h : m_spec_IsPlace s = some true) : s.size = 3 ∧ ∀ c ∈ s.data.toList, isDL c := by
  by_cases h3 : s.size = 3
  · refine ⟨h3, ?_⟩
    have hl : s.data.toList.length = 3 := by rw [Array.length_toList]; exact h3
    obtain ⟨n, hn⟩ : ∃ n, NN = n + 1 + 1 + 1 := ⟨NN - 3, by unfold NN; omega⟩
    unfold m_spec_IsPlace at h
    rw [h3, hn, ← txt_data s] at h
    revert h hl
    generalize s.data.toList = l
    intro hl h
    match l, hl with
    | [a, b, c], _ =>
      have ea := placeB_at (l := [a, b, c]) (i := 0) rfl (by omega)
      have eb := placeB_at (l := [a, b, c]) (i := 1) rfl (by omega)
      have ec := placeB_at (l := [a, b, c]) (i := 2) rfl (by omega)
      by_cases ha : 65 ≤ a.toNat ∧ a.toNat ≤ 90
      · rw [if_pos ha] at ea
        by_cases hb : 65 ≤ b.toNat ∧ b.toNat ≤ 90
        · rw [if_pos hb] at eb
          by_cases hc : 65 ≤ c.toNat ∧ c.toNat ≤ 90
          · intro x hx
            simp at hx
            rcases hx with rfl | rfl | rfl
            · exact .inr ha
            · exact .inr hb
            · exact .inr hc
          · rw [if_neg hc] at ec
            have e := (itl (n := n + 1 + 1) ea).trans ((itl (n := n + 1) eb).trans (itr (n := n) ec))
            rw [show ((0 : Nat) : Int) = 0 from rfl] at e
            rw [e] at h
            cases h
        · rw [if_neg hb] at eb
          have e := (itl (n := n + 1 + 1) ea).trans (itr (n := n + 1) eb)
          rw [show ((0 : Nat) : Int) = 0 from rfl] at e
          rw [e] at h
          cases h
      · rw [if_neg ha] at ea
        have e := itr (n := n + 1 + 1) ea
        rw [show ((0 : Nat) : Int) = 0 from rfl] at e
        rw [e] at h
        cases h
  · unfold m_spec_IsPlace at h
    rw [decide_eq_false (by omega)] at h
    cases h
def bodyL (l : YLabel) : List UInt8 := Lib.itoa l.service ++ padL l.serial 9 ++ l.to_.data.toList
theorem isLabel_t {l : YLabel} (h : m_spec_IsLabel l = some true) : l.to_.size = 3 ∧ ∀ c ∈ bodyL l, isDL c := by
  unfold m_spec_IsLabel at h
  rw [l1In_v, l1In_v] at h
  simp only [Option.bind_some] at h
  cases h1 : (decide (1 ≤ l.service) && decide (l.service ≤ 3)) with
  | false => rw [h1] at h; cases h
  | true =>
    cases h2 : (decide (0 ≤ l.serial) && decide (l.serial ≤ 999999999)) with
    | false => rw [h1, h2] at h; cases h
    | true =>
      rw [h1, h2] at h
      have h3 : m_spec_IsPlace l.to_ = some true := by
        cases hp : m_spec_IsPlace l.to_ with
        | none => rw [hp] at h; cases h
        | some b => rw [hp] at h; exact h
      obtain ⟨hs, hp⟩ := place_up h3
      simp only [Bool.and_eq_true, decide_eq_true_eq] at h1 h2
      refine ⟨hs, fun c hc => ?_⟩
      rcases List.mem_append.1 hc with hc | hc
      · rcases List.mem_append.1 hc with hc | hc
        · exact itoa_isd (by omega) c hc
        · exact padL_isd (by omega) c hc
      · exact hp c hc
theorem bodyL_len {l : YLabel} (h1 : in64 l.service) (h2 : in64 l.serial) (h3 : l.to_.size ≤ 3) : (bodyL l).length ≤ 45 := by
  have a := itoa_len h1
  have b := padL_len (d := 9) h2 (by omega)
  have c : l.to_.data.toList.length = l.to_.size := by rw [Array.length_toList]; rfl
  unfold bodyL
  simp only [List.length_append]
  omega
theorem fI {n : Int} (h : in64 n) : m_impl_FormatInt n = some (txt (Lib.itoa n)) := by unfold m_impl_FormatInt; rw [if_pos h]
theorem fS {n : Int} (h : in64 n) : m_spec_FormatInt n = some (txt (Lib.itoa n)) := by unfold m_spec_FormatInt; rw [if_pos h]
theorem sOk {a b : ByteArray} (ha : a.size ≤ 100000) (hb : b.size ≤ 100000) : chk (strOk a b) = some () := chk_t (strOk_s (by unfold B60; omega))
theorem body_both {l : YLabel} (h1 : in64 l.service) (h2 : in64 l.serial) (h3 : l.to_.size ≤ 3) : m_impl_bodyOf l = some (txt (bodyL l)) ∧ m_spec_l1Body l = some (txt (bodyL l)) := by
  have a := itoa_len h1
  have b := padL_len (d := 9) h2 (by omega)
  have e : (txt (Lib.itoa l.service) ++ txt (padL l.serial 9)) ++ l.to_ = txt (bodyL l) := by
    rw [← txt_data l.to_, txt_app, txt_app]; rfl
  have c1 : chk (strOk (txt (Lib.itoa l.service)) (txt (padL l.serial 9))) = some () := sOk (by rw [txt_size]; omega) (by rw [txt_size]; omega)
  have c2 : chk (strOk (txt (Lib.itoa l.service) ++ txt (padL l.serial 9)) l.to_) = some () := sOk (by rw [txt_app, txt_size, List.length_append]; omega) (by omega)
  have p1 := padded_im (d := 9) h2 (by omega)
  have p2 := padded_spec (d := 9) h2 (by omega)
  rw [show ((9 : Nat) : Int) = 9 from rfl] at p1 p2
  refine ⟨?_, ?_⟩
  · unfold m_impl_bodyOf
    simp only [fI h1, p1, Option.bind_some, c1, c2, e]
  · unfold m_spec_l1Body
    simp only [fS h1, p2, Option.bind_some, c1, c2, e]
theorem ok_in64 {n : Int} (h : okInt n) : in64 n := bounds_i64 h
theorem w64_in64 (n : Int) : in64 (w64 n) := ok_in64 (wf_wrap .i64 n)
theorem check_both {l : YLabel} (h1 : in64 l.service) (h2 : in64 l.serial) (h : m_spec_IsLabel l = some true) (hi : m_impl_IsLabel l = some true) : ∃ n, in64 n ∧ m_impl_CheckOf l = some n ∧ m_spec_CheckOf l = some n := by
  obtain ⟨hs, hd⟩ := isLabel_t h
  obtain ⟨b1, b2⟩ := body_both h1 h2 (by omega)
  have hl := bodyL_len h1 h2 (by omega)
  obtain ⟨a, ha, hal⟩ := dgts_isDL hd
  have h00 : dgts [48, 48] = some [48, 48] := rfl
  have happ := dgts_app ha h00
  have e48 : (⟨#[48, 48]⟩ : ByteArray) = txt [48, 48] := rfl
  have c1 : chk (strOk (txt a) (txt [48, 48])) = some () := sOk (by rw [txt_size]; omega) (by rw [txt_size]; simp)
  have c2 : chk (strOk (txt (bodyL l)) (txt [48, 48])) = some () := sOk (by rw [txt_size]; omega) (by rw [txt_size]; simp)
  obtain ⟨m, hm⟩ := mod97_tot (s := txt (a ++ [48, 48])) (by rw [txt_size, List.length_append]; unfold NN; simp; omega)
  refine ⟨w64 (98 - m), w64_in64 _, ?_, ?_⟩
  · unfold m_impl_CheckOf
    have d1 := digits_im (l := bodyL l) (by omega)
    rw [ha] at d1
    simp only [Option.getD_some, Option.isSome_some] at d1
    simp only [hi, b1, d1, Option.bind_some, Bool.not_true, cond_false, e48, c1, txt_app, mod97_eq, hm]
  · unfold m_spec_CheckOf
    have d1 := digits_spec (l := bodyL l ++ [48, 48]) (by rw [List.length_append]; simp; omega)
    rw [happ] at d1
    simp only [Option.getD_some, Option.isSome_some] at d1
    simp only [h, b2, d1, Option.bind_some, Bool.not_true, cond_false, e48, c2, txt_app, hm]
theorem label_both {l : YLabel} (h1 : in64 l.service) (h2 : in64 l.serial) (h3 : l.to_.size ≤ B60) : ∃ b : List UInt8, b.length ≤ 100 ∧ m_impl_FormatLabel l = some (txt b) ∧ m_spec_FormatLabel l = some (txt b) := by
  obtain ⟨e, v, hv⟩ := label_eq h3
  have hi : m_impl_IsLabel l = some v := e.trans hv
  cases v with
  | false =>
    refine ⟨[], by simp, ?_, ?_⟩
    · unfold m_impl_FormatLabel; simp only [hi, Option.bind_some, Bool.not_false, cond_true]; rfl
    · unfold m_spec_FormatLabel; simp only [hv, Option.bind_some, Bool.not_false, cond_true]; rfl
  | true =>
    obtain ⟨hs, hd⟩ := isLabel_t hv
    obtain ⟨b1, b2⟩ := body_both h1 h2 (by omega)
    have hl := bodyL_len h1 h2 (by omega)
    obtain ⟨n, hn, c1, c2⟩ := check_both h1 h2 hv hi
    have p1 := padded_im (d := 2) hn (by omega)
    have p2 := padded_spec (d := 2) hn (by omega)
    have pl := padL_len (d := 2) hn (by omega)
    rw [show ((2 : Nat) : Int) = 2 from rfl] at p1 p2
    have c3 : chk (strOk (txt (bodyL l)) (txt (padL n 2))) = some () := sOk (by rw [txt_size]; omega) (by rw [txt_size]; omega)
    refine ⟨bodyL l ++ padL n 2, by rw [List.length_append]; omega, ?_, ?_⟩
    · unfold m_impl_FormatLabel; simp only [hi, b1, c1, p1, c3, Option.bind_some, Bool.not_true, cond_false, txt_app]
    · unfold m_spec_FormatLabel; simp only [hv, b2, c2, p2, c3, Option.bind_some, Bool.not_true, cond_false, txt_app]
end Go.Proofs.YtkfbakhnpfmfmaaGreatDoor
namespace Go.Proofs.YtkfbakhnpfmfmaaGreatDoor
set_option maxRecDepth 10000
open Go.RowKit
set_option linter.unusedVariables false
set_option maxHeartbeats 16000000
def m_spec_ParseInt_b0 (s : ByteArray) (s0 : Int × Int) : Option ((Int × Int) ⊕ (Int ⊕ (Int × Bool))) :=
 cond (decide (s0.2 < (s.size : Int)))
 (cond (decide (s0.2 < 11))
 ((getB s s0.2).bind fun y1 =>
 (m_spec_l1In (IntKind.i64.wrap y1) 48 57).bind fun y2 =>
 cond (!y2)
 (some (.inr (.inr (0, false))))
 ((getB s s0.2).bind fun y3 =>
 some (.inl ((w64 ((w64 (10 * s0.1)) + (IntKind.i64.wrap (IntKind.u8.wrap (y3 - 48))))), (w64 (s0.2 + 1))))))
 (some (.inr (.inl s0.1))))
 (some (.inr (.inl s0.1)))
instance (s : ByteArray) : LoopE (m_spec_ParseInt_b0 s) := ⟨fun s0 => (vs s :: (U 3 (vi s0.1 :: vi s0.2 :: (U 33 [])))), fun s0 => []⟩
def m_spec_ParseInt (s : ByteArray) : Option (Int × Bool) :=
 (iterF (m_spec_ParseInt_b0 s) NN (0, 0)).bind (selim (fun o0 =>
 cond (decide (1000000000 < o0))
 (some (0, false))
 ((m_spec_FormatInt o0).bind fun y4 =>
 cond (!decide (y4 = s))
 (some (0, false))
 (some (o0, true)))) (fun r => some r))
instance (s : ByteArray) : CT Tryz.prog (m_spec_ParseInt s) := ⟨22, [vs s], [], fun r => .tu [vi r.1, vb r.2], fun r => [], fun H => by replace H := H0 H; unfold m_spec_ParseInt at H; exact callM_of Tryz.func22 rfl Tryz.ntmps22 Tryz.results22 fun Q hQ hQn => wk3⟩
end Go.Proofs.YtkfbakhnpfmfmaaGreatDoor
