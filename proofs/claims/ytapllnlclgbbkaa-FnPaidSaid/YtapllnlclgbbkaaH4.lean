import Derived.Test.YtapllnlclgbbkaaH2
namespace Go.Proofs.Ytapllnlclgbbkaa
set_option maxRecDepth 10000
open Go.RowKit
def insAt (out : List Int) (id : Int) : Nat := (out.takeWhile (fun y => decide (y < id))).length
theorem insAt_of : ∀ {out : List Int} {id : Int} {m : Nat}, (∀ (j : Nat) (y : Int), j < m → out[j]? = some y → y < id) → m ≤ out.length → (∀ y, out[m]? = some y → ¬ y < id) → insAt out id = m
  | [], id, m, _, hm, _ => by simp at hm; subst hm; rfl
  | x :: out, id, 0, _, _, h2 => by
    have := h2 x rfl
    simp [insAt, this]
  | x :: out, id, m + 1, h1, hm, h2 => by
    have hx := h1 0 x (by omega) rfl
    have := insAt_of (out := out) (id := id) (m := m) (fun j y hj hy => h1 (j + 1) y (by omega) (by simpa using hy)) (by simpa using hm) (fun y hy => h2 y (by simpa using hy))
    unfold insAt at *
    simp [hx, this]
def hasAt (out : List Int) (k : Nat) (id : Int) : Bool := match out[k]? with | some y => y == id | none => false
def insI (out : List Int) (id : Int) : List Int := out.take (insAt out id) ++ [id] ++ out.drop (insAt out id)
def opsStep (l : List Ln) (out : List Int) (x : Ln) : List Int := if decide (0 < owedV l x.o) = true then (if hasAt out (insAt out x.o) x.o = true then out else insI out x.o) else out
def opS (l : List Ln) (i : Nat) : List Int := (l.take i).foldl (opsStep l) []
theorem opS_len (l : List Ln) (i : Nat) : (opS l i).length ≤ i := by
  have h : ∀ (b : List Ln) (out : List Int), (b.foldl (opsStep l) out).length ≤ out.length + b.length := by
    intro b
    induction b with
    | nil => intro out; simp
    | cons x b ih =>
      intro out
      have h1 := ih (opsStep l out x)
      have h2 : (opsStep l out x).length ≤ out.length + 1 := by
        unfold opsStep
        split
        · split
          · omega
          · simp [insI]; omega
        · omega
      simp only [List.foldl_cons, List.length_cons]
      omega
  have h1 := h (l.take i) []
  have h2 : (l.take i).length ≤ i := List.length_take_le _ _
  simp only [List.length_nil] at h1
  unfold opS
  omega
theorem opS_no {l : List Ln} {i : Nat} {x : Ln} (hx : l[i]? = some x) (h : decide (0 < owedV l x.o) = false) : opS l (i + 1) = opS l i := by
  unfold opS
  rw [foldl_snoc hx]
  simp [opsStep, h]
theorem opS_has {l : List Ln} {i m : Nat} {x : Ln} (hx : l[i]? = some x) (hm : insAt (opS l i) x.o = m) (h2 : hasAt (opS l i) m x.o = true) : opS l (i + 1) = opS l i := by
  subst hm
  unfold opS at *
  rw [foldl_snoc hx]
  simp [opsStep, h2]
theorem opS_new {l : List Ln} {i m : Nat} {x : Ln} (hx : l[i]? = some x) (h : decide (0 < owedV l x.o) = true) (hm : insAt (opS l i) x.o = m) (h2 : hasAt (opS l i) m x.o = false) : opS l (i + 1) = (opS l i).take m ++ [x.o] ++ (opS l i).drop m := by
  subst hm
  unfold opS at *
  rw [foldl_snoc hx]
  simp only [opsStep, h, h2, if_true]
  simp [insI]
theorem Rd.drop_ {w : World} {B g o : Nat} {xs : List Int} (h : Rd w B (some ⟨g, o, none⟩) xs) (n : Nat) : Rd w B (some ⟨g, o + n, none⟩) (xs.drop n) := fun hn => by
  obtain ⟨b, off, e, hb, hc⟩ := h (by rintro rfl; simp at hn)
  obtain ⟨rfl, rfl⟩ : g = b ∧ o = off := by simpa using e
  refine ⟨g, o + n, rfl, hb, fun j u hu => ?_⟩
  rw [flat_ints'] at hu
  rw [Nat.add_assoc]
  refine hc (n + j) u ?_
  rw [flat_ints']
  simpa [List.getElem?_drop] using hu
set_option maxHeartbeats 1000000 in
theorem openOrders_spec (A : Option Addr) (xs : List Ln) (n c : Nat) (w : World) (hr : Rd w w.heap.size A xs) (hl : n = xs.length) (hc : xs.length ≤ c) (hn : n ≤ 2000000) :
    Calls Try.prog 53 #[.slice A n c] w fun e w' => ∃ v, e = .returned v ∧ Own w' w.heap.size 3 v (if linesB xs = true then opS xs xs.length else []) ∧ Up w w' := by
  subst hl
  have hempty : Own (w.alloc (.cells #[] 3)) w.heap.size 3 (.slice (some ⟨w.heap.size, 0, none⟩) 0 0) ([] : List Int) := Own.empty w _ _ 0 _ (Nat.le_refl _) (by unfold maxLen; omega) rfl
  have HE := Lib.hid hempty
  clear hempty
  cases h0 : linesB xs with
  | false =>
    go_enter Try.func53, Try.ntmps53
    go_wp2_with fail
    refine (areLines_spec_n _ xs _ _ _ (hr.up (by (repeat (first | exact Up.rfl' _ | (refine Up.al _ ?_) | (refine Up.dr _ ?_) | (refine Up.dr1 ?_) | (refine Up.sc ?_ (by first | exact Nat.le_refl _ | (simp; done) | omega) _) | (refine Up.step (by assumption) ?_))))) rfl hc hn).mono ?_
    rintro e w1 ⟨rfl, hb1⟩
    have hu1 : Up w w1 := by (repeat (first | exact Up.rfl' _ | (refine Up.al _ ?_) | (refine Up.dr _ ?_) | (refine Up.dr1 ?_) | (refine Up.sc ?_ (by first | exact Nat.le_refl _ | (simp; done) | omega) _) | (refine Up.step (by assumption) ?_)))
    go_wp2_with fail
    go_ret
    exact ⟨_, rfl, HE.out.up hb1, hu1⟩
  | true =>
    go_enter Try.func53, Try.ntmps53
    go_wp2_with fail
    refine (areLines_spec_n _ xs _ _ _ (hr.up (by (repeat (first | exact Up.rfl' _ | (refine Up.al _ ?_) | (refine Up.dr _ ?_) | (refine Up.dr1 ?_) | (refine Up.sc ?_ (by first | exact Nat.le_refl _ | (simp; done) | omega) _) | (refine Up.step (by assumption) ?_))))) rfl hc hn).mono ?_
    rintro e w1 ⟨rfl, hb1⟩
    have hu1 : Up w w1 := by (repeat (first | exact Up.rfl' _ | (refine Up.al _ ?_) | (refine Up.dr _ ?_) | (refine Up.dr1 ?_) | (refine Up.sc ?_ (by first | exact Nat.le_refl _ | (simp; done) | omega) _) | (refine Up.step (by assumption) ?_)))
    go_wp2_with fail
    go_loopw [3, 4] (fun v i wr => ∃ j g cp : Nat, j ≤ xs.length ∧ i = .int .i64 j ∧ v = .slice (some ⟨g, 0, none⟩) (opS xs j).length cp ∧ Own wr w.heap.size 3 (.slice (some ⟨g, 0, none⟩) (opS xs j).length cp) (opS xs j) ∧ Up w wr) (fun _ i _ => xs.length - (intOf i).toNat)
    case atStart => exact ⟨0, w.heap.size, 0, by omega, rfl, rfl, HE.out.up hb1, by (repeat (first | exact Up.rfl' _ | (refine Up.al _ ?_) | (refine Up.dr _ ?_) | (refine Up.dr1 ?_) | (refine Up.sc ?_ (by first | exact Nat.le_refl _ | (simp; done) | omega) _) | (refine Up.step (by assumption) ?_)))⟩
    case round =>
      obtain ⟨i, g3, c3', hi, rfl, rfl, ho, hb⟩ := hrel
      by_cases hlt : i < xs.length
      · obtain ⟨x, hx⟩ := get_of_lt hlt
        obtain ⟨b, off, rfl, hbb, c0, c1, c2, c3⟩ := (hr.below hb).ln hx
        have hlen := opS_len xs i
        generalize hout : opS xs i = out at ho hlen
        have HO := Lib.hid ho
        have HX := Lib.hid hx
        clear ho hx
        go_wp2_with fail
        go_loopw [6] (fun k wk => ∃ m : Nat, m ≤ out.length ∧ k = .int .i64 m ∧ Hid (∀ (j : Nat) (y : Int), j < m → out[j]? = some y → y < x.o) ∧ Up wr wk) (fun k _ => out.length - (intOf k).toNat)
        case atStart => exact ⟨0, by omega, rfl, fun j y hj _ => absurd hj (by omega), by (repeat (first | exact Up.rfl' _ | (refine Up.al _ ?_) | (refine Up.dr _ ?_) | (refine Up.dr1 ?_) | (refine Up.sc ?_ (by first | exact Nat.le_refl _ | (simp; done) | omega) _) | (refine Up.step (by assumption) ?_)))⟩
        case round =>
          obtain ⟨m, hm, rfl, hall, hbk⟩ := hrel
          by_cases hml : m < out.length
          · obtain ⟨y, hy⟩ := get_of_lt hml
            obtain ⟨b', off', e', hb', cy⟩ := (HO.out.up hbk).rd.int hy
            obtain ⟨rfl, rfl⟩ : g3 = b' ∧ 0 = off' := by simpa using e'
            clear e'
            rw [Nat.zero_add] at cy
            by_cases hlt2 : y < x.o
            · have HY := Lib.hid hy
              clear hy
              go_wp2
              exact ⟨⟨m + 1, by omega, by go_num, (fun j z hj hz => by
                by_cases hjm : j = m
                · subst hjm
                  rw [HY.out] at hz
                  cases hz
                  exact hlt2
                · exact hall.out j z (by omega) hz), by (repeat (first | exact Up.rfl' _ | (refine Up.al _ ?_) | (refine Up.dr _ ?_) | (refine Up.dr1 ?_) | (refine Up.sc ?_ (by first | exact Nat.le_refl _ | (simp; done) | omega) _) | (refine Up.step (by assumption) ?_)))⟩, by simp [intOf]; omega⟩
            · have hat : insAt out x.o = m := insAt_of hall.out hm (fun z hz => by rw [hy] at hz; cases hz; exact hlt2)
              have hE : ((m : Int) == (out.length : Int)) = false := by simp; omega
              cases h1 : decide (0 < owedV xs x.o) with
              | false =>
                have S := Lib.hid (opS_no HX.out h1)
                clear hy hat
                go_wp2_with (go_at_call 41; refine (owedFor_spec _ xs _ _ _ _ (hr.up (Up.step hbk hb)) rfl hc hn).mono ?_; rintro e w2 ⟨rfl, hb2⟩; replace cy := cellUp cy hb2)
                exact ⟨⟨i + 1, g3, c3', by omega, by go_num, by rw [S.out, hout], by rw [S.out, hout]; exact HO.out.up (Up.step hb2 hbk), Up.step hb2 (Up.step hbk hb)⟩, by simp [intOf]; omega⟩
              | true =>
                cases h2 : (y == x.o) with
                | true =>
                  have hY : (y != x.o) = false := by simpa [bne] using h2
                  have S := Lib.hid (opS_has (m := m) HX.out (by rw [hout]; exact hat) (by simp [hasAt, hout, hy, h2]))
                  clear hy hat
                  go_wp2_with (go_at_call 41; refine (owedFor_spec _ xs _ _ _ _ (hr.up (Up.step hbk hb)) rfl hc hn).mono ?_; rintro e w2 ⟨rfl, hb2⟩; replace cy := cellUp cy hb2)
                  exact ⟨⟨i + 1, g3, c3', by omega, by go_num, by rw [S.out, hout], by rw [S.out, hout]; exact HO.out.up (Up.step hb2 hbk), Up.step hb2 (Up.step hbk hb)⟩, by simp [intOf]; omega⟩
                | false =>
                  have hY : (y != x.o) = true := by simpa [bne] using h2
                  have S := Lib.hid (opS_new (m := m) HX.out h1 (by rw [hout]; exact hat) (by simp [hasAt, hout, hy, h2]))
                  clear hy hat
                  go_wp2_with (go_at_call 41; refine (owedFor_spec _ xs _ _ _ _ (hr.up (Up.step hbk hb)) rfl hc hn).mono ?_; rintro e w2 ⟨rfl, hb2⟩; replace cy := cellUp cy hb2)
                  have hoh := (HO.out.up (Up.step hb2 hbk)).rd
                  have hod := hoh.drop_ m
                  rw [Nat.zero_add] at hod
                  obtain ⟨A9, c9, e3, hc1, hc2⟩ := HO.out.form
                  have e4 : c3' = c9 := by injection e3
                  subst e4
                  clear e3
                  have q0 : (0 : Int) ≤ (m : Int) := by omega
                  have q1 : (m : Int) ≤ (out.length : Int) := by omega
                  have q2 : (m : Int) ≤ (c3' : Int) := by omega
                  have q3 : (out.length : Int) ≤ (c3' : Int) := by omega
                  have q4 : ¬ (c3' = m) := by omega
                  go_region_held3 (fun w' => True)
                    (first | go_keep | exact trivial)
                    (first
                      | (go_at_call 73; refine (l1Ints_any _ (out.take m) m _ _ ((hoh.up (by (repeat (first | exact Up.rfl' _ | (refine Up.al _ ?_) | (refine Up.dr _ ?_) | (refine Up.dr1 ?_) | (refine Up.sc ?_ (by first | exact Nat.le_refl _ | (simp; done) | omega) _) | (refine Up.step (by assumption) ?_))))).take_ m) (by simp; omega) (by omega)).mono ?_; rintro e w3 ⟨v3, rfl, ho3, hb3⟩)
                      | (have h_ := ho4; refine step_append_rd el_int (by rfl) (.tmp 61) (.tmp 64) (by rfl) (base := w2.heap.size) (ys := out.take m ++ [x.o]) (xs := out.drop m) (by rfl) (ho4.up (by (repeat (first | exact Up.rfl' _ | (refine Up.al _ ?_) | (refine Up.dr _ ?_) | (refine Up.dr1 ?_) | (refine Up.sc ?_ (by first | exact Nat.le_refl _ | (simp; done) | omega) _) | (refine Up.step (by assumption) ?_))))) (out.length - m) (by rfl) (by simp) (hod.up (by (repeat (first | exact Up.rfl' _ | (refine Up.al _ ?_) | (refine Up.dr _ ?_) | (refine Up.dr1 ?_) | (refine Up.sc ?_ (by first | exact Nat.le_refl _ | (simp; done) | omega) _) | (refine Up.step (by assumption) ?_))))) (by simp; omega) (by unfold maxLen; simp; omega) (Up.le (by (repeat (first | exact Up.rfl' _ | (refine Up.al _ ?_) | (refine Up.dr _ ?_) | (refine Up.dr1 ?_) | (refine Up.sc ?_ (by first | exact Nat.le_refl _ | (simp; done) | omega) _) | (refine Up.step (by assumption) ?_))))) ?_; intro v5 w5 ho5 hg5 _ hu5; have hb5 : Up w2 w5 := hu5 w2 (Nat.le_refl _) (by (repeat (first | exact Up.rfl' _ | (refine Up.al _ ?_) | (refine Up.dr _ ?_) | (refine Up.dr1 ?_) | (refine Up.sc ?_ (by first | exact Nat.le_refl _ | (simp; done) | omega) _) | (refine Up.step (by assumption) ?_)))))
                      | (have h_ := ho3; refine step_append_rd el_int (by rfl) (.tmp 58) (.tmp 60) (by rfl) (base := w2.heap.size) (ys := out.take m) (xs := [x.o]) (by rfl) ((ho3.down (by (repeat (first | exact Up.rfl' _ | (refine Up.al _ ?_) | (refine Up.dr _ ?_) | (refine Up.dr1 ?_) | (refine Up.sc ?_ (by first | exact Nat.le_refl _ | (simp; done) | omega) _) | (refine Up.step (by assumption) ?_))))).up (by (repeat (first | exact Up.rfl' _ | (refine Up.al _ ?_) | (refine Up.dr _ ?_) | (refine Up.dr1 ?_) | (refine Up.sc ?_ (by first | exact Nat.le_refl _ | (simp; done) | omega) _) | (refine Up.step (by assumption) ?_))))) 1 (by rfl) rfl (by first | exact Rd.one _ _ x.o _ (Nat.lt_succ_self _) | exact (Rd.one _ _ x.o _ (by simp)).up (by (repeat (first | exact Up.rfl' _ | (refine Up.al _ ?_) | (refine Up.dr _ ?_) | (refine Up.dr1 ?_) | (refine Up.sc ?_ (by first | exact Nat.le_refl _ | (simp; done) | omega) _) | (refine Up.step (by assumption) ?_))))) (by simp; omega) (by unfold maxLen; simp; omega) (Up.le (by (repeat (first | exact Up.rfl' _ | (refine Up.al _ ?_) | (refine Up.dr _ ?_) | (refine Up.dr1 ?_) | (refine Up.sc ?_ (by first | exact Nat.le_refl _ | (simp; done) | omega) _) | (refine Up.step (by assumption) ?_))))) ?_; intro v4 w4 ho4 hg4 _ hu4; have hb4 : Up w2 w4 := hu4 w2 (Nat.le_refl _) (by (repeat (first | exact Up.rfl' _ | (refine Up.al _ ?_) | (refine Up.dr _ ?_) | (refine Up.dr1 ?_) | (refine Up.sc ?_ (by first | exact Nat.le_refl _ | (simp; done) | omega) _) | (refine Up.step (by assumption) ?_))))))
                  all_goals go_wp2
                  all_goals
                    have hbw : Up w w2 := Up.step hb2 (Up.step hbk hb)
                    have ho6 : Own w5 w.heap.size 3 v5 (opS xs (i + 1)) := by rw [S.out, hout]; exact ho5.down hbw
                    obtain ⟨g4, c4, hv4, _⟩ := World.ownsRow.form ho6 (by rw [S.out, hout, List.length_append, List.length_append, List.length_singleton]; omega)
                    exact ⟨⟨i + 1, g4, c4, by omega, by go_num, hv4, by rw [← hv4]; exact ho6, Up.step hb5 hbw⟩, by simp [intOf]; omega⟩
          · obtain rfl : m = out.length := by omega
            have hat : insAt out x.o = out.length := insAt_of hall.out hm (fun z hz => by simp at hz)
            cases h1 : decide (0 < owedV xs x.o) with
            | false =>
              have S := Lib.hid (opS_no HX.out h1)
              clear hat
              go_wp2_with (go_at_call 41; refine (owedFor_spec _ xs _ _ _ _ (hr.up (Up.step hbk hb)) rfl hc hn).mono ?_; rintro e w2 ⟨rfl, hb2⟩)
              exact ⟨⟨i + 1, g3, c3', by omega, by go_num, by rw [S.out, hout], by rw [S.out, hout]; exact HO.out.up (Up.step hb2 hbk), Up.step hb2 (Up.step hbk hb)⟩, by simp [intOf]; omega⟩
            | true =>
              have S := Lib.hid (opS_new (m := out.length) HX.out h1 (by rw [hout]; exact hat) (by simp [hasAt, hout]))
              clear hat
              go_wp2_with (go_at_call 41; refine (owedFor_spec _ xs _ _ _ _ (hr.up (Up.step hbk hb)) rfl hc hn).mono ?_; rintro e w2 ⟨rfl, hb2⟩)
              have hoh := (HO.out.up (Up.step hb2 hbk)).rd
              obtain ⟨A9, c9, e3, hc1, hc2⟩ := HO.out.form
              have e4 : c3' = c9 := by injection e3
              subst e4
              clear e3
              have q0 : (0 : Int) ≤ (out.length : Int) := by omega
              have q1 : (out.length : Int) ≤ (out.length : Int) := by omega
              have q2 : (out.length : Int) ≤ (c3' : Int) := by omega
              have q3 : (out.length : Int) ≤ (c3' : Int) := by omega
              by_cases q4 : c3' = out.length
              all_goals
                go_region_held3 (fun w' => True)
                  (first | go_keep | exact trivial)
                  (first
                    | (go_at_call 73; refine (l1Ints_any _ (out.take out.length) out.length _ _ ((hoh.up (by (repeat (first | exact Up.rfl' _ | (refine Up.al _ ?_) | (refine Up.dr _ ?_) | (refine Up.dr1 ?_) | (refine Up.sc ?_ (by first | exact Nat.le_refl _ | (simp; done) | omega) _) | (refine Up.step (by assumption) ?_))))).take_ out.length) (by simp) (by omega)).mono ?_; rintro e w3 ⟨v3, rfl, ho3, hb3⟩)
                    | (have h_ := ho4; (first | refine step_append_rd el_int (by rfl) (.tmp 61) (.tmp 64) (by rfl) (base := w2.heap.size) (ys := out.take out.length ++ [x.o]) (xs := ([] : List Int)) (A := some ⟨g3, 0, none⟩) (by rfl) (ho4.up (by (repeat (first | exact Up.rfl' _ | (refine Up.al _ ?_) | (refine Up.dr _ ?_) | (refine Up.dr1 ?_) | (refine Up.sc ?_ (by first | exact Nat.le_refl _ | (simp; done) | omega) _) | (refine Up.step (by assumption) ?_))))) 0 (by rfl) rfl (Rd.nil_ (B := 0)) (by simp; omega) (by unfold maxLen; simp; omega) (Up.le (by (repeat (first | exact Up.rfl' _ | (refine Up.al _ ?_) | (refine Up.dr _ ?_) | (refine Up.dr1 ?_) | (refine Up.sc ?_ (by first | exact Nat.le_refl _ | (simp; done) | omega) _) | (refine Up.step (by assumption) ?_))))) ?_ | refine step_append_rd el_int (by rfl) (.tmp 61) (.tmp 64) (by rfl) (base := w2.heap.size) (ys := out.take out.length ++ [x.o]) (xs := ([] : List Int)) (A := some ⟨g3, out.length, none⟩) (by rfl) (ho4.up (by (repeat (first | exact Up.rfl' _ | (refine Up.al _ ?_) | (refine Up.dr _ ?_) | (refine Up.dr1 ?_) | (refine Up.sc ?_ (by first | exact Nat.le_refl _ | (simp; done) | omega) _) | (refine Up.step (by assumption) ?_))))) 0 (by rfl) rfl (Rd.nil_ (B := 0)) (by simp; omega) (by unfold maxLen; simp; omega) (Up.le (by (repeat (first | exact Up.rfl' _ | (refine Up.al _ ?_) | (refine Up.dr _ ?_) | (refine Up.dr1 ?_) | (refine Up.sc ?_ (by first | exact Nat.le_refl _ | (simp; done) | omega) _) | (refine Up.step (by assumption) ?_))))) ?_); intro v5 w5 ho5 hg5 _ hu5; have hb5 : Up w2 w5 := hu5 w2 (Nat.le_refl _) (by (repeat (first | exact Up.rfl' _ | (refine Up.al _ ?_) | (refine Up.dr _ ?_) | (refine Up.dr1 ?_) | (refine Up.sc ?_ (by first | exact Nat.le_refl _ | (simp; done) | omega) _) | (refine Up.step (by assumption) ?_)))))
                    | (have h_ := ho3; refine step_append_rd el_int (by rfl) (.tmp 58) (.tmp 60) (by rfl) (base := w2.heap.size) (ys := out.take out.length) (xs := [x.o]) (by rfl) ((ho3.down (by (repeat (first | exact Up.rfl' _ | (refine Up.al _ ?_) | (refine Up.dr _ ?_) | (refine Up.dr1 ?_) | (refine Up.sc ?_ (by first | exact Nat.le_refl _ | (simp; done) | omega) _) | (refine Up.step (by assumption) ?_))))).up (by (repeat (first | exact Up.rfl' _ | (refine Up.al _ ?_) | (refine Up.dr _ ?_) | (refine Up.dr1 ?_) | (refine Up.sc ?_ (by first | exact Nat.le_refl _ | (simp; done) | omega) _) | (refine Up.step (by assumption) ?_))))) 1 (by rfl) rfl (by first | exact Rd.one _ _ x.o _ (Nat.lt_succ_self _) | exact (Rd.one _ _ x.o _ (by simp)).up (by (repeat (first | exact Up.rfl' _ | (refine Up.al _ ?_) | (refine Up.dr _ ?_) | (refine Up.dr1 ?_) | (refine Up.sc ?_ (by first | exact Nat.le_refl _ | (simp; done) | omega) _) | (refine Up.step (by assumption) ?_))))) (by simp; omega) (by unfold maxLen; simp; omega) (Up.le (by (repeat (first | exact Up.rfl' _ | (refine Up.al _ ?_) | (refine Up.dr _ ?_) | (refine Up.dr1 ?_) | (refine Up.sc ?_ (by first | exact Nat.le_refl _ | (simp; done) | omega) _) | (refine Up.step (by assumption) ?_))))) ?_; intro v4 w4 ho4 hg4 _ hu4; have hb4 : Up w2 w4 := hu4 w2 (Nat.le_refl _) (by (repeat (first | exact Up.rfl' _ | (refine Up.al _ ?_) | (refine Up.dr _ ?_) | (refine Up.dr1 ?_) | (refine Up.sc ?_ (by first | exact Nat.le_refl _ | (simp; done) | omega) _) | (refine Up.step (by assumption) ?_))))))
                all_goals go_wp2
                all_goals
                  have hbw : Up w w2 := Up.step hb2 (Up.step hbk hb)
                  have ho6 : Own w5 w.heap.size 3 v5 (opS xs (i + 1)) := by rw [S.out, hout]; have h9 := ho5.down hbw; rw [List.drop_length]; exact h9
                  obtain ⟨g4, c4, hv4, _⟩ := World.ownsRow.form ho6 (by rw [S.out, hout, List.length_append, List.length_append, List.length_singleton]; omega)
                  exact ⟨⟨i + 1, g4, c4, by omega, by go_num, hv4, by rw [← hv4]; exact ho6, Up.step hb5 hbw⟩, by simp [intOf]; omega⟩
      · go_wp2_with fail
        obtain rfl : i = xs.length := by omega
        go_ret
        exact ⟨_, rfl, by simpa using ho, hb⟩
end Go.Proofs.Ytapllnlclgbbkaa
