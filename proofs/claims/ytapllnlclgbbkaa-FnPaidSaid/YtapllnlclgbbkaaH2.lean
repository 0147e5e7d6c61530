import Derived.Test.YtapllnlclgbbkaaH3
import Derived.Test.YtapllnlclgbbkaaD3
namespace Go.Proofs.Ytapllnlclgbbkaa
set_option maxRecDepth 10000
open Go.RowKit
def opStep (l : List Ln) (out : List Int) (x : Ln) : List Int := if decide (0 < owedV l x.o) = true then (if hasI out x.o = true then out else out ++ [x.o]) else out
def opI (l : List Ln) (i : Nat) : List Int := (l.take i).foldl (opStep l) []
theorem opI_len (l : List Ln) (i : Nat) : (opI l i).length ≤ i := by
  have h : ∀ (b : List Ln) (out : List Int), (b.foldl (opStep l) out).length ≤ out.length + b.length := by
    intro b
    induction b with
    | nil => intro out; simp
    | cons x b ih =>
      intro out
      have h1 := ih (opStep l out x)
      have h2 : (opStep l out x).length ≤ out.length + 1 := by
        unfold opStep
        split
        · split <;> simp
        · omega
      simp only [List.foldl_cons, List.length_cons]
      omega
  have h1 := h (l.take i) []
  have h2 : (l.take i).length ≤ i := List.length_take_le _ _
  simp only [List.length_nil] at h1
  unfold opI
  omega
theorem opI_no {l : List Ln} {i : Nat} {x : Ln} (hx : l[i]? = some x) (h : decide (0 < owedV l x.o) = false) : opI l (i + 1) = opI l i := by
  unfold opI
  rw [foldl_snoc hx]
  simp [opStep, h]
theorem opI_has {l : List Ln} {i : Nat} {x : Ln} (hx : l[i]? = some x) (h2 : hasI (opI l i) x.o = true) : opI l (i + 1) = opI l i := by
  unfold opI at *
  rw [foldl_snoc hx]
  simp [opStep, h2]
theorem opI_new {l : List Ln} {i : Nat} {x : Ln} (hx : l[i]? = some x) (h : decide (0 < owedV l x.o) = true) (h2 : hasI (opI l i) x.o = false) : opI l (i + 1) = opI l i ++ [x.o] := by
  unfold opI at *
  rw [foldl_snoc hx]
  simp only [opStep, h, h2, if_true]
  simp
theorem openOrders_impl (A : Option Addr) (xs : List Ln) (n c : Nat) (w : World) (hr : Rd w w.heap.size A xs) (hl : n = xs.length) (hc : xs.length ≤ c) (hn : n ≤ 2000000) :
    Calls Try.prog 54 #[.slice A n c] w fun e w' => ∃ v, e = .returned v ∧ Own w' w.heap.size 3 v (srt (opI xs xs.length)) ∧ Up w w' := by
  subst hl
  go_enter Try.func54, Try.ntmps54
  go_wp2
  go_loopw [3, 9] (fun v i wr => ∃ j g cp : Nat, j ≤ xs.length ∧ i = .int .i64 j ∧ v = .slice (some ⟨g, 0, none⟩) (opI xs j).length cp ∧ Own wr w.heap.size 3 (.slice (some ⟨g, 0, none⟩) (opI xs j).length cp) (opI xs j) ∧ Up w wr) (fun _ i _ => xs.length - (intOf i).toNat)
  case atStart => exact ⟨0, w.heap.size, 0, by omega, rfl, rfl, Own.empty w _ _ 0 _ (Nat.le_refl _) (by unfold maxLen; omega) rfl, by (repeat (first | exact Up.rfl' _ | (refine Up.al _ ?_) | (refine Up.dr _ ?_) | (refine Up.dr1 ?_) | (refine Up.sc ?_ (by first | exact Nat.le_refl _ | (simp; done) | omega) _) | (refine Up.step (by assumption) ?_)))⟩
  case round =>
    obtain ⟨i, g3, c3', hi, rfl, rfl, ho, hb⟩ := hrel
    by_cases hlt : i < xs.length
    · obtain ⟨x, hx⟩ := get_of_lt hlt
      obtain ⟨b, off, rfl, hbb, c0, c1, c2, c3⟩ := (hr.below hb).ln hx
      have hlen := opI_len xs i
      have HO := Lib.hid ho
      clear ho
      cases h1 : decide (0 < owedV xs x.o) with
      | false =>
        have S := Lib.hid (opI_no hx h1)
        clear hx
        go_wp2_with fail
        generalize hwb : wr.alloc (.cells #[I x.o, I x.k, I x.a, I x.t] 25) = wb
        have d0 : wb.cell? ⟨wr.heap.size, 0, none⟩ = some (I x.o) := by rw [← hwb]; simp [go_sem]
        have hub : Up wr wb := by rw [← hwb]; (repeat (first | exact Up.rfl' _ | (refine Up.al _ ?_) | (refine Up.dr _ ?_) | (refine Up.dr1 ?_) | (refine Up.sc ?_ (by first | exact Nat.le_refl _ | (simp; done) | omega) _) | (refine Up.step (by assumption) ?_)))
        clear hwb
        refine (owedFor_impl _ xs _ _ _ _ (hr.up (Up.step hub hb)) rfl hc hn).mono ?_
        rintro e w1 ⟨rfl, hb1⟩
        replace d0 := cellUp d0 hb1
        go_wp2_with fail
        exact ⟨⟨i + 1, g3, c3', by omega, by go_num, by rw [S.out], by rw [S.out]; exact HO.out.up (Up.step hb1 hub), Up.step hb1 (Up.step hub hb)⟩, by simp [intOf]; omega⟩
      | true =>
        cases h2 : hasI (opI xs i) x.o with
        | true =>
          have S := Lib.hid (opI_has hx h2)
          clear hx
          go_wp2_with fail
          generalize hwb : wr.alloc (.cells #[I x.o, I x.k, I x.a, I x.t] 25) = wb
          have d0 : wb.cell? ⟨wr.heap.size, 0, none⟩ = some (I x.o) := by rw [← hwb]; simp [go_sem]
          have hub : Up wr wb := by rw [← hwb]; (repeat (first | exact Up.rfl' _ | (refine Up.al _ ?_) | (refine Up.dr _ ?_) | (refine Up.dr1 ?_) | (refine Up.sc ?_ (by first | exact Nat.le_refl _ | (simp; done) | omega) _) | (refine Up.step (by assumption) ?_)))
          clear hwb
          refine (owedFor_impl _ xs _ _ _ _ (hr.up (Up.step hub hb)) rfl hc hn).mono ?_
          rintro e w1 ⟨rfl, hb1⟩
          replace d0 := cellUp d0 hb1
          go_wp2_with fail
          refine (hasInt_any _ (opI xs i) _ _ _ _ (HO.out.up (Up.step hb1 hub)).rd rfl (by omega)).mono ?_
          rintro e w2 ⟨rfl, hb2⟩
          replace d0 := cellUp d0 hb2
          rw [h2]
          go_wp2
          exact ⟨⟨i + 1, g3, c3', by omega, by go_num, by rw [S.out], by rw [S.out]; exact HO.out.up (Up.step hb2 (Up.step hb1 hub)), Up.step hb2 (Up.step hb1 (Up.step hub hb))⟩, by simp [intOf]; omega⟩
        | false =>
          have S := Lib.hid (opI_new hx h1 h2)
          clear hx
          go_wp2_with fail
          generalize hwb : wr.alloc (.cells #[I x.o, I x.k, I x.a, I x.t] 25) = wb
          have d0 : wb.cell? ⟨wr.heap.size, 0, none⟩ = some (I x.o) := by rw [← hwb]; simp [go_sem]
          have hub : Up wr wb := by rw [← hwb]; (repeat (first | exact Up.rfl' _ | (refine Up.al _ ?_) | (refine Up.dr _ ?_) | (refine Up.dr1 ?_) | (refine Up.sc ?_ (by first | exact Nat.le_refl _ | (simp; done) | omega) _) | (refine Up.step (by assumption) ?_)))
          clear hwb
          refine (owedFor_impl _ xs _ _ _ _ (hr.up (Up.step hub hb)) rfl hc hn).mono ?_
          rintro e w1 ⟨rfl, hb1⟩
          replace d0 := cellUp d0 hb1
          go_wp2_with fail
          refine (hasInt_any _ (opI xs i) _ _ _ _ (HO.out.up (Up.step hb1 hub)).rd rfl (by omega)).mono ?_
          rintro e w2 ⟨rfl, hb2⟩
          replace d0 := cellUp d0 hb2
          rw [h2]
          go_wp2_with (at_builtin; go_must (refine wpList_append_rd el_int rfl (.tmp 25) (.tmp 28) rfl (base := w.heap.size) (ys := opI xs i) (xs := [x.o]) (by rfl) (HO.out.up (by (repeat (first | exact Up.rfl' _ | (refine Up.al _ ?_) | (refine Up.dr _ ?_) | (refine Up.dr1 ?_) | (refine Up.sc ?_ (by first | exact Nat.le_refl _ | (simp; done) | omega) _) | (refine Up.step (by assumption) ?_))))) 1 (by rfl) rfl (Rd.oneAt _ _ x.o _ (by simp)) (by simp; omega) (by unfold maxLen; simp; omega) (Up.le (by (repeat (first | exact Up.rfl' _ | (refine Up.al _ ?_) | (refine Up.dr _ ?_) | (refine Up.dr1 ?_) | (refine Up.sc ?_ (by first | exact Nat.le_refl _ | (simp; done) | omega) _) | (refine Up.step (by assumption) ?_))))) ?_); intro v' w3 ho3 hg3 _ hu3; have hb3 : Up w w3 := hu3 w (Nat.le_refl _) (by (repeat (first | exact Up.rfl' _ | (refine Up.al _ ?_) | (refine Up.dr _ ?_) | (refine Up.dr1 ?_) | (refine Up.sc ?_ (by first | exact Nat.le_refl _ | (simp; done) | omega) _) | (refine Up.step (by assumption) ?_)))); have HO3 := Lib.hid ho3; clear ho3)
          have ho3 := HO3.out
          rw [← S.out] at ho3
          obtain ⟨g4, c4, hv4, _⟩ := World.ownsRow.form ho3 (by rw [S.out]; simp)
          exact ⟨⟨i + 1, g4, c4, by omega, by go_num, hv4, by rw [← hv4]; exact ho3, hb3⟩, by simp [intOf]; omega⟩
    · obtain rfl : i = xs.length := by omega
      have hlen := opI_len xs xs.length
      go_wp2_with fail
      refine (sortInts_any g3 c3' _ _ (opI xs xs.length) _ ho rfl (by omega)).mono ?_
      rintro e w1 ⟨rfl, ho1, hg1⟩
      have hu1 : Up w w1 := Below.grown hb hg1 hb.size (fun k e => by cases e; exact (World.ownsRow.lt ho g3 rfl).1)
      go_wp2_with fail
      go_ret
      exact ⟨_, rfl, by simpa [srt_len] using ho1, hu1⟩
end Go.Proofs.Ytapllnlclgbbkaa
