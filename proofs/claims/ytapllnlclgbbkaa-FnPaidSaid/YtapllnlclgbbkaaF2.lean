import Derived.Test.YtapllnlclgbbkaaF1
namespace Go.Proofs.Ytapllnlclgbbkaa
set_option maxRecDepth 10000
open Go.RowKit
def linesOfV (xs : List Ln) (o : Int) : List Ln := xs.filter fun x => x.o == o
theorem linesOfV_yes {xs : List Ln} {i : Nat} {x : Ln} {o : Int} (hx : xs[i]? = some x) (h : (x.o == o) = true) : linesOfV (xs.take (i + 1)) o = linesOfV (xs.take i) o ++ [x] := by
  simp only [linesOfV, take_snoc hx, List.filter_append, List.filter_cons, h, if_true, List.filter_nil]
theorem linesOfV_no {xs : List Ln} {i : Nat} {x : Ln} {o : Int} (hx : xs[i]? = some x) (h : (x.o == o) = false) : linesOfV (xs.take (i + 1)) o = linesOfV (xs.take i) o := by
  simp [linesOfV, take_snoc hx, List.filter_append, h]
theorem linesOfV_len (xs : List Ln) (o : Int) : (linesOfV xs o).length ≤ xs.length := List.length_filter_le _ _
theorem Rd.oneAt {α : Type} [Enc α] (w : World) (T : TypeId) (x : α) (H : Nat) (hH : w.heap.size = H) : Rd (w.alloc (.cells (Enc.cells x).toArray T)) (H + 1) (some ⟨H, 0, none⟩) [x] := by
  subst hH
  exact Rd.one w T x _ (Nat.lt_succ_self _)
theorem linesOf_impl (A : Option Addr) (xs : List Ln) (n c : Nat) (o : Int) (w : World) (hr : Rd w w.heap.size A xs) (hl : n = xs.length) (hn : n ≤ 2000000) :
    Calls Try.prog 36 #[.slice A n c, .int .i64 o] w fun e w' => ∃ v, e = .returned v ∧ Own w' w.heap.size 25 v (linesOfV xs o) ∧ Up w w' := by
  subst hl
  go_enter Try.func36, Try.ntmps36
  go_wp2
  go_loopw [5, 11] (fun v i wr => ∃ j : Nat, j ≤ xs.length ∧ i = .int .i64 j ∧ Own wr w.heap.size 25 v (linesOfV (xs.take j) o) ∧ Up w wr) (fun _ i _ => xs.length - (intOf i).toNat)
  case atStart => exact ⟨0, by omega, rfl, Own.empty w _ _ 0 _ (Nat.le_refl _) (by unfold maxLen; omega) rfl, by (repeat (first | exact Up.rfl' _ | (refine Up.al _ ?_) | (refine Up.dr _ ?_) | (refine Up.dr1 ?_) | (refine Up.sc ?_ (by first | exact Nat.le_refl _ | (simp; done) | omega) _) | (refine Up.step (by assumption) ?_)))⟩
  case round =>
    obtain ⟨i, hi, rfl, ho, hb⟩ := hrel
    by_cases hlt : i < xs.length
    · obtain ⟨x, hx⟩ := get_of_lt hlt
      obtain ⟨b, off, rfl, hbb, c0, c1, c2, c3⟩ := (hr.below hb).ln hx
      have hlen := linesOfV_len (xs.take i) o
      have hlt2 : (xs.take i).length ≤ i := List.length_take_le _ _
      have HO := Lib.hid ho
      clear hr ho
      cases ht : (x.o == o) with
      | true =>
        have S := Lib.hid (linesOfV_yes hx ht)
        clear hx
        go_wp2_with (at_builtin; go_must (refine wpList_append_rd el_line rfl (.tmp 19) (.tmp 21) rfl (base := w.heap.size) (ys := linesOfV (xs.take i) o) (xs := [x]) (by rfl) (HO.out.up (by (repeat (first | exact Up.rfl' _ | (refine Up.al _ ?_) | (refine Up.dr _ ?_) | (refine Up.dr1 ?_) | (refine Up.sc ?_ (by first | exact Nat.le_refl _ | (simp; done) | omega) _) | (refine Up.step (by assumption) ?_))))) 1 (by rfl) rfl (Rd.oneAt _ _ x _ (by simp)) (by simp; omega) (by unfold maxLen; simp; omega) (Up.le (by (repeat (first | exact Up.rfl' _ | (refine Up.al _ ?_) | (refine Up.dr _ ?_) | (refine Up.dr1 ?_) | (refine Up.sc ?_ (by first | exact Nat.le_refl _ | (simp; done) | omega) _) | (refine Up.step (by assumption) ?_))))) ?_); intro v' w2 ho2 hg2 _ hu2; have hb2 : Up w w2 := hu2 w (Nat.le_refl _) (by (repeat (first | exact Up.rfl' _ | (refine Up.al _ ?_) | (refine Up.dr _ ?_) | (refine Up.dr1 ?_) | (refine Up.sc ?_ (by first | exact Nat.le_refl _ | (simp; done) | omega) _) | (refine Up.step (by assumption) ?_)))); have HO2 := Lib.hid ho2; clear ho2)
        exact ⟨⟨i + 1, by omega, by go_num, by rw [S.out]; exact HO2.out, hb2⟩, by simp [intOf]; omega⟩
      | false =>
        have S := Lib.hid (linesOfV_no hx ht)
        clear hx
        go_wp2
        exact ⟨⟨i + 1, by omega, by go_num, by rw [S.out]; exact HO.out.up (by (repeat (first | exact Up.rfl' _ | (refine Up.al _ ?_) | (refine Up.dr _ ?_) | (refine Up.dr1 ?_) | (refine Up.sc ?_ (by first | exact Nat.le_refl _ | (simp; done) | omega) _) | (refine Up.step (by assumption) ?_)))), by (repeat (first | exact Up.rfl' _ | (refine Up.al _ ?_) | (refine Up.dr _ ?_) | (refine Up.dr1 ?_) | (refine Up.sc ?_ (by first | exact Nat.le_refl _ | (simp; done) | omega) _) | (refine Up.step (by assumption) ?_)))⟩, by simp [intOf]; omega⟩
    · go_wp2
      go_ret
      obtain rfl : i = xs.length := by omega
      exact ⟨_, rfl, by simpa using ho, hb⟩
theorem linesOf_spec (A : Option Addr) (xs : List Ln) (n c : Nat) (o : Int) (w : World) (hr : Rd w w.heap.size A xs) (hl : n = xs.length) (hn : n ≤ 2000000) :
    Calls Try.prog 35 #[.slice A n c, .int .i64 o] w fun e w' => ∃ v, e = .returned v ∧ Own w' w.heap.size 25 v (linesOfV xs o) ∧ Up w w' := by
  subst hl
  go_enter Try.func35, Try.ntmps35
  go_wp2
  go_loopw [5, 6] (fun v i wr => ∃ j : Nat, j ≤ xs.length ∧ i = .int .i64 j ∧ Own wr w.heap.size 25 v (linesOfV (xs.take j) o) ∧ Up w wr) (fun _ i _ => xs.length - (intOf i).toNat)
  case atStart => exact ⟨0, by omega, rfl, Own.empty w _ _ 0 _ (Nat.le_refl _) (by unfold maxLen; omega) rfl, by (repeat (first | exact Up.rfl' _ | (refine Up.al _ ?_) | (refine Up.dr _ ?_) | (refine Up.dr1 ?_) | (refine Up.sc ?_ (by first | exact Nat.le_refl _ | (simp; done) | omega) _) | (refine Up.step (by assumption) ?_)))⟩
  case round =>
    obtain ⟨i, hi, rfl, ho, hb⟩ := hrel
    by_cases hlt : i < xs.length
    · obtain ⟨x, hx⟩ := get_of_lt hlt
      obtain ⟨b, off, rfl, hbb, c0, c1, c2, c3⟩ := (hr.below hb).ln hx
      have hlen := linesOfV_len (xs.take i) o
      have hlt2 : (xs.take i).length ≤ i := List.length_take_le _ _
      have HO := Lib.hid ho
      clear hr ho
      cases ht : (x.o == o) with
      | true =>
        have S := Lib.hid (linesOfV_yes hx ht)
        clear hx
        go_wp2_with (at_builtin; go_must (refine wpList_append_rd el_line rfl (.tmp 21) (.tmp 26) rfl (base := w.heap.size) (ys := linesOfV (xs.take i) o) (xs := [x]) (by rfl) (HO.out.up (by (repeat (first | exact Up.rfl' _ | (refine Up.al _ ?_) | (refine Up.dr _ ?_) | (refine Up.dr1 ?_) | (refine Up.sc ?_ (by first | exact Nat.le_refl _ | (simp; done) | omega) _) | (refine Up.step (by assumption) ?_))))) 1 (by rfl) rfl (Rd.oneAt _ _ x _ (by simp)) (by simp; omega) (by unfold maxLen; simp; omega) (Up.le (by (repeat (first | exact Up.rfl' _ | (refine Up.al _ ?_) | (refine Up.dr _ ?_) | (refine Up.dr1 ?_) | (refine Up.sc ?_ (by first | exact Nat.le_refl _ | (simp; done) | omega) _) | (refine Up.step (by assumption) ?_))))) ?_); intro v' w2 ho2 hg2 _ hu2; have hb2 : Up w w2 := hu2 w (Nat.le_refl _) (by (repeat (first | exact Up.rfl' _ | (refine Up.al _ ?_) | (refine Up.dr _ ?_) | (refine Up.dr1 ?_) | (refine Up.sc ?_ (by first | exact Nat.le_refl _ | (simp; done) | omega) _) | (refine Up.step (by assumption) ?_)))); have HO2 := Lib.hid ho2; clear ho2)
        exact ⟨⟨i + 1, by omega, by go_num, by rw [S.out]; exact HO2.out, hb2⟩, by simp [intOf]; omega⟩
      | false =>
        have S := Lib.hid (linesOfV_no hx ht)
        clear hx
        go_wp2
        exact ⟨⟨i + 1, by omega, by go_num, by rw [S.out]; exact HO.out.up (by (repeat (first | exact Up.rfl' _ | (refine Up.al _ ?_) | (refine Up.dr _ ?_) | (refine Up.dr1 ?_) | (refine Up.sc ?_ (by first | exact Nat.le_refl _ | (simp; done) | omega) _) | (refine Up.step (by assumption) ?_)))), by (repeat (first | exact Up.rfl' _ | (refine Up.al _ ?_) | (refine Up.dr _ ?_) | (refine Up.dr1 ?_) | (refine Up.sc ?_ (by first | exact Nat.le_refl _ | (simp; done) | omega) _) | (refine Up.step (by assumption) ?_)))⟩, by simp [intOf]; omega⟩
    · go_wp2
      go_ret
      obtain rfl : i = xs.length := by omega
      exact ⟨_, rfl, by simpa using ho, hb⟩
end Go.Proofs.Ytapllnlclgbbkaa
