import Derived.Test.YtapllnlclgbbkaaF2
import Derived.Test.YtapllnlclgbbkaaB1
namespace Go.Proofs.Ytapllnlclgbbkaa
set_option maxRecDepth 10000
open Go.RowKit
def hasI (xs : List Int) (o : Int) : Bool := xs.any (fun x => x == o)
theorem hasI_yes {xs : List Int} {i : Nat} {x o : Int} (hx : xs[i]? = some x) (h : (x == o) = true) : hasI xs o = true := by
  simp only [hasI, List.any_eq_true]
  exact ⟨x, List.mem_of_getElem? hx, h⟩
theorem hasI_step {xs : List Int} {i : Nat} {x o : Int} (hx : xs[i]? = some x) (h : (x == o) = false) (h0 : hasI (xs.take i) o = false) : hasI (xs.take (i + 1)) o = false := by
  simp only [hasI, take_snoc hx, List.any_append, List.any_cons, List.any_nil, h, Bool.or_false]
  exact h0
theorem el_int : ElT Try.prog 28 3 (Enc.k Int) 8 := ElT.mk' Try.underlying28 info_int rfl
theorem hasInt_any (A : Option Addr) (xs : List Int) (n c : Nat) (o : Int) (w : World) (hr : Rd w w.heap.size A xs) (hl : n = xs.length) (hn : n ≤ 2000000) :
    Calls Try.prog 74 #[.slice A n c, .int .i64 o] w fun e w' => e = .returned (.bool (hasI xs o)) ∧ Up w w' := by
  subst hl
  go_enter Try.func74, Try.ntmps74
  go_wp2
  go_loopw [9] (fun i wr => ∃ j : Nat, j ≤ xs.length ∧ i = .int .i64 j ∧ Hid (hasI (xs.take j) o = false) ∧ Up w wr) (fun i _ => xs.length - (intOf i).toNat)
  case atStart => exact ⟨0, by omega, rfl, rfl, by (repeat (first | exact Up.rfl' _ | (refine Up.al _ ?_) | (refine Up.dr _ ?_) | (refine Up.dr1 ?_) | (refine Up.sc ?_ (by first | exact Nat.le_refl _ | (simp; done) | omega) _) | (refine Up.step (by assumption) ?_)))⟩
  case round =>
    obtain ⟨i, hi, rfl, he, hb⟩ := hrel
    by_cases hlt : i < xs.length
    · obtain ⟨x, gx⟩ := get_of_lt hlt
      obtain ⟨b, off, rfl, hbb, c0⟩ := (hr.below hb).int gx
      have Gx := Lib.hid gx
      clear gx hr
      cases ht : (x == o) with
      | true =>
        go_wp2
        go_ret
        exact ⟨retb (hasI_yes Gx.out ht).symm, by (repeat (first | exact Up.rfl' _ | (refine Up.al _ ?_) | (refine Up.dr _ ?_) | (refine Up.dr1 ?_) | (refine Up.sc ?_ (by first | exact Nat.le_refl _ | (simp; done) | omega) _) | (refine Up.step (by assumption) ?_)))⟩
      | false =>
        go_wp2
        exact ⟨⟨i + 1, by omega, by go_num, hasI_step Gx.out ht he.out, by (repeat (first | exact Up.rfl' _ | (refine Up.al _ ?_) | (refine Up.dr _ ?_) | (refine Up.dr1 ?_) | (refine Up.sc ?_ (by first | exact Nat.le_refl _ | (simp; done) | omega) _) | (refine Up.step (by assumption) ?_)))⟩, by simp [intOf]; omega⟩
    · go_wp2
      go_ret
      obtain rfl : i = xs.length := by omega
      exact ⟨retb (by have h_ := he.out; rw [List.take_length] at h_; exact h_.symm), hb⟩
theorem has_any (A : Option Addr) (xs : List Int) (n c : Nat) (o : Int) (w : World) (hr : Rd w w.heap.size A xs) (hl : n = xs.length) (hn : n ≤ 2000000) :
    Calls Try.prog 57 #[.slice A n c, .int .i64 o] w fun e w' => e = .returned (.bool (hasI xs o)) ∧ Up w w' := by
  subst hl
  go_enter Try.func57, Try.ntmps57
  go_wp2
  go_loopw [5] (fun i wr => ∃ j : Nat, j ≤ xs.length ∧ i = .int .i64 j ∧ Hid (hasI (xs.take j) o = false) ∧ Up w wr) (fun i _ => xs.length - (intOf i).toNat)
  case atStart => exact ⟨0, by omega, rfl, rfl, by (repeat (first | exact Up.rfl' _ | (refine Up.al _ ?_) | (refine Up.dr _ ?_) | (refine Up.dr1 ?_) | (refine Up.sc ?_ (by first | exact Nat.le_refl _ | (simp; done) | omega) _) | (refine Up.step (by assumption) ?_)))⟩
  case round =>
    obtain ⟨i, hi, rfl, he, hb⟩ := hrel
    by_cases hlt : i < xs.length
    · obtain ⟨x, gx⟩ := get_of_lt hlt
      obtain ⟨b, off, rfl, hbb, c0⟩ := (hr.below hb).int gx
      have Gx := Lib.hid gx
      clear gx hr
      cases ht : (x == o) with
      | true =>
        go_wp2
        go_ret
        exact ⟨retb (hasI_yes Gx.out ht).symm, by (repeat (first | exact Up.rfl' _ | (refine Up.al _ ?_) | (refine Up.dr _ ?_) | (refine Up.dr1 ?_) | (refine Up.sc ?_ (by first | exact Nat.le_refl _ | (simp; done) | omega) _) | (refine Up.step (by assumption) ?_)))⟩
      | false =>
        go_wp2
        exact ⟨⟨i + 1, by omega, by go_num, hasI_step Gx.out ht he.out, by (repeat (first | exact Up.rfl' _ | (refine Up.al _ ?_) | (refine Up.dr _ ?_) | (refine Up.dr1 ?_) | (refine Up.sc ?_ (by first | exact Nat.le_refl _ | (simp; done) | omega) _) | (refine Up.step (by assumption) ?_)))⟩, by simp [intOf]; omega⟩
    · go_wp2
      go_ret
      obtain rfl : i = xs.length := by omega
      exact ⟨retb (by have h_ := he.out; rw [List.take_length] at h_; exact h_.symm), hb⟩
theorem l1Ints_any (A : Option Addr) (xs : List Int) (n c : Nat) (w : World) (hr : Rd w w.heap.size A xs) (hl : n = xs.length) (hn : n ≤ 2000000) :
    Calls Try.prog 73 #[.slice A n c] w fun e w' => ∃ v, e = .returned v ∧ Own w' w.heap.size 3 v xs ∧ Up w w' := by
  go_enter Try.func73, Try.ntmps73
  go_wp2_with (at_builtin; refine wpList_append_rd el_int rfl (.tmp 3) (.tmp 4) rfl (base := w.heap.size) (ys := []) (by rfl) (Own.empty w _ _ 0 _ (Nat.le_refl _) (by unfold maxLen; omega) rfl) n (by rfl) hl (hr.up (by (repeat (first | exact Up.rfl' _ | (refine Up.al _ ?_) | (refine Up.dr _ ?_) | (refine Up.dr1 ?_) | (refine Up.sc ?_ (by first | exact Nat.le_refl _ | (simp; done) | omega) _) | (refine Up.step (by assumption) ?_))))) (by simp; omega) (by unfold maxLen; simp; omega) (by first | (simp; done) | (simp; omega) | (have h_ := hB.size; omega) | (have h_ := hB.size; simp; omega)) ?_; intro v' w1 ho1 hg1 _ hu1)
  go_ret
  exact ⟨_, rfl, by simpa using ho1, hu1 w (Nat.le_refl _) (by (repeat (first | exact Up.rfl' _ | (refine Up.al _ ?_) | (refine Up.dr _ ?_) | (refine Up.dr1 ?_) | (refine Up.sc ?_ (by first | exact Nat.le_refl _ | (simp; done) | omega) _) | (refine Up.step (by assumption) ?_))))⟩
end Go.Proofs.Ytapllnlclgbbkaa
