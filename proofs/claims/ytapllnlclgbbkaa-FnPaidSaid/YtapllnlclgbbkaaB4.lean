import Derived.Test.YtapllnlclgbbkaaB3
namespace Go.Proofs.Ytapllnlclgbbkaa
set_option maxRecDepth 10000
open Go.RowKit
theorem refundFor_impl (A : Option Addr) (xs : List Int) (c : Nat) (ch du en : Int) (w : World) (hx : Rd w w.heap.size A xs) (hn : xs.length ≤ 2000000) :
    Calls Try.prog 26 #[.int .i64 ch, .int .i64 du, .int .i64 en, .slice A xs.length c] w fun e w' => e = .returned (.int .i64 (refundV ch du en xs)) ∧ Up w w' := by
  cases h1 : pctsB xs with
  | false =>
    have HR := Lib.hid (show refundV ch du en xs = 0 by simp [refundV, refundOk, h1])
    go_enter Try.func26, Try.ntmps26
    go_wp2_with (first | (go_at_call 59; refine (within_any _ _ _ _).mono ?_; rintro e w' ⟨rfl, rfl⟩) | (go_at_call 23; refine (arePercents_impl _ _ _ _ hx hn).mono ?_; rintro e w1 ⟨rfl, hb1⟩))
    go_ret
    exact ⟨reti HR.out.symm, by (repeat (first | exact Up.rfl' _ | (refine Up.al _ ?_) | (refine Up.dr _ ?_) | (refine Up.dr1 ?_) | (refine Up.sc ?_ (by first | exact Nat.le_refl _ | (simp; done) | omega) _) | (refine Up.step (by assumption) ?_)))⟩
  | true =>
  cases h2 : inB ch 0 100000 with
  | false =>
    have HR := Lib.hid (show refundV ch du en xs = 0 by simp [refundV, refundOk, h2])
    go_enter Try.func26, Try.ntmps26
    go_wp2_with (first | (go_at_call 59; refine (within_any _ _ _ _).mono ?_; rintro e w' ⟨rfl, rfl⟩) | (go_at_call 23; refine (arePercents_impl _ _ _ _ hx hn).mono ?_; rintro e w1 ⟨rfl, hb1⟩))
    go_ret
    exact ⟨reti HR.out.symm, by (repeat (first | exact Up.rfl' _ | (refine Up.al _ ?_) | (refine Up.dr _ ?_) | (refine Up.dr1 ?_) | (refine Up.sc ?_ (by first | exact Nat.le_refl _ | (simp; done) | omega) _) | (refine Up.step (by assumption) ?_)))⟩
  | true =>
  cases h3 : inB du 0 200000 with
  | false =>
    have HR := Lib.hid (show refundV ch du en xs = 0 by simp [refundV, refundOk, h3])
    go_enter Try.func26, Try.ntmps26
    go_wp2_with (first | (go_at_call 59; refine (within_any _ _ _ _).mono ?_; rintro e w' ⟨rfl, rfl⟩) | (go_at_call 23; refine (arePercents_impl _ _ _ _ hx hn).mono ?_; rintro e w1 ⟨rfl, hb1⟩))
    go_ret
    exact ⟨reti HR.out.symm, by (repeat (first | exact Up.rfl' _ | (refine Up.al _ ?_) | (refine Up.dr _ ?_) | (refine Up.dr1 ?_) | (refine Up.sc ?_ (by first | exact Nat.le_refl _ | (simp; done) | omega) _) | (refine Up.step (by assumption) ?_)))⟩
  | true =>
  cases h4 : inB en 0 200000 with
  | false =>
    have HR := Lib.hid (show refundV ch du en xs = 0 by simp [refundV, refundOk, h4])
    go_enter Try.func26, Try.ntmps26
    go_wp2_with (first | (go_at_call 59; refine (within_any _ _ _ _).mono ?_; rintro e w' ⟨rfl, rfl⟩) | (go_at_call 23; refine (arePercents_impl _ _ _ _ hx hn).mono ?_; rintro e w1 ⟨rfl, hb1⟩))
    go_ret
    exact ⟨reti HR.out.symm, by (repeat (first | exact Up.rfl' _ | (refine Up.al _ ?_) | (refine Up.dr _ ?_) | (refine Up.dr1 ?_) | (refine Up.sc ?_ (by first | exact Nat.le_refl _ | (simp; done) | omega) _) | (refine Up.step (by assumption) ?_)))⟩
  | true =>
  by_cases h5 : en ≤ du
  · have HR := Lib.hid (show refundV ch du en xs = 0 by simp [refundV, refundOk, h5])
    go_enter Try.func26, Try.ntmps26
    go_wp2_with (first | (go_at_call 59; refine (within_any _ _ _ _).mono ?_; rintro e w' ⟨rfl, rfl⟩) | (go_at_call 23; refine (arePercents_impl _ _ _ _ hx hn).mono ?_; rintro e w1 ⟨rfl, hb1⟩))
    go_ret
    exact ⟨reti HR.out.symm, by (repeat (first | exact Up.rfl' _ | (refine Up.al _ ?_) | (refine Up.dr _ ?_) | (refine Up.dr1 ?_) | (refine Up.sc ?_ (by first | exact Nat.le_refl _ | (simp; done) | omega) _) | (refine Up.step (by assumption) ?_)))⟩
  · have b2 := inB_true h2
    have b3 := inB_true h3
    have b4 := inB_true h4
    obtain ⟨l1, l2, hall⟩ := pcts_get h1
    have HA := Lib.hid hall
    clear hall
    have k0 : 0 ≤ (en - du - 1) / 1440 := by omega
    by_cases hk : (en - du - 1) / 1440 < (xs.length : Int)
    · obtain ⟨x, gx⟩ := get_of_lt (xs := xs) (i := ((en - du - 1) / 1440).toNat) (by omega)
      have bx := HA.out _ _ gx
      have HR := Lib.hid (show refundV ch du en xs = pctOf ch x by simp [refundV, refundOk, h1, h2, h3, h4, refundAt, hk, gx]; omega)
      have Gx := Lib.hid gx
      clear gx
      go_enter Try.func26, Try.ntmps26
      go_wp2_with (first | (go_at_call 59; refine (within_any _ _ _ _).mono ?_; rintro e w' ⟨rfl, rfl⟩) | (go_at_call 23; refine (arePercents_impl _ _ _ _ hx hn).mono ?_; rintro e w1 ⟨rfl, hb1⟩; obtain ⟨b, off, rfl, hbb, c0⟩ := (hx.below hb1).int Gx.out))
      go_ret
      exact ⟨reti HR.out.symm, by (repeat (first | exact Up.rfl' _ | (refine Up.al _ ?_) | (refine Up.dr _ ?_) | (refine Up.dr1 ?_) | (refine Up.sc ?_ (by first | exact Nat.le_refl _ | (simp; done) | omega) _) | (refine Up.step (by assumption) ?_)))⟩
    · obtain ⟨x, gx⟩ := get_of_lt (xs := xs) (i := xs.length - 1) (by omega)
      have HR := Lib.hid (show refundV ch du en xs = pctOf ch x by simp [refundV, refundOk, h1, h2, h3, h4, refundAt, hk, gx]; omega)
      have Gx := Lib.hid gx
      clear gx
      go_enter Try.func26, Try.ntmps26
      go_wp2_with (first | (go_at_call 59; refine (within_any _ _ _ _).mono ?_; rintro e w' ⟨rfl, rfl⟩) | (go_at_call 23; refine (arePercents_impl _ _ _ _ hx hn).mono ?_; rintro e w1 ⟨rfl, hb1⟩; obtain ⟨b, off, rfl, hbb, c0⟩ := (hx.below hb1).int Gx.out))
      go_ret
      exact ⟨reti HR.out.symm, by (repeat (first | exact Up.rfl' _ | (refine Up.al _ ?_) | (refine Up.dr _ ?_) | (refine Up.dr1 ?_) | (refine Up.sc ?_ (by first | exact Nat.le_refl _ | (simp; done) | omega) _) | (refine Up.step (by assumption) ?_)))⟩
theorem refundFor_spec (A : Option Addr) (xs : List Int) (c : Nat) (ch du en : Int) (w : World) (hx : Rd w w.heap.size A xs) (hn : xs.length ≤ 2000000) :
    Calls Try.prog 25 #[.int .i64 ch, .int .i64 du, .int .i64 en, .slice A xs.length c] w fun e w' => e = .returned (.int .i64 (refundV ch du en xs)) ∧ Up w w' := by
  cases h1 : pctsB xs with
  | false =>
    have HR := Lib.hid (show refundV ch du en xs = 0 by simp [refundV, refundOk, h1])
    go_enter Try.func25, Try.ntmps25
    go_wp2_with (first | (go_at_call 58; refine (l1In_any _ _ _ _).mono ?_; rintro e w' ⟨rfl, rfl⟩) | (go_at_call 21; refine (arePercents_spec _ _ _ _ hx hn).mono ?_; rintro e w1 ⟨rfl, hb1⟩))
    go_ret
    exact ⟨reti HR.out.symm, by (repeat (first | exact Up.rfl' _ | (refine Up.al _ ?_) | (refine Up.dr _ ?_) | (refine Up.dr1 ?_) | (refine Up.sc ?_ (by first | exact Nat.le_refl _ | (simp; done) | omega) _) | (refine Up.step (by assumption) ?_)))⟩
  | true =>
  cases h2 : inB ch 0 100000 with
  | false =>
    have HR := Lib.hid (show refundV ch du en xs = 0 by simp [refundV, refundOk, h2])
    go_enter Try.func25, Try.ntmps25
    go_wp2_with (first | (go_at_call 58; refine (l1In_any _ _ _ _).mono ?_; rintro e w' ⟨rfl, rfl⟩) | (go_at_call 21; refine (arePercents_spec _ _ _ _ hx hn).mono ?_; rintro e w1 ⟨rfl, hb1⟩))
    go_ret
    exact ⟨reti HR.out.symm, by (repeat (first | exact Up.rfl' _ | (refine Up.al _ ?_) | (refine Up.dr _ ?_) | (refine Up.dr1 ?_) | (refine Up.sc ?_ (by first | exact Nat.le_refl _ | (simp; done) | omega) _) | (refine Up.step (by assumption) ?_)))⟩
  | true =>
  cases h3 : inB du 0 200000 with
  | false =>
    have HR := Lib.hid (show refundV ch du en xs = 0 by simp [refundV, refundOk, h3])
    go_enter Try.func25, Try.ntmps25
    go_wp2_with (first | (go_at_call 58; refine (l1In_any _ _ _ _).mono ?_; rintro e w' ⟨rfl, rfl⟩) | (go_at_call 21; refine (arePercents_spec _ _ _ _ hx hn).mono ?_; rintro e w1 ⟨rfl, hb1⟩))
    go_ret
    exact ⟨reti HR.out.symm, by (repeat (first | exact Up.rfl' _ | (refine Up.al _ ?_) | (refine Up.dr _ ?_) | (refine Up.dr1 ?_) | (refine Up.sc ?_ (by first | exact Nat.le_refl _ | (simp; done) | omega) _) | (refine Up.step (by assumption) ?_)))⟩
  | true =>
  cases h4 : inB en 0 200000 with
  | false =>
    have HR := Lib.hid (show refundV ch du en xs = 0 by simp [refundV, refundOk, h4])
    go_enter Try.func25, Try.ntmps25
    go_wp2_with (first | (go_at_call 58; refine (l1In_any _ _ _ _).mono ?_; rintro e w' ⟨rfl, rfl⟩) | (go_at_call 21; refine (arePercents_spec _ _ _ _ hx hn).mono ?_; rintro e w1 ⟨rfl, hb1⟩))
    go_ret
    exact ⟨reti HR.out.symm, by (repeat (first | exact Up.rfl' _ | (refine Up.al _ ?_) | (refine Up.dr _ ?_) | (refine Up.dr1 ?_) | (refine Up.sc ?_ (by first | exact Nat.le_refl _ | (simp; done) | omega) _) | (refine Up.step (by assumption) ?_)))⟩
  | true =>
  by_cases h5 : en ≤ du
  · have HR := Lib.hid (show refundV ch du en xs = 0 by simp [refundV, refundOk, h5])
    go_enter Try.func25, Try.ntmps25
    go_wp2_with (first | (go_at_call 58; refine (l1In_any _ _ _ _).mono ?_; rintro e w' ⟨rfl, rfl⟩) | (go_at_call 21; refine (arePercents_spec _ _ _ _ hx hn).mono ?_; rintro e w1 ⟨rfl, hb1⟩))
    go_ret
    exact ⟨reti HR.out.symm, by (repeat (first | exact Up.rfl' _ | (refine Up.al _ ?_) | (refine Up.dr _ ?_) | (refine Up.dr1 ?_) | (refine Up.sc ?_ (by first | exact Nat.le_refl _ | (simp; done) | omega) _) | (refine Up.step (by assumption) ?_)))⟩
  · have b2 := inB_true h2
    have b3 := inB_true h3
    have b4 := inB_true h4
    obtain ⟨l1, l2, hall⟩ := pcts_get h1
    have HA := Lib.hid hall
    clear hall
    have k0 : 0 ≤ (en - du - 1) / 1440 := by omega
    by_cases hk : (en - du - 1) / 1440 < (xs.length : Int)
    · obtain ⟨x, gx⟩ := get_of_lt (xs := xs) (i := ((en - du - 1) / 1440).toNat) (by omega)
      have bx := HA.out _ _ gx
      have HR := Lib.hid (show refundV ch du en xs = pctOf ch x by simp [refundV, refundOk, h1, h2, h3, h4, refundAt, hk, gx]; omega)
      have Gx := Lib.hid gx
      clear gx
      go_enter Try.func25, Try.ntmps25
      go_wp2_with (first | (go_at_call 58; refine (l1In_any _ _ _ _).mono ?_; rintro e w' ⟨rfl, rfl⟩) | (go_at_call 21; refine (arePercents_spec _ _ _ _ hx hn).mono ?_; rintro e w1 ⟨rfl, hb1⟩; obtain ⟨b, off, rfl, hbb, c0⟩ := (hx.below hb1).int Gx.out))
      go_ret
      exact ⟨reti HR.out.symm, by (repeat (first | exact Up.rfl' _ | (refine Up.al _ ?_) | (refine Up.dr _ ?_) | (refine Up.dr1 ?_) | (refine Up.sc ?_ (by first | exact Nat.le_refl _ | (simp; done) | omega) _) | (refine Up.step (by assumption) ?_)))⟩
    · obtain ⟨x, gx⟩ := get_of_lt (xs := xs) (i := xs.length - 1) (by omega)
      have HR := Lib.hid (show refundV ch du en xs = pctOf ch x by simp [refundV, refundOk, h1, h2, h3, h4, refundAt, hk, gx]; omega)
      have Gx := Lib.hid gx
      clear gx
      go_enter Try.func25, Try.ntmps25
      go_wp2_with (first | (go_at_call 58; refine (l1In_any _ _ _ _).mono ?_; rintro e w' ⟨rfl, rfl⟩) | (go_at_call 21; refine (arePercents_spec _ _ _ _ hx hn).mono ?_; rintro e w1 ⟨rfl, hb1⟩; obtain ⟨b, off, rfl, hbb, c0⟩ := (hx.below hb1).int Gx.out))
      go_ret
      exact ⟨reti HR.out.symm, by (repeat (first | exact Up.rfl' _ | (refine Up.al _ ?_) | (refine Up.dr _ ?_) | (refine Up.dr1 ?_) | (refine Up.sc ?_ (by first | exact Nat.le_refl _ | (simp; done) | omega) _) | (refine Up.step (by assumption) ?_)))⟩
theorem exactRefundFor_walk (ch du en : Int) (A : Option Addr) (xs : List Int) (c : Nat) (w : World) (_h0 : InI ch) (_h1 : InI du) (_h2 : InI en) (hx : Rd w w.heap.size A xs) (_hok : ∀ a ∈ xs, InI a) (_hc : xs.length ≤ c) (_hm : c ≤ maxLen) :
    Calls Try.prog 5 #[.int .i64 ch, .int .i64 du, .int .i64 en, .slice A xs.length c] w fun e w' => e = .returned (.bool true) ∧ Up w w' := by
  unfold maxLen at _hm
  by_cases hn : xs.length ≤ 1048576
  · go_enter Try.func5, Try.ntmps5
    go_wp2_with fail
    refine (toIntS_any A c xs _ hx (by omega)).mono ?_
    rintro e w1 ⟨g1, rfl, ho1, hb1⟩
    go_wp2_with fail
    refine (refundFor_spec _ xs _ _ _ _ _ ho1.rd (by omega)).mono ?_
    rintro e w2 ⟨rfl, hb2⟩
    go_wp2_with fail
    refine (toIntS_any A c xs _ (hx.up (by (repeat (first | exact Up.rfl' _ | (refine Up.al _ ?_) | (refine Up.dr _ ?_) | (refine Up.dr1 ?_) | (refine Up.sc ?_ (by first | exact Nat.le_refl _ | (simp; done) | omega) _) | (refine Up.step (by assumption) ?_))))) (by omega)).mono ?_
    rintro e w3 ⟨g3, rfl, ho3, hb3⟩
    go_wp2_with fail
    refine (refundFor_impl _ xs _ _ _ _ _ ho3.rd (by omega)).mono ?_
    rintro e w4 ⟨rfl, hb4⟩
    go_wp2_with fail
    refine (toIntS_any A c xs _ (hx.up (by (repeat (first | exact Up.rfl' _ | (refine Up.al _ ?_) | (refine Up.dr _ ?_) | (refine Up.dr1 ?_) | (refine Up.sc ?_ (by first | exact Nat.le_refl _ | (simp; done) | omega) _) | (refine Up.step (by assumption) ?_))))) (by omega)).mono ?_
    rintro e w5 ⟨g5, rfl, ho5, hb5⟩
    go_wp2_with fail
    refine (eqIntS_any _ _ _ _ xs xs _ (ho3.rd.up (by (repeat (first | exact Up.rfl' _ | (refine Up.al _ ?_) | (refine Up.dr _ ?_) | (refine Up.dr1 ?_) | (refine Up.sc ?_ (by first | exact Nat.le_refl _ | (simp; done) | omega) _) | (refine Up.step (by assumption) ?_))))) ho5.rd (by omega) (by omega)).mono ?_
    rintro e w6 ⟨rfl, hb6⟩
    go_wp2_with fail
    go_ret
    exact ⟨rfl, by (repeat (first | exact Up.rfl' _ | (refine Up.al _ ?_) | (refine Up.dr _ ?_) | (refine Up.dr1 ?_) | (refine Up.sc ?_ (by first | exact Nat.le_refl _ | (simp; done) | omega) _) | (refine Up.step (by assumption) ?_)))⟩
  · go_enter Try.func5, Try.ntmps5
    go_wp2_with fail
    go_ret
    exact ⟨rfl, by (repeat (first | exact Up.rfl' _ | (refine Up.al _ ?_) | (refine Up.dr _ ?_) | (refine Up.dr1 ?_) | (refine Up.sc ?_ (by first | exact Nat.le_refl _ | (simp; done) | omega) _) | (refine Up.step (by assumption) ?_)))⟩
end Go.Proofs.Ytapllnlclgbbkaa
