import Derived.Test.YtapllnlclgbbkaaG2
namespace Go.Proofs.Ytapllnlclgbbkaa
set_option maxRecDepth 10000
open Go.RowKit
theorem l1New_any (A : Option Addr) (xs : List By) (c n : Nat) (w : World) (hl : n = xs.length) (hr : Rd w w.heap.size A xs) (hok : ∀ x ∈ xs, ByOk x) (h : n ≤ 4096) :
    Calls Try.prog 61 #[.slice A n c] w fun e w' => ∃ g, e = .returned (.pointer (some ⟨g, 0, none⟩)) ∧ (w.heap.size ≤ g ∧ Cur w' g xs) ∧ Up w w' := by
  subst hl
  go_enter Try.func61, Try.ntmps61
  go_wp2
  generalize 744201 + 3 * (xs.length : Int) = h0
  go_loopw [3, 4] (fun hv i wr => ∃ (j : Nat) (h1 : Int), j ≤ xs.length ∧ hv = .int .i64 h1 ∧ i = .int .i64 j ∧ Up w wr) (fun hv i _ => xs.length - (intOf i).toNat)
  case atStart => exact ⟨0, h0, by omega, rfl, rfl, Up.rfl' _⟩
  case round =>
    obtain ⟨j, h1, hj, rfl, rfl, hb⟩ := hrel
    by_cases hlt : j < xs.length
    · by_cases h4 : (j : Int) < 4000
      · obtain ⟨x, gx⟩ := get_of_lt hlt
        obtain ⟨b, off, rfl, hbb, c0⟩ := (hr.below hb).by_ gx
        clear gx
        go_wp2
        exact ⟨⟨j + 1, _, by omega, rfl, by go_num, by (repeat (first | exact Up.rfl' _ | (refine Up.al _ ?_) | (refine Up.dr _ ?_) | (refine Up.dr1 ?_) | (refine Up.sc ?_ (by first | exact Nat.le_refl _ | (simp; done) | omega) _) | (refine Up.step (by assumption) ?_)))⟩, by simp [intOf]; omega⟩
      · go_wp2
        go_ret
        exact ⟨_, rfl, ⟨hb.size, _, _, 0, h1, heap_alloc_new _ _, by omega, (hr.up hb).below (by (repeat (first | exact Up.rfl' _ | (refine Up.al _ ?_) | (refine Up.dr _ ?_) | (refine Up.dr1 ?_) | (refine Up.sc ?_ (by first | exact Nat.le_refl _ | (simp; done) | omega) _) | (refine Up.step (by assumption) ?_)))), hok, h⟩, by (repeat (first | exact Up.rfl' _ | (refine Up.al _ ?_) | (refine Up.dr _ ?_) | (refine Up.dr1 ?_) | (refine Up.sc ?_ (by first | exact Nat.le_refl _ | (simp; done) | omega) _) | (refine Up.step (by assumption) ?_)))⟩
    · go_wp2
      go_ret
      exact ⟨_, rfl, ⟨hb.size, _, _, 0, h1, heap_alloc_new _ _, by omega, (hr.up hb).below (by (repeat (first | exact Up.rfl' _ | (refine Up.al _ ?_) | (refine Up.dr _ ?_) | (refine Up.dr1 ?_) | (refine Up.sc ?_ (by first | exact Nat.le_refl _ | (simp; done) | omega) _) | (refine Up.step (by assumption) ?_)))), hok, h⟩, by (repeat (first | exact Up.rfl' _ | (refine Up.al _ ?_) | (refine Up.dr _ ?_) | (refine Up.dr1 ?_) | (refine Up.sc ?_ (by first | exact Nat.le_refl _ | (simp; done) | omega) _) | (refine Up.step (by assumption) ?_)))⟩
theorem big_any (A : Option Addr) (c n : Nat) (w : World) (h : n ≤ 9223372036854775807) :
    Calls Try.prog 32 #[.slice A n c] w fun e w' => e = .returned (.bool (decide (4096 < n))) ∧ w = w' := by
  by_cases h1 : 4096 < n
  all_goals
    go_enter Try.func32, Try.ntmps32
    go_wp2
    go_ret
    exact ⟨by simp; omega, rfl⟩
theorem at_any (A : Option Addr) (xs : List By) (c n : Nat) (i : Nat) (w : World) (hl : n = xs.length) (hr : Rd w w.heap.size A xs) (hok : ∀ x ∈ xs, ByOk x) (h : n ≤ 4096) (_hi : i ≤ 1000000) :
    Calls Try.prog 34 #[.slice A n c, .int .i64 i] w fun e w' => ∃ x : Int, (0 ≤ x ∧ x ≤ 255) ∧ e = .returned (.int .i64 x) ∧ w = w' := by
  subst hl
  by_cases h1 : i < xs.length
  · obtain ⟨x, hx⟩ := get_of_lt h1
    obtain ⟨b, off, rfl, hb, hc⟩ := hr.by_ hx
    have hx2 := hok x (List.mem_of_getElem? hx)
    unfold ByOk at hx2
    go_enter Try.func34, Try.ntmps34
    go_wp2
    go_ret
    exact ⟨x.v, by omega, by simp, rfl⟩
  · go_enter Try.func34, Try.ntmps34
    go_wp2
    go_ret
    exact ⟨0, by omega, rfl, rfl⟩
theorem up_grown {a b c : World} {g : Nat} (h : Up a b) (k : b.grownBy c (some g)) (hg : a.heap.size ≤ g) : Up a c :=
  Below.grown h k h.size (fun r e => by cases e; exact hg)
set_option maxHeartbeats 1600000 in
theorem drawRefundFor_any (A : Option Addr) (xs : List By) (c n : Nat) (w : World) (hl : n = xs.length) (hr : Rd w w.heap.size A xs) (hok : ∀ x ∈ xs, ByOk x) (h : n ≤ 4096) :
    Calls Try.prog 33 #[.slice A n c] w fun e w' => ∃ (ch du en : Int) (P : Option Addr) (ps : List Int), (InI ch ∧ InI du ∧ InI en ∧ PctOk ps) ∧ e = .returned (.tuple #[.int .i64 ch, .int .i64 du, .int .i64 en, .slice P ps.length ps.length]) ∧ Rd w' w'.heap.size P ps ∧ Up w w' := by
  subst hl
  go_enter Try.func33, Try.ntmps33
  go_wp2_with fail
  refine (l1New_any A xs c _ w rfl hr hok h).mono ?_
  rintro e w1 ⟨g, rfl, ⟨hg, hc1⟩, hu1⟩
  go_wp2_with fail
  refine (l1Below_any g xs _ _ hc1 (by omega)).mono ?_
  rintro e w2 ⟨x2, ⟨_, _⟩, rfl, hc2, hg2⟩
  have hlt2 := hc2.lt
  go_wp2_with fail
  refine (l1Int_any g xs _ [-1, 0, 1, 1440, 1441, 2880, 2881, 10000] _ _ _ rfl (hc2.up (by (repeat (first | exact Up.rfl' _ | (refine Up.al _ ?_) | (refine Up.dr _ ?_) | (refine Up.dr1 ?_) | (refine Up.sc ?_ (by first | exact Nat.le_refl _ | (simp; done) | omega) _) | (refine Up.step (by assumption) ?_))))) (Rd.lit _ (heap_alloc_new _ _)) (by simp) (by simp) (by simp; omega)).mono ?_
  rintro e w3 ⟨x3, hm3, rfl, hc3, hg3⟩
  replace hm3 : -1 ≤ x3 ∧ x3 ≤ 10000 := by simp at hm3; omega
  have hg23 := grown_trans hg2 (grown_trans (grown_up _ (by (repeat (first | exact Up.rfl' _ | (refine Up.al _ ?_) | (refine Up.dr _ ?_) | (refine Up.dr1 ?_) | (refine Up.sc ?_ (by first | exact Nat.le_refl _ | (simp; done) | omega) _) | (refine Up.step (by assumption) ?_))))) hg3)
  go_wp2_with fail
  refine (l1Once_any g xs _ _ hc3 (by omega)).mono ?_
  rintro e w4 ⟨x4, rfl, hc4, hg4⟩
  have hlt4 := hc4.lt
  have hg24 := grown_trans hg23 hg4
  cases x4
  · go_wp2_with fail
    refine (l1Int_any g xs _ [0, 1, 99, 1000, 100000, 100001, -1] _ _ _ rfl (hc4.up (by (repeat (first | exact Up.rfl' _ | (refine Up.al _ ?_) | (refine Up.dr _ ?_) | (refine Up.dr1 ?_) | (refine Up.sc ?_ (by first | exact Nat.le_refl _ | (simp; done) | omega) _) | (refine Up.step (by assumption) ?_))))) (Rd.lit _ (heap_alloc_new _ _)) (by simp) (by simp) (by simp; omega)).mono ?_
    rintro e w5 ⟨x5, hm5, rfl, hc5, hg5⟩
    have hg25 := grown_trans hg24 (grown_trans (grown_up _ (by (repeat (first | exact Up.rfl' _ | (refine Up.al _ ?_) | (refine Up.dr _ ?_) | (refine Up.dr1 ?_) | (refine Up.sc ?_ (by first | exact Nat.le_refl _ | (simp; done) | omega) _) | (refine Up.step (by assumption) ?_))))) hg5)
    replace hm5 : InI x5 := by simp at hm5; unfold InI; omega
    go_wp2_with fail
    refine (l11Percents_any g xs _ hc5).mono ?_
    rintro e w6 ⟨P, ps, hok6, rfl, ⟨hp6, _⟩, hc6, hg6⟩
    have hg26 := grown_trans hg25 hg6
    have hup := up_grown hu1 hg26 hg
    go_wp2_with fail
    exact bodyPost_ret (v := .tuple #[.int .i64 x5, .int .i64 (60 * x2), .int .i64 (60 * x2 + x3), .slice P ps.length ps.length]) (by simp [results, Try.results33, go_sem]; try rfl) rfl ⟨_, _, _, _, _, ⟨hm5, by unfold InI; omega, by unfold InI; omega, hok6⟩, rfl, hp6, hup⟩
  · go_wp2_with fail
    refine (l1Odd_any g xs _ hc4).mono ?_
    rintro e w5 ⟨x5, hi5, rfl, hc5, hg5⟩
    have hlt5 := hc5.lt
    have hg25 := grown_trans hg24 hg5
    go_wp2_with fail
    refine (l1Int_any g xs _ [0, 1, 99, 1000, 100000, 100001, -1] _ _ _ rfl (hc5.up (by (repeat (first | exact Up.rfl' _ | (refine Up.al _ ?_) | (refine Up.dr _ ?_) | (refine Up.dr1 ?_) | (refine Up.sc ?_ (by first | exact Nat.le_refl _ | (simp; done) | omega) _) | (refine Up.step (by assumption) ?_))))) (Rd.lit _ (heap_alloc_new _ _)) (by simp) (by simp) (by simp; omega)).mono ?_
    rintro e w6 ⟨x6, hm6, rfl, hc6, hg6⟩
    have hg26 := grown_trans hg25 (grown_trans (grown_up _ (by (repeat (first | exact Up.rfl' _ | (refine Up.al _ ?_) | (refine Up.dr _ ?_) | (refine Up.dr1 ?_) | (refine Up.sc ?_ (by first | exact Nat.le_refl _ | (simp; done) | omega) _) | (refine Up.step (by assumption) ?_))))) hg6)
    replace hm6 : InI x6 := by simp at hm6; unfold InI; omega
    go_wp2_with fail
    refine (l11Percents_any g xs _ hc6).mono ?_
    rintro e w7 ⟨P, ps, hok7, rfl, ⟨hp7, _⟩, hc7, hg7⟩
    have hg27 := grown_trans hg26 hg7
    have hup := up_grown hu1 hg27 hg
    go_wp2_with fail
    exact bodyPost_ret (v := .tuple #[.int .i64 x6, .int .i64 (60 * x2), .int .i64 x5, .slice P ps.length ps.length]) (by simp [results, Try.results33, go_sem]; try rfl) rfl ⟨_, _, _, _, _, ⟨hm6, by unfold InI; omega, hi5, hok7⟩, rfl, hp7, hup⟩
end Go.Proofs.Ytapllnlclgbbkaa
