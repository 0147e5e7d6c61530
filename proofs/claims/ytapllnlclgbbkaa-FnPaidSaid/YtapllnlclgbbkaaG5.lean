import Derived.Test.YtapllnlclgbbkaaG3
import Derived.Test.YtapllnlclgbbkaaD5
import Derived.Test.YtapllnlclgbbkaaD6
import Derived.Test.YtapllnlclgbbkaaF4
import Derived.Test.YtapllnlclgbbkaaF7
namespace Go.Proofs.Ytapllnlclgbbkaa
set_option maxRecDepth 10000
open Go.RowKit
theorem max_any (a b : Int) (w : World) :
    Calls Try.prog 79 #[.int .i64 a, .int .i64 b] w fun e w' => (∃ x : Int, e = .returned (.int .i64 x)) ∧ w = w' := by
  by_cases h : a < b
  all_goals
    go_enter Try.func79, Try.ntmps79
    go_wp2
    go_ret
    exact ⟨⟨_, rfl⟩, rfl⟩
theorem own_cur {α : Type} [Enc α] {w w' : World} {B E g : Nat} {v : Value} {xs : List α} (ho : Own w B E v xs) (hg : w.grownBy w' (some g)) (hlt : g < B) : Own w' B E v xs := by
  refine ho.grown hg ?_
  cases hb : v.ownBlock with
  | none => exact .inl rfl
  | some k =>
    refine .inr fun e => ?_
    have h1 := (World.ownsRow.lt ho k hb).1
    cases e
    omega
/-- A list of lines that is the call's own, as the draws keep it. -/
def OwnL (w : World) (B : Nat) (v : Value) (m : Nat) : Prop := ∃ xs : List Ln, Own w B 25 v xs ∧ xs.length ≤ m
set_option maxHeartbeats 1000000 in
theorem l11Draw_any (g : Nat) (cs : List By) (n : Int) (w : World) (hc : Cur w g cs) (hn : n ≤ 1000) :
    Calls Try.prog 77 #[.pointer (some ⟨g, 0, none⟩), .int .i64 n] w fun e w' => ∃ v, e = .returned v ∧ OwnL w' w.heap.size v 4000 ∧ Cur w' g cs ∧ w.grownBy w' (some g) := by
  have hlt := hc.lt
  go_enter Try.func77, Try.ntmps77
  go_wp2_with fail
  refine (l1Below_any g cs _ _ (hc.up (by (repeat (first | exact Up.rfl' _ | (refine Up.al _ ?_) | (refine Up.dr _ ?_) | (refine Up.dr1 ?_) | (refine Up.sc ?_ (by first | exact Nat.le_refl _ | (simp; done) | omega) _) | (refine Up.step (by assumption) ?_))))) (by omega)).mono ?_
  rintro e w1 ⟨x1, ⟨h3, h4⟩, rfl, hc1, hg1⟩
  obtain ⟨k0, rfl⟩ : ∃ m : Nat, x1 = m := ⟨x1.toNat, by omega⟩
  go_wp2_with fail
  have hac0 : w.grownBy w1 (some g) := grown_trans (grown_up _ (by (repeat (first | exact Up.rfl' _ | (refine Up.al _ ?_) | (refine Up.dr _ ?_) | (refine Up.dr1 ?_) | (refine Up.sc ?_ (by first | exact Nat.le_refl _ | (simp; done) | omega) _) | (refine Up.step (by assumption) ?_))))) hg1
  have ho0 : Own w1 w.heap.size 25 (.slice (some ⟨w.heap.size, 0, none⟩) 0 0) ([] : List Ln) := own_cur (Own.empty w _ _ 0 _ (Nat.le_refl _) (by unfold maxLen; omega) rfl) hg1 hlt
  have hk0 : k0 ≤ 1000 := by omega
  clear hg1 hc h3 h4
  go_loopw [5, 6, 7] (fun v a k wr => ∃ (j : Nat) (xs : List Ln) (t : Int), j ≤ k0 ∧ k = .int .i64 j ∧ a = .int .i64 t ∧ Own wr w.heap.size 25 v xs ∧ xs.length ≤ 2 * (k0 - j) ∧ Cur wr g cs ∧ w.grownBy wr (some g)) (fun _ _ k _ => (intOf k).toNat)
  case atStart => exact ⟨k0, [], 0, Nat.le_refl _, rfl, rfl, ho0, by simp, hc1, hac0⟩
  case round =>
    obtain ⟨j, xs, t, hj, rfl, rfl, ho, hxl, hcr, hac⟩ := hrel
    obtain ⟨A, c, rfl, hxc, _⟩ := ho.form
    by_cases hj0 : 0 < j
    · go_wp2_with fail
      refine (l1Below_any g cs _ _ hcr (by omega)).mono ?_
      rintro e w2 ⟨x2, ⟨_, _⟩, rfl, hc2, hg2⟩
      replace ho := own_cur ho hg2 hlt
      replace hac := grown_trans hac hg2
      go_wp2_with fail
      refine (l1Below_any g cs _ _ hc2 (by omega)).mono ?_
      rintro e w3 ⟨x3, ⟨_, _⟩, rfl, hc3, hg3⟩
      replace ho := own_cur ho hg3 hlt
      replace hac := grown_trans hac hg3
      go_wp2_with fail
      refine (l1Below_any g cs _ _ hc3 (by omega)).mono ?_
      rintro e w4 ⟨x4, ⟨_, _⟩, rfl, hc4, hg4⟩
      replace ho := own_cur ho hg4 hlt
      replace hac := grown_trans hac hg4
      obtain rfl | rfl | rfl | rfl : x4 = 0 ∨ x4 = 1 ∨ x4 = 2 ∨ x4 = 3 := by omega
      · go_wp2_with fail
        refine (l1Below_any g cs _ _ hc4 (by omega)).mono ?_
        rintro e w5 ⟨x5, ⟨_, _⟩, rfl, hc5, hg5⟩
        replace ho := own_cur ho hg5 hlt
        replace hac := grown_trans hac hg5
        go_wp2_with fail
        refine (chargeOrder_spec A xs _ c (1 + x3) (100 + x5) _ _ ho.rd rfl hxc (by omega)).mono ?_
        rintro e w6 ⟨v6, rfl, ho6, hb6⟩
        have hl6 := chargeV_len xs (1 + x3) (100 + x5) (wrap64 (t + 100 * x2))
        have hB6 := hac.size
        replace ho6 := ho6.more hB6
        replace hac := grown_trans hac (grown_up _ hb6)
        have hc6 := hc5.up hb6
        generalize chargeV xs (1 + x3) (100 + x5) (wrap64 (t + 100 * x2)) = p6 at ho6 hl6
        obtain ⟨ys6, r6⟩ := p6
        simp only [] at ho6 hl6
        obtain ⟨A6, c6, rfl, hxc6, _⟩ := ho6.form
        go_wp2_with fail
        refine (l1Below_any g cs _ _ hc6 (by omega)).mono ?_
        rintro e w7 ⟨x7, ⟨_, _⟩, rfl, hc7, hg7⟩
        replace ho6 := own_cur ho6 hg7 hlt
        replace hac := grown_trans hac hg7
        go_wp2_with fail
        refine (payOrder_spec A6 ys6 _ c6 (1 + x3) (100 + 50 * x7) _ _ ho6.rd rfl hxc6 (by omega)).mono ?_
        rintro e w8 ⟨v8, rfl, ho8, hb8⟩
        have hl8 := payV_len ys6 (1 + x3) (100 + 50 * x7) (wrap64 (t + 100 * x2))
        have hB8 := hac.size
        replace ho8 := ho8.more hB8
        replace hac := grown_trans hac (grown_up _ hb8)
        have hc8 := hc7.up hb8
        generalize payV ys6 (1 + x3) (100 + 50 * x7) (wrap64 (t + 100 * x2)) = p8 at ho8 hl8
        obtain ⟨ys8, r8⟩ := p8
        simp only [] at ho8 hl8
        obtain ⟨A8, c8, rfl, hxc8, _⟩ := ho8.form
        go_wp2_with fail
        exact ⟨⟨j - 1, ys8, _, by omega, by congr 1; omega, rfl, ho8, by omega, hc8, hac⟩, by simp [intOf]; omega⟩
      · go_wp2_with fail
        refine (l1Below_any g cs _ _ hc4 (by omega)).mono ?_
        rintro e w5 ⟨x5, ⟨_, _⟩, rfl, hc5, hg5⟩
        replace ho := own_cur ho hg5 hlt
        replace hac := grown_trans hac hg5
        go_wp2_with fail
        refine (chargeOrder_spec A xs _ c (1 + x3) (100 + x5) _ _ ho.rd rfl hxc (by omega)).mono ?_
        rintro e w6 ⟨v6, rfl, ho6, hb6⟩
        have hl6 := chargeV_len xs (1 + x3) (100 + x5) (wrap64 (t + 100 * x2))
        have hB6 := hac.size
        replace ho6 := ho6.more hB6
        replace hac := grown_trans hac (grown_up _ hb6)
        have hc6 := hc5.up hb6
        generalize chargeV xs (1 + x3) (100 + x5) (wrap64 (t + 100 * x2)) = p6 at ho6 hl6
        obtain ⟨ys6, r6⟩ := p6
        simp only [] at ho6 hl6
        obtain ⟨A6, c6, rfl, hxc6, _⟩ := ho6.form
        go_wp2_with fail
        refine (l1Below_any g cs _ _ hc6 (by omega)).mono ?_
        rintro e w7 ⟨x7, ⟨_, _⟩, rfl, hc7, hg7⟩
        replace ho6 := own_cur ho6 hg7 hlt
        replace hac := grown_trans hac hg7
        go_wp2_with fail
        refine (payOrder_spec A6 ys6 _ c6 (1 + x3) (100 + 50 * x7) _ _ ho6.rd rfl hxc6 (by omega)).mono ?_
        rintro e w8 ⟨v8, rfl, ho8, hb8⟩
        have hl8 := payV_len ys6 (1 + x3) (100 + 50 * x7) (wrap64 (t + 100 * x2))
        have hB8 := hac.size
        replace ho8 := ho8.more hB8
        replace hac := grown_trans hac (grown_up _ hb8)
        have hc8 := hc7.up hb8
        generalize payV ys6 (1 + x3) (100 + 50 * x7) (wrap64 (t + 100 * x2)) = p8 at ho8 hl8
        obtain ⟨ys8, r8⟩ := p8
        simp only [] at ho8 hl8
        obtain ⟨A8, c8, rfl, hxc8, _⟩ := ho8.form
        go_wp2_with fail
        exact ⟨⟨j - 1, ys8, _, by omega, by congr 1; omega, rfl, ho8, by omega, hc8, hac⟩, by simp [intOf]; omega⟩
      · go_wp2_with fail
        refine (owedFor_spec A xs _ c (1 + x3) _ ho.rd rfl hxc (by omega)).mono ?_
        rintro e w5 ⟨rfl, hb5⟩
        replace ho := ho.up hb5
        replace hac := grown_trans hac (grown_up _ hb5)
        have hc5 := hc4.up hb5
        have hlt5 := hc5.lt
        go_wp2_with fail
        refine (l1Int_any g cs _ [0, 0, 1] _ _ _ rfl (hc5.up (by (repeat (first | exact Up.rfl' _ | (refine Up.al _ ?_) | (refine Up.dr _ ?_) | (refine Up.dr1 ?_) | (refine Up.sc ?_ (by first | exact Nat.le_refl _ | (simp; done) | omega) _) | (refine Up.step (by assumption) ?_))))) (Rd.lit _ (heap_alloc_new _ _)) (by simp) (by simp) (by simp; omega)).mono ?_
        rintro e w6 ⟨x6, hm6, rfl, hc6, hg6⟩
        have hg6 : w5.grownBy w6 (some g) := grown_trans (grown_up _ (by (repeat (first | exact Up.rfl' _ | (refine Up.al _ ?_) | (refine Up.dr _ ?_) | (refine Up.dr1 ?_) | (refine Up.sc ?_ (by first | exact Nat.le_refl _ | (simp; done) | omega) _) | (refine Up.step (by assumption) ?_))))) hg6
        replace ho := own_cur ho hg6 hlt
        replace hac := grown_trans hac hg6
        go_wp2_with fail
        refine (max_any _ _ _).mono ?_
        rintro e w7 ⟨⟨x7, rfl⟩, rfl⟩
        go_wp2_with fail
        refine (payOrder_spec A xs _ c (1 + x3) x7 _ _ ho.rd rfl hxc (by omega)).mono ?_
        rintro e w8 ⟨v8, rfl, ho8, hb8⟩
        have hl8 := payV_len xs (1 + x3) x7 (wrap64 (t + 100 * x2))
        have hB8 := hac.size
        replace ho8 := ho8.more hB8
        replace hac := grown_trans hac (grown_up _ hb8)
        have hc8 := hc6.up hb8
        generalize payV xs (1 + x3) x7 (wrap64 (t + 100 * x2)) = p8 at ho8 hl8
        obtain ⟨ys8, r8⟩ := p8
        simp only [] at ho8 hl8
        obtain ⟨A8, c8, rfl, hxc8, _⟩ := ho8.form
        go_wp2_with fail
        exact ⟨⟨j - 1, ys8, _, by omega, by congr 1; omega, rfl, ho8, by omega, hc8, hac⟩, by simp [intOf]; omega⟩
      · go_wp2_with fail
        refine (l1Below_any g cs _ _ hc4 (by omega)).mono ?_
        rintro e w5 ⟨x5, ⟨_, _⟩, rfl, hc5, hg5⟩
        replace ho := own_cur ho hg5 hlt
        replace hac := grown_trans hac hg5
        go_wp2_with fail
        refine (l11Percents_any g cs _ hc5).mono ?_
        rintro e w6 ⟨P, ps, hok6, rfl, ⟨hp6, _⟩, hc6, hg6⟩
        have hpl := hok6.1
        replace ho := own_cur ho hg6 hlt
        replace hac := grown_trans hac hg6
        go_wp2_with fail
        refine (refundOrder_spec A xs _ c (1 + x3) 0 (1440 * x5) P ps _ _ _ ho.rd rfl hxc (by omega) hp6 (by omega)).mono ?_
        rintro e w7 ⟨v7, rfl, ho7, hb7⟩
        have hl7 := refundO_len xs (1 + x3) 0 (1440 * x5) ps (wrap64 (t + 100 * x2))
        have hB7 := hac.size
        replace ho7 := ho7.more hB7
        replace hac := grown_trans hac (grown_up _ hb7)
        have hc7 := hc6.up hb7
        generalize refundO xs (1 + x3) 0 (1440 * x5) ps (wrap64 (t + 100 * x2)) = p7 at ho7 hl7
        obtain ⟨ys7, r7⟩ := p7
        simp only [] at ho7 hl7
        obtain ⟨A7, c7, rfl, hxc7, _⟩ := ho7.form
        go_wp2_with fail
        exact ⟨⟨j - 1, ys7, _, by omega, by congr 1; omega, rfl, ho7, by omega, hc7, hac⟩, by simp [intOf]; omega⟩
    · go_wp2_with fail
      go_ret
      exact ⟨_, rfl, ⟨xs, ho, by omega⟩, hcr, hac⟩
end Go.Proofs.Ytapllnlclgbbkaa
