import Derived.Test.YtapllnlclgbbkaaG6
namespace Go.Proofs.Ytapllnlclgbbkaa
set_option maxRecDepth 10000
open Go.RowKit
theorem OwnL.cur {w w' : World} {B g m : Nat} {v : Value} (h : OwnL w B v m) (hg : w.grownBy w' (some g)) (hlt : g < B) : OwnL w' B v m := by
  obtain ⟨xs, ho, hl⟩ := h
  exact ⟨xs, own_cur ho hg hlt, hl⟩
theorem OwnL.more {w : World} {B B' m : Nat} {v : Value} (h : OwnL w B v m) (hB : B' ≤ B) : OwnL w B' v m := by
  obtain ⟨xs, ho, hl⟩ := h
  exact ⟨xs, Own.more ho hB, hl⟩
theorem OwnL.up {w w' : World} {B m : Nat} {v : Value} (h : OwnL w B v m) (hu : Up w w') : OwnL w' B v m := by
  obtain ⟨xs, ho, hl⟩ := h
  exact ⟨xs, Own.up ho hu, hl⟩
theorem drawOwedFor_any (A : Option Addr) (xs : List By) (c n : Nat) (w : World) (hl : n = xs.length) (hr : Rd w w.heap.size A xs) (hok : ∀ x ∈ xs, ByOk x) (h : n ≤ 4096) :
    Calls Try.prog 56 #[.slice A n c] w fun e w' => ∃ (v : Value) (x : Int), (0 ≤ x ∧ x ≤ 5) ∧ e = .returned (.tuple #[v, .int .i64 x]) ∧ OwnL w' w.heap.size v 4001 ∧ Up w w' := by
  subst hl
  go_enter Try.func56, Try.ntmps56
  go_wp2_with fail
  refine (l1New_any A xs c _ w rfl hr hok h).mono ?_
  rintro e w1 ⟨g, rfl, ⟨hg, hc1⟩, hu1⟩
  have hlt := hc1.lt
  go_wp2_with fail
  refine (l11Any_any g xs _ hc1).mono ?_
  rintro e w2 ⟨v2, rfl, ho2, hc2, hg2⟩
  go_wp2_with fail
  refine (l1Below_any g xs _ _ hc2 (by omega)).mono ?_
  rintro e w3 ⟨x3, ⟨_, _⟩, rfl, hc3, hg3⟩
  have ho3 := ho2.cur hg3 hlt
  have hup := up_grown hu1 (grown_trans hg2 hg3) hg
  go_wp2_with fail
  go_ret2
  exact ⟨v2, x3, by omega, rfl, ho3.more hu1.size, hup⟩
theorem drawRefundOrder_any (A : Option Addr) (xs : List By) (c n : Nat) (w : World) (hl : n = xs.length) (hr : Rd w w.heap.size A xs) (hok : ∀ x ∈ xs, ByOk x) (h : n ≤ 4096) :
    Calls Try.prog 52 #[.slice A n c] w fun e w' => ∃ (v : Value) (o du en t : Int) (P : Option Addr) (ps : List Int), PctOk ps ∧ e = .returned (.tuple #[v, .int .i64 o, .int .i64 du, .int .i64 en, .slice P ps.length ps.length, .int .i64 t]) ∧ (OwnL w' w.heap.size v 4001 ∧ Rd w' w'.heap.size P ps) ∧ Up w w' := by
  subst hl
  go_enter Try.func52, Try.ntmps52
  go_wp2_with fail
  refine (l1New_any A xs c _ w rfl hr hok h).mono ?_
  rintro e w1 ⟨g, rfl, ⟨hg, hc1⟩, hu1⟩
  have hlt := hc1.lt
  go_wp2_with fail
  refine (l11Any_any g xs _ hc1).mono ?_
  rintro e w2 ⟨v2, rfl, ho2, hc2, hg2⟩
  go_wp2_with fail
  refine (l1Below_any g xs _ _ hc2 (by omega)).mono ?_
  rintro e w3 ⟨x3, ⟨_, _⟩, rfl, hc3, hg3⟩
  have ho3 := ho2.cur hg3 hlt
  have hac3 := grown_trans hg2 hg3
  have hlt3 := hc3.lt
  go_wp2_with fail
  refine (l1Int_any g xs _ [-1, 0, 1, 1441, 9000] _ _ _ rfl (hc3.up (by (repeat (first | exact Up.rfl' _ | (refine Up.al _ ?_) | (refine Up.dr _ ?_) | (refine Up.dr1 ?_) | (refine Up.sc ?_ (by first | exact Nat.le_refl _ | (simp; done) | omega) _) | (refine Up.step (by assumption) ?_))))) (Rd.lit _ (heap_alloc_new _ _)) (by simp) (by simp) (by simp; omega)).mono ?_
  rintro e w4 ⟨x4, hm4, rfl, hc4, hg4⟩
  replace hm4 : -1 ≤ x4 ∧ x4 ≤ 9000 := by simp at hm4; omega
  replace hg4 : w3.grownBy w4 (some g) := grown_trans (grown_up _ (by (repeat (first | exact Up.rfl' _ | (refine Up.al _ ?_) | (refine Up.dr _ ?_) | (refine Up.dr1 ?_) | (refine Up.sc ?_ (by first | exact Nat.le_refl _ | (simp; done) | omega) _) | (refine Up.step (by assumption) ?_))))) hg4
  have ho4 := ho3.cur hg4 hlt
  have hac4 := grown_trans hac3 hg4
  go_wp2_with fail
  refine (l11Percents_any g xs _ hc4).mono ?_
  rintro e w5 ⟨P, ps, hok5, rfl, ⟨hp5, hpg⟩, hc5, hg5⟩
  have ho5 := ho4.cur hg5 hlt
  have hac5 := grown_trans hac4 hg5
  have hlt5 := hc5.lt
  go_wp2_with fail
  refine (l1Int_any g xs _ [0, 50000, 100000, 100001] _ _ _ rfl (hc5.up (by (repeat (first | exact Up.rfl' _ | (refine Up.al _ ?_) | (refine Up.dr _ ?_) | (refine Up.dr1 ?_) | (refine Up.sc ?_ (by first | exact Nat.le_refl _ | (simp; done) | omega) _) | (refine Up.step (by assumption) ?_))))) (Rd.lit _ (heap_alloc_new _ _)) (by simp) (by simp) (by simp; omega)).mono ?_
  rintro e w6 ⟨x6, _, rfl, hc6, hg6⟩
  replace hg6 : w5.grownBy w6 (some g) := grown_trans (grown_up _ (by (repeat (first | exact Up.rfl' _ | (refine Up.al _ ?_) | (refine Up.dr _ ?_) | (refine Up.dr1 ?_) | (refine Up.sc ?_ (by first | exact Nat.le_refl _ | (simp; done) | omega) _) | (refine Up.step (by assumption) ?_))))) hg6
  have ho6 := ho5.cur hg6 hlt
  have hup := up_grown hu1 (grown_trans hac5 hg6) hg
  have hp6 : Rd w6 w6.heap.size P ps := fun hn => by
    obtain ⟨b, off, e, hb, hcl⟩ := hp5 hn
    refine ⟨b, off, e, Nat.lt_of_lt_of_le hb hg6.size, fun j u hu => ?_⟩
    refine hg6.cell (hcl j u hu) ?_
    subst e
    simpa using hpg
  go_wp2_with fail
  exact bodyPost_ret (v := .tuple #[v2, .int .i64 x3, .int .i64 1000, .int .i64 (1000 + x4), .slice P ps.length ps.length, .int .i64 x6]) (by simp [results, Try.results52, go_sem]; try rfl) rfl ⟨_, _, _, _, _, _, _, hok5, rfl, ⟨ho6.more hu1.size, hp6⟩, hup⟩
end Go.Proofs.Ytapllnlclgbbkaa
