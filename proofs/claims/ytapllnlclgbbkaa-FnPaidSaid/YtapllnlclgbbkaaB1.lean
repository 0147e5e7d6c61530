import Derived.Test.YtapllnlclgbbkaaA1
import Derived.Deep.QuietTactic
import Derived.BigQuiet
namespace Go.Proofs.Ytapllnlclgbbkaa
set_option maxRecDepth 10000
open Go.RowKit
theorem Rd.int {w : World} {B : Nat} {A : Option Addr} {xs : List Int} {i : Nat} {x : Int} (h : Rd w B A xs) (hx : xs[i]? = some x) :
    ∃ b off, A = some ⟨b, off, none⟩ ∧ b < B ∧ w.cell? ⟨b, off + i, none⟩ = some (I x) := by
  obtain ⟨b, off, e, hb, hc⟩ := h.at_ hx
  have h0 := hc 0 _ rfl
  have : off + i * Enc.k Int + 0 = off + i := by show off + i * 1 + 0 = off + i; omega
  rw [this] at h0
  exact ⟨b, off, e, hb, h0⟩

theorem eqIntS_any (A A' : Option Addr) (c c' : Nat) (xs ys : List Int) (w : World) (hx : Rd w w.heap.size A xs) (hy : Rd w w.heap.size A' ys) (hn : xs.length ≤ 2000000) (_hn : ys.length ≤ 2000000) :
    Calls Try.prog 24 #[.slice A xs.length c, .slice A' ys.length c'] w fun e w' => e = .returned (.bool (decide (xs = ys))) ∧ Below w.heap.size w w' := by
  by_cases hl : xs.length = ys.length
  · have hL : ((xs.length : Int) != (ys.length : Int)) = false := by simp [hl]
    have HL := Lib.hid hl
    clear hl
    go_enter Try.func24, Try.ntmps24
    go_wp2
    clear hL
    go_loopw [5] (fun i wr => ∃ j : Nat, j ≤ xs.length ∧ i = .int .i64 j ∧ Hid (xs.take j = ys.take j) ∧ Below w.heap.size w wr) (fun i _ => xs.length - (intOf i).toNat)
    case atStart => exact ⟨0, by omega, rfl, rfl, Below.refl _ _⟩
    case round =>
      obtain ⟨i, hi, rfl, he, hb⟩ := hrel
      by_cases hlt : i < xs.length
      · obtain ⟨x, gx⟩ := get_of_lt hlt
        obtain ⟨y, gy⟩ := get_of_lt (xs := ys) (i := i) (by rw [← HL.out]; exact hlt)
        obtain ⟨b, off, rfl, hbb, c0⟩ := (hx.below hb).int gx
        obtain ⟨b', off', rfl, hbb', c0'⟩ := (hy.below hb).int gy
        have hlt' : i < ys.length := lt_of_get gy
        have Gx := Lib.hid gx
        have Gy := Lib.hid gy
        clear gx gy hx hy
        go_wp2
        go_quiet (fail)
        go_wp2
        · go_ret
          exact ⟨retF (ne_of_get Gx.out Gy.out (bne_iff_ne.1 ‹(x != y) = true›)), belowD hb _⟩
        · exact ⟨⟨i + 1, by omega, by go_num, take_snoc_eq he.out Gx.out Gy.out (bne_eq_false_iff_eq.1 ‹(x != y) = false›), belowD hb _⟩, by simp [intOf]; omega⟩
      · go_wp2
        go_ret
        exact ⟨retT (eq_of_take he.out (by omega) (by have := HL.out; omega)), hb⟩
  · have hL : ((xs.length : Int) != (ys.length : Int)) = true := by simp; omega
    have hE := Lib.hid (ne_of_len hl)
    clear hl
    go_enter Try.func24, Try.ntmps24
    go_wp2
    go_ret
    exact ⟨retF hE.out, Below.refl _ _⟩

theorem info_int : (Try.prog.info? 3).map (fun i => (i.zero, i.size, i.bytes)) = some (some (.int .i64 0), 1, 8) := by kernel_rfl
theorem flat_int {xs : List Int} {i : Nat} {x : Int} (hx : xs[i]? = some x) : (flat xs)[i]? = some (I x) := by
  have h := flat_at hx (j := 0) (u := I x) rfl
  have : i * Enc.k Int + 0 = i := by show i * 1 + 0 = i; omega
  rwa [this] at h
theorem toIntS_any (A : Option Addr) (c : Nat) (xs : List Int) (w : World) (hx : Rd w w.heap.size A xs) (hn : xs.length ≤ 2000000) :
    Calls Try.prog 22 #[.slice A xs.length c] w fun e w' => ∃ g, e = .returned (.slice (some ⟨g, 0, none⟩) xs.length xs.length) ∧ Own w' w.heap.size 3 (.slice (some ⟨g, 0, none⟩) xs.length xs.length) xs ∧ Below w.heap.size w w' := by
  obtain ⟨i0, hi0, hz0, hz1, hz2⟩ := info_parts info_int
  have hmk := run_mk (P := Try.prog) 28 3 i0 _ Try.underlying28 hi0 hz0 xs.length (by rw [hz2]; omega) (by omega)
  rw [hz1] at hmk
  have HX := Lib.hid hx
  clear hi0 hz0 hz1 hz2 hx
  go_enter Try.func22, Try.ntmps22
  go_wp2
  go_loopw [4] (fun i wr => ∃ j : Nat, j ≤ xs.length ∧ i = .int .i64 j ∧ Filling wr w.heap.size 3 1 w.heap.size xs.length j (flat xs) ∧ Below w.heap.size w wr) (fun i _ => xs.length - (intOf i).toNat)
  case atStart => exact ⟨0, by omega, rfl, (by have h_ := Filling.start w w.heap.size 3 1 xs.length #[.int .i64 0] (flat xs) (Nat.le_refl _) (by unfold maxLen; omega); rwa [Nat.mul_one] at h_), by (repeat (first | exact Up.rfl' _ | (refine Up.al _ ?_) | (refine Up.dr _ ?_) | (refine Up.dr1 ?_) | (refine Up.sc ?_ (by first | exact Nat.le_refl _ | (simp; done) | omega) _) | (refine Up.step (by assumption) ?_)))⟩
  case round =>
    obtain ⟨i, hi, rfl, hF, hb⟩ := hrel
    clear hmk
    by_cases hlt : i < xs.length
    · obtain ⟨x, gx⟩ := get_of_lt hlt
      obtain ⟨b, off, rfl, hbb, c0⟩ := (HX.out.below hb).int gx
      obtain ⟨u, d0⟩ := hF.cell (j := i) (by omega)
      have f0 := hF.frozen i
      have hF' := hF.set1 hlt (flat_int gx)
      have HF := Lib.hid hF'
      clear gx hF hF'
      go_wp2
      exact ⟨⟨i + 1, by omega, by go_num, HF.out, hb.setCell (by simp) _⟩, by simp [intOf]; omega⟩
    · go_wp2
      go_ret
      obtain rfl : i = xs.length := by omega
      exact ⟨_, rfl, hF.own rfl, hb⟩
end Go.Proofs.Ytapllnlclgbbkaa
