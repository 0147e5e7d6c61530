import Derived.Test.YtapllnlclgbbkaaF7
namespace Go.Proofs.Ytapllnlclgbbkaa
set_option maxRecDepth 10000
open Go.RowKit
structure By where
  v : Int
instance : Enc By where
  cells x := [.int .u8 x.v]
  k := 1
  len _ := rfl
  pos := by decide
  one := by simp [Value.oneCell']
def ByOk (x : By) : Prop := 0 ≤ x.v ∧ x.v ≤ 255
theorem Rd.by_ {w : World} {B : Nat} {A : Option Addr} {xs : List By} {i : Nat} {x : By} (h : Rd w B A xs) (hx : xs[i]? = some x) :
    ∃ b off, A = some ⟨b, off, none⟩ ∧ b < B ∧ w.cell? ⟨b, off + i, none⟩ = some (.int .u8 x.v) := by
  obtain ⟨b, off, e, hb, hc⟩ := h.at_ hx
  have h0 := hc 0 _ rfl
  have : off + i * Enc.k By + 0 = off + i := by show off + i * 1 + 0 = off + i; omega
  rw [this] at h0
  exact ⟨b, off, e, hb, h0⟩

/-- The cursor of a draw at block g. -/
structure CurAt (w : World) (g : Nat) (xs : List By) (A : Option Addr) (c : Nat) (i : Nat) (h : Int) : Prop where
  heap : w.heap[g]? = some (.cells #[.slice A xs.length c, .int .i64 i, .int .i64 h] 77 (0, 0))
  i1 : i ≤ xs.length
  rd : Rd w g A xs
  ok : ∀ x ∈ xs, ByOk x
  len : xs.length ≤ 4096
def Cur (w : World) (g : Nat) (xs : List By) : Prop := ∃ A c i h, CurAt w g xs A c i h
theorem i64_and255 (n : Int) : bits .and .i64 n 255 = n % 256 := by
  have hm : (BitVec.ofInt 64 255).toNat = 2 ^ 8 - 1 := by decide
  have key : (BitVec.ofInt 64 n &&& BitVec.ofInt 64 255).toNat = (n % ((2 ^ 64 : Nat) : Int)).toNat % 2 ^ 8 := by
    rw [BitVec.toNat_and, BitVec.toNat_ofInt, hm, Nat.and_two_pow_sub_one_eq_mod]
  show IntKind.i64.wrap ((BitVec.ofInt 64 n &&& BitVec.ofInt 64 255).toNat : Nat) = n % 256
  rw [key, IntKind.wrap_i64]
  omega
theorem and255 (n : Int) : ∃ x : Int, bits .and .i64 n 255 = x ∧ 0 ≤ x ∧ x ≤ 255 := ⟨_, rfl, by rw [i64_and255]; omega, by rw [i64_and255]; omega⟩
theorem grown_set (w : World) (g o : Nat) (v : Value) : w.grownBy (w.setCell ⟨g, o, none⟩ v) (some g) :=
  ⟨rfl, rfl, rfl, by simp, fun k _ hk => heap_setCell_other w ⟨g, o, none⟩ k v (fun e => hk (by rw [e]))⟩
theorem grown_trans {a b c : World} {r : Option Nat} (h : a.grownBy b r) (k : b.grownBy c r) : a.grownBy c r :=
  ⟨k.os.trans h.os, k.tape.trans h.tape, k.output.trans h.output, Nat.le_trans h.size k.size, fun i hi hr => (k.block i (Nat.lt_of_lt_of_le hi h.size) hr).trans (h.block i hi hr)⟩
theorem grown_up {a b : World} (r : Option Nat) (h : Up a b) : a.grownBy b r := ⟨h.os, h.tape, h.output, h.size, fun i hi _ => h.block i hi⟩
theorem Rd.grown_ {α : Type} [Enc α] {w w' : World} {g : Nat} {A : Option Addr} {xs : List α} (h : Rd w g A xs) (hg : w.grownBy w' (some g)) (hlt : g < w.heap.size) : Rd w' g A xs :=
  h.keep fun b o hb => by
    simp only [World.cell?]
    rw [hg.block b (Nat.lt_trans hb hlt) (by simp; omega)]
theorem CurAt.lt {w : World} {g : Nat} {xs : List By} {A : Option Addr} {c i : Nat} {h : Int} (k : CurAt w g xs A c i h) : g < w.heap.size := (Array.getElem?_eq_some_iff.1 k.heap).1
theorem Cur.lt {w : World} {g : Nat} {xs : List By} (h : Cur w g xs) : g < w.heap.size := by
  obtain ⟨A, c, i, x, k⟩ := h
  exact k.lt
theorem CurAt.seth {w : World} {g : Nat} {xs : List By} {A : Option Addr} {c i : Nat} {h : Int} (k : CurAt w g xs A c i h) (h' : Int) : CurAt (w.setCell ⟨g, 2, none⟩ (.int .i64 h')) g xs A c i h' :=
  ⟨heap_setCell_same w g 2 _ _ _ k.heap, k.i1, k.rd.grown_ (grown_set w g 2 _) k.lt, k.ok, k.len⟩
theorem CurAt.seti {w : World} {g : Nat} {xs : List By} {A : Option Addr} {c i : Nat} {h : Int} (k : CurAt w g xs A c i h) (i' : Nat) (hi : i' ≤ xs.length) : CurAt (w.setCell ⟨g, 1, none⟩ (.int .i64 i')) g xs A c i' h :=
  ⟨heap_setCell_same w g 1 _ _ _ k.heap, hi, k.rd.grown_ (grown_set w g 1 _) k.lt, k.ok, k.len⟩
theorem CurAt.up {w w' : World} {g : Nat} {xs : List By} {A : Option Addr} {c i : Nat} {h : Int} (k : CurAt w g xs A c i h) (hu : Up w w') : CurAt w' g xs A c i h :=
  ⟨(hu.block g k.lt).trans k.heap, k.i1, k.rd.grown_ (grown_up _ hu) k.lt, k.ok, k.len⟩
theorem Cur.up {w w' : World} {g : Nat} {xs : List By} (h : Cur w g xs) (hu : Up w w') : Cur w' g xs := by
  obtain ⟨A, c, i, x, k⟩ := h
  exact ⟨A, c, i, x, k.up hu⟩
theorem CurAt.cells {w : World} {g : Nat} {xs : List By} {A : Option Addr} {c i : Nat} {h : Int} (k : CurAt w g xs A c i h) :
    w.cell? ⟨g, 0, none⟩ = some (.slice A xs.length c) ∧ w.cell? ⟨g, 1, none⟩ = some (.int .i64 i) ∧ w.cell? ⟨g, 2, none⟩ = some (.int .i64 h) ∧ w.frozen? ⟨g, 1, none⟩ = false ∧ w.frozen? ⟨g, 2, none⟩ = false := by
  refine ⟨?_, ?_, ?_, frozen_of_row w g 1 _ _ k.heap, frozen_of_row w g 2 _ _ k.heap⟩ <;> (rw [cell_of_row w g _ _ _ (0, 0) k.heap]; rfl)
set_option maxHeartbeats 800000 in
theorem l1Byte_any (g : Nat) (xs : List By) (w : World) (hc : Cur w g xs) :
    Calls Try.prog 76 #[.pointer (some ⟨g, 0, none⟩)] w fun e w' => ∃ x : Int, (0 ≤ x ∧ x ≤ 255) ∧ e = .returned (.int .i64 x) ∧ Cur w' g xs ∧ w.grownBy w' (some g) := by
  obtain ⟨A, c, i, h, k⟩ := hc
  obtain ⟨c0, c1, c2, f1, f2⟩ := k.cells
  by_cases hi : i < xs.length
  · obtain ⟨x, hx⟩ := get_of_lt hi
    obtain ⟨b, off, rfl, hbg, hcb⟩ := k.rd.by_ hx
    have hm := k.len
    go_enter Try.func76, Try.ntmps76
    go_wp2_with (
      generalize hv : (wrap64 (wrap64 (h * 6364136223846793005) + 1442695040888963407)) = h1
      have k1 := k.seth h1
      have hz : w.grownBy (w.setCell ⟨g, 2, none⟩ (.int .i64 h1)) (some g) := grown_set _ _ _ _
      generalize hw1 : w.setCell ⟨g, 2, none⟩ (.int .i64 h1) = w1 at k1 hz
      obtain ⟨d0, d1, d2, _, _⟩ := k1.cells
      obtain ⟨b', off', e', _, d3⟩ := k1.rd.by_ hx
      obtain ⟨rfl, rfl⟩ : b = b' ∧ off = off' := by simpa using e'
      (have Ed0 := Ups.cell d0; have Ed1 := Ups.cell d1; have Ed2 := Ups.cell d2; have Ed3 := Ups.cell d3; refine wp_region_up (by kernel_rfl) (by kernel_rfl) ?_; (repeat (go_big_quiet_step (fail))); refine wpQuiet_nil ?_; intro wqa hqa; clear Ed0 Ed1 Ed2 Ed3; replace d0 := cellUp d0 hqa; replace d1 := cellUp d1 hqa; replace d2 := cellUp d2 hqa; replace d3 := cellUp d3 hqa))
    have k2 := k1.up hqa
    obtain ⟨x1, hx1, x10, x11⟩ := and255 (bits .xor .i64 (h1 / 34359738368) (h1 / 35184372088832))
    rw [hx1]
    have hacc := Up.rfl' wqa
    go_wp2_with (
      (have Ed0 := Ups.cell d0; have Ed1 := Ups.cell d1; have Ed2 := Ups.cell d2; have Ed3 := Ups.cell d3; refine wp_region_up (by kernel_rfl) (by kernel_rfl) ?_; (repeat (go_big_quiet_step (fail))); refine wpQuiet_nil ?_; intro wqb hqb; clear Ed0 Ed1 Ed2 Ed3; replace d0 := cellUp d0 hqb; replace d1 := cellUp d1 hqb; replace d2 := cellUp d2 hqb; replace d3 := cellUp d3 hqb)
      replace hacc := Up.step hqb hacc
      have fz := (k2.up hacc).cells.2.2.2.1)
    have k3 := k2.up hacc
    obtain ⟨x2, hx2, x20, x21⟩ := and255 (wrap64 (x1 + wrap64 x.v))
    rw [hx2]
    have ei : (i : Int) + 1 = ((i + 1 : Nat) : Int) := by omega
    rw [ei]
    go_ret
    exact ⟨x2, ⟨x20, x21⟩, rfl, ⟨_, _, _, _, k3.seti (i + 1) (by omega)⟩, grown_trans (grown_trans hz (grown_up _ (Up.step hacc hqa))) (grown_set _ _ _ _)⟩
  · go_enter Try.func76, Try.ntmps76
    go_wp2_with (
      generalize hv : (wrap64 (wrap64 (h * 6364136223846793005) + 1442695040888963407)) = h1
      have k1 := k.seth h1
      have hz : w.grownBy (w.setCell ⟨g, 2, none⟩ (.int .i64 h1)) (some g) := grown_set _ _ _ _
      generalize hw1 : w.setCell ⟨g, 2, none⟩ (.int .i64 h1) = w1 at k1 hz
      obtain ⟨d0, d1, d2, _, _⟩ := k1.cells
      (have Ed0 := Ups.cell d0; have Ed1 := Ups.cell d1; have Ed2 := Ups.cell d2; refine wp_region_up (by kernel_rfl) (by kernel_rfl) ?_; (repeat (go_big_quiet_step (fail))); refine wpQuiet_nil ?_; intro wqa hqa; clear Ed0 Ed1 Ed2; replace d0 := cellUp d0 hqa; replace d1 := cellUp d1 hqa; replace d2 := cellUp d2 hqa))
    have k2 := k1.up hqa
    obtain ⟨x1, hx1, x10, x11⟩ := and255 (bits .xor .i64 (h1 / 34359738368) (h1 / 35184372088832))
    rw [hx1]
    go_wp2_with (
      (have Ed0 := Ups.cell d0; have Ed1 := Ups.cell d1; have Ed2 := Ups.cell d2; refine wp_region_up (by kernel_rfl) (by kernel_rfl) ?_; (repeat (go_big_quiet_step (fail))); refine wpQuiet_nil ?_; intro wqb hqb; clear Ed0 Ed1 Ed2; replace d0 := cellUp d0 hqb; replace d1 := cellUp d1 hqb; replace d2 := cellUp d2 hqb))
    have k3 := k2.up hqb
    go_ret
    exact ⟨x1, ⟨x10, x11⟩, rfl, ⟨_, _, _, _, k3⟩, grown_trans hz (grown_up _ (Up.step hqb hqa))⟩
end Go.Proofs.Ytapllnlclgbbkaa
