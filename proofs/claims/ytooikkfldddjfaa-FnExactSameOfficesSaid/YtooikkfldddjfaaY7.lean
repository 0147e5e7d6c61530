/- What is measured small may be copied. (Printed by wip/gen7.py.) -/
import Derived.Test.YtooikkfldddjfaaY2
import Derived.Test.YtooikkfldddjfaaY3
namespace Go.Proofs.Ytooikkfldddjfaa
set_option maxRecDepth 10000
open Go.RowKit
theorem totS_len {α : Type} (f : α → Nat) (xs : List α) : xs.length ≤ totS f xs := by unfold totS; omega
theorem totS_mem {α : Type} (f : α → Nat) {xs : List α} {y : α} (h : y ∈ xs) : f y ≤ totS f xs := by
  have : f y ≤ (xs.map f).sum := by
    induction xs with
    | nil => cases h
    | cons x xs ih =>
      simp only [List.map_cons, List.sum_cons]
      rcases List.mem_cons.1 h with rfl | h
      · omega
      · have := ih h; omega
  unfold totS; omega
theorem fitParcel_of {x : YParcel} (h : totParcel x ≤ 1048576) : fitParcel x := by
  have hT : totParcel x = totLabel x.label + x.from_.size + x.sides.length := rfl
  unfold fitParcel
  exact by omega
theorem fitNetwork_of {x : YNetwork} (h : totNetwork x ≤ 1048576) : fitNetwork x := by
  have hT : totNetwork x = totS totLeg x.legs + x.off.length := rfl
  have hl_Legs := totS_len totLeg x.legs
  unfold fitNetwork
  exact ⟨by omega, by omega⟩
theorem fitOrder_of {x : YOrder} (h : totOrder x ≤ 1048576) : fitOrder x := by
  have hT : totOrder x = x.from_.size + x.to_.size + x.way.length + x.place.size := rfl
  unfold fitOrder
  exact by omega
theorem fitWorld_of {x : YWorld} (h : totWorld x ≤ 1048576) : fitWorld x := by
  have hT : totWorld x = totNetwork x.network + totS totOrder x.orders + x.bookings.length + x.closed.length + totS totScan x.scans + x.skip.length := rfl
  have hl_Orders := totS_len totOrder x.orders
  have hl_Scans := totS_len totScan x.scans
  unfold fitWorld
  exact ⟨fitNetwork_of (by omega), by omega, fun y hy => fitOrder_of (by have := totS_mem totOrder hy; omega), by omega, by omega, by omega, by omega⟩
theorem fitAct_of {x : YAct} (h : totAct x ≤ 1048576) : fitAct x := by
  have hT : totAct x = totParcel x.parcel := rfl
  unfold fitAct
  exact fitParcel_of (by omega)
theorem fitOffice_of {x : YOffice} (h : totOffice x ≤ 1048576) : fitOffice x := by
  have hT : totOffice x = totWorld x.world + totS totZone x.zones + x.rates.length + x.percents.length + totS totParcel x.parcels + x.lines.length + totS totAct x.journal := rfl
  have hl_Zones := totS_len totZone x.zones
  have hl_Parcels := totS_len totParcel x.parcels
  have hl_Journal := totS_len totAct x.journal
  unfold fitOffice
  exact ⟨fitWorld_of (by omega), by omega, by omega, by omega, by omega, fun y hy => fitParcel_of (by have := totS_mem totParcel hy; omega), by omega, by omega, fun y hy => fitAct_of (by have := totS_mem totAct hy; omega)⟩
end Go.Proofs.Ytooikkfldddjfaa
