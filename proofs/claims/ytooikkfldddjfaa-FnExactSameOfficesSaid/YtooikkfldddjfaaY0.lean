/- The plain types of the program, and the cells in which their values lie. No program in sight. -/
import Derived.Test.YtooikkfldddjfaaPlD
namespace Go.Proofs.Ytooikkfldddjfaa
set_option maxRecDepth 10000
open Go.RowKit
abbrev cInt (x : Int) : List PV := [vi x]
abbrev cStr (x : ByteArray) : List PV := [vs x]
abbrev cBool (x : Bool) : List PV := [vb x]
def totStr (x : ByteArray) : Nat := x.size
/-- A list measured: its length and its elements. -/
def totS {α : Type} (f : α → Nat) (xs : List α) : Nat := xs.length + (xs.map f).sum
def okInt (n : Int) : Prop := (Lit.int .i64 n).wf = true
def okStr (s : ByteArray) : Prop := s.size ≤ maxLen
def okBool (_ : Bool) : Prop := True
def okS {α : Type} (f : α → Prop) (xs : List α) : Prop := xs.length ≤ maxLen ∧ ∀ y ∈ xs, f y
def totT {α : Type} (f : α → Nat) (xs : List α) (i : Nat) : Nat := ((xs.take i).map f).sum
theorem totT_zero {α : Type} (f : α → Nat) (xs : List α) : totT f xs 0 = 0 := by simp [totT]
theorem totT_succ {α : Type} (f : α → Nat) {xs : List α} {i : Nat} {x : α} (h : xs[i]? = some x) : totT f xs (i + 1) = totT f xs i + f x := by unfold totT; rw [take_snoc h]; simp
theorem totT_all {α : Type} (f : α → Nat) (xs : List α) : totS f xs = xs.length + totT f xs xs.length := by simp [totT, totS]
theorem totT_le {α : Type} (f : α → Nat) (xs : List α) (i : Nat) : xs.length + totT f xs i ≤ totS f xs := by
  have h := congrArg (fun ys => (List.map f ys).sum) (List.take_append_drop i xs)
  simp only [List.map_append, List.sum_append_nat] at h
  unfold totT totS; omega
theorem szTo_spec (l : Int) (n : Nat) : (l < n ∧ szTo l n = -1) ∨ (n ≤ l ∧ szTo l n = l - n) := by unfold szTo; split <;> omega
@[ext] structure YLabel where
  service : Int
  serial : Int
  to_ : ByteArray
  deriving DecidableEq
abbrev cLabel (x : YLabel) : List PV := [vi x.service, vi x.serial, vs x.to_]
def okLabel (x : YLabel) : Prop := okInt x.service ∧ okInt x.serial ∧ okStr x.to_
def totLabel (x : YLabel) : Nat := x.to_.size
@[ext] structure YParcel where
  label : YLabel
  from_ : ByteArray
  weight : Int
  sides : List Int
  value : Int
  deriving DecidableEq
abbrev cParcel (x : YParcel) : List PV := [vi x.label.service, vi x.label.serial, vs x.label.to_, vs x.from_, vi x.weight, .sl (x.sides.map cInt), vi x.value]
def okParcel (x : YParcel) : Prop := okLabel x.label ∧ okStr x.from_ ∧ okInt x.weight ∧ okS okInt x.sides ∧ okInt x.value
def totParcel (x : YParcel) : Nat := totLabel x.label + x.from_.size + x.sides.length
@[ext] structure YZone where
  first : ByteArray
  last : ByteArray
  deriving DecidableEq
abbrev cZone (x : YZone) : List PV := [vs x.first, vs x.last]
def okZone (x : YZone) : Prop := okStr x.first ∧ okStr x.last
def totZone (x : YZone) : Nat := x.first.size + x.last.size
@[ext] structure YRate where
  zone : Int
  service : Int
  limit : Int
  price : Int
  deriving DecidableEq
abbrev cRate (x : YRate) : List PV := [vi x.zone, vi x.service, vi x.limit, vi x.price]
def okRate (x : YRate) : Prop := okInt x.zone ∧ okInt x.service ∧ okInt x.limit ∧ okInt x.price
@[ext] structure YLeg where
  from_ : ByteArray
  to_ : ByteArray
  start : Int
  takes : Int
  days : Int
  room : Int
  deriving DecidableEq
abbrev cLeg (x : YLeg) : List PV := [vs x.from_, vs x.to_, vi x.start, vi x.takes, vi x.days, vi x.room]
def okLeg (x : YLeg) : Prop := okStr x.from_ ∧ okStr x.to_ ∧ okInt x.start ∧ okInt x.takes ∧ okInt x.days ∧ okInt x.room
def totLeg (x : YLeg) : Nat := x.from_.size + x.to_.size
@[ext] structure YNetwork where
  legs : List YLeg
  off : List Int
  change : Int
  deriving DecidableEq
abbrev cNetwork (x : YNetwork) : List PV := [.sl (x.legs.map cLeg), .sl (x.off.map cInt), vi x.change]
def okNetwork (x : YNetwork) : Prop := okS okLeg x.legs ∧ okS okInt x.off ∧ okInt x.change
def totNetwork (x : YNetwork) : Nat := totS totLeg x.legs + x.off.length
@[ext] structure YTrip where
  leg : Int
  day : Int
  deriving DecidableEq
abbrev cTrip (x : YTrip) : List PV := [vi x.leg, vi x.day]
def okTrip (x : YTrip) : Prop := okInt x.leg ∧ okInt x.day
@[ext] structure YBooking where
  thing : Int
  trip : YTrip
  weight : Int
  deriving DecidableEq
abbrev cBooking (x : YBooking) : List PV := [vi x.thing, vi x.trip.leg, vi x.trip.day, vi x.weight]
def okBooking (x : YBooking) : Prop := okInt x.thing ∧ okTrip x.trip ∧ okInt x.weight
@[ext] structure YScan where
  thing : Int
  at_ : Int
  kind : Int
  place : ByteArray
  trip : YTrip
  deriving DecidableEq
abbrev cScan (x : YScan) : List PV := [vi x.thing, vi x.at_, vi x.kind, vs x.place, vi x.trip.leg, vi x.trip.day]
def okScan (x : YScan) : Prop := okInt x.thing ∧ okInt x.at_ ∧ okInt x.kind ∧ okStr x.place ∧ okTrip x.trip
def totScan (x : YScan) : Nat := x.place.size
@[ext] structure YOrder where
  from_ : ByteArray
  to_ : ByteArray
  service : Int
  weight : Int
  at_ : Int
  due : Int
  way : List YTrip
  gone : Int
  state : Int
  place : ByteArray
  ended : Int
  deriving DecidableEq
abbrev cOrder (x : YOrder) : List PV := [vs x.from_, vs x.to_, vi x.service, vi x.weight, vi x.at_, vi x.due, .sl (x.way.map cTrip), vi x.gone, vi x.state, vs x.place, vi x.ended]
def okOrder (x : YOrder) : Prop := okStr x.from_ ∧ okStr x.to_ ∧ okInt x.service ∧ okInt x.weight ∧ okInt x.at_ ∧ okInt x.due ∧ okS okTrip x.way ∧ okInt x.gone ∧ okInt x.state ∧ okStr x.place ∧ okInt x.ended
def totOrder (x : YOrder) : Nat := x.from_.size + x.to_.size + x.way.length + x.place.size
@[ext] structure YWorld where
  network : YNetwork
  orders : List YOrder
  bookings : List YBooking
  closed : List YTrip
  now : Int
  scans : List YScan
  skip : List Int
  made : Int
  deriving DecidableEq
abbrev cWorld (x : YWorld) : List PV := [.sl (x.network.legs.map cLeg), .sl (x.network.off.map cInt), vi x.network.change, .sl (x.orders.map cOrder), .sl (x.bookings.map cBooking), .sl (x.closed.map cTrip), vi x.now, .sl (x.scans.map cScan), .sl (x.skip.map cInt), vi x.made]
def okWorld (x : YWorld) : Prop := okNetwork x.network ∧ okS okOrder x.orders ∧ okS okBooking x.bookings ∧ okS okTrip x.closed ∧ okInt x.now ∧ okS okScan x.scans ∧ okS okInt x.skip ∧ okInt x.made
def totWorld (x : YWorld) : Nat := totNetwork x.network + totS totOrder x.orders + x.bookings.length + x.closed.length + totS totScan x.scans + x.skip.length
@[ext] structure YLine where
  order : Int
  kind : Int
  amount : Int
  at_ : Int
  deriving DecidableEq
abbrev cLine (x : YLine) : List PV := [vi x.order, vi x.kind, vi x.amount, vi x.at_]
def okLine (x : YLine) : Prop := okInt x.order ∧ okInt x.kind ∧ okInt x.amount ∧ okInt x.at_
@[ext] structure YAct where
  kind : Int
  parcel : YParcel
  order : Int
  amount : Int
  until_ : Int
  trip : YTrip
  deriving DecidableEq
abbrev cAct (x : YAct) : List PV := [vi x.kind, vi x.parcel.label.service, vi x.parcel.label.serial, vs x.parcel.label.to_, vs x.parcel.from_, vi x.parcel.weight, .sl (x.parcel.sides.map cInt), vi x.parcel.value, vi x.order, vi x.amount, vi x.until_, vi x.trip.leg, vi x.trip.day]
def okAct (x : YAct) : Prop := okInt x.kind ∧ okParcel x.parcel ∧ okInt x.order ∧ okInt x.amount ∧ okInt x.until_ ∧ okTrip x.trip
def totAct (x : YAct) : Nat := totParcel x.parcel
@[ext] structure YOffice where
  world : YWorld
  zones : List YZone
  rates : List YRate
  percents : List Int
  parcels : List YParcel
  lines : List YLine
  journal : List YAct
  deriving DecidableEq
abbrev cOffice (x : YOffice) : List PV := [.sl (x.world.network.legs.map cLeg), .sl (x.world.network.off.map cInt), vi x.world.network.change, .sl (x.world.orders.map cOrder), .sl (x.world.bookings.map cBooking), .sl (x.world.closed.map cTrip), vi x.world.now, .sl (x.world.scans.map cScan), .sl (x.world.skip.map cInt), vi x.world.made, .sl (x.zones.map cZone), .sl (x.rates.map cRate), .sl (x.percents.map cInt), .sl (x.parcels.map cParcel), .sl (x.lines.map cLine), .sl (x.journal.map cAct)]
def okOffice (x : YOffice) : Prop := okWorld x.world ∧ okS okZone x.zones ∧ okS okRate x.rates ∧ okS okInt x.percents ∧ okS okParcel x.parcels ∧ okS okLine x.lines ∧ okS okAct x.journal
def totOffice (x : YOffice) : Nat := totWorld x.world + totS totZone x.zones + x.rates.length + x.percents.length + totS totParcel x.parcels + x.lines.length + totS totAct x.journal
@[ext] structure YItem where
  id : Int
  dest : Int
  deriving DecidableEq
abbrev cItem (x : YItem) : List PV := [vi x.id, vi x.dest]
def okItem (x : YItem) : Prop := okInt x.id ∧ okInt x.dest
@[ext] structure YChute where
  cell : Int
  room : Int
  held : List YItem
  deriving DecidableEq
abbrev cChute (x : YChute) : List PV := [vi x.cell, vi x.room, .sl (x.held.map cItem)]
def okChute (x : YChute) : Prop := okInt x.cell ∧ okInt x.room ∧ okS okItem x.held
def totChute (x : YChute) : Nat := x.held.length
@[ext] structure YInlet where
  cell : Int
  wait : List YItem
  deriving DecidableEq
abbrev cInlet (x : YInlet) : List PV := [vi x.cell, .sl (x.wait.map cItem)]
def okInlet (x : YInlet) : Prop := okInt x.cell ∧ okS okItem x.wait
def totInlet (x : YInlet) : Nat := x.wait.length
@[ext] structure YCentre where
  belt : List YItem
  chutes : List YChute
  inlets : List YInlet
  plan : List Int
  now : Int
  deriving DecidableEq
abbrev cCentre (x : YCentre) : List PV := [.sl (x.belt.map cItem), .sl (x.chutes.map cChute), .sl (x.inlets.map cInlet), .sl (x.plan.map cInt), vi x.now]
def okCentre (x : YCentre) : Prop := okS okItem x.belt ∧ okS okChute x.chutes ∧ okS okInlet x.inlets ∧ okS okInt x.plan ∧ okInt x.now
def totCentre (x : YCentre) : Nat := x.belt.length + totS totChute x.chutes + totS totInlet x.inlets + x.plan.length
@[ext] structure YThing where
  id : Int
  own : Int
  room : Int
  in_ : Int
  box : Bool
  sealed : Bool
  deriving DecidableEq
abbrev cThing (x : YThing) : List PV := [vi x.id, vi x.own, vi x.room, vi x.in_, vb x.box, vb x.sealed]
def okThing (x : YThing) : Prop := okInt x.id ∧ okInt x.own ∧ okInt x.room ∧ okInt x.in_ ∧ okBool x.box ∧ okBool x.sealed
@[ext] structure YBelief where
  places : List ByteArray
  rides : List YTrip
  deriving DecidableEq
abbrev cBelief (x : YBelief) : List PV := [.sl (x.places.map cStr), .sl (x.rides.map cTrip)]
def okBelief (x : YBelief) : Prop := okS okStr x.places ∧ okS okTrip x.rides
def totBelief (x : YBelief) : Nat := totS totStr x.places + x.rides.length
end Go.Proofs.Ytooikkfldddjfaa
