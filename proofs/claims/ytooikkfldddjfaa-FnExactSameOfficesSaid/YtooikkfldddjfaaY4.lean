/- What a law's arguments read as. (Printed by wip/gen.py.) -/
import Derived.Test.YtooikkfldddjfaaY0
import Derived.Test.YtooikkfldddjfaaPlE
import Derived.Test.YtooikkfldddjfaaChecked
import Derived.Lib.SmallJoins
namespace Go.Proofs.Ytooikkfldddjfaa
set_option maxRecDepth 10000
open Go.ChangeShapes Go.WideShapes Go.ChangeAt Go.RowKit Go.Deep
theorem cells_Int : Try.prog.cellsOf 3 = 1 := by kernel_rfl
theorem dec_Int : DecP Try.prog 3 cInt okInt := decP_int Try.underlying3
theorem cells_Str : Try.prog.cellsOf 9 = 1 := by kernel_rfl
theorem dec_Str : DecP Try.prog 9 cStr okStr := decP_str Try.underlying9
theorem cells_Label : Try.prog.cellsOf 46 = 3 := by kernel_rfl
theorem dec_Label : DecP Try.prog 46 cLabel okLabel := by
  intro H enc w base spare held fuel cs x h
  have hl := (len_of Try.underlying46 h).trans cells_Label
  obtain ⟨y0, n0, h0⟩ := field_of Try.underlying46 h 0 _ rfl
  obtain ⟨a0, r0, w0⟩ := dec_Int h0
  obtain ⟨y1, n1, h1⟩ := field_of Try.underlying46 h 1 _ rfl
  obtain ⟨a1, r1, w1⟩ := dec_Int h1
  obtain ⟨y2, n2, h2⟩ := field_of Try.underlying46 h 2 _ rfl
  obtain ⟨a2, r2, w2⟩ := dec_Str h2
  have hr := (reads_app (o := 0) cells_Int r0 (reads_app (o := 1) cells_Int r1 (reads_app (o := 2) cells_Str r2 (reads_nil (by omega)) (by omega)) (by omega)) (by omega))
  exact ⟨⟨a0, a1, a2⟩, hr, w0, w1, w2⟩
theorem cells_IntS : Try.prog.cellsOf 23 = 1 := by kernel_rfl
theorem dec_IntS : DecP Try.prog 23 (fun xs : List Int => [.sl (xs.map cInt)]) (okS okInt) := decP_slice Try.underlying23 (by rw [cells_Int]; decide) dec_Int
theorem cells_Parcel : Try.prog.cellsOf 48 = 7 := by kernel_rfl
theorem dec_Parcel : DecP Try.prog 48 cParcel okParcel := by
  intro H enc w base spare held fuel cs x h
  have hl := (len_of Try.underlying48 h).trans cells_Parcel
  obtain ⟨y0, n0, h0⟩ := field_of Try.underlying48 h 0 _ rfl
  obtain ⟨a0, r0, w0⟩ := dec_Label h0
  obtain ⟨y1, n1, h1⟩ := field_of Try.underlying48 h 1 _ rfl
  obtain ⟨a1, r1, w1⟩ := dec_Str h1
  obtain ⟨y2, n2, h2⟩ := field_of Try.underlying48 h 2 _ rfl
  obtain ⟨a2, r2, w2⟩ := dec_Int h2
  obtain ⟨y3, n3, h3⟩ := field_of Try.underlying48 h 3 _ rfl
  obtain ⟨a3, r3, w3⟩ := dec_IntS h3
  obtain ⟨y4, n4, h4⟩ := field_of Try.underlying48 h 4 _ rfl
  obtain ⟨a4, r4, w4⟩ := dec_Int h4
  have hr := (reads_app (o := 0) cells_Label r0 (reads_app (o := 3) cells_Str r1 (reads_app (o := 4) cells_Int r2 (reads_app (o := 5) cells_IntS r3 (reads_app (o := 6) cells_Int r4 (reads_nil (by omega)) (by omega)) (by omega)) (by omega)) (by omega)) (by omega))
  exact ⟨⟨a0, a1, a2, a3, a4⟩, hr, w0, w1, w2, w3, w4⟩
theorem cells_Zone : Try.prog.cellsOf 161 = 2 := by kernel_rfl
theorem dec_Zone : DecP Try.prog 161 cZone okZone := by
  intro H enc w base spare held fuel cs x h
  have hl := (len_of Try.underlying161 h).trans cells_Zone
  obtain ⟨y0, n0, h0⟩ := field_of Try.underlying161 h 0 _ rfl
  obtain ⟨a0, r0, w0⟩ := dec_Str h0
  obtain ⟨y1, n1, h1⟩ := field_of Try.underlying161 h 1 _ rfl
  obtain ⟨a1, r1, w1⟩ := dec_Str h1
  have hr := (reads_app (o := 0) cells_Str r0 (reads_app (o := 1) cells_Str r1 (reads_nil (by omega)) (by omega)) (by omega))
  exact ⟨⟨a0, a1⟩, hr, w0, w1⟩
theorem cells_Rate : Try.prog.cellsOf 164 = 4 := by kernel_rfl
theorem dec_Rate : DecP Try.prog 164 cRate okRate := by
  intro H enc w base spare held fuel cs x h
  have hl := (len_of Try.underlying164 h).trans cells_Rate
  obtain ⟨y0, n0, h0⟩ := field_of Try.underlying164 h 0 _ rfl
  obtain ⟨a0, r0, w0⟩ := dec_Int h0
  obtain ⟨y1, n1, h1⟩ := field_of Try.underlying164 h 1 _ rfl
  obtain ⟨a1, r1, w1⟩ := dec_Int h1
  obtain ⟨y2, n2, h2⟩ := field_of Try.underlying164 h 2 _ rfl
  obtain ⟨a2, r2, w2⟩ := dec_Int h2
  obtain ⟨y3, n3, h3⟩ := field_of Try.underlying164 h 3 _ rfl
  obtain ⟨a3, r3, w3⟩ := dec_Int h3
  have hr := (reads_app (o := 0) cells_Int r0 (reads_app (o := 1) cells_Int r1 (reads_app (o := 2) cells_Int r2 (reads_app (o := 3) cells_Int r3 (reads_nil (by omega)) (by omega)) (by omega)) (by omega)) (by omega))
  exact ⟨⟨a0, a1, a2, a3⟩, hr, w0, w1, w2, w3⟩
theorem cells_Leg : Try.prog.cellsOf 171 = 6 := by kernel_rfl
theorem dec_Leg : DecP Try.prog 171 cLeg okLeg := by
  intro H enc w base spare held fuel cs x h
  have hl := (len_of Try.underlying171 h).trans cells_Leg
  obtain ⟨y0, n0, h0⟩ := field_of Try.underlying171 h 0 _ rfl
  obtain ⟨a0, r0, w0⟩ := dec_Str h0
  obtain ⟨y1, n1, h1⟩ := field_of Try.underlying171 h 1 _ rfl
  obtain ⟨a1, r1, w1⟩ := dec_Str h1
  obtain ⟨y2, n2, h2⟩ := field_of Try.underlying171 h 2 _ rfl
  obtain ⟨a2, r2, w2⟩ := dec_Int h2
  obtain ⟨y3, n3, h3⟩ := field_of Try.underlying171 h 3 _ rfl
  obtain ⟨a3, r3, w3⟩ := dec_Int h3
  obtain ⟨y4, n4, h4⟩ := field_of Try.underlying171 h 4 _ rfl
  obtain ⟨a4, r4, w4⟩ := dec_Int h4
  obtain ⟨y5, n5, h5⟩ := field_of Try.underlying171 h 5 _ rfl
  obtain ⟨a5, r5, w5⟩ := dec_Int h5
  have hr := (reads_app (o := 0) cells_Str r0 (reads_app (o := 1) cells_Str r1 (reads_app (o := 2) cells_Int r2 (reads_app (o := 3) cells_Int r3 (reads_app (o := 4) cells_Int r4 (reads_app (o := 5) cells_Int r5 (reads_nil (by omega)) (by omega)) (by omega)) (by omega)) (by omega)) (by omega)) (by omega))
  exact ⟨⟨a0, a1, a2, a3, a4, a5⟩, hr, w0, w1, w2, w3, w4, w5⟩
theorem cells_LegS : Try.prog.cellsOf 22 = 1 := by kernel_rfl
theorem dec_LegS : DecP Try.prog 22 (fun xs : List YLeg => [.sl (xs.map cLeg)]) (okS okLeg) := decP_slice Try.underlying22 (by rw [cells_Leg]; decide) dec_Leg
theorem cells_Network : Try.prog.cellsOf 25 = 3 := by kernel_rfl
theorem dec_Network : DecP Try.prog 25 cNetwork okNetwork := by
  intro H enc w base spare held fuel cs x h
  have hl := (len_of Try.underlying25 h).trans cells_Network
  obtain ⟨y0, n0, h0⟩ := field_of Try.underlying25 h 0 _ rfl
  obtain ⟨a0, r0, w0⟩ := dec_LegS h0
  obtain ⟨y1, n1, h1⟩ := field_of Try.underlying25 h 1 _ rfl
  obtain ⟨a1, r1, w1⟩ := dec_IntS h1
  obtain ⟨y2, n2, h2⟩ := field_of Try.underlying25 h 2 _ rfl
  obtain ⟨a2, r2, w2⟩ := dec_Int h2
  have hr := (reads_app (o := 0) cells_LegS r0 (reads_app (o := 1) cells_IntS r1 (reads_app (o := 2) cells_Int r2 (reads_nil (by omega)) (by omega)) (by omega)) (by omega))
  exact ⟨⟨a0, a1, a2⟩, hr, w0, w1, w2⟩
theorem cells_Trip : Try.prog.cellsOf 50 = 2 := by kernel_rfl
theorem dec_Trip : DecP Try.prog 50 cTrip okTrip := by
  intro H enc w base spare held fuel cs x h
  have hl := (len_of Try.underlying50 h).trans cells_Trip
  obtain ⟨y0, n0, h0⟩ := field_of Try.underlying50 h 0 _ rfl
  obtain ⟨a0, r0, w0⟩ := dec_Int h0
  obtain ⟨y1, n1, h1⟩ := field_of Try.underlying50 h 1 _ rfl
  obtain ⟨a1, r1, w1⟩ := dec_Int h1
  have hr := (reads_app (o := 0) cells_Int r0 (reads_app (o := 1) cells_Int r1 (reads_nil (by omega)) (by omega)) (by omega))
  exact ⟨⟨a0, a1⟩, hr, w0, w1⟩
theorem cells_Booking : Try.prog.cellsOf 149 = 4 := by kernel_rfl
theorem dec_Booking : DecP Try.prog 149 cBooking okBooking := by
  intro H enc w base spare held fuel cs x h
  have hl := (len_of Try.underlying149 h).trans cells_Booking
  obtain ⟨y0, n0, h0⟩ := field_of Try.underlying149 h 0 _ rfl
  obtain ⟨a0, r0, w0⟩ := dec_Int h0
  obtain ⟨y1, n1, h1⟩ := field_of Try.underlying149 h 1 _ rfl
  obtain ⟨a1, r1, w1⟩ := dec_Trip h1
  obtain ⟨y2, n2, h2⟩ := field_of Try.underlying149 h 2 _ rfl
  obtain ⟨a2, r2, w2⟩ := dec_Int h2
  have hr := (reads_app (o := 0) cells_Int r0 (reads_app (o := 1) cells_Trip r1 (reads_app (o := 3) cells_Int r2 (reads_nil (by omega)) (by omega)) (by omega)) (by omega))
  exact ⟨⟨a0, a1, a2⟩, hr, w0, w1, w2⟩
theorem cells_Scan : Try.prog.cellsOf 144 = 6 := by kernel_rfl
theorem dec_Scan : DecP Try.prog 144 cScan okScan := by
  intro H enc w base spare held fuel cs x h
  have hl := (len_of Try.underlying144 h).trans cells_Scan
  obtain ⟨y0, n0, h0⟩ := field_of Try.underlying144 h 0 _ rfl
  obtain ⟨a0, r0, w0⟩ := dec_Int h0
  obtain ⟨y1, n1, h1⟩ := field_of Try.underlying144 h 1 _ rfl
  obtain ⟨a1, r1, w1⟩ := dec_Int h1
  obtain ⟨y2, n2, h2⟩ := field_of Try.underlying144 h 2 _ rfl
  obtain ⟨a2, r2, w2⟩ := dec_Int h2
  obtain ⟨y3, n3, h3⟩ := field_of Try.underlying144 h 3 _ rfl
  obtain ⟨a3, r3, w3⟩ := dec_Str h3
  obtain ⟨y4, n4, h4⟩ := field_of Try.underlying144 h 4 _ rfl
  obtain ⟨a4, r4, w4⟩ := dec_Trip h4
  have hr := (reads_app (o := 0) cells_Int r0 (reads_app (o := 1) cells_Int r1 (reads_app (o := 2) cells_Int r2 (reads_app (o := 3) cells_Str r3 (reads_app (o := 4) cells_Trip r4 (reads_nil (by omega)) (by omega)) (by omega)) (by omega)) (by omega)) (by omega))
  exact ⟨⟨a0, a1, a2, a3, a4⟩, hr, w0, w1, w2, w3, w4⟩
theorem cells_TripS : Try.prog.cellsOf 28 = 1 := by kernel_rfl
theorem dec_TripS : DecP Try.prog 28 (fun xs : List YTrip => [.sl (xs.map cTrip)]) (okS okTrip) := decP_slice Try.underlying28 (by rw [cells_Trip]; decide) dec_Trip
theorem cells_Order : Try.prog.cellsOf 141 = 11 := by kernel_rfl
theorem dec_Order : DecP Try.prog 141 cOrder okOrder := by
  intro H enc w base spare held fuel cs x h
  have hl := (len_of Try.underlying141 h).trans cells_Order
  obtain ⟨y0, n0, h0⟩ := field_of Try.underlying141 h 0 _ rfl
  obtain ⟨a0, r0, w0⟩ := dec_Str h0
  obtain ⟨y1, n1, h1⟩ := field_of Try.underlying141 h 1 _ rfl
  obtain ⟨a1, r1, w1⟩ := dec_Str h1
  obtain ⟨y2, n2, h2⟩ := field_of Try.underlying141 h 2 _ rfl
  obtain ⟨a2, r2, w2⟩ := dec_Int h2
  obtain ⟨y3, n3, h3⟩ := field_of Try.underlying141 h 3 _ rfl
  obtain ⟨a3, r3, w3⟩ := dec_Int h3
  obtain ⟨y4, n4, h4⟩ := field_of Try.underlying141 h 4 _ rfl
  obtain ⟨a4, r4, w4⟩ := dec_Int h4
  obtain ⟨y5, n5, h5⟩ := field_of Try.underlying141 h 5 _ rfl
  obtain ⟨a5, r5, w5⟩ := dec_Int h5
  obtain ⟨y6, n6, h6⟩ := field_of Try.underlying141 h 6 _ rfl
  obtain ⟨a6, r6, w6⟩ := dec_TripS h6
  obtain ⟨y7, n7, h7⟩ := field_of Try.underlying141 h 7 _ rfl
  obtain ⟨a7, r7, w7⟩ := dec_Int h7
  obtain ⟨y8, n8, h8⟩ := field_of Try.underlying141 h 8 _ rfl
  obtain ⟨a8, r8, w8⟩ := dec_Int h8
  obtain ⟨y9, n9, h9⟩ := field_of Try.underlying141 h 9 _ rfl
  obtain ⟨a9, r9, w9⟩ := dec_Str h9
  obtain ⟨y10, n10, h10⟩ := field_of Try.underlying141 h 10 _ rfl
  obtain ⟨a10, r10, w10⟩ := dec_Int h10
  have hr := (reads_app (o := 0) cells_Str r0 (reads_app (o := 1) cells_Str r1 (reads_app (o := 2) cells_Int r2 (reads_app (o := 3) cells_Int r3 (reads_app (o := 4) cells_Int r4 (reads_app (o := 5) cells_Int r5 (reads_app (o := 6) cells_TripS r6 (reads_app (o := 7) cells_Int r7 (reads_app (o := 8) cells_Int r8 (reads_app (o := 9) cells_Str r9 (reads_app (o := 10) cells_Int r10 (reads_nil (by omega)) (by omega)) (by omega)) (by omega)) (by omega)) (by omega)) (by omega)) (by omega)) (by omega)) (by omega)) (by omega)) (by omega))
  exact ⟨⟨a0, a1, a2, a3, a4, a5, a6, a7, a8, a9, a10⟩, hr, w0, w1, w2, w3, w4, w5, w6, w7, w8, w9, w10⟩
theorem cells_OrderS : Try.prog.cellsOf 26 = 1 := by kernel_rfl
theorem dec_OrderS : DecP Try.prog 26 (fun xs : List YOrder => [.sl (xs.map cOrder)]) (okS okOrder) := decP_slice Try.underlying26 (by rw [cells_Order]; decide) dec_Order
theorem cells_BookingS : Try.prog.cellsOf 27 = 1 := by kernel_rfl
theorem dec_BookingS : DecP Try.prog 27 (fun xs : List YBooking => [.sl (xs.map cBooking)]) (okS okBooking) := decP_slice Try.underlying27 (by rw [cells_Booking]; decide) dec_Booking
theorem cells_ScanS : Try.prog.cellsOf 29 = 1 := by kernel_rfl
theorem dec_ScanS : DecP Try.prog 29 (fun xs : List YScan => [.sl (xs.map cScan)]) (okS okScan) := decP_slice Try.underlying29 (by rw [cells_Scan]; decide) dec_Scan
theorem cells_World : Try.prog.cellsOf 31 = 10 := by kernel_rfl
theorem dec_World : DecP Try.prog 31 cWorld okWorld := by
  intro H enc w base spare held fuel cs x h
  have hl := (len_of Try.underlying31 h).trans cells_World
  obtain ⟨y0, n0, h0⟩ := field_of Try.underlying31 h 0 _ rfl
  obtain ⟨a0, r0, w0⟩ := dec_Network h0
  obtain ⟨y1, n1, h1⟩ := field_of Try.underlying31 h 1 _ rfl
  obtain ⟨a1, r1, w1⟩ := dec_OrderS h1
  obtain ⟨y2, n2, h2⟩ := field_of Try.underlying31 h 2 _ rfl
  obtain ⟨a2, r2, w2⟩ := dec_BookingS h2
  obtain ⟨y3, n3, h3⟩ := field_of Try.underlying31 h 3 _ rfl
  obtain ⟨a3, r3, w3⟩ := dec_TripS h3
  obtain ⟨y4, n4, h4⟩ := field_of Try.underlying31 h 4 _ rfl
  obtain ⟨a4, r4, w4⟩ := dec_Int h4
  obtain ⟨y5, n5, h5⟩ := field_of Try.underlying31 h 5 _ rfl
  obtain ⟨a5, r5, w5⟩ := dec_ScanS h5
  obtain ⟨y6, n6, h6⟩ := field_of Try.underlying31 h 6 _ rfl
  obtain ⟨a6, r6, w6⟩ := dec_IntS h6
  obtain ⟨y7, n7, h7⟩ := field_of Try.underlying31 h 7 _ rfl
  obtain ⟨a7, r7, w7⟩ := dec_Int h7
  have hr := (reads_app (o := 0) cells_Network r0 (reads_app (o := 3) cells_OrderS r1 (reads_app (o := 4) cells_BookingS r2 (reads_app (o := 5) cells_TripS r3 (reads_app (o := 6) cells_Int r4 (reads_app (o := 7) cells_ScanS r5 (reads_app (o := 8) cells_IntS r6 (reads_app (o := 9) cells_Int r7 (reads_nil (by omega)) (by omega)) (by omega)) (by omega)) (by omega)) (by omega)) (by omega)) (by omega)) (by omega))
  exact ⟨⟨a0, a1, a2, a3, a4, a5, a6, a7⟩, hr, w0, w1, w2, w3, w4, w5, w6, w7⟩
theorem cells_Line : Try.prog.cellsOf 166 = 4 := by kernel_rfl
theorem dec_Line : DecP Try.prog 166 cLine okLine := by
  intro H enc w base spare held fuel cs x h
  have hl := (len_of Try.underlying166 h).trans cells_Line
  obtain ⟨y0, n0, h0⟩ := field_of Try.underlying166 h 0 _ rfl
  obtain ⟨a0, r0, w0⟩ := dec_Int h0
  obtain ⟨y1, n1, h1⟩ := field_of Try.underlying166 h 1 _ rfl
  obtain ⟨a1, r1, w1⟩ := dec_Int h1
  obtain ⟨y2, n2, h2⟩ := field_of Try.underlying166 h 2 _ rfl
  obtain ⟨a2, r2, w2⟩ := dec_Int h2
  obtain ⟨y3, n3, h3⟩ := field_of Try.underlying166 h 3 _ rfl
  obtain ⟨a3, r3, w3⟩ := dec_Int h3
  have hr := (reads_app (o := 0) cells_Int r0 (reads_app (o := 1) cells_Int r1 (reads_app (o := 2) cells_Int r2 (reads_app (o := 3) cells_Int r3 (reads_nil (by omega)) (by omega)) (by omega)) (by omega)) (by omega))
  exact ⟨⟨a0, a1, a2, a3⟩, hr, w0, w1, w2, w3⟩
theorem cells_Act : Try.prog.cellsOf 52 = 13 := by kernel_rfl
theorem dec_Act : DecP Try.prog 52 cAct okAct := by
  intro H enc w base spare held fuel cs x h
  have hl := (len_of Try.underlying52 h).trans cells_Act
  obtain ⟨y0, n0, h0⟩ := field_of Try.underlying52 h 0 _ rfl
  obtain ⟨a0, r0, w0⟩ := dec_Int h0
  obtain ⟨y1, n1, h1⟩ := field_of Try.underlying52 h 1 _ rfl
  obtain ⟨a1, r1, w1⟩ := dec_Parcel h1
  obtain ⟨y2, n2, h2⟩ := field_of Try.underlying52 h 2 _ rfl
  obtain ⟨a2, r2, w2⟩ := dec_Int h2
  obtain ⟨y3, n3, h3⟩ := field_of Try.underlying52 h 3 _ rfl
  obtain ⟨a3, r3, w3⟩ := dec_Int h3
  obtain ⟨y4, n4, h4⟩ := field_of Try.underlying52 h 4 _ rfl
  obtain ⟨a4, r4, w4⟩ := dec_Int h4
  obtain ⟨y5, n5, h5⟩ := field_of Try.underlying52 h 5 _ rfl
  obtain ⟨a5, r5, w5⟩ := dec_Trip h5
  have hr := (reads_app (o := 0) cells_Int r0 (reads_app (o := 1) cells_Parcel r1 (reads_app (o := 8) cells_Int r2 (reads_app (o := 9) cells_Int r3 (reads_app (o := 10) cells_Int r4 (reads_app (o := 11) cells_Trip r5 (reads_nil (by omega)) (by omega)) (by omega)) (by omega)) (by omega)) (by omega)) (by omega))
  exact ⟨⟨a0, a1, a2, a3, a4, a5⟩, hr, w0, w1, w2, w3, w4, w5⟩
theorem cells_ZoneS : Try.prog.cellsOf 64 = 1 := by kernel_rfl
theorem dec_ZoneS : DecP Try.prog 64 (fun xs : List YZone => [.sl (xs.map cZone)]) (okS okZone) := decP_slice Try.underlying64 (by rw [cells_Zone]; decide) dec_Zone
theorem cells_RateS : Try.prog.cellsOf 65 = 1 := by kernel_rfl
theorem dec_RateS : DecP Try.prog 65 (fun xs : List YRate => [.sl (xs.map cRate)]) (okS okRate) := decP_slice Try.underlying65 (by rw [cells_Rate]; decide) dec_Rate
theorem cells_ParcelS : Try.prog.cellsOf 66 = 1 := by kernel_rfl
theorem dec_ParcelS : DecP Try.prog 66 (fun xs : List YParcel => [.sl (xs.map cParcel)]) (okS okParcel) := decP_slice Try.underlying66 (by rw [cells_Parcel]; decide) dec_Parcel
theorem cells_LineS : Try.prog.cellsOf 67 = 1 := by kernel_rfl
theorem dec_LineS : DecP Try.prog 67 (fun xs : List YLine => [.sl (xs.map cLine)]) (okS okLine) := decP_slice Try.underlying67 (by rw [cells_Line]; decide) dec_Line
theorem cells_ActS : Try.prog.cellsOf 68 = 1 := by kernel_rfl
theorem dec_ActS : DecP Try.prog 68 (fun xs : List YAct => [.sl (xs.map cAct)]) (okS okAct) := decP_slice Try.underlying68 (by rw [cells_Act]; decide) dec_Act
theorem cells_Office : Try.prog.cellsOf 70 = 16 := by kernel_rfl
theorem dec_Office : DecP Try.prog 70 cOffice okOffice := by
  intro H enc w base spare held fuel cs x h
  have hl := (len_of Try.underlying70 h).trans cells_Office
  obtain ⟨y0, n0, h0⟩ := field_of Try.underlying70 h 0 _ rfl
  obtain ⟨a0, r0, w0⟩ := dec_World h0
  obtain ⟨y1, n1, h1⟩ := field_of Try.underlying70 h 1 _ rfl
  obtain ⟨a1, r1, w1⟩ := dec_ZoneS h1
  obtain ⟨y2, n2, h2⟩ := field_of Try.underlying70 h 2 _ rfl
  obtain ⟨a2, r2, w2⟩ := dec_RateS h2
  obtain ⟨y3, n3, h3⟩ := field_of Try.underlying70 h 3 _ rfl
  obtain ⟨a3, r3, w3⟩ := dec_IntS h3
  obtain ⟨y4, n4, h4⟩ := field_of Try.underlying70 h 4 _ rfl
  obtain ⟨a4, r4, w4⟩ := dec_ParcelS h4
  obtain ⟨y5, n5, h5⟩ := field_of Try.underlying70 h 5 _ rfl
  obtain ⟨a5, r5, w5⟩ := dec_LineS h5
  obtain ⟨y6, n6, h6⟩ := field_of Try.underlying70 h 6 _ rfl
  obtain ⟨a6, r6, w6⟩ := dec_ActS h6
  have hr := (reads_app (o := 0) cells_World r0 (reads_app (o := 10) cells_ZoneS r1 (reads_app (o := 11) cells_RateS r2 (reads_app (o := 12) cells_IntS r3 (reads_app (o := 13) cells_ParcelS r4 (reads_app (o := 14) cells_LineS r5 (reads_app (o := 15) cells_ActS r6 (reads_nil (by omega)) (by omega)) (by omega)) (by omega)) (by omega)) (by omega)) (by omega)) (by omega))
  exact ⟨⟨a0, a1, a2, a3, a4, a5, a6⟩, hr, w0, w1, w2, w3, w4, w5, w6⟩
theorem cells_Bool : Try.prog.cellsOf 4 = 1 := by kernel_rfl
theorem dec_Bool : DecP Try.prog 4 cBool okBool := decP_bool Try.underlying4
end Go.Proofs.Ytooikkfldddjfaa
