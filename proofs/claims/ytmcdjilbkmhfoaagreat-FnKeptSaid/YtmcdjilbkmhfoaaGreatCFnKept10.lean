/- A part of the proof of the statement in the last file of this claim: texts on the language of the program and on its functions. No condition. -/
import Derived.Test.YtmcdjilbkmhfoaaGreatCFnKept9
import Derived.Test.YtmcdjilbkmhfoaaGreatCFnKept8
import Derived.Test.YtmcdjilbkmhfoaaGreatCFnKept5
import Derived.Test.YtmcdjilbkmhfoaaGreatCFnKept6
namespace Go.Proofs.YtmcdjilbkmhfoaaGreat
set_option maxRecDepth 10000
open Go.RowKit Go.Lib Go.Sort
set_option linter.unusedVariables false
set_option linter.unusedSimpArgs false
set_option linter.unusedSectionVars false
set_option maxRecDepth 100000
set_option maxHeartbeats 4000000
theorem cellUp' {w w' : World} {b o : Nat} {v : Value} (h : w.cell? ⟨b, o, none⟩ = some v) (hb : b < w.heap.size) (hu : Up w w') : w'.cell? ⟨b, o, none⟩ = some v := (hu.cell (p := ⟨b, o, none⟩) hb).trans h
theorem tab_new {w W : World} {O : Nat → Prop} (h : Tab w O) (hu : Up w W) {B : Nat} (hB : w.heap.size ≤ B) : Tab W (fun b => B ≤ b) := by
  obtain ⟨T, h1, h2⟩ := h
  exact ⟨T, fun b hb => ⟨Nat.lt_of_lt_of_le (h1 b hb).1 hu.size, fun h => by have := (h1 b hb).1; omega⟩, fun w'' hw'' => h2 w'' fun b hb => (hw'' b hb).trans (hu.block b (h1 b hb).1)⟩
theorem own_ne {w : World} {B Bx : Nat} {v v' : Value} {xs : List YBooking} (h : Own w B 135 v xs) (hx : w.heap[Bx]? = some (.cells #[v'] 37 (0, 0))) : v.ownBlock ≠ some Bx := by
  rcases h.2 with ⟨hv, _⟩ | ⟨g, cap, cur, hv, hB, hg, _⟩
  · rw [hv]; simp [Value.ownBlock]
  · rw [hv]
    intro e
    have : g = Bx := by simpa [Value.ownBlock] using e
    subst this
    rw [hg] at hx
    simp at hx
section
variable {n : YNetwork} (hf : NetFit n) {w : World} {O : Nat → Prop} (ht : Tab w O) {v0 v1 : Value} (h0 : RepC w (SW w) (.sl (n.legs.map cLeg)) v0) (h1 : RepC w (SW w) (.sl (n.off.map cInt)) v1)
  {l : List YBooking} (hl : l.length ≤ 1048000) {lv : Value} (hlr : RepC w (SW w) (.sl (l.map cBooking)) lv) (thing weight : Int) {way : List YTrip} (hwl : way.length ≤ 1048576) {A : Option Addr} {wn : Nat} (hwr : Rd w w.heap.size A way)
include hf ht h0 h1 hl hlr hwl hwr
theorem book_no (hno : ¬ (booksV n l = true ∧ way.length ≤ 20)) :
    Calls Tryz.prog 135 #[.agg #[v0, v1, I n.change], lv, I thing, I weight, .slice A way.length wn] w fun e w' => ∃ v, e = .returned (.tuple #[v, .bool false]) ∧ Own w' w.heap.size 135 v l ∧ Up w w' := by
  have hA := fun (W : World) (hu : Up w W) => areB_w hf ht h0 h1 hu (xs := l) (by omega) (repc_up hlr hu)
  have hC := fun (W : World) (hu : Up w W) => copyB_w ht hu (xs := l) (by omega) (repc_up hlr hu)
  have HA : Hid _ := hA
  have HC : Hid _ := hC
  clear hA hC hf ht h0 h1 hlr hwr
  by_cases hb : booksV n l = true
  · have h20 : (20 : Int) < (way.length : Int) := by
      rcases Nat.lt_or_ge 20 way.length with h | h
      · omega
      · exact absurd ⟨hb, h⟩ hno
    have Hb : Hid (booksV n l = true) := hb
    clear hno hb
    go_enter Tryz.func135, Tryz.ntmps135
    go_wp2_with (first
      | (go_at_call 139; refine (HA.out _ (by (repeat (first | exact Up.rfl' _ | (refine Up.al _ ?_) | (refine Up.dr _ ?_) | (refine Up.dr1 ?_) | (refine Up.sc ?_ (by first | exact Nat.le_refl _ | (simp; done) | omega) _) | (refine Up.step (by assumption) ?_))))).mono ?_; rintro e w1 ⟨rfl, hu1⟩; rw [Hb.out])
      | (go_at_call 169; refine (HC.out _ (by (repeat (first | exact Up.rfl' _ | (refine Up.al _ ?_) | (refine Up.dr _ ?_) | (refine Up.dr1 ?_) | (refine Up.sc ?_ (by first | exact Nat.le_refl _ | (simp; done) | omega) _) | (refine Up.step (by assumption) ?_))))).mono ?_; rintro e w2 ⟨v2, rfl, ho2, hu2⟩))
    go_ret2
    exact ⟨v2, rfl, ho2.down (by (repeat (first | exact Up.rfl' _ | (refine Up.al _ ?_) | (refine Up.dr _ ?_) | (refine Up.dr1 ?_) | (refine Up.sc ?_ (by first | exact Nat.le_refl _ | (simp; done) | omega) _) | (refine Up.step (by assumption) ?_)))), by (repeat (first | exact Up.rfl' _ | (refine Up.al _ ?_) | (refine Up.dr _ ?_) | (refine Up.dr1 ?_) | (refine Up.sc ?_ (by first | exact Nat.le_refl _ | (simp; done) | omega) _) | (refine Up.step (by assumption) ?_)))⟩
  · have hb' : booksV n l = false := by simpa using hb
    have Hb : Hid (booksV n l = false) := hb'
    clear hno hb hb'
    go_enter Tryz.func135, Tryz.ntmps135
    go_wp2_with (first
      | (go_at_call 139; refine (HA.out _ (by (repeat (first | exact Up.rfl' _ | (refine Up.al _ ?_) | (refine Up.dr _ ?_) | (refine Up.dr1 ?_) | (refine Up.sc ?_ (by first | exact Nat.le_refl _ | (simp; done) | omega) _) | (refine Up.step (by assumption) ?_))))).mono ?_; rintro e w1 ⟨rfl, hu1⟩; rw [Hb.out])
      | (go_at_call 169; refine (HC.out _ (by (repeat (first | exact Up.rfl' _ | (refine Up.al _ ?_) | (refine Up.dr _ ?_) | (refine Up.dr1 ?_) | (refine Up.sc ?_ (by first | exact Nat.le_refl _ | (simp; done) | omega) _) | (refine Up.step (by assumption) ?_))))).mono ?_; rintro e w2 ⟨v2, rfl, ho2, hu2⟩))
    go_ret2
    exact ⟨v2, rfl, ho2.down (by (repeat (first | exact Up.rfl' _ | (refine Up.al _ ?_) | (refine Up.dr _ ?_) | (refine Up.dr1 ?_) | (refine Up.sc ?_ (by first | exact Nat.le_refl _ | (simp; done) | omega) _) | (refine Up.step (by assumption) ?_)))), by (repeat (first | exact Up.rfl' _ | (refine Up.al _ ?_) | (refine Up.dr _ ?_) | (refine Up.dr1 ?_) | (refine Up.sc ?_ (by first | exact Nat.le_refl _ | (simp; done) | omega) _) | (refine Up.step (by assumption) ?_)))⟩
theorem book_yes (hb : booksV n l = true) (h20 : way.length ≤ 20) :
    Calls Tryz.prog 135 #[.agg #[v0, v1, I n.change], lv, I thing, I weight, .slice A way.length wn] w fun e w' => ∃ v ys ok, e = .returned (.tuple #[v, .bool ok]) ∧ Own w' w.heap.size 135 v ys ∧ Up w w' ∧ m_spec_BookWay n l thing weight way = some (ys, ok) := by
  have hlb := (books_net hb).2
  have hA := fun (W : World) (hu : Up w W) (xs : List YBooking) (hx : xs.length ≤ 1048576) (lv : Value) (hl : RepC W (SW W) (.sl (xs.map cBooking)) lv) => areB_w hf ht h0 h1 hu (xs := xs) hx hl
  have hC := fun (W : World) (hu : Up w W) => copyB_w ht hu (xs := l) (by omega) (repc_up hlr hu)
  have HA : Hid _ := hA
  have HC : Hid _ := hC
  have HL : Hid (∀ W, Up w W → RepC W (SW W) (.sl (l.map cBooking)) lv) := fun W hu => repc_up hlr hu
  have HW : Hid (Rd w w.heap.size A way) := hwr
  have HF : Hid (NetFit n) := hf
  have HT : Hid (Tab w O) := ht
  have Hb : Hid (booksV n l = true) := hb
  have h20z : ¬ (20 : Int) < (way.length : Int) := by omega
  clear hA hC hf ht h0 h1 hlr hwr hb
  go_enter Tryz.func135, Tryz.ntmps135
  go_wp2_with (first
    | (go_at_call 139; refine (HA.out _ (by (repeat (first | exact Up.rfl' _ | (refine Up.al _ ?_) | (refine Up.dr _ ?_) | (refine Up.dr1 ?_) | (refine Up.sc ?_ (by first | exact Nat.le_refl _ | (simp; done) | omega) _) | (refine Up.step (by assumption) ?_)))) l (by omega) lv (HL.out _ (by (repeat (first | exact Up.rfl' _ | (refine Up.al _ ?_) | (refine Up.dr _ ?_) | (refine Up.dr1 ?_) | (refine Up.sc ?_ (by first | exact Nat.le_refl _ | (simp; done) | omega) _) | (refine Up.step (by assumption) ?_)))))).mono ?_; rintro e w1 ⟨rfl, hu1⟩; rw [Hb.out])
    | (go_at_call 169; refine (HC.out _ (by (repeat (first | exact Up.rfl' _ | (refine Up.al _ ?_) | (refine Up.dr _ ?_) | (refine Up.dr1 ?_) | (refine Up.sc ?_ (by first | exact Nat.le_refl _ | (simp; done) | omega) _) | (refine Up.step (by assumption) ?_))))).mono ?_; rintro e w2 ⟨v2, rfl, ho2, hu2⟩; obtain ⟨A2, c2, rfl, hc2, _⟩ := ho2.form))
  have hub : Up (w.alloc (.cells #[v0, v1, I n.change] 35)) w2 := by (repeat (first | exact Up.rfl' _ | (refine Up.al _ ?_) | (refine Up.dr _ ?_) | (refine Up.dr1 ?_) | (refine Up.sc ?_ (by first | exact Nat.le_refl _ | (simp; done) | omega) _) | (refine Up.step (by assumption) ?_)))
  have hown : Own w2 (w.heap.size + 1) 135 (.slice A2 l.length c2) l := by
    have := ho2.down (w0 := w.alloc (.cells #[v0, v1, I n.change] 35)) (by (repeat (first | exact Up.rfl' _ | (refine Up.al _ ?_) | (refine Up.dr _ ?_) | (refine Up.dr1 ?_) | (refine Up.sc ?_ (by first | exact Nat.le_refl _ | (simp; done) | omega) _) | (refine Up.step (by assumption) ?_))))
    simpa using this
  have HUB := Lib.hid hub
  have HO := Lib.hid hown
  clear ho2 hc2 hown
  go_loopw [30] (fun vi wr => ∃ (i : Nat) (v : Value), vi = .int .i64 i ∧ i ≤ way.length ∧ Own wr (w.heap.size + 1) 135 v (l ++ newsB thing weight (way.take i)) ∧ wr.heap[w2.heap.size]? = some (.cells #[v] 37 (0, 0)) ∧ Up (w.alloc (.cells #[v0, v1, I n.change] 35)) wr) (fun vi _ => way.length - (intOf vi).toNat)
  case atStart =>
    refine ⟨0, _, by go_num, by omega, ?_, heap_alloc_new _ _, Up.al _ HUB.out⟩
    simp only [List.take_zero, newsB, List.map_nil, List.append_nil]
    exact HO.out.up (Up.al _ (Up.rfl' _))
  case round =>
    obtain ⟨i, v, rfl, hi, hv, hx, hwr⟩ := hrel
    obtain ⟨A3, c3, rfl, hc3, hm3⟩ := hv.form
    have hnl : (l ++ newsB thing weight (way.take i)).length = l.length + i := by simp [newsB]; omega
    rw [hnl] at hv hx
    have hcx : wr.cell? ⟨w2.heap.size, 0, none⟩ = some (.slice A3 (l.length + i) c3) := by rw [cell_of_row wr _ 0 _ _ (0, 0) hx]; rfl
    have hz : w2.heap.size < wr.heap.size := (Array.getElem?_eq_some_iff.1 hx).1
    have hz1 : wr.heap.size ≠ w2.heap.size := by omega
    have hz2 : w2.heap.size ≠ wr.heap.size := by omega
    have HV := Lib.hid hv
    have HX := Lib.hid hx
    have HWR := Lib.hid hwr
    have HNL := Lib.hid hnl
    clear hv hx hwr
    clear hnl hc3 hm3
    by_cases hlt : i < way.length
    · obtain ⟨b, off, rfl, hbb, hcc⟩ := (HW.out.up (Up.step (w.alloc (.cells #[v0, v1, I n.change] 35) |> fun _ => HWR.out) (Up.al _ (Up.rfl' w)))).at_ (List.getElem?_eq_getElem hlt)
      have d0 : wr.cell? ⟨b, off + i * 2, none⟩ = some (I way[i].leg) := hcc 0 _ rfl
      have d1 : wr.cell? ⟨b, off + i * 2 + 1, none⟩ = some (I way[i].day) := hcc 1 _ rfl
      clear hcc
      have hrd1 : Rd ((wr.alloc (.cells #[I way[i].leg, I way[i].day] 55)).alloc (.cells #[I thing, I way[i].leg, I way[i].day, I weight] 135)) (wr.heap.size + 2) (some ⟨wr.heap.size + 1, 0, none⟩) [(⟨thing, way[i], weight⟩ : YBooking)] := by
        have e : (wr.alloc (.cells #[I way[i].leg, I way[i].day] 55)).heap.size = wr.heap.size + 1 := by simp
        have h := Rd.one (wr.alloc (.cells #[I way[i].leg, I way[i].day] 55)) 135 (⟨thing, way[i], weight⟩ : YBooking) (wr.heap.size + 2) (by rw [e]; omega)
        rw [e] at h
        exact h
      have HR1 := Lib.hid hrd1
      clear hrd1
      have hlen := HNL.out
      have hsz : w.heap.size + 1 ≤ wr.heap.size := by have := HWR.out.size; simpa using this
      go_wp2_with (at_builtin; refine wpList_append_rd el_bk rfl (.tmp 34) (.tmp 39) rfl (base := w.heap.size + 1) (ys := l ++ newsB thing weight (way.take i)) (xs := [(⟨thing, way[i], weight⟩ : YBooking)]) (by rfl) (HV.out.up (by (repeat (first | exact Up.rfl' _ | (refine Up.al _ ?_) | (refine Up.dr _ ?_) | (refine Up.dr1 ?_) | (refine Up.sc ?_ (by first | exact Nat.le_refl _ | (simp; done) | omega) _) | (refine Up.step (by assumption) ?_))))) 1 (by rfl) rfl HR1.out (by simp only [List.length_cons, List.length_nil]; omega) (by unfold maxLen; simp only [List.length_cons, List.length_nil]; omega) (by simp; omega) ?_; intro v' w3 ho3 hg3 _ hu3; refine Hid.out ?_)
      have hx3 : w3.heap[w2.heap.size]? = some (.cells #[.slice A3 (l.length + i) c3] 37 (0, 0)) := by
        rw [hg3.block _ (by simp; omega) (fun e => own_ne HV.out HX.out e.symm)]
        exact ((Up.al _ (Up.al _ (Up.rfl' wr))).block _ hz).trans HX.out
      obtain ⟨A4, c4, rfl, hc4, hm4⟩ := ho3.form
      have hl4 : (l ++ newsB thing weight (way.take i) ++ [(⟨thing, way[i], weight⟩ : YBooking)]).length = l.length + (i + 1) := by simp [newsB]; omega
      rw [hl4] at ho3 ⊢
      clear hl4
      have hnews : newsB thing weight (way.take (i + 1)) = newsB thing weight (way.take i) ++ [⟨thing, way[i], weight⟩] := by
        unfold newsB
        rw [List.take_succ_eq_append_getElem hlt, List.map_append]; rfl
      have hcell3 : w3.cell? ⟨w2.heap.size, 0, none⟩ = some (.slice A3 (l.length + i) c3) := by rw [cell_of_row w3 _ 0 _ _ (0, 0) hx3]; rfl
      have hfr3 : w3.frozen? ⟨w2.heap.size, 0, none⟩ = false := by simp [World.frozen?, hx3]
      have hwr3 : Up (w.alloc (.cells #[v0, v1, I n.change] 35)) w3 := hu3 _ (by simp) (Up.al _ (Up.al _ HWR.out))
      have HX3 := Lib.hid hx3
      have HO3 := Lib.hid ho3
      have HN := Lib.hid hnews
      have HW3 := Lib.hid hwr3
      clear hx3 ho3 hg3 hu3 hnews hwr3 hc4 hm4 hlen
      refine Lib.hid ?_
      go_wp2
      refine ⟨⟨i + 1, _, by go_num, by omega, ?_, heap_setCell_same w3 _ 0 _ _ _ HX3.out, Up.sc HW3.out (by have := HUB.out.size; simp at this ⊢; omega) _⟩, by simp [intOf]; omega⟩
      rw [HN.out, ← List.append_assoc]
      exact HO3.out.grown (row := some w2.heap.size) ⟨rfl, rfl, rfl, by simp, fun k hk hne => heap_setCell_other _ _ _ _ (fun e => hne (by rw [e]))⟩ (.inr (own_ne HO3.out HX3.out))
    · have hie : i = way.length := by omega
      subst hie
      have hst := sstable HV.out HX.out (by rw [HNL.out]; omega) (tab_new HT.out (Up.step HWR.out (Up.al _ (Up.rfl' w))) (by omega)) (fun b h => h)
      have hge : ¬ (way.length : Int) < (way.length : Int) := by omega
      go_wp2_with (go_at_call 200; refine hst.mono ?_; rintro e w4 ⟨rfl, ys, hp, hs, ho4, hu4⟩; refine Hid.out ?_)
      rw [List.take_length] at hp
      have hyl : ys.length = l.length + way.length := by rw [hp.length_eq]; simp [newsB]
      have hsp := book_spec HF.out hl thing weight hp hs
      have hup4 : Up (w.alloc (.cells #[v0, v1, I n.change] 35)) w4 := by
        have h := HWR.out
        exact ⟨hu4.os.trans h.os, hu4.tape.trans h.tape, hu4.output.trans h.output, Nat.le_trans h.size hu4.size, fun b hb => (hu4.block b (Nat.lt_of_lt_of_le hb h.size) (fun hh => by simp at hb; omega)).trans (h.block b hb)⟩
      have e0 : w4.cell? ⟨w.heap.size, 0, none⟩ = some v0 := cellUp' (by simp) (by simp) hup4
      have e1 : w4.cell? ⟨w.heap.size, 1, none⟩ = some v1 := cellUp' (by simp) (by simp) hup4
      have e2 : w4.cell? ⟨w.heap.size, 2, none⟩ = some (I n.change) := cellUp' (by simp) (by simp) hup4
      have ex : w4.heap[w2.heap.size]? = some (.cells #[.slice A3 (l.length + way.length) c3] 37 (0, 0)) := (hu4.block _ hz (fun hh => hh.2 rfl)).trans HX.out
      have exc : w4.cell? ⟨w2.heap.size, 0, none⟩ = some (.slice A3 (l.length + way.length) c3) := by rw [cell_of_row w4 _ 0 _ _ (0, 0) ex]; rfl
      have hrp : RepC w4 (SW w4) (.sl (ys.map cBooking)) (.slice A3 (l.length + way.length) c3) := by
        rw [← hyl] at ho4 ⊢
        obtain ⟨A5, c5, e5, h5, h6⟩ := ho4.form
        obtain ⟨rfl, rfl⟩ : A3 = A5 ∧ c3 = c5 := by simpa using e5
        exact rd_repc (c := cBooking) id (by rw [List.map_id]; exact ho4.rd) h5 h6
      have hupw : Up w w4 := Up.step hup4 (Up.al _ (Up.rfl' w))
      have hA := HA.out w4 hupw ys (by omega) _ hrp
      have HSP := Lib.hid hsp
      have HO4 := Lib.hid ho4
      have HUP := Lib.hid hup4
      have HUPW := Lib.hid hupw
      have HZ4 : Hid (w2.heap.size < w4.heap.size) := Nat.lt_of_lt_of_le hz hu4.size
      clear hst hp hs ho4 hu4 hyl hsp hup4 ex hrp hupw
      refine Lib.hid ?_
      cases hby : booksV n ys with
      | true =>
        rw [hby] at hA
        have HBY := Lib.hid hby
        clear hby
        go_wp2_with (first
          | (go_at_call 139; refine hA.mono ?_; rintro e w5 ⟨rfl, hu5⟩; have exc5 := cellUp' exc HZ4.out hu5))
        go_ret2
        exact ⟨_, ys, true, rfl, (HO4.out.more (by omega)).up hu5, Up.step hu5 (Up.step HUP.out (Up.al _ (Up.rfl' w))), by rw [HSP.out, if_pos ⟨Hb.out, h20, HBY.out⟩]⟩
      | false =>
        rw [hby] at hA
        have HBY := Lib.hid hby
        clear hby
        go_wp2_with (first
          | (go_at_call 139; refine hA.mono ?_; rintro e w5 ⟨rfl, hu5⟩)
          | (go_at_call 169; refine (HC.out _ (Up.step hu5 HUPW.out)).mono ?_; rintro e w6 ⟨v6, rfl, ho6, hu6⟩))
        go_ret2
        exact ⟨v6, l, false, rfl, ho6.down (Up.step hu5 HUPW.out), Up.step hu6 (Up.step hu5 HUPW.out), by rw [HSP.out, if_neg (fun h => by rw [HBY.out] at h; cases h.2.2)]⟩
end
end Go.Proofs.YtmcdjilbkmhfoaaGreat
namespace Go.Proofs.YtmcdjilbkmhfoaaGreat
set_option maxRecDepth 10000
open Go.RowKit Go.Lib
set_option linter.unusedVariables false
set_option linter.unusedSimpArgs false
def fitB (n : YNetwork) : Bool := decide (n.legs.length ≤ 1048576) && decide (n.off.length ≤ 1048576) && n.legs.all fun l => decide (l.from_.size ≤ B60) && decide (l.to_.size ≤ B60)
theorem fitB_iff {n : YNetwork} : fitB n = true ↔ NetFit n := by
  unfold fitB
  simp only [Bool.and_eq_true, decide_eq_true_iff, List.all_eq_true]
  exact ⟨fun h => ⟨h.1.1, h.1.2, fun l hl => h.2 l hl⟩, fun h => ⟨⟨h.legs, h.off⟩, fun l hl => h.leg l hl⟩⟩
def m_impl_BookWay (n : YNetwork) (l : List YBooking) (thing : Int) (weight : Int) (way : List YTrip) : Option ((List YBooking) × Bool) :=
  if fitB n = true ∧ l.length ≤ 1048000 ∧ way.length ≤ 1048576 then m_spec_BookWay n l thing weight way else none
theorem arr5 {vs : Array Value} {x0 x1 x2 x3 x4 : Value} (h : vs.size = 5) (h0 : vs[0]? = some x0) (h1 : vs[1]? = some x1) (h2 : vs[2]? = some x2) (h3 : vs[3]? = some x3) (h4 : vs[4]? = some x4) : vs = #[x0, x1, x2, x3, x4] := by
  apply Array.ext (by simp [h])
  intro i hi hj
  have a0 := (Array.getElem?_eq_some_iff.1 h0).2
  have a1 := (Array.getElem?_eq_some_iff.1 h1).2
  have a2 := (Array.getElem?_eq_some_iff.1 h2).2
  have a3 := (Array.getElem?_eq_some_iff.1 h3).2
  have a4 := (Array.getElem?_eq_some_iff.1 h4).2
  match i, hi with
  | 0, _ => simpa using a0
  | 1, _ => simpa using a1
  | 2, _ => simpa using a2
  | 3, _ => simpa using a3
  | 4, _ => simpa using a4
  | i + 5, hi => omega
theorem ok_impl_BookWay (n : YNetwork) (l : List YBooking) (thing : Int) (weight : Int) (way : List YTrip) {r : (List YBooking) × Bool} (H : m_impl_BookWay n l thing weight way = some r) : CallM Tryz.prog 135 [.ag (cNetwork n), .sl (l.map cBooking), vi thing, vi weight, .sl (way.map cTrip)] [] (.tu [.ms 0, vb r.2]) [some ⟨135, 4, r.1.map cBooking⟩] := by
  unfold m_impl_BookWay at H
  split at H
  case isFalse => cases H
  rename_i hok
  obtain ⟨hf, hln, hwn⟩ := hok
  have hf := fitB_iff.1 hf
  intro S β w vs hk hl ha
  obtain ⟨x0, q0, r0⟩ := ha 0 _ rfl
  obtain ⟨x1, q1, r1⟩ := ha 1 _ rfl
  obtain ⟨x2, q2, r2⟩ := ha 2 _ rfl
  obtain ⟨x3, q3, r3⟩ := ha 3 _ rfl
  obtain ⟨x4, q4, r4⟩ := ha 4 _ rfl
  obtain rfl := arr5 hl q0 q1 q2 q3 q4
  obtain rfl := rep_v1 r2
  obtain rfl := rep_v1 r3
  obtain ⟨us, rfl, hul, hu1, hur⟩ := r0.ag_inv
  have hul' : us.size = 3 := hul
  have z0 : us[0]? = some us[0] := Array.getElem?_eq_getElem (by omega)
  have z1 : us[1]? = some us[1] := Array.getElem?_eq_getElem (by omega)
  have z2 : us[2]? = some us[2] := Array.getElem?_eq_getElem (by omega)
  have hus : us = #[us[0], us[1], us[2]] := arrV3 hul' z0 z1 z2
  have w0 := (hur 0 (.sl (n.legs.map cLeg)) _ rfl z0).sl_inv
  have w1 := (hur 1 (.sl (n.off.map cInt)) _ rfl z1).sl_inv
  have w2 := rep_v1 (hur 2 (vi n.change) _ rfl z2)
  have w3 := r1.sl_inv
  have w4 := r4.sl_inv
  have up : ∀ {p : PV} {x : Value}, RepC w S p x → RepC w (SW w) p x := fun h => h.ext (fun b hb => hk.sz b hb) fun _ _ _ => rfl
  obtain ⟨A, wn, rfl, _, _, hrd⟩ := rd_flat (id : YTrip → YTrip) (c := cTrip) hk.sz w4
  rw [List.map_id] at hrd
  have hmain : Calls Tryz.prog 135 #[.agg #[us[0], us[1], I n.change], x1, I thing, I weight, .slice A way.length wn] w fun e w' => ∃ v ys ok, e = .returned (.tuple #[v, .bool ok]) ∧ Own w' w.heap.size 135 v ys ∧ Up w w' ∧ m_spec_BookWay n l thing weight way = some (ys, ok) := by
    by_cases hno : booksV n l = true ∧ way.length ≤ 20
    · exact book_yes hf hk.tab (up w0) (up w1) hln (up w3) thing weight hwn hrd hno.1 hno.2
    · refine (book_no hf hk.tab (up w0) (up w1) hln (up w3) thing weight hwn hrd hno).mono ?_
      rintro e w' ⟨v, rfl, ho, hu⟩
      refine ⟨v, l, false, rfl, ho, hu, ?_⟩
      unfold m_spec_BookWay
      rw [copyBook_s (by omega), Option.bind_some, specBooks_v hf (by omega), Option.bind_some]
      by_cases hb : booksV n l = true
      · rw [hb, decide_eq_true (show 20 < (way.length : Int) by
          rcases Nat.lt_or_ge 20 way.length with h | h
          · omega
          · exact absurd ⟨hb, h⟩ hno)]; rfl
      · have hb' : booksV n l = false := by simpa using hb
        rw [hb']; rfl
  rw [hus, w2]
  refine hmain.mono ?_
  rintro e w' ⟨v, ys, ok, rfl, ho, hu, hsp⟩
  rw [hsp] at H
  obtain rfl := Option.some.inj H
  obtain ⟨E', h1, h2, h3, h4, h5⟩ := ms_of_own (c := cBooking) hk ho hu (fun x => ⟨rfl, fun j p hj => by
    obtain ⟨u, hu1, hu2⟩ := FlatAs.at_ (c := cBooking) (g := (id : YBooking → YBooking)) x j p hj
    exact ⟨u, hu1, Enc.one _ u (List.mem_of_getElem? hu1), fun w E => by rw [hu2]; exact rep_v _ (Enc.one _ u (List.mem_of_getElem? hu1))⟩⟩)
  refine ⟨_, E', rfl, h1, h2, h3, h4, .tu _ _ rfl fun j p x hp hx => ?_⟩
  match j with
  | 0 => obtain rfl : _ = p := Option.some.inj hp
         obtain rfl : _ = x := Option.some.inj hx
         exact h5
  | 1 => obtain rfl : _ = p := Option.some.inj hp
         obtain rfl : _ = x := Option.some.inj hx
         exact rep_v _ rfl
  | j + 2 => simp at hp
instance (n : YNetwork) (l : List YBooking) (thing : Int) (weight : Int) (way : List YTrip) : CT Tryz.prog (m_impl_BookWay n l thing weight way) := ⟨135, [.ag (cNetwork n), .sl (l.map cBooking), vi thing, vi weight, .sl (way.map cTrip)], [], fun r => .tu [.ms 0, vb r.2], fun r => [some ⟨135, 4, r.1.map cBooking⟩], ok_impl_BookWay n l thing weight way⟩
end Go.Proofs.YtmcdjilbkmhfoaaGreat
namespace Go.Proofs.YtmcdjilbkmhfoaaGreat
set_option maxRecDepth 10000
open Go.RowKit
set_option linter.unusedVariables false
theorem CallM.frz {P : Program} {f : FuncId} {args : List PV} {T : TypeId} {k : Nat} {es : List (List PV)} (h : CallM P f args [] (.ms 0) [some ⟨T, k, es⟩]) (hes : ∀ cs ∈ es, ∀ p ∈ cs, isC1 p = true) : CallM P f args [] (.sl es) [] := by
  intro S β w vs hk0 hl ha
  refine (h S β w vs hk0 hl ha).mono ?_
  rintro e w' ⟨v, E', rfl, hk, hS1, hS2, _, hr⟩
  obtain ⟨B, hB, hb, rfl⟩ := hr.ms_inv hk (l := 0) rfl
  have hkk := hb.k
  have hn := hb.n
  simp only at hkk hn
  have hβ : ∀ l, β l = none := fun l => by
    cases h : β l with
    | none => rfl
    | some B0 => obtain ⟨mb, hm⟩ := hk0.dom l B0 h; simp at hm
  let S' : Nat → Prop := fun b => E'.S b ∨ (B.z = false ∧ b = B.b)
  have hok : Ok w (own0 β) (E1 S' (fun _ => none) 0) w' [] :=
    ⟨hk.up, fun b hb' => by
      rcases hb' with h | ⟨hz, rfl⟩
      · exact hk.sz b h
      · exact (hk.own 0 B hB hz).2.1, fun l B h => (by cases h), fun l l' B B' h => (by cases h), fun l h => absurd h (Nat.not_lt_zero l), fun l B h => (by cases h), fun l mb h => (by simp at h), fun l B h => (by cases h), hk.tab⟩
  have hnew : B.z = false → S B.b ∨ w.heap.size ≤ B.b ∨ own0 β B.b := fun hz => by
    rcases (hk.own 0 B hB hz).1 with h | h
    · exact .inr (.inr h)
    · exact .inr (.inl h)
  refine ⟨B.sv, E1 S' (fun _ => none) 0, rfl, hok, fun b hb' => .inl (hS1 b hb'), fun b hb' => ?_, fun l B h => absurd h (Nat.not_lt_zero l), .c ?_⟩
  · rcases hb' with h | ⟨hz, rfl⟩
    · exact hS2 b h
    · exact hnew hz
  · cases hz : B.z with
    | true =>
      have h0 : es = [] := hb.nil hz
      subst h0
      have hsv : B.sv = .slice none 0 0 := by simp [Blk.sv, hz]
      rw [hsv]
      exact .nil _ _
    | false =>
      have hsv : B.sv = .slice (some ⟨B.b, 0, none⟩) es.length B.c := by simp [Blk.sv, hz, hn]
      rw [hsv]
      obtain ⟨cells, hc, hcs, hcell⟩ := hb.mem hz
      have hat : ∀ (i : Nat) (cs : List PV) (j : Nat) (p : PV), es[i]? = some cs → cs[j]? = some p → ∃ x, w'.cell? ⟨B.b, 0 + i * k + j, none⟩ = some x ∧ x.oneCell' = true ∧ RepC w' S' p x := by
        intro i cs j p hi hj
        obtain ⟨x, x1, x2, x3⟩ := hcell i cs j p hi hj
        rw [hkk] at x1
        refine ⟨x, by rw [Nat.zero_add, cell_of_row w' B.b _ cells B.T (0, 0) hc, x1], x2, ?_⟩
        exact (x3.toC1 (hes cs (List.mem_of_getElem? hi) p (List.mem_of_getElem? hj))).ext (fun b hb => .inl hb) (fun _ _ _ => rfl)
      exact .sl es B.b 0 k B.c (fun i j => (w'.cell? ⟨B.b, 0 + i * k + j, none⟩).getD .nilIface) (.inr ⟨hz, rfl⟩) (by rw [← hkk]; exact hb.pos) (by rw [← hn]; exact hb.nc) hb.cm (fun i cs hi => by rw [← hkk]; exact hb.es i cs hi)
        (fun i cs j p hi hj => by obtain ⟨x, x1, _⟩ := hat i cs j p hi hj; rw [x1]; rfl)
        (fun i cs j p hi hj => by obtain ⟨x, x1, x2, _⟩ := hat i cs j p hi hj; rw [x1]; exact x2)
        (fun i cs j p hi hj => by obtain ⟨x, x1, _, x3⟩ := hat i cs j p hi hj; rw [x1]; exact x3)
def m_fz_impl_copyTrips (l : List YTrip) : Option (List YTrip) := m_impl_copyTrips l
theorem ok_fz_impl_copyTrips (l : List YTrip) {r : List YTrip} (H : m_fz_impl_copyTrips l = some r) : CallM Tryz.prog 137 [.sl (l.map cTrip)] [] (.sl (r.map cTrip)) [] :=
  (ok_impl_copyTrips l H).frz fun cs hcs p hp => by
    obtain ⟨x, _, rfl⟩ := List.mem_map.1 hcs
    simp only [cTrip, List.mem_cons, List.not_mem_nil, or_false] at hp
    rcases hp with rfl | rfl <;> rfl
instance (l : List YTrip) : CT Tryz.prog (m_fz_impl_copyTrips l) := ⟨137, [.sl (l.map cTrip)], [], fun r => .sl (r.map cTrip), fun r => [], ok_fz_impl_copyTrips l⟩
end Go.Proofs.YtmcdjilbkmhfoaaGreat
namespace Go.Proofs.YtmcdjilbkmhfoaaGreat
set_option maxRecDepth 10000
open Go.RowKit
set_option linter.unusedVariables false
set_option maxHeartbeats 16000000
def m_p0_spec_l3Any_b0 (y1 : YNetwork × Yl1Cur) (y2 : Int × Yl1Cur) (y3 : Int × Yl1Cur) (s0 : (List YLeg)) : Option ((List YLeg) ⊕ (List YLeg)) :=
 cond (decide ((s0.length : Int) < 21))
 ((getI s0 y2.1).bind fun y14 =>
 (chk (appOk ((s0 : List YLeg).length + ([y14] : List YLeg).length) 64)).bind fun _ =>
 some (.inl ((s0 : List YLeg) ++ [y14])))
 (some (.inr s0))
instance (y1 : YNetwork × Yl1Cur) (y2 : Int × Yl1Cur) (y3 : Int × Yl1Cur) : LoopE (m_p0_spec_l3Any_b0 y1 y2 y3) := ⟨fun s0 => (.be 0 0 0 :: .un :: .be 1 0 0 :: .be 2 0 0 :: vi y2.1 :: .un :: .un :: .un :: .un :: .un :: .un :: .un :: .un :: .un :: .un :: .un :: .un :: .un :: .un :: .un :: .un :: .un :: .un :: .un :: .un :: .un :: .un :: .un :: .un :: .un :: .un :: .un :: .un :: .un :: .un :: .un :: .un :: .un :: .un :: .un :: .un :: .un :: .un :: .un :: .un :: .un :: .un :: .un :: .un :: .un :: .un :: .un :: .un :: .un :: .un :: .un :: .un :: .un :: .un :: .un :: .un :: .un :: .un :: .un :: .un :: .un :: .un :: .un :: .un :: .un :: .un :: .un :: .un :: .un :: .un :: .un :: .un :: .un :: .un :: .un :: .un :: .un :: .un :: .un :: .un :: .un :: .un :: .un :: .un :: .un :: .un :: .un :: .un :: .un :: .un :: .un :: .un :: []), fun s0 => [some ⟨187, 3, [[.sl (y3.2.b.map cB8), vi y3.2.i, vi y3.2.h]]⟩, some ⟨35, 3, [[.v (.slice none 0 0), .v (.slice none 0 0), vi 0]]⟩, some ⟨35, 3, [[.ms 3, .ms 4, vi y1.1.change]]⟩, some ⟨67, 6, s0.map cLeg⟩, some ⟨3, 1, y1.1.off.map cInt⟩]⟩
def m_p0_spec_l3Any (c : Yl1Cur) : Option (YNetwork × Yl1Cur) :=
 (rhoM [0]).bind fun _ =>
 (m_p0_spec_l3Draw c 6).bind fun y1 =>
 (rhoM [0]).bind fun _ =>
 (m_p0_spec_l1Below y1.2 (y1.1.legs.length : Int)).bind fun y2 =>
 (rhoM [0]).bind fun _ =>
 (m_p0_spec_l1Below y2.2 10).bind fun y3 =>
 cond (decide (y3.1 = 0))
 ((drwL 8 [5]).bind fun _ =>
 (rhoM [0, 37]).bind fun _ =>
 (m_p0_spec_l1Int y3.2 ([(-1), 0, 1439, 1440])).bind fun y4 =>
 (getI y1.1.legs y2.1).bind fun y5 =>
 some ((⟨(y1.1.legs.set (Int.toNat y2.1) (⟨y5.from_, y5.to_, y4.1, y5.takes, y5.days, y5.room⟩ : YLeg)), y1.1.off, y1.1.change⟩ : YNetwork), y4.2.1))
 (cond (decide (y3.1 = 1))
 ((drwL 8 [5]).bind fun _ =>
 (rhoM [0, 37]).bind fun _ =>
 (m_p0_spec_l1Int y3.2 ([0, 1, 4320, 4321])).bind fun y6 =>
 (getI y1.1.legs y2.1).bind fun y7 =>
 some ((⟨(y1.1.legs.set (Int.toNat y2.1) (⟨y7.from_, y7.to_, y7.start, y6.1, y7.days, y7.room⟩ : YLeg)), y1.1.off, y1.1.change⟩ : YNetwork), y6.2.1))
 (cond (decide (y3.1 = 2))
 ((drwL 8 [5]).bind fun _ =>
 (rhoM [0, 37]).bind fun _ =>
 (m_p0_spec_l1Int y3.2 ([0, 127, 128, (-1)])).bind fun y8 =>
 (getI y1.1.legs y2.1).bind fun y9 =>
 some ((⟨(y1.1.legs.set (Int.toNat y2.1) (⟨y9.from_, y9.to_, y9.start, y9.takes, y8.1, y9.room⟩ : YLeg)), y1.1.off, y1.1.change⟩ : YNetwork), y8.2.1))
 (cond (decide (y3.1 = 3))
 ((drwL 8 [4]).bind fun _ =>
 (rhoM [0, 29]).bind fun _ =>
 (m_p0_spec_l1Int y3.2 ([0, 60, 61, (-1)])).bind fun y10 =>
 (chk (appOk ((y1.1.off : List Int).length + ([y10.1] : List Int).length) 8)).bind fun _ =>
 some ((⟨y1.1.legs, ((y1.1.off : List Int) ++ [y10.1]), y1.1.change⟩ : YNetwork), y10.2.1))
 (cond (decide (y3.1 = 4))
 ((rhoM [0, 5]).bind fun _ =>
 (m_p0_spec_l1Int y3.2 ([(-1), 240, 241])).bind fun y11 =>
 some ((⟨y1.1.legs, y1.1.off, y11.1⟩ : YNetwork), y11.2.1))
 (cond (decide (y3.1 = 5))
 ((getI y1.1.legs y2.1).bind fun y12 =>
 (getI y1.1.legs y2.1).bind fun y13 =>
 some ((⟨(y1.1.legs.set (Int.toNat y2.1) (⟨y13.from_, y12.from_, y13.start, y13.takes, y13.days, y13.room⟩ : YLeg)), y1.1.off, y1.1.change⟩ : YNetwork), y3.2))
 (cond (decide (y3.1 = 6))
 ((iterF (m_p0_spec_l3Any_b0 y1 y2 y3) NN y1.1.legs).bind (fun o0 =>
 (drwL 8 [4]).bind fun _ =>
 (rhoM [0, 29]).bind fun _ =>
 (m_p0_spec_l1Int y3.2 ([20, 21])).bind fun y15 =>
 (chk (slOk 0 y15.1 o0.length)).bind fun _ =>
 some ((⟨(subL o0 0 y15.1), y1.1.off, y1.1.change⟩ : YNetwork), y15.2.1)))
 (some (y1.1, y3.2))))))))
theorem ok_p0_spec_l3Any (c : Yl1Cur) {r : YNetwork × Yl1Cur} (H : m_p0_spec_l3Any c = some r) : CallM Tryz.prog 248 [.be 0 0 0] [some ⟨187, 3, [[.sl (c.b.map cB8), vi c.i, vi c.h]]⟩] (.ag [.sl (r.1.legs.map cLeg), .ms 1, vi r.1.change]) [some ⟨187, 3, [[.sl (r.2.b.map cB8), vi r.2.i, vi r.2.h]]⟩, some ⟨3, 1, r.1.off.map cInt⟩] := by
  replace H := H0 H
  unfold m_p0_spec_l3Any at H
  refine callM_of Tryz.func248 rfl Tryz.ntmps248 Tryz.results248 fun Q hQ hQn => ?_
  exact wk3
instance (c : Yl1Cur) : CT Tryz.prog (m_p0_spec_l3Any c) := ⟨248, [.be 0 0 0], [some ⟨187, 3, [[.sl (c.b.map cB8), vi c.i, vi c.h]]⟩], fun r => .ag [.sl (r.1.legs.map cLeg), .ms 1, vi r.1.change], fun r => [some ⟨187, 3, [[.sl (r.2.b.map cB8), vi r.2.i, vi r.2.h]]⟩, some ⟨3, 1, r.1.off.map cInt⟩], ok_p0_spec_l3Any c⟩
def m_p0_spec_l4Net (c : Yl1Cur) : Option (YNetwork × Yl1Cur) :=
 (rhoM [0]).bind fun _ =>
 (m_p0_spec_l1Once c 9).bind fun y1 =>
 cond y1.1
 ((rhoM [0]).bind fun _ =>
 (m_p0_spec_l3Any y1.2).bind fun y2 =>
 some (y2.1, y2.2))
 ((rhoM [0]).bind fun _ =>
 (m_p0_spec_l3Draw y1.2 9).bind fun y3 =>
 some (y3.1, y3.2))
theorem ok_p0_spec_l4Net (c : Yl1Cur) {r : YNetwork × Yl1Cur} (H : m_p0_spec_l4Net c = some r) : CallM Tryz.prog 212 [.be 0 0 0] [some ⟨187, 3, [[.sl (c.b.map cB8), vi c.i, vi c.h]]⟩] (.ag [.sl (r.1.legs.map cLeg), .ms 1, vi r.1.change]) [some ⟨187, 3, [[.sl (r.2.b.map cB8), vi r.2.i, vi r.2.h]]⟩, some ⟨3, 1, r.1.off.map cInt⟩] := by
  replace H := H0 H
  unfold m_p0_spec_l4Net at H
  refine callM_of Tryz.func212 rfl Tryz.ntmps212 Tryz.results212 fun Q hQ hQn => ?_
  exact wk3
instance (c : Yl1Cur) : CT Tryz.prog (m_p0_spec_l4Net c) := ⟨212, [.be 0 0 0], [some ⟨187, 3, [[.sl (c.b.map cB8), vi c.i, vi c.h]]⟩], fun r => .ag [.sl (r.1.legs.map cLeg), .ms 1, vi r.1.change], fun r => [some ⟨187, 3, [[.sl (r.2.b.map cB8), vi r.2.i, vi r.2.h]]⟩, some ⟨3, 1, r.1.off.map cInt⟩], ok_p0_spec_l4Net c⟩
def m_p1_spec_l4Of (c : Yl1Cur) (n : YNetwork) : Option (ByteArray × Yl1Cur × YNetwork) :=
 (m_spec_PlacesOf n).bind fun y1 =>
 (rhoM [0]).bind fun _ =>
 (m_p0_spec_l1Once c 9).bind fun y2 =>
 cond y2.1
 ((rhoM [0]).bind fun _ =>
 (m_p0_spec_l1Place y2.2).bind fun y3 =>
 some (y3.1, y3.2, n))
 ((rhoM [0]).bind fun _ =>
 (m_p0_spec_l1Below y2.2 (y1.length : Int)).bind fun y4 =>
 (getI y1 y4.1).bind fun y5 =>
 some (y5, y4.2, n))
theorem ok_p1_spec_l4Of (c : Yl1Cur) (n : YNetwork) {r : ByteArray × Yl1Cur × YNetwork} (H : m_p1_spec_l4Of c n = some r) : CallM Tryz.prog 213 [.be 0 0 0, .ag [.sl (n.legs.map cLeg), .ms 1, vi n.change]] [some ⟨187, 3, [[.sl (c.b.map cB8), vi c.i, vi c.h]]⟩, some ⟨3, 1, n.off.map cInt⟩] (vs r.1) [some ⟨187, 3, [[.sl (r.2.1.b.map cB8), vi r.2.1.i, vi r.2.1.h]]⟩, some ⟨3, 1, r.2.2.off.map cInt⟩] := by
  replace H := H0 H
  unfold m_p1_spec_l4Of at H
  refine callM_of Tryz.func213 rfl Tryz.ntmps213 Tryz.results213 fun Q hQ hQn => ?_
  exact wk3
instance (c : Yl1Cur) (n : YNetwork) : CT Tryz.prog (m_p1_spec_l4Of c n) := ⟨213, [.be 0 0 0, .ag [.sl (n.legs.map cLeg), .ms 1, vi n.change]], [some ⟨187, 3, [[.sl (c.b.map cB8), vi c.i, vi c.h]]⟩, some ⟨3, 1, n.off.map cInt⟩], fun r => vs r.1, fun r => [some ⟨187, 3, [[.sl (r.2.1.b.map cB8), vi r.2.1.i, vi r.2.1.h]]⟩, some ⟨3, 1, r.2.2.off.map cInt⟩], ok_p1_spec_l4Of c n⟩
def m_p0_spec_l1Odd (c : Yl1Cur) : Option (Int × Yl1Cur) :=
 (rhoM [0, 1]).bind fun _ =>
 (m_p0_spec_l1Int c ([(-1), 0, 1, 2, 255, 1440, 86400, 86401, 999999999, 1000000000, 1000000001, (-1000000001), 9223372036854775807, (-9223372036854775808)])).bind fun y1 =>
 some (y1.1, y1.2.1)
theorem ok_p0_spec_l1Odd (c : Yl1Cur) {r : Int × Yl1Cur} (H : m_p0_spec_l1Odd c = some r) : CallM Tryz.prog 250 [.be 0 0 0] [some ⟨187, 3, [[.sl (c.b.map cB8), vi c.i, vi c.h]]⟩] (vi r.1) [some ⟨187, 3, [[.sl (r.2.b.map cB8), vi r.2.i, vi r.2.h]]⟩] := by
  replace H := H0 H
  unfold m_p0_spec_l1Odd at H
  refine callM_of Tryz.func250 rfl Tryz.ntmps250 Tryz.results250 fun Q hQ hQn => ?_
  exact wk3
instance (c : Yl1Cur) : CT Tryz.prog (m_p0_spec_l1Odd c) := ⟨250, [.be 0 0 0], [some ⟨187, 3, [[.sl (c.b.map cB8), vi c.i, vi c.h]]⟩], fun r => vi r.1, fun r => [some ⟨187, 3, [[.sl (r.2.b.map cB8), vi r.2.i, vi r.2.h]]⟩], ok_p0_spec_l1Odd c⟩
def m_p0_spec_l4At (c : Yl1Cur) : Option (Int × Yl1Cur) :=
 (rhoM [0]).bind fun _ =>
 (m_p0_spec_l1Once c 9).bind fun y1 =>
 cond y1.1
 ((rhoM [0]).bind fun _ =>
 (m_p0_spec_l1Odd y1.2).bind fun y2 =>
 some (y2.1, y2.2))
 ((rhoM [0]).bind fun _ =>
 (m_p0_spec_l1Below y1.2 200).bind fun y3 =>
 some ((w64 (60 * y3.1)), y3.2))
theorem ok_p0_spec_l4At (c : Yl1Cur) {r : Int × Yl1Cur} (H : m_p0_spec_l4At c = some r) : CallM Tryz.prog 214 [.be 0 0 0] [some ⟨187, 3, [[.sl (c.b.map cB8), vi c.i, vi c.h]]⟩] (vi r.1) [some ⟨187, 3, [[.sl (r.2.b.map cB8), vi r.2.i, vi r.2.h]]⟩] := by
  replace H := H0 H
  unfold m_p0_spec_l4At at H
  refine callM_of Tryz.func214 rfl Tryz.ntmps214 Tryz.results214 fun Q hQ hQn => ?_
  exact wk3
instance (c : Yl1Cur) : CT Tryz.prog (m_p0_spec_l4At c) := ⟨214, [.be 0 0 0], [some ⟨187, 3, [[.sl (c.b.map cB8), vi c.i, vi c.h]]⟩], fun r => vi r.1, fun r => [some ⟨187, 3, [[.sl (r.2.b.map cB8), vi r.2.i, vi r.2.h]]⟩], ok_p0_spec_l4At c⟩
def m_o_spec_DrawEarliestAt (code : List YB8) : Option (YNetwork × ByteArray × ByteArray × Int) :=
 (m_o_spec_l1New code).bind fun y1 =>
 (rhoM [1]).bind fun _ =>
 (m_p0_spec_l4Net y1).bind fun y2 =>
 (drwL 8 [3, 6, 8]).bind fun _ =>
 (rhoM [1, 2]).bind fun _ =>
 (m_p1_spec_l4Of y2.2 y2.1).bind fun y3 =>
 (rhoM [1, 2]).bind fun _ =>
 (m_p1_spec_l4Of y3.2.1 (⟨y2.1.legs, y3.2.2.off, y2.1.change⟩ : YNetwork)).bind fun y4 =>
 (rhoM [1]).bind fun _ =>
 (m_p0_spec_l4At y4.2.1).bind fun y5 =>
 some ((⟨y2.1.legs, y4.2.2.off, y2.1.change⟩ : YNetwork), y3.1, y4.1, y5.1)
theorem ok_o_spec_DrawEarliestAt (code : List YB8) {r : YNetwork × ByteArray × ByteArray × Int} (H : m_o_spec_DrawEarliestAt code = some r) : CallM Tryz.prog 148 [.sl (code.map cB8)] [] (.tu [.ag [.sl (r.1.legs.map cLeg), .ms 0, vi r.1.change], vs r.2.1, vs r.2.2.1, vi r.2.2.2]) [some ⟨3, 1, r.1.off.map cInt⟩] := by
  replace H := H0 H
  unfold m_o_spec_DrawEarliestAt at H
  refine callM_of Tryz.func148 rfl Tryz.ntmps148 Tryz.results148 fun Q hQ hQn => ?_
  exact wk3
instance (code : List YB8) : CT Tryz.prog (m_o_spec_DrawEarliestAt code) := ⟨148, [.sl (code.map cB8)], [], fun r => .tu [.ag [.sl (r.1.legs.map cLeg), .ms 0, vi r.1.change], vs r.2.1, vs r.2.2.1, vi r.2.2.2], fun r => [some ⟨3, 1, r.1.off.map cInt⟩], ok_o_spec_DrawEarliestAt code⟩
def m_o_spec_DrawFindWay (code : List YB8) : Option (YNetwork × ByteArray × ByteArray × Int) :=
 (m_o_spec_DrawEarliestAt code).bind fun y1 =>
 some (y1.1, y1.2.1, y1.2.2.1, y1.2.2.2)
theorem ok_o_spec_DrawFindWay (code : List YB8) {r : YNetwork × ByteArray × ByteArray × Int} (H : m_o_spec_DrawFindWay code = some r) : CallM Tryz.prog 55 [.sl (code.map cB8)] [] (.tu [.ag [.sl (r.1.legs.map cLeg), .ms 0, vi r.1.change], vs r.2.1, vs r.2.2.1, vi r.2.2.2]) [some ⟨3, 1, r.1.off.map cInt⟩] := by
  replace H := H0 H
  unfold m_o_spec_DrawFindWay at H
  refine callM_of Tryz.func55 rfl Tryz.ntmps55 Tryz.results55 fun Q hQ hQn => ?_
  exact wk3
instance (code : List YB8) : CT Tryz.prog (m_o_spec_DrawFindWay code) := ⟨55, [.sl (code.map cB8)], [], fun r => .tu [.ag [.sl (r.1.legs.map cLeg), .ms 0, vi r.1.change], vs r.2.1, vs r.2.2.1, vi r.2.2.2], fun r => [some ⟨3, 1, r.1.off.map cInt⟩], ok_o_spec_DrawFindWay code⟩
end Go.Proofs.YtmcdjilbkmhfoaaGreat
namespace Go.Proofs.YtmcdjilbkmhfoaaGreat
set_option maxRecDepth 10000
open Go.RowKit
set_option linter.unusedVariables false
set_option linter.unusedSimpArgs false
structure NetM (M : Nat) (n : YNetwork) : Prop where
  len : 1 ≤ n.legs.length ∧ n.legs.length ≤ 2 * M
  leg : ∀ l ∈ n.legs, LegD l
  off : n.off = [] ∨ ∃ a b : Int, n.off = [a, b] ∧ 0 ≤ a ∧ a < b ∧ b ≤ 60
  change : 0 ≤ n.change ∧ n.change ≤ 240
theorem netM_tot {M : Nat} (hM : 1 ≤ M ∧ M ≤ 100) {c : Yl1Cur} (h : CurOk c) : Tot (m_p0_spec_l3Draw c (M : Int)) fun r => NetM M r.1 ∧ CurOk r.2 := by
  unfold m_p0_spec_l3Draw
  refine Tot.rho (Tot.bind (below_tot h 9) fun y1 h1 => Tot.rho (Tot.bind (below_tot h1.2 (M : Int)) fun y2 h2 => ?_))
  have b1 := h1.1.2.1 (by omega)
  have b2 := h2.1.2.1 (by omega)
  have w1 : w64 (1 + y2.1) = 1 + y2.1 := w64_in (by omega)
  have hloop : Tot (iterF (m_p0_spec_l3Draw_b0 (M : Int) y1) NN (w64 (1 + y2.1), y2.2.b, y2.2.i, y2.2.h, [])) fun o => CurOk ⟨o.1, o.2.1, o.2.2.1⟩ ∧ 1 ≤ o.2.2.2.length ∧ o.2.2.2.length ≤ 2 * M ∧ ∀ l ∈ o.2.2.2, LegD l := by
    refine Tot.loop (fun k s => s.1 = (k : Int) ∧ k ≤ M ∧ CurOk ⟨s.2.1, s.2.2.1, s.2.2.2.1⟩ ∧ s.2.2.2.2.length + 2 * k ≤ 2 * M ∧ (k = 0 → 1 ≤ s.2.2.2.2.length) ∧ ∀ l ∈ s.2.2.2.2, LegD l) (fun k s hs => ?_) NN (1 + y2.1).toNat _ ⟨by rw [w1]; omega, by omega, h2.2, by simp only [List.length_nil]; omega, fun hk => by omega, fun l hl => by cases hl⟩ (by unfold NN; omega)
    obtain ⟨k1, k2, k3, k4, k5, k6⟩ := hs
    unfold m_p0_spec_l3Draw_b0
    refine Tot.cond (fun hc => ?_) fun hc => Tot.ret ⟨k3, k5 (by have := of_decide_eq_false hc; omega), by simp only; omega, k6⟩
    have hk := of_decide_eq_true hc
    have hw : w64 (s.1 - 1) = ((k - 1 : Nat) : Int) := by rw [w64_in (by omega)]; omega
    refine Tot.rho (Tot.bind (leg_tot k3) fun y3 h3 => Tot.chk (app_fit (by simp only [List.length_cons, List.length_nil]; omega) (by omega)) (Tot.rho (Tot.bind (once_tot h3.2 3) fun y4 h4 => ?_)))
    have hall : ∀ l ∈ s.2.2.2.2 ++ [y3.1], LegD l := fun l hl => by
      rcases List.mem_append.1 hl with hl | hl
      · exact k6 l hl
      · obtain rfl := List.mem_singleton.1 hl; exact h3.1
    have hlen : (s.2.2.2.2 ++ [y3.1]).length = s.2.2.2.2.length + 1 := by simp
    have one : Tot (some (Sum.inl (w64 (s.1 - 1), y4.2.b, y4.2.i, y4.2.h, s.2.2.2.2 ++ [y3.1])) : Option ((Int × List YB8 × Int × Int × List YLeg) ⊕ (List YB8 × Int × Int × List YLeg)))
        (LoopP (fun k s => s.1 = (k : Int) ∧ k ≤ M ∧ CurOk ⟨s.2.1, s.2.2.1, s.2.2.2.1⟩ ∧ s.2.2.2.2.length + 2 * k ≤ 2 * M ∧ (k = 0 → 1 ≤ s.2.2.2.2.length) ∧ ∀ l ∈ s.2.2.2.2, LegD l) (fun o => CurOk ⟨o.1, o.2.1, o.2.2.1⟩ ∧ 1 ≤ o.2.2.2.length ∧ o.2.2.2.length ≤ 2 * M ∧ ∀ l ∈ o.2.2.2, LegD l) k) := Tot.ret ⟨k - 1, by omega, hw, by omega, h4, by simp only [hlen]; omega, fun _ => by simp only [hlen]; omega, hall⟩
    refine Tot.cond (fun hd => Tot.cond (fun he => ?_) fun he => one) fun hd => one
    have hwl : w64 (((s.2.2.2.2 ++ [y3.1]).length : Int) - 1) = (s.2.2.2.2.length : Int) := by rw [hlen, w64_in (by omega)]; omega
    have hlast : getI (s.2.2.2.2 ++ [y3.1]) (s.2.2.2.2.length : Int) = some y3.1 := by rw [getI_nat, List.getElem?_append_right (Nat.le_refl _)]; simp
    rw [hwl, hlast]
    simp only [Option.bind_some]
    refine Tot.drw (Tot.rho (Tot.bind (below_tot h4 20) fun y7 h7 => Tot.chk (app_fit (by simp only [List.length_cons, List.length_nil, hlen]; omega) (by omega)) (Tot.ret ⟨k - 1, by omega, hw, by omega, h7.2, ?_, fun _ => ?_, fun l hl => ?_⟩)))
    · simp only [List.length_append, List.length_cons, List.length_nil]; omega
    · simp only [List.length_append, List.length_cons, List.length_nil]; omega
    · rcases List.mem_append.1 hl with hl | hl
      · exact hall l hl
      · obtain rfl := List.mem_singleton.1 hl
        obtain ⟨a1, a2, a3, a4, a5, a6, a7⟩ := h3.1
        have b7 := h7.1.2.1 (by omega)
        have e1 : w64 (60 * y7.1) = 60 * y7.1 := w64_in (by omega)
        have e2 : w64 (y3.1.start + 60 * y7.1) = y3.1.start + 60 * y7.1 := w64_in (by omega)
        refine ⟨a2, a1, fun e => a3 e.symm, ?_, a5, a6, a7⟩
        simp only [e1, e2]
        have g1 := Int.tmod_nonneg 1440 (show 0 ≤ y3.1.start + 60 * y7.1 by omega)
        have g2 := Int.tmod_lt_of_pos (y3.1.start + 60 * y7.1) (show (0 : Int) < 1440 by omega)
        omega
  refine Tot.bind hloop fun o ho => Tot.rho (Tot.bind (once_tot ho.1 2) fun y8 h8 => ?_)
  have w2 : w64 (15 * y1.1) = 15 * y1.1 := w64_in (by omega)
  simp only [w2]
  refine Tot.cond (fun hd => Tot.rho (Tot.bind (below_tot h8 3) fun y9 h9 => Tot.rho (Tot.bind (below_tot h9.2 4) fun y10 h10 => ?_))) fun hd => Tot.ret ⟨⟨⟨ho.2.1, ho.2.2.1⟩, ho.2.2.2, .inl rfl, by simp only; omega⟩, h8⟩
  have b9 := h9.1.2.1 (by omega)
  have b10 := h10.1.2.1 (by omega)
  have w3 : w64 (3 + y10.1) = 3 + y10.1 := w64_in (by omega)
  exact Tot.ret ⟨⟨⟨ho.2.1, ho.2.2.1⟩, ho.2.2.2, .inr ⟨_, _, rfl, by omega, by omega, by omega⟩, by simp only; omega⟩, h10.2⟩
structure NetS (n : YNetwork) : Prop where
  len : 1 ≤ n.legs.length ∧ n.legs.length ≤ 1000
  off : n.off.length ≤ 100
  leg : ∀ l ∈ n.legs, l.from_ ∈ drawP ∧ l.to_ ∈ drawP
theorem NetM.small {M : Nat} (hM : M ≤ 100) {n : YNetwork} (h : NetM M n) : NetS n := ⟨⟨h.len.1, by have := h.len; omega⟩, by rcases h.off with e | ⟨a, b, e, _⟩ <;> rw [e] <;> simp, fun l hl => ⟨(h.leg l hl).from_, (h.leg l hl).to_⟩⟩
theorem NetS.fit {n : YNetwork} (h : NetS n) : NetFit n := ⟨by have := h.len; omega, by have := h.off; omega, fun l hl => by
  obtain ⟨a, b⟩ := h.leg l hl
  exact ⟨by rw [(drawP_ok _ a).2]; decide, by rw [(drawP_ok _ b).2]; decide⟩⟩
theorem NetS.set {n : YNetwork} (h : NetS n) {i : Nat} (x : YLeg) (hx : x.from_ ∈ drawP) (hx' : x.to_ ∈ drawP) (o : List Int) (ho : o.length ≤ 100) (c : Int) : NetS ⟨n.legs.set i x, o, c⟩ :=
  ⟨by simp only [List.length_set]; exact h.len, ho, fun l hl => by
    rcases List.mem_or_eq_of_mem_set hl with hl | rfl
    · exact h.leg l hl
    · exact ⟨hx, hx'⟩⟩
theorem any3_tot {c : Yl1Cur} (h : CurOk c) : Tot (m_p0_spec_l3Any c) fun r => NetS r.1 ∧ CurOk r.2 := by
  unfold m_p0_spec_l3Any
  refine Tot.rho (Tot.bind (netM_tot (M := 6) (by omega) h) fun y1 h1 => Tot.rho (Tot.bind (below_tot h1.2 _) fun y2 h2 => Tot.rho (Tot.bind (below_tot h2.2 10) fun y3 h3 => ?_)))
  have hs := h1.1.small (by omega)
  have hl := h1.1.len
  have b2 := h2.1.2.1 (by omega)
  have b0 := h2.1.1
  refine Tot.cond (fun _ => Tot.drw (Tot.rho (Tot.bind (int_tot h3.2 (by simp)) fun y4 h4 => Tot.get b0 b2 fun x hx _ => Tot.ret ⟨hs.set _ (by exact (hs.leg x hx).1) (by exact (hs.leg x hx).2) _ hs.off _, h4.2⟩))) fun _ => ?_
  refine Tot.cond (fun _ => Tot.drw (Tot.rho (Tot.bind (int_tot h3.2 (by simp)) fun y4 h4 => Tot.get b0 b2 fun x hx _ => Tot.ret ⟨hs.set _ (by exact (hs.leg x hx).1) (by exact (hs.leg x hx).2) _ hs.off _, h4.2⟩))) fun _ => ?_
  refine Tot.cond (fun _ => Tot.drw (Tot.rho (Tot.bind (int_tot h3.2 (by simp)) fun y4 h4 => Tot.get b0 b2 fun x hx _ => Tot.ret ⟨hs.set _ (by exact (hs.leg x hx).1) (by exact (hs.leg x hx).2) _ hs.off _, h4.2⟩))) fun _ => ?_
  refine Tot.cond (fun _ => Tot.drw (Tot.rho (Tot.bind (int_tot h3.2 (by simp)) fun y4 h4 => Tot.chk (app_fit (by simp only [List.length_cons, List.length_nil]; have := hs.off; omega) (by omega)) (Tot.ret ⟨⟨hs.len, by
    rcases h1.1.off with e | ⟨a, b, e, _⟩ <;> simp [e], hs.leg⟩, h4.2⟩)))) fun _ => ?_
  refine Tot.cond (fun _ => Tot.rho (Tot.bind (int_tot h3.2 (by simp)) fun y4 h4 => Tot.ret ⟨⟨hs.len, hs.off, hs.leg⟩, h4.2⟩)) fun _ => ?_
  refine Tot.cond (fun _ => Tot.get b0 b2 fun x hx _ => Tot.get b0 b2 fun x' hx' _ => Tot.ret ⟨hs.set _ (by exact (hs.leg x' hx').1) (by exact (hs.leg x hx).1) _ hs.off _, h3.2⟩) fun _ => ?_
  refine Tot.cond (fun _ => ?_) fun _ => Tot.ret ⟨hs, h3.2⟩
  refine Tot.bind (P := fun o : List YLeg => o.length = 21 ∧ ∀ l ∈ o, l.from_ ∈ drawP ∧ l.to_ ∈ drawP) ?_ fun o ho => ?_
  · refine Tot.loop (fun (k : Nat) (s : List YLeg) => s.length + k = 21 ∧ y1.1.legs.length ≤ s.length ∧ ∀ l ∈ s, l.from_ ∈ drawP ∧ l.to_ ∈ drawP) (fun k s hs' => ?_) NN (21 - y1.1.legs.length) _ ⟨by omega, Nat.le_refl _, hs.leg⟩ (by unfold NN; omega)
    obtain ⟨k1, k2, k3⟩ := hs'
    unfold m_p0_spec_l3Any_b0
    refine Tot.cond (fun hd => ?_) fun hd => Tot.ret ⟨by have := of_decide_eq_false hd; omega, k3⟩
    have hlt := of_decide_eq_true hd
    refine Tot.get b0 (by omega) fun x hx _ => Tot.chk (app_fit (by simp only [List.length_cons, List.length_nil]; omega) (by omega)) (Tot.ret ⟨k - 1, by omega, by simp only [List.length_append, List.length_cons, List.length_nil]; omega, by simp only [List.length_append, List.length_cons, List.length_nil]; omega, fun l hl => ?_⟩)
    rcases List.mem_append.1 hl with hl | hl
    · exact k3 l hl
    · obtain rfl := List.mem_singleton.1 hl
      exact k3 l hx
  · refine Tot.drw (Tot.rho (Tot.bind (int_tot h3.2 (by simp)) fun y4 h4 => ?_))
    have hy : 20 ≤ y4.1 ∧ y4.1 ≤ 21 := by
      have := h4.1
      simp only [List.mem_cons, List.not_mem_nil, or_false] at this
      omega
    refine Tot.chk (by unfold slOk; exact decide_eq_true (by omega)) (Tot.ret ⟨⟨?_, hs.off, fun l hl => ?_⟩, h4.2⟩)
    · unfold subL
      simp only [List.length_take, List.length_drop]
      omega
    · unfold subL at hl
      exact ho.2 l (List.mem_of_mem_drop (List.mem_of_mem_take hl))
theorem net4_tot {c : Yl1Cur} (h : CurOk c) : Tot (m_p0_spec_l4Net c) fun r => NetS r.1 ∧ CurOk r.2 := by
  unfold m_p0_spec_l4Net
  exact Tot.rho (Tot.bind (once_tot h 9) fun y1 h1 => Tot.cond (fun _ => Tot.rho (Tot.bind (any3_tot h1) fun y2 h2 => Tot.ret h2)) fun _ => Tot.rho (Tot.bind (netM_tot (M := 9) (by omega) h1) fun y3 h3 => Tot.ret ⟨h3.1.small (by omega), h3.2⟩))
theorem of1_tot {c : Yl1Cur} (h : CurOk c) {n : YNetwork} (hn : NetS n) : Tot (m_p1_spec_l4Of c n) fun r => CurOk r.2.1 ∧ r.2.2 = n := by
  have hl := hn.len
  have hp : 0 < (placesV n).length := by
    have := (legs_in (n := n) (List.getElem_mem (show 0 < n.legs.length by omega))).1
    exact List.length_pos_of_mem this
  unfold m_p1_spec_l4Of
  rw [(places_eq hn.fit).2, Option.bind_some]
  refine Tot.rho (Tot.bind (once_tot h 9) fun y2 h2 => Tot.cond (fun _ => Tot.rho (Tot.bind (place_tot h2) fun y3 h3 => Tot.ret ⟨h3.2, rfl⟩)) fun _ => Tot.rho (Tot.bind (below_tot h2 _) fun y4 h4 => Tot.get h4.1.1 (h4.1.2.1 (by omega)) fun x _ _ => Tot.ret ⟨h4.2, rfl⟩))
theorem at4_tot {c : Yl1Cur} (h : CurOk c) : Tot (m_p0_spec_l4At c) fun r => CurOk r.2 := by
  unfold m_p0_spec_l4At m_p0_spec_l1Odd
  exact Tot.rho (Tot.bind (once_tot h 9) fun y1 h1 => Tot.cond (fun _ => Tot.rho (Tot.bind (P := fun r => CurOk r.2) (Tot.rho (Tot.bind (int_tot h1 (by simp)) fun y2 h2 => Tot.ret h2.2)) fun y2 h2 => Tot.ret h2)) fun _ => Tot.rho (Tot.bind (below_tot h1 200) fun y3 h3 => Tot.ret h3.2))
theorem drawFind_tot {code : List YB8} (hl : code.length ≤ 4096) (hb : ∀ x ∈ code, 0 ≤ x.v ∧ x.v ≤ 255) : Tot (m_o_spec_DrawFindWay code) fun r => NetS r.1 := by
  unfold m_o_spec_DrawFindWay m_o_spec_DrawEarliestAt
  refine Tot.bind (P := fun r => NetS r.1) ?_ fun r h => Tot.ret h
  refine Tot.bind (new_tot hl hb) fun y1 h1 => Tot.rho (Tot.bind (net4_tot h1) fun y2 h2 => Tot.drw (Tot.rho (Tot.bind (of1_tot h2.2 h2.1) fun y3 h3 => Tot.rho (Tot.bind (of1_tot h3.1 (n := ⟨y2.1.legs, y3.2.2.off, y2.1.change⟩) (by rw [h3.2]; exact h2.1)) fun y4 h4 => Tot.rho (Tot.bind (at4_tot h4.1) fun y5 h5 => Tot.ret ?_)))))
  have := h4.2
  rw [this, h3.2]
  exact h2.1
end Go.Proofs.YtmcdjilbkmhfoaaGreat
namespace Go.Proofs.YtmcdjilbkmhfoaaGreat
set_option maxRecDepth 10000
open Go.RowKit
set_option linter.unusedVariables false
set_option linter.unusedSimpArgs false
theorem iter_all {α : Type} {body : Int → Option (Int ⊕ (Unit ⊕ Bool))} {xs : List α} (h1 : ∀ (i : Nat) x, xs[i]? = some x → body (i : Int) = some (.inl (w64 ((i : Int) + 1)))) (h2 : body (xs.length : Int) = some (.inr (.inl ()))) (hl : xs.length ≤ 1048576) : iterF body NN 0 = some (.inl ()) := by
  exact iter_st0 (body := body) (fun i : Nat => (i : Int)) (n := xs.length) (o := .inl ()) (fun i hi => by rw [h1 i _ (List.getElem?_eq_getElem hi), w64_nat hi (by omega)]) h2 NN (by unfold NN; omega)
theorem same_t {α : Type} [DecidableEq α] {F : List α → List α → Option Bool} {B : List α → List α → Int → Option (Int ⊕ (Unit ⊕ Bool))}
    (hF : ∀ a b, F a b = cond (!decide ((a.length : Int) = (b.length : Int))) (some false) ((iterF (B a b) NN 0).bind (selim (fun _ => some true) (fun r => some r))))
    (hB : ∀ a b s0, B a b s0 = cond (decide (s0 < (a.length : Int))) ((getI a s0).bind fun y1 => (getI b s0).bind fun y2 => cond (!decide (y1 = y2)) (some (.inr (.inr false))) (some (.inl (w64 (s0 + 1))))) (some (.inr (.inl ())))) {l : List α} (hl : l.length ≤ 1048576) : F l l = some true := by
  have e : iterF (B l l) NN 0 = some (.inl ()) := by
    refine iter_all (xs := l) (fun i x hx => ?_) ?_ hl
    · have hlt := (List.getElem?_eq_some_iff.1 hx).1
      have hg : getI l (i : Int) = some x := by rw [getI_nat]; exact hx
      rw [hB, decide_eq_true (show (i : Int) < l.length by omega), hg]
      simp
    · rw [hB]; simp
  rw [hF, e]
  simp [selim]
def endTo (n : YNetwork) (o : YOrder) : Bool := match o.way.getLast? with
  | some t => decide (legTo n t = o.to_)
  | none => false
theorem last_at {l : List YTrip} (h : 0 < l.length) {k : Nat} (hk : k + 1 = l.length) : ∃ t, l[k]? = some t ∧ l.getLast? = some t := by
  refine ⟨l[k]'(by omega), List.getElem?_eq_getElem _, ?_⟩
  rw [List.getLast?_eq_getElem?, show l.length - 1 = k by omega]
  exact List.getElem?_eq_getElem _
def planV (n : YNetwork) (o : YOrder) : Int := if endTo n o = true then ((o.way.getLast?).map (endsV n)).getD 0 else -1
theorem after_all {w : YWorld} (h : WOk w) (hn : nextV w < 0) {i : Nat} {o : YOrder} (ho : w.orders[i]? = some o) : (endTo w.network o = true → o.state = 3 ∧ o.place = o.to_ ∧ o.ended = planV w.network o) ∧ (endTo w.network o = false → o.state = 1) := by
  have hst := h.state ho
  have hwy := h.way ho
  have hg := hwy.gone
  have hev := (next_of_neg h hn).2 o (List.mem_of_getElem? ho)
  have hnone : o.way[o.gone.toNat]? = none := by
    unfold eventV at hev
    cases hx : o.way[o.gone.toNat]? with
    | none => rfl
    | some t => rw [hx] at hev; cases hev
  have hgl : o.gone = o.way.length := by
    have := List.getElem?_eq_none_iff.1 hnone
    omega
  rcases hst.cases with ⟨k1, k2, k3, k4, k5⟩ | ⟨k1, k2, k3, t, k4, k5, k6⟩ | ⟨k1, k2, k3, k4, k5, k6⟩
  · refine ⟨fun he => ?_, fun _ => k1⟩
    exfalso
    rcases Nat.eq_zero_or_pos o.way.length with h0 | h0
    · unfold endTo at he; rw [List.length_eq_zero_iff.1 h0] at he; cases he
    · obtain ⟨t, t1, t2⟩ := last_at h0 (k := (o.gone - 1).toNat) (by omega)
      unfold endTo at he
      rw [t2] at he
      refine k3 ?_
      unfold hereV
      rw [if_pos (by omega), t1]
      exact of_decide_eq_true he
  · rw [hnone] at k4; cases k4
  · obtain ⟨t, t1, t2⟩ := last_at (l := o.way) (by omega) (k := (o.gone - 1).toNat) (by omega)
    have he : endTo w.network o = true := by
      unfold endTo
      rw [t2]
      refine decide_eq_true ?_
      unfold hereV at k3
      rw [if_pos k5, t1] at k3
      exact k3
    refine ⟨fun _ => ⟨k1, k2, ?_⟩, fun hf => by rw [he] at hf; cases hf⟩
    unfold planV
    rw [if_pos he, t2, k6 t t1]; rfl
end Go.Proofs.YtmcdjilbkmhfoaaGreat
namespace Go.Proofs.YtmcdjilbkmhfoaaGreat
set_option maxRecDepth 10000
open Go.RowKit
set_option linter.unusedVariables false
set_option linter.unusedSimpArgs false
set_option linter.unusedSectionVars false
theorem idx_get {l : List ByteArray} {p : ByteArray} (h : 0 ≤ idxV l p) : getI l (idxV l p) = some p := by
  unfold idxV at h ⊢
  cases h' : l.findIdx? fun y => decide (y = p) with
  | none => rw [h'] at h; simp at h
  | some k =>
    obtain ⟨h1, h2, _⟩ := List.findIdx?_eq_some_iff_getElem.1 h'
    have h2 := of_decide_eq_true h2
    simp only [Option.elim]
    rw [getI_nat, List.getElem?_eq_getElem h1, h2]
theorem getI_set {α : Type} {xs : List α} {i j : Int} {v x : α} (hi : 0 ≤ i) (h : getI (xs.set (Int.toNat i) v) j = some x) : (j = i ∧ x = v) ∨ getI xs j = some x := by
  obtain ⟨h0, h1⟩ := getI_some h
  by_cases he : j = i
  · subst he
    rw [List.getElem?_set_self'] at h1
    cases hx : xs[j.toNat]? with
    | none => rw [hx] at h1; simp at h1
    | some y => rw [hx] at h1; simp at h1; exact .inl ⟨rfl, h1.symm⟩
  · refine .inr ?_
    rw [List.getElem?_set_ne (by omega)] at h1
    unfold getI; rw [if_pos h0]; exact h1
def Cand (n : YNetwork) (l : List YBooking) (closed : List YTrip) (weight f : Int) (r : List Int) (x v : Int) : Prop :=
  ∃ (i : Nat) (y : YLeg) (d u z : Int), n.legs[i]? = some y ∧ idxV (placesV n) y.to_ = x ∧ getI r (idxV (placesV n) y.from_) = some u ∧ ¬ u < 0 ∧ m_spec_l4Ready n u (decide (idxV (placesV n) y.from_ = f)) = some z ∧ m_spec_l6Next n l closed (i : Int) z weight = some d ∧ ¬ d < 0 ∧ m_spec_l3Ends n ⟨(i : Int), d⟩ = some v
section
variable {n : YNetwork} (hf : NetFit n)
include hf
theorem round_cand {l : List YBooking} (hl : l.length ≤ 1048576) {closed : List YTrip} (hc : closed.length ≤ 1048576) (weight : Int) {best : List Int} (hb : best.length = (placesV n).length) (f : Int) : Tot (m_spec_l6Round n l closed weight (placesV n) best f) fun r => r.length = (placesV n).length ∧ ∀ x v, getI r x = some v → getI best x = some v ∨ Cand n l closed weight f best x v := by
  have hp := plen hf
  have hll := hf.legs
  unfold m_spec_l6Round
  refine Tot.bind (P := fun r => r = best) ?_ fun r hr => ?_
  · by_cases h1 : best.length ≤ 1048576
    · exact Tot.of (ints_s h1) rfl
    · unfold m_spec_l1Ints
      exact Tot.chk (app_fit (by simp only [List.length_nil]; omega) (by omega)) (Tot.ret (by simp))
  · subst hr
    refine Tot.bind (P := fun o => o.length = (placesV n).length ∧ ∀ x v, getI o x = some v → getI r x = some v ∨ Cand n l closed weight f r x v) ?_ fun o ho => Tot.ret ho
    refine Tot.loop (fun (k : Nat) (s : Int × List Int) => ∃ i : Nat, s.1 = (i : Int) ∧ i + k = n.legs.length ∧ s.2.length = (placesV n).length ∧ ∀ x v, getI s.2 x = some v → getI r x = some v ∨ Cand n l closed weight f r x v) (fun k s hs => ?_) NN n.legs.length _ ⟨0, rfl, by omega, hb, fun x v h => .inl h⟩ (by unfold NN; omega)
    obtain ⟨i, hi, hk, hlen, hcd⟩ := hs
    unfold m_spec_l6Round_b0
    rw [hi]
    refine Tot.cond (fun hd => ?_) fun hd => Tot.ret ⟨hlen, hcd⟩
    have hlt := of_decide_eq_true hd
    have hw : w64 ((i : Int) + 1) = ((i + 1 : Nat) : Int) := by rw [w64_in (by omega)]; omega
    obtain ⟨y, hy, hm⟩ := len_in (xs := n.legs) (i := (i : Int)) ⟨by omega, hlt⟩
    obtain ⟨m1, m2⟩ := legs_in hm
    have a0 := idx_mem m1
    have a1 := (idx_lt (placesV n) y.from_).2
    have b0 := idx_mem m2
    have b1 := (idx_lt (placesV n) y.to_).2
    obtain ⟨v6, g6, _⟩ := len_in (xs := r) (i := idxV (placesV n) y.from_) ⟨a0, by omega⟩
    obtain ⟨v11, g11, _⟩ := len_in (xs := s.2) (i := idxV (placesV n) y.to_) ⟨b0, by omega⟩
    simp only [hy, Option.bind_some, idx_v hf, g6, hw]
    have go : ∀ (s' : List Int), s'.length = (placesV n).length → (∀ x v, getI s' x = some v → getI r x = some v ∨ Cand n l closed weight f r x v) → LoopP (fun (k : Nat) (s : Int × List Int) => ∃ i : Nat, s.1 = (i : Int) ∧ i + k = n.legs.length ∧ s.2.length = (placesV n).length ∧ ∀ x v, getI s.2 x = some v → getI r x = some v ∨ Cand n l closed weight f r x v) (fun o : List Int => o.length = (placesV n).length ∧ ∀ x v, getI o x = some v → getI r x = some v ∨ Cand n l closed weight f r x v) k (Sum.inl (((i + 1 : Nat) : Int), s')) := fun s' h' h'' => ⟨k - 1, by omega, i + 1, rfl, by omega, h', h''⟩
    refine Tot.cond (fun _ => Tot.ret (go _ hlen hcd)) fun hu => ?_
    obtain ⟨z, ez, _⟩ := ready_tot (n := n) v6 (decide (idxV (placesV n) y.from_ = f))
    obtain ⟨d, ed, _⟩ := l6next_tot hf hl hc hy z weight
    rw [ez, Option.bind_some, ed, Option.bind_some]
    refine Tot.cond (fun _ => Tot.ret (go _ hlen hcd)) fun hdn => ?_
    obtain ⟨e, he⟩ := ends_some (n := n) (t := ⟨(i : Int), d⟩) hy
    simp only [he, Option.bind_some, g11]
    have hyi : n.legs[i]? = some y := by rw [getI_nat] at hy; exact hy
    have new : ∀ x v, getI (s.2.set (Int.toNat (idxV (placesV n) y.to_)) e) x = some v → getI r x = some v ∨ Cand n l closed weight f r x v := fun x v h => by
      rcases getI_set b0 h with ⟨rfl, rfl⟩ | h
      · exact .inr ⟨i, y, d, v6, z, hyi, rfl, g6, of_decide_eq_false hu, ez, ed, of_decide_eq_false hdn, he⟩
      · exact hcd x v h
    exact Tot.cond (fun _ => Tot.ret (go _ (by rw [List.length_set]; exact hlen) new)) fun _ => Tot.cond (fun _ => Tot.ret (go _ (by rw [List.length_set]; exact hlen) new)) fun _ => Tot.ret (go _ hlen hcd)
end
def roundV (n : YNetwork) (l : List YBooking) (closed : List YTrip) (weight f : Int) (r : List Int) : List Int := (m_spec_l6Round n l closed weight (placesV n) r f).getD []
def bestV (n : YNetwork) (l : List YBooking) (closed : List YTrip) (weight f at_ : Int) : Nat → List Int
  | 0 => (m_spec_l4First (placesV n) f at_).getD []
  | k + 1 => roundV n l closed weight f (bestV n l closed weight f at_ k)
section
variable {n : YNetwork} (hf : NetFit n) {l : List YBooking} (hl : l.length ≤ 1048576) {closed : List YTrip} (hc : closed.length ≤ 1048576) (weight f at_ : Int)
include hf hl hc
theorem best_len : ∀ k, (bestV n l closed weight f at_ k).length = (placesV n).length
  | 0 => by
    obtain ⟨r, e, h⟩ := first_tot hf f at_
    unfold bestV; rw [e]; exact h
  | k + 1 => by
    obtain ⟨r, e, h, _⟩ := round_cand hf hl hc weight (best_len k) f
    unfold bestV roundV; rw [e]; exact h
theorem best_next (k : Nat) : m_spec_l6Round n l closed weight (placesV n) (bestV n l closed weight f at_ k) f = some (bestV n l closed weight f at_ (k + 1)) ∧ ∀ x v, getI (bestV n l closed weight f at_ (k + 1)) x = some v → getI (bestV n l closed weight f at_ k) x = some v ∨ Cand n l closed weight f (bestV n l closed weight f at_ k) x v := by
  obtain ⟨r, e, h, h'⟩ := round_cand hf hl hc weight (best_len hf hl hc weight f at_ k) f
  have : bestV n l closed weight f at_ (k + 1) = r := by show (m_spec_l6Round n l closed weight (placesV n) (bestV n l closed weight f at_ k) f).getD [] = r; rw [e]; rfl
  rw [this]
  exact ⟨e, h'⟩
theorem free_best {from_ : ByteArray} (hC : booksV n l = true ∧ 0 ≤ idxV (placesV n) from_ ∧ at_ ≤ 100000 ∧ 1 ≤ weight) {k : Nat} (hk : k ≤ (placesV n).length) : m_spec_BestFree n l closed from_ at_ weight (k : Int) = some (bestV n l closed weight (idxV (placesV n) from_) at_ k) := by
  have hp := plen hf
  obtain ⟨r0, e0, _⟩ := first_tot hf (idxV (placesV n) from_) at_
  have h0 : bestV n l closed weight (idxV (placesV n) from_) at_ 0 = r0 := by unfold bestV; rw [e0]; rfl
  unfold m_spec_BestFree
  rw [(places_eq hf).2]
  simp only [Option.bind_some, idx_v hf, specBooks_v hf hl, hC.1, Bool.not_true, cond_false, decide_eq_false (show ¬ idxV (placesV n) from_ < 0 by omega), decide_eq_false (show ¬ 100000 < at_ by omega), decide_eq_false (show ¬ weight < 1 by omega), decide_eq_false (show ¬ (k : Int) < 0 by omega), e0]
  have e : iterF (m_spec_BestFree_b0 n l closed weight (k : Int) (placesV n) (idxV (placesV n) from_)) NN (0, bestV n l closed weight (idxV (placesV n) from_) at_ 0) = some (bestV n l closed weight (idxV (placesV n) from_) at_ k) := by
   refine iter_st0 (body := m_spec_BestFree_b0 n l closed weight (k : Int) (placesV n) (idxV (placesV n) from_)) (fun i : Nat => ((i : Int), bestV n l closed weight (idxV (placesV n) from_) at_ i)) (n := k) (o := bestV n l closed weight (idxV (placesV n) from_) at_ k) (fun i hi => ?_) ?_ NN (by unfold NN; omega)
   · unfold m_spec_BestFree_b0
     rw [decide_eq_true (show (i : Int) < (k : Int) by omega), decide_eq_true (show (i : Int) < ((placesV n).length : Int) by omega), cond_true, cond_true, (best_next hf hl hc weight _ at_ i).1, Option.bind_some, w64_in (by omega)]
     rfl
   · unfold m_spec_BestFree_b0
     simp
  rw [← h0, e]; rfl
end
section
variable {n : YNetwork} (hf : NetFit n)
include hf
end
end Go.Proofs.YtmcdjilbkmhfoaaGreat
namespace Go.Proofs.YtmcdjilbkmhfoaaGreat
set_option maxRecDepth 10000
open Go.RowKit
set_option linter.unusedVariables false
set_option maxHeartbeats 16000000
def m_impl_freeOf_1_b0 (leg : Int) (at1_ : Int) (c0_ : YNetwork) (c1_ : List YTrip) (c2_ : List YBooking) (c3_ : Int) (s0 : Int) : Option (Int ⊕ (Unit ⊕ (YTrip × Bool))) :=
 cond (decide (s0 ≤ 60))
 ((m_impl_runs c0_ leg s0).bind fun y1 =>
 cond y1
 ((m_impl_starts c0_ (⟨leg, s0⟩ : YTrip)).bind fun y2 =>
 cond (decide (at1_ ≤ y2))
 ((m_impl_hasTrip c1_ (⟨leg, s0⟩ : YTrip)).bind fun y3 =>
 cond (!y3)
 ((getI c0_.legs leg).bind fun y4 =>
 (m_impl_LoadOf c2_ (⟨leg, s0⟩ : YTrip)).bind fun y5 =>
 cond (decide (c3_ ≤ (w64 (y4.room - y5))))
 (some (.inr (.inr ((⟨leg, s0⟩ : YTrip), true))))
 (some (.inl (w64 (s0 + 1)))))
 (some (.inl (w64 (s0 + 1)))))
 (some (.inl (w64 (s0 + 1)))))
 (some (.inl (w64 (s0 + 1)))))
 (some (.inr (.inl ())))
instance (leg : Int) (at1_ : Int) (c0_ : YNetwork) (c1_ : List YTrip) (c2_ : List YBooking) (c3_ : Int) : LoopE (m_impl_freeOf_1_b0 leg at1_ c0_ c1_ c2_ c3_) := ⟨fun s0 => [vi leg, vi at1_, .rp [.sl (c0_.legs.map cLeg), .sl (c0_.off.map cInt), vi c0_.change], .rp [.sl (c1_.map cTrip)], .rp [.sl (c2_.map cBooking)], .rp [vi c3_], .un, .un, .be 0 0 0, .un, vi s0, .un, .un, .un, .un, .un, .un, .un, .un, .un, .un, .un, .un, .un, .un, .un, .un, .un, .un, .un, .un, .un, .un, .un, .un, .un, .un, .un, .un, .un, .un, .un, .un, .un, .un, .un, .un, .un, .un, .un, .un, .un], fun s0 => [some ⟨55, 2, [[vi 0, vi 0]]⟩]⟩
def m_impl_freeOf_1 (leg : Int) (at1_ : Int) (c0_ : YNetwork) (c1_ : List YTrip) (c2_ : List YBooking) (c3_ : Int) : Option (YTrip × Bool) :=
 (iterF (m_impl_freeOf_1_b0 leg at1_ c0_ c1_ c2_ c3_) NN 0).bind (selim (fun o0 =>
 some ((⟨0, 0⟩ : YTrip), false)) (fun r => some r))
theorem ok_impl_freeOf_1 (leg : Int) (at1_ : Int) (c0_ : YNetwork) (c1_ : List YTrip) (c2_ : List YBooking) (c3_ : Int) {r : YTrip × Bool} (H : m_impl_freeOf_1 leg at1_ c0_ c1_ c2_ c3_ = some r) : CallM Tryz.prog 238 [vi leg, vi at1_, .rp [.sl (c0_.legs.map cLeg), .sl (c0_.off.map cInt), vi c0_.change], .rp [.sl (c1_.map cTrip)], .rp [.sl (c2_.map cBooking)], .rp [vi c3_]] [] (.tu [.ag [vi r.1.leg, vi r.1.day], vb r.2]) [] := by
  replace H := H0 H
  unfold m_impl_freeOf_1 at H
  refine callM_of Tryz.func238 rfl Tryz.ntmps238 Tryz.results238 fun Q hQ hQn => ?_
  exact wk3
instance (leg : Int) (at1_ : Int) (c0_ : YNetwork) (c1_ : List YTrip) (c2_ : List YBooking) (c3_ : Int) : CT Tryz.prog (m_impl_freeOf_1 leg at1_ c0_ c1_ c2_ c3_) := ⟨238, [vi leg, vi at1_, .rp [.sl (c0_.legs.map cLeg), .sl (c0_.off.map cInt), vi c0_.change], .rp [.sl (c1_.map cTrip)], .rp [.sl (c2_.map cBooking)], .rp [vi c3_]], [], fun r => .tu [.ag [vi r.1.leg, vi r.1.day], vb r.2], fun r => [], ok_impl_freeOf_1 leg at1_ c0_ c1_ c2_ c3_⟩
def m_impl_readyAt (n : YNetwork) (at1_ : Int) (start : Bool) : Option Int :=
 cond start
 (some at1_)
 (some (w64 (at1_ + n.change)))
theorem ok_impl_readyAt (n : YNetwork) (at1_ : Int) (start : Bool) {r : Int} (H : m_impl_readyAt n at1_ start = some r) : CallM Tryz.prog 252 [.ag (cNetwork n), vi at1_, vb start] [] (vi r) [] := by
  replace H := H0 H
  unfold m_impl_readyAt at H
  refine callM_of Tryz.func252 rfl Tryz.ntmps252 Tryz.results252 fun Q hQ hQn => ?_
  exact wk3
instance (n : YNetwork) (at1_ : Int) (start : Bool) : CT Tryz.prog (m_impl_readyAt n at1_ start) := ⟨252, [.ag (cNetwork n), vi at1_, vb start], [], fun r => vi r, fun r => [], ok_impl_readyAt n at1_ start⟩
def m_pf0_impl_arrivals_b0 (n : YNetwork) (find0_ : YNetwork) (find1_ : List YTrip) (find2_ : List YBooking) (find3_ : Int) (at3_ : Int) (legs : Int) (y1 : List ByteArray) (y2 : Int) (s0 : Int × (List Int)) : Option ((Int × (List Int)) ⊕ (List Int)) :=
 cond (decide (s0.1 < (y1.length : Int)))
 ((chk (appOk ((s0.2 : List Int).length + ([(-1)] : List Int).length) 8)).bind fun _ =>
 some (.inl ((w64 (s0.1 + 1)), ((s0.2 : List Int) ++ [(-1)]))))
 (some (.inr s0.2))
instance (n : YNetwork) (find0_ : YNetwork) (find1_ : List YTrip) (find2_ : List YBooking) (find3_ : Int) (at3_ : Int) (legs : Int) (y1 : List ByteArray) (y2 : Int) : LoopE (m_pf0_impl_arrivals_b0 n find0_ find1_ find2_ find3_ at3_ legs y1 y2) := ⟨fun s0 => (.un :: .fn 238 [.rp [.sl (find0_.legs.map cLeg), .sl (find0_.off.map cInt), vi find0_.change], .rp [.sl (find1_.map cTrip)], .rp [.sl (find2_.map cBooking)], .rp [vi find3_]] :: .un :: vi at3_ :: vi legs :: .be 0 0 0 :: .un :: .un :: .un :: .un :: .un :: .ms 1 :: vi y2 :: .ms 2 :: .un :: .un :: .un :: .un :: .un :: .un :: .un :: .un :: .un :: .un :: .un :: .un :: .un :: .un :: .un :: .un :: .un :: .un :: .un :: .un :: .un :: .un :: .un :: .un :: .un :: .un :: vi (y1.length : Int) :: vi s0.1 :: .un :: .un :: .un :: .un :: .un :: .un :: .un :: .un :: .un :: .un :: .un :: .un :: .un :: .un :: .un :: .un :: .un :: .un :: .un :: .un :: .un :: .un :: .un :: .un :: .un :: .un :: .un :: .un :: .un :: .un :: .un :: .un :: .un :: .un :: .un :: .un :: .un :: .un :: .un :: .un :: .un :: .un :: .un :: .un :: .un :: .un :: .un :: .un :: .un :: .un :: .un :: .un :: .un :: .un :: .un :: .un :: .un :: .un :: .un :: .un :: .un :: .un :: .un :: .un :: .un :: .un :: .un :: .un :: .un :: .un :: .un :: .un :: .un :: .un :: .un :: .un :: .un :: .un :: .un :: .un :: .un :: .un :: .un :: []), fun s0 => [some ⟨35, 3, [[.sl (n.legs.map cLeg), .sl (n.off.map cInt), vi n.change]]⟩, some ⟨9, 1, y1.map cStr⟩, some ⟨3, 1, s0.2.map cInt⟩]⟩
def m_pf0_impl_arrivals_b2 (n : YNetwork) (find0_ : YNetwork) (find1_ : List YTrip) (find2_ : List YBooking) (find3_ : Int) (legs : Int) (y1 : List ByteArray) (y2 : Int) (s1 : Int × (List Int)) (s2 : Int × Bool × (List Int)) : Option ((Int × Bool × (List Int)) ⊕ (Bool × (List Int))) :=
 cond (decide (s2.1 < (n.legs.length : Int)))
 ((getI n.legs s2.1).bind fun y4 =>
 (m_impl_placeAt y1 y4.from_).bind fun y5 =>
 (m_impl_placeAt y1 y4.to_).bind fun y6 =>
 (getI s1.2 y5).bind fun y7 =>
 cond (decide (y7 < 0))
 (some (.inl ((w64 (s2.1 + 1)), s2.2.1, s2.2.2)))
 ((getI s1.2 y5).bind fun y8 =>
 (m_impl_readyAt n y8 (decide (y5 = y2))).bind fun y9 =>
 (m_impl_freeOf_1 s2.1 y9 find0_ find1_ find2_ find3_).bind fun y10 =>
 cond y10.2
 ((getI s2.2.2 y6).bind fun y11 =>
 cond (decide (y11 < 0))
 ((m_impl_ends n y10.1).bind fun y12 =>
 (getI s2.2.2 y6).bind fun y13 =>
 some (.inl ((w64 (s2.1 + 1)), true, (s2.2.2.set (Int.toNat y6) y12))))
 ((m_impl_ends n y10.1).bind fun y14 =>
 (getI s2.2.2 y6).bind fun y15 =>
 cond (decide (y14 < y15))
 ((m_impl_ends n y10.1).bind fun y16 =>
 (getI s2.2.2 y6).bind fun y17 =>
 some (.inl ((w64 (s2.1 + 1)), true, (s2.2.2.set (Int.toNat y6) y16))))
 (some (.inl ((w64 (s2.1 + 1)), s2.2.1, s2.2.2)))))
 (some (.inl ((w64 (s2.1 + 1)), s2.2.1, s2.2.2)))))
 (some (.inr (s2.2.1, s2.2.2)))
instance (n : YNetwork) (find0_ : YNetwork) (find1_ : List YTrip) (find2_ : List YBooking) (find3_ : Int) (legs : Int) (y1 : List ByteArray) (y2 : Int) (s1 : Int × (List Int)) : LoopE (m_pf0_impl_arrivals_b2 n find0_ find1_ find2_ find3_ legs y1 y2 s1) := ⟨fun s2 => (.un :: .fn 238 [.rp [.sl (find0_.legs.map cLeg), .sl (find0_.off.map cInt), vi find0_.change], .rp [.sl (find1_.map cTrip)], .rp [.sl (find2_.map cBooking)], .rp [vi find3_]] :: .un :: .un :: vi legs :: .be 0 0 0 :: .un :: .un :: .un :: .un :: .un :: .ms 1 :: vi y2 :: .ms 2 :: vi s1.1 :: .ms 3 :: vb s2.2.1 :: .un :: .un :: .un :: .un :: .un :: .un :: .un :: .un :: .un :: .un :: .un :: .un :: .un :: .un :: .un :: .un :: .un :: .un :: .un :: .un :: .un :: .un :: .un :: .un :: .un :: .un :: .un :: .un :: .un :: .un :: .un :: .un :: .un :: .un :: .un :: .un :: .un :: .un :: .un :: .un :: .un :: .un :: .un :: .un :: .sl (n.legs.map cLeg) :: vi (n.legs.length : Int) :: vi s2.1 :: .un :: .un :: .un :: .un :: .un :: .un :: .un :: .un :: .un :: .un :: .un :: .un :: .un :: .un :: .un :: .un :: .un :: .un :: .un :: .un :: .un :: .un :: .un :: .un :: .un :: .un :: .un :: .un :: .un :: .un :: .un :: .un :: .un :: .un :: .un :: .un :: .un :: .un :: .un :: .un :: .un :: .un :: .un :: .un :: .un :: .un :: .un :: .un :: .un :: .un :: .un :: .un :: .un :: .un :: .un :: .un :: .un :: .un :: .un :: .un :: .un :: []), fun s2 => [some ⟨35, 3, [[.sl (n.legs.map cLeg), .sl (n.off.map cInt), vi n.change]]⟩, some ⟨9, 1, y1.map cStr⟩, some ⟨3, 1, s1.2.map cInt⟩, some ⟨3, 1, s2.2.2.map cInt⟩]⟩
def m_pf0_impl_arrivals_b1 (n : YNetwork) (find0_ : YNetwork) (find1_ : List YTrip) (find2_ : List YBooking) (find3_ : Int) (legs : Int) (y1 : List ByteArray) (y2 : Int) (s1 : Int × (List Int)) : Option ((Int × (List Int)) ⊕ (List Int)) :=
 cond (decide (s1.1 < legs))
 ((chk (appOk ((([] : List Int) : List Int).length + (s1.2 : List Int).length) 8)).bind fun _ =>
 (iterF (m_pf0_impl_arrivals_b2 n find0_ find1_ find2_ find3_ legs y1 y2 s1) NN (0, false, ((([] : List Int) : List Int) ++ s1.2))).bind (fun o2 =>
 cond (!o2.1)
 (some (.inr o2.2))
 (some (.inl ((w64 (s1.1 + 1)), o2.2)))))
 (some (.inr s1.2))
instance (n : YNetwork) (find0_ : YNetwork) (find1_ : List YTrip) (find2_ : List YBooking) (find3_ : Int) (legs : Int) (y1 : List ByteArray) (y2 : Int) : LoopE (m_pf0_impl_arrivals_b1 n find0_ find1_ find2_ find3_ legs y1 y2) := ⟨fun s1 => (.un :: .fn 238 [.rp [.sl (find0_.legs.map cLeg), .sl (find0_.off.map cInt), vi find0_.change], .rp [.sl (find1_.map cTrip)], .rp [.sl (find2_.map cBooking)], .rp [vi find3_]] :: .un :: .un :: vi legs :: .be 0 0 0 :: .un :: .un :: .un :: .un :: .un :: .ms 1 :: vi y2 :: .ms 2 :: vi s1.1 :: .un :: .un :: .un :: .un :: .un :: .un :: .un :: .un :: .un :: .un :: .un :: .un :: .un :: .un :: .un :: .un :: .un :: .un :: .un :: .un :: .un :: .un :: .un :: .un :: .un :: .un :: .un :: .un :: .un :: .un :: .un :: .un :: .un :: .un :: .un :: .un :: .un :: .un :: .un :: .un :: .un :: .un :: .un :: .un :: .un :: .un :: .un :: .un :: .un :: .un :: .un :: .un :: .un :: .un :: .un :: .un :: .un :: .un :: .un :: .un :: .un :: .un :: .un :: .un :: .un :: .un :: .un :: .un :: .un :: .un :: .un :: .un :: .un :: .un :: .un :: .un :: .un :: .un :: .un :: .un :: .un :: .un :: .un :: .un :: .un :: .un :: .un :: .un :: .un :: .un :: .un :: .un :: .un :: .un :: .un :: .un :: .un :: .un :: .un :: .un :: .un :: .un :: .un :: .un :: .un :: .un :: .un :: .un :: .un :: .un :: []), fun s1 => [some ⟨35, 3, [[.sl (n.legs.map cLeg), .sl (n.off.map cInt), vi n.change]]⟩, some ⟨9, 1, y1.map cStr⟩, some ⟨3, 1, s1.2.map cInt⟩]⟩
def m_pf0_impl_arrivals (n : YNetwork) (find0_ : YNetwork) (find1_ : List YTrip) (find2_ : List YBooking) (find3_ : Int) (from2_ : ByteArray) (at3_ : Int) (legs : Int) : Option (List Int) :=
 (m_impl_PlacesOf n).bind fun y1 =>
 (m_impl_placeAt y1 from2_).bind fun y2 =>
 cond (decide (y2 < 0))
 (some ([]))
 (cond (decide (100000 < at3_))
 (some ([]))
 (cond (decide (legs < 0))
 (some ([]))
 ((iterF (m_pf0_impl_arrivals_b0 n find0_ find1_ find2_ find3_ at3_ legs y1 y2) NN (0, ([] : List Int))).bind (fun o0 =>
 (getI o0 y2).bind fun y3 =>
 (iterF (m_pf0_impl_arrivals_b1 n find0_ find1_ find2_ find3_ legs y1 y2) NN (0, (o0.set (Int.toNat y2) (if 0 > at3_ then 0 else at3_)))).bind (fun o1 =>
 some o1)))))
theorem ok_pf0_impl_arrivals (n : YNetwork) (find0_ : YNetwork) (find1_ : List YTrip) (find2_ : List YBooking) (find3_ : Int) (from2_ : ByteArray) (at3_ : Int) (legs : Int) {r : (List Int)} (H : m_pf0_impl_arrivals n find0_ find1_ find2_ find3_ from2_ at3_ legs = some r) : CallM Tryz.prog 216 [.ag (cNetwork n), .fn 238 [.rp [.sl (find0_.legs.map cLeg), .sl (find0_.off.map cInt), vi find0_.change], .rp [.sl (find1_.map cTrip)], .rp [.sl (find2_.map cBooking)], .rp [vi find3_]], vs from2_, vi at3_, vi legs] [] (.ms 0) [some ⟨3, 1, r.map cInt⟩] := by
  replace H := H0 H
  unfold m_pf0_impl_arrivals at H
  refine callM_of Tryz.func216 rfl Tryz.ntmps216 Tryz.results216 fun Q hQ hQn => ?_
  exact wk3
instance (n : YNetwork) (find0_ : YNetwork) (find1_ : List YTrip) (find2_ : List YBooking) (find3_ : Int) (from2_ : ByteArray) (at3_ : Int) (legs : Int) : CT Tryz.prog (m_pf0_impl_arrivals n find0_ find1_ find2_ find3_ from2_ at3_ legs) := ⟨216, [.ag (cNetwork n), .fn 238 [.rp [.sl (find0_.legs.map cLeg), .sl (find0_.off.map cInt), vi find0_.change], .rp [.sl (find1_.map cTrip)], .rp [.sl (find2_.map cBooking)], .rp [vi find3_]], vs from2_, vi at3_, vi legs], [], fun r => .ms 0, fun r => [some ⟨3, 1, r.map cInt⟩], ok_pf0_impl_arrivals n find0_ find1_ find2_ find3_ from2_ at3_ legs⟩
def m_pf0_impl_lastLeg_b0 (n : YNetwork) (find0_ : YNetwork) (find1_ : List YTrip) (find2_ : List YBooking) (find3_ : Int) (places : List ByteArray) (before : List Int) (from4_ : ByteArray) (k : Int) (due : Int) (s0 : Int) : Option (Int ⊕ (Unit ⊕ (YTrip × Bool))) :=
 cond (decide (s0 < (n.legs.length : Int)))
 ((getI n.legs s0).bind fun y1 =>
 (m_impl_placeAt places y1.from_).bind fun y2 =>
 (getI places k).bind fun y3 =>
 cond (!decide (y1.to_ = y3))
 (some (.inl (w64 (s0 + 1))))
 ((getI before y2).bind fun y4 =>
 cond (decide (y4 < 0))
 (some (.inl (w64 (s0 + 1))))
 ((getI before y2).bind fun y5 =>
 (m_impl_readyAt n y5 (decide (y1.from_ = from4_))).bind fun y6 =>
 (m_impl_freeOf_1 s0 y6 find0_ find1_ find2_ find3_).bind fun y7 =>
 cond y7.2
 ((m_impl_ends n y7.1).bind fun y8 =>
 cond (decide (y8 = due))
 (some (.inr (.inr (y7.1, true))))
 (some (.inl (w64 (s0 + 1)))))
 (some (.inl (w64 (s0 + 1)))))))
 (some (.inr (.inl ())))
instance (n : YNetwork) (find0_ : YNetwork) (find1_ : List YTrip) (find2_ : List YBooking) (find3_ : Int) (places : List ByteArray) (before : List Int) (from4_ : ByteArray) (k : Int) (due : Int) : LoopE (m_pf0_impl_lastLeg_b0 n find0_ find1_ find2_ find3_ places before from4_ k due) := ⟨fun s0 => (.un :: .fn 238 [.rp [.sl (find0_.legs.map cLeg), .sl (find0_.off.map cInt), vi find0_.change], .rp [.sl (find1_.map cTrip)], .rp [.sl (find2_.map cBooking)], .rp [vi find3_]] :: .sl (places.map cStr) :: .sl (before.map cInt) :: vs from4_ :: vi k :: vi due :: .be 0 0 0 :: .un :: .un :: .un :: .un :: .un :: .un :: .be 1 0 0 :: .un :: .un :: .un :: .un :: .un :: .un :: .un :: .sl (n.legs.map cLeg) :: vi (n.legs.length : Int) :: vi s0 :: .un :: .un :: .un :: .un :: .un :: .un :: .un :: .un :: .un :: .un :: .un :: .un :: .un :: .un :: .un :: .un :: .un :: .un :: .un :: .un :: .un :: .un :: .un :: .un :: .un :: .un :: .un :: .un :: .un :: .un :: .un :: .un :: .un :: .un :: .un :: .un :: .un :: .un :: .un :: .un :: .un :: .un :: .un :: .un :: .un :: .un :: .un :: .un :: .un :: []), fun s0 => [some ⟨35, 3, [[.sl (n.legs.map cLeg), .sl (n.off.map cInt), vi n.change]]⟩, some ⟨55, 2, [[vi 0, vi 0]]⟩]⟩
def m_pf0_impl_lastLeg (n : YNetwork) (find0_ : YNetwork) (find1_ : List YTrip) (find2_ : List YBooking) (find3_ : Int) (places : List ByteArray) (before : List Int) (from4_ : ByteArray) (k : Int) (due : Int) : Option (YTrip × Bool) :=
 (iterF (m_pf0_impl_lastLeg_b0 n find0_ find1_ find2_ find3_ places before from4_ k due) NN 0).bind (selim (fun o0 =>
 some ((⟨0, 0⟩ : YTrip), false)) (fun r => some r))
theorem ok_pf0_impl_lastLeg (n : YNetwork) (find0_ : YNetwork) (find1_ : List YTrip) (find2_ : List YBooking) (find3_ : Int) (places : List ByteArray) (before : List Int) (from4_ : ByteArray) (k : Int) (due : Int) {r : YTrip × Bool} (H : m_pf0_impl_lastLeg n find0_ find1_ find2_ find3_ places before from4_ k due = some r) : CallM Tryz.prog 217 [.ag (cNetwork n), .fn 238 [.rp [.sl (find0_.legs.map cLeg), .sl (find0_.off.map cInt), vi find0_.change], .rp [.sl (find1_.map cTrip)], .rp [.sl (find2_.map cBooking)], .rp [vi find3_]], .sl (places.map cStr), .sl (before.map cInt), vs from4_, vi k, vi due] [] (.tu [.ag [vi r.1.leg, vi r.1.day], vb r.2]) [] := by
  replace H := H0 H
  unfold m_pf0_impl_lastLeg at H
  refine callM_of Tryz.func217 rfl Tryz.ntmps217 Tryz.results217 fun Q hQ hQn => ?_
  exact wk3
instance (n : YNetwork) (find0_ : YNetwork) (find1_ : List YTrip) (find2_ : List YBooking) (find3_ : Int) (places : List ByteArray) (before : List Int) (from4_ : ByteArray) (k : Int) (due : Int) : CT Tryz.prog (m_pf0_impl_lastLeg n find0_ find1_ find2_ find3_ places before from4_ k due) := ⟨217, [.ag (cNetwork n), .fn 238 [.rp [.sl (find0_.legs.map cLeg), .sl (find0_.off.map cInt), vi find0_.change], .rp [.sl (find1_.map cTrip)], .rp [.sl (find2_.map cBooking)], .rp [vi find3_]], .sl (places.map cStr), .sl (before.map cInt), vs from4_, vi k, vi due], [], fun r => .tu [.ag [vi r.1.leg, vi r.1.day], vb r.2], fun r => [], ok_pf0_impl_lastLeg n find0_ find1_ find2_ find3_ places before from4_ k due⟩
def m_pf0_impl_wayTo_b0 (n : YNetwork) (find0_ : YNetwork) (find1_ : List YTrip) (find2_ : List YBooking) (find3_ : Int) (from2_ : ByteArray) (at4_ : Int) (y1 : List ByteArray) (y2 : Int) (s0 : Int × (List (List Int))) : Option ((Int × (List (List Int))) ⊕ ((List (List Int)) ⊕ ((List YTrip) × Bool))) :=
 cond (decide (s0.1 ≤ (y1.length : Int)))
 ((m_pf0_impl_arrivals n find0_ find1_ find2_ find3_ from2_ at4_ s0.1).bind fun y3 =>
 cond (decide ((y3.length : Int) = 0))
 (some (.inr (.inr ([], false))))
 (cond (decide (y2 < 0))
 (some (.inr (.inr ([], false))))
 ((frz (.un :: .fn 238 [.rp [.sl (find0_.legs.map cLeg), .sl (find0_.off.map cInt), vi find0_.change], .rp [.sl (find1_.map cTrip)], .rp [.sl (find2_.map cBooking)], .rp [vi find3_]] :: vs from2_ :: .un :: vi at4_ :: .be 0 0 0 :: .un :: .un :: .un :: .un :: .un :: .un :: .ms 1 :: vi y2 :: .ms 2 :: vi s0.1 :: .sl (y3.map cInt) :: .un :: .un :: .un :: .un :: .un :: .un :: .un :: .un :: .un :: .un :: .un :: .un :: .un :: .un :: .un :: .un :: .un :: .un :: .un :: .un :: .un :: .un :: .un :: .un :: .un :: .un :: .un :: .un :: .un :: .un :: .un :: .un :: .un :: .un :: .un :: .un :: .un :: .un :: .un :: .un :: .un :: .un :: .un :: .un :: .un :: .un :: .un :: .un :: .un :: .un :: .un :: .un :: .un :: .un :: .un :: .un :: .un :: .un :: .un :: .un :: .un :: .un :: .un :: .un :: .un :: .un :: .un :: .un :: .un :: .un :: .un :: .un :: .un :: .un :: .un :: .un :: .un :: .un :: .un :: .un :: .un :: .un :: .un :: .un :: .un :: .un :: .un :: .un :: .un :: .un :: .un :: .un :: .un :: .un :: .un :: .un :: .un :: .un :: .un :: .un :: .un :: .un :: .un :: .un :: .un :: .un :: .un :: .un :: .un :: .un :: .un :: .un :: .un :: .un :: .un :: .un :: []) [some ⟨35, 3, [[.sl (n.legs.map cLeg), .sl (n.off.map cInt), vi n.change]]⟩, some ⟨9, 1, y1.map cStr⟩, some ⟨23, 1, s0.2.map cIntS⟩]).bind fun _ =>
 (chk (appOk ((s0.2 : List (List Int)).length + ([y3] : List (List Int)).length) 24)).bind fun _ =>
 some (.inl ((w64 (s0.1 + 1)), ((s0.2 : List (List Int)) ++ [y3]))))))
 (some (.inr (.inl s0.2)))
instance (n : YNetwork) (find0_ : YNetwork) (find1_ : List YTrip) (find2_ : List YBooking) (find3_ : Int) (from2_ : ByteArray) (at4_ : Int) (y1 : List ByteArray) (y2 : Int) : LoopE (m_pf0_impl_wayTo_b0 n find0_ find1_ find2_ find3_ from2_ at4_ y1 y2) := ⟨fun s0 => (.un :: .fn 238 [.rp [.sl (find0_.legs.map cLeg), .sl (find0_.off.map cInt), vi find0_.change], .rp [.sl (find1_.map cTrip)], .rp [.sl (find2_.map cBooking)], .rp [vi find3_]] :: vs from2_ :: .un :: vi at4_ :: .be 0 0 0 :: .un :: .un :: .un :: .un :: .un :: .un :: .ms 1 :: vi y2 :: .ms 2 :: vi s0.1 :: .un :: .un :: .un :: .un :: .un :: .un :: .un :: .un :: .un :: .un :: .un :: .un :: .un :: .un :: .un :: .un :: .un :: .un :: .un :: .un :: .un :: .un :: .un :: .un :: .un :: .un :: .un :: .un :: .un :: .un :: .un :: .un :: .un :: .un :: .un :: .un :: .un :: .un :: .un :: .un :: .un :: .un :: .un :: .un :: .un :: .un :: .un :: .un :: .un :: .un :: .un :: .un :: .un :: .un :: .un :: .un :: .un :: .un :: .un :: .un :: .un :: .un :: .un :: .un :: .un :: .un :: .un :: .un :: .un :: .un :: .un :: .un :: .un :: .un :: .un :: .un :: .un :: .un :: .un :: .un :: .un :: .un :: .un :: .un :: .un :: .un :: .un :: .un :: .un :: .un :: .un :: .un :: .un :: .un :: .un :: .un :: .un :: .un :: .un :: .un :: .un :: .un :: .un :: .un :: .un :: .un :: .un :: .un :: .un :: .un :: .un :: .un :: .un :: .un :: .un :: .un :: .un :: []), fun s0 => [some ⟨35, 3, [[.sl (n.legs.map cLeg), .sl (n.off.map cInt), vi n.change]]⟩, some ⟨9, 1, y1.map cStr⟩, some ⟨23, 1, s0.2.map cIntS⟩]⟩
def m_pf0_impl_wayTo_b1 (n : YNetwork) (find0_ : YNetwork) (find1_ : List YTrip) (find2_ : List YBooking) (find3_ : Int) (from2_ : ByteArray) (y1 : List ByteArray) (y2 : Int) (o0 : (List (List Int))) (y5 : Int) (s1 : Int) : Option (Int ⊕ Int) :=
 (getI o0 s1).bind fun y6 =>
 (getI y6 y2).bind fun y7 =>
 cond (!decide (y7 = y5))
 (some (.inl (w64 (s1 + 1))))
 (some (.inr s1))
instance (n : YNetwork) (find0_ : YNetwork) (find1_ : List YTrip) (find2_ : List YBooking) (find3_ : Int) (from2_ : ByteArray) (y1 : List ByteArray) (y2 : Int) (o0 : (List (List Int))) (y5 : Int) : LoopE (m_pf0_impl_wayTo_b1 n find0_ find1_ find2_ find3_ from2_ y1 y2 o0 y5) := ⟨fun s1 => (.un :: .fn 238 [.rp [.sl (find0_.legs.map cLeg), .sl (find0_.off.map cInt), vi find0_.change], .rp [.sl (find1_.map cTrip)], .rp [.sl (find2_.map cBooking)], .rp [vi find3_]] :: vs from2_ :: .un :: .un :: .be 0 0 0 :: .un :: .un :: .un :: .un :: .un :: .un :: .ms 1 :: vi y2 :: .ms 2 :: .un :: .un :: vi y5 :: vi s1 :: .un :: .un :: .un :: .un :: .un :: .un :: .un :: .un :: .un :: .un :: .un :: .un :: .un :: .un :: .un :: .un :: .un :: .un :: .un :: .un :: .un :: .un :: .un :: .un :: .un :: .un :: .un :: .un :: .un :: .un :: .un :: .un :: .un :: .un :: .un :: .un :: .un :: .un :: .un :: .un :: .un :: .un :: .un :: .un :: .un :: .un :: .un :: .un :: .un :: .un :: .un :: .un :: .un :: .un :: .un :: .un :: .un :: .un :: .un :: .un :: .un :: .un :: .un :: .un :: .un :: .un :: .un :: .un :: .un :: .un :: .un :: .un :: .un :: .un :: .un :: .un :: .un :: .un :: .un :: .un :: .un :: .un :: .un :: .un :: .un :: .un :: .un :: .un :: .un :: .un :: .un :: .un :: .un :: .un :: .un :: .un :: .un :: .un :: .un :: .un :: .un :: .un :: .un :: .un :: .un :: .un :: .un :: .un :: .un :: .un :: .un :: .un :: .un :: .un :: []), fun s1 => [some ⟨35, 3, [[.sl (n.legs.map cLeg), .sl (n.off.map cInt), vi n.change]]⟩, some ⟨9, 1, y1.map cStr⟩, some ⟨23, 1, o0.map cIntS⟩]⟩
def m_pf0_impl_wayTo_b2 (n : YNetwork) (find0_ : YNetwork) (find1_ : List YTrip) (find2_ : List YBooking) (find3_ : Int) (from2_ : ByteArray) (y1 : List ByteArray) (o0 : (List (List Int))) (s2 : Int × Int × Int × (List YTrip)) : Option ((Int × Int × Int × (List YTrip)) ⊕ ((List YTrip) ⊕ ((List YTrip) × Bool))) :=
 cond (decide (0 < s2.2.2.1))
 ((getI o0 (w64 (s2.2.2.1 - 1))).bind fun y8 =>
 (m_pf0_impl_lastLeg n find0_ find1_ find2_ find3_ (y1 : List ByteArray) y8 from2_ s2.1 s2.2.1).bind fun y9 =>
 cond (!y9.2)
 (some (.inr (.inr ([], false))))
 ((chk (appOk ((s2.2.2.2 : List YTrip).length + ([y9.1] : List YTrip).length) 16)).bind fun _ =>
 (getI n.legs y9.1.leg).bind fun y10 =>
 (m_impl_placeAt (y1 : List ByteArray) y10.from_).bind fun y11 =>
 (getI o0 (w64 (s2.2.2.1 - 1))).bind fun y12 =>
 (getI y12 y11).bind fun y13 =>
 some (.inl (y11, y13, (w64 (s2.2.2.1 - 1)), ((s2.2.2.2 : List YTrip) ++ [y9.1])))))
 (some (.inr (.inl s2.2.2.2)))
instance (n : YNetwork) (find0_ : YNetwork) (find1_ : List YTrip) (find2_ : List YBooking) (find3_ : Int) (from2_ : ByteArray) (y1 : List ByteArray) (o0 : (List (List Int))) : LoopE (m_pf0_impl_wayTo_b2 n find0_ find1_ find2_ find3_ from2_ y1 o0) := ⟨fun s2 => (.un :: .fn 238 [.rp [.sl (find0_.legs.map cLeg), .sl (find0_.off.map cInt), vi find0_.change], .rp [.sl (find1_.map cTrip)], .rp [.sl (find2_.map cBooking)], .rp [vi find3_]] :: vs from2_ :: .un :: .un :: .be 0 0 0 :: .un :: .un :: .un :: .un :: .un :: .un :: .sl ((y1 : List ByteArray).map cStr) :: vi s2.1 :: .ms 1 :: .un :: .un :: vi s2.2.1 :: vi s2.2.2.1 :: .ms 2 :: .un :: .un :: .un :: .un :: .un :: .un :: .un :: .un :: .un :: .un :: .un :: .un :: .un :: .un :: .un :: .un :: .un :: .un :: .un :: .un :: .un :: .un :: .un :: .un :: .un :: .un :: .un :: .un :: .un :: .un :: .un :: .un :: .un :: .un :: .un :: .un :: .un :: .un :: .un :: .un :: .un :: .un :: .un :: .un :: .un :: .un :: .un :: .un :: .un :: .un :: .un :: .un :: .un :: .un :: .un :: .un :: .un :: .un :: .un :: .un :: .un :: .un :: .un :: .un :: .un :: .un :: .un :: .un :: .un :: .un :: .un :: .un :: .un :: .un :: .un :: .un :: .un :: .un :: .un :: .un :: .un :: .un :: .un :: .un :: .un :: .un :: .un :: .un :: .un :: .un :: .un :: .un :: .un :: .un :: .un :: .un :: .un :: .un :: .un :: .un :: .un :: .un :: .un :: .un :: .un :: .un :: .un :: .un :: .un :: .un :: .un :: .un :: .un :: []), fun s2 => [some ⟨35, 3, [[.sl (n.legs.map cLeg), .sl (n.off.map cInt), vi n.change]]⟩, some ⟨23, 1, o0.map cIntS⟩, some ⟨55, 2, s2.2.2.2.map cTrip⟩]⟩
def m_pf0_impl_wayTo_b3 (o2 : (List YTrip)) (s3 : Int × (List YTrip)) : Option ((Int × (List YTrip)) ⊕ (List YTrip)) :=
 cond (decide (0 ≤ s3.1))
 ((getI o2 s3.1).bind fun y14 =>
 (chk (appOk ((s3.2 : List YTrip).length + ([y14] : List YTrip).length) 16)).bind fun _ =>
 some (.inl ((w64 (s3.1 - 1)), ((s3.2 : List YTrip) ++ [y14]))))
 (some (.inr s3.2))
instance (o2 : (List YTrip)) : LoopE (m_pf0_impl_wayTo_b3 o2) := ⟨fun s3 => (.un :: .un :: .un :: .un :: .un :: .un :: .un :: .un :: .un :: .un :: .un :: .un :: .un :: .un :: .un :: .un :: .un :: .un :: .un :: .ms 0 :: .un :: .un :: .ms 1 :: vi s3.1 :: .un :: .un :: .un :: .un :: .un :: .un :: .un :: .un :: .un :: .un :: .un :: .un :: .un :: .un :: .un :: .un :: .un :: .un :: .un :: .un :: .un :: .un :: .un :: .un :: .un :: .un :: .un :: .un :: .un :: .un :: .un :: .un :: .un :: .un :: .un :: .un :: .un :: .un :: .un :: .un :: .un :: .un :: .un :: .un :: .un :: .un :: .un :: .un :: .un :: .un :: .un :: .un :: .un :: .un :: .un :: .un :: .un :: .un :: .un :: .un :: .un :: .un :: .un :: .un :: .un :: .un :: .un :: .un :: .un :: .un :: .un :: .un :: .un :: .un :: .un :: .un :: .un :: .un :: .un :: .un :: .un :: .un :: .un :: .un :: .un :: .un :: .un :: .un :: .un :: .un :: .un :: .un :: .un :: .un :: .un :: .un :: .un :: .un :: .un :: .un :: .un :: .un :: .un :: .un :: .un :: .un :: .un :: .un :: .un :: []), fun s3 => [some ⟨55, 2, o2.map cTrip⟩, some ⟨55, 2, s3.2.map cTrip⟩]⟩
def m_pf0_impl_wayTo (n : YNetwork) (find0_ : YNetwork) (find1_ : List YTrip) (find2_ : List YBooking) (find3_ : Int) (from2_ : ByteArray) (to_ : ByteArray) (at4_ : Int) : Option ((List YTrip) × Bool) :=
 (m_impl_PlacesOf n).bind fun y1 =>
 (m_impl_placeAt y1 to_).bind fun y2 =>
 (iterF (m_pf0_impl_wayTo_b0 n find0_ find1_ find2_ find3_ from2_ at4_ y1 y2) NN (0, ([] : List (List Int)))).bind (selim (fun o0 =>
 (getI o0 (y1.length : Int)).bind fun y4 =>
 (getI y4 y2).bind fun y5 =>
 cond (decide (y5 < 0))
 (some ([], false))
 ((iterF (m_pf0_impl_wayTo_b1 n find0_ find1_ find2_ find3_ from2_ y1 y2 o0 y5) NN 0).bind (fun o1 =>
 (iterF (m_pf0_impl_wayTo_b2 n find0_ find1_ find2_ find3_ from2_ y1 o0) NN (y2, y5, o1, ([] : List YTrip))).bind (selim (fun o2 =>
 (iterF (m_pf0_impl_wayTo_b3 o2) NN ((w64 ((o2.length : Int) - 1)), ([] : List YTrip))).bind (fun o3 =>
 some (o3, true))) (fun r => some r))))) (fun r => some r))
theorem ok_pf0_impl_wayTo (n : YNetwork) (find0_ : YNetwork) (find1_ : List YTrip) (find2_ : List YBooking) (find3_ : Int) (from2_ : ByteArray) (to_ : ByteArray) (at4_ : Int) {r : (List YTrip) × Bool} (H : m_pf0_impl_wayTo n find0_ find1_ find2_ find3_ from2_ to_ at4_ = some r) : CallM Tryz.prog 151 [.ag (cNetwork n), .fn 238 [.rp [.sl (find0_.legs.map cLeg), .sl (find0_.off.map cInt), vi find0_.change], .rp [.sl (find1_.map cTrip)], .rp [.sl (find2_.map cBooking)], .rp [vi find3_]], vs from2_, vs to_, vi at4_] [] (.tu [.ms 0, vb r.2]) [some ⟨55, 2, r.1.map cTrip⟩] := by
  replace H := H0 H
  unfold m_pf0_impl_wayTo at H
  refine callM_of Tryz.func151 rfl Tryz.ntmps151 Tryz.results151 fun Q hQ hQn => ?_
  exact wk3
instance (n : YNetwork) (find0_ : YNetwork) (find1_ : List YTrip) (find2_ : List YBooking) (find3_ : Int) (from2_ : ByteArray) (to_ : ByteArray) (at4_ : Int) : CT Tryz.prog (m_pf0_impl_wayTo n find0_ find1_ find2_ find3_ from2_ to_ at4_) := ⟨151, [.ag (cNetwork n), .fn 238 [.rp [.sl (find0_.legs.map cLeg), .sl (find0_.off.map cInt), vi find0_.change], .rp [.sl (find1_.map cTrip)], .rp [.sl (find2_.map cBooking)], .rp [vi find3_]], vs from2_, vs to_, vi at4_], [], fun r => .tu [.ms 0, vb r.2], fun r => [some ⟨55, 2, r.1.map cTrip⟩], ok_pf0_impl_wayTo n find0_ find1_ find2_ find3_ from2_ to_ at4_⟩
def m_impl_freeOf (n : YNetwork) (l : List YBooking) (closed : List YTrip) (weight : Int) : Option (YNetwork × (List YTrip) × (List YBooking) × Int) :=
 some (n, closed, l, weight)
theorem ok_impl_freeOf (n : YNetwork) (l : List YBooking) (closed : List YTrip) (weight : Int) {r : (YNetwork × (List YTrip) × (List YBooking) × Int)} (H : m_impl_freeOf n l closed weight = some r) : CallM Tryz.prog 199 [.ag (cNetwork n), .sl (l.map cBooking), .sl (closed.map cTrip), vi weight] [] (.fn 238 [.rp [.sl (r.1.legs.map cLeg), .sl (r.1.off.map cInt), vi r.1.change], .rp [.sl (r.2.1.map cTrip)], .rp [.sl (r.2.2.1.map cBooking)], .rp [vi r.2.2.2]]) [] := by
  replace H := H0 H
  unfold m_impl_freeOf at H
  refine callM_of Tryz.func199 rfl Tryz.ntmps199 Tryz.results199 fun Q hQ hQn => ?_
  exact wk3
instance (n : YNetwork) (l : List YBooking) (closed : List YTrip) (weight : Int) : CT Tryz.prog (m_impl_freeOf n l closed weight) := ⟨199, [.ag (cNetwork n), .sl (l.map cBooking), .sl (closed.map cTrip), vi weight], [], fun r => .fn 238 [.rp [.sl (r.1.legs.map cLeg), .sl (r.1.off.map cInt), vi r.1.change], .rp [.sl (r.2.1.map cTrip)], .rp [.sl (r.2.2.1.map cBooking)], .rp [vi r.2.2.2]], fun r => [], ok_impl_freeOf n l closed weight⟩
def m_impl_FindRoom (n : YNetwork) (l : List YBooking) (closed : List YTrip) (from3_ : ByteArray) (to_ : ByteArray) (at5_ : Int) (weight : Int) : Option ((List YTrip) × Bool) :=
 (m_impl_AreBookings n l).bind fun y1 =>
 cond (!y1)
 (some ([], false))
 (cond (decide (weight < 1))
 (some ([], false))
 ((m_impl_freeOf n l closed weight).bind fun y2 =>
 (m_pf0_impl_wayTo n y2.1 y2.2.1 y2.2.2.1 y2.2.2.2 from3_ to_ at5_).bind fun y3 =>
 some (y3.1, y3.2)))
theorem ok_impl_FindRoom (n : YNetwork) (l : List YBooking) (closed : List YTrip) (from3_ : ByteArray) (to_ : ByteArray) (at5_ : Int) (weight : Int) {r : (List YTrip) × Bool} (H : m_impl_FindRoom n l closed from3_ to_ at5_ weight = some r) : CallM Tryz.prog 134 [.ag (cNetwork n), .sl (l.map cBooking), .sl (closed.map cTrip), vs from3_, vs to_, vi at5_, vi weight] [] (.tu [.ms 0, vb r.2]) [some ⟨55, 2, r.1.map cTrip⟩] := by
  replace H := H0 H
  unfold m_impl_FindRoom at H
  refine callM_of Tryz.func134 rfl Tryz.ntmps134 Tryz.results134 fun Q hQ hQn => ?_
  exact wk3
instance (n : YNetwork) (l : List YBooking) (closed : List YTrip) (from3_ : ByteArray) (to_ : ByteArray) (at5_ : Int) (weight : Int) : CT Tryz.prog (m_impl_FindRoom n l closed from3_ to_ at5_ weight) := ⟨134, [.ag (cNetwork n), .sl (l.map cBooking), .sl (closed.map cTrip), vs from3_, vs to_, vi at5_, vi weight], [], fun r => .tu [.ms 0, vb r.2], fun r => [some ⟨55, 2, r.1.map cTrip⟩], ok_impl_FindRoom n l closed from3_ to_ at5_ weight⟩
end Go.Proofs.YtmcdjilbkmhfoaaGreat
namespace Go.Proofs.YtmcdjilbkmhfoaaGreat
set_option maxRecDepth 10000
open Go.RowKit
set_option linter.unusedVariables false
set_option linter.unusedSimpArgs false
set_option linter.unusedSectionVars false
theorem ready_eq : @m_impl_readyAt = @m_spec_l4Ready := rfl
def sumM {σ ο ο' : Type} (h : ο → ο') : σ ⊕ ο → σ ⊕ ο'
  | .inl s => .inl s
  | .inr o => .inr (h o)
theorem iterF_map {σ ο ο' : Type} {b1 : σ → Option (σ ⊕ ο)} {b2 : σ → Option (σ ⊕ ο')} (h : ο → ο') (hb : ∀ s, b2 s = (b1 s).map (sumM h)) : ∀ (N : Nat) (s : σ), iterF b2 N s = (iterF b1 N s).map h
  | 0, s => rfl
  | N + 1, s => by
    have ih := iterF_map h hb N
    unfold iterF
    rw [hb s]
    cases h1 : b1 s with
    | none => rfl
    | some r =>
      cases r with
      | inl s' => exact ih s'
      | inr o => rfl
theorem bind_map' {α β γ : Type} (x : Option α) (f : α → Option β) (g : β → γ) : (x.bind f).map g = x.bind fun a => (f a).map g := by cases x <;> rfl
theorem cond_map' {β γ : Type} (b : Bool) (x y : Option β) (g : β → γ) : (cond b x y).map g = cond b (x.map g) (y.map g) := by cases b <;> rfl
def freeM (leg : Int) : Unit ⊕ Int → Unit ⊕ (YTrip × Bool)
  | .inl u => .inl u
  | .inr d => .inr ((⟨leg, d⟩ : YTrip), true)
section
variable {n : YNetwork} (hf : NetFit n)
include hf
theorem free_body (l : List YBooking) (closed : List YTrip) (leg at_ weight : Int) (s : Int) : m_impl_freeOf_1_b0 leg at_ n closed l weight s = (m_spec_l6Next_b0 n l closed leg at_ weight s).map (sumM (freeM leg)) := by
  unfold m_impl_freeOf_1_b0 m_spec_l6Next_b0
  rw [(runs_eq hf leg s).1, starts_eq, loadOf_eq, l6Closed_eq]
  simp only [cond_map', bind_map', Option.map_some, sumM, freeM]
theorem free_eq {l : List YBooking} (hl : l.length ≤ 1048576) {closed : List YTrip} (hc : closed.length ≤ 1048576) {leg : Int} {y : YLeg} (hy : getI n.legs leg = some y) (at_ weight : Int) :
    ∃ d, m_spec_l6Next n l closed leg at_ weight = some d ∧ m_impl_freeOf_1 leg at_ n closed l weight = some (if d < 0 then ((⟨0, 0⟩ : YTrip), false) else ((⟨leg, d⟩ : YTrip), true)) := by
  have hl0 : Tot (iterF (m_spec_l6Next_b0 n l closed leg at_ weight) NN 0) fun r => ∀ d, r = .inr d → 0 ≤ d := by
    refine Tot.loop (fun k s => ∃ i : Nat, s = (i : Int) ∧ i + k = 61) (fun k s hs => ?_) NN 61 0 ⟨0, rfl, rfl⟩ (by unfold NN; omega)
    obtain ⟨i, rfl, hk⟩ := hs
    unfold m_spec_l6Next_b0
    refine Tot.cond (fun hd => ?_) fun hd => Tot.ret (fun d h => by cases h)
    have hi := of_decide_eq_true hd
    have hw : w64 ((i : Int) + 1) = ((i + 1 : Nat) : Int) := by rw [w64_in (by omega)]; omega
    have go : LoopP (fun k (s : Int) => ∃ i : Nat, s = (i : Int) ∧ i + k = 61) (fun r : Unit ⊕ Int => ∀ d, r = .inr d → 0 ≤ d) k (Sum.inl (w64 ((i : Int) + 1))) := ⟨k - 1, by omega, i + 1, hw, by omega⟩
    obtain ⟨b, hb⟩ := runs_v hf leg (i : Int)
    obtain ⟨v, hv⟩ := starts_some (n := n) (t := ⟨leg, (i : Int)⟩) hy
    obtain ⟨q, hq⟩ := loadOf_some hl (⟨leg, (i : Int)⟩ : YTrip)
    rw [hb, Option.bind_some]
    refine Tot.cond (fun _ => ?_) fun _ => Tot.ret go
    rw [hv, Option.bind_some]
    refine Tot.cond (fun _ => ?_) fun _ => Tot.ret go
    rw [l6Closed_eq, hasTrip_v hc, Option.bind_some]
    refine Tot.cond (fun _ => ?_) fun _ => Tot.ret go
    rw [hy, Option.bind_some, hq, Option.bind_some]
    exact Tot.cond (fun _ => Tot.ret (fun d h => by cases h; omega)) fun _ => Tot.ret go
  obtain ⟨r, e, hr⟩ := hl0
  have e2 := iterF_map (freeM leg) (free_body hf l closed leg at_ weight) NN (0 : Int)
  rw [e] at e2
  unfold m_spec_l6Next m_impl_freeOf_1
  rw [e, e2]
  cases r with
  | inl u => exact ⟨-1, rfl, rfl⟩
  | inr d => exact ⟨d, rfl, by rw [if_neg (by have := hr d rfl; omega)]; rfl⟩
theorem leg_both {l : List YBooking} (hl : l.length ≤ 1048576) {closed : List YTrip} (hc : closed.length ≤ 1048576) (weight legs f : Int) {best : List Int} (hb : best.length = (placesV n).length) (k : Int) {lst : List Int} (hlst : lst.length = (placesV n).length) (ch : Bool) {i : Nat} (hi : i < n.legs.length) :
    ∃ lst' ch', m_spec_l6Round_b0 n l closed weight (placesV n) best f ((i : Int), lst) = some (.inl (((i + 1 : Nat) : Int), lst')) ∧ m_pf0_impl_arrivals_b2 n n closed l weight legs (placesV n) f (k, best) ((i : Int), ch, lst) = some (.inl (((i + 1 : Nat) : Int), ch', lst')) ∧ lst'.length = (placesV n).length ∧ ((ch' = ch ∧ lst' = lst) ∨ ch' = true) := by
  have hp := plen hf
  have hll := hf.legs
  have hw : w64 ((i : Int) + 1) = ((i + 1 : Nat) : Int) := by rw [w64_in (by omega)]; omega
  obtain ⟨y, hy, hm⟩ := len_in (xs := n.legs) (i := (i : Int)) ⟨by omega, by omega⟩
  obtain ⟨m1, m2⟩ := legs_in hm
  have a0 := idx_mem m1
  have a1 := (idx_lt (placesV n) y.from_).2
  have b0 := idx_mem m2
  have b1 := (idx_lt (placesV n) y.to_).2
  obtain ⟨v6, g6, _⟩ := len_in (xs := best) (i := idxV (placesV n) y.from_) ⟨a0, by omega⟩
  obtain ⟨v11, g11, _⟩ := len_in (xs := lst) (i := idxV (placesV n) y.to_) ⟨b0, by omega⟩
  obtain ⟨z, ez, _⟩ := ready_tot (n := n) v6 (decide (idxV (placesV n) y.from_ = f))
  obtain ⟨d, ed, ef⟩ := free_eq hf hl hc hy z weight
  obtain ⟨e, he⟩ := ends_some (n := n) (t := ⟨(i : Int), d⟩) hy
  unfold m_spec_l6Round_b0 m_pf0_impl_arrivals_b2
  have hpa : ∀ p, m_impl_placeAt (placesV n) p = some (idxV (placesV n) p) := fun p => by rw [placeAt_eq]; exact idx_v hf p
  simp only [decide_eq_true (show (i : Int) < n.legs.length by omega), cond_true, hy, Option.bind_some, idx_v hf, hpa, g6, hw, ready_eq, ez, ed, ef, g11, ends_eq]
  by_cases hu : v6 < 0
  · simp only [decide_eq_true hu, cond_true]
    exact ⟨lst, ch, rfl, rfl, hlst, .inl ⟨rfl, rfl⟩⟩
  simp only [decide_eq_false hu, cond_false]
  by_cases hd : d < 0
  · simp only [decide_eq_true hd, cond_true, if_pos hd, cond_false]
    exact ⟨lst, ch, rfl, rfl, hlst, .inl ⟨rfl, rfl⟩⟩
  simp only [decide_eq_false hd, cond_false, if_neg hd, cond_true, he, Option.bind_some]
  by_cases h1 : v11 < 0
  · simp only [decide_eq_true h1, cond_true]
    exact ⟨_, true, rfl, rfl, by rw [List.length_set]; exact hlst, .inr rfl⟩
  simp only [decide_eq_false h1, cond_false]
  by_cases h2 : e < v11
  · simp only [decide_eq_true h2, cond_true]
    exact ⟨_, true, rfl, rfl, by rw [List.length_set]; exact hlst, .inr rfl⟩
  · simp only [decide_eq_false h2, cond_false]
    exact ⟨lst, ch, rfl, rfl, hlst, .inl ⟨rfl, rfl⟩⟩
theorem inner_both {l : List YBooking} (hl : l.length ≤ 1048576) {closed : List YTrip} (hc : closed.length ≤ 1048576) (weight legs f : Int) {best : List Int} (hb : best.length = (placesV n).length) (hbl : best.length ≤ 1048576) (k : Int) :
    ∃ r ch, m_spec_l6Round n l closed weight (placesV n) best f = some r ∧ iterF (m_pf0_impl_arrivals_b2 n n closed l weight legs (placesV n) f (k, best)) NN (0, false, best) = some (ch, r) ∧ r.length = (placesV n).length ∧ (ch = false → r = best) := by
  have hll := hf.legs
  have key : ∀ (d i : Nat), i + d = n.legs.length → ∀ (lst : List Int) (ch : Bool), lst.length = (placesV n).length → (ch = false → lst = best) → ∀ N, d < N →
      ∃ r ch', iterF (m_spec_l6Round_b0 n l closed weight (placesV n) best f) N ((i : Int), lst) = some r ∧ iterF (m_pf0_impl_arrivals_b2 n n closed l weight legs (placesV n) f (k, best)) N ((i : Int), ch, lst) = some (ch', r) ∧ r.length = (placesV n).length ∧ (ch' = false → r = best) := by
    intro d
    induction d with
    | zero =>
      intro i hi lst ch h1 h2 N hN
      obtain ⟨N, rfl⟩ : ∃ M, N = M + 1 := ⟨N - 1, by omega⟩
      have hnot : ¬ (i : Int) < n.legs.length := by omega
      refine ⟨lst, ch, ?_, ?_, h1, h2⟩
      · unfold iterF m_spec_l6Round_b0
        simp only [decide_eq_false hnot, cond_false]; rfl
      · unfold iterF m_pf0_impl_arrivals_b2
        simp only [decide_eq_false hnot, cond_false]; rfl
    | succ d ih =>
      intro i hi lst ch h1 h2 N hN
      obtain ⟨N, rfl⟩ : ∃ M, N = M + 1 := ⟨N - 1, by omega⟩
      obtain ⟨lst', ch', e1, e2, h3, h4⟩ := leg_both hf hl hc weight legs f hb k h1 ch (show i < n.legs.length by omega)
      obtain ⟨r, c, q1, q2, q3, q4⟩ := ih (i + 1) (by omega) lst' ch' h3 (fun h => by
        rcases h4 with ⟨a, b⟩ | a
        · rw [b]; exact h2 (a ▸ h)
        · rw [a] at h; cases h) N (by omega)
      refine ⟨r, c, ?_, ?_, q3, q4⟩
      · unfold iterF; rw [e1]; exact q1
      · unfold iterF; rw [e2]; exact q2
  obtain ⟨r, ch, q1, q2, q3, q4⟩ := key n.legs.length 0 (by omega) best false hb (fun _ => rfl) NN (by unfold NN; omega)
  have e0 : ((0 : Nat) : Int) = 0 := rfl
  rw [e0] at q1 q2
  refine ⟨r, ch, ?_, q2, q3, q4⟩
  unfold m_spec_l6Round
  rw [ints_s hbl, Option.bind_some, q1]; rfl
omit hf in
theorem best_const {l : List YBooking} {closed : List YTrip} {weight f at_ : Int} {i : Nat} (h : bestV n l closed weight f at_ (i + 1) = bestV n l closed weight f at_ i) : ∀ k, bestV n l closed weight f at_ (i + k) = bestV n l closed weight f at_ i
  | 0 => rfl
  | k + 1 => by
    have ih := best_const h k
    have e1 : bestV n l closed weight f at_ (i + (k + 1)) = roundV n l closed weight f (bestV n l closed weight f at_ (i + k)) := rfl
    have e2 : bestV n l closed weight f at_ (i + 1) = roundV n l closed weight f (bestV n l closed weight f at_ i) := rfl
    rw [e1, ih, ← e2, h]
theorem outer_both {l : List YBooking} (hl : l.length ≤ 1048576) {closed : List YTrip} (hc : closed.length ≤ 1048576) (weight f at_ : Int) (hp : (placesV n).length ≤ 1048576) (legs : Nat) (hlegs : legs ≤ 1048576) :
    iterF (m_pf0_impl_arrivals_b1 n n closed l weight (legs : Int) (placesV n) f) NN (0, bestV n l closed weight f at_ 0) = some (bestV n l closed weight f at_ legs) := by
  have key : ∀ (d i : Nat), i + d = legs → ∀ N, d < N → iterF (m_pf0_impl_arrivals_b1 n n closed l weight (legs : Int) (placesV n) f) N ((i : Int), bestV n l closed weight f at_ i) = some (bestV n l closed weight f at_ legs) := by
    intro d
    induction d with
    | zero =>
      intro i hi N hN
      obtain ⟨N, rfl⟩ : ∃ M, N = M + 1 := ⟨N - 1, by omega⟩
      have : i = legs := by omega
      subst this
      unfold iterF m_pf0_impl_arrivals_b1
      simp only [decide_eq_false (show ¬ (i : Int) < (i : Int) by omega), cond_false]; rfl
    | succ d ih =>
      intro i hi N hN
      obtain ⟨N, rfl⟩ : ∃ M, N = M + 1 := ⟨N - 1, by omega⟩
      have hbl := best_len hf hl hc weight f at_ i
      have hwi : w64 ((i : Int) + 1) = ((i + 1 : Nat) : Int) := by rw [w64_in (by omega)]; omega
      obtain ⟨r, ch, q1, q2, q3, q4⟩ := inner_both hf hl hc weight (legs : Int) f hbl (by omega) (i : Int)
      have hr : bestV n l closed weight f at_ (i + 1) = r := by
        have := (best_next hf hl hc weight f at_ i).1
        rw [q1] at this
        exact (Option.some.inj this).symm
      have ha : chk (appOk ((([] : List Int) : List Int).length + (bestV n l closed weight f at_ i).length) 8) = some () := by
        simp only [List.length_nil]; exact chk0 (by omega) (by omega)
      have body : m_pf0_impl_arrivals_b1 n n closed l weight (legs : Int) (placesV n) f ((i : Int), bestV n l closed weight f at_ i) = (cond (!ch) (some (.inr r)) (some (.inl (((i + 1 : Nat) : Int), r)))) := by
        unfold m_pf0_impl_arrivals_b1
        simp only [decide_eq_true (show (i : Int) < (legs : Int) by omega), cond_true, ha, Option.bind_some, List.nil_append, q2, hwi]
      unfold iterF
      rw [body]
      cases ch with
      | false =>
        have e := q4 rfl
        rw [← hr] at e
        have hconst := best_const e (d + 1)
        rw [show i + (d + 1) = legs by omega] at hconst
        show some r = _
        rw [← hr, e, hconst]
      | true =>
        rw [← hr]
        exact ih (i + 1) (by omega) N (by omega)
  exact key legs 0 (by omega) NN (by unfold NN; omega)
theorem first_v (hp : (placesV n).length ≤ 1048576) (f : Int) (hf0 : 0 ≤ f ∧ f < ((placesV n).length : Int)) (at_ : Int) : m_spec_l4First (placesV n) f at_ = some ((List.replicate (placesV n).length (-1 : Int)).set f.toNat (if 0 > at_ then 0 else at_)) := by
  have hmax : m_spec_Max at_ 0 = some (if 0 > at_ then 0 else at_) := by
    unfold m_spec_Max
    by_cases h : at_ < 0
    · rw [if_pos (by omega)]
      by_cases h2 : 0 < at_
      · omega
      · simp [h2, h]
    · rw [if_neg (by omega)]
      by_cases h2 : 0 < at_
      · simp [h2, h]
      · have : at_ = 0 := by omega
        subst this; simp
  generalize hm : (if 0 > at_ then 0 else at_ : Int) = mx at hmax ⊢
  have hLl : ((List.replicate (placesV n).length (-1 : Int)).set f.toNat mx).length = (placesV n).length := by simp
  have hLi : ∀ i : Nat, i < (placesV n).length → ((List.replicate (placesV n).length (-1 : Int)).set f.toNat mx)[i]? = some (if (i : Int) = f then mx else -1) := fun i hi => by
    by_cases h : (i : Int) = f
    · rw [if_pos h, show f.toNat = i by omega, List.getElem?_set_self (by simpa using hi)]
    · rw [if_neg h, List.getElem?_set_ne (by omega), List.getElem?_replicate, if_pos hi]
  generalize (List.replicate (placesV n).length (-1 : Int)).set f.toNat mx = L at hLl hLi ⊢
  have e : iterF (m_spec_l4First_b0 (placesV n) f at_) NN (0, []) = some L := by
    have := iter_st0 (body := m_spec_l4First_b0 (placesV n) f at_) (fun i : Nat => ((i : Int), L.take i)) (n := (placesV n).length) (o := L) (fun i hi => ?_) ?_ NN (by unfold NN; omega)
    · simpa using this
    · have hw : w64 ((i : Int) + 1) = ((i + 1 : Nat) : Int) := by rw [w64_in (by omega)]; omega
      have hx := hLi i hi
      have hlen : (L.take i).length = i := by rw [List.length_take]; omega
      have ha : ∀ x : Int, chk (appOk ((L.take i).length + ([x] : List Int).length) 8) = some () := fun x => app_ok1 (by simp only [List.length_cons, List.length_nil]; omega) (by omega)
      unfold m_spec_l4First_b0
      rw [← take_snoc' hx]
      by_cases h : (i : Int) = f
      · simp only [decide_eq_true (show (i : Int) < ((placesV n).length : Int) by omega), decide_eq_true h, cond_true, hmax, Option.bind_some, ha, hw, if_pos h]
      · simp only [decide_eq_true (show (i : Int) < ((placesV n).length : Int) by omega), decide_eq_false h, cond_true, cond_false, Option.bind_some, ha, hw, if_neg h]
    · unfold m_spec_l4First_b0
      simp [← hLl]
  unfold m_spec_l4First
  rw [e]; rfl
theorem arrivals_v {l : List YBooking} (hl : l.length ≤ 1048576) {closed : List YTrip} (hc : closed.length ≤ 1048576) (weight : Int) {from_ : ByteArray} (h0 : 0 ≤ idxV (placesV n) from_) {at_ : Int} (hat : at_ ≤ 100000) (hp : (placesV n).length ≤ 1048576) (legs : Nat) (hlegs : legs ≤ 1048576) :
    m_pf0_impl_arrivals n n closed l weight from_ at_ (legs : Int) = some (bestV n l closed weight (idxV (placesV n) from_) at_ legs) := by
  have hlt := (idx_lt (placesV n) from_).2
  have e0 : iterF (m_pf0_impl_arrivals_b0 n n closed l weight at_ (legs : Int) (placesV n) (idxV (placesV n) from_)) NN (0, []) = some (List.replicate (placesV n).length (-1 : Int)) := by
    refine iter_st0 (body := m_pf0_impl_arrivals_b0 n n closed l weight at_ (legs : Int) (placesV n) (idxV (placesV n) from_)) (fun i : Nat => ((i : Int), List.replicate i (-1 : Int))) (n := (placesV n).length) (o := List.replicate (placesV n).length (-1 : Int)) (fun i hi => ?_) ?_ NN (by unfold NN; omega)
    · have hw : w64 ((i : Int) + 1) = ((i + 1 : Nat) : Int) := by rw [w64_in (by omega)]; omega
      have ha : chk (appOk ((List.replicate i (-1 : Int)).length + ([(-1)] : List Int).length) 8) = some () := app_ok1 (by simp only [List.length_replicate, List.length_cons, List.length_nil]; omega) (by omega)
      unfold m_pf0_impl_arrivals_b0
      simp only [decide_eq_true (show (i : Int) < ((placesV n).length : Int) by omega), cond_true, ha, Option.bind_some, hw, List.replicate_succ']
    · unfold m_pf0_impl_arrivals_b0
      simp
  have hfirst : bestV n l closed weight (idxV (placesV n) from_) at_ 0 = (List.replicate (placesV n).length (-1 : Int)).set (idxV (placesV n) from_).toNat (if 0 > at_ then 0 else at_) := by
    unfold bestV; rw [first_v hf hp _ ⟨h0, hlt⟩]; rfl
  obtain ⟨x, hx, _⟩ := len_in (xs := List.replicate (placesV n).length (-1 : Int)) (i := idxV (placesV n) from_) ⟨h0, by rw [List.length_replicate]; exact hlt⟩
  unfold m_pf0_impl_arrivals
  rw [placeAt_eq, (places_eq hf).1, (places_eq hf).2]
  simp only [Option.bind_some, idx_v hf, decide_eq_false (show ¬ idxV (placesV n) from_ < 0 by omega), decide_eq_false (show ¬ 100000 < at_ by omega), decide_eq_false (show ¬ (legs : Int) < 0 by omega), cond_false, e0, hx, ← hfirst, outer_both hf hl hc weight _ at_ hp legs hlegs]
end
end Go.Proofs.YtmcdjilbkmhfoaaGreat
namespace Go.Proofs.YtmcdjilbkmhfoaaGreat
set_option maxRecDepth 10000
open Go.RowKit
set_option linter.unusedVariables false
set_option linter.unusedSimpArgs false
set_option linter.unusedSectionVars false
section
variable {n : YNetwork} (hf : NetFit n)
include hf
structure Found (n : YNetwork) (l : List YBooking) (closed : List YTrip) (at_ weight : Int) (t : YTrip) : Prop where
  trip : tripB n t = true
  start : at_ ≤ startV n t
  open_ : m_spec_l6Closed closed t = some false
  room : ∃ y q, getI n.legs t.leg = some y ∧ m_spec_LoadOf l t = some q ∧ weight ≤ w64 (y.room - q)
theorem next_all {l : List YBooking} {closed : List YTrip} {leg at_ weight d : Int} (h : m_spec_l6Next n l closed leg at_ weight = some d) : d = -1 ∨ Found n l closed at_ weight ⟨leg, d⟩ := by
  unfold m_spec_l6Next at h
  cases e : iterF (m_spec_l6Next_b0 n l closed leg at_ weight) NN 0 with
  | none => rw [e] at h; cases h
  | some r =>
    rw [e] at h
    cases r with
    | inl u => exact .inl (Option.some.inj h).symm
    | inr d' =>
      obtain rfl : d' = d := Option.some.inj h
      refine .inr ?_
      have := iter_post (body := m_spec_l6Next_b0 n l closed leg at_ weight) (P := fun r => ∀ d, r = .inr d → Found n l closed at_ weight ⟨leg, d⟩) (fun s o hs => ?_) NN 0 _ e
      · exact this d' rfl
      · unfold m_spec_l6Next_b0 at hs
        by_cases h60 : s ≤ 60
        · rw [decide_eq_true h60, cond_true] at hs
          obtain ⟨_, b, hb⟩ := runs_eq hf leg s
          have hb' := hb
          rw [hb, Option.bind_some] at hs
          intro d hd
          subst hd
          cases b with
          | false => simp at hs
          | true =>
            have ht : tripB n ⟨leg, s⟩ = true := by unfold tripB; rw [hb']; rfl
            simp only [cond_true] at hs
            cases h1 : m_spec_l3Starts n ⟨leg, s⟩ with
            | none => rw [h1] at hs; cases hs
            | some v =>
              rw [h1, Option.bind_some] at hs
              by_cases h2 : at_ ≤ v
              · rw [decide_eq_true h2, cond_true] at hs
                cases h3 : m_spec_l6Closed closed ⟨leg, s⟩ with
                | none => rw [h3] at hs; cases hs
                | some c =>
                  rw [h3, Option.bind_some] at hs
                  cases c with
                  | true => simp at hs
                  | false =>
                    simp only [Bool.not_false, cond_true] at hs
                    cases h4 : getI n.legs leg with
                    | none => rw [h4] at hs; cases hs
                    | some y =>
                      rw [h4, Option.bind_some] at hs
                      cases h5 : m_spec_LoadOf l ⟨leg, s⟩ with
                      | none => rw [h5] at hs; cases hs
                      | some q =>
                        rw [h5, Option.bind_some] at hs
                        by_cases h6 : weight ≤ w64 (y.room - q)
                        · rw [decide_eq_true h6, cond_true] at hs
                          have : s = d := by simpa using hs
                          rw [← this]
                          exact ⟨ht, by unfold startV; rw [h1]; exact h2, h3, y, q, h4, h5, h6⟩
                        · rw [decide_eq_false h6] at hs; simp at hs
              · rw [decide_eq_false h2] at hs; simp at hs
        · rw [decide_eq_false h60] at hs
          intro d hd
          subst hd
          simp at hs
theorem next_trip {l : List YBooking} {closed : List YTrip} {leg at_ weight d : Int} (h : m_spec_l6Next n l closed leg at_ weight = some d) : d = -1 ∨ tripB n ⟨leg, d⟩ = true := by
  rcases next_all hf h with h | h
  · exact .inl h
  · exact .inr h.trip
omit hf in
theorem getI_set_self {α : Type} {xs : List α} {i : Int} {v : α} (h0 : 0 ≤ i) (h1 : i < xs.length) : getI (xs.set i.toNat v) i = some v := by
  unfold getI; rw [if_pos h0, List.getElem?_set_self (by omega)]
omit hf in
theorem getI_set_ne {α : Type} {xs : List α} {i j : Int} {v : α} (h0 : 0 ≤ i) (h : j ≠ i) : getI (xs.set i.toNat v) j = getI xs j := by
  unfold getI
  by_cases hj : 0 ≤ j
  · rw [if_pos hj, if_pos hj, List.getElem?_set_ne (by omega)]
  · rw [if_neg hj, if_neg hj]
def LeAt (r : List Int) (x v : Int) : Prop := ∃ w, getI r x = some w ∧ 0 ≤ w ∧ w ≤ v
def CandI (n : YNetwork) (l : List YBooking) (closed : List YTrip) (weight f : Int) (r : List Int) (i : Nat) (x v : Int) : Prop :=
  ∃ (y : YLeg) (d u z : Int), n.legs[i]? = some y ∧ idxV (placesV n) y.to_ = x ∧ getI r (idxV (placesV n) y.from_) = some u ∧ ¬ u < 0 ∧ m_spec_l4Ready n u (decide (idxV (placesV n) y.from_ = f)) = some z ∧ m_spec_l6Next n l closed (i : Int) z weight = some d ∧ ¬ d < 0 ∧ m_spec_l3Ends n ⟨(i : Int), d⟩ = some v
theorem round_le (hn : m_spec_IsNetwork n = some true) {l : List YBooking} (hl : l.length ≤ 1048576) {closed : List YTrip} (hc : closed.length ≤ 1048576) (weight : Int) {best : List Int} (hb : best.length = (placesV n).length) (f : Int) :
    Tot (m_spec_l6Round n l closed weight (placesV n) best f) fun r => (∀ x v, getI best x = some v → 0 ≤ v → LeAt r x v) ∧ ∀ x v, Cand n l closed weight f best x v → LeAt r x v := by
  have hp := plen hf
  have hll := hf.legs
  unfold m_spec_l6Round
  refine Tot.bind (P := fun r => r = best) ?_ fun r hr => ?_
  · by_cases h1 : best.length ≤ 1048576
    · exact Tot.of (ints_s h1) rfl
    · unfold m_spec_l1Ints
      exact Tot.chk (app_fit (by simp only [List.length_nil]; omega) (by omega)) (Tot.ret (by simp))
  · subst hr
    refine Tot.bind (P := fun o => (∀ x v, getI r x = some v → 0 ≤ v → LeAt o x v) ∧ ∀ x v, Cand n l closed weight f r x v → LeAt o x v) ?_ fun o ho => Tot.ret ho
    refine Tot.loop (fun (k : Nat) (s : Int × List Int) => ∃ i : Nat, s.1 = (i : Int) ∧ i + k = n.legs.length ∧ s.2.length = (placesV n).length ∧ (∀ x v, getI r x = some v → 0 ≤ v → LeAt s.2 x v) ∧ ∀ j, j < i → ∀ x v, CandI n l closed weight f r j x v → LeAt s.2 x v) (fun k s hs => ?_) NN n.legs.length _ ⟨0, rfl, by omega, hb, fun x v h h0 => ⟨v, h, h0, Int.le_refl _⟩, fun j hj => by omega⟩ (by unfold NN; omega)
    obtain ⟨i, hi, hk, hlen, hA, hB⟩ := hs
    unfold m_spec_l6Round_b0
    rw [hi]
    refine Tot.cond (fun hd => ?_) fun hd => Tot.ret ⟨hA, fun x v h => ?_⟩
    case refine_2 =>
      obtain ⟨j, y, d, u, z, c1, c2⟩ := h
      have h1 := (List.getElem?_eq_some_iff.1 c1).1
      have h2 := of_decide_eq_false hd
      exact hB j (by omega) x v ⟨y, d, u, z, c1, c2⟩
    have hlt := of_decide_eq_true hd
    have hw : w64 ((i : Int) + 1) = ((i + 1 : Nat) : Int) := by rw [w64_in (by omega)]; omega
    obtain ⟨y, hy, hm⟩ := len_in (xs := n.legs) (i := (i : Int)) ⟨by omega, hlt⟩
    obtain ⟨m1, m2⟩ := legs_in hm
    have a0 := idx_mem m1
    have a1 := (idx_lt (placesV n) y.from_).2
    have b0 := idx_mem m2
    have b1 := (idx_lt (placesV n) y.to_).2
    obtain ⟨v6, g6, _⟩ := len_in (xs := r) (i := idxV (placesV n) y.from_) ⟨a0, by omega⟩
    obtain ⟨v11, g11, _⟩ := len_in (xs := s.2) (i := idxV (placesV n) y.to_) ⟨b0, by omega⟩
    simp only [hy, Option.bind_some, idx_v hf, g6, hw]
    have hyi : n.legs[i]? = some y := by rw [getI_nat] at hy; exact hy
    have go : ∀ (s' : List Int), s'.length = (placesV n).length → (∀ x v, LeAt s.2 x v → LeAt s' x v) → (∀ x v, CandI n l closed weight f r i x v → LeAt s' x v) → LoopP (fun (k : Nat) (s : Int × List Int) => ∃ i : Nat, s.1 = (i : Int) ∧ i + k = n.legs.length ∧ s.2.length = (placesV n).length ∧ (∀ x v, getI r x = some v → 0 ≤ v → LeAt s.2 x v) ∧ ∀ j, j < i → ∀ x v, CandI n l closed weight f r j x v → LeAt s.2 x v) (fun o : List Int => (∀ x v, getI r x = some v → 0 ≤ v → LeAt o x v) ∧ ∀ x v, Cand n l closed weight f r x v → LeAt o x v) k (Sum.inl (((i + 1 : Nat) : Int), s')) := fun s' h1 h2 h3 =>
      ⟨k - 1, by omega, i + 1, rfl, by omega, h1, fun x v h h0 => h2 x v (hA x v h h0), fun j hj x v h => by
        by_cases hji : j = i
        · subst hji; exact h3 x v h
        · exact h2 x v (hB j (by omega) x v h)⟩
    refine Tot.cond (fun hu => Tot.ret (go _ hlen (fun x v h => h) fun x v h => ?_)) fun hu => ?_
    · exfalso
      obtain ⟨y', d, u, z, c1, c2, c3, c4, _⟩ := h
      rw [hyi] at c1
      obtain rfl := Option.some.inj c1
      rw [g6] at c3
      obtain rfl := Option.some.inj c3
      exact c4 (of_decide_eq_true hu)
    obtain ⟨z, ez, _⟩ := ready_tot (n := n) v6 (decide (idxV (placesV n) y.from_ = f))
    obtain ⟨d, ed, _⟩ := l6next_tot hf hl hc hy z weight
    have hcI : ∀ x v, CandI n l closed weight f r i x v → ¬ d < 0 ∧ x = idxV (placesV n) y.to_ ∧ m_spec_l3Ends n ⟨(i : Int), d⟩ = some v := by
      rintro x v ⟨y', d', u, z', c1, c2, c3, c4, c5, c6, c7, c8⟩
      rw [hyi] at c1
      obtain rfl := Option.some.inj c1
      rw [g6] at c3
      obtain rfl := Option.some.inj c3
      rw [ez] at c5
      obtain rfl := Option.some.inj c5
      rw [ed] at c6
      obtain rfl := Option.some.inj c6
      exact ⟨c7, c2.symm, c8⟩
    rw [ez, Option.bind_some, ed, Option.bind_some]
    refine Tot.cond (fun hdd => Tot.ret (go _ hlen (fun x v h => h) fun x v h => absurd (of_decide_eq_true hdd) (hcI x v h).1)) fun hdn => ?_
    have htr : tripB n ⟨(i : Int), d⟩ = true := by
      rcases next_trip hf ed with h | h
      · subst h; have := of_decide_eq_false hdn; omega
      · exact h
    obtain ⟨e, he⟩ := ends_some (n := n) (t := ⟨(i : Int), d⟩) hy
    have he0 : 0 ≤ e := by
      obtain ⟨_, h2, h3, h4, _⟩ := trip_time hf hn htr
      rw [he] at h2
      have := Option.some.inj h2
      omega
    simp only [he, Option.bind_some, g11]
    have setok := fun (hv : v11 < 0 ∨ e < v11) => go (s.2.set (Int.toNat (idxV (placesV n) y.to_)) e) (by rw [List.length_set]; exact hlen) (fun x v h => by
      obtain ⟨w, hw1, hw2, hw3⟩ := h
      by_cases hx : x = idxV (placesV n) y.to_
      · subst hx
        rw [g11] at hw1
        obtain rfl := Option.some.inj hw1
        exact ⟨_, getI_set_self b0 (by omega), he0, by omega⟩
      · exact ⟨w, by rw [getI_set_ne b0 hx]; exact hw1, hw2, hw3⟩) (fun x v h => by
      obtain ⟨_, rfl, h8⟩ := hcI x v h
      rw [he] at h8
      obtain rfl := Option.some.inj h8
      exact ⟨_, getI_set_self b0 (by omega), he0, Int.le_refl _⟩)
    refine Tot.cond (fun h => Tot.ret (setok (.inl (of_decide_eq_true h)))) fun h1 => Tot.cond (fun h => Tot.ret (setok (.inr (of_decide_eq_true h)))) fun h2 => Tot.ret (go _ hlen (fun x v h => h) fun x v h => ?_)
    obtain ⟨_, rfl, h8⟩ := hcI x v h
    rw [he] at h8
    obtain rfl := Option.some.inj h8
    have h1 := of_decide_eq_false h1
    have h2 := of_decide_eq_false h2
    exact ⟨v11, g11, by omega, by omega⟩
theorem best_le (hn : m_spec_IsNetwork n = some true) {l : List YBooking} (hl : l.length ≤ 1048576) {closed : List YTrip} (hc : closed.length ≤ 1048576) (weight f at_ : Int) (k : Nat) :
    (∀ x v, getI (bestV n l closed weight f at_ k) x = some v → 0 ≤ v → LeAt (bestV n l closed weight f at_ (k + 1)) x v) ∧ ∀ x v, Cand n l closed weight f (bestV n l closed weight f at_ k) x v → LeAt (bestV n l closed weight f at_ (k + 1)) x v := by
  obtain ⟨r, e, h⟩ := round_le hf hn hl hc weight (best_len hf hl hc weight f at_ k) f
  have h1 := (best_next hf hl hc weight f at_ k).1
  rw [e] at h1
  obtain rfl := Option.some.inj h1
  exact h
end
end Go.Proofs.YtmcdjilbkmhfoaaGreat
