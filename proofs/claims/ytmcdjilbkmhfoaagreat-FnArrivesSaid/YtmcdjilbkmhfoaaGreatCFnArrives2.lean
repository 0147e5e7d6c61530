/- A part of the proof of the statement in the last file of this claim: texts on the language of the program and on its functions. No condition. -/
import Derived.Test.YtmcdjilbkmhfoaaGreatCFnArrives1
import Derived.Test.YtmcdjilbkmhfoaaGreatCFnTimeHalves5
import Derived.Test.YtmcdjilbkmhfoaaGreatCFnTimeHalves6
import Derived.Test.YtmcdjilbkmhfoaaGreatCFnTimeHalves7
import Derived.Test.YtmcdjilbkmhfoaaGreatCFnTimeHalves8
import Derived.Test.YtmcdjilbkmhfoaaGreatCFnTimeHalves4
/- Orders taken, trips shut, orders tried again: the reference's functions come to an end, with worlds of the same network. -/
namespace Go.Proofs.YtmcdjilbkmhfoaaGreat
set_option maxRecDepth 10000
open Go.RowKit
set_option linter.unusedVariables false
set_option linter.unusedSimpArgs false
set_option linter.unusedSectionVars false
/-- An order whose way can be told. -/
structure OrdD (n : YNetwork) (o : YOrder) : Prop where
  gone : 0 ≤ o.gone ∧ o.gone ≤ 100001
  comes : comesV o ≤ o.way.length
  way : o.way.length ≤ 110000
  leg : ∀ (k : Nat) t, (k : Int) < comesV o → o.way[k]? = some t → ∃ y, getI n.legs t.leg = some y
/-- A way ends where it shall, or has come to its end. -/
def FinE (n : YNetwork) (o : YOrder) : Prop := comesV o = o.way.length ∨ ∀ t, o.way.getLast? = some t → legTo n t = o.to_
structure FinO (n : YNetwork) (now : Int) (o : YOrder) : Prop where
  ends : FinE n o
  started : o.state = 2 → ∃ t, o.way[o.gone.toNat]? = some t ∧ startV n t ≤ now
  gone : 0 ≤ o.gone ∧ o.gone ≤ 100001
/-- What a drawn world is. -/
structure WD (n : YNetwork) (w : YWorld) : Prop where
  fit : WFit w
  net : w.network = n
  closed : w.closed.length ≤ 1000
  fin : ∀ o ∈ w.orders, FinO n w.now o
structure AgD (n : YNetwork) (w : YWorld) : Prop where
  net : w.network = n
  orders : w.orders.length ≤ 30
  bookings : w.bookings.length ≤ 120
  closed : w.closed.length ≤ 21
  scans : w.scans.length ≤ 201
  skip : w.skip.length ≤ 50
  ord : ∀ o ∈ w.orders, OrdD n o
  fin : ∀ o ∈ w.orders, FinO n w.now o
theorem way_short {n : YNetwork} {o : YOrder} (h : WayOk n o) : o.way.length ≤ 100001 := by
  have key : ∀ (i : Nat) t, o.way[i]? = some t → (i : Int) ≤ startV n t := by
    intro i
    induction i with
    | zero => intro t ht; exact (h.trip t (List.mem_of_getElem? ht)).1
    | succ i ih =>
      intro t ht
      have hlt := (List.getElem?_eq_some_iff.1 ht).1
      have h1 : o.way[i]? = some o.way[i] := List.getElem?_eq_getElem (by omega)
      have := ih _ h1
      have := h.trip _ (List.getElem_mem (show i < o.way.length by omega))
      have := h.next i _ _ h1 ht
      omega
  rcases Nat.eq_zero_or_pos o.way.length with h0 | h0
  · omega
  · have hlt : o.way.length - 1 < o.way.length := by omega
    have h1 := key _ _ (List.getElem?_eq_getElem hlt)
    have h2 := h.trip _ (List.getElem_mem hlt)
    omega
theorem WOk.ag {w : YWorld} (h : WOk w) (hfin : ∀ o ∈ w.orders, FinO w.network w.now o) : AgD w.network w := by
  obtain ⟨p1, p2, p3, p4, p5, p6, p7⟩ := h.parts
  refine ⟨rfl, p2, p7, by omega, by omega, p5, fun o ho => ?_, hfin⟩
  obtain ⟨i, hi, rfl⟩ := List.getElem_of_mem ho
  have hi' := List.getElem?_eq_getElem hi
  have hw := h.way hi'
  have hok := world_ok h.fit h.ok hi'
  have hs := way_short hw
  have hg := hw.gone
  refine ⟨⟨hg.1, by omega⟩, ?_, by omega, fun k t _ ht => ?_⟩
  · unfold comesV
    split
    · rename_i h2
      rcases hok.cases with ⟨c, _⟩ | ⟨_, c⟩ | ⟨c, _⟩ <;> omega
    · exact hg.2
  · obtain ⟨y, hy, _⟩ := tripB_leg h.fit.net (hok.trip t (List.mem_of_getElem? ht))
    exact ⟨y, hy⟩
theorem AgD.fit {n : YNetwork} (hf : NetFit n) {w : YWorld} (h : AgD n w) : WFit w := by
  have h1 := h.orders
  have h2 := h.bookings
  have h3 := h.closed
  have h4 := h.scans
  have h5 := h.skip
  exact ⟨by rw [h.net]; exact hf, by omega, by omega, by omega, by omega, by omega, fun o ho => by have := (h.ord o ho).way; omega⟩
theorem here_tot {n : YNetwork} {o : YOrder} (h : OrdD n o) : Tot (m_spec_l10Here n o) fun _ => True := by
  unfold m_spec_l10Here
  refine Tot.cond (fun h2 => ?_) fun _ => Tot.ret trivial
  have hs := of_decide_eq_true h2
  have hc : comesV o = o.gone + 1 := by unfold comesV; rw [if_pos hs]
  have hg := h.gone
  have hcl := h.comes
  have hlt : o.gone.toNat < o.way.length := by omega
  have hget : getI o.way o.gone = some o.way[o.gone.toNat] := by unfold getI; rw [if_pos hg.1]; exact List.getElem?_eq_getElem hlt
  obtain ⟨y, hy⟩ := h.leg o.gone.toNat _ (by omega) (List.getElem?_eq_getElem hlt)
  rw [hget, Option.bind_some, hy, Option.bind_some]
  exact Tot.ret trivial
/-- An order with the way it came, and a way on. -/
theorem OrdD.on {n : YNetwork} {o o' : YOrder} (h : OrdD n o) (hg : o'.gone = o.gone) (hs : o'.state = o.state) {r : List YTrip} (hw : o'.way = subL o.way 0 (comesV o) ++ r) (hr : r.length ≤ 2000) : OrdD n o' := by
  have hcl := h.comes
  have g := h.gone
  have hc : comesV o' = comesV o := by unfold comesV; rw [hg, hs]
  have c0 : 0 ≤ comesV o ∧ comesV o ≤ 100002 := by unfold comesV; split <;> omega
  have hsub : subL o.way 0 (comesV o) = o.way.take (comesV o).toNat := by unfold subL; simp
  have hlen : (subL o.way 0 (comesV o)).length = (comesV o).toNat := by rw [hsub, List.length_take]; omega
  refine ⟨by rw [hg]; exact g, ?_, ?_, fun k t hk ht => ?_⟩
  · rw [hc, hw, List.length_append, hlen]; omega
  · rw [hw, List.length_append, hlen]; omega
  · rw [hc] at hk
    rw [hw, List.getElem?_append_left (by rw [hlen]; omega), hsub, List.getElem?_take_of_lt (by omega)] at ht
    exact h.leg k t hk ht
theorem FinO.on {n : YNetwork} {now : Int} {o o' : YOrder} (h : OrdD n o) (hF : FinO n now o) (hg : o'.gone = o.gone) (hs : o'.state = o.state) (ht : o'.to_ = o.to_) {r : List YTrip} (hw : o'.way = subL o.way 0 (comesV o) ++ r) (hr : ∀ t, r.getLast? = some t → legTo n t = o.to_) : FinO n now o' := by
  have hcl := h.comes
  have g := h.gone
  have hc : comesV o' = comesV o := by unfold comesV; rw [hg, hs]
  have c0 : 0 ≤ comesV o ∧ comesV o ≤ 100002 := by unfold comesV; split <;> omega
  have hsub : subL o.way 0 (comesV o) = o.way.take (comesV o).toNat := by unfold subL; simp
  have hlen : (subL o.way 0 (comesV o)).length = (comesV o).toNat := by rw [hsub, List.length_take]; omega
  refine ⟨?_, fun h2 => ?_, by rw [hg]; exact g⟩
  · cases r with
    | nil => exact .inl (by rw [hc, hw, List.append_nil, hlen]; omega)
    | cons a as' =>
      refine .inr fun t hl => ?_
      rw [hw, List.getLast?_append, ht] at *
      refine hr t ?_
      cases hx : (a :: as').getLast? with
      | none => simp at hx
      | some z => rw [hx] at hl; exact hl
  · rw [hs] at h2
    obtain ⟨t, k1, k2⟩ := hF.started h2
    refine ⟨t, ?_, k2⟩
    have hcv : comesV o = o.gone + 1 := by unfold comesV; rw [if_pos h2]
    rw [hg, hw, List.getElem?_append_left (by rw [hlen]; omega), hsub, List.getElem?_take_of_lt (by omega)]
    exact k1
section
variable {n : YNetwork} (hf : NetFit n) (hn : n.legs.length ≤ 20)
include hf hn
theorem plen20 : (placesV n).length ≤ 40 := by have := placesV_len n; omega
theorem set_ord {w : YWorld} (h : AgD n w) {i : Nat} {x : YOrder} (hx : OrdD n x) : ∀ o ∈ w.orders.set i x, OrdD n o := fun o ho => by
  rcases List.mem_or_eq_of_mem_set ho with ho | rfl
  · exact h.ord o ho
  · exact hx
theorem set_fin {w : YWorld} (h : AgD n w) {i : Nat} {x : YOrder} (hx : FinO n w.now x) : ∀ o ∈ w.orders.set i x, FinO n w.now o := fun o ho => by
  rcases List.mem_or_eq_of_mem_set ho with ho | rfl
  · exact h.fin o ho
  · exact hx
theorem again_tot {w : YWorld} (h : AgD n w) {i : Nat} (hi : i < w.orders.length) : Tot (m_p0_spec_l10Again w (i : Int)) fun w' => AgD n w' ∧ w'.orders.length = w.orders.length := by
  obtain ⟨o, ho⟩ : ∃ o, w.orders[i]? = some o := ⟨_, List.getElem?_eq_getElem hi⟩
  have hg : getI w.orders (i : Int) = some o := by rw [getI_nat]; exact ho
  have hod := h.ord o (List.mem_of_getElem? ho)
  have hcl := hod.comes
  have hfo := h.fin o (List.mem_of_getElem? ho)
  have hwy := hod.way
  have g := hod.gone
  have hbk := h.bookings
  have hcd := h.closed
  have hpl := plen20 hf hn
  have hw : o.way.length ≤ 1048576 := by omega
  have hgw : o.gone ≤ o.way.length := by
    have : o.gone ≤ comesV o := by unfold comesV; split <;> omega
    omega
  obtain ⟨c1, c0, _⟩ := comes_v ⟨g.1, hgw⟩ hw
  have hsl : (subL o.way 0 (comesV o)).length = (comesV o).toNat := by unfold subL; simp; omega
  have hnet := h.net
  subst hnet
  unfold m_p0_spec_l10Again
  rw [hg, Option.bind_some, c1, Option.bind_some]
  have tail : ∀ (l : List YBooking) (thing at_ : Int), l.length ≤ 120 → Tot ((m_spec_l10Here w.network o).bind fun y7 =>
      (m_spec_FindRoom w.network l w.closed y7 o.to_ at_ o.weight).bind fun y8 =>
      (m_spec_BookWay w.network l thing o.weight y8.1).bind fun y9 =>
      (chk (slOk 0 (comesV o) o.way.length)).bind fun _ =>
      (chk (appOk ((([] : List YTrip) : List YTrip).length + ((subL o.way 0 (comesV o)) : List YTrip).length) 16)).bind fun _ =>
      (some o : Option YOrder).bind fun y10 =>
      cond y9.2
      ((some o : Option YOrder).bind fun y11 =>
      (chk (appOk ((((([] : List YTrip) : List YTrip) ++ (subL o.way 0 (comesV o))) : List YTrip).length + (y8.1 : List YTrip).length) 16)).bind fun _ =>
      (some o : Option YOrder).bind fun y12 =>
      some (⟨w.network, (w.orders.set (Int.toNat i) (⟨y10.from_, y10.to_, y10.service, y10.weight, y10.at_, y10.due, ((((([] : List YTrip) : List YTrip) ++ (subL o.way 0 (comesV o))) : List YTrip) ++ y8.1), y10.gone, y10.state, y10.place, y10.ended⟩ : YOrder)), y9.1, w.closed, w.now, w.scans, w.skip, w.made⟩ : YWorld))
      (some (⟨w.network, (w.orders.set (Int.toNat i) (⟨y10.from_, y10.to_, y10.service, y10.weight, y10.at_, y10.due, ((([] : List YTrip) : List YTrip) ++ (subL o.way 0 (comesV o))), y10.gone, y10.state, y10.place, y10.ended⟩ : YOrder)), l, w.closed, w.now, w.scans, w.skip, w.made⟩ : YWorld))) fun w' => AgD w.network w' ∧ w'.orders.length = w.orders.length := by
    intro l thing at_ hl
    refine Tot.bind (here_tot hod) fun y7 _ => Tot.bind (room_last hf (show l.length ≤ 1048576 by omega) (show w.closed.length ≤ 1048576 by omega) y7 o.to_ at_ o.weight) fun y8 h8 => Tot.bind (book_tot hf (show l.length ≤ 1048000 by omega) thing o.weight y8.1) fun y9 h9 => Tot.chk (by unfold slOk; exact decide_eq_true (by omega)) (Tot.chk (app_fit (by rw [hsl]; simp only [List.length_nil]; omega) (by omega)) ?_)
    rw [Option.bind_some]
    refine Tot.cond (fun hb => ?_) fun _ => ?_
    · rw [Option.bind_some]
      refine Tot.chk (app_fit (by rw [List.nil_append, hsl]; have := h8.1; omega) (by omega)) ?_
      rw [Option.bind_some]
      refine Tot.ret ⟨⟨rfl, by simp only [List.length_set]; exact h.orders, (h9.2 hb), h.closed, h.scans, h.skip, ?_, ?_⟩, by simp only [List.length_set]⟩
      · exact set_ord hf hn h (hod.on rfl rfl (by simp only [List.nil_append]; rfl) (by have := h8.1; omega))
      · exact set_fin hf hn h (FinO.on hod hfo rfl rfl rfl (by simp only [List.nil_append]) h8.2)
    · refine Tot.ret ⟨⟨rfl, by simp only [List.length_set]; exact h.orders, hl, h.closed, h.scans, h.skip, ?_, ?_⟩, by simp only [List.length_set]⟩
      · exact set_ord hf hn h (hod.on (r := []) rfl rfl (by simp) (by simp))
      · exact set_fin hf hn h (FinO.on hod hfo (r := []) rfl rfl rfl (by simp) (fun t h => by simp at h))
  refine Tot.cond (fun hd => ?_) fun hd => ?_
  · have h0 := of_decide_eq_true hd
    have hw1 : w64 (comesV o - 1) = comesV o - 1 := w64_in (by omega)
    have hlt : (comesV o - 1).toNat < o.way.length := by omega
    have hget : getI o.way (comesV o - 1) = some o.way[(comesV o - 1).toNat] := by unfold getI; rw [if_pos (by omega)]; exact List.getElem?_eq_getElem hlt
    obtain ⟨y, hy⟩ := hod.leg _ _ (by omega) (List.getElem?_eq_getElem hlt)
    obtain ⟨v, hv⟩ := ends_some (n := w.network) hy
    rw [hw1, hget, Option.bind_some, hv, Option.bind_some]
    refine Tot.bind (max_tot _ _) fun y5 _ => Tot.bind (drop_tot hf (show w.bookings.length ≤ 1048576 by omega) _ _) fun y6 h6 => ?_
    exact tail y6 _ y5 (by omega)
  · refine Tot.bind (P := fun y6 : List YBooking => y6.length ≤ w.bookings.length) (drop_tot hf (by omega) _ _) fun y6 h6 => ?_
    exact tail y6 _ _ (by omega)
/-- Where the fields of a world lie in a loop. -/
theorem stranded_tot {w : YWorld} (h : WFit w) : Tot (m_spec_StrandedIn w) fun l => l.length ≤ w.orders.length ∧ ∀ x ∈ l, worldV w = true ∧ 1 ≤ x ∧ x ≤ w.orders.length := by
  unfold m_spec_StrandedIn
  rw [spec_world h, Option.bind_some]
  refine Tot.cond (fun _ => Tot.ret ⟨by simp, fun x hx => by cases hx⟩) fun hv => ?_
  have hv' : worldV w = true := by simpa using hv
  have hor := h.orders
  refine Tot.bind (P := fun l : List Int => l.length ≤ w.orders.length ∧ ∀ x ∈ l, worldV w = true ∧ 1 ≤ x ∧ x ≤ w.orders.length) ?_ fun o ho => Tot.ret ho
  refine Tot.loop (fun (k : Nat) (s : Int × List Int) => ∃ i : Nat, s.1 = (i : Int) ∧ i + k = w.orders.length ∧ s.2.length ≤ i ∧ ∀ x ∈ s.2, worldV w = true ∧ 1 ≤ x ∧ x ≤ w.orders.length) (fun k s hs => ?_) NN w.orders.length _ ⟨0, rfl, by omega, by simp, fun x hx => by cases hx⟩ (by unfold NN; omega)
  obtain ⟨i, hi, hk, hlen, hall⟩ := hs
  unfold m_spec_StrandedIn_b0
  rw [hi]
  refine Tot.cond (fun hd => ?_) fun hd => Tot.ret ⟨by omega, hall⟩
  have hlt : i < w.orders.length := by have := of_decide_eq_true hd; omega
  have hw : w64 ((i : Int) + 1) = ((i + 1 : Nat) : Int) := by rw [w64_in (by omega)]; omega
  obtain ⟨b, _, hb, _⟩ := stranded_eq h hv' (List.getElem?_eq_getElem hlt)
  rw [hb, Option.bind_some, hw]
  refine Tot.cond (fun _ => Tot.chk (app_fit (by simp only [List.length_cons, List.length_nil]; omega) (by omega)) (Tot.ret ⟨k - 1, by omega, i + 1, rfl, by omega, by simp only [List.length_append, List.length_cons, List.length_nil]; omega, fun x hx => ?_⟩)) fun _ => Tot.ret ⟨k - 1, by omega, i + 1, rfl, by omega, by simp only; omega, hall⟩
  rcases List.mem_append.1 hx with hx | hx
  · exact hall x hx
  · obtain rfl := List.mem_singleton.1 hx
    exact ⟨hv', by omega, by omega⟩
theorem shut_tot {w : YWorld} (hd : WD n w) (t : YTrip) : Tot (m_o_spec_ShutTrip w t) fun r => WD n r.1 := by
  have h := hd.fit
  have hw := hd.net
  unfold m_o_spec_ShutTrip
  rw [copyW_s h, Option.bind_some, spec_world h, Option.bind_some]
  refine Tot.cond (fun _ => Tot.ret hd) fun hv => ?_
  have hok : WOk w := ⟨h, by simpa using hv⟩
  rw [isTrip_s h.net hok.net, Option.bind_some]
  refine Tot.cond (fun _ => Tot.ret hd) fun ht => ?_
  have htb : tripB w.network t = true := by simpa using ht
  obtain ⟨y, hy, _⟩ := tripB_leg h.net htb
  obtain ⟨v, hv⟩ := starts_some (n := w.network) hy
  rw [hv, Option.bind_some]
  refine Tot.cond (fun _ => Tot.ret hd) fun _ => ?_
  rw [l6Closed_eq, hasTrip_v h.closed, Option.bind_some]
  refine Tot.cond (fun _ => Tot.ret hd) fun _ => Tot.cond (fun _ => Tot.ret hd) fun hc => ?_
  have hcl := of_decide_eq_false hc
  refine Tot.chk (app_fit (by simp only [List.length_cons, List.length_nil]; omega) (by omega)) ?_
  have hag := hok.ag (by rw [hw]; exact hd.fin)
  rw [hw] at hag
  refine Tot.bind (P := fun o => AgD n (⟨(⟨o.2.2.2.1, o.2.2.2.2.1, o.1⟩ : YNetwork), o.2.2.2.2.2.1, o.2.2.2.2.2.2.1, o.2.2.2.2.2.2.2.1, o.2.1, o.2.2.2.2.2.2.2.2.1, o.2.2.2.2.2.2.2.2.2, o.2.2.1⟩ : YWorld)) ?_ fun o ho => Tot.ret ⟨ho.fit hf, ho.net, by have := ho.closed; simp only at this ⊢; omega, ho.fin⟩
  refine Tot.loop (fun k s => ∃ i : Nat, s.1 = (i : Int) ∧ i + k = w.orders.length ∧ s.2.2.2.2.2.2.1.length = w.orders.length ∧ AgD n (⟨(⟨s.2.2.2.2.1, s.2.2.2.2.2.1, s.2.1⟩ : YNetwork), s.2.2.2.2.2.2.1, s.2.2.2.2.2.2.2.1, s.2.2.2.2.2.2.2.2.1, s.2.2.1, s.2.2.2.2.2.2.2.2.2.1, s.2.2.2.2.2.2.2.2.2.2, s.2.2.2.1⟩ : YWorld)) (fun k s hs => ?_) NN w.orders.length _ ⟨0, rfl, by omega, rfl, ⟨hag.net, hag.orders, hag.bookings, by simp only [List.length_append, List.length_cons, List.length_nil]; omega, hag.scans, hag.skip, hag.ord, hag.fin⟩⟩ (by have := h.orders; unfold NN; omega)
  obtain ⟨i, hi, hik, hlen, hA⟩ := hs
  unfold m_o_spec_ShutTrip_b0
  rw [hi]
  refine Tot.cond (fun hd => ?_) fun hd => Tot.ret hA
  have hlt : i < s.2.2.2.2.2.2.1.length := by have := of_decide_eq_true hd; omega
  have hor := h.orders
  have hwi : w64 ((i : Int) + 1) = ((i + 1 : Nat) : Int) := by rw [w64_in (by omega)]; omega
  obtain ⟨o, ho⟩ : ∃ o, s.2.2.2.2.2.2.1[i]? = some o := ⟨_, List.getElem?_eq_getElem hlt⟩
  have hg : getI s.2.2.2.2.2.2.1 (i : Int) = some o := by rw [getI_nat]; exact ho
  have hod := hA.ord o (List.mem_of_getElem? ho)
  have hcm := hod.comes
  have hwy := hod.way
  have g := hod.gone
  have hgw : o.gone ≤ o.way.length := by
    have : o.gone ≤ comesV o := by unfold comesV; split <;> omega
    omega
  obtain ⟨c1, c0, _⟩ := comes_v ⟨g.1, hgw⟩ (by omega)
  rw [hg, Option.bind_some, c1, Option.bind_some]
  refine Tot.chk (by unfold slOk; exact decide_eq_true (by omega)) ?_
  rw [l6Closed_eq, hasTrip_v (show (subL o.way (comesV o) (o.way.length : Int)).length ≤ 1048576 by unfold subL; simp; omega), Option.bind_some, hwi]
  refine Tot.cond (fun _ => Tot.rho (Tot.bind (again_tot hf hn hA hlt) fun y hy => Tot.ret ⟨k - 1, by omega, i + 1, rfl, by omega, by rw [hy.2]; exact hlen, ?_⟩)) fun _ => Tot.ret ⟨k - 1, by omega, i + 1, rfl, by omega, hlen, hA⟩
  exact hy.1
theorem retry_tot {w : YWorld} (hwd : WD n w) : Tot (m_o_spec_RetryOrders w) fun r => WD n r.1 := by
  have h := hwd.fit
  have hw := hwd.net
  unfold m_o_spec_RetryOrders
  rw [copyW_s h, Option.bind_some]
  refine Tot.bind (stranded_tot hf hn h) fun y2 h2 => ?_
  obtain ⟨h2, h2w⟩ := h2
  have hor := h.orders
  have key : Tot (iterF (m_o_spec_RetryOrders_b0 y2) NN (0, w.network.change, w.now, w.made, w.network.legs, w.network.off, w.orders, w.bookings, w.closed, w.scans, w.skip)) (fun o => WD n (⟨(⟨o.2.2.2.1, o.2.2.2.2.1, o.1⟩ : YNetwork), o.2.2.2.2.2.1, o.2.2.2.2.2.2.1, o.2.2.2.2.2.2.2.1, o.2.1, o.2.2.2.2.2.2.2.2.1, o.2.2.2.2.2.2.2.2.2, o.2.2.1⟩ : YWorld)) := by
    refine Tot.loop (fun k s => ∃ i : Nat, s.1 = (i : Int) ∧ i + k = y2.length ∧ WD n (⟨(⟨s.2.2.2.2.1, s.2.2.2.2.2.1, s.2.1⟩ : YNetwork), s.2.2.2.2.2.2.1, s.2.2.2.2.2.2.2.1, s.2.2.2.2.2.2.2.2.1, s.2.2.1, s.2.2.2.2.2.2.2.2.2.1, s.2.2.2.2.2.2.2.2.2.2, s.2.2.2.1⟩ : YWorld) ∧
        (worldV w = true → s.2.2.2.2.2.2.1.length = w.orders.length ∧ AgD n (⟨(⟨s.2.2.2.2.1, s.2.2.2.2.2.1, s.2.1⟩ : YNetwork), s.2.2.2.2.2.2.1, s.2.2.2.2.2.2.2.1, s.2.2.2.2.2.2.2.2.1, s.2.2.1, s.2.2.2.2.2.2.2.2.2.1, s.2.2.2.2.2.2.2.2.2.2, s.2.2.2.1⟩ : YWorld))) (fun k s hs => ?_) NN y2.length _ ⟨0, rfl, by omega, by subst hw; exact hwd, fun hv => ⟨rfl, by have := (WOk.mk h hv).ag (by rw [hw]; exact hwd.fin); rw [hw] at this; subst hw; exact this⟩⟩ (by unfold NN; omega)
    obtain ⟨i, hi, hk, hW, hA⟩ := hs
    unfold m_o_spec_RetryOrders_b0
    rw [hi]
    refine Tot.cond (fun hd => ?_) fun hd => Tot.ret hW
    have hlt := of_decide_eq_true hd
    have hwi : w64 ((i : Int) + 1) = ((i + 1 : Nat) : Int) := by rw [w64_in (by omega)]; omega
    obtain ⟨x, hx, hm⟩ := len_in (xs := y2) (i := (i : Int)) ⟨by omega, hlt⟩
    obtain ⟨hv, x1, x2⟩ := h2w x hm
    obtain ⟨hl, hag⟩ := hA hv
    have hwx : w64 (x - 1) = (((x - 1).toNat : Nat) : Int) := by rw [w64_in (by omega)]; omega
    rw [hx, Option.bind_some, hwx, hwi]
    exact Tot.rho (Tot.bind (again_tot hf hn hag (show (x - 1).toNat < s.2.2.2.2.2.2.1.length by omega)) fun y hy => Tot.ret ⟨k - 1, by omega, i + 1, rfl, by omega, ⟨hy.1.fit hf, hy.1.net, by have := hy.1.closed; simp only at this ⊢; omega, hy.1.fin⟩, fun _ => ⟨by rw [hy.2]; exact hl, hy.1⟩⟩)
  refine Tot.bind key fun o ho => Tot.bind (stranded_tot hf hn ho.fit) fun y5 _ => Tot.ret ho
theorem scan_tot {w : YWorld} (h : WFit w) (hs : w.scans.length ≤ 1048000) (s : YScan) : Tot (m_p0_spec_l10Scan w s) fun r => r.network = w.network ∧ r.orders = w.orders ∧ r.bookings = w.bookings ∧ r.closed = w.closed ∧ r.skip = w.skip ∧ r.scans.length ≤ w.scans.length + 1 ∧ r.now = w.now := by
  unfold m_p0_spec_l10Scan
  simp only [l1Has_v h.skip, Option.bind_some]
  have ap : appOk ((w.scans : List YScan).length + ([s] : List YScan).length) 56 = true := app_fit (by simp only [List.length_cons, List.length_nil]; omega) (by omega)
  have sm : ∀ m, Tot (some (⟨w.network, w.orders, w.bookings, w.closed, w.now, ((w.scans : List YScan) ++ [s]), w.skip, m⟩ : YWorld)) fun r => r.network = w.network ∧ r.orders = w.orders ∧ r.bookings = w.bookings ∧ r.closed = w.closed ∧ r.skip = w.skip ∧ r.scans.length ≤ w.scans.length + 1 ∧ r.now = w.now := fun m => Tot.ret ⟨rfl, rfl, rfl, rfl, rfl, by simp, rfl⟩
  have st : ∀ m, Tot (some (⟨w.network, w.orders, w.bookings, w.closed, w.now, w.scans, w.skip, m⟩ : YWorld)) fun r => r.network = w.network ∧ r.orders = w.orders ∧ r.bookings = w.bookings ∧ r.closed = w.closed ∧ r.skip = w.skip ∧ r.scans.length ≤ w.scans.length + 1 ∧ r.now = w.now := fun m => Tot.ret ⟨rfl, rfl, rfl, rfl, rfl, by simp, rfl⟩
  exact Tot.cond (fun _ => Tot.cond (fun _ => Tot.cond (fun _ => Tot.chk ap (sm _)) fun _ => st _) fun _ => st _) fun _ => Tot.cond (fun _ => Tot.cond (fun _ => Tot.chk ap (sm _)) fun _ => st _) fun _ => st _
theorem accept_tot {w : YWorld} (hwd : WD n w) (from_ to_ : ByteArray) (service weight : Int) : Tot (m_o_spec_AcceptOrder w from_ to_ service weight) fun r => WD n r.1 := by
  have h := hwd.fit
  have hw := hwd.net
  have hk := hwd.closed
  subst hw
  unfold m_o_spec_AcceptOrder
  rw [copyW_s h, Option.bind_some, spec_world h, Option.bind_some]
  have same : ∀ (z : Int) (b : Bool), Tot (some (w, z, b)) fun r => WD w.network r.1 := fun z b => Tot.ret hwd
  refine Tot.cond (fun _ => same _ _) fun hv => ?_
  have hok : WOk w := ⟨h, by simpa using hv⟩
  obtain ⟨p1, p2, p3, p4, p5, p6, p7⟩ := hok.parts
  have hpl := plen20 hf hn
  refine Tot.cond (fun _ => same _ _) fun ho => Tot.cond (fun _ => same _ _) fun _ => ?_
  rw [l1In_v, Option.bind_some]
  refine Tot.cond (fun _ => same _ _) fun _ => ?_
  rw [l1In_v, Option.bind_some]
  refine Tot.cond (fun _ => same _ _) fun _ => ?_
  refine Tot.bind (room_last hf h.bookings h.closed _ _ _ _) fun y5 h5 => Tot.bind (book_tot hf (by omega) _ _ _) fun y6 h6 => Tot.cond (fun _ => same _ _) fun _ => Tot.cond (fun _ => same _ _) fun h6t => Tot.bind (promise_tot hf _ _ _ _) fun y7 _ => Tot.frz (Tot.chk (app_fit (by simp only [List.length_cons, List.length_nil]; omega) (by omega)) (Tot.rho ?_))
  have hb6 := h6.2 (by simpa using h6t)
  have hfit : WFit (⟨w.network, ((w.orders : List YOrder) ++ [(⟨from_, to_, service, weight, w.now, y7, y5.1, 0, 1, from_, 0⟩ : YOrder)]), y6.1, w.closed, w.now, w.scans, w.skip, w.made⟩ : YWorld) := by
    refine ⟨h.net, by simp only [List.length_append, List.length_cons, List.length_nil]; omega, by simp only; omega, h.closed, h.scans, h.skip, fun o ho => ?_⟩
    rcases List.mem_append.1 ho with ho | ho
    · exact h.way o ho
    · obtain rfl := List.mem_singleton.1 ho
      simp only; have := h5.1; omega
  refine Tot.bind (scan_tot hf hn hfit (by simp only; omega) _) fun y8 h8 => Tot.ret ?_
  obtain ⟨q1, q2, q3, q4, q5, q6, q7⟩ := h8
  refine ⟨⟨by rw [q1]; exact hfit.net, by rw [q2]; exact hfit.orders, by rw [q3]; exact hfit.bookings, by rw [q4]; exact hfit.closed, by simp only at q6 ⊢; omega, by rw [q5]; exact hfit.skip, by rw [q2]; exact hfit.way⟩, by rw [q1], by rw [q4]; exact hk, ?_⟩
  rw [q2, q7]
  intro o ho
  rcases List.mem_append.1 ho with ho | ho
  · exact hwd.fin o ho
  · obtain rfl := List.mem_singleton.1 ho
    exact ⟨.inr h5.2, fun h => by simp at h, by simp only; omega⟩
end
end Go.Proofs.YtmcdjilbkmhfoaaGreat

/- The mirror of p0_spec_l4Of, and that the code does just that (printed by a program of my own). -/
namespace Go.Proofs.YtmcdjilbkmhfoaaGreat
set_option maxRecDepth 10000
open Go.RowKit
set_option linter.unusedVariables false
set_option maxHeartbeats 16000000
def m_p0_spec_l4Of (c : Yl1Cur) (n : YNetwork) : Option (ByteArray × Yl1Cur) :=
 (m_spec_PlacesOf n).bind fun y1 =>
 (rhoM [0]).bind fun _ =>
 (m_p0_spec_l1Once c 9).bind fun y2 =>
 cond y2.1
 ((rhoM [0]).bind fun _ =>
 (m_p0_spec_l1Place y2.2).bind fun y3 =>
 some (y3.1, y3.2))
 ((rhoM [0]).bind fun _ =>
 (m_p0_spec_l1Below y2.2 (y1.length : Int)).bind fun y4 =>
 (getI y1 y4.1).bind fun y5 =>
 some (y5, y4.2))
theorem ok_p0_spec_l4Of (c : Yl1Cur) (n : YNetwork) {r : ByteArray × Yl1Cur} (H : m_p0_spec_l4Of c n = some r) : CallM Tryz.prog 213 [.be 0 0 0, .ag (cNetwork n)] [some ⟨187, 3, [[.sl (c.b.map cB8), vi c.i, vi c.h]]⟩] (vs r.1) [some ⟨187, 3, [[.sl (r.2.b.map cB8), vi r.2.i, vi r.2.h]]⟩] := by
  replace H := H0 H
  unfold m_p0_spec_l4Of at H
  refine callM_of Tryz.func213 rfl Tryz.ntmps213 Tryz.results213 fun Q hQ hQn => ?_
  exact wk2
instance (c : Yl1Cur) (n : YNetwork) : CT Tryz.prog (m_p0_spec_l4Of c n) := ⟨213, [.be 0 0 0, .ag (cNetwork n)], [some ⟨187, 3, [[.sl (c.b.map cB8), vi c.i, vi c.h]]⟩], fun r => vs r.1, fun r => [some ⟨187, 3, [[.sl (r.2.b.map cB8), vi r.2.i, vi r.2.h]]⟩], ok_p0_spec_l4Of c n⟩
end Go.Proofs.YtmcdjilbkmhfoaaGreat

/- The mirror of p0_spec_l3Trip, and that the code does just that (printed by a program of my own). -/
namespace Go.Proofs.YtmcdjilbkmhfoaaGreat
set_option maxRecDepth 10000
open Go.RowKit
set_option linter.unusedVariables false
set_option maxHeartbeats 16000000
def m_p0_spec_l3Trip (c : Yl1Cur) (n : YNetwork) : Option (YTrip × Yl1Cur) :=
 (rhoM [0]).bind fun _ =>
 (m_p0_spec_l1Below c (n.legs.length : Int)).bind fun y1 =>
 (rhoM [0]).bind fun _ =>
 (m_p0_spec_l1Below y1.2 10).bind fun y2 =>
 (m_spec_l3Next n y1.1 (w64 (y2.1 * 1440))).bind fun y3 =>
 cond (decide (0 ≤ y3))
 ((rhoM [0]).bind fun _ =>
 (m_p0_spec_l1Once y2.2 4).bind fun y4 =>
 cond (!y4.1)
 (some ((⟨y1.1, y3⟩ : YTrip), y4.2))
 (some ((⟨y1.1, y2.1⟩ : YTrip), y4.2)))
 (some ((⟨y1.1, y2.1⟩ : YTrip), y2.2))
theorem ok_p0_spec_l3Trip (c : Yl1Cur) (n : YNetwork) {r : YTrip × Yl1Cur} (H : m_p0_spec_l3Trip c n = some r) : CallM Tryz.prog 211 [.be 0 0 0, .ag (cNetwork n)] [some ⟨187, 3, [[.sl (c.b.map cB8), vi c.i, vi c.h]]⟩] (.ag [vi r.1.leg, vi r.1.day]) [some ⟨187, 3, [[.sl (r.2.b.map cB8), vi r.2.i, vi r.2.h]]⟩] := by
  replace H := H0 H
  unfold m_p0_spec_l3Trip at H
  refine callM_of Tryz.func211 rfl Tryz.ntmps211 Tryz.results211 fun Q hQ hQn => ?_
  exact wk2
instance (c : Yl1Cur) (n : YNetwork) : CT Tryz.prog (m_p0_spec_l3Trip c n) := ⟨211, [.be 0 0 0, .ag (cNetwork n)], [some ⟨187, 3, [[.sl (c.b.map cB8), vi c.i, vi c.h]]⟩], fun r => .ag [vi r.1.leg, vi r.1.day], fun r => [some ⟨187, 3, [[.sl (r.2.b.map cB8), vi r.2.i, vi r.2.h]]⟩], ok_p0_spec_l3Trip c n⟩
end Go.Proofs.YtmcdjilbkmhfoaaGreat

/- The mirror of p0_spec_l10Trip, and that the code does just that (printed by a program of my own). -/
namespace Go.Proofs.YtmcdjilbkmhfoaaGreat
set_option maxRecDepth 10000
open Go.RowKit
set_option linter.unusedVariables false
set_option maxHeartbeats 16000000
def m_p0_spec_l10Trip (c : Yl1Cur) (w : YWorld) : Option (YTrip × Yl1Cur) :=
 cond (decide (0 < (w.bookings.length : Int)))
 ((rhoM [0]).bind fun _ =>
 (m_p0_spec_l1Once c 4).bind fun y1 =>
 cond (!y1.1)
 ((drwL 8 [6]).bind fun _ =>
 (rhoM [0]).bind fun _ =>
 (m_p0_spec_l1Below y1.2 (w.bookings.length : Int)).bind fun y2 =>
 (getI w.bookings y2.1).bind fun y3 =>
 some (y3.trip, y2.2))
 ((rhoM [0]).bind fun _ =>
 (m_p0_spec_l3Trip y1.2 w.network).bind fun y4 =>
 some (y4.1, y4.2)))
 ((rhoM [0]).bind fun _ =>
 (m_p0_spec_l3Trip c w.network).bind fun y5 =>
 some (y5.1, y5.2))
theorem ok_p0_spec_l10Trip (c : Yl1Cur) (w : YWorld) {r : YTrip × Yl1Cur} (H : m_p0_spec_l10Trip c w = some r) : CallM Tryz.prog 147 [.be 0 0 0, .ag (cWorld w)] [some ⟨187, 3, [[.sl (c.b.map cB8), vi c.i, vi c.h]]⟩] (.ag [vi r.1.leg, vi r.1.day]) [some ⟨187, 3, [[.sl (r.2.b.map cB8), vi r.2.i, vi r.2.h]]⟩] := by
  replace H := H0 H
  unfold m_p0_spec_l10Trip at H
  refine callM_of Tryz.func147 rfl Tryz.ntmps147 Tryz.results147 fun Q hQ hQn => ?_
  exact wk2
instance (c : Yl1Cur) (w : YWorld) : CT Tryz.prog (m_p0_spec_l10Trip c w) := ⟨147, [.be 0 0 0, .ag (cWorld w)], [some ⟨187, 3, [[.sl (c.b.map cB8), vi c.i, vi c.h]]⟩], fun r => .ag [vi r.1.leg, vi r.1.day], fun r => [some ⟨187, 3, [[.sl (r.2.b.map cB8), vi r.2.i, vi r.2.h]]⟩], ok_p0_spec_l10Trip c w⟩
end Go.Proofs.YtmcdjilbkmhfoaaGreat

/- The mirror of p0_spec_l10Act, and that the code does just that (printed by a program of my own). -/
namespace Go.Proofs.YtmcdjilbkmhfoaaGreat
set_option maxRecDepth 10000
open Go.RowKit
set_option linter.unusedVariables false
set_option maxHeartbeats 16000000
def m_p0_spec_l10Act (c : Yl1Cur) (w : YWorld) : Option (YWorld × Yl1Cur) :=
 (rhoM [0]).bind fun _ =>
 (m_p0_spec_l1Below c 6).bind fun y1 =>
 cond (decide (y1.1 = 0))
 (cond (decide (y1.1 = 0))
 ((drwL 8 [4, 8, 10, 13]).bind fun _ =>
 (rhoM [0]).bind fun _ =>
 (m_p0_spec_l4Of y1.2 w.network).bind fun y2 =>
 (rhoM [0]).bind fun _ =>
 (m_p0_spec_l4Of y2.2 w.network).bind fun y3 =>
 (rhoM [0]).bind fun _ =>
 (m_p0_spec_l1Below y3.2 3).bind fun y4 =>
 (rhoM [0]).bind fun _ =>
 (m_p0_spec_l1Below y4.2 4000).bind fun y5 =>
 (m_o_spec_AcceptOrder w y2.1 y3.1 (w64 (1 + y4.1)) (w64 (500 + y5.1))).bind fun y6 =>
 some (y6.1, y5.2))
 (cond (decide (y1.1 = 3))
 ((drwL 8 [3]).bind fun _ =>
 (rhoM [0]).bind fun _ =>
 (m_p0_spec_l10Trip y1.2 w).bind fun y7 =>
 (m_o_spec_ShutTrip w y7.1).bind fun y8 =>
 some (y8.1, y7.2))
 (cond (decide (y1.1 = 4))
 ((m_o_spec_RetryOrders w).bind fun y9 =>
 some (y9.1, y1.2))
 ((drwL 8 [4]).bind fun _ =>
 (rhoM [0]).bind fun _ =>
 (m_p0_spec_l1Below y1.2 40).bind fun y10 =>
 (m_o_spec_AdvanceTo w (w64 (w.now + (w64 (30 * y10.1))))).bind fun y11 =>
 some (y11, y10.2)))))
 (cond (decide (y1.1 = 1))
 (cond (decide (y1.1 = 1))
 ((drwL 8 [4, 8, 10, 13]).bind fun _ =>
 (rhoM [0]).bind fun _ =>
 (m_p0_spec_l4Of y1.2 w.network).bind fun y12 =>
 (rhoM [0]).bind fun _ =>
 (m_p0_spec_l4Of y12.2 w.network).bind fun y13 =>
 (rhoM [0]).bind fun _ =>
 (m_p0_spec_l1Below y13.2 3).bind fun y14 =>
 (rhoM [0]).bind fun _ =>
 (m_p0_spec_l1Below y14.2 4000).bind fun y15 =>
 (m_o_spec_AcceptOrder w y12.1 y13.1 (w64 (1 + y14.1)) (w64 (500 + y15.1))).bind fun y16 =>
 some (y16.1, y15.2))
 (cond (decide (y1.1 = 3))
 ((drwL 8 [3]).bind fun _ =>
 (rhoM [0]).bind fun _ =>
 (m_p0_spec_l10Trip y1.2 w).bind fun y17 =>
 (m_o_spec_ShutTrip w y17.1).bind fun y18 =>
 some (y18.1, y17.2))
 (cond (decide (y1.1 = 4))
 ((m_o_spec_RetryOrders w).bind fun y19 =>
 some (y19.1, y1.2))
 ((drwL 8 [4]).bind fun _ =>
 (rhoM [0]).bind fun _ =>
 (m_p0_spec_l1Below y1.2 40).bind fun y20 =>
 (m_o_spec_AdvanceTo w (w64 (w.now + (w64 (30 * y20.1))))).bind fun y21 =>
 some (y21, y20.2)))))
 (cond (decide (y1.1 = 2))
 ((drwL 8 [4, 8, 10, 13]).bind fun _ =>
 (rhoM [0]).bind fun _ =>
 (m_p0_spec_l4Of y1.2 w.network).bind fun y22 =>
 (rhoM [0]).bind fun _ =>
 (m_p0_spec_l4Of y22.2 w.network).bind fun y23 =>
 (rhoM [0]).bind fun _ =>
 (m_p0_spec_l1Below y23.2 3).bind fun y24 =>
 (rhoM [0]).bind fun _ =>
 (m_p0_spec_l1Below y24.2 4000).bind fun y25 =>
 (m_o_spec_AcceptOrder w y22.1 y23.1 (w64 (1 + y24.1)) (w64 (500 + y25.1))).bind fun y26 =>
 some (y26.1, y25.2))
 (cond (decide (y1.1 = 3))
 ((drwL 8 [3]).bind fun _ =>
 (rhoM [0]).bind fun _ =>
 (m_p0_spec_l10Trip y1.2 w).bind fun y27 =>
 (m_o_spec_ShutTrip w y27.1).bind fun y28 =>
 some (y28.1, y27.2))
 (cond (decide (y1.1 = 4))
 ((m_o_spec_RetryOrders w).bind fun y29 =>
 some (y29.1, y1.2))
 ((drwL 8 [4]).bind fun _ =>
 (rhoM [0]).bind fun _ =>
 (m_p0_spec_l1Below y1.2 40).bind fun y30 =>
 (m_o_spec_AdvanceTo w (w64 (w.now + (w64 (30 * y30.1))))).bind fun y31 =>
 some (y31, y30.2))))))
theorem ok_p0_spec_l10Act (c : Yl1Cur) (w : YWorld) {r : YWorld × Yl1Cur} (H : m_p0_spec_l10Act c w = some r) : CallM Tryz.prog 231 [.be 0 0 0, .ag (cWorld w)] [some ⟨187, 3, [[.sl (c.b.map cB8), vi c.i, vi c.h]]⟩] (.ag [.ms 1, .ms 2, vi r.1.network.change, .ms 3, .ms 4, .ms 5, vi r.1.now, .ms 6, .ms 7, vi r.1.made]) [some ⟨187, 3, [[.sl (r.2.b.map cB8), vi r.2.i, vi r.2.h]]⟩, some ⟨67, 6, r.1.network.legs.map cLeg⟩, some ⟨3, 1, r.1.network.off.map cInt⟩, some ⟨62, 11, r.1.orders.map cOrder⟩, some ⟨135, 4, r.1.bookings.map cBooking⟩, some ⟨55, 2, r.1.closed.map cTrip⟩, some ⟨130, 6, r.1.scans.map cScan⟩, some ⟨3, 1, r.1.skip.map cInt⟩] := by
  replace H := H0 H
  unfold m_p0_spec_l10Act at H
  refine callM_of Tryz.func231 rfl Tryz.ntmps231 Tryz.results231 fun Q hQ hQn => ?_
  exact wk2
instance (c : Yl1Cur) (w : YWorld) : CT Tryz.prog (m_p0_spec_l10Act c w) := ⟨231, [.be 0 0 0, .ag (cWorld w)], [some ⟨187, 3, [[.sl (c.b.map cB8), vi c.i, vi c.h]]⟩], fun r => .ag [.ms 1, .ms 2, vi r.1.network.change, .ms 3, .ms 4, .ms 5, vi r.1.now, .ms 6, .ms 7, vi r.1.made], fun r => [some ⟨187, 3, [[.sl (r.2.b.map cB8), vi r.2.i, vi r.2.h]]⟩, some ⟨67, 6, r.1.network.legs.map cLeg⟩, some ⟨3, 1, r.1.network.off.map cInt⟩, some ⟨62, 11, r.1.orders.map cOrder⟩, some ⟨135, 4, r.1.bookings.map cBooking⟩, some ⟨55, 2, r.1.closed.map cTrip⟩, some ⟨130, 6, r.1.scans.map cScan⟩, some ⟨3, 1, r.1.skip.map cInt⟩], ok_p0_spec_l10Act c w⟩
end Go.Proofs.YtmcdjilbkmhfoaaGreat

/- The mirror of o_spec_NewWorld, and that the code does just that (printed by a program of my own). -/
namespace Go.Proofs.YtmcdjilbkmhfoaaGreat
set_option maxRecDepth 10000
open Go.RowKit
set_option linter.unusedVariables false
set_option maxHeartbeats 16000000
def m_o_spec_NewWorld (n : YNetwork) (skip : List Int) : Option (YWorld × Bool) :=
 (m_o_spec_l10Copy (⟨n, [], [], [], 0, [], skip, 0⟩ : YWorld)).bind fun y1 =>
 (m_spec_IsWorld y1).bind fun y2 =>
 cond (!y2)
 (some ((⟨(⟨[], [], 0⟩ : YNetwork), [], [], [], 0, [], [], 0⟩ : YWorld), false))
 (some (y1, true))
theorem ok_o_spec_NewWorld (n : YNetwork) (skip : List Int) {r : YWorld × Bool} (H : m_o_spec_NewWorld n skip = some r) : CallM Tryz.prog 57 [.ag (cNetwork n), .sl (skip.map cInt)] [] (.tu [.ag [.ms 0, .ms 1, vi r.1.network.change, .ms 2, .ms 3, .ms 4, vi r.1.now, .ms 5, .ms 6, vi r.1.made], vb r.2]) [some ⟨67, 6, r.1.network.legs.map cLeg⟩, some ⟨3, 1, r.1.network.off.map cInt⟩, some ⟨62, 11, r.1.orders.map cOrder⟩, some ⟨135, 4, r.1.bookings.map cBooking⟩, some ⟨55, 2, r.1.closed.map cTrip⟩, some ⟨130, 6, r.1.scans.map cScan⟩, some ⟨3, 1, r.1.skip.map cInt⟩] := by
  replace H := H0 H
  unfold m_o_spec_NewWorld at H
  refine callM_of Tryz.func57 rfl Tryz.ntmps57 Tryz.results57 fun Q hQ hQn => ?_
  exact wk2
instance (n : YNetwork) (skip : List Int) : CT Tryz.prog (m_o_spec_NewWorld n skip) := ⟨57, [.ag (cNetwork n), .sl (skip.map cInt)], [], fun r => .tu [.ag [.ms 0, .ms 1, vi r.1.network.change, .ms 2, .ms 3, .ms 4, vi r.1.now, .ms 5, .ms 6, vi r.1.made], vb r.2], fun r => [some ⟨67, 6, r.1.network.legs.map cLeg⟩, some ⟨3, 1, r.1.network.off.map cInt⟩, some ⟨62, 11, r.1.orders.map cOrder⟩, some ⟨135, 4, r.1.bookings.map cBooking⟩, some ⟨55, 2, r.1.closed.map cTrip⟩, some ⟨130, 6, r.1.scans.map cScan⟩, some ⟨3, 1, r.1.skip.map cInt⟩], ok_o_spec_NewWorld n skip⟩
end Go.Proofs.YtmcdjilbkmhfoaaGreat

/- The mirror of p0_spec_l10Draw, and that the code does just that (printed by a program of my own). -/
namespace Go.Proofs.YtmcdjilbkmhfoaaGreat
set_option maxRecDepth 10000
open Go.RowKit
set_option linter.unusedVariables false
set_option maxHeartbeats 16000000
def m_p0_spec_l10Draw_b0 (most : Int) (y1 : YNetwork × Yl1Cur) (s0 : Int × (List YB8) × Int × Int × (List YLeg)) : Option ((Int × (List YB8) × Int × Int × (List YLeg)) ⊕ ((List YB8) × Int × Int × (List YLeg))) :=
 cond (decide (s0.1 < (s0.2.2.2.2.length : Int)))
 ((rhoM [0]).bind fun _ =>
 (m_p0_spec_l1Once (⟨s0.2.1, s0.2.2.1, s0.2.2.2.1⟩ : Yl1Cur) 2).bind fun y2 =>
 cond y2.1
 ((drwL 8 [4]).bind fun _ =>
 (rhoM [0]).bind fun _ =>
 (m_p0_spec_l1Below y2.2 9).bind fun y3 =>
 (getI s0.2.2.2.2 s0.1).bind fun y4 =>
 some (.inl ((w64 (s0.1 + 1)), y3.2.b, y3.2.i, y3.2.h, (s0.2.2.2.2.set (Int.toNat s0.1) (⟨y4.from_, y4.to_, y4.start, y4.takes, y4.days, (w64 (2000 + (w64 (1000 * y3.1))))⟩ : YLeg)))))
 (some (.inl ((w64 (s0.1 + 1)), y2.2.b, y2.2.i, y2.2.h, s0.2.2.2.2))))
 (some (.inr (s0.2.1, s0.2.2.1, s0.2.2.2.1, s0.2.2.2.2)))
instance (most : Int) (y1 : YNetwork × Yl1Cur) : LoopE (m_p0_spec_l10Draw_b0 most y1) := ⟨fun s0 => (.be 0 0 0 :: vi most :: .un :: .un :: .be 1 0 0 :: .be 2 0 0 :: vi s0.1 :: .un :: .un :: .un :: .un :: .un :: .un :: .un :: .un :: .un :: .un :: .un :: .un :: .un :: .un :: .un :: .un :: .un :: .un :: .un :: .un :: .un :: .un :: .un :: .un :: .un :: .un :: .un :: .un :: .un :: .un :: .un :: .un :: .un :: .un :: .un :: .un :: .un :: .un :: .un :: .un :: .un :: .un :: .un :: .un :: .un :: .un :: .un :: .un :: .un :: .un :: .un :: .un :: .un :: .un :: .un :: []), fun s0 => [some ⟨187, 3, [[.sl (s0.2.1.map cB8), vi s0.2.2.1, vi s0.2.2.2.1]]⟩, some ⟨41, 10, [[.v (.slice none 0 0), .v (.slice none 0 0), vi 0, .v (.slice none 0 0), .v (.slice none 0 0), .v (.slice none 0 0), vi 0, .v (.slice none 0 0), .v (.slice none 0 0), vi 0]]⟩, some ⟨35, 3, [[.ms 3, .ms 4, vi y1.1.change]]⟩, some ⟨67, 6, s0.2.2.2.2.map cLeg⟩, some ⟨3, 1, y1.1.off.map cInt⟩]⟩
def m_p0_spec_l10Draw_b1 (most : Int) (y1 : YNetwork × Yl1Cur) (o0 : (List YB8) × Int × Int × (List YLeg)) (s1 : Int × (List YB8) × Int × Int × (List Int)) : Option ((Int × (List YB8) × Int × Int × (List Int)) ⊕ ((List YB8) × Int × Int × (List Int))) :=
 cond (decide (0 < s1.1))
 ((rhoM [0]).bind fun _ =>
 (m_p0_spec_l1Below (⟨s1.2.1, s1.2.2.1, s1.2.2.2.1⟩ : Yl1Cur) 25).bind fun y6 =>
 (chk (appOk ((s1.2.2.2.2 : List Int).length + ([(w64 (1 + y6.1))] : List Int).length) 8)).bind fun _ =>
 some (.inl ((w64 (s1.1 - 1)), y6.2.b, y6.2.i, y6.2.h, ((s1.2.2.2.2 : List Int) ++ [(w64 (1 + y6.1))]))))
 (some (.inr (s1.2.1, s1.2.2.1, s1.2.2.2.1, s1.2.2.2.2)))
instance (most : Int) (y1 : YNetwork × Yl1Cur) (o0 : (List YB8) × Int × Int × (List YLeg)) : LoopE (m_p0_spec_l10Draw_b1 most y1 o0) := ⟨fun s1 => (.be 0 0 0 :: vi most :: .un :: .un :: .be 1 0 0 :: .be 2 0 0 :: .un :: .ms 5 :: vi s1.1 :: .un :: .un :: .un :: .un :: .un :: .un :: .un :: .un :: .un :: .un :: .un :: .un :: .un :: .un :: .un :: .un :: .un :: .un :: .un :: .un :: .un :: .un :: .un :: .un :: .un :: .un :: .un :: .un :: .un :: .un :: .un :: .un :: .un :: .un :: .un :: .un :: .un :: .un :: .un :: .un :: .un :: .un :: .un :: .un :: .un :: .un :: .un :: .un :: .un :: .un :: .un :: .un :: .un :: []), fun s1 => [some ⟨187, 3, [[.sl (s1.2.1.map cB8), vi s1.2.2.1, vi s1.2.2.2.1]]⟩, some ⟨41, 10, [[.v (.slice none 0 0), .v (.slice none 0 0), vi 0, .v (.slice none 0 0), .v (.slice none 0 0), .v (.slice none 0 0), vi 0, .v (.slice none 0 0), .v (.slice none 0 0), vi 0]]⟩, some ⟨35, 3, [[.ms 3, .ms 4, vi y1.1.change]]⟩, some ⟨67, 6, o0.2.2.2.map cLeg⟩, some ⟨3, 1, y1.1.off.map cInt⟩, some ⟨3, 1, s1.2.2.2.2.map cInt⟩]⟩
def m_p0_spec_l10Draw_b2 (s2 : Int × (List YB8) × Int × Int × Int × Int × Int × (List YLeg) × (List Int) × (List YOrder) × (List YBooking) × (List YTrip) × (List YScan) × (List Int)) : Option ((Int × (List YB8) × Int × Int × Int × Int × Int × (List YLeg) × (List Int) × (List YOrder) × (List YBooking) × (List YTrip) × (List YScan) × (List Int)) ⊕ ((List YB8) × Int × Int × Int × Int × Int × (List YLeg) × (List Int) × (List YOrder) × (List YBooking) × (List YTrip) × (List YScan) × (List Int))) :=
 cond (decide (0 < s2.1))
 ((frz (.be 0 0 0 :: .un :: .un :: .un :: .be 1 0 0 :: .un :: .un :: .un :: .un :: .be 2 0 0 :: .un :: vi s2.1 :: .un :: .un :: .un :: .un :: .un :: .un :: .un :: .un :: .un :: .un :: .un :: .un :: .un :: .un :: .un :: .un :: .un :: .un :: .un :: .un :: .un :: .un :: .un :: .un :: .un :: .un :: .un :: .un :: .un :: .un :: .un :: .un :: .un :: .un :: .un :: .un :: .un :: .un :: .un :: .un :: .un :: .un :: .un :: .un :: .un :: .un :: .un :: .un :: .un :: .un :: []) [some ⟨187, 3, [[.sl (s2.2.1.map cB8), vi s2.2.2.1, vi s2.2.2.2.1]]⟩, some ⟨41, 10, [[.v (.slice none 0 0), .v (.slice none 0 0), vi 0, .v (.slice none 0 0), .v (.slice none 0 0), .v (.slice none 0 0), vi 0, .v (.slice none 0 0), .v (.slice none 0 0), vi 0]]⟩, some ⟨41, 10, [[.sl (s2.2.2.2.2.2.2.2.1.map cLeg), .sl (s2.2.2.2.2.2.2.2.2.1.map cInt), vi s2.2.2.2.2.1, .sl (s2.2.2.2.2.2.2.2.2.2.1.map cOrder), .sl (s2.2.2.2.2.2.2.2.2.2.2.1.map cBooking), .sl (s2.2.2.2.2.2.2.2.2.2.2.2.1.map cTrip), vi s2.2.2.2.2.2.1, .sl (s2.2.2.2.2.2.2.2.2.2.2.2.2.1.map cScan), .sl (s2.2.2.2.2.2.2.2.2.2.2.2.2.2.map cInt), vi s2.2.2.2.2.2.2.1]]⟩]).bind fun _ =>
 (rhoM [0]).bind fun _ =>
 (m_p0_spec_l10Act (⟨s2.2.1, s2.2.2.1, s2.2.2.2.1⟩ : Yl1Cur) (⟨(⟨s2.2.2.2.2.2.2.2.1, s2.2.2.2.2.2.2.2.2.1, s2.2.2.2.2.1⟩ : YNetwork), s2.2.2.2.2.2.2.2.2.2.1, s2.2.2.2.2.2.2.2.2.2.2.1, s2.2.2.2.2.2.2.2.2.2.2.2.1, s2.2.2.2.2.2.1, s2.2.2.2.2.2.2.2.2.2.2.2.2.1, s2.2.2.2.2.2.2.2.2.2.2.2.2.2, s2.2.2.2.2.2.2.1⟩ : YWorld)).bind fun y9 =>
 some (.inl ((w64 (s2.1 - 1)), y9.2.b, y9.2.i, y9.2.h, y9.1.network.change, y9.1.now, y9.1.made, y9.1.network.legs, y9.1.network.off, y9.1.orders, y9.1.bookings, y9.1.closed, y9.1.scans, y9.1.skip)))
 (some (.inr (s2.2.1, s2.2.2.1, s2.2.2.2.1, s2.2.2.2.2.1, s2.2.2.2.2.2.1, s2.2.2.2.2.2.2.1, s2.2.2.2.2.2.2.2.1, s2.2.2.2.2.2.2.2.2.1, s2.2.2.2.2.2.2.2.2.2.1, s2.2.2.2.2.2.2.2.2.2.2.1, s2.2.2.2.2.2.2.2.2.2.2.2.1, s2.2.2.2.2.2.2.2.2.2.2.2.2.1, s2.2.2.2.2.2.2.2.2.2.2.2.2.2)))
instance : LoopE (m_p0_spec_l10Draw_b2) := ⟨fun s2 => (.be 0 0 0 :: .un :: .un :: .un :: .be 1 0 0 :: .un :: .un :: .un :: .un :: .be 2 0 0 :: .un :: vi s2.1 :: .un :: .un :: .un :: .un :: .un :: .un :: .un :: .un :: .un :: .un :: .un :: .un :: .un :: .un :: .un :: .un :: .un :: .un :: .un :: .un :: .un :: .un :: .un :: .un :: .un :: .un :: .un :: .un :: .un :: .un :: .un :: .un :: .un :: .un :: .un :: .un :: .un :: .un :: .un :: .un :: .un :: .un :: .un :: .un :: .un :: .un :: .un :: .un :: .un :: .un :: []), fun s2 => [some ⟨187, 3, [[.sl (s2.2.1.map cB8), vi s2.2.2.1, vi s2.2.2.2.1]]⟩, some ⟨41, 10, [[.v (.slice none 0 0), .v (.slice none 0 0), vi 0, .v (.slice none 0 0), .v (.slice none 0 0), .v (.slice none 0 0), vi 0, .v (.slice none 0 0), .v (.slice none 0 0), vi 0]]⟩, some ⟨41, 10, [[.ms 3, .ms 4, vi s2.2.2.2.2.1, .ms 5, .ms 6, .ms 7, vi s2.2.2.2.2.2.1, .ms 8, .ms 9, vi s2.2.2.2.2.2.2.1]]⟩, some ⟨67, 6, s2.2.2.2.2.2.2.2.1.map cLeg⟩, some ⟨3, 1, s2.2.2.2.2.2.2.2.2.1.map cInt⟩, some ⟨62, 11, s2.2.2.2.2.2.2.2.2.2.1.map cOrder⟩, some ⟨135, 4, s2.2.2.2.2.2.2.2.2.2.2.1.map cBooking⟩, some ⟨55, 2, s2.2.2.2.2.2.2.2.2.2.2.2.1.map cTrip⟩, some ⟨130, 6, s2.2.2.2.2.2.2.2.2.2.2.2.2.1.map cScan⟩, some ⟨3, 1, s2.2.2.2.2.2.2.2.2.2.2.2.2.2.map cInt⟩]⟩
def m_p0_spec_l10Draw (c : Yl1Cur) (most : Int) : Option (YWorld × Yl1Cur) :=
 (rhoM [0]).bind fun _ =>
 (m_p0_spec_l3Draw c 7).bind fun y1 =>
 (iterF (m_p0_spec_l10Draw_b0 most y1) NN (0, y1.2.b, y1.2.i, y1.2.h, y1.1.legs)).bind (fun o0 =>
 (rhoM [0]).bind fun _ =>
 (m_p0_spec_l1Below (⟨o0.1, o0.2.1, o0.2.2.1⟩ : Yl1Cur) 6).bind fun y5 =>
 (iterF (m_p0_spec_l10Draw_b1 most y1 o0) NN (y5.1, y5.2.b, y5.2.i, y5.2.h, ([] : List Int))).bind (fun o1 =>
 (frz (.be 0 0 0 :: vi most :: .un :: .un :: .be 1 0 0 :: .be 2 0 0 :: .un :: .sl (o1.2.2.2.map cInt) :: .un :: .un :: .un :: .un :: .un :: .un :: .un :: .un :: .un :: .un :: .un :: .un :: .un :: .un :: .un :: .un :: .un :: .un :: .un :: .un :: .un :: .un :: .un :: .un :: .un :: .un :: .un :: .un :: .un :: .un :: .un :: .un :: .un :: .un :: .un :: .un :: .un :: .un :: .un :: .un :: .un :: .un :: .un :: .un :: .un :: .un :: .un :: .un :: .un :: .un :: .un :: .un :: .un :: .un :: []) [some ⟨187, 3, [[.sl (o1.1.map cB8), vi o1.2.1, vi o1.2.2.1]]⟩, some ⟨41, 10, [[.v (.slice none 0 0), .v (.slice none 0 0), vi 0, .v (.slice none 0 0), .v (.slice none 0 0), .v (.slice none 0 0), vi 0, .v (.slice none 0 0), .v (.slice none 0 0), vi 0]]⟩, some ⟨35, 3, [[.sl (o0.2.2.2.map cLeg), .sl (y1.1.off.map cInt), vi y1.1.change]]⟩]).bind fun _ =>
 (m_o_spec_NewWorld (⟨o0.2.2.2, y1.1.off, y1.1.change⟩ : YNetwork) o1.2.2.2).bind fun y7 =>
 (rhoM [0]).bind fun _ =>
 (m_p0_spec_l1Below (⟨o1.1, o1.2.1, o1.2.2.1⟩ : Yl1Cur) most).bind fun y8 =>
 (iterF (m_p0_spec_l10Draw_b2) NN (y8.1, y8.2.b, y8.2.i, y8.2.h, y7.1.network.change, y7.1.now, y7.1.made, y7.1.network.legs, y7.1.network.off, y7.1.orders, y7.1.bookings, y7.1.closed, y7.1.scans, y7.1.skip)).bind (fun o2 =>
 some ((⟨(⟨o2.2.2.2.2.2.2.1, o2.2.2.2.2.2.2.2.1, o2.2.2.2.1⟩ : YNetwork), o2.2.2.2.2.2.2.2.2.1, o2.2.2.2.2.2.2.2.2.2.1, o2.2.2.2.2.2.2.2.2.2.2.1, o2.2.2.2.2.1, o2.2.2.2.2.2.2.2.2.2.2.2.1, o2.2.2.2.2.2.2.2.2.2.2.2.2, o2.2.2.2.2.2.1⟩ : YWorld), (⟨o2.1, o2.2.1, o2.2.2.1⟩ : Yl1Cur)))))
theorem ok_p0_spec_l10Draw (c : Yl1Cur) (most : Int) {r : YWorld × Yl1Cur} (H : m_p0_spec_l10Draw c most = some r) : CallM Tryz.prog 178 [.be 0 0 0, vi most] [some ⟨187, 3, [[.sl (c.b.map cB8), vi c.i, vi c.h]]⟩] (.ag [.ms 1, .ms 2, vi r.1.network.change, .ms 3, .ms 4, .ms 5, vi r.1.now, .ms 6, .ms 7, vi r.1.made]) [some ⟨187, 3, [[.sl (r.2.b.map cB8), vi r.2.i, vi r.2.h]]⟩, some ⟨67, 6, r.1.network.legs.map cLeg⟩, some ⟨3, 1, r.1.network.off.map cInt⟩, some ⟨62, 11, r.1.orders.map cOrder⟩, some ⟨135, 4, r.1.bookings.map cBooking⟩, some ⟨55, 2, r.1.closed.map cTrip⟩, some ⟨130, 6, r.1.scans.map cScan⟩, some ⟨3, 1, r.1.skip.map cInt⟩] := by
  replace H := H0 H
  unfold m_p0_spec_l10Draw at H
  refine callM_of Tryz.func178 rfl Tryz.ntmps178 Tryz.results178 fun Q hQ hQn => ?_
  exact wk2
instance (c : Yl1Cur) (most : Int) : CT Tryz.prog (m_p0_spec_l10Draw c most) := ⟨178, [.be 0 0 0, vi most], [some ⟨187, 3, [[.sl (c.b.map cB8), vi c.i, vi c.h]]⟩], fun r => .ag [.ms 1, .ms 2, vi r.1.network.change, .ms 3, .ms 4, .ms 5, vi r.1.now, .ms 6, .ms 7, vi r.1.made], fun r => [some ⟨187, 3, [[.sl (r.2.b.map cB8), vi r.2.i, vi r.2.h]]⟩, some ⟨67, 6, r.1.network.legs.map cLeg⟩, some ⟨3, 1, r.1.network.off.map cInt⟩, some ⟨62, 11, r.1.orders.map cOrder⟩, some ⟨135, 4, r.1.bookings.map cBooking⟩, some ⟨55, 2, r.1.closed.map cTrip⟩, some ⟨130, 6, r.1.scans.map cScan⟩, some ⟨3, 1, r.1.skip.map cInt⟩], ok_p0_spec_l10Draw c most⟩
end Go.Proofs.YtmcdjilbkmhfoaaGreat

/- The mirror of p1_spec_l3Trip, and that the code does just that (printed by a program of my own). -/
namespace Go.Proofs.YtmcdjilbkmhfoaaGreat
set_option maxRecDepth 10000
open Go.RowKit
set_option linter.unusedVariables false
set_option maxHeartbeats 16000000
def m_p1_spec_l3Trip (c : Yl1Cur) (n : YNetwork) : Option (YTrip × Yl1Cur × YNetwork) :=
 (rhoM [0]).bind fun _ =>
 (m_p0_spec_l1Below c (n.legs.length : Int)).bind fun y1 =>
 (rhoM [0]).bind fun _ =>
 (m_p0_spec_l1Below y1.2 10).bind fun y2 =>
 (m_spec_l3Next n y1.1 (w64 (y2.1 * 1440))).bind fun y3 =>
 cond (decide (0 ≤ y3))
 ((rhoM [0]).bind fun _ =>
 (m_p0_spec_l1Once y2.2 4).bind fun y4 =>
 cond (!y4.1)
 (some ((⟨y1.1, y3⟩ : YTrip), y4.2, n))
 (some ((⟨y1.1, y2.1⟩ : YTrip), y4.2, n)))
 (some ((⟨y1.1, y2.1⟩ : YTrip), y2.2, n))
theorem ok_p1_spec_l3Trip (c : Yl1Cur) (n : YNetwork) {r : YTrip × Yl1Cur × YNetwork} (H : m_p1_spec_l3Trip c n = some r) : CallM Tryz.prog 211 [.be 0 0 0, .ag [.ms 1, .ms 2, vi n.change]] [some ⟨187, 3, [[.sl (c.b.map cB8), vi c.i, vi c.h]]⟩, some ⟨67, 6, n.legs.map cLeg⟩, some ⟨3, 1, n.off.map cInt⟩] (.ag [vi r.1.leg, vi r.1.day]) [some ⟨187, 3, [[.sl (r.2.1.b.map cB8), vi r.2.1.i, vi r.2.1.h]]⟩, some ⟨67, 6, r.2.2.legs.map cLeg⟩, some ⟨3, 1, r.2.2.off.map cInt⟩] := by
  replace H := H0 H
  unfold m_p1_spec_l3Trip at H
  refine callM_of Tryz.func211 rfl Tryz.ntmps211 Tryz.results211 fun Q hQ hQn => ?_
  exact wk2
instance (c : Yl1Cur) (n : YNetwork) : CT Tryz.prog (m_p1_spec_l3Trip c n) := ⟨211, [.be 0 0 0, .ag [.ms 1, .ms 2, vi n.change]], [some ⟨187, 3, [[.sl (c.b.map cB8), vi c.i, vi c.h]]⟩, some ⟨67, 6, n.legs.map cLeg⟩, some ⟨3, 1, n.off.map cInt⟩], fun r => .ag [vi r.1.leg, vi r.1.day], fun r => [some ⟨187, 3, [[.sl (r.2.1.b.map cB8), vi r.2.1.i, vi r.2.1.h]]⟩, some ⟨67, 6, r.2.2.legs.map cLeg⟩, some ⟨3, 1, r.2.2.off.map cInt⟩], ok_p1_spec_l3Trip c n⟩
end Go.Proofs.YtmcdjilbkmhfoaaGreat

/- The mirror of p1_spec_l10Trip, and that the code does just that (printed by a program of my own). -/
namespace Go.Proofs.YtmcdjilbkmhfoaaGreat
set_option maxRecDepth 10000
open Go.RowKit
set_option linter.unusedVariables false
set_option maxHeartbeats 16000000
def m_p1_spec_l10Trip (c : Yl1Cur) (w : YWorld) : Option (YTrip × Yl1Cur × YWorld) :=
 cond (decide (0 < (w.bookings.length : Int)))
 ((rhoM [0]).bind fun _ =>
 (m_p0_spec_l1Once c 4).bind fun y1 =>
 cond (!y1.1)
 ((drwL 8 [6]).bind fun _ =>
 (rhoM [0]).bind fun _ =>
 (m_p0_spec_l1Below y1.2 (w.bookings.length : Int)).bind fun y2 =>
 (getI w.bookings y2.1).bind fun y3 =>
 some (y3.trip, y2.2, w))
 ((rhoM [0, 1, 2]).bind fun _ =>
 (m_p1_spec_l3Trip y1.2 w.network).bind fun y4 =>
 some (y4.1, y4.2.1, (⟨(⟨y4.2.2.legs, y4.2.2.off, w.network.change⟩ : YNetwork), w.orders, w.bookings, w.closed, w.now, w.scans, w.skip, w.made⟩ : YWorld))))
 ((rhoM [0, 1, 2]).bind fun _ =>
 (m_p1_spec_l3Trip c w.network).bind fun y5 =>
 some (y5.1, y5.2.1, (⟨(⟨y5.2.2.legs, y5.2.2.off, w.network.change⟩ : YNetwork), w.orders, w.bookings, w.closed, w.now, w.scans, w.skip, w.made⟩ : YWorld)))
theorem ok_p1_spec_l10Trip (c : Yl1Cur) (w : YWorld) {r : YTrip × Yl1Cur × YWorld} (H : m_p1_spec_l10Trip c w = some r) : CallM Tryz.prog 147 [.be 0 0 0, .ag [.ms 1, .ms 2, vi w.network.change, .ms 3, .ms 4, .ms 5, vi w.now, .ms 6, .ms 7, vi w.made]] [some ⟨187, 3, [[.sl (c.b.map cB8), vi c.i, vi c.h]]⟩, some ⟨67, 6, w.network.legs.map cLeg⟩, some ⟨3, 1, w.network.off.map cInt⟩, some ⟨62, 11, w.orders.map cOrder⟩, some ⟨135, 4, w.bookings.map cBooking⟩, some ⟨55, 2, w.closed.map cTrip⟩, some ⟨130, 6, w.scans.map cScan⟩, some ⟨3, 1, w.skip.map cInt⟩] (.ag [vi r.1.leg, vi r.1.day]) [some ⟨187, 3, [[.sl (r.2.1.b.map cB8), vi r.2.1.i, vi r.2.1.h]]⟩, some ⟨67, 6, r.2.2.network.legs.map cLeg⟩, some ⟨3, 1, r.2.2.network.off.map cInt⟩, some ⟨62, 11, r.2.2.orders.map cOrder⟩, some ⟨135, 4, r.2.2.bookings.map cBooking⟩, some ⟨55, 2, r.2.2.closed.map cTrip⟩, some ⟨130, 6, r.2.2.scans.map cScan⟩, some ⟨3, 1, r.2.2.skip.map cInt⟩] := by
  replace H := H0 H
  unfold m_p1_spec_l10Trip at H
  refine callM_of Tryz.func147 rfl Tryz.ntmps147 Tryz.results147 fun Q hQ hQn => ?_
  exact wk2
instance (c : Yl1Cur) (w : YWorld) : CT Tryz.prog (m_p1_spec_l10Trip c w) := ⟨147, [.be 0 0 0, .ag [.ms 1, .ms 2, vi w.network.change, .ms 3, .ms 4, .ms 5, vi w.now, .ms 6, .ms 7, vi w.made]], [some ⟨187, 3, [[.sl (c.b.map cB8), vi c.i, vi c.h]]⟩, some ⟨67, 6, w.network.legs.map cLeg⟩, some ⟨3, 1, w.network.off.map cInt⟩, some ⟨62, 11, w.orders.map cOrder⟩, some ⟨135, 4, w.bookings.map cBooking⟩, some ⟨55, 2, w.closed.map cTrip⟩, some ⟨130, 6, w.scans.map cScan⟩, some ⟨3, 1, w.skip.map cInt⟩], fun r => .ag [vi r.1.leg, vi r.1.day], fun r => [some ⟨187, 3, [[.sl (r.2.1.b.map cB8), vi r.2.1.i, vi r.2.1.h]]⟩, some ⟨67, 6, r.2.2.network.legs.map cLeg⟩, some ⟨3, 1, r.2.2.network.off.map cInt⟩, some ⟨62, 11, r.2.2.orders.map cOrder⟩, some ⟨135, 4, r.2.2.bookings.map cBooking⟩, some ⟨55, 2, r.2.2.closed.map cTrip⟩, some ⟨130, 6, r.2.2.scans.map cScan⟩, some ⟨3, 1, r.2.2.skip.map cInt⟩], ok_p1_spec_l10Trip c w⟩
end Go.Proofs.YtmcdjilbkmhfoaaGreat

/- The mirror of p0_spec_l10Any, and that the code does just that (printed by a program of my own). -/
namespace Go.Proofs.YtmcdjilbkmhfoaaGreat
set_option maxRecDepth 10000
open Go.RowKit
set_option linter.unusedVariables false
set_option maxHeartbeats 16000000
def m_p0_spec_l10Any (c : Yl1Cur) : Option (YWorld × Yl1Cur) :=
 (rhoM [0]).bind fun _ =>
 (m_p0_spec_l10Draw c 9).bind fun y1 =>
 (rhoM [0]).bind fun _ =>
 (m_p0_spec_l1Once y1.2 2).bind fun y2 =>
 cond y2.1
 (some (y1.1, y2.2))
 (cond (decide ((y1.1.orders.length : Int) = 0))
 (some (y1.1, y2.2))
 ((rhoM [0]).bind fun _ =>
 (m_p0_spec_l1Below y2.2 (y1.1.orders.length : Int)).bind fun y3 =>
 (rhoM [0]).bind fun _ =>
 (m_p0_spec_l1Below y3.2 13).bind fun y4 =>
 cond (decide (y4.1 = 0))
 ((drwL 8 [4]).bind fun _ =>
 (rhoM [0]).bind fun _ =>
 (m_p0_spec_l1Below y4.2 5).bind fun y5 =>
 (getI y1.1.orders y3.1).bind fun y6 =>
 some ((⟨y1.1.network, (y1.1.orders.set (Int.toNat y3.1) (⟨y6.from_, y6.to_, y6.service, y6.weight, y6.at_, y6.due, y6.way, y6.gone, y5.1, y6.place, y6.ended⟩ : YOrder)), y1.1.bookings, y1.1.closed, y1.1.now, y1.1.scans, y1.1.skip, y1.1.made⟩ : YWorld), y5.2))
 (cond (decide (y4.1 = 1))
 ((getI y1.1.orders y3.1).bind fun y7 =>
 (getI y1.1.orders y3.1).bind fun y8 =>
 some ((⟨y1.1.network, (y1.1.orders.set (Int.toNat y3.1) (⟨y8.from_, y8.to_, y8.service, y8.weight, y8.at_, y8.due, y8.way, (w64 (y7.gone + 1)), y8.state, y8.place, y8.ended⟩ : YOrder)), y1.1.bookings, y1.1.closed, y1.1.now, y1.1.scans, y1.1.skip, y1.1.made⟩ : YWorld), y4.2))
 (cond (decide (y4.1 = 2))
 ((drwL 8 [11]).bind fun _ =>
 (getI y1.1.orders y3.1).bind fun y9 =>
 (rhoM [0, 90]).bind fun _ =>
 (m_p0_spec_l1Str y4.2 ([⟨#[]⟩, ⟨#[65, 77, 83]⟩, y9.to_])).bind fun y10 =>
 (getI y1.1.orders y3.1).bind fun y11 =>
 some ((⟨y1.1.network, (y1.1.orders.set (Int.toNat y3.1) (⟨y11.from_, y11.to_, y11.service, y11.weight, y11.at_, y11.due, y11.way, y11.gone, y11.state, y10.1, y11.ended⟩ : YOrder)), y1.1.bookings, y1.1.closed, y1.1.now, y1.1.scans, y1.1.skip, y1.1.made⟩ : YWorld), y10.2.1))
 (cond (decide (y4.1 = 3))
 ((getI y1.1.orders y3.1).bind fun y12 =>
 (getI y1.1.orders y3.1).bind fun y13 =>
 some ((⟨y1.1.network, (y1.1.orders.set (Int.toNat y3.1) (⟨y13.from_, y13.to_, y13.service, (w64 (y12.weight + 1)), y13.at_, y13.due, y13.way, y13.gone, y13.state, y13.place, y13.ended⟩ : YOrder)), y1.1.bookings, y1.1.closed, y1.1.now, y1.1.scans, y1.1.skip, y1.1.made⟩ : YWorld), y4.2))
 (cond (decide (y4.1 = 4))
 ((drwL 8 [4]).bind fun _ =>
 (rhoM [0, 34]).bind fun _ =>
 (m_p0_spec_l1Int y4.2 ([1, 300, (-1), 5000])).bind fun y14 =>
 some ((⟨y1.1.network, y1.1.orders, y1.1.bookings, y1.1.closed, (w64 (y1.1.now + y14.1)), y1.1.scans, y1.1.skip, y1.1.made⟩ : YWorld), y14.2.1))
 (cond (decide (y4.1 = 5))
 ((drwL 8 [7]).bind fun _ =>
 (rhoM [0]).bind fun _ =>
 (m_p0_spec_l1Below y4.2 (w64 ((y1.1.bookings.length : Int) + 1))).bind fun y15 =>
 (chk (slOk 0 y15.1 y1.1.bookings.length)).bind fun _ =>
 some ((⟨y1.1.network, y1.1.orders, (subL y1.1.bookings 0 y15.1), y1.1.closed, y1.1.now, y1.1.scans, y1.1.skip, y1.1.made⟩ : YWorld), y15.2))
 (cond (decide (y4.1 = 6))
 ((drwL 8 [4]).bind fun _ =>
 (rhoM [0, 2, 3, 4, 5, 6, 7, 8]).bind fun _ =>
 (m_p1_spec_l10Trip y4.2 y1.1).bind fun y16 =>
 (chk (appOk ((y16.2.2.closed : List YTrip).length + ([y16.1] : List YTrip).length) 16)).bind fun _ =>
 some ((⟨(⟨y16.2.2.network.legs, y16.2.2.network.off, y1.1.network.change⟩ : YNetwork), y16.2.2.orders, y16.2.2.bookings, ((y16.2.2.closed : List YTrip) ++ [y16.1]), y1.1.now, y16.2.2.scans, y16.2.2.skip, y1.1.made⟩ : YWorld), y16.2.1))
 (cond (decide (y4.1 = 7))
 ((getI y1.1.orders y3.1).bind fun y17 =>
 (getI y1.1.orders y3.1).bind fun y18 =>
 some ((⟨y1.1.network, (y1.1.orders.set (Int.toNat y3.1) (⟨y18.from_, y18.to_, y18.service, y18.weight, y18.at_, y18.due, y18.way, y18.gone, y18.state, y18.place, (w64 (y17.ended + 1))⟩ : YOrder)), y1.1.bookings, y1.1.closed, y1.1.now, y1.1.scans, y1.1.skip, y1.1.made⟩ : YWorld), y4.2))
 (cond (decide (y4.1 = 8))
 ((rhoM [0, 10]).bind fun _ =>
 (m_p0_spec_l1Int y4.2 ([0, 1000000000, 1000000001])).bind fun y19 =>
 some ((⟨y1.1.network, y1.1.orders, y1.1.bookings, y1.1.closed, y1.1.now, y1.1.scans, y1.1.skip, y19.1⟩ : YWorld), y19.2.1))
 (cond (decide (y4.1 = 9))
 ((drwL 8 [5]).bind fun _ =>
 (rhoM [0, 42]).bind fun _ =>
 (m_p0_spec_l1Int y4.2 ([0, (-1), 200000, 200001])).bind fun y20 =>
 (getI y1.1.orders y3.1).bind fun y21 =>
 some ((⟨y1.1.network, (y1.1.orders.set (Int.toNat y3.1) (⟨y21.from_, y21.to_, y21.service, y21.weight, y21.at_, y20.1, y21.way, y21.gone, y21.state, y21.place, y21.ended⟩ : YOrder)), y1.1.bookings, y1.1.closed, y1.1.now, y1.1.scans, y1.1.skip, y1.1.made⟩ : YWorld), y20.2.1))
 (some (y1.1, y4.2)))))))))))))
theorem ok_p0_spec_l10Any (c : Yl1Cur) {r : YWorld × Yl1Cur} (H : m_p0_spec_l10Any c = some r) : CallM Tryz.prog 103 [.be 0 0 0] [some ⟨187, 3, [[.sl (c.b.map cB8), vi c.i, vi c.h]]⟩] (.ag [.sl (r.1.network.legs.map cLeg), .sl (r.1.network.off.map cInt), vi r.1.network.change, .sl (r.1.orders.map cOrder), .sl (r.1.bookings.map cBooking), .sl (r.1.closed.map cTrip), vi r.1.now, .sl (r.1.scans.map cScan), .sl (r.1.skip.map cInt), vi r.1.made]) [some ⟨187, 3, [[.sl (r.2.b.map cB8), vi r.2.i, vi r.2.h]]⟩] := by
  replace H := H0 H
  unfold m_p0_spec_l10Any at H
  refine callM_of Tryz.func103 rfl Tryz.ntmps103 Tryz.results103 fun Q hQ hQn => ?_
  exact wk2
instance (c : Yl1Cur) : CT Tryz.prog (m_p0_spec_l10Any c) := ⟨103, [.be 0 0 0], [some ⟨187, 3, [[.sl (c.b.map cB8), vi c.i, vi c.h]]⟩], fun r => .ag [.sl (r.1.network.legs.map cLeg), .sl (r.1.network.off.map cInt), vi r.1.network.change, .sl (r.1.orders.map cOrder), .sl (r.1.bookings.map cBooking), .sl (r.1.closed.map cTrip), vi r.1.now, .sl (r.1.scans.map cScan), .sl (r.1.skip.map cInt), vi r.1.made], fun r => [some ⟨187, 3, [[.sl (r.2.b.map cB8), vi r.2.i, vi r.2.h]]⟩], ok_p0_spec_l10Any c⟩
end Go.Proofs.YtmcdjilbkmhfoaaGreat

/- The mirror of spec_DrawAdvanceTo, and that the code does just that (printed by a program of my own). -/
namespace Go.Proofs.YtmcdjilbkmhfoaaGreat
set_option maxRecDepth 10000
open Go.RowKit
set_option linter.unusedVariables false
set_option maxHeartbeats 16000000
def m_spec_DrawAdvanceTo (code : List YB8) : Option (YWorld × Int) :=
 (m_o_spec_l1New code).bind fun y1 =>
 (rhoM [1]).bind fun _ =>
 (m_p0_spec_l10Any y1).bind fun y2 =>
 (rhoM [1]).bind fun _ =>
 (m_p0_spec_l1Once y2.2 9).bind fun y3 =>
 cond y3.1
 ((drwL 8 [6]).bind fun _ =>
 (rhoM [1, 43]).bind fun _ =>
 (m_p0_spec_l1Int y3.2 ([(-1), 100000, 100001, (w64 (y2.1.now - 1))])).bind fun y4 =>
 some (y2.1, y4.1))
 ((drwL 8 [4]).bind fun _ =>
 (rhoM [1]).bind fun _ =>
 (m_p0_spec_l1Below y3.2 200).bind fun y5 =>
 some (y2.1, (w64 (y2.1.now + (w64 (30 * y5.1))))))
theorem ok_spec_DrawAdvanceTo (code : List YB8) {r : YWorld × Int} (H : m_spec_DrawAdvanceTo code = some r) : CallM Tryz.prog 23 [.sl (code.map cB8)] [] (.tu [.ag [.sl (r.1.network.legs.map cLeg), .sl (r.1.network.off.map cInt), vi r.1.network.change, .sl (r.1.orders.map cOrder), .sl (r.1.bookings.map cBooking), .sl (r.1.closed.map cTrip), vi r.1.now, .sl (r.1.scans.map cScan), .sl (r.1.skip.map cInt), vi r.1.made], vi r.2]) [] := by
  replace H := H0 H
  unfold m_spec_DrawAdvanceTo at H
  refine callM_of Tryz.func23 rfl Tryz.ntmps23 Tryz.results23 fun Q hQ hQn => ?_
  exact wk2
instance (code : List YB8) : CT Tryz.prog (m_spec_DrawAdvanceTo code) := ⟨23, [.sl (code.map cB8)], [], fun r => .tu [.ag [.sl (r.1.network.legs.map cLeg), .sl (r.1.network.off.map cInt), vi r.1.network.change, .sl (r.1.orders.map cOrder), .sl (r.1.bookings.map cBooking), .sl (r.1.closed.map cTrip), vi r.1.now, .sl (r.1.scans.map cScan), .sl (r.1.skip.map cInt), vi r.1.made], vi r.2], fun r => [], ok_spec_DrawAdvanceTo code⟩
end Go.Proofs.YtmcdjilbkmhfoaaGreat

/- Drawn worlds: what the reference draws is a world that its tests can be asked about. -/
namespace Go.Proofs.YtmcdjilbkmhfoaaGreat
set_option maxRecDepth 10000
open Go.RowKit
set_option linter.unusedVariables false
set_option linter.unusedSimpArgs false
set_option linter.unusedSectionVars false
theorem drawP_ok : ∀ p ∈ drawP, m_spec_IsPlace p = some true ∧ p.size = 3 := fun p hp => by
  unfold drawP at hp
  simp only [List.mem_cons, List.not_mem_nil, or_false] at hp
  rcases hp with rfl | rfl | rfl | rfl | rfl | rfl | rfl <;> exact ⟨by decide +kernel, by decide +kernel⟩
theorem LegD.fit {l : YLeg} (h : LegD l) : legFit l := ⟨by rw [(drawP_ok _ h.from_).2]; decide, by rw [(drawP_ok _ h.to_).2]; decide⟩
theorem LegD.ok {l : YLeg} (h : LegD l) : m_spec_IsLeg l = some true := by
  have h1 := h.start
  have h2 := h.takes
  have h3 := h.days
  have h4 := h.room
  unfold m_spec_IsLeg
  rw [(drawP_ok _ h.from_).1, (drawP_ok _ h.to_).1]
  simp only [Option.bind_some, cond_true, decide_eq_false h.ne, Bool.not_false, l1In_v, decide_eq_true h1.1, decide_eq_true h1.2, decide_eq_true h2.1, decide_eq_true h2.2, decide_eq_true h3.1, decide_eq_true h3.2, decide_eq_true h4.1, decide_eq_true h4.2, Bool.and_self]
theorem NetD.fit {n : YNetwork} (h : NetD n) : NetFit n := ⟨by have := h.len; omega, by rcases h.off with e | ⟨a, b, e, _⟩ <;> rw [e] <;> simp, fun l hl => (h.leg l hl).fit⟩
theorem NetD.ok {n : YNetwork} (h : NetD n) : m_spec_IsNetwork n = some true := by
  have hlen := h.len
  have hch := h.change
  have e0 : Tot (iterF (m_spec_IsNetwork_b0 n) NN 0) fun r => r = .inl () := by
    refine Tot.loop (fun (k : Nat) (s : Int) => ∃ i : Nat, s = (i : Int) ∧ i + k = n.legs.length) (fun k s hs => ?_) NN n.legs.length _ ⟨0, rfl, by omega⟩ (by unfold NN; omega)
    obtain ⟨i, rfl, hk⟩ := hs
    unfold m_spec_IsNetwork_b0
    refine Tot.cond (fun hd => ?_) fun hd => Tot.ret rfl
    have hlt := of_decide_eq_true hd
    have hwi : w64 ((i : Int) + 1) = ((i + 1 : Nat) : Int) := by rw [w64_in (by omega)]; omega
    obtain ⟨x, hx, hm⟩ := len_in (xs := n.legs) (i := (i : Int)) ⟨by omega, hlt⟩
    rw [hx, Option.bind_some, (h.leg x hm).ok, Option.bind_some, hwi]
    exact Tot.cond (fun e => by cases e) fun _ => Tot.ret ⟨k - 1, by omega, i + 1, rfl, by omega⟩
  have e1 : Tot (iterF (m_spec_IsNetwork_b1 n) NN 0) fun r => r = .inl () := by
    rcases h.off with e | ⟨a, b, e, g1, g2, g3⟩
    · refine Tot.loop (fun (k : Nat) (s : Int) => s = 0) (fun k s hs => ?_) NN 0 _ rfl (by unfold NN; omega)
      subst hs
      unfold m_spec_IsNetwork_b1
      rw [e]
      exact Tot.cond (fun hd => by simp at hd) fun hd => Tot.ret rfl
    · refine Tot.loop (fun (k : Nat) (s : Int) => (s = 0 ∧ k = 2) ∨ (s = 1 ∧ k = 1) ∨ (s = 2 ∧ k = 0)) (fun k s hs => ?_) NN 2 _ (.inl ⟨rfl, rfl⟩) (by unfold NN; omega)
      unfold m_spec_IsNetwork_b1
      rw [e]
      have x0 : getI [a, b] 0 = some a := rfl
      have x1 : getI [a, b] 1 = some b := rfl
      have w1 : w64 (0 + 1) = 1 := by decide
      have w2 : w64 (1 + 1) = 2 := by decide
      have w0 : w64 (1 - 1) = 0 := by decide
      rcases hs with ⟨rfl, rfl⟩ | ⟨rfl, rfl⟩ | ⟨rfl, rfl⟩
      · refine Tot.cond (fun _ => ?_) fun hd => by simp at hd
        rw [x0, Option.bind_some, l1In_v, Option.bind_some, decide_eq_true g1, decide_eq_true (show a ≤ 60 by omega), w1]
        exact Tot.cond (fun e => by cases e) fun _ => Tot.cond (fun e => by simp at e) fun _ => Tot.ret ⟨1, by omega, .inr (.inl ⟨rfl, rfl⟩)⟩
      · refine Tot.cond (fun _ => ?_) fun hd => by simp at hd
        rw [x1, Option.bind_some, l1In_v, Option.bind_some, decide_eq_true (show 0 ≤ b by omega), decide_eq_true g3, w2, w0, x0, Option.bind_some, Option.bind_some]
        exact Tot.cond (fun e => by cases e) fun _ => Tot.cond (fun _ => Tot.cond (fun e => by have := of_decide_eq_true e; omega) fun _ => Tot.ret ⟨0, by omega, .inr (.inr ⟨rfl, rfl⟩)⟩) fun e => by simp at e
      · exact Tot.cond (fun hd => by simp at hd) fun hd => Tot.ret rfl
  obtain ⟨_, r0, rfl⟩ := e0
  obtain ⟨_, r1, rfl⟩ := e1
  unfold m_spec_IsNetwork
  rw [r0, Option.bind_some]
  simp only [selim]
  rw [r1, Option.bind_some]
  simp only [selim]
  have ho : (n.off.length : Int) ≤ 10 := by rcases h.off with e | ⟨a, b, e, _⟩ <;> rw [e] <;> simp
  rw [decide_eq_true (show (n.legs.length : Int) ≤ 20 by omega), decide_eq_true ho, l1In_v, decide_eq_true hch.1, decide_eq_true hch.2]
  rfl
theorem new_world {n : YNetwork} (h : NetD n) {skip : List Int} (hs : skip.length ≤ 50) : m_o_spec_NewWorld n skip = some ((⟨n, [], [], [], 0, [], skip, 0⟩ : YWorld), true) := by
  have hf : WFit (⟨n, [], [], [], 0, [], skip, 0⟩ : YWorld) := ⟨h.fit, by simp, by simp, by simp, by simp, by simp only; omega, fun o ho => by cases ho⟩
  have hv : worldV (⟨n, [], [], [], 0, [], skip, 0⟩ : YWorld) = true := by
    unfold worldV booksV tripsV
    simp only [h.ok, Option.getD_some]
    simp [allI]
    omega
  unfold m_o_spec_NewWorld
  rw [copyW_s hf, Option.bind_some, spec_world hf, hv]
  rfl
section
variable {n : YNetwork} (hn : NetD n)
include hn
theorem leg0 : 0 < n.legs.length ∧ n.legs.length ≤ 20 := by have := hn.len; omega
theorem trip_tot {c : Yl1Cur} (h : CurOk c) : Tot (m_p0_spec_l3Trip c n) fun r => CurOk r.2 := by
  have hl := hn.len
  unfold m_p0_spec_l3Trip
  refine Tot.rho (Tot.bind (below_tot h _) fun y1 h1 => Tot.rho (Tot.bind (below_tot h1.2 10) fun y2 h2 => ?_))
  obtain ⟨y, hy, _⟩ := len_in (xs := n.legs) (i := y1.1) ⟨h1.1.1, h1.1.2.1 (by omega)⟩
  refine Tot.bind (l3next_tot hn.fit hy _) fun y3 _ => Tot.cond (fun _ => Tot.rho (Tot.bind (once_tot h2.2 4) fun y4 h4 => Tot.cond (fun _ => Tot.ret h4) fun _ => Tot.ret h4)) fun _ => Tot.ret h2.2
theorem trip1_tot {c : Yl1Cur} (h : CurOk c) : Tot (m_p1_spec_l3Trip c n) fun r => CurOk r.2.1 ∧ r.2.2 = n := by
  have hl := hn.len
  unfold m_p1_spec_l3Trip
  refine Tot.rho (Tot.bind (below_tot h _) fun y1 h1 => Tot.rho (Tot.bind (below_tot h1.2 10) fun y2 h2 => ?_))
  obtain ⟨y, hy, _⟩ := len_in (xs := n.legs) (i := y1.1) ⟨h1.1.1, h1.1.2.1 (by omega)⟩
  refine Tot.bind (l3next_tot hn.fit hy _) fun y3 _ => Tot.cond (fun _ => Tot.rho (Tot.bind (once_tot h2.2 4) fun y4 h4 => Tot.cond (fun _ => Tot.ret ⟨h4, rfl⟩) fun _ => Tot.ret ⟨h4, rfl⟩)) fun _ => Tot.ret ⟨h2.2, rfl⟩
theorem wtrip_tot {c : Yl1Cur} (h : CurOk c) {w : YWorld} (hw : w.network = n) : Tot (m_p0_spec_l10Trip c w) fun r => CurOk r.2 := by
  unfold m_p0_spec_l10Trip
  rw [hw]
  refine Tot.cond (fun hd => Tot.rho (Tot.bind (once_tot h 4) fun y1 h1 => Tot.cond (fun _ => Tot.drw (Tot.rho (Tot.bind (below_tot h1 _) fun y2 h2 => Tot.get h2.1.1 (h2.1.2.1 (of_decide_eq_true hd)) fun x _ _ => Tot.ret h2.2))) fun _ => Tot.rho (Tot.bind (trip_tot hn h1) fun y4 h4 => Tot.ret h4))) fun _ => Tot.rho (Tot.bind (trip_tot hn h) fun y4 h4 => Tot.ret h4)
theorem wtrip1_tot {c : Yl1Cur} (h : CurOk c) {w : YWorld} (hw : w.network = n) : Tot (m_p1_spec_l10Trip c w) fun r => CurOk r.2.1 ∧ r.2.2 = w := by
  subst hw
  unfold m_p1_spec_l10Trip
  refine Tot.cond (fun hd => Tot.rho (Tot.bind (once_tot h 4) fun y1 h1 => Tot.cond (fun _ => Tot.drw (Tot.rho (Tot.bind (below_tot h1 _) fun y2 h2 => Tot.get h2.1.1 (h2.1.2.1 (of_decide_eq_true hd)) fun x _ _ => Tot.ret ⟨h2.2, rfl⟩))) fun _ => Tot.rho (Tot.bind (trip1_tot hn h1) fun y4 h4 => Tot.ret ⟨h4.1, ?_⟩))) fun _ => Tot.rho (Tot.bind (trip1_tot hn h) fun y4 h4 => Tot.ret ⟨h4.1, ?_⟩)
  · simp only [h4.2]
  · simp only [h4.2]
theorem of_tot {c : Yl1Cur} (h : CurOk c) : Tot (m_p0_spec_l4Of c n) fun r => CurOk r.2 := by
  have hl := hn.len
  have hp : 0 < (placesV n).length := by
    have := (legs_in (n := n) (List.getElem_mem (show 0 < n.legs.length by omega))).1
    exact List.length_pos_of_mem this
  unfold m_p0_spec_l4Of
  rw [(places_eq hn.fit).2, Option.bind_some]
  refine Tot.rho (Tot.bind (once_tot h 9) fun y2 h2 => Tot.cond (fun _ => Tot.rho (Tot.bind (place_tot h2) fun y3 h3 => Tot.ret h3.2)) fun _ => Tot.rho (Tot.bind (below_tot h2 _) fun y4 h4 => Tot.get h4.1.1 (h4.1.2.1 (by omega)) fun x _ _ => Tot.ret h4.2))
omit hn in
theorem run_comes : ∀ (k : Nat) (w : YWorld) (u : Int) (i : Nat) (o o' : YOrder), w.orders[i]? = some o → (runV k w u).orders[i]? = some o' → comesV o ≤ comesV o'
  | 0, w, u, i, o, o', h, h' => by
    have h' : w.orders[i]? = some o' := h'
    rw [h] at h'; obtain rfl := Option.some.inj h'; exact Int.le_refl _
  | k + 1, w, u, i, o, o', h, h' => by
    unfold runV at h'
    split at h'
    · rw [h] at h'; obtain rfl := Option.some.inj h'; exact Int.le_refl _
    · have h1 : (happenV w (nextV w)).orders[i]? = some (stepV w.network (nextV w) o) := by
        show (w.orders.map _)[i]? = _
        rw [List.getElem?_map, h]; rfl
      exact Int.le_trans step_comes (run_comes k _ u i _ _ h1 h')
omit hn in
theorem adv_fin {w : YWorld} (h : WOk w) {u : Int} (hu : w.now ≤ u) (hm : u ≤ 100000) (hF : ∀ o ∈ w.orders, FinE w.network o) : ∀ o ∈ (advV w u).orders, FinO w.network u o := fun o' ho' => by
  obtain ⟨a, b, _⟩ := adv_ok h hu hm
  obtain ⟨i, hi, rfl⟩ := List.getElem_of_mem ho'
  have hi' := List.getElem?_eq_getElem hi
  have hlt : i < w.orders.length := by rw [← b.len]; exact hi
  have hio := List.getElem?_eq_getElem hlt
  have hs := b.ord i _ _ hio hi'
  have hc := run_comes (todoW w) w u i _ _ hio hi'
  have hwy := a.way hi'
  have hst := a.state hi'
  have hwo := world_ok a.fit a.ok hi'
  have hsh := way_short hwy
  have hg := hwy.gone
  refine ⟨?_, fun h2 => ?_, ⟨hg.1, by omega⟩⟩
  · rcases hF _ (List.getElem_mem hlt) with h | h
    · refine .inl ?_
      have hcl : comesV (advV w u).orders[i] ≤ (advV w u).orders[i].way.length := by
        unfold comesV
        split
        · rcases hwo.cases with ⟨c, _⟩ | ⟨_, c⟩ | ⟨c, _⟩ <;> omega
        · exact hg.2
      have : (advV w u).orders[i].way.length = w.orders[i].way.length := by rw [hs.way]
      omega
    · exact .inr (by rw [hs.way, hs.to_]; exact h)
  · rcases hst.cases with ⟨c, _⟩ | ⟨_, _, _, t, c1, c2, _⟩ | ⟨c, _⟩
    · omega
    · rw [b.network] at c2; exact ⟨t, c1, c2⟩
    · omega
theorem adv_tot {w : YWorld} (hw : WD n w) (u : Int) : Tot (m_o_spec_AdvanceTo w u) (WD n) := by
  refine Tot.of (advance_s hw.fit u) ?_
  split
  · rename_i h
    obtain ⟨a, b, _⟩ := adv_ok ⟨hw.fit, h.1⟩ h.2.1 h.2.2
    have hnet := hw.net
    exact ⟨a.fit, b.network.trans hw.net, by rw [b.closed]; exact hw.closed, fun o ho => by rw [← hnet]; exact adv_fin ⟨hw.fit, h.1⟩ h.2.1 h.2.2 (fun x hx => by rw [hnet]; exact (hw.fin x hx).ends) o ho⟩
  · exact hw
theorem act_tot {c : Yl1Cur} (h : CurOk c) {w : YWorld} (hw : WD n w) : Tot (m_p0_spec_l10Act c w) fun r => WD n r.1 ∧ CurOk r.2 := by
  have hl := (leg0 hn).2
  have hnet := hw.net
  unfold m_p0_spec_l10Act
  refine Tot.rho (Tot.bind (below_tot h 6) fun y1 h1 => ?_)
  rw [hnet]
  have hc := h1.2
  refine Tot.cond (fun _ => Tot.cond (fun _ => ?_) fun _ => Tot.cond (fun _ => ?_) fun _ => Tot.cond (fun _ => ?_) fun _ => ?_) fun _ => Tot.cond (fun _ => Tot.cond (fun _ => ?_) fun _ => Tot.cond (fun _ => ?_) fun _ => Tot.cond (fun _ => ?_) fun _ => ?_) fun _ => Tot.cond (fun _ => ?_) fun _ => Tot.cond (fun _ => ?_) fun _ => Tot.cond (fun _ => ?_) fun _ => ?_
  any_goals exact Tot.drw (Tot.rho (Tot.bind (of_tot hn hc) fun y2 h2 => Tot.rho (Tot.bind (of_tot hn h2) fun y3 h3 => Tot.rho (Tot.bind (below_tot h3 3) fun y4 h4 => Tot.rho (Tot.bind (below_tot h4.2 4000) fun y5 h5 => Tot.bind (accept_tot hn.fit hl hw _ _ _ _) fun y6 h6 => Tot.ret ⟨h6, h5.2⟩)))))
  any_goals exact Tot.drw (Tot.rho (Tot.bind (wtrip_tot hn hc hnet) fun y7 h7 => Tot.bind (shut_tot hn.fit hl hw _) fun y8 h8 => Tot.ret ⟨h8, h7⟩))
  any_goals exact Tot.bind (retry_tot hn.fit hl hw) fun y9 h9 => Tot.ret ⟨h9, hc⟩
  all_goals exact Tot.drw (Tot.rho (Tot.bind (below_tot hc 40) fun y10 h10 => Tot.bind (adv_tot hn hw _) fun y11 h11 => Tot.ret ⟨h11, h10.2⟩))
end
theorem draw_tot {c : Yl1Cur} (h : CurOk c) (most : Int) (hm : most ≤ 1000) : Tot (m_p0_spec_l10Draw c most) fun r => ∃ n, NetD n ∧ WD n r.1 ∧ CurOk r.2 := by
  unfold m_p0_spec_l10Draw
  refine Tot.rho (Tot.bind (net_tot h) fun y1 h1 => ?_)
  obtain ⟨h1, hc1⟩ := h1
  refine Tot.bind (P := fun o => CurOk ⟨o.1, o.2.1, o.2.2.1⟩ ∧ NetD ⟨o.2.2.2, y1.1.off, y1.1.change⟩) ?_ fun o0 ho0 => ?_
  · have hlen := h1.len
    refine Tot.loop (fun (k : Nat) (s : Int × (List YB8) × Int × Int × (List YLeg)) => ∃ i : Nat, s.1 = (i : Int) ∧ i + k = s.2.2.2.2.length ∧ CurOk ⟨s.2.1, s.2.2.1, s.2.2.2.1⟩ ∧ NetD ⟨s.2.2.2.2, y1.1.off, y1.1.change⟩) (fun k s hs => ?_) NN y1.1.legs.length _ ⟨0, rfl, by simp, hc1, h1⟩ (by unfold NN; omega)
    obtain ⟨i, hi, hk, hc, hd⟩ := hs
    have hl2 := hd.len
    simp only at hl2
    unfold m_p0_spec_l10Draw_b0
    rw [hi]
    refine Tot.cond (fun hlt => ?_) fun _ => Tot.ret ⟨hc, hd⟩
    have hlt := of_decide_eq_true hlt
    have hwi : w64 ((i : Int) + 1) = ((i + 1 : Nat) : Int) := by rw [w64_in (by omega)]; omega
    rw [hwi]
    refine Tot.rho (Tot.bind (once_tot hc 2) fun y2 h2 => Tot.cond (fun _ => Tot.drw (Tot.rho (Tot.bind (below_tot h2 9) fun y3 h3 => ?_))) fun _ => Tot.ret ⟨k - 1, by omega, i + 1, rfl, by simp only; omega, h2, hd⟩)
    refine Tot.get (by omega) hlt fun x hx _ => Tot.ret ⟨k - 1, by omega, i + 1, rfl, by simp only [List.length_set]; omega, h3.2, ?_⟩
    have b3 := h3.1.2.1 (by omega)
    have b0 := h3.1.1
    have hr : w64 (2000 + w64 (1000 * y3.1)) = 2000 + 1000 * y3.1 := by rw [w64_in (n := 1000 * y3.1) (by omega), w64_in (by omega)]
    refine ⟨by simp only [List.length_set]; exact hl2, fun l hl => ?_, hd.off, hd.change⟩
    rcases List.mem_or_eq_of_mem_set hl with hl | rfl
    · exact hd.leg l hl
    · obtain ⟨a1, a2, a3, a4, a5, a6, a7⟩ := hd.leg x hx
      exact ⟨a1, a2, a3, a4, a5, a6, by simp only [hr]; omega⟩
  · refine Tot.rho (Tot.bind (below_tot ho0.1 6) fun y5 h5 => ?_)
    have b5 := h5.1.2.1 (by omega)
    have b5' := h5.1.1
    refine Tot.bind (P := fun o => CurOk ⟨o.1, o.2.1, o.2.2.1⟩ ∧ o.2.2.2.length ≤ 50) ?_ fun o1 ho1 => ?_
    · refine Tot.loop (fun (k : Nat) (s : Int × (List YB8) × Int × Int × (List Int)) => s.1 = (k : Int) ∧ s.2.2.2.2.length + k ≤ 6 ∧ CurOk ⟨s.2.1, s.2.2.1, s.2.2.2.1⟩) (fun k s hs => ?_) NN y5.1.toNat _ ⟨by simp only; omega, by simp only [List.length_nil]; omega, h5.2⟩ (by unfold NN; omega)
      obtain ⟨hk, hl, hc⟩ := hs
      unfold m_p0_spec_l10Draw_b1
      refine Tot.cond (fun hd => ?_) fun _ => Tot.ret ⟨hc, by simp only; omega⟩
      have hd := of_decide_eq_true hd
      have hwi : w64 (s.1 - 1) = ((k - 1 : Nat) : Int) := by rw [w64_in (by omega)]; omega
      exact Tot.rho (Tot.bind (below_tot hc 25) fun y6 h6 => Tot.chk (app_fit (by simp only [List.length_cons, List.length_nil]; omega) (by omega)) (Tot.ret ⟨k - 1, by omega, hwi, by simp only [List.length_append, List.length_cons, List.length_nil]; omega, h6.2⟩))
    · refine Tot.frz ?_
      rw [new_world ho0.2 ho1.2, Option.bind_some]
      refine Tot.rho (Tot.bind (below_tot ho1.1 most) fun y8 h8 => ?_)
      have b8 := h8.1
      have b8' : y8.1 ≤ 1000 := by
        rcases Int.lt_or_le 0 most with hp | hp
        · have := b8.2.1 hp; omega
        · have := b8.2.2 hp; omega
      refine Tot.bind (P := fun o => CurOk ⟨o.1, o.2.1, o.2.2.1⟩ ∧ WD ⟨o0.2.2.2, y1.1.off, y1.1.change⟩ (⟨(⟨o.2.2.2.2.2.2.1, o.2.2.2.2.2.2.2.1, o.2.2.2.1⟩ : YNetwork), o.2.2.2.2.2.2.2.2.1, o.2.2.2.2.2.2.2.2.2.1, o.2.2.2.2.2.2.2.2.2.2.1, o.2.2.2.2.1, o.2.2.2.2.2.2.2.2.2.2.2.1, o.2.2.2.2.2.2.2.2.2.2.2.2, o.2.2.2.2.2.1⟩ : YWorld)) ?_ fun o2 ho2 => Tot.ret ⟨_, ho0.2, ho2.2, ho2.1⟩
      refine Tot.loop (fun (k : Nat) (s2 : Int × (List YB8) × Int × Int × Int × Int × Int × (List YLeg) × (List Int) × (List YOrder) × (List YBooking) × (List YTrip) × (List YScan) × (List Int)) => s2.1 = (k : Int) ∧ k ≤ 1000 ∧ CurOk ⟨s2.2.1, s2.2.2.1, s2.2.2.2.1⟩ ∧ WD ⟨o0.2.2.2, y1.1.off, y1.1.change⟩ (⟨(⟨s2.2.2.2.2.2.2.2.1, s2.2.2.2.2.2.2.2.2.1, s2.2.2.2.2.1⟩ : YNetwork), s2.2.2.2.2.2.2.2.2.2.1, s2.2.2.2.2.2.2.2.2.2.2.1, s2.2.2.2.2.2.2.2.2.2.2.2.1, s2.2.2.2.2.2.1, s2.2.2.2.2.2.2.2.2.2.2.2.2.1, s2.2.2.2.2.2.2.2.2.2.2.2.2.2, s2.2.2.2.2.2.2.1⟩ : YWorld)) (fun k s hs => ?_) NN y8.1.toNat _ ⟨by simp only; omega, ?_, h8.2, ?_⟩ (by unfold NN; omega)
      · obtain ⟨hk, hkl, hc, hw⟩ := hs
        unfold m_p0_spec_l10Draw_b2
        refine Tot.cond (fun hd => ?_) fun _ => Tot.ret ⟨hc, hw⟩
        have hd := of_decide_eq_true hd
        have hwi : w64 (s.1 - 1) = ((k - 1 : Nat) : Int) := by rw [w64_in (by omega)]; omega
        exact Tot.frz (Tot.rho (Tot.bind (act_tot ho0.2 hc hw) fun y9 h9 => Tot.ret ⟨k - 1, by omega, hwi, by omega, h9.2, h9.1⟩))
      · omega
      · exact ⟨⟨ho0.2.fit, by simp, by simp, by simp, by simp, by have := ho1.2; simp only; omega, fun o ho => by cases ho⟩, rfl, by simp, fun o ho => by cases ho⟩
theorem WFit.set {w : YWorld} (h : WFit w) {i : Nat} {x : YOrder} {o : YOrder} (ho : o ∈ w.orders) (hx : x.way = o.way) : ∀ y ∈ w.orders.set i x, y.way.length ≤ 1048576 := fun y hy => by
  rcases List.mem_or_eq_of_mem_set hy with hy | rfl
  · exact h.way y hy
  · rw [hx]; exact h.way o ho
theorem mutS {n : YNetwork} {now : Int} {o x : YOrder} (h : FinO n now o) (hw : x.way = o.way) (ht : x.to_ = o.to_) (hg : x.gone = o.gone) (hs : StateOk n x now) (h0 : 0 ≤ x.gone) (h1 : x.gone ≤ x.way.length) : FinE n x := by
  rcases h.ends with he | he
  · refine .inl ?_
    rw [hw]
    rcases hs.cases with ⟨c, _, _, _, c5⟩ | ⟨c, _, _, t, c4, _⟩ | ⟨c, _, _, c4, _⟩
    · have hc : comesV x = o.gone := by unfold comesV; rw [if_neg (by omega), hg]
      by_cases h2 : o.state = 2
      · obtain ⟨t, k1, k2⟩ := h.started h2
        have := c5 t (by rw [hw, hg]; exact k1)
        omega
      · have : comesV o = o.gone := by unfold comesV; rw [if_neg h2]
        omega
    · have hlt := (List.getElem?_eq_some_iff.1 c4).1
      rw [hw] at hlt
      have hc : comesV x = o.gone + 1 := by unfold comesV; rw [if_pos c, hg]
      by_cases h2 : o.state = 2
      · have : comesV o = o.gone + 1 := by unfold comesV; rw [if_pos h2]
        omega
      · have : comesV o = o.gone := by unfold comesV; rw [if_neg h2]
        omega
    · have hc : comesV x = x.gone := by unfold comesV; rw [if_neg (by omega)]
      rw [hw] at c4
      omega
  · exact .inr (by rw [hw, ht]; exact he)
theorem mutG {n : YNetwork} {now : Int} {o x : YOrder} (h : FinO n now o) (hw : x.way = o.way) (ht : x.to_ = o.to_) (hg : x.gone = w64 (o.gone + 1) ∧ x.state = o.state) (hs : StateOk n x now) (h0 : 0 ≤ x.gone) (h1 : x.gone ≤ x.way.length) : FinE n x := by
  have hgo := h.gone
  have hx : x.gone = o.gone + 1 := by rw [hg.1, w64_in (by omega)]
  rcases h.ends with he | he
  · exfalso
    rw [hw] at h1
    by_cases h2 : o.state = 2
    · have : comesV o = o.gone + 1 := by unfold comesV; rw [if_pos h2]
      have hx2 : x.state = 2 := hg.2.trans h2
      rcases hs.cases with ⟨c, _⟩ | ⟨c, _, _, t, c4, _⟩ | ⟨c, _⟩
      · omega
      · have hlt := (List.getElem?_eq_some_iff.1 c4).1
        rw [hw] at hlt
        omega
      · omega
    · have : comesV o = o.gone := by unfold comesV; rw [if_neg h2]
      omega
  · exact .inr (by rw [hw, ht]; exact he)
theorem any_tot {c : Yl1Cur} (h : CurOk c) : Tot (m_p0_spec_l10Any c) fun r => (NetD r.1.network ∧ WFit r.1 ∧ (worldV r.1 = true → ∀ o ∈ r.1.orders, FinE r.1.network o)) ∧ CurOk r.2 := by
  unfold m_p0_spec_l10Any
  refine Tot.rho (Tot.bind (draw_tot h 9 (by omega)) fun y1 h1 => ?_)
  obtain ⟨n, hn, hw, hc⟩ := h1
  have hf := hw.fit
  have hcl := hw.closed
  have hnd : NetD y1.1.network := by rw [hw.net]; exact hn
  have hfe : ∀ o ∈ y1.1.orders, FinE y1.1.network o := fun o ho => by rw [hw.net]; exact (hw.fin o ho).ends
  refine Tot.rho (Tot.bind (once_tot hc 2) fun y2 h2 => Tot.cond (fun _ => Tot.ret ⟨⟨hnd, hf, fun _ => hfe⟩, h2⟩) fun _ => Tot.cond (fun _ => Tot.ret ⟨⟨hnd, hf, fun _ => hfe⟩, h2⟩) fun hz => ?_)
  have hz := of_decide_eq_false hz
  refine Tot.rho (Tot.bind (below_tot h2 _) fun y3 h3 => Tot.rho (Tot.bind (below_tot h3.2 13) fun y4 h4 => ?_))
  have b3 := h3.1.2.1 (by omega)
  obtain ⟨o, ho, hm⟩ := len_in (xs := y1.1.orders) (i := y3.1) ⟨h3.1.1, b3⟩
  have hc4 := h4.2
  rw [ho]
  simp only [Option.bind_some]
  have hF : FinO y1.1.network y1.1.now o := by rw [hw.net]; exact hw.fin o hm
  have hoi := (getI_some ho).2
  have set : ∀ (x : YOrder), x.way = o.way → WFit (⟨y1.1.network, (y1.1.orders.set (Int.toNat y3.1) x), y1.1.bookings, y1.1.closed, y1.1.now, y1.1.scans, y1.1.skip, y1.1.made⟩ : YWorld) := fun x hx => ⟨hf.net, by simp only [List.length_set]; exact hf.orders, hf.bookings, hf.closed, hf.scans, hf.skip, hf.set hm hx⟩
  have setF : ∀ (x : YOrder), x.way = o.way → (StateOk y1.1.network x y1.1.now → 0 ≤ x.gone → x.gone ≤ x.way.length → FinE y1.1.network x) → (worldV (⟨y1.1.network, (y1.1.orders.set (Int.toNat y3.1) x), y1.1.bookings, y1.1.closed, y1.1.now, y1.1.scans, y1.1.skip, y1.1.made⟩ : YWorld) = true → ∀ z ∈ y1.1.orders.set (Int.toNat y3.1) x, FinE y1.1.network z) := fun x hx hk hv z hz => by
    rcases List.mem_or_eq_of_mem_set hz with hz | rfl
    · exact hfe z hz
    · have hok : WOk (⟨y1.1.network, (y1.1.orders.set (Int.toNat y3.1) z), y1.1.bookings, y1.1.closed, y1.1.now, y1.1.scans, y1.1.skip, y1.1.made⟩ : YWorld) := ⟨set z hx, hv⟩
      have hzi : (y1.1.orders.set (Int.toNat y3.1) z)[(Int.toNat y3.1)]? = some z := by
        rw [List.getElem?_set_self (List.getElem?_eq_some_iff.1 hoi).1]
      exact hk (hok.state hzi) (hok.way hzi).gone.1 (hok.way hzi).gone.2
  have keep : ∀ (a b : Int), WFit (⟨y1.1.network, y1.1.orders, y1.1.bookings, y1.1.closed, a, y1.1.scans, y1.1.skip, b⟩ : YWorld) := fun a b => ⟨hf.net, hf.orders, hf.bookings, hf.closed, hf.scans, hf.skip, hf.way⟩
  refine Tot.cond (fun _ => Tot.drw (Tot.rho (Tot.bind (below_tot hc4 5) fun y5 h5 => Tot.ret ⟨⟨hnd, set _ rfl, setF _ rfl (fun h1 h2 h3 => mutS hF rfl rfl rfl h1 h2 h3)⟩, h5.2⟩))) fun _ => ?_
  refine Tot.cond (fun _ => Tot.ret ⟨⟨hnd, set _ rfl, setF _ rfl (fun h1 h2 h3 => mutG hF rfl rfl ⟨rfl, rfl⟩ h1 h2 h3)⟩, hc4⟩) fun _ => ?_
  refine Tot.cond (fun _ => Tot.drw (Tot.rho (Tot.bind (str_tot hc4 (by simp)) fun y10 h10 => Tot.ret ⟨⟨hnd, set _ rfl, setF _ rfl (fun _ _ _ => hF.ends)⟩, h10.2⟩))) fun _ => ?_
  refine Tot.cond (fun _ => Tot.ret ⟨⟨hnd, set _ rfl, setF _ rfl (fun _ _ _ => hF.ends)⟩, hc4⟩) fun _ => ?_
  refine Tot.cond (fun _ => Tot.drw (Tot.rho (Tot.bind (int_tot hc4 (by simp)) fun y14 h14 => Tot.ret ⟨⟨hnd, keep _ _, fun _ => hfe⟩, h14.2⟩))) fun _ => ?_
  refine Tot.cond (fun _ => Tot.drw (Tot.rho (Tot.bind (below_tot hc4 _) fun y15 h15 => ?_))) fun _ => ?_
  · have hb := hf.bookings
    have hw1 : w64 ((y1.1.bookings.length : Int) + 1) = (y1.1.bookings.length : Int) + 1 := w64_in (by omega)
    have b15 := h15.1.2.1 (by rw [hw1]; omega)
    rw [hw1] at b15
    have b0 := h15.1.1
    refine Tot.chk (by unfold slOk; exact decide_eq_true (by omega)) (Tot.ret ⟨⟨hnd, ⟨hf.net, hf.orders, ?_, hf.closed, hf.scans, hf.skip, hf.way⟩, fun _ => hfe⟩, h15.2⟩)
    simp only [subL, List.length_take, List.length_drop]; omega
  refine Tot.cond (fun _ => Tot.drw (Tot.rho (Tot.bind (wtrip1_tot hn hc4 hw.net) fun y16 h16 => ?_))) fun _ => ?_
  · have e := h16.2
    rw [e]
    refine Tot.chk (app_fit (by simp only [List.length_cons, List.length_nil]; omega) (by omega)) (Tot.ret ⟨⟨hnd, ⟨hf.net, hf.orders, hf.bookings, ?_, hf.scans, hf.skip, hf.way⟩, fun _ => hfe⟩, h16.1⟩)
    simp only [List.length_append, List.length_cons, List.length_nil]; omega
  refine Tot.cond (fun _ => Tot.ret ⟨⟨hnd, set _ rfl, setF _ rfl (fun _ _ _ => hF.ends)⟩, hc4⟩) fun _ => ?_
  refine Tot.cond (fun _ => Tot.rho (Tot.bind (int_tot hc4 (by simp)) fun y19 h19 => Tot.ret ⟨⟨hnd, keep _ _, fun _ => hfe⟩, h19.2⟩)) fun _ => ?_
  exact Tot.cond (fun _ => Tot.drw (Tot.rho (Tot.bind (int_tot hc4 (by simp)) fun y20 h20 => Tot.ret ⟨⟨hnd, set _ rfl, setF _ rfl (fun _ _ _ => hF.ends)⟩, h20.2⟩))) fun _ => Tot.ret ⟨⟨hnd, hf, fun _ => hfe⟩, hc4⟩
/-- What DrawAdvanceTo draws. -/
theorem drawAdv_tot {code : List YB8} (hl : code.length ≤ 4096) (hb : ∀ x ∈ code, 0 ≤ x.v ∧ x.v ≤ 255) : Tot (m_spec_DrawAdvanceTo code) fun r => WFit r.1 ∧ (worldV r.1 = true → ∀ o ∈ r.1.orders, FinE r.1.network o) := by
  unfold m_spec_DrawAdvanceTo
  exact Tot.bind (new_tot hl hb) fun y1 h1 => Tot.rho (Tot.bind (any_tot h1) fun y2 h2 => Tot.rho (Tot.bind (once_tot h2.2 9) fun y3 h3 => Tot.cond (fun _ => Tot.drw (Tot.rho (Tot.bind (int_tot h3 (by simp)) fun y4 _ => Tot.ret h2.1.2))) fun _ => Tot.drw (Tot.rho (Tot.bind (below_tot h3 200) fun y5 _ => Tot.ret h2.1.2))))
end Go.Proofs.YtmcdjilbkmhfoaaGreat

/- The mirror of spec_DrawShutTrip, and that the code does just that (printed by a program of my own). -/
namespace Go.Proofs.YtmcdjilbkmhfoaaGreat
set_option maxRecDepth 10000
open Go.RowKit
set_option linter.unusedVariables false
set_option maxHeartbeats 16000000
def m_spec_DrawShutTrip (code : List YB8) : Option (YWorld × YTrip) :=
 (m_o_spec_l1New code).bind fun y1 =>
 (rhoM [2]).bind fun _ =>
 (m_p0_spec_l10Any y1).bind fun y2 =>
 (drwL 8 [3]).bind fun _ =>
 (rhoM [2]).bind fun _ =>
 (m_p0_spec_l10Trip y2.2 y2.1).bind fun y3 =>
 some (y2.1, y3.1)
theorem ok_spec_DrawShutTrip (code : List YB8) {r : YWorld × YTrip} (H : m_spec_DrawShutTrip code = some r) : CallM Tryz.prog 52 [.sl (code.map cB8)] [] (.tu [.ag [.sl (r.1.network.legs.map cLeg), .sl (r.1.network.off.map cInt), vi r.1.network.change, .sl (r.1.orders.map cOrder), .sl (r.1.bookings.map cBooking), .sl (r.1.closed.map cTrip), vi r.1.now, .sl (r.1.scans.map cScan), .sl (r.1.skip.map cInt), vi r.1.made], .ag [vi r.2.leg, vi r.2.day]]) [] := by
  replace H := H0 H
  unfold m_spec_DrawShutTrip at H
  refine callM_of Tryz.func52 rfl Tryz.ntmps52 Tryz.results52 fun Q hQ hQn => ?_
  exact wk2
instance (code : List YB8) : CT Tryz.prog (m_spec_DrawShutTrip code) := ⟨52, [.sl (code.map cB8)], [], fun r => .tu [.ag [.sl (r.1.network.legs.map cLeg), .sl (r.1.network.off.map cInt), vi r.1.network.change, .sl (r.1.orders.map cOrder), .sl (r.1.bookings.map cBooking), .sl (r.1.closed.map cTrip), vi r.1.now, .sl (r.1.scans.map cScan), .sl (r.1.skip.map cInt), vi r.1.made], .ag [vi r.2.leg, vi r.2.day]], fun r => [], ok_spec_DrawShutTrip code⟩
end Go.Proofs.YtmcdjilbkmhfoaaGreat

/- Draws of a world and a trip. -/
namespace Go.Proofs.YtmcdjilbkmhfoaaGreat
set_option maxRecDepth 10000
open Go.RowKit
set_option linter.unusedVariables false
theorem drawShut_tot {code : List YB8} (hl : code.length ≤ 4096) (hb : ∀ x ∈ code, 0 ≤ x.v ∧ x.v ≤ 255) : Tot (m_spec_DrawShutTrip code) fun r => NetD r.1.network ∧ WFit r.1 := by
  unfold m_spec_DrawShutTrip
  exact Tot.bind (new_tot hl hb) fun y1 h1 => Tot.rho (Tot.bind (any_tot h1) fun y2 h2 => Tot.drw (Tot.rho (Tot.bind (wtrip_tot h2.1.1 h2.2 rfl) fun y3 _ => Tot.ret ⟨h2.1.1, h2.1.2.1⟩)))
end Go.Proofs.YtmcdjilbkmhfoaaGreat

/- The mirror of impl_same_impl_Trip_, and that the code does just that (printed by a program of my own). -/
namespace Go.Proofs.YtmcdjilbkmhfoaaGreat
set_option maxRecDepth 10000
open Go.RowKit
set_option linter.unusedVariables false
set_option maxHeartbeats 16000000
def m_impl_same_impl_Trip__b0 (a : List YTrip) (b : List YTrip) (s0 : Int) : Option (Int ⊕ (Unit ⊕ Bool)) :=
 cond (decide (s0 < (a.length : Int)))
 ((getI a s0).bind fun y1 =>
 (getI b s0).bind fun y2 =>
 cond (!decide (y1 = y2))
 (some (.inr (.inr false)))
 (some (.inl (w64 (s0 + 1)))))
 (some (.inr (.inl ())))
instance (a : List YTrip) (b : List YTrip) : LoopE (m_impl_same_impl_Trip__b0 a b) := ⟨fun s0 => [.sl (a.map cTrip), .sl (b.map cTrip), .un, .un, .un, .un, .un, .un, .un, .un, .un, .un, vi (a.length : Int), vi s0, .un, .un, .un, .un, .un, .un, .un, .un, .un, .un, .un, .un], fun s0 => []⟩
def m_impl_same_impl_Trip_ (a : List YTrip) (b : List YTrip) : Option Bool :=
 cond (!decide ((a.length : Int) = (b.length : Int)))
 (some false)
 ((iterF (m_impl_same_impl_Trip__b0 a b) NN 0).bind (selim (fun o0 =>
 some true) (fun r => some r)))
theorem ok_impl_same_impl_Trip_ (a : List YTrip) (b : List YTrip) {r : Bool} (H : m_impl_same_impl_Trip_ a b = some r) : CallM Tryz.prog 116 [.sl (a.map cTrip), .sl (b.map cTrip)] [] (vb r) [] := by
  replace H := H0 H
  unfold m_impl_same_impl_Trip_ at H
  refine callM_of Tryz.func116 rfl Tryz.ntmps116 Tryz.results116 fun Q hQ hQn => ?_
  exact wk2
instance (a : List YTrip) (b : List YTrip) : CT Tryz.prog (m_impl_same_impl_Trip_ a b) := ⟨116, [.sl (a.map cTrip), .sl (b.map cTrip)], [], fun r => vb r, fun r => [], ok_impl_same_impl_Trip_ a b⟩
end Go.Proofs.YtmcdjilbkmhfoaaGreat

/- The mirror of impl_sameOrders, and that the code does just that (printed by a program of my own). -/
namespace Go.Proofs.YtmcdjilbkmhfoaaGreat
set_option maxRecDepth 10000
open Go.RowKit
set_option linter.unusedVariables false
set_option maxHeartbeats 16000000
def m_impl_sameOrders (a : YOrder) (b : YOrder) : Option Bool :=
 cond (decide (a.from_ = b.from_))
 (cond (decide (a.to_ = b.to_))
 (cond (decide (a.service = b.service))
 (cond (decide (a.weight = b.weight))
 (cond (decide (a.at_ = b.at_))
 (cond (decide (a.due = b.due))
 ((m_impl_same_impl_Trip_ a.way b.way).bind fun y1 =>
 cond y1
 (cond (decide (a.gone = b.gone))
 (cond (decide (a.state = b.state))
 (cond (decide (a.place = b.place))
 (some (decide (a.ended = b.ended)))
 (some false))
 (some false))
 (some false))
 (some false))
 (some false))
 (some false))
 (some false))
 (some false))
 (some false))
 (some false)
theorem ok_impl_sameOrders (a : YOrder) (b : YOrder) {r : Bool} (H : m_impl_sameOrders a b = some r) : CallM Tryz.prog 112 [.ag (cOrder a), .ag (cOrder b)] [] (vb r) [] := by
  replace H := H0 H
  unfold m_impl_sameOrders at H
  refine callM_of Tryz.func112 rfl Tryz.ntmps112 Tryz.results112 fun Q hQ hQn => ?_
  exact wk2
instance (a : YOrder) (b : YOrder) : CT Tryz.prog (m_impl_sameOrders a b) := ⟨112, [.ag (cOrder a), .ag (cOrder b)], [], fun r => vb r, fun r => [], ok_impl_sameOrders a b⟩
end Go.Proofs.YtmcdjilbkmhfoaaGreat

/- The mirror of impl_same_impl_Leg_, and that the code does just that (printed by a program of my own). -/
namespace Go.Proofs.YtmcdjilbkmhfoaaGreat
set_option maxRecDepth 10000
open Go.RowKit
set_option linter.unusedVariables false
set_option maxHeartbeats 16000000
def m_impl_same_impl_Leg__b0 (a : List YLeg) (b : List YLeg) (s0 : Int) : Option (Int ⊕ (Unit ⊕ Bool)) :=
 cond (decide (s0 < (a.length : Int)))
 ((getI a s0).bind fun y1 =>
 (getI b s0).bind fun y2 =>
 cond (!decide (y1 = y2))
 (some (.inr (.inr false)))
 (some (.inl (w64 (s0 + 1)))))
 (some (.inr (.inl ())))
instance (a : List YLeg) (b : List YLeg) : LoopE (m_impl_same_impl_Leg__b0 a b) := ⟨fun s0 => [.sl (a.map cLeg), .sl (b.map cLeg), .un, .un, .un, .un, .un, .un, .un, .un, .un, .un, vi (a.length : Int), vi s0, .un, .un, .un, .un, .un, .un, .un, .un, .un, .un, .un, .un], fun s0 => []⟩
def m_impl_same_impl_Leg_ (a : List YLeg) (b : List YLeg) : Option Bool :=
 cond (!decide ((a.length : Int) = (b.length : Int)))
 (some false)
 ((iterF (m_impl_same_impl_Leg__b0 a b) NN 0).bind (selim (fun o0 =>
 some true) (fun r => some r)))
theorem ok_impl_same_impl_Leg_ (a : List YLeg) (b : List YLeg) {r : Bool} (H : m_impl_same_impl_Leg_ a b = some r) : CallM Tryz.prog 113 [.sl (a.map cLeg), .sl (b.map cLeg)] [] (vb r) [] := by
  replace H := H0 H
  unfold m_impl_same_impl_Leg_ at H
  refine callM_of Tryz.func113 rfl Tryz.ntmps113 Tryz.results113 fun Q hQ hQn => ?_
  exact wk2
instance (a : List YLeg) (b : List YLeg) : CT Tryz.prog (m_impl_same_impl_Leg_ a b) := ⟨113, [.sl (a.map cLeg), .sl (b.map cLeg)], [], fun r => vb r, fun r => [], ok_impl_same_impl_Leg_ a b⟩
end Go.Proofs.YtmcdjilbkmhfoaaGreat

/- The mirror of impl_same_int_, and that the code does just that (printed by a program of my own). -/
namespace Go.Proofs.YtmcdjilbkmhfoaaGreat
set_option maxRecDepth 10000
open Go.RowKit
set_option linter.unusedVariables false
set_option maxHeartbeats 16000000
def m_impl_same_int__b0 (a : List Int) (b : List Int) (s0 : Int) : Option (Int ⊕ (Unit ⊕ Bool)) :=
 cond (decide (s0 < (a.length : Int)))
 ((getI a s0).bind fun y1 =>
 (getI b s0).bind fun y2 =>
 cond (!decide (y1 = y2))
 (some (.inr (.inr false)))
 (some (.inl (w64 (s0 + 1)))))
 (some (.inr (.inl ())))
instance (a : List Int) (b : List Int) : LoopE (m_impl_same_int__b0 a b) := ⟨fun s0 => [.sl (a.map cInt), .sl (b.map cInt), .un, .un, .un, .un, .un, .un, .un, .un, .un, .un, vi (a.length : Int), vi s0, .un, .un, .un, .un, .un, .un, .un, .un, .un, .un, .un, .un], fun s0 => []⟩
def m_impl_same_int_ (a : List Int) (b : List Int) : Option Bool :=
 cond (!decide ((a.length : Int) = (b.length : Int)))
 (some false)
 ((iterF (m_impl_same_int__b0 a b) NN 0).bind (selim (fun o0 =>
 some true) (fun r => some r)))
theorem ok_impl_same_int_ (a : List Int) (b : List Int) {r : Bool} (H : m_impl_same_int_ a b = some r) : CallM Tryz.prog 114 [.sl (a.map cInt), .sl (b.map cInt)] [] (vb r) [] := by
  replace H := H0 H
  unfold m_impl_same_int_ at H
  refine callM_of Tryz.func114 rfl Tryz.ntmps114 Tryz.results114 fun Q hQ hQn => ?_
  exact wk2
instance (a : List Int) (b : List Int) : CT Tryz.prog (m_impl_same_int_ a b) := ⟨114, [.sl (a.map cInt), .sl (b.map cInt)], [], fun r => vb r, fun r => [], ok_impl_same_int_ a b⟩
end Go.Proofs.YtmcdjilbkmhfoaaGreat

/- The mirror of impl_same_impl_Booking_, and that the code does just that (printed by a program of my own). -/
namespace Go.Proofs.YtmcdjilbkmhfoaaGreat
set_option maxRecDepth 10000
open Go.RowKit
set_option linter.unusedVariables false
set_option maxHeartbeats 16000000
def m_impl_same_impl_Booking__b0 (a : List YBooking) (b : List YBooking) (s0 : Int) : Option (Int ⊕ (Unit ⊕ Bool)) :=
 cond (decide (s0 < (a.length : Int)))
 ((getI a s0).bind fun y1 =>
 (getI b s0).bind fun y2 =>
 cond (!decide (y1 = y2))
 (some (.inr (.inr false)))
 (some (.inl (w64 (s0 + 1)))))
 (some (.inr (.inl ())))
instance (a : List YBooking) (b : List YBooking) : LoopE (m_impl_same_impl_Booking__b0 a b) := ⟨fun s0 => [.sl (a.map cBooking), .sl (b.map cBooking), .un, .un, .un, .un, .un, .un, .un, .un, .un, .un, vi (a.length : Int), vi s0, .un, .un, .un, .un, .un, .un, .un, .un, .un, .un, .un, .un], fun s0 => []⟩
def m_impl_same_impl_Booking_ (a : List YBooking) (b : List YBooking) : Option Bool :=
 cond (!decide ((a.length : Int) = (b.length : Int)))
 (some false)
 ((iterF (m_impl_same_impl_Booking__b0 a b) NN 0).bind (selim (fun o0 =>
 some true) (fun r => some r)))
theorem ok_impl_same_impl_Booking_ (a : List YBooking) (b : List YBooking) {r : Bool} (H : m_impl_same_impl_Booking_ a b = some r) : CallM Tryz.prog 115 [.sl (a.map cBooking), .sl (b.map cBooking)] [] (vb r) [] := by
  replace H := H0 H
  unfold m_impl_same_impl_Booking_ at H
  refine callM_of Tryz.func115 rfl Tryz.ntmps115 Tryz.results115 fun Q hQ hQn => ?_
  exact wk2
instance (a : List YBooking) (b : List YBooking) : CT Tryz.prog (m_impl_same_impl_Booking_ a b) := ⟨115, [.sl (a.map cBooking), .sl (b.map cBooking)], [], fun r => vb r, fun r => [], ok_impl_same_impl_Booking_ a b⟩
end Go.Proofs.YtmcdjilbkmhfoaaGreat

/- The mirror of impl_same_impl_Scan_, and that the code does just that (printed by a program of my own). -/
namespace Go.Proofs.YtmcdjilbkmhfoaaGreat
set_option maxRecDepth 10000
open Go.RowKit
set_option linter.unusedVariables false
set_option maxHeartbeats 16000000
def m_impl_same_impl_Scan__b0 (a : List YScan) (b : List YScan) (s0 : Int) : Option (Int ⊕ (Unit ⊕ Bool)) :=
 cond (decide (s0 < (a.length : Int)))
 ((getI a s0).bind fun y1 =>
 (getI b s0).bind fun y2 =>
 cond (!decide (y1 = y2))
 (some (.inr (.inr false)))
 (some (.inl (w64 (s0 + 1)))))
 (some (.inr (.inl ())))
instance (a : List YScan) (b : List YScan) : LoopE (m_impl_same_impl_Scan__b0 a b) := ⟨fun s0 => [.sl (a.map cScan), .sl (b.map cScan), .un, .un, .un, .un, .un, .un, .un, .un, .un, .un, vi (a.length : Int), vi s0, .un, .un, .un, .un, .un, .un, .un, .un, .un, .un, .un, .un], fun s0 => []⟩
def m_impl_same_impl_Scan_ (a : List YScan) (b : List YScan) : Option Bool :=
 cond (!decide ((a.length : Int) = (b.length : Int)))
 (some false)
 ((iterF (m_impl_same_impl_Scan__b0 a b) NN 0).bind (selim (fun o0 =>
 some true) (fun r => some r)))
theorem ok_impl_same_impl_Scan_ (a : List YScan) (b : List YScan) {r : Bool} (H : m_impl_same_impl_Scan_ a b = some r) : CallM Tryz.prog 117 [.sl (a.map cScan), .sl (b.map cScan)] [] (vb r) [] := by
  replace H := H0 H
  unfold m_impl_same_impl_Scan_ at H
  refine callM_of Tryz.func117 rfl Tryz.ntmps117 Tryz.results117 fun Q hQ hQn => ?_
  exact wk2
instance (a : List YScan) (b : List YScan) : CT Tryz.prog (m_impl_same_impl_Scan_ a b) := ⟨117, [.sl (a.map cScan), .sl (b.map cScan)], [], fun r => vb r, fun r => [], ok_impl_same_impl_Scan_ a b⟩
end Go.Proofs.YtmcdjilbkmhfoaaGreat

/- The mirror of impl_SameWorlds, and that the code does just that (printed by a program of my own). -/
namespace Go.Proofs.YtmcdjilbkmhfoaaGreat
set_option maxRecDepth 10000
open Go.RowKit
set_option linter.unusedVariables false
set_option maxHeartbeats 16000000
def m_impl_SameWorlds_b0 (a : YWorld) (b : YWorld) (s0 : Int) : Option (Int ⊕ (Unit ⊕ Bool)) :=
 cond (decide (s0 < (a.orders.length : Int)))
 ((getI a.orders s0).bind fun y1 =>
 (getI b.orders s0).bind fun y2 =>
 (m_impl_sameOrders y1 y2).bind fun y3 =>
 cond (!y3)
 (some (.inr (.inr false)))
 (some (.inl (w64 (s0 + 1)))))
 (some (.inr (.inl ())))
instance (a : YWorld) (b : YWorld) : LoopE (m_impl_SameWorlds_b0 a b) := ⟨fun s0 => (.un :: .un :: .be 0 0 0 :: .be 1 0 0 :: .un :: .un :: .un :: .un :: .un :: .un :: .un :: .un :: .un :: .un :: .un :: vi (a.orders.length : Int) :: vi s0 :: .un :: .un :: .un :: .un :: .un :: .un :: .un :: .un :: .un :: .un :: .un :: .un :: .un :: .un :: .un :: .un :: .un :: .un :: .un :: .un :: .un :: .un :: .un :: .un :: .un :: .un :: .un :: .un :: .un :: .un :: .un :: .un :: .un :: .un :: .un :: .un :: .un :: .un :: .un :: .un :: .un :: .un :: .un :: .un :: .un :: .un :: .un :: .un :: .un :: .un :: .un :: .un :: .un :: .un :: .un :: .un :: .un :: .un :: .un :: .un :: .un :: .un :: .un :: .un :: .un :: .un :: .un :: .un :: .un :: .un :: .un :: .un :: .un :: .un :: .un :: .un :: .un :: .un :: .un :: .un :: .un :: .un :: []), fun s0 => [some ⟨41, 10, [[.sl (a.network.legs.map cLeg), .sl (a.network.off.map cInt), vi a.network.change, .sl (a.orders.map cOrder), .sl (a.bookings.map cBooking), .sl (a.closed.map cTrip), vi a.now, .sl (a.scans.map cScan), .sl (a.skip.map cInt), vi a.made]]⟩, some ⟨41, 10, [[.sl (b.network.legs.map cLeg), .sl (b.network.off.map cInt), vi b.network.change, .sl (b.orders.map cOrder), .sl (b.bookings.map cBooking), .sl (b.closed.map cTrip), vi b.now, .sl (b.scans.map cScan), .sl (b.skip.map cInt), vi b.made]]⟩]⟩
def m_impl_SameWorlds (a : YWorld) (b : YWorld) : Option Bool :=
 cond (!decide ((a.orders.length : Int) = (b.orders.length : Int)))
 (some false)
 ((iterF (m_impl_SameWorlds_b0 a b) NN 0).bind (selim (fun o0 =>
 (m_impl_same_impl_Leg_ a.network.legs b.network.legs).bind fun y4 =>
 cond y4
 ((m_impl_same_int_ a.network.off b.network.off).bind fun y5 =>
 cond y5
 (cond (decide (a.network.change = b.network.change))
 ((m_impl_same_impl_Booking_ a.bookings b.bookings).bind fun y6 =>
 cond y6
 ((m_impl_same_impl_Trip_ a.closed b.closed).bind fun y7 =>
 cond y7
 (cond (decide (a.now = b.now))
 ((m_impl_same_impl_Scan_ a.scans b.scans).bind fun y8 =>
 cond y8
 ((m_impl_same_int_ a.skip b.skip).bind fun y9 =>
 cond y9
 (some (decide (a.made = b.made)))
 (some false))
 (some false))
 (some false))
 (some false))
 (some false))
 (some false))
 (some false))
 (some false)) (fun r => some r)))
theorem ok_impl_SameWorlds (a : YWorld) (b : YWorld) {r : Bool} (H : m_impl_SameWorlds a b = some r) : CallM Tryz.prog 26 [.ag (cWorld a), .ag (cWorld b)] [] (vb r) [] := by
  replace H := H0 H
  unfold m_impl_SameWorlds at H
  refine callM_of Tryz.func26 rfl Tryz.ntmps26 Tryz.results26 fun Q hQ hQn => ?_
  exact wk2
instance (a : YWorld) (b : YWorld) : CT Tryz.prog (m_impl_SameWorlds a b) := ⟨26, [.ag (cWorld a), .ag (cWorld b)], [], fun r => vb r, fun r => [], ok_impl_SameWorlds a b⟩
end Go.Proofs.YtmcdjilbkmhfoaaGreat

/- The mirror of laws_at, and that the code does just that (printed by a program of my own). -/
namespace Go.Proofs.YtmcdjilbkmhfoaaGreat
set_option maxRecDepth 10000
open Go.RowKit
set_option linter.unusedVariables false
set_option maxHeartbeats 16000000
def m_laws_at (code : List YB8) (i : Int) : Option Int :=
 cond (decide ((code.length : Int) ≤ i))
 (some 0)
 ((getI code i).bind fun y1 =>
 some (IntKind.i64.wrap y1.v))
theorem ok_laws_at (code : List YB8) (i : Int) {r : Int} (H : m_laws_at code i = some r) : CallM Tryz.prog 25 [.sl (code.map cB8), vi i] [] (vi r) [] := by
  replace H := H0 H
  unfold m_laws_at at H
  refine callM_of Tryz.func25 rfl Tryz.ntmps25 Tryz.results25 fun Q hQ hQn => ?_
  exact wk2
instance (code : List YB8) (i : Int) : CT Tryz.prog (m_laws_at code i) := ⟨25, [.sl (code.map cB8), vi i], [], fun r => vi r, fun r => [], ok_laws_at code i⟩
end Go.Proofs.YtmcdjilbkmhfoaaGreat

/- The mirror of laws_big, and that the code does just that (printed by a program of my own). -/
namespace Go.Proofs.YtmcdjilbkmhfoaaGreat
set_option maxRecDepth 10000
open Go.RowKit
set_option linter.unusedVariables false
set_option maxHeartbeats 16000000
def m_laws_big (code : List YB8) : Option Bool :=
 some (decide (4096 < (code.length : Int)))
theorem ok_laws_big (code : List YB8) {r : Bool} (H : m_laws_big code = some r) : CallM Tryz.prog 22 [.sl (code.map cB8)] [] (vb r) [] := by
  replace H := H0 H
  unfold m_laws_big at H
  refine callM_of Tryz.func22 rfl Tryz.ntmps22 Tryz.results22 fun Q hQ hQn => ?_
  exact wk2
instance (code : List YB8) : CT Tryz.prog (m_laws_big code) := ⟨22, [.sl (code.map cB8)], [], fun r => vb r, fun r => [], ok_laws_big code⟩
end Go.Proofs.YtmcdjilbkmhfoaaGreat

/- The mirror of laws_FnTimeHalves, and that the code does just that (printed by a program of my own). -/
namespace Go.Proofs.YtmcdjilbkmhfoaaGreat
set_option maxRecDepth 10000
open Go.RowKit
set_option linter.unusedVariables false
set_option maxHeartbeats 16000000
def m_laws_FnTimeHalves (code : List YB8) : Option Bool :=
 (m_laws_big code).bind fun y1 =>
 cond y1
 (some true)
 ((m_spec_DrawAdvanceTo code).bind fun y2 =>
 (m_spec_IsWorld y2.1).bind fun y3 =>
 cond (!y3)
 (some true)
 (cond (decide (y2.2 < y2.1.now))
 (some true)
 (cond (decide (100000 < y2.2))
 (some true)
 ((m_laws_at code 1).bind fun y4 =>
 (m_impl_AdvanceTo y2.1 y2.2).bind fun y5 =>
 (m_impl_AdvanceTo y2.1 (w64 (y2.1.now + (IntKind.i64.wrap (Int.tdiv (w64 ((w64 (y2.2 - y2.1.now)) * y4)) 256))))).bind fun y6 =>
 (m_impl_AdvanceTo y6 y2.2).bind fun y7 =>
 (m_impl_SameWorlds y7 y5).bind fun y8 =>
 cond y8
 (cond (decide (y5.now = y2.2))
 ((m_impl_NextEvent y5).bind fun y9 =>
 cond (decide (y9 = (-1)))
 (some true)
 ((m_impl_NextEvent y5).bind fun y10 =>
 some (decide (y2.2 < y10))))
 (some false))
 (some false)))))
theorem ok_laws_FnTimeHalves (code : List YB8) {r : Bool} (H : m_laws_FnTimeHalves code = some r) : CallM Tryz.prog 4 [.sl (code.map cB8)] [] (vb r) [] := by
  replace H := H0 H
  unfold m_laws_FnTimeHalves at H
  refine callM_of Tryz.func4 rfl Tryz.ntmps4 Tryz.results4 fun Q hQ hQn => ?_
  exact wk2
instance (code : List YB8) : CT Tryz.prog (m_laws_FnTimeHalves code) := ⟨4, [.sl (code.map cB8)], [], fun r => vb r, fun r => [], ok_laws_FnTimeHalves code⟩
end Go.Proofs.YtmcdjilbkmhfoaaGreat

/- FnTimeHalves: time run in two halves, or at once. -/
namespace Go.Proofs.YtmcdjilbkmhfoaaGreat
set_option maxRecDepth 10000
open Go.RowKit
set_option linter.unusedVariables false
set_option linter.unusedSimpArgs false
theorem iter_all {α : Type} {body : Int → Option (Int ⊕ (Unit ⊕ Bool))} {xs : List α} (h1 : ∀ (i : Nat) x, xs[i]? = some x → body (i : Int) = some (.inl (w64 ((i : Int) + 1)))) (h2 : body (xs.length : Int) = some (.inr (.inl ()))) (hl : xs.length ≤ 1048576) : iterF body NN 0 = some (.inl ()) := by
  exact iter_st0 (body := body) (fun i : Nat => (i : Int)) (n := xs.length) (o := .inl ()) (fun i hi => by rw [h1 i _ (List.getElem?_eq_getElem hi), w64_nat hi (by omega)]) h2 NN (by unfold NN; omega)
theorem same_t {α : Type} [DecidableEq α] {F : List α → List α → Option Bool} {B : List α → List α → Int → Option (Int ⊕ (Unit ⊕ Bool))}
    (hF : ∀ a b, F a b = cond (!decide ((a.length : Int) = (b.length : Int))) (some false) ((iterF (B a b) NN 0).bind (selim (fun _ => some true) (fun r => some r))))
    (hB : ∀ a b s0, B a b s0 = cond (decide (s0 < (a.length : Int))) ((getI a s0).bind fun y1 => (getI b s0).bind fun y2 => cond (!decide (y1 = y2)) (some (.inr (.inr false))) (some (.inl (w64 (s0 + 1))))) (some (.inr (.inl ())))) {l : List α} (hl : l.length ≤ 1048576) : F l l = some true := by
  have e : iterF (B l l) NN 0 = some (.inl ()) := by
    refine iter_all (xs := l) (fun i x hx => ?_) ?_ hl
    · have hlt := (List.getElem?_eq_some_iff.1 hx).1
      have hg : getI l (i : Int) = some x := by rw [getI_nat]; exact hx
      rw [hB, decide_eq_true (show (i : Int) < l.length by omega), hg]
      simp
    · rw [hB]; simp
  rw [hF, e]
  simp [selim]
theorem sameT_t {l : List YTrip} (hl : l.length ≤ 1048576) : m_impl_same_impl_Trip_ l l = some true := same_t (F := m_impl_same_impl_Trip_) (B := m_impl_same_impl_Trip__b0) (fun _ _ => rfl) (fun _ _ _ => rfl) hl
theorem sameB_t {l : List YBooking} (hl : l.length ≤ 1048576) : m_impl_same_impl_Booking_ l l = some true := same_t (F := m_impl_same_impl_Booking_) (B := m_impl_same_impl_Booking__b0) (fun _ _ => rfl) (fun _ _ _ => rfl) hl
theorem sameL_t {l : List YLeg} (hl : l.length ≤ 1048576) : m_impl_same_impl_Leg_ l l = some true := same_t (F := m_impl_same_impl_Leg_) (B := m_impl_same_impl_Leg__b0) (fun _ _ => rfl) (fun _ _ _ => rfl) hl
theorem sameS_t {l : List YScan} (hl : l.length ≤ 1048576) : m_impl_same_impl_Scan_ l l = some true := same_t (F := m_impl_same_impl_Scan_) (B := m_impl_same_impl_Scan__b0) (fun _ _ => rfl) (fun _ _ _ => rfl) hl
theorem sameI_t {l : List Int} (hl : l.length ≤ 1048576) : m_impl_same_int_ l l = some true := same_t (F := m_impl_same_int_) (B := m_impl_same_int__b0) (fun _ _ => rfl) (fun _ _ _ => rfl) hl
theorem sameO_t {o : YOrder} (h : o.way.length ≤ 1048576) : m_impl_sameOrders o o = some true := by
  unfold m_impl_sameOrders
  simp only [decide_true, cond_true, sameT_t h, Option.bind_some]
theorem sameW_t {w : YWorld} (h : WFit w) : m_impl_SameWorlds w w = some true := by
  unfold m_impl_SameWorlds
  have e : iterF (m_impl_SameWorlds_b0 w w) NN 0 = some (.inl ()) := by
    refine iter_all (xs := w.orders) (fun i x hx => ?_) ?_ h.orders
    · have hlt := (List.getElem?_eq_some_iff.1 hx).1
      have hg : getI w.orders (i : Int) = some x := by rw [getI_nat]; exact hx
      unfold m_impl_SameWorlds_b0
      rw [decide_eq_true (show (i : Int) < w.orders.length by omega), hg]
      simp only [Option.bind_some, sameO_t (h.way x (List.mem_of_getElem? hx)), cond_true, Bool.not_true, cond_false]
    · unfold m_impl_SameWorlds_b0; simp
  rw [e]
  simp only [decide_true, Bool.not_true, cond_false, Option.bind_some, selim, sameL_t h.net.legs, sameI_t h.net.off, sameB_t h.bookings, sameT_t h.closed, sameS_t h.scans, sameI_t h.skip, cond_true]
theorem at_tot {code : List YB8} (hb : ∀ x ∈ code, 0 ≤ x.v ∧ x.v ≤ 255) {i : Int} (h0 : 0 ≤ i) : Tot (m_laws_at code i) fun r => 0 ≤ r ∧ r ≤ 255 := by
  unfold m_laws_at
  refine Tot.cond (fun _ => Tot.ret ⟨by omega, by omega⟩) fun hd => ?_
  have hlt := of_decide_eq_false hd
  refine Tot.get h0 (by omega) fun x hx _ => Tot.ret ?_
  have := hb x hx
  have e : IntKind.i64.wrap x.v = x.v := w64_in (n := x.v) (by omega)
  rw [e]; exact this
theorem next_i {w : YWorld} (h : WOk w) : m_impl_NextEvent w = some (nextV w) := by
  unfold m_impl_NextEvent
  rw [impl_world h.fit, h.ok, Option.bind_some, next_iv h]
  rfl
theorem timeHalves (code : List YB8) (hb : ∀ x ∈ code, 0 ≤ x.v ∧ x.v ≤ 255) : m_laws_FnTimeHalves code = some true := by
  unfold m_laws_FnTimeHalves m_laws_big
  rw [Option.bind_some]
  by_cases hbig : 4096 < (code.length : Int)
  · rw [decide_eq_true hbig]; rfl
  rw [decide_eq_false hbig, cond_false]
  obtain ⟨⟨w, u⟩, e, hf, _⟩ := drawAdv_tot (code := code) (by omega) hb
  simp only at hf
  rw [e, Option.bind_some]
  simp only
  rw [spec_world hf, Option.bind_some]
  cases hv : worldV w with
  | false => rfl
  | true =>
  have hok : WOk w := ⟨hf, hv⟩
  have hp := hok.parts.1
  simp only [Bool.not_true, cond_false]
  by_cases h1 : u < w.now
  · rw [decide_eq_true h1]; rfl
  by_cases h2 : 100000 < u
  · rw [decide_eq_false h1, decide_eq_true h2]; rfl
  rw [decide_eq_false h1, decide_eq_false h2, cond_false, cond_false]
  obtain ⟨y4, e4, h4⟩ := at_tot hb (i := 1) (by omega)
  have w1 : w64 (u - w.now) = u - w.now := w64_in (by omega)
  have hmul : 0 ≤ (u - w.now) * y4 ∧ (u - w.now) * y4 ≤ 25500000 := by
    refine ⟨Int.mul_nonneg (by omega) h4.1, ?_⟩
    have a := Int.mul_le_mul_of_nonneg_left h4.2 (show 0 ≤ u - w.now by omega)
    omega
  have hmul2 : (u - w.now) * y4 ≤ (u - w.now) * 255 := Int.mul_le_mul_of_nonneg_left h4.2 (by omega)
  have w2 : w64 ((u - w.now) * y4) = (u - w.now) * y4 := w64_in (by omega)
  have hdiv : Int.tdiv ((u - w.now) * y4) 256 = ((u - w.now) * y4) / 256 := Int.tdiv_eq_ediv_of_nonneg hmul.1
  have w3 : IntKind.i64.wrap (((u - w.now) * y4) / 256) = ((u - w.now) * y4) / 256 := w64_in (n := ((u - w.now) * y4) / 256) (by omega)
  have w4 : w64 (w.now + ((u - w.now) * y4) / 256) = w.now + ((u - w.now) * y4) / 256 := w64_in (by omega)
  have hm : w.now ≤ w.now + ((u - w.now) * y4) / 256 ∧ w.now + ((u - w.now) * y4) / 256 ≤ u := by omega
  generalize hmd : w.now + ((u - w.now) * y4) / 256 = m at *
  have a1 := advance_i hf u
  rw [if_pos ⟨hv, by omega, by omega⟩] at a1
  have a2 := advance_i hf m
  rw [if_pos ⟨hv, by omega, by omega⟩] at a2
  obtain ⟨k1, _, k3⟩ := adv_ok hok (u := u) (by omega) (by omega)
  obtain ⟨m1, _, _⟩ := adv_ok hok (u := m) (by omega) (by omega)
  have a3 := advance_i m1.fit u
  rw [if_pos ⟨m1.ok, (show (advV w m).now ≤ u from hm.2), by omega⟩, adv_adv hok hm.1 hm.2 (by omega)] at a3
  simp only [e4, Option.bind_some, w1, w2, hdiv, w3, hmd, w4, a1, a2, a3, sameW_t k1.fit, cond_true, next_i k1]
  have hnow : (advV w u).now = u := rfl
  rw [hnow, decide_eq_true rfl, cond_true]
  rcases k3 with k3 | k3
  · rw [decide_eq_true (next_of_neg k1 k3).1]; rfl
  · by_cases hn : nextV (advV w u) = -1
    · rw [decide_eq_true hn]; rfl
    · rw [decide_eq_false hn, cond_false, decide_eq_true k3]
end Go.Proofs.YtmcdjilbkmhfoaaGreat

/- The mirror of impl_CountState, and that the code does just that (printed by a program of my own). -/
namespace Go.Proofs.YtmcdjilbkmhfoaaGreat
set_option maxRecDepth 10000
open Go.RowKit
set_option linter.unusedVariables false
set_option maxHeartbeats 16000000
def m_impl_CountState_b0 (w : YWorld) (state_ : Int) (s0 : Int × Int) : Option ((Int × Int) ⊕ Int) :=
 cond (decide (s0.2 < (w.orders.length : Int)))
 ((getI w.orders s0.2).bind fun y1 =>
 cond (decide (y1.state = state_))
 (some (.inl ((w64 (s0.1 + 1)), (w64 (s0.2 + 1)))))
 (some (.inl (s0.1, (w64 (s0.2 + 1))))))
 (some (.inr s0.1))
instance (w : YWorld) (state_ : Int) : LoopE (m_impl_CountState_b0 w state_) := ⟨fun s0 => [.un, vi state_, .un, .un, .un, vi s0.1, .un, .un, .un, .sl (w.orders.map cOrder), vi (w.orders.length : Int), vi s0.2, .un, .un, .un, .un, .un, .un, .un, .un, .un, .un, .un], fun s0 => []⟩
def m_impl_CountState (w : YWorld) (state_ : Int) : Option Int :=
 (iterF (m_impl_CountState_b0 w state_) NN (0, 0)).bind (fun o0 =>
 some o0)
theorem ok_impl_CountState (w : YWorld) (state_ : Int) {r : Int} (H : m_impl_CountState w state_ = some r) : CallM Tryz.prog 40 [.ag (cWorld w), vi state_] [] (vi r) [] := by
  replace H := H0 H
  unfold m_impl_CountState at H
  refine callM_of Tryz.func40 rfl Tryz.ntmps40 Tryz.results40 fun Q hQ hQn => ?_
  exact wk2
instance (w : YWorld) (state_ : Int) : CT Tryz.prog (m_impl_CountState w state_) := ⟨40, [.ag (cWorld w), vi state_], [], fun r => vi r, fun r => [], ok_impl_CountState w state_⟩
end Go.Proofs.YtmcdjilbkmhfoaaGreat

/- The mirror of impl_PlannedEnd, and that the code does just that (printed by a program of my own). -/
namespace Go.Proofs.YtmcdjilbkmhfoaaGreat
set_option maxRecDepth 10000
open Go.RowKit
set_option linter.unusedVariables false
set_option maxHeartbeats 16000000
def m_impl_PlannedEnd (w : YWorld) (id : Int) : Option Int :=
 (m_impl_IsWorld w).bind fun y1 =>
 cond (!y1)
 (some (-1))
 ((m_impl_within id 1 (w.orders.length : Int)).bind fun y2 =>
 cond (!y2)
 (some (-1))
 ((getI w.orders (w64 (id - 1))).bind fun y3 =>
 (m_impl_isStranded w y3).bind fun y4 =>
 cond y4
 (some (-1))
 (cond (decide ((y3.way.length : Int) = 0))
 (some (-1))
 ((getI y3.way (w64 ((y3.way.length : Int) - 1))).bind fun y5 =>
 (m_impl_ends w.network y5).bind fun y6 =>
 some y6))))
theorem ok_impl_PlannedEnd (w : YWorld) (id : Int) {r : Int} (H : m_impl_PlannedEnd w id = some r) : CallM Tryz.prog 37 [.ag (cWorld w), vi id] [] (vi r) [] := by
  replace H := H0 H
  unfold m_impl_PlannedEnd at H
  refine callM_of Tryz.func37 rfl Tryz.ntmps37 Tryz.results37 fun Q hQ hQn => ?_
  exact wk
instance (w : YWorld) (id : Int) : CT Tryz.prog (m_impl_PlannedEnd w id) := ⟨37, [.ag (cWorld w), vi id], [], fun r => vi r, fun r => [], ok_impl_PlannedEnd w id⟩
end Go.Proofs.YtmcdjilbkmhfoaaGreat

/- The mirror of impl_StrandedIn, and that the code does just that (printed by a program of my own). -/
namespace Go.Proofs.YtmcdjilbkmhfoaaGreat
set_option maxRecDepth 10000
open Go.RowKit
set_option linter.unusedVariables false
set_option maxHeartbeats 16000000
def m_impl_StrandedIn_b0 (w : YWorld) (s0 : Int × (List Int)) : Option ((Int × (List Int)) ⊕ (List Int)) :=
 cond (decide (s0.1 < (w.orders.length : Int)))
 ((getI w.orders s0.1).bind fun y2 =>
 (m_impl_isStranded w y2).bind fun y3 =>
 cond y3
 ((chk (appOk ((s0.2 : List Int).length + ([(w64 (s0.1 + 1))] : List Int).length) 8)).bind fun _ =>
 some (.inl ((w64 (s0.1 + 1)), ((s0.2 : List Int) ++ [(w64 (s0.1 + 1))]))))
 (some (.inl ((w64 (s0.1 + 1)), s0.2))))
 (some (.inr s0.2))
instance (w : YWorld) : LoopE (m_impl_StrandedIn_b0 w) := ⟨fun s0 => [.un, .be 0 0 0, .un, .ms 1, .un, .un, .un, .un, .un, .un, .un, .un, .sl (w.orders.map cOrder), vi (w.orders.length : Int), vi s0.1, .un, .un, .un, .un, .un, .un, .un, .un, .un, .un, .un, .un, .un, .un], fun s0 => [some ⟨41, 10, [[.sl (w.network.legs.map cLeg), .sl (w.network.off.map cInt), vi w.network.change, .sl (w.orders.map cOrder), .sl (w.bookings.map cBooking), .sl (w.closed.map cTrip), vi w.now, .sl (w.scans.map cScan), .sl (w.skip.map cInt), vi w.made]]⟩, some ⟨3, 1, s0.2.map cInt⟩]⟩
def m_impl_StrandedIn (w : YWorld) : Option (List Int) :=
 (m_impl_IsWorld w).bind fun y1 =>
 cond (!y1)
 (some ([] : List Int))
 ((iterF (m_impl_StrandedIn_b0 w) NN (0, ([] : List Int))).bind (fun o0 =>
 some o0))
theorem ok_impl_StrandedIn (w : YWorld) {r : (List Int)} (H : m_impl_StrandedIn w = some r) : CallM Tryz.prog 38 [.ag (cWorld w)] [] (.ms 0) [some ⟨3, 1, r.map cInt⟩] := by
  replace H := H0 H
  unfold m_impl_StrandedIn at H
  refine callM_of Tryz.func38 rfl Tryz.ntmps38 Tryz.results38 fun Q hQ hQn => ?_
  exact wk2
instance (w : YWorld) : CT Tryz.prog (m_impl_StrandedIn w) := ⟨38, [.ag (cWorld w)], [], fun r => .ms 0, fun r => [some ⟨3, 1, r.map cInt⟩], ok_impl_StrandedIn w⟩
end Go.Proofs.YtmcdjilbkmhfoaaGreat

/- The mirror of laws_has, and that the code does just that (printed by a program of my own). -/
namespace Go.Proofs.YtmcdjilbkmhfoaaGreat
set_option maxRecDepth 10000
open Go.RowKit
set_option linter.unusedVariables false
set_option maxHeartbeats 16000000
def m_laws_has_b0 (l : List Int) (x : Int) (s0 : Int) : Option (Int ⊕ (Unit ⊕ Bool)) :=
 cond (decide (s0 < (l.length : Int)))
 ((getI l s0).bind fun y1 =>
 cond (decide (y1 = x))
 (some (.inr (.inr true)))
 (some (.inl (w64 (s0 + 1)))))
 (some (.inr (.inl ())))
instance (l : List Int) (x : Int) : LoopE (m_laws_has_b0 l x) := ⟨fun s0 => [.sl (l.map cInt), vi x, .un, .un, .un, vi s0, .un, .un, .un, .un, .un, .un, .un, .un, .un, .un, .un, .un], fun s0 => []⟩
def m_laws_has (l : List Int) (x : Int) : Option Bool :=
 (iterF (m_laws_has_b0 l x) NN 0).bind (selim (fun o0 =>
 some false) (fun r => some r))
theorem ok_laws_has (l : List Int) (x : Int) {r : Bool} (H : m_laws_has l x = some r) : CallM Tryz.prog 33 [.sl (l.map cInt), vi x] [] (vb r) [] := by
  replace H := H0 H
  unfold m_laws_has at H
  refine callM_of Tryz.func33 rfl Tryz.ntmps33 Tryz.results33 fun Q hQ hQn => ?_
  exact wk2
instance (l : List Int) (x : Int) : CT Tryz.prog (m_laws_has l x) := ⟨33, [.sl (l.map cInt), vi x], [], fun r => vb r, fun r => [], ok_laws_has l x⟩
end Go.Proofs.YtmcdjilbkmhfoaaGreat

/- The mirror of laws_ints, and that the code does just that (printed by a program of my own). -/
namespace Go.Proofs.YtmcdjilbkmhfoaaGreat
set_option maxRecDepth 10000
open Go.RowKit
set_option linter.unusedVariables false
set_option maxHeartbeats 16000000
def m_laws_ints_b0 (a : List Int) (b : List Int) (s0 : Int) : Option (Int ⊕ (Unit ⊕ Bool)) :=
 cond (decide (s0 < (a.length : Int)))
 ((getI a s0).bind fun y1 =>
 (getI b s0).bind fun y2 =>
 cond (!decide (y1 = y2))
 (some (.inr (.inr false)))
 (some (.inl (w64 (s0 + 1)))))
 (some (.inr (.inl ())))
instance (a : List Int) (b : List Int) : LoopE (m_laws_ints_b0 a b) := ⟨fun s0 => [.sl (a.map cInt), .sl (b.map cInt), .un, .un, .un, vi s0, .un, .un, .un, .un, .un, .un, .un, .un, .un, .un, .un, .un, .un, .un, .un, .un, .un, .un, .un, .un], fun s0 => []⟩
def m_laws_ints (a : List Int) (b : List Int) : Option Bool :=
 cond (!decide ((a.length : Int) = (b.length : Int)))
 (some false)
 ((iterF (m_laws_ints_b0 a b) NN 0).bind (selim (fun o0 =>
 some true) (fun r => some r)))
theorem ok_laws_ints (a : List Int) (b : List Int) {r : Bool} (H : m_laws_ints a b = some r) : CallM Tryz.prog 39 [.sl (a.map cInt), .sl (b.map cInt)] [] (vb r) [] := by
  replace H := H0 H
  unfold m_laws_ints at H
  refine callM_of Tryz.func39 rfl Tryz.ntmps39 Tryz.results39 fun Q hQ hQn => ?_
  exact wk2
instance (a : List Int) (b : List Int) : CT Tryz.prog (m_laws_ints a b) := ⟨39, [.sl (a.map cInt), .sl (b.map cInt)], [], fun r => vb r, fun r => [], ok_laws_ints a b⟩
end Go.Proofs.YtmcdjilbkmhfoaaGreat

/- The mirror of laws_FnArrives, and that the code does just that (printed by a program of my own). -/
namespace Go.Proofs.YtmcdjilbkmhfoaaGreat
set_option maxRecDepth 10000
open Go.RowKit
set_option linter.unusedVariables false
set_option maxHeartbeats 16000000
def m_laws_FnArrives_b0 (y2 : YWorld × Int) (y5 : YWorld) (y6 : (List Int)) (s0 : Int) : Option (Int ⊕ (Unit ⊕ Bool)) :=
 cond (decide (s0 ≤ (y2.1.orders.length : Int)))
 ((m_impl_PlannedEnd y2.1 s0).bind fun y7 =>
 (m_laws_has y6 s0).bind fun y8 =>
 cond (!((decide (y7 = (-1))) == y8))
 (some (.inr (.inr false)))
 ((getI y5.orders (w64 (s0 - 1))).bind fun y9 =>
 cond (!decide (y7 = (-1)))
 (cond (!decide (y9.state = 3))
 (some (.inr (.inr false)))
 (cond (!decide (y9.ended = y7))
 (some (.inr (.inr false)))
 (cond (!decide (y9.place = y9.to_))
 (some (.inr (.inr false)))
 (cond (decide (100000 < y7))
 (some (.inr (.inr false)))
 (cond (decide (y7 = (-1)))
 (cond (!decide (y9.state = 1))
 (some (.inr (.inr false)))
 (some (.inl (w64 (s0 + 1)))))
 (some (.inl (w64 (s0 + 1)))))))))
 (cond (decide (y7 = (-1)))
 (cond (!decide (y9.state = 1))
 (some (.inr (.inr false)))
 (some (.inl (w64 (s0 + 1)))))
 (some (.inl (w64 (s0 + 1)))))))
 (some (.inr (.inl ())))
instance (y2 : YWorld × Int) (y5 : YWorld) (y6 : (List Int)) : LoopE (m_laws_FnArrives_b0 y2 y5 y6) := ⟨fun s0 => (.un :: .un :: .un :: .be 0 0 0 :: .un :: .be 1 0 0 :: .ms 2 :: vi s0 :: .un :: .un :: .un :: .un :: .un :: .un :: .un :: .un :: .un :: .un :: .un :: .un :: .un :: .un :: .un :: .un :: .un :: .un :: .un :: .un :: .un :: .un :: .un :: .un :: .un :: .un :: .un :: .un :: .un :: .un :: .un :: .un :: .un :: .un :: .un :: .un :: .un :: .un :: .un :: .un :: .un :: .un :: .un :: .un :: .un :: .un :: .un :: .un :: .un :: .un :: .un :: .un :: .un :: .un :: .un :: .un :: .un :: .un :: .un :: .un :: .un :: .un :: .un :: .un :: .un :: .un :: .un :: .un :: .un :: .un :: .un :: .un :: .un :: .un :: .un :: .un :: .un :: .un :: .un :: .un :: .un :: .un :: .un :: .un :: .un :: .un :: .un :: .un :: []), fun s0 => [some ⟨41, 10, [[.sl (y2.1.network.legs.map cLeg), .sl (y2.1.network.off.map cInt), vi y2.1.network.change, .sl (y2.1.orders.map cOrder), .sl (y2.1.bookings.map cBooking), .sl (y2.1.closed.map cTrip), vi y2.1.now, .sl (y2.1.scans.map cScan), .sl (y2.1.skip.map cInt), vi y2.1.made]]⟩, some ⟨41, 10, [[.sl (y5.network.legs.map cLeg), .sl (y5.network.off.map cInt), vi y5.network.change, .sl (y5.orders.map cOrder), .sl (y5.bookings.map cBooking), .sl (y5.closed.map cTrip), vi y5.now, .sl (y5.scans.map cScan), .sl (y5.skip.map cInt), vi y5.made]]⟩, some ⟨3, 1, y6.map cInt⟩]⟩
def m_laws_FnArrives (code : List YB8) : Option Bool :=
 (m_laws_big code).bind fun y1 =>
 cond y1
 (some true)
 ((m_spec_DrawAdvanceTo code).bind fun y2 =>
 (m_spec_IsWorld y2.1).bind fun y3 =>
 cond (!y3)
 ((m_impl_PlannedEnd y2.1 1).bind fun y4 =>
 some (decide (y4 = (-1))))
 ((m_impl_AdvanceTo y2.1 100000).bind fun y5 =>
 (m_impl_StrandedIn y2.1).bind fun y6 =>
 (iterF (m_laws_FnArrives_b0 y2 y5 y6) NN 1).bind (selim (fun o0 =>
 (m_impl_StrandedIn y5).bind fun y10 =>
 (m_laws_ints y10 y6).bind fun y11 =>
 cond y11
 ((m_impl_CountState y5 2).bind fun y12 =>
 cond (decide (y12 = 0))
 ((m_impl_NextEvent y5).bind fun y13 =>
 some (decide (y13 = (-1))))
 (some false))
 (some false)) (fun r => some r))))
theorem ok_laws_FnArrives (code : List YB8) {r : Bool} (H : m_laws_FnArrives code = some r) : CallM Tryz.prog 6 [.sl (code.map cB8)] [] (vb r) [] := by
  replace H := H0 H
  unfold m_laws_FnArrives at H
  refine callM_of Tryz.func6 rfl Tryz.ntmps6 Tryz.results6 fun Q hQ hQn => ?_
  exact wk2
instance (code : List YB8) : CT Tryz.prog (m_laws_FnArrives code) := ⟨6, [.sl (code.map cB8)], [], fun r => vb r, fun r => [], ok_laws_FnArrives code⟩
end Go.Proofs.YtmcdjilbkmhfoaaGreat

/- FnArrives: who is not stranded is done when it is planned. -/
namespace Go.Proofs.YtmcdjilbkmhfoaaGreat
set_option maxRecDepth 10000
open Go.RowKit
set_option linter.unusedVariables false
set_option linter.unusedSimpArgs false
/-- The way of an order ends where it shall. -/
def endTo (n : YNetwork) (o : YOrder) : Bool := match o.way.getLast? with
  | some t => decide (legTo n t = o.to_)
  | none => false
theorem last_at {l : List YTrip} (h : 0 < l.length) {k : Nat} (hk : k + 1 = l.length) : ∃ t, l[k]? = some t ∧ l.getLast? = some t := by
  refine ⟨l[k]'(by omega), List.getElem?_eq_getElem _, ?_⟩
  rw [List.getLast?_eq_getElem?, show l.length - 1 = k by omega]
  exact List.getElem?_eq_getElem _
theorem hasLeg {w : YWorld} (h : WOk w) {i : Nat} {o : YOrder} (ho : w.orders[i]? = some o) {t : YTrip} (ht : t ∈ o.way) : ∃ y, getI w.network.legs t.leg = some y ∧ legTo w.network t = y.to_ := by
  obtain ⟨y, hy, _⟩ := tripB_leg h.fit.net ((world_ok h.fit h.ok ho).trip t ht)
  exact ⟨y, hy, by unfold legTo; rw [hy]; rfl⟩
/-- Stranded is whose way does not end where it shall. -/
theorem stranded_v {w : YWorld} (h : WOk w) {i : Nat} {o : YOrder} (ho : w.orders[i]? = some o) (hF : FinE w.network o) : m_impl_isStranded w o = some (!endTo w.network o) := by
  have hok := world_ok h.fit h.ok ho
  have hst := h.state ho
  have hl := h.fit.way o (List.mem_of_getElem? ho)
  have hg := hok.gone
  obtain ⟨c1, c2, c3⟩ := comes_v hg hl
  have hlast : ∀ t, o.way.getLast? = some t → legTo w.network t = o.to_ → endTo w.network o = true := fun t h1 h2 => by unfold endTo; rw [h1]; exact decide_eq_true h2
  have hnot : ∀ t, o.way.getLast? = some t → ¬ legTo w.network t = o.to_ → endTo w.network o = false := fun t h1 h2 => by unfold endTo; rw [h1]; exact decide_eq_false h2
  have hfin : ¬ comesV o = o.way.length → 0 < o.way.length → endTo w.network o = true := fun hc hp => by
    obtain ⟨t, t1, t2⟩ := last_at hp (k := o.way.length - 1) (by omega)
    rcases hF with e | e
    · exact absurd e hc
    · exact hlast t t2 (e t t2)
  unfold m_impl_isStranded
  rcases hst.cases with ⟨k1, k2, k3, k4, k5⟩ | ⟨k1, k2, k3, t, k4, k5, k6⟩ | ⟨k1, k2, k3, k4, k5, k6⟩
  · have hcv : comesV o = o.gone := by unfold comesV; rw [if_neg (by omega)]
    rw [c3, hcv, if_neg (show ¬ (o.way.length : Int) < o.gone by omega), decide_eq_false (show ¬ o.state = 3 by omega)]
    simp only [Bool.not_false, cond_true, Option.bind_some]
    by_cases hgl : o.gone = o.way.length
    · have hat : m_impl_isAt w o = some o.place := by unfold m_impl_isAt; rw [decide_eq_false (show ¬ o.state = 2 by omega)]; rfl
      rw [decide_eq_true hgl, cond_true, hat, Option.bind_some, k2, decide_eq_false k3]
      have he : endTo w.network o = false := by
        rcases Nat.eq_zero_or_pos o.way.length with h0 | h0
        · unfold endTo; rw [List.length_eq_zero_iff.1 h0]; rfl
        · obtain ⟨t, t1, t2⟩ := last_at h0 (k := (o.gone - 1).toNat) (by omega)
          refine hnot t t2 fun e => k3 ?_
          unfold hereV
          rw [if_pos (by omega), t1]
          exact e
      rw [he]
    · rw [decide_eq_false hgl, cond_false, hfin (by omega) (by omega)]; rfl
  · have hcv : comesV o = o.gone + 1 := by unfold comesV; rw [if_pos k1]
    have hlt := (List.getElem?_eq_some_iff.1 k4).1
    rw [c3, hcv, if_neg (show ¬ (o.way.length : Int) < o.gone + 1 by omega), decide_eq_false (show ¬ o.state = 3 by omega)]
    simp only [Bool.not_false, cond_true, Option.bind_some]
    by_cases hgl : o.gone + 1 = o.way.length
    · obtain ⟨y, hy, hto⟩ := hasLeg h ho (List.mem_of_getElem? k4)
      have hget : getI o.way o.gone = some t := by unfold getI; rw [if_pos hg.1]; exact k4
      have hat : m_impl_isAt w o = some y.to_ := by unfold m_impl_isAt; rw [decide_eq_true k1, cond_true, hget, Option.bind_some, hy]; rfl
      rw [decide_eq_true hgl, cond_true, hat, Option.bind_some, ← hto]
      obtain ⟨t', t1, t2⟩ := last_at (l := o.way) (by omega) (k := o.gone.toNat) (by omega)
      rw [k4] at t1
      obtain rfl := Option.some.inj t1
      unfold endTo
      rw [t2]
    · rw [decide_eq_false hgl, cond_false, hfin (by omega) (by omega)]; rfl
  · rw [decide_eq_true k1]
    obtain ⟨t, t1, t2⟩ := last_at (l := o.way) (by omega) (k := (o.gone - 1).toNat) (by omega)
    rw [hlast t t2 (by unfold hereV at k3; rw [if_pos k5, t1] at k3; exact k3)]
    rfl
def badAt (w : YWorld) (i : Nat) : Bool := match w.orders[i]? with
  | some o => !endTo w.network o
  | none => false
/-- The stranded, by their numbers. -/
def strV (w : YWorld) (k : Nat) : List Int := (List.range k).flatMap fun i => if badAt w i = true then [(i : Int) + 1] else []
theorem strV_len (w : YWorld) : ∀ k, (strV w k).length ≤ k
  | 0 => by simp [strV]
  | k + 1 => by
    have := strV_len w k
    unfold strV at this ⊢
    rw [List.range_succ, List.flatMap_append, List.length_append]
    simp only [List.flatMap_cons, List.flatMap_nil, List.append_nil]
    split <;> simp only [List.length_cons, List.length_nil] <;> omega
theorem strandedIn_v {w : YWorld} (h : WOk w) (hF : ∀ o ∈ w.orders, FinE w.network o) : m_impl_StrandedIn w = some (strV w w.orders.length) := by
  have hor := h.fit.orders
  unfold m_impl_StrandedIn
  rw [impl_world h.fit, h.ok]
  have e : iterF (m_impl_StrandedIn_b0 w) NN (0, []) = some (strV w w.orders.length) := by
    refine iter_st0 (body := m_impl_StrandedIn_b0 w) (fun i : Nat => ((i : Int), strV w i)) (n := w.orders.length) (o := strV w w.orders.length) (fun i hi => ?_) ?_ NN (by unfold NN; omega)
    · have ho : w.orders[i]? = some w.orders[i] := List.getElem?_eq_getElem hi
      have hg : getI w.orders (i : Int) = some w.orders[i] := by rw [getI_nat]; exact ho
      have hw : w64 ((i : Int) + 1) = ((i + 1 : Nat) : Int) := w64_nat hi (by omega)
      have hlen := strV_len w i
      have hs : strV w (i + 1) = strV w i ++ (if badAt w i = true then [(i : Int) + 1] else []) := by
        unfold strV; rw [List.range_succ, List.flatMap_append]; simp
      have hb : badAt w i = !endTo w.network w.orders[i] := by unfold badAt; rw [ho]
      unfold m_impl_StrandedIn_b0
      simp only [decide_eq_true (show (i : Int) < w.orders.length by omega), cond_true, hg, Option.bind_some, hw, stranded_v h ho (hF _ (List.getElem_mem hi))]
      rw [hs, hb]
      cases (!endTo w.network w.orders[i]) with
      | true =>
        have ha : chk (appOk ((strV w i).length + ([((i + 1 : Nat) : Int)] : List Int).length) 8) = some () := app_ok1 (by simp only [List.length_cons, List.length_nil]; omega) (by omega)
        rw [cond_true, ha]; rfl
      | false => simp
    · unfold m_impl_StrandedIn_b0
      simp
  simp only [Option.bind_some, Bool.not_true, cond_false]
  rw [e]; rfl
theorem strV_mem (w : YWorld) (k i : Nat) (hi : i < k) : ((strV w k).any fun y => decide (y = (i : Int) + 1)) = badAt w i := by
  cases hb : badAt w i with
  | true =>
    refine List.any_eq_true.2 ⟨(i : Int) + 1, List.mem_flatMap.2 ⟨i, List.mem_range.2 hi, by rw [if_pos hb]; exact List.mem_singleton.2 rfl⟩, by simp⟩
  | false =>
    refine List.any_eq_false.2 fun y hy => ?_
    obtain ⟨j, hj, hm⟩ := List.mem_flatMap.1 hy
    split at hm
    · rename_i hb'
      obtain rfl := List.mem_singleton.1 hm
      have : ¬ j = i := fun e => by rw [e, hb] at hb'; cases hb'
      simp; omega
    · cases hm
def planV (n : YNetwork) (o : YOrder) : Int := if endTo n o = true then ((o.way.getLast?).map (endsV n)).getD 0 else -1
theorem planned_v {w : YWorld} (h : WOk w) {i : Nat} {o : YOrder} (ho : w.orders[i]? = some o) (hF : FinE w.network o) : m_impl_PlannedEnd w ((i : Int) + 1) = some (planV w.network o) := by
  have hor := h.fit.orders
  have hlt := (List.getElem?_eq_some_iff.1 ho).1
  have hw : w64 ((i : Int) + 1 - 1) = (i : Int) := by rw [w64_in (by omega)]; omega
  have hg : getI w.orders (i : Int) = some o := by rw [getI_nat]; exact ho
  unfold m_impl_PlannedEnd
  rw [impl_world h.fit, h.ok, within_eq, l1In_v, hw, hg, decide_eq_true (show 1 ≤ (i : Int) + 1 by omega), decide_eq_true (show (i : Int) + 1 ≤ (w.orders.length : Int) by omega)]
  simp only [Option.bind_some, Bool.not_true, cond_false, Bool.and_self, stranded_v h ho hF]
  unfold planV
  cases he : endTo w.network o with
  | false => simp
  | true =>
    have hp : 0 < o.way.length := by
      rcases Nat.eq_zero_or_pos o.way.length with h0 | h0
      · unfold endTo at he; rw [List.length_eq_zero_iff.1 h0] at he; cases he
      · exact h0
    have hl := h.fit.way o (List.mem_of_getElem? ho)
    obtain ⟨t, t1, t2⟩ := last_at hp (k := o.way.length - 1) (by omega)
    have hw2 : w64 ((o.way.length : Int) - 1) = (o.way.length : Int) - 1 := w64_in (by omega)
    have hget : getI o.way ((o.way.length : Int) - 1) = some t := by unfold getI; rw [if_pos (by omega), show ((o.way.length : Int) - 1).toNat = o.way.length - 1 by omega]; exact t1
    obtain ⟨_, e2, _⟩ := trip_time h.fit.net h.net ((world_ok h.fit h.ok ho).trip t (List.mem_of_getElem? t1))
    simp only [Bool.not_true, cond_false, decide_eq_false (show ¬ (o.way.length : Int) = 0 by omega), hw2, hget, Option.bind_some, ends_eq, e2, t2, Option.map_some, Option.getD_some, if_true]
/-- Behind all that can happen. -/
theorem after_all {w : YWorld} (h : WOk w) (hn : nextV w < 0) {i : Nat} {o : YOrder} (ho : w.orders[i]? = some o) : (endTo w.network o = true → o.state = 3 ∧ o.place = o.to_ ∧ o.ended = planV w.network o) ∧ (endTo w.network o = false → o.state = 1) := by
  have hst := h.state ho
  have hwy := h.way ho
  have hg := hwy.gone
  have hev := (next_of_neg h hn).2 o (List.mem_of_getElem? ho)
  have hnone : o.way[o.gone.toNat]? = none := by
    unfold eventV at hev
    cases hx : o.way[o.gone.toNat]? with
    | none => rfl
    | some t => rw [hx] at hev; cases hev
  have hgl : o.gone = o.way.length := by
    have := List.getElem?_eq_none_iff.1 hnone
    omega
  rcases hst.cases with ⟨k1, k2, k3, k4, k5⟩ | ⟨k1, k2, k3, t, k4, k5, k6⟩ | ⟨k1, k2, k3, k4, k5, k6⟩
  · refine ⟨fun he => ?_, fun _ => k1⟩
    exfalso
    rcases Nat.eq_zero_or_pos o.way.length with h0 | h0
    · unfold endTo at he; rw [List.length_eq_zero_iff.1 h0] at he; cases he
    · obtain ⟨t, t1, t2⟩ := last_at h0 (k := (o.gone - 1).toNat) (by omega)
      unfold endTo at he
      rw [t2] at he
      refine k3 ?_
      unfold hereV
      rw [if_pos (by omega), t1]
      exact of_decide_eq_true he
  · rw [hnone] at k4; cases k4
  · obtain ⟨t, t1, t2⟩ := last_at (l := o.way) (by omega) (k := (o.gone - 1).toNat) (by omega)
    have he : endTo w.network o = true := by
      unfold endTo
      rw [t2]
      refine decide_eq_true ?_
      unfold hereV at k3
      rw [if_pos k5, t1] at k3
      exact k3
    refine ⟨fun _ => ⟨k1, k2, ?_⟩, fun hf => by rw [he] at hf; cases hf⟩
    unfold planV
    rw [if_pos he, t2, k6 t t1]; rfl
theorem plan_time {w : YWorld} (h : WOk w) {i : Nat} {o : YOrder} (ho : w.orders[i]? = some o) : (endTo w.network o = true → 0 ≤ planV w.network o ∧ planV w.network o ≤ 100000) ∧ (endTo w.network o = false → planV w.network o = -1) := by
  refine ⟨fun he => ?_, fun he => by unfold planV; rw [he]; rfl⟩
  unfold planV
  rw [if_pos he]
  cases hl : o.way.getLast? with
  | none => simp
  | some t =>
    have := (h.way ho).trip t (List.mem_of_getLast? hl)
    simp only [Option.map_some, Option.getD_some]; omega
theorem ints_t {l : List Int} (hl : l.length ≤ 1048576) : m_laws_ints l l = some true := same_t (F := m_laws_ints) (B := m_laws_ints_b0) (fun _ _ => rfl) (fun _ _ _ => rfl) hl
theorem has_eq1 : @m_laws_has = @m_spec_l1Has := rfl
theorem arrives (code : List YB8) (hb : ∀ x ∈ code, 0 ≤ x.v ∧ x.v ≤ 255) : m_laws_FnArrives code = some true := by
  unfold m_laws_FnArrives m_laws_big
  rw [Option.bind_some]
  by_cases hbig : 4096 < (code.length : Int)
  · rw [decide_eq_true hbig]; rfl
  rw [decide_eq_false hbig, cond_false]
  obtain ⟨⟨w, u⟩, e, hf, hfin⟩ := drawAdv_tot (code := code) (by omega) hb
  simp only at hf hfin
  rw [e, Option.bind_some]
  simp only
  rw [spec_world hf, Option.bind_some]
  cases hv : worldV w with
  | false =>
    have : m_impl_PlannedEnd w 1 = some (-1) := by
      unfold m_impl_PlannedEnd
      rw [impl_world hf, hv]; rfl
    simp only [Bool.not_false, cond_true, this, Option.bind_some, decide_true]
  | true =>
  have hok : WOk w := ⟨hf, hv⟩
  have hF := hfin hv
  have hp := hok.parts
  have ha := advance_i hf 100000
  rw [if_pos ⟨hv, hp.1.2, by omega⟩] at ha
  obtain ⟨a1, a2, a3⟩ := adv_ok hok (u := 100000) hp.1.2 (by omega)
  have hF2 : ∀ o ∈ (advV w 100000).orders, FinE (advV w 100000).network o := fun o ho => by
    rw [a2.network]; exact (adv_fin hok hp.1.2 (by omega) hF o ho).ends
  generalize hw2 : advV w 100000 = w2 at *
  have hn : nextV w2 < 0 := by
    rcases a3 with a3 | a3
    · exact a3
    · rcases next_spec a1 with ⟨k, _⟩ | ⟨_, k, _⟩ <;> omega
  have hlen : w2.orders.length = w.orders.length := a2.len
  have hend : ∀ (i : Nat) (o o' : YOrder), w.orders[i]? = some o → w2.orders[i]? = some o' → endTo w2.network o' = endTo w.network o ∧ planV w2.network o' = planV w.network o := fun i o o' h1 h2 => by
    have hs := a2.ord i o o' h1 h2
    have he : endTo w2.network o' = endTo w.network o := by unfold endTo; rw [hs.way, hs.to_, a2.network]
    exact ⟨he, by unfold planV; rw [he, hs.way, a2.network]⟩
  have hbad : strV w2 w2.orders.length = strV w w.orders.length := by
    unfold strV
    rw [hlen]
    congr 1
    funext i
    have : badAt w2 i = badAt w i := by
      unfold badAt
      by_cases hi : i < w.orders.length
      · have h1 := List.getElem?_eq_getElem hi
        have h2 := List.getElem?_eq_getElem (show i < w2.orders.length by omega)
        rw [h1, h2]
        simp only [(hend i _ _ h1 h2).1]
      · rw [List.getElem?_eq_none (by omega), List.getElem?_eq_none (by omega)]
    rw [this]
  have hsl := strV_len w w.orders.length
  have loop : iterF (m_laws_FnArrives_b0 (w, u) w2 (strV w w.orders.length)) NN 1 = some (.inl ()) := by
    have := iter_st0 (body := m_laws_FnArrives_b0 (w, u) w2 (strV w w.orders.length)) (fun i : Nat => (i : Int) + 1) (n := w.orders.length) (o := .inl ()) (fun i hi => ?_) ?_ NN (by unfold NN; omega)
    · exact this
    · have h1 := List.getElem?_eq_getElem hi
      have h2 := List.getElem?_eq_getElem (show i < w2.orders.length by omega)
      have hg : getI w2.orders (i : Int) = some w2.orders[i] := by rw [getI_nat]; exact h2
      have hw1 : w64 ((i : Int) + 1 - 1) = (i : Int) := by rw [w64_in (by omega)]; omega
      have hwi : w64 ((i : Int) + 1 + 1) = ((i + 1 : Nat) : Int) + 1 := by rw [w64_in (by omega)]; omega
      have hbi : badAt w i = !endTo w.network w.orders[i] := by unfold badAt; rw [h1]
      obtain ⟨q1, q2⟩ := after_all a1 hn h2
      obtain ⟨p1, p2⟩ := plan_time hok h1
      obtain ⟨e1, e2⟩ := hend i _ _ h1 h2
      rw [e1, e2] at q1
      rw [e1] at q2
      unfold m_laws_FnArrives_b0
      simp only [decide_eq_true (show (i : Int) + 1 ≤ (w.orders.length : Int) by omega), cond_true, planned_v hok h1 (hF _ (List.getElem_mem hi)), has_eq1, l1Has_v (show (strV w w.orders.length).length ≤ 1048576 by omega), strV_mem w _ i hi, hbi, Option.bind_some, hw1, hg, hwi]
      cases he : endTo w.network w.orders[i] with
      | true =>
        obtain ⟨s1, s2, s3⟩ := q1 he
        have hpt := p1 he
        simp only [decide_eq_false (show ¬ planV w.network w.orders[i] = -1 by omega), Bool.not_true, Bool.not_false, cond_true, cond_false, decide_eq_true s1, decide_eq_true s2, decide_eq_true s3, decide_eq_false (show ¬ 100000 < planV w.network w.orders[i] by omega), beq_self_eq_true]
      | false =>
        have hpt := p2 he
        simp only [decide_eq_true hpt, Bool.not_true, Bool.not_false, cond_true, cond_false, decide_eq_true (q2 he), beq_self_eq_true]
    · unfold m_laws_FnArrives_b0
      simp only [decide_eq_false (show ¬ (w.orders.length : Int) + 1 ≤ (w.orders.length : Int) by omega), cond_false]
  have hcount : m_impl_CountState w2 2 = some 0 := by
    unfold m_impl_CountState
    have : iterF (m_impl_CountState_b0 w2 2) NN (0, 0) = some 0 := by
      refine iter_st0 (body := m_impl_CountState_b0 w2 2) (fun i : Nat => ((0 : Int), (i : Int))) (n := w2.orders.length) (o := 0) (fun i hi => ?_) ?_ NN (by unfold NN; omega)
      · have h2 := List.getElem?_eq_getElem hi
        have hg : getI w2.orders (i : Int) = some w2.orders[i] := by rw [getI_nat]; exact h2
        have hwi : w64 ((i : Int) + 1) = ((i + 1 : Nat) : Int) := w64_nat hi (by omega)
        obtain ⟨q1, q2⟩ := after_all a1 hn h2
        have hs : ¬ w2.orders[i].state = 2 := by
          cases he : endTo w2.network w2.orders[i] with
          | true => have := (q1 he).1; omega
          | false => have := q2 he; omega
        unfold m_impl_CountState_b0
        simp only [decide_eq_true (show (i : Int) < w2.orders.length by omega), cond_true, hg, Option.bind_some, decide_eq_false hs, cond_false, hwi]
      · unfold m_impl_CountState_b0
        simp
    rw [this]; rfl
  have hne : nextV w2 = -1 := (next_of_neg a1 hn).1
  simp only [Bool.not_true, cond_false, ha, Option.bind_some, strandedIn_v hok hF, loop, selim, strandedIn_v a1 hF2, hbad, ints_t (show (strV w w.orders.length).length ≤ 1048576 by omega), cond_true, hcount, decide_true, next_i a1, hne]
end Go.Proofs.YtmcdjilbkmhfoaaGreat
