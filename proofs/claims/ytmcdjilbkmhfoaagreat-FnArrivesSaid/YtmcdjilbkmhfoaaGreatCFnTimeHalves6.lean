/- A part of the proof of the statement in the last file of this claim: texts on the language of the program and on its functions. No condition. -/
import Derived.Test.YtmcdjilbkmhfoaaGreatCFnTimeHalves4
import Derived.Test.YtmcdjilbkmhfoaaGreatCFnTimeHalves5
/- A fresh row at a world, as_ the result of a contract in plain values. -/
namespace Go.Proofs.YtmcdjilbkmhfoaaGreat
set_option maxRecDepth 10000
open Go.RowKit
set_option linter.unusedVariables false
set_option linter.unusedSimpArgs false
/-- A fresh row of the call's own, as_ a result. -/
theorem ms_of_own {α : Type} [Enc α] {c : α → List PV} {T : TypeId} {S : Nat → Prop} {β : Nat → Option Blk} {w w' : World} {v : Value} {ys : List α} (hk : Ok w (own0 β) (E1 S β 0) w []) (ho : Own w' w.heap.size T v ys) (hu : Up w w')
    (hc : ∀ (x : α), (c x).length = Enc.k α ∧ ∀ (j : Nat) (p : PV), (c x)[j]? = some p → ∃ u, (Enc.cells x)[j]? = some u ∧ u.oneCell' = true ∧ ∀ (w : World) (E : Env), Rep w E p u) :
    ∃ E', Ok w (own0 β) E' w' [some ⟨T, Enc.k α, ys.map c⟩] ∧ (∀ b, S b → E'.S b) ∧ (∀ b, E'.S b → S b ∨ w.heap.size ≤ b ∨ own0 β b) ∧ (∀ l B, l < 0 → E'.β l = some B → β l = some B) ∧ Rep w' E' (.ms 0) v := by
  have hesl : ∀ (i : Nat) (cs : List PV), (ys.map c)[i]? = some cs → cs.length = Enc.k α := by
    intro i cs hi
    rw [List.getElem?_map] at hi
    obtain ⟨y, _, rfl⟩ := Option.map_eq_some_iff.1 hi
    exact (hc y).1
  have key : ∀ (B : Blk), v = B.sv → v.oneCell' = true → (B.z = false → w.heap.size ≤ B.b ∧ B.b < w'.heap.size) → (∀ E, BlkRep w' E ⟨T, Enc.k α, ys.map c⟩ B) →
      ∃ E', Ok w (own0 β) E' w' [some ⟨T, Enc.k α, ys.map c⟩] ∧ (∀ b, S b → E'.S b) ∧ (∀ b, E'.S b → S b ∨ w.heap.size ≤ b ∨ own0 β b) ∧ (∀ l B, l < 0 → E'.β l = some B → β l = some B) ∧ Rep w' E' (.ms 0) v := by
    intro B hv h1 hB hb
    obtain ⟨h2, _⟩ := hk.new (ν := 0) (fun h => absurd h (Nat.not_lt_zero 0)) ⟨T, Enc.k α, ys.map c⟩ B hu.os hu.tape hu.output hu.size (fun b hb => hu.block b hb) hB (fun _ => hb _)
    refine ⟨_, h2, fun b h => h, fun b h => .inl h, fun l B h => absurd h (Nat.not_lt_zero l), .ms 0 v (.inl rfl) h1 fun B' hB' => ?_⟩
    have : B' = B := by simpa [Env.add, eq_comm] using hB'
    rw [this]; exact hv
  rcases ho.2 with ⟨hv, h0⟩ | ⟨g, cap, cur, hv, hB, hg, hnc, hcm, hcs, ht⟩
  · have hy : ys = [] := List.length_eq_zero_iff.1 h0
    subst hy
    exact key ⟨0, 0, 0, Enc.k α, T, true⟩ (by rw [hv]; rfl) (by rw [hv]; rfl) (fun h => by cases h) fun E => ⟨rfl, rfl, rfl, Enc.pos, Nat.le_refl _, Nat.zero_le _, hesl, fun _ => rfl, fun h => by cases h⟩
  · refine key ⟨g, cap, ys.length, Enc.k α, T, false⟩ (by rw [hv]; rfl) (by rw [hv]; rfl) (fun _ => ⟨hB, (Array.getElem?_eq_some_iff.1 hg).1⟩) fun E => ⟨rfl, by simp, rfl, Enc.pos, hnc, hcm, hesl, (fun h => by cases h), fun _ => ⟨cur, hg, hcs, fun i cs j p hi hj => ?_⟩⟩
    rw [List.getElem?_map] at hi
    obtain ⟨y, hy, rfl⟩ := Option.map_eq_some_iff.1 hi
    obtain ⟨hl, hcc⟩ := hc y
    obtain ⟨u, hu1, hu2, hu3⟩ := hcc j p hj
    refine ⟨u, ?_, hu2, hu3 _ _⟩
    have hf := flat_at hy hu1
    have hlt := (List.getElem?_eq_some_iff.1 hf).1
    rw [flat_len] at hlt
    have := congrArg (fun l : List Value => l[i * Enc.k α + j]?) ht
    have h2 : (cur.toList.take (ys.length * Enc.k α))[i * Enc.k α + j]? = (flat ys)[i * Enc.k α + j]? := this
    rw [List.getElem?_take_of_lt hlt, Array.getElem?_toList, hf] at h2
    exact h2
end Go.Proofs.YtmcdjilbkmhfoaaGreat

/- The mirror of impl.PlacesOf (by hand), and that the code does just that. -/
namespace Go.Proofs.YtmcdjilbkmhfoaaGreat
set_option maxRecDepth 10000
open Go.RowKit
set_option linter.unusedVariables false
set_option linter.unusedSimpArgs false
theorem nmI_names (n : YNetwork) : nmI n.legs n.legs.length = (namesOf n).foldl dd [] := by
  have h : ∀ (l : List YLeg) (acc : List ByteArray), l.foldl (fun out l => dd (dd out l.from_) l.to_) acc = (l.flatMap fun l => [l.from_, l.to_]).foldl dd acc := by
    intro l
    induction l with
    | nil => intro acc; rfl
    | cons x l ih => intro acc; simp only [List.foldl_cons, List.flatMap_cons, List.foldl_append, List.foldl_nil, ih]
  unfold nmI namesOf
  rw [List.take_length]
  exact h _ _
def m_impl_PlacesOf (n : YNetwork) : Option (List ByteArray) :=
  if n.legs.length ≤ 1048576 ∧ (n.legs.all fun l => decide (l.from_.size ≤ maxLen ∧ l.to_.size ≤ maxLen)) = true then some (srtS ((namesOf n).foldl dd [])) else none
theorem ok_impl_PlacesOf (n : YNetwork) {r : (List ByteArray)} (H : m_impl_PlacesOf n = some r) : CallM Tryz.prog 141 [.ag (cNetwork n)] [] (.ms 0) [some ⟨9, 1, r.map cStr⟩] := by
  unfold m_impl_PlacesOf at H
  split at H
  case isFalse => cases H
  rename_i hok
  obtain ⟨hn, hs⟩ := hok
  obtain rfl := Option.some.inj H
  have hs' : ∀ l ∈ n.legs, l.from_.size ≤ maxLen ∧ l.to_.size ≤ maxLen := fun l hl => of_decide_eq_true (List.all_eq_true.1 hs l hl)
  intro S β w vs hk hl ha
  obtain ⟨x, hx0, hr⟩ := ha 0 _ rfl
  have hv : vs = #[x] := by
    have h1 : vs.size = 1 := hl
    apply Array.ext (by simp [h1])
    intro i h2 h3
    have : i = 0 := by omega
    subst this
    have := (Array.getElem?_eq_some_iff.1 hx0).2
    simpa using this
  subst hv
  obtain ⟨us, rfl, hul, hu1, hur⟩ := hr.ag_inv
  have hul' : us.size = 3 := hul
  have h0 : us[0]? = some us[0] := Array.getElem?_eq_getElem (by omega)
  have hus : us = #[us[0], us[1], us[2]] := by
    apply Array.ext (by simp [hul'])
    intro i h2 h3
    match i, h2 with
    | 0, _ => rfl
    | 1, _ => rfl
    | 2, _ => rfl
    | i + 3, h2 => omega
  have hr0 := hur 0 (.sl (n.legs.map cLeg)) _ rfl h0
  have hsl : ∃ A c, us[0] = .slice A n.legs.length c ∧ n.legs.length ≤ c ∧ Rd w w.heap.size A n.legs := by
    cases hr0 with
    | c h =>
      generalize hq : PV.sl (n.legs.map cLeg) = q at h
      generalize us[0] = y at h
      cases h with
      | v x h => cases hq
      | ud => cases hq
      | un => cases hq
      | rp => cases hq
      | fn => cases hq
      | nil A c =>
        have : n.legs = [] := by simpa using hq
        exact ⟨A, c, by rw [this]; rfl, by rw [this]; simp, by rw [this]; exact Rd.nil_⟩
      | sl es b off k c u hS hkp hnc hm hes hcc h1 hrr =>
        obtain rfl : n.legs.map cLeg = es := by simpa using hq
        refine ⟨_, c, by simp, by simpa using hnc, fun hne => ⟨b, off, rfl, hk.sz b hS, fun j u' hu' => ?_⟩⟩
        have hpos : 0 < n.legs.length := List.length_pos_iff.2 hne
        have hk6 : k = 6 := (hes 0 (cLeg n.legs[0]) (by simp [hpos])).symm
        subst hk6
        have hj := (List.getElem?_eq_some_iff.1 hu').1
        rw [flat_len] at hj
        have hj6 : j < n.legs.length * 6 := hj
        have hi : j / 6 < n.legs.length := by omega
        have hy : n.legs[j / 6]? = some n.legs[j / 6] := List.getElem?_eq_getElem hi
        have hjj : j = (j / 6) * 6 + j % 6 := by omega
        have hm6 : j % 6 < 6 := Nat.mod_lt _ (by decide)
        have hp : ∃ p u'', (cLeg n.legs[j / 6])[j % 6]? = some p ∧ (Enc.cells n.legs[j / 6])[j % 6]? = some u'' ∧ ∀ z, RepC w S p z → z = u'' := by
          generalize n.legs[j / 6] = y
          generalize j % 6 = m at hm6
          match m, hm6 with
          | 0, _ => exact ⟨_, _, rfl, rfl, fun z hz => by cases hz; rfl⟩
          | 1, _ => exact ⟨_, _, rfl, rfl, fun z hz => by cases hz; rfl⟩
          | 2, _ => exact ⟨_, _, rfl, rfl, fun z hz => by cases hz; rfl⟩
          | 3, _ => exact ⟨_, _, rfl, rfl, fun z hz => by cases hz; rfl⟩
          | 4, _ => exact ⟨_, _, rfl, rfl, fun z hz => by cases hz; rfl⟩
          | 5, _ => exact ⟨_, _, rfl, rfl, fun z hz => by cases hz; rfl⟩
        obtain ⟨p, u'', hp1, hp2, hp3⟩ := hp
        have hf := flat_at hy hp2
        rw [show Enc.k YLeg = 6 from rfl, ← hjj] at hf
        obtain rfl : u'' = u' := Option.some.inj (hf.symm.trans hu')
        have e1 : (n.legs.map cLeg)[j / 6]? = some (cLeg n.legs[j / 6]) := by simp [hi]
        have hc := hcc (j / 6) _ (j % 6) p e1 hp1
        have hz := hp3 _ (hrr (j / 6) _ (j % 6) p e1 hp1)
        rw [hz] at hc
        rw [show off + j = off + j / 6 * 6 + j % 6 by omega]
        exact hc
  obtain ⟨A, c, hA, hcap, hrd⟩ := hsl
  rw [hus, hA]
  refine (places_walk A n.legs _ c _ _ w hrd rfl hcap hn hs').mono ?_
  rintro e w' ⟨v, rfl, ho, hu⟩
  rw [nmI_names] at ho
  obtain ⟨E', h1, h2, h3, h4, h5⟩ := ms_of_own (c := cStr) hk ho hu (fun x => ⟨rfl, fun j p hj => by
    cases j with
    | zero => obtain rfl : vs x = p := by simpa using hj
              exact ⟨_, rfl, rfl, fun w E => .c (.v _ rfl)⟩
    | succ j => simp [cStr] at hj⟩)
  exact ⟨v, E', rfl, h1, h2, h3, h4, h5⟩
instance (n : YNetwork) : CT Tryz.prog (m_impl_PlacesOf n) := ⟨141, [.ag (cNetwork n)], [], fun r => .ms 0, fun r => [some ⟨9, 1, r.map cStr⟩], ok_impl_PlacesOf n⟩
end Go.Proofs.YtmcdjilbkmhfoaaGreat

/- The mirror of p0_spec_l1Byte, and that the code does just that (printed by a program of my own). -/
namespace Go.Proofs.YtmcdjilbkmhfoaaGreat
set_option maxRecDepth 10000
open Go.RowKit
set_option linter.unusedVariables false
set_option maxHeartbeats 16000000
def m_p0_spec_l1Byte (c : Yl1Cur) : Option (Int × Yl1Cur) :=
 cond (decide (c.i < (c.b.length : Int)))
 ((getI c.b c.i).bind fun y1 =>
 some ((IntKind.i64.wrap (BitVec.ofInt IntKind.i64.bits (w64 ((IntKind.i64.wrap (BitVec.ofInt IntKind.i64.bits (IntKind.i64.wrap (BitVec.ofInt IntKind.i64.bits (Int.fdiv (w64 ((w64 (c.h * 6364136223846793005)) + 1442695040888963407)) (2 ^ (min (Int.toNat 35) IntKind.i64.bits))) ^^^ BitVec.ofInt IntKind.i64.bits (Int.fdiv (w64 ((w64 (c.h * 6364136223846793005)) + 1442695040888963407)) (2 ^ (min (Int.toNat 45) IntKind.i64.bits)))).toNat) &&& BitVec.ofInt IntKind.i64.bits 255).toNat) + (IntKind.i64.wrap y1.v))) &&& BitVec.ofInt IntKind.i64.bits 255).toNat), (⟨c.b, (w64 (c.i + 1)), (w64 ((w64 (c.h * 6364136223846793005)) + 1442695040888963407))⟩ : Yl1Cur)))
 (some ((IntKind.i64.wrap (BitVec.ofInt IntKind.i64.bits (IntKind.i64.wrap (BitVec.ofInt IntKind.i64.bits (Int.fdiv (w64 ((w64 (c.h * 6364136223846793005)) + 1442695040888963407)) (2 ^ (min (Int.toNat 35) IntKind.i64.bits))) ^^^ BitVec.ofInt IntKind.i64.bits (Int.fdiv (w64 ((w64 (c.h * 6364136223846793005)) + 1442695040888963407)) (2 ^ (min (Int.toNat 45) IntKind.i64.bits)))).toNat) &&& BitVec.ofInt IntKind.i64.bits 255).toNat), (⟨c.b, c.i, (w64 ((w64 (c.h * 6364136223846793005)) + 1442695040888963407))⟩ : Yl1Cur)))
theorem ok_p0_spec_l1Byte (c : Yl1Cur) {r : Int × Yl1Cur} (H : m_p0_spec_l1Byte c = some r) : CallM Tryz.prog 180 [.be 0 0 0] [some ⟨187, 3, [[.sl (c.b.map cB8), vi c.i, vi c.h]]⟩] (vi r.1) [some ⟨187, 3, [[.sl (r.2.b.map cB8), vi r.2.i, vi r.2.h]]⟩] := by
  replace H := H0 H
  unfold m_p0_spec_l1Byte at H
  refine callM_of Tryz.func180 rfl Tryz.ntmps180 Tryz.results180 fun Q hQ hQn => ?_
  exact wk2
instance (c : Yl1Cur) : CT Tryz.prog (m_p0_spec_l1Byte c) := ⟨180, [.be 0 0 0], [some ⟨187, 3, [[.sl (c.b.map cB8), vi c.i, vi c.h]]⟩], fun r => vi r.1, fun r => [some ⟨187, 3, [[.sl (r.2.b.map cB8), vi r.2.i, vi r.2.h]]⟩], ok_p0_spec_l1Byte c⟩
end Go.Proofs.YtmcdjilbkmhfoaaGreat

/- The mirror of p0_spec_l1Below, and that the code does just that (printed by a program of my own). -/
namespace Go.Proofs.YtmcdjilbkmhfoaaGreat
set_option maxRecDepth 10000
open Go.RowKit
set_option linter.unusedVariables false
set_option maxHeartbeats 16000000
def m_p0_spec_l1Below (c : Yl1Cur) (n : Int) : Option (Int × Yl1Cur) :=
 cond (decide (n ≤ 0))
 (some (0, c))
 (cond (decide (n ≤ 256))
 ((rhoM [0]).bind fun _ =>
 (m_p0_spec_l1Byte c).bind fun y1 =>
 (chk (decide (n ≠ 0))).bind fun _ =>
 some ((Int.tmod y1.1 n), y1.2))
 ((rhoM [0]).bind fun _ =>
 (m_p0_spec_l1Byte c).bind fun y2 =>
 (rhoM [0]).bind fun _ =>
 (m_p0_spec_l1Byte y2.2).bind fun y3 =>
 (rhoM [0]).bind fun _ =>
 (m_p0_spec_l1Byte y3.2).bind fun y4 =>
 (chk (decide (n ≠ 0))).bind fun _ =>
 some ((Int.tmod (w64 ((w64 ((w64 (y2.1 * 65536)) + (w64 (y3.1 * 256)))) + y4.1)) n), y4.2)))
theorem ok_p0_spec_l1Below (c : Yl1Cur) (n : Int) {r : Int × Yl1Cur} (H : m_p0_spec_l1Below c n = some r) : CallM Tryz.prog 106 [.be 0 0 0, vi n] [some ⟨187, 3, [[.sl (c.b.map cB8), vi c.i, vi c.h]]⟩] (vi r.1) [some ⟨187, 3, [[.sl (r.2.b.map cB8), vi r.2.i, vi r.2.h]]⟩] := by
  replace H := H0 H
  unfold m_p0_spec_l1Below at H
  refine callM_of Tryz.func106 rfl Tryz.ntmps106 Tryz.results106 fun Q hQ hQn => ?_
  exact wk2
instance (c : Yl1Cur) (n : Int) : CT Tryz.prog (m_p0_spec_l1Below c n) := ⟨106, [.be 0 0 0, vi n], [some ⟨187, 3, [[.sl (c.b.map cB8), vi c.i, vi c.h]]⟩], fun r => vi r.1, fun r => [some ⟨187, 3, [[.sl (r.2.b.map cB8), vi r.2.i, vi r.2.h]]⟩], ok_p0_spec_l1Below c n⟩
end Go.Proofs.YtmcdjilbkmhfoaaGreat

/- The mirror of p0_spec_l1Once, and that the code does just that (printed by a program of my own). -/
namespace Go.Proofs.YtmcdjilbkmhfoaaGreat
set_option maxRecDepth 10000
open Go.RowKit
set_option linter.unusedVariables false
set_option maxHeartbeats 16000000
def m_p0_spec_l1Once (c : Yl1Cur) (n : Int) : Option (Bool × Yl1Cur) :=
 (rhoM [0]).bind fun _ =>
 (m_p0_spec_l1Below c n).bind fun y1 =>
 some ((decide (y1.1 = 0)), y1.2)
theorem ok_p0_spec_l1Once (c : Yl1Cur) (n : Int) {r : Bool × Yl1Cur} (H : m_p0_spec_l1Once c n = some r) : CallM Tryz.prog 104 [.be 0 0 0, vi n] [some ⟨187, 3, [[.sl (c.b.map cB8), vi c.i, vi c.h]]⟩] (vb r.1) [some ⟨187, 3, [[.sl (r.2.b.map cB8), vi r.2.i, vi r.2.h]]⟩] := by
  replace H := H0 H
  unfold m_p0_spec_l1Once at H
  refine callM_of Tryz.func104 rfl Tryz.ntmps104 Tryz.results104 fun Q hQ hQn => ?_
  exact wk2
instance (c : Yl1Cur) (n : Int) : CT Tryz.prog (m_p0_spec_l1Once c n) := ⟨104, [.be 0 0 0, vi n], [some ⟨187, 3, [[.sl (c.b.map cB8), vi c.i, vi c.h]]⟩], fun r => vb r.1, fun r => [some ⟨187, 3, [[.sl (r.2.b.map cB8), vi r.2.i, vi r.2.h]]⟩], ok_p0_spec_l1Once c n⟩
end Go.Proofs.YtmcdjilbkmhfoaaGreat

/- The mirror of p0_spec_l1Str, and that the code does just that (printed by a program of my own). -/
namespace Go.Proofs.YtmcdjilbkmhfoaaGreat
set_option maxRecDepth 10000
open Go.RowKit
set_option linter.unusedVariables false
set_option maxHeartbeats 16000000
def m_p0_spec_l1Str (c : Yl1Cur) (list : List ByteArray) : Option (ByteArray × Yl1Cur × (List ByteArray)) :=
 (rhoM [0]).bind fun _ =>
 (m_p0_spec_l1Below c (list.length : Int)).bind fun y1 =>
 (getI list y1.1).bind fun y2 =>
 some (y2, y1.2, list)
theorem ok_p0_spec_l1Str (c : Yl1Cur) (list : List ByteArray) {r : ByteArray × Yl1Cur × (List ByteArray)} (H : m_p0_spec_l1Str c list = some r) : CallM Tryz.prog 179 [.be 0 0 0, .ms 1] [some ⟨187, 3, [[.sl (c.b.map cB8), vi c.i, vi c.h]]⟩, some ⟨9, 1, list.map cStr⟩] (vs r.1) [some ⟨187, 3, [[.sl (r.2.1.b.map cB8), vi r.2.1.i, vi r.2.1.h]]⟩, some ⟨9, 1, r.2.2.map cStr⟩] := by
  replace H := H0 H
  unfold m_p0_spec_l1Str at H
  refine callM_of Tryz.func179 rfl Tryz.ntmps179 Tryz.results179 fun Q hQ hQn => ?_
  exact wk2
instance (c : Yl1Cur) (list : List ByteArray) : CT Tryz.prog (m_p0_spec_l1Str c list) := ⟨179, [.be 0 0 0, .ms 1], [some ⟨187, 3, [[.sl (c.b.map cB8), vi c.i, vi c.h]]⟩, some ⟨9, 1, list.map cStr⟩], fun r => vs r.1, fun r => [some ⟨187, 3, [[.sl (r.2.1.b.map cB8), vi r.2.1.i, vi r.2.1.h]]⟩, some ⟨9, 1, r.2.2.map cStr⟩], ok_p0_spec_l1Str c list⟩
end Go.Proofs.YtmcdjilbkmhfoaaGreat

/- The mirror of p0_spec_l1Place, and that the code does just that (printed by a program of my own). -/
namespace Go.Proofs.YtmcdjilbkmhfoaaGreat
set_option maxRecDepth 10000
open Go.RowKit
set_option linter.unusedVariables false
set_option maxHeartbeats 16000000
def m_p0_spec_l1Place (c : Yl1Cur) : Option (ByteArray × Yl1Cur) :=
 (rhoM [0, 1]).bind fun _ =>
 (m_p0_spec_l1Str c ([⟨#[65, 77, 83]⟩, ⟨#[66, 82, 85]⟩, ⟨#[67, 68, 71]⟩, ⟨#[68, 85, 66]⟩, ⟨#[69, 68, 73]⟩, ⟨#[70, 82, 65]⟩, ⟨#[71, 79, 84]⟩])).bind fun y1 =>
 some (y1.1, y1.2.1)
theorem ok_p0_spec_l1Place (c : Yl1Cur) {r : ByteArray × Yl1Cur} (H : m_p0_spec_l1Place c = some r) : CallM Tryz.prog 249 [.be 0 0 0] [some ⟨187, 3, [[.sl (c.b.map cB8), vi c.i, vi c.h]]⟩] (vs r.1) [some ⟨187, 3, [[.sl (r.2.b.map cB8), vi r.2.i, vi r.2.h]]⟩] := by
  replace H := H0 H
  unfold m_p0_spec_l1Place at H
  refine callM_of Tryz.func249 rfl Tryz.ntmps249 Tryz.results249 fun Q hQ hQn => ?_
  exact wk2
instance (c : Yl1Cur) : CT Tryz.prog (m_p0_spec_l1Place c) := ⟨249, [.be 0 0 0], [some ⟨187, 3, [[.sl (c.b.map cB8), vi c.i, vi c.h]]⟩], fun r => vs r.1, fun r => [some ⟨187, 3, [[.sl (r.2.b.map cB8), vi r.2.i, vi r.2.h]]⟩], ok_p0_spec_l1Place c⟩
end Go.Proofs.YtmcdjilbkmhfoaaGreat

/- The mirror of p0_spec_l1Int, and that the code does just that (printed by a program of my own). -/
namespace Go.Proofs.YtmcdjilbkmhfoaaGreat
set_option maxRecDepth 10000
open Go.RowKit
set_option linter.unusedVariables false
set_option maxHeartbeats 16000000
def m_p0_spec_l1Int (c : Yl1Cur) (list : List Int) : Option (Int × Yl1Cur × (List Int)) :=
 (rhoM [0]).bind fun _ =>
 (m_p0_spec_l1Below c (list.length : Int)).bind fun y1 =>
 (getI list y1.1).bind fun y2 =>
 some (y2, y1.2, list)
theorem ok_p0_spec_l1Int (c : Yl1Cur) (list : List Int) {r : Int × Yl1Cur × (List Int)} (H : m_p0_spec_l1Int c list = some r) : CallM Tryz.prog 105 [.be 0 0 0, .ms 1] [some ⟨187, 3, [[.sl (c.b.map cB8), vi c.i, vi c.h]]⟩, some ⟨3, 1, list.map cInt⟩] (vi r.1) [some ⟨187, 3, [[.sl (r.2.1.b.map cB8), vi r.2.1.i, vi r.2.1.h]]⟩, some ⟨3, 1, r.2.2.map cInt⟩] := by
  replace H := H0 H
  unfold m_p0_spec_l1Int at H
  refine callM_of Tryz.func105 rfl Tryz.ntmps105 Tryz.results105 fun Q hQ hQn => ?_
  exact wk2
instance (c : Yl1Cur) (list : List Int) : CT Tryz.prog (m_p0_spec_l1Int c list) := ⟨105, [.be 0 0 0, .ms 1], [some ⟨187, 3, [[.sl (c.b.map cB8), vi c.i, vi c.h]]⟩, some ⟨3, 1, list.map cInt⟩], fun r => vi r.1, fun r => [some ⟨187, 3, [[.sl (r.2.1.b.map cB8), vi r.2.1.i, vi r.2.1.h]]⟩, some ⟨3, 1, r.2.2.map cInt⟩], ok_p0_spec_l1Int c list⟩
end Go.Proofs.YtmcdjilbkmhfoaaGreat

/- The mirror of p0_spec_l3Leg, and that the code does just that (printed by a program of my own). -/
namespace Go.Proofs.YtmcdjilbkmhfoaaGreat
set_option maxRecDepth 10000
open Go.RowKit
set_option linter.unusedVariables false
set_option maxHeartbeats 16000000
def m_p0_spec_l3Leg_b0 (y3 : Int × Yl1Cur) (y4 : Int × Yl1Cur) (y5 : Int × Yl1Cur) (y6 : Int × Yl1Cur) (s0 : (List YB8) × Int × Int × ByteArray × ByteArray) : Option (((List YB8) × Int × Int × ByteArray × ByteArray) ⊕ ((List YB8) × Int × Int × ByteArray × ByteArray)) :=
 cond (decide (s0.2.2.2.1 = s0.2.2.2.2))
 ((rhoM [0, 3]).bind fun _ =>
 (m_p0_spec_l1Str (⟨s0.1, s0.2.1, s0.2.2.1⟩ : Yl1Cur) ([⟨#[65, 77, 83]⟩, ⟨#[66, 82, 85]⟩, ⟨#[67, 68, 71]⟩])).bind fun y7 =>
 cond (decide (s0.2.2.2.1 = y7.1))
 (some (.inl (y7.2.1.b, y7.2.1.i, y7.2.1.h, ⟨#[68, 85, 66]⟩, y7.1)))
 (some (.inl (y7.2.1.b, y7.2.1.i, y7.2.1.h, s0.2.2.2.1, y7.1))))
 (some (.inr (s0.1, s0.2.1, s0.2.2.1, s0.2.2.2.1, s0.2.2.2.2)))
instance (y3 : Int × Yl1Cur) (y4 : Int × Yl1Cur) (y5 : Int × Yl1Cur) (y6 : Int × Yl1Cur) : LoopE (m_p0_spec_l3Leg_b0 y3 y4 y5 y6) := ⟨fun s0 => [.be 0 0 0, .un, .be 1 0 0, .be 2 0 0, .un, .un, .un, .un, .un, .un, .un, .un, .un, .un, .un, .un, .un, .un, .un, .un, .un, .un, .un, .un, .un, .un, .un, .un, .un, .un, .un, .un, .un, .un, .un, .un, .un, .un, .un, .un, .un, .un, .un, .un, .un, .un, .un], fun s0 => [some ⟨187, 3, [[.sl (s0.1.map cB8), vi s0.2.1, vi s0.2.2.1]]⟩, some ⟨67, 6, [[vs (⟨#[]⟩), vs (⟨#[]⟩), vi 0, vi 0, vi 0, vi 0]]⟩, some ⟨67, 6, [[vs s0.2.2.2.1, vs s0.2.2.2.2, vi (w64 (30 * y3.1)), vi (w64 (30 * (w64 (1 + y4.1)))), vi (w64 (1 + y5.1)), vi (w64 (1000 * y6.1))]]⟩]⟩
def m_p0_spec_l3Leg (c : Yl1Cur) : Option (YLeg × Yl1Cur) :=
 (rhoM [0]).bind fun _ =>
 (m_p0_spec_l1Place c).bind fun y1 =>
 (rhoM [0]).bind fun _ =>
 (m_p0_spec_l1Place y1.2).bind fun y2 =>
 (rhoM [0]).bind fun _ =>
 (m_p0_spec_l1Below y2.2 48).bind fun y3 =>
 (rhoM [0]).bind fun _ =>
 (m_p0_spec_l1Below y3.2 40).bind fun y4 =>
 (rhoM [0]).bind fun _ =>
 (m_p0_spec_l1Below y4.2 127).bind fun y5 =>
 (rhoM [0]).bind fun _ =>
 (m_p0_spec_l1Below y5.2 60).bind fun y6 =>
 (iterF (m_p0_spec_l3Leg_b0 y3 y4 y5 y6) NN (y6.2.b, y6.2.i, y6.2.h, y1.1, y2.1)).bind (fun o0 =>
 (rhoM [0]).bind fun _ =>
 (m_p0_spec_l1Once (⟨o0.1, o0.2.1, o0.2.2.1⟩ : Yl1Cur) 2).bind fun y8 =>
 cond y8.1
 ((rhoM [0]).bind fun _ =>
 (m_p0_spec_l1Once y8.2 9).bind fun y9 =>
 cond y9.1
 ((rhoM [0, 3]).bind fun _ =>
 (m_p0_spec_l1Int y9.2 ([1, 1440, 4320])).bind fun y10 =>
 some ((⟨o0.2.2.2.1, o0.2.2.2.2, (w64 (30 * y3.1)), y10.1, 127, (w64 (1000 * y6.1))⟩ : YLeg), y10.2.1))
 (some ((⟨o0.2.2.2.1, o0.2.2.2.2, (w64 (30 * y3.1)), (w64 (30 * (w64 (1 + y4.1)))), 127, (w64 (1000 * y6.1))⟩ : YLeg), y9.2)))
 ((rhoM [0]).bind fun _ =>
 (m_p0_spec_l1Once y8.2 9).bind fun y11 =>
 cond y11.1
 ((rhoM [0, 3]).bind fun _ =>
 (m_p0_spec_l1Int y11.2 ([1, 1440, 4320])).bind fun y12 =>
 some ((⟨o0.2.2.2.1, o0.2.2.2.2, (w64 (30 * y3.1)), y12.1, (w64 (1 + y5.1)), (w64 (1000 * y6.1))⟩ : YLeg), y12.2.1))
 (some ((⟨o0.2.2.2.1, o0.2.2.2.2, (w64 (30 * y3.1)), (w64 (30 * (w64 (1 + y4.1)))), (w64 (1 + y5.1)), (w64 (1000 * y6.1))⟩ : YLeg), y11.2))))
theorem ok_p0_spec_l3Leg (c : Yl1Cur) {r : YLeg × Yl1Cur} (H : m_p0_spec_l3Leg c = some r) : CallM Tryz.prog 256 [.be 0 0 0] [some ⟨187, 3, [[.sl (c.b.map cB8), vi c.i, vi c.h]]⟩] (.ag [vs r.1.from_, vs r.1.to_, vi r.1.start, vi r.1.takes, vi r.1.days, vi r.1.room]) [some ⟨187, 3, [[.sl (r.2.b.map cB8), vi r.2.i, vi r.2.h]]⟩] := by
  replace H := H0 H
  unfold m_p0_spec_l3Leg at H
  refine callM_of Tryz.func256 rfl Tryz.ntmps256 Tryz.results256 fun Q hQ hQn => ?_
  exact wk2
instance (c : Yl1Cur) : CT Tryz.prog (m_p0_spec_l3Leg c) := ⟨256, [.be 0 0 0], [some ⟨187, 3, [[.sl (c.b.map cB8), vi c.i, vi c.h]]⟩], fun r => .ag [vs r.1.from_, vs r.1.to_, vi r.1.start, vi r.1.takes, vi r.1.days, vi r.1.room], fun r => [some ⟨187, 3, [[.sl (r.2.b.map cB8), vi r.2.i, vi r.2.h]]⟩], ok_p0_spec_l3Leg c⟩
end Go.Proofs.YtmcdjilbkmhfoaaGreat

/- The mirror of p0_spec_l3Draw, and that the code does just that (printed by a program of my own). -/
namespace Go.Proofs.YtmcdjilbkmhfoaaGreat
set_option maxRecDepth 10000
open Go.RowKit
set_option linter.unusedVariables false
set_option maxHeartbeats 16000000
def m_p0_spec_l3Draw_b0 (most : Int) (y1 : Int × Yl1Cur) (s0 : Int × (List YB8) × Int × Int × (List YLeg)) : Option ((Int × (List YB8) × Int × Int × (List YLeg)) ⊕ ((List YB8) × Int × Int × (List YLeg))) :=
 cond (decide (0 < s0.1))
 ((rhoM [0]).bind fun _ =>
 (m_p0_spec_l3Leg (⟨s0.2.1, s0.2.2.1, s0.2.2.2.1⟩ : Yl1Cur)).bind fun y3 =>
 (chk (appOk ((s0.2.2.2.2 : List YLeg).length + ([y3.1] : List YLeg).length) 64)).bind fun _ =>
 (rhoM [0]).bind fun _ =>
 (m_p0_spec_l1Once y3.2 3).bind fun y4 =>
 cond y4.1
 (cond (decide ((((s0.2.2.2.2 : List YLeg) ++ [y3.1]).length : Int) < most))
 ((getI ((s0.2.2.2.2 : List YLeg) ++ [y3.1]) (w64 ((((s0.2.2.2.2 : List YLeg) ++ [y3.1]).length : Int) - 1))).bind fun y5 =>
 (getI ((s0.2.2.2.2 : List YLeg) ++ [y3.1]) (w64 ((((s0.2.2.2.2 : List YLeg) ++ [y3.1]).length : Int) - 1))).bind fun y6 =>
 (drwL 8 [3]).bind fun _ =>
 (rhoM [0]).bind fun _ =>
 (m_p0_spec_l1Below y4.2 20).bind fun y7 =>
 (chk (appOk ((((s0.2.2.2.2 : List YLeg) ++ [y3.1]) : List YLeg).length + ([(⟨y5.to_, y6.from_, (Int.tmod (w64 (y3.1.start + (w64 (60 * y7.1)))) 1440), y3.1.takes, y3.1.days, y3.1.room⟩ : YLeg)] : List YLeg).length) 64)).bind fun _ =>
 some (.inl ((w64 (s0.1 - 1)), y7.2.b, y7.2.i, y7.2.h, ((((s0.2.2.2.2 : List YLeg) ++ [y3.1]) : List YLeg) ++ [(⟨y5.to_, y6.from_, (Int.tmod (w64 (y3.1.start + (w64 (60 * y7.1)))) 1440), y3.1.takes, y3.1.days, y3.1.room⟩ : YLeg)]))))
 (some (.inl ((w64 (s0.1 - 1)), y4.2.b, y4.2.i, y4.2.h, ((s0.2.2.2.2 : List YLeg) ++ [y3.1])))))
 (some (.inl ((w64 (s0.1 - 1)), y4.2.b, y4.2.i, y4.2.h, ((s0.2.2.2.2 : List YLeg) ++ [y3.1])))))
 (some (.inr (s0.2.1, s0.2.2.1, s0.2.2.2.1, s0.2.2.2.2)))
instance (most : Int) (y1 : Int × Yl1Cur) : LoopE (m_p0_spec_l3Draw_b0 most y1) := ⟨fun s0 => (.be 0 0 0 :: vi most :: .un :: .un :: .be 1 0 0 :: .be 2 0 0 :: vi s0.1 :: .un :: .un :: .un :: .un :: .un :: .un :: .un :: .un :: .un :: .un :: .un :: .un :: .un :: .un :: .un :: .un :: .un :: .un :: .un :: .un :: .un :: .un :: .un :: .un :: .un :: .un :: .un :: .un :: .un :: .un :: .un :: .un :: .un :: .un :: .un :: .un :: .un :: .un :: .un :: .un :: .un :: .un :: .un :: .un :: .un :: .un :: .un :: .un :: .un :: .un :: .un :: .un :: .un :: .un :: .un :: .un :: .un :: .un :: .un :: .un :: .un :: .un :: .un :: .un :: .un :: .un :: .un :: .un :: .un :: .un :: .un :: .un :: .un :: .un :: []), fun s0 => [some ⟨187, 3, [[.sl (s0.2.1.map cB8), vi s0.2.2.1, vi s0.2.2.2.1]]⟩, some ⟨35, 3, [[.v (.slice none 0 0), .v (.slice none 0 0), vi 0]]⟩, some ⟨35, 3, [[.ms 3, .v (.slice none 0 0), vi (w64 (15 * y1.1))]]⟩, some ⟨67, 6, s0.2.2.2.2.map cLeg⟩]⟩
def m_p0_spec_l3Draw (c : Yl1Cur) (most : Int) : Option (YNetwork × Yl1Cur) :=
 (rhoM [0]).bind fun _ =>
 (m_p0_spec_l1Below c 9).bind fun y1 =>
 (rhoM [0]).bind fun _ =>
 (m_p0_spec_l1Below y1.2 most).bind fun y2 =>
 (iterF (m_p0_spec_l3Draw_b0 most y1) NN ((w64 (1 + y2.1)), y2.2.b, y2.2.i, y2.2.h, [])).bind (fun o0 =>
 (rhoM [0]).bind fun _ =>
 (m_p0_spec_l1Once (⟨o0.1, o0.2.1, o0.2.2.1⟩ : Yl1Cur) 2).bind fun y8 =>
 cond y8.1
 ((rhoM [0]).bind fun _ =>
 (m_p0_spec_l1Below y8.2 3).bind fun y9 =>
 (rhoM [0]).bind fun _ =>
 (m_p0_spec_l1Below y9.2 4).bind fun y10 =>
 some ((⟨o0.2.2.2, [y9.1, (w64 (3 + y10.1))], (w64 (15 * y1.1))⟩ : YNetwork), y10.2))
 (some ((⟨o0.2.2.2, [], (w64 (15 * y1.1))⟩ : YNetwork), y8.2)))
theorem ok_p0_spec_l3Draw (c : Yl1Cur) (most : Int) {r : YNetwork × Yl1Cur} (H : m_p0_spec_l3Draw c most = some r) : CallM Tryz.prog 230 [.be 0 0 0, vi most] [some ⟨187, 3, [[.sl (c.b.map cB8), vi c.i, vi c.h]]⟩] (.ag [.ms 1, .ms 2, vi r.1.change]) [some ⟨187, 3, [[.sl (r.2.b.map cB8), vi r.2.i, vi r.2.h]]⟩, some ⟨67, 6, r.1.legs.map cLeg⟩, some ⟨3, 1, r.1.off.map cInt⟩] := by
  replace H := H0 H
  unfold m_p0_spec_l3Draw at H
  refine callM_of Tryz.func230 rfl Tryz.ntmps230 Tryz.results230 fun Q hQ hQn => ?_
  exact wk2
instance (c : Yl1Cur) (most : Int) : CT Tryz.prog (m_p0_spec_l3Draw c most) := ⟨230, [.be 0 0 0, vi most], [some ⟨187, 3, [[.sl (c.b.map cB8), vi c.i, vi c.h]]⟩], fun r => .ag [.ms 1, .ms 2, vi r.1.change], fun r => [some ⟨187, 3, [[.sl (r.2.b.map cB8), vi r.2.i, vi r.2.h]]⟩, some ⟨67, 6, r.1.legs.map cLeg⟩, some ⟨3, 1, r.1.off.map cInt⟩], ok_p0_spec_l3Draw c most⟩
end Go.Proofs.YtmcdjilbkmhfoaaGreat

/- The mirror of o_spec_l1New, and that the code does just that (printed by a program of my own). -/
namespace Go.Proofs.YtmcdjilbkmhfoaaGreat
set_option maxRecDepth 10000
open Go.RowKit
set_option linter.unusedVariables false
set_option maxHeartbeats 16000000
def m_o_spec_l1New_b0 (code : List YB8) (s0 : Int × Int) : Option ((Int × Int) ⊕ Int) :=
 cond (decide (s0.2 < (code.length : Int)))
 (cond (decide (s0.2 < 4000))
 ((getI code s0.2).bind fun y1 =>
 some (.inl ((IntKind.i64.wrap (BitVec.ofInt IntKind.i64.bits (w64 ((w64 ((w64 (s0.1 * 167)) + (IntKind.i64.wrap y1.v))) + 29)) &&& BitVec.ofInt IntKind.i64.bits 1073741823).toNat), (w64 (s0.2 + 1)))))
 (some (.inr s0.1)))
 (some (.inr s0.1))
instance (code : List YB8) : LoopE (m_o_spec_l1New_b0 code) := ⟨fun s0 => [.sl (code.map cB8), .un, .un, vi s0.1, vi s0.2, .un, .un, .un, .un, .un, .un, .un, .un, .un, .un, .un, .un, .un, .un, .un, .un, .un, .un, .un, .un, .un, .un, .un, .un, .un, .un, .un, .un], fun s0 => []⟩
def m_o_spec_l1New (code : List YB8) : Option Yl1Cur :=
 (iterF (m_o_spec_l1New_b0 code) NN ((w64 (744201 + (w64 (3 * (code.length : Int))))), 0)).bind (fun o0 =>
 some (⟨code, 0, o0⟩ : Yl1Cur))
theorem ok_o_spec_l1New (code : List YB8) {r : Yl1Cur} (H : m_o_spec_l1New code = some r) : CallM Tryz.prog 102 [.sl (code.map cB8)] [] (.be 0 0 0) [some ⟨187, 3, [[.sl (r.b.map cB8), vi r.i, vi r.h]]⟩] := by
  replace H := H0 H
  unfold m_o_spec_l1New at H
  refine callM_of Tryz.func102 rfl Tryz.ntmps102 Tryz.results102 fun Q hQ hQn => ?_
  exact wk2
instance (code : List YB8) : CT Tryz.prog (m_o_spec_l1New code) := ⟨102, [.sl (code.map cB8)], [], fun r => .be 0 0 0, fun r => [some ⟨187, 3, [[.sl (r.b.map cB8), vi r.i, vi r.h]]⟩], ok_o_spec_l1New code⟩
end Go.Proofs.YtmcdjilbkmhfoaaGreat

/- Draws: the cursor's functions come to an end. -/
namespace Go.Proofs.YtmcdjilbkmhfoaaGreat
set_option maxRecDepth 10000
open Go.RowKit
set_option linter.unusedVariables false
set_option linter.unusedSimpArgs false
/-- x gives something of which P holds. -/
def Tot {α : Type} (x : Option α) (P : α → Prop) : Prop := ∃ r, x = some r ∧ P r
theorem Tot.bind {α β : Type} {x : Option α} {P : α → Prop} {f : α → Option β} {Q : β → Prop} (h : Tot x P) (k : ∀ r, P r → Tot (f r) Q) : Tot (x.bind f) Q := by
  obtain ⟨r, rfl, hr⟩ := h
  exact k r hr
theorem Tot.cond {β : Type} {b : Bool} {x y : Option β} {Q : β → Prop} (h : b = true → Tot x Q) (k : b = false → Tot y Q) : Tot (cond b x y) Q := by
  cases b with
  | true => exact h rfl
  | false => exact k rfl
theorem Tot.ret {β : Type} {r : β} {Q : β → Prop} (h : Q r) : Tot (some r) Q := ⟨r, rfl, h⟩
theorem Tot.of {β : Type} {x : Option β} {r : β} {Q : β → Prop} (h : x = some r) (h' : Q r) : Tot x Q := ⟨r, h, h'⟩
theorem Tot.mono {β : Type} {x : Option β} {P Q : β → Prop} (h : Tot x P) (k : ∀ r, P r → Q r) : Tot x Q := by
  obtain ⟨r, e, hr⟩ := h
  exact ⟨r, e, k r hr⟩
theorem Tot.rho {β : Type} {ρ : List Nat} {f : Unit → Option β} {Q : β → Prop} (k : Tot (f ()) Q) : Tot ((rhoM ρ).bind f) Q := k
theorem Tot.drw {β : Type} {wd : Nat} {fl : List Nat} {f : Unit → Option β} {Q : β → Prop} (k : Tot (f ()) Q) : Tot ((drwL wd fl).bind f) Q := k
theorem Tot.frz {β : Type} {t : List PV} {m : Mem} {f : Unit → Option β} {Q : β → Prop} (k : Tot (f ()) Q) : Tot ((Go.Proofs.YtmcdjilbkmhfoaaGreat.frz t m).bind f) Q := k
theorem Tot.frzL {α β : Type} {x : α} {t : α → List PV} {m : α → Mem} {f : α → Option β} {Q : β → Prop} (k : Tot (f x) Q) : Tot ((Go.Proofs.YtmcdjilbkmhfoaaGreat.frzL x t m).bind f) Q := k
theorem Tot.chk {β : Type} {b : Bool} {f : Unit → Option β} {Q : β → Prop} (h : b = true) (k : Tot (f ()) Q) : Tot ((Go.Proofs.YtmcdjilbkmhfoaaGreat.chk b).bind f) Q := by
  subst h; exact k
theorem Tot.get {α β : Type} {xs : List α} {i : Int} {f : α → Option β} {Q : β → Prop} (h0 : 0 ≤ i) (h1 : i < xs.length) (k : ∀ x, x ∈ xs → getI xs i = some x → Tot (f x) Q) : Tot ((getI xs i).bind f) Q := by
  have hlt : i.toNat < xs.length := by omega
  have e : getI xs i = some xs[i.toNat] := by unfold getI; rw [if_pos h0]; exact List.getElem?_eq_getElem hlt
  rw [e]
  exact k _ (List.getElem_mem hlt) e
def LoopP {σ ο : Type} (I : Nat → σ → Prop) (P : ο → Prop) (k : Nat) : σ ⊕ ο → Prop
  | .inl s' => ∃ k', k' < k ∧ I k' s'
  | .inr o => P o
/-- A loop comes to an end, with what it goes out with. -/
theorem Tot.loop {σ ο : Type} {body : σ → Option (σ ⊕ ο)} (I : Nat → σ → Prop) {P : ο → Prop} (h : ∀ k s, I k s → Tot (body s) (LoopP I P k)) : ∀ (N k : Nat) (s : σ), I k s → k < N → Tot (iterF body N s) P
  | 0, k, s, _, hN => by omega
  | N + 1, k, s, hI, hN => by
    obtain ⟨r, e, hr⟩ := h k s hI
    simp only [iterF, e]
    cases r with
    | inr o => exact ⟨o, rfl, hr⟩
    | inl s' =>
      obtain ⟨k', hk, hI'⟩ := hr
      exact Tot.loop I h N k' s' hI' (by omega)
theorem app_fit {a b c : Nat} (h : a + b ≤ 1099511627776) (hc : c ≤ 128) : appOk (a + b) c = true := by
  unfold appOk
  refine decide_eq_true ⟨by omega, ?_⟩
  have : (a + b) * c ≤ 1099511627776 * 128 := Nat.mul_le_mul h hc
  omega
structure CurOk (c : Yl1Cur) : Prop where
  i : 0 ≤ c.i
  len : c.b.length ≤ 4096
  b : ∀ x ∈ c.b, 0 ≤ x.v ∧ x.v ≤ 255
theorem and255 (x : BitVec IntKind.i64.bits) : 0 ≤ IntKind.i64.wrap ((x &&& BitVec.ofInt IntKind.i64.bits 255).toNat : Int) ∧ IntKind.i64.wrap ((x &&& BitVec.ofInt IntKind.i64.bits 255).toNat : Int) ≤ 255 := by
  have h : (x &&& BitVec.ofInt IntKind.i64.bits 255).toNat ≤ 255 := by
    have e : (BitVec.ofInt IntKind.i64.bits 255).toNat = 255 := by decide
    have := Nat.and_le_right (n := x.toNat) (m := (BitVec.ofInt IntKind.i64.bits 255).toNat)
    rw [e] at this
    rw [BitVec.toNat_and]
    exact this
  have e := w64_in (n := ((x &&& BitVec.ofInt IntKind.i64.bits 255).toNat : Int)) (by omega)
  have e' : IntKind.i64.wrap ((x &&& BitVec.ofInt IntKind.i64.bits 255).toNat : Int) = ((x &&& BitVec.ofInt IntKind.i64.bits 255).toNat : Int) := e
  rw [e']
  omega
theorem byte_tot {c : Yl1Cur} (h : CurOk c) : Tot (m_p0_spec_l1Byte c) fun r => (0 ≤ r.1 ∧ r.1 ≤ 255) ∧ CurOk r.2 := by
  unfold m_p0_spec_l1Byte
  refine Tot.cond (fun hc => ?_) fun hc => ?_
  · have hlt := of_decide_eq_true hc
    have hl := h.len
    refine Tot.get h.i hlt fun x hx _ => Tot.ret ⟨and255 _, ⟨?_, h.len, h.b⟩⟩
    show 0 ≤ w64 (c.i + 1)
    rw [w64_in (by have := h.i; omega)]
    have := h.i
    omega
  · exact Tot.ret ⟨and255 _, ⟨h.i, h.len, h.b⟩⟩
theorem below_tot {c : Yl1Cur} (h : CurOk c) (n : Int) : Tot (m_p0_spec_l1Below c n) fun r => (0 ≤ r.1 ∧ (0 < n → r.1 < n) ∧ (n ≤ 0 → r.1 = 0)) ∧ CurOk r.2 := by
  unfold m_p0_spec_l1Below
  refine Tot.cond (fun hc => ?_) fun hc => ?_
  · have := of_decide_eq_true hc
    exact Tot.ret ⟨⟨by simp, fun _ => by simp only; omega, fun _ => rfl⟩, h⟩
  · have h0 := of_decide_eq_false hc
    refine Tot.cond (fun hd => ?_) fun hd => ?_
    · refine Tot.rho (Tot.bind (byte_tot h) fun y hy => Tot.chk (decide_eq_true (by omega)) (Tot.ret ⟨⟨?_, fun _ => ?_, fun hn => absurd hn h0⟩, hy.2⟩))
      · exact Int.tmod_nonneg _ hy.1.1
      · exact Int.tmod_lt_of_pos _ (by omega)
    · refine Tot.rho (Tot.bind (byte_tot h) fun y hy => Tot.rho (Tot.bind (byte_tot hy.2) fun z hz => Tot.rho (Tot.bind (byte_tot hz.2) fun u hu => Tot.chk (decide_eq_true (by omega)) (Tot.ret ⟨⟨?_, fun _ => ?_, fun hn => absurd hn h0⟩, hu.2⟩))))
      · have e1 : w64 (y.1 * 65536) = y.1 * 65536 := w64_in (by omega)
        have e2 : w64 (z.1 * 256) = z.1 * 256 := w64_in (by omega)
        have e3 : w64 (y.1 * 65536 + z.1 * 256) = y.1 * 65536 + z.1 * 256 := w64_in (by omega)
        have e4 : w64 (y.1 * 65536 + z.1 * 256 + u.1) = y.1 * 65536 + z.1 * 256 + u.1 := w64_in (by omega)
        simp only [e1, e2, e3, e4]
        exact Int.tmod_nonneg _ (by omega)
      · exact Int.tmod_lt_of_pos _ (by omega)
theorem once_tot {c : Yl1Cur} (h : CurOk c) (n : Int) : Tot (m_p0_spec_l1Once c n) fun r => CurOk r.2 := by
  unfold m_p0_spec_l1Once
  exact Tot.rho (Tot.bind (below_tot h n) fun y hy => Tot.ret hy.2)
theorem str_tot {c : Yl1Cur} (h : CurOk c) {l : List ByteArray} (hl : 0 < l.length) : Tot (m_p0_spec_l1Str c l) fun r => r.1 ∈ l ∧ CurOk r.2.1 := by
  unfold m_p0_spec_l1Str
  exact Tot.rho (Tot.bind (below_tot h _) fun y hy => Tot.get hy.1.1 (hy.1.2.1 (by omega)) fun x hx _ => Tot.ret ⟨hx, hy.2⟩)
theorem int_tot {c : Yl1Cur} (h : CurOk c) {l : List Int} (hl : 0 < l.length) : Tot (m_p0_spec_l1Int c l) fun r => r.1 ∈ l ∧ CurOk r.2.1 := by
  unfold m_p0_spec_l1Int
  exact Tot.rho (Tot.bind (below_tot h _) fun y hy => Tot.get hy.1.1 (hy.1.2.1 (by omega)) fun x hx _ => Tot.ret ⟨hx, hy.2⟩)
/-- The places of draws. -/
def drawP : List ByteArray := [⟨#[65, 77, 83]⟩, ⟨#[66, 82, 85]⟩, ⟨#[67, 68, 71]⟩, ⟨#[68, 85, 66]⟩, ⟨#[69, 68, 73]⟩, ⟨#[70, 82, 65]⟩, ⟨#[71, 79, 84]⟩]
theorem place_tot {c : Yl1Cur} (h : CurOk c) : Tot (m_p0_spec_l1Place c) fun r => r.1 ∈ drawP ∧ CurOk r.2 := by
  unfold m_p0_spec_l1Place
  exact Tot.rho (Tot.bind (str_tot h (by simp)) fun y hy => Tot.ret ⟨hy.1, hy.2⟩)
structure LegD (l : YLeg) : Prop where
  from_ : l.from_ ∈ drawP
  to_ : l.to_ ∈ drawP
  ne : ¬ l.from_ = l.to_
  start : 0 ≤ l.start ∧ l.start ≤ 1439
  takes : 1 ≤ l.takes ∧ l.takes ≤ 4320
  days : 1 ≤ l.days ∧ l.days ≤ 127
  room : 0 ≤ l.room ∧ l.room ≤ 1000000
theorem leg_tot {c : Yl1Cur} (h : CurOk c) : Tot (m_p0_spec_l3Leg c) fun r => LegD r.1 ∧ CurOk r.2 := by
  unfold m_p0_spec_l3Leg
  refine Tot.rho (Tot.bind (place_tot h) fun y1 h1 => Tot.rho (Tot.bind (place_tot h1.2) fun y2 h2 => Tot.rho (Tot.bind (below_tot h2.2 48) fun y3 h3 => Tot.rho (Tot.bind (below_tot h3.2 40) fun y4 h4 => Tot.rho (Tot.bind (below_tot h4.2 127) fun y5 h5 => Tot.rho (Tot.bind (below_tot h5.2 60) fun y6 h6 => ?_))))))
  have b3 := h3.1.2.1 (by omega)
  have b4 := h4.1.2.1 (by omega)
  have b5 := h5.1.2.1 (by omega)
  have b6 := h6.1.2.1 (by omega)
  have hloop : Tot (iterF (m_p0_spec_l3Leg_b0 y3 y4 y5 y6) NN (y6.2.b, y6.2.i, y6.2.h, y1.1, y2.1)) fun o => CurOk ⟨o.1, o.2.1, o.2.2.1⟩ ∧ o.2.2.2.1 ∈ drawP ∧ o.2.2.2.2 ∈ drawP ∧ ¬ o.2.2.2.1 = o.2.2.2.2 := by
    refine Tot.loop (fun k s => CurOk ⟨s.1, s.2.1, s.2.2.1⟩ ∧ s.2.2.2.1 ∈ drawP ∧ s.2.2.2.2 ∈ drawP ∧ (k = 1 ∨ (k = 0 ∧ ¬ s.2.2.2.1 = s.2.2.2.2))) (fun k s hs => ?_) NN 1 _ ⟨h6.2, h1.1, h2.1, .inl rfl⟩ (by unfold NN; omega)
    obtain ⟨k1, k2, k3, k4⟩ := hs
    unfold m_p0_spec_l3Leg_b0
    refine Tot.cond (fun hc => ?_) fun hc => Tot.ret ⟨k1, k2, k3, of_decide_eq_false hc⟩
    have he := of_decide_eq_true hc
    have hk : k = 1 := by rcases k4 with k4 | ⟨_, k4⟩
                          · exact k4
                          · exact absurd he k4
    subst hk
    refine Tot.rho (Tot.bind (str_tot k1 (by simp)) fun y7 h7 => ?_)
    have hy : y7.1 ∈ drawP ∧ ¬ (⟨#[68, 85, 66]⟩ : ByteArray) = y7.1 := by
      have := h7.1
      simp only [List.mem_cons, List.not_mem_nil, or_false] at this
      rcases this with e | e | e <;> rw [e] <;> exact ⟨by simp [drawP], by decide +kernel⟩
    have hdub : (⟨#[68, 85, 66]⟩ : ByteArray) ∈ drawP := by simp [drawP]
    refine Tot.cond (fun hd => Tot.ret ⟨0, by omega, h7.2, hdub, hy.1, .inr ⟨rfl, hy.2⟩⟩) fun hd => Tot.ret ⟨0, by omega, h7.2, k2, hy.1, .inr ⟨rfl, of_decide_eq_false hd⟩⟩
  refine Tot.bind hloop fun o ho => Tot.rho (Tot.bind (once_tot ho.1 2) fun y8 h8 => ?_)
  have w1 : w64 (30 * y3.1) = 30 * y3.1 := w64_in (by omega)
  have w2 : w64 (1 + y4.1) = 1 + y4.1 := w64_in (by omega)
  have w3 : w64 (30 * (1 + y4.1)) = 30 * (1 + y4.1) := w64_in (by omega)
  have w4 : w64 (1 + y5.1) = 1 + y5.1 := w64_in (by omega)
  have w5 : w64 (1000 * y6.1) = 1000 * y6.1 := w64_in (by omega)
  simp only [w1, w2, w3, w4, w5]
  have hin : ∀ x : Int, x ∈ [1, 1440, (4320 : Int)] → 1 ≤ x ∧ x ≤ 4320 := fun x hx => by
    simp only [List.mem_cons, List.not_mem_nil, or_false] at hx
    omega
  refine Tot.cond (fun hd => Tot.rho (Tot.bind (once_tot h8 9) fun y9 h9 => Tot.cond (fun he => Tot.rho (Tot.bind (int_tot h9 (by simp)) fun y10 h10 => Tot.ret ⟨⟨ho.2.1, ho.2.2.1, ho.2.2.2, by simp only; omega, hin _ h10.1, by simp only; omega, by simp only; omega⟩, h10.2⟩)) fun he => Tot.ret ⟨⟨ho.2.1, ho.2.2.1, ho.2.2.2, by simp only; omega, by simp only; omega, by simp only; omega, by simp only; omega⟩, h9⟩))
    fun hd => Tot.rho (Tot.bind (once_tot h8 9) fun y9 h9 => Tot.cond (fun he => Tot.rho (Tot.bind (int_tot h9 (by simp)) fun y10 h10 => Tot.ret ⟨⟨ho.2.1, ho.2.2.1, ho.2.2.2, by simp only; omega, hin _ h10.1, by simp only; omega, by simp only; omega⟩, h10.2⟩)) fun he => Tot.ret ⟨⟨ho.2.1, ho.2.2.1, ho.2.2.2, by simp only; omega, by simp only; omega, by simp only; omega, by simp only; omega⟩, h9⟩)
structure NetD (n : YNetwork) : Prop where
  len : 1 ≤ n.legs.length ∧ n.legs.length ≤ 14
  leg : ∀ l ∈ n.legs, LegD l
  off : n.off = [] ∨ ∃ a b : Int, n.off = [a, b] ∧ 0 ≤ a ∧ a < b ∧ b ≤ 60
  change : 0 ≤ n.change ∧ n.change ≤ 240
theorem net_tot {c : Yl1Cur} (h : CurOk c) : Tot (m_p0_spec_l3Draw c 7) fun r => NetD r.1 ∧ CurOk r.2 := by
  unfold m_p0_spec_l3Draw
  refine Tot.rho (Tot.bind (below_tot h 9) fun y1 h1 => Tot.rho (Tot.bind (below_tot h1.2 7) fun y2 h2 => ?_))
  have b1 := h1.1.2.1 (by omega)
  have b2 := h2.1.2.1 (by omega)
  have w1 : w64 (1 + y2.1) = 1 + y2.1 := w64_in (by omega)
  have hloop : Tot (iterF (m_p0_spec_l3Draw_b0 7 y1) NN (w64 (1 + y2.1), y2.2.b, y2.2.i, y2.2.h, [])) fun o => CurOk ⟨o.1, o.2.1, o.2.2.1⟩ ∧ 1 ≤ o.2.2.2.length ∧ o.2.2.2.length ≤ 14 ∧ ∀ l ∈ o.2.2.2, LegD l := by
    refine Tot.loop (fun k s => s.1 = (k : Int) ∧ k ≤ 7 ∧ CurOk ⟨s.2.1, s.2.2.1, s.2.2.2.1⟩ ∧ s.2.2.2.2.length + 2 * k ≤ 14 ∧ (k = 0 → 1 ≤ s.2.2.2.2.length) ∧ ∀ l ∈ s.2.2.2.2, LegD l) (fun k s hs => ?_) NN (1 + y2.1).toNat _ ⟨by rw [w1]; omega, by omega, h2.2, by simp only [List.length_nil]; omega, fun hk => by omega, fun l hl => by cases hl⟩ (by unfold NN; omega)
    obtain ⟨k1, k2, k3, k4, k5, k6⟩ := hs
    unfold m_p0_spec_l3Draw_b0
    refine Tot.cond (fun hc => ?_) fun hc => Tot.ret ⟨k3, k5 (by have := of_decide_eq_false hc; omega), by simp only; omega, k6⟩
    have hk := of_decide_eq_true hc
    have hw : w64 (s.1 - 1) = ((k - 1 : Nat) : Int) := by rw [w64_in (by omega)]; omega
    refine Tot.rho (Tot.bind (leg_tot k3) fun y3 h3 => Tot.chk (app_fit (by simp only [List.length_cons, List.length_nil]; omega) (by omega)) (Tot.rho (Tot.bind (once_tot h3.2 3) fun y4 h4 => ?_)))
    have hall : ∀ l ∈ s.2.2.2.2 ++ [y3.1], LegD l := fun l hl => by
      rcases List.mem_append.1 hl with hl | hl
      · exact k6 l hl
      · obtain rfl := List.mem_singleton.1 hl; exact h3.1
    have hlen : (s.2.2.2.2 ++ [y3.1]).length = s.2.2.2.2.length + 1 := by simp
    have one : Tot (some (Sum.inl (w64 (s.1 - 1), y4.2.b, y4.2.i, y4.2.h, s.2.2.2.2 ++ [y3.1])) : Option ((Int × List YB8 × Int × Int × List YLeg) ⊕ (List YB8 × Int × Int × List YLeg)))
        (LoopP (fun k s => s.1 = (k : Int) ∧ k ≤ 7 ∧ CurOk ⟨s.2.1, s.2.2.1, s.2.2.2.1⟩ ∧ s.2.2.2.2.length + 2 * k ≤ 14 ∧ (k = 0 → 1 ≤ s.2.2.2.2.length) ∧ ∀ l ∈ s.2.2.2.2, LegD l) (fun o => CurOk ⟨o.1, o.2.1, o.2.2.1⟩ ∧ 1 ≤ o.2.2.2.length ∧ o.2.2.2.length ≤ 14 ∧ ∀ l ∈ o.2.2.2, LegD l) k) := Tot.ret ⟨k - 1, by omega, hw, by omega, h4, by simp only [hlen]; omega, fun _ => by simp only [hlen]; omega, hall⟩
    refine Tot.cond (fun hd => Tot.cond (fun he => ?_) fun he => one) fun hd => one
    have hwl : w64 (((s.2.2.2.2 ++ [y3.1]).length : Int) - 1) = (s.2.2.2.2.length : Int) := by rw [hlen, w64_in (by omega)]; omega
    have hlast : getI (s.2.2.2.2 ++ [y3.1]) (s.2.2.2.2.length : Int) = some y3.1 := by rw [getI_nat, List.getElem?_append_right (Nat.le_refl _)]; simp
    rw [hwl, hlast]
    simp only [Option.bind_some]
    refine Tot.drw (Tot.rho (Tot.bind (below_tot h4 20) fun y7 h7 => Tot.chk (app_fit (by simp only [List.length_cons, List.length_nil, hlen]; omega) (by omega)) (Tot.ret ⟨k - 1, by omega, hw, by omega, h7.2, ?_, fun _ => ?_, fun l hl => ?_⟩)))
    · simp only [List.length_append, List.length_cons, List.length_nil]; omega
    · simp only [List.length_append, List.length_cons, List.length_nil]; omega
    · rcases List.mem_append.1 hl with hl | hl
      · exact hall l hl
      · obtain rfl := List.mem_singleton.1 hl
        obtain ⟨a1, a2, a3, a4, a5, a6, a7⟩ := h3.1
        have b7 := h7.1.2.1 (by omega)
        have e1 : w64 (60 * y7.1) = 60 * y7.1 := w64_in (by omega)
        have e2 : w64 (y3.1.start + 60 * y7.1) = y3.1.start + 60 * y7.1 := w64_in (by omega)
        refine ⟨a2, a1, fun e => a3 e.symm, ?_, a5, a6, a7⟩
        simp only [e1, e2]
        have g1 := Int.tmod_nonneg 1440 (show 0 ≤ y3.1.start + 60 * y7.1 by omega)
        have g2 := Int.tmod_lt_of_pos (y3.1.start + 60 * y7.1) (show (0 : Int) < 1440 by omega)
        omega
  refine Tot.bind hloop fun o ho => Tot.rho (Tot.bind (once_tot ho.1 2) fun y8 h8 => ?_)
  have w2 : w64 (15 * y1.1) = 15 * y1.1 := w64_in (by omega)
  simp only [w2]
  refine Tot.cond (fun hd => Tot.rho (Tot.bind (below_tot h8 3) fun y9 h9 => Tot.rho (Tot.bind (below_tot h9.2 4) fun y10 h10 => ?_))) fun hd => Tot.ret ⟨⟨⟨ho.2.1, ho.2.2.1⟩, ho.2.2.2, .inl rfl, by simp only; omega⟩, h8⟩
  have b9 := h9.1.2.1 (by omega)
  have b10 := h10.1.2.1 (by omega)
  have w3 : w64 (3 + y10.1) = 3 + y10.1 := w64_in (by omega)
  exact Tot.ret ⟨⟨⟨ho.2.1, ho.2.2.1⟩, ho.2.2.2, .inr ⟨_, _, rfl, by omega, by omega, by omega⟩, by simp only; omega⟩, h10.2⟩
theorem new_tot {code : List YB8} (hl : code.length ≤ 4096) (hb : ∀ x ∈ code, 0 ≤ x.v ∧ x.v ≤ 255) : Tot (m_o_spec_l1New code) CurOk := by
  unfold m_o_spec_l1New
  refine Tot.bind (P := fun _ => True) ?_ fun o _ => Tot.ret ⟨by simp, hl, hb⟩
  refine Tot.loop (fun k s => ∃ i : Nat, s.2 = (i : Int) ∧ i + k = code.length) (fun k s hs => ?_) NN code.length _ ⟨0, rfl, by omega⟩ (by unfold NN; omega)
  obtain ⟨i, hi, hk⟩ := hs
  unfold m_o_spec_l1New_b0
  rw [hi]
  refine Tot.cond (fun hc => Tot.cond (fun hd => ?_) fun hd => Tot.ret trivial) fun hc => Tot.ret trivial
  have hlt := of_decide_eq_true hc
  exact Tot.get (by omega) hlt fun x hx _ => Tot.ret ⟨k - 1, by omega, i + 1, by simp only; rw [w64_in (by omega)]; omega, by omega⟩
end Go.Proofs.YtmcdjilbkmhfoaaGreat

/- The mirror of impl_IsPlace, and that the code does just that (printed by a program of my own). -/
namespace Go.Proofs.YtmcdjilbkmhfoaaGreat
set_option maxRecDepth 10000
open Go.RowKit
set_option linter.unusedVariables false
set_option maxHeartbeats 16000000
def m_impl_IsPlace_b0 (s : ByteArray) (s0 : Int) : Option (Int ⊕ (Unit ⊕ Bool)) :=
 cond (decide (s0 < (s.size : Int)))
 ((getB s s0).bind fun y1 =>
 cond (decide (y1 < 65))
 (some (.inr (.inr false)))
 ((getB s s0).bind fun y2 =>
 cond (decide (90 < y2))
 (some (.inr (.inr false)))
 (some (.inl (w64 (s0 + 1))))))
 (some (.inr (.inl ())))
instance (s : ByteArray) : LoopE (m_impl_IsPlace_b0 s) := ⟨fun s0 => [vs s, .un, .un, vi s0, .un, .un, .un, .un, .un, .un, .un, .un, .un, .un, .un, .un, .un, .un, .un, .un, .un, .un, .un], fun s0 => []⟩
def m_impl_IsPlace (s : ByteArray) : Option Bool :=
 (iterF (m_impl_IsPlace_b0 s) NN 0).bind (selim (fun o0 =>
 some (decide ((s.size : Int) = 3))) (fun r => some r))
theorem ok_impl_IsPlace (s : ByteArray) {r : Bool} (H : m_impl_IsPlace s = some r) : CallM Tryz.prog 251 [vs s] [] (vb r) [] := by
  replace H := H0 H
  unfold m_impl_IsPlace at H
  refine callM_of Tryz.func251 rfl Tryz.ntmps251 Tryz.results251 fun Q hQ hQn => ?_
  exact wk
instance (s : ByteArray) : CT Tryz.prog (m_impl_IsPlace s) := ⟨251, [vs s], [], fun r => vb r, fun r => [], ok_impl_IsPlace s⟩
end Go.Proofs.YtmcdjilbkmhfoaaGreat

/- The mirror of spec_l1In, and that the code does just that (printed by a program of my own). -/
namespace Go.Proofs.YtmcdjilbkmhfoaaGreat
set_option maxRecDepth 10000
open Go.RowKit
set_option linter.unusedVariables false
set_option maxHeartbeats 16000000
def m_spec_l1In (x : Int) (least : Int) (most : Int) : Option Bool :=
 cond (decide (least ≤ x))
 (some (decide (x ≤ most)))
 (some false)
theorem ok_spec_l1In (x : Int) (least : Int) (most : Int) {r : Bool} (H : m_spec_l1In x least most = some r) : CallM Tryz.prog 71 [vi x, vi least, vi most] [] (vb r) [] := by
  replace H := H0 H
  unfold m_spec_l1In at H
  refine callM_of Tryz.func71 rfl Tryz.ntmps71 Tryz.results71 fun Q hQ hQn => ?_
  exact wk
instance (x : Int) (least : Int) (most : Int) : CT Tryz.prog (m_spec_l1In x least most) := ⟨71, [vi x, vi least, vi most], [], fun r => vb r, fun r => [], ok_spec_l1In x least most⟩
end Go.Proofs.YtmcdjilbkmhfoaaGreat

/- The mirror of spec_IsPlace, and that the code does just that (printed by a program of my own). -/
namespace Go.Proofs.YtmcdjilbkmhfoaaGreat
set_option maxRecDepth 10000
open Go.RowKit
set_option linter.unusedVariables false
set_option maxHeartbeats 16000000
def m_spec_IsPlace_b0 (s : ByteArray) (s0 : Int) : Option (Int ⊕ (Unit ⊕ Bool)) :=
 cond (decide (s0 < 3))
 ((getB s s0).bind fun y1 =>
 (m_spec_l1In (IntKind.i64.wrap y1) 65 90).bind fun y2 =>
 cond (!y2)
 (some (.inr (.inr false)))
 (some (.inl (w64 (s0 + 1)))))
 (some (.inr (.inl ())))
instance (s : ByteArray) : LoopE (m_spec_IsPlace_b0 s) := ⟨fun s0 => [vs s, .un, .un, vi s0, .un, .un, .un, .un, .un, .un, .un, .un, .un, .un, .un, .un, .un], fun s0 => []⟩
def m_spec_IsPlace (s : ByteArray) : Option Bool :=
 cond (!decide ((s.size : Int) = 3))
 (some false)
 ((iterF (m_spec_IsPlace_b0 s) NN 0).bind (selim (fun o0 =>
 some true) (fun r => some r)))
theorem ok_spec_IsPlace (s : ByteArray) {r : Bool} (H : m_spec_IsPlace s = some r) : CallM Tryz.prog 257 [vs s] [] (vb r) [] := by
  replace H := H0 H
  unfold m_spec_IsPlace at H
  refine callM_of Tryz.func257 rfl Tryz.ntmps257 Tryz.results257 fun Q hQ hQn => ?_
  exact wk
instance (s : ByteArray) : CT Tryz.prog (m_spec_IsPlace s) := ⟨257, [vs s], [], fun r => vb r, fun r => [], ok_spec_IsPlace s⟩
end Go.Proofs.YtmcdjilbkmhfoaaGreat

/- The mirror of impl_within, and that the code does just that (printed by a program of my own). -/
namespace Go.Proofs.YtmcdjilbkmhfoaaGreat
set_option maxRecDepth 10000
open Go.RowKit
set_option linter.unusedVariables false
set_option maxHeartbeats 16000000
def m_impl_within (n : Int) (low : Int) (high : Int) : Option Bool :=
 cond (decide (low ≤ n))
 (some (decide (n ≤ high)))
 (some false)
theorem ok_impl_within (n : Int) (low : Int) (high : Int) {r : Bool} (H : m_impl_within n low high = some r) : CallM Tryz.prog 81 [vi n, vi low, vi high] [] (vb r) [] := by
  replace H := H0 H
  unfold m_impl_within at H
  refine callM_of Tryz.func81 rfl Tryz.ntmps81 Tryz.results81 fun Q hQ hQn => ?_
  exact wk
instance (n : Int) (low : Int) (high : Int) : CT Tryz.prog (m_impl_within n low high) := ⟨81, [vi n, vi low, vi high], [], fun r => vb r, fun r => [], ok_impl_within n low high⟩
end Go.Proofs.YtmcdjilbkmhfoaaGreat

/- The two sides' functions on numbers and places answer alike. -/
namespace Go.Proofs.YtmcdjilbkmhfoaaGreat
set_option maxRecDepth 10000
open Go.RowKit
set_option linter.unusedVariables false
set_option linter.unusedSimpArgs false
theorem within_v (n l h : Int) : m_impl_within n l h = some (decide (l ≤ n) && decide (n ≤ h)) := by
  unfold m_impl_within; cases decide (l ≤ n) <;> rfl
theorem l1In_v (n l h : Int) : m_spec_l1In n l h = some (decide (l ≤ n) && decide (n ≤ h)) := by
  unfold m_spec_l1In; cases decide (l ≤ n) <;> rfl
theorem within_eq : @m_impl_within = @m_spec_l1In := by funext n l h; rw [within_v, l1In_v]
theorem getB_in {s : ByteArray} {i c : Int} (h : getB s i = some c) : 0 ≤ c ∧ c ≤ 255 := by
  unfold getB at h
  split at h
  · cases h
    unfold byteAt
    cases hb : s[i.toNat]? with
    | none => simp
    | some b =>
      have := b.toNat_lt
      simp only [Option.map_some, Option.getD_some]
      omega
  · cases h
theorem placeB_eq {s : ByteArray} (hs : s.size = 3) : m_impl_IsPlace_b0 s = m_spec_IsPlace_b0 s := by
  funext i
  unfold m_impl_IsPlace_b0 m_spec_IsPlace_b0
  rw [hs]
  cases hi : decide (i < 3) with
  | false => simp [hi]
  | true =>
    simp only [show ((3 : Nat) : Int) = 3 from rfl, hi, cond_true]
    cases hg : getB s i with
    | none => rfl
    | some y =>
      obtain ⟨h0, h1⟩ := getB_in hg
      simp only [Option.bind_some, hg]
      rw [show IntKind.i64.wrap y = y from w64_in (by omega), l1In_v]
      simp only [Option.bind_some]
      by_cases h2 : y < 65
      · simp [h2, show ¬ (65 ≤ y) by omega]
      · by_cases h3 : 90 < y
        · simp [h2, h3, show ¬ (y ≤ 90) by omega]
        · simp [h2, h3, show 65 ≤ y by omega, show y ≤ 90 by omega]
theorem getB_some {s : ByteArray} {i : Nat} (h : i < s.size) : ∃ c, getB s (i : Int) = some c := by
  unfold getB; exact ⟨_, if_pos ⟨by omega, by omega⟩⟩
/-- The loop over a place's bytes comes to an end. -/
theorem placeL_some {s : ByteArray} (hs : s.size ≤ 1152921504606846000) : ∀ (k i N : Nat), i + k = s.size → k < N → ∃ o, iterF (m_impl_IsPlace_b0 s) N (i : Int) = some o ∧ (o = .inl () ∨ o = .inr false) := by
  intro k
  induction k with
  | zero =>
    intro i N hi hk
    cases N with
    | zero => omega
    | succ N => exact ⟨.inl (), by simp [iterF, m_impl_IsPlace_b0, show ¬ ((i : Int) < s.size) by omega], .inl rfl⟩
  | succ k ih =>
    intro i N hi hk
    cases N with
    | zero => omega
    | succ N =>
      obtain ⟨c, hc⟩ := getB_some (s := s) (i := i) (by omega)
      have hw := w64_nat (i := i) (n := s.size) (by omega) (by omega)
      by_cases h2 : c < 65
      · exact ⟨.inr false, by simp [iterF, m_impl_IsPlace_b0, show (i : Int) < s.size by omega, hc, h2], .inr rfl⟩
      · by_cases h3 : 90 < c
        · exact ⟨.inr false, by simp [iterF, m_impl_IsPlace_b0, show (i : Int) < s.size by omega, hc, h2, h3], .inr rfl⟩
        · obtain ⟨o, ho, hoo⟩ := ih (i + 1) N (by omega) (by omega)
          refine ⟨o, ?_, hoo⟩
          simp only [iterF, m_impl_IsPlace_b0, decide_eq_true (show (i : Int) < s.size by omega), cond_true, hc, Option.bind_some, decide_eq_false h2, decide_eq_false h3, cond_false, hw]
          exact ho
theorem isPlace_eq {s : ByteArray} (hs : s.size ≤ 1152921504606846000) : m_impl_IsPlace s = m_spec_IsPlace s ∧ ∃ b, m_spec_IsPlace s = some b := by
  obtain ⟨o, ho, hoo⟩ := placeL_some hs s.size 0 NN (by omega) (by unfold NN; omega)
  have ho' : iterF (m_impl_IsPlace_b0 s) NN 0 = some o := ho
  by_cases h3 : s.size = 3
  · have e : m_spec_IsPlace s = (iterF (m_impl_IsPlace_b0 s) NN 0).bind (selim (fun _ => some true) (fun r => some r)) := by
      unfold m_spec_IsPlace; rw [placeB_eq h3, h3]; rfl
    have e2 : m_impl_IsPlace s = (iterF (m_impl_IsPlace_b0 s) NN 0).bind (selim (fun _ => some (decide ((s.size : Int) = 3))) (fun r => some r)) := rfl
    rw [e, e2, ho', h3]
    rcases hoo with rfl | rfl
    · exact ⟨rfl, _, rfl⟩
    · exact ⟨rfl, _, rfl⟩
  · have e : m_spec_IsPlace s = some false := by unfold m_spec_IsPlace; rw [decide_eq_false (by omega)]; rfl
    have e2 : m_impl_IsPlace s = some false := by
      unfold m_impl_IsPlace; rw [ho']
      rcases hoo with rfl | rfl
      · show some _ = some _; rw [decide_eq_false (by omega)]
      · rfl
    exact ⟨by rw [e, e2], _, e⟩
def B60 : Nat := 1152921504606846000
end Go.Proofs.YtmcdjilbkmhfoaaGreat

/- The mirror of impl_IsLeg, and that the code does just that (printed by a program of my own). -/
namespace Go.Proofs.YtmcdjilbkmhfoaaGreat
set_option maxRecDepth 10000
open Go.RowKit
set_option linter.unusedVariables false
set_option maxHeartbeats 16000000
def m_impl_IsLeg (l : YLeg) : Option Bool :=
 (m_impl_IsPlace l.from_).bind fun y1 =>
 cond y1
 ((m_impl_IsPlace l.to_).bind fun y2 =>
 cond y2
 (cond (!decide (l.from_ = l.to_))
 ((m_impl_within l.start 0 1439).bind fun y3 =>
 cond y3
 ((m_impl_within l.takes 1 4320).bind fun y4 =>
 cond y4
 ((m_impl_within l.days 1 127).bind fun y5 =>
 cond y5
 ((m_impl_within l.room 0 1000000).bind fun y6 =>
 some y6)
 (some false))
 (some false))
 (some false))
 (some false))
 (some false))
 (some false)
theorem ok_impl_IsLeg (l : YLeg) {r : Bool} (H : m_impl_IsLeg l = some r) : CallM Tryz.prog 215 [.ag (cLeg l)] [] (vb r) [] := by
  replace H := H0 H
  unfold m_impl_IsLeg at H
  refine callM_of Tryz.func215 rfl Tryz.ntmps215 Tryz.results215 fun Q hQ hQn => ?_
  exact wk
instance (l : YLeg) : CT Tryz.prog (m_impl_IsLeg l) := ⟨215, [.ag (cLeg l)], [], fun r => vb r, fun r => [], ok_impl_IsLeg l⟩
end Go.Proofs.YtmcdjilbkmhfoaaGreat

/- The mirror of impl_IsNetwork, and that the code does just that (printed by a program of my own). -/
namespace Go.Proofs.YtmcdjilbkmhfoaaGreat
set_option maxRecDepth 10000
open Go.RowKit
set_option linter.unusedVariables false
set_option maxHeartbeats 16000000
def m_impl_IsNetwork_b0 (n : YNetwork) (s0 : Int) : Option (Int ⊕ (Unit ⊕ Bool)) :=
 cond (decide (s0 < (n.legs.length : Int)))
 ((getI n.legs s0).bind fun y1 =>
 (m_impl_IsLeg y1).bind fun y2 =>
 cond (!y2)
 (some (.inr (.inr false)))
 (some (.inl (w64 (s0 + 1)))))
 (some (.inr (.inl ())))
instance (n : YNetwork) : LoopE (m_impl_IsNetwork_b0 n) := ⟨fun s0 => (.un :: .be 0 0 0 :: .un :: .un :: .un :: .un :: .un :: .un :: .sl (n.legs.map cLeg) :: vi (n.legs.length : Int) :: vi s0 :: .un :: .un :: .un :: .un :: .un :: .un :: .un :: .un :: .un :: .un :: .un :: .un :: .un :: .un :: .un :: .un :: .un :: .un :: .un :: .un :: .un :: .un :: .un :: .un :: .un :: .un :: .un :: .un :: .un :: .un :: .un :: .un :: .un :: .un :: .un :: .un :: .un :: .un :: .un :: .un :: .un :: .un :: .un :: .un :: .un :: .un :: .un :: .un :: []), fun s0 => [some ⟨35, 3, [[.sl (n.legs.map cLeg), .sl (n.off.map cInt), vi n.change]]⟩]⟩
def m_impl_IsNetwork_b1 (n : YNetwork) (s1 : Int) : Option (Int ⊕ (Unit ⊕ Bool)) :=
 cond (decide (s1 < (n.off.length : Int)))
 ((getI n.off s1).bind fun y3 =>
 (m_impl_within y3 0 60).bind fun y4 =>
 cond (!y4)
 (some (.inr (.inr false)))
 (cond (decide (0 < s1))
 ((getI n.off (w64 (s1 - 1))).bind fun y5 =>
 cond (decide (y3 ≤ y5))
 (some (.inr (.inr false)))
 (some (.inl (w64 (s1 + 1)))))
 (some (.inl (w64 (s1 + 1))))))
 (some (.inr (.inl ())))
instance (n : YNetwork) : LoopE (m_impl_IsNetwork_b1 n) := ⟨fun s1 => (.un :: .be 0 0 0 :: .un :: .un :: .un :: .un :: .un :: .un :: .un :: .un :: .un :: .un :: .un :: .un :: .un :: .un :: .un :: .un :: .un :: .sl (n.off.map cInt) :: vi (n.off.length : Int) :: vi s1 :: .un :: .un :: .un :: .un :: .un :: .un :: .un :: .un :: .un :: .un :: .un :: .un :: .un :: .un :: .un :: .un :: .un :: .un :: .un :: .un :: .un :: .un :: .un :: .un :: .un :: .un :: .un :: .un :: .un :: .un :: .un :: .un :: .un :: .un :: .un :: .un :: .un :: []), fun s1 => [some ⟨35, 3, [[.sl (n.legs.map cLeg), .sl (n.off.map cInt), vi n.change]]⟩]⟩
def m_impl_IsNetwork (n : YNetwork) : Option Bool :=
 (iterF (m_impl_IsNetwork_b0 n) NN 0).bind (selim (fun o0 =>
 (iterF (m_impl_IsNetwork_b1 n) NN 0).bind (selim (fun o1 =>
 cond (decide ((n.legs.length : Int) ≤ 20))
 (cond (decide ((n.off.length : Int) ≤ 10))
 ((m_impl_within n.change 0 240).bind fun y6 =>
 some y6)
 (some false))
 (some false)) (fun r => some r))) (fun r => some r))
theorem ok_impl_IsNetwork (n : YNetwork) {r : Bool} (H : m_impl_IsNetwork n = some r) : CallM Tryz.prog 150 [.ag (cNetwork n)] [] (vb r) [] := by
  replace H := H0 H
  unfold m_impl_IsNetwork at H
  refine callM_of Tryz.func150 rfl Tryz.ntmps150 Tryz.results150 fun Q hQ hQn => ?_
  exact wk
instance (n : YNetwork) : CT Tryz.prog (m_impl_IsNetwork n) := ⟨150, [.ag (cNetwork n)], [], fun r => vb r, fun r => [], ok_impl_IsNetwork n⟩
end Go.Proofs.YtmcdjilbkmhfoaaGreat

/- The mirror of spec_IsLeg, and that the code does just that (printed by a program of my own). -/
namespace Go.Proofs.YtmcdjilbkmhfoaaGreat
set_option maxRecDepth 10000
open Go.RowKit
set_option linter.unusedVariables false
set_option maxHeartbeats 16000000
def m_spec_IsLeg (l : YLeg) : Option Bool :=
 (m_spec_IsPlace l.from_).bind fun y1 =>
 cond y1
 ((m_spec_IsPlace l.to_).bind fun y2 =>
 cond y2
 (cond (!decide (l.from_ = l.to_))
 ((m_spec_l1In l.start 0 1439).bind fun y3 =>
 cond y3
 ((m_spec_l1In l.takes 1 4320).bind fun y4 =>
 cond y4
 ((m_spec_l1In l.days 1 127).bind fun y5 =>
 cond y5
 ((m_spec_l1In l.room 0 1000000).bind fun y6 =>
 some y6)
 (some false))
 (some false))
 (some false))
 (some false))
 (some false))
 (some false)
theorem ok_spec_IsLeg (l : YLeg) {r : Bool} (H : m_spec_IsLeg l = some r) : CallM Tryz.prog 232 [.ag (cLeg l)] [] (vb r) [] := by
  replace H := H0 H
  unfold m_spec_IsLeg at H
  refine callM_of Tryz.func232 rfl Tryz.ntmps232 Tryz.results232 fun Q hQ hQn => ?_
  exact wk
instance (l : YLeg) : CT Tryz.prog (m_spec_IsLeg l) := ⟨232, [.ag (cLeg l)], [], fun r => vb r, fun r => [], ok_spec_IsLeg l⟩
end Go.Proofs.YtmcdjilbkmhfoaaGreat

/- The mirror of spec_IsNetwork, and that the code does just that (printed by a program of my own). -/
namespace Go.Proofs.YtmcdjilbkmhfoaaGreat
set_option maxRecDepth 10000
open Go.RowKit
set_option linter.unusedVariables false
set_option maxHeartbeats 16000000
def m_spec_IsNetwork_b0 (n : YNetwork) (s0 : Int) : Option (Int ⊕ (Unit ⊕ Bool)) :=
 cond (decide (s0 < (n.legs.length : Int)))
 ((getI n.legs s0).bind fun y1 =>
 (m_spec_IsLeg y1).bind fun y2 =>
 cond (!y2)
 (some (.inr (.inr false)))
 (some (.inl (w64 (s0 + 1)))))
 (some (.inr (.inl ())))
instance (n : YNetwork) : LoopE (m_spec_IsNetwork_b0 n) := ⟨fun s0 => (.un :: .be 0 0 0 :: .un :: vi s0 :: .un :: .un :: .un :: .un :: .un :: .un :: .un :: .un :: .un :: .un :: .un :: .un :: .un :: .un :: .un :: .un :: .un :: .un :: .un :: .un :: .un :: .un :: .un :: .un :: .un :: .un :: .un :: .un :: .un :: .un :: .un :: .un :: .un :: .un :: .un :: .un :: .un :: .un :: .un :: .un :: .un :: .un :: .un :: .un :: .un :: .un :: .un :: .un :: .un :: .un :: .un :: .un :: .un :: .un :: .un :: .un :: .un :: .un :: .un :: .un :: .un :: .un :: []), fun s0 => [some ⟨35, 3, [[.sl (n.legs.map cLeg), .sl (n.off.map cInt), vi n.change]]⟩]⟩
def m_spec_IsNetwork_b1 (n : YNetwork) (s1 : Int) : Option (Int ⊕ (Unit ⊕ Bool)) :=
 cond (decide (s1 < (n.off.length : Int)))
 ((getI n.off s1).bind fun y3 =>
 (m_spec_l1In y3 0 60).bind fun y4 =>
 cond (!y4)
 (some (.inr (.inr false)))
 (cond (decide (0 < s1))
 ((getI n.off (w64 (s1 - 1))).bind fun y5 =>
 (getI n.off s1).bind fun y6 =>
 cond (decide (y6 ≤ y5))
 (some (.inr (.inr false)))
 (some (.inl (w64 (s1 + 1)))))
 (some (.inl (w64 (s1 + 1))))))
 (some (.inr (.inl ())))
instance (n : YNetwork) : LoopE (m_spec_IsNetwork_b1 n) := ⟨fun s1 => (.un :: .be 0 0 0 :: .un :: .un :: vi s1 :: .un :: .un :: .un :: .un :: .un :: .un :: .un :: .un :: .un :: .un :: .un :: .un :: .un :: .un :: .un :: .un :: .un :: .un :: .un :: .un :: .un :: .un :: .un :: .un :: .un :: .un :: .un :: .un :: .un :: .un :: .un :: .un :: .un :: .un :: .un :: .un :: .un :: .un :: .un :: .un :: .un :: .un :: .un :: .un :: .un :: .un :: .un :: .un :: .un :: .un :: .un :: .un :: .un :: .un :: .un :: .un :: .un :: .un :: .un :: .un :: .un :: []), fun s1 => [some ⟨35, 3, [[.sl (n.legs.map cLeg), .sl (n.off.map cInt), vi n.change]]⟩]⟩
def m_spec_IsNetwork (n : YNetwork) : Option Bool :=
 (iterF (m_spec_IsNetwork_b0 n) NN 0).bind (selim (fun o0 =>
 (iterF (m_spec_IsNetwork_b1 n) NN 0).bind (selim (fun o1 =>
 cond (decide ((n.legs.length : Int) ≤ 20))
 (cond (decide ((n.off.length : Int) ≤ 10))
 ((m_spec_l1In n.change 0 240).bind fun y7 =>
 some y7)
 (some false))
 (some false)) (fun r => some r))) (fun r => some r))
theorem ok_spec_IsNetwork (n : YNetwork) {r : Bool} (H : m_spec_IsNetwork n = some r) : CallM Tryz.prog 181 [.ag (cNetwork n)] [] (vb r) [] := by
  replace H := H0 H
  unfold m_spec_IsNetwork at H
  refine callM_of Tryz.func181 rfl Tryz.ntmps181 Tryz.results181 fun Q hQ hQn => ?_
  exact wk
instance (n : YNetwork) : CT Tryz.prog (m_spec_IsNetwork n) := ⟨181, [.ag (cNetwork n)], [], fun r => vb r, fun r => [], ok_spec_IsNetwork n⟩
end Go.Proofs.YtmcdjilbkmhfoaaGreat

/- The mirror of impl_starts, and that the code does just that (printed by a program of my own). -/
namespace Go.Proofs.YtmcdjilbkmhfoaaGreat
set_option maxRecDepth 10000
open Go.RowKit
set_option linter.unusedVariables false
set_option maxHeartbeats 16000000
def m_impl_starts (n : YNetwork) (t : YTrip) : Option Int :=
 (getI n.legs t.leg).bind fun y1 =>
 some (w64 ((w64 (t.day * 1440)) + y1.start))
theorem ok_impl_starts (n : YNetwork) (t : YTrip) {r : Int} (H : m_impl_starts n t = some r) : CallM Tryz.prog 125 [.ag (cNetwork n), .ag (cTrip t)] [] (vi r) [] := by
  replace H := H0 H
  unfold m_impl_starts at H
  refine callM_of Tryz.func125 rfl Tryz.ntmps125 Tryz.results125 fun Q hQ hQn => ?_
  exact wk
instance (n : YNetwork) (t : YTrip) : CT Tryz.prog (m_impl_starts n t) := ⟨125, [.ag (cNetwork n), .ag (cTrip t)], [], fun r => vi r, fun r => [], ok_impl_starts n t⟩
end Go.Proofs.YtmcdjilbkmhfoaaGreat

/- The mirror of impl_ends, and that the code does just that (printed by a program of my own). -/
namespace Go.Proofs.YtmcdjilbkmhfoaaGreat
set_option maxRecDepth 10000
open Go.RowKit
set_option linter.unusedVariables false
set_option maxHeartbeats 16000000
def m_impl_ends (n : YNetwork) (t : YTrip) : Option Int :=
 (m_impl_starts n t).bind fun y1 =>
 (getI n.legs t.leg).bind fun y2 =>
 some (w64 (y1 + y2.takes))
theorem ok_impl_ends (n : YNetwork) (t : YTrip) {r : Int} (H : m_impl_ends n t = some r) : CallM Tryz.prog 121 [.ag (cNetwork n), .ag (cTrip t)] [] (vi r) [] := by
  replace H := H0 H
  unfold m_impl_ends at H
  refine callM_of Tryz.func121 rfl Tryz.ntmps121 Tryz.results121 fun Q hQ hQn => ?_
  exact wk
instance (n : YNetwork) (t : YTrip) : CT Tryz.prog (m_impl_ends n t) := ⟨121, [.ag (cNetwork n), .ag (cTrip t)], [], fun r => vi r, fun r => [], ok_impl_ends n t⟩
end Go.Proofs.YtmcdjilbkmhfoaaGreat

/- The mirror of spec_l3Starts, and that the code does just that (printed by a program of my own). -/
namespace Go.Proofs.YtmcdjilbkmhfoaaGreat
set_option maxRecDepth 10000
open Go.RowKit
set_option linter.unusedVariables false
set_option maxHeartbeats 16000000
def m_spec_l3Starts (n : YNetwork) (t : YTrip) : Option Int :=
 (getI n.legs t.leg).bind fun y1 =>
 some (w64 ((w64 (t.day * 1440)) + y1.start))
theorem ok_spec_l3Starts (n : YNetwork) (t : YTrip) {r : Int} (H : m_spec_l3Starts n t = some r) : CallM Tryz.prog 119 [.ag (cNetwork n), .ag (cTrip t)] [] (vi r) [] := by
  replace H := H0 H
  unfold m_spec_l3Starts at H
  refine callM_of Tryz.func119 rfl Tryz.ntmps119 Tryz.results119 fun Q hQ hQn => ?_
  exact wk
instance (n : YNetwork) (t : YTrip) : CT Tryz.prog (m_spec_l3Starts n t) := ⟨119, [.ag (cNetwork n), .ag (cTrip t)], [], fun r => vi r, fun r => [], ok_spec_l3Starts n t⟩
end Go.Proofs.YtmcdjilbkmhfoaaGreat

/- The mirror of spec_l3Ends, and that the code does just that (printed by a program of my own). -/
namespace Go.Proofs.YtmcdjilbkmhfoaaGreat
set_option maxRecDepth 10000
open Go.RowKit
set_option linter.unusedVariables false
set_option maxHeartbeats 16000000
def m_spec_l3Ends (n : YNetwork) (t : YTrip) : Option Int :=
 (m_spec_l3Starts n t).bind fun y1 =>
 (getI n.legs t.leg).bind fun y2 =>
 some (w64 (y1 + y2.takes))
theorem ok_spec_l3Ends (n : YNetwork) (t : YTrip) {r : Int} (H : m_spec_l3Ends n t = some r) : CallM Tryz.prog 164 [.ag (cNetwork n), .ag (cTrip t)] [] (vi r) [] := by
  replace H := H0 H
  unfold m_spec_l3Ends at H
  refine callM_of Tryz.func164 rfl Tryz.ntmps164 Tryz.results164 fun Q hQ hQn => ?_
  exact wk
instance (n : YNetwork) (t : YTrip) : CT Tryz.prog (m_spec_l3Ends n t) := ⟨164, [.ag (cNetwork n), .ag (cTrip t)], [], fun r => vi r, fun r => [], ok_spec_l3Ends n t⟩
end Go.Proofs.YtmcdjilbkmhfoaaGreat

/- The two sides' functions on places, legs and networks answer alike. -/
namespace Go.Proofs.YtmcdjilbkmhfoaaGreat
set_option maxRecDepth 10000
open Go.RowKit
set_option linter.unusedVariables false
set_option linter.unusedSimpArgs false
theorem starts_eq : @m_impl_starts = @m_spec_l3Starts := rfl
theorem ends_eq : @m_impl_ends = @m_spec_l3Ends := rfl
def legFit (l : YLeg) : Prop := l.from_.size ≤ B60 ∧ l.to_.size ≤ B60
theorem isLeg_eq {l : YLeg} (h : legFit l) : m_impl_IsLeg l = m_spec_IsLeg l ∧ ∃ b, m_spec_IsLeg l = some b := by
  obtain ⟨e1, b1, s1⟩ := isPlace_eq (s := l.from_) h.1
  obtain ⟨e2, b2, s2⟩ := isPlace_eq (s := l.to_) h.2
  constructor
  · unfold m_impl_IsLeg m_spec_IsLeg; rw [e1, e2, within_eq]
  · unfold m_spec_IsLeg
    rw [s1, s2]
    simp only [Option.bind_some, l1In_v]
    cases b1 <;> cases b2 <;> cases (decide (l.from_ = l.to_)) <;> cases (decide (0 ≤ l.start) && decide (l.start ≤ 1439)) <;> cases (decide (1 ≤ l.takes) && decide (l.takes ≤ 4320)) <;> cases (decide (1 ≤ l.days) && decide (l.days ≤ 127)) <;> exact ⟨_, rfl⟩
structure NetFit (n : YNetwork) : Prop where
  legs : n.legs.length ≤ 1048576
  off : n.off.length ≤ 1048576
  leg : ∀ l ∈ n.legs, legFit l
theorem getI_mem {α : Type} {xs : List α} {i : Int} {x : α} (h : getI xs i = some x) : x ∈ xs := List.mem_of_getElem? (getI_some h).2
theorem netB0_eq {n : YNetwork} (h : NetFit n) : m_impl_IsNetwork_b0 n = m_spec_IsNetwork_b0 n := by
  funext i
  unfold m_impl_IsNetwork_b0 m_spec_IsNetwork_b0
  cases hg : getI n.legs i with
  | none => rfl
  | some y => simp only [Option.bind_some, (isLeg_eq (h.leg y (getI_mem hg))).1]
theorem netB1_eq {n : YNetwork} : m_impl_IsNetwork_b1 n = m_spec_IsNetwork_b1 n := by
  funext i
  unfold m_impl_IsNetwork_b1 m_spec_IsNetwork_b1
  rw [within_eq]
  cases hg : getI n.off i with
  | none => rfl
  | some y => simp only [Option.bind_some]
theorem netL0 {n : YNetwork} (h : NetFit n) : ∃ o, iterF (m_spec_IsNetwork_b0 n) NN 0 = some o := by
  refine iter_idx (n := n.legs.length) (by have := h.legs; unfold NN; omega) (fun i hi => ?_) ⟨_, by simp [m_spec_IsNetwork_b0]; rfl⟩
  have hw := w64_nat hi (by have := h.legs; omega)
  have hg : getI n.legs (i : Int) = some n.legs[i] := by rw [getI_nat]; exact List.getElem?_eq_getElem hi
  obtain ⟨b, hb⟩ := (isLeg_eq (h.leg _ (List.getElem_mem hi))).2
  cases b with
  | true => exact st_go (by simp only [m_spec_IsNetwork_b0, decide_eq_true (show (i : Int) < n.legs.length by omega), cond_true, hg, Option.bind_some, hb, hw, Bool.not_true, cond_false])
  | false => exact st_out (by simp only [m_spec_IsNetwork_b0, decide_eq_true (show (i : Int) < n.legs.length by omega), cond_true, hg, Option.bind_some, hb, Bool.not_false, cond_true]; rfl)
theorem netL1 {n : YNetwork} (h : NetFit n) : ∃ o, iterF (m_spec_IsNetwork_b1 n) NN 0 = some o := by
  refine iter_idx (n := n.off.length) (by have := h.off; unfold NN; omega) (fun i hi => ?_) ⟨_, by simp [m_spec_IsNetwork_b1]; rfl⟩
  have hw := w64_nat hi (by have := h.off; omega)
  have hg : getI n.off (i : Int) = some n.off[i] := by rw [getI_nat]; exact List.getElem?_eq_getElem hi
  have hd := decide_eq_true (show (i : Int) < n.off.length by omega)
  cases hb : decide (0 ≤ n.off[i]) && decide (n.off[i] ≤ 60) with
  | false => exact st_out (by simp only [m_spec_IsNetwork_b1, hd, cond_true, hg, Option.bind_some, l1In_v, hb, Bool.not_false]; rfl)
  | true =>
    by_cases h0 : 0 < (i : Int)
    · have hw2 : w64 ((i : Int) - 1) = ((i - 1 : Nat) : Int) := by rw [w64_in (by have := h.off; omega)]; omega
      have hg2 : getI n.off ((i - 1 : Nat) : Int) = some n.off[i - 1] := by rw [getI_nat]; exact List.getElem?_eq_getElem (by omega)
      cases hc : decide (n.off[i] ≤ n.off[i - 1]) with
      | true => exact st_out (by simp only [m_spec_IsNetwork_b1, hd, cond_true, hg, Option.bind_some, l1In_v, hb, Bool.not_true, cond_false, decide_eq_true h0, hw2, hg2, hc]; rfl)
      | false => exact st_go (by simp only [m_spec_IsNetwork_b1, hd, cond_true, hg, Option.bind_some, l1In_v, hb, Bool.not_true, cond_false, decide_eq_true h0, hw2, hg2, hc, hw])
    · exact st_go (by simp only [m_spec_IsNetwork_b1, hd, cond_true, hg, Option.bind_some, l1In_v, hb, Bool.not_true, cond_false, decide_eq_false h0, hw])
theorem isNetwork_eq {n : YNetwork} (h : NetFit n) : m_impl_IsNetwork n = m_spec_IsNetwork n ∧ ∃ b, m_spec_IsNetwork n = some b := by
  constructor
  · unfold m_impl_IsNetwork m_spec_IsNetwork; rw [netB0_eq h, netB1_eq, within_eq]
  · obtain ⟨o0, h0⟩ := netL0 h
    obtain ⟨o1, h1⟩ := netL1 h
    unfold m_spec_IsNetwork
    rw [h0, h1]
    simp only [Option.bind_some, l1In_v]
    rcases o0 with o0 | o0
    · rcases o1 with o1 | o1
      · simp only [selim]
        cases decide ((n.legs.length : Int) ≤ 20) <;> cases decide ((n.off.length : Int) ≤ 10) <;> exact ⟨_, rfl⟩
      · exact ⟨_, rfl⟩
    · exact ⟨_, rfl⟩
end Go.Proofs.YtmcdjilbkmhfoaaGreat

/- The mirror of impl_runs, and that the code does just that (printed by a program of my own). -/
namespace Go.Proofs.YtmcdjilbkmhfoaaGreat
set_option maxRecDepth 10000
open Go.RowKit
set_option linter.unusedVariables false
set_option maxHeartbeats 16000000
def m_impl_runs_b0 (n : YNetwork) (day : Int) (s0 : Int) : Option (Int ⊕ (Unit ⊕ Bool)) :=
 cond (decide (s0 < (n.off.length : Int)))
 ((getI n.off s0).bind fun y3 =>
 cond (decide (y3 = day))
 (some (.inr (.inr false)))
 (some (.inl (w64 (s0 + 1)))))
 (some (.inr (.inl ())))
instance (n : YNetwork) (day : Int) : LoopE (m_impl_runs_b0 n day) := ⟨fun s0 => [.un, .un, vi day, .un, .un, .un, .un, .un, .un, .un, .un, .un, .un, .un, .un, .un, .un, .un, .un, .un, .un, .un, .un, .un, .un, .un, .un, .un, .un, .un, .un, .un, .un, .un, .un, .un, .un, .sl (n.off.map cInt), vi (n.off.length : Int), vi s0, .un, .un, .un, .un, .un, .un, .un], fun s0 => []⟩
def m_impl_runs (n : YNetwork) (leg : Int) (day : Int) : Option Bool :=
 cond (decide (leg < 0))
 (some false)
 (cond (decide ((n.legs.length : Int) ≤ leg))
 (some false)
 ((m_impl_within day 0 60).bind fun y1 =>
 cond (!y1)
 (some false)
 ((getI n.legs leg).bind fun y2 =>
 (chk (decide (0 ≤ (Int.tmod day 7)))).bind fun _ =>
 cond (decide ((IntKind.i64.wrap (BitVec.ofInt IntKind.i64.bits (Int.fdiv y2.days (2 ^ (min (Int.toNat (Int.tmod day 7)) IntKind.i64.bits))) &&& BitVec.ofInt IntKind.i64.bits 1).toNat) = 0))
 (some false)
 ((iterF (m_impl_runs_b0 n day) NN 0).bind (selim (fun o0 =>
 some true) (fun r => some r))))))
theorem ok_impl_runs (n : YNetwork) (leg : Int) (day : Int) {r : Bool} (H : m_impl_runs n leg day = some r) : CallM Tryz.prog 157 [.ag (cNetwork n), vi leg, vi day] [] (vb r) [] := by
  replace H := H0 H
  unfold m_impl_runs at H
  refine callM_of Tryz.func157 rfl Tryz.ntmps157 Tryz.results157 fun Q hQ hQn => ?_
  exact wk
instance (n : YNetwork) (leg : Int) (day : Int) : CT Tryz.prog (m_impl_runs n leg day) := ⟨157, [.ag (cNetwork n), vi leg, vi day], [], fun r => vb r, fun r => [], ok_impl_runs n leg day⟩
end Go.Proofs.YtmcdjilbkmhfoaaGreat

/- The mirror of impl_RunsOn, and that the code does just that (printed by a program of my own). -/
namespace Go.Proofs.YtmcdjilbkmhfoaaGreat
set_option maxRecDepth 10000
open Go.RowKit
set_option linter.unusedVariables false
set_option maxHeartbeats 16000000
def m_impl_RunsOn (n : YNetwork) (leg : Int) (day : Int) : Option Bool :=
 (m_impl_IsNetwork n).bind fun y1 =>
 cond y1
 ((m_impl_runs n leg day).bind fun y2 =>
 some y2)
 (some false)
theorem ok_impl_RunsOn (n : YNetwork) (leg : Int) (day : Int) {r : Bool} (H : m_impl_RunsOn n leg day = some r) : CallM Tryz.prog 193 [.ag (cNetwork n), vi leg, vi day] [] (vb r) [] := by
  replace H := H0 H
  unfold m_impl_RunsOn at H
  refine callM_of Tryz.func193 rfl Tryz.ntmps193 Tryz.results193 fun Q hQ hQn => ?_
  exact wk
instance (n : YNetwork) (leg : Int) (day : Int) : CT Tryz.prog (m_impl_RunsOn n leg day) := ⟨193, [.ag (cNetwork n), vi leg, vi day], [], fun r => vb r, fun r => [], ok_impl_RunsOn n leg day⟩
end Go.Proofs.YtmcdjilbkmhfoaaGreat

/- The mirror of impl_IsTrip, and that the code does just that (printed by a program of my own). -/
namespace Go.Proofs.YtmcdjilbkmhfoaaGreat
set_option maxRecDepth 10000
open Go.RowKit
set_option linter.unusedVariables false
set_option maxHeartbeats 16000000
def m_impl_IsTrip (n : YNetwork) (t : YTrip) : Option Bool :=
 (m_impl_RunsOn n t.leg t.day).bind fun y1 =>
 some y1
theorem ok_impl_IsTrip (n : YNetwork) (t : YTrip) {r : Bool} (H : m_impl_IsTrip n t = some r) : CallM Tryz.prog 124 [.ag (cNetwork n), .ag (cTrip t)] [] (vb r) [] := by
  replace H := H0 H
  unfold m_impl_IsTrip at H
  refine callM_of Tryz.func124 rfl Tryz.ntmps124 Tryz.results124 fun Q hQ hQn => ?_
  exact wk
instance (n : YNetwork) (t : YTrip) : CT Tryz.prog (m_impl_IsTrip n t) := ⟨124, [.ag (cNetwork n), .ag (cTrip t)], [], fun r => vb r, fun r => [], ok_impl_IsTrip n t⟩
end Go.Proofs.YtmcdjilbkmhfoaaGreat

/- The mirror of spec_l1Has, and that the code does just that (printed by a program of my own). -/
namespace Go.Proofs.YtmcdjilbkmhfoaaGreat
set_option maxRecDepth 10000
open Go.RowKit
set_option linter.unusedVariables false
set_option maxHeartbeats 16000000
def m_spec_l1Has_b0 (l : List Int) (x : Int) (s0 : Int) : Option (Int ⊕ (Unit ⊕ Bool)) :=
 cond (decide (s0 < (l.length : Int)))
 ((getI l s0).bind fun y1 =>
 cond (decide (y1 = x))
 (some (.inr (.inr true)))
 (some (.inl (w64 (s0 + 1)))))
 (some (.inr (.inl ())))
instance (l : List Int) (x : Int) : LoopE (m_spec_l1Has_b0 l x) := ⟨fun s0 => [.sl (l.map cInt), vi x, .un, .un, .un, vi s0, .un, .un, .un, .un, .un, .un, .un, .un, .un, .un, .un, .un], fun s0 => []⟩
def m_spec_l1Has (l : List Int) (x : Int) : Option Bool :=
 (iterF (m_spec_l1Has_b0 l x) NN 0).bind (selim (fun o0 =>
 some false) (fun r => some r))
theorem ok_spec_l1Has (l : List Int) (x : Int) {r : Bool} (H : m_spec_l1Has l x = some r) : CallM Tryz.prog 184 [.sl (l.map cInt), vi x] [] (vb r) [] := by
  replace H := H0 H
  unfold m_spec_l1Has at H
  refine callM_of Tryz.func184 rfl Tryz.ntmps184 Tryz.results184 fun Q hQ hQn => ?_
  exact wk
instance (l : List Int) (x : Int) : CT Tryz.prog (m_spec_l1Has l x) := ⟨184, [.sl (l.map cInt), vi x], [], fun r => vb r, fun r => [], ok_spec_l1Has l x⟩
end Go.Proofs.YtmcdjilbkmhfoaaGreat

/- The mirror of spec_l3Runs, and that the code does just that (printed by a program of my own). -/
namespace Go.Proofs.YtmcdjilbkmhfoaaGreat
set_option maxRecDepth 10000
open Go.RowKit
set_option linter.unusedVariables false
set_option maxHeartbeats 16000000
def m_spec_l3Runs (n : YNetwork) (leg : Int) (day : Int) : Option Bool :=
 (m_spec_l1In leg 0 (w64 ((n.legs.length : Int) - 1))).bind fun y1 =>
 cond y1
 ((m_spec_l1In day 0 60).bind fun y2 =>
 cond y2
 ((getI n.legs leg).bind fun y3 =>
 (chk (decide (0 ≤ (Int.tmod day 7)))).bind fun _ =>
 cond (decide ((IntKind.i64.wrap (BitVec.ofInt IntKind.i64.bits (Int.fdiv y3.days (2 ^ (min (Int.toNat (Int.tmod day 7)) IntKind.i64.bits))) &&& BitVec.ofInt IntKind.i64.bits 1).toNat) = 1))
 ((m_spec_l1Has n.off day).bind fun y4 =>
 some (!y4))
 (some false))
 (some false))
 (some false)
theorem ok_spec_l3Runs (n : YNetwork) (leg : Int) (day : Int) {r : Bool} (H : m_spec_l3Runs n leg day = some r) : CallM Tryz.prog 108 [.ag (cNetwork n), vi leg, vi day] [] (vb r) [] := by
  replace H := H0 H
  unfold m_spec_l3Runs at H
  refine callM_of Tryz.func108 rfl Tryz.ntmps108 Tryz.results108 fun Q hQ hQn => ?_
  exact wk
instance (n : YNetwork) (leg : Int) (day : Int) : CT Tryz.prog (m_spec_l3Runs n leg day) := ⟨108, [.ag (cNetwork n), vi leg, vi day], [], fun r => vb r, fun r => [], ok_spec_l3Runs n leg day⟩
end Go.Proofs.YtmcdjilbkmhfoaaGreat

/- The mirror of spec_RunsOn, and that the code does just that (printed by a program of my own). -/
namespace Go.Proofs.YtmcdjilbkmhfoaaGreat
set_option maxRecDepth 10000
open Go.RowKit
set_option linter.unusedVariables false
set_option maxHeartbeats 16000000
def m_spec_RunsOn (n : YNetwork) (leg : Int) (day : Int) : Option Bool :=
 (m_spec_IsNetwork n).bind fun y1 =>
 cond y1
 ((m_spec_l3Runs n leg day).bind fun y2 =>
 some y2)
 (some false)
theorem ok_spec_RunsOn (n : YNetwork) (leg : Int) (day : Int) {r : Bool} (H : m_spec_RunsOn n leg day = some r) : CallM Tryz.prog 118 [.ag (cNetwork n), vi leg, vi day] [] (vb r) [] := by
  replace H := H0 H
  unfold m_spec_RunsOn at H
  refine callM_of Tryz.func118 rfl Tryz.ntmps118 Tryz.results118 fun Q hQ hQn => ?_
  exact wk
instance (n : YNetwork) (leg : Int) (day : Int) : CT Tryz.prog (m_spec_RunsOn n leg day) := ⟨118, [.ag (cNetwork n), vi leg, vi day], [], fun r => vb r, fun r => [], ok_spec_RunsOn n leg day⟩
end Go.Proofs.YtmcdjilbkmhfoaaGreat

/- The mirror of spec_IsTrip, and that the code does just that (printed by a program of my own). -/
namespace Go.Proofs.YtmcdjilbkmhfoaaGreat
set_option maxRecDepth 10000
open Go.RowKit
set_option linter.unusedVariables false
set_option maxHeartbeats 16000000
def m_spec_IsTrip (n : YNetwork) (t : YTrip) : Option Bool :=
 (m_spec_RunsOn n t.leg t.day).bind fun y1 =>
 some y1
theorem ok_spec_IsTrip (n : YNetwork) (t : YTrip) {r : Bool} (H : m_spec_IsTrip n t = some r) : CallM Tryz.prog 31 [.ag (cNetwork n), .ag (cTrip t)] [] (vb r) [] := by
  replace H := H0 H
  unfold m_spec_IsTrip at H
  refine callM_of Tryz.func31 rfl Tryz.ntmps31 Tryz.results31 fun Q hQ hQn => ?_
  exact wk
instance (n : YNetwork) (t : YTrip) : CT Tryz.prog (m_spec_IsTrip n t) := ⟨31, [.ag (cNetwork n), .ag (cTrip t)], [], fun r => vb r, fun r => [], ok_spec_IsTrip n t⟩
end Go.Proofs.YtmcdjilbkmhfoaaGreat

/- The mirror of impl_hasTrip, and that the code does just that (printed by a program of my own). -/
namespace Go.Proofs.YtmcdjilbkmhfoaaGreat
set_option maxRecDepth 10000
open Go.RowKit
set_option linter.unusedVariables false
set_option maxHeartbeats 16000000
def m_impl_hasTrip_b0 (l : List YTrip) (t : YTrip) (s0 : Int) : Option (Int ⊕ (Unit ⊕ Bool)) :=
 cond (decide (s0 < (l.length : Int)))
 ((getI l s0).bind fun y1 =>
 cond (decide (y1 = t))
 (some (.inr (.inr true)))
 (some (.inl (w64 (s0 + 1)))))
 (some (.inr (.inl ())))
instance (l : List YTrip) (t : YTrip) : LoopE (m_impl_hasTrip_b0 l t) := ⟨fun s0 => [.un, .un, .un, .be 0 0 0, .un, .un, .un, .sl (l.map cTrip), vi (l.length : Int), vi s0, .un, .un, .un, .un, .un, .un, .un], fun s0 => [some ⟨55, 2, [[vi t.leg, vi t.day]]⟩]⟩
def m_impl_hasTrip (l : List YTrip) (t : YTrip) : Option Bool :=
 (iterF (m_impl_hasTrip_b0 l t) NN 0).bind (selim (fun o0 =>
 some false) (fun r => some r))
theorem ok_impl_hasTrip (l : List YTrip) (t : YTrip) {r : Bool} (H : m_impl_hasTrip l t = some r) : CallM Tryz.prog 126 [.sl (l.map cTrip), .ag (cTrip t)] [] (vb r) [] := by
  replace H := H0 H
  unfold m_impl_hasTrip at H
  refine callM_of Tryz.func126 rfl Tryz.ntmps126 Tryz.results126 fun Q hQ hQn => ?_
  exact wk
instance (l : List YTrip) (t : YTrip) : CT Tryz.prog (m_impl_hasTrip l t) := ⟨126, [.sl (l.map cTrip), .ag (cTrip t)], [], fun r => vb r, fun r => [], ok_impl_hasTrip l t⟩
end Go.Proofs.YtmcdjilbkmhfoaaGreat

/- The mirror of spec_l6Closed, and that the code does just that (printed by a program of my own). -/
namespace Go.Proofs.YtmcdjilbkmhfoaaGreat
set_option maxRecDepth 10000
open Go.RowKit
set_option linter.unusedVariables false
set_option maxHeartbeats 16000000
def m_spec_l6Closed_b0 (l : List YTrip) (t : YTrip) (s0 : Int) : Option (Int ⊕ (Unit ⊕ Bool)) :=
 cond (decide (s0 < (l.length : Int)))
 ((getI l s0).bind fun y1 =>
 cond (decide (y1 = t))
 (some (.inr (.inr true)))
 (some (.inl (w64 (s0 + 1)))))
 (some (.inr (.inl ())))
instance (l : List YTrip) (t : YTrip) : LoopE (m_spec_l6Closed_b0 l t) := ⟨fun s0 => [.sl (l.map cTrip), .un, .un, .be 0 0 0, .un, vi s0, .un, .un, .un, .un, .un, .un, .un, .un, .un, .un, .un, .un], fun s0 => [some ⟨55, 2, [[vi t.leg, vi t.day]]⟩]⟩
def m_spec_l6Closed (l : List YTrip) (t : YTrip) : Option Bool :=
 (iterF (m_spec_l6Closed_b0 l t) NN 0).bind (selim (fun o0 =>
 some false) (fun r => some r))
theorem ok_spec_l6Closed (l : List YTrip) (t : YTrip) {r : Bool} (H : m_spec_l6Closed l t = some r) : CallM Tryz.prog 109 [.sl (l.map cTrip), .ag (cTrip t)] [] (vb r) [] := by
  replace H := H0 H
  unfold m_spec_l6Closed at H
  refine callM_of Tryz.func109 rfl Tryz.ntmps109 Tryz.results109 fun Q hQ hQn => ?_
  exact wk
instance (l : List YTrip) (t : YTrip) : CT Tryz.prog (m_spec_l6Closed l t) := ⟨109, [.sl (l.map cTrip), .ag (cTrip t)], [], fun r => vb r, fun r => [], ok_spec_l6Closed l t⟩
end Go.Proofs.YtmcdjilbkmhfoaaGreat

/- The mirror of impl_LoadOf, and that the code does just that (printed by a program of my own). -/
namespace Go.Proofs.YtmcdjilbkmhfoaaGreat
set_option maxRecDepth 10000
open Go.RowKit
set_option linter.unusedVariables false
set_option maxHeartbeats 16000000
def m_impl_LoadOf_b0 (l : List YBooking) (t : YTrip) (s0 : Int × Int) : Option ((Int × Int) ⊕ Int) :=
 cond (decide (s0.2 < (l.length : Int)))
 ((getI l s0.2).bind fun y1 =>
 cond (decide (y1.trip = t))
 (some (.inl ((w64 (s0.1 + y1.weight)), (w64 (s0.2 + 1)))))
 (some (.inl (s0.1, (w64 (s0.2 + 1))))))
 (some (.inr s0.1))
instance (l : List YBooking) (t : YTrip) : LoopE (m_impl_LoadOf_b0 l t) := ⟨fun s0 => [.un, .un, .un, .be 0 0 0, .un, vi s0.1, .un, .un, .sl (l.map cBooking), vi (l.length : Int), vi s0.2, .un, .un, .un, .un, .un, .un, .un, .un, .un, .un, .un, .un, .un], fun s0 => [some ⟨55, 2, [[vi t.leg, vi t.day]]⟩]⟩
def m_impl_LoadOf (l : List YBooking) (t : YTrip) : Option Int :=
 (iterF (m_impl_LoadOf_b0 l t) NN (0, 0)).bind (fun o0 =>
 some o0)
theorem ok_impl_LoadOf (l : List YBooking) (t : YTrip) {r : Int} (H : m_impl_LoadOf l t = some r) : CallM Tryz.prog 36 [.sl (l.map cBooking), .ag (cTrip t)] [] (vi r) [] := by
  replace H := H0 H
  unfold m_impl_LoadOf at H
  refine callM_of Tryz.func36 rfl Tryz.ntmps36 Tryz.results36 fun Q hQ hQn => ?_
  exact wk
instance (l : List YBooking) (t : YTrip) : CT Tryz.prog (m_impl_LoadOf l t) := ⟨36, [.sl (l.map cBooking), .ag (cTrip t)], [], fun r => vi r, fun r => [], ok_impl_LoadOf l t⟩
end Go.Proofs.YtmcdjilbkmhfoaaGreat

/- The mirror of spec_LoadOf, and that the code does just that (printed by a program of my own). -/
namespace Go.Proofs.YtmcdjilbkmhfoaaGreat
set_option maxRecDepth 10000
open Go.RowKit
set_option linter.unusedVariables false
set_option maxHeartbeats 16000000
def m_spec_LoadOf_b0 (l : List YBooking) (t : YTrip) (s0 : Int × Int) : Option ((Int × Int) ⊕ Int) :=
 cond (decide (s0.2 < (l.length : Int)))
 ((getI l s0.2).bind fun y1 =>
 cond (decide (y1.trip = t))
 ((getI l s0.2).bind fun y2 =>
 some (.inl ((w64 (s0.1 + y2.weight)), (w64 (s0.2 + 1)))))
 (some (.inl (s0.1, (w64 (s0.2 + 1))))))
 (some (.inr s0.1))
instance (l : List YBooking) (t : YTrip) : LoopE (m_spec_LoadOf_b0 l t) := ⟨fun s0 => [.sl (l.map cBooking), .un, .un, .be 0 0 0, .un, vi s0.1, vi s0.2, .un, .un, .un, .un, .un, .un, .un, .un, .un, .un, .un, .un, .un, .un, .un, .un, .un, .un, .un, .un, .un], fun s0 => [some ⟨55, 2, [[vi t.leg, vi t.day]]⟩]⟩
def m_spec_LoadOf (l : List YBooking) (t : YTrip) : Option Int :=
 (iterF (m_spec_LoadOf_b0 l t) NN (0, 0)).bind (fun o0 =>
 some o0)
theorem ok_spec_LoadOf (l : List YBooking) (t : YTrip) {r : Int} (H : m_spec_LoadOf l t = some r) : CallM Tryz.prog 183 [.sl (l.map cBooking), .ag (cTrip t)] [] (vi r) [] := by
  replace H := H0 H
  unfold m_spec_LoadOf at H
  refine callM_of Tryz.func183 rfl Tryz.ntmps183 Tryz.results183 fun Q hQ hQn => ?_
  exact wk
instance (l : List YBooking) (t : YTrip) : CT Tryz.prog (m_spec_LoadOf l t) := ⟨183, [.sl (l.map cBooking), .ag (cTrip t)], [], fun r => vi r, fun r => [], ok_spec_LoadOf l t⟩
end Go.Proofs.YtmcdjilbkmhfoaaGreat

/- The two sides' functions on trips and loads answer alike. -/
namespace Go.Proofs.YtmcdjilbkmhfoaaGreat
set_option maxRecDepth 10000
open Go.RowKit
set_option linter.unusedVariables false
set_option linter.unusedSimpArgs false
theorem l1Has_v {l : List Int} (h : l.length ≤ 1048576) (x : Int) : m_spec_l1Has l x = some (l.any fun y => decide (y = x)) := by
  unfold m_spec_l1Has
  rw [iter_find (xs := l) (p := fun y => decide (y = x)) (r := .inr true) (e := .inl ()) (fun i hi => ?_) (by simp [m_spec_l1Has_b0]) (by unfold NN; omega)]
  · cases l.any fun y => decide (y = x) <;> rfl
  · have hw := w64_nat hi (by omega)
    have hg : getI l (i : Int) = some l[i] := by rw [getI_nat]; exact List.getElem?_eq_getElem hi
    simp only [m_spec_l1Has_b0, decide_eq_true (show (i : Int) < l.length by omega), cond_true, hg, Option.bind_some, hw]
    cases decide (l[i] = x) <;> rfl
theorem hasTrip_v {l : List YTrip} (h : l.length ≤ 1048576) (x : YTrip) : m_impl_hasTrip l x = some (l.any fun y => decide (y = x)) := by
  unfold m_impl_hasTrip
  rw [iter_find (xs := l) (p := fun y => decide (y = x)) (r := .inr true) (e := .inl ()) (fun i hi => ?_) (by simp [m_impl_hasTrip_b0]) (by unfold NN; omega)]
  · cases l.any fun y => decide (y = x) <;> rfl
  · have hw := w64_nat hi (by omega)
    have hg : getI l (i : Int) = some l[i] := by rw [getI_nat]; exact List.getElem?_eq_getElem hi
    simp only [m_impl_hasTrip_b0, decide_eq_true (show (i : Int) < l.length by omega), cond_true, hg, Option.bind_some, hw]
    cases decide (l[i] = x) <;> rfl
theorem l6Closed_eq : @m_spec_l6Closed = @m_impl_hasTrip := rfl
theorem impl_off_v {n : YNetwork} (h : n.off.length ≤ 1048576) (x : Int) : (iterF (m_impl_runs_b0 n x) NN 0).bind (selim (fun _ => some true) (fun r => some r)) = some (!(n.off.any fun y => decide (y = x))) := by
  rw [iter_find (xs := n.off) (p := fun y => decide (y = x)) (r := .inr false) (e := .inl ()) (fun i hi => ?_) (by simp [m_impl_runs_b0]) (by unfold NN; omega)]
  · cases n.off.any fun y => decide (y = x) <;> rfl
  · have hw := w64_nat hi (by omega)
    have hg : getI n.off (i : Int) = some n.off[i] := by rw [getI_nat]; exact List.getElem?_eq_getElem hi
    simp only [m_impl_runs_b0, decide_eq_true (show (i : Int) < n.off.length by omega), cond_true, hg, Option.bind_some, hw]
    cases decide (n.off[i] = x) <;> rfl
/-- The lowest bit. -/
def lowBit (x : Int) : Int := IntKind.i64.wrap (BitVec.ofInt IntKind.i64.bits x &&& BitVec.ofInt IntKind.i64.bits 1).toNat
theorem lowBit_01 (x : Int) : lowBit x = 0 ∨ lowBit x = 1 := by
  unfold lowBit
  have h : (BitVec.ofInt IntKind.i64.bits x &&& BitVec.ofInt IntKind.i64.bits 1).toNat ≤ 1 := by
    rw [BitVec.toNat_and]
    refine Nat.le_trans Nat.and_le_right ?_
    decide
  rw [show IntKind.i64.wrap ((BitVec.ofInt IntKind.i64.bits x &&& BitVec.ofInt IntKind.i64.bits 1).toNat : Int) = ((BitVec.ofInt IntKind.i64.bits x &&& BitVec.ofInt IntKind.i64.bits 1).toNat : Int) from w64_in (by omega)]
  omega
theorem runs_eq {n : YNetwork} (h : NetFit n) (leg day : Int) : m_impl_runs n leg day = m_spec_l3Runs n leg day ∧ ∃ b, m_spec_l3Runs n leg day = some b := by
  have hl := h.legs
  have hw : w64 ((n.legs.length : Int) - 1) = n.legs.length - 1 := w64_in (by omega)
  unfold m_impl_runs m_spec_l3Runs
  rw [within_eq, hw, l1In_v, l1In_v]
  simp only [Option.bind_some]
  by_cases h1 : leg < 0
  · simp only [decide_eq_true h1, decide_eq_false (show ¬ 0 ≤ leg by omega), cond_true, Bool.false_and, cond_false]
    exact ⟨trivial, _, rfl⟩
  by_cases h2 : (n.legs.length : Int) ≤ leg
  · simp only [decide_eq_false h1, decide_eq_true h2, decide_eq_false (show ¬ leg ≤ (n.legs.length : Int) - 1 by omega), cond_true, Bool.and_false, cond_false]
    exact ⟨trivial, _, rfl⟩
  simp only [decide_eq_false h1, decide_eq_false h2, decide_eq_true (show 0 ≤ leg by omega), decide_eq_true (show leg ≤ (n.legs.length : Int) - 1 by omega), cond_true, Bool.and_true, cond_false]
  by_cases h3 : 0 ≤ day ∧ day ≤ 60
  · simp only [decide_eq_true h3.1, decide_eq_true h3.2, Bool.and_true, Bool.not_true, cond_false, cond_true]
    have hg : getI n.legs leg = some (n.legs[leg.toNat]'(by omega)) := by
      unfold getI; rw [if_pos (by omega)]; exact List.getElem?_eq_getElem _
    rw [hg]
    simp only [Option.bind_some]
    have hm : 0 ≤ Int.tmod day 7 := Int.tmod_nonneg 7 h3.1
    rw [chk_t (decide_eq_true hm)]
    simp only [Option.bind_some]
    rw [impl_off_v h.off, l1Has_v h.off]
    generalize Int.fdiv _ _ = q
    have hb := lowBit_01 q
    unfold lowBit at hb
    rcases hb with hb | hb
    · rw [hb]; exact ⟨rfl, _, rfl⟩
    · rw [hb]; exact ⟨rfl, _, rfl⟩
  · have : (decide (0 ≤ day) && decide (day ≤ 60)) = false := by rw [← Bool.decide_and]; exact decide_eq_false h3
    rw [this]
    exact ⟨rfl, _, rfl⟩
theorem runsOn_eq {n : YNetwork} (h : NetFit n) (leg day : Int) : m_impl_RunsOn n leg day = m_spec_RunsOn n leg day ∧ ∃ b, m_spec_RunsOn n leg day = some b := by
  obtain ⟨e, b, s⟩ := isNetwork_eq h
  obtain ⟨e2, b2, s2⟩ := runs_eq h leg day
  unfold m_impl_RunsOn m_spec_RunsOn
  rw [e, e2, s, s2]
  refine ⟨rfl, ?_⟩
  cases b <;> exact ⟨_, rfl⟩
theorem isTrip_eq {n : YNetwork} (h : NetFit n) (t : YTrip) : m_impl_IsTrip n t = m_spec_IsTrip n t ∧ ∃ b, m_spec_IsTrip n t = some b := by
  obtain ⟨e, b, s⟩ := runsOn_eq h t.leg t.day
  unfold m_impl_IsTrip m_spec_IsTrip
  rw [e, s]
  exact ⟨rfl, _, rfl⟩
theorem loadOf_eq : @m_impl_LoadOf = @m_spec_LoadOf := by
  funext l t
  unfold m_impl_LoadOf m_spec_LoadOf
  have : m_impl_LoadOf_b0 l t = m_spec_LoadOf_b0 l t := by
    funext s
    unfold m_impl_LoadOf_b0 m_spec_LoadOf_b0
    cases hg : getI l s.2 with
    | none => rfl
    | some y => simp only [Option.bind_some]
  rw [this]
end Go.Proofs.YtmcdjilbkmhfoaaGreat

/- The mirror of impl_compareInts, and that the code does just that (printed by a program of my own). -/
namespace Go.Proofs.YtmcdjilbkmhfoaaGreat
set_option maxRecDepth 10000
open Go.RowKit
set_option linter.unusedVariables false
set_option maxHeartbeats 16000000
def m_impl_compareInts (a : Int) (b : Int) : Option Int :=
 cond (decide (a < b))
 (some (-1))
 (cond (decide (b < a))
 (some 1)
 (some 0))
theorem ok_impl_compareInts (a : Int) (b : Int) {r : Int} (H : m_impl_compareInts a b = some r) : CallM Tryz.prog 244 [vi a, vi b] [] (vi r) [] := by
  replace H := H0 H
  unfold m_impl_compareInts at H
  refine callM_of Tryz.func244 rfl Tryz.ntmps244 Tryz.results244 fun Q hQ hQn => ?_
  exact wk
instance (a : Int) (b : Int) : CT Tryz.prog (m_impl_compareInts a b) := ⟨244, [vi a, vi b], [], fun r => vi r, fun r => [], ok_impl_compareInts a b⟩
end Go.Proofs.YtmcdjilbkmhfoaaGreat

/- The mirror of impl_first, and that the code does just that (printed by a program of my own). -/
namespace Go.Proofs.YtmcdjilbkmhfoaaGreat
set_option maxRecDepth 10000
open Go.RowKit
set_option linter.unusedVariables false
set_option maxHeartbeats 16000000
def m_impl_first_b0 (list : List Int) (s0 : Int) : Option (Int ⊕ (Unit ⊕ Int)) :=
 cond (decide (s0 < (list.length : Int)))
 ((getI list s0).bind fun y1 =>
 cond (!decide (y1 = 0))
 (some (.inr (.inr y1)))
 (some (.inl (w64 (s0 + 1)))))
 (some (.inr (.inl ())))
instance (list : List Int) : LoopE (m_impl_first_b0 list) := ⟨fun s0 => [.un, .un, .un, .un, .un, .sl (list.map cInt), vi (list.length : Int), vi s0, .un, .un, .un, .un, .un, .un, .un], fun s0 => []⟩
def m_impl_first (list : List Int) : Option Int :=
 (iterF (m_impl_first_b0 list) NN 0).bind (selim (fun o0 =>
 some 0) (fun r => some r))
theorem ok_impl_first (list : List Int) {r : Int} (H : m_impl_first list = some r) : CallM Tryz.prog 243 [.sl (list.map cInt)] [] (vi r) [] := by
  replace H := H0 H
  unfold m_impl_first at H
  refine callM_of Tryz.func243 rfl Tryz.ntmps243 Tryz.results243 fun Q hQ hQn => ?_
  exact wk
instance (list : List Int) : CT Tryz.prog (m_impl_first list) := ⟨243, [.sl (list.map cInt)], [], fun r => vi r, fun r => [], ok_impl_first list⟩
end Go.Proofs.YtmcdjilbkmhfoaaGreat

/- The mirror of impl_compareBookings, and that the code does just that (printed by a program of my own). -/
namespace Go.Proofs.YtmcdjilbkmhfoaaGreat
set_option maxRecDepth 10000
open Go.RowKit
set_option linter.unusedVariables false
set_option maxHeartbeats 16000000
def m_impl_compareBookings (a : YBooking) (b : YBooking) : Option Int :=
 (m_impl_compareInts a.trip.day b.trip.day).bind fun y1 =>
 (m_impl_compareInts a.trip.leg b.trip.leg).bind fun y2 =>
 (m_impl_compareInts a.thing b.thing).bind fun y3 =>
 (m_impl_first ([y1, y2, y3])).bind fun y4 =>
 some y4
theorem ok_impl_compareBookings (a : YBooking) (b : YBooking) {r : Int} (H : m_impl_compareBookings a b = some r) : CallM Tryz.prog 202 [.ag (cBooking a), .ag (cBooking b)] [] (vi r) [] := by
  replace H := H0 H
  unfold m_impl_compareBookings at H
  refine callM_of Tryz.func202 rfl Tryz.ntmps202 Tryz.results202 fun Q hQ hQn => ?_
  exact wk
instance (a : YBooking) (b : YBooking) : CT Tryz.prog (m_impl_compareBookings a b) := ⟨202, [.ag (cBooking a), .ag (cBooking b)], [], fun r => vi r, fun r => [], ok_impl_compareBookings a b⟩
end Go.Proofs.YtmcdjilbkmhfoaaGreat

/- The mirror of impl_AreBookings, and that the code does just that (printed by a program of my own). -/
namespace Go.Proofs.YtmcdjilbkmhfoaaGreat
set_option maxRecDepth 10000
open Go.RowKit
set_option linter.unusedVariables false
set_option maxHeartbeats 16000000
def m_impl_AreBookings_b0 (n : YNetwork) (l : List YBooking) (s0 : Int) : Option (Int ⊕ (Unit ⊕ Bool)) :=
 cond (decide (s0 < (l.length : Int)))
 ((getI l s0).bind fun y2 =>
 cond (decide (0 < s0))
 ((getI l (w64 (s0 - 1))).bind fun y3 =>
 (m_impl_compareBookings y3 y2).bind fun y4 =>
 cond (decide (0 ≤ y4))
 (some (.inr (.inr false)))
 ((m_impl_IsTrip n y2.trip).bind fun y5 =>
 cond (!y5)
 (some (.inr (.inr false)))
 ((m_impl_within y2.thing 1 9999).bind fun y6 =>
 cond (!y6)
 (some (.inr (.inr false)))
 ((m_impl_within y2.weight 1 1000000).bind fun y7 =>
 cond (!y7)
 (some (.inr (.inr false)))
 ((m_impl_LoadOf l y2.trip).bind fun y8 =>
 (getI n.legs y2.trip.leg).bind fun y9 =>
 cond (decide (y9.room < y8))
 (some (.inr (.inr false)))
 (some (.inl (w64 (s0 + 1)))))))))
 ((m_impl_IsTrip n y2.trip).bind fun y10 =>
 cond (!y10)
 (some (.inr (.inr false)))
 ((m_impl_within y2.thing 1 9999).bind fun y11 =>
 cond (!y11)
 (some (.inr (.inr false)))
 ((m_impl_within y2.weight 1 1000000).bind fun y12 =>
 cond (!y12)
 (some (.inr (.inr false)))
 ((m_impl_LoadOf l y2.trip).bind fun y13 =>
 (getI n.legs y2.trip.leg).bind fun y14 =>
 cond (decide (y14.room < y13))
 (some (.inr (.inr false)))
 (some (.inl (w64 (s0 + 1)))))))))
 (some (.inr (.inl ())))
instance (n : YNetwork) (l : List YBooking) : LoopE (m_impl_AreBookings_b0 n l) := ⟨fun s0 => (.un :: .sl (l.map cBooking) :: .be 0 0 0 :: .un :: .un :: .un :: .un :: .un :: .un :: .un :: .un :: .un :: .un :: .un :: .un :: .sl (l.map cBooking) :: vi (l.length : Int) :: vi s0 :: .un :: .un :: .un :: .un :: .un :: .un :: .un :: .un :: .un :: .un :: .un :: .un :: .un :: .un :: .un :: .un :: .un :: .un :: .un :: .un :: .un :: .un :: .un :: .un :: .un :: .un :: .un :: .un :: .un :: .un :: .un :: .un :: .un :: .un :: .un :: .un :: .un :: .un :: .un :: .un :: .un :: .un :: .un :: .un :: .un :: .un :: .un :: .un :: .un :: .un :: .un :: []), fun s0 => [some ⟨35, 3, [[.sl (n.legs.map cLeg), .sl (n.off.map cInt), vi n.change]]⟩]⟩
def m_impl_AreBookings (n : YNetwork) (l : List YBooking) : Option Bool :=
 (m_impl_IsNetwork n).bind fun y1 =>
 cond (!y1)
 (some false)
 (cond (decide (120 < (l.length : Int)))
 (some false)
 ((iterF (m_impl_AreBookings_b0 n l) NN 0).bind (selim (fun o0 =>
 some true) (fun r => some r))))
theorem ok_impl_AreBookings (n : YNetwork) (l : List YBooking) {r : Bool} (H : m_impl_AreBookings n l = some r) : CallM Tryz.prog 139 [.ag (cNetwork n), .sl (l.map cBooking)] [] (vb r) [] := by
  replace H := H0 H
  unfold m_impl_AreBookings at H
  refine callM_of Tryz.func139 rfl Tryz.ntmps139 Tryz.results139 fun Q hQ hQn => ?_
  exact wk
instance (n : YNetwork) (l : List YBooking) : CT Tryz.prog (m_impl_AreBookings n l) := ⟨139, [.ag (cNetwork n), .sl (l.map cBooking)], [], fun r => vb r, fun r => [], ok_impl_AreBookings n l⟩
end Go.Proofs.YtmcdjilbkmhfoaaGreat

/- The mirror of spec_l6Before, and that the code does just that (printed by a program of my own). -/
namespace Go.Proofs.YtmcdjilbkmhfoaaGreat
set_option maxRecDepth 10000
open Go.RowKit
set_option linter.unusedVariables false
set_option maxHeartbeats 16000000
def m_spec_l6Before (a : YBooking) (b : YBooking) : Option Bool :=
 cond (!decide (a.trip.day = b.trip.day))
 (some (decide (a.trip.day < b.trip.day)))
 (cond (!decide (a.trip.leg = b.trip.leg))
 (some (decide (a.trip.leg < b.trip.leg)))
 (some (decide (a.thing < b.thing))))
theorem ok_spec_l6Before (a : YBooking) (b : YBooking) {r : Bool} (H : m_spec_l6Before a b = some r) : CallM Tryz.prog 182 [.ag (cBooking a), .ag (cBooking b)] [] (vb r) [] := by
  replace H := H0 H
  unfold m_spec_l6Before at H
  refine callM_of Tryz.func182 rfl Tryz.ntmps182 Tryz.results182 fun Q hQ hQn => ?_
  exact wk
instance (a : YBooking) (b : YBooking) : CT Tryz.prog (m_spec_l6Before a b) := ⟨182, [.ag (cBooking a), .ag (cBooking b)], [], fun r => vb r, fun r => [], ok_spec_l6Before a b⟩
end Go.Proofs.YtmcdjilbkmhfoaaGreat

/- The mirror of spec_AreBookings, and that the code does just that (printed by a program of my own). -/
namespace Go.Proofs.YtmcdjilbkmhfoaaGreat
set_option maxRecDepth 10000
open Go.RowKit
set_option linter.unusedVariables false
set_option maxHeartbeats 16000000
def m_spec_AreBookings_b0 (n : YNetwork) (l : List YBooking) (s0 : Int) : Option (Int ⊕ (Unit ⊕ Bool)) :=
 cond (decide (s0 < (l.length : Int)))
 ((getI l s0).bind fun y2 =>
 (m_spec_l3Runs n y2.trip.leg y2.trip.day).bind fun y3 =>
 cond (!y3)
 (some (.inr (.inr false)))
 ((m_spec_l1In y2.thing 1 9999).bind fun y4 =>
 cond (!y4)
 (some (.inr (.inr false)))
 ((m_spec_l1In y2.weight 1 1000000).bind fun y5 =>
 cond (!y5)
 (some (.inr (.inr false)))
 (cond (decide (0 < s0))
 ((getI l (w64 (s0 - 1))).bind fun y6 =>
 (m_spec_l6Before y6 y2).bind fun y7 =>
 cond (!y7)
 (some (.inr (.inr false)))
 (some (.inl (w64 (s0 + 1)))))
 (some (.inl (w64 (s0 + 1))))))))
 (some (.inr (.inl ())))
instance (n : YNetwork) (l : List YBooking) : LoopE (m_spec_AreBookings_b0 n l) := ⟨fun s0 => (.un :: .sl (l.map cBooking) :: .be 0 0 0 :: .un :: .un :: vi s0 :: .un :: .un :: .un :: .un :: .un :: .un :: .un :: .un :: .un :: .un :: .un :: .un :: .un :: .un :: .un :: .un :: .un :: .un :: .un :: .un :: .un :: .un :: .un :: .un :: .un :: .un :: .un :: .un :: .un :: .un :: .un :: .un :: .un :: .un :: .un :: .un :: .un :: .un :: .un :: .un :: .un :: .un :: .un :: .un :: .un :: .un :: .un :: .un :: .un :: .un :: .un :: .un :: .un :: .un :: .un :: .un :: .un :: .un :: .un :: .un :: .un :: .un :: .un :: .un :: .un :: .un :: .un :: .un :: .un :: .un :: .un :: .un :: .un :: .un :: .un :: .un :: .un :: .un :: .un :: .un :: []), fun s0 => [some ⟨35, 3, [[.sl (n.legs.map cLeg), .sl (n.off.map cInt), vi n.change]]⟩]⟩
def m_spec_AreBookings_b1 (n : YNetwork) (l : List YBooking) (s1 : Int) : Option (Int ⊕ (Unit ⊕ Bool)) :=
 cond (decide (s1 < (l.length : Int)))
 ((getI l s1).bind fun y8 =>
 (m_spec_LoadOf l y8.trip).bind fun y9 =>
 (getI l s1).bind fun y10 =>
 (getI n.legs y10.trip.leg).bind fun y11 =>
 cond (decide (y11.room < y9))
 (some (.inr (.inr false)))
 (some (.inl (w64 (s1 + 1)))))
 (some (.inr (.inl ())))
instance (n : YNetwork) (l : List YBooking) : LoopE (m_spec_AreBookings_b1 n l) := ⟨fun s1 => (.un :: .sl (l.map cBooking) :: .be 0 0 0 :: .un :: .un :: .un :: .un :: vi s1 :: .un :: .un :: .un :: .un :: .un :: .un :: .un :: .un :: .un :: .un :: .un :: .un :: .un :: .un :: .un :: .un :: .un :: .un :: .un :: .un :: .un :: .un :: .un :: .un :: .un :: .un :: .un :: .un :: .un :: .un :: .un :: .un :: .un :: .un :: .un :: .un :: .un :: .un :: .un :: .un :: .un :: .un :: .un :: .un :: .un :: .un :: .un :: .un :: .un :: .un :: .un :: .un :: .un :: .un :: .un :: .un :: .un :: .un :: .un :: .un :: .un :: .un :: .un :: .un :: .un :: .un :: .un :: .un :: .un :: .un :: .un :: .un :: .un :: .un :: .un :: .un :: .un :: .un :: []), fun s1 => [some ⟨35, 3, [[.sl (n.legs.map cLeg), .sl (n.off.map cInt), vi n.change]]⟩]⟩
def m_spec_AreBookings (n : YNetwork) (l : List YBooking) : Option Bool :=
 (m_spec_IsNetwork n).bind fun y1 =>
 cond (!y1)
 (some false)
 (cond (decide (120 < (l.length : Int)))
 (some false)
 ((iterF (m_spec_AreBookings_b0 n l) NN 0).bind (selim (fun o0 =>
 (iterF (m_spec_AreBookings_b1 n l) NN 0).bind (selim (fun o1 =>
 some true) (fun r => some r))) (fun r => some r))))
theorem ok_spec_AreBookings (n : YNetwork) (l : List YBooking) {r : Bool} (H : m_spec_AreBookings n l = some r) : CallM Tryz.prog 107 [.ag (cNetwork n), .sl (l.map cBooking)] [] (vb r) [] := by
  replace H := H0 H
  unfold m_spec_AreBookings at H
  refine callM_of Tryz.func107 rfl Tryz.ntmps107 Tryz.results107 fun Q hQ hQn => ?_
  exact wk
instance (n : YNetwork) (l : List YBooking) : CT Tryz.prog (m_spec_AreBookings n l) := ⟨107, [.ag (cNetwork n), .sl (l.map cBooking)], [], fun r => vb r, fun r => [], ok_spec_AreBookings n l⟩
end Go.Proofs.YtmcdjilbkmhfoaaGreat

/- The two sides' functions on bookings answer alike. -/
namespace Go.Proofs.YtmcdjilbkmhfoaaGreat
set_option maxRecDepth 10000
open Go.RowKit
set_option linter.unusedVariables false
set_option linter.unusedSimpArgs false
def cmpI (a b : Int) : Int := if a < b then -1 else if b < a then 1 else 0
theorem cmpI_v (a b : Int) : m_impl_compareInts a b = some (cmpI a b) := by
  unfold m_impl_compareInts cmpI
  by_cases h : a < b
  · simp [h]
  · by_cases h2 : b < a <;> simp [h, h2]
theorem first3 (x y z : Int) : m_impl_first [x, y, z] = some (if x ≠ 0 then x else if y ≠ 0 then y else z) := by
  obtain ⟨k, hk⟩ : ∃ k, NN = k + 1 + 1 + 1 + 1 := ⟨1152921504606846972, by unfold NN; omega⟩
  unfold m_impl_first
  rw [hk]
  have w0 : w64 1 = 1 := w64_in (by omega)
  have w1 : w64 2 = 2 := w64_in (by omega)
  have w2 : w64 3 = 3 := w64_in (by omega)
  by_cases hx : x = 0
  · by_cases hy : y = 0
    · by_cases hz : z = 0
      · simp [iterF, selim, m_impl_first_b0, getI, hx, hy, hz, w0, w1, w2]
      · simp [iterF, selim, m_impl_first_b0, getI, hx, hy, hz, w0, w1, w2]
    · simp [iterF, selim, m_impl_first_b0, getI, hx, hy, w0]
  · simp [iterF, selim, m_impl_first_b0, getI, hx]
def befB (a b : YBooking) : Bool := if a.trip.day ≠ b.trip.day then decide (a.trip.day < b.trip.day) else if a.trip.leg ≠ b.trip.leg then decide (a.trip.leg < b.trip.leg) else decide (a.thing < b.thing)
theorem before_v (a b : YBooking) : m_spec_l6Before a b = some (befB a b) := by
  unfold m_spec_l6Before befB
  by_cases h1 : a.trip.day = b.trip.day
  · by_cases h2 : a.trip.leg = b.trip.leg <;> simp [h1, h2]
  · simp [h1]
theorem compare_v (a b : YBooking) : ∃ v, m_impl_compareBookings a b = some v ∧ decide (0 ≤ v) = !befB a b := by
  unfold m_impl_compareBookings
  simp only [cmpI_v, Option.bind_some, first3]
  refine ⟨_, rfl, ?_⟩
  unfold befB cmpI
  rcases Int.lt_trichotomy a.trip.day b.trip.day with h1 | h1 | h1
  · simp [h1, show a.trip.day ≠ b.trip.day by omega]
  · rcases Int.lt_trichotomy a.trip.leg b.trip.leg with h2 | h2 | h2
    · simp [h1, h2, show a.trip.leg ≠ b.trip.leg by omega]
    · rcases Int.lt_trichotomy a.thing b.thing with h3 | h3 | h3
      · simp [h1, h2, h3]
      · simp [h1, h2, h3]
      · simp [h1, h2, h3, show ¬ a.thing < b.thing by omega]
    · simp [h1, h2, show a.trip.leg ≠ b.trip.leg by omega, show ¬ a.trip.leg < b.trip.leg by omega]
  · simp [h1, show a.trip.day ≠ b.trip.day by omega, show ¬ a.trip.day < b.trip.day by omega]
theorem loadOf_some {l : List YBooking} (h : l.length ≤ 1048576) (t : YTrip) : ∃ v, m_spec_LoadOf l t = some v := by
  have hh : ∃ o, iterF (m_spec_LoadOf_b0 l t) NN (0, 0) = some o := by
    refine iter_tot (fun k s => ∃ i : Nat, i + k = l.length ∧ s.2 = (i : Int)) ?_ NN l.length (0, 0) ⟨0, by omega, rfl⟩ (by unfold NN; omega)
    rintro k ⟨a, s⟩ ⟨i, hi, hs⟩
    simp only at hs
    subst hs
    rcases Nat.lt_or_ge i l.length with hlt | hge
    · have hw := w64_nat hlt (by omega)
      have hg : getI l (i : Int) = some l[i] := by rw [getI_nat]; exact List.getElem?_eq_getElem hlt
      cases hc : decide (l[i].trip = t) with
      | true =>
        refine ⟨_, by simp only [m_spec_LoadOf_b0, decide_eq_true (show (i : Int) < l.length by omega), cond_true, hg, Option.bind_some, hc, hw]; rfl, ?_⟩
        rintro s' e; cases e; exact ⟨k - 1, by omega, i + 1, by omega, rfl⟩
      | false =>
        refine ⟨_, by simp only [m_spec_LoadOf_b0, decide_eq_true (show (i : Int) < l.length by omega), cond_true, cond_false, hg, Option.bind_some, hc, hw]; rfl, ?_⟩
        rintro s' e; cases e; exact ⟨k - 1, by omega, i + 1, by omega, rfl⟩
    · have : i = l.length := by omega
      subst this
      refine ⟨_, by simp only [m_spec_LoadOf_b0, decide_eq_false (show ¬ ((l.length : Int) < l.length) by omega), cond_false]; rfl, ?_⟩
      rintro s' e; cases e
  obtain ⟨o, ho⟩ := hh
  exact ⟨o, by unfold m_spec_LoadOf; rw [ho]; rfl⟩
/-- A leg that runs is one. -/
theorem runs_leg {n : YNetwork} (h : NetFit n) {leg day : Int} (hr : m_spec_l3Runs n leg day = some true) : ∃ y, getI n.legs leg = some y := by
  have hl := h.legs
  have hw : w64 ((n.legs.length : Int) - 1) = n.legs.length - 1 := w64_in (by omega)
  unfold m_spec_l3Runs at hr
  rw [hw, l1In_v] at hr
  simp only [Option.bind_some] at hr
  by_cases h1 : 0 ≤ leg ∧ leg ≤ (n.legs.length : Int) - 1
  · exact ⟨n.legs[leg.toNat]'(by omega), by unfold getI; rw [if_pos h1.1]; exact List.getElem?_eq_getElem _⟩
  · rw [← Bool.decide_and, decide_eq_false h1] at hr
    cases hr
/-- What is asked of the booking at i: first half. -/
def bk1 (n : YNetwork) (l : List YBooking) (i : Nat) : Bool := match l[i]? with
  | none => true
  | some y => (m_spec_l3Runs n y.trip.leg y.trip.day).getD false && (decide (1 ≤ y.thing) && decide (y.thing ≤ 9999)) && (decide (1 ≤ y.weight) && decide (y.weight ≤ 1000000)) && (decide (i = 0) || match l[i - 1]? with
    | none => true
    | some x => befB x y)
/-- Second half: the load. -/
def bk2 (n : YNetwork) (l : List YBooking) (i : Nat) : Bool := match l[i]? with
  | none => true
  | some y => match getI n.legs y.trip.leg, m_spec_LoadOf l y.trip with
    | some g, some v => !decide (g.room < v)
    | _, _ => false
def booksV (n : YNetwork) (l : List YBooking) : Bool := (m_spec_IsNetwork n).getD false && decide ((l.length : Int) ≤ 120) && (List.range l.length).all fun i => bk1 n l i && bk2 n l i
theorem specBooks_v {n : YNetwork} (h : NetFit n) {l : List YBooking} (hl : l.length ≤ 1048576) : m_spec_AreBookings n l = some (booksV n l) := by
  obtain ⟨_, b, hb⟩ := isNetwork_eq h
  unfold m_spec_AreBookings booksV
  rw [hb]
  simp only [Option.bind_some, Option.getD_some]
  cases b with
  | false => rfl
  | true =>
    by_cases h120 : 120 < (l.length : Int)
    · simp [h120, show ¬ ((l.length : Int) ≤ 120) by omega]
    simp only [Bool.not_true, cond_false, decide_eq_false h120, decide_eq_true (show (l.length : Int) ≤ 120 by omega), Bool.true_and]
    have e0 : iterF (m_spec_AreBookings_b0 n l) NN 0 = some (if (List.range l.length).all (bk1 n l) = true then .inl () else .inr false) := by
      refine iter_check (fun i hi _ => ?_) (fun _ => by simp [m_spec_AreBookings_b0]) (by unfold NN; omega)
      have hw := w64_nat hi (by omega)
      have hg : getI l (i : Int) = some l[i] := by rw [getI_nat]; exact List.getElem?_eq_getElem hi
      obtain ⟨_, rb, hrb⟩ := runs_eq h l[i].trip.leg l[i].trip.day
      simp only [m_spec_AreBookings_b0, decide_eq_true (show (i : Int) < l.length by omega), cond_true, hg, Option.bind_some, hrb, l1In_v, bk1, List.getElem?_eq_getElem hi, Option.getD_some]
      cases rb with
      | false => simp
      | true =>
        cases decide (1 ≤ l[i].thing) && decide (l[i].thing ≤ 9999) with
        | false => simp
        | true =>
          cases decide (1 ≤ l[i].weight) && decide (l[i].weight ≤ 1000000) with
          | false => simp
          | true =>
            by_cases hi0 : i = 0
            · subst hi0
              have hw' : w64 1 = 1 := w64_in (by omega)
              simp [hw']
            · have hw2 : w64 ((i : Int) - 1) = ((i - 1 : Nat) : Int) := by rw [w64_in (by omega)]; omega
              have hg2 : getI l ((i - 1 : Nat) : Int) = some l[i - 1] := by rw [getI_nat]; exact List.getElem?_eq_getElem (by omega)
              simp only [decide_eq_true (show 0 < (i : Int) by omega), hw2, hg2, Option.bind_some, before_v, hw, List.getElem?_eq_getElem (show i - 1 < l.length by omega), decide_eq_false hi0, Bool.not_true, cond_false, cond_true, Bool.true_and, Bool.false_or]
              cases befB l[i - 1] l[i] <;> rfl
    rw [e0]
    by_cases hall : (List.range l.length).all (bk1 n l) = true
    · rw [if_pos hall]
      have e1 : iterF (m_spec_AreBookings_b1 n l) NN 0 = some (if (List.range l.length).all (bk2 n l) = true then .inl () else .inr false) := by
        refine iter_check (fun i hi _ => ?_) (fun _ => by simp [m_spec_AreBookings_b1]) (by unfold NN; omega)
        have hw := w64_nat hi (by omega)
        have hg : getI l (i : Int) = some l[i] := by rw [getI_nat]; exact List.getElem?_eq_getElem hi
        obtain ⟨v, hv⟩ := loadOf_some hl l[i].trip
        have hb1 := List.all_eq_true.1 hall i (List.mem_range.2 hi)
        obtain ⟨_, rb, hrb⟩ := runs_eq h l[i].trip.leg l[i].trip.day
        have hrt : rb = true := by
          simp only [bk1, List.getElem?_eq_getElem hi, hrb, Option.getD_some, Bool.and_eq_true] at hb1
          exact hb1.1.1.1
        subst hrt
        obtain ⟨g, hgl⟩ := runs_leg h hrb
        simp only [m_spec_AreBookings_b1, decide_eq_true (show (i : Int) < l.length by omega), cond_true, hg, Option.bind_some, hv, hgl, bk2, List.getElem?_eq_getElem hi, hw]
        cases decide (g.room < v) <;> rfl
      simp only [Option.bind_some]
      rw [e1]
      have : (List.range l.length).all (fun i => bk1 n l i && bk2 n l i) = (List.range l.length).all (bk2 n l) := by
        rw [Bool.eq_iff_iff, List.all_eq_true, List.all_eq_true]
        exact ⟨fun H i hi => by have := H i hi; simp only [Bool.and_eq_true] at this; exact this.2, fun H i hi => by rw [List.all_eq_true.1 hall i hi, H i hi]; rfl⟩
      rw [this]
      cases (List.range l.length).all (bk2 n l) <;> rfl
    · rw [if_neg hall]
      have : (List.range l.length).all (fun i => bk1 n l i && bk2 n l i) = false := by
        rw [Bool.eq_false_iff]
        intro H
        exact hall (List.all_eq_true.2 fun i hi => by have := List.all_eq_true.1 H i hi; simp only [Bool.and_eq_true] at this; exact this.1)
      rw [this]; rfl
theorem isTrip_v {n : YNetwork} (h : NetFit n) (hn : m_spec_IsNetwork n = some true) (t : YTrip) : m_impl_IsTrip n t = m_spec_l3Runs n t.leg t.day := by
  rw [(isTrip_eq h t).1]
  unfold m_spec_IsTrip m_spec_RunsOn
  rw [hn]
  obtain ⟨_, b, hb⟩ := runs_eq h t.leg t.day
  simp only [Option.bind_some, cond_true, hb]
theorem implBooks_v {n : YNetwork} (h : NetFit n) {l : List YBooking} (hl : l.length ≤ 1048576) : m_impl_AreBookings n l = some (booksV n l) := by
  obtain ⟨en, b, hb⟩ := isNetwork_eq h
  unfold m_impl_AreBookings booksV
  rw [en, hb]
  simp only [Option.bind_some, Option.getD_some]
  cases b with
  | false => rfl
  | true =>
    by_cases h120 : 120 < (l.length : Int)
    · simp [h120, show ¬ ((l.length : Int) ≤ 120) by omega]
    simp only [Bool.not_true, cond_false, decide_eq_false h120, decide_eq_true (show (l.length : Int) ≤ 120 by omega), Bool.true_and]
    have e0 : iterF (m_impl_AreBookings_b0 n l) NN 0 = some (if (List.range l.length).all (fun i => bk1 n l i && bk2 n l i) = true then .inl () else .inr false) := by
      refine iter_check (fun i hi _ => ?_) (fun _ => by simp [m_impl_AreBookings_b0]) (by unfold NN; omega)
      have hw := w64_nat hi (by omega)
      have hg : getI l (i : Int) = some l[i] := by rw [getI_nat]; exact List.getElem?_eq_getElem hi
      obtain ⟨_, rb, hrb⟩ := runs_eq h l[i].trip.leg l[i].trip.day
      have ht := isTrip_v h hb l[i].trip
      rw [hrb] at ht
      obtain ⟨v, hv⟩ := loadOf_some hl l[i].trip
      have hrest : ∀ {X : Option (Int ⊕ (Unit ⊕ Bool))} {pre : Bool}, pre = (decide (i = 0) || match l[i - 1]? with
          | none => true
          | some x => befB x l[i]) →
          X = (cond (!pre) (some (.inr (.inr false))) ((some rb).bind fun y10 => cond (!y10) (some (.inr (.inr false))) ((m_spec_l1In l[i].thing 1 9999).bind fun y11 => cond (!y11) (some (.inr (.inr false))) ((m_spec_l1In l[i].weight 1 1000000).bind fun y12 => cond (!y12) (some (.inr (.inr false))) ((some v).bind fun y13 => (getI n.legs l[i].trip.leg).bind fun y14 => cond (decide (y14.room < y13)) (some (.inr (.inr false))) (some (.inl ((i + 1 : Nat) : Int)))))))) →
          X = some (if (bk1 n l i && bk2 n l i) = true then .inl ((i + 1 : Nat) : Int) else .inr (.inr false)) := by
        rintro X pre hpre rfl
        simp only [bk1, bk2, List.getElem?_eq_getElem hi, hrb, hv, Option.getD_some, l1In_v, Option.bind_some, ← hpre]
        cases pre with
        | false => simp
        | true =>
          cases rb with
          | false => simp
          | true =>
            obtain ⟨g, hgl⟩ := runs_leg h hrb
            simp only [hgl, Option.bind_some]
            cases decide (1 ≤ l[i].thing) && decide (l[i].thing ≤ 9999) with
            | false => simp
            | true =>
              cases decide (1 ≤ l[i].weight) && decide (l[i].weight ≤ 1000000) with
              | false => simp
              | true => cases decide (g.room < v) <;> simp
      by_cases hi0 : i = 0
      · refine hrest (pre := true) (by simp [hi0]) ?_
        simp only [m_impl_AreBookings_b0, decide_eq_true (show (i : Int) < l.length by omega), decide_eq_false (show ¬ 0 < (i : Int) by omega), cond_true, cond_false, hg, Option.bind_some, ht, within_eq, loadOf_eq, hv, hw, Bool.not_true]
      · have hw2 : w64 ((i : Int) - 1) = ((i - 1 : Nat) : Int) := by rw [w64_in (by omega)]; omega
        have hg2 : getI l ((i - 1 : Nat) : Int) = some l[i - 1] := by rw [getI_nat]; exact List.getElem?_eq_getElem (by omega)
        obtain ⟨cv, hcv, hc0⟩ := compare_v l[i - 1] l[i]
        refine hrest (pre := befB l[i - 1] l[i]) (by simp [hi0, List.getElem?_eq_getElem (show i - 1 < l.length by omega)]) ?_
        simp only [m_impl_AreBookings_b0, decide_eq_true (show (i : Int) < l.length by omega), decide_eq_true (show 0 < (i : Int) by omega), cond_true, cond_false, hg, hw2, hg2, hcv, hc0, Option.bind_some, ht, within_eq, loadOf_eq, hv, hw]
    rw [e0]
    cases (List.range l.length).all (fun i => bk1 n l i && bk2 n l i) <;> rfl
theorem areBookings_eq {n : YNetwork} (h : NetFit n) {l : List YBooking} (hl : l.length ≤ 1048576) : m_impl_AreBookings n l = m_spec_AreBookings n l := by rw [implBooks_v h hl, specBooks_v h hl]
end Go.Proofs.YtmcdjilbkmhfoaaGreat

/- The mirror of impl_isState, and that the code does just that (printed by a program of my own). -/
namespace Go.Proofs.YtmcdjilbkmhfoaaGreat
set_option maxRecDepth 10000
open Go.RowKit
set_option linter.unusedVariables false
set_option maxHeartbeats 16000000
def m_impl_isState (w : YWorld) (o : YOrder) : Option Bool :=
 cond (decide (0 < o.gone))
 ((getI o.way (w64 (o.gone - 1))).bind fun y1 =>
 (m_impl_ends w.network y1).bind fun y2 =>
 cond (decide (w.now < y2))
 (some false)
 ((getI w.network.legs y1.leg).bind fun y3 =>
 cond (decide (o.state = 1))
 (cond (decide (o.place = y3.to_))
 (cond (!decide (y3.to_ = o.to_))
 (cond (decide (o.ended = 0))
 (cond (decide (o.gone = (o.way.length : Int)))
 (some true)
 ((getI o.way o.gone).bind fun y4 =>
 (m_impl_starts w.network y4).bind fun y5 =>
 some (decide (w.now < y5))))
 (some false))
 (some false))
 (some false))
 (cond (decide (o.state = 2))
 (cond (decide (o.place = ⟨#[]⟩))
 (cond (decide (o.ended = 0))
 (cond (decide (o.gone < (o.way.length : Int)))
 ((getI o.way o.gone).bind fun y6 =>
 (m_impl_starts w.network y6).bind fun y7 =>
 cond (decide (y7 ≤ w.now))
 ((getI o.way o.gone).bind fun y8 =>
 (m_impl_ends w.network y8).bind fun y9 =>
 some (decide (w.now < y9)))
 (some false))
 (some false))
 (some false))
 (some false))
 (cond (decide (o.state = 3))
 (cond (decide (o.gone = (o.way.length : Int)))
 (cond (decide (0 < o.gone))
 (cond (decide (o.place = o.to_))
 (cond (decide (y3.to_ = o.to_))
 ((getI o.way (w64 (o.gone - 1))).bind fun y10 =>
 (m_impl_ends w.network y10).bind fun y11 =>
 some (decide (o.ended = y11)))
 (some false))
 (some false))
 (some false))
 (some false))
 (some false)))))
 (cond (decide (o.state = 1))
 (cond (decide (o.place = o.from_))
 (cond (!decide (o.from_ = o.to_))
 (cond (decide (o.ended = 0))
 (cond (decide (o.gone = (o.way.length : Int)))
 (some true)
 ((getI o.way o.gone).bind fun y12 =>
 (m_impl_starts w.network y12).bind fun y13 =>
 some (decide (w.now < y13))))
 (some false))
 (some false))
 (some false))
 (cond (decide (o.state = 2))
 (cond (decide (o.place = ⟨#[]⟩))
 (cond (decide (o.ended = 0))
 (cond (decide (o.gone < (o.way.length : Int)))
 ((getI o.way o.gone).bind fun y14 =>
 (m_impl_starts w.network y14).bind fun y15 =>
 cond (decide (y15 ≤ w.now))
 ((getI o.way o.gone).bind fun y16 =>
 (m_impl_ends w.network y16).bind fun y17 =>
 some (decide (w.now < y17)))
 (some false))
 (some false))
 (some false))
 (some false))
 (cond (decide (o.state = 3))
 (cond (decide (o.gone = (o.way.length : Int)))
 (cond (decide (0 < o.gone))
 (cond (decide (o.place = o.to_))
 (cond (decide (o.from_ = o.to_))
 ((getI o.way (w64 (o.gone - 1))).bind fun y18 =>
 (m_impl_ends w.network y18).bind fun y19 =>
 some (decide (o.ended = y19)))
 (some false))
 (some false))
 (some false))
 (some false))
 (some false))))
theorem ok_impl_isState (w : YWorld) (o : YOrder) {r : Bool} (H : m_impl_isState w o = some r) : CallM Tryz.prog 209 [.ag (cWorld w), .ag (cOrder o)] [] (vb r) [] := by
  replace H := H0 H
  unfold m_impl_isState at H
  refine callM_of Tryz.func209 rfl Tryz.ntmps209 Tryz.results209 fun Q hQ hQn => ?_
  exact wk
instance (w : YWorld) (o : YOrder) : CT Tryz.prog (m_impl_isState w o) := ⟨209, [.ag (cWorld w), .ag (cOrder o)], [], fun r => vb r, fun r => [], ok_impl_isState w o⟩
end Go.Proofs.YtmcdjilbkmhfoaaGreat

/- The mirror of spec_l10State, and that the code does just that (printed by a program of my own). -/
namespace Go.Proofs.YtmcdjilbkmhfoaaGreat
set_option maxRecDepth 10000
open Go.RowKit
set_option linter.unusedVariables false
set_option maxHeartbeats 16000000
def m_spec_l10State (n : YNetwork) (x : YOrder) (now : Int) : Option Bool :=
 cond (decide (0 < x.gone))
 ((getI x.way (w64 (x.gone - 1))).bind fun y1 =>
 (getI n.legs y1.leg).bind fun y2 =>
 (getI x.way (w64 (x.gone - 1))).bind fun y3 =>
 (m_spec_l3Ends n y3).bind fun y4 =>
 cond (decide (now < y4))
 (some false)
 (cond (decide (x.state = 1))
 (cond (decide (x.place = y2.to_))
 (cond (!decide (y2.to_ = x.to_))
 (cond (decide (x.ended = 0))
 (cond (decide (x.gone = (x.way.length : Int)))
 (some true)
 ((getI x.way x.gone).bind fun y5 =>
 (m_spec_l3Starts n y5).bind fun y6 =>
 some (decide (now < y6))))
 (some false))
 (some false))
 (some false))
 (cond (decide (x.state = 2))
 (cond (decide (x.place = ⟨#[]⟩))
 (cond (decide (x.ended = 0))
 (cond (decide (x.gone < (x.way.length : Int)))
 ((getI x.way x.gone).bind fun y7 =>
 (m_spec_l3Starts n y7).bind fun y8 =>
 cond (decide (y8 ≤ now))
 ((getI x.way x.gone).bind fun y9 =>
 (m_spec_l3Ends n y9).bind fun y10 =>
 some (decide (now < y10)))
 (some false))
 (some false))
 (some false))
 (some false))
 (cond (decide (x.state = 3))
 (cond (decide (x.place = x.to_))
 (cond (decide (y2.to_ = x.to_))
 (cond (decide (x.gone = (x.way.length : Int)))
 (cond (decide (0 < x.gone))
 ((getI x.way (w64 (x.gone - 1))).bind fun y11 =>
 (m_spec_l3Ends n y11).bind fun y12 =>
 some (decide (x.ended = y12)))
 (some false))
 (some false))
 (some false))
 (some false))
 (some false)))))
 (cond (decide (x.state = 1))
 (cond (decide (x.place = x.from_))
 (cond (!decide (x.from_ = x.to_))
 (cond (decide (x.ended = 0))
 (cond (decide (x.gone = (x.way.length : Int)))
 (some true)
 ((getI x.way x.gone).bind fun y13 =>
 (m_spec_l3Starts n y13).bind fun y14 =>
 some (decide (now < y14))))
 (some false))
 (some false))
 (some false))
 (cond (decide (x.state = 2))
 (cond (decide (x.place = ⟨#[]⟩))
 (cond (decide (x.ended = 0))
 (cond (decide (x.gone < (x.way.length : Int)))
 ((getI x.way x.gone).bind fun y15 =>
 (m_spec_l3Starts n y15).bind fun y16 =>
 cond (decide (y16 ≤ now))
 ((getI x.way x.gone).bind fun y17 =>
 (m_spec_l3Ends n y17).bind fun y18 =>
 some (decide (now < y18)))
 (some false))
 (some false))
 (some false))
 (some false))
 (cond (decide (x.state = 3))
 (cond (decide (x.place = x.to_))
 (cond (decide (x.from_ = x.to_))
 (cond (decide (x.gone = (x.way.length : Int)))
 (cond (decide (0 < x.gone))
 ((getI x.way (w64 (x.gone - 1))).bind fun y19 =>
 (m_spec_l3Ends n y19).bind fun y20 =>
 some (decide (x.ended = y20)))
 (some false))
 (some false))
 (some false))
 (some false))
 (some false))))
theorem ok_spec_l10State (n : YNetwork) (x : YOrder) (now : Int) {r : Bool} (H : m_spec_l10State n x now = some r) : CallM Tryz.prog 188 [.ag (cNetwork n), .ag (cOrder x), vi now] [] (vb r) [] := by
  replace H := H0 H
  unfold m_spec_l10State at H
  refine callM_of Tryz.func188 rfl Tryz.ntmps188 Tryz.results188 fun Q hQ hQn => ?_
  exact wk
instance (n : YNetwork) (x : YOrder) (now : Int) : CT Tryz.prog (m_spec_l10State n x now) := ⟨188, [.ag (cNetwork n), .ag (cOrder x), vi now], [], fun r => vb r, fun r => [], ok_spec_l10State n x now⟩
end Go.Proofs.YtmcdjilbkmhfoaaGreat

/- The mirror of impl_toCome, and that the code does just that (printed by a program of my own). -/
namespace Go.Proofs.YtmcdjilbkmhfoaaGreat
set_option maxRecDepth 10000
open Go.RowKit
set_option linter.unusedVariables false
set_option maxHeartbeats 16000000
def m_impl_toCome (o : YOrder) : Option Int :=
 cond (decide (o.state = 2))
 (some (if (o.way.length : Int) < (w64 (o.gone + 1)) then (o.way.length : Int) else (w64 (o.gone + 1))))
 (some o.gone)
theorem ok_impl_toCome (o : YOrder) {r : Int} (H : m_impl_toCome o = some r) : CallM Tryz.prog 127 [.ag (cOrder o)] [] (vi r) [] := by
  replace H := H0 H
  unfold m_impl_toCome at H
  refine callM_of Tryz.func127 rfl Tryz.ntmps127 Tryz.results127 fun Q hQ hQn => ?_
  exact wk
instance (o : YOrder) : CT Tryz.prog (m_impl_toCome o) := ⟨127, [.ag (cOrder o)], [], fun r => vi r, fun r => [], ok_impl_toCome o⟩
end Go.Proofs.YtmcdjilbkmhfoaaGreat

/- The mirror of impl_isAt, and that the code does just that (printed by a program of my own). -/
namespace Go.Proofs.YtmcdjilbkmhfoaaGreat
set_option maxRecDepth 10000
open Go.RowKit
set_option linter.unusedVariables false
set_option maxHeartbeats 16000000
def m_impl_isAt (w : YWorld) (o : YOrder) : Option ByteArray :=
 cond (decide (o.state = 2))
 ((getI o.way o.gone).bind fun y1 =>
 (getI w.network.legs y1.leg).bind fun y2 =>
 some y2.to_)
 (some o.place)
theorem ok_impl_isAt (w : YWorld) (o : YOrder) {r : ByteArray} (H : m_impl_isAt w o = some r) : CallM Tryz.prog 189 [.ag (cWorld w), .ag (cOrder o)] [] (vs r) [] := by
  replace H := H0 H
  unfold m_impl_isAt at H
  refine callM_of Tryz.func189 rfl Tryz.ntmps189 Tryz.results189 fun Q hQ hQn => ?_
  exact wk
instance (w : YWorld) (o : YOrder) : CT Tryz.prog (m_impl_isAt w o) := ⟨189, [.ag (cWorld w), .ag (cOrder o)], [], fun r => vs r, fun r => [], ok_impl_isAt w o⟩
end Go.Proofs.YtmcdjilbkmhfoaaGreat

/- The mirror of impl_isStranded, and that the code does just that (printed by a program of my own). -/
namespace Go.Proofs.YtmcdjilbkmhfoaaGreat
set_option maxRecDepth 10000
open Go.RowKit
set_option linter.unusedVariables false
set_option maxHeartbeats 16000000
def m_impl_isStranded (w : YWorld) (o : YOrder) : Option Bool :=
 cond (!decide (o.state = 3))
 ((m_impl_toCome o).bind fun y1 =>
 cond (decide (y1 = (o.way.length : Int)))
 ((m_impl_isAt w o).bind fun y2 =>
 some (!decide (y2 = o.to_)))
 (some false))
 (some false)
theorem ok_impl_isStranded (w : YWorld) (o : YOrder) {r : Bool} (H : m_impl_isStranded w o = some r) : CallM Tryz.prog 120 [.ag (cWorld w), .ag (cOrder o)] [] (vb r) [] := by
  replace H := H0 H
  unfold m_impl_isStranded at H
  refine callM_of Tryz.func120 rfl Tryz.ntmps120 Tryz.results120 fun Q hQ hQn => ?_
  exact wk
instance (w : YWorld) (o : YOrder) : CT Tryz.prog (m_impl_isStranded w o) := ⟨120, [.ag (cWorld w), .ag (cOrder o)], [], fun r => vb r, fun r => [], ok_impl_isStranded w o⟩
end Go.Proofs.YtmcdjilbkmhfoaaGreat

/- The mirror of spec_l10Coming, and that the code does just that (printed by a program of my own). -/
namespace Go.Proofs.YtmcdjilbkmhfoaaGreat
set_option maxRecDepth 10000
open Go.RowKit
set_option linter.unusedVariables false
set_option maxHeartbeats 16000000
def m_spec_l10Coming (x : YOrder) : Option Int :=
 cond (decide (x.state = 2))
 (some (w64 (x.gone + 1)))
 (some x.gone)
theorem ok_spec_l10Coming (x : YOrder) {r : Int} (H : m_spec_l10Coming x = some r) : CallM Tryz.prog 122 [.ag (cOrder x)] [] (vi r) [] := by
  replace H := H0 H
  unfold m_spec_l10Coming at H
  refine callM_of Tryz.func122 rfl Tryz.ntmps122 Tryz.results122 fun Q hQ hQn => ?_
  exact wk
instance (x : YOrder) : CT Tryz.prog (m_spec_l10Coming x) := ⟨122, [.ag (cOrder x)], [], fun r => vi r, fun r => [], ok_spec_l10Coming x⟩
end Go.Proofs.YtmcdjilbkmhfoaaGreat

/- The mirror of spec_l10Here, and that the code does just that (printed by a program of my own). -/
namespace Go.Proofs.YtmcdjilbkmhfoaaGreat
set_option maxRecDepth 10000
open Go.RowKit
set_option linter.unusedVariables false
set_option maxHeartbeats 16000000
def m_spec_l10Here (n : YNetwork) (x : YOrder) : Option ByteArray :=
 cond (decide (x.state = 2))
 ((getI x.way x.gone).bind fun y1 =>
 (getI n.legs y1.leg).bind fun y2 =>
 some y2.to_)
 (some x.place)
theorem ok_spec_l10Here (n : YNetwork) (x : YOrder) {r : ByteArray} (H : m_spec_l10Here n x = some r) : CallM Tryz.prog 192 [.ag (cNetwork n), .ag (cOrder x)] [] (vs r) [] := by
  replace H := H0 H
  unfold m_spec_l10Here at H
  refine callM_of Tryz.func192 rfl Tryz.ntmps192 Tryz.results192 fun Q hQ hQn => ?_
  exact wk
instance (n : YNetwork) (x : YOrder) : CT Tryz.prog (m_spec_l10Here n x) := ⟨192, [.ag (cNetwork n), .ag (cOrder x)], [], fun r => vs r, fun r => [], ok_spec_l10Here n x⟩
end Go.Proofs.YtmcdjilbkmhfoaaGreat

/- The mirror of spec_l10Stranded, and that the code does just that (printed by a program of my own). -/
namespace Go.Proofs.YtmcdjilbkmhfoaaGreat
set_option maxRecDepth 10000
open Go.RowKit
set_option linter.unusedVariables false
set_option maxHeartbeats 16000000
def m_spec_l10Stranded (w : YWorld) (i : Int) : Option Bool :=
 (getI w.orders i).bind fun y1 =>
 cond (!decide (y1.state = 3))
 ((m_spec_l10Coming y1).bind fun y2 =>
 cond (decide (y2 = (y1.way.length : Int)))
 ((m_spec_l10Here w.network y1).bind fun y3 =>
 some (!decide (y3 = y1.to_)))
 (some false))
 (some false)
theorem ok_spec_l10Stranded (w : YWorld) (i : Int) {r : Bool} (H : m_spec_l10Stranded w i = some r) : CallM Tryz.prog 194 [.ag (cWorld w), vi i] [] (vb r) [] := by
  replace H := H0 H
  unfold m_spec_l10Stranded at H
  refine callM_of Tryz.func194 rfl Tryz.ntmps194 Tryz.results194 fun Q hQ hQn => ?_
  exact wk
instance (w : YWorld) (i : Int) : CT Tryz.prog (m_spec_l10Stranded w i) := ⟨194, [.ag (cWorld w), vi i], [], fun r => vb r, fun r => [], ok_spec_l10Stranded w i⟩
end Go.Proofs.YtmcdjilbkmhfoaaGreat

/- The mirror of impl_placeAt, and that the code does just that (printed by a program of my own). -/
namespace Go.Proofs.YtmcdjilbkmhfoaaGreat
set_option maxRecDepth 10000
open Go.RowKit
set_option linter.unusedVariables false
set_option maxHeartbeats 16000000
def m_impl_placeAt_b0 (places : List ByteArray) (s : ByteArray) (s0 : Int) : Option (Int ⊕ (Unit ⊕ Int)) :=
 cond (decide (s0 < (places.length : Int)))
 ((getI places s0).bind fun y1 =>
 cond (decide (y1 = s))
 (some (.inr (.inr s0)))
 (some (.inl (w64 (s0 + 1)))))
 (some (.inr (.inl ())))
instance (places : List ByteArray) (s : ByteArray) : LoopE (m_impl_placeAt_b0 places s) := ⟨fun s0 => [.un, vs s, .un, .un, .un, .un, .un, .sl (places.map cStr), vi (places.length : Int), vi s0, .un, .un, .un, .un, .un, .un, .un, .un, .un], fun s0 => []⟩
def m_impl_placeAt (places : List ByteArray) (s : ByteArray) : Option Int :=
 (iterF (m_impl_placeAt_b0 places s) NN 0).bind (selim (fun o0 =>
 some (-1)) (fun r => some r))
theorem ok_impl_placeAt (places : List ByteArray) (s : ByteArray) {r : Int} (H : m_impl_placeAt places s = some r) : CallM Tryz.prog 205 [.sl (places.map cStr), vs s] [] (vi r) [] := by
  replace H := H0 H
  unfold m_impl_placeAt at H
  refine callM_of Tryz.func205 rfl Tryz.ntmps205 Tryz.results205 fun Q hQ hQn => ?_
  exact wk
instance (places : List ByteArray) (s : ByteArray) : CT Tryz.prog (m_impl_placeAt places s) := ⟨205, [.sl (places.map cStr), vs s], [], fun r => vi r, fun r => [], ok_impl_placeAt places s⟩
end Go.Proofs.YtmcdjilbkmhfoaaGreat

/- The mirror of spec_l4Index, and that the code does just that (printed by a program of my own). -/
namespace Go.Proofs.YtmcdjilbkmhfoaaGreat
set_option maxRecDepth 10000
open Go.RowKit
set_option linter.unusedVariables false
set_option maxHeartbeats 16000000
def m_spec_l4Index_b0 (l : List ByteArray) (p : ByteArray) (s0 : Int) : Option (Int ⊕ (Unit ⊕ Int)) :=
 cond (decide (s0 < (l.length : Int)))
 ((getI l s0).bind fun y1 =>
 cond (decide (y1 = p))
 (some (.inr (.inr s0)))
 (some (.inl (w64 (s0 + 1)))))
 (some (.inr (.inl ())))
instance (l : List ByteArray) (p : ByteArray) : LoopE (m_spec_l4Index_b0 l p) := ⟨fun s0 => [.sl (l.map cStr), vs p, .un, .un, .un, vi s0, .un, .un, .un, .un, .un, .un, .un, .un, .un, .un, .un, .un, .un], fun s0 => []⟩
def m_spec_l4Index (l : List ByteArray) (p : ByteArray) : Option Int :=
 (iterF (m_spec_l4Index_b0 l p) NN 0).bind (selim (fun o0 =>
 some (-1)) (fun r => some r))
theorem ok_spec_l4Index (l : List ByteArray) (p : ByteArray) {r : Int} (H : m_spec_l4Index l p = some r) : CallM Tryz.prog 185 [.sl (l.map cStr), vs p] [] (vi r) [] := by
  replace H := H0 H
  unfold m_spec_l4Index at H
  refine callM_of Tryz.func185 rfl Tryz.ntmps185 Tryz.results185 fun Q hQ hQn => ?_
  exact wk
instance (l : List ByteArray) (p : ByteArray) : CT Tryz.prog (m_spec_l4Index l p) := ⟨185, [.sl (l.map cStr), vs p], [], fun r => vi r, fun r => [], ok_spec_l4Index l p⟩
end Go.Proofs.YtmcdjilbkmhfoaaGreat

/- The two sides' functions on an order's state answer alike. -/
namespace Go.Proofs.YtmcdjilbkmhfoaaGreat
set_option maxRecDepth 10000
open Go.RowKit
set_option linter.unusedVariables false
set_option linter.unusedSimpArgs false
theorem placeAt_eq : @m_impl_placeAt = @m_spec_l4Index := rfl
theorem here_eq (w : YWorld) (o : YOrder) : m_impl_isAt w o = m_spec_l10Here w.network o := rfl
theorem ends_none {n : YNetwork} {t : YTrip} (h : getI n.legs t.leg = none) : m_spec_l3Ends n t = none := by
  unfold m_spec_l3Ends m_spec_l3Starts; rw [h]; rfl
theorem ends_some {n : YNetwork} {t : YTrip} {y : YLeg} (h : getI n.legs t.leg = some y) : ∃ v, m_spec_l3Ends n t = some v := by
  unfold m_spec_l3Ends m_spec_l3Starts; rw [h]; exact ⟨_, rfl⟩
theorem state_eq (w : YWorld) (o : YOrder) : m_impl_isState w o = m_spec_l10State w.network o w.now := by
  unfold m_impl_isState m_spec_l10State
  rw [ends_eq, starts_eq]
  cases decide (0 < o.gone) with
  | false =>
    simp only [cond_false]
    cases decide (o.state = 1) <;> cases decide (o.state = 2) <;> cases decide (o.state = 3) <;> try rfl
    all_goals cases decide (o.gone = (o.way.length : Int)) <;> cases decide (o.place = o.to_) <;> cases decide (o.from_ = o.to_) <;> rfl
  | true =>
    simp only [cond_true]
    cases hg : getI o.way (w64 (o.gone - 1)) with
    | none => rfl
    | some y1 =>
      simp only [Option.bind_some, hg]
      cases hl : getI w.network.legs y1.leg with
      | none => rw [ends_none hl]; rfl
      | some y2 =>
        obtain ⟨v, hv⟩ := ends_some hl
        simp only [hv, Option.bind_some]
        cases decide (w.now < v) <;> try rfl
        simp only [cond_false]
        cases decide (o.state = 1) <;> cases decide (o.state = 2) <;> cases decide (o.state = 3) <;> try rfl
        all_goals cases decide (o.gone = (o.way.length : Int)) <;> cases decide (o.place = o.to_) <;> cases decide (y2.to_ = o.to_) <;> rfl
end Go.Proofs.YtmcdjilbkmhfoaaGreat

/- The mirror of spec_PlacesOf, and that the code does just that (printed by a program of my own). -/
namespace Go.Proofs.YtmcdjilbkmhfoaaGreat
set_option maxRecDepth 10000
open Go.RowKit
set_option linter.unusedVariables false
set_option maxHeartbeats 16000000
def m_spec_PlacesOf_b1 (n : YNetwork) (s0 : Int × (List ByteArray)) (y2 : YLeg) (s1 : Int) : Option (Int ⊕ Int) :=
 cond (decide (s1 < (s0.2.length : Int)))
 ((getI s0.2 s1).bind fun y3 =>
 cond (sLt y3 y2.to_)
 (some (.inl (w64 (s1 + 1))))
 (some (.inr s1)))
 (some (.inr s1))
instance (n : YNetwork) (s0 : Int × (List ByteArray)) (y2 : YLeg) : LoopE (m_spec_PlacesOf_b1 n s0 y2) := ⟨fun s1 => (.un :: .be 0 0 0 :: .un :: .ms 1 :: vi s0.1 :: vs y2.to_ :: vi s1 :: .un :: .un :: .un :: .un :: .un :: .un :: .un :: .un :: .un :: .un :: .un :: .un :: .un :: .un :: .un :: .un :: .un :: .un :: .un :: .un :: .un :: .un :: .un :: .un :: .un :: .un :: .un :: .un :: .un :: .un :: .un :: .un :: .un :: .un :: .un :: .un :: .un :: .un :: .un :: .un :: .un :: .un :: .un :: .un :: .un :: .un :: .un :: .un :: .un :: .un :: .un :: .un :: .un :: .un :: .un :: .un :: .un :: .un :: .un :: .un :: .un :: .un :: .un :: .un :: .un :: []), fun s1 => [some ⟨35, 3, [[.sl (n.legs.map cLeg), .sl (n.off.map cInt), vi n.change]]⟩, some ⟨9, 1, s0.2.map cStr⟩]⟩
def m_spec_PlacesOf_b2 (n : YNetwork) (s0 : Int × (List ByteArray)) (y1 : YLeg) (s2 : Int) : Option (Int ⊕ Int) :=
 cond (decide (s2 < (s0.2.length : Int)))
 ((getI s0.2 s2).bind fun y5 =>
 cond (sLt y5 y1.from_)
 (some (.inl (w64 (s2 + 1))))
 (some (.inr s2)))
 (some (.inr s2))
instance (n : YNetwork) (s0 : Int × (List ByteArray)) (y1 : YLeg) : LoopE (m_spec_PlacesOf_b2 n s0 y1) := ⟨fun s2 => (.un :: .be 0 0 0 :: .un :: .ms 1 :: vi s0.1 :: vs y1.from_ :: vi s2 :: .un :: .un :: .un :: .un :: .un :: .un :: .un :: .un :: .un :: .un :: .un :: .un :: .un :: .un :: .un :: .un :: .un :: .un :: .un :: .un :: .un :: .un :: .un :: .un :: .un :: .un :: .un :: .un :: .un :: .un :: .un :: .un :: .un :: .un :: .un :: .un :: .un :: .un :: .un :: .un :: .un :: .un :: .un :: .un :: .un :: .un :: .un :: .un :: .un :: .un :: .un :: .un :: .un :: .un :: .un :: .un :: .un :: .un :: .un :: .un :: .un :: .un :: .un :: .un :: .un :: []), fun s2 => [some ⟨35, 3, [[.sl (n.legs.map cLeg), .sl (n.off.map cInt), vi n.change]]⟩, some ⟨9, 1, s0.2.map cStr⟩]⟩
def m_spec_PlacesOf_b0 (n : YNetwork) (s0 : Int × (List ByteArray)) : Option ((Int × (List ByteArray)) ⊕ (List ByteArray)) :=
 cond (decide (s0.1 < (w64 (2 * (n.legs.length : Int)))))
 ((getI n.legs (IntKind.i64.wrap (Int.tdiv s0.1 2))).bind fun y1 =>
 cond (decide ((Int.tmod s0.1 2) = 1))
 ((getI n.legs (IntKind.i64.wrap (Int.tdiv s0.1 2))).bind fun y2 =>
 (iterF (m_spec_PlacesOf_b1 n s0 y2) NN 0).bind (fun o1 =>
 cond (decide (o1 = (s0.2.length : Int)))
 ((chk (slOk 0 o1 s0.2.length)).bind fun _ =>
 (chk (appOk ((([] : List ByteArray) : List ByteArray).length + ((subL s0.2 0 o1) : List ByteArray).length) 16)).bind fun _ =>
 (chk (appOk ((((([] : List ByteArray) : List ByteArray) ++ (subL s0.2 0 o1)) : List ByteArray).length + ([y2.to_] : List ByteArray).length) 16)).bind fun _ =>
 (chk (slOk o1 (s0.2.length : Int) s0.2.length)).bind fun _ =>
 (chk (appOk ((((((([] : List ByteArray) : List ByteArray) ++ (subL s0.2 0 o1)) : List ByteArray) ++ [y2.to_]) : List ByteArray).length + ((subL s0.2 o1 (s0.2.length : Int)) : List ByteArray).length) 16)).bind fun _ =>
 some (.inl ((w64 (s0.1 + 1)), ((((((([] : List ByteArray) : List ByteArray) ++ (subL s0.2 0 o1)) : List ByteArray) ++ [y2.to_]) : List ByteArray) ++ (subL s0.2 o1 (s0.2.length : Int))))))
 ((getI s0.2 o1).bind fun y4 =>
 cond (!decide (y4 = y2.to_))
 ((chk (slOk 0 o1 s0.2.length)).bind fun _ =>
 (chk (appOk ((([] : List ByteArray) : List ByteArray).length + ((subL s0.2 0 o1) : List ByteArray).length) 16)).bind fun _ =>
 (chk (appOk ((((([] : List ByteArray) : List ByteArray) ++ (subL s0.2 0 o1)) : List ByteArray).length + ([y2.to_] : List ByteArray).length) 16)).bind fun _ =>
 (chk (slOk o1 (s0.2.length : Int) s0.2.length)).bind fun _ =>
 (chk (appOk ((((((([] : List ByteArray) : List ByteArray) ++ (subL s0.2 0 o1)) : List ByteArray) ++ [y2.to_]) : List ByteArray).length + ((subL s0.2 o1 (s0.2.length : Int)) : List ByteArray).length) 16)).bind fun _ =>
 some (.inl ((w64 (s0.1 + 1)), ((((((([] : List ByteArray) : List ByteArray) ++ (subL s0.2 0 o1)) : List ByteArray) ++ [y2.to_]) : List ByteArray) ++ (subL s0.2 o1 (s0.2.length : Int))))))
 (some (.inl ((w64 (s0.1 + 1)), s0.2))))))
 ((iterF (m_spec_PlacesOf_b2 n s0 y1) NN 0).bind (fun o2 =>
 cond (decide (o2 = (s0.2.length : Int)))
 ((chk (slOk 0 o2 s0.2.length)).bind fun _ =>
 (chk (appOk ((([] : List ByteArray) : List ByteArray).length + ((subL s0.2 0 o2) : List ByteArray).length) 16)).bind fun _ =>
 (chk (appOk ((((([] : List ByteArray) : List ByteArray) ++ (subL s0.2 0 o2)) : List ByteArray).length + ([y1.from_] : List ByteArray).length) 16)).bind fun _ =>
 (chk (slOk o2 (s0.2.length : Int) s0.2.length)).bind fun _ =>
 (chk (appOk ((((((([] : List ByteArray) : List ByteArray) ++ (subL s0.2 0 o2)) : List ByteArray) ++ [y1.from_]) : List ByteArray).length + ((subL s0.2 o2 (s0.2.length : Int)) : List ByteArray).length) 16)).bind fun _ =>
 some (.inl ((w64 (s0.1 + 1)), ((((((([] : List ByteArray) : List ByteArray) ++ (subL s0.2 0 o2)) : List ByteArray) ++ [y1.from_]) : List ByteArray) ++ (subL s0.2 o2 (s0.2.length : Int))))))
 ((getI s0.2 o2).bind fun y6 =>
 cond (!decide (y6 = y1.from_))
 ((chk (slOk 0 o2 s0.2.length)).bind fun _ =>
 (chk (appOk ((([] : List ByteArray) : List ByteArray).length + ((subL s0.2 0 o2) : List ByteArray).length) 16)).bind fun _ =>
 (chk (appOk ((((([] : List ByteArray) : List ByteArray) ++ (subL s0.2 0 o2)) : List ByteArray).length + ([y1.from_] : List ByteArray).length) 16)).bind fun _ =>
 (chk (slOk o2 (s0.2.length : Int) s0.2.length)).bind fun _ =>
 (chk (appOk ((((((([] : List ByteArray) : List ByteArray) ++ (subL s0.2 0 o2)) : List ByteArray) ++ [y1.from_]) : List ByteArray).length + ((subL s0.2 o2 (s0.2.length : Int)) : List ByteArray).length) 16)).bind fun _ =>
 some (.inl ((w64 (s0.1 + 1)), ((((((([] : List ByteArray) : List ByteArray) ++ (subL s0.2 0 o2)) : List ByteArray) ++ [y1.from_]) : List ByteArray) ++ (subL s0.2 o2 (s0.2.length : Int))))))
 (some (.inl ((w64 (s0.1 + 1)), s0.2)))))))
 (some (.inr s0.2))
instance (n : YNetwork) : LoopE (m_spec_PlacesOf_b0 n) := ⟨fun s0 => (.un :: .be 0 0 0 :: .un :: .ms 1 :: vi s0.1 :: .un :: .un :: .un :: .un :: .un :: .un :: .un :: .un :: .un :: .un :: .un :: .un :: .un :: .un :: .un :: .un :: .un :: .un :: .un :: .un :: .un :: .un :: .un :: .un :: .un :: .un :: .un :: .un :: .un :: .un :: .un :: .un :: .un :: .un :: .un :: .un :: .un :: .un :: .un :: .un :: .un :: .un :: .un :: .un :: .un :: .un :: .un :: .un :: .un :: .un :: .un :: .un :: .un :: .un :: .un :: .un :: .un :: .un :: .un :: .un :: .un :: .un :: .un :: .un :: .un :: .un :: .un :: []), fun s0 => [some ⟨35, 3, [[.sl (n.legs.map cLeg), .sl (n.off.map cInt), vi n.change]]⟩, some ⟨9, 1, s0.2.map cStr⟩]⟩
def m_spec_PlacesOf (n : YNetwork) : Option (List ByteArray) :=
 (iterF (m_spec_PlacesOf_b0 n) NN (0, ([] : List ByteArray))).bind (fun o0 =>
 some o0)
theorem ok_spec_PlacesOf (n : YNetwork) {r : (List ByteArray)} (H : m_spec_PlacesOf n = some r) : CallM Tryz.prog 49 [.ag (cNetwork n)] [] (.ms 0) [some ⟨9, 1, r.map cStr⟩] := by
  replace H := H0 H
  unfold m_spec_PlacesOf at H
  refine callM_of Tryz.func49 rfl Tryz.ntmps49 Tryz.results49 fun Q hQ hQn => ?_
  exact wk
instance (n : YNetwork) : CT Tryz.prog (m_spec_PlacesOf n) := ⟨49, [.ag (cNetwork n)], [], fun r => .ms 0, fun r => [some ⟨9, 1, r.map cStr⟩], ok_spec_PlacesOf n⟩
end Go.Proofs.YtmcdjilbkmhfoaaGreat
