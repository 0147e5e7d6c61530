/- A part of the proof of the statement in the last file of this claim: texts on the language of the program and on its functions. No condition. -/
import Derived.Test.YtmcdjilbkmhfoaaGreatCFnKept4
import Derived.Test.YtmcdjilbkmhfoaaGreatCFnKept5
import Derived.Sort.Walk0
namespace Go.Proofs.YtmcdjilbkmhfoaaGreat
set_option maxRecDepth 10000
open Go.RowKit
set_option linter.unusedVariables false
set_option linter.unusedSimpArgs false
def Tot {α : Type} (x : Option α) (P : α → Prop) : Prop := ∃ r, x = some r ∧ P r
theorem Tot.bind {α β : Type} {x : Option α} {P : α → Prop} {f : α → Option β} {Q : β → Prop} (h : Tot x P) (k : ∀ r, P r → Tot (f r) Q) : Tot (x.bind f) Q := by
  obtain ⟨r, rfl, hr⟩ := h
  exact k r hr
theorem Tot.cond {β : Type} {b : Bool} {x y : Option β} {Q : β → Prop} (h : b = true → Tot x Q) (k : b = false → Tot y Q) : Tot (cond b x y) Q := by
  cases b with
  | true => exact h rfl
  | false => exact k rfl
theorem Tot.ret {β : Type} {r : β} {Q : β → Prop} (h : Q r) : Tot (some r) Q := ⟨r, rfl, h⟩
theorem Tot.of {β : Type} {x : Option β} {r : β} {Q : β → Prop} (h : x = some r) (h' : Q r) : Tot x Q := ⟨r, h, h'⟩
theorem Tot.mono {β : Type} {x : Option β} {P Q : β → Prop} (h : Tot x P) (k : ∀ r, P r → Q r) : Tot x Q := by
  obtain ⟨r, e, hr⟩ := h
  exact ⟨r, e, k r hr⟩
theorem Tot.rho {β : Type} {ρ : List Nat} {f : Unit → Option β} {Q : β → Prop} (k : Tot (f ()) Q) : Tot ((rhoM ρ).bind f) Q := k
theorem Tot.drw {β : Type} {wd : Nat} {fl : List Nat} {f : Unit → Option β} {Q : β → Prop} (k : Tot (f ()) Q) : Tot ((drwL wd fl).bind f) Q := k
theorem Tot.frz {β : Type} {t : List PV} {m : Mem} {f : Unit → Option β} {Q : β → Prop} (k : Tot (f ()) Q) : Tot ((Go.Proofs.YtmcdjilbkmhfoaaGreat.frz t m).bind f) Q := k
theorem Tot.frzL {α β : Type} {x : α} {t : α → List PV} {m : α → Mem} {f : α → Option β} {Q : β → Prop} (k : Tot (f x) Q) : Tot ((Go.Proofs.YtmcdjilbkmhfoaaGreat.frzL x t m).bind f) Q := k
theorem Tot.chk {β : Type} {b : Bool} {f : Unit → Option β} {Q : β → Prop} (h : b = true) (k : Tot (f ()) Q) : Tot ((Go.Proofs.YtmcdjilbkmhfoaaGreat.chk b).bind f) Q := by
  subst h; exact k
theorem Tot.get {α β : Type} {xs : List α} {i : Int} {f : α → Option β} {Q : β → Prop} (h0 : 0 ≤ i) (h1 : i < xs.length) (k : ∀ x, x ∈ xs → getI xs i = some x → Tot (f x) Q) : Tot ((getI xs i).bind f) Q := by
  have hlt : i.toNat < xs.length := by omega
  have e : getI xs i = some xs[i.toNat] := by unfold getI; rw [if_pos h0]; exact List.getElem?_eq_getElem hlt
  rw [e]
  exact k _ (List.getElem_mem hlt) e
def LoopP {σ ο : Type} (I : Nat → σ → Prop) (P : ο → Prop) (k : Nat) : σ ⊕ ο → Prop
  | .inl s' => ∃ k', k' < k ∧ I k' s'
  | .inr o => P o
theorem Tot.loop {σ ο : Type} {body : σ → Option (σ ⊕ ο)} (I : Nat → σ → Prop) {P : ο → Prop} (h : ∀ k s, I k s → Tot (body s) (LoopP I P k)) : ∀ (N k : Nat) (s : σ), I k s → k < N → Tot (iterF body N s) P
  | 0, k, s, _, hN => by omega
  | N + 1, k, s, hI, hN => by
    obtain ⟨r, e, hr⟩ := h k s hI
    simp only [iterF, e]
    cases r with
    | inr o => exact ⟨o, rfl, hr⟩
    | inl s' =>
      obtain ⟨k', hk, hI'⟩ := hr
      exact Tot.loop I h N k' s' hI' (by omega)
theorem app_fit {a b c : Nat} (h : a + b ≤ 1099511627776) (hc : c ≤ 128) : appOk (a + b) c = true := by
  unfold appOk
  refine decide_eq_true ⟨by omega, ?_⟩
  have : (a + b) * c ≤ 1099511627776 * 128 := Nat.mul_le_mul h hc
  omega
structure CurOk (c : Yl1Cur) : Prop where
  i : 0 ≤ c.i
  len : c.b.length ≤ 4096
  b : ∀ x ∈ c.b, 0 ≤ x.v ∧ x.v ≤ 255
theorem and255 (x : BitVec IntKind.i64.bits) : 0 ≤ IntKind.i64.wrap ((x &&& BitVec.ofInt IntKind.i64.bits 255).toNat : Int) ∧ IntKind.i64.wrap ((x &&& BitVec.ofInt IntKind.i64.bits 255).toNat : Int) ≤ 255 := by
  have h : (x &&& BitVec.ofInt IntKind.i64.bits 255).toNat ≤ 255 := by
    have e : (BitVec.ofInt IntKind.i64.bits 255).toNat = 255 := by decide
    have := Nat.and_le_right (n := x.toNat) (m := (BitVec.ofInt IntKind.i64.bits 255).toNat)
    rw [e] at this
    rw [BitVec.toNat_and]
    exact this
  have e := w64_in (n := ((x &&& BitVec.ofInt IntKind.i64.bits 255).toNat : Int)) (by omega)
  have e' : IntKind.i64.wrap ((x &&& BitVec.ofInt IntKind.i64.bits 255).toNat : Int) = ((x &&& BitVec.ofInt IntKind.i64.bits 255).toNat : Int) := e
  rw [e']
  omega
theorem byte_tot {c : Yl1Cur} (h : CurOk c) : Tot (m_p0_spec_l1Byte c) fun r => (0 ≤ r.1 ∧ r.1 ≤ 255) ∧ CurOk r.2 := by
  unfold m_p0_spec_l1Byte
  refine Tot.cond (fun hc => ?_) fun hc => ?_
  · have hlt := of_decide_eq_true hc
    have hl := h.len
    refine Tot.get h.i hlt fun x hx _ => Tot.ret ⟨and255 _, ⟨?_, h.len, h.b⟩⟩
    show 0 ≤ w64 (c.i + 1)
    rw [w64_in (by have := h.i; omega)]
    have := h.i
    omega
  · exact Tot.ret ⟨and255 _, ⟨h.i, h.len, h.b⟩⟩
theorem below_tot {c : Yl1Cur} (h : CurOk c) (n : Int) : Tot (m_p0_spec_l1Below c n) fun r => (0 ≤ r.1 ∧ (0 < n → r.1 < n) ∧ (n ≤ 0 → r.1 = 0)) ∧ CurOk r.2 := by
  unfold m_p0_spec_l1Below
  refine Tot.cond (fun hc => ?_) fun hc => ?_
  · have := of_decide_eq_true hc
    exact Tot.ret ⟨⟨by simp, fun _ => by simp only; omega, fun _ => rfl⟩, h⟩
  · have h0 := of_decide_eq_false hc
    refine Tot.cond (fun hd => ?_) fun hd => ?_
    · refine Tot.rho (Tot.bind (byte_tot h) fun y hy => Tot.chk (decide_eq_true (by omega)) (Tot.ret ⟨⟨?_, fun _ => ?_, fun hn => absurd hn h0⟩, hy.2⟩))
      · exact Int.tmod_nonneg _ hy.1.1
      · exact Int.tmod_lt_of_pos _ (by omega)
    · refine Tot.rho (Tot.bind (byte_tot h) fun y hy => Tot.rho (Tot.bind (byte_tot hy.2) fun z hz => Tot.rho (Tot.bind (byte_tot hz.2) fun u hu => Tot.chk (decide_eq_true (by omega)) (Tot.ret ⟨⟨?_, fun _ => ?_, fun hn => absurd hn h0⟩, hu.2⟩))))
      · have e1 : w64 (y.1 * 65536) = y.1 * 65536 := w64_in (by omega)
        have e2 : w64 (z.1 * 256) = z.1 * 256 := w64_in (by omega)
        have e3 : w64 (y.1 * 65536 + z.1 * 256) = y.1 * 65536 + z.1 * 256 := w64_in (by omega)
        have e4 : w64 (y.1 * 65536 + z.1 * 256 + u.1) = y.1 * 65536 + z.1 * 256 + u.1 := w64_in (by omega)
        simp only [e1, e2, e3, e4]
        exact Int.tmod_nonneg _ (by omega)
      · exact Int.tmod_lt_of_pos _ (by omega)
theorem once_tot {c : Yl1Cur} (h : CurOk c) (n : Int) : Tot (m_p0_spec_l1Once c n) fun r => CurOk r.2 := by
  unfold m_p0_spec_l1Once
  exact Tot.rho (Tot.bind (below_tot h n) fun y hy => Tot.ret hy.2)
theorem str_tot {c : Yl1Cur} (h : CurOk c) {l : List ByteArray} (hl : 0 < l.length) : Tot (m_p0_spec_l1Str c l) fun r => r.1 ∈ l ∧ CurOk r.2.1 := by
  unfold m_p0_spec_l1Str
  exact Tot.rho (Tot.bind (below_tot h _) fun y hy => Tot.get hy.1.1 (hy.1.2.1 (by omega)) fun x hx _ => Tot.ret ⟨hx, hy.2⟩)
theorem int_tot {c : Yl1Cur} (h : CurOk c) {l : List Int} (hl : 0 < l.length) : Tot (m_p0_spec_l1Int c l) fun r => r.1 ∈ l ∧ CurOk r.2.1 := by
  unfold m_p0_spec_l1Int
  exact Tot.rho (Tot.bind (below_tot h _) fun y hy => Tot.get hy.1.1 (hy.1.2.1 (by omega)) fun x hx _ => Tot.ret ⟨hx, hy.2⟩)
def drawP : List ByteArray := [⟨#[65, 77, 83]⟩, ⟨#[66, 82, 85]⟩, ⟨#[67, 68, 71]⟩, ⟨#[68, 85, 66]⟩, ⟨#[69, 68, 73]⟩, ⟨#[70, 82, 65]⟩, ⟨#[71, 79, 84]⟩]
theorem place_tot {c : Yl1Cur} (h : CurOk c) : Tot (m_p0_spec_l1Place c) fun r => r.1 ∈ drawP ∧ CurOk r.2 := by
  unfold m_p0_spec_l1Place
  exact Tot.rho (Tot.bind (str_tot h (by simp)) fun y hy => Tot.ret ⟨hy.1, hy.2⟩)
structure LegD (l : YLeg) : Prop where
  from_ : l.from_ ∈ drawP
  to_ : l.to_ ∈ drawP
  ne : ¬ l.from_ = l.to_
  start : 0 ≤ l.start ∧ l.start ≤ 1439
  takes : 1 ≤ l.takes ∧ l.takes ≤ 4320
  days : 1 ≤ l.days ∧ l.days ≤ 127
  room : 0 ≤ l.room ∧ l.room ≤ 1000000
theorem leg_tot {c : Yl1Cur} (h : CurOk c) : Tot (m_p0_spec_l3Leg c) fun r => LegD r.1 ∧ CurOk r.2 := by
  unfold m_p0_spec_l3Leg
  refine Tot.rho (Tot.bind (place_tot h) fun y1 h1 => Tot.rho (Tot.bind (place_tot h1.2) fun y2 h2 => Tot.rho (Tot.bind (below_tot h2.2 48) fun y3 h3 => Tot.rho (Tot.bind (below_tot h3.2 40) fun y4 h4 => Tot.rho (Tot.bind (below_tot h4.2 127) fun y5 h5 => Tot.rho (Tot.bind (below_tot h5.2 60) fun y6 h6 => ?_))))))
  have b3 := h3.1.2.1 (by omega)
  have b4 := h4.1.2.1 (by omega)
  have b5 := h5.1.2.1 (by omega)
  have b6 := h6.1.2.1 (by omega)
  have hloop : Tot (iterF (m_p0_spec_l3Leg_b0 y3 y4 y5 y6) NN (y6.2.b, y6.2.i, y6.2.h, y1.1, y2.1)) fun o => CurOk ⟨o.1, o.2.1, o.2.2.1⟩ ∧ o.2.2.2.1 ∈ drawP ∧ o.2.2.2.2 ∈ drawP ∧ ¬ o.2.2.2.1 = o.2.2.2.2 := by
    refine Tot.loop (fun k s => CurOk ⟨s.1, s.2.1, s.2.2.1⟩ ∧ s.2.2.2.1 ∈ drawP ∧ s.2.2.2.2 ∈ drawP ∧ (k = 1 ∨ (k = 0 ∧ ¬ s.2.2.2.1 = s.2.2.2.2))) (fun k s hs => ?_) NN 1 _ ⟨h6.2, h1.1, h2.1, .inl rfl⟩ (by unfold NN; omega)
    obtain ⟨k1, k2, k3, k4⟩ := hs
    unfold m_p0_spec_l3Leg_b0
    refine Tot.cond (fun hc => ?_) fun hc => Tot.ret ⟨k1, k2, k3, of_decide_eq_false hc⟩
    have he := of_decide_eq_true hc
    have hk : k = 1 := by rcases k4 with k4 | ⟨_, k4⟩
                          · exact k4
                          · exact absurd he k4
    subst hk
    refine Tot.rho (Tot.bind (str_tot k1 (by simp)) fun y7 h7 => ?_)
    have hy : y7.1 ∈ drawP ∧ ¬ (⟨#[68, 85, 66]⟩ : ByteArray) = y7.1 := by
      have := h7.1
      simp only [List.mem_cons, List.not_mem_nil, or_false] at this
      rcases this with e | e | e <;> rw [e] <;> exact ⟨by simp [drawP], by decide +kernel⟩
    have hdub : (⟨#[68, 85, 66]⟩ : ByteArray) ∈ drawP := by simp [drawP]
    refine Tot.cond (fun hd => Tot.ret ⟨0, by omega, h7.2, hdub, hy.1, .inr ⟨rfl, hy.2⟩⟩) fun hd => Tot.ret ⟨0, by omega, h7.2, k2, hy.1, .inr ⟨rfl, of_decide_eq_false hd⟩⟩
  refine Tot.bind hloop fun o ho => Tot.rho (Tot.bind (once_tot ho.1 2) fun y8 h8 => ?_)
  have w1 : w64 (30 * y3.1) = 30 * y3.1 := w64_in (by omega)
  have w2 : w64 (1 + y4.1) = 1 + y4.1 := w64_in (by omega)
  have w3 : w64 (30 * (1 + y4.1)) = 30 * (1 + y4.1) := w64_in (by omega)
  have w4 : w64 (1 + y5.1) = 1 + y5.1 := w64_in (by omega)
  have w5 : w64 (1000 * y6.1) = 1000 * y6.1 := w64_in (by omega)
  simp only [w1, w2, w3, w4, w5]
  have hin : ∀ x : Int, x ∈ [1, 1440, (4320 : Int)] → 1 ≤ x ∧ x ≤ 4320 := fun x hx => by
    simp only [List.mem_cons, List.not_mem_nil, or_false] at hx
    omega
  refine Tot.cond (fun hd => Tot.rho (Tot.bind (once_tot h8 9) fun y9 h9 => Tot.cond (fun he => Tot.rho (Tot.bind (int_tot h9 (by simp)) fun y10 h10 => Tot.ret ⟨⟨ho.2.1, ho.2.2.1, ho.2.2.2, by simp only; omega, hin _ h10.1, by simp only; omega, by simp only; omega⟩, h10.2⟩)) fun he => Tot.ret ⟨⟨ho.2.1, ho.2.2.1, ho.2.2.2, by simp only; omega, by simp only; omega, by simp only; omega, by simp only; omega⟩, h9⟩))
    fun hd => Tot.rho (Tot.bind (once_tot h8 9) fun y9 h9 => Tot.cond (fun he => Tot.rho (Tot.bind (int_tot h9 (by simp)) fun y10 h10 => Tot.ret ⟨⟨ho.2.1, ho.2.2.1, ho.2.2.2, by simp only; omega, hin _ h10.1, by simp only; omega, by simp only; omega⟩, h10.2⟩)) fun he => Tot.ret ⟨⟨ho.2.1, ho.2.2.1, ho.2.2.2, by simp only; omega, by simp only; omega, by simp only; omega, by simp only; omega⟩, h9⟩)
structure NetD (n : YNetwork) : Prop where
  len : 1 ≤ n.legs.length ∧ n.legs.length ≤ 14
  leg : ∀ l ∈ n.legs, LegD l
  off : n.off = [] ∨ ∃ a b : Int, n.off = [a, b] ∧ 0 ≤ a ∧ a < b ∧ b ≤ 60
  change : 0 ≤ n.change ∧ n.change ≤ 240
theorem new_tot {code : List YB8} (hl : code.length ≤ 4096) (hb : ∀ x ∈ code, 0 ≤ x.v ∧ x.v ≤ 255) : Tot (m_o_spec_l1New code) CurOk := by
  unfold m_o_spec_l1New
  refine Tot.bind (P := fun _ => True) ?_ fun o _ => Tot.ret ⟨by simp, hl, hb⟩
  refine Tot.loop (fun k s => ∃ i : Nat, s.2 = (i : Int) ∧ i + k = code.length) (fun k s hs => ?_) NN code.length _ ⟨0, rfl, by omega⟩ (by unfold NN; omega)
  obtain ⟨i, hi, hk⟩ := hs
  unfold m_o_spec_l1New_b0
  rw [hi]
  refine Tot.cond (fun hc => Tot.cond (fun hd => ?_) fun hd => Tot.ret trivial) fun hc => Tot.ret trivial
  have hlt := of_decide_eq_true hc
  exact Tot.get (by omega) hlt fun x hx _ => Tot.ret ⟨k - 1, by omega, i + 1, by simp only; rw [w64_in (by omega)]; omega, by omega⟩
end Go.Proofs.YtmcdjilbkmhfoaaGreat
namespace Go.Proofs.YtmcdjilbkmhfoaaGreat
set_option maxRecDepth 10000
open Go.RowKit
set_option linter.unusedVariables false
set_option maxHeartbeats 16000000
def m_spec_l1In (x : Int) (least : Int) (most : Int) : Option Bool :=
 cond (decide (least ≤ x))
 (some (decide (x ≤ most)))
 (some false)
theorem ok_spec_l1In (x : Int) (least : Int) (most : Int) {r : Bool} (H : m_spec_l1In x least most = some r) : CallM Tryz.prog 71 [vi x, vi least, vi most] [] (vb r) [] := by
  replace H := H0 H
  unfold m_spec_l1In at H
  refine callM_of Tryz.func71 rfl Tryz.ntmps71 Tryz.results71 fun Q hQ hQn => ?_
  exact wk
instance (x : Int) (least : Int) (most : Int) : CT Tryz.prog (m_spec_l1In x least most) := ⟨71, [vi x, vi least, vi most], [], fun r => vb r, fun r => [], ok_spec_l1In x least most⟩
def m_spec_IsPlace_b0 (s : ByteArray) (s0 : Int) : Option (Int ⊕ (Unit ⊕ Bool)) :=
 cond (decide (s0 < 3))
 ((getB s s0).bind fun y1 =>
 (m_spec_l1In (IntKind.i64.wrap y1) 65 90).bind fun y2 =>
 cond (!y2)
 (some (.inr (.inr false)))
 (some (.inl (w64 (s0 + 1)))))
 (some (.inr (.inl ())))
instance (s : ByteArray) : LoopE (m_spec_IsPlace_b0 s) := ⟨fun s0 => [vs s, .un, .un, vi s0, .un, .un, .un, .un, .un, .un, .un, .un, .un, .un, .un, .un, .un], fun s0 => []⟩
def m_spec_IsPlace (s : ByteArray) : Option Bool :=
 cond (!decide ((s.size : Int) = 3))
 (some false)
 ((iterF (m_spec_IsPlace_b0 s) NN 0).bind (selim (fun o0 =>
 some true) (fun r => some r)))
theorem ok_spec_IsPlace (s : ByteArray) {r : Bool} (H : m_spec_IsPlace s = some r) : CallM Tryz.prog 257 [vs s] [] (vb r) [] := by
  replace H := H0 H
  unfold m_spec_IsPlace at H
  refine callM_of Tryz.func257 rfl Tryz.ntmps257 Tryz.results257 fun Q hQ hQn => ?_
  exact wk
instance (s : ByteArray) : CT Tryz.prog (m_spec_IsPlace s) := ⟨257, [vs s], [], fun r => vb r, fun r => [], ok_spec_IsPlace s⟩
end Go.Proofs.YtmcdjilbkmhfoaaGreat
namespace Go.Proofs.YtmcdjilbkmhfoaaGreat
set_option maxRecDepth 10000
open Go.RowKit
set_option linter.unusedVariables false
set_option linter.unusedSimpArgs false
theorem drawP_ok : ∀ p ∈ drawP, m_spec_IsPlace p = some true ∧ p.size = 3 := fun p hp => by
  unfold drawP at hp
  simp only [List.mem_cons, List.not_mem_nil, or_false] at hp
  rcases hp with rfl | rfl | rfl | rfl | rfl | rfl | rfl <;> exact ⟨by decide +kernel, by decide +kernel⟩
end Go.Proofs.YtmcdjilbkmhfoaaGreat
namespace Go.Proofs.YtmcdjilbkmhfoaaGreat
set_option maxRecDepth 10000
open Go.RowKit
set_option linter.unusedVariables false
set_option maxHeartbeats 16000000
def m_impl_IsPlace_b0 (s : ByteArray) (s0 : Int) : Option (Int ⊕ (Unit ⊕ Bool)) :=
 cond (decide (s0 < (s.size : Int)))
 ((getB s s0).bind fun y1 =>
 cond (decide (y1 < 65))
 (some (.inr (.inr false)))
 ((getB s s0).bind fun y2 =>
 cond (decide (90 < y2))
 (some (.inr (.inr false)))
 (some (.inl (w64 (s0 + 1))))))
 (some (.inr (.inl ())))
instance (s : ByteArray) : LoopE (m_impl_IsPlace_b0 s) := ⟨fun s0 => [vs s, .un, .un, vi s0, .un, .un, .un, .un, .un, .un, .un, .un, .un, .un, .un, .un, .un, .un, .un, .un, .un, .un, .un], fun s0 => []⟩
def m_impl_IsPlace (s : ByteArray) : Option Bool :=
 (iterF (m_impl_IsPlace_b0 s) NN 0).bind (selim (fun o0 =>
 some (decide ((s.size : Int) = 3))) (fun r => some r))
theorem ok_impl_IsPlace (s : ByteArray) {r : Bool} (H : m_impl_IsPlace s = some r) : CallM Tryz.prog 251 [vs s] [] (vb r) [] := by
  replace H := H0 H
  unfold m_impl_IsPlace at H
  refine callM_of Tryz.func251 rfl Tryz.ntmps251 Tryz.results251 fun Q hQ hQn => ?_
  exact wk
instance (s : ByteArray) : CT Tryz.prog (m_impl_IsPlace s) := ⟨251, [vs s], [], fun r => vb r, fun r => [], ok_impl_IsPlace s⟩
def m_impl_within (n : Int) (low : Int) (high : Int) : Option Bool :=
 cond (decide (low ≤ n))
 (some (decide (n ≤ high)))
 (some false)
theorem ok_impl_within (n : Int) (low : Int) (high : Int) {r : Bool} (H : m_impl_within n low high = some r) : CallM Tryz.prog 81 [vi n, vi low, vi high] [] (vb r) [] := by
  replace H := H0 H
  unfold m_impl_within at H
  refine callM_of Tryz.func81 rfl Tryz.ntmps81 Tryz.results81 fun Q hQ hQn => ?_
  exact wk
instance (n : Int) (low : Int) (high : Int) : CT Tryz.prog (m_impl_within n low high) := ⟨81, [vi n, vi low, vi high], [], fun r => vb r, fun r => [], ok_impl_within n low high⟩
end Go.Proofs.YtmcdjilbkmhfoaaGreat
namespace Go.Proofs.YtmcdjilbkmhfoaaGreat
set_option maxRecDepth 10000
open Go.RowKit
set_option linter.unusedVariables false
set_option linter.unusedSimpArgs false
theorem within_v (n l h : Int) : m_impl_within n l h = some (decide (l ≤ n) && decide (n ≤ h)) := by
  unfold m_impl_within; cases decide (l ≤ n) <;> rfl
theorem l1In_v (n l h : Int) : m_spec_l1In n l h = some (decide (l ≤ n) && decide (n ≤ h)) := by
  unfold m_spec_l1In; cases decide (l ≤ n) <;> rfl
theorem within_eq : @m_impl_within = @m_spec_l1In := by funext n l h; rw [within_v, l1In_v]
theorem getB_in {s : ByteArray} {i c : Int} (h : getB s i = some c) : 0 ≤ c ∧ c ≤ 255 := by
  unfold getB at h
  split at h
  · cases h
    unfold byteAt
    cases hb : s[i.toNat]? with
    | none => simp
    | some b =>
      have := b.toNat_lt
      simp only [Option.map_some, Option.getD_some]
      omega
  · cases h
theorem placeB_eq {s : ByteArray} (hs : s.size = 3) : m_impl_IsPlace_b0 s = m_spec_IsPlace_b0 s := by
  funext i
  unfold m_impl_IsPlace_b0 m_spec_IsPlace_b0
  rw [hs]
  cases hi : decide (i < 3) with
  | false => simp [hi]
  | true =>
    simp only [show ((3 : Nat) : Int) = 3 from rfl, hi, cond_true]
    cases hg : getB s i with
    | none => rfl
    | some y =>
      obtain ⟨h0, h1⟩ := getB_in hg
      simp only [Option.bind_some, hg]
      rw [show IntKind.i64.wrap y = y from w64_in (by omega), l1In_v]
      simp only [Option.bind_some]
      by_cases h2 : y < 65
      · simp [h2, show ¬ (65 ≤ y) by omega]
      · by_cases h3 : 90 < y
        · simp [h2, h3, show ¬ (y ≤ 90) by omega]
        · simp [h2, h3, show 65 ≤ y by omega, show y ≤ 90 by omega]
theorem getB_some {s : ByteArray} {i : Nat} (h : i < s.size) : ∃ c, getB s (i : Int) = some c := by
  unfold getB; exact ⟨_, if_pos ⟨by omega, by omega⟩⟩
theorem placeL_some {s : ByteArray} (hs : s.size ≤ 1152921504606846000) : ∀ (k i N : Nat), i + k = s.size → k < N → ∃ o, iterF (m_impl_IsPlace_b0 s) N (i : Int) = some o ∧ (o = .inl () ∨ o = .inr false) := by
  intro k
  induction k with
  | zero =>
    intro i N hi hk
    cases N with
    | zero => omega
    | succ N => exact ⟨.inl (), by simp [iterF, m_impl_IsPlace_b0, show ¬ ((i : Int) < s.size) by omega], .inl rfl⟩
  | succ k ih =>
    intro i N hi hk
    cases N with
    | zero => omega
    | succ N =>
      obtain ⟨c, hc⟩ := getB_some (s := s) (i := i) (by omega)
      have hw := w64_nat (i := i) (n := s.size) (by omega) (by omega)
      by_cases h2 : c < 65
      · exact ⟨.inr false, by simp [iterF, m_impl_IsPlace_b0, show (i : Int) < s.size by omega, hc, h2], .inr rfl⟩
      · by_cases h3 : 90 < c
        · exact ⟨.inr false, by simp [iterF, m_impl_IsPlace_b0, show (i : Int) < s.size by omega, hc, h2, h3], .inr rfl⟩
        · obtain ⟨o, ho, hoo⟩ := ih (i + 1) N (by omega) (by omega)
          refine ⟨o, ?_, hoo⟩
          simp only [iterF, m_impl_IsPlace_b0, decide_eq_true (show (i : Int) < s.size by omega), cond_true, hc, Option.bind_some, decide_eq_false h2, decide_eq_false h3, cond_false, hw]
          exact ho
theorem isPlace_eq {s : ByteArray} (hs : s.size ≤ 1152921504606846000) : m_impl_IsPlace s = m_spec_IsPlace s ∧ ∃ b, m_spec_IsPlace s = some b := by
  obtain ⟨o, ho, hoo⟩ := placeL_some hs s.size 0 NN (by omega) (by unfold NN; omega)
  have ho' : iterF (m_impl_IsPlace_b0 s) NN 0 = some o := ho
  by_cases h3 : s.size = 3
  · have e : m_spec_IsPlace s = (iterF (m_impl_IsPlace_b0 s) NN 0).bind (selim (fun _ => some true) (fun r => some r)) := by
      unfold m_spec_IsPlace; rw [placeB_eq h3, h3]; rfl
    have e2 : m_impl_IsPlace s = (iterF (m_impl_IsPlace_b0 s) NN 0).bind (selim (fun _ => some (decide ((s.size : Int) = 3))) (fun r => some r)) := rfl
    rw [e, e2, ho', h3]
    rcases hoo with rfl | rfl
    · exact ⟨rfl, _, rfl⟩
    · exact ⟨rfl, _, rfl⟩
  · have e : m_spec_IsPlace s = some false := by unfold m_spec_IsPlace; rw [decide_eq_false (by omega)]; rfl
    have e2 : m_impl_IsPlace s = some false := by
      unfold m_impl_IsPlace; rw [ho']
      rcases hoo with rfl | rfl
      · show some _ = some _; rw [decide_eq_false (by omega)]
      · rfl
    exact ⟨by rw [e, e2], _, e⟩
def B60 : Nat := 1152921504606846000
end Go.Proofs.YtmcdjilbkmhfoaaGreat
namespace Go.Proofs.YtmcdjilbkmhfoaaGreat
set_option maxRecDepth 10000
open Go.RowKit
set_option linter.unusedVariables false
set_option maxHeartbeats 16000000
def m_impl_IsLeg (l : YLeg) : Option Bool :=
 (m_impl_IsPlace l.from_).bind fun y1 =>
 cond y1
 ((m_impl_IsPlace l.to_).bind fun y2 =>
 cond y2
 (cond (!decide (l.from_ = l.to_))
 ((m_impl_within l.start 0 1439).bind fun y3 =>
 cond y3
 ((m_impl_within l.takes 1 4320).bind fun y4 =>
 cond y4
 ((m_impl_within l.days 1 127).bind fun y5 =>
 cond y5
 ((m_impl_within l.room 0 1000000).bind fun y6 =>
 some y6)
 (some false))
 (some false))
 (some false))
 (some false))
 (some false))
 (some false)
theorem ok_impl_IsLeg (l : YLeg) {r : Bool} (H : m_impl_IsLeg l = some r) : CallM Tryz.prog 215 [.ag (cLeg l)] [] (vb r) [] := by
  replace H := H0 H
  unfold m_impl_IsLeg at H
  refine callM_of Tryz.func215 rfl Tryz.ntmps215 Tryz.results215 fun Q hQ hQn => ?_
  exact wk
instance (l : YLeg) : CT Tryz.prog (m_impl_IsLeg l) := ⟨215, [.ag (cLeg l)], [], fun r => vb r, fun r => [], ok_impl_IsLeg l⟩
def m_impl_IsNetwork_b0 (n : YNetwork) (s0 : Int) : Option (Int ⊕ (Unit ⊕ Bool)) :=
 cond (decide (s0 < (n.legs.length : Int)))
 ((getI n.legs s0).bind fun y1 =>
 (m_impl_IsLeg y1).bind fun y2 =>
 cond (!y2)
 (some (.inr (.inr false)))
 (some (.inl (w64 (s0 + 1)))))
 (some (.inr (.inl ())))
instance (n : YNetwork) : LoopE (m_impl_IsNetwork_b0 n) := ⟨fun s0 => (.un :: .be 0 0 0 :: .un :: .un :: .un :: .un :: .un :: .un :: .sl (n.legs.map cLeg) :: vi (n.legs.length : Int) :: vi s0 :: .un :: .un :: .un :: .un :: .un :: .un :: .un :: .un :: .un :: .un :: .un :: .un :: .un :: .un :: .un :: .un :: .un :: .un :: .un :: .un :: .un :: .un :: .un :: .un :: .un :: .un :: .un :: .un :: .un :: .un :: .un :: .un :: .un :: .un :: .un :: .un :: .un :: .un :: .un :: .un :: .un :: .un :: .un :: .un :: .un :: .un :: .un :: .un :: []), fun s0 => [some ⟨35, 3, [[.sl (n.legs.map cLeg), .sl (n.off.map cInt), vi n.change]]⟩]⟩
def m_impl_IsNetwork_b1 (n : YNetwork) (s1 : Int) : Option (Int ⊕ (Unit ⊕ Bool)) :=
 cond (decide (s1 < (n.off.length : Int)))
 ((getI n.off s1).bind fun y3 =>
 (m_impl_within y3 0 60).bind fun y4 =>
 cond (!y4)
 (some (.inr (.inr false)))
 (cond (decide (0 < s1))
 ((getI n.off (w64 (s1 - 1))).bind fun y5 =>
 cond (decide (y3 ≤ y5))
 (some (.inr (.inr false)))
 (some (.inl (w64 (s1 + 1)))))
 (some (.inl (w64 (s1 + 1))))))
 (some (.inr (.inl ())))
instance (n : YNetwork) : LoopE (m_impl_IsNetwork_b1 n) := ⟨fun s1 => (.un :: .be 0 0 0 :: .un :: .un :: .un :: .un :: .un :: .un :: .un :: .un :: .un :: .un :: .un :: .un :: .un :: .un :: .un :: .un :: .un :: .sl (n.off.map cInt) :: vi (n.off.length : Int) :: vi s1 :: .un :: .un :: .un :: .un :: .un :: .un :: .un :: .un :: .un :: .un :: .un :: .un :: .un :: .un :: .un :: .un :: .un :: .un :: .un :: .un :: .un :: .un :: .un :: .un :: .un :: .un :: .un :: .un :: .un :: .un :: .un :: .un :: .un :: .un :: .un :: .un :: .un :: []), fun s1 => [some ⟨35, 3, [[.sl (n.legs.map cLeg), .sl (n.off.map cInt), vi n.change]]⟩]⟩
def m_impl_IsNetwork (n : YNetwork) : Option Bool :=
 (iterF (m_impl_IsNetwork_b0 n) NN 0).bind (selim (fun o0 =>
 (iterF (m_impl_IsNetwork_b1 n) NN 0).bind (selim (fun o1 =>
 cond (decide ((n.legs.length : Int) ≤ 20))
 (cond (decide ((n.off.length : Int) ≤ 10))
 ((m_impl_within n.change 0 240).bind fun y6 =>
 some y6)
 (some false))
 (some false)) (fun r => some r))) (fun r => some r))
theorem ok_impl_IsNetwork (n : YNetwork) {r : Bool} (H : m_impl_IsNetwork n = some r) : CallM Tryz.prog 150 [.ag (cNetwork n)] [] (vb r) [] := by
  replace H := H0 H
  unfold m_impl_IsNetwork at H
  refine callM_of Tryz.func150 rfl Tryz.ntmps150 Tryz.results150 fun Q hQ hQn => ?_
  exact wk
instance (n : YNetwork) : CT Tryz.prog (m_impl_IsNetwork n) := ⟨150, [.ag (cNetwork n)], [], fun r => vb r, fun r => [], ok_impl_IsNetwork n⟩
def m_spec_IsLeg (l : YLeg) : Option Bool :=
 (m_spec_IsPlace l.from_).bind fun y1 =>
 cond y1
 ((m_spec_IsPlace l.to_).bind fun y2 =>
 cond y2
 (cond (!decide (l.from_ = l.to_))
 ((m_spec_l1In l.start 0 1439).bind fun y3 =>
 cond y3
 ((m_spec_l1In l.takes 1 4320).bind fun y4 =>
 cond y4
 ((m_spec_l1In l.days 1 127).bind fun y5 =>
 cond y5
 ((m_spec_l1In l.room 0 1000000).bind fun y6 =>
 some y6)
 (some false))
 (some false))
 (some false))
 (some false))
 (some false))
 (some false)
theorem ok_spec_IsLeg (l : YLeg) {r : Bool} (H : m_spec_IsLeg l = some r) : CallM Tryz.prog 232 [.ag (cLeg l)] [] (vb r) [] := by
  replace H := H0 H
  unfold m_spec_IsLeg at H
  refine callM_of Tryz.func232 rfl Tryz.ntmps232 Tryz.results232 fun Q hQ hQn => ?_
  exact wk
instance (l : YLeg) : CT Tryz.prog (m_spec_IsLeg l) := ⟨232, [.ag (cLeg l)], [], fun r => vb r, fun r => [], ok_spec_IsLeg l⟩
def m_spec_IsNetwork_b0 (n : YNetwork) (s0 : Int) : Option (Int ⊕ (Unit ⊕ Bool)) :=
 cond (decide (s0 < (n.legs.length : Int)))
 ((getI n.legs s0).bind fun y1 =>
 (m_spec_IsLeg y1).bind fun y2 =>
 cond (!y2)
 (some (.inr (.inr false)))
 (some (.inl (w64 (s0 + 1)))))
 (some (.inr (.inl ())))
instance (n : YNetwork) : LoopE (m_spec_IsNetwork_b0 n) := ⟨fun s0 => (.un :: .be 0 0 0 :: .un :: vi s0 :: .un :: .un :: .un :: .un :: .un :: .un :: .un :: .un :: .un :: .un :: .un :: .un :: .un :: .un :: .un :: .un :: .un :: .un :: .un :: .un :: .un :: .un :: .un :: .un :: .un :: .un :: .un :: .un :: .un :: .un :: .un :: .un :: .un :: .un :: .un :: .un :: .un :: .un :: .un :: .un :: .un :: .un :: .un :: .un :: .un :: .un :: .un :: .un :: .un :: .un :: .un :: .un :: .un :: .un :: .un :: .un :: .un :: .un :: .un :: .un :: .un :: .un :: []), fun s0 => [some ⟨35, 3, [[.sl (n.legs.map cLeg), .sl (n.off.map cInt), vi n.change]]⟩]⟩
def m_spec_IsNetwork_b1 (n : YNetwork) (s1 : Int) : Option (Int ⊕ (Unit ⊕ Bool)) :=
 cond (decide (s1 < (n.off.length : Int)))
 ((getI n.off s1).bind fun y3 =>
 (m_spec_l1In y3 0 60).bind fun y4 =>
 cond (!y4)
 (some (.inr (.inr false)))
 (cond (decide (0 < s1))
 ((getI n.off (w64 (s1 - 1))).bind fun y5 =>
 (getI n.off s1).bind fun y6 =>
 cond (decide (y6 ≤ y5))
 (some (.inr (.inr false)))
 (some (.inl (w64 (s1 + 1)))))
 (some (.inl (w64 (s1 + 1))))))
 (some (.inr (.inl ())))
instance (n : YNetwork) : LoopE (m_spec_IsNetwork_b1 n) := ⟨fun s1 => (.un :: .be 0 0 0 :: .un :: .un :: vi s1 :: .un :: .un :: .un :: .un :: .un :: .un :: .un :: .un :: .un :: .un :: .un :: .un :: .un :: .un :: .un :: .un :: .un :: .un :: .un :: .un :: .un :: .un :: .un :: .un :: .un :: .un :: .un :: .un :: .un :: .un :: .un :: .un :: .un :: .un :: .un :: .un :: .un :: .un :: .un :: .un :: .un :: .un :: .un :: .un :: .un :: .un :: .un :: .un :: .un :: .un :: .un :: .un :: .un :: .un :: .un :: .un :: .un :: .un :: .un :: .un :: .un :: []), fun s1 => [some ⟨35, 3, [[.sl (n.legs.map cLeg), .sl (n.off.map cInt), vi n.change]]⟩]⟩
def m_spec_IsNetwork (n : YNetwork) : Option Bool :=
 (iterF (m_spec_IsNetwork_b0 n) NN 0).bind (selim (fun o0 =>
 (iterF (m_spec_IsNetwork_b1 n) NN 0).bind (selim (fun o1 =>
 cond (decide ((n.legs.length : Int) ≤ 20))
 (cond (decide ((n.off.length : Int) ≤ 10))
 ((m_spec_l1In n.change 0 240).bind fun y7 =>
 some y7)
 (some false))
 (some false)) (fun r => some r))) (fun r => some r))
theorem ok_spec_IsNetwork (n : YNetwork) {r : Bool} (H : m_spec_IsNetwork n = some r) : CallM Tryz.prog 181 [.ag (cNetwork n)] [] (vb r) [] := by
  replace H := H0 H
  unfold m_spec_IsNetwork at H
  refine callM_of Tryz.func181 rfl Tryz.ntmps181 Tryz.results181 fun Q hQ hQn => ?_
  exact wk
instance (n : YNetwork) : CT Tryz.prog (m_spec_IsNetwork n) := ⟨181, [.ag (cNetwork n)], [], fun r => vb r, fun r => [], ok_spec_IsNetwork n⟩
def m_impl_starts (n : YNetwork) (t : YTrip) : Option Int :=
 (getI n.legs t.leg).bind fun y1 =>
 some (w64 ((w64 (t.day * 1440)) + y1.start))
theorem ok_impl_starts (n : YNetwork) (t : YTrip) {r : Int} (H : m_impl_starts n t = some r) : CallM Tryz.prog 125 [.ag (cNetwork n), .ag (cTrip t)] [] (vi r) [] := by
  replace H := H0 H
  unfold m_impl_starts at H
  refine callM_of Tryz.func125 rfl Tryz.ntmps125 Tryz.results125 fun Q hQ hQn => ?_
  exact wk
instance (n : YNetwork) (t : YTrip) : CT Tryz.prog (m_impl_starts n t) := ⟨125, [.ag (cNetwork n), .ag (cTrip t)], [], fun r => vi r, fun r => [], ok_impl_starts n t⟩
def m_impl_ends (n : YNetwork) (t : YTrip) : Option Int :=
 (m_impl_starts n t).bind fun y1 =>
 (getI n.legs t.leg).bind fun y2 =>
 some (w64 (y1 + y2.takes))
theorem ok_impl_ends (n : YNetwork) (t : YTrip) {r : Int} (H : m_impl_ends n t = some r) : CallM Tryz.prog 121 [.ag (cNetwork n), .ag (cTrip t)] [] (vi r) [] := by
  replace H := H0 H
  unfold m_impl_ends at H
  refine callM_of Tryz.func121 rfl Tryz.ntmps121 Tryz.results121 fun Q hQ hQn => ?_
  exact wk
instance (n : YNetwork) (t : YTrip) : CT Tryz.prog (m_impl_ends n t) := ⟨121, [.ag (cNetwork n), .ag (cTrip t)], [], fun r => vi r, fun r => [], ok_impl_ends n t⟩
def m_spec_l3Starts (n : YNetwork) (t : YTrip) : Option Int :=
 (getI n.legs t.leg).bind fun y1 =>
 some (w64 ((w64 (t.day * 1440)) + y1.start))
theorem ok_spec_l3Starts (n : YNetwork) (t : YTrip) {r : Int} (H : m_spec_l3Starts n t = some r) : CallM Tryz.prog 119 [.ag (cNetwork n), .ag (cTrip t)] [] (vi r) [] := by
  replace H := H0 H
  unfold m_spec_l3Starts at H
  refine callM_of Tryz.func119 rfl Tryz.ntmps119 Tryz.results119 fun Q hQ hQn => ?_
  exact wk
instance (n : YNetwork) (t : YTrip) : CT Tryz.prog (m_spec_l3Starts n t) := ⟨119, [.ag (cNetwork n), .ag (cTrip t)], [], fun r => vi r, fun r => [], ok_spec_l3Starts n t⟩
def m_spec_l3Ends (n : YNetwork) (t : YTrip) : Option Int :=
 (m_spec_l3Starts n t).bind fun y1 =>
 (getI n.legs t.leg).bind fun y2 =>
 some (w64 (y1 + y2.takes))
theorem ok_spec_l3Ends (n : YNetwork) (t : YTrip) {r : Int} (H : m_spec_l3Ends n t = some r) : CallM Tryz.prog 164 [.ag (cNetwork n), .ag (cTrip t)] [] (vi r) [] := by
  replace H := H0 H
  unfold m_spec_l3Ends at H
  refine callM_of Tryz.func164 rfl Tryz.ntmps164 Tryz.results164 fun Q hQ hQn => ?_
  exact wk
instance (n : YNetwork) (t : YTrip) : CT Tryz.prog (m_spec_l3Ends n t) := ⟨164, [.ag (cNetwork n), .ag (cTrip t)], [], fun r => vi r, fun r => [], ok_spec_l3Ends n t⟩
end Go.Proofs.YtmcdjilbkmhfoaaGreat
namespace Go.Proofs.YtmcdjilbkmhfoaaGreat
set_option maxRecDepth 10000
open Go.RowKit
set_option linter.unusedVariables false
set_option linter.unusedSimpArgs false
theorem starts_eq : @m_impl_starts = @m_spec_l3Starts := rfl
theorem ends_eq : @m_impl_ends = @m_spec_l3Ends := rfl
def legFit (l : YLeg) : Prop := l.from_.size ≤ B60 ∧ l.to_.size ≤ B60
theorem isLeg_eq {l : YLeg} (h : legFit l) : m_impl_IsLeg l = m_spec_IsLeg l ∧ ∃ b, m_spec_IsLeg l = some b := by
  obtain ⟨e1, b1, s1⟩ := isPlace_eq (s := l.from_) h.1
  obtain ⟨e2, b2, s2⟩ := isPlace_eq (s := l.to_) h.2
  constructor
  · unfold m_impl_IsLeg m_spec_IsLeg; rw [e1, e2, within_eq]
  · unfold m_spec_IsLeg
    rw [s1, s2]
    simp only [Option.bind_some, l1In_v]
    cases b1 <;> cases b2 <;> cases (decide (l.from_ = l.to_)) <;> cases (decide (0 ≤ l.start) && decide (l.start ≤ 1439)) <;> cases (decide (1 ≤ l.takes) && decide (l.takes ≤ 4320)) <;> cases (decide (1 ≤ l.days) && decide (l.days ≤ 127)) <;> exact ⟨_, rfl⟩
structure NetFit (n : YNetwork) : Prop where
  legs : n.legs.length ≤ 1048576
  off : n.off.length ≤ 1048576
  leg : ∀ l ∈ n.legs, legFit l
theorem getI_mem {α : Type} {xs : List α} {i : Int} {x : α} (h : getI xs i = some x) : x ∈ xs := List.mem_of_getElem? (getI_some h).2
theorem netB0_eq {n : YNetwork} (h : NetFit n) : m_impl_IsNetwork_b0 n = m_spec_IsNetwork_b0 n := by
  funext i
  unfold m_impl_IsNetwork_b0 m_spec_IsNetwork_b0
  cases hg : getI n.legs i with
  | none => rfl
  | some y => simp only [Option.bind_some, (isLeg_eq (h.leg y (getI_mem hg))).1]
theorem netB1_eq {n : YNetwork} : m_impl_IsNetwork_b1 n = m_spec_IsNetwork_b1 n := by
  funext i
  unfold m_impl_IsNetwork_b1 m_spec_IsNetwork_b1
  rw [within_eq]
  cases hg : getI n.off i with
  | none => rfl
  | some y => simp only [Option.bind_some]
theorem netL0 {n : YNetwork} (h : NetFit n) : ∃ o, iterF (m_spec_IsNetwork_b0 n) NN 0 = some o := by
  refine iter_idx (n := n.legs.length) (by have := h.legs; unfold NN; omega) (fun i hi => ?_) ⟨_, by simp [m_spec_IsNetwork_b0]; rfl⟩
  have hw := w64_nat hi (by have := h.legs; omega)
  have hg : getI n.legs (i : Int) = some n.legs[i] := by rw [getI_nat]; exact List.getElem?_eq_getElem hi
  obtain ⟨b, hb⟩ := (isLeg_eq (h.leg _ (List.getElem_mem hi))).2
  cases b with
  | true => exact st_go (by simp only [m_spec_IsNetwork_b0, decide_eq_true (show (i : Int) < n.legs.length by omega), cond_true, hg, Option.bind_some, hb, hw, Bool.not_true, cond_false])
  | false => exact st_out (by simp only [m_spec_IsNetwork_b0, decide_eq_true (show (i : Int) < n.legs.length by omega), cond_true, hg, Option.bind_some, hb, Bool.not_false, cond_true]; rfl)
theorem netL1 {n : YNetwork} (h : NetFit n) : ∃ o, iterF (m_spec_IsNetwork_b1 n) NN 0 = some o := by
  refine iter_idx (n := n.off.length) (by have := h.off; unfold NN; omega) (fun i hi => ?_) ⟨_, by simp [m_spec_IsNetwork_b1]; rfl⟩
  have hw := w64_nat hi (by have := h.off; omega)
  have hg : getI n.off (i : Int) = some n.off[i] := by rw [getI_nat]; exact List.getElem?_eq_getElem hi
  have hd := decide_eq_true (show (i : Int) < n.off.length by omega)
  cases hb : decide (0 ≤ n.off[i]) && decide (n.off[i] ≤ 60) with
  | false => exact st_out (by simp only [m_spec_IsNetwork_b1, hd, cond_true, hg, Option.bind_some, l1In_v, hb, Bool.not_false]; rfl)
  | true =>
    by_cases h0 : 0 < (i : Int)
    · have hw2 : w64 ((i : Int) - 1) = ((i - 1 : Nat) : Int) := by rw [w64_in (by have := h.off; omega)]; omega
      have hg2 : getI n.off ((i - 1 : Nat) : Int) = some n.off[i - 1] := by rw [getI_nat]; exact List.getElem?_eq_getElem (by omega)
      cases hc : decide (n.off[i] ≤ n.off[i - 1]) with
      | true => exact st_out (by simp only [m_spec_IsNetwork_b1, hd, cond_true, hg, Option.bind_some, l1In_v, hb, Bool.not_true, cond_false, decide_eq_true h0, hw2, hg2, hc]; rfl)
      | false => exact st_go (by simp only [m_spec_IsNetwork_b1, hd, cond_true, hg, Option.bind_some, l1In_v, hb, Bool.not_true, cond_false, decide_eq_true h0, hw2, hg2, hc, hw])
    · exact st_go (by simp only [m_spec_IsNetwork_b1, hd, cond_true, hg, Option.bind_some, l1In_v, hb, Bool.not_true, cond_false, decide_eq_false h0, hw])
theorem isNetwork_eq {n : YNetwork} (h : NetFit n) : m_impl_IsNetwork n = m_spec_IsNetwork n ∧ ∃ b, m_spec_IsNetwork n = some b := by
  constructor
  · unfold m_impl_IsNetwork m_spec_IsNetwork; rw [netB0_eq h, netB1_eq, within_eq]
  · obtain ⟨o0, h0⟩ := netL0 h
    obtain ⟨o1, h1⟩ := netL1 h
    unfold m_spec_IsNetwork
    rw [h0, h1]
    simp only [Option.bind_some, l1In_v]
    rcases o0 with o0 | o0
    · rcases o1 with o1 | o1
      · simp only [selim]
        cases decide ((n.legs.length : Int) ≤ 20) <;> cases decide ((n.off.length : Int) ≤ 10) <;> exact ⟨_, rfl⟩
      · exact ⟨_, rfl⟩
    · exact ⟨_, rfl⟩
end Go.Proofs.YtmcdjilbkmhfoaaGreat
namespace Go.Proofs.YtmcdjilbkmhfoaaGreat
set_option maxRecDepth 10000
open Go.RowKit
set_option linter.unusedVariables false
set_option maxHeartbeats 16000000
def m_impl_runs_b0 (n : YNetwork) (day : Int) (s0 : Int) : Option (Int ⊕ (Unit ⊕ Bool)) :=
 cond (decide (s0 < (n.off.length : Int)))
 ((getI n.off s0).bind fun y3 =>
 cond (decide (y3 = day))
 (some (.inr (.inr false)))
 (some (.inl (w64 (s0 + 1)))))
 (some (.inr (.inl ())))
instance (n : YNetwork) (day : Int) : LoopE (m_impl_runs_b0 n day) := ⟨fun s0 => [.un, .un, vi day, .un, .un, .un, .un, .un, .un, .un, .un, .un, .un, .un, .un, .un, .un, .un, .un, .un, .un, .un, .un, .un, .un, .un, .un, .un, .un, .un, .un, .un, .un, .un, .un, .un, .un, .sl (n.off.map cInt), vi (n.off.length : Int), vi s0, .un, .un, .un, .un, .un, .un, .un], fun s0 => []⟩
def m_impl_runs (n : YNetwork) (leg : Int) (day : Int) : Option Bool :=
 cond (decide (leg < 0))
 (some false)
 (cond (decide ((n.legs.length : Int) ≤ leg))
 (some false)
 ((m_impl_within day 0 60).bind fun y1 =>
 cond (!y1)
 (some false)
 ((getI n.legs leg).bind fun y2 =>
 (chk (decide (0 ≤ (Int.tmod day 7)))).bind fun _ =>
 cond (decide ((IntKind.i64.wrap (BitVec.ofInt IntKind.i64.bits (Int.fdiv y2.days (2 ^ (min (Int.toNat (Int.tmod day 7)) IntKind.i64.bits))) &&& BitVec.ofInt IntKind.i64.bits 1).toNat) = 0))
 (some false)
 ((iterF (m_impl_runs_b0 n day) NN 0).bind (selim (fun o0 =>
 some true) (fun r => some r))))))
theorem ok_impl_runs (n : YNetwork) (leg : Int) (day : Int) {r : Bool} (H : m_impl_runs n leg day = some r) : CallM Tryz.prog 157 [.ag (cNetwork n), vi leg, vi day] [] (vb r) [] := by
  replace H := H0 H
  unfold m_impl_runs at H
  refine callM_of Tryz.func157 rfl Tryz.ntmps157 Tryz.results157 fun Q hQ hQn => ?_
  exact wk
instance (n : YNetwork) (leg : Int) (day : Int) : CT Tryz.prog (m_impl_runs n leg day) := ⟨157, [.ag (cNetwork n), vi leg, vi day], [], fun r => vb r, fun r => [], ok_impl_runs n leg day⟩
def m_impl_RunsOn (n : YNetwork) (leg : Int) (day : Int) : Option Bool :=
 (m_impl_IsNetwork n).bind fun y1 =>
 cond y1
 ((m_impl_runs n leg day).bind fun y2 =>
 some y2)
 (some false)
theorem ok_impl_RunsOn (n : YNetwork) (leg : Int) (day : Int) {r : Bool} (H : m_impl_RunsOn n leg day = some r) : CallM Tryz.prog 193 [.ag (cNetwork n), vi leg, vi day] [] (vb r) [] := by
  replace H := H0 H
  unfold m_impl_RunsOn at H
  refine callM_of Tryz.func193 rfl Tryz.ntmps193 Tryz.results193 fun Q hQ hQn => ?_
  exact wk
instance (n : YNetwork) (leg : Int) (day : Int) : CT Tryz.prog (m_impl_RunsOn n leg day) := ⟨193, [.ag (cNetwork n), vi leg, vi day], [], fun r => vb r, fun r => [], ok_impl_RunsOn n leg day⟩
def m_impl_IsTrip (n : YNetwork) (t : YTrip) : Option Bool :=
 (m_impl_RunsOn n t.leg t.day).bind fun y1 =>
 some y1
theorem ok_impl_IsTrip (n : YNetwork) (t : YTrip) {r : Bool} (H : m_impl_IsTrip n t = some r) : CallM Tryz.prog 124 [.ag (cNetwork n), .ag (cTrip t)] [] (vb r) [] := by
  replace H := H0 H
  unfold m_impl_IsTrip at H
  refine callM_of Tryz.func124 rfl Tryz.ntmps124 Tryz.results124 fun Q hQ hQn => ?_
  exact wk
instance (n : YNetwork) (t : YTrip) : CT Tryz.prog (m_impl_IsTrip n t) := ⟨124, [.ag (cNetwork n), .ag (cTrip t)], [], fun r => vb r, fun r => [], ok_impl_IsTrip n t⟩
def m_spec_l1Has_b0 (l : List Int) (x : Int) (s0 : Int) : Option (Int ⊕ (Unit ⊕ Bool)) :=
 cond (decide (s0 < (l.length : Int)))
 ((getI l s0).bind fun y1 =>
 cond (decide (y1 = x))
 (some (.inr (.inr true)))
 (some (.inl (w64 (s0 + 1)))))
 (some (.inr (.inl ())))
instance (l : List Int) (x : Int) : LoopE (m_spec_l1Has_b0 l x) := ⟨fun s0 => [.sl (l.map cInt), vi x, .un, .un, .un, vi s0, .un, .un, .un, .un, .un, .un, .un, .un, .un, .un, .un, .un], fun s0 => []⟩
def m_spec_l1Has (l : List Int) (x : Int) : Option Bool :=
 (iterF (m_spec_l1Has_b0 l x) NN 0).bind (selim (fun o0 =>
 some false) (fun r => some r))
theorem ok_spec_l1Has (l : List Int) (x : Int) {r : Bool} (H : m_spec_l1Has l x = some r) : CallM Tryz.prog 184 [.sl (l.map cInt), vi x] [] (vb r) [] := by
  replace H := H0 H
  unfold m_spec_l1Has at H
  refine callM_of Tryz.func184 rfl Tryz.ntmps184 Tryz.results184 fun Q hQ hQn => ?_
  exact wk
instance (l : List Int) (x : Int) : CT Tryz.prog (m_spec_l1Has l x) := ⟨184, [.sl (l.map cInt), vi x], [], fun r => vb r, fun r => [], ok_spec_l1Has l x⟩
def m_spec_l3Runs (n : YNetwork) (leg : Int) (day : Int) : Option Bool :=
 (m_spec_l1In leg 0 (w64 ((n.legs.length : Int) - 1))).bind fun y1 =>
 cond y1
 ((m_spec_l1In day 0 60).bind fun y2 =>
 cond y2
 ((getI n.legs leg).bind fun y3 =>
 (chk (decide (0 ≤ (Int.tmod day 7)))).bind fun _ =>
 cond (decide ((IntKind.i64.wrap (BitVec.ofInt IntKind.i64.bits (Int.fdiv y3.days (2 ^ (min (Int.toNat (Int.tmod day 7)) IntKind.i64.bits))) &&& BitVec.ofInt IntKind.i64.bits 1).toNat) = 1))
 ((m_spec_l1Has n.off day).bind fun y4 =>
 some (!y4))
 (some false))
 (some false))
 (some false)
theorem ok_spec_l3Runs (n : YNetwork) (leg : Int) (day : Int) {r : Bool} (H : m_spec_l3Runs n leg day = some r) : CallM Tryz.prog 108 [.ag (cNetwork n), vi leg, vi day] [] (vb r) [] := by
  replace H := H0 H
  unfold m_spec_l3Runs at H
  refine callM_of Tryz.func108 rfl Tryz.ntmps108 Tryz.results108 fun Q hQ hQn => ?_
  exact wk
instance (n : YNetwork) (leg : Int) (day : Int) : CT Tryz.prog (m_spec_l3Runs n leg day) := ⟨108, [.ag (cNetwork n), vi leg, vi day], [], fun r => vb r, fun r => [], ok_spec_l3Runs n leg day⟩
def m_spec_RunsOn (n : YNetwork) (leg : Int) (day : Int) : Option Bool :=
 (m_spec_IsNetwork n).bind fun y1 =>
 cond y1
 ((m_spec_l3Runs n leg day).bind fun y2 =>
 some y2)
 (some false)
theorem ok_spec_RunsOn (n : YNetwork) (leg : Int) (day : Int) {r : Bool} (H : m_spec_RunsOn n leg day = some r) : CallM Tryz.prog 118 [.ag (cNetwork n), vi leg, vi day] [] (vb r) [] := by
  replace H := H0 H
  unfold m_spec_RunsOn at H
  refine callM_of Tryz.func118 rfl Tryz.ntmps118 Tryz.results118 fun Q hQ hQn => ?_
  exact wk
instance (n : YNetwork) (leg : Int) (day : Int) : CT Tryz.prog (m_spec_RunsOn n leg day) := ⟨118, [.ag (cNetwork n), vi leg, vi day], [], fun r => vb r, fun r => [], ok_spec_RunsOn n leg day⟩
def m_spec_IsTrip (n : YNetwork) (t : YTrip) : Option Bool :=
 (m_spec_RunsOn n t.leg t.day).bind fun y1 =>
 some y1
theorem ok_spec_IsTrip (n : YNetwork) (t : YTrip) {r : Bool} (H : m_spec_IsTrip n t = some r) : CallM Tryz.prog 31 [.ag (cNetwork n), .ag (cTrip t)] [] (vb r) [] := by
  replace H := H0 H
  unfold m_spec_IsTrip at H
  refine callM_of Tryz.func31 rfl Tryz.ntmps31 Tryz.results31 fun Q hQ hQn => ?_
  exact wk
instance (n : YNetwork) (t : YTrip) : CT Tryz.prog (m_spec_IsTrip n t) := ⟨31, [.ag (cNetwork n), .ag (cTrip t)], [], fun r => vb r, fun r => [], ok_spec_IsTrip n t⟩
def m_impl_hasTrip_b0 (l : List YTrip) (t : YTrip) (s0 : Int) : Option (Int ⊕ (Unit ⊕ Bool)) :=
 cond (decide (s0 < (l.length : Int)))
 ((getI l s0).bind fun y1 =>
 cond (decide (y1 = t))
 (some (.inr (.inr true)))
 (some (.inl (w64 (s0 + 1)))))
 (some (.inr (.inl ())))
instance (l : List YTrip) (t : YTrip) : LoopE (m_impl_hasTrip_b0 l t) := ⟨fun s0 => [.un, .un, .un, .be 0 0 0, .un, .un, .un, .sl (l.map cTrip), vi (l.length : Int), vi s0, .un, .un, .un, .un, .un, .un, .un], fun s0 => [some ⟨55, 2, [[vi t.leg, vi t.day]]⟩]⟩
def m_impl_hasTrip (l : List YTrip) (t : YTrip) : Option Bool :=
 (iterF (m_impl_hasTrip_b0 l t) NN 0).bind (selim (fun o0 =>
 some false) (fun r => some r))
theorem ok_impl_hasTrip (l : List YTrip) (t : YTrip) {r : Bool} (H : m_impl_hasTrip l t = some r) : CallM Tryz.prog 126 [.sl (l.map cTrip), .ag (cTrip t)] [] (vb r) [] := by
  replace H := H0 H
  unfold m_impl_hasTrip at H
  refine callM_of Tryz.func126 rfl Tryz.ntmps126 Tryz.results126 fun Q hQ hQn => ?_
  exact wk
instance (l : List YTrip) (t : YTrip) : CT Tryz.prog (m_impl_hasTrip l t) := ⟨126, [.sl (l.map cTrip), .ag (cTrip t)], [], fun r => vb r, fun r => [], ok_impl_hasTrip l t⟩
def m_spec_l6Closed_b0 (l : List YTrip) (t : YTrip) (s0 : Int) : Option (Int ⊕ (Unit ⊕ Bool)) :=
 cond (decide (s0 < (l.length : Int)))
 ((getI l s0).bind fun y1 =>
 cond (decide (y1 = t))
 (some (.inr (.inr true)))
 (some (.inl (w64 (s0 + 1)))))
 (some (.inr (.inl ())))
instance (l : List YTrip) (t : YTrip) : LoopE (m_spec_l6Closed_b0 l t) := ⟨fun s0 => [.sl (l.map cTrip), .un, .un, .be 0 0 0, .un, vi s0, .un, .un, .un, .un, .un, .un, .un, .un, .un, .un, .un, .un], fun s0 => [some ⟨55, 2, [[vi t.leg, vi t.day]]⟩]⟩
def m_spec_l6Closed (l : List YTrip) (t : YTrip) : Option Bool :=
 (iterF (m_spec_l6Closed_b0 l t) NN 0).bind (selim (fun o0 =>
 some false) (fun r => some r))
theorem ok_spec_l6Closed (l : List YTrip) (t : YTrip) {r : Bool} (H : m_spec_l6Closed l t = some r) : CallM Tryz.prog 109 [.sl (l.map cTrip), .ag (cTrip t)] [] (vb r) [] := by
  replace H := H0 H
  unfold m_spec_l6Closed at H
  refine callM_of Tryz.func109 rfl Tryz.ntmps109 Tryz.results109 fun Q hQ hQn => ?_
  exact wk
instance (l : List YTrip) (t : YTrip) : CT Tryz.prog (m_spec_l6Closed l t) := ⟨109, [.sl (l.map cTrip), .ag (cTrip t)], [], fun r => vb r, fun r => [], ok_spec_l6Closed l t⟩
def m_impl_LoadOf_b0 (l : List YBooking) (t : YTrip) (s0 : Int × Int) : Option ((Int × Int) ⊕ Int) :=
 cond (decide (s0.2 < (l.length : Int)))
 ((getI l s0.2).bind fun y1 =>
 cond (decide (y1.trip = t))
 (some (.inl ((w64 (s0.1 + y1.weight)), (w64 (s0.2 + 1)))))
 (some (.inl (s0.1, (w64 (s0.2 + 1))))))
 (some (.inr s0.1))
instance (l : List YBooking) (t : YTrip) : LoopE (m_impl_LoadOf_b0 l t) := ⟨fun s0 => [.un, .un, .un, .be 0 0 0, .un, vi s0.1, .un, .un, .sl (l.map cBooking), vi (l.length : Int), vi s0.2, .un, .un, .un, .un, .un, .un, .un, .un, .un, .un, .un, .un, .un], fun s0 => [some ⟨55, 2, [[vi t.leg, vi t.day]]⟩]⟩
def m_impl_LoadOf (l : List YBooking) (t : YTrip) : Option Int :=
 (iterF (m_impl_LoadOf_b0 l t) NN (0, 0)).bind (fun o0 =>
 some o0)
theorem ok_impl_LoadOf (l : List YBooking) (t : YTrip) {r : Int} (H : m_impl_LoadOf l t = some r) : CallM Tryz.prog 36 [.sl (l.map cBooking), .ag (cTrip t)] [] (vi r) [] := by
  replace H := H0 H
  unfold m_impl_LoadOf at H
  refine callM_of Tryz.func36 rfl Tryz.ntmps36 Tryz.results36 fun Q hQ hQn => ?_
  exact wk
instance (l : List YBooking) (t : YTrip) : CT Tryz.prog (m_impl_LoadOf l t) := ⟨36, [.sl (l.map cBooking), .ag (cTrip t)], [], fun r => vi r, fun r => [], ok_impl_LoadOf l t⟩
def m_spec_LoadOf_b0 (l : List YBooking) (t : YTrip) (s0 : Int × Int) : Option ((Int × Int) ⊕ Int) :=
 cond (decide (s0.2 < (l.length : Int)))
 ((getI l s0.2).bind fun y1 =>
 cond (decide (y1.trip = t))
 ((getI l s0.2).bind fun y2 =>
 some (.inl ((w64 (s0.1 + y2.weight)), (w64 (s0.2 + 1)))))
 (some (.inl (s0.1, (w64 (s0.2 + 1))))))
 (some (.inr s0.1))
instance (l : List YBooking) (t : YTrip) : LoopE (m_spec_LoadOf_b0 l t) := ⟨fun s0 => [.sl (l.map cBooking), .un, .un, .be 0 0 0, .un, vi s0.1, vi s0.2, .un, .un, .un, .un, .un, .un, .un, .un, .un, .un, .un, .un, .un, .un, .un, .un, .un, .un, .un, .un, .un], fun s0 => [some ⟨55, 2, [[vi t.leg, vi t.day]]⟩]⟩
def m_spec_LoadOf (l : List YBooking) (t : YTrip) : Option Int :=
 (iterF (m_spec_LoadOf_b0 l t) NN (0, 0)).bind (fun o0 =>
 some o0)
theorem ok_spec_LoadOf (l : List YBooking) (t : YTrip) {r : Int} (H : m_spec_LoadOf l t = some r) : CallM Tryz.prog 183 [.sl (l.map cBooking), .ag (cTrip t)] [] (vi r) [] := by
  replace H := H0 H
  unfold m_spec_LoadOf at H
  refine callM_of Tryz.func183 rfl Tryz.ntmps183 Tryz.results183 fun Q hQ hQn => ?_
  exact wk
instance (l : List YBooking) (t : YTrip) : CT Tryz.prog (m_spec_LoadOf l t) := ⟨183, [.sl (l.map cBooking), .ag (cTrip t)], [], fun r => vi r, fun r => [], ok_spec_LoadOf l t⟩
end Go.Proofs.YtmcdjilbkmhfoaaGreat
namespace Go.Proofs.YtmcdjilbkmhfoaaGreat
set_option maxRecDepth 10000
open Go.RowKit
set_option linter.unusedVariables false
set_option linter.unusedSimpArgs false
theorem l1Has_v {l : List Int} (h : l.length ≤ 1048576) (x : Int) : m_spec_l1Has l x = some (l.any fun y => decide (y = x)) := by
  unfold m_spec_l1Has
  rw [iter_find (xs := l) (p := fun y => decide (y = x)) (r := .inr true) (e := .inl ()) (fun i hi => ?_) (by simp [m_spec_l1Has_b0]) (by unfold NN; omega)]
  · cases l.any fun y => decide (y = x) <;> rfl
  · have hw := w64_nat hi (by omega)
    have hg : getI l (i : Int) = some l[i] := by rw [getI_nat]; exact List.getElem?_eq_getElem hi
    simp only [m_spec_l1Has_b0, decide_eq_true (show (i : Int) < l.length by omega), cond_true, hg, Option.bind_some, hw]
    cases decide (l[i] = x) <;> rfl
theorem hasTrip_v {l : List YTrip} (h : l.length ≤ 1048576) (x : YTrip) : m_impl_hasTrip l x = some (l.any fun y => decide (y = x)) := by
  unfold m_impl_hasTrip
  rw [iter_find (xs := l) (p := fun y => decide (y = x)) (r := .inr true) (e := .inl ()) (fun i hi => ?_) (by simp [m_impl_hasTrip_b0]) (by unfold NN; omega)]
  · cases l.any fun y => decide (y = x) <;> rfl
  · have hw := w64_nat hi (by omega)
    have hg : getI l (i : Int) = some l[i] := by rw [getI_nat]; exact List.getElem?_eq_getElem hi
    simp only [m_impl_hasTrip_b0, decide_eq_true (show (i : Int) < l.length by omega), cond_true, hg, Option.bind_some, hw]
    cases decide (l[i] = x) <;> rfl
theorem l6Closed_eq : @m_spec_l6Closed = @m_impl_hasTrip := rfl
theorem impl_off_v {n : YNetwork} (h : n.off.length ≤ 1048576) (x : Int) : (iterF (m_impl_runs_b0 n x) NN 0).bind (selim (fun _ => some true) (fun r => some r)) = some (!(n.off.any fun y => decide (y = x))) := by
  rw [iter_find (xs := n.off) (p := fun y => decide (y = x)) (r := .inr false) (e := .inl ()) (fun i hi => ?_) (by simp [m_impl_runs_b0]) (by unfold NN; omega)]
  · cases n.off.any fun y => decide (y = x) <;> rfl
  · have hw := w64_nat hi (by omega)
    have hg : getI n.off (i : Int) = some n.off[i] := by rw [getI_nat]; exact List.getElem?_eq_getElem hi
    simp only [m_impl_runs_b0, decide_eq_true (show (i : Int) < n.off.length by omega), cond_true, hg, Option.bind_some, hw]
    cases decide (n.off[i] = x) <;> rfl
def lowBit (x : Int) : Int := IntKind.i64.wrap (BitVec.ofInt IntKind.i64.bits x &&& BitVec.ofInt IntKind.i64.bits 1).toNat
theorem lowBit_01 (x : Int) : lowBit x = 0 ∨ lowBit x = 1 := by
  unfold lowBit
  have h : (BitVec.ofInt IntKind.i64.bits x &&& BitVec.ofInt IntKind.i64.bits 1).toNat ≤ 1 := by
    rw [BitVec.toNat_and]
    refine Nat.le_trans Nat.and_le_right ?_
    decide
  rw [show IntKind.i64.wrap ((BitVec.ofInt IntKind.i64.bits x &&& BitVec.ofInt IntKind.i64.bits 1).toNat : Int) = ((BitVec.ofInt IntKind.i64.bits x &&& BitVec.ofInt IntKind.i64.bits 1).toNat : Int) from w64_in (by omega)]
  omega
theorem runs_eq {n : YNetwork} (h : NetFit n) (leg day : Int) : m_impl_runs n leg day = m_spec_l3Runs n leg day ∧ ∃ b, m_spec_l3Runs n leg day = some b := by
  have hl := h.legs
  have hw : w64 ((n.legs.length : Int) - 1) = n.legs.length - 1 := w64_in (by omega)
  unfold m_impl_runs m_spec_l3Runs
  rw [within_eq, hw, l1In_v, l1In_v]
  simp only [Option.bind_some]
  by_cases h1 : leg < 0
  · simp only [decide_eq_true h1, decide_eq_false (show ¬ 0 ≤ leg by omega), cond_true, Bool.false_and, cond_false]
    exact ⟨trivial, _, rfl⟩
  by_cases h2 : (n.legs.length : Int) ≤ leg
  · simp only [decide_eq_false h1, decide_eq_true h2, decide_eq_false (show ¬ leg ≤ (n.legs.length : Int) - 1 by omega), cond_true, Bool.and_false, cond_false]
    exact ⟨trivial, _, rfl⟩
  simp only [decide_eq_false h1, decide_eq_false h2, decide_eq_true (show 0 ≤ leg by omega), decide_eq_true (show leg ≤ (n.legs.length : Int) - 1 by omega), cond_true, Bool.and_true, cond_false]
  by_cases h3 : 0 ≤ day ∧ day ≤ 60
  · simp only [decide_eq_true h3.1, decide_eq_true h3.2, Bool.and_true, Bool.not_true, cond_false, cond_true]
    have hg : getI n.legs leg = some (n.legs[leg.toNat]'(by omega)) := by
      unfold getI; rw [if_pos (by omega)]; exact List.getElem?_eq_getElem _
    rw [hg]
    simp only [Option.bind_some]
    have hm : 0 ≤ Int.tmod day 7 := Int.tmod_nonneg 7 h3.1
    rw [chk_t (decide_eq_true hm)]
    simp only [Option.bind_some]
    rw [impl_off_v h.off, l1Has_v h.off]
    generalize Int.fdiv _ _ = q
    have hb := lowBit_01 q
    unfold lowBit at hb
    rcases hb with hb | hb
    · rw [hb]; exact ⟨rfl, _, rfl⟩
    · rw [hb]; exact ⟨rfl, _, rfl⟩
  · have : (decide (0 ≤ day) && decide (day ≤ 60)) = false := by rw [← Bool.decide_and]; exact decide_eq_false h3
    rw [this]
    exact ⟨rfl, _, rfl⟩
theorem runsOn_eq {n : YNetwork} (h : NetFit n) (leg day : Int) : m_impl_RunsOn n leg day = m_spec_RunsOn n leg day ∧ ∃ b, m_spec_RunsOn n leg day = some b := by
  obtain ⟨e, b, s⟩ := isNetwork_eq h
  obtain ⟨e2, b2, s2⟩ := runs_eq h leg day
  unfold m_impl_RunsOn m_spec_RunsOn
  rw [e, e2, s, s2]
  refine ⟨rfl, ?_⟩
  cases b <;> exact ⟨_, rfl⟩
theorem isTrip_eq {n : YNetwork} (h : NetFit n) (t : YTrip) : m_impl_IsTrip n t = m_spec_IsTrip n t ∧ ∃ b, m_spec_IsTrip n t = some b := by
  obtain ⟨e, b, s⟩ := runsOn_eq h t.leg t.day
  unfold m_impl_IsTrip m_spec_IsTrip
  rw [e, s]
  exact ⟨rfl, _, rfl⟩
theorem loadOf_eq : @m_impl_LoadOf = @m_spec_LoadOf := by
  funext l t
  unfold m_impl_LoadOf m_spec_LoadOf
  have : m_impl_LoadOf_b0 l t = m_spec_LoadOf_b0 l t := by
    funext s
    unfold m_impl_LoadOf_b0 m_spec_LoadOf_b0
    cases hg : getI l s.2 with
    | none => rfl
    | some y => simp only [Option.bind_some]
  rw [this]
end Go.Proofs.YtmcdjilbkmhfoaaGreat
namespace Go.Proofs.YtmcdjilbkmhfoaaGreat
set_option maxRecDepth 10000
open Go.RowKit
set_option linter.unusedVariables false
set_option maxHeartbeats 16000000
def m_impl_compareInts (a : Int) (b : Int) : Option Int :=
 cond (decide (a < b))
 (some (-1))
 (cond (decide (b < a))
 (some 1)
 (some 0))
theorem ok_impl_compareInts (a : Int) (b : Int) {r : Int} (H : m_impl_compareInts a b = some r) : CallM Tryz.prog 244 [vi a, vi b] [] (vi r) [] := by
  replace H := H0 H
  unfold m_impl_compareInts at H
  refine callM_of Tryz.func244 rfl Tryz.ntmps244 Tryz.results244 fun Q hQ hQn => ?_
  exact wk
instance (a : Int) (b : Int) : CT Tryz.prog (m_impl_compareInts a b) := ⟨244, [vi a, vi b], [], fun r => vi r, fun r => [], ok_impl_compareInts a b⟩
def m_impl_first_b0 (list : List Int) (s0 : Int) : Option (Int ⊕ (Unit ⊕ Int)) :=
 cond (decide (s0 < (list.length : Int)))
 ((getI list s0).bind fun y1 =>
 cond (!decide (y1 = 0))
 (some (.inr (.inr y1)))
 (some (.inl (w64 (s0 + 1)))))
 (some (.inr (.inl ())))
instance (list : List Int) : LoopE (m_impl_first_b0 list) := ⟨fun s0 => [.un, .un, .un, .un, .un, .sl (list.map cInt), vi (list.length : Int), vi s0, .un, .un, .un, .un, .un, .un, .un], fun s0 => []⟩
def m_impl_first (list : List Int) : Option Int :=
 (iterF (m_impl_first_b0 list) NN 0).bind (selim (fun o0 =>
 some 0) (fun r => some r))
theorem ok_impl_first (list : List Int) {r : Int} (H : m_impl_first list = some r) : CallM Tryz.prog 243 [.sl (list.map cInt)] [] (vi r) [] := by
  replace H := H0 H
  unfold m_impl_first at H
  refine callM_of Tryz.func243 rfl Tryz.ntmps243 Tryz.results243 fun Q hQ hQn => ?_
  exact wk
instance (list : List Int) : CT Tryz.prog (m_impl_first list) := ⟨243, [.sl (list.map cInt)], [], fun r => vi r, fun r => [], ok_impl_first list⟩
def m_impl_compareBookings (a : YBooking) (b : YBooking) : Option Int :=
 (m_impl_compareInts a.trip.day b.trip.day).bind fun y1 =>
 (m_impl_compareInts a.trip.leg b.trip.leg).bind fun y2 =>
 (m_impl_compareInts a.thing b.thing).bind fun y3 =>
 (m_impl_first ([y1, y2, y3])).bind fun y4 =>
 some y4
theorem ok_impl_compareBookings (a : YBooking) (b : YBooking) {r : Int} (H : m_impl_compareBookings a b = some r) : CallM Tryz.prog 202 [.ag (cBooking a), .ag (cBooking b)] [] (vi r) [] := by
  replace H := H0 H
  unfold m_impl_compareBookings at H
  refine callM_of Tryz.func202 rfl Tryz.ntmps202 Tryz.results202 fun Q hQ hQn => ?_
  exact wk
instance (a : YBooking) (b : YBooking) : CT Tryz.prog (m_impl_compareBookings a b) := ⟨202, [.ag (cBooking a), .ag (cBooking b)], [], fun r => vi r, fun r => [], ok_impl_compareBookings a b⟩
def m_impl_AreBookings_b0 (n : YNetwork) (l : List YBooking) (s0 : Int) : Option (Int ⊕ (Unit ⊕ Bool)) :=
 cond (decide (s0 < (l.length : Int)))
 ((getI l s0).bind fun y2 =>
 cond (decide (0 < s0))
 ((getI l (w64 (s0 - 1))).bind fun y3 =>
 (m_impl_compareBookings y3 y2).bind fun y4 =>
 cond (decide (0 ≤ y4))
 (some (.inr (.inr false)))
 ((m_impl_IsTrip n y2.trip).bind fun y5 =>
 cond (!y5)
 (some (.inr (.inr false)))
 ((m_impl_within y2.thing 1 9999).bind fun y6 =>
 cond (!y6)
 (some (.inr (.inr false)))
 ((m_impl_within y2.weight 1 1000000).bind fun y7 =>
 cond (!y7)
 (some (.inr (.inr false)))
 ((m_impl_LoadOf l y2.trip).bind fun y8 =>
 (getI n.legs y2.trip.leg).bind fun y9 =>
 cond (decide (y9.room < y8))
 (some (.inr (.inr false)))
 (some (.inl (w64 (s0 + 1)))))))))
 ((m_impl_IsTrip n y2.trip).bind fun y10 =>
 cond (!y10)
 (some (.inr (.inr false)))
 ((m_impl_within y2.thing 1 9999).bind fun y11 =>
 cond (!y11)
 (some (.inr (.inr false)))
 ((m_impl_within y2.weight 1 1000000).bind fun y12 =>
 cond (!y12)
 (some (.inr (.inr false)))
 ((m_impl_LoadOf l y2.trip).bind fun y13 =>
 (getI n.legs y2.trip.leg).bind fun y14 =>
 cond (decide (y14.room < y13))
 (some (.inr (.inr false)))
 (some (.inl (w64 (s0 + 1)))))))))
 (some (.inr (.inl ())))
instance (n : YNetwork) (l : List YBooking) : LoopE (m_impl_AreBookings_b0 n l) := ⟨fun s0 => (.un :: .sl (l.map cBooking) :: .be 0 0 0 :: .un :: .un :: .un :: .un :: .un :: .un :: .un :: .un :: .un :: .un :: .un :: .un :: .sl (l.map cBooking) :: vi (l.length : Int) :: vi s0 :: .un :: .un :: .un :: .un :: .un :: .un :: .un :: .un :: .un :: .un :: .un :: .un :: .un :: .un :: .un :: .un :: .un :: .un :: .un :: .un :: .un :: .un :: .un :: .un :: .un :: .un :: .un :: .un :: .un :: .un :: .un :: .un :: .un :: .un :: .un :: .un :: .un :: .un :: .un :: .un :: .un :: .un :: .un :: .un :: .un :: .un :: .un :: .un :: .un :: .un :: .un :: []), fun s0 => [some ⟨35, 3, [[.sl (n.legs.map cLeg), .sl (n.off.map cInt), vi n.change]]⟩]⟩
def m_impl_AreBookings (n : YNetwork) (l : List YBooking) : Option Bool :=
 (m_impl_IsNetwork n).bind fun y1 =>
 cond (!y1)
 (some false)
 (cond (decide (120 < (l.length : Int)))
 (some false)
 ((iterF (m_impl_AreBookings_b0 n l) NN 0).bind (selim (fun o0 =>
 some true) (fun r => some r))))
theorem ok_impl_AreBookings (n : YNetwork) (l : List YBooking) {r : Bool} (H : m_impl_AreBookings n l = some r) : CallM Tryz.prog 139 [.ag (cNetwork n), .sl (l.map cBooking)] [] (vb r) [] := by
  replace H := H0 H
  unfold m_impl_AreBookings at H
  refine callM_of Tryz.func139 rfl Tryz.ntmps139 Tryz.results139 fun Q hQ hQn => ?_
  exact wk
instance (n : YNetwork) (l : List YBooking) : CT Tryz.prog (m_impl_AreBookings n l) := ⟨139, [.ag (cNetwork n), .sl (l.map cBooking)], [], fun r => vb r, fun r => [], ok_impl_AreBookings n l⟩
def m_spec_l6Before (a : YBooking) (b : YBooking) : Option Bool :=
 cond (!decide (a.trip.day = b.trip.day))
 (some (decide (a.trip.day < b.trip.day)))
 (cond (!decide (a.trip.leg = b.trip.leg))
 (some (decide (a.trip.leg < b.trip.leg)))
 (some (decide (a.thing < b.thing))))
theorem ok_spec_l6Before (a : YBooking) (b : YBooking) {r : Bool} (H : m_spec_l6Before a b = some r) : CallM Tryz.prog 182 [.ag (cBooking a), .ag (cBooking b)] [] (vb r) [] := by
  replace H := H0 H
  unfold m_spec_l6Before at H
  refine callM_of Tryz.func182 rfl Tryz.ntmps182 Tryz.results182 fun Q hQ hQn => ?_
  exact wk
instance (a : YBooking) (b : YBooking) : CT Tryz.prog (m_spec_l6Before a b) := ⟨182, [.ag (cBooking a), .ag (cBooking b)], [], fun r => vb r, fun r => [], ok_spec_l6Before a b⟩
def m_spec_AreBookings_b0 (n : YNetwork) (l : List YBooking) (s0 : Int) : Option (Int ⊕ (Unit ⊕ Bool)) :=
 cond (decide (s0 < (l.length : Int)))
 ((getI l s0).bind fun y2 =>
 (m_spec_l3Runs n y2.trip.leg y2.trip.day).bind fun y3 =>
 cond (!y3)
 (some (.inr (.inr false)))
 ((m_spec_l1In y2.thing 1 9999).bind fun y4 =>
 cond (!y4)
 (some (.inr (.inr false)))
 ((m_spec_l1In y2.weight 1 1000000).bind fun y5 =>
 cond (!y5)
 (some (.inr (.inr false)))
 (cond (decide (0 < s0))
 ((getI l (w64 (s0 - 1))).bind fun y6 =>
 (m_spec_l6Before y6 y2).bind fun y7 =>
 cond (!y7)
 (some (.inr (.inr false)))
 (some (.inl (w64 (s0 + 1)))))
 (some (.inl (w64 (s0 + 1))))))))
 (some (.inr (.inl ())))
instance (n : YNetwork) (l : List YBooking) : LoopE (m_spec_AreBookings_b0 n l) := ⟨fun s0 => (.un :: .sl (l.map cBooking) :: .be 0 0 0 :: .un :: .un :: vi s0 :: .un :: .un :: .un :: .un :: .un :: .un :: .un :: .un :: .un :: .un :: .un :: .un :: .un :: .un :: .un :: .un :: .un :: .un :: .un :: .un :: .un :: .un :: .un :: .un :: .un :: .un :: .un :: .un :: .un :: .un :: .un :: .un :: .un :: .un :: .un :: .un :: .un :: .un :: .un :: .un :: .un :: .un :: .un :: .un :: .un :: .un :: .un :: .un :: .un :: .un :: .un :: .un :: .un :: .un :: .un :: .un :: .un :: .un :: .un :: .un :: .un :: .un :: .un :: .un :: .un :: .un :: .un :: .un :: .un :: .un :: .un :: .un :: .un :: .un :: .un :: .un :: .un :: .un :: .un :: .un :: []), fun s0 => [some ⟨35, 3, [[.sl (n.legs.map cLeg), .sl (n.off.map cInt), vi n.change]]⟩]⟩
def m_spec_AreBookings_b1 (n : YNetwork) (l : List YBooking) (s1 : Int) : Option (Int ⊕ (Unit ⊕ Bool)) :=
 cond (decide (s1 < (l.length : Int)))
 ((getI l s1).bind fun y8 =>
 (m_spec_LoadOf l y8.trip).bind fun y9 =>
 (getI l s1).bind fun y10 =>
 (getI n.legs y10.trip.leg).bind fun y11 =>
 cond (decide (y11.room < y9))
 (some (.inr (.inr false)))
 (some (.inl (w64 (s1 + 1)))))
 (some (.inr (.inl ())))
instance (n : YNetwork) (l : List YBooking) : LoopE (m_spec_AreBookings_b1 n l) := ⟨fun s1 => (.un :: .sl (l.map cBooking) :: .be 0 0 0 :: .un :: .un :: .un :: .un :: vi s1 :: .un :: .un :: .un :: .un :: .un :: .un :: .un :: .un :: .un :: .un :: .un :: .un :: .un :: .un :: .un :: .un :: .un :: .un :: .un :: .un :: .un :: .un :: .un :: .un :: .un :: .un :: .un :: .un :: .un :: .un :: .un :: .un :: .un :: .un :: .un :: .un :: .un :: .un :: .un :: .un :: .un :: .un :: .un :: .un :: .un :: .un :: .un :: .un :: .un :: .un :: .un :: .un :: .un :: .un :: .un :: .un :: .un :: .un :: .un :: .un :: .un :: .un :: .un :: .un :: .un :: .un :: .un :: .un :: .un :: .un :: .un :: .un :: .un :: .un :: .un :: .un :: .un :: .un :: []), fun s1 => [some ⟨35, 3, [[.sl (n.legs.map cLeg), .sl (n.off.map cInt), vi n.change]]⟩]⟩
def m_spec_AreBookings (n : YNetwork) (l : List YBooking) : Option Bool :=
 (m_spec_IsNetwork n).bind fun y1 =>
 cond (!y1)
 (some false)
 (cond (decide (120 < (l.length : Int)))
 (some false)
 ((iterF (m_spec_AreBookings_b0 n l) NN 0).bind (selim (fun o0 =>
 (iterF (m_spec_AreBookings_b1 n l) NN 0).bind (selim (fun o1 =>
 some true) (fun r => some r))) (fun r => some r))))
theorem ok_spec_AreBookings (n : YNetwork) (l : List YBooking) {r : Bool} (H : m_spec_AreBookings n l = some r) : CallM Tryz.prog 107 [.ag (cNetwork n), .sl (l.map cBooking)] [] (vb r) [] := by
  replace H := H0 H
  unfold m_spec_AreBookings at H
  refine callM_of Tryz.func107 rfl Tryz.ntmps107 Tryz.results107 fun Q hQ hQn => ?_
  exact wk
instance (n : YNetwork) (l : List YBooking) : CT Tryz.prog (m_spec_AreBookings n l) := ⟨107, [.ag (cNetwork n), .sl (l.map cBooking)], [], fun r => vb r, fun r => [], ok_spec_AreBookings n l⟩
end Go.Proofs.YtmcdjilbkmhfoaaGreat
namespace Go.Proofs.YtmcdjilbkmhfoaaGreat
set_option maxRecDepth 10000
open Go.RowKit
set_option linter.unusedVariables false
set_option linter.unusedSimpArgs false
def cmpI (a b : Int) : Int := if a < b then -1 else if b < a then 1 else 0
theorem cmpI_v (a b : Int) : m_impl_compareInts a b = some (cmpI a b) := by
  unfold m_impl_compareInts cmpI
  by_cases h : a < b
  · simp [h]
  · by_cases h2 : b < a <;> simp [h, h2]
theorem first3 (x y z : Int) : m_impl_first [x, y, z] = some (if x ≠ 0 then x else if y ≠ 0 then y else z) := by
  obtain ⟨k, hk⟩ : ∃ k, NN = k + 1 + 1 + 1 + 1 := ⟨1152921504606846972, by unfold NN; omega⟩
  unfold m_impl_first
  rw [hk]
  have w0 : w64 1 = 1 := w64_in (by omega)
  have w1 : w64 2 = 2 := w64_in (by omega)
  have w2 : w64 3 = 3 := w64_in (by omega)
  by_cases hx : x = 0
  · by_cases hy : y = 0
    · by_cases hz : z = 0
      · simp [iterF, selim, m_impl_first_b0, getI, hx, hy, hz, w0, w1, w2]
      · simp [iterF, selim, m_impl_first_b0, getI, hx, hy, hz, w0, w1, w2]
    · simp [iterF, selim, m_impl_first_b0, getI, hx, hy, w0]
  · simp [iterF, selim, m_impl_first_b0, getI, hx]
def befB (a b : YBooking) : Bool := if a.trip.day ≠ b.trip.day then decide (a.trip.day < b.trip.day) else if a.trip.leg ≠ b.trip.leg then decide (a.trip.leg < b.trip.leg) else decide (a.thing < b.thing)
theorem before_v (a b : YBooking) : m_spec_l6Before a b = some (befB a b) := by
  unfold m_spec_l6Before befB
  by_cases h1 : a.trip.day = b.trip.day
  · by_cases h2 : a.trip.leg = b.trip.leg <;> simp [h1, h2]
  · simp [h1]
theorem compare_v (a b : YBooking) : ∃ v, m_impl_compareBookings a b = some v ∧ decide (0 ≤ v) = !befB a b := by
  unfold m_impl_compareBookings
  simp only [cmpI_v, Option.bind_some, first3]
  refine ⟨_, rfl, ?_⟩
  unfold befB cmpI
  rcases Int.lt_trichotomy a.trip.day b.trip.day with h1 | h1 | h1
  · simp [h1, show a.trip.day ≠ b.trip.day by omega]
  · rcases Int.lt_trichotomy a.trip.leg b.trip.leg with h2 | h2 | h2
    · simp [h1, h2, show a.trip.leg ≠ b.trip.leg by omega]
    · rcases Int.lt_trichotomy a.thing b.thing with h3 | h3 | h3
      · simp [h1, h2, h3]
      · simp [h1, h2, h3]
      · simp [h1, h2, h3, show ¬ a.thing < b.thing by omega]
    · simp [h1, h2, show a.trip.leg ≠ b.trip.leg by omega, show ¬ a.trip.leg < b.trip.leg by omega]
  · simp [h1, show a.trip.day ≠ b.trip.day by omega, show ¬ a.trip.day < b.trip.day by omega]
theorem loadOf_some {l : List YBooking} (h : l.length ≤ 1048576) (t : YTrip) : ∃ v, m_spec_LoadOf l t = some v := by
  have hh : ∃ o, iterF (m_spec_LoadOf_b0 l t) NN (0, 0) = some o := by
    refine iter_tot (fun k s => ∃ i : Nat, i + k = l.length ∧ s.2 = (i : Int)) ?_ NN l.length (0, 0) ⟨0, by omega, rfl⟩ (by unfold NN; omega)
    rintro k ⟨a, s⟩ ⟨i, hi, hs⟩
    simp only at hs
    subst hs
    rcases Nat.lt_or_ge i l.length with hlt | hge
    · have hw := w64_nat hlt (by omega)
      have hg : getI l (i : Int) = some l[i] := by rw [getI_nat]; exact List.getElem?_eq_getElem hlt
      cases hc : decide (l[i].trip = t) with
      | true =>
        refine ⟨_, by simp only [m_spec_LoadOf_b0, decide_eq_true (show (i : Int) < l.length by omega), cond_true, hg, Option.bind_some, hc, hw]; rfl, ?_⟩
        rintro s' e; cases e; exact ⟨k - 1, by omega, i + 1, by omega, rfl⟩
      | false =>
        refine ⟨_, by simp only [m_spec_LoadOf_b0, decide_eq_true (show (i : Int) < l.length by omega), cond_true, cond_false, hg, Option.bind_some, hc, hw]; rfl, ?_⟩
        rintro s' e; cases e; exact ⟨k - 1, by omega, i + 1, by omega, rfl⟩
    · have : i = l.length := by omega
      subst this
      refine ⟨_, by simp only [m_spec_LoadOf_b0, decide_eq_false (show ¬ ((l.length : Int) < l.length) by omega), cond_false]; rfl, ?_⟩
      rintro s' e; cases e
  obtain ⟨o, ho⟩ := hh
  exact ⟨o, by unfold m_spec_LoadOf; rw [ho]; rfl⟩
theorem runs_leg {n : YNetwork} (h : NetFit n) {leg day : Int} (hr : m_spec_l3Runs n leg day = some true) : ∃ y, getI n.legs leg = some y := by
  have hl := h.legs
  have hw : w64 ((n.legs.length : Int) - 1) = n.legs.length - 1 := w64_in (by omega)
  unfold m_spec_l3Runs at hr
  rw [hw, l1In_v] at hr
  simp only [Option.bind_some] at hr
  by_cases h1 : 0 ≤ leg ∧ leg ≤ (n.legs.length : Int) - 1
  · exact ⟨n.legs[leg.toNat]'(by omega), by unfold getI; rw [if_pos h1.1]; exact List.getElem?_eq_getElem _⟩
  · rw [← Bool.decide_and, decide_eq_false h1] at hr
    cases hr
def bk1 (n : YNetwork) (l : List YBooking) (i : Nat) : Bool := match l[i]? with
  | none => true
  | some y => (m_spec_l3Runs n y.trip.leg y.trip.day).getD false && (decide (1 ≤ y.thing) && decide (y.thing ≤ 9999)) && (decide (1 ≤ y.weight) && decide (y.weight ≤ 1000000)) && (decide (i = 0) || match l[i - 1]? with
    | none => true
    | some x => befB x y)
def bk2 (n : YNetwork) (l : List YBooking) (i : Nat) : Bool := match l[i]? with
  | none => true
  | some y => match getI n.legs y.trip.leg, m_spec_LoadOf l y.trip with
    | some g, some v => !decide (g.room < v)
    | _, _ => false
def booksV (n : YNetwork) (l : List YBooking) : Bool := (m_spec_IsNetwork n).getD false && decide ((l.length : Int) ≤ 120) && (List.range l.length).all fun i => bk1 n l i && bk2 n l i
theorem specBooks_v {n : YNetwork} (h : NetFit n) {l : List YBooking} (hl : l.length ≤ 1048576) : m_spec_AreBookings n l = some (booksV n l) := by
  obtain ⟨_, b, hb⟩ := isNetwork_eq h
  unfold m_spec_AreBookings booksV
  rw [hb]
  simp only [Option.bind_some, Option.getD_some]
  cases b with
  | false => rfl
  | true =>
    by_cases h120 : 120 < (l.length : Int)
    · simp [h120, show ¬ ((l.length : Int) ≤ 120) by omega]
    simp only [Bool.not_true, cond_false, decide_eq_false h120, decide_eq_true (show (l.length : Int) ≤ 120 by omega), Bool.true_and]
    have e0 : iterF (m_spec_AreBookings_b0 n l) NN 0 = some (if (List.range l.length).all (bk1 n l) = true then .inl () else .inr false) := by
      refine iter_check (fun i hi _ => ?_) (fun _ => by simp [m_spec_AreBookings_b0]) (by unfold NN; omega)
      have hw := w64_nat hi (by omega)
      have hg : getI l (i : Int) = some l[i] := by rw [getI_nat]; exact List.getElem?_eq_getElem hi
      obtain ⟨_, rb, hrb⟩ := runs_eq h l[i].trip.leg l[i].trip.day
      simp only [m_spec_AreBookings_b0, decide_eq_true (show (i : Int) < l.length by omega), cond_true, hg, Option.bind_some, hrb, l1In_v, bk1, List.getElem?_eq_getElem hi, Option.getD_some]
      cases rb with
      | false => simp
      | true =>
        cases decide (1 ≤ l[i].thing) && decide (l[i].thing ≤ 9999) with
        | false => simp
        | true =>
          cases decide (1 ≤ l[i].weight) && decide (l[i].weight ≤ 1000000) with
          | false => simp
          | true =>
            by_cases hi0 : i = 0
            · subst hi0
              have hw' : w64 1 = 1 := w64_in (by omega)
              simp [hw']
            · have hw2 : w64 ((i : Int) - 1) = ((i - 1 : Nat) : Int) := by rw [w64_in (by omega)]; omega
              have hg2 : getI l ((i - 1 : Nat) : Int) = some l[i - 1] := by rw [getI_nat]; exact List.getElem?_eq_getElem (by omega)
              simp only [decide_eq_true (show 0 < (i : Int) by omega), hw2, hg2, Option.bind_some, before_v, hw, List.getElem?_eq_getElem (show i - 1 < l.length by omega), decide_eq_false hi0, Bool.not_true, cond_false, cond_true, Bool.true_and, Bool.false_or]
              cases befB l[i - 1] l[i] <;> rfl
    rw [e0]
    by_cases hall : (List.range l.length).all (bk1 n l) = true
    · rw [if_pos hall]
      have e1 : iterF (m_spec_AreBookings_b1 n l) NN 0 = some (if (List.range l.length).all (bk2 n l) = true then .inl () else .inr false) := by
        refine iter_check (fun i hi _ => ?_) (fun _ => by simp [m_spec_AreBookings_b1]) (by unfold NN; omega)
        have hw := w64_nat hi (by omega)
        have hg : getI l (i : Int) = some l[i] := by rw [getI_nat]; exact List.getElem?_eq_getElem hi
        obtain ⟨v, hv⟩ := loadOf_some hl l[i].trip
        have hb1 := List.all_eq_true.1 hall i (List.mem_range.2 hi)
        obtain ⟨_, rb, hrb⟩ := runs_eq h l[i].trip.leg l[i].trip.day
        have hrt : rb = true := by
          simp only [bk1, List.getElem?_eq_getElem hi, hrb, Option.getD_some, Bool.and_eq_true] at hb1
          exact hb1.1.1.1
        subst hrt
        obtain ⟨g, hgl⟩ := runs_leg h hrb
        simp only [m_spec_AreBookings_b1, decide_eq_true (show (i : Int) < l.length by omega), cond_true, hg, Option.bind_some, hv, hgl, bk2, List.getElem?_eq_getElem hi, hw]
        cases decide (g.room < v) <;> rfl
      simp only [Option.bind_some]
      rw [e1]
      have : (List.range l.length).all (fun i => bk1 n l i && bk2 n l i) = (List.range l.length).all (bk2 n l) := by
        rw [Bool.eq_iff_iff, List.all_eq_true, List.all_eq_true]
        exact ⟨fun H i hi => by have := H i hi; simp only [Bool.and_eq_true] at this; exact this.2, fun H i hi => by rw [List.all_eq_true.1 hall i hi, H i hi]; rfl⟩
      rw [this]
      cases (List.range l.length).all (bk2 n l) <;> rfl
    · rw [if_neg hall]
      have : (List.range l.length).all (fun i => bk1 n l i && bk2 n l i) = false := by
        rw [Bool.eq_false_iff]
        intro H
        exact hall (List.all_eq_true.2 fun i hi => by have := List.all_eq_true.1 H i hi; simp only [Bool.and_eq_true] at this; exact this.1)
      rw [this]; rfl
theorem isTrip_v {n : YNetwork} (h : NetFit n) (hn : m_spec_IsNetwork n = some true) (t : YTrip) : m_impl_IsTrip n t = m_spec_l3Runs n t.leg t.day := by
  rw [(isTrip_eq h t).1]
  unfold m_spec_IsTrip m_spec_RunsOn
  rw [hn]
  obtain ⟨_, b, hb⟩ := runs_eq h t.leg t.day
  simp only [Option.bind_some, cond_true, hb]
theorem implBooks_v {n : YNetwork} (h : NetFit n) {l : List YBooking} (hl : l.length ≤ 1048576) : m_impl_AreBookings n l = some (booksV n l) := by
  obtain ⟨en, b, hb⟩ := isNetwork_eq h
  unfold m_impl_AreBookings booksV
  rw [en, hb]
  simp only [Option.bind_some, Option.getD_some]
  cases b with
  | false => rfl
  | true =>
    by_cases h120 : 120 < (l.length : Int)
    · simp [h120, show ¬ ((l.length : Int) ≤ 120) by omega]
    simp only [Bool.not_true, cond_false, decide_eq_false h120, decide_eq_true (show (l.length : Int) ≤ 120 by omega), Bool.true_and]
    have e0 : iterF (m_impl_AreBookings_b0 n l) NN 0 = some (if (List.range l.length).all (fun i => bk1 n l i && bk2 n l i) = true then .inl () else .inr false) := by
      refine iter_check (fun i hi _ => ?_) (fun _ => by simp [m_impl_AreBookings_b0]) (by unfold NN; omega)
      have hw := w64_nat hi (by omega)
      have hg : getI l (i : Int) = some l[i] := by rw [getI_nat]; exact List.getElem?_eq_getElem hi
      obtain ⟨_, rb, hrb⟩ := runs_eq h l[i].trip.leg l[i].trip.day
      have ht := isTrip_v h hb l[i].trip
      rw [hrb] at ht
      obtain ⟨v, hv⟩ := loadOf_some hl l[i].trip
      have hrest : ∀ {X : Option (Int ⊕ (Unit ⊕ Bool))} {pre : Bool}, pre = (decide (i = 0) || match l[i - 1]? with
          | none => true
          | some x => befB x l[i]) →
          X = (cond (!pre) (some (.inr (.inr false))) ((some rb).bind fun y10 => cond (!y10) (some (.inr (.inr false))) ((m_spec_l1In l[i].thing 1 9999).bind fun y11 => cond (!y11) (some (.inr (.inr false))) ((m_spec_l1In l[i].weight 1 1000000).bind fun y12 => cond (!y12) (some (.inr (.inr false))) ((some v).bind fun y13 => (getI n.legs l[i].trip.leg).bind fun y14 => cond (decide (y14.room < y13)) (some (.inr (.inr false))) (some (.inl ((i + 1 : Nat) : Int)))))))) →
          X = some (if (bk1 n l i && bk2 n l i) = true then .inl ((i + 1 : Nat) : Int) else .inr (.inr false)) := by
        rintro X pre hpre rfl
        simp only [bk1, bk2, List.getElem?_eq_getElem hi, hrb, hv, Option.getD_some, l1In_v, Option.bind_some, ← hpre]
        cases pre with
        | false => simp
        | true =>
          cases rb with
          | false => simp
          | true =>
            obtain ⟨g, hgl⟩ := runs_leg h hrb
            simp only [hgl, Option.bind_some]
            cases decide (1 ≤ l[i].thing) && decide (l[i].thing ≤ 9999) with
            | false => simp
            | true =>
              cases decide (1 ≤ l[i].weight) && decide (l[i].weight ≤ 1000000) with
              | false => simp
              | true => cases decide (g.room < v) <;> simp
      by_cases hi0 : i = 0
      · refine hrest (pre := true) (by simp [hi0]) ?_
        simp only [m_impl_AreBookings_b0, decide_eq_true (show (i : Int) < l.length by omega), decide_eq_false (show ¬ 0 < (i : Int) by omega), cond_true, cond_false, hg, Option.bind_some, ht, within_eq, loadOf_eq, hv, hw, Bool.not_true]
      · have hw2 : w64 ((i : Int) - 1) = ((i - 1 : Nat) : Int) := by rw [w64_in (by omega)]; omega
        have hg2 : getI l ((i - 1 : Nat) : Int) = some l[i - 1] := by rw [getI_nat]; exact List.getElem?_eq_getElem (by omega)
        obtain ⟨cv, hcv, hc0⟩ := compare_v l[i - 1] l[i]
        refine hrest (pre := befB l[i - 1] l[i]) (by simp [hi0, List.getElem?_eq_getElem (show i - 1 < l.length by omega)]) ?_
        simp only [m_impl_AreBookings_b0, decide_eq_true (show (i : Int) < l.length by omega), decide_eq_true (show 0 < (i : Int) by omega), cond_true, cond_false, hg, hw2, hg2, hcv, hc0, Option.bind_some, ht, within_eq, loadOf_eq, hv, hw]
    rw [e0]
    cases (List.range l.length).all (fun i => bk1 n l i && bk2 n l i) <;> rfl
end Go.Proofs.YtmcdjilbkmhfoaaGreat
namespace Go.Proofs.YtmcdjilbkmhfoaaGreat
set_option maxRecDepth 10000
open Go.RowKit
set_option linter.unusedVariables false
set_option maxHeartbeats 16000000
def m_impl_isState (w : YWorld) (o : YOrder) : Option Bool :=
 cond (decide (0 < o.gone))
 ((getI o.way (w64 (o.gone - 1))).bind fun y1 =>
 (m_impl_ends w.network y1).bind fun y2 =>
 cond (decide (w.now < y2))
 (some false)
 ((getI w.network.legs y1.leg).bind fun y3 =>
 cond (decide (o.state = 1))
 (cond (decide (o.place = y3.to_))
 (cond (!decide (y3.to_ = o.to_))
 (cond (decide (o.ended = 0))
 (cond (decide (o.gone = (o.way.length : Int)))
 (some true)
 ((getI o.way o.gone).bind fun y4 =>
 (m_impl_starts w.network y4).bind fun y5 =>
 some (decide (w.now < y5))))
 (some false))
 (some false))
 (some false))
 (cond (decide (o.state = 2))
 (cond (decide (o.place = ⟨#[]⟩))
 (cond (decide (o.ended = 0))
 (cond (decide (o.gone < (o.way.length : Int)))
 ((getI o.way o.gone).bind fun y6 =>
 (m_impl_starts w.network y6).bind fun y7 =>
 cond (decide (y7 ≤ w.now))
 ((getI o.way o.gone).bind fun y8 =>
 (m_impl_ends w.network y8).bind fun y9 =>
 some (decide (w.now < y9)))
 (some false))
 (some false))
 (some false))
 (some false))
 (cond (decide (o.state = 3))
 (cond (decide (o.gone = (o.way.length : Int)))
 (cond (decide (0 < o.gone))
 (cond (decide (o.place = o.to_))
 (cond (decide (y3.to_ = o.to_))
 ((getI o.way (w64 (o.gone - 1))).bind fun y10 =>
 (m_impl_ends w.network y10).bind fun y11 =>
 some (decide (o.ended = y11)))
 (some false))
 (some false))
 (some false))
 (some false))
 (some false)))))
 (cond (decide (o.state = 1))
 (cond (decide (o.place = o.from_))
 (cond (!decide (o.from_ = o.to_))
 (cond (decide (o.ended = 0))
 (cond (decide (o.gone = (o.way.length : Int)))
 (some true)
 ((getI o.way o.gone).bind fun y12 =>
 (m_impl_starts w.network y12).bind fun y13 =>
 some (decide (w.now < y13))))
 (some false))
 (some false))
 (some false))
 (cond (decide (o.state = 2))
 (cond (decide (o.place = ⟨#[]⟩))
 (cond (decide (o.ended = 0))
 (cond (decide (o.gone < (o.way.length : Int)))
 ((getI o.way o.gone).bind fun y14 =>
 (m_impl_starts w.network y14).bind fun y15 =>
 cond (decide (y15 ≤ w.now))
 ((getI o.way o.gone).bind fun y16 =>
 (m_impl_ends w.network y16).bind fun y17 =>
 some (decide (w.now < y17)))
 (some false))
 (some false))
 (some false))
 (some false))
 (cond (decide (o.state = 3))
 (cond (decide (o.gone = (o.way.length : Int)))
 (cond (decide (0 < o.gone))
 (cond (decide (o.place = o.to_))
 (cond (decide (o.from_ = o.to_))
 ((getI o.way (w64 (o.gone - 1))).bind fun y18 =>
 (m_impl_ends w.network y18).bind fun y19 =>
 some (decide (o.ended = y19)))
 (some false))
 (some false))
 (some false))
 (some false))
 (some false))))
theorem ok_impl_isState (w : YWorld) (o : YOrder) {r : Bool} (H : m_impl_isState w o = some r) : CallM Tryz.prog 209 [.ag (cWorld w), .ag (cOrder o)] [] (vb r) [] := by
  replace H := H0 H
  unfold m_impl_isState at H
  refine callM_of Tryz.func209 rfl Tryz.ntmps209 Tryz.results209 fun Q hQ hQn => ?_
  exact wk
instance (w : YWorld) (o : YOrder) : CT Tryz.prog (m_impl_isState w o) := ⟨209, [.ag (cWorld w), .ag (cOrder o)], [], fun r => vb r, fun r => [], ok_impl_isState w o⟩
def m_spec_l10State (n : YNetwork) (x : YOrder) (now : Int) : Option Bool :=
 cond (decide (0 < x.gone))
 ((getI x.way (w64 (x.gone - 1))).bind fun y1 =>
 (getI n.legs y1.leg).bind fun y2 =>
 (getI x.way (w64 (x.gone - 1))).bind fun y3 =>
 (m_spec_l3Ends n y3).bind fun y4 =>
 cond (decide (now < y4))
 (some false)
 (cond (decide (x.state = 1))
 (cond (decide (x.place = y2.to_))
 (cond (!decide (y2.to_ = x.to_))
 (cond (decide (x.ended = 0))
 (cond (decide (x.gone = (x.way.length : Int)))
 (some true)
 ((getI x.way x.gone).bind fun y5 =>
 (m_spec_l3Starts n y5).bind fun y6 =>
 some (decide (now < y6))))
 (some false))
 (some false))
 (some false))
 (cond (decide (x.state = 2))
 (cond (decide (x.place = ⟨#[]⟩))
 (cond (decide (x.ended = 0))
 (cond (decide (x.gone < (x.way.length : Int)))
 ((getI x.way x.gone).bind fun y7 =>
 (m_spec_l3Starts n y7).bind fun y8 =>
 cond (decide (y8 ≤ now))
 ((getI x.way x.gone).bind fun y9 =>
 (m_spec_l3Ends n y9).bind fun y10 =>
 some (decide (now < y10)))
 (some false))
 (some false))
 (some false))
 (some false))
 (cond (decide (x.state = 3))
 (cond (decide (x.place = x.to_))
 (cond (decide (y2.to_ = x.to_))
 (cond (decide (x.gone = (x.way.length : Int)))
 (cond (decide (0 < x.gone))
 ((getI x.way (w64 (x.gone - 1))).bind fun y11 =>
 (m_spec_l3Ends n y11).bind fun y12 =>
 some (decide (x.ended = y12)))
 (some false))
 (some false))
 (some false))
 (some false))
 (some false)))))
 (cond (decide (x.state = 1))
 (cond (decide (x.place = x.from_))
 (cond (!decide (x.from_ = x.to_))
 (cond (decide (x.ended = 0))
 (cond (decide (x.gone = (x.way.length : Int)))
 (some true)
 ((getI x.way x.gone).bind fun y13 =>
 (m_spec_l3Starts n y13).bind fun y14 =>
 some (decide (now < y14))))
 (some false))
 (some false))
 (some false))
 (cond (decide (x.state = 2))
 (cond (decide (x.place = ⟨#[]⟩))
 (cond (decide (x.ended = 0))
 (cond (decide (x.gone < (x.way.length : Int)))
 ((getI x.way x.gone).bind fun y15 =>
 (m_spec_l3Starts n y15).bind fun y16 =>
 cond (decide (y16 ≤ now))
 ((getI x.way x.gone).bind fun y17 =>
 (m_spec_l3Ends n y17).bind fun y18 =>
 some (decide (now < y18)))
 (some false))
 (some false))
 (some false))
 (some false))
 (cond (decide (x.state = 3))
 (cond (decide (x.place = x.to_))
 (cond (decide (x.from_ = x.to_))
 (cond (decide (x.gone = (x.way.length : Int)))
 (cond (decide (0 < x.gone))
 ((getI x.way (w64 (x.gone - 1))).bind fun y19 =>
 (m_spec_l3Ends n y19).bind fun y20 =>
 some (decide (x.ended = y20)))
 (some false))
 (some false))
 (some false))
 (some false))
 (some false))))
theorem ok_spec_l10State (n : YNetwork) (x : YOrder) (now : Int) {r : Bool} (H : m_spec_l10State n x now = some r) : CallM Tryz.prog 188 [.ag (cNetwork n), .ag (cOrder x), vi now] [] (vb r) [] := by
  replace H := H0 H
  unfold m_spec_l10State at H
  refine callM_of Tryz.func188 rfl Tryz.ntmps188 Tryz.results188 fun Q hQ hQn => ?_
  exact wk
instance (n : YNetwork) (x : YOrder) (now : Int) : CT Tryz.prog (m_spec_l10State n x now) := ⟨188, [.ag (cNetwork n), .ag (cOrder x), vi now], [], fun r => vb r, fun r => [], ok_spec_l10State n x now⟩
def m_impl_toCome (o : YOrder) : Option Int :=
 cond (decide (o.state = 2))
 (some (if (o.way.length : Int) < (w64 (o.gone + 1)) then (o.way.length : Int) else (w64 (o.gone + 1))))
 (some o.gone)
theorem ok_impl_toCome (o : YOrder) {r : Int} (H : m_impl_toCome o = some r) : CallM Tryz.prog 127 [.ag (cOrder o)] [] (vi r) [] := by
  replace H := H0 H
  unfold m_impl_toCome at H
  refine callM_of Tryz.func127 rfl Tryz.ntmps127 Tryz.results127 fun Q hQ hQn => ?_
  exact wk
instance (o : YOrder) : CT Tryz.prog (m_impl_toCome o) := ⟨127, [.ag (cOrder o)], [], fun r => vi r, fun r => [], ok_impl_toCome o⟩
def m_spec_l10Coming (x : YOrder) : Option Int :=
 cond (decide (x.state = 2))
 (some (w64 (x.gone + 1)))
 (some x.gone)
theorem ok_spec_l10Coming (x : YOrder) {r : Int} (H : m_spec_l10Coming x = some r) : CallM Tryz.prog 122 [.ag (cOrder x)] [] (vi r) [] := by
  replace H := H0 H
  unfold m_spec_l10Coming at H
  refine callM_of Tryz.func122 rfl Tryz.ntmps122 Tryz.results122 fun Q hQ hQn => ?_
  exact wk
instance (x : YOrder) : CT Tryz.prog (m_spec_l10Coming x) := ⟨122, [.ag (cOrder x)], [], fun r => vi r, fun r => [], ok_spec_l10Coming x⟩
def m_impl_placeAt_b0 (places : List ByteArray) (s : ByteArray) (s0 : Int) : Option (Int ⊕ (Unit ⊕ Int)) :=
 cond (decide (s0 < (places.length : Int)))
 ((getI places s0).bind fun y1 =>
 cond (decide (y1 = s))
 (some (.inr (.inr s0)))
 (some (.inl (w64 (s0 + 1)))))
 (some (.inr (.inl ())))
instance (places : List ByteArray) (s : ByteArray) : LoopE (m_impl_placeAt_b0 places s) := ⟨fun s0 => [.un, vs s, .un, .un, .un, .un, .un, .sl (places.map cStr), vi (places.length : Int), vi s0, .un, .un, .un, .un, .un, .un, .un, .un, .un], fun s0 => []⟩
def m_impl_placeAt (places : List ByteArray) (s : ByteArray) : Option Int :=
 (iterF (m_impl_placeAt_b0 places s) NN 0).bind (selim (fun o0 =>
 some (-1)) (fun r => some r))
theorem ok_impl_placeAt (places : List ByteArray) (s : ByteArray) {r : Int} (H : m_impl_placeAt places s = some r) : CallM Tryz.prog 205 [.sl (places.map cStr), vs s] [] (vi r) [] := by
  replace H := H0 H
  unfold m_impl_placeAt at H
  refine callM_of Tryz.func205 rfl Tryz.ntmps205 Tryz.results205 fun Q hQ hQn => ?_
  exact wk
instance (places : List ByteArray) (s : ByteArray) : CT Tryz.prog (m_impl_placeAt places s) := ⟨205, [.sl (places.map cStr), vs s], [], fun r => vi r, fun r => [], ok_impl_placeAt places s⟩
def m_spec_l4Index_b0 (l : List ByteArray) (p : ByteArray) (s0 : Int) : Option (Int ⊕ (Unit ⊕ Int)) :=
 cond (decide (s0 < (l.length : Int)))
 ((getI l s0).bind fun y1 =>
 cond (decide (y1 = p))
 (some (.inr (.inr s0)))
 (some (.inl (w64 (s0 + 1)))))
 (some (.inr (.inl ())))
instance (l : List ByteArray) (p : ByteArray) : LoopE (m_spec_l4Index_b0 l p) := ⟨fun s0 => [.sl (l.map cStr), vs p, .un, .un, .un, vi s0, .un, .un, .un, .un, .un, .un, .un, .un, .un, .un, .un, .un, .un], fun s0 => []⟩
def m_spec_l4Index (l : List ByteArray) (p : ByteArray) : Option Int :=
 (iterF (m_spec_l4Index_b0 l p) NN 0).bind (selim (fun o0 =>
 some (-1)) (fun r => some r))
theorem ok_spec_l4Index (l : List ByteArray) (p : ByteArray) {r : Int} (H : m_spec_l4Index l p = some r) : CallM Tryz.prog 185 [.sl (l.map cStr), vs p] [] (vi r) [] := by
  replace H := H0 H
  unfold m_spec_l4Index at H
  refine callM_of Tryz.func185 rfl Tryz.ntmps185 Tryz.results185 fun Q hQ hQn => ?_
  exact wk
instance (l : List ByteArray) (p : ByteArray) : CT Tryz.prog (m_spec_l4Index l p) := ⟨185, [.sl (l.map cStr), vs p], [], fun r => vi r, fun r => [], ok_spec_l4Index l p⟩
end Go.Proofs.YtmcdjilbkmhfoaaGreat
namespace Go.Proofs.YtmcdjilbkmhfoaaGreat
set_option maxRecDepth 10000
open Go.RowKit
set_option linter.unusedVariables false
set_option linter.unusedSimpArgs false
theorem placeAt_eq : @m_impl_placeAt = @m_spec_l4Index := rfl
theorem ends_none {n : YNetwork} {t : YTrip} (h : getI n.legs t.leg = none) : m_spec_l3Ends n t = none := by
  unfold m_spec_l3Ends m_spec_l3Starts; rw [h]; rfl
theorem ends_some {n : YNetwork} {t : YTrip} {y : YLeg} (h : getI n.legs t.leg = some y) : ∃ v, m_spec_l3Ends n t = some v := by
  unfold m_spec_l3Ends m_spec_l3Starts; rw [h]; exact ⟨_, rfl⟩
theorem state_eq (w : YWorld) (o : YOrder) : m_impl_isState w o = m_spec_l10State w.network o w.now := by
  unfold m_impl_isState m_spec_l10State
  rw [ends_eq, starts_eq]
  cases decide (0 < o.gone) with
  | false =>
    simp only [cond_false]
    cases decide (o.state = 1) <;> cases decide (o.state = 2) <;> cases decide (o.state = 3) <;> try rfl
    all_goals cases decide (o.gone = (o.way.length : Int)) <;> cases decide (o.place = o.to_) <;> cases decide (o.from_ = o.to_) <;> rfl
  | true =>
    simp only [cond_true]
    cases hg : getI o.way (w64 (o.gone - 1)) with
    | none => rfl
    | some y1 =>
      simp only [Option.bind_some, hg]
      cases hl : getI w.network.legs y1.leg with
      | none => rw [ends_none hl]; rfl
      | some y2 =>
        obtain ⟨v, hv⟩ := ends_some hl
        simp only [hv, Option.bind_some]
        cases decide (w.now < v) <;> try rfl
        simp only [cond_false]
        cases decide (o.state = 1) <;> cases decide (o.state = 2) <;> cases decide (o.state = 3) <;> try rfl
        all_goals cases decide (o.gone = (o.way.length : Int)) <;> cases decide (o.place = o.to_) <;> cases decide (y2.to_ = o.to_) <;> rfl
end Go.Proofs.YtmcdjilbkmhfoaaGreat
namespace Go.Proofs.YtmcdjilbkmhfoaaGreat
set_option maxRecDepth 10000
open Go.RowKit
set_option linter.unusedVariables false
set_option maxHeartbeats 16000000
def m_spec_PlacesOf_b1 (n : YNetwork) (s0 : Int × (List ByteArray)) (y2 : YLeg) (s1 : Int) : Option (Int ⊕ Int) :=
 cond (decide (s1 < (s0.2.length : Int)))
 ((getI s0.2 s1).bind fun y3 =>
 cond (sLt y3 y2.to_)
 (some (.inl (w64 (s1 + 1))))
 (some (.inr s1)))
 (some (.inr s1))
instance (n : YNetwork) (s0 : Int × (List ByteArray)) (y2 : YLeg) : LoopE (m_spec_PlacesOf_b1 n s0 y2) := ⟨fun s1 => (.un :: .be 0 0 0 :: .un :: .ms 1 :: vi s0.1 :: vs y2.to_ :: vi s1 :: .un :: .un :: .un :: .un :: .un :: .un :: .un :: .un :: .un :: .un :: .un :: .un :: .un :: .un :: .un :: .un :: .un :: .un :: .un :: .un :: .un :: .un :: .un :: .un :: .un :: .un :: .un :: .un :: .un :: .un :: .un :: .un :: .un :: .un :: .un :: .un :: .un :: .un :: .un :: .un :: .un :: .un :: .un :: .un :: .un :: .un :: .un :: .un :: .un :: .un :: .un :: .un :: .un :: .un :: .un :: .un :: .un :: .un :: .un :: .un :: .un :: .un :: .un :: .un :: .un :: []), fun s1 => [some ⟨35, 3, [[.sl (n.legs.map cLeg), .sl (n.off.map cInt), vi n.change]]⟩, some ⟨9, 1, s0.2.map cStr⟩]⟩
def m_spec_PlacesOf_b2 (n : YNetwork) (s0 : Int × (List ByteArray)) (y1 : YLeg) (s2 : Int) : Option (Int ⊕ Int) :=
 cond (decide (s2 < (s0.2.length : Int)))
 ((getI s0.2 s2).bind fun y5 =>
 cond (sLt y5 y1.from_)
 (some (.inl (w64 (s2 + 1))))
 (some (.inr s2)))
 (some (.inr s2))
instance (n : YNetwork) (s0 : Int × (List ByteArray)) (y1 : YLeg) : LoopE (m_spec_PlacesOf_b2 n s0 y1) := ⟨fun s2 => (.un :: .be 0 0 0 :: .un :: .ms 1 :: vi s0.1 :: vs y1.from_ :: vi s2 :: .un :: .un :: .un :: .un :: .un :: .un :: .un :: .un :: .un :: .un :: .un :: .un :: .un :: .un :: .un :: .un :: .un :: .un :: .un :: .un :: .un :: .un :: .un :: .un :: .un :: .un :: .un :: .un :: .un :: .un :: .un :: .un :: .un :: .un :: .un :: .un :: .un :: .un :: .un :: .un :: .un :: .un :: .un :: .un :: .un :: .un :: .un :: .un :: .un :: .un :: .un :: .un :: .un :: .un :: .un :: .un :: .un :: .un :: .un :: .un :: .un :: .un :: .un :: .un :: .un :: []), fun s2 => [some ⟨35, 3, [[.sl (n.legs.map cLeg), .sl (n.off.map cInt), vi n.change]]⟩, some ⟨9, 1, s0.2.map cStr⟩]⟩
def m_spec_PlacesOf_b0 (n : YNetwork) (s0 : Int × (List ByteArray)) : Option ((Int × (List ByteArray)) ⊕ (List ByteArray)) :=
 cond (decide (s0.1 < (w64 (2 * (n.legs.length : Int)))))
 ((getI n.legs (IntKind.i64.wrap (Int.tdiv s0.1 2))).bind fun y1 =>
 cond (decide ((Int.tmod s0.1 2) = 1))
 ((getI n.legs (IntKind.i64.wrap (Int.tdiv s0.1 2))).bind fun y2 =>
 (iterF (m_spec_PlacesOf_b1 n s0 y2) NN 0).bind (fun o1 =>
 cond (decide (o1 = (s0.2.length : Int)))
 ((chk (slOk 0 o1 s0.2.length)).bind fun _ =>
 (chk (appOk ((([] : List ByteArray) : List ByteArray).length + ((subL s0.2 0 o1) : List ByteArray).length) 16)).bind fun _ =>
 (chk (appOk ((((([] : List ByteArray) : List ByteArray) ++ (subL s0.2 0 o1)) : List ByteArray).length + ([y2.to_] : List ByteArray).length) 16)).bind fun _ =>
 (chk (slOk o1 (s0.2.length : Int) s0.2.length)).bind fun _ =>
 (chk (appOk ((((((([] : List ByteArray) : List ByteArray) ++ (subL s0.2 0 o1)) : List ByteArray) ++ [y2.to_]) : List ByteArray).length + ((subL s0.2 o1 (s0.2.length : Int)) : List ByteArray).length) 16)).bind fun _ =>
 some (.inl ((w64 (s0.1 + 1)), ((((((([] : List ByteArray) : List ByteArray) ++ (subL s0.2 0 o1)) : List ByteArray) ++ [y2.to_]) : List ByteArray) ++ (subL s0.2 o1 (s0.2.length : Int))))))
 ((getI s0.2 o1).bind fun y4 =>
 cond (!decide (y4 = y2.to_))
 ((chk (slOk 0 o1 s0.2.length)).bind fun _ =>
 (chk (appOk ((([] : List ByteArray) : List ByteArray).length + ((subL s0.2 0 o1) : List ByteArray).length) 16)).bind fun _ =>
 (chk (appOk ((((([] : List ByteArray) : List ByteArray) ++ (subL s0.2 0 o1)) : List ByteArray).length + ([y2.to_] : List ByteArray).length) 16)).bind fun _ =>
 (chk (slOk o1 (s0.2.length : Int) s0.2.length)).bind fun _ =>
 (chk (appOk ((((((([] : List ByteArray) : List ByteArray) ++ (subL s0.2 0 o1)) : List ByteArray) ++ [y2.to_]) : List ByteArray).length + ((subL s0.2 o1 (s0.2.length : Int)) : List ByteArray).length) 16)).bind fun _ =>
 some (.inl ((w64 (s0.1 + 1)), ((((((([] : List ByteArray) : List ByteArray) ++ (subL s0.2 0 o1)) : List ByteArray) ++ [y2.to_]) : List ByteArray) ++ (subL s0.2 o1 (s0.2.length : Int))))))
 (some (.inl ((w64 (s0.1 + 1)), s0.2))))))
 ((iterF (m_spec_PlacesOf_b2 n s0 y1) NN 0).bind (fun o2 =>
 cond (decide (o2 = (s0.2.length : Int)))
 ((chk (slOk 0 o2 s0.2.length)).bind fun _ =>
 (chk (appOk ((([] : List ByteArray) : List ByteArray).length + ((subL s0.2 0 o2) : List ByteArray).length) 16)).bind fun _ =>
 (chk (appOk ((((([] : List ByteArray) : List ByteArray) ++ (subL s0.2 0 o2)) : List ByteArray).length + ([y1.from_] : List ByteArray).length) 16)).bind fun _ =>
 (chk (slOk o2 (s0.2.length : Int) s0.2.length)).bind fun _ =>
 (chk (appOk ((((((([] : List ByteArray) : List ByteArray) ++ (subL s0.2 0 o2)) : List ByteArray) ++ [y1.from_]) : List ByteArray).length + ((subL s0.2 o2 (s0.2.length : Int)) : List ByteArray).length) 16)).bind fun _ =>
 some (.inl ((w64 (s0.1 + 1)), ((((((([] : List ByteArray) : List ByteArray) ++ (subL s0.2 0 o2)) : List ByteArray) ++ [y1.from_]) : List ByteArray) ++ (subL s0.2 o2 (s0.2.length : Int))))))
 ((getI s0.2 o2).bind fun y6 =>
 cond (!decide (y6 = y1.from_))
 ((chk (slOk 0 o2 s0.2.length)).bind fun _ =>
 (chk (appOk ((([] : List ByteArray) : List ByteArray).length + ((subL s0.2 0 o2) : List ByteArray).length) 16)).bind fun _ =>
 (chk (appOk ((((([] : List ByteArray) : List ByteArray) ++ (subL s0.2 0 o2)) : List ByteArray).length + ([y1.from_] : List ByteArray).length) 16)).bind fun _ =>
 (chk (slOk o2 (s0.2.length : Int) s0.2.length)).bind fun _ =>
 (chk (appOk ((((((([] : List ByteArray) : List ByteArray) ++ (subL s0.2 0 o2)) : List ByteArray) ++ [y1.from_]) : List ByteArray).length + ((subL s0.2 o2 (s0.2.length : Int)) : List ByteArray).length) 16)).bind fun _ =>
 some (.inl ((w64 (s0.1 + 1)), ((((((([] : List ByteArray) : List ByteArray) ++ (subL s0.2 0 o2)) : List ByteArray) ++ [y1.from_]) : List ByteArray) ++ (subL s0.2 o2 (s0.2.length : Int))))))
 (some (.inl ((w64 (s0.1 + 1)), s0.2)))))))
 (some (.inr s0.2))
instance (n : YNetwork) : LoopE (m_spec_PlacesOf_b0 n) := ⟨fun s0 => (.un :: .be 0 0 0 :: .un :: .ms 1 :: vi s0.1 :: .un :: .un :: .un :: .un :: .un :: .un :: .un :: .un :: .un :: .un :: .un :: .un :: .un :: .un :: .un :: .un :: .un :: .un :: .un :: .un :: .un :: .un :: .un :: .un :: .un :: .un :: .un :: .un :: .un :: .un :: .un :: .un :: .un :: .un :: .un :: .un :: .un :: .un :: .un :: .un :: .un :: .un :: .un :: .un :: .un :: .un :: .un :: .un :: .un :: .un :: .un :: .un :: .un :: .un :: .un :: .un :: .un :: .un :: .un :: .un :: .un :: .un :: .un :: .un :: .un :: .un :: .un :: []), fun s0 => [some ⟨35, 3, [[.sl (n.legs.map cLeg), .sl (n.off.map cInt), vi n.change]]⟩, some ⟨9, 1, s0.2.map cStr⟩]⟩
def m_spec_PlacesOf (n : YNetwork) : Option (List ByteArray) :=
 (iterF (m_spec_PlacesOf_b0 n) NN (0, ([] : List ByteArray))).bind (fun o0 =>
 some o0)
theorem ok_spec_PlacesOf (n : YNetwork) {r : (List ByteArray)} (H : m_spec_PlacesOf n = some r) : CallM Tryz.prog 49 [.ag (cNetwork n)] [] (.ms 0) [some ⟨9, 1, r.map cStr⟩] := by
  replace H := H0 H
  unfold m_spec_PlacesOf at H
  refine callM_of Tryz.func49 rfl Tryz.ntmps49 Tryz.results49 fun Q hQ hQn => ?_
  exact wk
instance (n : YNetwork) : CT Tryz.prog (m_spec_PlacesOf n) := ⟨49, [.ag (cNetwork n)], [], fun r => .ms 0, fun r => [some ⟨9, 1, r.map cStr⟩], ok_spec_PlacesOf n⟩
end Go.Proofs.YtmcdjilbkmhfoaaGreat
namespace Go.Proofs.YtmcdjilbkmhfoaaGreat
set_option maxRecDepth 10000
open Go.RowKit
set_option linter.unusedVariables false
set_option linter.unusedSimpArgs false
theorem sorted_eq {α : Type} {r : α → α → Prop} (irr : ∀ a, ¬ r a a) (asy : ∀ a b, r a b → ¬ r b a) : ∀ {l1 l2 : List α}, l1.Pairwise r → l2.Pairwise r → (∀ x, x ∈ l1 ↔ x ∈ l2) → l1 = l2
  | [], [], _, _, _ => rfl
  | [], b :: l2, _, _, h => absurd ((h b).2 (List.mem_cons_self ..)) (by simp)
  | a :: l1, [], _, _, h => absurd ((h a).1 (List.mem_cons_self ..)) (by simp)
  | a :: l1, b :: l2, h1, h2, h => by
    rw [List.pairwise_cons] at h1 h2
    have hab : a = b := by
      rcases List.mem_cons.1 ((h a).1 (List.mem_cons_self ..)) with e | e
      · exact e
      · rcases List.mem_cons.1 ((h b).2 (List.mem_cons_self ..)) with e' | e'
        · exact e'.symm
        · exact absurd (h1.1 b e') (asy _ _ (h2.1 a e))
    subst hab
    congr 1
    refine sorted_eq irr asy h1.2 h2.2 fun x => ⟨fun hx => ?_, fun hx => ?_⟩
    · rcases List.mem_cons.1 ((h x).1 (List.mem_cons_of_mem _ hx)) with e | e
      · subst e; exact absurd (h1.1 x hx) (irr x)
      · exact e
    · rcases List.mem_cons.1 ((h x).2 (List.mem_cons_of_mem _ hx)) with e | e
      · subst e; exact absurd (h2.1 x hx) (irr x)
      · exact e
theorem sLt_iff (a b : ByteArray) : sLt a b = true ↔ a.data.toList < b.data.toList := by
  unfold sLt; rw [Go.Proofs.bytesLess_eq, ByteArray.toList_eq, ByteArray.toList_eq, decide_eq_true_iff]
theorem ba_ext {a b : ByteArray} (h : a.data.toList = b.data.toList) : a = b := by
  obtain ⟨⟨x⟩⟩ := a; obtain ⟨⟨y⟩⟩ := b; simpa using h
theorem sLt_irr (a : ByteArray) : ¬ sLt a a = true := by rw [sLt_iff]; exact List.lt_irrefl _
theorem sLt_as (a b : ByteArray) (h : sLt a b = true) : ¬ sLt b a = true := by rw [sLt_iff] at *; exact List.lt_asymm h
theorem sLt_tr {a b c : ByteArray} (h : sLt a b = true) (h' : sLt b c = true) : sLt a c = true := by rw [sLt_iff] at *; exact List.lt_trans h h'
theorem sLt_tri {a b : ByteArray} (h : ¬ sLt a b = true) (hn : a ≠ b) : sLt b a = true := by
  rw [sLt_iff] at *
  rcases List.le_total a.data.toList b.data.toList with e | e
  · rcases (List.le_iff_lt_or_eq.1 e) with e' | e'
    · exact absurd e' h
    · exact absurd (ba_ext e') hn
  · rcases (List.le_iff_lt_or_eq.1 e) with e' | e'
    · exact e'
    · exact absurd (ba_ext e'.symm) hn
def insS : List ByteArray → ByteArray → List ByteArray
  | [], p => [p]
  | x :: xs, p => if sLt x p = true then x :: insS xs p else if x = p then x :: xs else p :: x :: xs
theorem insS_mem {p y : ByteArray} : ∀ {xs : List ByteArray}, y ∈ insS xs p ↔ y = p ∨ y ∈ xs
  | [] => by simp [insS]
  | x :: xs => by
    unfold insS
    split
    · rw [List.mem_cons, insS_mem, List.mem_cons]; grind
    · split
      · rename_i h; subst h; simp
      · simp
theorem insS_sorted {p : ByteArray} : ∀ {xs : List ByteArray}, xs.Pairwise (fun a b => sLt a b = true) → (insS xs p).Pairwise (fun a b => sLt a b = true)
  | [], _ => by simp [insS]
  | x :: xs, h => by
    rw [List.pairwise_cons] at h
    unfold insS
    split
    · rename_i h1
      rw [List.pairwise_cons]
      refine ⟨fun y hy => ?_, insS_sorted h.2⟩
      rcases insS_mem.1 hy with e | e
      · rw [e]; exact h1
      · exact h.1 y e
    · rename_i h1
      split
      · rw [List.pairwise_cons]; exact h
      · rename_i h2
        have h3 := sLt_tri h1 h2
        rw [List.pairwise_cons, List.pairwise_cons]
        refine ⟨fun y hy => ?_, h⟩
        rcases List.mem_cons.1 hy with e | e
        · rw [e]; exact h3
        · exact sLt_tr h3 (h.1 y e)
theorem insS_len {p : ByteArray} : ∀ {xs : List ByteArray}, (insS xs p).length ≤ xs.length + 1
  | [] => by simp [insS]
  | x :: xs => by
    unfold insS
    split
    · have := insS_len (p := p) (xs := xs); simp; omega
    · split <;> simp
theorem foldS_mem {y : ByteArray} : ∀ {l acc : List ByteArray}, y ∈ l.foldl insS acc ↔ y ∈ l ∨ y ∈ acc
  | [], acc => by simp
  | p :: l, acc => by rw [List.foldl_cons, foldS_mem, insS_mem, List.mem_cons]; grind
theorem foldS_sorted : ∀ {l acc : List ByteArray}, acc.Pairwise (fun a b => sLt a b = true) → (l.foldl insS acc).Pairwise (fun a b => sLt a b = true)
  | [], acc, h => h
  | p :: l, acc, h => foldS_sorted (l := l) (insS_sorted h)
theorem foldS_len : ∀ {l acc : List ByteArray}, (l.foldl insS acc).length ≤ l.length + acc.length
  | [], acc => by simp
  | p :: l, acc => by
    have h1 := foldS_len (l := l) (acc := insS acc p)
    have h2 := insS_len (p := p) (xs := acc)
    simp only [List.foldl_cons, List.length_cons]; omega
/-! The program's: a list without repeats, sorted. -/
theorem dd_mem {y : ByteArray} : ∀ {l acc : List ByteArray}, y ∈ l.foldl dd acc ↔ y ∈ l ∨ y ∈ acc
  | [], acc => by simp
  | p :: l, acc => by
    rw [List.foldl_cons, dd_mem, List.mem_cons]
    unfold dd
    split
    · rename_i h
      have h := inL_iff.1 h
      constructor
      · grind
      · rintro ((rfl | h') | h') <;> grind
    · simp; grind
theorem dd_nodup : ∀ {l acc : List ByteArray}, acc.Nodup → (l.foldl dd acc).Nodup
  | [], acc, h => h
  | p :: l, acc, h => by
    rw [List.foldl_cons]
    refine dd_nodup ?_
    unfold dd
    split
    · exact h
    · rename_i h1
      rw [List.nodup_append]
      refine ⟨h, by simp, ?_⟩
      intro a ha b hb
      simp at hb
      rintro rfl
      subst hb
      exact h1 (inL_iff.2 ha)
theorem srtS_mem {y : ByteArray} {xs : List ByteArray} : y ∈ srtS xs ↔ y ∈ xs := by
  unfold srtS
  rw [List.mem_map]
  constructor
  · rintro ⟨l, hl, rfl⟩
    rw [List.mem_mergeSort, List.mem_map] at hl
    obtain ⟨b, hb, rfl⟩ := hl
    have : (⟨b.data.toList.toArray⟩ : ByteArray) = b := ba_ext (by simp)
    rw [this]; exact hb
  · intro h
    exact ⟨y.data.toList, by rw [List.mem_mergeSort, List.mem_map]; exact ⟨y, h, rfl⟩, ba_ext (by simp)⟩
theorem srtS_sorted {xs : List ByteArray} (h : xs.Nodup) : (srtS xs).Pairwise (fun a b => sLt a b = true) := by
  unfold srtS
  rw [List.pairwise_map]
  have h1 : ((xs.map fun b : ByteArray => b.data.toList).mergeSort fun x y => decide (x ≤ y)).Pairwise (fun a b => decide (a ≤ b) = true) :=
    List.pairwise_mergeSort (fun a b c => by simp only [decide_eq_true_iff]; exact List.le_trans) (fun a b => by simp only [Bool.or_eq_true, decide_eq_true_iff]; exact List.le_total a b) _
  have h2 : ((xs.map fun b : ByteArray => b.data.toList).mergeSort fun x y => decide (x ≤ y)).Nodup := by
    rw [(List.mergeSort_perm _ _).nodup_iff]
    unfold List.Nodup
    rw [List.pairwise_map]
    exact h.imp fun hne e => hne (ba_ext e)
  refine (h1.and h2).imp ?_
  rintro a b ⟨h3, h4⟩
  rw [sLt_iff]
  rcases (List.le_iff_lt_or_eq.1 (of_decide_eq_true h3)) with e | e
  · simpa using e
  · exact absurd e h4
def placesV (n : YNetwork) : List ByteArray := (namesOf n).foldl insS []
theorem impl_places {n : YNetwork} (h : NetFit n) : m_impl_PlacesOf n = some (placesV n) := by
  unfold m_impl_PlacesOf
  rw [if_pos ⟨h.legs, List.all_eq_true.2 fun l hl => decide_eq_true (by have := h.leg l hl; unfold legFit B60 at this; unfold maxLen; omega)⟩]
  congr 1
  exact sorted_eq (r := fun a b => sLt a b = true) sLt_irr sLt_as (srtS_sorted (dd_nodup List.nodup_nil)) (foldS_sorted List.Pairwise.nil) fun x => by
    rw [srtS_mem, dd_mem]; unfold placesV; rw [foldS_mem]
theorem iter_tw {α : Type} {xs : List α} {p : α → Bool} {body : Int → Option (Int ⊕ Int)} (h1 : ∀ i (hi : i < xs.length), body (i : Int) = some (if p xs[i] = true then .inl ((i + 1 : Nat) : Int) else .inr (i : Int))) (h2 : body (xs.length : Int) = some (.inr (xs.length : Int))) (hN : xs.length < NN) :
    iterF body NN 0 = some ((xs.takeWhile p).length : Int) := by
  have key : ∀ (ys : List α) (i N : Nat), xs.drop i = ys → i ≤ xs.length → ys.length < N → iterF body N (i : Int) = some ((i + (ys.takeWhile p).length : Nat) : Int) := by
    intro ys
    induction ys with
    | nil =>
      intro i N hd hi hN
      cases N with
      | zero => omega
      | succ N =>
        have : i = xs.length := by have := congrArg List.length hd; simp at this; omega
        subst this
        simp only [iterF, h2]
        rfl
    | cons y ys ih =>
      intro i N hd hi hN
      cases N with
      | zero => simp at hN
      | succ N =>
        have hy : xs[i]? = some y := by
          have := congrArg (fun l => l[0]?) hd
          simpa using this
        have hlt : i < xs.length := (List.getElem?_eq_some_iff.1 hy).1
        have hyv : xs[i] = y := (List.getElem?_eq_some_iff.1 hy).2
        have hd' : xs.drop (i + 1) = ys := by
          have := congrArg (List.drop 1) hd
          simpa [List.drop_drop] using this
        simp only [iterF, h1 i hlt, hyv]
        cases hp : p y with
        | true =>
          simp only [if_true]
          have := ih (i + 1) N hd' hlt (by simp at hN; omega)
          refine this.trans ?_
          rw [List.takeWhile_cons_of_pos hp]
          congr 2
          simp; omega
        | false =>
          simp only [Bool.false_eq_true, if_false]
          rw [List.takeWhile_cons_of_neg (by simp [hp])]
          rfl
  simpa using key xs 0 NN rfl (Nat.zero_le _) hN
theorem insS_eq (p : ByteArray) : ∀ (xs : List ByteArray), insS xs p =
    if xs[(xs.takeWhile fun x => sLt x p).length]? = some p then xs else xs.take (xs.takeWhile fun x => sLt x p).length ++ [p] ++ xs.drop (xs.takeWhile fun x => sLt x p).length
  | [] => by simp [insS]
  | x :: xs => by
    unfold insS
    cases h : sLt x p with
    | true =>
      simp only [if_true]
      rw [List.takeWhile_cons_of_pos (by exact h), insS_eq p xs]
      simp only [List.length_cons, List.getElem?_cons_succ, List.take_succ_cons, List.drop_succ_cons]
      split <;> simp
    | false =>
      rw [List.takeWhile_cons_of_neg (by simp [h])]
      simp only [List.length_nil, List.getElem?_cons_zero, List.take_zero, List.drop_zero, Option.some.injEq, Bool.false_eq_true, if_false]
      split <;> simp
theorem spec_ins {out : List ByteArray} {p : ByteArray} {i' : Int} (hl : out.length ≤ 4194304) :
    (cond (decide (((out.takeWhile fun x => sLt x p).length : Int) = (out.length : Int)))
     ((chk (slOk 0 ((out.takeWhile fun x => sLt x p).length : Int) out.length)).bind fun _ =>
     (chk (appOk ((([] : List ByteArray) : List ByteArray).length + ((subL out 0 ((out.takeWhile fun x => sLt x p).length : Int)) : List ByteArray).length) 16)).bind fun _ =>
     (chk (appOk ((((([] : List ByteArray) : List ByteArray) ++ (subL out 0 ((out.takeWhile fun x => sLt x p).length : Int))) : List ByteArray).length + ([p] : List ByteArray).length) 16)).bind fun _ =>
     (chk (slOk ((out.takeWhile fun x => sLt x p).length : Int) (out.length : Int) out.length)).bind fun _ =>
     (chk (appOk ((((((([] : List ByteArray) : List ByteArray) ++ (subL out 0 ((out.takeWhile fun x => sLt x p).length : Int))) : List ByteArray) ++ [p]) : List ByteArray).length + ((subL out ((out.takeWhile fun x => sLt x p).length : Int) (out.length : Int)) : List ByteArray).length) 16)).bind fun _ =>
     (some (.inl (i', ((((((([] : List ByteArray) : List ByteArray) ++ (subL out 0 ((out.takeWhile fun x => sLt x p).length : Int))) : List ByteArray) ++ [p]) : List ByteArray) ++ (subL out ((out.takeWhile fun x => sLt x p).length : Int) (out.length : Int))))) : Option ((Int × List ByteArray) ⊕ List ByteArray)))
     ((getI out ((out.takeWhile fun x => sLt x p).length : Int)).bind fun y4 =>
     cond (!decide (y4 = p))
     ((chk (slOk 0 ((out.takeWhile fun x => sLt x p).length : Int) out.length)).bind fun _ =>
     (chk (appOk ((([] : List ByteArray) : List ByteArray).length + ((subL out 0 ((out.takeWhile fun x => sLt x p).length : Int)) : List ByteArray).length) 16)).bind fun _ =>
     (chk (appOk ((((([] : List ByteArray) : List ByteArray) ++ (subL out 0 ((out.takeWhile fun x => sLt x p).length : Int))) : List ByteArray).length + ([p] : List ByteArray).length) 16)).bind fun _ =>
     (chk (slOk ((out.takeWhile fun x => sLt x p).length : Int) (out.length : Int) out.length)).bind fun _ =>
     (chk (appOk ((((((([] : List ByteArray) : List ByteArray) ++ (subL out 0 ((out.takeWhile fun x => sLt x p).length : Int))) : List ByteArray) ++ [p]) : List ByteArray).length + ((subL out ((out.takeWhile fun x => sLt x p).length : Int) (out.length : Int)) : List ByteArray).length) 16)).bind fun _ =>
     some (.inl (i', ((((((([] : List ByteArray) : List ByteArray) ++ (subL out 0 ((out.takeWhile fun x => sLt x p).length : Int))) : List ByteArray) ++ [p]) : List ByteArray) ++ (subL out ((out.takeWhile fun x => sLt x p).length : Int) (out.length : Int))))))
     (some (.inl (i', out))))) = some (.inl (i', insS out p)) := by
  have hk : (out.takeWhile fun x => sLt x p).length ≤ out.length := (List.takeWhile_sublist _).length_le
  rw [insS_eq]
  generalize hkk : (out.takeWhile fun x => sLt x p).length = k at *
  have e1 : subL out 0 (k : Int) = out.take k := by simp [subL]
  have e2 : subL out (k : Int) (out.length : Int) = out.drop k := by
    unfold subL
    rw [Int.toNat_natCast, Int.toNat_natCast, List.take_of_length_le (by simp)]
  have c1 : chk (slOk 0 (k : Int) out.length) = some () := chk_t (by unfold slOk; rw [decide_eq_true_iff]; omega)
  have c2 : chk (slOk (k : Int) (out.length : Int) out.length) = some () := chk_t (by unfold slOk; rw [decide_eq_true_iff]; omega)
  have ap : ∀ n : Nat, n ≤ 8388608 → chk (appOk n 16) = some () := fun n hn => chk_t (by unfold appOk; rw [decide_eq_true_iff]; omega)
  simp only [e1, e2, c1, c2, Option.bind_some, List.nil_append]
  rw [ap _ (by simp; omega), ap _ (by simp; omega), ap _ (by simp; omega)]
  simp only [Option.bind_some]
  by_cases hke : (k : Int) = out.length
  · have hke' : k = out.length := by omega
    rw [decide_eq_true hke, cond_true, if_neg (by rw [hke']; simp)]
  · rw [decide_eq_false hke, cond_false, getI_nat]
    have hlt : k < out.length := by omega
    rw [List.getElem?_eq_getElem hlt]
    simp only [Option.bind_some]
    by_cases he : out[k] = p
    · rw [decide_eq_true he, if_pos (by rw [he])]; rfl
    · rw [decide_eq_false he, if_neg (by simpa using he)]; rfl
theorem names_get {n : YNetwork} {i : Nat} (h : i < n.legs.length) : (namesOf n)[2 * i]? = some n.legs[i].from_ ∧ (namesOf n)[2 * i + 1]? = some n.legs[i].to_ := by
  unfold namesOf
  have key : ∀ (l : List YLeg) (i : Nat) (h : i < l.length), (l.flatMap fun x => [x.from_, x.to_])[2 * i]? = some l[i].from_ ∧ (l.flatMap fun x => [x.from_, x.to_])[2 * i + 1]? = some l[i].to_ := by
    intro l
    induction l with
    | nil => intro i h; simp at h
    | cons a l ih =>
      intro i h
      cases i with
      | zero => simp [List.flatMap_cons]
      | succ i =>
        have := ih i (by simpa using h)
        simp only [List.flatMap_cons, List.getElem_cons_succ]
        rw [show 2 * (i + 1) = 2 * i + 2 by omega, show 2 * i + 2 + 1 = 2 * i + 1 + 2 by omega]
        simpa using this
  exact key n.legs i h
theorem names_len (n : YNetwork) : (namesOf n).length = 2 * n.legs.length := by
  unfold namesOf
  induction n.legs with
  | nil => rfl
  | cons a l ih => simp only [List.flatMap_cons, List.length_append, ih, List.length_cons, List.length_nil]; omega
theorem twL {out : List ByteArray} {p : ByteArray} (hl : out.length ≤ 4194304) {body : Int → Option (Int ⊕ Int)} (hb : ∀ i : Int, body i = cond (decide (i < (out.length : Int))) ((getI out i).bind fun y => cond (sLt y p) (some (.inl (w64 (i + 1)))) (some (.inr i))) (some (.inr i))) :
    iterF body NN 0 = some ((out.takeWhile fun x => sLt x p).length : Int) := by
  refine iter_tw (fun i hi => ?_) ?_ (by unfold NN; omega)
  · have hw := w64_nat hi (by omega)
    have hg : getI out (i : Int) = some out[i] := by rw [getI_nat]; exact List.getElem?_eq_getElem hi
    rw [hb, decide_eq_true (show (i : Int) < out.length by omega), cond_true, hg]
    simp only [Option.bind_some, hw]
    cases sLt out[i] p <;> rfl
  · rw [hb, decide_eq_false (by omega)]; rfl
theorem spec_round {n : YNetwork} (h : n.legs.length ≤ 1048576) {i : Nat} {p : ByteArray} (hp : (namesOf n)[i]? = some p) {out : List ByteArray} (ho : out.length ≤ 4194304) :
    m_spec_PlacesOf_b0 n ((i : Int), out) = some (.inl (((i + 1 : Nat) : Int), insS out p)) := by
  have hi : i < 2 * n.legs.length := by rw [← names_len]; exact (List.getElem?_eq_some_iff.1 hp).1
  have hw2 : w64 (2 * (n.legs.length : Int)) = 2 * n.legs.length := w64_in (by omega)
  have hdiv : IntKind.i64.wrap (Int.tdiv (i : Int) 2) = ((i / 2 : Nat) : Int) := by
    rw [show Int.tdiv (i : Int) 2 = ((i / 2 : Nat) : Int) from rfl]
    exact w64_in (by omega)
  have hmod : Int.tmod (i : Int) 2 = ((i % 2 : Nat) : Int) := rfl
  have hw : w64 ((i : Int) + 1) = ((i + 1 : Nat) : Int) := w64_nat hi (by omega)
  have hlt : i / 2 < n.legs.length := by omega
  have hg : getI n.legs ((i / 2 : Nat) : Int) = some n.legs[i / 2] := by rw [getI_nat]; exact List.getElem?_eq_getElem hlt
  obtain ⟨n1, n2⟩ := names_get hlt
  unfold m_spec_PlacesOf_b0
  simp only [hw2, hdiv, hmod, hw, hg, Option.bind_some]
  rw [decide_eq_true (show (i : Int) < 2 * (n.legs.length : Int) by omega), cond_true]
  rcases Nat.mod_two_eq_zero_or_one i with hm | hm
  · rw [hm, decide_eq_false (show ¬ ((0 : Nat) : Int) = 1 by omega), cond_false]
    have hp' : p = n.legs[i / 2].from_ := by
      rw [show i = 2 * (i / 2) by omega, n1] at hp
      exact (Option.some.inj hp).symm
    rw [← hp']
    rw [twL ho (body := m_spec_PlacesOf_b2 n ((i : Int), out) n.legs[i / 2]) (p := p) (fun j => by rw [hp']; rfl)]
    exact spec_ins ho
  · rw [hm, decide_eq_true (show ((1 : Nat) : Int) = 1 by omega), cond_true]
    have hp' : p = n.legs[i / 2].to_ := by
      rw [show i = 2 * (i / 2) + 1 by omega] at hp
      rw [n2] at hp
      exact (Option.some.inj hp).symm
    rw [← hp']
    rw [twL ho (body := m_spec_PlacesOf_b1 n ((i : Int), out) n.legs[i / 2]) (p := p) (fun j => by rw [hp']; rfl)]
    exact spec_ins ho
theorem spec_places {n : YNetwork} (h : n.legs.length ≤ 1048576) : m_spec_PlacesOf n = some (placesV n) := by
  have key : ∀ (ps : List ByteArray) (i N : Nat) (out : List ByteArray), (namesOf n).drop i = ps → i ≤ (namesOf n).length → ps.length < N → out.length ≤ i → iterF (m_spec_PlacesOf_b0 n) N ((i : Int), out) = some (ps.foldl insS out) := by
    have hnl := names_len n
    intro ps
    induction ps with
    | nil =>
      intro i N out hd hi hN ho
      cases N with
      | zero => omega
      | succ N =>
        have : i = (namesOf n).length := by have := congrArg List.length hd; simp at this; omega
        subst this
        have hw2 : w64 (2 * (n.legs.length : Int)) = 2 * n.legs.length := w64_in (by omega)
        simp only [iterF, m_spec_PlacesOf_b0, hw2]
        rw [decide_eq_false (by rw [hnl]; omega)]
        rfl
    | cons p ps ih =>
      intro i N out hd hi hN ho
      cases N with
      | zero => simp at hN
      | succ N =>
        have hp : (namesOf n)[i]? = some p := by
          have := congrArg (fun l => l[0]?) hd
          simpa using this
        have hlt := (List.getElem?_eq_some_iff.1 hp).1
        have hd' : (namesOf n).drop (i + 1) = ps := by
          have := congrArg (List.drop 1) hd
          simpa [List.drop_drop] using this
        simp only [iterF, spec_round h hp (show out.length ≤ 4194304 by omega)]
        exact ih (i + 1) N (insS out p) hd' hlt (by simp at hN; omega) (by have := insS_len (p := p) (xs := out); omega)
  have hnl := names_len n
  unfold m_spec_PlacesOf
  rw [show ((0 : Int)) = ((0 : Nat) : Int) from rfl, key (namesOf n) 0 NN [] rfl (Nat.zero_le _) (by unfold NN; omega) (by simp)]
  rfl
theorem places_eq {n : YNetwork} (h : NetFit n) : m_impl_PlacesOf n = m_spec_PlacesOf n ∧ m_spec_PlacesOf n = some (placesV n) := ⟨(impl_places h).trans (spec_places h.legs).symm, spec_places h.legs⟩
theorem placesV_len (n : YNetwork) : (placesV n).length ≤ 2 * n.legs.length := by
  have := foldS_len (l := namesOf n) (acc := [])
  rw [names_len] at this
  simpa [placesV] using this
end Go.Proofs.YtmcdjilbkmhfoaaGreat
namespace Go.Proofs.YtmcdjilbkmhfoaaGreat
set_option maxRecDepth 10000
open Go.RowKit
set_option linter.unusedVariables false
set_option maxHeartbeats 16000000
def m_impl_hasBooking_b0 (w : YWorld) (id : Int) (t : YTrip) (s0 : Int) : Option (Int ⊕ (Unit ⊕ Bool)) :=
 cond (decide (s0 < (w.bookings.length : Int)))
 ((getI w.bookings s0).bind fun y1 =>
 cond (decide (y1.thing = id))
 (cond (decide (y1.trip = t))
 ((getI w.orders (w64 (id - 1))).bind fun y2 =>
 some (.inr (.inr (decide (y1.weight = y2.weight)))))
 (some (.inl (w64 (s0 + 1)))))
 (some (.inl (w64 (s0 + 1)))))
 (some (.inr (.inl ())))
instance (w : YWorld) (id : Int) (t : YTrip) : LoopE (m_impl_hasBooking_b0 w id t) := ⟨fun s0 => [.un, vi id, .un, .be 0 0 0, .un, .be 1 0 0, .un, .un, .un, .un, .sl (w.bookings.map cBooking), vi (w.bookings.length : Int), vi s0, .un, .un, .un, .un, .un, .un, .un, .un, .un, .un, .un, .un, .un, .un, .un, .un, .un, .un, .un, .un, .un, .un, .un, .un], fun s0 => [some ⟨41, 10, [[.sl (w.network.legs.map cLeg), .sl (w.network.off.map cInt), vi w.network.change, .sl (w.orders.map cOrder), .sl (w.bookings.map cBooking), .sl (w.closed.map cTrip), vi w.now, .sl (w.scans.map cScan), .sl (w.skip.map cInt), vi w.made]]⟩, some ⟨55, 2, [[vi t.leg, vi t.day]]⟩]⟩
def m_impl_hasBooking (w : YWorld) (id : Int) (t : YTrip) : Option Bool :=
 (iterF (m_impl_hasBooking_b0 w id t) NN 0).bind (selim (fun o0 =>
 some false) (fun r => some r))
theorem ok_impl_hasBooking (w : YWorld) (id : Int) (t : YTrip) {r : Bool} (H : m_impl_hasBooking w id t = some r) : CallM Tryz.prog 207 [.ag (cWorld w), vi id, .ag (cTrip t)] [] (vb r) [] := by
  replace H := H0 H
  unfold m_impl_hasBooking at H
  refine callM_of Tryz.func207 rfl Tryz.ntmps207 Tryz.results207 fun Q hQ hQn => ?_
  exact wk
instance (w : YWorld) (id : Int) (t : YTrip) : CT Tryz.prog (m_impl_hasBooking w id t) := ⟨207, [.ag (cWorld w), vi id, .ag (cTrip t)], [], fun r => vb r, fun r => [], ok_impl_hasBooking w id t⟩
def m_spec_l10Booked_b0 (l : List YBooking) (thing : Int) (t : YTrip) (weight : Int) (s0 : Int) : Option (Int ⊕ (Unit ⊕ Bool)) :=
 cond (decide (s0 < (l.length : Int)))
 ((getI l s0).bind fun y1 =>
 cond (decide (y1 = (⟨thing, t, weight⟩ : YBooking)))
 (some (.inr (.inr true)))
 (some (.inl (w64 (s0 + 1)))))
 (some (.inr (.inl ())))
instance (l : List YBooking) (thing : Int) (t : YTrip) (weight : Int) : LoopE (m_spec_l10Booked_b0 l thing t weight) := ⟨fun s0 => [.sl (l.map cBooking), vi thing, .un, vi weight, .un, .un, .be 0 0 0, .un, .un, vi s0, .un, .un, .un, .un, .un, .un, .un, .un, .un, .un, .un, .un, .un, .un, .un], fun s0 => [some ⟨55, 2, [[vi t.leg, vi t.day]]⟩]⟩
def m_spec_l10Booked (l : List YBooking) (thing : Int) (t : YTrip) (weight : Int) : Option Bool :=
 (iterF (m_spec_l10Booked_b0 l thing t weight) NN 0).bind (selim (fun o0 =>
 some false) (fun r => some r))
theorem ok_spec_l10Booked (l : List YBooking) (thing : Int) (t : YTrip) (weight : Int) {r : Bool} (H : m_spec_l10Booked l thing t weight = some r) : CallM Tryz.prog 186 [.sl (l.map cBooking), vi thing, .ag (cTrip t), vi weight] [] (vb r) [] := by
  replace H := H0 H
  unfold m_spec_l10Booked at H
  refine callM_of Tryz.func186 rfl Tryz.ntmps186 Tryz.results186 fun Q hQ hQn => ?_
  exact wk
instance (l : List YBooking) (thing : Int) (t : YTrip) (weight : Int) : CT Tryz.prog (m_spec_l10Booked l thing t weight) := ⟨186, [.sl (l.map cBooking), vi thing, .ag (cTrip t), vi weight], [], fun r => vb r, fun r => [], ok_spec_l10Booked l thing t weight⟩
end Go.Proofs.YtmcdjilbkmhfoaaGreat
namespace Go.Proofs.YtmcdjilbkmhfoaaGreat
set_option maxRecDepth 10000
open Go.RowKit
set_option linter.unusedVariables false
set_option linter.unusedSimpArgs false
theorem iter_fidx {α ο : Type} {xs : List α} {p : α → Bool} {body : Int → Option (Int ⊕ ο)} {f : Nat → ο} {e : ο} (h1 : ∀ i (hi : i < xs.length), body (i : Int) = some (if p xs[i] = true then .inr (f i) else .inl ((i + 1 : Nat) : Int))) (h2 : body (xs.length : Int) = some (.inr e)) (hN : xs.length < NN) :
    iterF body NN 0 = some ((xs.findIdx? p).elim e f) := by
  have key : ∀ (ys : List α) (i N : Nat), xs.drop i = ys → i ≤ xs.length → ys.length < N → iterF body N (i : Int) = some ((ys.findIdx? p).elim e fun k => f (i + k)) := by
    intro ys
    induction ys with
    | nil =>
      intro i N hd hi hN
      cases N with
      | zero => omega
      | succ N =>
        have : i = xs.length := by have := congrArg List.length hd; simp at this; omega
        subst this
        simp only [iterF, h2]
        rfl
    | cons y ys ih =>
      intro i N hd hi hN
      cases N with
      | zero => simp at hN
      | succ N =>
        have hy : xs[i]? = some y := by
          have := congrArg (fun l => l[0]?) hd
          simpa using this
        have hlt : i < xs.length := (List.getElem?_eq_some_iff.1 hy).1
        have hyv : xs[i] = y := (List.getElem?_eq_some_iff.1 hy).2
        have hd' : xs.drop (i + 1) = ys := by
          have := congrArg (List.drop 1) hd
          simpa [List.drop_drop] using this
        simp only [iterF, h1 i hlt, hyv]
        rw [List.findIdx?_cons]
        cases hp : p y with
        | true => simp
        | false =>
          simp only [Bool.false_eq_true, if_false]
          have := ih (i + 1) N hd' hlt (by simp at hN; omega)
          refine this.trans ?_
          cases ys.findIdx? p with
          | none => rfl
          | some k => simp only [Option.map_some, Option.elim_some]; congr 2; omega
  have := key xs 0 NN rfl (Nat.zero_le _) hN
  simpa using this
def idxV (l : List ByteArray) (p : ByteArray) : Int := (l.findIdx? fun y => decide (y = p)).elim (-1) fun k => (k : Int)
theorem l4Index_v {l : List ByteArray} (h : l.length ≤ 4194304) (p : ByteArray) : m_spec_l4Index l p = some (idxV l p) := by
  unfold m_spec_l4Index
  rw [iter_fidx (xs := l) (p := fun y => decide (y = p)) (f := fun i => .inr (i : Int)) (e := .inl ()) (fun i hi => ?_) (by simp [m_spec_l4Index_b0]) (by unfold NN; omega)]
  · unfold idxV
    cases l.findIdx? fun y => decide (y = p) <;> rfl
  · have hw := w64_nat hi (by omega)
    have hg : getI l (i : Int) = some l[i] := by rw [getI_nat]; exact List.getElem?_eq_getElem hi
    simp only [m_spec_l4Index_b0, decide_eq_true (show (i : Int) < l.length by omega), cond_true, hg, Option.bind_some, hw]
    cases decide (l[i] = p) <;> rfl
/-! Bookings: one for a thing and a trip. -/
def UniqB (l : List YBooking) : Prop := ∀ x ∈ l, ∀ y ∈ l, x.thing = y.thing → x.trip = y.trip → x = y
theorem befB_tr {a b c : YBooking} (h : befB a b = true) (h' : befB b c = true) : befB a c = true := by
  unfold befB at *
  split at h
  · have h1 := of_decide_eq_true h
    split at h'
    · have h2 := of_decide_eq_true h'
      rw [if_pos (by omega)]; exact decide_eq_true (by omega)
    · rename_i h2
      rw [if_pos (by omega)]; exact decide_eq_true (by omega)
  · rename_i h0
    split at h
    · have h1 := of_decide_eq_true h
      split at h'
      · have h2 := of_decide_eq_true h'
        rw [if_pos (by omega)]; exact decide_eq_true (by omega)
      · rename_i h2
        rw [if_neg (by omega)]
        split at h'
        · have h3 := of_decide_eq_true h'
          rw [if_pos (by omega)]; exact decide_eq_true (by omega)
        · rename_i h3
          rw [if_pos (by omega)]; exact decide_eq_true (by omega)
    · rename_i h00
      have h1 := of_decide_eq_true h
      split at h'
      · have h2 := of_decide_eq_true h'
        rw [if_pos (by omega)]; exact decide_eq_true (by omega)
      · rename_i h2
        rw [if_neg (by omega)]
        split at h'
        · have h3 := of_decide_eq_true h'
          rw [if_pos (by omega)]; exact decide_eq_true (by omega)
        · rename_i h3
          have h4 := of_decide_eq_true h'
          rw [if_neg (by omega)]; exact decide_eq_true (by omega)
theorem books_net {n : YNetwork} {l : List YBooking} (h : booksV n l = true) : m_spec_IsNetwork n = some true ∧ l.length ≤ 120 := by
  unfold booksV at h
  simp only [Bool.and_eq_true, decide_eq_true_iff] at h
  refine ⟨?_, by omega⟩
  cases hn : m_spec_IsNetwork n with
  | none => rw [hn] at h; cases h.1.1
  | some b => rw [hn] at h; have := h.1.1; simp at this; rw [this]
theorem books_at {n : YNetwork} {l : List YBooking} (h : booksV n l = true) {i : Nat} (hi : i < l.length) : bk1 n l i = true ∧ bk2 n l i = true := by
  unfold booksV at h
  simp only [Bool.and_eq_true] at h
  have := List.all_eq_true.1 h.2 i (List.mem_range.2 hi)
  simpa only [Bool.and_eq_true] using this
theorem books_lt {n : YNetwork} {l : List YBooking} (h : booksV n l = true) : ∀ (j i : Nat) (hj : j < l.length) (hij : i < j), befB (l[i]'(by omega)) l[j] = true := by
  intro j
  induction j with
  | zero => intro i hj hij; omega
  | succ j ih =>
    intro i hj hij
    have h1 := (books_at h hj).1
    unfold bk1 at h1
    rw [List.getElem?_eq_getElem hj] at h1
    simp only [Nat.add_sub_cancel, List.getElem?_eq_getElem (show j < l.length by omega), Bool.and_eq_true, Bool.or_eq_true, decide_eq_true_iff] at h1
    have h2 : befB l[j] l[j + 1] = true := by
      rcases h1.2 with h3 | h3
      · omega
      · exact h3
    rcases Nat.lt_or_ge i j with h3 | h3
    · exact befB_tr (ih i (by omega) h3) h2
    · have : i = j := by omega
      subst this; exact h2
theorem befB_irr {a b : YBooking} (h1 : a.thing = b.thing) (h2 : a.trip = b.trip) : befB a b = false := by
  unfold befB
  rw [h2, h1]
  simp
theorem books_uniq {n : YNetwork} {l : List YBooking} (h : booksV n l = true) : UniqB l := by
  intro x hx y hy ht htr
  obtain ⟨i, hi, rfl⟩ := List.getElem_of_mem hx
  obtain ⟨j, hj, rfl⟩ := List.getElem_of_mem hy
  rcases Nat.lt_trichotomy i j with h1 | h1 | h1
  · have := books_lt h j i hj h1
    rw [befB_irr ht htr] at this; cases this
  · subst h1; rfl
  · have := books_lt h i j hi h1
    rw [befB_irr ht.symm htr.symm] at this; cases this
def bookedB (l : List YBooking) (thing : Int) (t : YTrip) (wt : Int) : Bool := l.any fun y => decide (y = (⟨thing, t, wt⟩ : YBooking))
theorem booked_v {l : List YBooking} (h : l.length ≤ 1048576) (thing : Int) (t : YTrip) (wt : Int) : m_spec_l10Booked l thing t wt = some (bookedB l thing t wt) := by
  unfold m_spec_l10Booked
  rw [iter_find (xs := l) (p := fun y => decide (y = (⟨thing, t, wt⟩ : YBooking))) (r := .inr true) (e := .inl ()) (fun i hi => ?_) (by simp [m_spec_l10Booked_b0]) (by unfold NN; omega)]
  · unfold bookedB
    cases l.any fun y => decide (y = (⟨thing, t, wt⟩ : YBooking)) <;> rfl
  · have hw := w64_nat hi (by omega)
    have hg : getI l (i : Int) = some l[i] := by rw [getI_nat]; exact List.getElem?_eq_getElem hi
    simp only [m_spec_l10Booked_b0, decide_eq_true (show (i : Int) < l.length by omega), cond_true, hg, Option.bind_some, hw]
    cases decide (l[i] = (⟨thing, t, wt⟩ : YBooking)) <;> rfl
theorem hasBooking_v {w : YWorld} (h : w.bookings.length ≤ 1048576) (hu : UniqB w.bookings) {id : Int} {o : YOrder} (ho : getI w.orders (w64 (id - 1)) = some o) (t : YTrip) : m_impl_hasBooking w id t = some (bookedB w.bookings id t o.weight) := by
  unfold m_impl_hasBooking
  have e : iterF (m_impl_hasBooking_b0 w id t) NN 0 = runL (fun _ (_ : Unit) (x : YBooking) => some (if x.thing = id ∧ x.trip = t then .inr (.inr (decide (x.weight = o.weight))) else .inl ())) (fun _ => some (.inl ())) 0 w.bookings () := by
    refine iter_list (A := Unit) (fun _ i => i) _ _ (fun _ i x hx => ?_) (fun _ => ?_) (by unfold NN; omega) ()
    · have hi := (List.getElem?_eq_some_iff.1 hx).1
      have hw := w64_nat hi (by omega)
      have hg : getI w.bookings (i : Int) = some x := by rw [getI_nat]; exact hx
      simp only [m_impl_hasBooking_b0, decide_eq_true (show (i : Int) < w.bookings.length by omega), cond_true, hg, Option.bind_some, hw, ho]
      by_cases h1 : x.thing = id
      · by_cases h2 : x.trip = t
        · simp [h1, h2]
        · simp [h1, h2]
      · simp [h1]
    · simp [m_impl_hasBooking_b0]
  have key : ∀ (l : List YBooking) (i : Nat), (∀ x ∈ l, x ∈ w.bookings) → runL (fun _ (_ : Unit) (x : YBooking) => some (if x.thing = id ∧ x.trip = t then (.inr (.inr (decide (x.weight = o.weight))) : Unit ⊕ (Unit ⊕ Bool)) else .inl ())) (fun _ => some (Sum.inl () : Unit ⊕ Bool)) i l () = some (if l.any (fun y => decide (y.thing = id ∧ y.trip = t)) = true then Sum.inr (bookedB l id t o.weight) else Sum.inl ()) := by
    intro l
    induction l with
    | nil => intro i _; rfl
    | cons x l ih =>
      intro i hm
      simp only [runL]
      by_cases hc : x.thing = id ∧ x.trip = t
      · rw [if_pos hc]
        simp only [Option.bind_some, List.any_cons, decide_eq_true hc, Bool.true_or, if_true]
        show some (Sum.inr (decide (x.weight = o.weight)) : Unit ⊕ Bool) = _
        congr 2
        unfold bookedB
        rw [List.any_cons]
        by_cases hw : x.weight = o.weight
        · rw [decide_eq_true hw]
          have : x = (⟨id, t, o.weight⟩ : YBooking) := by obtain ⟨a, b, c⟩ := x; simp at hc hw ⊢; exact ⟨hc.1, hc.2, hw⟩
          rw [decide_eq_true this]; rfl
        · rw [decide_eq_false hw]
          symm
          rw [Bool.or_eq_false_iff]
          refine ⟨decide_eq_false (fun e => hw (by rw [e])), ?_⟩
          rw [Bool.eq_false_iff]
          intro h3
          obtain ⟨y, hy, he⟩ := List.any_eq_true.1 h3
          have he := of_decide_eq_true he
          have := hu x (hm x (List.mem_cons_self ..)) y (hm y (List.mem_cons_of_mem _ hy)) (by rw [he]; exact hc.1) (by rw [he]; exact hc.2)
          exact hw (by rw [this, he])
      · rw [if_neg hc]
        simp only [Option.bind_some, selim]
        rw [ih (i + 1) (fun y hy => hm y (List.mem_cons_of_mem _ hy))]
        simp only [List.any_cons, decide_eq_false hc, Bool.false_or]
        have : bookedB (x :: l) id t o.weight = bookedB l id t o.weight := by
          unfold bookedB
          rw [List.any_cons, decide_eq_false (fun e => hc (by rw [e]; exact ⟨rfl, rfl⟩)), Bool.false_or]
        rw [this]
  rw [e, key w.bookings 0 (fun x h => h)]
  cases ha : w.bookings.any (fun y => decide (y.thing = id ∧ y.trip = t)) with
  | true => rfl
  | false =>
    show some false = _
    congr 1
    symm
    unfold bookedB
    rw [Bool.eq_false_iff]
    intro h3
    obtain ⟨y, hy, he⟩ := List.any_eq_true.1 h3
    have he := of_decide_eq_true he
    have := List.any_eq_false.1 ha y hy
    apply this
    rw [he]; simp
end Go.Proofs.YtmcdjilbkmhfoaaGreat
namespace Go.Proofs.YtmcdjilbkmhfoaaGreat
set_option maxRecDepth 10000
open Go.RowKit
set_option linter.unusedVariables false
set_option maxHeartbeats 16000000
def m_impl_IsWay_b0 (n : YNetwork) (way : List YTrip) (to_ : ByteArray) (s0 : Int × ByteArray × Int) : Option ((Int × ByteArray × Int) ⊕ (ByteArray ⊕ Bool)) :=
 cond (decide (s0.2.2 < (way.length : Int)))
 ((getI way s0.2.2).bind fun y5 =>
 (m_impl_IsTrip n y5).bind fun y6 =>
 cond (!y6)
 (some (.inr (.inr false)))
 ((getI n.legs y5.leg).bind fun y7 =>
 cond (!decide (y7.from_ = s0.2.1))
 (some (.inr (.inr false)))
 ((m_impl_starts n y5).bind fun y8 =>
 cond (decide (y8 < s0.1))
 (some (.inr (.inr false)))
 ((getI n.legs y5.leg).bind fun y9 =>
 (getI way s0.2.2).bind fun y10 =>
 (m_impl_ends n y10).bind fun y11 =>
 some (.inl ((w64 (y11 + n.change)), y9.to_, (w64 (s0.2.2 + 1))))))))
 (some (.inr (.inl s0.2.1)))
instance (n : YNetwork) (way : List YTrip) (to_ : ByteArray) : LoopE (m_impl_IsWay_b0 n way to_) := ⟨fun s0 => (.un :: .sl (way.map cTrip) :: .un :: vs to_ :: vi s0.1 :: .be 0 0 0 :: .un :: .un :: .un :: .un :: .un :: .un :: vs s0.2.1 :: .un :: .un :: .un :: .un :: .un :: .un :: .un :: .un :: .un :: .un :: .un :: .un :: .un :: .un :: .un :: .un :: .un :: .un :: .un :: .un :: .sl (way.map cTrip) :: vi (way.length : Int) :: vi s0.2.2 :: .un :: .un :: .un :: .un :: .un :: .un :: .un :: .un :: .un :: .un :: .un :: .un :: .un :: .un :: .un :: .un :: .un :: .un :: .un :: .un :: .un :: .un :: .un :: .un :: .un :: .un :: .un :: .un :: .un :: .un :: .un :: .un :: .un :: .un :: .un :: .un :: .un :: .un :: .un :: .un :: .un :: .un :: .un :: .un :: .un :: .un :: []), fun s0 => [some ⟨35, 3, [[.sl (n.legs.map cLeg), .sl (n.off.map cInt), vi n.change]]⟩]⟩
def m_impl_IsWay (n : YNetwork) (way : List YTrip) (from2_ : ByteArray) (to_ : ByteArray) (at4_ : Int) : Option Bool :=
 (m_impl_PlacesOf n).bind fun y1 =>
 (m_impl_IsNetwork n).bind fun y2 =>
 cond (!y2)
 (some false)
 ((m_impl_placeAt y1 from2_).bind fun y3 =>
 cond (decide (y3 < 0))
 (some false)
 ((m_impl_placeAt y1 to_).bind fun y4 =>
 cond (decide (y4 < 0))
 (some false)
 ((iterF (m_impl_IsWay_b0 n way to_) NN (at4_, from2_, 0)).bind (selim (fun o0 =>
 some (decide (o0 = to_))) (fun r => some r)))))
theorem ok_impl_IsWay (n : YNetwork) (way : List YTrip) (from2_ : ByteArray) (to_ : ByteArray) (at4_ : Int) {r : Bool} (H : m_impl_IsWay n way from2_ to_ at4_ = some r) : CallM Tryz.prog 208 [.ag (cNetwork n), .sl (way.map cTrip), vs from2_, vs to_, vi at4_] [] (vb r) [] := by
  replace H := H0 H
  unfold m_impl_IsWay at H
  refine callM_of Tryz.func208 rfl Tryz.ntmps208 Tryz.results208 fun Q hQ hQn => ?_
  exact wk
instance (n : YNetwork) (way : List YTrip) (from2_ : ByteArray) (to_ : ByteArray) (at4_ : Int) : CT Tryz.prog (m_impl_IsWay n way from2_ to_ at4_) := ⟨208, [.ag (cNetwork n), .sl (way.map cTrip), vs from2_, vs to_, vi at4_], [], fun r => vb r, fun r => [], ok_impl_IsWay n way from2_ to_ at4_⟩
def m_spec_IsWay_b0 (n : YNetwork) (way : List YTrip) (to_ : ByteArray) (s0 : ByteArray × Int × Int) : Option ((ByteArray × Int × Int) ⊕ (ByteArray ⊕ Bool)) :=
 cond (decide (s0.2.2 < (way.length : Int)))
 ((getI way s0.2.2).bind fun y5 =>
 (m_spec_IsTrip n y5).bind fun y6 =>
 cond (!y6)
 (some (.inr (.inr false)))
 ((getI way s0.2.2).bind fun y7 =>
 (getI n.legs y7.leg).bind fun y8 =>
 cond (!decide (y8.from_ = s0.1))
 (some (.inr (.inr false)))
 ((getI way s0.2.2).bind fun y9 =>
 (m_spec_l3Starts n y9).bind fun y10 =>
 cond (decide (y10 < s0.2.1))
 (some (.inr (.inr false)))
 ((getI way s0.2.2).bind fun y11 =>
 (getI n.legs y11.leg).bind fun y12 =>
 (getI way s0.2.2).bind fun y13 =>
 (m_spec_l3Ends n y13).bind fun y14 =>
 some (.inl (y12.to_, (w64 (y14 + n.change)), (w64 (s0.2.2 + 1))))))))
 (some (.inr (.inl s0.1)))
instance (n : YNetwork) (way : List YTrip) (to_ : ByteArray) : LoopE (m_spec_IsWay_b0 n way to_) := ⟨fun s0 => (.un :: .sl (way.map cTrip) :: .un :: vs to_ :: .un :: .be 0 0 0 :: .un :: .un :: .un :: .un :: .un :: .un :: vs s0.1 :: vi s0.2.1 :: vi s0.2.2 :: .un :: .un :: .un :: .un :: .un :: .un :: .un :: .un :: .un :: .un :: .un :: .un :: .un :: .un :: .un :: .un :: .un :: .un :: .un :: .un :: .un :: .un :: .un :: .un :: .un :: .un :: .un :: .un :: .un :: .un :: .un :: .un :: .un :: .un :: .un :: .un :: .un :: .un :: .un :: .un :: .un :: .un :: .un :: .un :: .un :: .un :: .un :: .un :: .un :: .un :: .un :: .un :: .un :: .un :: .un :: .un :: .un :: .un :: .un :: .un :: .un :: .un :: .un :: .un :: .un :: .un :: .un :: .un :: .un :: .un :: .un :: .un :: .un :: .un :: .un :: .un :: .un :: .un :: []), fun s0 => [some ⟨35, 3, [[.sl (n.legs.map cLeg), .sl (n.off.map cInt), vi n.change]]⟩]⟩
def m_spec_IsWay (n : YNetwork) (way : List YTrip) (from2_ : ByteArray) (to_ : ByteArray) (at4_ : Int) : Option Bool :=
 (m_spec_PlacesOf n).bind fun y1 =>
 (m_spec_IsNetwork n).bind fun y2 =>
 cond (!y2)
 (some false)
 ((m_spec_l4Index y1 from2_).bind fun y3 =>
 cond (decide (y3 < 0))
 (some false)
 ((m_spec_l4Index y1 to_).bind fun y4 =>
 cond (decide (y4 < 0))
 (some false)
 ((iterF (m_spec_IsWay_b0 n way to_) NN (from2_, at4_, 0)).bind (selim (fun o0 =>
 some (decide (o0 = to_))) (fun r => some r)))))
theorem ok_spec_IsWay (n : YNetwork) (way : List YTrip) (from2_ : ByteArray) (to_ : ByteArray) (at4_ : Int) {r : Bool} (H : m_spec_IsWay n way from2_ to_ at4_ = some r) : CallM Tryz.prog 187 [.ag (cNetwork n), .sl (way.map cTrip), vs from2_, vs to_, vi at4_] [] (vb r) [] := by
  replace H := H0 H
  unfold m_spec_IsWay at H
  refine callM_of Tryz.func187 rfl Tryz.ntmps187 Tryz.results187 fun Q hQ hQn => ?_
  exact wk
instance (n : YNetwork) (way : List YTrip) (from2_ : ByteArray) (to_ : ByteArray) (at4_ : Int) : CT Tryz.prog (m_spec_IsWay n way from2_ to_ at4_) := ⟨187, [.ag (cNetwork n), .sl (way.map cTrip), vs from2_, vs to_, vi at4_], [], fun r => vb r, fun r => [], ok_spec_IsWay n way from2_ to_ at4_⟩
def m_impl_IsScan (n : YNetwork) (s : YScan) : Option Bool :=
 (m_impl_IsNetwork n).bind fun y1 =>
 cond (!y1)
 (some false)
 ((m_impl_within s.thing 1 9999).bind fun y2 =>
 cond (!y2)
 (some false)
 ((m_impl_within s.at_ 0 100000).bind fun y3 =>
 cond (!y3)
 (some false)
 (cond (decide (s.kind = 1))
 (cond (decide (s.kind = 1))
 ((m_impl_PlacesOf n).bind fun y4 =>
 (m_impl_placeAt y4 s.place).bind fun y5 =>
 cond (decide (0 ≤ y5))
 (some (decide (s.trip = (⟨0, 0⟩ : YTrip))))
 (some false))
 (cond (decide (s.kind = 3))
 (cond (decide (s.place = ⟨#[]⟩))
 ((m_impl_IsTrip n s.trip).bind fun y6 =>
 cond y6
 ((m_impl_starts n s.trip).bind fun y7 =>
 some (decide (s.at_ ≤ y7)))
 (some false))
 (some false))
 (cond (decide (s.kind = 2))
 (cond (decide (s.place = ⟨#[]⟩))
 ((m_impl_IsTrip n s.trip).bind fun y8 =>
 cond y8
 ((m_impl_ends n s.trip).bind fun y9 =>
 some (decide (y9 ≤ s.at_)))
 (some false))
 (some false))
 (some false))))
 (cond (decide (s.kind = 4))
 ((m_impl_PlacesOf n).bind fun y10 =>
 (m_impl_placeAt y10 s.place).bind fun y11 =>
 cond (decide (0 ≤ y11))
 (some (decide (s.trip = (⟨0, 0⟩ : YTrip))))
 (some false))
 (cond (decide (s.kind = 3))
 (cond (decide (s.place = ⟨#[]⟩))
 ((m_impl_IsTrip n s.trip).bind fun y12 =>
 cond y12
 ((m_impl_starts n s.trip).bind fun y13 =>
 some (decide (s.at_ ≤ y13)))
 (some false))
 (some false))
 (cond (decide (s.kind = 2))
 (cond (decide (s.place = ⟨#[]⟩))
 ((m_impl_IsTrip n s.trip).bind fun y14 =>
 cond y14
 ((m_impl_ends n s.trip).bind fun y15 =>
 some (decide (y15 ≤ s.at_)))
 (some false))
 (some false))
 (some false)))))))
theorem ok_impl_IsScan (n : YNetwork) (s : YScan) {r : Bool} (H : m_impl_IsScan n s = some r) : CallM Tryz.prog 140 [.ag (cNetwork n), .ag (cScan s)] [] (vb r) [] := by
  replace H := H0 H
  unfold m_impl_IsScan at H
  refine callM_of Tryz.func140 rfl Tryz.ntmps140 Tryz.results140 fun Q hQ hQn => ?_
  exact wk
instance (n : YNetwork) (s : YScan) : CT Tryz.prog (m_impl_IsScan n s) := ⟨140, [.ag (cNetwork n), .ag (cScan s)], [], fun r => vb r, fun r => [], ok_impl_IsScan n s⟩
def m_spec_IsScan (n : YNetwork) (s : YScan) : Option Bool :=
 (m_spec_IsNetwork n).bind fun y1 =>
 cond (!y1)
 (some false)
 ((m_spec_l1In s.thing 1 9999).bind fun y2 =>
 cond (!y2)
 (some false)
 ((m_spec_l1In s.at_ 0 100000).bind fun y3 =>
 cond (!y3)
 (some false)
 (cond (decide (s.kind = 1))
 (cond (decide (s.kind = 1))
 ((m_spec_PlacesOf n).bind fun y4 =>
 (m_spec_l4Index y4 s.place).bind fun y5 =>
 cond (decide (0 ≤ y5))
 (some (decide (s.trip = (⟨0, 0⟩ : YTrip))))
 (some false))
 (cond (decide (s.kind = 3))
 (cond (decide (s.place = ⟨#[]⟩))
 ((m_spec_IsTrip n s.trip).bind fun y6 =>
 cond y6
 ((m_spec_l3Starts n s.trip).bind fun y7 =>
 some (decide (s.at_ ≤ y7)))
 (some false))
 (some false))
 (cond (decide (s.kind = 2))
 (cond (decide (s.place = ⟨#[]⟩))
 ((m_spec_IsTrip n s.trip).bind fun y8 =>
 cond y8
 ((m_spec_l3Ends n s.trip).bind fun y9 =>
 some (decide (y9 ≤ s.at_)))
 (some false))
 (some false))
 (some false))))
 (cond (decide (s.kind = 4))
 ((m_spec_PlacesOf n).bind fun y10 =>
 (m_spec_l4Index y10 s.place).bind fun y11 =>
 cond (decide (0 ≤ y11))
 (some (decide (s.trip = (⟨0, 0⟩ : YTrip))))
 (some false))
 (cond (decide (s.kind = 3))
 (cond (decide (s.place = ⟨#[]⟩))
 ((m_spec_IsTrip n s.trip).bind fun y12 =>
 cond y12
 ((m_spec_l3Starts n s.trip).bind fun y13 =>
 some (decide (s.at_ ≤ y13)))
 (some false))
 (some false))
 (cond (decide (s.kind = 2))
 (cond (decide (s.place = ⟨#[]⟩))
 ((m_spec_IsTrip n s.trip).bind fun y14 =>
 cond y14
 ((m_spec_l3Ends n s.trip).bind fun y15 =>
 some (decide (y15 ≤ s.at_)))
 (some false))
 (some false))
 (some false)))))))
theorem ok_spec_IsScan (n : YNetwork) (s : YScan) {r : Bool} (H : m_spec_IsScan n s = some r) : CallM Tryz.prog 110 [.ag (cNetwork n), .ag (cScan s)] [] (vb r) [] := by
  replace H := H0 H
  unfold m_spec_IsScan at H
  refine callM_of Tryz.func110 rfl Tryz.ntmps110 Tryz.results110 fun Q hQ hQn => ?_
  exact wk
instance (n : YNetwork) (s : YScan) : CT Tryz.prog (m_spec_IsScan n s) := ⟨110, [.ag (cNetwork n), .ag (cScan s)], [], fun r => vb r, fun r => [], ok_spec_IsScan n s⟩
end Go.Proofs.YtmcdjilbkmhfoaaGreat
