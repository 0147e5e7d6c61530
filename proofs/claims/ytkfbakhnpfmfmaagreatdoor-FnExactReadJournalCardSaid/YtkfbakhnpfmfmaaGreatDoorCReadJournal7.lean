/- A part of the proof of the statement in the last file of this claim: texts on the language of the program and on its functions. No condition. -/
import Derived.Test.YtkfbakhnpfmfmaaGreatDoorCReadJournal5
import Derived.Test.YtkfbakhnpfmfmaaGreatDoorCReadJournal6
import Derived.Test.YtkfbakhnpfmfmaaGreatDoorCReadJournal4
set_option linter.unusedVariables false
set_option linter.unusedSimpArgs false
set_option linter.unusedSectionVars false
namespace Go.Proofs.YtkfbakhnpfmfmaaGreatDoor
set_option maxRecDepth 10000
open Go.RowKit
set_option linter.unusedVariables false
set_option linter.unusedSimpArgs false
theorem u8_wrap {y : Int} (h : 0 ≤ y ∧ y ≤ 255) : IntKind.u8.wrap y = y := by
  simp only [IntKind.wrap, IntKind.bits, IntKind.signed, Bool.false_and, Bool.false_eq_true, if_false]
  omega
theorem parse_le : ∀ (l : List UInt8) (acc u : Nat), Lib.parseUint10 acc l = .ok u → acc ≤ u
  | [], acc, u, h => by
    simp only [Lib.parseUint10] at h
    injection h with h; omega
  | c :: r, acc, u, h => by
    simp only [Lib.parseUint10] at h
    split at h
    · split at h
      · cases h
      · split at h
        · cases h
        · have := parse_le r _ u h; omega
    · cases h
theorem dec_len : ∀ (k u : Nat), u < 10 ^ (k + 1) → (Lib.decDigits u).length ≤ k + 1
  | k, u, h => by
    rw [Lib.decDigits]
    split
    · simp
    · rename_i hu
      match k, h with
      | 0, h => omega
      | k + 1, h =>
        have := dec_len k (u / 10) (by rw [Nat.pow_succ] at h; omega)
        simp; omega
theorem pint_loop {L : List UInt8} (hL : L.length ≤ 10) {u : Nat} (hu : u ≤ 1000000000) : ∀ (rest pre : List UInt8) (acc N : Nat), L = pre ++ rest → Lib.parseUint10 acc rest = .ok u → rest.length < N →
    iterF (m_spec_ParseInt_b0 (txt L)) N ((acc : Int), (pre.length : Int)) = some (.inl (u : Int))
  | [], pre, acc, 0, h, hp, hN => by simp at hN
  | [], pre, acc, N + 1, h, hp, hN => by
    have hs : (txt L).size = pre.length := by rw [txt_size, h]; simp
    have d : decide ((pre.length : Int) < ((txt L).size : Int)) = false := decide_eq_false (by omega)
    simp only [Lib.parseUint10] at hp
    injection hp with hp
    subst hp
    unfold iterF m_spec_ParseInt_b0
    simp only [d, cond_false, Option.bind_some, selim]
  | x :: rest, pre, acc, 0, h, hp, hN => by simp at hN
  | x :: rest, pre, acc, N + 1, h, hp, hN => by
    have hl : L.length = pre.length + (rest.length + 1) := by rw [h]; simp
    have hs : (txt L).size = L.length := txt_size L
    have hx : L[pre.length]? = some x := by rw [h]; simp
    have hg := getB_txt hx
    have d : decide ((pre.length : Int) < ((txt L).size : Int)) = true := decide_eq_true (by omega)
    have d2 : decide ((pre.length : Int) < 11) = true := decide_eq_true (by omega)
    have hp0 := hp
    simp only [Lib.parseUint10] at hp
    split at hp
    · rename_i hd
      split at hp
      · cases hp
      · split at hp
        · cases hp
        · have hle := parse_le _ _ _ hp
          have i1 := pint_loop hL hu rest (pre ++ [x]) _ N (by rw [h]; simp) hp (by simp at hN; omega)
          have w0 : IntKind.i64.wrap (x.toNat : Int) = (x.toNat : Int) := wrap_b ⟨by omega, by omega⟩
          have w1 : IntKind.u8.wrap ((x.toNat : Int) - 48) = (x.toNat : Int) - 48 := u8_wrap ⟨by omega, by omega⟩
          have w2 : IntKind.i64.wrap ((x.toNat : Int) - 48) = (x.toNat : Int) - 48 := wrap_b ⟨by omega, by omega⟩
          have w3 : w64 (10 * (acc : Int)) = 10 * (acc : Int) := w64_in (by omega)
          have w4 : w64 (10 * (acc : Int) + ((x.toNat : Int) - 48)) = ((acc * 10 + (x.toNat - 48) : Nat) : Int) := by rw [w64_in (by omega)]; omega
          have w5 : w64 ((pre.length : Int) + 1) = ((pre ++ [x]).length : Int) := by rw [w64_in (by omega)]; simp
          have d3 : (decide ((48 : Int) ≤ (x.toNat : Int)) && decide ((x.toNat : Int) ≤ 57)) = true := by rw [decide_eq_true (by omega), decide_eq_true (by omega)]; rfl
          rw [← i1]
          conv => lhs; unfold iterF
          unfold m_spec_ParseInt_b0
          simp only [d, d2, cond_true, hg, Option.bind_some, w0, l1In_v, d3, Bool.not_true, cond_false, w1, w2, w3, w4, w5, selim]
    · cases hp
theorem pint_itoa {n : Int} (h0 : 0 ≤ n) (h1 : n ≤ 1000000000) : m_spec_ParseInt (txt (Lib.itoa n)) = some (n, true) := by
  obtain ⟨u, rfl⟩ := Int.eq_ofNat_of_zero_le h0
  have hp := parse_dec u u (Nat.le_refl _) (by omega)
  have hl := dec_len 9 u (by omega)
  have hu : u ≤ 1000000000 := by omega
  unfold m_spec_ParseInt
  rw [itoaN]
  have i1 := pint_loop (L := Lib.decDigits u) hl hu (Lib.decDigits u) [] 0 NN rfl hp (by unfold NN; omega)
  have i2 : iterF (m_spec_ParseInt_b0 (txt (Lib.decDigits u))) NN (0, 0) = some (.inl (u : Int)) := i1
  rw [i2]
  have d : decide ((1000000000 : Int) < (u : Int)) = false := decide_eq_false (by omega)
  simp only [Option.bind_some, selim, d, cond_false, fS (n := (u : Int)) ⟨by omega, by omega⟩, itoaN, decide_true, Bool.not_true]
theorem pint_tot {s : ByteArray} (hs : s.size ≤ 100000000) : ∃ r : Int × Bool, m_spec_ParseInt s = some r ∧ in64 r.1 := by
  have ht : ∃ o, iterF (m_spec_ParseInt_b0 s) NN (0, 0) = some o ∧ (∀ a, o = .inl a → in64 a) ∧ ∀ r, o = .inr r → in64 r.1 := by
    have key : ∀ (k i : Nat) (acc : Int) (N : Nat), i + k = s.size → k < N → in64 acc → ∃ o, iterF (m_spec_ParseInt_b0 s) N (acc, (i : Int)) = some o ∧ (∀ a, o = .inl a → in64 a) ∧ ∀ r, o = .inr r → in64 r.1 := by
      intro k
      induction k with
      | zero =>
        intro i acc N hi hN ha
        obtain ⟨N, rfl⟩ : ∃ M, N = M + 1 := ⟨N - 1, by omega⟩
        have d : decide ((i : Int) < (s.size : Int)) = false := decide_eq_false (by omega)
        refine ⟨.inl acc, ?_, (fun a h => by injection h with h; subst h; exact ha), (fun r h => by cases h)⟩
        unfold iterF m_spec_ParseInt_b0
        simp only [d, cond_false, Option.bind_some, selim]
      | succ k ih =>
        intro i acc N hi hN ha
        obtain ⟨N, rfl⟩ : ∃ M, N = M + 1 := ⟨N - 1, by omega⟩
        have d : decide ((i : Int) < (s.size : Int)) = true := decide_eq_true (by omega)
        show ∃ o, (m_spec_ParseInt_b0 s (acc, (i : Int))).bind (selim (iterF (m_spec_ParseInt_b0 s) N) some) = some o ∧ _
        by_cases d2 : (i : Int) < 11
        · have hg : getB s (i : Int) = some (byteAt s i) := by unfold getB; rw [if_pos ⟨by omega, by omega⟩]; rfl
          have w5 : w64 ((i : Int) + 1) = ((i + 1 : Nat) : Int) := by rw [w64_in (by omega)]; omega
          have hb : m_spec_ParseInt_b0 s (acc, (i : Int)) = cond (decide ((48 : Int) ≤ IntKind.i64.wrap (byteAt s i)) && decide (IntKind.i64.wrap (byteAt s i) ≤ 57)) (some (.inl (w64 (w64 (10 * acc) + IntKind.i64.wrap (IntKind.u8.wrap (byteAt s i - 48))), ((i + 1 : Nat) : Int)))) (some (.inr (.inr (0, false)))) := by
            unfold m_spec_ParseInt_b0
            simp only [d, decide_eq_true d2, cond_true, hg, Option.bind_some, l1In_v, w5]
            cases (decide ((48 : Int) ≤ IntKind.i64.wrap (byteAt s i)) && decide (IntKind.i64.wrap (byteAt s i) ≤ 57)) <;> rfl
          rw [hb]
          cases (decide ((48 : Int) ≤ IntKind.i64.wrap (byteAt s i)) && decide (IntKind.i64.wrap (byteAt s i) ≤ 57)) with
          | false => exact ⟨.inr (0, false), rfl, (fun a h => by cases h), (fun r h => by injection h with h; subst h; exact ⟨by omega, by omega⟩)⟩
          | true => exact ih (i + 1) (w64 (w64 (10 * acc) + IntKind.i64.wrap (IntKind.u8.wrap (byteAt s i - 48)))) N (by omega) (by omega) (w64_in64 _)
        · have hb : m_spec_ParseInt_b0 s (acc, (i : Int)) = some (.inr (.inl acc)) := by
            unfold m_spec_ParseInt_b0
            simp only [d, decide_eq_false d2, cond_true, cond_false]
          rw [hb]
          exact ⟨.inl acc, rfl, (fun a h => by injection h with h; subst h; exact ha), (fun r h => by cases h)⟩
    exact key s.size 0 0 NN (by omega) (by unfold NN; omega) ⟨by omega, by omega⟩
  obtain ⟨o, ho, hA, hB⟩ := ht
  unfold m_spec_ParseInt
  rw [ho]
  cases o with
  | inr r => exact ⟨r, rfl, hB r rfl⟩
  | inl a =>
    have ha := hA a rfl
    have z : in64 0 := ⟨by omega, by omega⟩
    simp only [Option.bind_some, selim, fS ha]
    by_cases h1 : (1000000000 : Int) < a
    · exact ⟨_, by rw [decide_eq_true h1]; rfl, z⟩
    · rw [decide_eq_false h1, cond_false]
      cases decide (txt (Lib.itoa a) = s) with
      | true => exact ⟨_, rfl, ha⟩
      | false => exact ⟨_, rfl, z⟩
set_option maxHeartbeats 16000000
def m_spec_ParseLabel_b0 (s : ByteArray) (y1 : Int) (s0 : Int × Int) : Option ((Int × Int) ⊕ Int) :=
 cond (decide (s0.1 < 10))
 ((getB s s0.1).bind fun y2 =>
 some (.inl ((w64 (s0.1 + 1)), (w64 ((w64 ((w64 (10 * s0.2)) + (IntKind.i64.wrap y2))) - 48)))))
 (some (.inr s0.2))
instance (s : ByteArray) (y1 : Int) : LoopE (m_spec_ParseLabel_b0 s y1) := ⟨fun s0 => (vs s :: .un :: .be 0 0 0 :: .un :: .be 1 0 0 :: vi s0.1 :: (U 31 [])), fun s0 => [some ⟨.of 23, 3, [[vi 0, vi 0, vs (⟨#[]⟩)]]⟩, some ⟨.of 23, 3, [[vi (w64 ((IntKind.i64.wrap y1) - 48)), vi s0.2, vs (subS s 10 13)]]⟩]⟩
def m_spec_ParseLabel (s : ByteArray) : Option (YLabel × Bool) :=
 cond (!decide ((s.size : Int) = 15))
 (some ((⟨0, 0, ⟨#[]⟩⟩ : YLabel), false))
 ((getB s 0).bind fun y1 =>
 (chk (slOk 10 13 s.size)).bind fun _ =>
 (iterF (m_spec_ParseLabel_b0 s y1) NN (1, 0)).bind (fun o0 =>
 (m_spec_FormatLabel (⟨(w64 ((IntKind.i64.wrap y1) - 48)), o0, (subS s 10 13)⟩ : YLabel)).bind fun y3 =>
 cond (!decide (y3 = s))
 (some ((⟨0, 0, ⟨#[]⟩⟩ : YLabel), false))
 (some ((⟨(w64 ((IntKind.i64.wrap y1) - 48)), o0, (subS s 10 13)⟩ : YLabel), true))))
instance (s : ByteArray) : CT Tryz.prog (m_spec_ParseLabel s) := ⟨48, [vs s], [], fun r => .tu [.ag [vi r.1.service, vi r.1.serial, vs r.1.to_], vb r.2], fun r => [], fun H => by replace H := H0 H; unfold m_spec_ParseLabel at H; exact callM_of Tryz.func48 rfl Tryz.ntmps48 Tryz.results48 fun Q hQ hQn => wk3⟩
end Go.Proofs.YtkfbakhnpfmfmaaGreatDoor
namespace Go.Proofs.YtkfbakhnpfmfmaaGreatDoor
set_option maxRecDepth 10000
open Go.RowKit Go.Sort
set_option linter.unusedVariables false
set_option linter.unusedSimpArgs false
set_option maxHeartbeats 1000000
theorem mod97_rng {s : ByteArray} {m : Int} (hs : s.size < NN) (h : m_spec_Mod97 s = some m) : -1 ≤ m ∧ m ≤ 96 := by
  have key : ∀ (k N i : Nat) (a : Int), i + k = s.size → k < N → 0 ≤ a ∧ a ≤ 96 → ∃ o, iterF (m_spec_Mod97_b0 s) N (a, (i : Int)) = some o ∧ (∀ x, o = .inl x → 0 ≤ x ∧ x ≤ 96) ∧ ∀ x, o = .inr x → x = -1 := by
    intro k
    induction k with
    | zero =>
      intro N i a hi hN ha
      obtain ⟨N, rfl⟩ : ∃ M, N = M + 1 := ⟨N - 1, by omega⟩
      refine ⟨.inl a, ?_, fun x e => by cases e; exact ha, fun x e => by cases e⟩
      unfold iterF m_spec_Mod97_b0
      simp only [decide_eq_false (show ¬ (i : Int) < (s.size : Int) by omega), cond_false, Option.bind_some, selim]
    | succ k ih =>
      intro N i a hi hN ha
      obtain ⟨N, rfl⟩ : ∃ M, N = M + 1 := ⟨N - 1, by omega⟩
      obtain ⟨y, hy⟩ := getB_some (s := s) (i := i) (by omega)
      have hw := getB_in hy
      have hb : m_spec_Mod97_b0 s (a, (i : Int)) = if 48 ≤ y ∧ y ≤ 57 then some (.inl (Int.tmod (10 * a + (y - 48)) 97, ((i + 1 : Nat) : Int))) else some (.inr (.inr (-1))) := by
        unfold m_spec_Mod97_b0
        simp only [decide_eq_true (show (i : Int) < (s.size : Int) by omega), cond_true, hy, Option.bind_some, wrap_b hw, l1In_v]
        by_cases hd : 48 ≤ y ∧ y ≤ 57
        · rw [if_pos hd]
          simp only [decide_eq_true hd.1, decide_eq_true hd.2, Bool.and_true, Bool.not_true, cond_false]
          rw [u8_wrap (y := y - 48) ⟨by omega, by omega⟩, wrap_b (y := y - 48) ⟨by omega, by omega⟩, w64_in (n := 10 * a) (by omega), w64_in (n := 10 * a + (y - 48)) (by omega), w64_nat (i := i) (n := s.size) (by omega) (by unfold NN at hs; omega)]
        · have e : (decide (48 ≤ y) && decide (y ≤ 57)) = false := by
            rw [Bool.and_eq_false_iff, decide_eq_false_iff_not, decide_eq_false_iff_not]; omega
          rw [if_neg hd, e]; rfl
      show ∃ o, (m_spec_Mod97_b0 s (a, (i : Int))).bind (selim (iterF (m_spec_Mod97_b0 s) N) some) = some o ∧ _
      rw [hb]
      by_cases hd : 48 ≤ y ∧ y ≤ 57
      · rw [if_pos hd]
        have t1 := Int.tmod_nonneg (a := 10 * a + (y - 48)) 97 (by omega)
        have t2 := Int.tmod_lt_of_pos (10 * a + (y - 48)) (b := 97) (by omega)
        exact ih N (i + 1) _ (by omega) (by omega) ⟨t1, by omega⟩
      · rw [if_neg hd]
        exact ⟨_, rfl, (fun x e => by cases e), (fun x e => by cases e; rfl)⟩
  obtain ⟨o, h1, h2, h3⟩ := key s.size NN 0 0 (by omega) hs ⟨by omega, by omega⟩
  unfold m_spec_Mod97 at h
  have h1' : iterF (m_spec_Mod97_b0 s) NN (0, 0) = some o := h1
  rw [h1'] at h
  cases o with
  | inl x =>
    have := h2 x rfl
    simp only [Option.bind_some, selim] at h
    cases hd : decide (s = ⟨#[]⟩) <;> rw [hd] at h <;> simp only [cond_true, cond_false] at h <;> injection h with h <;> omega
  | inr x =>
    have := h3 x rfl
    simp only [Option.bind_some, selim] at h
    injection h with h
    omega
theorem check_rng {l : YLabel} {n : Int} (h1 : in64 l.service) (h2 : in64 l.serial) (h : m_spec_IsLabel l = some true) (hc : m_spec_CheckOf l = some n) : 0 ≤ n ∧ n ≤ 99 := by
  obtain ⟨hs, hd⟩ := isLabel_t h
  obtain ⟨b1, b2⟩ := body_both h1 h2 (by omega)
  have hl := bodyL_len h1 h2 (by omega)
  obtain ⟨a, ha, hal⟩ := dgts_isDL hd
  have happ := dgts_app ha (show dgts [48, 48] = some [48, 48] from rfl)
  have c2 : chk (strOk (txt (bodyL l)) (txt [48, 48])) = some () := sOk (by rw [txt_size]; omega) (by rw [txt_size]; simp)
  have hz : (txt (a ++ [48, 48])).size < NN := by rw [txt_size, List.length_append]; unfold NN; simp; omega
  obtain ⟨m, hm⟩ := mod97_tot hz
  have hr := mod97_rng hz hm
  unfold m_spec_CheckOf at hc
  have d1 := digits_spec (l := bodyL l ++ [48, 48]) (by rw [List.length_append]; simp; omega)
  rw [happ] at d1
  simp only [Option.getD_some, Option.isSome_some] at d1
  simp only [h, b2, d1, Option.bind_some, Bool.not_true, cond_false, show (⟨#[48, 48]⟩ : ByteArray) = txt [48, 48] from rfl, c2, txt_app, hm] at hc
  injection hc with hc
  rw [w64_in (by omega)] at hc
  omega
def labT (l : YLabel) (n : Int) : List UInt8 := bodyL l ++ padL n 2
theorem label_rng {l : YLabel} (h : m_spec_IsLabel l = some true) : (1 ≤ l.service ∧ l.service ≤ 3) ∧ (0 ≤ l.serial ∧ l.serial ≤ 999999999) := by
  unfold m_spec_IsLabel at h
  simp only [l1In_v, Option.bind_some] at h
  cases h1 : (decide (1 ≤ l.service) && decide (l.service ≤ 3)) with
  | false => rw [h1] at h; cases h
  | true =>
    cases h2 : (decide (0 ≤ l.serial) && decide (l.serial ≤ 999999999)) with
    | false => rw [h1, h2] at h; cases h
    | true => simpa only [Bool.and_eq_true, decide_eq_true_eq] using And.intro h1 h2
theorem label_txt {l : YLabel} (h3 : l.to_.size ≤ B60) (h : m_spec_IsLabel l = some true) : ∃ n, 0 ≤ n ∧ n ≤ 99 ∧ m_impl_FormatLabel l = some (txt (labT l n)) ∧ m_spec_FormatLabel l = some (txt (labT l n)) := by
  obtain ⟨r1, r2⟩ := label_rng h
  have h1 : in64 l.service := ⟨by omega, by omega⟩
  have h2 : in64 l.serial := ⟨by omega, by omega⟩
  obtain ⟨e, v, hv⟩ := label_eq h3
  obtain rfl : true = v := Option.some.inj (h.symm.trans hv)
  have hi := e.trans h
  obtain ⟨hs, hd⟩ := isLabel_t h
  obtain ⟨b1, b2⟩ := body_both h1 h2 (by omega)
  have hl := bodyL_len h1 h2 (by omega)
  obtain ⟨n, hn, c1, c2⟩ := check_both h1 h2 h hi
  obtain ⟨n0, n1⟩ := check_rng h1 h2 h c2
  have p1 := padded_im (d := 2) hn (by omega)
  have p2 := padded_spec (d := 2) hn (by omega)
  have pl := padL_len (d := 2) hn (by omega)
  rw [show ((2 : Nat) : Int) = 2 from rfl] at p1 p2
  have c3 : chk (strOk (txt (bodyL l)) (txt (padL n 2))) = some () := sOk (by rw [txt_size]; omega) (by rw [txt_size]; omega)
  refine ⟨n, n0, n1, ?_, ?_⟩
  · unfold m_impl_FormatLabel; simp only [hi, b1, c1, p1, c3, Option.bind_some, Bool.not_true, cond_false, txt_app]; rfl
  · unfold m_spec_FormatLabel; simp only [h, b2, c2, p2, c3, Option.bind_some, Bool.not_true, cond_false, txt_app]; rfl
theorem labT_dl {l : YLabel} {n : Int} (h : m_spec_IsLabel l = some true) (hn : 0 ≤ n) : ∀ c ∈ labT l n, isDL c := fun c hc => by
  rcases List.mem_append.1 hc with h1 | h1
  · exact (isLabel_t h).2 c h1
  · exact padL_isd hn c h1
theorem itoa1 {n : Int} (h0 : 0 ≤ n) (h1 : n ≤ 9) : Lib.itoa n = [UInt8.ofNat (48 + n.toNat)] := by
  obtain ⟨u, rfl⟩ := Int.eq_ofNat_of_zero_le h0
  rw [itoaN, Lib.decDigits, dif_pos (by omega)]; rfl
theorem pad_len {n : Int} {k : Nat} (h0 : 0 ≤ n) (h1 : n.toNat < 10 ^ (k + 1)) : (padL n (k + 1)).length = k + 1 := by
  obtain ⟨u, rfl⟩ := Int.eq_ofNat_of_zero_le h0
  have := dec_len k u (by simpa using h1)
  unfold padL
  rw [itoaN]
  simp
  omega
theorem parse_z (l : List UInt8) : ∀ k, Lib.parseUint10 0 (List.replicate k 48 ++ l) = Lib.parseUint10 0 l
  | 0 => rfl
  | k + 1 => by rw [List.replicate_succ, List.cons_append, Lib.parseUint10]; simpa using parse_z l k
theorem parse_pad {n : Int} {d : Nat} (h0 : 0 ≤ n) (h1 : n ≤ 1000000000000) : Lib.parseUint10 0 (padL n d) = .ok n.toNat := by
  obtain ⟨u, rfl⟩ := Int.eq_ofNat_of_zero_le h0
  unfold padL
  rw [parse_z, itoaN]
  exact parse_dec u u (Nat.le_refl _) (by omega)
theorem pad_dig {n : Int} {d : Nat} (h : 0 ≤ n) : ∀ c ∈ padL n d, 48 ≤ c.toNat ∧ c.toNat ≤ 57 := by
  intro c hc
  rcases List.mem_append.1 hc with h1 | h1
  · rw [List.eq_of_mem_replicate h1]; decide
  · exact itoa_dig h c h1
theorem atoi_of {l : List UInt8} {u : Nat} (hne : l ≠ []) (hd : ∀ c ∈ l, 48 ≤ c.toNat ∧ c.toNat ≤ 57) (hp : Lib.parseUint10 0 l = .ok u) (hu : u ≤ 1000000000000) : Lib.atoiAll l = .ok u := by
  cases l with
  | nil => exact absurd rfl hne
  | cons c r =>
    have := hd c List.mem_cons_self
    have e1 : ¬ c.toNat = 43 := by omega
    have e2 : ¬ c.toNat = 45 := by omega
    have e3 : ¬ (9223372036854775808 : Nat) ≤ u := by omega
    unfold Lib.atoiAll Lib.parseMag
    simp [e1, e2, hp, e3]
theorem ext_at {a b c : List UInt8} {i j : Nat} (hi : a.length = i) (hj : j = i + b.length) : (txt (a ++ b ++ c)).extract i j = txt b := subS_at hi hj
theorem plab_loop {L : List UInt8} {y1 : Int} {u : Nat} (hu : u ≤ 1000000000) : ∀ (rest : List UInt8) (k acc N : Nat), k + rest.length = 10 → (∀ i c, rest[i]? = some c → L[k + i]? = some c) → Lib.parseUint10 acc rest = .ok u → rest.length < N →
    iterF (m_spec_ParseLabel_b0 (txt L) y1) N ((k : Int), (acc : Int)) = some (u : Int)
  | [], k, acc, 0, _, _, _, hN => by simp at hN
  | [], k, acc, N + 1, hk, hL, hp, hN => by
    simp only [Lib.parseUint10] at hp
    injection hp with hp
    subst hp
    unfold iterF m_spec_ParseLabel_b0
    simp only [decide_eq_false (show ¬ (k : Int) < 10 by simp at hk; omega), cond_false, Option.bind_some, selim]
  | x :: rest, k, acc, 0, _, _, _, hN => by simp at hN
  | x :: rest, k, acc, N + 1, hk, hL, hp, hN => by
    have hg := getB_txt (hL 0 x rfl)
    simp only [Nat.add_zero] at hg
    simp only [List.length_cons] at hk hN
    simp only [Lib.parseUint10] at hp
    split at hp
    · rename_i hd
      split at hp
      · cases hp
      · split at hp
        · cases hp
        · have hle := parse_le _ _ _ hp
          have i1 := plab_loop (y1 := y1) hu rest (k + 1) _ N (by omega) (fun i c h => by have := hL (i + 1) c h; rwa [show k + 1 + i = k + (i + 1) by omega]) hp (by omega)
          rw [← i1]
          conv => lhs; unfold iterF
          unfold m_spec_ParseLabel_b0
          simp only [decide_eq_true (show (k : Int) < 10 by omega), cond_true, hg, Option.bind_some, selim]
          rw [wrap_b (y := (x.toNat : Int)) ⟨by omega, by omega⟩, w64_in (n := (k : Int) + 1) (by omega), w64_in (n := 10 * (acc : Int)) (by omega), w64_in (n := 10 * (acc : Int) + (x.toNat : Int)) (by omega), w64_in (by omega)]
          congr 2
          omega
    · cases hp
theorem label_rt {l : YLabel} (h3 : l.to_.size ≤ B60) (h : m_spec_IsLabel l = some true) {n : Int} (n0 : 0 ≤ n) (n1 : n ≤ 99) (f1 : m_impl_FormatLabel l = some (txt (labT l n))) (f2 : m_spec_FormatLabel l = some (txt (labT l n))) :
    m_impl_ParseLabel (txt (labT l n)) = some (l, true) ∧ m_spec_ParseLabel (txt (labT l n)) = some (l, true) := by
  obtain ⟨r1, r2⟩ := label_rng h
  obtain ⟨hs, _⟩ := isLabel_t h
  have hl3 : l.to_.data.toList.length = 3 := by rw [Array.length_toList]; exact hs
  have e1 := itoa1 (n := l.service) (by omega) (by omega)
  have e9 : (padL l.serial 9).length = 9 := pad_len (n := l.serial) (k := 8) (by omega) (by omega)
  have e2 : (padL n 2).length = 2 := pad_len (n := n) (k := 1) n0 (by omega)
  have hT : labT l n = [UInt8.ofNat (48 + l.service.toNat)] ++ padL l.serial 9 ++ l.to_.data.toList ++ padL n 2 := by unfold labT bodyL; rw [e1]
  have hsz : (txt (labT l n)).size = 15 := by rw [txt_size, hT]; simp only [List.length_append, List.length_cons, List.length_nil]; omega
  have x1 : (txt (labT l n)).extract 0 1 = txt [UInt8.ofNat (48 + l.service.toNat)] := by
    rw [hT]; have := ext_at (a := []) (b := [UInt8.ofNat (48 + l.service.toNat)]) (c := padL l.serial 9 ++ l.to_.data.toList ++ padL n 2) (i := 0) (j := 1) rfl rfl
    simpa only [List.nil_append, List.append_assoc] using this
  have x2 : (txt (labT l n)).extract 1 10 = txt (padL l.serial 9) := by
    rw [hT]; have := ext_at (a := [UInt8.ofNat (48 + l.service.toNat)]) (b := padL l.serial 9) (c := l.to_.data.toList ++ padL n 2) (i := 1) (j := 10) rfl (by omega)
    simpa only [List.append_assoc] using this
  have x3 : (txt (labT l n)).extract 10 13 = l.to_ := by
    rw [hT]; have := ext_at (a := [UInt8.ofNat (48 + l.service.toNat)] ++ padL l.serial 9) (b := l.to_.data.toList) (c := padL n 2) (i := 10) (j := 13) (by simp; omega) (by omega)
    rwa [txt_data] at this
  have s1 : ((48 + l.service.toNat : Nat) : Int) = 48 + l.service := by omega
  have u1 : (UInt8.ofNat (48 + l.service.toNat)).toNat = 48 + l.service.toNat := by rw [UInt8.toNat_ofNat']; omega
  constructor
  · have a1 : Lib.atoiAll (txt [UInt8.ofNat (48 + l.service.toNat)]).data.toList = .ok l.service := by rw [txt_l, ← e1]; exact atoi_itoa (by omega) (by omega)
    have a2 : Lib.atoiAll (txt (padL l.serial 9)).data.toList = .ok l.serial := by
      rw [txt_l, atoi_of (u := l.serial.toNat) (fun e => by rw [e] at e9; cases e9) (pad_dig (by omega)) (parse_pad (by omega) (by omega)) (by omega)]
      congr 1; omega
    unfold m_impl_ParseLabel
    rw [if_pos (by omega), if_pos hsz, x1, x2, x3]
    simp only [a1, a2]
    rw [show (⟨l.service, l.serial, l.to_⟩ : YLabel) = l from rfl, f1]
    simp
  · have g0 : getB (txt (labT l n)) 0 = some ((UInt8.ofNat (48 + l.service.toNat)).toNat : Int) := getB_txt (l := labT l n) (i := 0) (by rw [hT]; rfl)
    have i1 := plab_loop (L := labT l n) (y1 := ((UInt8.ofNat (48 + l.service.toNat)).toNat : Int)) (u := l.serial.toNat) (by omega) (padL l.serial 9) 1 0 NN (by omega) (fun i c hc => by
      have hi := (List.getElem?_eq_some_iff.1 hc).1
      rw [hT]
      simp only [List.cons_append, List.nil_append, Nat.add_comm 1, List.getElem?_cons_succ]
      rw [List.append_assoc, List.getElem?_append_left hi, hc]) (parse_pad (by omega) (by omega)) (by unfold NN; omega)
    have i2 : iterF (m_spec_ParseLabel_b0 (txt (labT l n)) ((UInt8.ofNat (48 + l.service.toNat)).toNat : Int)) NN (1, 0) = some (l.serial.toNat : Int) := i1
    unfold m_spec_ParseLabel
    have x3' : subS (txt (labT l n)) 10 13 = l.to_ := x3
    have hsl : chk (slOk 10 13 ((txt (labT l n)).size : Int)) = some () := chk_t (decide_eq_true ⟨by omega, by omega, by omega⟩)
    have w0 : w64 (IntKind.i64.wrap ((UInt8.ofNat (48 + l.service.toNat)).toNat : Int) - 48) = l.service := by
      rw [u1, wrap_b ⟨by omega, by omega⟩, w64_in (by omega)]; omega
    have w1 : ((l.serial.toNat : Nat) : Int) = l.serial := by omega
    rw [hsz] at hsl
    simp only [hsz, g0, hsl, i2, x3', w0, w1, f2, Option.bind_some, decide_true, Bool.not_true, cond_false, show decide (((15 : Nat) : Int) = 15) = true from rfl]
theorem noLab : in64 noLabel.service ∧ in64 noLabel.serial ∧ noLabel.to_.size ≤ 15 := ⟨by decide, by decide, by decide⟩
theorem label_toti {s : ByteArray} (hs : s.size ≤ 100000000) : ∃ r : YLabel × Bool, m_impl_ParseLabel s = some r ∧ in64 r.1.service ∧ in64 r.1.serial ∧ r.1.to_.size ≤ 15 := by
  unfold m_impl_ParseLabel
  rw [if_pos hs]
  by_cases h15 : s.size = 15
  · rw [if_pos h15]
    have hx := ext_sz (i := 10) (j := 13) h15
    cases h1 : Lib.atoiAll (s.extract 0 1).data.toList with
    | ok a =>
      cases h2 : Lib.atoiAll (s.extract 1 10).data.toList with
      | ok b =>
        obtain ⟨x, hx2, f1, f2⟩ := label_both (l := ⟨a, b, s.extract 10 13⟩) (atoi_in h1) (atoi_in h2) (by unfold B60; simp only; omega)
        simp only [f1, Option.bind_some]
        by_cases he : txt x = s
        · rw [if_pos he]; exact ⟨_, rfl, atoi_in h1, atoi_in h2, hx⟩
        · rw [if_neg he]; exact ⟨_, rfl, noLab⟩
      | _ => exact ⟨_, rfl, noLab⟩
    | _ => exact ⟨_, rfl, noLab⟩
  · rw [if_neg h15]; exact ⟨_, rfl, noLab⟩
theorem label_tots {s : ByteArray} (hs : s.size ≤ 100000000) : ∃ r : YLabel × Bool, m_spec_ParseLabel s = some r ∧ in64 r.1.service ∧ in64 r.1.serial ∧ r.1.to_.size ≤ 15 := by
  unfold m_spec_ParseLabel
  by_cases h15 : s.size = 15
  · have hx := ext_sz (i := 10) (j := 13) h15
    obtain ⟨y, hy⟩ := getB_some (s := s) (i := 0) (by omega)
    have hsl : chk (slOk 10 13 (s.size : Int)) = some () := chk_t (decide_eq_true ⟨by omega, by omega, by omega⟩)
    have ht : ∀ (k i N : Nat) (a : Int), i + k = 10 → k < N → in64 a → ∃ o, iterF (m_spec_ParseLabel_b0 s y) N ((i : Int), a) = some o ∧ in64 o := by
      intro k
      induction k with
      | zero =>
        intro i N a hi hN ha
        obtain ⟨N, rfl⟩ : ∃ M, N = M + 1 := ⟨N - 1, by omega⟩
        refine ⟨a, ?_, ha⟩
        unfold iterF m_spec_ParseLabel_b0
        simp only [decide_eq_false (show ¬ (i : Int) < 10 by omega), cond_false, Option.bind_some, selim]
      | succ k ih =>
        intro i N a hi hN ha
        obtain ⟨N, rfl⟩ : ∃ M, N = M + 1 := ⟨N - 1, by omega⟩
        obtain ⟨z, hz⟩ := getB_some (s := s) (i := i) (by omega)
        show ∃ o, (m_spec_ParseLabel_b0 s y ((i : Int), a)).bind (selim (iterF (m_spec_ParseLabel_b0 s y) N) some) = some o ∧ _
        unfold m_spec_ParseLabel_b0
        simp only [decide_eq_true (show (i : Int) < 10 by omega), cond_true, hz, Option.bind_some, selim]
        rw [w64_nat (i := i) (n := 10) (by omega) (by omega)]
        exact ih (i + 1) N _ (by omega) (by omega) (w64_in64 _)
    obtain ⟨o, ho, ho2⟩ := ht 9 1 NN 0 rfl (by unfold NN; omega) ⟨by omega, by omega⟩
    have ho' : iterF (m_spec_ParseLabel_b0 s y) NN (1, 0) = some o := ho
    obtain ⟨x, hx2, f1, f2⟩ := label_both (l := ⟨w64 (IntKind.i64.wrap y - 48), o, subS s 10 13⟩) (w64_in64 _) ho2 (by unfold B60; show (s.extract 10 13).size ≤ _; omega)
    have hy' : getB s 0 = some y := hy
    simp only [h15, hy', hsl, ho', f2, Option.bind_some, decide_true, Bool.not_true, cond_false, show decide (((15 : Nat) : Int) = 15) = true from rfl]
    cases hd : decide (txt x = s) with
    | true => exact ⟨_, rfl, w64_in64 _, ho2, hx⟩
    | false => exact ⟨_, rfl, noLab⟩
  · have hd : decide ((s.size : Int) = 15) = false := decide_eq_false (by omega)
    simp only [hd, Bool.not_false, cond_true]
    exact ⟨_, rfl, noLab⟩
end Go.Proofs.YtkfbakhnpfmfmaaGreatDoor
namespace Go.Proofs.YtkfbakhnpfmfmaaGreatDoor
set_option maxRecDepth 10000
open Go.RowKit
set_option linter.unusedVariables false
set_option maxHeartbeats 16000000
def m_impl_FormatParcel (p : YParcel) : Option ByteArray :=
 (m_impl_IsParcel p).bind fun y1 =>
 cond (!y1)
 (some (⟨#[]⟩))
 ((getI p.sides 0).bind fun y2 =>
 (m_impl_FormatInt y2).bind fun y3 =>
 (chk (strOk y3 (⟨#[120]⟩))).bind fun _ =>
 (getI p.sides 1).bind fun y4 =>
 (m_impl_FormatInt y4).bind fun y5 =>
 (chk (strOk (y3 ++ ⟨#[120]⟩) y5)).bind fun _ =>
 (chk (strOk ((y3 ++ ⟨#[120]⟩) ++ y5) (⟨#[120]⟩))).bind fun _ =>
 (getI p.sides 2).bind fun y6 =>
 (m_impl_FormatInt y6).bind fun y7 =>
 (chk (strOk (((y3 ++ ⟨#[120]⟩) ++ y5) ++ ⟨#[120]⟩) y7)).bind fun _ =>
 (m_impl_FormatLabel p.label).bind fun y8 =>
 (chk (strOk y8 (⟨#[32]⟩))).bind fun _ =>
 (chk (strOk (y8 ++ ⟨#[32]⟩) p.from_)).bind fun _ =>
 (chk (strOk ((y8 ++ ⟨#[32]⟩) ++ p.from_) (⟨#[32]⟩))).bind fun _ =>
 (m_impl_FormatInt p.weight).bind fun y9 =>
 (chk (strOk (((y8 ++ ⟨#[32]⟩) ++ p.from_) ++ ⟨#[32]⟩) y9)).bind fun _ =>
 (chk (strOk ((((y8 ++ ⟨#[32]⟩) ++ p.from_) ++ ⟨#[32]⟩) ++ y9) (⟨#[32]⟩))).bind fun _ =>
 (chk (strOk (((((y8 ++ ⟨#[32]⟩) ++ p.from_) ++ ⟨#[32]⟩) ++ y9) ++ ⟨#[32]⟩) ((((y3 ++ ⟨#[120]⟩) ++ y5) ++ ⟨#[120]⟩) ++ y7))).bind fun _ =>
 (chk (strOk ((((((y8 ++ ⟨#[32]⟩) ++ p.from_) ++ ⟨#[32]⟩) ++ y9) ++ ⟨#[32]⟩) ++ ((((y3 ++ ⟨#[120]⟩) ++ y5) ++ ⟨#[120]⟩) ++ y7)) (⟨#[32]⟩))).bind fun _ =>
 (m_impl_FormatInt p.value).bind fun y10 =>
 (chk (strOk (((((((y8 ++ ⟨#[32]⟩) ++ p.from_) ++ ⟨#[32]⟩) ++ y9) ++ ⟨#[32]⟩) ++ ((((y3 ++ ⟨#[120]⟩) ++ y5) ++ ⟨#[120]⟩) ++ y7)) ++ ⟨#[32]⟩) y10)).bind fun _ =>
 some ((((((((y8 ++ ⟨#[32]⟩) ++ p.from_) ++ ⟨#[32]⟩) ++ y9) ++ ⟨#[32]⟩) ++ ((((y3 ++ ⟨#[120]⟩) ++ y5) ++ ⟨#[120]⟩) ++ y7)) ++ ⟨#[32]⟩) ++ y10))
instance (p : YParcel) : CT Tryz.prog (m_impl_FormatParcel p) := ⟨39, [.ag (cParcel p)], [], fun r => vs r, fun r => [], fun H => by replace H := H0 H; unfold m_impl_FormatParcel at H; exact callM_of Tryz.func39 rfl Tryz.ntmps39 Tryz.results39 fun Q hQ hQn => wk3⟩
def m_impl_tripText (t : YTrip) : Option ByteArray :=
 (m_impl_FormatInt t.leg).bind fun y1 =>
 (chk (strOk y1 (⟨#[47]⟩))).bind fun _ =>
 (m_impl_FormatInt t.day).bind fun y2 =>
 (chk (strOk (y1 ++ ⟨#[47]⟩) y2)).bind fun _ =>
 some ((y1 ++ ⟨#[47]⟩) ++ y2)
instance (t : YTrip) : CT Tryz.prog (m_impl_tripText t) := ⟨41, [.ag (cTrip t)], [], fun r => vs r, fun r => [], fun H => by replace H := H0 H; unfold m_impl_tripText at H; exact callM_of Tryz.func41 rfl Tryz.ntmps41 Tryz.results41 fun Q hQ hQn => wk3⟩
def m_impl_FormatAct (a : YAct) : Option ByteArray :=
 (m_impl_IsAct a).bind fun y1 =>
 cond (!y1)
 (some (⟨#[]⟩))
 (cond (decide (a.kind = 1))
 ((m_impl_FormatParcel a.parcel).bind fun y2 =>
 (chk (strOk (⟨#[116, 97, 107, 101, 32]⟩) y2)).bind fun _ =>
 some (⟨#[116, 97, 107, 101, 32]⟩ ++ y2))
 (cond (decide (a.kind = 2))
 ((m_impl_FormatInt a.order).bind fun y3 =>
 (chk (strOk (⟨#[112, 97, 121, 32]⟩) y3)).bind fun _ =>
 (chk (strOk (⟨#[112, 97, 121, 32]⟩ ++ y3) (⟨#[32]⟩))).bind fun _ =>
 (m_impl_FormatInt a.amount).bind fun y4 =>
 (chk (strOk ((⟨#[112, 97, 121, 32]⟩ ++ y3) ++ ⟨#[32]⟩) y4)).bind fun _ =>
 some (((⟨#[112, 97, 121, 32]⟩ ++ y3) ++ ⟨#[32]⟩) ++ y4))
 (cond (decide (a.kind = 3))
 ((m_impl_FormatInt a.until_).bind fun y5 =>
 (chk (strOk (⟨#[114, 117, 110, 32]⟩) y5)).bind fun _ =>
 some (⟨#[114, 117, 110, 32]⟩ ++ y5))
 (cond (decide (a.kind = 4))
 ((m_impl_tripText a.trip).bind fun y6 =>
 (chk (strOk (⟨#[115, 104, 117, 116, 32]⟩) y6)).bind fun _ =>
 some (⟨#[115, 104, 117, 116, 32]⟩ ++ y6))
 (cond (decide (a.kind = 5))
 (some (⟨#[114, 101, 116, 114, 121]⟩))
 ((m_impl_FormatInt a.order).bind fun y7 =>
 (chk (strOk (⟨#[114, 101, 102, 117, 110, 100, 32]⟩) y7)).bind fun _ =>
 some (⟨#[114, 101, 102, 117, 110, 100, 32]⟩ ++ y7)))))))
instance (a : YAct) : CT Tryz.prog (m_impl_FormatAct a) := ⟨18, [.ag (cAct a)], [], fun r => vs r, fun r => [], fun H => by replace H := H0 H; unfold m_impl_FormatAct at H; exact callM_of Tryz.func18 rfl Tryz.ntmps18 Tryz.results18 fun Q hQ hQn => wk3⟩
def m_spec_FormatParcel (p : YParcel) : Option ByteArray :=
 (m_spec_IsParcel p).bind fun y1 =>
 cond (!y1)
 (some (⟨#[]⟩))
 ((m_spec_FormatLabel p.label).bind fun y2 =>
 (chk (strOk y2 (⟨#[32]⟩))).bind fun _ =>
 (chk (strOk (y2 ++ ⟨#[32]⟩) p.from_)).bind fun _ =>
 (chk (strOk ((y2 ++ ⟨#[32]⟩) ++ p.from_) (⟨#[32]⟩))).bind fun _ =>
 (m_spec_FormatInt p.weight).bind fun y3 =>
 (chk (strOk (((y2 ++ ⟨#[32]⟩) ++ p.from_) ++ ⟨#[32]⟩) y3)).bind fun _ =>
 (chk (strOk ((((y2 ++ ⟨#[32]⟩) ++ p.from_) ++ ⟨#[32]⟩) ++ y3) (⟨#[32]⟩))).bind fun _ =>
 (getI p.sides 0).bind fun y4 =>
 (m_spec_FormatInt y4).bind fun y5 =>
 (chk (strOk (((((y2 ++ ⟨#[32]⟩) ++ p.from_) ++ ⟨#[32]⟩) ++ y3) ++ ⟨#[32]⟩) y5)).bind fun _ =>
 (chk (strOk ((((((y2 ++ ⟨#[32]⟩) ++ p.from_) ++ ⟨#[32]⟩) ++ y3) ++ ⟨#[32]⟩) ++ y5) (⟨#[120]⟩))).bind fun _ =>
 (getI p.sides 1).bind fun y6 =>
 (m_spec_FormatInt y6).bind fun y7 =>
 (chk (strOk (((((((y2 ++ ⟨#[32]⟩) ++ p.from_) ++ ⟨#[32]⟩) ++ y3) ++ ⟨#[32]⟩) ++ y5) ++ ⟨#[120]⟩) y7)).bind fun _ =>
 (chk (strOk ((((((((y2 ++ ⟨#[32]⟩) ++ p.from_) ++ ⟨#[32]⟩) ++ y3) ++ ⟨#[32]⟩) ++ y5) ++ ⟨#[120]⟩) ++ y7) (⟨#[120]⟩))).bind fun _ =>
 (getI p.sides 2).bind fun y8 =>
 (m_spec_FormatInt y8).bind fun y9 =>
 (chk (strOk (((((((((y2 ++ ⟨#[32]⟩) ++ p.from_) ++ ⟨#[32]⟩) ++ y3) ++ ⟨#[32]⟩) ++ y5) ++ ⟨#[120]⟩) ++ y7) ++ ⟨#[120]⟩) y9)).bind fun _ =>
 (chk (strOk ((((((((((y2 ++ ⟨#[32]⟩) ++ p.from_) ++ ⟨#[32]⟩) ++ y3) ++ ⟨#[32]⟩) ++ y5) ++ ⟨#[120]⟩) ++ y7) ++ ⟨#[120]⟩) ++ y9) (⟨#[32]⟩))).bind fun _ =>
 (m_spec_FormatInt p.value).bind fun y10 =>
 (chk (strOk (((((((((((y2 ++ ⟨#[32]⟩) ++ p.from_) ++ ⟨#[32]⟩) ++ y3) ++ ⟨#[32]⟩) ++ y5) ++ ⟨#[120]⟩) ++ y7) ++ ⟨#[120]⟩) ++ y9) ++ ⟨#[32]⟩) y10)).bind fun _ =>
 some ((((((((((((y2 ++ ⟨#[32]⟩) ++ p.from_) ++ ⟨#[32]⟩) ++ y3) ++ ⟨#[32]⟩) ++ y5) ++ ⟨#[120]⟩) ++ y7) ++ ⟨#[120]⟩) ++ y9) ++ ⟨#[32]⟩) ++ y10))
instance (p : YParcel) : CT Tryz.prog (m_spec_FormatParcel p) := ⟨49, [.ag (cParcel p)], [], fun r => vs r, fun r => [], fun H => by replace H := H0 H; unfold m_spec_FormatParcel at H; exact callM_of Tryz.func49 rfl Tryz.ntmps49 Tryz.results49 fun Q hQ hQn => wk3⟩
def m_spec_FormatAct (a : YAct) : Option ByteArray :=
 (m_spec_IsAct a).bind fun y1 =>
 cond (!y1)
 (some (⟨#[]⟩))
 (cond (decide (a.kind = 1))
 ((m_spec_FormatParcel a.parcel).bind fun y2 =>
 (chk (strOk (⟨#[116, 97, 107, 101, 32]⟩) y2)).bind fun _ =>
 some (⟨#[116, 97, 107, 101, 32]⟩ ++ y2))
 (cond (decide (a.kind = 2))
 ((m_spec_FormatInt a.order).bind fun y3 =>
 (chk (strOk (⟨#[112, 97, 121, 32]⟩) y3)).bind fun _ =>
 (chk (strOk (⟨#[112, 97, 121, 32]⟩ ++ y3) (⟨#[32]⟩))).bind fun _ =>
 (m_spec_FormatInt a.amount).bind fun y4 =>
 (chk (strOk ((⟨#[112, 97, 121, 32]⟩ ++ y3) ++ ⟨#[32]⟩) y4)).bind fun _ =>
 some (((⟨#[112, 97, 121, 32]⟩ ++ y3) ++ ⟨#[32]⟩) ++ y4))
 (cond (decide (a.kind = 3))
 ((m_spec_FormatInt a.until_).bind fun y5 =>
 (chk (strOk (⟨#[114, 117, 110, 32]⟩) y5)).bind fun _ =>
 some (⟨#[114, 117, 110, 32]⟩ ++ y5))
 (cond (decide (a.kind = 4))
 ((m_spec_FormatInt a.trip.leg).bind fun y6 =>
 (chk (strOk (⟨#[115, 104, 117, 116, 32]⟩) y6)).bind fun _ =>
 (chk (strOk (⟨#[115, 104, 117, 116, 32]⟩ ++ y6) (⟨#[47]⟩))).bind fun _ =>
 (m_spec_FormatInt a.trip.day).bind fun y7 =>
 (chk (strOk ((⟨#[115, 104, 117, 116, 32]⟩ ++ y6) ++ ⟨#[47]⟩) y7)).bind fun _ =>
 some (((⟨#[115, 104, 117, 116, 32]⟩ ++ y6) ++ ⟨#[47]⟩) ++ y7))
 (cond (decide (a.kind = 5))
 (some (⟨#[114, 101, 116, 114, 121]⟩))
 ((m_spec_FormatInt a.order).bind fun y8 =>
 (chk (strOk (⟨#[114, 101, 102, 117, 110, 100, 32]⟩) y8)).bind fun _ =>
 some (⟨#[114, 101, 102, 117, 110, 100, 32]⟩ ++ y8)))))))
instance (a : YAct) : CT Tryz.prog (m_spec_FormatAct a) := ⟨25, [.ag (cAct a)], [], fun r => vs r, fun r => [], fun H => by replace H := H0 H; unfold m_spec_FormatAct at H; exact callM_of Tryz.func25 rfl Tryz.ntmps25 Tryz.results25 fun Q hQ hQn => wk3⟩
end Go.Proofs.YtkfbakhnpfmfmaaGreatDoor
namespace Go.Proofs.YtkfbakhnpfmfmaaGreatDoor
set_option maxRecDepth 10000
open Go.RowKit Go.Sort
set_option linter.unusedVariables false
set_option linter.unusedSimpArgs false
set_option maxHeartbeats 4000000
def ParcelI (p : YParcel) : Prop := in64 p.label.service ∧ in64 p.label.serial ∧ p.label.to_.size ≤ 2000000 ∧ p.from_.size ≤ 2000000 ∧ in64 p.weight ∧ p.sides.length ≤ 2000000 ∧ (∀ x ∈ p.sides, in64 x) ∧ in64 p.value
theorem bOk {a b : ByteArray} (ha : a.size + b.size ≤ 100000000) : chk (strOk a b) = some () := chk_t (strOk_s (by unfold B60; omega))
theorem parcel_both {p : YParcel} (h : ParcelI p) : ∃ b : List UInt8, b.length ≤ 3000000 ∧ m_impl_FormatParcel p = some (txt b) ∧ m_spec_FormatParcel p = some (txt b) := by
  obtain ⟨h1, h2, h3, h4, h5, h6, h7, h8⟩ := h
  obtain ⟨e, v, hv⟩ := parcel_eq (p := p) (by unfold B60; omega) (by unfold B60; omega) (by unfold NN; omega)
  have hi : m_impl_IsParcel p = some v := e.trans hv
  cases v with
  | false =>
    refine ⟨[], by simp, ?_, ?_⟩
    · unfold m_impl_FormatParcel; simp only [hi, Option.bind_some, Bool.not_false, cond_true]; rfl
    · unfold m_spec_FormatParcel; simp only [hv, Option.bind_some, Bool.not_false, cond_true]; rfl
  | true =>
    have h3s : threeV p.sides = true := by
      cases ht : threeV p.sides with
      | true => rfl
      | false =>
        exfalso
        revert hv
        unfold m_spec_IsParcel
        obtain ⟨_, b1, hb1⟩ := label_eq (l := p.label) (by unfold B60; omega)
        obtain ⟨_, b2, hb2⟩ := isPlace_eq (s := p.from_) (by omega)
        rw [hb1, hb2, three_v (by unfold NN; omega), ht, l1In_v]
        simp only [Option.bind_some]
        cases b1 <;> cases b2 <;> cases (!decide (p.from_ = p.label.to_)) <;> cases (decide (1 ≤ p.weight) && decide (p.weight ≤ 30000)) <;> simp
    have hl3 := three_len h3s
    obtain ⟨x, y, z, hs⟩ : ∃ x y z, p.sides = [x, y, z] := by
      match hp : p.sides, hl3 with
      | [x, y, z], _ => exact ⟨x, y, z, rfl⟩
    have i1 : in64 x := h7 x (by rw [hs]; simp)
    have i2 : in64 y := h7 y (by rw [hs]; simp)
    have i3 : in64 z := h7 z (by rw [hs]; simp)
    have l1 := itoa_len i1
    have l2 := itoa_len i2
    have l3 := itoa_len i3
    have l4 := itoa_len h5
    have l5 := itoa_len h8
    obtain ⟨b, hb, f1, f2⟩ := label_both (l := p.label) h1 h2 (by unfold B60; omega)
    have g0 : getI p.sides 0 = some x := by rw [hs]; rfl
    have g1 : getI p.sides 1 = some y := by rw [hs]; rfl
    have g2 : getI p.sides 2 = some z := by rw [hs]; rfl
    have ex : (⟨#[120]⟩ : ByteArray) = txt [120] := rfl
    have es : (⟨#[32]⟩ : ByteArray) = txt [32] := rfl
    have hfl : p.from_.data.toList.length = p.from_.size := by rw [Array.length_toList]; rfl
    have hft : p.from_ = txt p.from_.data.toList := (txt_data _).symm
    generalize p.from_.data.toList = fl at *
    refine ⟨b ++ [32] ++ fl ++ [32] ++ Lib.itoa p.weight ++ [32] ++ Lib.itoa x ++ [120] ++ Lib.itoa y ++ [120] ++ Lib.itoa z ++ [32] ++ Lib.itoa p.value, by simp only [List.length_append, List.length_cons, List.length_nil]; omega, ?_, ?_⟩
    · unfold m_impl_FormatParcel
      simp only [hi, g0, g1, g2, fI i1, fI i2, fI i3, fI h5, fI h8, f1, Option.bind_some, Bool.not_true, cond_false, ex, es, hft, txt_app]
      repeat rw [bOk (by simp only [txt_size, List.length_append, List.length_cons, List.length_nil]; omega), Option.bind_some]
      simp only [List.append_assoc]
    · unfold m_spec_FormatParcel
      simp only [hv, g0, g1, g2, fS i1, fS i2, fS i3, fS h5, fS h8, f2, Option.bind_some, Bool.not_true, cond_false, ex, es, hft, txt_app]
      repeat rw [bOk (by simp only [txt_size, List.length_append, List.length_cons, List.length_nil]; omega), Option.bind_some]
def ActI (a : YAct) : Prop := ParcelI a.parcel ∧ in64 a.order ∧ in64 a.amount ∧ in64 a.until_ ∧ in64 a.trip.leg ∧ in64 a.trip.day
theorem act_both {a : YAct} (h : ActI a) : ∃ b : ByteArray, m_impl_FormatAct a = some b ∧ m_spec_FormatAct a = some b := by
  obtain ⟨hp, h1, h2, h3, h4, h5⟩ := h
  have hp' := hp
  obtain ⟨p1, p2, p3, p4, p5, p6, p7, p8⟩ := hp'
  obtain ⟨v, hi, hv⟩ := act_eq (a := a) (by unfold B60; omega) (by unfold B60; omega) (by unfold NN; omega)
  obtain ⟨b, hb, f1, f2⟩ := parcel_both hp
  have l1 := itoa_len h1
  have l2 := itoa_len h2
  have l3 := itoa_len h3
  have l4 := itoa_len h4
  have l5 := itoa_len h5
  unfold m_impl_FormatAct m_spec_FormatAct m_impl_tripText
  have lit : ∀ l : List UInt8, (⟨l.toArray⟩ : ByteArray) = txt l := fun l => rfl
  have et : (⟨#[116, 97, 107, 101, 32]⟩ : ByteArray) = txt [116, 97, 107, 101, 32] := rfl
  have ep : (⟨#[112, 97, 121, 32]⟩ : ByteArray) = txt [112, 97, 121, 32] := rfl
  have es : (⟨#[32]⟩ : ByteArray) = txt [32] := rfl
  have er : (⟨#[114, 117, 110, 32]⟩ : ByteArray) = txt [114, 117, 110, 32] := rfl
  have eh : (⟨#[115, 104, 117, 116, 32]⟩ : ByteArray) = txt [115, 104, 117, 116, 32] := rfl
  have el : (⟨#[47]⟩ : ByteArray) = txt [47] := rfl
  have ef : (⟨#[114, 101, 102, 117, 110, 100, 32]⟩ : ByteArray) = txt [114, 101, 102, 117, 110, 100, 32] := rfl
  simp only [hi, hv, f1, f2, fI h1, fI h2, fI h3, fI h4, fI h5, fS h1, fS h2, fS h3, fS h4, fS h5, Option.bind_some, et, ep, es, er, eh, el, ef, txt_app]
  repeat rw [bOk (by simp only [txt_size, List.length_append, List.length_cons, List.length_nil]; omega), Option.bind_some]
  simp only [List.append_assoc]
  cases v <;> cases decide (a.kind = 1) <;> cases decide (a.kind = 2) <;> cases decide (a.kind = 3) <;> cases decide (a.kind = 4) <;> cases decide (a.kind = 5) <;> exact ⟨_, rfl, rfl⟩
end Go.Proofs.YtkfbakhnpfmfmaaGreatDoor
namespace Go.Proofs.YtkfbakhnpfmfmaaGreatDoor
set_option maxRecDepth 10000
open Go.RowKit
set_option linter.unusedVariables false
set_option maxHeartbeats 16000000
def m_o_spec_ParseParcel_b0 (s : ByteArray) (y1 : (List ByteArray)) (y2 : ByteArray) (y4 : YLabel × Bool) (y6 : Int × Bool) (y8 : (List ByteArray)) (s0 : Int × (List Int)) : Option ((Int × (List Int)) ⊕ (List Int)) :=
 cond (decide (s0.1 < (y8.length : Int)))
 ((getI y8 s0.1).bind fun y9 =>
 (m_spec_ParseInt y9).bind fun y10 =>
 (chk (appOk ((s0.2 : List Int).length + ([y10.1] : List Int).length) 8)).bind fun _ =>
 some (.inl ((w64 (s0.1 + 1)), ((s0.2 : List Int) ++ [y10.1]))))
 (some (.inr s0.2))
instance (s : ByteArray) (y1 : (List ByteArray)) (y2 : ByteArray) (y4 : YLabel × Bool) (y6 : Int × Bool) (y8 : (List ByteArray)) : LoopE (m_o_spec_ParseParcel_b0 s y1 y2 y4 y6 y8) := ⟨fun s0 => (vs s :: .un :: .be 0 0 0 :: .un :: .ms 1 :: .be 2 0 0 :: .un :: vb y4.2 :: .un :: .un :: .ms 4 :: vi s0.1 :: (U 75 [])), fun s0 => [some ⟨.of 26, 7, [[vi 0, vi 0, vs (⟨#[]⟩), vs (⟨#[]⟩), vi 0, .v (.slice none 0 0), vi 0]]⟩, some ⟨.of 9, 1, y1.map cStr⟩, some ⟨.of 26, 7, [[vi y4.1.service, vi y4.1.serial, vs y4.1.to_, vs y2, vi y6.1, .ms 3, vi 0]]⟩, some ⟨.of 3, 1, s0.2.map cInt⟩, some ⟨.of 9, 1, y8.map cStr⟩]⟩
def m_o_spec_ParseParcel (s : ByteArray) : Option (YParcel × Bool) :=
 (m_spec_l2Split s 32).bind fun y1 =>
 cond (!decide ((y1.length : Int) = 5))
 (some ((⟨(⟨0, 0, ⟨#[]⟩⟩ : YLabel), ⟨#[]⟩, 0, [], 0⟩ : YParcel), false))
 ((getI y1 1).bind fun y2 =>
 (getI y1 0).bind fun y3 =>
 (m_spec_ParseLabel y3).bind fun y4 =>
 (getI y1 2).bind fun y5 =>
 (m_spec_ParseInt y5).bind fun y6 =>
 (getI y1 3).bind fun y7 =>
 (m_spec_l2Split y7 120).bind fun y8 =>
 (iterF (m_o_spec_ParseParcel_b0 s y1 y2 y4 y6 y8) NN (0, [])).bind (fun o0 =>
 (getI y1 4).bind fun y11 =>
 (m_spec_ParseInt y11).bind fun y12 =>
 cond (!y4.2)
 (some ((⟨(⟨0, 0, ⟨#[]⟩⟩ : YLabel), ⟨#[]⟩, 0, [], 0⟩ : YParcel), false))
 ((m_spec_FormatParcel (⟨y4.1, y2, y6.1, o0, y12.1⟩ : YParcel)).bind fun y13 =>
 cond (!decide (y13 = s))
 (some ((⟨(⟨0, 0, ⟨#[]⟩⟩ : YLabel), ⟨#[]⟩, 0, [], 0⟩ : YParcel), false))
 (some ((⟨y4.1, y2, y6.1, o0, y12.1⟩ : YParcel), true)))))
instance (s : ByteArray) : CT Tryz.prog (m_o_spec_ParseParcel s) := ⟨23, [vs s], [], fun r => .tu [.ag [vi r.1.label.service, vi r.1.label.serial, vs r.1.label.to_, vs r.1.from_, vi r.1.weight, .ms 0, vi r.1.value], vb r.2], fun r => [some ⟨.of 3, 1, r.1.sides.map cInt⟩], fun H => by replace H := H0 H; unfold m_o_spec_ParseParcel at H; exact callM_of Tryz.func23 rfl Tryz.ntmps23 Tryz.results23 fun Q hQ hQn => wk3⟩
def m_o_impl_ParseParcel_b0 (s : ByteArray) (y2 : ByteArray) (y4 : YLabel × Bool) (y6 : Int × Bool) (y8 : Int × Bool) (y10 : List ByteArray) (s0 : Int × (List Int)) : Option ((Int × (List Int)) ⊕ (List Int)) :=
 cond (decide (s0.1 < (y10.length : Int)))
 ((getI y10 s0.1).bind fun y11 =>
 (m_impl_ParseInt y11).bind fun y12 =>
 (chk (appOk ((s0.2 : List Int).length + ([y12.1] : List Int).length) 8)).bind fun _ =>
 some (.inl ((w64 (s0.1 + 1)), ((s0.2 : List Int) ++ [y12.1]))))
 (some (.inr s0.2))
instance (s : ByteArray) (y2 : ByteArray) (y4 : YLabel × Bool) (y6 : Int × Bool) (y8 : Int × Bool) (y10 : List ByteArray) : LoopE (m_o_impl_ParseParcel_b0 s y2 y4 y6 y8 y10) := ⟨fun s0 => (vs s :: .un :: .be 0 0 0 :: .un :: .un :: .be 1 0 0 :: (U 41 (.ms 3 :: vi (y10.length : Int) :: vi s0.1 :: (U 25 [])))), fun s0 => [some ⟨.of 26, 7, [[vi 0, vi 0, vs (⟨#[]⟩), vs (⟨#[]⟩), vi 0, .v (.slice none 0 0), vi 0]]⟩, some ⟨.of 26, 7, [[vi y4.1.service, vi y4.1.serial, vs y4.1.to_, vs y2, vi y6.1, .ms 2, vi y8.1]]⟩, some ⟨.of 3, 1, s0.2.map cInt⟩, some ⟨.of 9, 1, y10.map cStr⟩]⟩
def m_o_impl_ParseParcel (s : ByteArray) : Option (YParcel × Bool) :=
 (m_strings_Split s (⟨#[32]⟩)).bind fun y1 =>
 cond (!decide ((y1.length : Int) = 5))
 (some ((⟨(⟨0, 0, ⟨#[]⟩⟩ : YLabel), ⟨#[]⟩, 0, [], 0⟩ : YParcel), false))
 ((getI y1 1).bind fun y2 =>
 (getI y1 0).bind fun y3 =>
 (m_impl_ParseLabel y3).bind fun y4 =>
 (getI y1 2).bind fun y5 =>
 (m_impl_ParseInt y5).bind fun y6 =>
 (getI y1 4).bind fun y7 =>
 (m_impl_ParseInt y7).bind fun y8 =>
 (getI y1 3).bind fun y9 =>
 (m_strings_Split y9 (⟨#[120]⟩)).bind fun y10 =>
 (iterF (m_o_impl_ParseParcel_b0 s y2 y4 y6 y8 y10) NN (0, [])).bind (fun o0 =>
 cond (decide (s = ⟨#[]⟩))
 (some ((⟨(⟨0, 0, ⟨#[]⟩⟩ : YLabel), ⟨#[]⟩, 0, [], 0⟩ : YParcel), false))
 ((m_impl_FormatParcel (⟨y4.1, y2, y6.1, o0, y8.1⟩ : YParcel)).bind fun y13 =>
 cond (!decide (y13 = s))
 (some ((⟨(⟨0, 0, ⟨#[]⟩⟩ : YLabel), ⟨#[]⟩, 0, [], 0⟩ : YParcel), false))
 (some ((⟨y4.1, y2, y6.1, o0, y8.1⟩ : YParcel), true)))))
instance (s : ByteArray) : CT Tryz.prog (m_o_impl_ParseParcel s) := ⟨27, [vs s], [], fun r => .tu [.ag [vi r.1.label.service, vi r.1.label.serial, vs r.1.label.to_, vs r.1.from_, vi r.1.weight, .ms 0, vi r.1.value], vb r.2], fun r => [some ⟨.of 3, 1, r.1.sides.map cInt⟩], fun H => by replace H := H0 H; unfold m_o_impl_ParseParcel at H; exact callM_of Tryz.func27 rfl Tryz.ntmps27 Tryz.results27 fun Q hQ hQn => wk3⟩
end Go.Proofs.YtkfbakhnpfmfmaaGreatDoor
namespace Go.Proofs.YtkfbakhnpfmfmaaGreatDoor
set_option maxRecDepth 10000
open Go.RowKit Go.Sort
set_option linter.unusedVariables false
set_option linter.unusedSimpArgs false
set_option maxHeartbeats 4000000
theorem parcel_inv {p : YParcel} (h1 : p.label.to_.size ≤ B60) (h2 : p.from_.size ≤ B60) (h3 : p.sides.length < NN) (h : m_spec_IsParcel p = some true) : m_spec_IsLabel p.label = some true ∧ m_spec_IsPlace p.from_ = some true ∧ (1 ≤ p.weight ∧ p.weight ≤ 30000) ∧ threeV p.sides = true ∧ (0 ≤ p.value ∧ p.value ≤ 500000) := by
  obtain ⟨_, b1, hb1⟩ := label_eq h1
  obtain ⟨_, b2, hb2⟩ := isPlace_eq h2
  obtain ⟨_, b3, hb3⟩ := girth_eq h3
  revert h
  unfold m_spec_IsParcel
  simp only [hb1, hb2, hb3, three_v h3, l1In_v, Option.bind_some]
  cases b1 <;> cases b2 <;> cases (!decide (p.from_ = p.label.to_)) <;> cases hw : (decide (1 ≤ p.weight) && decide (p.weight ≤ 30000)) <;> cases threeV p.sides <;> cases decide (b3 ≤ 3600) <;> simp_all
theorem three_at {l : List Int} (h : threeV l = true) : ∃ x y z, l = [x, y, z] ∧ (1 ≤ x ∧ x ≤ 2000) ∧ (1 ≤ y ∧ y ≤ 2000) ∧ (1 ≤ z ∧ z ≤ 2000) := by
  have hl := three_len h
  match l, hl with
  | [x, y, z], _ => exact ⟨x, y, z, rfl, by simpa [threeV] using h⟩
def sidesT : List Int → List UInt8
  | [x, y, z] => Lib.itoa x ++ 120 :: (Lib.itoa y ++ 120 :: Lib.itoa z)
  | _ => []
def parcT (p : YParcel) (n : Int) : List UInt8 := labT p.label n ++ 32 :: (p.from_.data.toList ++ 32 :: (Lib.itoa p.weight ++ 32 :: (sidesT p.sides ++ 32 :: Lib.itoa p.value)))
theorem isDL_no {l : List UInt8} (h : ∀ c ∈ l, isDL c) {c : UInt8} (hc : c.toNat < 48 ∨ 90 < c.toNat) : c ∉ l := fun hm => by have := h c hm; unfold isDL at this; omega
theorem itoa_no {n : Int} (h : 0 ≤ n) {c : UInt8} (hc : c.toNat < 48 ∨ 57 < c.toNat) : c ∉ Lib.itoa n := not_dig (itoa_dig h) hc
theorem sidesT_no {x y z : Int} (hx : 0 ≤ x) (hy : 0 ≤ y) (hz : 0 ≤ z) : (32 : UInt8) ∉ sidesT [x, y, z] := by
  have a := itoa_no hx (c := 32) (by decide)
  have b := itoa_no hy (c := 32) (by decide)
  have c := itoa_no hz (c := 32) (by decide)
  unfold sidesT
  simp [a, b, c]
structure PGood (p : YParcel) (n : Int) : Prop where
  lab : m_spec_IsLabel p.label = some true
  n0 : 0 ≤ n
  n1 : n ≤ 99
  fli : m_impl_FormatLabel p.label = some (txt (labT p.label n))
  fls : m_spec_FormatLabel p.label = some (txt (labT p.label n))
  fi : m_impl_FormatParcel p = some (txt (parcT p n))
  fs : m_spec_FormatParcel p = some (txt (parcT p n))
  to3 : p.label.to_.size = 3
  fr : p.from_.size = 3 ∧ ∀ c ∈ p.from_.data.toList, isDL c
  w : 1 ≤ p.weight ∧ p.weight ≤ 30000
  v : 0 ≤ p.value ∧ p.value ≤ 500000
  sd : ∃ x y z, p.sides = [x, y, z] ∧ (1 ≤ x ∧ x ≤ 2000) ∧ (1 ≤ y ∧ y ≤ 2000) ∧ (1 ≤ z ∧ z ≤ 2000)
theorem small64 {n : Int} (h : 0 ≤ n ∧ n ≤ 1000000000) : in64 n := ⟨by omega, by omega⟩
theorem labT_len {l : YLabel} {n : Int} (h : m_spec_IsLabel l = some true) (hn : 0 ≤ n ∧ n ≤ 99) : (labT l n).length ≤ 100 := by
  obtain ⟨r1, r2⟩ := label_rng h
  have a := bodyL_len (l := l) (small64 (by omega)) (small64 (by omega)) (by have := (isLabel_t h).1; omega)
  have b := padL_len (n := n) (d := 2) (small64 (by omega)) (by omega)
  unfold labT
  rw [List.length_append]; omega
theorem parcel_txt {p : YParcel} (h1 : p.label.to_.size ≤ B60) (h2 : p.from_.size ≤ B60) (h3 : p.sides.length < NN) (h : m_spec_IsParcel p = some true) : ∃ n, PGood p n := by
  obtain ⟨q1, q2, q3, q4, q5⟩ := parcel_inv h1 h2 h3 h
  obtain ⟨n, n0, n1, f1, f2⟩ := label_txt h1 q1
  obtain ⟨x, y, z, hs, hx, hy, hz⟩ := three_at q4
  obtain ⟨g1, g2⟩ := place_up q2
  have hi : m_impl_IsParcel p = some true := (parcel_eq h1 h2 h3).1.trans h
  have i1 : in64 x := small64 (by omega)
  have i2 : in64 y := small64 (by omega)
  have i3 : in64 z := small64 (by omega)
  have i4 : in64 p.weight := small64 (by omega)
  have i5 : in64 p.value := small64 (by omega)
  have l1 := itoa_len i1
  have l2 := itoa_len i2
  have l3 := itoa_len i3
  have l4 := itoa_len i4
  have l5 := itoa_len i5
  have lb := labT_len q1 ⟨n0, n1⟩
  have s0 : getI p.sides 0 = some x := by rw [hs]; rfl
  have s1 : getI p.sides 1 = some y := by rw [hs]; rfl
  have s2 : getI p.sides 2 = some z := by rw [hs]; rfl
  have ex : (⟨#[120]⟩ : ByteArray) = txt [120] := rfl
  have es : (⟨#[32]⟩ : ByteArray) = txt [32] := rfl
  have hfl : p.from_.data.toList.length = p.from_.size := by rw [Array.length_toList]; rfl
  have hft : p.from_ = txt p.from_.data.toList := (txt_data _).symm
  refine ⟨n, q1, n0, n1, f1, f2, ?_, ?_, (isLabel_t q1).1, ⟨g1, g2⟩, q3, q5, x, y, z, hs, hx, hy, hz⟩
  · unfold m_impl_FormatParcel parcT
    simp only [hi, s0, s1, s2, fI i1, fI i2, fI i3, fI i4, fI i5, f1, Option.bind_some, Bool.not_true, cond_false, ex, es]
    generalize p.from_.data.toList = fl at *
    rw [hft]
    simp only [txt_app]
    repeat rw [bOk (by simp only [txt_size, List.length_append, List.length_cons, List.length_nil]; omega), Option.bind_some]
    simp [hs, sidesT]
  · unfold m_spec_FormatParcel parcT
    simp only [h, s0, s1, s2, fS i1, fS i2, fS i3, fS i4, fS i5, f2, Option.bind_some, Bool.not_true, cond_false, ex, es]
    generalize p.from_.data.toList = fl at *
    rw [hft]
    simp only [txt_app]
    repeat rw [bOk (by simp only [txt_size, List.length_append, List.length_cons, List.length_nil]; omega), Option.bind_some]
    simp [hs, sidesT]
theorem parc_split {p : YParcel} {n : Int} (h : PGood p n) : splitL 32 (parcT p n) = [labT p.label n, p.from_.data.toList, Lib.itoa p.weight, sidesT p.sides, Lib.itoa p.value] := by
  obtain ⟨x, y, z, hs, hx, hy, hz⟩ := h.sd
  unfold parcT
  rw [splitL_app (isDL_no (labT_dl h.lab h.n0) (by decide)), splitL_app (isDL_no h.fr.2 (by decide)), splitL_app (itoa_no (by have := h.w; omega) (by decide)), splitL_app (by rw [hs]; exact sidesT_no (by omega) (by omega) (by omega)), splitL_none (itoa_no h.v.1 (by decide))]
theorem sides_split {x y z : Int} (hx : 0 ≤ x) (hy : 0 ≤ y) (hz : 0 ≤ z) : splitL 120 (sidesT [x, y, z]) = [Lib.itoa x, Lib.itoa y, Lib.itoa z] := by
  unfold sidesT
  rw [splitL_app (itoa_no hx (by decide)), splitL_app (itoa_no hy (by decide)), splitL_none (itoa_no hz (by decide))]
theorem parcT_len {p : YParcel} {n : Int} (h : PGood p n) : (parcT p n).length ≤ 1000 := by
  obtain ⟨x, y, z, hs, hx, hy, hz⟩ := h.sd
  have l1 := itoa_len (n := x) (small64 (by omega))
  have l2 := itoa_len (n := y) (small64 (by omega))
  have l3 := itoa_len (n := z) (small64 (by omega))
  have l4 := itoa_len (n := p.weight) (small64 (by have := h.w; omega))
  have l5 := itoa_len (n := p.value) (small64 (by have := h.v; omega))
  have lb := labT_len h.lab ⟨h.n0, h.n1⟩
  have hfl : p.from_.data.toList.length = p.from_.size := by rw [Array.length_toList]; rfl
  have := h.fr.1
  unfold parcT
  rw [hs]
  simp only [sidesT, List.length_append, List.length_cons]
  omega
theorem w1' : w64 ((0 : Int) + 1) = 1 := by decide
theorem w2' : w64 ((1 : Int) + 1) = 2 := by decide
theorem w3' : w64 ((2 : Int) + 1) = 3 := by decide
theorem appI {a b : List Int} (h : a.length + b.length ≤ 100000000) : chk (appOk (a.length + b.length) 8) = some () := chk_t (decide_eq_true ⟨by omega, by omega⟩)
theorem iint_at {n : Int} (h : 0 ≤ n ∧ n ≤ 1000000000) : m_impl_ParseInt (txt (Lib.itoa n)) = some (n, true) := iint_itoa h.1 h.2 (by have := itoa_len (small64 h); omega)
theorem parcel_rt {p : YParcel} {n : Int} (h : PGood p n) : m_o_impl_ParseParcel (txt (parcT p n)) = some (p, true) ∧ m_o_spec_ParseParcel (txt (parcT p n)) = some (p, true) := by
  obtain ⟨x, y, z, hs, hx, hy, hz⟩ := h.sd
  have hl := parcT_len h
  obtain ⟨r1, r2⟩ := label_rt (by have := h.to3; unfold B60; omega) h.lab h.n0 h.n1 h.fli h.fls
  have hw := h.w
  have hv := h.v
  have hsl : (sidesT p.sides).length ≤ 1000 := by
    unfold parcT at hl
    simp only [List.length_append, List.length_cons] at hl
    omega
  have sp := parc_split h
  have ss : splitL 120 (sidesT p.sides) = [Lib.itoa x, Lib.itoa y, Lib.itoa z] := by rw [hs]; exact sides_split (by omega) (by omega) (by omega)
  have hft := txt_data p.from_
  constructor
  · have e1 := split_at (c := 32) (L := parcT p n) (by omega)
    have e2 := split_at (c := 120) (L := sidesT p.sides) (by omega)
    rw [sp] at e1
    rw [ss] at e2
    have it : ∀ a b c d e, iterF (m_o_impl_ParseParcel_b0 a b c d e [txt (Lib.itoa x), txt (Lib.itoa y), txt (Lib.itoa z)]) NN (0, []) = some [x, y, z] := by
      intro a b c d e
      refine iter_NN (n := 4) ?_ (by unfold NN; omega)
      rw [itl (s' := (1, [x])), itl (s' := (2, [x, y])), itl (s' := (3, [x, y, z])), itr (o := [x, y, z])]
      all_goals unfold m_o_impl_ParseParcel_b0
      · rfl
      · simp only [show decide ((2 : Int) < (([txt (Lib.itoa x), txt (Lib.itoa y), txt (Lib.itoa z)] : List ByteArray).length : Int)) = true from rfl, cond_true, show getI [txt (Lib.itoa x), txt (Lib.itoa y), txt (Lib.itoa z)] 2 = some (txt (Lib.itoa z)) from rfl, Option.bind_some, iint_at (n := z) ⟨by omega, by omega⟩, appI (a := [x, y]) (b := [z]) (by simp), w3']; rfl
      · simp only [show decide ((1 : Int) < (([txt (Lib.itoa x), txt (Lib.itoa y), txt (Lib.itoa z)] : List ByteArray).length : Int)) = true from rfl, cond_true, show getI [txt (Lib.itoa x), txt (Lib.itoa y), txt (Lib.itoa z)] 1 = some (txt (Lib.itoa y)) from rfl, Option.bind_some, iint_at (n := y) ⟨by omega, by omega⟩, appI (a := [x]) (b := [y]) (by simp), w2']; rfl
      · simp only [show decide ((0 : Int) < (([txt (Lib.itoa x), txt (Lib.itoa y), txt (Lib.itoa z)] : List ByteArray).length : Int)) = true from rfl, cond_true, show getI [txt (Lib.itoa x), txt (Lib.itoa y), txt (Lib.itoa z)] 0 = some (txt (Lib.itoa x)) from rfl, Option.bind_some, iint_at (n := x) ⟨by omega, by omega⟩, appI (a := []) (b := [x]) (by simp), w1']; rfl
    have hne : decide (txt (parcT p n) = ⟨#[]⟩) = false := decide_eq_false fun e => by
      have := congrArg ByteArray.size e
      rw [txt_size] at this
      have h2 : (parcT p n).length = 0 := this
      unfold parcT at h2
      simp at h2
    unfold m_o_impl_ParseParcel
    rw [show (⟨#[32]⟩ : ByteArray) = txt [32] from rfl, show (⟨#[120]⟩ : ByteArray) = txt [120] from rfl, e1]
    simp only [List.map_cons, List.map_nil, Option.bind_some]
    simp only [show ∀ a b c d e : ByteArray, decide ((([a, b, c, d, e] : List ByteArray).length : Int) = 5) = true from fun _ _ _ _ _ => rfl, show ∀ a b c d e : ByteArray, getI [a, b, c, d, e] 0 = some a from fun _ _ _ _ _ => rfl, show ∀ a b c d e : ByteArray, getI [a, b, c, d, e] 1 = some b from fun _ _ _ _ _ => rfl, show ∀ a b c d e : ByteArray, getI [a, b, c, d, e] 2 = some c from fun _ _ _ _ _ => rfl, show ∀ a b c d e : ByteArray, getI [a, b, c, d, e] 3 = some d from fun _ _ _ _ _ => rfl, show ∀ a b c d e : ByteArray, getI [a, b, c, d, e] 4 = some e from fun _ _ _ _ _ => rfl, Bool.not_true, cond_false, Option.bind_some, r1, iint_at (n := p.weight) ⟨by omega, by omega⟩, iint_at (n := p.value) ⟨by omega, by omega⟩, e2, List.map_cons, List.map_nil, it, hne, hft]
    rw [← hs]
    show (m_impl_FormatParcel p).bind _ = _
    rw [h.fi]
    simp
  · have e1 := l2Split_eq (c := 32) (L := parcT p n) (by omega)
    have e2 := l2Split_eq (c := 120) (L := sidesT p.sides) (by omega)
    rw [sp] at e1
    rw [ss] at e2
    have it : ∀ a b c d e, iterF (m_o_spec_ParseParcel_b0 a b c d e [txt (Lib.itoa x), txt (Lib.itoa y), txt (Lib.itoa z)]) NN (0, []) = some [x, y, z] := by
      intro a b c d e
      refine iter_NN (n := 4) ?_ (by unfold NN; omega)
      rw [itl (s' := (1, [x])), itl (s' := (2, [x, y])), itl (s' := (3, [x, y, z])), itr (o := [x, y, z])]
      all_goals unfold m_o_spec_ParseParcel_b0
      · rfl
      · simp only [show decide ((2 : Int) < (([txt (Lib.itoa x), txt (Lib.itoa y), txt (Lib.itoa z)] : List ByteArray).length : Int)) = true from rfl, cond_true, show getI [txt (Lib.itoa x), txt (Lib.itoa y), txt (Lib.itoa z)] 2 = some (txt (Lib.itoa z)) from rfl, Option.bind_some, pint_itoa (n := z) (by omega) (by omega), appI (a := [x, y]) (b := [z]) (by simp), w3']; rfl
      · simp only [show decide ((1 : Int) < (([txt (Lib.itoa x), txt (Lib.itoa y), txt (Lib.itoa z)] : List ByteArray).length : Int)) = true from rfl, cond_true, show getI [txt (Lib.itoa x), txt (Lib.itoa y), txt (Lib.itoa z)] 1 = some (txt (Lib.itoa y)) from rfl, Option.bind_some, pint_itoa (n := y) (by omega) (by omega), appI (a := [x]) (b := [y]) (by simp), w2']; rfl
      · simp only [show decide ((0 : Int) < (([txt (Lib.itoa x), txt (Lib.itoa y), txt (Lib.itoa z)] : List ByteArray).length : Int)) = true from rfl, cond_true, show getI [txt (Lib.itoa x), txt (Lib.itoa y), txt (Lib.itoa z)] 0 = some (txt (Lib.itoa x)) from rfl, Option.bind_some, pint_itoa (n := x) (by omega) (by omega), appI (a := []) (b := [x]) (by simp), w1']; rfl
    unfold m_o_spec_ParseParcel
    have e1' : m_spec_l2Split (txt (parcT p n)) 32 = _ := e1
    have e2' : m_spec_l2Split (txt (sidesT p.sides)) 120 = _ := e2
    rw [e1']
    simp only [List.map_cons, List.map_nil, Option.bind_some]
    simp only [show ∀ a b c d e : ByteArray, decide ((([a, b, c, d, e] : List ByteArray).length : Int) = 5) = true from fun _ _ _ _ _ => rfl, show ∀ a b c d e : ByteArray, getI [a, b, c, d, e] 0 = some a from fun _ _ _ _ _ => rfl, show ∀ a b c d e : ByteArray, getI [a, b, c, d, e] 1 = some b from fun _ _ _ _ _ => rfl, show ∀ a b c d e : ByteArray, getI [a, b, c, d, e] 2 = some c from fun _ _ _ _ _ => rfl, show ∀ a b c d e : ByteArray, getI [a, b, c, d, e] 3 = some d from fun _ _ _ _ _ => rfl, show ∀ a b c d e : ByteArray, getI [a, b, c, d, e] 4 = some e from fun _ _ _ _ _ => rfl, Bool.not_true, cond_false, Option.bind_some, r2, pint_itoa (n := p.weight) (by omega) (by omega), pint_itoa (n := p.value) (by omega) (by omega), e2', List.map_cons, List.map_nil, it, hft]
    rw [← hs]
    show (m_spec_FormatParcel p).bind _ = _
    rw [h.fs]
    simp
end Go.Proofs.YtkfbakhnpfmfmaaGreatDoor
namespace Go.Proofs.YtkfbakhnpfmfmaaGreatDoor
set_option maxRecDepth 10000
open Go.RowKit
set_option linter.unusedVariables false
set_option maxHeartbeats 16000000
def m_spec_l12Trip (s : ByteArray) : Option YTrip :=
 (m_spec_l2Split s 47).bind fun y1 =>
 cond (!decide ((y1.length : Int) = 2))
 (some (⟨(-1), 0⟩ : YTrip))
 ((getI y1 0).bind fun y2 =>
 (m_spec_ParseInt y2).bind fun y3 =>
 (getI y1 1).bind fun y4 =>
 (m_spec_ParseInt y4).bind fun y5 =>
 cond (!y3.2)
 (some (⟨(-1), 0⟩ : YTrip))
 (cond (!y5.2)
 (some (⟨(-1), 0⟩ : YTrip))
 (some (⟨y3.1, y5.1⟩ : YTrip))))
instance (s : ByteArray) : CT Tryz.prog (m_spec_l12Trip s) := ⟨24, [vs s], [], fun r => .ag [vi r.leg, vi r.day], fun r => [], fun H => by replace H := H0 H; unfold m_spec_l12Trip at H; exact callM_of Tryz.func24 rfl Tryz.ntmps24 Tryz.results24 fun Q hQ hQn => wk3⟩
def m_o_spec_ParseAct (s : ByteArray) : Option (YAct × Bool) :=
 (m_spec_l2Split s 32).bind fun y1 =>
 (jn 4 7 (
 cond (decide (1 < (y1.length : Int)))
 ((getI y1 1).bind fun y2 =>
 (m_spec_ParseInt y2).bind fun y3 =>
 some (.inl y3.1))
 (some (.inl 0)) : Option (Int ⊕ Empty)) (fun z4 => (vs s :: .un :: .be 0 0 0 :: .un :: .ms 1 :: .be 2 0 0 :: vi z4 :: (U 109 []))) (fun z4 => [some ⟨.of 30, 13, [[vi 0, vi 0, vi 0, vs (⟨#[]⟩), vs (⟨#[]⟩), vi 0, .v (.slice none 0 0), vi 0, vi 0, vi 0, vi 0, vi 0, vi 0]]⟩, some ⟨.of 9, 1, y1.map cStr⟩, some ⟨.of 30, 13, [[vi 0, vi 0, vi 0, vs (⟨#[]⟩), vs (⟨#[]⟩), vi 0, .v (.slice none 0 0), vi 0, vi 0, vi 0, vi 0, vi 0, vi 0]]⟩])).bind (selim (fun z4 =>
 (jn 7 21 (
 (getI y1 0).bind fun y5 =>
 cond (decide (y5 = ⟨#[116, 97, 107, 101]⟩))
 (cond (decide (5 < (s.size : Int)))
 ((chk (slOk 5 (s.size : Int) s.size)).bind fun _ =>
 (m_o_spec_ParseParcel (subS s 5 (s.size : Int))).bind fun y6 =>
 some (.inl (1, y6.1.label.service, y6.1.label.serial, y6.1.label.to_, y6.1.from_, y6.1.weight, y6.1.value, 0, 0, 0, 0, 0, y6.1.sides)))
 ((getI y1 0).bind fun y7 =>
 cond (decide (y7 = ⟨#[112, 97, 121]⟩))
 (cond (decide ((y1.length : Int) = 3))
 ((getI y1 2).bind fun y8 =>
 (m_spec_ParseInt y8).bind fun y9 =>
 some (.inl (2, 0, 0, ⟨#[]⟩, ⟨#[]⟩, 0, 0, z4, y9.1, 0, 0, 0, [])))
 ((getI y1 0).bind fun y10 =>
 cond (decide (y10 = ⟨#[114, 117, 110]⟩))
 (cond (decide ((y1.length : Int) = 2))
 (some (.inl (3, 0, 0, ⟨#[]⟩, ⟨#[]⟩, 0, 0, 0, 0, z4, 0, 0, [])))
 ((getI y1 0).bind fun y11 =>
 cond (decide (y11 = ⟨#[115, 104, 117, 116]⟩))
 (cond (decide ((y1.length : Int) = 2))
 ((getI y1 1).bind fun y12 =>
 (m_spec_l12Trip y12).bind fun y13 =>
 some (.inl (4, 0, 0, ⟨#[]⟩, ⟨#[]⟩, 0, 0, 0, 0, 0, y13.leg, y13.day, [])))
 ((getI y1 0).bind fun y14 =>
 cond (decide (y14 = ⟨#[114, 101, 116, 114, 121]⟩))
 (some (.inl (5, 0, 0, ⟨#[]⟩, ⟨#[]⟩, 0, 0, 0, 0, 0, 0, 0, [])))
 ((getI y1 0).bind fun y15 =>
 cond (decide (y15 = ⟨#[114, 101, 102, 117, 110, 100]⟩))
 (some (.inl (6, 0, 0, ⟨#[]⟩, ⟨#[]⟩, 0, 0, z4, 0, 0, 0, 0, [])))
 (some (.inl (0, 0, 0, ⟨#[]⟩, ⟨#[]⟩, 0, 0, 0, 0, 0, 0, 0, []))))))
 ((getI y1 0).bind fun y16 =>
 cond (decide (y16 = ⟨#[114, 101, 116, 114, 121]⟩))
 (some (.inl (5, 0, 0, ⟨#[]⟩, ⟨#[]⟩, 0, 0, 0, 0, 0, 0, 0, [])))
 ((getI y1 0).bind fun y17 =>
 cond (decide (y17 = ⟨#[114, 101, 102, 117, 110, 100]⟩))
 (some (.inl (6, 0, 0, ⟨#[]⟩, ⟨#[]⟩, 0, 0, z4, 0, 0, 0, 0, [])))
 (some (.inl (0, 0, 0, ⟨#[]⟩, ⟨#[]⟩, 0, 0, 0, 0, 0, 0, 0, [])))))))
 ((getI y1 0).bind fun y18 =>
 cond (decide (y18 = ⟨#[115, 104, 117, 116]⟩))
 (cond (decide ((y1.length : Int) = 2))
 ((getI y1 1).bind fun y19 =>
 (m_spec_l12Trip y19).bind fun y20 =>
 some (.inl (4, 0, 0, ⟨#[]⟩, ⟨#[]⟩, 0, 0, 0, 0, 0, y20.leg, y20.day, [])))
 ((getI y1 0).bind fun y21 =>
 cond (decide (y21 = ⟨#[114, 101, 116, 114, 121]⟩))
 (some (.inl (5, 0, 0, ⟨#[]⟩, ⟨#[]⟩, 0, 0, 0, 0, 0, 0, 0, [])))
 ((getI y1 0).bind fun y22 =>
 cond (decide (y22 = ⟨#[114, 101, 102, 117, 110, 100]⟩))
 (some (.inl (6, 0, 0, ⟨#[]⟩, ⟨#[]⟩, 0, 0, z4, 0, 0, 0, 0, [])))
 (some (.inl (0, 0, 0, ⟨#[]⟩, ⟨#[]⟩, 0, 0, 0, 0, 0, 0, 0, []))))))
 ((getI y1 0).bind fun y23 =>
 cond (decide (y23 = ⟨#[114, 101, 116, 114, 121]⟩))
 (some (.inl (5, 0, 0, ⟨#[]⟩, ⟨#[]⟩, 0, 0, 0, 0, 0, 0, 0, [])))
 ((getI y1 0).bind fun y24 =>
 cond (decide (y24 = ⟨#[114, 101, 102, 117, 110, 100]⟩))
 (some (.inl (6, 0, 0, ⟨#[]⟩, ⟨#[]⟩, 0, 0, z4, 0, 0, 0, 0, [])))
 (some (.inl (0, 0, 0, ⟨#[]⟩, ⟨#[]⟩, 0, 0, 0, 0, 0, 0, 0, []))))))))
 ((getI y1 0).bind fun y25 =>
 cond (decide (y25 = ⟨#[114, 117, 110]⟩))
 (cond (decide ((y1.length : Int) = 2))
 (some (.inl (3, 0, 0, ⟨#[]⟩, ⟨#[]⟩, 0, 0, 0, 0, z4, 0, 0, [])))
 ((getI y1 0).bind fun y26 =>
 cond (decide (y26 = ⟨#[115, 104, 117, 116]⟩))
 (cond (decide ((y1.length : Int) = 2))
 ((getI y1 1).bind fun y27 =>
 (m_spec_l12Trip y27).bind fun y28 =>
 some (.inl (4, 0, 0, ⟨#[]⟩, ⟨#[]⟩, 0, 0, 0, 0, 0, y28.leg, y28.day, [])))
 ((getI y1 0).bind fun y29 =>
 cond (decide (y29 = ⟨#[114, 101, 116, 114, 121]⟩))
 (some (.inl (5, 0, 0, ⟨#[]⟩, ⟨#[]⟩, 0, 0, 0, 0, 0, 0, 0, [])))
 ((getI y1 0).bind fun y30 =>
 cond (decide (y30 = ⟨#[114, 101, 102, 117, 110, 100]⟩))
 (some (.inl (6, 0, 0, ⟨#[]⟩, ⟨#[]⟩, 0, 0, z4, 0, 0, 0, 0, [])))
 (some (.inl (0, 0, 0, ⟨#[]⟩, ⟨#[]⟩, 0, 0, 0, 0, 0, 0, 0, []))))))
 ((getI y1 0).bind fun y31 =>
 cond (decide (y31 = ⟨#[114, 101, 116, 114, 121]⟩))
 (some (.inl (5, 0, 0, ⟨#[]⟩, ⟨#[]⟩, 0, 0, 0, 0, 0, 0, 0, [])))
 ((getI y1 0).bind fun y32 =>
 cond (decide (y32 = ⟨#[114, 101, 102, 117, 110, 100]⟩))
 (some (.inl (6, 0, 0, ⟨#[]⟩, ⟨#[]⟩, 0, 0, z4, 0, 0, 0, 0, [])))
 (some (.inl (0, 0, 0, ⟨#[]⟩, ⟨#[]⟩, 0, 0, 0, 0, 0, 0, 0, [])))))))
 ((getI y1 0).bind fun y33 =>
 cond (decide (y33 = ⟨#[115, 104, 117, 116]⟩))
 (cond (decide ((y1.length : Int) = 2))
 ((getI y1 1).bind fun y34 =>
 (m_spec_l12Trip y34).bind fun y35 =>
 some (.inl (4, 0, 0, ⟨#[]⟩, ⟨#[]⟩, 0, 0, 0, 0, 0, y35.leg, y35.day, [])))
 ((getI y1 0).bind fun y36 =>
 cond (decide (y36 = ⟨#[114, 101, 116, 114, 121]⟩))
 (some (.inl (5, 0, 0, ⟨#[]⟩, ⟨#[]⟩, 0, 0, 0, 0, 0, 0, 0, [])))
 ((getI y1 0).bind fun y37 =>
 cond (decide (y37 = ⟨#[114, 101, 102, 117, 110, 100]⟩))
 (some (.inl (6, 0, 0, ⟨#[]⟩, ⟨#[]⟩, 0, 0, z4, 0, 0, 0, 0, [])))
 (some (.inl (0, 0, 0, ⟨#[]⟩, ⟨#[]⟩, 0, 0, 0, 0, 0, 0, 0, []))))))
 ((getI y1 0).bind fun y38 =>
 cond (decide (y38 = ⟨#[114, 101, 116, 114, 121]⟩))
 (some (.inl (5, 0, 0, ⟨#[]⟩, ⟨#[]⟩, 0, 0, 0, 0, 0, 0, 0, [])))
 ((getI y1 0).bind fun y39 =>
 cond (decide (y39 = ⟨#[114, 101, 102, 117, 110, 100]⟩))
 (some (.inl (6, 0, 0, ⟨#[]⟩, ⟨#[]⟩, 0, 0, z4, 0, 0, 0, 0, [])))
 (some (.inl (0, 0, 0, ⟨#[]⟩, ⟨#[]⟩, 0, 0, 0, 0, 0, 0, 0, [])))))))))
 ((getI y1 0).bind fun y40 =>
 cond (decide (y40 = ⟨#[112, 97, 121]⟩))
 (cond (decide ((y1.length : Int) = 3))
 ((getI y1 2).bind fun y41 =>
 (m_spec_ParseInt y41).bind fun y42 =>
 some (.inl (2, 0, 0, ⟨#[]⟩, ⟨#[]⟩, 0, 0, z4, y42.1, 0, 0, 0, [])))
 ((getI y1 0).bind fun y43 =>
 cond (decide (y43 = ⟨#[114, 117, 110]⟩))
 (cond (decide ((y1.length : Int) = 2))
 (some (.inl (3, 0, 0, ⟨#[]⟩, ⟨#[]⟩, 0, 0, 0, 0, z4, 0, 0, [])))
 ((getI y1 0).bind fun y44 =>
 cond (decide (y44 = ⟨#[115, 104, 117, 116]⟩))
 (cond (decide ((y1.length : Int) = 2))
 ((getI y1 1).bind fun y45 =>
 (m_spec_l12Trip y45).bind fun y46 =>
 some (.inl (4, 0, 0, ⟨#[]⟩, ⟨#[]⟩, 0, 0, 0, 0, 0, y46.leg, y46.day, [])))
 ((getI y1 0).bind fun y47 =>
 cond (decide (y47 = ⟨#[114, 101, 116, 114, 121]⟩))
 (some (.inl (5, 0, 0, ⟨#[]⟩, ⟨#[]⟩, 0, 0, 0, 0, 0, 0, 0, [])))
 ((getI y1 0).bind fun y48 =>
 cond (decide (y48 = ⟨#[114, 101, 102, 117, 110, 100]⟩))
 (some (.inl (6, 0, 0, ⟨#[]⟩, ⟨#[]⟩, 0, 0, z4, 0, 0, 0, 0, [])))
 (some (.inl (0, 0, 0, ⟨#[]⟩, ⟨#[]⟩, 0, 0, 0, 0, 0, 0, 0, []))))))
 ((getI y1 0).bind fun y49 =>
 cond (decide (y49 = ⟨#[114, 101, 116, 114, 121]⟩))
 (some (.inl (5, 0, 0, ⟨#[]⟩, ⟨#[]⟩, 0, 0, 0, 0, 0, 0, 0, [])))
 ((getI y1 0).bind fun y50 =>
 cond (decide (y50 = ⟨#[114, 101, 102, 117, 110, 100]⟩))
 (some (.inl (6, 0, 0, ⟨#[]⟩, ⟨#[]⟩, 0, 0, z4, 0, 0, 0, 0, [])))
 (some (.inl (0, 0, 0, ⟨#[]⟩, ⟨#[]⟩, 0, 0, 0, 0, 0, 0, 0, [])))))))
 ((getI y1 0).bind fun y51 =>
 cond (decide (y51 = ⟨#[115, 104, 117, 116]⟩))
 (cond (decide ((y1.length : Int) = 2))
 ((getI y1 1).bind fun y52 =>
 (m_spec_l12Trip y52).bind fun y53 =>
 some (.inl (4, 0, 0, ⟨#[]⟩, ⟨#[]⟩, 0, 0, 0, 0, 0, y53.leg, y53.day, [])))
 ((getI y1 0).bind fun y54 =>
 cond (decide (y54 = ⟨#[114, 101, 116, 114, 121]⟩))
 (some (.inl (5, 0, 0, ⟨#[]⟩, ⟨#[]⟩, 0, 0, 0, 0, 0, 0, 0, [])))
 ((getI y1 0).bind fun y55 =>
 cond (decide (y55 = ⟨#[114, 101, 102, 117, 110, 100]⟩))
 (some (.inl (6, 0, 0, ⟨#[]⟩, ⟨#[]⟩, 0, 0, z4, 0, 0, 0, 0, [])))
 (some (.inl (0, 0, 0, ⟨#[]⟩, ⟨#[]⟩, 0, 0, 0, 0, 0, 0, 0, []))))))
 ((getI y1 0).bind fun y56 =>
 cond (decide (y56 = ⟨#[114, 101, 116, 114, 121]⟩))
 (some (.inl (5, 0, 0, ⟨#[]⟩, ⟨#[]⟩, 0, 0, 0, 0, 0, 0, 0, [])))
 ((getI y1 0).bind fun y57 =>
 cond (decide (y57 = ⟨#[114, 101, 102, 117, 110, 100]⟩))
 (some (.inl (6, 0, 0, ⟨#[]⟩, ⟨#[]⟩, 0, 0, z4, 0, 0, 0, 0, [])))
 (some (.inl (0, 0, 0, ⟨#[]⟩, ⟨#[]⟩, 0, 0, 0, 0, 0, 0, 0, []))))))))
 ((getI y1 0).bind fun y58 =>
 cond (decide (y58 = ⟨#[114, 117, 110]⟩))
 (cond (decide ((y1.length : Int) = 2))
 (some (.inl (3, 0, 0, ⟨#[]⟩, ⟨#[]⟩, 0, 0, 0, 0, z4, 0, 0, [])))
 ((getI y1 0).bind fun y59 =>
 cond (decide (y59 = ⟨#[115, 104, 117, 116]⟩))
 (cond (decide ((y1.length : Int) = 2))
 ((getI y1 1).bind fun y60 =>
 (m_spec_l12Trip y60).bind fun y61 =>
 some (.inl (4, 0, 0, ⟨#[]⟩, ⟨#[]⟩, 0, 0, 0, 0, 0, y61.leg, y61.day, [])))
 ((getI y1 0).bind fun y62 =>
 cond (decide (y62 = ⟨#[114, 101, 116, 114, 121]⟩))
 (some (.inl (5, 0, 0, ⟨#[]⟩, ⟨#[]⟩, 0, 0, 0, 0, 0, 0, 0, [])))
 ((getI y1 0).bind fun y63 =>
 cond (decide (y63 = ⟨#[114, 101, 102, 117, 110, 100]⟩))
 (some (.inl (6, 0, 0, ⟨#[]⟩, ⟨#[]⟩, 0, 0, z4, 0, 0, 0, 0, [])))
 (some (.inl (0, 0, 0, ⟨#[]⟩, ⟨#[]⟩, 0, 0, 0, 0, 0, 0, 0, []))))))
 ((getI y1 0).bind fun y64 =>
 cond (decide (y64 = ⟨#[114, 101, 116, 114, 121]⟩))
 (some (.inl (5, 0, 0, ⟨#[]⟩, ⟨#[]⟩, 0, 0, 0, 0, 0, 0, 0, [])))
 ((getI y1 0).bind fun y65 =>
 cond (decide (y65 = ⟨#[114, 101, 102, 117, 110, 100]⟩))
 (some (.inl (6, 0, 0, ⟨#[]⟩, ⟨#[]⟩, 0, 0, z4, 0, 0, 0, 0, [])))
 (some (.inl (0, 0, 0, ⟨#[]⟩, ⟨#[]⟩, 0, 0, 0, 0, 0, 0, 0, [])))))))
 ((getI y1 0).bind fun y66 =>
 cond (decide (y66 = ⟨#[115, 104, 117, 116]⟩))
 (cond (decide ((y1.length : Int) = 2))
 ((getI y1 1).bind fun y67 =>
 (m_spec_l12Trip y67).bind fun y68 =>
 some (.inl (4, 0, 0, ⟨#[]⟩, ⟨#[]⟩, 0, 0, 0, 0, 0, y68.leg, y68.day, [])))
 ((getI y1 0).bind fun y69 =>
 cond (decide (y69 = ⟨#[114, 101, 116, 114, 121]⟩))
 (some (.inl (5, 0, 0, ⟨#[]⟩, ⟨#[]⟩, 0, 0, 0, 0, 0, 0, 0, [])))
 ((getI y1 0).bind fun y70 =>
 cond (decide (y70 = ⟨#[114, 101, 102, 117, 110, 100]⟩))
 (some (.inl (6, 0, 0, ⟨#[]⟩, ⟨#[]⟩, 0, 0, z4, 0, 0, 0, 0, [])))
 (some (.inl (0, 0, 0, ⟨#[]⟩, ⟨#[]⟩, 0, 0, 0, 0, 0, 0, 0, []))))))
 ((getI y1 0).bind fun y71 =>
 cond (decide (y71 = ⟨#[114, 101, 116, 114, 121]⟩))
 (some (.inl (5, 0, 0, ⟨#[]⟩, ⟨#[]⟩, 0, 0, 0, 0, 0, 0, 0, [])))
 ((getI y1 0).bind fun y72 =>
 cond (decide (y72 = ⟨#[114, 101, 102, 117, 110, 100]⟩))
 (some (.inl (6, 0, 0, ⟨#[]⟩, ⟨#[]⟩, 0, 0, z4, 0, 0, 0, 0, [])))
 (some (.inl (0, 0, 0, ⟨#[]⟩, ⟨#[]⟩, 0, 0, 0, 0, 0, 0, 0, [])))))))) : Option ((Int × Int × Int × ByteArray × ByteArray × Int × Int × Int × Int × Int × Int × Int × (List Int)) ⊕ Empty)) (fun z73 => (vs s :: .un :: .be 0 0 0 :: .un :: .un :: .be 1 0 0 :: (U 110 []))) (fun z73 => [some ⟨.of 30, 13, [[vi 0, vi 0, vi 0, vs (⟨#[]⟩), vs (⟨#[]⟩), vi 0, .v (.slice none 0 0), vi 0, vi 0, vi 0, vi 0, vi 0, vi 0]]⟩, some ⟨.of 30, 13, [[vi z73.1, vi z73.2.1, vi z73.2.2.1, vs z73.2.2.2.1, vs z73.2.2.2.2.1, vi z73.2.2.2.2.2.1, .ms 2, vi z73.2.2.2.2.2.2.1, vi z73.2.2.2.2.2.2.2.1, vi z73.2.2.2.2.2.2.2.2.1, vi z73.2.2.2.2.2.2.2.2.2.1, vi z73.2.2.2.2.2.2.2.2.2.2.1, vi z73.2.2.2.2.2.2.2.2.2.2.2.1]]⟩, some ⟨.of 3, 1, z73.2.2.2.2.2.2.2.2.2.2.2.2.map cInt⟩])).bind (selim (fun z73 =>
 (m_spec_IsAct (⟨z73.1, (⟨(⟨z73.2.1, z73.2.2.1, z73.2.2.2.1⟩ : YLabel), z73.2.2.2.2.1, z73.2.2.2.2.2.1, z73.2.2.2.2.2.2.2.2.2.2.2.2, z73.2.2.2.2.2.2.1⟩ : YParcel), z73.2.2.2.2.2.2.2.1, z73.2.2.2.2.2.2.2.2.1, z73.2.2.2.2.2.2.2.2.2.1, (⟨z73.2.2.2.2.2.2.2.2.2.2.1, z73.2.2.2.2.2.2.2.2.2.2.2.1⟩ : YTrip)⟩ : YAct)).bind fun y74 =>
 cond (!y74)
 (some ((⟨0, (⟨(⟨0, 0, ⟨#[]⟩⟩ : YLabel), ⟨#[]⟩, 0, [], 0⟩ : YParcel), 0, 0, 0, (⟨0, 0⟩ : YTrip)⟩ : YAct), false))
 ((m_spec_FormatAct (⟨z73.1, (⟨(⟨z73.2.1, z73.2.2.1, z73.2.2.2.1⟩ : YLabel), z73.2.2.2.2.1, z73.2.2.2.2.2.1, z73.2.2.2.2.2.2.2.2.2.2.2.2, z73.2.2.2.2.2.2.1⟩ : YParcel), z73.2.2.2.2.2.2.2.1, z73.2.2.2.2.2.2.2.2.1, z73.2.2.2.2.2.2.2.2.2.1, (⟨z73.2.2.2.2.2.2.2.2.2.2.1, z73.2.2.2.2.2.2.2.2.2.2.2.1⟩ : YTrip)⟩ : YAct)).bind fun y75 =>
 cond (!decide (y75 = s))
 (some ((⟨0, (⟨(⟨0, 0, ⟨#[]⟩⟩ : YLabel), ⟨#[]⟩, 0, [], 0⟩ : YParcel), 0, 0, 0, (⟨0, 0⟩ : YTrip)⟩ : YAct), false))
 (some ((⟨z73.1, (⟨(⟨z73.2.1, z73.2.2.1, z73.2.2.2.1⟩ : YLabel), z73.2.2.2.2.1, z73.2.2.2.2.2.1, z73.2.2.2.2.2.2.2.2.2.2.2.2, z73.2.2.2.2.2.2.1⟩ : YParcel), z73.2.2.2.2.2.2.2.1, z73.2.2.2.2.2.2.2.2.1, z73.2.2.2.2.2.2.2.2.2.1, (⟨z73.2.2.2.2.2.2.2.2.2.2.1, z73.2.2.2.2.2.2.2.2.2.2.2.1⟩ : YTrip)⟩ : YAct), true)))) (fun r => nomatch r))) (fun r => nomatch r))
instance (s : ByteArray) : CT Tryz.prog (m_o_spec_ParseAct s) := ⟨6, [vs s], [], fun r => .tu [.ag [vi r.1.kind, vi r.1.parcel.label.service, vi r.1.parcel.label.serial, vs r.1.parcel.label.to_, vs r.1.parcel.from_, vi r.1.parcel.weight, .ms 0, vi r.1.parcel.value, vi r.1.order, vi r.1.amount, vi r.1.until_, vi r.1.trip.leg, vi r.1.trip.day], vb r.2], fun r => [some ⟨.of 3, 1, r.1.parcel.sides.map cInt⟩], fun H => by replace H := H0 H; unfold m_o_spec_ParseAct at H; exact callM_of Tryz.func6 rfl Tryz.ntmps6 Tryz.results6 fun Q hQ hQn => wk3⟩
def m_impl_readTrip (s : ByteArray) : Option (YTrip × Bool) :=
 (m_strings_Cut s (⟨#[47]⟩)).bind fun y1 =>
 (m_impl_ParseInt y1.1).bind fun y2 =>
 (m_impl_ParseInt y1.2.1).bind fun y3 =>
 cond y1.2.2
 (cond y2.2
 (some ((⟨y2.1, y3.1⟩ : YTrip), y3.2))
 (some ((⟨y2.1, y3.1⟩ : YTrip), false)))
 (some ((⟨y2.1, y3.1⟩ : YTrip), false))
instance (s : ByteArray) : CT Tryz.prog (m_impl_readTrip s) := ⟨29, [vs s], [], fun r => .tu [.ag [vi r.1.leg, vi r.1.day], vb r.2], fun r => [], fun H => by replace H := H0 H; unfold m_impl_readTrip at H; exact callM_of Tryz.func29 rfl Tryz.ntmps29 Tryz.results29 fun Q hQ hQn => wk3⟩
def m_o_impl_ParseAct (s : ByteArray) : Option (YAct × Bool) :=
 (m_strings_Cut s (⟨#[32]⟩)).bind fun y1 =>
 (jn 3 23 (
 cond (decide (y1.1 = ⟨#[116, 97, 107, 101]⟩))
 ((m_o_impl_ParseParcel y1.2.1).bind fun y2 =>
 some (.inl (1, y2.1.label.service, y2.1.label.serial, y2.1.label.to_, y2.1.from_, y2.1.weight, y2.1.value, 0, 0, 0, 0, 0, y2.1.sides)))
 (cond (decide (y1.1 = ⟨#[112, 97, 121]⟩))
 ((m_strings_Cut y1.2.1 (⟨#[32]⟩)).bind fun y3 =>
 (m_impl_ParseInt y3.1).bind fun y4 =>
 (m_impl_ParseInt y3.2.1).bind fun y5 =>
 some (.inl (2, 0, 0, ⟨#[]⟩, ⟨#[]⟩, 0, 0, y4.1, y5.1, 0, 0, 0, [])))
 (cond (decide (y1.1 = ⟨#[114, 117, 110]⟩))
 ((m_impl_ParseInt y1.2.1).bind fun y6 =>
 some (.inl (3, 0, 0, ⟨#[]⟩, ⟨#[]⟩, 0, 0, 0, 0, y6.1, 0, 0, [])))
 (cond (decide (y1.1 = ⟨#[115, 104, 117, 116]⟩))
 ((m_impl_readTrip y1.2.1).bind fun y7 =>
 some (.inl (4, 0, 0, ⟨#[]⟩, ⟨#[]⟩, 0, 0, 0, 0, 0, y7.1.leg, y7.1.day, [])))
 (cond (decide (y1.1 = ⟨#[114, 101, 116, 114, 121]⟩))
 (some (.inl (5, 0, 0, ⟨#[]⟩, ⟨#[]⟩, 0, 0, 0, 0, 0, 0, 0, [])))
 (cond (decide (y1.1 = ⟨#[114, 101, 102, 117, 110, 100]⟩))
 ((m_impl_ParseInt y1.2.1).bind fun y8 =>
 some (.inl (6, 0, 0, ⟨#[]⟩, ⟨#[]⟩, 0, 0, y8.1, 0, 0, 0, 0, [])))
 (some (.inl (0, 0, 0, ⟨#[]⟩, ⟨#[]⟩, 0, 0, 0, 0, 0, 0, 0, [])))))))) : Option ((Int × Int × Int × ByteArray × ByteArray × Int × Int × Int × Int × Int × Int × Int × (List Int)) ⊕ Empty)) (fun z9 => (vs s :: .un :: .be 0 0 0 :: (U 4 (.be 1 0 0 :: (U 81 []))))) (fun z9 => [some ⟨.of 30, 13, [[vi 0, vi 0, vi 0, vs (⟨#[]⟩), vs (⟨#[]⟩), vi 0, .v (.slice none 0 0), vi 0, vi 0, vi 0, vi 0, vi 0, vi 0]]⟩, some ⟨.of 30, 13, [[vi z9.1, vi z9.2.1, vi z9.2.2.1, vs z9.2.2.2.1, vs z9.2.2.2.2.1, vi z9.2.2.2.2.2.1, .ms 2, vi z9.2.2.2.2.2.2.1, vi z9.2.2.2.2.2.2.2.1, vi z9.2.2.2.2.2.2.2.2.1, vi z9.2.2.2.2.2.2.2.2.2.1, vi z9.2.2.2.2.2.2.2.2.2.2.1, vi z9.2.2.2.2.2.2.2.2.2.2.2.1]]⟩, some ⟨.of 3, 1, z9.2.2.2.2.2.2.2.2.2.2.2.2.map cInt⟩])).bind (selim (fun z9 =>
 cond (decide (s = ⟨#[]⟩))
 (some ((⟨0, (⟨(⟨0, 0, ⟨#[]⟩⟩ : YLabel), ⟨#[]⟩, 0, [], 0⟩ : YParcel), 0, 0, 0, (⟨0, 0⟩ : YTrip)⟩ : YAct), false))
 ((m_impl_FormatAct (⟨z9.1, (⟨(⟨z9.2.1, z9.2.2.1, z9.2.2.2.1⟩ : YLabel), z9.2.2.2.2.1, z9.2.2.2.2.2.1, z9.2.2.2.2.2.2.2.2.2.2.2.2, z9.2.2.2.2.2.2.1⟩ : YParcel), z9.2.2.2.2.2.2.2.1, z9.2.2.2.2.2.2.2.2.1, z9.2.2.2.2.2.2.2.2.2.1, (⟨z9.2.2.2.2.2.2.2.2.2.2.1, z9.2.2.2.2.2.2.2.2.2.2.2.1⟩ : YTrip)⟩ : YAct)).bind fun y10 =>
 cond (!decide (y10 = s))
 (some ((⟨0, (⟨(⟨0, 0, ⟨#[]⟩⟩ : YLabel), ⟨#[]⟩, 0, [], 0⟩ : YParcel), 0, 0, 0, (⟨0, 0⟩ : YTrip)⟩ : YAct), false))
 (some ((⟨z9.1, (⟨(⟨z9.2.1, z9.2.2.1, z9.2.2.2.1⟩ : YLabel), z9.2.2.2.2.1, z9.2.2.2.2.2.1, z9.2.2.2.2.2.2.2.2.2.2.2.2, z9.2.2.2.2.2.2.1⟩ : YParcel), z9.2.2.2.2.2.2.2.1, z9.2.2.2.2.2.2.2.2.1, z9.2.2.2.2.2.2.2.2.2.1, (⟨z9.2.2.2.2.2.2.2.2.2.2.1, z9.2.2.2.2.2.2.2.2.2.2.2.1⟩ : YTrip)⟩ : YAct), true)))) (fun r => nomatch r))
instance (s : ByteArray) : CT Tryz.prog (m_o_impl_ParseAct s) := ⟨7, [vs s], [], fun r => .tu [.ag [vi r.1.kind, vi r.1.parcel.label.service, vi r.1.parcel.label.serial, vs r.1.parcel.label.to_, vs r.1.parcel.from_, vi r.1.parcel.weight, .ms 0, vi r.1.parcel.value, vi r.1.order, vi r.1.amount, vi r.1.until_, vi r.1.trip.leg, vi r.1.trip.day], vb r.2], fun r => [some ⟨.of 3, 1, r.1.parcel.sides.map cInt⟩], fun H => by replace H := H0 H; unfold m_o_impl_ParseAct at H; exact callM_of Tryz.func7 rfl Tryz.ntmps7 Tryz.results7 fun Q hQ hQn => wk3⟩
end Go.Proofs.YtkfbakhnpfmfmaaGreatDoor
namespace Go.Proofs.YtkfbakhnpfmfmaaGreatDoor
set_option maxRecDepth 10000
open Go.RowKit Go.Sort
set_option linter.unusedVariables false
set_option linter.unusedSimpArgs false
set_option maxHeartbeats 4000000
abbrev zP : YParcel := ⟨⟨0, 0, ⟨#[]⟩⟩, ⟨#[]⟩, 0, [], 0⟩
abbrev zA : YAct := ⟨0, zP, 0, 0, 0, ⟨0, 0⟩⟩
inductive ActF : YAct → Prop
  | take (p : YParcel) (n : Int) (h : PGood p n) : ActF ⟨1, p, 0, 0, 0, ⟨0, 0⟩⟩
  | pay (o m : Int) (h : 1 ≤ o ∧ o ≤ 9999) (h2 : 1 ≤ m ∧ m ≤ 100000) : ActF ⟨2, zP, o, m, 0, ⟨0, 0⟩⟩
  | run (u : Int) (h : 0 ≤ u ∧ u ≤ 100000) : ActF ⟨3, zP, 0, 0, u, ⟨0, 0⟩⟩
  | shut (l d : Int) (h : 0 ≤ l ∧ l ≤ 19) (h2 : 0 ≤ d ∧ d ≤ 60) : ActF ⟨4, zP, 0, 0, 0, ⟨l, d⟩⟩
  | retry : ActF ⟨5, zP, 0, 0, 0, ⟨0, 0⟩⟩
  | refund (o : Int) (h : 1 ≤ o ∧ o ≤ 9999) : ActF ⟨6, zP, o, 0, 0, ⟨0, 0⟩⟩
theorem act_inv {a : YAct} (h1 : a.parcel.label.to_.size ≤ B60) (h2 : a.parcel.from_.size ≤ B60) (h3 : a.parcel.sides.length < NN) (h : m_impl_IsAct a = some true) : ActF a := by
  obtain ⟨e1, b1, hb1⟩ := parcel_eq h1 h2 h3
  obtain ⟨k, p, o, m, u, t⟩ := a
  obtain ⟨lg, d⟩ := t
  obtain ⟨lb, fr, w, sd, v⟩ := p
  simp only at h1 h2 h3 e1 hb1
  have sv := fun b => sameActs_v (a := ⟨k, ⟨lb, fr, w, sd, v⟩, o, m, u, ⟨lg, d⟩⟩) (b := b) h3
  unfold m_impl_IsAct at h
  simp only [jn_eq, within_eq, e1, hb1, l1In_v, Option.bind_some] at h
  by_cases k1 : k = 1
  · subst k1
    simp only [decide_true, cond_true, Option.bind_some, selim, sv] at h
    cases b1 with
    | false => cases h
    | true =>
      simp at h
      obtain ⟨rfl, rfl, rfl, rfl, rfl⟩ := h
      obtain ⟨n, hn⟩ := parcel_txt h1 h2 h3 hb1
      exact .take _ n hn
  by_cases k2 : k = 2
  · subst k2
    simp only [Int.reduceEq, decide_true, decide_false, cond_true, cond_false, Option.bind_some, selim, sv, bndc] at h
    cases ha : (decide (1 ≤ o) && decide (o ≤ 9999)) <;> rw [ha] at h
    · cases h
    cases hb : (decide (1 ≤ m) && decide (m ≤ 100000)) <;> rw [hb] at h
    · cases h
    simp at h ha hb
    obtain ⟨⟨rfl, rfl, rfl, rfl, rfl⟩, rfl, rfl, rfl⟩ := h
    exact .pay o m ha hb
  by_cases k3 : k = 3
  · subst k3
    simp only [Int.reduceEq, decide_true, decide_false, cond_true, cond_false, Option.bind_some, selim, sv, bndc] at h
    cases ha : (decide (0 ≤ u) && decide (u ≤ 100000)) <;> rw [ha] at h
    · cases h
    simp at h ha
    obtain ⟨⟨rfl, rfl, rfl, rfl, rfl⟩, rfl, rfl, rfl, rfl⟩ := h
    exact .run u ha
  by_cases k4 : k = 4
  · subst k4
    simp only [Int.reduceEq, decide_true, decide_false, cond_true, cond_false, Option.bind_some, selim, sv, bndc] at h
    cases ha : (decide (0 ≤ lg) && decide (lg ≤ 19)) <;> rw [ha] at h
    · cases h
    cases hb : (decide (0 ≤ d) && decide (d ≤ 60)) <;> rw [hb] at h
    · cases h
    simp at h ha hb
    obtain ⟨⟨rfl, rfl, rfl, rfl, rfl⟩, rfl, rfl, rfl⟩ := h
    exact .shut lg d ha hb
  by_cases k5 : k = 5
  · subst k5
    simp only [Int.reduceEq, decide_true, decide_false, cond_true, cond_false, Option.bind_some, selim, sv, bndc] at h
    simp at h
    obtain ⟨⟨rfl, rfl, rfl, rfl, rfl⟩, rfl, rfl, rfl, rfl, rfl⟩ := h
    exact .retry
  by_cases k6 : k = 6
  · subst k6
    simp only [Int.reduceEq, decide_true, decide_false, cond_true, cond_false, Option.bind_some, selim, sv, bndc] at h
    cases ha : (decide (1 ≤ o) && decide (o ≤ 9999)) <;> rw [ha] at h
    · cases h
    simp at h ha
    obtain ⟨⟨rfl, rfl, rfl, rfl, rfl⟩, rfl, rfl, rfl, rfl⟩ := h
    exact .refund o ha
  simp only [decide_eq_false k1, decide_eq_false k2, decide_eq_false k3, decide_eq_false k4, decide_eq_false k5, decide_eq_false k6, cond_false, Option.bind_some, selim] at h
  cases h
theorem dtx (a b : List UInt8) : decide (txt a = (⟨b.toArray⟩ : ByteArray)) = decide (a = b) := by
  rw [decide_eq_decide]
  exact ⟨fun h => by have := congrArg (fun x : ByteArray => x.data.toList) h; simpa [txt] using this, fun h => by rw [h]; rfl⟩
structure RT (a : YAct) (s : ByteArray) : Prop where
  fi : m_impl_FormatAct a = some s
  fs : m_spec_FormatAct a = some s
  ne : decide (s = ⟨#[]⟩) = false
  pi : m_o_impl_ParseAct s = some (a, true)
  ps : m_o_spec_ParseAct s = some (a, true)
theorem rt_retry (hi : m_impl_IsAct ⟨5, zP, 0, 0, 0, ⟨0, 0⟩⟩ = some true) (hs : m_spec_IsAct ⟨5, zP, 0, 0, 0, ⟨0, 0⟩⟩ = some true) : ∃ s, RT ⟨5, zP, 0, 0, 0, ⟨0, 0⟩⟩ s := by
  have f1 : m_impl_FormatAct ⟨5, zP, 0, 0, 0, ⟨0, 0⟩⟩ = some (txt [114, 101, 116, 114, 121]) := by
    unfold m_impl_FormatAct
    rw [hi]; rfl
  have f2 : m_spec_FormatAct ⟨5, zP, 0, 0, 0, ⟨0, 0⟩⟩ = some (txt [114, 101, 116, 114, 121]) := by
    unfold m_spec_FormatAct
    rw [hs]; rfl
  have ne : decide (txt [114, 101, 116, 114, 121] = ⟨#[]⟩) = false := by rw [dtx]; rfl
  refine ⟨txt [114, 101, 116, 114, 121], f1, f2, ne, ?_, ?_⟩
  · have e1 := cut_not (c := 32) (a := [114, 101, 116, 114, 121]) (by decide) (by decide)
    unfold m_o_impl_ParseAct
    rw [show (⟨#[32]⟩ : ByteArray) = txt [32] from rfl, e1]
    simp only [jn_eq, Option.bind_some, dtx, selim, ne]
    simp [f1, selim]
  · have e1 : m_spec_l2Split (txt [114, 101, 116, 114, 121]) 32 = _ := l2Split_eq (c := 32) (L := [114, 101, 116, 114, 121]) (by decide)
    rw [splitL_none (by decide)] at e1
    unfold m_o_spec_ParseAct
    rw [e1]
    simp only [jn_eq, Option.bind_some, List.map_cons, List.map_nil, show ∀ a : ByteArray, getI [a] 0 = some a from fun _ => rfl, dtx]
    simp [f2, hs, selim, dtx]
theorem rt_pay {o m : Int} (h : 1 ≤ o ∧ o ≤ 9999) (h2 : 1 ≤ m ∧ m ≤ 100000) (hi : m_impl_IsAct ⟨2, zP, o, m, 0, ⟨0, 0⟩⟩ = some true) (hs : m_spec_IsAct ⟨2, zP, o, m, 0, ⟨0, 0⟩⟩ = some true) : ∃ s, RT ⟨2, zP, o, m, 0, ⟨0, 0⟩⟩ s := by
  have et : ∀ l : List UInt8, (⟨l.toArray⟩ : ByteArray) = txt l := fun _ => rfl
  have l0 := itoa_len (n := o) (small64 (by omega))
  have l1 := itoa_len (n := m) (small64 (by omega))
  have f1 : m_impl_FormatAct ⟨2, zP, o, m, 0, ⟨0, 0⟩⟩ = some (txt ([112, 97, 121] ++ 32 :: (Lib.itoa o ++ 32 :: Lib.itoa m))) := by
    unfold m_impl_FormatAct
    simp only [hi, Option.bind_some, Bool.not_true, cond_false, Int.reduceEq, decide_true, decide_false, cond_true, et, txt_app, fI (n := o) (small64 (by omega)), fI (n := m) (small64 (by omega))]
    repeat rw [bOk (by simp only [txt_size, List.length_append, List.length_cons, List.length_nil]; omega), Option.bind_some]
    simp
  have f2 : m_spec_FormatAct ⟨2, zP, o, m, 0, ⟨0, 0⟩⟩ = some (txt ([112, 97, 121] ++ 32 :: (Lib.itoa o ++ 32 :: Lib.itoa m))) := by
    unfold m_spec_FormatAct
    simp only [hs, Option.bind_some, Bool.not_true, cond_false, Int.reduceEq, decide_true, decide_false, cond_true, et, txt_app, fS (n := o) (small64 (by omega)), fS (n := m) (small64 (by omega))]
    repeat rw [bOk (by simp only [txt_size, List.length_append, List.length_cons, List.length_nil]; omega), Option.bind_some]
    simp
  have ne : decide (txt ([112, 97, 121] ++ 32 :: (Lib.itoa o ++ 32 :: Lib.itoa m)) = ⟨#[]⟩) = false := by rw [dtx]; exact decide_eq_false (by simp)
  refine ⟨txt ([112, 97, 121] ++ 32 :: (Lib.itoa o ++ 32 :: Lib.itoa m)), f1, f2, ne, ?_, ?_⟩
  · have e1 := cut_at (c := 32) (a := [112, 97, 121]) (b := (Lib.itoa o ++ 32 :: Lib.itoa m)) (by decide) (by simp; omega)
    unfold m_o_impl_ParseAct
    rw [show (⟨#[32]⟩ : ByteArray) = txt [32] from rfl, e1]
    simp only [jn_eq, Option.bind_some, dtx]
    rw [cut_at (c := 32) (a := Lib.itoa o) (b := Lib.itoa m) (itoa_no (n := o) (by omega) (c := 32) (by decide)) (by omega)]
    simp only [Option.bind_some, iint_at (n := o) ⟨by omega, by omega⟩, iint_at (n := m) ⟨by omega, by omega⟩, selim, ne]
    simp [f1, selim]
  · have e1 : m_spec_l2Split (txt ([112, 97, 121] ++ 32 :: (Lib.itoa o ++ 32 :: Lib.itoa m))) 32 = _ := l2Split_eq (c := 32) (L := [112, 97, 121] ++ 32 :: (Lib.itoa o ++ 32 :: Lib.itoa m)) (by simp; omega)
    rw [splitL_app (by decide), splitL_app (itoa_no (n := o) (by omega) (c := 32) (by decide)), splitL_none (itoa_no (n := m) (by omega) (by decide))] at e1
    unfold m_o_spec_ParseAct
    rw [e1]
    simp only [jn_eq, Option.bind_some, List.map_cons, List.map_nil, show ∀ a b c : ByteArray, getI [a, b, c] 0 = some a from fun _ _ _ => rfl, show ∀ a b c : ByteArray, getI [a, b, c] 1 = some b from fun _ _ _ => rfl, show ∀ a b c : ByteArray, getI [a, b, c] 2 = some c from fun _ _ _ => rfl, dtx]
    simp [pint_itoa (n := o) (by omega) (by omega), pint_itoa (n := m) (by omega) (by omega), f2, hs, selim, dtx]
theorem rt_run {u : Int} (h : 0 ≤ u ∧ u ≤ 100000) (hi : m_impl_IsAct ⟨3, zP, 0, 0, u, ⟨0, 0⟩⟩ = some true) (hs : m_spec_IsAct ⟨3, zP, 0, 0, u, ⟨0, 0⟩⟩ = some true) : ∃ s, RT ⟨3, zP, 0, 0, u, ⟨0, 0⟩⟩ s := by
  have et : ∀ l : List UInt8, (⟨l.toArray⟩ : ByteArray) = txt l := fun _ => rfl
  have l0 := itoa_len (n := u) (small64 (by omega))
  have f1 : m_impl_FormatAct ⟨3, zP, 0, 0, u, ⟨0, 0⟩⟩ = some (txt ([114, 117, 110] ++ 32 :: Lib.itoa u)) := by
    unfold m_impl_FormatAct
    simp only [hi, Option.bind_some, Bool.not_true, cond_false, Int.reduceEq, decide_true, decide_false, cond_true, et, txt_app, fI (n := u) (small64 (by omega))]
    repeat rw [bOk (by simp only [txt_size, List.length_append, List.length_cons, List.length_nil]; omega), Option.bind_some]
    simp
  have f2 : m_spec_FormatAct ⟨3, zP, 0, 0, u, ⟨0, 0⟩⟩ = some (txt ([114, 117, 110] ++ 32 :: Lib.itoa u)) := by
    unfold m_spec_FormatAct
    simp only [hs, Option.bind_some, Bool.not_true, cond_false, Int.reduceEq, decide_true, decide_false, cond_true, et, txt_app, fS (n := u) (small64 (by omega))]
    repeat rw [bOk (by simp only [txt_size, List.length_append, List.length_cons, List.length_nil]; omega), Option.bind_some]
    simp
  have ne : decide (txt ([114, 117, 110] ++ 32 :: Lib.itoa u) = ⟨#[]⟩) = false := by rw [dtx]; exact decide_eq_false (by simp)
  refine ⟨txt ([114, 117, 110] ++ 32 :: Lib.itoa u), f1, f2, ne, ?_, ?_⟩
  · have e1 := cut_at (c := 32) (a := [114, 117, 110]) (b := Lib.itoa u) (by decide) (by simp; omega)
    unfold m_o_impl_ParseAct
    rw [show (⟨#[32]⟩ : ByteArray) = txt [32] from rfl, e1]
    simp only [jn_eq, Option.bind_some, dtx]
    simp only [Option.bind_some, iint_at (n := u) ⟨by omega, by omega⟩, selim, ne]
    simp [f1, selim]
  · have e1 : m_spec_l2Split (txt ([114, 117, 110] ++ 32 :: Lib.itoa u)) 32 = _ := l2Split_eq (c := 32) (L := [114, 117, 110] ++ 32 :: Lib.itoa u) (by simp; omega)
    rw [splitL_app (by decide), splitL_none (itoa_no (n := u) (by omega) (by decide))] at e1
    unfold m_o_spec_ParseAct
    rw [e1]
    simp only [jn_eq, Option.bind_some, List.map_cons, List.map_nil, show ∀ a b : ByteArray, getI [a, b] 0 = some a from fun _ _ => rfl, show ∀ a b : ByteArray, getI [a, b] 1 = some b from fun _ _ => rfl, dtx]
    simp [pint_itoa (n := u) (by omega) (by omega), f2, hs, selim, dtx]
theorem rt_refund {o : Int} (h : 1 ≤ o ∧ o ≤ 9999) (hi : m_impl_IsAct ⟨6, zP, o, 0, 0, ⟨0, 0⟩⟩ = some true) (hs : m_spec_IsAct ⟨6, zP, o, 0, 0, ⟨0, 0⟩⟩ = some true) : ∃ s, RT ⟨6, zP, o, 0, 0, ⟨0, 0⟩⟩ s := by
  have et : ∀ l : List UInt8, (⟨l.toArray⟩ : ByteArray) = txt l := fun _ => rfl
  have l0 := itoa_len (n := o) (small64 (by omega))
  have f1 : m_impl_FormatAct ⟨6, zP, o, 0, 0, ⟨0, 0⟩⟩ = some (txt ([114, 101, 102, 117, 110, 100] ++ 32 :: Lib.itoa o)) := by
    unfold m_impl_FormatAct
    simp only [hi, Option.bind_some, Bool.not_true, cond_false, Int.reduceEq, decide_true, decide_false, cond_true, et, txt_app, fI (n := o) (small64 (by omega))]
    repeat rw [bOk (by simp only [txt_size, List.length_append, List.length_cons, List.length_nil]; omega), Option.bind_some]
    simp
  have f2 : m_spec_FormatAct ⟨6, zP, o, 0, 0, ⟨0, 0⟩⟩ = some (txt ([114, 101, 102, 117, 110, 100] ++ 32 :: Lib.itoa o)) := by
    unfold m_spec_FormatAct
    simp only [hs, Option.bind_some, Bool.not_true, cond_false, Int.reduceEq, decide_true, decide_false, cond_true, et, txt_app, fS (n := o) (small64 (by omega))]
    repeat rw [bOk (by simp only [txt_size, List.length_append, List.length_cons, List.length_nil]; omega), Option.bind_some]
    simp
  have ne : decide (txt ([114, 101, 102, 117, 110, 100] ++ 32 :: Lib.itoa o) = ⟨#[]⟩) = false := by rw [dtx]; exact decide_eq_false (by simp)
  refine ⟨txt ([114, 101, 102, 117, 110, 100] ++ 32 :: Lib.itoa o), f1, f2, ne, ?_, ?_⟩
  · have e1 := cut_at (c := 32) (a := [114, 101, 102, 117, 110, 100]) (b := Lib.itoa o) (by decide) (by simp; omega)
    unfold m_o_impl_ParseAct
    rw [show (⟨#[32]⟩ : ByteArray) = txt [32] from rfl, e1]
    simp only [jn_eq, Option.bind_some, dtx]
    simp only [Option.bind_some, iint_at (n := o) ⟨by omega, by omega⟩, selim, ne]
    simp [f1, selim]
  · have e1 : m_spec_l2Split (txt ([114, 101, 102, 117, 110, 100] ++ 32 :: Lib.itoa o)) 32 = _ := l2Split_eq (c := 32) (L := [114, 101, 102, 117, 110, 100] ++ 32 :: Lib.itoa o) (by simp; omega)
    rw [splitL_app (by decide), splitL_none (itoa_no (n := o) (by omega) (by decide))] at e1
    unfold m_o_spec_ParseAct
    rw [e1]
    simp only [jn_eq, Option.bind_some, List.map_cons, List.map_nil, show ∀ a b : ByteArray, getI [a, b] 0 = some a from fun _ _ => rfl, show ∀ a b : ByteArray, getI [a, b] 1 = some b from fun _ _ => rfl, dtx]
    simp [pint_itoa (n := o) (by omega) (by omega), f2, hs, selim, dtx]
theorem rt_shut {l d : Int} (h : 0 ≤ l ∧ l ≤ 19) (h2 : 0 ≤ d ∧ d ≤ 60) (hi : m_impl_IsAct ⟨4, zP, 0, 0, 0, ⟨l, d⟩⟩ = some true) (hs : m_spec_IsAct ⟨4, zP, 0, 0, 0, ⟨l, d⟩⟩ = some true) : ∃ s, RT ⟨4, zP, 0, 0, 0, ⟨l, d⟩⟩ s := by
  have et : ∀ l : List UInt8, (⟨l.toArray⟩ : ByteArray) = txt l := fun _ => rfl
  have l0 := itoa_len (n := l) (small64 (by omega))
  have l1 := itoa_len (n := d) (small64 (by omega))
  have tt : m_impl_tripText ⟨l, d⟩ = some (txt (Lib.itoa l ++ 47 :: Lib.itoa d)) := by
    unfold m_impl_tripText
    simp only [fI (n := l) (small64 (by omega)), fI (n := d) (small64 (by omega)), Option.bind_some, et, txt_app]
    repeat rw [bOk (by simp only [txt_size, List.length_append, List.length_cons, List.length_nil]; omega), Option.bind_some]
    simp
  have hn : (32 : UInt8) ∉ Lib.itoa l ++ 47 :: Lib.itoa d := by
    have a := itoa_no (n := l) (by omega) (c := 32) (by decide)
    have b := itoa_no (n := d) (by omega) (c := 32) (by decide)
    simp [a, b]
  have hq := itoa_no (n := l) (by omega) (c := 47) (by decide)
  have hq2 := itoa_no (n := d) (by omega) (c := 47) (by decide)
  have f1 : m_impl_FormatAct ⟨4, zP, 0, 0, 0, ⟨l, d⟩⟩ = some (txt ([115, 104, 117, 116] ++ 32 :: (Lib.itoa l ++ 47 :: Lib.itoa d))) := by
    unfold m_impl_FormatAct
    simp only [hi, Option.bind_some, Bool.not_true, cond_false, Int.reduceEq, decide_true, decide_false, cond_true, et, txt_app, tt]
    repeat rw [bOk (by simp only [txt_size, List.length_append, List.length_cons, List.length_nil]; omega), Option.bind_some]
    simp
  have f2 : m_spec_FormatAct ⟨4, zP, 0, 0, 0, ⟨l, d⟩⟩ = some (txt ([115, 104, 117, 116] ++ 32 :: (Lib.itoa l ++ 47 :: Lib.itoa d))) := by
    unfold m_spec_FormatAct
    simp only [hs, Option.bind_some, Bool.not_true, cond_false, Int.reduceEq, decide_true, decide_false, cond_true, et, txt_app, fS (n := l) (small64 (by omega)), fS (n := d) (small64 (by omega))]
    repeat rw [bOk (by simp only [txt_size, List.length_append, List.length_cons, List.length_nil]; omega), Option.bind_some]
    simp
  have ne : decide (txt ([115, 104, 117, 116] ++ 32 :: (Lib.itoa l ++ 47 :: Lib.itoa d)) = ⟨#[]⟩) = false := by rw [dtx]; exact decide_eq_false (by simp)
  refine ⟨txt ([115, 104, 117, 116] ++ 32 :: (Lib.itoa l ++ 47 :: Lib.itoa d)), f1, f2, ne, ?_, ?_⟩
  · have e1 := cut_at (c := 32) (a := [115, 104, 117, 116]) (b := (Lib.itoa l ++ 47 :: Lib.itoa d)) (by decide) (by simp; omega)
    unfold m_o_impl_ParseAct
    rw [show (⟨#[32]⟩ : ByteArray) = txt [32] from rfl, e1]
    simp only [jn_eq, Option.bind_some, dtx]
    have rt : m_impl_readTrip (txt (Lib.itoa l ++ 47 :: Lib.itoa d)) = some (⟨l, d⟩, true) := by
      unfold m_impl_readTrip
      rw [show (⟨#[47]⟩ : ByteArray) = txt [47] from rfl, cut_at (c := 47) hq (by omega)]
      simp only [Option.bind_some, iint_at (n := l) ⟨by omega, by omega⟩, iint_at (n := d) ⟨by omega, by omega⟩, cond_true]
    simp only [Option.bind_some, rt, selim, ne]
    simp [f1, selim]
  · have e1 : m_spec_l2Split (txt ([115, 104, 117, 116] ++ 32 :: (Lib.itoa l ++ 47 :: Lib.itoa d))) 32 = _ := l2Split_eq (c := 32) (L := [115, 104, 117, 116] ++ 32 :: (Lib.itoa l ++ 47 :: Lib.itoa d)) (by simp; omega)
    rw [splitL_app (by decide), splitL_none hn] at e1
    unfold m_o_spec_ParseAct
    rw [e1]
    simp only [jn_eq, Option.bind_some, List.map_cons, List.map_nil, show ∀ a b : ByteArray, getI [a, b] 0 = some a from fun _ _ => rfl, show ∀ a b : ByteArray, getI [a, b] 1 = some b from fun _ _ => rfl, dtx]
    obtain ⟨r, hr, _⟩ := pint_tot (s := txt (Lib.itoa l ++ 47 :: Lib.itoa d)) (by rw [txt_size]; simp; omega)
    have rt : m_spec_l12Trip (txt (Lib.itoa l ++ 47 :: Lib.itoa d)) = some ⟨l, d⟩ := by
      have e2 : m_spec_l2Split (txt (Lib.itoa l ++ 47 :: Lib.itoa d)) 47 = _ := l2Split_eq (c := 47) (L := Lib.itoa l ++ 47 :: Lib.itoa d) (by simp; omega)
      rw [splitL_app hq, splitL_none hq2] at e2
      unfold m_spec_l12Trip
      rw [e2]
      simp [show ∀ a b : ByteArray, getI [a, b] 0 = some a from fun _ _ => rfl, show ∀ a b : ByteArray, getI [a, b] 1 = some b from fun _ _ => rfl, pint_itoa (n := l) (by omega) (by omega), pint_itoa (n := d) (by omega) (by omega)]
    simp [hr, rt, f2, hs, selim, dtx]
theorem rt_take {p : YParcel} {n : Int} (g : PGood p n) (hi : m_impl_IsAct ⟨1, p, 0, 0, 0, ⟨0, 0⟩⟩ = some true) (hs : m_spec_IsAct ⟨1, p, 0, 0, 0, ⟨0, 0⟩⟩ = some true) : ∃ s, RT ⟨1, p, 0, 0, 0, ⟨0, 0⟩⟩ s := by
  have et : ∀ l : List UInt8, (⟨l.toArray⟩ : ByteArray) = txt l := fun _ => rfl
  have hl := parcT_len g
  obtain ⟨r1, r2⟩ := parcel_rt g
  have f1 : m_impl_FormatAct ⟨1, p, 0, 0, 0, ⟨0, 0⟩⟩ = some (txt ([116, 97, 107, 101] ++ 32 :: parcT p n)) := by
    unfold m_impl_FormatAct
    simp only [hi, Option.bind_some, Bool.not_true, cond_false, Int.reduceEq, decide_true, decide_false, cond_true, et, txt_app, g.fi]
    repeat rw [bOk (by simp only [txt_size, List.length_append, List.length_cons, List.length_nil]; omega), Option.bind_some]
    simp
  have f2 : m_spec_FormatAct ⟨1, p, 0, 0, 0, ⟨0, 0⟩⟩ = some (txt ([116, 97, 107, 101] ++ 32 :: parcT p n)) := by
    unfold m_spec_FormatAct
    simp only [hs, Option.bind_some, Bool.not_true, cond_false, Int.reduceEq, decide_true, decide_false, cond_true, et, txt_app, g.fs]
    repeat rw [bOk (by simp only [txt_size, List.length_append, List.length_cons, List.length_nil]; omega), Option.bind_some]
    simp
  have ne : decide (txt ([116, 97, 107, 101] ++ 32 :: parcT p n) = ⟨#[]⟩) = false := by rw [dtx]; exact decide_eq_false (by simp)
  refine ⟨txt ([116, 97, 107, 101] ++ 32 :: parcT p n), f1, f2, ne, ?_, ?_⟩
  · have e1 := cut_at (c := 32) (a := [116, 97, 107, 101]) (b := parcT p n) (by decide) (by simp; omega)
    unfold m_o_impl_ParseAct
    rw [show (⟨#[32]⟩ : ByteArray) = txt [32] from rfl, e1]
    simp only [jn_eq, Option.bind_some, dtx]
    simp only [Option.bind_some, r1, selim, ne]
    simp [f1, selim]
  · have e1 : m_spec_l2Split (txt ([116, 97, 107, 101] ++ 32 :: parcT p n)) 32 = _ := l2Split_eq (c := 32) (L := [116, 97, 107, 101] ++ 32 :: parcT p n) (by simp; omega)
    rw [splitL_app (by decide), parc_split g] at e1
    unfold m_o_spec_ParseAct
    rw [e1]
    simp only [jn_eq, Option.bind_some, List.map_cons, List.map_nil, show ∀ a b c d e f : ByteArray, getI [a, b, c, d, e, f] 0 = some a from fun _ _ _ _ _ _ => rfl, show ∀ a b c d e f : ByteArray, getI [a, b, c, d, e, f] 1 = some b from fun _ _ _ _ _ _ => rfl, show ∀ a b c d e f : ByteArray, getI [a, b, c, d, e, f] 2 = some c from fun _ _ _ _ _ _ => rfl, show ∀ a b c d e f : ByteArray, getI [a, b, c, d, e, f] 3 = some d from fun _ _ _ _ _ _ => rfl, show ∀ a b c d e f : ByteArray, getI [a, b, c, d, e, f] 4 = some e from fun _ _ _ _ _ _ => rfl, show ∀ a b c d e f : ByteArray, getI [a, b, c, d, e, f] 5 = some f from fun _ _ _ _ _ _ => rfl, dtx]
    obtain ⟨r, hr, _⟩ := pint_tot (s := txt (labT p.label n)) (by rw [txt_size]; have := labT_len g.lab ⟨g.n0, g.n1⟩; omega)
    have hsz : (txt ([116, 97, 107, 101] ++ 32 :: parcT p n)).size = 5 + (parcT p n).length := by rw [txt_size]; simp; omega
    have hsub : subS (txt ([116, 97, 107, 101] ++ 32 :: parcT p n)) 5 ((5 + (parcT p n).length : Nat) : Int) = txt (parcT p n) := by
      have := subS_at (a := [116, 97, 107, 101, 32]) (b := parcT p n) (c := []) (i := 5) (j := 5 + (parcT p n).length) rfl rfl
      simpa using this
    have hsl : chk (slOk 5 ((5 + (parcT p n).length : Nat) : Int) ((5 + (parcT p n).length : Nat) : Int)) = some () := chk_t (decide_eq_true ⟨by omega, by omega, by omega⟩)
    have hlt : decide ((5 : Int) < ((5 + (parcT p n).length : Nat) : Int)) = true := decide_eq_true (by have : 0 < (parcT p n).length := (by unfold parcT; simp; omega); omega)
    rw [hsz]
    simp only [hr, hlt, hsl, hsub, r2, Option.bind_some]
    simp [hr, f2, hs, selim, dtx]
theorem act_rt {a : YAct} (hF : ActF a) (hi : m_impl_IsAct a = some true) (hs : m_spec_IsAct a = some true) : ∃ s, RT a s := by
  cases hF with
  | take p n h => exact rt_take h hi hs
  | pay o m h h2 => exact rt_pay h h2 hi hs
  | run u h => exact rt_run h hi hs
  | shut l d h h2 => exact rt_shut h h2 hi hs
  | retry => exact rt_retry hi hs
  | refund o h => exact rt_refund h hi hs
theorem splitL_len (c : UInt8) : ∀ l : List UInt8, (splitL c l).length ≤ l.length + 1 ∧ 0 < (splitL c l).length
  | [] => by simp [splitL]
  | x :: xs => by
    have := splitL_len c xs
    unfold splitL
    split
    · simp; omega
    · cases h : splitL c xs with
      | nil => rw [h] at this; simp at this
      | cons p ps => rw [h] at this; simp at this ⊢; omega
theorem splitL_mem (c : UInt8) : ∀ (l p : List UInt8), p ∈ splitL c l → p.length ≤ l.length
  | [], p, h => by simp [splitL] at h; simp [h]
  | x :: xs, p, h => by
    have ih := splitL_mem c xs
    unfold splitL at h
    split at h
    · rcases List.mem_cons.1 h with rfl | h
      · simp
      · have := ih p h; simp; omega
    · cases hs : splitL c xs with
      | nil => have := (splitL_len c xs).2; rw [hs] at this; simp at this
      | cons q qs =>
        rw [hs] at h ih
        rcases List.mem_cons.1 h with rfl | h
        · have := ih q (by simp); simp; omega
        · have := ih p (by simp [h]); simp; omega
structure Parts (s : ByteArray) (l : List ByteArray) : Prop where
  pos : 0 < l.length
  len : l.length ≤ s.size + 1
  mem : ∀ y ∈ l, y.size ≤ s.size
theorem parts_of (s : ByteArray) (c : UInt8) : Parts s ((splitL c s.data.toList).map txt) := by
  have hs : s.data.toList.length = s.size := by rw [Array.length_toList]; rfl
  have h := splitL_len c s.data.toList
  refine ⟨by simpa using h.2, by rw [List.length_map]; omega, fun y hy => ?_⟩
  obtain ⟨p, hp, rfl⟩ := List.mem_map.1 hy
  have := splitL_mem c _ p hp
  rw [txt_size]; omega
theorem split_tot {s : ByteArray} (hs : s.size ≤ 100000000) (c : UInt8) : ∃ l, m_strings_Split s (txt [c]) = some l ∧ Parts s l := by
  have := split_at (c := c) (L := s.data.toList) (by rw [Array.length_toList]; exact hs)
  rw [txt_data] at this
  exact ⟨_, this, parts_of s c⟩
theorem l2_tot {s : ByteArray} (hs : s.size ≤ 100000000) (c : UInt8) : ∃ l, m_spec_l2Split s (c.toNat : Int) = some l ∧ Parts s l := by
  have := l2Split_eq (c := c) (L := s.data.toList) (by rw [Array.length_toList]; exact hs)
  rw [txt_data] at this
  exact ⟨_, this, parts_of s c⟩
theorem parts_loop {PI : ByteArray → Option (Int × Bool)} {body : Int × List Int → Option ((Int × List Int) ⊕ List Int)} {l : List ByteArray}
    (hb : ∀ i o, body (i, o) = cond (decide (i < (l.length : Int))) ((getI l i).bind fun y => (PI y).bind fun z => (chk (appOk ((o : List Int).length + ([z.1] : List Int).length) 8)).bind fun _ => some (.inl (w64 (i + 1), o ++ [z.1]))) (some (.inr o)))
    (hPI : ∀ y ∈ l, ∃ r, PI y = some r ∧ in64 r.1) (hl : l.length ≤ 2000000) : ∃ o, iterF body NN (0, []) = some o ∧ o.length ≤ l.length ∧ ∀ x ∈ o, in64 x := by
  have key : ∀ (k i N : Nat) (o : List Int), i + k = l.length → k < N → o.length = i → (∀ x ∈ o, in64 x) → ∃ o', iterF body N ((i : Int), o) = some o' ∧ o'.length ≤ l.length ∧ ∀ x ∈ o', in64 x := by
    intro k
    induction k with
    | zero =>
      intro i N o hi hN ho hx
      obtain ⟨N, rfl⟩ : ∃ M, N = M + 1 := ⟨N - 1, by omega⟩
      refine ⟨o, ?_, by omega, hx⟩
      rw [itr (o := o)]
      rw [hb, decide_eq_false (by omega)]; rfl
    | succ k ih =>
      intro i N o hi hN ho hx
      obtain ⟨N, rfl⟩ : ∃ M, N = M + 1 := ⟨N - 1, by omega⟩
      have hg : l[i]? = some l[i] := List.getElem?_eq_getElem (by omega)
      obtain ⟨r, hr, hr2⟩ := hPI _ (List.getElem_mem (by omega : i < l.length))
      rw [itl (s' := (((i + 1 : Nat) : Int), o ++ [r.1]))]
      · refine ih (i + 1) N _ (by omega) (by omega) (by simp; omega) fun x hx' => ?_
        rcases List.mem_append.1 hx' with h | h
        · exact hx x h
        · rw [List.mem_singleton.1 h]; exact hr2
      · rw [hb, decide_eq_true (by omega), cond_true, getI_nat, hg, Option.bind_some, hr, Option.bind_some, appI (by simp; omega), Option.bind_some, w64_nat (n := l.length) (by omega) (by omega)]
  exact key l.length 0 NN [] (by omega) (by unfold NN; omega) rfl (by simp)
theorem zPI : ParcelI zP := ⟨by decide, by decide, by decide, by decide, by decide, by decide, by simp, by decide⟩
theorem getS {l : List ByteArray} {s : ByteArray} {k : Nat} (h : Parts s l) (hk : k < l.length) : ∃ y, getI l (k : Int) = some y ∧ y.size ≤ s.size ∧ y ∈ l := by
  have hg : l[k]? = some l[k] := List.getElem?_eq_getElem hk
  exact ⟨_, by rw [getI_nat, hg], h.mem _ (List.getElem_mem hk), List.getElem_mem hk⟩
theorem parcel_toti {s : ByteArray} (hs : s.size ≤ 1048576) : ∃ r : YParcel × Bool, m_o_impl_ParseParcel s = some r ∧ ParcelI r.1 := by
  obtain ⟨l, hl, hP⟩ := split_tot (s := s) (by omega) 32
  unfold m_o_impl_ParseParcel
  rw [show (⟨#[32]⟩ : ByteArray) = txt [32] from rfl, show (⟨#[120]⟩ : ByteArray) = txt [120] from rfl, hl, Option.bind_some]
  by_cases h5 : l.length = 5
  · obtain ⟨y0, g0, z0, _⟩ := getS hP (k := 0) (by omega)
    obtain ⟨y1, g1, z1, _⟩ := getS hP (k := 1) (by omega)
    obtain ⟨y2, g2, z2, _⟩ := getS hP (k := 2) (by omega)
    obtain ⟨y3, g3, z3, _⟩ := getS hP (k := 3) (by omega)
    obtain ⟨y4, g4, z4, _⟩ := getS hP (k := 4) (by omega)
    obtain ⟨a, ha, a1, a2, a3⟩ := label_toti (s := y0) (by omega)
    obtain ⟨b, hb, b1⟩ := iint_tot (s := y2) (by omega)
    obtain ⟨c, hc, c1⟩ := iint_tot (s := y4) (by omega)
    obtain ⟨l2, hl2, hP2⟩ := split_tot (s := y3) (by omega) 120
    obtain ⟨o, ho, o1, o2⟩ := parts_loop (PI := m_impl_ParseInt) (body := m_o_impl_ParseParcel_b0 s y1 a b c l2) (l := l2) (fun i o => rfl) (fun y hy => iint_tot (by have := hP2.mem y hy; omega)) (by have := hP2.len; omega)
    have hI : ParcelI ⟨a.1, y1, b.1, o, c.1⟩ := ⟨a1, a2, by simp only; omega, by simp only; omega, b1, by have := hP2.len; simp only; omega, o2, c1⟩
    obtain ⟨t, _, f1, _⟩ := parcel_both hI
    have e0 : getI l 0 = some y0 := g0
    have e1 : getI l 1 = some y1 := g1
    have e2 : getI l 2 = some y2 := g2
    have e3 : getI l 3 = some y3 := g3
    have e4 : getI l 4 = some y4 := g4
    simp only [show decide ((l.length : Int) = 5) = true from decide_eq_true (by omega), Bool.not_true, cond_false, e0, e1, e2, e3, e4, Option.bind_some, ha, hb, hc, hl2, ho, f1]
    cases decide (s = ⟨#[]⟩) with
    | true => exact ⟨_, rfl, zPI⟩
    | false =>
      cases decide (txt t = s) with
      | true => exact ⟨_, rfl, hI⟩
      | false => exact ⟨_, rfl, zPI⟩
  · rw [decide_eq_false (by omega)]
    exact ⟨_, rfl, zPI⟩
theorem parcel_tots {s : ByteArray} (hs : s.size ≤ 1048576) : ∃ r : YParcel × Bool, m_o_spec_ParseParcel s = some r ∧ ParcelI r.1 := by
  obtain ⟨l, hl, hP⟩ := l2_tot (s := s) (by omega) 32
  have hl' : m_spec_l2Split s 32 = some l := hl
  unfold m_o_spec_ParseParcel
  rw [hl', Option.bind_some]
  by_cases h5 : l.length = 5
  · obtain ⟨y0, g0, z0, _⟩ := getS hP (k := 0) (by omega)
    obtain ⟨y1, g1, z1, _⟩ := getS hP (k := 1) (by omega)
    obtain ⟨y2, g2, z2, _⟩ := getS hP (k := 2) (by omega)
    obtain ⟨y3, g3, z3, _⟩ := getS hP (k := 3) (by omega)
    obtain ⟨y4, g4, z4, _⟩ := getS hP (k := 4) (by omega)
    obtain ⟨a, ha, a1, a2, a3⟩ := label_tots (s := y0) (by omega)
    obtain ⟨b, hb, b1⟩ := pint_tot (s := y2) (by omega)
    obtain ⟨c, hc, c1⟩ := pint_tot (s := y4) (by omega)
    obtain ⟨l2, hl2, hP2⟩ := l2_tot (s := y3) (by omega) 120
    have hl2' : m_spec_l2Split y3 120 = some l2 := hl2
    obtain ⟨o, ho, o1, o2⟩ := parts_loop (PI := m_spec_ParseInt) (body := m_o_spec_ParseParcel_b0 s l y1 a b l2) (l := l2) (fun i o => rfl) (fun y hy => pint_tot (by have := hP2.mem y hy; omega)) (by have := hP2.len; omega)
    have hI : ParcelI ⟨a.1, y1, b.1, o, c.1⟩ := ⟨a1, a2, by simp only; omega, by simp only; omega, b1, by have := hP2.len; simp only; omega, o2, c1⟩
    obtain ⟨t, _, _, f1⟩ := parcel_both hI
    have e0 : getI l 0 = some y0 := g0
    have e1 : getI l 1 = some y1 := g1
    have e2 : getI l 2 = some y2 := g2
    have e3 : getI l 3 = some y3 := g3
    have e4 : getI l 4 = some y4 := g4
    simp only [show decide ((l.length : Int) = 5) = true from decide_eq_true (by omega), Bool.not_true, cond_false, e0, e1, e2, e3, e4, Option.bind_some, ha, hb, hc, hl2', ho, f1]
    cases a.2 with
    | false => exact ⟨_, rfl, zPI⟩
    | true =>
      cases decide (txt t = s) with
      | true => exact ⟨_, rfl, hI⟩
      | false => exact ⟨_, rfl, zPI⟩
  · rw [decide_eq_false (by omega)]
    exact ⟨_, rfl, zPI⟩
theorem trip_toti {s : ByteArray} (hs : s.size ≤ 1048576) : ∃ r : YTrip × Bool, m_impl_readTrip s = some r ∧ in64 r.1.leg ∧ in64 r.1.day := by
  have hz : s.data.toList.length = s.size := by rw [Array.length_toList]; rfl
  unfold m_impl_readTrip m_strings_Cut
  rw [if_pos (by omega), Option.bind_some]
  have hc : ∃ a b d, Lib.cut s.data.toList (⟨#[47]⟩ : ByteArray).data.toList = (a, b, d) ∧ a.length ≤ s.size ∧ b.length ≤ s.size := by
    rcases in_parts 47 s.data.toList with h | ⟨a, b, e, h⟩
    · exact ⟨_, _, _, cut_no h, by omega, by simp⟩
    · rw [e] at hz
      simp at hz
      exact ⟨a, b, true, by rw [e]; exact cut_app h, by omega, by omega⟩
  obtain ⟨a, b, d, e, ha, hb⟩ := hc
  obtain ⟨x, hx, x1⟩ := iint_tot (s := txt a) (by rw [txt_size]; omega)
  obtain ⟨y, hy, y1⟩ := iint_tot (s := txt b) (by rw [txt_size]; omega)
  simp only [e, hx, hy, Option.bind_some]
  cases d with
  | false => exact ⟨_, rfl, x1, y1⟩
  | true => cases x.2 <;> exact ⟨_, rfl, x1, y1⟩
theorem trip_tots {s : ByteArray} (hs : s.size ≤ 1048576) : ∃ r : YTrip, m_spec_l12Trip s = some r ∧ in64 r.leg ∧ in64 r.day := by
  obtain ⟨l, hl, hP⟩ := l2_tot (s := s) (by omega) 47
  have hl' : m_spec_l2Split s 47 = some l := hl
  have z : in64 (-1) ∧ in64 0 := ⟨by decide, by decide⟩
  unfold m_spec_l12Trip
  rw [hl', Option.bind_some]
  by_cases h5 : l.length = 2
  · obtain ⟨y0, g0, z0, _⟩ := getS hP (k := 0) (by omega)
    obtain ⟨y1, g1, z1, _⟩ := getS hP (k := 1) (by omega)
    obtain ⟨b, hb, b1⟩ := pint_tot (s := y0) (by omega)
    obtain ⟨c, hc, c1⟩ := pint_tot (s := y1) (by omega)
    have e0 : getI l 0 = some y0 := g0
    have e1 : getI l 1 = some y1 := g1
    simp only [show decide ((l.length : Int) = 2) = true from decide_eq_true (by omega), Bool.not_true, cond_false, e0, e1, Option.bind_some, hb, hc]
    cases b.2
    · exact ⟨_, rfl, z⟩
    · cases c.2
      · exact ⟨_, rfl, z⟩
      · exact ⟨_, rfl, b1, c1⟩
  · rw [decide_eq_false (by omega)]
    exact ⟨_, rfl, z⟩
def mkA (z : Int × Int × Int × ByteArray × ByteArray × Int × Int × Int × Int × Int × Int × Int × List Int) : YAct := ⟨z.1, ⟨⟨z.2.1, z.2.2.1, z.2.2.2.1⟩, z.2.2.2.2.1, z.2.2.2.2.2.1, z.2.2.2.2.2.2.2.2.2.2.2.2, z.2.2.2.2.2.2.1⟩, z.2.2.2.2.2.2.2.1, z.2.2.2.2.2.2.2.2.1, z.2.2.2.2.2.2.2.2.2.1, ⟨z.2.2.2.2.2.2.2.2.2.2.1, z.2.2.2.2.2.2.2.2.2.2.2.1⟩⟩
abbrev ZT := Int × Int × Int × ByteArray × ByteArray × Int × Int × Int × Int × Int × Int × Int × List Int
def TZ (x : Option (ZT ⊕ Empty)) : Prop := ∃ z, x = some (.inl z) ∧ ActI (mkA z)
theorem tz_cond {b : Bool} {x y : Option (ZT ⊕ Empty)} (h1 : b = true → TZ x) (h2 : b = false → TZ y) : TZ (cond b x y) := by
  cases b
  · exact h2 rfl
  · exact h1 rfl
theorem tz_bind {α : Type} {m : Option α} {a : α} {f : α → Option (ZT ⊕ Empty)} (h : m = some a) (h1 : TZ (f a)) : TZ (m.bind f) := by rw [h]; exact h1
theorem z64 : in64 0 := by decide
theorem tz_z {k o m u l d : Int} (h1 : in64 o) (h2 : in64 m) (h3 : in64 u) (h4 : in64 l) (h5 : in64 d) : TZ (some (.inl (k, 0, 0, ⟨#[]⟩, ⟨#[]⟩, 0, 0, o, m, u, l, d, []))) := ⟨_, rfl, zPI, h1, h2, h3, h4, h5⟩
theorem tz_p {p : YParcel} (h : ParcelI p) : TZ (some (.inl (1, p.label.service, p.label.serial, p.label.to_, p.from_, p.weight, p.value, 0, 0, 0, 0, 0, p.sides))) := ⟨_, rfl, h, z64, z64, z64, z64, z64⟩
theorem cut_tot {s : ByteArray} (hs : s.size ≤ 1048576) (c : UInt8) : ∃ r : ByteArray × ByteArray × Bool, m_strings_Cut s (txt [c]) = some r ∧ r.1.size ≤ 1048576 ∧ r.2.1.size ≤ 1048576 := by
  have hz : s.data.toList.length = s.size := by rw [Array.length_toList]; rfl
  unfold m_strings_Cut
  rw [if_pos (by omega), txt_l]
  rcases in_parts c s.data.toList with h | ⟨a, b, e, h⟩
  · rw [cut_no h]; exact ⟨_, rfl, by simp only [txt_size]; omega, by simp [txt_size]⟩
  · rw [e] at hz
    simp at hz
    rw [e, cut_app h]
    exact ⟨_, rfl, by simp only [txt_size]; omega, by simp only [txt_size]; omega⟩
def Ans (F : YAct → Option ByteArray) (s : ByteArray) (r : YAct × Bool) : Prop := r = (zA, false) ∨ (r.2 = true ∧ ActI r.1 ∧ F r.1 = some s)
theorem impl_parse {s : ByteArray} (hs : s.size ≤ 1048576) : ∃ r, m_o_impl_ParseAct s = some r ∧ Ans m_impl_FormatAct s r ∧ (r.2 = true → decide (s = ⟨#[]⟩) = false) := by
  obtain ⟨c, hc, c1, c2⟩ := cut_tot hs 32
  obtain ⟨p, hp, p1⟩ := parcel_toti (s := c.2.1) c2
  obtain ⟨e, he, e1, e2⟩ := cut_tot (s := c.2.1) c2 32
  obtain ⟨i1, hi1, i1'⟩ := iint_tot (s := e.1) (by omega)
  obtain ⟨i2, hi2, i2'⟩ := iint_tot (s := e.2.1) (by omega)
  obtain ⟨i3, hi3, i3'⟩ := iint_tot (s := c.2.1) (by omega)
  obtain ⟨t, ht, t1, t2⟩ := trip_toti (s := c.2.1) c2
  unfold m_o_impl_ParseAct
  rw [show (⟨#[32]⟩ : ByteArray) = txt [32] from rfl, hc, Option.bind_some]
  simp only [jn_eq]
  have key : ∀ (x : Option (ZT ⊕ Empty)) (K : ZT → Option (YAct × Bool)), TZ x → (∀ z, K z = cond (decide (s = ⟨#[]⟩)) (some (zA, false)) ((m_impl_FormatAct (mkA z)).bind fun y10 => cond (!decide (y10 = s)) (some (zA, false)) (some (mkA z, true)))) →
      ∃ r, x.bind (selim K fun r => nomatch r) = some r ∧ Ans m_impl_FormatAct s r ∧ (r.2 = true → decide (s = ⟨#[]⟩) = false) := by
    rintro x K ⟨z, rfl, hI⟩ hK
    obtain ⟨b, f1, f2⟩ := act_both hI
    show ∃ r, K z = some r ∧ _
    rw [hK, f1, Option.bind_some]
    cases hd : decide (s = ⟨#[]⟩) with
    | true => exact ⟨_, rfl, .inl rfl, fun h => by cases h⟩
    | false =>
      cases hq : decide (b = s) with
      | false => exact ⟨_, rfl, .inl rfl, fun h => by cases h⟩
      | true => exact ⟨_, rfl, .inr ⟨rfl, hI, by rw [f1, of_decide_eq_true hq]⟩, fun _ => rfl⟩
  refine key _ _ ?_ fun z => rfl
  refine tz_cond (fun _ => tz_bind hp (tz_p p1)) fun _ => tz_cond (fun _ => tz_bind he (tz_bind hi1 (tz_bind hi2 (tz_z i1' i2' z64 z64 z64)))) fun _ => tz_cond (fun _ => tz_bind hi3 (tz_z z64 z64 i3' z64 z64)) fun _ => tz_cond (fun _ => tz_bind ht (tz_z z64 z64 z64 t1 t2)) fun _ => tz_cond (fun _ => tz_z z64 z64 z64 z64 z64) fun _ => tz_cond (fun _ => tz_bind hi3 (tz_z i3' z64 z64 z64 z64)) fun _ => tz_z z64 z64 z64 z64 z64
theorem spec_parse {s : ByteArray} (hs : s.size ≤ 1048576) : ∃ r, m_o_spec_ParseAct s = some r ∧ Ans m_spec_FormatAct s r ∧ (r.2 = true → m_spec_IsAct r.1 = some true) := by
  obtain ⟨l, hl, hP⟩ := l2_tot (s := s) (by omega) 32
  have hl' : m_spec_l2Split s 32 = some l := hl
  obtain ⟨y0, g0, z0, _⟩ := getS hP (k := 0) hP.pos
  have e0 : getI l 0 = some y0 := g0
  have h1 : ∃ z, cond (decide (1 < (l.length : Int))) ((getI l 1).bind fun y2 => (m_spec_ParseInt y2).bind fun y3 => some (.inl y3.1)) (some (.inl 0)) = (some (.inl z) : Option (Int ⊕ Empty)) ∧ in64 z := by
    by_cases h : 1 < l.length
    · obtain ⟨y, g, z, _⟩ := getS hP (k := 1) h
      have e : getI l 1 = some y := g
      obtain ⟨r, hr, hr1⟩ := pint_tot (s := y) (by omega)
      rw [decide_eq_true (by omega), e]
      exact ⟨r.1, by simp [hr], hr1⟩
    · rw [decide_eq_false (by omega)]
      exact ⟨0, rfl, z64⟩
  obtain ⟨z4, hz4, z4'⟩ := h1
  have hsub : decide (5 < (s.size : Int)) = true → ∃ r : YParcel × Bool, m_o_spec_ParseParcel (subS s 5 (s.size : Int)) = some r ∧ ParcelI r.1 := fun h => by
    have := of_decide_eq_true h
    exact parcel_tots (by show (s.extract 5 _).size ≤ _; rw [ByteArray.size_extract]; omega)
  have hsl : decide (5 < (s.size : Int)) = true → chk (slOk 5 (s.size : Int) (s.size : Int)) = some () := fun h => by
    have := of_decide_eq_true h
    exact chk_t (decide_eq_true ⟨by omega, by omega, by omega⟩)
  have h3 : decide ((l.length : Int) = 3) = true → ∃ y, getI l 2 = some y ∧ ∃ r : Int × Bool, m_spec_ParseInt y = some r ∧ in64 r.1 := fun h => by
    have := of_decide_eq_true h
    obtain ⟨y, g, z, _⟩ := getS hP (k := 2) (by omega)
    exact ⟨y, g, pint_tot (by omega)⟩
  have h2 : decide ((l.length : Int) = 2) = true → ∃ y, getI l 1 = some y ∧ ∃ r : YTrip, m_spec_l12Trip y = some r ∧ in64 r.leg ∧ in64 r.day := fun h => by
    have := of_decide_eq_true h
    obtain ⟨y, g, z, _⟩ := getS hP (k := 1) (by omega)
    exact ⟨y, g, trip_tots (by omega)⟩
  have key : ∀ (x : Option (ZT ⊕ Empty)) (T : ZT → List PV) (M : ZT → Mem) (K : ZT → Option (YAct × Bool)), TZ x → (∀ z, K z = (m_spec_IsAct (mkA z)).bind fun y74 => cond (!y74) (some (zA, false)) ((m_spec_FormatAct (mkA z)).bind fun y75 => cond (!decide (y75 = s)) (some (zA, false)) (some (mkA z, true)))) →
      ∃ r, (jn 7 21 x T M).bind (selim K fun r => nomatch r) = some r ∧ Ans m_spec_FormatAct s r ∧ (r.2 = true → m_spec_IsAct r.1 = some true) := by
    rintro x T M K ⟨z, rfl, hI⟩ hK
    obtain ⟨b, f1, f2⟩ := act_both hI
    obtain ⟨v, i1, i2⟩ := act_eq (a := mkA z) (by have := hI.1.2.2.1; unfold B60; omega) (by have := hI.1.2.2.2.1; unfold B60; omega) (by have := hI.1.2.2.2.2.2.1; unfold NN; omega)
    rw [jn_eq]
    show ∃ r, K z = some r ∧ _
    rw [hK, i2, f2]
    cases v with
    | false => exact ⟨_, rfl, .inl rfl, fun h => by cases h⟩
    | true =>
      simp only [Option.bind_some, Bool.not_true, cond_false]
      cases hq : decide (b = s) with
      | false => exact ⟨_, rfl, .inl rfl, fun h => by cases h⟩
      | true => exact ⟨_, rfl, .inr ⟨rfl, hI, by rw [f2, of_decide_eq_true hq]⟩, fun _ => i2⟩
  unfold m_o_spec_ParseAct
  rw [hl', Option.bind_some]
  rw [show ∀ (x : Option (Int ⊕ Empty)) T M, jn 4 7 x T M = x from fun x T M => jn_eq 4 7 x T M, hz4, Option.bind_some]
  refine key _ _ _ _ ?_ fun z => rfl
  repeat' first
    | refine tz_cond (fun _ => ?_) (fun _ => ?_)
    | refine tz_bind e0 ?_
    | exact tz_z (by first | exact z64 | assumption) (by first | exact z64 | assumption) (by first | exact z64 | assumption) (by first | exact z64 | assumption) (by first | exact z64 | assumption)
    | exact tz_p (by assumption)
    | refine tz_bind (hsl (by assumption)) ?_
    | (obtain ⟨r, hr, hr'⟩ := hsub (by assumption); refine tz_bind hr ?_)
    | (obtain ⟨y, hy, r, hr, hr'⟩ := h3 (by assumption); refine tz_bind hy (tz_bind hr ?_))
    | (obtain ⟨y, hy, r, hr, hr', hr2⟩ := h2 (by assumption); refine tz_bind hy (tz_bind hr ?_))
end Go.Proofs.YtkfbakhnpfmfmaaGreatDoor
namespace Go.Proofs.YtkfbakhnpfmfmaaGreatDoor
set_option maxRecDepth 10000
open Go.RowKit
set_option linter.unusedVariables false
set_option maxHeartbeats 16000000
def m_laws_eqLabel (a : YLabel) (b : YLabel) : Option Bool :=
 cond (!decide (a.service = b.service))
 (some false)
 (cond (!decide (a.serial = b.serial))
 (some false)
 (cond (!decide (a.to_ = b.to_))
 (some false)
 (some true)))
instance (a : YLabel) (b : YLabel) : CT Tryz.prog (m_laws_eqLabel a b) := ⟨54, [.ag (cLabel a), .ag (cLabel b)], [], fun r => vb r, fun r => [], fun H => by replace H := H0 H; unfold m_laws_eqLabel at H; exact callM_of Tryz.func54 rfl Tryz.ntmps54 Tryz.results54 fun Q hQ hQn => wk3⟩
def m_laws_eqIntS_b0 (a : List Int) (b : List Int) (s0 : Int) : Option (Int ⊕ (Unit ⊕ Bool)) :=
 cond (decide (s0 < (a.length : Int)))
 ((getI a s0).bind fun y1 =>
 (getI b s0).bind fun y2 =>
 cond (!decide (y1 = y2))
 (some (.inr (.inr false)))
 (some (.inl (w64 (s0 + 1)))))
 (some (.inr (.inl ())))
instance (a : List Int) (b : List Int) : LoopE (m_laws_eqIntS_b0 a b) := ⟨fun s0 => (.sl (a.map cInt) :: .sl (b.map cInt) :: (U 3 (vi s0 :: (U 20 [])))), fun s0 => []⟩
def m_laws_eqIntS (a : List Int) (b : List Int) : Option Bool :=
 cond (!decide ((a.length : Int) = (b.length : Int)))
 (some false)
 ((iterF (m_laws_eqIntS_b0 a b) NN 0).bind (selim (fun o0 =>
 some true) (fun r => some r)))
theorem ok_laws_eqIntS (a : List Int) (b : List Int) {r : Bool} (H : m_laws_eqIntS a b = some r) : CallM Tryz.prog 55 [.sl (a.map cInt), .sl (b.map cInt)] [] (vb r) [] := by
  replace H := H0 H
  unfold m_laws_eqIntS at H
  refine callM_of Tryz.func55 rfl Tryz.ntmps55 Tryz.results55 fun Q hQ hQn => ?_
  exact wk3
instance (a : List Int) (b : List Int) : CT Tryz.prog (m_laws_eqIntS a b) := ⟨55, [.sl (a.map cInt), .sl (b.map cInt)], [], fun r => vb r, fun r => [], ok_laws_eqIntS a b⟩
def m_laws_eqParcel (a : YParcel) (b : YParcel) : Option Bool :=
 (m_laws_eqLabel a.label b.label).bind fun y1 =>
 cond (!y1)
 (some false)
 (cond (!decide (a.from_ = b.from_))
 (some false)
 (cond (!decide (a.weight = b.weight))
 (some false)
 ((m_laws_eqIntS a.sides b.sides).bind fun y2 =>
 cond (!y2)
 (some false)
 (cond (!decide (a.value = b.value))
 (some false)
 (some true)))))
instance (a : YParcel) (b : YParcel) : CT Tryz.prog (m_laws_eqParcel a b) := ⟨30, [.ag (cParcel a), .ag (cParcel b)], [], fun r => vb r, fun r => [], fun H => by replace H := H0 H; unfold m_laws_eqParcel at H; exact callM_of Tryz.func30 rfl Tryz.ntmps30 Tryz.results30 fun Q hQ hQn => wk3⟩
def m_laws_eqTrip (a : YTrip) (b : YTrip) : Option Bool :=
 cond (!decide (a.leg = b.leg))
 (some false)
 (cond (!decide (a.day = b.day))
 (some false)
 (some true))
instance (a : YTrip) (b : YTrip) : CT Tryz.prog (m_laws_eqTrip a b) := ⟨31, [.ag (cTrip a), .ag (cTrip b)], [], fun r => vb r, fun r => [], fun H => by replace H := H0 H; unfold m_laws_eqTrip at H; exact callM_of Tryz.func31 rfl Tryz.ntmps31 Tryz.results31 fun Q hQ hQn => wk3⟩
def m_laws_eqAct (a : YAct) (b : YAct) : Option Bool :=
 cond (!decide (a.kind = b.kind))
 (some false)
 ((m_laws_eqParcel a.parcel b.parcel).bind fun y1 =>
 cond (!y1)
 (some false)
 (cond (!decide (a.order = b.order))
 (some false)
 (cond (!decide (a.amount = b.amount))
 (some false)
 (cond (!decide (a.until_ = b.until_))
 (some false)
 ((m_laws_eqTrip a.trip b.trip).bind fun y2 =>
 cond (!y2)
 (some false)
 (some true))))))
instance (a : YAct) (b : YAct) : CT Tryz.prog (m_laws_eqAct a b) := ⟨8, [.ag (cAct a), .ag (cAct b)], [], fun r => vb r, fun r => [], fun H => by replace H := H0 H; unfold m_laws_eqAct at H; exact callM_of Tryz.func8 rfl Tryz.ntmps8 Tryz.results8 fun Q hQ hQn => wk3⟩
def m_laws_eqActS_b0 (a : List YAct) (b : List YAct) (s0 : Int) : Option (Int ⊕ (Unit ⊕ Bool)) :=
 cond (decide (s0 < (a.length : Int)))
 ((getI a s0).bind fun y1 =>
 (getI b s0).bind fun y2 =>
 (m_laws_eqAct y1 y2).bind fun y3 =>
 cond (!y3)
 (some (.inr (.inr false)))
 (some (.inl (w64 (s0 + 1)))))
 (some (.inr (.inl ())))
instance (a : List YAct) (b : List YAct) : LoopE (m_laws_eqActS_b0 a b) := ⟨fun s0 => (.sl (a.map cAct) :: .sl (b.map cAct) :: (U 3 (vi s0 :: (U 21 [])))), fun s0 => []⟩
def m_laws_eqActS (a : List YAct) (b : List YAct) : Option Bool :=
 cond (!decide ((a.length : Int) = (b.length : Int)))
 (some false)
 ((iterF (m_laws_eqActS_b0 a b) NN 0).bind (selim (fun o0 =>
 some true) (fun r => some r)))
instance (a : List YAct) (b : List YAct) : CT Tryz.prog (m_laws_eqActS a b) := ⟨13, [.sl (a.map cAct), .sl (b.map cAct)], [], fun r => vb r, fun r => [], fun H => by replace H := H0 H; unfold m_laws_eqActS at H; exact callM_of Tryz.func13 rfl Tryz.ntmps13 Tryz.results13 fun Q hQ hQn => wk3⟩
set_option linter.unusedSimpArgs false
theorem eqr_Label (x : YLabel) (h : totLabel x ≤ 1048576) : m_laws_eqLabel x x = some true := by
  simp [m_laws_eqLabel]
theorem eqr_IntS (a : List Int) (hl : a.length ≤ 1048576) : m_laws_eqIntS a a = some true := by
  have e : iterF (m_laws_eqIntS_b0 a a) NN 0 = some (.inl ()) := by
    refine iter_pass (xs := a) (fun i x hx => ?_) ?_ (by unfold NN; omega)
    · obtain ⟨hi, rfl⟩ := List.getElem?_eq_some_iff.1 hx
      have hw := w64_nat hi (by omega)
      simp [m_laws_eqIntS_b0, getI_nat, hx, hi, hw]
    · simp [m_laws_eqIntS_b0]
  unfold m_laws_eqIntS; simp [e]
theorem eqr_Parcel (x : YParcel) (h : totParcel x ≤ 1048576) : m_laws_eqParcel x x = some true := by
  have e0 := eqr_Label x.label (by unfold totParcel at h; omega)
  have e1 := eqr_IntS x.sides (by unfold totParcel at h; omega)
  simp [m_laws_eqParcel, e0, e1]
theorem eqr_Trip (x : YTrip) : m_laws_eqTrip x x = some true := by
  simp [m_laws_eqTrip]
theorem eqr_Act (x : YAct) (h : totAct x ≤ 1048576) : m_laws_eqAct x x = some true := by
  have e0 := eqr_Parcel x.parcel (by unfold totAct at h; omega)
  have e1 := eqr_Trip x.trip
  simp [m_laws_eqAct, e0, e1]
theorem eqr_ActS (a : List YAct) (hl : a.length ≤ 1048576) (he : ∀ x ∈ a, m_laws_eqAct x x = some true) : m_laws_eqActS a a = some true := by
  have e : iterF (m_laws_eqActS_b0 a a) NN 0 = some (.inl ()) := by
    refine iter_pass (xs := a) (fun i x hx => ?_) ?_ (by unfold NN; omega)
    · obtain ⟨hi, rfl⟩ := List.getElem?_eq_some_iff.1 hx
      have hw := w64_nat hi (by omega)
      have hx2 := he _ (List.mem_of_getElem? hx)
      simp [m_laws_eqActS_b0, getI_nat, hx, hi, hw, hx2]
    · simp [m_laws_eqActS_b0]
  unfold m_laws_eqActS; simp [e]
theorem ans_actF {F : YAct → Option ByteArray} {a : YAct} (hI : ActI a) (h : m_impl_IsAct a = some true) : ActF a := act_inv (by have := hI.1.2.2.1; unfold B60; omega) (by have := hI.1.2.2.2.1; unfold B60; omega) (by have := hI.1.2.2.2.2.2.1; unfold NN; omega) h
theorem parse_both {s : ByteArray} (hs : s.size ≤ 1048576) : ∃ r : YAct × Bool, m_o_spec_ParseAct s = some r ∧ m_o_impl_ParseAct s = some r ∧ (r = (zA, false) ∨ ActF r.1) := by
  obtain ⟨⟨a, b⟩, ha, hA, hA2⟩ := impl_parse hs
  obtain ⟨⟨c, d⟩, hc, hC, hC2⟩ := spec_parse hs
  have eqI : ∀ {x : YAct}, ActI x → ∃ v, m_impl_IsAct x = some v ∧ m_spec_IsAct x = some v := fun hI => act_eq (by have := hI.1.2.2.1; unfold B60; omega) (by have := hI.1.2.2.2.1; unfold B60; omega) (by have := hI.1.2.2.2.2.2.1; unfold NN; omega)
  rcases hA with e | ⟨e, hI, hF⟩
  · rcases hC with e2 | ⟨e2, hI2, hF2⟩
    · exact ⟨_, by rw [hc, e2], by rw [ha, e], .inl rfl⟩
    · exfalso
      obtain ⟨v, v1, v2⟩ := eqI hI2
      have h1 := hC2 e2
      obtain rfl : v = true := Option.some.inj (v2.symm.trans h1)
      obtain ⟨s', h⟩ := act_rt (ans_actF (F := m_spec_FormatAct) hI2 v1) v1 h1
      obtain rfl : s' = s := Option.some.inj (h.fs.symm.trans hF2)
      rw [h.pi] at ha
      injection ha with ha
      rw [← ha] at e
      cases e
  · obtain ⟨v, v1, v2⟩ := eqI hI
    cases v with
    | false =>
      exfalso
      simp only at hF v1
      unfold m_impl_FormatAct at hF
      rw [v1] at hF
      have := hA2 e
      rw [← Option.some.inj hF] at this
      exact absurd this (by decide)
    | true =>
      have hX := ans_actF (F := m_impl_FormatAct) hI v1
      obtain ⟨s', h⟩ := act_rt hX v1 v2
      obtain rfl : s' = s := Option.some.inj (h.fi.symm.trans hF)
      exact ⟨(a, true), h.ps, h.pi, .inr hX⟩
theorem actF_tot {a : YAct} (h : ActF a) : totAct a ≤ 1000 ∧ a.parcel.sides.length ≤ 3 := by
  have e : totAct a = a.parcel.label.to_.size + a.parcel.from_.size + a.parcel.sides.length := rfl
  rw [e]
  cases h with
  | take p n g =>
    obtain ⟨x, y, z, hs, _⟩ := g.sd
    have := g.to3
    have := g.fr.1
    simp only [hs, List.length_cons, List.length_nil]
    omega
  | _ => exact ⟨show (0 : Nat) + 0 + 0 ≤ 1000 by decide, Nat.zero_le _⟩
def m_spec_ReadJournal_b0 (s : ByteArray) (s0 : Int × Int × (List YAct)) : Option ((Int × Int × (List YAct)) ⊕ ((List YAct) ⊕ (List YAct))) :=
 cond (decide (s0.2.1 < (s.size : Int)))
 (cond (decide ((s0.2.2.length : Int) < 150))
 ((jn 6 5 (
 (getB s s0.2.1).bind fun y1 =>
 cond (!decide (y1 = 10))
 (some (.inl (s0.1, s0.2.2)))
 ((chk (slOk s0.1 s0.2.1 s.size)).bind fun _ =>
 (m_o_spec_ParseAct (subS s s0.1 s0.2.1)).bind fun y2 =>
 cond (!y2.2)
 (some (.inr s0.2.2))
 ((frz (vs s :: .un :: .un :: .ms 0 :: .un :: vi s0.2.1 :: .be 1 0 0 :: (U 35 [])) [some ⟨.of 30, 13, s0.2.2.map cAct⟩, some ⟨.of 30, 13, [[vi y2.1.kind, vi y2.1.parcel.label.service, vi y2.1.parcel.label.serial, vs y2.1.parcel.label.to_, vs y2.1.parcel.from_, vi y2.1.parcel.weight, .sl (y2.1.parcel.sides.map cInt), vi y2.1.parcel.value, vi y2.1.order, vi y2.1.amount, vi y2.1.until_, vi y2.1.trip.leg, vi y2.1.trip.day]]⟩]).bind fun _ =>
 (chk (appOk ((s0.2.2 : List YAct).length + ([y2.1] : List YAct).length) 136)).bind fun _ =>
 some (.inl ((w64 (s0.2.1 + 1)), ((s0.2.2 : List YAct) ++ [y2.1]))))) : Option ((Int × (List YAct)) ⊕ (List YAct))) (fun z3 => (vs s :: .un :: .un :: .ms 0 :: vi z3.1 :: vi s0.2.1 :: (U 36 []))) (fun z3 => [some ⟨.of 30, 13, z3.2.map cAct⟩])).bind (selim (fun z3 =>
 some (.inl (z3.1, (w64 (s0.2.1 + 1)), z3.2))) (fun r => some (.inr (.inr r)))))
 (some (.inr (.inl s0.2.2))))
 (some (.inr (.inl s0.2.2)))
instance (s : ByteArray) : LoopE (m_spec_ReadJournal_b0 s) := ⟨fun s0 => (vs s :: .un :: .un :: .ms 0 :: vi s0.1 :: vi s0.2.1 :: (U 36 [])), fun s0 => [some ⟨.of 30, 13, s0.2.2.map cAct⟩]⟩
def m_spec_ReadJournal (s : ByteArray) : Option (List YAct) :=
 (iterF (m_spec_ReadJournal_b0 s) NN (0, 0, ([] : List YAct))).bind (selim (fun o0 =>
 some o0) (fun r => some r))
instance (s : ByteArray) : CT Tryz.prog (m_spec_ReadJournal s) := ⟨11, [vs s], [], fun r => .ms 0, fun r => [some ⟨.of 30, 13, r.map cAct⟩], fun H => by replace H := H0 H; unfold m_spec_ReadJournal at H; exact callM_of Tryz.func11 rfl Tryz.ntmps11 Tryz.results11 fun Q hQ hQn => wk4⟩
end Go.Proofs.YtkfbakhnpfmfmaaGreatDoor
