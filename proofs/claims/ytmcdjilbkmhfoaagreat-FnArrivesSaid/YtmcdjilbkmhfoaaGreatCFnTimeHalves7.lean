/- A part of the proof of the statement in the last file of this claim: texts on the language of the program and on its functions. No condition. -/
import Derived.Test.YtmcdjilbkmhfoaaGreatCFnTimeHalves6
import Derived.Sort.Walk0
import Derived.Test.YtmcdjilbkmhfoaaGreatCFnTimeHalves4
/- The two sides' lists of places are the same list. -/
namespace Go.Proofs.YtmcdjilbkmhfoaaGreat
set_option maxRecDepth 10000
open Go.RowKit
set_option linter.unusedVariables false
set_option linter.unusedSimpArgs false
/-- A sorted list is known by its members. -/
theorem sorted_eq {α : Type} {r : α → α → Prop} (irr : ∀ a, ¬ r a a) (asy : ∀ a b, r a b → ¬ r b a) : ∀ {l1 l2 : List α}, l1.Pairwise r → l2.Pairwise r → (∀ x, x ∈ l1 ↔ x ∈ l2) → l1 = l2
  | [], [], _, _, _ => rfl
  | [], b :: l2, _, _, h => absurd ((h b).2 (List.mem_cons_self ..)) (by simp)
  | a :: l1, [], _, _, h => absurd ((h a).1 (List.mem_cons_self ..)) (by simp)
  | a :: l1, b :: l2, h1, h2, h => by
    rw [List.pairwise_cons] at h1 h2
    have hab : a = b := by
      rcases List.mem_cons.1 ((h a).1 (List.mem_cons_self ..)) with e | e
      · exact e
      · rcases List.mem_cons.1 ((h b).2 (List.mem_cons_self ..)) with e' | e'
        · exact e'.symm
        · exact absurd (h1.1 b e') (asy _ _ (h2.1 a e))
    subst hab
    congr 1
    refine sorted_eq irr asy h1.2 h2.2 fun x => ⟨fun hx => ?_, fun hx => ?_⟩
    · rcases List.mem_cons.1 ((h x).1 (List.mem_cons_of_mem _ hx)) with e | e
      · subst e; exact absurd (h1.1 x hx) (irr x)
      · exact e
    · rcases List.mem_cons.1 ((h x).2 (List.mem_cons_of_mem _ hx)) with e | e
      · subst e; exact absurd (h2.1 x hx) (irr x)
      · exact e
theorem sLt_iff (a b : ByteArray) : sLt a b = true ↔ a.data.toList < b.data.toList := by
  unfold sLt; rw [Go.Proofs.bytesLess_eq, ByteArray.toList_eq, ByteArray.toList_eq, decide_eq_true_iff]
theorem ba_ext {a b : ByteArray} (h : a.data.toList = b.data.toList) : a = b := by
  obtain ⟨⟨x⟩⟩ := a; obtain ⟨⟨y⟩⟩ := b; simpa using h
theorem sLt_irr (a : ByteArray) : ¬ sLt a a = true := by rw [sLt_iff]; exact List.lt_irrefl _
theorem sLt_as (a b : ByteArray) (h : sLt a b = true) : ¬ sLt b a = true := by rw [sLt_iff] at *; exact List.lt_asymm h
theorem sLt_tr {a b c : ByteArray} (h : sLt a b = true) (h' : sLt b c = true) : sLt a c = true := by rw [sLt_iff] at *; exact List.lt_trans h h'
theorem sLt_tri {a b : ByteArray} (h : ¬ sLt a b = true) (hn : a ≠ b) : sLt b a = true := by
  rw [sLt_iff] at *
  rcases List.le_total a.data.toList b.data.toList with e | e
  · rcases (List.le_iff_lt_or_eq.1 e) with e' | e'
    · exact absurd e' h
    · exact absurd (ba_ext e') hn
  · rcases (List.le_iff_lt_or_eq.1 e) with e' | e'
    · exact e'
    · exact absurd (ba_ext e'.symm) hn
/-- A name is put where it belongs. -/
def insS : List ByteArray → ByteArray → List ByteArray
  | [], p => [p]
  | x :: xs, p => if sLt x p = true then x :: insS xs p else if x = p then x :: xs else p :: x :: xs
theorem insS_mem {p y : ByteArray} : ∀ {xs : List ByteArray}, y ∈ insS xs p ↔ y = p ∨ y ∈ xs
  | [] => by simp [insS]
  | x :: xs => by
    unfold insS
    split
    · rw [List.mem_cons, insS_mem, List.mem_cons]; grind
    · split
      · rename_i h; subst h; simp
      · simp
theorem insS_sorted {p : ByteArray} : ∀ {xs : List ByteArray}, xs.Pairwise (fun a b => sLt a b = true) → (insS xs p).Pairwise (fun a b => sLt a b = true)
  | [], _ => by simp [insS]
  | x :: xs, h => by
    rw [List.pairwise_cons] at h
    unfold insS
    split
    · rename_i h1
      rw [List.pairwise_cons]
      refine ⟨fun y hy => ?_, insS_sorted h.2⟩
      rcases insS_mem.1 hy with e | e
      · rw [e]; exact h1
      · exact h.1 y e
    · rename_i h1
      split
      · rw [List.pairwise_cons]; exact h
      · rename_i h2
        have h3 := sLt_tri h1 h2
        rw [List.pairwise_cons, List.pairwise_cons]
        refine ⟨fun y hy => ?_, h⟩
        rcases List.mem_cons.1 hy with e | e
        · rw [e]; exact h3
        · exact sLt_tr h3 (h.1 y e)
theorem insS_len {p : ByteArray} : ∀ {xs : List ByteArray}, (insS xs p).length ≤ xs.length + 1
  | [] => by simp [insS]
  | x :: xs => by
    unfold insS
    split
    · have := insS_len (p := p) (xs := xs); simp; omega
    · split <;> simp
theorem foldS_mem {y : ByteArray} : ∀ {l acc : List ByteArray}, y ∈ l.foldl insS acc ↔ y ∈ l ∨ y ∈ acc
  | [], acc => by simp
  | p :: l, acc => by rw [List.foldl_cons, foldS_mem, insS_mem, List.mem_cons]; grind
theorem foldS_sorted : ∀ {l acc : List ByteArray}, acc.Pairwise (fun a b => sLt a b = true) → (l.foldl insS acc).Pairwise (fun a b => sLt a b = true)
  | [], acc, h => h
  | p :: l, acc, h => foldS_sorted (l := l) (insS_sorted h)
theorem foldS_len : ∀ {l acc : List ByteArray}, (l.foldl insS acc).length ≤ l.length + acc.length
  | [], acc => by simp
  | p :: l, acc => by
    have h1 := foldS_len (l := l) (acc := insS acc p)
    have h2 := insS_len (p := p) (xs := acc)
    simp only [List.foldl_cons, List.length_cons]; omega
/-! The program's: a list without repeats, sorted. -/
theorem dd_mem {y : ByteArray} : ∀ {l acc : List ByteArray}, y ∈ l.foldl dd acc ↔ y ∈ l ∨ y ∈ acc
  | [], acc => by simp
  | p :: l, acc => by
    rw [List.foldl_cons, dd_mem, List.mem_cons]
    unfold dd
    split
    · rename_i h
      have h := inL_iff.1 h
      constructor
      · grind
      · rintro ((rfl | h') | h') <;> grind
    · simp; grind
theorem dd_nodup : ∀ {l acc : List ByteArray}, acc.Nodup → (l.foldl dd acc).Nodup
  | [], acc, h => h
  | p :: l, acc, h => by
    rw [List.foldl_cons]
    refine dd_nodup ?_
    unfold dd
    split
    · exact h
    · rename_i h1
      rw [List.nodup_append]
      refine ⟨h, by simp, ?_⟩
      intro a ha b hb
      simp at hb
      rintro rfl
      subst hb
      exact h1 (inL_iff.2 ha)
theorem srtS_mem {y : ByteArray} {xs : List ByteArray} : y ∈ srtS xs ↔ y ∈ xs := by
  unfold srtS
  rw [List.mem_map]
  constructor
  · rintro ⟨l, hl, rfl⟩
    rw [List.mem_mergeSort, List.mem_map] at hl
    obtain ⟨b, hb, rfl⟩ := hl
    have : (⟨b.data.toList.toArray⟩ : ByteArray) = b := ba_ext (by simp)
    rw [this]; exact hb
  · intro h
    exact ⟨y.data.toList, by rw [List.mem_mergeSort, List.mem_map]; exact ⟨y, h, rfl⟩, ba_ext (by simp)⟩
theorem srtS_sorted {xs : List ByteArray} (h : xs.Nodup) : (srtS xs).Pairwise (fun a b => sLt a b = true) := by
  unfold srtS
  rw [List.pairwise_map]
  have h1 : ((xs.map fun b : ByteArray => b.data.toList).mergeSort fun x y => decide (x ≤ y)).Pairwise (fun a b => decide (a ≤ b) = true) :=
    List.pairwise_mergeSort (fun a b c => by simp only [decide_eq_true_iff]; exact List.le_trans) (fun a b => by simp only [Bool.or_eq_true, decide_eq_true_iff]; exact List.le_total a b) _
  have h2 : ((xs.map fun b : ByteArray => b.data.toList).mergeSort fun x y => decide (x ≤ y)).Nodup := by
    rw [(List.mergeSort_perm _ _).nodup_iff]
    unfold List.Nodup
    rw [List.pairwise_map]
    exact h.imp fun hne e => hne (ba_ext e)
  refine (h1.and h2).imp ?_
  rintro a b ⟨h3, h4⟩
  rw [sLt_iff]
  rcases (List.le_iff_lt_or_eq.1 (of_decide_eq_true h3)) with e | e
  · simpa using e
  · exact absurd e h4
/-- The places of a network. -/
def placesV (n : YNetwork) : List ByteArray := (namesOf n).foldl insS []
theorem impl_places {n : YNetwork} (h : NetFit n) : m_impl_PlacesOf n = some (placesV n) := by
  unfold m_impl_PlacesOf
  rw [if_pos ⟨h.legs, List.all_eq_true.2 fun l hl => decide_eq_true (by have := h.leg l hl; unfold legFit B60 at this; unfold maxLen; omega)⟩]
  congr 1
  exact sorted_eq (r := fun a b => sLt a b = true) sLt_irr sLt_as (srtS_sorted (dd_nodup List.nodup_nil)) (foldS_sorted List.Pairwise.nil) fun x => by
    rw [srtS_mem, dd_mem]; unfold placesV; rw [foldS_mem]
/-- A loop that counts as_ long as_ a test holds. -/
theorem iter_tw {α : Type} {xs : List α} {p : α → Bool} {body : Int → Option (Int ⊕ Int)} (h1 : ∀ i (hi : i < xs.length), body (i : Int) = some (if p xs[i] = true then .inl ((i + 1 : Nat) : Int) else .inr (i : Int))) (h2 : body (xs.length : Int) = some (.inr (xs.length : Int))) (hN : xs.length < NN) :
    iterF body NN 0 = some ((xs.takeWhile p).length : Int) := by
  have key : ∀ (ys : List α) (i N : Nat), xs.drop i = ys → i ≤ xs.length → ys.length < N → iterF body N (i : Int) = some ((i + (ys.takeWhile p).length : Nat) : Int) := by
    intro ys
    induction ys with
    | nil =>
      intro i N hd hi hN
      cases N with
      | zero => omega
      | succ N =>
        have : i = xs.length := by have := congrArg List.length hd; simp at this; omega
        subst this
        simp only [iterF, h2]
        rfl
    | cons y ys ih =>
      intro i N hd hi hN
      cases N with
      | zero => simp at hN
      | succ N =>
        have hy : xs[i]? = some y := by
          have := congrArg (fun l => l[0]?) hd
          simpa using this
        have hlt : i < xs.length := (List.getElem?_eq_some_iff.1 hy).1
        have hyv : xs[i] = y := (List.getElem?_eq_some_iff.1 hy).2
        have hd' : xs.drop (i + 1) = ys := by
          have := congrArg (List.drop 1) hd
          simpa [List.drop_drop] using this
        simp only [iterF, h1 i hlt, hyv]
        cases hp : p y with
        | true =>
          simp only [if_true]
          have := ih (i + 1) N hd' hlt (by simp at hN; omega)
          refine this.trans ?_
          rw [List.takeWhile_cons_of_pos hp]
          congr 2
          simp; omega
        | false =>
          simp only [Bool.false_eq_true, if_false]
          rw [List.takeWhile_cons_of_neg (by simp [hp])]
          rfl
  simpa using key xs 0 NN rfl (Nat.zero_le _) hN
theorem insS_eq (p : ByteArray) : ∀ (xs : List ByteArray), insS xs p =
    if xs[(xs.takeWhile fun x => sLt x p).length]? = some p then xs else xs.take (xs.takeWhile fun x => sLt x p).length ++ [p] ++ xs.drop (xs.takeWhile fun x => sLt x p).length
  | [] => by simp [insS]
  | x :: xs => by
    unfold insS
    cases h : sLt x p with
    | true =>
      simp only [if_true]
      rw [List.takeWhile_cons_of_pos (by exact h), insS_eq p xs]
      simp only [List.length_cons, List.getElem?_cons_succ, List.take_succ_cons, List.drop_succ_cons]
      split <;> simp
    | false =>
      rw [List.takeWhile_cons_of_neg (by simp [h])]
      simp only [List.length_nil, List.getElem?_cons_zero, List.take_zero, List.drop_zero, Option.some.injEq, Bool.false_eq_true, if_false]
      split <;> simp
/-- One round of the reference's loop. -/
theorem spec_ins {out : List ByteArray} {p : ByteArray} {i' : Int} (hl : out.length ≤ 4194304) :
    (cond (decide (((out.takeWhile fun x => sLt x p).length : Int) = (out.length : Int)))
     ((chk (slOk 0 ((out.takeWhile fun x => sLt x p).length : Int) out.length)).bind fun _ =>
     (chk (appOk ((([] : List ByteArray) : List ByteArray).length + ((subL out 0 ((out.takeWhile fun x => sLt x p).length : Int)) : List ByteArray).length) 16)).bind fun _ =>
     (chk (appOk ((((([] : List ByteArray) : List ByteArray) ++ (subL out 0 ((out.takeWhile fun x => sLt x p).length : Int))) : List ByteArray).length + ([p] : List ByteArray).length) 16)).bind fun _ =>
     (chk (slOk ((out.takeWhile fun x => sLt x p).length : Int) (out.length : Int) out.length)).bind fun _ =>
     (chk (appOk ((((((([] : List ByteArray) : List ByteArray) ++ (subL out 0 ((out.takeWhile fun x => sLt x p).length : Int))) : List ByteArray) ++ [p]) : List ByteArray).length + ((subL out ((out.takeWhile fun x => sLt x p).length : Int) (out.length : Int)) : List ByteArray).length) 16)).bind fun _ =>
     (some (.inl (i', ((((((([] : List ByteArray) : List ByteArray) ++ (subL out 0 ((out.takeWhile fun x => sLt x p).length : Int))) : List ByteArray) ++ [p]) : List ByteArray) ++ (subL out ((out.takeWhile fun x => sLt x p).length : Int) (out.length : Int))))) : Option ((Int × List ByteArray) ⊕ List ByteArray)))
     ((getI out ((out.takeWhile fun x => sLt x p).length : Int)).bind fun y4 =>
     cond (!decide (y4 = p))
     ((chk (slOk 0 ((out.takeWhile fun x => sLt x p).length : Int) out.length)).bind fun _ =>
     (chk (appOk ((([] : List ByteArray) : List ByteArray).length + ((subL out 0 ((out.takeWhile fun x => sLt x p).length : Int)) : List ByteArray).length) 16)).bind fun _ =>
     (chk (appOk ((((([] : List ByteArray) : List ByteArray) ++ (subL out 0 ((out.takeWhile fun x => sLt x p).length : Int))) : List ByteArray).length + ([p] : List ByteArray).length) 16)).bind fun _ =>
     (chk (slOk ((out.takeWhile fun x => sLt x p).length : Int) (out.length : Int) out.length)).bind fun _ =>
     (chk (appOk ((((((([] : List ByteArray) : List ByteArray) ++ (subL out 0 ((out.takeWhile fun x => sLt x p).length : Int))) : List ByteArray) ++ [p]) : List ByteArray).length + ((subL out ((out.takeWhile fun x => sLt x p).length : Int) (out.length : Int)) : List ByteArray).length) 16)).bind fun _ =>
     some (.inl (i', ((((((([] : List ByteArray) : List ByteArray) ++ (subL out 0 ((out.takeWhile fun x => sLt x p).length : Int))) : List ByteArray) ++ [p]) : List ByteArray) ++ (subL out ((out.takeWhile fun x => sLt x p).length : Int) (out.length : Int))))))
     (some (.inl (i', out))))) = some (.inl (i', insS out p)) := by
  have hk : (out.takeWhile fun x => sLt x p).length ≤ out.length := (List.takeWhile_sublist _).length_le
  rw [insS_eq]
  generalize hkk : (out.takeWhile fun x => sLt x p).length = k at *
  have e1 : subL out 0 (k : Int) = out.take k := by simp [subL]
  have e2 : subL out (k : Int) (out.length : Int) = out.drop k := by
    unfold subL
    rw [Int.toNat_natCast, Int.toNat_natCast, List.take_of_length_le (by simp)]
  have c1 : chk (slOk 0 (k : Int) out.length) = some () := chk_t (by unfold slOk; rw [decide_eq_true_iff]; omega)
  have c2 : chk (slOk (k : Int) (out.length : Int) out.length) = some () := chk_t (by unfold slOk; rw [decide_eq_true_iff]; omega)
  have ap : ∀ n : Nat, n ≤ 8388608 → chk (appOk n 16) = some () := fun n hn => chk_t (by unfold appOk; rw [decide_eq_true_iff]; omega)
  simp only [e1, e2, c1, c2, Option.bind_some, List.nil_append]
  rw [ap _ (by simp; omega), ap _ (by simp; omega), ap _ (by simp; omega)]
  simp only [Option.bind_some]
  by_cases hke : (k : Int) = out.length
  · have hke' : k = out.length := by omega
    rw [decide_eq_true hke, cond_true, if_neg (by rw [hke']; simp)]
  · rw [decide_eq_false hke, cond_false, getI_nat]
    have hlt : k < out.length := by omega
    rw [List.getElem?_eq_getElem hlt]
    simp only [Option.bind_some]
    by_cases he : out[k] = p
    · rw [decide_eq_true he, if_pos (by rw [he])]; rfl
    · rw [decide_eq_false he, if_neg (by simpa using he)]; rfl
theorem names_get {n : YNetwork} {i : Nat} (h : i < n.legs.length) : (namesOf n)[2 * i]? = some n.legs[i].from_ ∧ (namesOf n)[2 * i + 1]? = some n.legs[i].to_ := by
  unfold namesOf
  have key : ∀ (l : List YLeg) (i : Nat) (h : i < l.length), (l.flatMap fun x => [x.from_, x.to_])[2 * i]? = some l[i].from_ ∧ (l.flatMap fun x => [x.from_, x.to_])[2 * i + 1]? = some l[i].to_ := by
    intro l
    induction l with
    | nil => intro i h; simp at h
    | cons a l ih =>
      intro i h
      cases i with
      | zero => simp [List.flatMap_cons]
      | succ i =>
        have := ih i (by simpa using h)
        simp only [List.flatMap_cons, List.getElem_cons_succ]
        rw [show 2 * (i + 1) = 2 * i + 2 by omega, show 2 * i + 2 + 1 = 2 * i + 1 + 2 by omega]
        simpa using this
  exact key n.legs i h
theorem names_len (n : YNetwork) : (namesOf n).length = 2 * n.legs.length := by
  unfold namesOf
  induction n.legs with
  | nil => rfl
  | cons a l ih => simp only [List.flatMap_cons, List.length_append, ih, List.length_cons, List.length_nil]; omega
theorem twL {out : List ByteArray} {p : ByteArray} (hl : out.length ≤ 4194304) {body : Int → Option (Int ⊕ Int)} (hb : ∀ i : Int, body i = cond (decide (i < (out.length : Int))) ((getI out i).bind fun y => cond (sLt y p) (some (.inl (w64 (i + 1)))) (some (.inr i))) (some (.inr i))) :
    iterF body NN 0 = some ((out.takeWhile fun x => sLt x p).length : Int) := by
  refine iter_tw (fun i hi => ?_) ?_ (by unfold NN; omega)
  · have hw := w64_nat hi (by omega)
    have hg : getI out (i : Int) = some out[i] := by rw [getI_nat]; exact List.getElem?_eq_getElem hi
    rw [hb, decide_eq_true (show (i : Int) < out.length by omega), cond_true, hg]
    simp only [Option.bind_some, hw]
    cases sLt out[i] p <;> rfl
  · rw [hb, decide_eq_false (by omega)]; rfl
theorem spec_round {n : YNetwork} (h : n.legs.length ≤ 1048576) {i : Nat} {p : ByteArray} (hp : (namesOf n)[i]? = some p) {out : List ByteArray} (ho : out.length ≤ 4194304) :
    m_spec_PlacesOf_b0 n ((i : Int), out) = some (.inl (((i + 1 : Nat) : Int), insS out p)) := by
  have hi : i < 2 * n.legs.length := by rw [← names_len]; exact (List.getElem?_eq_some_iff.1 hp).1
  have hw2 : w64 (2 * (n.legs.length : Int)) = 2 * n.legs.length := w64_in (by omega)
  have hdiv : IntKind.i64.wrap (Int.tdiv (i : Int) 2) = ((i / 2 : Nat) : Int) := by
    rw [show Int.tdiv (i : Int) 2 = ((i / 2 : Nat) : Int) from rfl]
    exact w64_in (by omega)
  have hmod : Int.tmod (i : Int) 2 = ((i % 2 : Nat) : Int) := rfl
  have hw : w64 ((i : Int) + 1) = ((i + 1 : Nat) : Int) := w64_nat hi (by omega)
  have hlt : i / 2 < n.legs.length := by omega
  have hg : getI n.legs ((i / 2 : Nat) : Int) = some n.legs[i / 2] := by rw [getI_nat]; exact List.getElem?_eq_getElem hlt
  obtain ⟨n1, n2⟩ := names_get hlt
  unfold m_spec_PlacesOf_b0
  simp only [hw2, hdiv, hmod, hw, hg, Option.bind_some]
  rw [decide_eq_true (show (i : Int) < 2 * (n.legs.length : Int) by omega), cond_true]
  rcases Nat.mod_two_eq_zero_or_one i with hm | hm
  · rw [hm, decide_eq_false (show ¬ ((0 : Nat) : Int) = 1 by omega), cond_false]
    have hp' : p = n.legs[i / 2].from_ := by
      rw [show i = 2 * (i / 2) by omega, n1] at hp
      exact (Option.some.inj hp).symm
    rw [← hp']
    rw [twL ho (body := m_spec_PlacesOf_b2 n ((i : Int), out) n.legs[i / 2]) (p := p) (fun j => by rw [hp']; rfl)]
    exact spec_ins ho
  · rw [hm, decide_eq_true (show ((1 : Nat) : Int) = 1 by omega), cond_true]
    have hp' : p = n.legs[i / 2].to_ := by
      rw [show i = 2 * (i / 2) + 1 by omega] at hp
      rw [n2] at hp
      exact (Option.some.inj hp).symm
    rw [← hp']
    rw [twL ho (body := m_spec_PlacesOf_b1 n ((i : Int), out) n.legs[i / 2]) (p := p) (fun j => by rw [hp']; rfl)]
    exact spec_ins ho
theorem spec_places {n : YNetwork} (h : n.legs.length ≤ 1048576) : m_spec_PlacesOf n = some (placesV n) := by
  have key : ∀ (ps : List ByteArray) (i N : Nat) (out : List ByteArray), (namesOf n).drop i = ps → i ≤ (namesOf n).length → ps.length < N → out.length ≤ i → iterF (m_spec_PlacesOf_b0 n) N ((i : Int), out) = some (ps.foldl insS out) := by
    have hnl := names_len n
    intro ps
    induction ps with
    | nil =>
      intro i N out hd hi hN ho
      cases N with
      | zero => omega
      | succ N =>
        have : i = (namesOf n).length := by have := congrArg List.length hd; simp at this; omega
        subst this
        have hw2 : w64 (2 * (n.legs.length : Int)) = 2 * n.legs.length := w64_in (by omega)
        simp only [iterF, m_spec_PlacesOf_b0, hw2]
        rw [decide_eq_false (by rw [hnl]; omega)]
        rfl
    | cons p ps ih =>
      intro i N out hd hi hN ho
      cases N with
      | zero => simp at hN
      | succ N =>
        have hp : (namesOf n)[i]? = some p := by
          have := congrArg (fun l => l[0]?) hd
          simpa using this
        have hlt := (List.getElem?_eq_some_iff.1 hp).1
        have hd' : (namesOf n).drop (i + 1) = ps := by
          have := congrArg (List.drop 1) hd
          simpa [List.drop_drop] using this
        simp only [iterF, spec_round h hp (show out.length ≤ 4194304 by omega)]
        exact ih (i + 1) N (insS out p) hd' hlt (by simp at hN; omega) (by have := insS_len (p := p) (xs := out); omega)
  have hnl := names_len n
  unfold m_spec_PlacesOf
  rw [show ((0 : Int)) = ((0 : Nat) : Int) from rfl, key (namesOf n) 0 NN [] rfl (Nat.zero_le _) (by unfold NN; omega) (by simp)]
  rfl
theorem places_eq {n : YNetwork} (h : NetFit n) : m_impl_PlacesOf n = m_spec_PlacesOf n ∧ m_spec_PlacesOf n = some (placesV n) := ⟨(impl_places h).trans (spec_places h.legs).symm, spec_places h.legs⟩
theorem placesV_len (n : YNetwork) : (placesV n).length ≤ 2 * n.legs.length := by
  have := foldS_len (l := namesOf n) (acc := [])
  rw [names_len] at this
  simpa [placesV] using this
end Go.Proofs.YtmcdjilbkmhfoaaGreat

/- The mirror of impl_hasBooking, and that the code does just that (printed by a program of my own). -/
namespace Go.Proofs.YtmcdjilbkmhfoaaGreat
set_option maxRecDepth 10000
open Go.RowKit
set_option linter.unusedVariables false
set_option maxHeartbeats 16000000
def m_impl_hasBooking_b0 (w : YWorld) (id : Int) (t : YTrip) (s0 : Int) : Option (Int ⊕ (Unit ⊕ Bool)) :=
 cond (decide (s0 < (w.bookings.length : Int)))
 ((getI w.bookings s0).bind fun y1 =>
 cond (decide (y1.thing = id))
 (cond (decide (y1.trip = t))
 ((getI w.orders (w64 (id - 1))).bind fun y2 =>
 some (.inr (.inr (decide (y1.weight = y2.weight)))))
 (some (.inl (w64 (s0 + 1)))))
 (some (.inl (w64 (s0 + 1)))))
 (some (.inr (.inl ())))
instance (w : YWorld) (id : Int) (t : YTrip) : LoopE (m_impl_hasBooking_b0 w id t) := ⟨fun s0 => [.un, vi id, .un, .be 0 0 0, .un, .be 1 0 0, .un, .un, .un, .un, .sl (w.bookings.map cBooking), vi (w.bookings.length : Int), vi s0, .un, .un, .un, .un, .un, .un, .un, .un, .un, .un, .un, .un, .un, .un, .un, .un, .un, .un, .un, .un, .un, .un, .un, .un], fun s0 => [some ⟨41, 10, [[.sl (w.network.legs.map cLeg), .sl (w.network.off.map cInt), vi w.network.change, .sl (w.orders.map cOrder), .sl (w.bookings.map cBooking), .sl (w.closed.map cTrip), vi w.now, .sl (w.scans.map cScan), .sl (w.skip.map cInt), vi w.made]]⟩, some ⟨55, 2, [[vi t.leg, vi t.day]]⟩]⟩
def m_impl_hasBooking (w : YWorld) (id : Int) (t : YTrip) : Option Bool :=
 (iterF (m_impl_hasBooking_b0 w id t) NN 0).bind (selim (fun o0 =>
 some false) (fun r => some r))
theorem ok_impl_hasBooking (w : YWorld) (id : Int) (t : YTrip) {r : Bool} (H : m_impl_hasBooking w id t = some r) : CallM Tryz.prog 207 [.ag (cWorld w), vi id, .ag (cTrip t)] [] (vb r) [] := by
  replace H := H0 H
  unfold m_impl_hasBooking at H
  refine callM_of Tryz.func207 rfl Tryz.ntmps207 Tryz.results207 fun Q hQ hQn => ?_
  exact wk
instance (w : YWorld) (id : Int) (t : YTrip) : CT Tryz.prog (m_impl_hasBooking w id t) := ⟨207, [.ag (cWorld w), vi id, .ag (cTrip t)], [], fun r => vb r, fun r => [], ok_impl_hasBooking w id t⟩
end Go.Proofs.YtmcdjilbkmhfoaaGreat

/- The mirror of spec_l10Booked, and that the code does just that (printed by a program of my own). -/
namespace Go.Proofs.YtmcdjilbkmhfoaaGreat
set_option maxRecDepth 10000
open Go.RowKit
set_option linter.unusedVariables false
set_option maxHeartbeats 16000000
def m_spec_l10Booked_b0 (l : List YBooking) (thing : Int) (t : YTrip) (weight : Int) (s0 : Int) : Option (Int ⊕ (Unit ⊕ Bool)) :=
 cond (decide (s0 < (l.length : Int)))
 ((getI l s0).bind fun y1 =>
 cond (decide (y1 = (⟨thing, t, weight⟩ : YBooking)))
 (some (.inr (.inr true)))
 (some (.inl (w64 (s0 + 1)))))
 (some (.inr (.inl ())))
instance (l : List YBooking) (thing : Int) (t : YTrip) (weight : Int) : LoopE (m_spec_l10Booked_b0 l thing t weight) := ⟨fun s0 => [.sl (l.map cBooking), vi thing, .un, vi weight, .un, .un, .be 0 0 0, .un, .un, vi s0, .un, .un, .un, .un, .un, .un, .un, .un, .un, .un, .un, .un, .un, .un, .un], fun s0 => [some ⟨55, 2, [[vi t.leg, vi t.day]]⟩]⟩
def m_spec_l10Booked (l : List YBooking) (thing : Int) (t : YTrip) (weight : Int) : Option Bool :=
 (iterF (m_spec_l10Booked_b0 l thing t weight) NN 0).bind (selim (fun o0 =>
 some false) (fun r => some r))
theorem ok_spec_l10Booked (l : List YBooking) (thing : Int) (t : YTrip) (weight : Int) {r : Bool} (H : m_spec_l10Booked l thing t weight = some r) : CallM Tryz.prog 186 [.sl (l.map cBooking), vi thing, .ag (cTrip t), vi weight] [] (vb r) [] := by
  replace H := H0 H
  unfold m_spec_l10Booked at H
  refine callM_of Tryz.func186 rfl Tryz.ntmps186 Tryz.results186 fun Q hQ hQn => ?_
  exact wk
instance (l : List YBooking) (thing : Int) (t : YTrip) (weight : Int) : CT Tryz.prog (m_spec_l10Booked l thing t weight) := ⟨186, [.sl (l.map cBooking), vi thing, .ag (cTrip t), vi weight], [], fun r => vb r, fun r => [], ok_spec_l10Booked l thing t weight⟩
end Go.Proofs.YtmcdjilbkmhfoaaGreat

/- The two sides' tests of scans, ways and orders answer alike: parts. -/
namespace Go.Proofs.YtmcdjilbkmhfoaaGreat
set_option maxRecDepth 10000
open Go.RowKit
set_option linter.unusedVariables false
set_option linter.unusedSimpArgs false
/-- A loop that looks for the first element that passes. -/
theorem iter_fidx {α ο : Type} {xs : List α} {p : α → Bool} {body : Int → Option (Int ⊕ ο)} {f : Nat → ο} {e : ο} (h1 : ∀ i (hi : i < xs.length), body (i : Int) = some (if p xs[i] = true then .inr (f i) else .inl ((i + 1 : Nat) : Int))) (h2 : body (xs.length : Int) = some (.inr e)) (hN : xs.length < NN) :
    iterF body NN 0 = some ((xs.findIdx? p).elim e f) := by
  have key : ∀ (ys : List α) (i N : Nat), xs.drop i = ys → i ≤ xs.length → ys.length < N → iterF body N (i : Int) = some ((ys.findIdx? p).elim e fun k => f (i + k)) := by
    intro ys
    induction ys with
    | nil =>
      intro i N hd hi hN
      cases N with
      | zero => omega
      | succ N =>
        have : i = xs.length := by have := congrArg List.length hd; simp at this; omega
        subst this
        simp only [iterF, h2]
        rfl
    | cons y ys ih =>
      intro i N hd hi hN
      cases N with
      | zero => simp at hN
      | succ N =>
        have hy : xs[i]? = some y := by
          have := congrArg (fun l => l[0]?) hd
          simpa using this
        have hlt : i < xs.length := (List.getElem?_eq_some_iff.1 hy).1
        have hyv : xs[i] = y := (List.getElem?_eq_some_iff.1 hy).2
        have hd' : xs.drop (i + 1) = ys := by
          have := congrArg (List.drop 1) hd
          simpa [List.drop_drop] using this
        simp only [iterF, h1 i hlt, hyv]
        rw [List.findIdx?_cons]
        cases hp : p y with
        | true => simp
        | false =>
          simp only [Bool.false_eq_true, if_false]
          have := ih (i + 1) N hd' hlt (by simp at hN; omega)
          refine this.trans ?_
          cases ys.findIdx? p with
          | none => rfl
          | some k => simp only [Option.map_some, Option.elim_some]; congr 2; omega
  have := key xs 0 NN rfl (Nat.zero_le _) hN
  simpa using this
/-- Where a name stands; -1 if nowhere. -/
def idxV (l : List ByteArray) (p : ByteArray) : Int := (l.findIdx? fun y => decide (y = p)).elim (-1) fun k => (k : Int)
theorem l4Index_v {l : List ByteArray} (h : l.length ≤ 4194304) (p : ByteArray) : m_spec_l4Index l p = some (idxV l p) := by
  unfold m_spec_l4Index
  rw [iter_fidx (xs := l) (p := fun y => decide (y = p)) (f := fun i => .inr (i : Int)) (e := .inl ()) (fun i hi => ?_) (by simp [m_spec_l4Index_b0]) (by unfold NN; omega)]
  · unfold idxV
    cases l.findIdx? fun y => decide (y = p) <;> rfl
  · have hw := w64_nat hi (by omega)
    have hg : getI l (i : Int) = some l[i] := by rw [getI_nat]; exact List.getElem?_eq_getElem hi
    simp only [m_spec_l4Index_b0, decide_eq_true (show (i : Int) < l.length by omega), cond_true, hg, Option.bind_some, hw]
    cases decide (l[i] = p) <;> rfl
/-! Bookings: one for a thing and a trip. -/
def UniqB (l : List YBooking) : Prop := ∀ x ∈ l, ∀ y ∈ l, x.thing = y.thing → x.trip = y.trip → x = y
theorem befB_tr {a b c : YBooking} (h : befB a b = true) (h' : befB b c = true) : befB a c = true := by
  unfold befB at *
  split at h
  · have h1 := of_decide_eq_true h
    split at h'
    · have h2 := of_decide_eq_true h'
      rw [if_pos (by omega)]; exact decide_eq_true (by omega)
    · rename_i h2
      rw [if_pos (by omega)]; exact decide_eq_true (by omega)
  · rename_i h0
    split at h
    · have h1 := of_decide_eq_true h
      split at h'
      · have h2 := of_decide_eq_true h'
        rw [if_pos (by omega)]; exact decide_eq_true (by omega)
      · rename_i h2
        rw [if_neg (by omega)]
        split at h'
        · have h3 := of_decide_eq_true h'
          rw [if_pos (by omega)]; exact decide_eq_true (by omega)
        · rename_i h3
          rw [if_pos (by omega)]; exact decide_eq_true (by omega)
    · rename_i h00
      have h1 := of_decide_eq_true h
      split at h'
      · have h2 := of_decide_eq_true h'
        rw [if_pos (by omega)]; exact decide_eq_true (by omega)
      · rename_i h2
        rw [if_neg (by omega)]
        split at h'
        · have h3 := of_decide_eq_true h'
          rw [if_pos (by omega)]; exact decide_eq_true (by omega)
        · rename_i h3
          have h4 := of_decide_eq_true h'
          rw [if_neg (by omega)]; exact decide_eq_true (by omega)
theorem books_net {n : YNetwork} {l : List YBooking} (h : booksV n l = true) : m_spec_IsNetwork n = some true ∧ l.length ≤ 120 := by
  unfold booksV at h
  simp only [Bool.and_eq_true, decide_eq_true_iff] at h
  refine ⟨?_, by omega⟩
  cases hn : m_spec_IsNetwork n with
  | none => rw [hn] at h; cases h.1.1
  | some b => rw [hn] at h; have := h.1.1; simp at this; rw [this]
theorem books_at {n : YNetwork} {l : List YBooking} (h : booksV n l = true) {i : Nat} (hi : i < l.length) : bk1 n l i = true ∧ bk2 n l i = true := by
  unfold booksV at h
  simp only [Bool.and_eq_true] at h
  have := List.all_eq_true.1 h.2 i (List.mem_range.2 hi)
  simpa only [Bool.and_eq_true] using this
theorem books_lt {n : YNetwork} {l : List YBooking} (h : booksV n l = true) : ∀ (j i : Nat) (hj : j < l.length) (hij : i < j), befB (l[i]'(by omega)) l[j] = true := by
  intro j
  induction j with
  | zero => intro i hj hij; omega
  | succ j ih =>
    intro i hj hij
    have h1 := (books_at h hj).1
    unfold bk1 at h1
    rw [List.getElem?_eq_getElem hj] at h1
    simp only [Nat.add_sub_cancel, List.getElem?_eq_getElem (show j < l.length by omega), Bool.and_eq_true, Bool.or_eq_true, decide_eq_true_iff] at h1
    have h2 : befB l[j] l[j + 1] = true := by
      rcases h1.2 with h3 | h3
      · omega
      · exact h3
    rcases Nat.lt_or_ge i j with h3 | h3
    · exact befB_tr (ih i (by omega) h3) h2
    · have : i = j := by omega
      subst this; exact h2
theorem befB_irr {a b : YBooking} (h1 : a.thing = b.thing) (h2 : a.trip = b.trip) : befB a b = false := by
  unfold befB
  rw [h2, h1]
  simp
theorem books_uniq {n : YNetwork} {l : List YBooking} (h : booksV n l = true) : UniqB l := by
  intro x hx y hy ht htr
  obtain ⟨i, hi, rfl⟩ := List.getElem_of_mem hx
  obtain ⟨j, hj, rfl⟩ := List.getElem_of_mem hy
  rcases Nat.lt_trichotomy i j with h1 | h1 | h1
  · have := books_lt h j i hj h1
    rw [befB_irr ht htr] at this; cases this
  · subst h1; rfl
  · have := books_lt h i j hi h1
    rw [befB_irr ht.symm htr.symm] at this; cases this
def bookedB (l : List YBooking) (thing : Int) (t : YTrip) (wt : Int) : Bool := l.any fun y => decide (y = (⟨thing, t, wt⟩ : YBooking))
theorem booked_v {l : List YBooking} (h : l.length ≤ 1048576) (thing : Int) (t : YTrip) (wt : Int) : m_spec_l10Booked l thing t wt = some (bookedB l thing t wt) := by
  unfold m_spec_l10Booked
  rw [iter_find (xs := l) (p := fun y => decide (y = (⟨thing, t, wt⟩ : YBooking))) (r := .inr true) (e := .inl ()) (fun i hi => ?_) (by simp [m_spec_l10Booked_b0]) (by unfold NN; omega)]
  · unfold bookedB
    cases l.any fun y => decide (y = (⟨thing, t, wt⟩ : YBooking)) <;> rfl
  · have hw := w64_nat hi (by omega)
    have hg : getI l (i : Int) = some l[i] := by rw [getI_nat]; exact List.getElem?_eq_getElem hi
    simp only [m_spec_l10Booked_b0, decide_eq_true (show (i : Int) < l.length by omega), cond_true, hg, Option.bind_some, hw]
    cases decide (l[i] = (⟨thing, t, wt⟩ : YBooking)) <;> rfl
theorem hasBooking_v {w : YWorld} (h : w.bookings.length ≤ 1048576) (hu : UniqB w.bookings) {id : Int} {o : YOrder} (ho : getI w.orders (w64 (id - 1)) = some o) (t : YTrip) : m_impl_hasBooking w id t = some (bookedB w.bookings id t o.weight) := by
  unfold m_impl_hasBooking
  have e : iterF (m_impl_hasBooking_b0 w id t) NN 0 = runL (fun _ (_ : Unit) (x : YBooking) => some (if x.thing = id ∧ x.trip = t then .inr (.inr (decide (x.weight = o.weight))) else .inl ())) (fun _ => some (.inl ())) 0 w.bookings () := by
    refine iter_list (A := Unit) (fun _ i => i) _ _ (fun _ i x hx => ?_) (fun _ => ?_) (by unfold NN; omega) ()
    · have hi := (List.getElem?_eq_some_iff.1 hx).1
      have hw := w64_nat hi (by omega)
      have hg : getI w.bookings (i : Int) = some x := by rw [getI_nat]; exact hx
      simp only [m_impl_hasBooking_b0, decide_eq_true (show (i : Int) < w.bookings.length by omega), cond_true, hg, Option.bind_some, hw, ho]
      by_cases h1 : x.thing = id
      · by_cases h2 : x.trip = t
        · simp [h1, h2]
        · simp [h1, h2]
      · simp [h1]
    · simp [m_impl_hasBooking_b0]
  have key : ∀ (l : List YBooking) (i : Nat), (∀ x ∈ l, x ∈ w.bookings) → runL (fun _ (_ : Unit) (x : YBooking) => some (if x.thing = id ∧ x.trip = t then (.inr (.inr (decide (x.weight = o.weight))) : Unit ⊕ (Unit ⊕ Bool)) else .inl ())) (fun _ => some (Sum.inl () : Unit ⊕ Bool)) i l () = some (if l.any (fun y => decide (y.thing = id ∧ y.trip = t)) = true then Sum.inr (bookedB l id t o.weight) else Sum.inl ()) := by
    intro l
    induction l with
    | nil => intro i _; rfl
    | cons x l ih =>
      intro i hm
      simp only [runL]
      by_cases hc : x.thing = id ∧ x.trip = t
      · rw [if_pos hc]
        simp only [Option.bind_some, List.any_cons, decide_eq_true hc, Bool.true_or, if_true]
        show some (Sum.inr (decide (x.weight = o.weight)) : Unit ⊕ Bool) = _
        congr 2
        unfold bookedB
        rw [List.any_cons]
        by_cases hw : x.weight = o.weight
        · rw [decide_eq_true hw]
          have : x = (⟨id, t, o.weight⟩ : YBooking) := by obtain ⟨a, b, c⟩ := x; simp at hc hw ⊢; exact ⟨hc.1, hc.2, hw⟩
          rw [decide_eq_true this]; rfl
        · rw [decide_eq_false hw]
          symm
          rw [Bool.or_eq_false_iff]
          refine ⟨decide_eq_false (fun e => hw (by rw [e])), ?_⟩
          rw [Bool.eq_false_iff]
          intro h3
          obtain ⟨y, hy, he⟩ := List.any_eq_true.1 h3
          have he := of_decide_eq_true he
          have := hu x (hm x (List.mem_cons_self ..)) y (hm y (List.mem_cons_of_mem _ hy)) (by rw [he]; exact hc.1) (by rw [he]; exact hc.2)
          exact hw (by rw [this, he])
      · rw [if_neg hc]
        simp only [Option.bind_some, selim]
        rw [ih (i + 1) (fun y hy => hm y (List.mem_cons_of_mem _ hy))]
        simp only [List.any_cons, decide_eq_false hc, Bool.false_or]
        have : bookedB (x :: l) id t o.weight = bookedB l id t o.weight := by
          unfold bookedB
          rw [List.any_cons, decide_eq_false (fun e => hc (by rw [e]; exact ⟨rfl, rfl⟩)), Bool.false_or]
        rw [this]
  rw [e, key w.bookings 0 (fun x h => h)]
  cases ha : w.bookings.any (fun y => decide (y.thing = id ∧ y.trip = t)) with
  | true => rfl
  | false =>
    show some false = _
    congr 1
    symm
    unfold bookedB
    rw [Bool.eq_false_iff]
    intro h3
    obtain ⟨y, hy, he⟩ := List.any_eq_true.1 h3
    have he := of_decide_eq_true he
    have := List.any_eq_false.1 ha y hy
    apply this
    rw [he]; simp
theorem coming_v {o : YOrder} (h : 0 ≤ o.gone ∧ o.gone ≤ o.way.length) (hl : o.way.length ≤ 1048576) : ∃ k, m_spec_l10Coming o = some (k : Int) ∧ 0 ≤ k ∧ m_impl_toCome o = some (if (o.way.length : Int) < k then (o.way.length : Int) else k) ∧ k ≤ o.way.length + 1 := by
  unfold m_spec_l10Coming m_impl_toCome
  have hw : w64 (o.gone + 1) = o.gone + 1 := w64_in (by omega)
  simp only [hw]
  cases decide (o.state = 2) with
  | true => exact ⟨o.gone + 1, rfl, by omega, rfl, by omega⟩
  | false => exact ⟨o.gone, rfl, by omega, by rw [if_neg (show ¬ (o.way.length : Int) < o.gone by omega)]; rfl, by omega⟩
end Go.Proofs.YtmcdjilbkmhfoaaGreat

/- The mirror of impl_IsWay, and that the code does just that (printed by a program of my own). -/
namespace Go.Proofs.YtmcdjilbkmhfoaaGreat
set_option maxRecDepth 10000
open Go.RowKit
set_option linter.unusedVariables false
set_option maxHeartbeats 16000000
def m_impl_IsWay_b0 (n : YNetwork) (way : List YTrip) (to_ : ByteArray) (s0 : Int × ByteArray × Int) : Option ((Int × ByteArray × Int) ⊕ (ByteArray ⊕ Bool)) :=
 cond (decide (s0.2.2 < (way.length : Int)))
 ((getI way s0.2.2).bind fun y5 =>
 (m_impl_IsTrip n y5).bind fun y6 =>
 cond (!y6)
 (some (.inr (.inr false)))
 ((getI n.legs y5.leg).bind fun y7 =>
 cond (!decide (y7.from_ = s0.2.1))
 (some (.inr (.inr false)))
 ((m_impl_starts n y5).bind fun y8 =>
 cond (decide (y8 < s0.1))
 (some (.inr (.inr false)))
 ((getI n.legs y5.leg).bind fun y9 =>
 (getI way s0.2.2).bind fun y10 =>
 (m_impl_ends n y10).bind fun y11 =>
 some (.inl ((w64 (y11 + n.change)), y9.to_, (w64 (s0.2.2 + 1))))))))
 (some (.inr (.inl s0.2.1)))
instance (n : YNetwork) (way : List YTrip) (to_ : ByteArray) : LoopE (m_impl_IsWay_b0 n way to_) := ⟨fun s0 => (.un :: .sl (way.map cTrip) :: .un :: vs to_ :: vi s0.1 :: .be 0 0 0 :: .un :: .un :: .un :: .un :: .un :: .un :: vs s0.2.1 :: .un :: .un :: .un :: .un :: .un :: .un :: .un :: .un :: .un :: .un :: .un :: .un :: .un :: .un :: .un :: .un :: .un :: .un :: .un :: .un :: .sl (way.map cTrip) :: vi (way.length : Int) :: vi s0.2.2 :: .un :: .un :: .un :: .un :: .un :: .un :: .un :: .un :: .un :: .un :: .un :: .un :: .un :: .un :: .un :: .un :: .un :: .un :: .un :: .un :: .un :: .un :: .un :: .un :: .un :: .un :: .un :: .un :: .un :: .un :: .un :: .un :: .un :: .un :: .un :: .un :: .un :: .un :: .un :: .un :: .un :: .un :: .un :: .un :: .un :: .un :: []), fun s0 => [some ⟨35, 3, [[.sl (n.legs.map cLeg), .sl (n.off.map cInt), vi n.change]]⟩]⟩
def m_impl_IsWay (n : YNetwork) (way : List YTrip) (from2_ : ByteArray) (to_ : ByteArray) (at4_ : Int) : Option Bool :=
 (m_impl_PlacesOf n).bind fun y1 =>
 (m_impl_IsNetwork n).bind fun y2 =>
 cond (!y2)
 (some false)
 ((m_impl_placeAt y1 from2_).bind fun y3 =>
 cond (decide (y3 < 0))
 (some false)
 ((m_impl_placeAt y1 to_).bind fun y4 =>
 cond (decide (y4 < 0))
 (some false)
 ((iterF (m_impl_IsWay_b0 n way to_) NN (at4_, from2_, 0)).bind (selim (fun o0 =>
 some (decide (o0 = to_))) (fun r => some r)))))
theorem ok_impl_IsWay (n : YNetwork) (way : List YTrip) (from2_ : ByteArray) (to_ : ByteArray) (at4_ : Int) {r : Bool} (H : m_impl_IsWay n way from2_ to_ at4_ = some r) : CallM Tryz.prog 208 [.ag (cNetwork n), .sl (way.map cTrip), vs from2_, vs to_, vi at4_] [] (vb r) [] := by
  replace H := H0 H
  unfold m_impl_IsWay at H
  refine callM_of Tryz.func208 rfl Tryz.ntmps208 Tryz.results208 fun Q hQ hQn => ?_
  exact wk
instance (n : YNetwork) (way : List YTrip) (from2_ : ByteArray) (to_ : ByteArray) (at4_ : Int) : CT Tryz.prog (m_impl_IsWay n way from2_ to_ at4_) := ⟨208, [.ag (cNetwork n), .sl (way.map cTrip), vs from2_, vs to_, vi at4_], [], fun r => vb r, fun r => [], ok_impl_IsWay n way from2_ to_ at4_⟩
end Go.Proofs.YtmcdjilbkmhfoaaGreat

/- The mirror of spec_IsWay, and that the code does just that (printed by a program of my own). -/
namespace Go.Proofs.YtmcdjilbkmhfoaaGreat
set_option maxRecDepth 10000
open Go.RowKit
set_option linter.unusedVariables false
set_option maxHeartbeats 16000000
def m_spec_IsWay_b0 (n : YNetwork) (way : List YTrip) (to_ : ByteArray) (s0 : ByteArray × Int × Int) : Option ((ByteArray × Int × Int) ⊕ (ByteArray ⊕ Bool)) :=
 cond (decide (s0.2.2 < (way.length : Int)))
 ((getI way s0.2.2).bind fun y5 =>
 (m_spec_IsTrip n y5).bind fun y6 =>
 cond (!y6)
 (some (.inr (.inr false)))
 ((getI way s0.2.2).bind fun y7 =>
 (getI n.legs y7.leg).bind fun y8 =>
 cond (!decide (y8.from_ = s0.1))
 (some (.inr (.inr false)))
 ((getI way s0.2.2).bind fun y9 =>
 (m_spec_l3Starts n y9).bind fun y10 =>
 cond (decide (y10 < s0.2.1))
 (some (.inr (.inr false)))
 ((getI way s0.2.2).bind fun y11 =>
 (getI n.legs y11.leg).bind fun y12 =>
 (getI way s0.2.2).bind fun y13 =>
 (m_spec_l3Ends n y13).bind fun y14 =>
 some (.inl (y12.to_, (w64 (y14 + n.change)), (w64 (s0.2.2 + 1))))))))
 (some (.inr (.inl s0.1)))
instance (n : YNetwork) (way : List YTrip) (to_ : ByteArray) : LoopE (m_spec_IsWay_b0 n way to_) := ⟨fun s0 => (.un :: .sl (way.map cTrip) :: .un :: vs to_ :: .un :: .be 0 0 0 :: .un :: .un :: .un :: .un :: .un :: .un :: vs s0.1 :: vi s0.2.1 :: vi s0.2.2 :: .un :: .un :: .un :: .un :: .un :: .un :: .un :: .un :: .un :: .un :: .un :: .un :: .un :: .un :: .un :: .un :: .un :: .un :: .un :: .un :: .un :: .un :: .un :: .un :: .un :: .un :: .un :: .un :: .un :: .un :: .un :: .un :: .un :: .un :: .un :: .un :: .un :: .un :: .un :: .un :: .un :: .un :: .un :: .un :: .un :: .un :: .un :: .un :: .un :: .un :: .un :: .un :: .un :: .un :: .un :: .un :: .un :: .un :: .un :: .un :: .un :: .un :: .un :: .un :: .un :: .un :: .un :: .un :: .un :: .un :: .un :: .un :: .un :: .un :: .un :: .un :: .un :: .un :: []), fun s0 => [some ⟨35, 3, [[.sl (n.legs.map cLeg), .sl (n.off.map cInt), vi n.change]]⟩]⟩
def m_spec_IsWay (n : YNetwork) (way : List YTrip) (from2_ : ByteArray) (to_ : ByteArray) (at4_ : Int) : Option Bool :=
 (m_spec_PlacesOf n).bind fun y1 =>
 (m_spec_IsNetwork n).bind fun y2 =>
 cond (!y2)
 (some false)
 ((m_spec_l4Index y1 from2_).bind fun y3 =>
 cond (decide (y3 < 0))
 (some false)
 ((m_spec_l4Index y1 to_).bind fun y4 =>
 cond (decide (y4 < 0))
 (some false)
 ((iterF (m_spec_IsWay_b0 n way to_) NN (from2_, at4_, 0)).bind (selim (fun o0 =>
 some (decide (o0 = to_))) (fun r => some r)))))
theorem ok_spec_IsWay (n : YNetwork) (way : List YTrip) (from2_ : ByteArray) (to_ : ByteArray) (at4_ : Int) {r : Bool} (H : m_spec_IsWay n way from2_ to_ at4_ = some r) : CallM Tryz.prog 187 [.ag (cNetwork n), .sl (way.map cTrip), vs from2_, vs to_, vi at4_] [] (vb r) [] := by
  replace H := H0 H
  unfold m_spec_IsWay at H
  refine callM_of Tryz.func187 rfl Tryz.ntmps187 Tryz.results187 fun Q hQ hQn => ?_
  exact wk
instance (n : YNetwork) (way : List YTrip) (from2_ : ByteArray) (to_ : ByteArray) (at4_ : Int) : CT Tryz.prog (m_spec_IsWay n way from2_ to_ at4_) := ⟨187, [.ag (cNetwork n), .sl (way.map cTrip), vs from2_, vs to_, vi at4_], [], fun r => vb r, fun r => [], ok_spec_IsWay n way from2_ to_ at4_⟩
end Go.Proofs.YtmcdjilbkmhfoaaGreat

/- The mirror of impl_IsScan, and that the code does just that (printed by a program of my own). -/
namespace Go.Proofs.YtmcdjilbkmhfoaaGreat
set_option maxRecDepth 10000
open Go.RowKit
set_option linter.unusedVariables false
set_option maxHeartbeats 16000000
def m_impl_IsScan (n : YNetwork) (s : YScan) : Option Bool :=
 (m_impl_IsNetwork n).bind fun y1 =>
 cond (!y1)
 (some false)
 ((m_impl_within s.thing 1 9999).bind fun y2 =>
 cond (!y2)
 (some false)
 ((m_impl_within s.at_ 0 100000).bind fun y3 =>
 cond (!y3)
 (some false)
 (cond (decide (s.kind = 1))
 (cond (decide (s.kind = 1))
 ((m_impl_PlacesOf n).bind fun y4 =>
 (m_impl_placeAt y4 s.place).bind fun y5 =>
 cond (decide (0 ≤ y5))
 (some (decide (s.trip = (⟨0, 0⟩ : YTrip))))
 (some false))
 (cond (decide (s.kind = 3))
 (cond (decide (s.place = ⟨#[]⟩))
 ((m_impl_IsTrip n s.trip).bind fun y6 =>
 cond y6
 ((m_impl_starts n s.trip).bind fun y7 =>
 some (decide (s.at_ ≤ y7)))
 (some false))
 (some false))
 (cond (decide (s.kind = 2))
 (cond (decide (s.place = ⟨#[]⟩))
 ((m_impl_IsTrip n s.trip).bind fun y8 =>
 cond y8
 ((m_impl_ends n s.trip).bind fun y9 =>
 some (decide (y9 ≤ s.at_)))
 (some false))
 (some false))
 (some false))))
 (cond (decide (s.kind = 4))
 ((m_impl_PlacesOf n).bind fun y10 =>
 (m_impl_placeAt y10 s.place).bind fun y11 =>
 cond (decide (0 ≤ y11))
 (some (decide (s.trip = (⟨0, 0⟩ : YTrip))))
 (some false))
 (cond (decide (s.kind = 3))
 (cond (decide (s.place = ⟨#[]⟩))
 ((m_impl_IsTrip n s.trip).bind fun y12 =>
 cond y12
 ((m_impl_starts n s.trip).bind fun y13 =>
 some (decide (s.at_ ≤ y13)))
 (some false))
 (some false))
 (cond (decide (s.kind = 2))
 (cond (decide (s.place = ⟨#[]⟩))
 ((m_impl_IsTrip n s.trip).bind fun y14 =>
 cond y14
 ((m_impl_ends n s.trip).bind fun y15 =>
 some (decide (y15 ≤ s.at_)))
 (some false))
 (some false))
 (some false)))))))
theorem ok_impl_IsScan (n : YNetwork) (s : YScan) {r : Bool} (H : m_impl_IsScan n s = some r) : CallM Tryz.prog 140 [.ag (cNetwork n), .ag (cScan s)] [] (vb r) [] := by
  replace H := H0 H
  unfold m_impl_IsScan at H
  refine callM_of Tryz.func140 rfl Tryz.ntmps140 Tryz.results140 fun Q hQ hQn => ?_
  exact wk
instance (n : YNetwork) (s : YScan) : CT Tryz.prog (m_impl_IsScan n s) := ⟨140, [.ag (cNetwork n), .ag (cScan s)], [], fun r => vb r, fun r => [], ok_impl_IsScan n s⟩
end Go.Proofs.YtmcdjilbkmhfoaaGreat

/- The mirror of spec_IsScan, and that the code does just that (printed by a program of my own). -/
namespace Go.Proofs.YtmcdjilbkmhfoaaGreat
set_option maxRecDepth 10000
open Go.RowKit
set_option linter.unusedVariables false
set_option maxHeartbeats 16000000
def m_spec_IsScan (n : YNetwork) (s : YScan) : Option Bool :=
 (m_spec_IsNetwork n).bind fun y1 =>
 cond (!y1)
 (some false)
 ((m_spec_l1In s.thing 1 9999).bind fun y2 =>
 cond (!y2)
 (some false)
 ((m_spec_l1In s.at_ 0 100000).bind fun y3 =>
 cond (!y3)
 (some false)
 (cond (decide (s.kind = 1))
 (cond (decide (s.kind = 1))
 ((m_spec_PlacesOf n).bind fun y4 =>
 (m_spec_l4Index y4 s.place).bind fun y5 =>
 cond (decide (0 ≤ y5))
 (some (decide (s.trip = (⟨0, 0⟩ : YTrip))))
 (some false))
 (cond (decide (s.kind = 3))
 (cond (decide (s.place = ⟨#[]⟩))
 ((m_spec_IsTrip n s.trip).bind fun y6 =>
 cond y6
 ((m_spec_l3Starts n s.trip).bind fun y7 =>
 some (decide (s.at_ ≤ y7)))
 (some false))
 (some false))
 (cond (decide (s.kind = 2))
 (cond (decide (s.place = ⟨#[]⟩))
 ((m_spec_IsTrip n s.trip).bind fun y8 =>
 cond y8
 ((m_spec_l3Ends n s.trip).bind fun y9 =>
 some (decide (y9 ≤ s.at_)))
 (some false))
 (some false))
 (some false))))
 (cond (decide (s.kind = 4))
 ((m_spec_PlacesOf n).bind fun y10 =>
 (m_spec_l4Index y10 s.place).bind fun y11 =>
 cond (decide (0 ≤ y11))
 (some (decide (s.trip = (⟨0, 0⟩ : YTrip))))
 (some false))
 (cond (decide (s.kind = 3))
 (cond (decide (s.place = ⟨#[]⟩))
 ((m_spec_IsTrip n s.trip).bind fun y12 =>
 cond y12
 ((m_spec_l3Starts n s.trip).bind fun y13 =>
 some (decide (s.at_ ≤ y13)))
 (some false))
 (some false))
 (cond (decide (s.kind = 2))
 (cond (decide (s.place = ⟨#[]⟩))
 ((m_spec_IsTrip n s.trip).bind fun y14 =>
 cond y14
 ((m_spec_l3Ends n s.trip).bind fun y15 =>
 some (decide (y15 ≤ s.at_)))
 (some false))
 (some false))
 (some false)))))))
theorem ok_spec_IsScan (n : YNetwork) (s : YScan) {r : Bool} (H : m_spec_IsScan n s = some r) : CallM Tryz.prog 110 [.ag (cNetwork n), .ag (cScan s)] [] (vb r) [] := by
  replace H := H0 H
  unfold m_spec_IsScan at H
  refine callM_of Tryz.func110 rfl Tryz.ntmps110 Tryz.results110 fun Q hQ hQn => ?_
  exact wk
instance (n : YNetwork) (s : YScan) : CT Tryz.prog (m_spec_IsScan n s) := ⟨110, [.ag (cNetwork n), .ag (cScan s)], [], fun r => vb r, fun r => [], ok_spec_IsScan n s⟩
end Go.Proofs.YtmcdjilbkmhfoaaGreat

/- The two sides' tests of scans and ways answer alike. -/
namespace Go.Proofs.YtmcdjilbkmhfoaaGreat
set_option maxRecDepth 10000
open Go.RowKit
set_option linter.unusedVariables false
set_option linter.unusedSimpArgs false
/-- Two loops that go side by side. -/
theorem iter_sim {σ τ ο : Type} {f : σ → Option (σ ⊕ ο)} {g : τ → Option (τ ⊕ ο)} (φ : σ → τ) (h : ∀ s, g (φ s) = (f s).bind (selim (fun s' => some (.inl (φ s'))) (fun r => some (.inr r)))) : ∀ (N : Nat) (s : σ), iterF g N (φ s) = iterF f N s
  | 0, s => rfl
  | N + 1, s => by
    simp only [iterF, h]
    cases f s with
    | none => rfl
    | some o =>
      cases o with
      | inl s' => exact iter_sim φ h N s'
      | inr r => rfl
theorem trip_leg {n : YNetwork} (h : NetFit n) {t : YTrip} (ht : m_spec_IsTrip n t = some true) : ∃ y, getI n.legs t.leg = some y := by
  unfold m_spec_IsTrip m_spec_RunsOn at ht
  obtain ⟨_, b, hb⟩ := isNetwork_eq h
  obtain ⟨_, b2, hb2⟩ := runs_eq h t.leg t.day
  rw [hb] at ht
  simp only [Option.bind_some, hb2] at ht
  cases b with
  | false => simp at ht
  | true =>
    simp at ht
    subst ht
    exact runs_leg h hb2
theorem starts_some {n : YNetwork} {t : YTrip} {y : YLeg} (h : getI n.legs t.leg = some y) : ∃ v, m_spec_l3Starts n t = some v := by
  unfold m_spec_l3Starts; rw [h]; exact ⟨_, rfl⟩
theorem isScan_eq {n : YNetwork} (h : NetFit n) (s : YScan) : m_impl_IsScan n s = m_spec_IsScan n s := by
  unfold m_impl_IsScan m_spec_IsScan
  rw [(isNetwork_eq h).1, within_eq, (places_eq h).1, (isTrip_eq h s.trip).1, starts_eq, ends_eq, placeAt_eq]
theorem isScan_some {n : YNetwork} (h : NetFit n) (s : YScan) : ∃ b, m_spec_IsScan n s = some b := by
  obtain ⟨_, b, hb⟩ := isNetwork_eq h
  have hp := (places_eq h).2
  have hpl := placesV_len n
  have hl := h.legs
  obtain ⟨_, b2, hb2⟩ := isTrip_eq h s.trip
  unfold m_spec_IsScan
  rw [hb, hp, hb2]
  simp only [Option.bind_some, l1In_v, l4Index_v (show (placesV n).length ≤ 4194304 by omega)]
  cases b with
  | false => exact ⟨_, rfl⟩
  | true =>
    cases decide (1 ≤ s.thing) && decide (s.thing ≤ 9999) <;> try exact ⟨_, rfl⟩
    cases decide (0 ≤ s.at_) && decide (s.at_ ≤ 100000) <;> try exact ⟨_, rfl⟩
    cases decide (0 ≤ idxV (placesV n) s.place)
    all_goals
      cases b2 with
      | false => cases decide (s.kind = 1) <;> cases decide (s.kind = 3) <;> cases decide (s.kind = 2) <;> cases decide (s.kind = 4) <;> cases decide (s.place = ⟨#[]⟩) <;> exact ⟨_, rfl⟩
      | true =>
        obtain ⟨y, hy⟩ := trip_leg h hb2
        obtain ⟨v1, hv1⟩ := starts_some hy
        obtain ⟨v2, hv2⟩ := ends_some hy
        rw [hv1, hv2]
        cases decide (s.kind = 1) <;> cases decide (s.kind = 3) <;> cases decide (s.kind = 2) <;> cases decide (s.kind = 4) <;> cases decide (s.place = ⟨#[]⟩) <;> exact ⟨_, rfl⟩
theorem isWay_eq {n : YNetwork} (h : NetFit n) (way : List YTrip) (a b : ByteArray) (t : Int) : m_impl_IsWay n way a b t = m_spec_IsWay n way a b t := by
  have e : iterF (m_impl_IsWay_b0 n way b) NN (t, a, 0) = iterF (m_spec_IsWay_b0 n way b) NN (a, t, 0) := by
    refine iter_sim (f := m_spec_IsWay_b0 n way b) (fun s : ByteArray × Int × Int => (s.2.1, s.1, s.2.2)) (fun s => ?_) NN (a, t, 0)
    unfold m_impl_IsWay_b0 m_spec_IsWay_b0
    simp only
    cases decide (s.2.2 < (way.length : Int)) with
    | false => rfl
    | true =>
      simp only [cond_true]
      cases hg : getI way s.2.2 with
      | none => rfl
      | some y =>
        simp only [Option.bind_some, (isTrip_eq h y).1, starts_eq, ends_eq]
        cases m_spec_IsTrip n y with
        | none => rfl
        | some c =>
          cases c with
          | false => rfl
          | true =>
            simp only [Option.bind_some, Bool.not_true, cond_false]
            cases getI n.legs y.leg with
            | none => rfl
            | some g =>
              simp only [Option.bind_some]
              cases decide (g.from_ = s.1) with
              | false => rfl
              | true =>
                simp only [Bool.not_true, cond_false]
                cases m_spec_l3Starts n y with
                | none => rfl
                | some v =>
                  simp only [Option.bind_some]
                  cases decide (v < s.2.1) with
                  | true => rfl
                  | false =>
                    simp only [cond_false]
                    cases m_spec_l3Ends n y <;> rfl
  unfold m_impl_IsWay m_spec_IsWay
  rw [(isNetwork_eq h).1, (places_eq h).1, placeAt_eq, e]
theorem isWay_some {n : YNetwork} (h : NetFit n) {way : List YTrip} (hw : way.length ≤ 1048576) (a b : ByteArray) (t : Int) : ∃ r, m_spec_IsWay n way a b t = some r := by
  obtain ⟨_, b1, hb⟩ := isNetwork_eq h
  have hp := (places_eq h).2
  have hpl := placesV_len n
  have hl := h.legs
  have e : ∃ o, iterF (m_spec_IsWay_b0 n way b) NN (a, t, 0) = some o := by
    refine iter_tot (fun k s => ∃ i : Nat, i + k = way.length ∧ s.2.2 = (i : Int)) ?_ NN way.length _ ⟨0, by omega, rfl⟩ (by unfold NN; omega)
    rintro k ⟨p, r, s⟩ ⟨i, hi, hs⟩
    simp only at hs
    subst hs
    unfold m_spec_IsWay_b0
    rcases Nat.lt_or_ge i way.length with hlt | hge
    · have hw := w64_nat hlt (by omega)
      have hg : getI way (i : Int) = some way[i] := by rw [getI_nat]; exact List.getElem?_eq_getElem hlt
      obtain ⟨_, c, hc⟩ := isTrip_eq h way[i]
      simp only [decide_eq_true (show (i : Int) < way.length by omega), cond_true, hg, Option.bind_some, hc, hw]
      cases c with
      | false => exact ⟨_, rfl, fun s' e => by cases e⟩
      | true =>
        obtain ⟨y, hy⟩ := trip_leg h hc
        obtain ⟨v1, hv1⟩ := starts_some hy
        obtain ⟨v2, hv2⟩ := ends_some hy
        simp only [hy, hv1, hv2, Option.bind_some, Bool.not_true, cond_false]
        cases decide (y.from_ = p) with
        | false => exact ⟨_, rfl, fun s' e => by cases e⟩
        | true =>
          simp only [Bool.not_true, cond_false]
          cases decide (v1 < r) with
          | true => exact ⟨_, rfl, fun s' e => by cases e⟩
          | false => exact ⟨_, rfl, fun s' e => by cases e; exact ⟨k - 1, by omega, i + 1, by omega, rfl⟩⟩
    · simp only [decide_eq_false (show ¬ (i : Int) < way.length by omega), cond_false]
      exact ⟨_, rfl, fun s' e => by cases e⟩
  obtain ⟨o, ho⟩ := e
  unfold m_spec_IsWay
  rw [hp, hb]
  simp only [Option.bind_some, l4Index_v (show (placesV n).length ≤ 4194304 by omega), ho]
  cases b1 with
  | false => exact ⟨_, rfl⟩
  | true => cases decide (idxV (placesV n) a < 0) <;> cases decide (idxV (placesV n) b < 0) <;> cases o <;> exact ⟨_, rfl⟩
end Go.Proofs.YtmcdjilbkmhfoaaGreat

/- The mirror of impl_isOrder, and that the code does just that (printed by a program of my own). -/
namespace Go.Proofs.YtmcdjilbkmhfoaaGreat
set_option maxRecDepth 10000
open Go.RowKit
set_option linter.unusedVariables false
set_option maxHeartbeats 16000000
def m_impl_isOrder_b0 (w : YWorld) (id : Int) (y1 : YOrder) (s0 : ByteArray × Int) : Option ((ByteArray × Int) ⊕ (ByteArray ⊕ Bool)) :=
 cond (decide (s0.2 < (y1.way.length : Int)))
 ((getI y1.way s0.2).bind fun y9 =>
 (m_impl_IsTrip w.network y9).bind fun y10 =>
 cond (!y10)
 (some (.inr (.inr false)))
 ((m_impl_hasBooking w id y9).bind fun y11 =>
 cond (!y11)
 (some (.inr (.inr false)))
 ((m_impl_toCome y1).bind fun y12 =>
 cond (decide (y12 ≤ s0.2))
 ((m_impl_hasTrip w.closed y9).bind fun y13 =>
 cond y13
 (some (.inr (.inr false)))
 ((getI w.network.legs y9.leg).bind fun y14 =>
 cond (decide (y14.to_ = y1.to_))
 (cond (decide (s0.2 < (w64 ((y1.way.length : Int) - 1))))
 (some (.inr (.inr false)))
 (some (.inl (y14.to_, (w64 (s0.2 + 1))))))
 (some (.inl (y14.to_, (w64 (s0.2 + 1)))))))
 ((getI w.network.legs y9.leg).bind fun y15 =>
 cond (decide (y15.to_ = y1.to_))
 (cond (decide (s0.2 < (w64 ((y1.way.length : Int) - 1))))
 (some (.inr (.inr false)))
 (some (.inl (y15.to_, (w64 (s0.2 + 1))))))
 (some (.inl (y15.to_, (w64 (s0.2 + 1)))))))))
 (some (.inr (.inl s0.1)))
instance (w : YWorld) (id : Int) (y1 : YOrder) : LoopE (m_impl_isOrder_b0 w id y1) := ⟨fun s0 => (.un :: vi id :: .un :: .be 0 0 0 :: .un :: .un :: .un :: .be 1 0 0 :: vs s0.1 :: .un :: .un :: .un :: .un :: .un :: .un :: .un :: .un :: .un :: .un :: .un :: .un :: .un :: .un :: .un :: .un :: .un :: .un :: .un :: .un :: .un :: .un :: .un :: .un :: .un :: .un :: .un :: .un :: .un :: .un :: .un :: .un :: .un :: .un :: .un :: .un :: .un :: .un :: .un :: .un :: .un :: .un :: .un :: .un :: .un :: .un :: .un :: .un :: .un :: .un :: .un :: .un :: .un :: .un :: .un :: .un :: .un :: .un :: .un :: .un :: .un :: .un :: .un :: .un :: .un :: .sl (y1.way.map cTrip) :: vi (y1.way.length : Int) :: vi s0.2 :: .un :: .un :: .un :: .un :: .un :: .un :: .un :: .un :: .un :: .un :: .un :: .un :: .un :: .un :: .un :: .un :: .un :: .un :: .un :: .un :: .un :: .un :: .un :: .un :: .un :: .un :: .un :: .un :: .un :: .un :: .un :: .un :: .un :: .un :: .un :: .un :: .un :: .un :: .un :: .un :: .un :: .un :: .un :: .un :: .un :: .un :: .un :: .un :: .un :: .un :: .un :: .un :: .un :: .un :: .un :: .un :: .un :: .un :: .un :: .un :: .un :: .un :: .un :: .un :: .un :: []), fun s0 => [some ⟨41, 10, [[.sl (w.network.legs.map cLeg), .sl (w.network.off.map cInt), vi w.network.change, .sl (w.orders.map cOrder), .sl (w.bookings.map cBooking), .sl (w.closed.map cTrip), vi w.now, .sl (w.scans.map cScan), .sl (w.skip.map cInt), vi w.made]]⟩, some ⟨62, 11, [[vs y1.from_, vs y1.to_, vi y1.service, vi y1.weight, vi y1.at_, vi y1.due, .sl (y1.way.map cTrip), vi y1.gone, vi y1.state, vs y1.place, vi y1.ended]]⟩]⟩
def m_impl_isOrder (w : YWorld) (id : Int) (places : List ByteArray) : Option Bool :=
 (getI w.orders (w64 (id - 1))).bind fun y1 =>
 cond (decide (y1.from_ = y1.to_))
 (some false)
 ((m_impl_placeAt places y1.from_).bind fun y2 =>
 cond (decide (y2 < 0))
 (some false)
 ((m_impl_placeAt places y1.to_).bind fun y3 =>
 cond (decide (y3 < 0))
 (some false)
 ((m_impl_within y1.service 1 3).bind fun y4 =>
 cond (!y4)
 (some false)
 ((m_impl_within y1.weight 1 30000).bind fun y5 =>
 cond (!y5)
 (some false)
 ((m_impl_within y1.at_ 0 w.now).bind fun y6 =>
 cond (!y6)
 (some false)
 ((m_impl_within y1.due 0 200000).bind fun y7 =>
 cond (!y7)
 (some false)
 ((m_impl_within y1.gone 0 (y1.way.length : Int)).bind fun y8 =>
 cond (!y8)
 (some false)
 ((iterF (m_impl_isOrder_b0 w id y1) NN (y1.from_, 0)).bind (selim (fun o0 =>
 (m_impl_IsWay w.network y1.way y1.from_ o0 (w64 (y1.at_ + 1))).bind fun y16 =>
 cond y16
 ((m_impl_isState w y1).bind fun y17 =>
 some y17)
 (some false)) (fun r => some r))))))))))
theorem ok_impl_isOrder (w : YWorld) (id : Int) (places : List ByteArray) {r : Bool} (H : m_impl_isOrder w id places = some r) : CallM Tryz.prog 142 [.ag (cWorld w), vi id, .sl (places.map cStr)] [] (vb r) [] := by
  replace H := H0 H
  unfold m_impl_isOrder at H
  refine callM_of Tryz.func142 rfl Tryz.ntmps142 Tryz.results142 fun Q hQ hQn => ?_
  exact wk
instance (w : YWorld) (id : Int) (places : List ByteArray) : CT Tryz.prog (m_impl_isOrder w id places) := ⟨142, [.ag (cWorld w), vi id, .sl (places.map cStr)], [], fun r => vb r, fun r => [], ok_impl_isOrder w id places⟩
end Go.Proofs.YtmcdjilbkmhfoaaGreat

/- The mirror of spec_l10Order, and that the code does just that (printed by a program of my own). -/
namespace Go.Proofs.YtmcdjilbkmhfoaaGreat
set_option maxRecDepth 10000
open Go.RowKit
set_option linter.unusedVariables false
set_option maxHeartbeats 16000000
def m_spec_l10Order_b0 (w : YWorld) (i : Int) (y1 : YOrder) (s0 : ByteArray × Int) : Option ((ByteArray × Int) ⊕ (ByteArray ⊕ Bool)) :=
 cond (decide (s0.2 < (y1.way.length : Int)))
 ((getI y1.way s0.2).bind fun y10 =>
 (getI y1.way s0.2).bind fun y11 =>
 (m_spec_l3Runs w.network y10.leg y11.day).bind fun y12 =>
 cond (!y12)
 (some (.inr (.inr false)))
 ((getI y1.way s0.2).bind fun y13 =>
 (m_spec_l10Booked w.bookings (w64 (i + 1)) y13 y1.weight).bind fun y14 =>
 cond (!y14)
 (some (.inr (.inr false)))
 ((getI y1.way s0.2).bind fun y15 =>
 (getI w.network.legs y15.leg).bind fun y16 =>
 cond (decide (y16.to_ = y1.to_))
 (cond (decide ((w64 (s0.2 + 1)) < (y1.way.length : Int)))
 (some (.inr (.inr false)))
 (some (.inl (y16.to_, (w64 (s0.2 + 1))))))
 (some (.inl (y16.to_, (w64 (s0.2 + 1))))))))
 (some (.inr (.inl s0.1)))
instance (w : YWorld) (i : Int) (y1 : YOrder) : LoopE (m_spec_l10Order_b0 w i y1) := ⟨fun s0 => (.un :: vi i :: .be 0 0 0 :: .un :: .un :: .be 1 0 0 :: .be 2 0 0 :: .un :: vs s0.1 :: vi s0.2 :: .un :: .un :: .un :: .un :: .un :: .un :: .un :: .un :: .un :: .un :: .un :: .un :: .un :: .un :: .un :: .un :: .un :: .un :: .un :: .un :: .un :: .un :: .un :: .un :: .un :: .un :: .un :: .un :: .un :: .un :: .un :: .un :: .un :: .un :: .un :: .un :: .un :: .un :: .un :: .un :: .un :: .un :: .un :: .un :: .un :: .un :: .un :: .un :: .un :: .un :: .un :: .un :: .un :: .un :: .un :: .un :: .un :: .un :: .un :: .un :: .un :: .un :: .un :: .un :: .un :: .un :: .un :: .un :: .un :: .un :: .un :: .un :: .un :: .un :: .un :: .un :: .un :: .un :: .un :: .un :: .un :: .un :: .un :: .un :: .un :: .un :: .un :: .un :: .un :: .un :: .un :: .un :: .un :: .un :: .un :: .un :: .un :: .un :: .un :: .un :: .un :: .un :: .un :: .un :: .un :: .un :: .un :: .un :: .un :: .un :: .un :: .un :: .un :: .un :: .un :: .un :: .un :: .un :: .un :: .un :: .un :: .un :: .un :: .un :: .un :: .un :: .un :: .un :: .un :: .un :: .un :: .un :: .un :: .un :: .un :: .un :: .un :: .un :: .un :: .un :: .un :: .un :: .un :: .un :: .un :: .un :: .un :: .un :: .un :: .un :: .un :: .un :: .un :: .un :: .un :: .un :: .un :: .un :: .un :: .un :: .un :: .un :: []), fun s0 => [some ⟨41, 10, [[.sl (w.network.legs.map cLeg), .sl (w.network.off.map cInt), vi w.network.change, .sl (w.orders.map cOrder), .sl (w.bookings.map cBooking), .sl (w.closed.map cTrip), vi w.now, .sl (w.scans.map cScan), .sl (w.skip.map cInt), vi w.made]]⟩, some ⟨35, 3, [[.sl (w.network.legs.map cLeg), .sl (w.network.off.map cInt), vi w.network.change]]⟩, some ⟨62, 11, [[vs y1.from_, vs y1.to_, vi y1.service, vi y1.weight, vi y1.at_, vi y1.due, .sl (y1.way.map cTrip), vi y1.gone, vi y1.state, vs y1.place, vi y1.ended]]⟩]⟩
def m_spec_l10Order_b1 (w : YWorld) (y1 : YOrder) (s1 : Int) : Option (Int ⊕ (Unit ⊕ Bool)) :=
 cond (decide (s1 < (y1.way.length : Int)))
 ((getI y1.way s1).bind fun y20 =>
 (m_spec_l6Closed w.closed y20).bind fun y21 =>
 cond y21
 (some (.inr (.inr false)))
 (some (.inl (w64 (s1 + 1)))))
 (some (.inr (.inl ())))
instance (w : YWorld) (y1 : YOrder) : LoopE (m_spec_l10Order_b1 w y1) := ⟨fun s1 => (.un :: .un :: .be 0 0 0 :: .un :: .un :: .un :: .be 1 0 0 :: .un :: .un :: .un :: vi s1 :: .un :: .un :: .un :: .un :: .un :: .un :: .un :: .un :: .un :: .un :: .un :: .un :: .un :: .un :: .un :: .un :: .un :: .un :: .un :: .un :: .un :: .un :: .un :: .un :: .un :: .un :: .un :: .un :: .un :: .un :: .un :: .un :: .un :: .un :: .un :: .un :: .un :: .un :: .un :: .un :: .un :: .un :: .un :: .un :: .un :: .un :: .un :: .un :: .un :: .un :: .un :: .un :: .un :: .un :: .un :: .un :: .un :: .un :: .un :: .un :: .un :: .un :: .un :: .un :: .un :: .un :: .un :: .un :: .un :: .un :: .un :: .un :: .un :: .un :: .un :: .un :: .un :: .un :: .un :: .un :: .un :: .un :: .un :: .un :: .un :: .un :: .un :: .un :: .un :: .un :: .un :: .un :: .un :: .un :: .un :: .un :: .un :: .un :: .un :: .un :: .un :: .un :: .un :: .un :: .un :: .un :: .un :: .un :: .un :: .un :: .un :: .un :: .un :: .un :: .un :: .un :: .un :: .un :: .un :: .un :: .un :: .un :: .un :: .un :: .un :: .un :: .un :: .un :: .un :: .un :: .un :: .un :: .un :: .un :: .un :: .un :: .un :: .un :: .un :: .un :: .un :: .un :: .un :: .un :: .un :: .un :: .un :: .un :: .un :: .un :: .un :: .un :: .un :: .un :: .un :: .un :: .un :: .un :: .un :: .un :: .un :: []), fun s1 => [some ⟨41, 10, [[.sl (w.network.legs.map cLeg), .sl (w.network.off.map cInt), vi w.network.change, .sl (w.orders.map cOrder), .sl (w.bookings.map cBooking), .sl (w.closed.map cTrip), vi w.now, .sl (w.scans.map cScan), .sl (w.skip.map cInt), vi w.made]]⟩, some ⟨62, 11, [[vs y1.from_, vs y1.to_, vi y1.service, vi y1.weight, vi y1.at_, vi y1.due, .sl (y1.way.map cTrip), vi y1.gone, vi y1.state, vs y1.place, vi y1.ended]]⟩]⟩
def m_spec_l10Order (w : YWorld) (i : Int) : Option Bool :=
 (getI w.orders i).bind fun y1 =>
 (m_spec_PlacesOf w.network).bind fun y2 =>
 (m_spec_l4Index y2 y1.from_).bind fun y3 =>
 cond (decide (y3 < 0))
 (some false)
 ((m_spec_l4Index y2 y1.to_).bind fun y4 =>
 cond (decide (y4 < 0))
 (some false)
 (cond (decide (y1.from_ = y1.to_))
 (some false)
 ((m_spec_l1In y1.service 1 3).bind fun y5 =>
 cond (!y5)
 (some false)
 ((m_spec_l1In y1.weight 1 30000).bind fun y6 =>
 cond (!y6)
 (some false)
 ((m_spec_l1In y1.at_ 0 w.now).bind fun y7 =>
 cond (!y7)
 (some false)
 ((m_spec_l1In y1.due 0 200000).bind fun y8 =>
 cond (!y8)
 (some false)
 ((m_spec_l1In y1.gone 0 (y1.way.length : Int)).bind fun y9 =>
 cond (!y9)
 (some false)
 ((iterF (m_spec_l10Order_b0 w i y1) NN (y1.from_, 0)).bind (selim (fun o0 =>
 (m_spec_IsWay w.network y1.way y1.from_ o0 (w64 (y1.at_ + 1))).bind fun y17 =>
 cond (!y17)
 (some false)
 ((m_spec_l10State w.network y1 w.now).bind fun y18 =>
 cond (!y18)
 (some false)
 ((m_spec_l10Coming y1).bind fun y19 =>
 (iterF (m_spec_l10Order_b1 w y1) NN y19).bind (selim (fun o1 =>
 some true) (fun r => some r))))) (fun r => some r))))))))))
theorem ok_spec_l10Order (w : YWorld) (i : Int) {r : Bool} (H : m_spec_l10Order w i = some r) : CallM Tryz.prog 111 [.ag (cWorld w), vi i] [] (vb r) [] := by
  replace H := H0 H
  unfold m_spec_l10Order at H
  refine callM_of Tryz.func111 rfl Tryz.ntmps111 Tryz.results111 fun Q hQ hQn => ?_
  exact wk
instance (w : YWorld) (i : Int) : CT Tryz.prog (m_spec_l10Order w i) := ⟨111, [.ag (cWorld w), vi i], [], fun r => vb r, fun r => [], ok_spec_l10Order w i⟩
end Go.Proofs.YtmcdjilbkmhfoaaGreat

/- The mirror of impl_IsWorld, and that the code does just that (printed by a program of my own). -/
namespace Go.Proofs.YtmcdjilbkmhfoaaGreat
set_option maxRecDepth 10000
open Go.RowKit
set_option linter.unusedVariables false
set_option maxHeartbeats 16000000
def m_impl_IsWorld_b0 (w : YWorld) (s0 : Int) : Option (Int ⊕ (Unit ⊕ Bool)) :=
 cond (decide (s0 < (w.closed.length : Int)))
 ((getI w.closed s0).bind fun y4 =>
 (m_impl_IsTrip w.network y4).bind fun y5 =>
 cond (!y5)
 (some (.inr (.inr false)))
 ((chk (slOk 0 s0 w.closed.length)).bind fun _ =>
 (m_impl_hasTrip (subL w.closed 0 s0) y4).bind fun y6 =>
 cond y6
 (some (.inr (.inr false)))
 (some (.inl (w64 (s0 + 1))))))
 (some (.inr (.inl ())))
instance (w : YWorld) : LoopE (m_impl_IsWorld_b0 w) := ⟨fun s0 => (.un :: .be 0 0 0 :: .un :: .be 1 0 0 :: .un :: .un :: .un :: .un :: .un :: .un :: .un :: .un :: .un :: .un :: .un :: .un :: .un :: .un :: .un :: .un :: .un :: .un :: .un :: .un :: .un :: .un :: .un :: .un :: .un :: .un :: .un :: .un :: .un :: .un :: .un :: .un :: .un :: .un :: .un :: .un :: .un :: .un :: .un :: .un :: .un :: .un :: .un :: .un :: .un :: .un :: .un :: .un :: .un :: .un :: .un :: .un :: .un :: .un :: .un :: .sl (w.closed.map cTrip) :: vi (w.closed.length : Int) :: vi s0 :: .un :: .un :: .un :: .un :: .un :: .un :: .un :: .un :: .un :: .un :: .un :: .un :: .un :: .un :: .un :: .un :: .un :: .un :: .un :: .un :: .un :: .un :: .un :: .un :: .un :: .un :: .un :: .un :: .un :: .un :: .un :: .un :: .un :: .un :: .un :: .un :: .un :: .un :: .un :: .un :: .un :: .un :: .un :: .un :: .un :: .un :: .un :: .un :: .un :: .un :: .un :: .un :: .un :: .un :: .un :: .un :: .un :: .un :: .un :: .un :: .un :: .un :: .un :: []), fun s0 => [some ⟨41, 10, [[.sl (w.network.legs.map cLeg), .sl (w.network.off.map cInt), vi w.network.change, .sl (w.orders.map cOrder), .sl (w.bookings.map cBooking), .sl (w.closed.map cTrip), vi w.now, .sl (w.scans.map cScan), .sl (w.skip.map cInt), vi w.made]]⟩, some ⟨35, 3, [[.sl (w.network.legs.map cLeg), .sl (w.network.off.map cInt), vi w.network.change]]⟩]⟩
def m_impl_IsWorld_b1 (w : YWorld) (s1 : Int) : Option (Int ⊕ (Unit ⊕ Bool)) :=
 cond (decide (s1 < (w.scans.length : Int)))
 ((getI w.scans s1).bind fun y7 =>
 (m_impl_IsScan w.network y7).bind fun y8 =>
 cond (!y8)
 (some (.inr (.inr false)))
 (cond (decide (w.now < y7.at_))
 (some (.inr (.inr false)))
 (some (.inl (w64 (s1 + 1))))))
 (some (.inr (.inl ())))
instance (w : YWorld) : LoopE (m_impl_IsWorld_b1 w) := ⟨fun s1 => (.un :: .be 0 0 0 :: .un :: .be 1 0 0 :: .un :: .un :: .un :: .un :: .un :: .un :: .un :: .un :: .un :: .un :: .un :: .un :: .un :: .un :: .un :: .un :: .un :: .un :: .un :: .un :: .un :: .un :: .un :: .un :: .un :: .un :: .un :: .un :: .un :: .un :: .un :: .un :: .un :: .un :: .un :: .un :: .un :: .un :: .un :: .un :: .un :: .un :: .un :: .un :: .un :: .un :: .un :: .un :: .un :: .un :: .un :: .un :: .un :: .un :: .un :: .un :: .un :: .un :: .un :: .un :: .un :: .un :: .un :: .un :: .un :: .un :: .un :: .un :: .un :: .un :: .un :: .un :: .un :: .un :: .un :: .un :: .sl (w.scans.map cScan) :: vi (w.scans.length : Int) :: vi s1 :: .un :: .un :: .un :: .un :: .un :: .un :: .un :: .un :: .un :: .un :: .un :: .un :: .un :: .un :: .un :: .un :: .un :: .un :: .un :: .un :: .un :: .un :: .un :: .un :: .un :: .un :: .un :: .un :: .un :: .un :: .un :: .un :: .un :: .un :: .un :: .un :: .un :: .un :: .un :: .un :: .un :: .un :: []), fun s1 => [some ⟨41, 10, [[.sl (w.network.legs.map cLeg), .sl (w.network.off.map cInt), vi w.network.change, .sl (w.orders.map cOrder), .sl (w.bookings.map cBooking), .sl (w.closed.map cTrip), vi w.now, .sl (w.scans.map cScan), .sl (w.skip.map cInt), vi w.made]]⟩, some ⟨35, 3, [[.sl (w.network.legs.map cLeg), .sl (w.network.off.map cInt), vi w.network.change]]⟩]⟩
def m_impl_IsWorld_b2 (w : YWorld) (y9 : List ByteArray) (s2 : Int × Int) : Option ((Int × Int) ⊕ (Int ⊕ Bool)) :=
 cond (decide (s2.2 < (w.orders.length : Int)))
 ((getI w.orders s2.2).bind fun y10 =>
 (m_impl_isOrder w (w64 (s2.2 + 1)) y9).bind fun y11 =>
 cond (!y11)
 (some (.inr (.inr false)))
 (some (.inl ((w64 (s2.1 + (y10.way.length : Int))), (w64 (s2.2 + 1))))))
 (some (.inr (.inl s2.1)))
instance (w : YWorld) (y9 : List ByteArray) : LoopE (m_impl_IsWorld_b2 w y9) := ⟨fun s2 => (.un :: .be 0 0 0 :: .un :: .un :: .un :: .un :: .un :: .un :: .ms 1 :: vi s2.1 :: .un :: .un :: .un :: .un :: .un :: .un :: .un :: .un :: .un :: .un :: .un :: .un :: .un :: .un :: .un :: .un :: .un :: .un :: .un :: .un :: .un :: .un :: .un :: .un :: .un :: .un :: .un :: .un :: .un :: .un :: .un :: .un :: .un :: .un :: .un :: .un :: .un :: .un :: .un :: .un :: .un :: .un :: .un :: .un :: .un :: .un :: .un :: .un :: .un :: .un :: .un :: .un :: .un :: .un :: .un :: .un :: .un :: .un :: .un :: .un :: .un :: .un :: .un :: .un :: .un :: .un :: .un :: .un :: .un :: .un :: .un :: .un :: .un :: .un :: .un :: .un :: .un :: .un :: .un :: .un :: .un :: .un :: .un :: .un :: .un :: .un :: .un :: .un :: .un :: .un :: .un :: .sl (w.orders.map cOrder) :: vi (w.orders.length : Int) :: vi s2.2 :: .un :: .un :: .un :: .un :: .un :: .un :: .un :: .un :: .un :: .un :: .un :: .un :: .un :: .un :: .un :: .un :: .un :: .un :: .un :: .un :: .un :: []), fun s2 => [some ⟨41, 10, [[.sl (w.network.legs.map cLeg), .sl (w.network.off.map cInt), vi w.network.change, .sl (w.orders.map cOrder), .sl (w.bookings.map cBooking), .sl (w.closed.map cTrip), vi w.now, .sl (w.scans.map cScan), .sl (w.skip.map cInt), vi w.made]]⟩, some ⟨9, 1, y9.map cStr⟩]⟩
def m_impl_IsWorld (w : YWorld) : Option Bool :=
 (m_impl_AreBookings w.network w.bookings).bind fun y1 =>
 cond (!y1)
 (some false)
 ((m_impl_within w.now 0 100000).bind fun y2 =>
 cond (!y2)
 (some false)
 (cond (decide (30 < (w.orders.length : Int)))
 (some false)
 (cond (decide (20 < (w.closed.length : Int)))
 (some false)
 (cond (decide (200 < (w.scans.length : Int)))
 (some false)
 (cond (decide (50 < (w.skip.length : Int)))
 (some false)
 ((m_impl_within w.made (w.scans.length : Int) 1000000000).bind fun y3 =>
 cond (!y3)
 (some false)
 ((iterF (m_impl_IsWorld_b0 w) NN 0).bind (selim (fun o0 =>
 (iterF (m_impl_IsWorld_b1 w) NN 0).bind (selim (fun o1 =>
 (m_impl_PlacesOf w.network).bind fun y9 =>
 (iterF (m_impl_IsWorld_b2 w y9) NN (0, 0)).bind (selim (fun o2 =>
 some (decide (o2 = (w.bookings.length : Int)))) (fun r => some r))) (fun r => some r))) (fun r => some r)))))))))
theorem ok_impl_IsWorld (w : YWorld) {r : Bool} (H : m_impl_IsWorld w = some r) : CallM Tryz.prog 48 [.ag (cWorld w)] [] (vb r) [] := by
  replace H := H0 H
  unfold m_impl_IsWorld at H
  refine callM_of Tryz.func48 rfl Tryz.ntmps48 Tryz.results48 fun Q hQ hQn => ?_
  exact wk
instance (w : YWorld) : CT Tryz.prog (m_impl_IsWorld w) := ⟨48, [.ag (cWorld w)], [], fun r => vb r, fun r => [], ok_impl_IsWorld w⟩
end Go.Proofs.YtmcdjilbkmhfoaaGreat

/- The mirror of spec_IsWorld, and that the code does just that (printed by a program of my own). -/
namespace Go.Proofs.YtmcdjilbkmhfoaaGreat
set_option maxRecDepth 10000
open Go.RowKit
set_option linter.unusedVariables false
set_option maxHeartbeats 16000000
def m_spec_IsWorld_b0 (w : YWorld) (s0 : Int) : Option (Int ⊕ (Unit ⊕ Bool)) :=
 cond (decide (s0 < (w.closed.length : Int)))
 ((getI w.closed s0).bind fun y4 =>
 (getI w.closed s0).bind fun y5 =>
 (m_spec_l3Runs w.network y4.leg y5.day).bind fun y6 =>
 cond (!y6)
 (some (.inr (.inr false)))
 ((chk (slOk 0 s0 w.closed.length)).bind fun _ =>
 (getI w.closed s0).bind fun y7 =>
 (m_spec_l6Closed (subL w.closed 0 s0) y7).bind fun y8 =>
 cond y8
 (some (.inr (.inr false)))
 (some (.inl (w64 (s0 + 1))))))
 (some (.inr (.inl ())))
instance (w : YWorld) : LoopE (m_spec_IsWorld_b0 w) := ⟨fun s0 => (.un :: .be 0 0 0 :: .un :: vi s0 :: .un :: .un :: .un :: .un :: .un :: .un :: .un :: .un :: .un :: .un :: .un :: .un :: .un :: .un :: .un :: .un :: .un :: .un :: .un :: .un :: .un :: .un :: .un :: .un :: .un :: .un :: .un :: .un :: .un :: .un :: .un :: .un :: .un :: .un :: .un :: .un :: .un :: .un :: .un :: .un :: .un :: .un :: .un :: .un :: .un :: .un :: .un :: .un :: .un :: .un :: .un :: .un :: .un :: .un :: .un :: .un :: .un :: .un :: .un :: .un :: .un :: .un :: .un :: .un :: .un :: .un :: .un :: .un :: .un :: .un :: .un :: .un :: .un :: .un :: .un :: .un :: .un :: .un :: .un :: .un :: .un :: .un :: .un :: .un :: .un :: .un :: .un :: .un :: .un :: .un :: .un :: .un :: .un :: .un :: .un :: .un :: .un :: .un :: .un :: .un :: .un :: .un :: .un :: .un :: .un :: .un :: .un :: .un :: .un :: .un :: .un :: .un :: .un :: .un :: .un :: .un :: .un :: .un :: .un :: .un :: .un :: .un :: .un :: .un :: .un :: .un :: .un :: .un :: .un :: .un :: .un :: .un :: .un :: .un :: .un :: []), fun s0 => [some ⟨41, 10, [[.sl (w.network.legs.map cLeg), .sl (w.network.off.map cInt), vi w.network.change, .sl (w.orders.map cOrder), .sl (w.bookings.map cBooking), .sl (w.closed.map cTrip), vi w.now, .sl (w.scans.map cScan), .sl (w.skip.map cInt), vi w.made]]⟩]⟩
def m_spec_IsWorld_b1 (w : YWorld) (s1 : Int) : Option (Int ⊕ (Unit ⊕ Bool)) :=
 cond (decide (s1 < (w.scans.length : Int)))
 ((getI w.scans s1).bind fun y9 =>
 (m_spec_IsScan w.network y9).bind fun y10 =>
 cond (!y10)
 (some (.inr (.inr false)))
 ((getI w.scans s1).bind fun y11 =>
 cond (decide (w.now < y11.at_))
 (some (.inr (.inr false)))
 (some (.inl (w64 (s1 + 1))))))
 (some (.inr (.inl ())))
instance (w : YWorld) : LoopE (m_spec_IsWorld_b1 w) := ⟨fun s1 => (.un :: .be 0 0 0 :: .un :: .un :: vi s1 :: .un :: .un :: .un :: .un :: .un :: .un :: .un :: .un :: .un :: .un :: .un :: .un :: .un :: .un :: .un :: .un :: .un :: .un :: .un :: .un :: .un :: .un :: .un :: .un :: .un :: .un :: .un :: .un :: .un :: .un :: .un :: .un :: .un :: .un :: .un :: .un :: .un :: .un :: .un :: .un :: .un :: .un :: .un :: .un :: .un :: .un :: .un :: .un :: .un :: .un :: .un :: .un :: .un :: .un :: .un :: .un :: .un :: .un :: .un :: .un :: .un :: .un :: .un :: .un :: .un :: .un :: .un :: .un :: .un :: .un :: .un :: .un :: .un :: .un :: .un :: .un :: .un :: .un :: .un :: .un :: .un :: .un :: .un :: .un :: .un :: .un :: .un :: .un :: .un :: .un :: .un :: .un :: .un :: .un :: .un :: .un :: .un :: .un :: .un :: .un :: .un :: .un :: .un :: .un :: .un :: .un :: .un :: .un :: .un :: .un :: .un :: .un :: .un :: .un :: .un :: .un :: .un :: .un :: .un :: .un :: .un :: .un :: .un :: .un :: .un :: .un :: .un :: .un :: .un :: .un :: .un :: .un :: .un :: .un :: []), fun s1 => [some ⟨41, 10, [[.sl (w.network.legs.map cLeg), .sl (w.network.off.map cInt), vi w.network.change, .sl (w.orders.map cOrder), .sl (w.bookings.map cBooking), .sl (w.closed.map cTrip), vi w.now, .sl (w.scans.map cScan), .sl (w.skip.map cInt), vi w.made]]⟩]⟩
def m_spec_IsWorld_b2 (w : YWorld) (s2 : Int × Int) : Option ((Int × Int) ⊕ (Int ⊕ Bool)) :=
 cond (decide (s2.2 < (w.orders.length : Int)))
 ((m_spec_l10Order w s2.2).bind fun y12 =>
 cond (!y12)
 (some (.inr (.inr false)))
 ((getI w.orders s2.2).bind fun y13 =>
 some (.inl ((w64 (s2.1 + (y13.way.length : Int))), (w64 (s2.2 + 1))))))
 (some (.inr (.inl s2.1)))
instance (w : YWorld) : LoopE (m_spec_IsWorld_b2 w) := ⟨fun s2 => (.un :: .be 0 0 0 :: .un :: .un :: .un :: vi s2.1 :: vi s2.2 :: .un :: .un :: .un :: .un :: .un :: .un :: .un :: .un :: .un :: .un :: .un :: .un :: .un :: .un :: .un :: .un :: .un :: .un :: .un :: .un :: .un :: .un :: .un :: .un :: .un :: .un :: .un :: .un :: .un :: .un :: .un :: .un :: .un :: .un :: .un :: .un :: .un :: .un :: .un :: .un :: .un :: .un :: .un :: .un :: .un :: .un :: .un :: .un :: .un :: .un :: .un :: .un :: .un :: .un :: .un :: .un :: .un :: .un :: .un :: .un :: .un :: .un :: .un :: .un :: .un :: .un :: .un :: .un :: .un :: .un :: .un :: .un :: .un :: .un :: .un :: .un :: .un :: .un :: .un :: .un :: .un :: .un :: .un :: .un :: .un :: .un :: .un :: .un :: .un :: .un :: .un :: .un :: .un :: .un :: .un :: .un :: .un :: .un :: .un :: .un :: .un :: .un :: .un :: .un :: .un :: .un :: .un :: .un :: .un :: .un :: .un :: .un :: .un :: .un :: .un :: .un :: .un :: .un :: .un :: .un :: .un :: .un :: .un :: .un :: .un :: .un :: .un :: .un :: .un :: .un :: .un :: .un :: []), fun s2 => [some ⟨41, 10, [[.sl (w.network.legs.map cLeg), .sl (w.network.off.map cInt), vi w.network.change, .sl (w.orders.map cOrder), .sl (w.bookings.map cBooking), .sl (w.closed.map cTrip), vi w.now, .sl (w.scans.map cScan), .sl (w.skip.map cInt), vi w.made]]⟩]⟩
def m_spec_IsWorld (w : YWorld) : Option Bool :=
 (m_spec_AreBookings w.network w.bookings).bind fun y1 =>
 cond (!y1)
 (some false)
 ((m_spec_l1In w.now 0 100000).bind fun y2 =>
 cond (!y2)
 (some false)
 (cond (decide (30 < (w.orders.length : Int)))
 (some false)
 (cond (decide (20 < (w.closed.length : Int)))
 (some false)
 (cond (decide (200 < (w.scans.length : Int)))
 (some false)
 (cond (decide (50 < (w.skip.length : Int)))
 (some false)
 ((m_spec_l1In w.made (w.scans.length : Int) 1000000000).bind fun y3 =>
 cond (!y3)
 (some false)
 ((iterF (m_spec_IsWorld_b0 w) NN 0).bind (selim (fun o0 =>
 (iterF (m_spec_IsWorld_b1 w) NN 0).bind (selim (fun o1 =>
 (iterF (m_spec_IsWorld_b2 w) NN (0, 0)).bind (selim (fun o2 =>
 some (decide (o2 = (w.bookings.length : Int)))) (fun r => some r))) (fun r => some r))) (fun r => some r)))))))))
theorem ok_spec_IsWorld (w : YWorld) {r : Bool} (H : m_spec_IsWorld w = some r) : CallM Tryz.prog 24 [.ag (cWorld w)] [] (vb r) [] := by
  replace H := H0 H
  unfold m_spec_IsWorld at H
  refine callM_of Tryz.func24 rfl Tryz.ntmps24 Tryz.results24 fun Q hQ hQn => ?_
  exact wk
instance (w : YWorld) : CT Tryz.prog (m_spec_IsWorld w) := ⟨24, [.ag (cWorld w)], [], fun r => vb r, fun r => [], ok_spec_IsWorld w⟩
end Go.Proofs.YtmcdjilbkmhfoaaGreat

/- The two sides' tests of orders and worlds answer alike. -/
namespace Go.Proofs.YtmcdjilbkmhfoaaGreat
set_option maxRecDepth 10000
open Go.RowKit
set_option linter.unusedVariables false
set_option linter.unusedSimpArgs false
set_option linter.unusedSectionVars false
/-- All of a list, the index at hand. -/
def allI {α : Type} (c : Nat → α → Bool) : Nat → List α → Bool
  | _, [] => true
  | i, x :: xs => c i x && allI c (i + 1) xs
theorem allI_iff {α : Type} {c : Nat → α → Bool} : ∀ {xs : List α} {i : Nat}, allI c i xs = true ↔ ∀ (j : Nat) (x : α), xs[j]? = some x → c (i + j) x = true
  | [], i => by simp [allI]
  | x :: xs, i => by
    simp only [allI, Bool.and_eq_true, allI_iff]
    constructor
    · rintro ⟨h1, h2⟩ j y hj
      cases j with
      | zero => obtain rfl : x = y := by simpa using hj
                exact h1
      | succ j => have := h2 j y (by simpa using hj); rwa [Nat.add_right_comm] at this
    · intro h
      exact ⟨h 0 x rfl, fun j y hj => by have := h (j + 1) y (by simpa using hj); rwa [← Nat.add_assoc, Nat.add_right_comm] at this⟩
theorem allI_and {α : Type} (c d : Nat → α → Bool) : ∀ (xs : List α) (i : Nat), allI (fun i x => c i x && d i x) i xs = (allI c i xs && allI d i xs)
  | [], i => rfl
  | x :: xs, i => by
    simp only [allI, allI_and c d xs (i + 1)]
    cases c i x <;> cases d i x <;> cases allI c (i + 1) xs <;> cases allI d (i + 1) xs <;> rfl
theorem allI_congr {α : Type} {c d : Nat → α → Bool} {xs : List α} {i : Nat} (h : ∀ (j : Nat) (x : α), xs[j]? = some x → c (i + j) x = d (i + j) x) : allI c i xs = allI d i xs := by
  rw [Bool.eq_iff_iff, allI_iff, allI_iff]
  exact ⟨fun H j x hx => by rw [← h j x hx]; exact H j x hx, fun H j x hx => by rw [h j x hx]; exact H j x hx⟩
theorem iter_fold {A α σ γ : Type} {xs : List α} {body : σ → Option (σ ⊕ (γ ⊕ Bool))} (mk : A → Int → σ) (c : Nat → α → Bool) (f : A → α → A) (g : A → γ)
    (h1 : ∀ a (i : Nat) x, xs[i]? = some x → body (mk a i) = some (if c i x = true then .inl (mk (f a x) ((i + 1 : Nat) : Int)) else .inr (.inr false)))
    (h2 : ∀ a, body (mk a (xs.length : Int)) = some (.inr (.inl (g a)))) (hN : xs.length < NN) (a : A) : iterF body NN (mk a 0) = some (if allI c 0 xs = true then .inl (g (xs.foldl f a)) else .inr false) := by
  rw [iter_list mk (fun i a x => some (if c i x = true then .inl (f a x) else .inr (.inr false))) (fun a => some (.inl (g a))) (fun a i x hx => by rw [h1 a i x hx]; cases c i x <;> rfl) (fun a => by rw [h2 a]; rfl) hN a]
  have key : ∀ (xs : List α) (i : Nat) (a : A), runL (fun i a x => some (if c i x = true then (.inl (f a x) : A ⊕ (γ ⊕ Bool)) else .inr (.inr false))) (fun a => some (.inl (g a))) i xs a = some (if allI c i xs = true then .inl (g (xs.foldl f a)) else .inr false) := by
    intro xs
    induction xs with
    | nil => intro i a; rfl
    | cons x xs ih =>
      intro i a
      simp only [runL, allI]
      by_cases hcx : c i x = true
      · simp only [hcx, if_true, Option.bind_some, selim, ih, Bool.true_and, List.foldl_cons]
      · simp only [Bool.not_eq_true] at hcx
        simp [hcx]
  exact key xs 0 a
/-! The parts of an order's test. -/
def tripB (n : YNetwork) (t : YTrip) : Bool := (m_spec_l3Runs n t.leg t.day).getD false
def legTo (n : YNetwork) (t : YTrip) : ByteArray := ((getI n.legs t.leg).map (·.to_)).getD ⟨#[]⟩
def closedB (l : List YTrip) (t : YTrip) : Bool := l.any fun y => decide (y = t)
theorem tripB_v {n : YNetwork} (h : NetFit n) (t : YTrip) : m_spec_l3Runs n t.leg t.day = some (tripB n t) := by
  obtain ⟨_, b, hb⟩ := runs_eq h t.leg t.day
  unfold tripB; rw [hb]; rfl
theorem tripB_leg {n : YNetwork} (h : NetFit n) {t : YTrip} (ht : tripB n t = true) : ∃ y, getI n.legs t.leg = some y ∧ y ∈ n.legs := by
  have := tripB_v h t
  rw [ht] at this
  obtain ⟨y, hy⟩ := runs_leg h this
  exact ⟨y, hy, getI_mem hy⟩
def wayC (w : YWorld) (id : Int) (o : YOrder) (i : Nat) (t : YTrip) : Bool := tripB w.network t && bookedB w.bookings id t o.weight && !(decide (legTo w.network t = o.to_) && decide (i + 1 < o.way.length))
def endV (n : YNetwork) (o : YOrder) : ByteArray := o.way.foldl (fun _ t => legTo n t) o.from_
def comesV (o : YOrder) : Int := if o.state = 2 then o.gone + 1 else o.gone
def orderV (w : YWorld) (i : Nat) (o : YOrder) : Bool :=
  !decide (idxV (placesV w.network) o.from_ < 0) && !decide (idxV (placesV w.network) o.to_ < 0) && !decide (o.from_ = o.to_) && (decide (1 ≤ o.service) && decide (o.service ≤ 3)) && (decide (1 ≤ o.weight) && decide (o.weight ≤ 30000)) && (decide (0 ≤ o.at_) && decide (o.at_ ≤ w.now)) && (decide (0 ≤ o.due) && decide (o.due ≤ 200000)) && (decide (0 ≤ o.gone) && decide (o.gone ≤ (o.way.length : Int))) &&
    allI (wayC w ((i + 1 : Nat) : Int) o) 0 o.way && (m_spec_IsWay w.network o.way o.from_ (endV w.network o) (w64 (o.at_ + 1))).getD false && (m_spec_l10State w.network o w.now).getD false && !((o.way.drop (comesV o).toNat).any (closedB w.closed))
structure WFit (w : YWorld) : Prop where
  net : NetFit w.network
  orders : w.orders.length ≤ 1048576
  bookings : w.bookings.length ≤ 1048576
  closed : w.closed.length ≤ 1048576
  scans : w.scans.length ≤ 1048576
  skip : w.skip.length ≤ 1048576
  way : ∀ o ∈ w.orders, o.way.length ≤ 1048576
theorem state_some {n : YNetwork} {o : YOrder} (hg : 0 ≤ o.gone ∧ o.gone ≤ o.way.length) (hl : o.way.length ≤ 1048576) (hw : ∀ t ∈ o.way, ∃ y, getI n.legs t.leg = some y) (now : Int) : ∃ b, m_spec_l10State n o now = some b := by
  have hat : ∀ (i : Int), 0 ≤ i → i < o.way.length → ∃ t y, getI o.way i = some t ∧ getI n.legs t.leg = some y := by
    intro i h0 h1
    have hlt : i.toNat < o.way.length := by omega
    obtain ⟨y, hy⟩ := hw o.way[i.toNat] (List.getElem_mem hlt)
    exact ⟨o.way[i.toNat], y, by unfold getI; rw [if_pos h0]; exact List.getElem?_eq_getElem hlt, hy⟩
  have hw1 : w64 (o.gone - 1) = o.gone - 1 := w64_in (by omega)
  have hend : o.gone < o.way.length → ∃ t s e, getI o.way o.gone = some t ∧ m_spec_l3Starts n t = some s ∧ m_spec_l3Ends n t = some e := by
    intro h1
    obtain ⟨t, y, ht, hy⟩ := hat o.gone hg.1 h1
    obtain ⟨s, hs⟩ := starts_some hy
    obtain ⟨e, he⟩ := ends_some hy
    exact ⟨t, s, e, ht, hs, he⟩
  unfold m_spec_l10State
  rw [hw1]
  by_cases h0 : 0 < o.gone
  · rw [decide_eq_true h0, cond_true]
    obtain ⟨t, y, ht, hy⟩ := hat (o.gone - 1) (by omega) (by omega)
    obtain ⟨e, he⟩ := ends_some hy
    simp only [ht, hy, he, Option.bind_some]
    cases decide (now < e) with
    | true => exact ⟨_, rfl⟩
    | false =>
      simp only [cond_false]
      by_cases h1 : o.gone < o.way.length
      · obtain ⟨t2, s2, e2, ht2, hs2, he2⟩ := hend h1
        simp only [ht2, hs2, he2, Option.bind_some]
        cases decide (o.state = 1) <;> cases decide (o.state = 2) <;> cases decide (o.state = 3) <;> cases decide (o.place = y.to_) <;> cases decide (y.to_ = o.to_) <;> cases decide (o.ended = 0) <;> cases decide (o.gone = (o.way.length : Int)) <;> cases decide (o.place = ⟨#[]⟩) <;> cases decide (o.gone < (o.way.length : Int)) <;> cases decide (s2 ≤ now) <;> cases decide (o.place = o.to_) <;> exact ⟨_, rfl⟩
      · rw [decide_eq_true (show o.gone = (o.way.length : Int) by omega), decide_eq_false h1]
        cases decide (o.state = 1) <;> cases decide (o.state = 2) <;> cases decide (o.state = 3) <;> cases decide (o.place = y.to_) <;> cases decide (y.to_ = o.to_) <;> cases decide (o.ended = 0) <;> cases decide (o.place = ⟨#[]⟩) <;> cases decide (o.place = o.to_) <;> exact ⟨_, rfl⟩
  · rw [decide_eq_false h0, cond_false]
    by_cases h1 : o.gone < o.way.length
    · obtain ⟨t2, s2, e2, ht2, hs2, he2⟩ := hend h1
      simp only [ht2, hs2, he2, Option.bind_some]
      cases decide (o.state = 1) <;> cases decide (o.state = 2) <;> cases decide (o.state = 3) <;> cases decide (o.place = o.from_) <;> cases decide (o.from_ = o.to_) <;> cases decide (o.ended = 0) <;> cases decide (o.gone = (o.way.length : Int)) <;> cases decide (o.place = ⟨#[]⟩) <;> cases decide (o.gone < (o.way.length : Int)) <;> cases decide (s2 ≤ now) <;> cases decide (o.place = o.to_) <;> exact ⟨_, rfl⟩
    · rw [decide_eq_true (show o.gone = (o.way.length : Int) by omega), decide_eq_false h1]
      cases decide (o.state = 1) <;> cases decide (o.state = 2) <;> cases decide (o.state = 3) <;> cases decide (o.place = o.from_) <;> cases decide (o.from_ = o.to_) <;> cases decide (o.ended = 0) <;> cases decide (o.place = ⟨#[]⟩) <;> cases decide (o.place = o.to_) <;> exact ⟨_, rfl⟩
/-- The loop that looks for a closed trip, from an index on. -/
theorem closed_loop {w : YWorld} (hc : w.closed.length ≤ 1048576) {o : YOrder} (hl : o.way.length ≤ 1048576) {k : Int} (h0 : 0 ≤ k) : iterF (m_spec_l10Order_b1 w o) NN k = some (if (o.way.drop k.toNat).any (closedB w.closed) = true then .inr false else .inl ()) := by
  have key : ∀ (ts : List YTrip) (i N : Nat), o.way.drop i = ts → ts.length < N → iterF (m_spec_l10Order_b1 w o) N (i : Int) = some (if ts.any (closedB w.closed) = true then .inr false else .inl ()) := by
    intro ts
    induction ts with
    | nil =>
      intro i N hd hN
      cases N with
      | zero => omega
      | succ N =>
        have : o.way.length ≤ i := by have := congrArg List.length hd; simp at this; omega
        simp only [iterF, m_spec_l10Order_b1]
        rw [decide_eq_false (show ¬ (i : Int) < o.way.length by omega)]
        rfl
    | cons t ts ih =>
      intro i N hd hN
      cases N with
      | zero => simp at hN
      | succ N =>
        have ht : o.way[i]? = some t := by
          have := congrArg (fun l : List YTrip => l[0]?) hd
          simpa using this
        have hlt := (List.getElem?_eq_some_iff.1 ht).1
        have hd' : o.way.drop (i + 1) = ts := by
          have := congrArg (List.drop 1) hd
          simpa [List.drop_drop] using this
        have hg : getI o.way (i : Int) = some t := by rw [getI_nat]; exact ht
        simp only [iterF, m_spec_l10Order_b1]
        rw [decide_eq_true (show (i : Int) < o.way.length by omega), cond_true, hg]
        simp only [Option.bind_some]
        rw [l6Closed_eq, hasTrip_v hc, w64_nat hlt (by omega)]
        have hcd : (w.closed.any fun y => decide (y = t)) = closedB w.closed t := rfl
        rw [hcd]
        by_cases hcl : closedB w.closed t = true
        · simp [hcl, List.any_cons]
        · simp only [Bool.not_eq_true] at hcl
          simp only [hcl, List.any_cons, Option.bind_some, cond_false, selim, Bool.false_or]
          exact ih (i + 1) N hd' (by simp at hN; omega)
  have := key (o.way.drop k.toNat) k.toNat NN rfl (by simp; unfold NN; omega)
  rw [show ((k.toNat : Nat) : Int) = k by omega] at this
  exact this
/-- What is closed from an index on, asked trip by trip. -/
theorem closed_drop (cl : YTrip → Bool) (k : Int) : ∀ (ts : List YTrip) (i : Nat), allI (fun i t => !(decide (k ≤ (i : Int)) && cl t)) i ts = !((ts.drop (k - i).toNat).any cl)
  | [], i => by simp [allI]
  | t :: ts, i => by
    simp only [allI, closed_drop cl k ts (i + 1)]
    by_cases h : k ≤ (i : Int)
    · rw [decide_eq_true h, show (k - (i : Int)).toNat = 0 by omega, show (k - ((i + 1 : Nat) : Int)).toNat = 0 by omega]
      simp
    · rw [decide_eq_false h]
      obtain ⟨m, hm⟩ : ∃ m, (k - (i : Int)).toNat = m + 1 := ⟨(k - (i : Int)).toNat - 1, by omega⟩
      rw [hm, show (k - ((i + 1 : Nat) : Int)).toNat = m by omega]
      simp
theorem comes_v {o : YOrder} (h : 0 ≤ o.gone ∧ o.gone ≤ o.way.length) (hl : o.way.length ≤ 1048576) : m_spec_l10Coming o = some (comesV o) ∧ 0 ≤ comesV o ∧ m_impl_toCome o = some (if (o.way.length : Int) < comesV o then (o.way.length : Int) else comesV o) := by
  unfold m_spec_l10Coming m_impl_toCome comesV
  have hw : w64 (o.gone + 1) = o.gone + 1 := w64_in (by omega)
  simp only [hw]
  by_cases h2 : o.state = 2
  · rw [decide_eq_true h2, if_pos h2]; exact ⟨rfl, by omega, rfl⟩
  · rw [decide_eq_false h2, if_neg h2]; exact ⟨rfl, by omega, by rw [if_neg (show ¬ (o.way.length : Int) < o.gone by omega)]; rfl⟩
section
variable {w : YWorld} (hf : WFit w) (hb : booksV w.network w.bookings = true)
include hf hb
theorem way_spec {o : YOrder} (hl : o.way.length ≤ 1048576) (i : Nat) (hi : i < 1048576) : iterF (m_spec_l10Order_b0 w (i : Int) o) NN (o.from_, 0) = some (if allI (wayC w ((i + 1 : Nat) : Int) o) 0 o.way = true then .inl (endV w.network o) else .inr false) := by
  refine iter_fold (A := ByteArray) (fun a i => (a, i)) _ (fun _ t => legTo w.network t) id (fun a j t ht => ?_) (fun a => ?_) (by unfold NN; omega) o.from_
  · have hlt := (List.getElem?_eq_some_iff.1 ht).1
    have hg : getI o.way (j : Int) = some t := by rw [getI_nat]; exact ht
    have hj : w64 ((j : Int) + 1) = ((j + 1 : Nat) : Int) := w64_nat hlt (by omega)
    have hi1 : w64 ((i : Int) + 1) = ((i + 1 : Nat) : Int) := by rw [w64_in (by omega)]; omega
    unfold m_spec_l10Order_b0
    simp only [decide_eq_true (show (j : Int) < o.way.length by omega), cond_true, hg, Option.bind_some, hj, hi1, tripB_v hf.net, booked_v hf.bookings]
    unfold wayC
    cases ht' : tripB w.network t with
    | false => simp
    | true =>
      obtain ⟨y, hy, _⟩ := tripB_leg hf.net ht'
      have hlt' : legTo w.network t = y.to_ := by unfold legTo; rw [hy]; rfl
      simp only [hy, Option.bind_some, hlt', Bool.not_true, cond_false]
      cases bookedB w.bookings ((i + 1 : Nat) : Int) t o.weight with
      | false => simp
      | true =>
        simp only [Bool.not_true, cond_false, Bool.true_and]
        by_cases h1 : y.to_ = o.to_
        · by_cases h2 : j + 1 < o.way.length
          · simp [h1, h2, show ((j : Int) + 1) < o.way.length by omega]
          · simp [h1, h2, show ¬ ((j : Int) + 1) < o.way.length by omega]
        · simp [h1]
  · unfold m_spec_l10Order_b0
    simp
theorem way_impl {o : YOrder} (hl : o.way.length ≤ 1048576) (i : Nat) (hi : i < 1048576) (ho : getI w.orders (i : Int) = some o) (hg0 : 0 ≤ o.gone ∧ o.gone ≤ o.way.length) :
    iterF (m_impl_isOrder_b0 w ((i + 1 : Nat) : Int) o) NN (o.from_, 0) = some (if (allI (wayC w ((i + 1 : Nat) : Int) o) 0 o.way && !((o.way.drop (comesV o).toNat).any (closedB w.closed))) = true then .inl (endV w.network o) else .inr false) := by
  obtain ⟨c1, c2, c3⟩ := comes_v hg0 hl
  have hcl : (!((o.way.drop (comesV o).toNat).any (closedB w.closed))) = allI (fun j t => !(decide ((if (o.way.length : Int) < comesV o then (o.way.length : Int) else comesV o) ≤ (j : Int)) && closedB w.closed t)) 0 o.way := by
    rw [closed_drop]
    congr 2
    split
    · rename_i h
      rw [List.drop_eq_nil_of_le (by omega), List.drop_eq_nil_of_le (by omega)]
    · congr 1; omega
  rw [hcl, ← allI_and]
  have hnet := (books_net hb).1
  refine iter_fold (A := ByteArray) (fun a i => (a, i)) _ (fun _ t => legTo w.network t) id (fun a j t ht => ?_) (fun a => ?_) (by unfold NN; omega) o.from_
  · have hlt := (List.getElem?_eq_some_iff.1 ht).1
    have hg : getI o.way (j : Int) = some t := by rw [getI_nat]; exact ht
    have hj : w64 ((j : Int) + 1) = ((j + 1 : Nat) : Int) := w64_nat hlt (by omega)
    have hw1 : w64 ((o.way.length : Int) - 1) = (o.way.length : Int) - 1 := w64_in (by omega)
    have ho' : getI w.orders (w64 (((i + 1 : Nat) : Int) - 1)) = some o := by rw [w64_in (by omega), show ((i + 1 : Nat) : Int) - 1 = (i : Int) by omega]; exact ho
    unfold m_impl_isOrder_b0
    simp only [decide_eq_true (show (j : Int) < o.way.length by omega), cond_true, hg, Option.bind_some, hj, hw1, isTrip_v hf.net hnet, tripB_v hf.net, hasBooking_v hf.bookings (books_uniq hb) ho', c3, hasTrip_v hf.closed]
    unfold wayC
    cases ht' : tripB w.network t with
    | false => simp
    | true =>
      obtain ⟨y, hy, _⟩ := tripB_leg hf.net ht'
      have hlt' : legTo w.network t = y.to_ := by unfold legTo; rw [hy]; rfl
      simp only [hy, Option.bind_some, hlt', Bool.not_true, cond_false]
      cases bookedB w.bookings ((i + 1 : Nat) : Int) t o.weight with
      | false => simp
      | true =>
        simp only [Bool.not_true, cond_false, Bool.true_and]
        generalize (if (o.way.length : Int) < comesV o then (o.way.length : Int) else comesV o) = k
        have hcc : closedB w.closed t = w.closed.any fun y => decide (y = t) := rfl
        rw [hcc]
        by_cases h3 : k ≤ (j : Int)
        · rw [decide_eq_true h3, cond_true]
          cases w.closed.any fun y => decide (y = t) with
          | true => simp
          | false =>
            simp only [cond_false]
            by_cases h1 : y.to_ = o.to_
            · by_cases h2 : j + 1 < o.way.length
              · simp [h1, h2, show (j : Int) < (o.way.length : Int) - 1 by omega]
              · simp [h1, h2, show ¬ (j : Int) < (o.way.length : Int) - 1 by omega]
            · simp [h1]
        · rw [decide_eq_false h3, cond_false]
          by_cases h1 : y.to_ = o.to_
          · by_cases h2 : j + 1 < o.way.length
            · simp [h1, h2, show (j : Int) < (o.way.length : Int) - 1 by omega]
            · simp [h1, h2, show ¬ (j : Int) < (o.way.length : Int) - 1 by omega]
          · simp [h1]
  · unfold m_impl_isOrder_b0
    simp
theorem way_state {o : YOrder} (hl : o.way.length ≤ 1048576) {i : Nat} (hg0 : 0 ≤ o.gone ∧ o.gone ≤ o.way.length) (h : allI (wayC w ((i + 1 : Nat) : Int) o) 0 o.way = true) : m_spec_l10State w.network o w.now = some ((m_spec_l10State w.network o w.now).getD false) := by
  obtain ⟨b, hb'⟩ := state_some (n := w.network) hg0 hl (fun t ht => by
    obtain ⟨j, hj, rfl⟩ := List.getElem_of_mem ht
    have := allI_iff.1 h j _ (List.getElem?_eq_getElem hj)
    unfold wayC at this
    simp only [Bool.and_eq_true] at this
    obtain ⟨y, hy, _⟩ := tripB_leg hf.net this.1.1
    exact ⟨y, hy⟩) w.now
  rw [hb']; rfl
theorem spec_order {o : YOrder} {i : Nat} (ho : getI w.orders (i : Int) = some o) : m_spec_l10Order w (i : Int) = some (orderV w i o) := by
  have hl := hf.way o (getI_mem ho)
  have hi : i < 1048576 := by have := (List.getElem?_eq_some_iff.1 (by rw [← getI_nat]; exact ho)).1; have := hf.orders; omega
  have hp := (places_eq hf.net).2
  have hpl := placesV_len w.network
  have hll := hf.net.legs
  unfold m_spec_l10Order orderV
  rw [ho, hp]
  simp only [Option.bind_some, l1In_v, l4Index_v (show (placesV w.network).length ≤ 4194304 by omega)]
  cases decide (idxV (placesV w.network) o.from_ < 0) with
  | true => rfl
  | false =>
  cases decide (idxV (placesV w.network) o.to_ < 0) with
  | true => rfl
  | false =>
  cases decide (o.from_ = o.to_) with
  | true => rfl
  | false =>
  simp only [cond_false, Bool.not_false, Bool.true_and]
  cases decide (1 ≤ o.service) && decide (o.service ≤ 3) with
  | false => rfl
  | true =>
  cases decide (1 ≤ o.weight) && decide (o.weight ≤ 30000) with
  | false => rfl
  | true =>
  cases decide (0 ≤ o.at_) && decide (o.at_ ≤ w.now) with
  | false => rfl
  | true =>
  cases decide (0 ≤ o.due) && decide (o.due ≤ 200000) with
  | false => rfl
  | true =>
  simp only [cond_false, Bool.not_true, Bool.true_and]
  cases hg : decide (0 ≤ o.gone) && decide (o.gone ≤ (o.way.length : Int)) with
  | false => rfl
  | true =>
  simp only [Bool.and_eq_true, decide_eq_true_iff] at hg
  obtain ⟨c1, c2, c3⟩ := comes_v hg hl
  simp only [Bool.not_true, cond_false, Bool.true_and]
  rw [way_spec hf hb hl i hi]
  cases hal : allI (wayC w ((i + 1 : Nat) : Int) o) 0 o.way with
  | false => rfl
  | true =>
  have hst := way_state hf hb hl hg hal
  obtain ⟨r, hr⟩ := isWay_some hf.net hl o.from_ (endV w.network o) (w64 (o.at_ + 1))
  simp only [if_true, Option.bind_some, selim, hr, Option.getD_some, Bool.true_and]
  cases r with
  | false => rfl
  | true =>
  rw [hst]
  simp only [Option.getD_some]
  cases (m_spec_l10State w.network o w.now).getD false with
  | false => rfl
  | true =>
  simp only [Bool.not_true, cond_false, Option.bind_some, c1, closed_loop hf.closed hl c2, Bool.true_and]
  cases (o.way.drop (comesV o).toNat).any (closedB w.closed) <;> rfl
theorem impl_order {o : YOrder} {i : Nat} (ho : getI w.orders (i : Int) = some o) : m_impl_isOrder w ((i + 1 : Nat) : Int) (placesV w.network) = some (orderV w i o) := by
  have hl := hf.way o (getI_mem ho)
  have hi : i < 1048576 := by have := (List.getElem?_eq_some_iff.1 (by rw [← getI_nat]; exact ho)).1; have := hf.orders; omega
  have hpl := placesV_len w.network
  have hll := hf.net.legs
  have ho' : getI w.orders (w64 (((i + 1 : Nat) : Int) - 1)) = some o := by rw [w64_in (by omega), show ((i + 1 : Nat) : Int) - 1 = (i : Int) by omega]; exact ho
  unfold m_impl_isOrder orderV
  rw [ho', within_eq, placeAt_eq]
  simp only [Option.bind_some, l1In_v, l4Index_v (show (placesV w.network).length ≤ 4194304 by omega)]
  cases decide (o.from_ = o.to_) with
  | true => simp only [cond_true, Bool.not_true, Bool.and_false, Bool.false_and]
  | false =>
  cases decide (idxV (placesV w.network) o.from_ < 0) with
  | true => rfl
  | false =>
  cases decide (idxV (placesV w.network) o.to_ < 0) with
  | true => rfl
  | false =>
  simp only [cond_false, Bool.not_false, Bool.true_and]
  cases decide (1 ≤ o.service) && decide (o.service ≤ 3) with
  | false => rfl
  | true =>
  cases decide (1 ≤ o.weight) && decide (o.weight ≤ 30000) with
  | false => rfl
  | true =>
  cases decide (0 ≤ o.at_) && decide (o.at_ ≤ w.now) with
  | false => rfl
  | true =>
  cases decide (0 ≤ o.due) && decide (o.due ≤ 200000) with
  | false => rfl
  | true =>
  simp only [cond_false, Bool.not_true, Bool.true_and]
  cases hg : decide (0 ≤ o.gone) && decide (o.gone ≤ (o.way.length : Int)) with
  | false => rfl
  | true =>
  simp only [Bool.and_eq_true, decide_eq_true_iff] at hg
  simp only [Bool.not_true, cond_false, Bool.true_and]
  rw [way_impl hf hb hl i hi ho hg]
  cases hal : allI (wayC w ((i + 1 : Nat) : Int) o) 0 o.way with
  | false => rfl
  | true =>
  have hst := way_state hf hb hl hg hal
  obtain ⟨r, hr⟩ := isWay_some hf.net hl o.from_ (endV w.network o) (w64 (o.at_ + 1))
  simp only [Bool.true_and]
  rw [hr]
  cases (o.way.drop (comesV o).toNat).any (closedB w.closed) with
  | true => simp
  | false =>
  simp only [Bool.not_false, if_true, Option.bind_some, selim, isWay_eq hf.net, hr, Option.getD_some, Bool.true_and, state_eq, Bool.and_true]
  cases r with
  | false => rfl
  | true =>
  rw [hst]
  rfl
end
end Go.Proofs.YtmcdjilbkmhfoaaGreat

/- The two sides' tests of worlds answer alike. -/
namespace Go.Proofs.YtmcdjilbkmhfoaaGreat
set_option maxRecDepth 10000
open Go.RowKit
set_option linter.unusedVariables false
set_option linter.unusedSimpArgs false
set_option linter.unusedSectionVars false
def closedC (w : YWorld) (i : Nat) (t : YTrip) : Bool := tripB w.network t && !closedB (w.closed.take i) t
def scanC (w : YWorld) (i : Nat) (s : YScan) : Bool := (m_spec_IsScan w.network s).getD false && !decide (w.now < s.at_)
def tripsV (w : YWorld) : Int := w.orders.foldl (fun a o => w64 (a + (o.way.length : Int))) 0
def worldV (w : YWorld) : Bool :=
  booksV w.network w.bookings && (decide (0 ≤ w.now) && decide (w.now ≤ 100000)) && !decide (30 < (w.orders.length : Int)) && !decide (20 < (w.closed.length : Int)) && !decide (200 < (w.scans.length : Int)) && !decide (50 < (w.skip.length : Int)) && (decide ((w.scans.length : Int) ≤ w.made) && decide (w.made ≤ 1000000000)) &&
    allI (closedC w) 0 w.closed && allI (scanC w) 0 w.scans && allI (orderV w) 0 w.orders && decide (tripsV w = (w.bookings.length : Int))
theorem subL_take {α : Type} (xs : List α) (i : Nat) : subL xs 0 (i : Int) = xs.take i := by simp [subL]
section
variable {w : YWorld} (hf : WFit w) (hb : booksV w.network w.bookings = true)
include hf
theorem scan_v (s : YScan) : m_spec_IsScan w.network s = some ((m_spec_IsScan w.network s).getD false) := by
  obtain ⟨b, h⟩ := isScan_some hf.net s
  rw [h]; rfl
theorem closed_spec : iterF (m_spec_IsWorld_b0 w) NN 0 = some (if allI (closedC w) 0 w.closed = true then .inl () else .inr false) := by
  refine iter_fold (A := Unit) (fun _ i => i) _ (fun a _ => a) id (fun a i t ht => ?_) (fun a => ?_) (by have := hf.closed; unfold NN; omega) ()
  · have hlt := (List.getElem?_eq_some_iff.1 ht).1
    have hcl := hf.closed
    have hg : getI w.closed (i : Int) = some t := by rw [getI_nat]; exact ht
    have hi : w64 ((i : Int) + 1) = ((i + 1 : Nat) : Int) := w64_nat hlt (by omega)
    have hs : chk (slOk 0 (i : Int) w.closed.length) = some () := chk_t (by unfold slOk; rw [decide_eq_true_iff]; omega)
    unfold m_spec_IsWorld_b0
    simp only [decide_eq_true (show (i : Int) < w.closed.length by omega), cond_true, hg, Option.bind_some, hi, hs, tripB_v hf.net, subL_take, l6Closed_eq, hasTrip_v (show (w.closed.take i).length ≤ 1048576 by simp; omega)]
    unfold closedC
    have hcd : ((w.closed.take i).any fun y => decide (y = t)) = closedB (w.closed.take i) t := rfl
    rw [hcd]
    cases tripB w.network t <;> cases closedB (w.closed.take i) t <;> rfl
  · unfold m_spec_IsWorld_b0
    simp
theorem closed_impl (hb : booksV w.network w.bookings = true) : iterF (m_impl_IsWorld_b0 w) NN 0 = some (if allI (closedC w) 0 w.closed = true then .inl () else .inr false) := by
  have hnet := (books_net hb).1
  refine iter_fold (A := Unit) (fun _ i => i) _ (fun a _ => a) id (fun a i t ht => ?_) (fun a => ?_) (by have := hf.closed; unfold NN; omega) ()
  · have hlt := (List.getElem?_eq_some_iff.1 ht).1
    have hcl := hf.closed
    have hg : getI w.closed (i : Int) = some t := by rw [getI_nat]; exact ht
    have hi : w64 ((i : Int) + 1) = ((i + 1 : Nat) : Int) := w64_nat hlt (by omega)
    have hs : chk (slOk 0 (i : Int) w.closed.length) = some () := chk_t (by unfold slOk; rw [decide_eq_true_iff]; omega)
    unfold m_impl_IsWorld_b0
    simp only [decide_eq_true (show (i : Int) < w.closed.length by omega), cond_true, hg, Option.bind_some, hi, hs, isTrip_v hf.net hnet, tripB_v hf.net, subL_take, hasTrip_v (show (w.closed.take i).length ≤ 1048576 by simp; omega)]
    unfold closedC
    have hcd : ((w.closed.take i).any fun y => decide (y = t)) = closedB (w.closed.take i) t := rfl
    rw [hcd]
    cases tripB w.network t <;> cases closedB (w.closed.take i) t <;> rfl
  · unfold m_impl_IsWorld_b0
    simp
theorem scans_spec : iterF (m_spec_IsWorld_b1 w) NN 0 = some (if allI (scanC w) 0 w.scans = true then .inl () else .inr false) := by
  refine iter_fold (A := Unit) (fun _ i => i) _ (fun a _ => a) id (fun a i s hs => ?_) (fun a => ?_) (by have := hf.scans; unfold NN; omega) ()
  · have hlt := (List.getElem?_eq_some_iff.1 hs).1
    have hcl := hf.scans
    have hg : getI w.scans (i : Int) = some s := by rw [getI_nat]; exact hs
    have hi : w64 ((i : Int) + 1) = ((i + 1 : Nat) : Int) := w64_nat hlt (by omega)
    unfold m_spec_IsWorld_b1
    rw [decide_eq_true (show (i : Int) < w.scans.length by omega), cond_true, hg]
    simp only [Option.bind_some]
    rw [scan_v hf s]
    simp only [Option.bind_some, hi]
    unfold scanC
    cases (m_spec_IsScan w.network s).getD false <;> cases decide (w.now < s.at_) <;> rfl
  · unfold m_spec_IsWorld_b1
    simp
theorem scans_impl : iterF (m_impl_IsWorld_b1 w) NN 0 = some (if allI (scanC w) 0 w.scans = true then .inl () else .inr false) := by
  refine iter_fold (A := Unit) (fun _ i => i) _ (fun a _ => a) id (fun a i s hs => ?_) (fun a => ?_) (by have := hf.scans; unfold NN; omega) ()
  · have hlt := (List.getElem?_eq_some_iff.1 hs).1
    have hcl := hf.scans
    have hg : getI w.scans (i : Int) = some s := by rw [getI_nat]; exact hs
    have hi : w64 ((i : Int) + 1) = ((i + 1 : Nat) : Int) := w64_nat hlt (by omega)
    unfold m_impl_IsWorld_b1
    rw [decide_eq_true (show (i : Int) < w.scans.length by omega), cond_true, hg]
    simp only [Option.bind_some]
    rw [isScan_eq hf.net, scan_v hf s]
    simp only [Option.bind_some, hi]
    unfold scanC
    cases (m_spec_IsScan w.network s).getD false <;> cases decide (w.now < s.at_) <;> rfl
  · unfold m_impl_IsWorld_b1
    simp
include hb
theorem orders_spec : iterF (m_spec_IsWorld_b2 w) NN (0, 0) = some (if allI (orderV w) 0 w.orders = true then .inl (tripsV w) else .inr false) := by
  refine iter_fold (A := Int) (fun a i => (a, i)) _ (fun a (o : YOrder) => w64 (a + (o.way.length : Int))) id (fun a i o ho => ?_) (fun a => ?_) (by have := hf.orders; unfold NN; omega) 0
  · have hlt := (List.getElem?_eq_some_iff.1 ho).1
    have hcl := hf.orders
    have hg : getI w.orders (i : Int) = some o := by rw [getI_nat]; exact ho
    have hi : w64 ((i : Int) + 1) = ((i + 1 : Nat) : Int) := w64_nat hlt (by omega)
    unfold m_spec_IsWorld_b2
    simp only [decide_eq_true (show (i : Int) < w.orders.length by omega), cond_true, hg, Option.bind_some, hi, spec_order hf hb hg]
    cases orderV w i o <;> rfl
  · unfold m_spec_IsWorld_b2
    simp
theorem orders_impl : iterF (m_impl_IsWorld_b2 w (placesV w.network)) NN (0, 0) = some (if allI (orderV w) 0 w.orders = true then .inl (tripsV w) else .inr false) := by
  refine iter_fold (A := Int) (fun a i => (a, i)) _ (fun a (o : YOrder) => w64 (a + (o.way.length : Int))) id (fun a i o ho => ?_) (fun a => ?_) (by have := hf.orders; unfold NN; omega) 0
  · have hlt := (List.getElem?_eq_some_iff.1 ho).1
    have hcl := hf.orders
    have hg : getI w.orders (i : Int) = some o := by rw [getI_nat]; exact ho
    have hi : w64 ((i : Int) + 1) = ((i + 1 : Nat) : Int) := w64_nat hlt (by omega)
    unfold m_impl_IsWorld_b2
    simp only [decide_eq_true (show (i : Int) < w.orders.length by omega), cond_true, hg, Option.bind_some, hi, impl_order hf hb hg]
    cases orderV w i o <;> rfl
  · unfold m_impl_IsWorld_b2
    simp
end
theorem ite_sel {γ : Type} {b : Bool} {x : γ} {K : γ → Option Bool} {r : Bool} (h : b = true → K x = some r) (h' : b = false → r = false) : (some (if b = true then (Sum.inl x : γ ⊕ Bool) else .inr false)).bind (selim K (fun r => some r)) = some r := by
  cases b with
  | true => exact h rfl
  | false => rw [h' rfl]; rfl
theorem spec_world {w : YWorld} (hf : WFit w) : m_spec_IsWorld w = some (worldV w) := by
  unfold m_spec_IsWorld worldV
  rw [specBooks_v hf.net hf.bookings]
  simp only [Option.bind_some, l1In_v]
  cases hb : booksV w.network w.bookings with
  | false => rfl
  | true =>
  cases decide (0 ≤ w.now) && decide (w.now ≤ 100000) with
  | false => rfl
  | true =>
  cases decide (30 < (w.orders.length : Int)) with
  | true => rfl
  | false =>
  cases decide (20 < (w.closed.length : Int)) with
  | true => rfl
  | false =>
  cases decide (200 < (w.scans.length : Int)) with
  | true => rfl
  | false =>
  cases decide (50 < (w.skip.length : Int)) with
  | true => rfl
  | false =>
  cases decide ((w.scans.length : Int) ≤ w.made) && decide (w.made ≤ 1000000000) with
  | false => rfl
  | true =>
  simp only [Bool.not_true, Bool.not_false, cond_false, Bool.true_and]
  rw [closed_spec hf, scans_spec hf, orders_spec hf hb]
  refine ite_sel (fun h1 => ?_) (fun h1 => by rw [h1]; rfl)
  refine ite_sel (fun h2 => ?_) (fun h2 => by rw [h1, h2]; rfl)
  refine ite_sel (fun h3 => ?_) (fun h3 => by rw [h1, h2, h3]; rfl)
  rw [h1, h2, h3]; rfl
theorem impl_world {w : YWorld} (hf : WFit w) : m_impl_IsWorld w = some (worldV w) := by
  unfold m_impl_IsWorld worldV
  rw [implBooks_v hf.net hf.bookings, within_eq]
  simp only [Option.bind_some, l1In_v]
  cases hb : booksV w.network w.bookings with
  | false => rfl
  | true =>
  cases decide (0 ≤ w.now) && decide (w.now ≤ 100000) with
  | false => rfl
  | true =>
  cases decide (30 < (w.orders.length : Int)) with
  | true => rfl
  | false =>
  cases decide (20 < (w.closed.length : Int)) with
  | true => rfl
  | false =>
  cases decide (200 < (w.scans.length : Int)) with
  | true => rfl
  | false =>
  cases decide (50 < (w.skip.length : Int)) with
  | true => rfl
  | false =>
  cases decide ((w.scans.length : Int) ≤ w.made) && decide (w.made ≤ 1000000000) with
  | false => rfl
  | true =>
  simp only [Bool.not_true, Bool.not_false, cond_false, Bool.true_and]
  rw [closed_impl hf hb, scans_impl hf, impl_places hf.net]
  simp only [Option.bind_some]
  rw [orders_impl hf hb]
  refine ite_sel (fun h1 => ?_) (fun h1 => by rw [h1]; rfl)
  refine ite_sel (fun h2 => ?_) (fun h2 => by rw [h1, h2]; rfl)
  refine ite_sel (fun h3 => ?_) (fun h3 => by rw [h1, h2, h3]; rfl)
  rw [h1, h2, h3]; rfl
/-- What a valid world's order is. -/
theorem world_order {w : YWorld} (h : worldV w = true) {i : Nat} {o : YOrder} (ho : w.orders[i]? = some o) : orderV w i o = true := by
  unfold worldV at h
  simp only [Bool.and_eq_true] at h
  have := allI_iff.1 h.1.2 i o ho
  rwa [Nat.zero_add] at this
theorem world_books {w : YWorld} (h : worldV w = true) : booksV w.network w.bookings = true := by
  unfold worldV at h
  simp only [Bool.and_eq_true] at h
  exact h.1.1.1.1.1.1.1.1.1.1
end Go.Proofs.YtmcdjilbkmhfoaaGreat

/- The mirror of impl_nextEvent, and that the code does just that (printed by a program of my own). -/
namespace Go.Proofs.YtmcdjilbkmhfoaaGreat
set_option maxRecDepth 10000
open Go.RowKit
set_option linter.unusedVariables false
set_option maxHeartbeats 16000000
def m_impl_nextEvent_b0 (w : YWorld) (s0 : Int × Int) : Option ((Int × Int) ⊕ Int) :=
 cond (decide (s0.2 < (w.orders.length : Int)))
 ((getI w.orders s0.2).bind fun y1 =>
 cond (decide (y1.state = 2))
 ((getI y1.way y1.gone).bind fun y2 =>
 (m_impl_ends w.network y2).bind fun y3 =>
 cond (decide (0 ≤ y3))
 (cond (decide (s0.1 < 0))
 (some (.inl (y3, (w64 (s0.2 + 1)))))
 (cond (decide (y3 < s0.1))
 (some (.inl (y3, (w64 (s0.2 + 1)))))
 (some (.inl (s0.1, (w64 (s0.2 + 1)))))))
 (some (.inl (s0.1, (w64 (s0.2 + 1))))))
 (cond (decide (y1.state = 1))
 (cond (decide (y1.gone < (y1.way.length : Int)))
 ((getI y1.way y1.gone).bind fun y4 =>
 (m_impl_starts w.network y4).bind fun y5 =>
 cond (decide (0 ≤ y5))
 (cond (decide (s0.1 < 0))
 (some (.inl (y5, (w64 (s0.2 + 1)))))
 (cond (decide (y5 < s0.1))
 (some (.inl (y5, (w64 (s0.2 + 1)))))
 (some (.inl (s0.1, (w64 (s0.2 + 1)))))))
 (some (.inl (s0.1, (w64 (s0.2 + 1))))))
 (cond (decide (0 ≤ (-1)))
 (cond (decide (s0.1 < 0))
 (some (.inl ((-1), (w64 (s0.2 + 1)))))
 (cond (decide ((-1) < s0.1))
 (some (.inl ((-1), (w64 (s0.2 + 1)))))
 (some (.inl (s0.1, (w64 (s0.2 + 1)))))))
 (some (.inl (s0.1, (w64 (s0.2 + 1)))))))
 (cond (decide (0 ≤ (-1)))
 (cond (decide (s0.1 < 0))
 (some (.inl ((-1), (w64 (s0.2 + 1)))))
 (cond (decide ((-1) < s0.1))
 (some (.inl ((-1), (w64 (s0.2 + 1)))))
 (some (.inl (s0.1, (w64 (s0.2 + 1)))))))
 (some (.inl (s0.1, (w64 (s0.2 + 1))))))))
 (some (.inr s0.1))
instance (w : YWorld) : LoopE (m_impl_nextEvent_b0 w) := ⟨fun s0 => (.un :: .be 0 0 0 :: .un :: vi s0.1 :: .un :: .un :: .un :: .un :: .sl (w.orders.map cOrder) :: vi (w.orders.length : Int) :: vi s0.2 :: .un :: .un :: .un :: .un :: .un :: .un :: .un :: .un :: .un :: .un :: .un :: .un :: .un :: .un :: .un :: .un :: .un :: .un :: .un :: .un :: .un :: .un :: .un :: .un :: .un :: .un :: .un :: .un :: .un :: .un :: .un :: .un :: .un :: .un :: .un :: .un :: .un :: .un :: .un :: .un :: .un :: .un :: .un :: .un :: .un :: .un :: .un :: .un :: .un :: .un :: .un :: []), fun s0 => [some ⟨41, 10, [[.sl (w.network.legs.map cLeg), .sl (w.network.off.map cInt), vi w.network.change, .sl (w.orders.map cOrder), .sl (w.bookings.map cBooking), .sl (w.closed.map cTrip), vi w.now, .sl (w.scans.map cScan), .sl (w.skip.map cInt), vi w.made]]⟩]⟩
def m_impl_nextEvent (w : YWorld) : Option Int :=
 (iterF (m_impl_nextEvent_b0 w) NN ((-1), 0)).bind (fun o0 =>
 some o0)
theorem ok_impl_nextEvent (w : YWorld) {r : Int} (H : m_impl_nextEvent w = some r) : CallM Tryz.prog 82 [.ag (cWorld w)] [] (vi r) [] := by
  replace H := H0 H
  unfold m_impl_nextEvent at H
  refine callM_of Tryz.func82 rfl Tryz.ntmps82 Tryz.results82 fun Q hQ hQn => ?_
  exact wk
instance (w : YWorld) : CT Tryz.prog (m_impl_nextEvent w) := ⟨82, [.ag (cWorld w)], [], fun r => vi r, fun r => [], ok_impl_nextEvent w⟩
end Go.Proofs.YtmcdjilbkmhfoaaGreat

/- The mirror of impl_NextEvent, and that the code does just that (printed by a program of my own). -/
namespace Go.Proofs.YtmcdjilbkmhfoaaGreat
set_option maxRecDepth 10000
open Go.RowKit
set_option linter.unusedVariables false
set_option maxHeartbeats 16000000
def m_impl_NextEvent (w : YWorld) : Option Int :=
 (m_impl_IsWorld w).bind fun y1 =>
 cond (!y1)
 (some (-1))
 ((m_impl_nextEvent w).bind fun y2 =>
 some y2)
theorem ok_impl_NextEvent (w : YWorld) {r : Int} (H : m_impl_NextEvent w = some r) : CallM Tryz.prog 27 [.ag (cWorld w)] [] (vi r) [] := by
  replace H := H0 H
  unfold m_impl_NextEvent at H
  refine callM_of Tryz.func27 rfl Tryz.ntmps27 Tryz.results27 fun Q hQ hQn => ?_
  exact wk
instance (w : YWorld) : CT Tryz.prog (m_impl_NextEvent w) := ⟨27, [.ag (cWorld w)], [], fun r => vi r, fun r => [], ok_impl_NextEvent w⟩
end Go.Proofs.YtmcdjilbkmhfoaaGreat

/- The mirror of spec_NextEvent, and that the code does just that (printed by a program of my own). -/
namespace Go.Proofs.YtmcdjilbkmhfoaaGreat
set_option maxRecDepth 10000
open Go.RowKit
set_option linter.unusedVariables false
set_option maxHeartbeats 16000000
def m_spec_NextEvent_b0 (w : YWorld) (s0 : Int × Int) : Option ((Int × Int) ⊕ Int) :=
 cond (decide (s0.1 < (w.orders.length : Int)))
 ((getI w.orders s0.1).bind fun y2 =>
 cond (decide (y2.gone = (y2.way.length : Int)))
 (some (.inl ((w64 (s0.1 + 1)), s0.2)))
 ((getI y2.way y2.gone).bind fun y3 =>
 (m_spec_l3Starts w.network y3).bind fun y4 =>
 cond (decide (y2.state = 2))
 ((getI y2.way y2.gone).bind fun y5 =>
 (m_spec_l3Ends w.network y5).bind fun y6 =>
 cond (decide (s0.2 < 0))
 (some (.inl ((w64 (s0.1 + 1)), y6)))
 (cond (decide (y6 < s0.2))
 (some (.inl ((w64 (s0.1 + 1)), y6)))
 (some (.inl ((w64 (s0.1 + 1)), s0.2)))))
 (cond (decide (s0.2 < 0))
 (some (.inl ((w64 (s0.1 + 1)), y4)))
 (cond (decide (y4 < s0.2))
 (some (.inl ((w64 (s0.1 + 1)), y4)))
 (some (.inl ((w64 (s0.1 + 1)), s0.2)))))))
 (some (.inr s0.2))
instance (w : YWorld) : LoopE (m_spec_NextEvent_b0 w) := ⟨fun s0 => (.un :: .be 0 0 0 :: .un :: vi s0.2 :: vi s0.1 :: .un :: .un :: .un :: .un :: .un :: .un :: .un :: .un :: .un :: .un :: .un :: .un :: .un :: .un :: .un :: .un :: .un :: .un :: .un :: .un :: .un :: .un :: .un :: .un :: .un :: .un :: .un :: .un :: .un :: .un :: .un :: .un :: .un :: .un :: .un :: .un :: .un :: .un :: .un :: .un :: .un :: .un :: .un :: .un :: .un :: .un :: .un :: .un :: .un :: .un :: .un :: .un :: .un :: .un :: []), fun s0 => [some ⟨41, 10, [[.sl (w.network.legs.map cLeg), .sl (w.network.off.map cInt), vi w.network.change, .sl (w.orders.map cOrder), .sl (w.bookings.map cBooking), .sl (w.closed.map cTrip), vi w.now, .sl (w.scans.map cScan), .sl (w.skip.map cInt), vi w.made]]⟩]⟩
def m_spec_NextEvent (w : YWorld) : Option Int :=
 (m_spec_IsWorld w).bind fun y1 =>
 cond (!y1)
 (some (-1))
 ((iterF (m_spec_NextEvent_b0 w) NN (0, (-1))).bind (fun o0 =>
 some o0))
theorem ok_spec_NextEvent (w : YWorld) {r : Int} (H : m_spec_NextEvent w = some r) : CallM Tryz.prog 72 [.ag (cWorld w)] [] (vi r) [] := by
  replace H := H0 H
  unfold m_spec_NextEvent at H
  refine callM_of Tryz.func72 rfl Tryz.ntmps72 Tryz.results72 fun Q hQ hQn => ?_
  exact wk
instance (w : YWorld) : CT Tryz.prog (m_spec_NextEvent w) := ⟨72, [.ag (cWorld w)], [], fun r => vi r, fun r => [], ok_spec_NextEvent w⟩
end Go.Proofs.YtmcdjilbkmhfoaaGreat

/- What a valid world's orders are; what happens next, and when an order's end is planned: the two sides answer alike. -/
namespace Go.Proofs.YtmcdjilbkmhfoaaGreat
set_option maxRecDepth 10000
open Go.RowKit
set_option linter.unusedVariables false
set_option linter.unusedSimpArgs false
set_option linter.unusedSectionVars false
structure LegOk (l : YLeg) : Prop where
  start : 0 ≤ l.start ∧ l.start ≤ 1439
  takes : 1 ≤ l.takes ∧ l.takes ≤ 4320
  room : 0 ≤ l.room ∧ l.room ≤ 1000000
theorem isLeg_ok {l : YLeg} (h : legFit l) (hv : m_spec_IsLeg l = some true) : LegOk l := by
  obtain ⟨_, b1, s1⟩ := isPlace_eq (s := l.from_) h.1
  obtain ⟨_, b2, s2⟩ := isPlace_eq (s := l.to_) h.2
  unfold m_spec_IsLeg at hv
  rw [s1, s2] at hv
  simp only [Option.bind_some, l1In_v] at hv
  cases b1 with
  | false => simp at hv
  | true =>
  cases b2 with
  | false => simp at hv
  | true =>
  simp only [cond_true] at hv
  cases h1 : decide (l.from_ = l.to_) with
  | true => rw [h1] at hv; simp at hv
  | false =>
  rw [h1] at hv
  cases h2 : decide (0 ≤ l.start) && decide (l.start ≤ 1439) with
  | false => rw [h2] at hv; simp at hv
  | true =>
  rw [h2] at hv
  cases h3 : decide (1 ≤ l.takes) && decide (l.takes ≤ 4320) with
  | false => rw [h3] at hv; simp at hv
  | true =>
  rw [h3] at hv
  cases h4 : decide (1 ≤ l.days) && decide (l.days ≤ 127) with
  | false => rw [h4] at hv; simp at hv
  | true =>
  rw [h4] at hv
  cases h5 : decide (0 ≤ l.room) && decide (l.room ≤ 1000000) with
  | false => rw [h5] at hv; simp at hv
  | true =>
  simp only [Bool.and_eq_true, decide_eq_true_iff] at h2 h3 h5
  exact ⟨h2, h3, h5⟩
theorem net_leg {n : YNetwork} (h : NetFit n) (hn : m_spec_IsNetwork n = some true) : ∀ l ∈ n.legs, LegOk l := by
  have e : iterF (m_spec_IsNetwork_b0 n) NN 0 = some (if allI (fun _ l => (m_spec_IsLeg l).getD false) 0 n.legs = true then .inl () else .inr false) := by
    refine iter_fold (A := Unit) (fun _ i => i) _ (fun a _ => a) id (fun a i l hl => ?_) (fun a => ?_) (by have := h.legs; unfold NN; omega) ()
    · have hlt := (List.getElem?_eq_some_iff.1 hl).1
      have hcl := h.legs
      have hg : getI n.legs (i : Int) = some l := by rw [getI_nat]; exact hl
      have hi : w64 ((i : Int) + 1) = ((i + 1 : Nat) : Int) := w64_nat hlt (by omega)
      obtain ⟨_, b, hb⟩ := isLeg_eq (h.leg l (List.mem_of_getElem? hl))
      unfold m_spec_IsNetwork_b0
      simp only [decide_eq_true (show (i : Int) < n.legs.length by omega), cond_true, hg, Option.bind_some, hb, hi, Option.getD_some]
      cases b <;> rfl
    · unfold m_spec_IsNetwork_b0
      simp
  unfold m_spec_IsNetwork at hn
  rw [e] at hn
  by_cases ha : allI (fun _ l => (m_spec_IsLeg l).getD false) 0 n.legs = true
  · intro l hl
    obtain ⟨i, hi, rfl⟩ := List.getElem_of_mem hl
    have := allI_iff.1 ha i _ (List.getElem?_eq_getElem hi)
    obtain ⟨_, b, hb⟩ := isLeg_eq (h.leg _ (List.getElem_mem hi))
    rw [hb] at this
    simp at this
    subst this
    exact isLeg_ok (h.leg _ (List.getElem_mem hi)) hb
  · rw [if_neg ha] at hn
    simp at hn
theorem trip_day {n : YNetwork} {t : YTrip} (ht : tripB n t = true) : 0 ≤ t.day ∧ t.day ≤ 60 := by
  unfold tripB m_spec_l3Runs at ht
  rw [l1In_v, l1In_v] at ht
  simp only [Option.bind_some] at ht
  cases h1 : decide (0 ≤ t.leg) && decide (t.leg ≤ w64 ((n.legs.length : Int) - 1)) with
  | false => rw [h1] at ht; simp at ht
  | true =>
  rw [h1] at ht
  simp only [cond_true] at ht
  cases h2 : decide (0 ≤ t.day) && decide (t.day ≤ 60) with
  | false => rw [h2] at ht; simp at ht
  | true => simpa only [Bool.and_eq_true, decide_eq_true_iff] using h2
/-- When a trip starts and ends. -/
def startV (n : YNetwork) (t : YTrip) : Int := (m_spec_l3Starts n t).getD 0
def endsV (n : YNetwork) (t : YTrip) : Int := (m_spec_l3Ends n t).getD 0
theorem trip_time {n : YNetwork} (h : NetFit n) (hn : m_spec_IsNetwork n = some true) {t : YTrip} (ht : tripB n t = true) :
    m_spec_l3Starts n t = some (startV n t) ∧ m_spec_l3Ends n t = some (endsV n t) ∧ 0 ≤ startV n t ∧ startV n t < endsV n t ∧ endsV n t ≤ 100000 := by
  obtain ⟨y, hy, hm⟩ := tripB_leg h ht
  obtain ⟨d0, d1⟩ := trip_day ht
  have hl := net_leg h hn y hm
  obtain ⟨a0, a1⟩ := hl.start
  obtain ⟨b0, b1⟩ := hl.takes
  have e1 : m_spec_l3Starts n t = some (t.day * 1440 + y.start) := by
    unfold m_spec_l3Starts
    rw [hy]
    simp only [Option.bind_some]
    rw [w64_in (n := t.day * 1440) (by omega), w64_in (by omega)]
  have e2 : m_spec_l3Ends n t = some (t.day * 1440 + y.start + y.takes) := by
    unfold m_spec_l3Ends
    rw [e1, hy]
    simp only [Option.bind_some]
    rw [w64_in (by omega)]
  have s1 : startV n t = t.day * 1440 + y.start := by unfold startV; rw [e1]; rfl
  have s2 : endsV n t = t.day * 1440 + y.start + y.takes := by unfold endsV; rw [e2]; rfl
  refine ⟨by rw [e1, s1], by rw [e2, s2], by omega, by omega, by omega⟩
theorem optb {b c : Bool} (h : some b = some c) : b = c := Option.some.inj h
/-- What a valid order's state says. -/
theorem state_cases {n : YNetwork} {o : YOrder} {now : Int} (h : m_spec_l10State n o now = some true) : (o.state = 1 ∧ ¬ (o.place = o.to_)) ∨ (o.state = 2 ∧ o.gone < o.way.length) ∨ (o.state = 3 ∧ o.gone = o.way.length ∧ 0 < o.gone) := by
  by_cases h1 : o.state = 1
  · refine .inl ⟨h1, fun hp => ?_⟩
    unfold m_spec_l10State at h
    rw [decide_eq_true h1] at h
    cases h0 : decide (0 < o.gone) with
    | false =>
      rw [h0] at h
      simp only [cond_false, cond_true] at h
      cases hq : decide (o.place = o.from_) with
      | false => rw [hq] at h; cases h
      | true =>
        rw [hq, decide_eq_true (show o.from_ = o.to_ from (of_decide_eq_true hq).symm.trans hp)] at h
        cases h
    | true =>
      rw [h0] at h
      simp only [cond_false, cond_true] at h
      cases hg : getI o.way (w64 (o.gone - 1)) with
      | none => rw [hg] at h; cases h
      | some y1 =>
        rw [hg] at h
        simp only [Option.bind_some] at h
        cases hl : getI n.legs y1.leg with
        | none => rw [hl] at h; cases h
        | some y2 =>
          rw [hl] at h
          simp only [Option.bind_some] at h
          cases he : m_spec_l3Ends n y1 with
          | none => rw [he] at h; cases h
          | some v =>
            rw [he] at h
            simp only [Option.bind_some] at h
            cases hc : decide (now < v) with
            | true => rw [hc] at h; cases h
            | false =>
              rw [hc] at h
              simp only [cond_false] at h
              cases hq : decide (o.place = y2.to_) with
              | false => rw [hq] at h; cases h
              | true =>
                rw [hq, decide_eq_true (show y2.to_ = o.to_ from (of_decide_eq_true hq).symm.trans hp)] at h
                cases h
  · by_cases h2 : o.state = 2
    · refine .inr (.inl ⟨h2, ?_⟩)
      rcases Classical.em (o.gone < o.way.length) with hlt | hlt
      · exact hlt
      exfalso
      unfold m_spec_l10State at h
      rw [decide_eq_false h1, decide_eq_true h2, decide_eq_false hlt] at h
      cases h0 : decide (0 < o.gone) with
      | false =>
        rw [h0] at h
        simp only [cond_false, cond_true] at h
        revert h; cases decide (o.place = ⟨#[]⟩) <;> cases decide (o.ended = 0) <;> (intro h; cases h)
      | true =>
        rw [h0] at h
        simp only [cond_false, cond_true] at h
        cases hg : getI o.way (w64 (o.gone - 1)) with
        | none => rw [hg] at h; cases h
        | some y1 =>
          rw [hg] at h
          simp only [Option.bind_some] at h
          cases hl : getI n.legs y1.leg with
          | none => rw [hl] at h; cases h
          | some y2 =>
            rw [hl] at h
            simp only [Option.bind_some] at h
            cases he : m_spec_l3Ends n y1 with
            | none => rw [he] at h; cases h
            | some v =>
              rw [he] at h
              simp only [Option.bind_some] at h
              revert h; cases decide (now < v) <;> cases decide (o.place = ⟨#[]⟩) <;> cases decide (o.ended = 0) <;> (intro h; cases h)
    · by_cases h3 : o.state = 3
      · refine .inr (.inr ⟨h3, ?_⟩)
        rcases Classical.em (o.gone = o.way.length ∧ 0 < o.gone) with hlt | hlt
        · exact hlt
        exfalso
        unfold m_spec_l10State at h
        rw [decide_eq_false h1, decide_eq_false h2, decide_eq_true h3] at h
        cases h0 : decide (0 < o.gone) with
        | false =>
          rw [h0] at h
          simp only [cond_false, cond_true] at h
          revert h; cases decide (o.place = o.to_) <;> cases decide (o.from_ = o.to_) <;> cases decide (o.gone = (o.way.length : Int)) <;> (intro h; cases h)
        | true =>
          have hne : ¬ o.gone = (o.way.length : Int) := fun e => hlt ⟨e, of_decide_eq_true h0⟩
          rw [h0, decide_eq_false hne] at h
          simp only [cond_false, cond_true] at h
          cases hg : getI o.way (w64 (o.gone - 1)) with
          | none => rw [hg] at h; cases h
          | some y1 =>
            rw [hg] at h
            simp only [Option.bind_some] at h
            cases hl : getI n.legs y1.leg with
            | none => rw [hl] at h; cases h
            | some y2 =>
              rw [hl] at h
              simp only [Option.bind_some] at h
              cases he : m_spec_l3Ends n y1 with
              | none => rw [he] at h; cases h
              | some v =>
                rw [he] at h
                simp only [Option.bind_some] at h
                revert h; cases decide (now < v) <;> cases decide (o.place = o.to_) <;> cases decide (y2.to_ = o.to_) <;> (intro h; cases h)
      · exfalso
        unfold m_spec_l10State at h
        rw [decide_eq_false h1, decide_eq_false h2, decide_eq_false h3] at h
        cases h0 : decide (0 < o.gone) with
        | false => rw [h0] at h; cases h
        | true =>
          rw [h0] at h
          simp only [cond_false, cond_true] at h
          cases hg : getI o.way (w64 (o.gone - 1)) with
          | none => rw [hg] at h; cases h
          | some y1 =>
            rw [hg] at h
            simp only [Option.bind_some] at h
            cases hl : getI n.legs y1.leg with
            | none => rw [hl] at h; cases h
            | some y2 =>
              rw [hl] at h
              simp only [Option.bind_some] at h
              cases he : m_spec_l3Ends n y1 with
              | none => rw [he] at h; cases h
              | some v =>
                rw [he] at h
                simp only [Option.bind_some] at h
                revert h; cases decide (now < v) <;> (intro h; cases h)
/-- What a valid world's order is. -/
structure OrderOk (w : YWorld) (i : Nat) (o : YOrder) : Prop where
  gone : 0 ≤ o.gone ∧ o.gone ≤ o.way.length
  trip : ∀ t ∈ o.way, tripB w.network t = true
  way : allI (wayC w ((i + 1 : Nat) : Int) o) 0 o.way = true
  isWay : m_spec_IsWay w.network o.way o.from_ (endV w.network o) (w64 (o.at_ + 1)) = some true
  st : m_spec_l10State w.network o w.now = some true
  cases : (o.state = 1 ∧ ¬ (o.place = o.to_)) ∨ (o.state = 2 ∧ o.gone < o.way.length) ∨ (o.state = 3 ∧ o.gone = o.way.length ∧ 0 < o.gone)
  open_ : ((o.way.drop (comesV o).toNat).any (closedB w.closed)) = false
  fromto : ¬ o.from_ = o.to_
  at_ : 0 ≤ o.at_ ∧ o.at_ ≤ w.now
  due : 0 ≤ o.due ∧ o.due ≤ 200000
theorem order_ok {w : YWorld} (hf : WFit w) {i : Nat} {o : YOrder} (hl : o.way.length ≤ 1048576) (h : orderV w i o = true) : OrderOk w i o := by
  unfold orderV at h
  simp only [Bool.and_eq_true, Bool.not_eq_true', decide_eq_true_iff, decide_eq_false_iff_not] at h
  obtain ⟨⟨⟨⟨⟨⟨⟨⟨⟨⟨⟨h1, h2⟩, h3⟩, h4⟩, h5⟩, h6⟩, h7⟩, h8⟩, h9⟩, h10⟩, h11⟩, h12⟩ := h
  have ht : ∀ t ∈ o.way, tripB w.network t = true := by
    intro t ht
    obtain ⟨j, hj, rfl⟩ := List.getElem_of_mem ht
    have := allI_iff.1 h9 j _ (List.getElem?_eq_getElem hj)
    unfold wayC at this
    simp only [Bool.and_eq_true] at this
    exact this.1.1
  obtain ⟨r, hr⟩ := isWay_some hf.net hl o.from_ (endV w.network o) (w64 (o.at_ + 1))
  obtain ⟨b, hb⟩ := state_some (n := w.network) h8 hl (fun t htt => by obtain ⟨y, hy, _⟩ := tripB_leg hf.net (ht t htt); exact ⟨y, hy⟩) w.now
  rw [hr] at h10
  rw [hb] at h11
  simp only [Option.getD_some] at h10 h11
  subst h10 h11
  exact ⟨h8, ht, h9, hr, hb, state_cases hb, h12, h3, h6, h7⟩
section
variable {w : YWorld} (hf : WFit w) (hv : worldV w = true)
include hf hv
theorem world_ok {i : Nat} {o : YOrder} (ho : w.orders[i]? = some o) : OrderOk w i o := order_ok hf (hf.way o (List.mem_of_getElem? ho)) (world_order hv ho)
theorem world_net : m_spec_IsNetwork w.network = some true := (books_net (world_books hv)).1
theorem way_at {o : YOrder} {i : Nat} (ho : w.orders[i]? = some o) {k : Int} (h0 : 0 ≤ k) (h1 : k < o.way.length) : ∃ t, getI o.way k = some t ∧ tripB w.network t = true := by
  have hlt : k.toNat < o.way.length := by omega
  exact ⟨o.way[k.toNat], by unfold getI; rw [if_pos h0]; exact List.getElem?_eq_getElem hlt, (world_ok hf hv ho).trip _ (List.getElem_mem hlt)⟩
theorem next_eq : m_impl_nextEvent w = (iterF (m_spec_NextEvent_b0 w) NN (0, (-1))).bind (fun o0 => some o0) := by
  have hnet := world_net hf hv
  have hor := hf.orders
  let F : Nat → Int → YOrder → Option (Int ⊕ Int) := fun _ a o =>
    if o.gone = o.way.length then some (.inl a) else (getI o.way o.gone).bind fun t =>
      let v := if o.state = 2 then endsV w.network t else startV w.network t
      some (.inl (if a < 0 ∨ v < a then v else a))
  have e1 : iterF (m_impl_nextEvent_b0 w) NN ((-1), 0) = runL F some 0 w.orders (-1) := by
    refine iter_list (A := Int) (fun a i => (a, i)) F some (fun a i o ho => ?_) (fun a => ?_) (by unfold NN; omega) (-1)
    · have hlt := (List.getElem?_eq_some_iff.1 ho).1
      have hg : getI w.orders (i : Int) = some o := by rw [getI_nat]; exact ho
      have hi : w64 ((i : Int) + 1) = ((i + 1 : Nat) : Int) := w64_nat hlt (by omega)
      have hok := world_ok hf hv ho
      unfold m_impl_nextEvent_b0
      simp only [decide_eq_true (show (i : Int) < w.orders.length by omega), cond_true, hg, Option.bind_some, hi, starts_eq, ends_eq]
      show _ = (F i a o).bind _
      simp only [F]
      by_cases hgl : o.gone < o.way.length
      · obtain ⟨t, htg, htb⟩ := way_at hf hv ho hok.gone.1 hgl
        obtain ⟨t1, t2, t3, t4, t5⟩ := trip_time hf.net hnet htb
        rw [if_neg (show ¬ o.gone = (o.way.length : Int) by omega), htg]
        simp only [Option.bind_some, t1, t2, decide_eq_true hgl]
        rcases hok.cases with ⟨c1, _⟩ | ⟨c1, _⟩ | ⟨c1, c2, _⟩
        · rw [c1]
          simp only [show decide ((1 : Int) = 2) = false from rfl, show decide ((1 : Int) = 1) = true from rfl, cond_true, cond_false, decide_eq_true t3, show ¬ ((1 : Int) = 2) by omega, if_false, selim]
          by_cases ha : a < 0
          · simp [ha]
          · by_cases hb : startV w.network t < a <;> simp [ha, hb]
        · rw [c1]
          simp only [show decide ((2 : Int) = 2) = true from rfl, cond_true, decide_eq_true (show 0 ≤ endsV w.network t by omega), if_true, selim]
          by_cases ha : a < 0
          · simp [ha]
          · by_cases hb : endsV w.network t < a <;> simp [ha, hb]
        · omega
      · have hge := hok.gone.2
        rw [if_pos (show o.gone = (o.way.length : Int) by omega), decide_eq_false hgl]
        rcases hok.cases with ⟨c1, _⟩ | ⟨c1, _⟩ | ⟨c1, c2, _⟩
        · rw [c1]; rfl
        · omega
        · rw [c1]; rfl
    · unfold m_impl_nextEvent_b0
      simp
  have e2 : iterF (m_spec_NextEvent_b0 w) NN (0, (-1)) = runL F some 0 w.orders (-1) := by
    refine iter_list (A := Int) (fun a i => (i, a)) F some (fun a i o ho => ?_) (fun a => ?_) (by unfold NN; omega) (-1)
    · have hlt := (List.getElem?_eq_some_iff.1 ho).1
      have hg : getI w.orders (i : Int) = some o := by rw [getI_nat]; exact ho
      have hi : w64 ((i : Int) + 1) = ((i + 1 : Nat) : Int) := w64_nat hlt (by omega)
      have hok := world_ok hf hv ho
      unfold m_spec_NextEvent_b0
      simp only [decide_eq_true (show (i : Int) < w.orders.length by omega), cond_true, hg, Option.bind_some, hi]
      show _ = (F i a o).bind _
      simp only [F]
      by_cases hgl : o.gone < o.way.length
      · obtain ⟨t, htg, htb⟩ := way_at hf hv ho hok.gone.1 hgl
        obtain ⟨t1, t2, t3, t4, t5⟩ := trip_time hf.net hnet htb
        rw [if_neg (show ¬ o.gone = (o.way.length : Int) by omega), decide_eq_false (show ¬ o.gone = (o.way.length : Int) by omega), htg]
        simp only [Option.bind_some, t1, t2, cond_false]
        by_cases c1 : o.state = 2
        · simp only [decide_eq_true c1, cond_true, if_pos c1, selim]
          by_cases ha : a < 0
          · simp [ha]
          · by_cases hb : endsV w.network t < a <;> simp [ha, hb]
        · simp only [decide_eq_false c1, cond_false, if_neg c1, selim]
          by_cases ha : a < 0
          · simp [ha]
          · by_cases hb : startV w.network t < a <;> simp [ha, hb]
      · have hge := hok.gone.2
        rw [if_pos (show o.gone = (o.way.length : Int) by omega), decide_eq_true (show o.gone = (o.way.length : Int) by omega)]
        rfl
    · unfold m_spec_NextEvent_b0
      simp
  unfold m_impl_nextEvent
  rw [e1, e2]
theorem next_some : ∃ v, m_impl_nextEvent w = some v := by
  rw [next_eq hf hv]
  have hnet := world_net hf hv
  have hor := hf.orders
  obtain ⟨o, ho⟩ : ∃ o, iterF (m_spec_NextEvent_b0 w) NN (0, (-1)) = some o := by
    refine iter_tot (fun k s => ∃ i : Nat, i + k = w.orders.length ∧ s.1 = (i : Int)) ?_ NN w.orders.length _ ⟨0, by omega, rfl⟩ (by unfold NN; omega)
    rintro k ⟨i', a⟩ ⟨i, hi, hs⟩
    simp only at hs
    subst hs
    unfold m_spec_NextEvent_b0
    rcases Nat.lt_or_ge i w.orders.length with hlt | hge
    · have hw := w64_nat hlt (by omega)
      have ho : w.orders[i]? = some w.orders[i] := List.getElem?_eq_getElem hlt
      have hg : getI w.orders (i : Int) = some w.orders[i] := by rw [getI_nat]; exact ho
      have hok := world_ok hf hv ho
      simp only [decide_eq_true (show (i : Int) < w.orders.length by omega), cond_true, hg, Option.bind_some, hw]
      by_cases hgl : w.orders[i].gone < w.orders[i].way.length
      · obtain ⟨t, htg, htb⟩ := way_at hf hv ho hok.gone.1 hgl
        obtain ⟨t1, t2, t3, t4, t5⟩ := trip_time hf.net hnet htb
        simp only [decide_eq_false (show ¬ w.orders[i].gone = (w.orders[i].way.length : Int) by omega), htg, t1, t2, cond_false, Option.bind_some]
        cases decide (w.orders[i].state = 2) <;> cases decide (a < 0) <;> cases decide (endsV w.network t < a) <;> cases decide (startV w.network t < a) <;> exact ⟨_, rfl, fun s' e => by cases e; exact ⟨k - 1, by omega, i + 1, by omega, rfl⟩⟩
      · have hge := hok.gone.2
        simp only [decide_eq_true (show w.orders[i].gone = (w.orders[i].way.length : Int) by omega), cond_true]
        exact ⟨_, rfl, fun s' e => by cases e; exact ⟨k - 1, by omega, i + 1, by omega, rfl⟩⟩
    · simp only [decide_eq_false (show ¬ (i : Int) < w.orders.length by omega), cond_false]
      exact ⟨_, rfl, fun s' e => by cases e⟩
  exact ⟨o, by rw [ho]; rfl⟩
end
theorem nextEvent_eq {w : YWorld} (hf : WFit w) : ∃ v, m_impl_NextEvent w = some v ∧ m_spec_NextEvent w = some v := by
  unfold m_impl_NextEvent m_spec_NextEvent
  rw [impl_world hf, spec_world hf]
  cases hv : worldV w with
  | false => exact ⟨-1, rfl, rfl⟩
  | true =>
    obtain ⟨v, h⟩ := next_some hf hv
    have h2 := next_eq hf hv
    rw [h] at h2
    simp only [Option.bind_some, Bool.not_true, cond_false, h]
    exact ⟨v, rfl, h2.symm⟩
theorem stranded_eq {w : YWorld} (hf : WFit w) (hv : worldV w = true) {i : Nat} {o : YOrder} (ho : w.orders[i]? = some o) : ∃ b, m_impl_isStranded w o = some b ∧ m_spec_l10Stranded w (i : Int) = some b ∧ (b = false → 0 < o.way.length) := by
  have hok := world_ok hf hv ho
  have hl := hf.way o (List.mem_of_getElem? ho)
  obtain ⟨c1, c2, c3⟩ := comes_v hok.gone hl
  have hg : getI w.orders (i : Int) = some o := by rw [getI_nat]; exact ho
  unfold m_impl_isStranded m_spec_l10Stranded
  rw [hg]
  simp only [Option.bind_some]
  rcases hok.cases with ⟨k1, k2⟩ | ⟨k1, k2⟩ | ⟨k1, k2, k3⟩
  · have hcv : comesV o = o.gone := by unfold comesV; rw [k1]; rfl
    have hge := hok.gone
    have hh : m_spec_l10Here w.network o = some o.place := by unfold m_spec_l10Here; rw [k1]; rfl
    rw [here_eq, hh, c1, c3, hcv, if_neg (show ¬ (o.way.length : Int) < o.gone by omega), k1]
    simp only [Option.bind_some]
    by_cases hgl : o.gone = o.way.length
    · refine ⟨true, ?_, ?_, fun h => by cases h⟩
      · rw [decide_eq_true hgl, decide_eq_false k2]; rfl
      · rw [decide_eq_true hgl, decide_eq_false k2]; rfl
    · exact ⟨false, by rw [decide_eq_false hgl]; rfl, by rw [decide_eq_false hgl]; rfl, fun _ => by omega⟩
  · have hcv : comesV o = o.gone + 1 := by unfold comesV; rw [k1]; rfl
    have hge := hok.gone
    obtain ⟨t, htg, htb⟩ := way_at hf hv ho hok.gone.1 k2
    obtain ⟨y, hy, _⟩ := tripB_leg hf.net htb
    have hh : m_spec_l10Here w.network o = some y.to_ := by unfold m_spec_l10Here; rw [k1, htg]; simp [hy]
    rw [here_eq, hh, c1, c3, hcv, if_neg (show ¬ (o.way.length : Int) < o.gone + 1 by omega), k1]
    simp only [Option.bind_some]
    cases decide (o.gone + 1 = (o.way.length : Int)) with
    | true => exact ⟨_, rfl, rfl, fun _ => by omega⟩
    | false => exact ⟨_, rfl, rfl, fun _ => by omega⟩
  · rw [k1]
    exact ⟨false, rfl, rfl, fun _ => by omega⟩
end Go.Proofs.YtmcdjilbkmhfoaaGreat
