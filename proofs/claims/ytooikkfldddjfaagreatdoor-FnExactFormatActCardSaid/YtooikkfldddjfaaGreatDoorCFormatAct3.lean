/- The statement FnExactFormatActCardSaid: for every input that can be read the law FnExactFormatAct returns true and leaves its arguments as they were. No further condition. -/
import Derived.Test.YtooikkfldddjfaaGreatDoorCFormatAct1
import Derived.Laws.BytesArg
import Derived.Lib.ItoaLen
import Derived.Test.YtooikkfldddjfaaGreatDoorProg
import Derived.Shelf.Strings.Builder1
import Derived.Shelf.Strings.Builder2
import Derived.Shelf.Small.Bits
import Derived.Shelf.Strings.BuilderF
import Derived.Shelf.Strings.BuilderK
import Derived.Shelf.Strings.Builder2Cap
import Derived.Shelf.Strconv.Itoa0
import Derived.Shelf.Strconv.Itoa1
import Derived.Shelf.LaysM
import Derived.Shelf.Strconv.Itoa2
import Derived.Shelf.Strconv.Itoa3
import Derived.Shelf.Strings.Prefix
import Derived.Shelf.Bits.Mul64
import Derived.Shelf.Strings.Repeat
import Derived.Shelf.Strings.BuilderCap
import Derived.Sort.Grow
import Derived.Test.YtooikkfldddjfaaGreatDoorCFormatAct2
import Derived.Shelf.GgSortMore.Iface
import Derived.Sort.OwnSortedInts
import Derived.Laws.AppendOwnNone
import Derived.OpenShut
import Derived.Test.YtooikkfldddjfaaGreatDoorRows
import Derived.Test.YtooikkfldddjfaaGreatDoorTie
import Derived.Test.YtooikkfldddjfaaGreatDoorCards
import Derived.LaidMore
import Derived.Stop.Joined
import Derived.Stop.LaidErr
import Derived.SevenTiedAt
/- spec.FormatInt at a world: the digits of a number. -/
namespace Go.Proofs.YtooikkfldddjfaaGreatDoor
set_option maxRecDepth 10000
open Go.RowKit
set_option linter.unusedVariables false
set_option linter.unusedSimpArgs false
/-- The digits of u, none for 0. -/
def dg (u : Nat) : List UInt8 := if h : u = 0 then [] else dg (u / 10) ++ [UInt8.ofNat (48 + u % 10)]
termination_by u
decreasing_by omega
theorem dg_zero : dg 0 = [] := by rw [dg, dif_pos rfl]
theorem dg_pos {u : Nat} (h : 0 < u) : dg u = dg (u / 10) ++ [UInt8.ofNat (48 + u % 10)] := by rw [dg, dif_neg (by omega)]
theorem dg_dec : ∀ (k u : Nat), u ≤ k → 0 < u → dg u = Lib.decDigits u
  | 0, u, h, h0 => by omega
  | k + 1, u, h, h0 => by
    rw [dg_pos h0, Lib.decDigits]
    by_cases h10 : u < 10
    · rw [dif_pos h10, show u / 10 = 0 by omega, dg_zero, show u % 10 = u by omega]; rfl
    · rw [dif_neg h10, dg_dec k (u / 10) (by omega) (by omega)]
def txt (l : List UInt8) : ByteArray := ⟨l.toArray⟩
theorem txt_cons (c : Nat) (l : List UInt8) : strOfNums [(c : Int)] ++ txt l = txt (UInt8.ofNat c :: l) := by
  apply ByteArray.ext
  rw [ByteArray.data_append]
  simp [strOfNums, txt]
theorem txt_size (l : List UInt8) : (txt l).size = l.length := by simp [txt, ByteArray.size]
theorem dg_len (u : Nat) (h : u ≤ 9223372036854775808) : (dg u).length ≤ 21 := by
  rcases Nat.eq_zero_or_pos u with rfl | h0
  · rw [dg_zero]; simp
  · rw [dg_dec u u (Nat.le_refl _) h0]
    have := Lib.itoa_length_le (-(u : Int)) (by omega) (by omega)
    unfold Lib.itoa at this
    rw [if_pos (by omega), show (-(u : Int)).natAbs = u by omega] at this
    simp at this
    omega
theorem formatInt_spec (n : Int) (h0 : -9223372036854775808 ≤ n) (h1 : n ≤ 9223372036854775807) (w : World) :
    Calls Tryz.prog 18 #[.int .i64 n] w fun e w' => e = .returned (.string (txt (Lib.itoa n))) ∧ Up w w' := by
  by_cases hn0 : n = 0
  · subst hn0
    go_enter Tryz.func18, Tryz.ntmps18
    go_wp2
    go_ret
    refine ⟨?_, by (repeat (first | exact Up.rfl' _ | (refine Up.al _ ?_) | (refine Up.dr _ ?_) | (refine Up.dr1 ?_) | (refine Up.sc ?_ (by first | exact Nat.le_refl _ | (simp; done) | omega) _) | (refine Up.step (by assumption) ?_)))⟩
    congr 1
    unfold Lib.itoa
    rw [if_neg (by omega), Lib.decDigits, dif_pos (by decide)]
    rfl
  · have hfin : ∀ l : List UInt8, dg n.natAbs = l → (if n < 0 then 45 :: l else l) = Lib.itoa n := by
      rintro l rfl
      rw [dg_dec _ _ (Nat.le_refl _) (by omega)]
      unfold Lib.itoa
      split
      · rfl
      · rw [show n.natAbs = n.toNat by omega]
    have hlen := dg_len n.natAbs (by omega)
    go_enter Tryz.func18, Tryz.ntmps18
    go_wp2
    go_loopw [3, 4] (fun ss xx wr => ∃ (m : Int) (l : List UInt8), xx = .int .i64 m ∧ ss = .string (txt l) ∧ dg m.natAbs ++ l = dg n.natAbs ∧ -9223372036854775808 ≤ m ∧ m ≤ 9223372036854775807 ∧ Up w wr) (fun _ xx _ => (intOf xx).natAbs)
    case atStart => exact ⟨n, [], rfl, rfl, by simp, h0, h1, by (repeat (first | exact Up.rfl' _ | (refine Up.al _ ?_) | (refine Up.dr _ ?_) | (refine Up.dr1 ?_) | (refine Up.sc ?_ (by first | exact Nat.le_refl _ | (simp; done) | omega) _) | (refine Up.step (by assumption) ?_)))⟩
    case round =>
      obtain ⟨m, l, rfl, rfl, hd, hm0, hm1, hb⟩ := hrel
      have hl : l.length ≤ 21 := by
        have := congrArg List.length hd
        rw [List.length_append] at this
        omega
      by_cases hz : m = 0
      · subst hz
        have hd' : l = dg n.natAbs := by simpa [dg_zero] using hd
        have hs : (txt l).size ≤ 30 := by rw [txt_size]; omega
        have hf := hfin l hd'.symm
        clear hfin
        have h45 : (⟨#[45]⟩ : ByteArray).size = 1 := rfl
        have HF := Lib.hid hf
        clear hf hd hd'
        go_wp2
        all_goals (try (exfalso; omega))
        all_goals (go_ret; refine ⟨?_, by (repeat (first | exact Up.rfl' _ | (refine Up.al _ ?_) | (refine Up.dr _ ?_) | (refine Up.dr1 ?_) | (refine Up.sc ?_ (by first | exact Nat.le_refl _ | (simp; done) | omega) _) | (refine Up.step (by assumption) ?_)))⟩; have hf := HF.out; first | (rw [if_pos (by omega)] at hf; rw [← hf]; rfl) | (rw [if_neg (by omega)] at hf; exact congrArg (fun l => Ending.returned (.string (txt l))) hf))
      · have hs : (txt l).size ≤ 30 := by rw [txt_size]; omega
        have hu8 : ∀ c : Nat, c < 10 → UInt8.ofNat (48 + c) = UInt8.ofNat (48 + c) := fun _ _ => rfl
        by_cases hneg : m < 0
        · obtain ⟨u, rfl⟩ : ∃ u : Nat, m = -(u : Int) := ⟨m.natAbs, by omega⟩
          have hu : 0 < u := by omega
          rw [show (-(u : Int)).natAbs = u by omega, dg_pos hu] at hd
          have hcv := fun z : Int => run_convert_bytes_arg (P := Tryz.prog) (wr.alloc (.cells #[.int .u8 z] 5)) 59 5 Tryz.underlying59 Tryz.underlying5 wr.heap.size 0 1 1 [z] rfl (fun i hi => (by obtain rfl : i = 0 := (by omega); simp [go_sem])) 9 Tryz.underlying9
          have hcv1 := hcv (48 + (u : Int) % 10)
          have hcv2 := hcv (48 + -((u : Int) % 10))
          clear hcv
          have hsz : (strOfNums [48 + (u : Int) % 10]).size = 1 := by simp [strOfNums, ByteArray.size]
          have hsz2 : (strOfNums [48 + -((u : Int) % 10)]).size = 1 := by simp [strOfNums, ByteArray.size]
          go_wp2
          all_goals (try (exfalso; omega))
          · refine ⟨⟨-((u / 10 : Nat) : Int), UInt8.ofNat (48 + u % 10) :: l, by congr 1, ?_, ?_, by omega, by omega, by (repeat (first | exact Up.rfl' _ | (refine Up.al _ ?_) | (refine Up.dr _ ?_) | (refine Up.dr1 ?_) | (refine Up.sc ?_ (by first | exact Nat.le_refl _ | (simp; done) | omega) _) | (refine Up.step (by assumption) ?_)))⟩, by simp [intOf]; omega⟩
            · rw [show (48 + (u : Int) % 10) = ((48 + u % 10 : Nat) : Int) by omega, txt_cons]
            · rw [show (-((u / 10 : Nat) : Int)).natAbs = u / 10 by omega, ← hd]; simp
          · refine ⟨⟨-((u / 10 : Nat) : Int), UInt8.ofNat (48 + u % 10) :: l, by congr 1, ?_, ?_, by omega, by omega, by (repeat (first | exact Up.rfl' _ | (refine Up.al _ ?_) | (refine Up.dr _ ?_) | (refine Up.dr1 ?_) | (refine Up.sc ?_ (by first | exact Nat.le_refl _ | (simp; done) | omega) _) | (refine Up.step (by assumption) ?_)))⟩, by simp [intOf]; omega⟩
            · rw [show (48 + -((u : Int) % 10)) = ((48 + u % 10 : Nat) : Int) by omega, txt_cons]
            · rw [show (-((u / 10 : Nat) : Int)).natAbs = u / 10 by omega, ← hd]; simp
        · obtain ⟨u, rfl⟩ : ∃ u : Nat, m = (u : Int) := ⟨m.toNat, by omega⟩
          have hu : 0 < u := by omega
          rw [show ((u : Int)).natAbs = u by omega, dg_pos hu] at hd
          have hcv := run_convert_bytes_arg (P := Tryz.prog) (wr.alloc (.cells #[.int .u8 (48 + (u : Int) % 10)] 5)) 59 5 Tryz.underlying59 Tryz.underlying5 wr.heap.size 0 1 1 [48 + (u : Int) % 10] rfl (fun i hi => (by obtain rfl : i = 0 := (by omega); simp [go_sem])) 9 Tryz.underlying9
          have hsz : (strOfNums [48 + (u : Int) % 10]).size = 1 := by simp [strOfNums, ByteArray.size]
          go_wp2
          refine ⟨⟨((u / 10 : Nat) : Int), UInt8.ofNat (48 + u % 10) :: l, by congr 1, ?_, ?_, by omega, by omega, by (repeat (first | exact Up.rfl' _ | (refine Up.al _ ?_) | (refine Up.dr _ ?_) | (refine Up.dr1 ?_) | (refine Up.sc ?_ (by first | exact Nat.le_refl _ | (simp; done) | omega) _) | (refine Up.step (by assumption) ?_)))⟩, by simp [intOf]; omega⟩
          · rw [show (48 + (u : Int) % 10) = ((48 + u % 10 : Nat) : Int) by omega, txt_cons]
          · rw [show (((u / 10 : Nat) : Int)).natAbs = u / 10 by omega, ← hd]; simp
end Go.Proofs.YtooikkfldddjfaaGreatDoor

/-
  DERIVED: THE SHELF's CONTRACTS AT THIS DUMP, IN PLAIN WORDS (tools/lay-plain.mjs out of 'TryzShelf.lean', which tools/lay-shelf.mjs wrote): THE SAME DECLARATIONS UNDER THE SAME NAMES: 'import', 'namespace', 'open', 'def', 'theorem' AND NOTHING ELSE: no command of the shelf's: FOR A HAND-IN. Each laying: the table of numbers ('.._ren') and one theorem, a field a fact of the dump's own or the kernel's comparison; each contract: ONE APPLICATION.
-/
namespace Go.Proofs
open Go.Shelf
def Tryz.lays170_ren : Go.Shelf.Ren := ⟨fun | 170 => 76 | n => n, fun | 70 => 58 | 3 => 3 | 0 => 0 | 72 => 61 | 37 => 59 | 5 => 5 | n => n, fun | n => n⟩
theorem Tryz.lays170 : Go.Proofs.Lays.n170 Tryz.prog Tryz.lays170_ren := {
  mixed := by kernel_rfl
  f170 := Tryz.func76.trans (congrArg some (by kernel_rfl))
  t0 := Tryz.underlying0
  a0 := Tryz.isAgg0
  z0 := Tryz.sizeOf0
  v0 := Tryz.zeroValue0
  t3 := Tryz.underlying3
  a3 := Tryz.isAgg3
  z3 := Tryz.sizeOf3
  v3 := Tryz.zeroValue3
  t37 := Tryz.underlying59
  a37 := Tryz.isAgg59
  z37 := Tryz.sizeOf59
  v37 := Tryz.zeroValue59
  t70 := Tryz.underlying58
  a70 := Tryz.isAgg58
  z70 := Tryz.sizeOf58
  v70 := Tryz.zeroValue58
  t72 := Tryz.underlying61
  a72 := Tryz.isAgg61
  z72 := Tryz.sizeOf61
  v72 := Tryz.zeroValue61 }
open Go.RowKit in
/-- (*strings.Builder).Len: "Len returns the number of accumulated bytes; b.Len() == len(b.String()).": the world is as_ it was. (LAID: no walk: one application.) -/
theorem Tryz.Builder_Len (B b : Nat) (bs : List Value) (w : World) (h : Lib.IsBuilder 61 5 B b bs w) :
    Calls Tryz.prog 76 #[.pointer (some ⟨b, 0, none⟩)] w fun e w' => e = .returned (.int .i64 bs.length) ∧ w' = w := Any.Builder_Len Tryz.lays170 B b bs w h
def Tryz.lays169_ren : Go.Shelf.Ren := ⟨fun | 169 => 28 | n => n, fun | 70 => 58 | 9 => 9 | 0 => 0 | 72 => 61 | 37 => 59 | 127 => 76 | 3 => 3 | 5 => 5 | n => n, fun | n => n⟩
theorem Tryz.lays169 : Go.Proofs.Lays.n169 Tryz.prog Tryz.lays169_ren := {
  mixed := by kernel_rfl
  f169 := Tryz.func28.trans (congrArg some (by kernel_rfl))
  t0 := Tryz.underlying0
  a0 := Tryz.isAgg0
  z0 := Tryz.sizeOf0
  v0 := Tryz.zeroValue0
  t3 := Tryz.underlying3
  a3 := Tryz.isAgg3
  z3 := Tryz.sizeOf3
  v3 := Tryz.zeroValue3
  t9 := Tryz.underlying9
  a9 := Tryz.isAgg9
  z9 := Tryz.sizeOf9
  v9 := Tryz.zeroValue9
  t37 := Tryz.underlying59
  a37 := Tryz.isAgg59
  z37 := Tryz.sizeOf59
  v37 := Tryz.zeroValue59
  t70 := Tryz.underlying58
  a70 := Tryz.isAgg58
  z70 := Tryz.sizeOf58
  v70 := Tryz.zeroValue58
  t72 := Tryz.underlying61
  a72 := Tryz.isAgg61
  z72 := Tryz.sizeOf61
  v72 := Tryz.zeroValue61
  t127 := Tryz.underlying76
  a127 := Tryz.isAgg76
  z127 := Tryz.sizeOf76
  v127 := Tryz.zeroValue76 }
theorem Tryz.Builder_Extra_169 : Builder.Extra Tryz.prog Tryz.lays169_ren := {
  sizeBuilder := by kernel_rfl
  liesBuilder := by kernel_rfl
  t5 := Tryz.underlying5
  a5 := Tryz.isAgg5
  z5 := Tryz.sizeOf5
  v5 := Tryz.zeroValue5
  infoByte := by kernel_rfl
  cellsByte := by kernel_rfl
  sizeByte := by kernel_rfl
  neB5 := by decide }
open Go.RowKit in
/-- (*strings.Builder).String: "String returns the accumulated string.": OF A BUILDER THAT HOLDS AT LEAST ONE BYTE. ✋ THE MODEL FREEZES THOSE BYTES IN THE BUFFER (unsafe.String): a later write INTO them ends the model's run without an answer; a later append BEHIND them goes on. The statement's order of evaluation is drawn: one draw. (LAID: no walk: one application.) -/
theorem Tryz.Builder_String (B b : Nat) (l : List UInt8) (w : World) (h : Lib.IsBuilder 61 5 B b (Lib.byteCells l) w) (h0 : l ≠ []) :
    Calls Tryz.prog 28 #[.pointer (some ⟨b, 0, none⟩)] w fun e w' => e = .returned (.string ⟨l.toArray⟩) ∧ Below B w w' := Any.Builder_String Tryz.lays169 Tryz.Builder_Extra_169 B b l w h h0
open Go.RowKit in
/-- (*strings.Builder).String OF A BUILDER THAT HOLDS NO BYTE: the empty string. (Its buffer is nil, or a row of which it has taken nothing yet; where that row has NO capacity the model lays one new block for unsafe.SliceData's 'some address'.) One draw. (LAID: no walk: one application.) -/
theorem Tryz.Builder_String_empty (B b : Nat) (w : World) (h : Lib.IsBuilder 61 5 B b [] w) (hBw : B ≤ w.heap.size) :
    Calls Tryz.prog 28 #[.pointer (some ⟨b, 0, none⟩)] w fun e w' => e = .returned (.string ⟨#[]⟩) ∧ Below B w w' := Any.Builder_String_empty Tryz.lays169 Tryz.Builder_Extra_169 B b w h hBw
open Go.RowKit in
/-- (*strings.Builder).String: "String returns the accumulated string.": WHATEVER THE BUILDER HOLDS. (LAID: no walk: one application.) -/
theorem Tryz.Builder_String_any (B b : Nat) (l : List UInt8) (w : World) (h : Lib.IsBuilder 61 5 B b (Lib.byteCells l) w) (hBw : B ≤ w.heap.size) :
    Calls Tryz.prog 28 #[.pointer (some ⟨b, 0, none⟩)] w fun e w' => e = .returned (.string ⟨l.toArray⟩) ∧ Below B w w' := Any.Builder_String_any Tryz.lays169 Tryz.Builder_Extra_169 B b l w h hBw
def Tryz.lays241_ren : Go.Shelf.Ren := ⟨fun | 241 => 87 | 277 => 102 | n => n, fun | 70 => 58 | 3 => 3 | 0 => 0 | 72 => 61 | 37 => 59 | 5 => 5 | n => n, fun | n => n⟩
theorem Tryz.lays241 : Go.Proofs.Lays.n241 Tryz.prog Tryz.lays241_ren := {
  mixed := by kernel_rfl
  f241 := Tryz.func87.trans (congrArg some (by kernel_rfl))
  f277 := Tryz.func102.trans (congrArg some (by kernel_rfl))
  t0 := Tryz.underlying0
  a0 := Tryz.isAgg0
  z0 := Tryz.sizeOf0
  v0 := Tryz.zeroValue0
  t3 := Tryz.underlying3
  a3 := Tryz.isAgg3
  z3 := Tryz.sizeOf3
  v3 := Tryz.zeroValue3
  t37 := Tryz.underlying59
  a37 := Tryz.isAgg59
  z37 := Tryz.sizeOf59
  v37 := Tryz.zeroValue59
  t70 := Tryz.underlying58
  a70 := Tryz.isAgg58
  z70 := Tryz.sizeOf58
  v70 := Tryz.zeroValue58
  t72 := Tryz.underlying61
  a72 := Tryz.isAgg61
  z72 := Tryz.sizeOf61
  v72 := Tryz.zeroValue61 }
theorem Tryz.Builder_Extra_241 : Builder.Extra Tryz.prog Tryz.lays241_ren := {
  sizeBuilder := by kernel_rfl
  liesBuilder := by kernel_rfl
  t5 := Tryz.underlying5
  a5 := Tryz.isAgg5
  z5 := Tryz.sizeOf5
  v5 := Tryz.zeroValue5
  infoByte := by kernel_rfl
  cellsByte := by kernel_rfl
  sizeByte := by kernel_rfl
  neB5 := by decide }
open Go.RowKit in
/-- (*strings.Builder).grow (no doc but "grow copies the buffer to a new, larger buffer so that there are at least n bytes of capacity beyond len(b.buf)."): AT A BUILDER WITHOUT A BUFFER: a new row of whatever bytes for its buffer, none of them its own yet. Three draws. (LAID: no walk: one application.) -/
theorem Tryz.Builder_grow_fresh (B b n : Nat) (w : World) (hB : B ≤ b) (hbk : w.heap[b]? = some (.cells #[.pointer (some ⟨b, 0, none⟩), .slice none 0 0] 61 (0, 0))) (hBw : B ≤ w.heap.size) (hn : n ≤ 281474976710656) :
    Calls Tryz.prog 87 #[.pointer (some ⟨b, 0, none⟩), .int .i64 n] w fun e w' => e = .returned (.tuple #[]) ∧ (Lib.BuilderAt 61 5 B b (.pointer (some ⟨b, 0, none⟩)) [] w' ∧ Below B w w') := Any.Builder_grow_fresh Tryz.lays241 Tryz.Builder_Extra_241 B b n w hB hbk hBw hn
def Tryz.lays165_ren : Go.Shelf.Ren := ⟨fun | 165 => 75 | 240 => 43 | 241 => 87 | 276 => 60 | 277 => 102 | n => n, fun | 70 => 58 | 3 => 3 | 0 => 0 | 4 => 4 | 9 => 9 | 20 => 20 | 72 => 61 | 37 => 59 | 164 => 83 | 5 => 5 | n => n, fun | n => n⟩
theorem Tryz.lays165 : Go.Proofs.Lays.n165 Tryz.prog Tryz.lays165_ren := {
  mixed := by kernel_rfl
  f165 := Tryz.func75.trans (congrArg some (by kernel_rfl))
  f240 := Tryz.func43.trans (congrArg some (by kernel_rfl))
  f241 := Tryz.func87.trans (congrArg some (by kernel_rfl))
  f276 := Tryz.func60.trans (congrArg some (by kernel_rfl))
  f277 := Tryz.func102.trans (congrArg some (by kernel_rfl))
  t0 := Tryz.underlying0
  a0 := Tryz.isAgg0
  z0 := Tryz.sizeOf0
  v0 := Tryz.zeroValue0
  t3 := Tryz.underlying3
  a3 := Tryz.isAgg3
  z3 := Tryz.sizeOf3
  v3 := Tryz.zeroValue3
  t4 := Tryz.underlying4
  a4 := Tryz.isAgg4
  z4 := Tryz.sizeOf4
  v4 := Tryz.zeroValue4
  t9 := Tryz.underlying9
  a9 := Tryz.isAgg9
  z9 := Tryz.sizeOf9
  v9 := Tryz.zeroValue9
  t20 := Tryz.underlying20
  a20 := Tryz.isAgg20
  z20 := Tryz.sizeOf20
  v20 := Tryz.zeroValue20
  t37 := Tryz.underlying59
  a37 := Tryz.isAgg59
  z37 := Tryz.sizeOf59
  v37 := Tryz.zeroValue59
  t70 := Tryz.underlying58
  a70 := Tryz.isAgg58
  z70 := Tryz.sizeOf58
  v70 := Tryz.zeroValue58
  t72 := Tryz.underlying61
  a72 := Tryz.isAgg61
  z72 := Tryz.sizeOf61
  v72 := Tryz.zeroValue61
  t164 := Tryz.underlying83
  a164 := Tryz.isAgg83
  z164 := Tryz.sizeOf83
  v164 := Tryz.zeroValue83 }
theorem Tryz.Builder_Extra_165 : Builder.Extra Tryz.prog Tryz.lays165_ren := {
  sizeBuilder := by kernel_rfl
  liesBuilder := by kernel_rfl
  t5 := Tryz.underlying5
  a5 := Tryz.isAgg5
  z5 := Tryz.sizeOf5
  v5 := Tryz.zeroValue5
  infoByte := by kernel_rfl
  cellsByte := by kernel_rfl
  sizeByte := by kernel_rfl
  neB5 := by decide }
open Go.RowKit in
/-- (*strings.Builder).Grow AT A BUILDER THAT HAS NOT BEEN WRITTEN ('var b strings.Builder; b.Grow(n)'): "Grow grows b's capacity, if necessary, to guarantee space for another n bytes.": it holds no byte behind it as_ before it. (LAID: no walk: one application.) -/
theorem Tryz.Builder_Grow_fresh (B b n : Nat) (w : World) (hB : B ≤ b) (hbk : w.heap[b]? = some (.cells #[.pointer none, .slice none 0 0] 61 (0, 0))) (hBw : B ≤ w.heap.size) (hn : n ≤ 281474976710656) :
    Calls Tryz.prog 75 #[.pointer (some ⟨b, 0, none⟩), .int .i64 n] w fun e w' => e = .returned (.tuple #[]) ∧ (Lib.BuilderAt 61 5 B b (.pointer (some ⟨b, 0, none⟩)) [] w' ∧ Below B w w') := Any.Builder_Grow_fresh Tryz.lays165 Tryz.Builder_Extra_165 B b n w hB hbk hBw hn
def Tryz.lays128_ren : Go.Shelf.Ren := ⟨fun | 128 => 93 | n => n, fun | 51 => 113 | 3 => 3 | 4 => 4 | 46 => 95 | 5 => 5 | 9 => 9 | n => n, fun | n => n⟩
theorem Tryz.lays128 : Go.Proofs.Lays.n128 Tryz.prog Tryz.lays128_ren := {
  mixed := by kernel_rfl
  f128 := Tryz.func93.trans (congrArg some (by kernel_rfl))
  t3 := Tryz.underlying3
  a3 := Tryz.isAgg3
  z3 := Tryz.sizeOf3
  v3 := Tryz.zeroValue3
  t4 := Tryz.underlying4
  a4 := Tryz.isAgg4
  z4 := Tryz.sizeOf4
  v4 := Tryz.zeroValue4
  t5 := Tryz.underlying5
  a5 := Tryz.isAgg5
  z5 := Tryz.sizeOf5
  v5 := Tryz.zeroValue5
  t9 := Tryz.underlying9
  a9 := Tryz.isAgg9
  z9 := Tryz.sizeOf9
  v9 := Tryz.zeroValue9
  t46 := Tryz.underlying95
  a46 := Tryz.isAgg95
  z46 := Tryz.sizeOf95
  v46 := Tryz.zeroValue95
  t51 := Tryz.underlying113
  a51 := Tryz.isAgg113
  z51 := Tryz.sizeOf113
  v51 := Tryz.zeroValue113 }
/-- bits.Len32: "Len32 returns the minimum number of bits required to represent x; the result is 0 for x == 0.": IT RETURNS 'Lib.bitLen x'; the world is as_ it was. ('h0', 'h1': x is a uint32.) (LAID: no walk: one application.) -/
theorem Tryz.bits_Len32 (x : Int) (w : World) (h0 : 0 ≤ x) (h1 : x ≤ 4294967295) :
    Calls Tryz.prog 93 #[.int .u32 x] w fun e w' => e = .returned (.int .i64 (Lib.bitLen x.toNat)) ∧ w' = w := Any.bits_Len32 Tryz.lays128 x w h0 h1
def Tryz.lays125_ren : Go.Shelf.Ren := ⟨fun | 125 => 82 | 128 => 93 | 129 => 89 | n => n, fun | 46 => 95 | 3 => 3 | 51 => 113 | 53 => 103 | 4 => 4 | 5 => 5 | 9 => 9 | n => n, fun | n => n⟩
theorem Tryz.lays125 : Go.Proofs.Lays.n125 Tryz.prog Tryz.lays125_ren := {
  mixed := by kernel_rfl
  f125 := Tryz.func82.trans (congrArg some (by kernel_rfl))
  f128 := Tryz.func93.trans (congrArg some (by kernel_rfl))
  f129 := Tryz.func89.trans (congrArg some (by kernel_rfl))
  t3 := Tryz.underlying3
  a3 := Tryz.isAgg3
  z3 := Tryz.sizeOf3
  v3 := Tryz.zeroValue3
  t4 := Tryz.underlying4
  a4 := Tryz.isAgg4
  z4 := Tryz.sizeOf4
  v4 := Tryz.zeroValue4
  t5 := Tryz.underlying5
  a5 := Tryz.isAgg5
  z5 := Tryz.sizeOf5
  v5 := Tryz.zeroValue5
  t9 := Tryz.underlying9
  a9 := Tryz.isAgg9
  z9 := Tryz.sizeOf9
  v9 := Tryz.zeroValue9
  t46 := Tryz.underlying95
  a46 := Tryz.isAgg95
  z46 := Tryz.sizeOf95
  v46 := Tryz.zeroValue95
  t51 := Tryz.underlying113
  a51 := Tryz.isAgg113
  z51 := Tryz.sizeOf113
  v51 := Tryz.zeroValue113
  t53 := Tryz.underlying103
  a53 := Tryz.isAgg103
  z53 := Tryz.sizeOf103
  v53 := Tryz.zeroValue103 }
/-- bits.Len: "Len returns the minimum number of bits required to represent x; the result is 0 for x == 0.": IT RETURNS 'Lib.bitLen x'; the world is as_ it was. (A uint has 64 bits in the model.) ITS CALLEE bits.Len64 IS MET BY ITS OWN CONTRACT OFF THE SHELF (lay that first). (LAID: no walk: one application.) -/
theorem Tryz.bits_Len (x : Int) (w : World) (h0 : 0 ≤ x) (h1 : x ≤ 18446744073709551615) :
    Calls Tryz.prog 82 #[.int .u64 x] w fun e w' => e = .returned (.int .i64 (Lib.bitLen x.toNat)) ∧ w' = w := Any.bits_Len Tryz.lays125 x w h0 h1
open Go.RowKit in
/-- (*strings.Builder).Len: "Len returns the number of accumulated bytes; b.Len() == len(b.String()).": the world is as_ it was. (THE FORM '_f': 'Lib.IsBuilderF'.) (LAID: no walk: one application.) -/
theorem Tryz.Builder_Len_f (B b : Nat) (bs : List Value) (w : World) (h : Lib.IsBuilderF 61 5 B b bs w) :
    Calls Tryz.prog 76 #[.pointer (some ⟨b, 0, none⟩)] w fun e w' => e = .returned (.int .i64 bs.length) ∧ w' = w := Any.Builder_Len_f Tryz.lays170 B b bs w h
open Go.RowKit in
/-- (*strings.Builder).String: "String returns the accumulated string.": OF A BUILDER THAT HOLDS AT LEAST ONE BYTE. ✋ THE MODEL FREEZES THOSE BYTES IN THE BUFFER (unsafe.String): a later write INTO them ends the model's run without an answer; a later append BEHIND them goes on. The statement's order of evaluation is drawn: one draw. THE FORM '_f': IT SAYS BESIDES THAT THE BUILDER IS A BUILDER STILL ('Lib.IsBuilderF', the same bytes): SO IT CAN BE WRITTEN ON: 'b.WriteString(b.String()[:k])'. (LAID: no walk: one application.) -/
theorem Tryz.Builder_String_f (B b : Nat) (l : List UInt8) (w : World) (h : Lib.IsBuilderF 61 5 B b (Lib.byteCells l) w) (h0 : l ≠ []) :
    Calls Tryz.prog 28 #[.pointer (some ⟨b, 0, none⟩)] w fun e w' => e = .returned (.string ⟨l.toArray⟩) ∧ (Lib.IsBuilderF 61 5 B b (Lib.byteCells l) w' ∧ Below B w w') := Any.Builder_String_f Tryz.lays169 Tryz.Builder_Extra_169 B b l w h h0
open Go.RowKit in
/-- (*strings.Builder).String OF A BUILDER THAT HOLDS NO BYTE: the empty string; THE FORM '_f': a builder still. (LAID: no walk: one application.) -/
theorem Tryz.Builder_String_empty_f (B b : Nat) (w : World) (h : Lib.IsBuilderF 61 5 B b [] w) (hBw : B ≤ w.heap.size) :
    Calls Tryz.prog 28 #[.pointer (some ⟨b, 0, none⟩)] w fun e w' => e = .returned (.string ⟨#[]⟩) ∧ (Lib.IsBuilderF 61 5 B b [] w' ∧ Below B w w') := Any.Builder_String_empty_f Tryz.lays169 Tryz.Builder_Extra_169 B b w h hBw
open Go.RowKit in
/-- (*strings.Builder).String: "String returns the accumulated string.": WHATEVER THE BUILDER HOLDS; THE FORM '_f': OF A BUILDER THAT MAY HAVE BEEN READ BEFORE; AND IT IS A BUILDER STILL, holding the same bytes: it can be written on. (LAID: no walk: one application.) -/
theorem Tryz.Builder_String_any_f (B b : Nat) (l : List UInt8) (w : World) (h : Lib.IsBuilderF 61 5 B b (Lib.byteCells l) w) (hBw : B ≤ w.heap.size) :
    Calls Tryz.prog 28 #[.pointer (some ⟨b, 0, none⟩)] w fun e w' => e = .returned (.string ⟨l.toArray⟩) ∧ (Lib.IsBuilderF 61 5 B b (Lib.byteCells l) w' ∧ Below B w w') := Any.Builder_String_any_f Tryz.lays169 Tryz.Builder_Extra_169 B b l w h hBw
open Go.RowKit in
/-- (*strings.Builder).String: "String returns the accumulated string.": OF A BUILDER THAT HOLDS AT LEAST ONE BYTE. ✋ THE MODEL FREEZES THOSE BYTES IN THE BUFFER (unsafe.String): a later write INTO them ends the model's run without an answer; a later append BEHIND them goes on. The statement's order of evaluation is drawn: one draw. THE FORM '_k': OVER 'Lib.IsBuilderF' (a builder that 'String()' may have read), AND WITH THE FRAME THAT REACHES ABOVE THE BUILDER: 'Lib.OthersKept': every block that is not b and is no row of uint8's stands as_ it stood: the iterator of a range among them. (LAID: no walk: one application.) -/
theorem Tryz.Builder_String_k (B b : Nat) (l : List UInt8) (w : World) (h : Lib.IsBuilderF 61 5 B b (Lib.byteCells l) w) (h0 : l ≠ []) :
    Calls Tryz.prog 28 #[.pointer (some ⟨b, 0, none⟩)] w fun e w' => e = .returned (.string ⟨l.toArray⟩) ∧ (Lib.IsBuilderF 61 5 B b (Lib.byteCells l) w' ∧ Below B w w' ∧ Lib.OthersKept 5 (some b) w w') := Any.Builder_String_k Tryz.lays169 Tryz.Builder_Extra_169 B b l w h h0
open Go.RowKit in
/-- (*strings.Builder).String OF A BUILDER THAT HOLDS NO BYTE: the empty string; THE FORM '_k': OVER 'Lib.IsBuilderF' (a builder that 'String()' may have read), AND WITH THE FRAME THAT REACHES ABOVE THE BUILDER: 'Lib.OthersKept': every block that is not b and is no row of uint8's stands as_ it stood: the iterator of a range among them. (LAID: no walk: one application.) -/
theorem Tryz.Builder_String_empty_k (B b : Nat) (w : World) (h : Lib.IsBuilderF 61 5 B b [] w) (hBw : B ≤ w.heap.size) :
    Calls Tryz.prog 28 #[.pointer (some ⟨b, 0, none⟩)] w fun e w' => e = .returned (.string ⟨#[]⟩) ∧ (Lib.IsBuilderF 61 5 B b [] w' ∧ Below B w w' ∧ Lib.OthersKept 5 (some b) w w') := Any.Builder_String_empty_k Tryz.lays169 Tryz.Builder_Extra_169 B b w h hBw
open Go.RowKit in
/-- (*strings.Builder).String: "String returns the accumulated string.": WHATEVER THE BUILDER HOLDS; THE FORM '_k': OVER 'Lib.IsBuilderF' (a builder that 'String()' may have read), AND WITH THE FRAME THAT REACHES ABOVE THE BUILDER: 'Lib.OthersKept': every block that is not b and is no row of uint8's stands as_ it stood: the iterator of a range among them. (LAID: no walk: one application.) -/
theorem Tryz.Builder_String_any_k (B b : Nat) (l : List UInt8) (w : World) (h : Lib.IsBuilderF 61 5 B b (Lib.byteCells l) w) (hBw : B ≤ w.heap.size) :
    Calls Tryz.prog 28 #[.pointer (some ⟨b, 0, none⟩)] w fun e w' => e = .returned (.string ⟨l.toArray⟩) ∧ (Lib.IsBuilderF 61 5 B b (Lib.byteCells l) w' ∧ Below B w w' ∧ Lib.OthersKept 5 (some b) w w') := Any.Builder_String_any_k Tryz.lays169 Tryz.Builder_Extra_169 B b l w h hBw
open Go.RowKit in
/-- (*strings.Builder).grow (no doc but "grow copies the buffer to a new, larger buffer so that there are at least n bytes of capacity beyond len(b.buf)."): AT A BUILDER WITHOUT A BUFFER: a new row of whatever bytes for its buffer, none of them its own yet. Three draws. (LAID: no walk: one application.) -/
theorem Tryz.Builder_grow_fresh_cap (B b n : Nat) (w : World) (hB : B ≤ b) (hbk : w.heap[b]? = some (.cells #[.pointer (some ⟨b, 0, none⟩), .slice none 0 0] 61 (0, 0))) (hBw : B ≤ w.heap.size) (hn : n ≤ 281474976710656) :
    Calls Tryz.prog 87 #[.pointer (some ⟨b, 0, none⟩), .int .i64 n] w fun e w' => e = .returned (.tuple #[]) ∧ (Lib.BuilderAt 61 5 B b (.pointer (some ⟨b, 0, none⟩)) [] w' ∧ Below B w w') ∧ ∃ p cap, w'.cell? ⟨b, 1, none⟩ = some (.slice p 0 cap) ∧ n ≤ cap := Any.Builder_grow_fresh_cap Tryz.lays241 Tryz.Builder_Extra_241 B b n w hB hbk hBw hn
open Go.RowKit in
/-- (*strings.Builder).Grow AT A BUILDER THAT HAS NOT BEEN WRITTEN ('var b strings.Builder; b.Grow(n)'): "Grow grows b's capacity, if necessary, to guarantee space for another n bytes.": it holds no byte behind it as_ before it. (LAID: no walk: one application.) -/
theorem Tryz.Builder_Grow_fresh_cap (B b n : Nat) (w : World) (hB : B ≤ b) (hbk : w.heap[b]? = some (.cells #[.pointer none, .slice none 0 0] 61 (0, 0))) (hBw : B ≤ w.heap.size) (hn : n ≤ 281474976710656) :
    Calls Tryz.prog 75 #[.pointer (some ⟨b, 0, none⟩), .int .i64 n] w fun e w' => e = .returned (.tuple #[]) ∧ (Lib.BuilderAt 61 5 B b (.pointer (some ⟨b, 0, none⟩)) [] w' ∧ Below B w w') ∧ ∃ p cap, w'.cell? ⟨b, 1, none⟩ = some (.slice p 0 cap) ∧ n ≤ cap := Any.Builder_Grow_fresh_cap Tryz.lays165 Tryz.Builder_Extra_165 B b n w hB hbk hBw hn
def Tryz.lays129_ren : Go.Shelf.Ren := ⟨fun | 129 => 89 | n => n, fun | 53 => 103 | 3 => 3 | 4 => 4 | 46 => 95 | 5 => 5 | 9 => 9 | n => n, fun | n => n⟩
theorem Tryz.lays129 : Go.Proofs.Lays.n129 Tryz.prog Tryz.lays129_ren := {
  mixed := by kernel_rfl
  f129 := Tryz.func89.trans (congrArg some (by kernel_rfl))
  t3 := Tryz.underlying3
  a3 := Tryz.isAgg3
  z3 := Tryz.sizeOf3
  v3 := Tryz.zeroValue3
  t4 := Tryz.underlying4
  a4 := Tryz.isAgg4
  z4 := Tryz.sizeOf4
  v4 := Tryz.zeroValue4
  t5 := Tryz.underlying5
  a5 := Tryz.isAgg5
  z5 := Tryz.sizeOf5
  v5 := Tryz.zeroValue5
  t9 := Tryz.underlying9
  a9 := Tryz.isAgg9
  z9 := Tryz.sizeOf9
  v9 := Tryz.zeroValue9
  t46 := Tryz.underlying95
  a46 := Tryz.isAgg95
  z46 := Tryz.sizeOf95
  v46 := Tryz.zeroValue95
  t53 := Tryz.underlying103
  a53 := Tryz.isAgg103
  z53 := Tryz.sizeOf103
  v53 := Tryz.zeroValue103 }
/-- bits.Len64: "Len64 returns the minimum number of bits required to represent x; the result is 0 for x == 0.": IT RETURNS 'Lib.bitLen x'; the world is as_ it was. ('h0', 'h1': x is a uint64.) (LAID: no walk: one application.) -/
theorem Tryz.bits_Len64 (x : Int) (w : World) (h0 : 0 ≤ x) (h1 : x ≤ 18446744073709551615) :
    Calls Tryz.prog 89 #[.int .u64 x] w fun e w' => e = .returned (.int .i64 (Lib.bitLen x.toNat)) ∧ w' = w := Any.bits_Len64 Tryz.lays129 x w h0 h1
def Tryz.lays317_ren : Go.Shelf.Ren := ⟨fun | 317 => 88 | n => n, fun | 3 => 3 | 46 => 95 | n => n, fun | n => n⟩
theorem Tryz.lays317 : Go.Proofs.Lays.n317 Tryz.prog Tryz.lays317_ren := {
  mixed := by kernel_rfl
  f317 := Tryz.func88.trans (congrArg some (by kernel_rfl))
  t3 := Tryz.underlying3
  a3 := Tryz.isAgg3
  z3 := Tryz.sizeOf3
  v3 := Tryz.zeroValue3
  t46 := Tryz.underlying95
  a46 := Tryz.isAgg95
  z46 := Tryz.sizeOf95
  v46 := Tryz.zeroValue95 }
open Go.Lib in
/-- internal/strconv.log10Pow2: "log10Pow2(x) returns ⌊log₁₀ 2**x⌋ = ⌊x * log₁₀ 2⌋.": '(x * 78913) >> 18', at an x up to 64 (a length in bits). The world is as_ it was. (LAID: no walk: one application.) -/
theorem Tryz.internal_strconv_log10Pow2 (x : Nat) (h : x ≤ 64) (w : World) :
    Calls Tryz.prog 88 #[.int .i64 x] w fun e w' => e = .returned (.int .i64 (Lib.l10 x)) ∧ w' = w := Any.internal_strconv_log10Pow2 Tryz.lays317 x h w
def Tryz.lays318_ren : Go.Shelf.Ren := ⟨fun | 318 => 90 | n => n, fun | 3 => 3 | 4 => 4 | n => n, fun | n => n⟩
theorem Tryz.lays318 : Go.Proofs.Lays.n318 Tryz.prog Tryz.lays318_ren := {
  mixed := by kernel_rfl
  f318 := Tryz.func90.trans (congrArg some (by kernel_rfl))
  t3 := Tryz.underlying3
  a3 := Tryz.isAgg3
  z3 := Tryz.sizeOf3
  v3 := Tryz.zeroValue3
  t4 := Tryz.underlying4
  a4 := Tryz.isAgg4
  z4 := Tryz.sizeOf4
  v4 := Tryz.zeroValue4 }
open Go.Lib in
/-- internal/strconv.bool2: "bool2 converts b to an integer: 1 for true, 0 for false." The world is as_ it was. (LAID: no walk: one application.) -/
theorem Tryz.internal_strconv_bool2_int (b : Bool) (w : World) :
    Calls Tryz.prog 90 #[.bool b] w fun e w' => e = .returned (.int .i64 (if b then 1 else 0)) ∧ w' = w := Any.internal_strconv_bool2_int Tryz.lays318 b w
def Tryz.lays283_ren : Go.Shelf.Ren := ⟨fun | 283 => 78 | n => n, fun | 3 => 3 | 9 => 9 | 4 => 4 | n => n, fun | n => n⟩
theorem Tryz.lays283 : Go.Proofs.Lays.n283 Tryz.prog Tryz.lays283_ren := {
  mixed := by kernel_rfl
  f283 := Tryz.func78.trans (congrArg some (by kernel_rfl))
  t3 := Tryz.underlying3
  a3 := Tryz.isAgg3
  z3 := Tryz.sizeOf3
  v3 := Tryz.zeroValue3
  t4 := Tryz.underlying4
  a4 := Tryz.isAgg4
  z4 := Tryz.sizeOf4
  v4 := Tryz.zeroValue4
  t9 := Tryz.underlying9
  a9 := Tryz.isAgg9
  z9 := Tryz.sizeOf9
  v9 := Tryz.zeroValue9 }
open Go.Lib in
/-- internal/strconv.small: "small returns the string for an i with 0 <= i < nSmalls.": i's decimal numeral. The world is as_ it was. (LAID: no walk: one application.) -/
theorem Tryz.internal_strconv_small (i : Nat) (h : i < 100) (w : World) :
    Calls Tryz.prog 78 #[.int .i64 i] w fun e w' => e = .returned (.string ⟨(Lib.decDigits i).toArray⟩) ∧ w' = w := Any.internal_strconv_small Tryz.lays283 i h w
def Tryz.laysM284_ren : Go.Shelf.Ren := ⟨fun | 284 => 79 | 129 => 89 | 317 => 88 | 318 => 90 | n => n, fun | 53 => 103 | 3 => 3 | 212 => 120 | 0 => 0 | 4 => 4 | 46 => 95 | 5 => 5 | 9 => 9 | n => n, fun | 17 => 0 | n => n⟩
theorem Tryz.laysM284 : Go.Proofs.LaysM.n284 Tryz.prog Tryz.laysM284_ren := {
  mixed := by kernel_rfl
  f129 := Tryz.func89.trans (congrArg some (by kernel_rfl))
  f284 := Tryz.func79.trans (congrArg some (by kernel_rfl))
  f317 := Tryz.func88.trans (congrArg some (by kernel_rfl))
  f318 := Tryz.func90.trans (congrArg some (by kernel_rfl))
  t0 := Tryz.underlying0
  a0 := Tryz.isAgg0
  z0 := Tryz.sizeOf0
  v0 := Tryz.zeroValue0
  t3 := Tryz.underlying3
  a3 := Tryz.isAgg3
  z3 := Tryz.sizeOf3
  v3 := Tryz.zeroValue3
  t4 := Tryz.underlying4
  a4 := Tryz.isAgg4
  z4 := Tryz.sizeOf4
  v4 := Tryz.zeroValue4
  t5 := Tryz.underlying5
  a5 := Tryz.isAgg5
  z5 := Tryz.sizeOf5
  v5 := Tryz.zeroValue5
  t9 := Tryz.underlying9
  a9 := Tryz.isAgg9
  z9 := Tryz.sizeOf9
  v9 := Tryz.zeroValue9
  t46 := Tryz.underlying95
  a46 := Tryz.isAgg95
  z46 := Tryz.sizeOf95
  v46 := Tryz.zeroValue95
  t53 := Tryz.underlying103
  a53 := Tryz.isAgg103
  z53 := Tryz.sizeOf103
  v53 := Tryz.zeroValue103
  t212 := Tryz.underlying120
  a212 := Tryz.isAgg120
  z212 := Tryz.sizeOf120
  v212 := Tryz.zeroValue120
  g17 := by kernel_rfl
  i0 := by kernel_rfl
  i3 := by kernel_rfl
  i4 := by kernel_rfl
  i5 := by kernel_rfl
  i9 := by kernel_rfl
  i46 := by kernel_rfl
  i53 := by kernel_rfl
  i212 := by kernel_rfl
  m17 := by kernel_rfl }
open Go.Lib in
/-- internal/strconv.numDigits, at a d that is not 0: THE NUMBER OF d's DECIMAL DIGITS. The world is as_ it was. (LAID: no walk: one application.) -/
theorem Tryz.internal_strconv_numDigits (u : Nat) (h1 : 1 ≤ u) (h2 : u < 18446744073709551616) (w : World) (htab : Lib.TabIs Tryz.prog w "internal/strconv.uint64pow10" .u64 Lib.pow10Tab) :
    Calls Tryz.prog 79 #[.int .u64 u] w fun e w' => e = .returned (.int .i64 (Lib.nDigits u)) ∧ w' = w := Any.internal_strconv_numDigits Tryz.laysM284 u h1 h2 w htab
def Tryz.lays285_ren : Go.Shelf.Ren := ⟨fun | 285 => 80 | n => n, fun | 37 => 59 | 53 => 103 | 3 => 3 | 4 => 4 | 51 => 113 | 9 => 9 | 5 => 5 | 0 => 0 | n => n, fun | n => n⟩
theorem Tryz.lays285 : Go.Proofs.Lays.n285 Tryz.prog Tryz.lays285_ren := {
  mixed := by kernel_rfl
  f285 := Tryz.func80.trans (congrArg some (by kernel_rfl))
  t0 := Tryz.underlying0
  a0 := Tryz.isAgg0
  z0 := Tryz.sizeOf0
  v0 := Tryz.zeroValue0
  t3 := Tryz.underlying3
  a3 := Tryz.isAgg3
  z3 := Tryz.sizeOf3
  v3 := Tryz.zeroValue3
  t4 := Tryz.underlying4
  a4 := Tryz.isAgg4
  z4 := Tryz.sizeOf4
  v4 := Tryz.zeroValue4
  t5 := Tryz.underlying5
  a5 := Tryz.isAgg5
  z5 := Tryz.sizeOf5
  v5 := Tryz.zeroValue5
  t9 := Tryz.underlying9
  a9 := Tryz.isAgg9
  z9 := Tryz.sizeOf9
  v9 := Tryz.zeroValue9
  t37 := Tryz.underlying59
  a37 := Tryz.isAgg59
  z37 := Tryz.sizeOf59
  v37 := Tryz.zeroValue59
  t51 := Tryz.underlying113
  a51 := Tryz.isAgg113
  z51 := Tryz.sizeOf113
  v51 := Tryz.zeroValue113
  t53 := Tryz.underlying103
  a53 := Tryz.isAgg103
  z53 := Tryz.sizeOf103
  v53 := Tryz.zeroValue103 }
open Go.RowKit Go.Sort Go.Lib in
/-- internal/strconv.formatBase10: "formatBase10 formats the decimal representation of u into a. The caller is responsible for ensuring that a is big enough to hold u. If a is too big, leading zeros will be filled in as_ needed.": THE ROW HOLDS u's DIGITS ('FmtInv .. 0 ..': every place t holds 'dg u (len - 1 - t)'); all else is as_ it was but for the count of draws. (LAID: no walk: one application.) -/
theorem Tryz.internal_strconv_formatBase10 (blk off cap : Nat) (u : Nat) (d : Array UInt8) (w : World) (hH : Holds (fun (b : UInt8) => Value.int .u8 (b.toNat : Int)) w blk off d) (hu : u < 10 ^ d.size) (hu64 : u < 18446744073709551616) (hsz : d.size < 4611686018427387904) :
    Calls Tryz.prog 80 #[.slice (some ⟨blk, off, none⟩) d.size cap, .int .u64 u] w fun e w' =>
      e = .returned (.tuple #[]) ∧ ∃ (n v' : Nat) (dk : Array UInt8), w' = (putRow (fun (b : UInt8) => Value.int .u8 (b.toNat : Int)) w blk off dk).drewN n ∧ FmtInv d.size u 0 v' dk := Any.internal_strconv_formatBase10 Tryz.lays285 blk off cap u d w hH hu hu64 hsz
def Tryz.laysM246_ren : Go.Shelf.Ren := ⟨fun | 246 => 69 | 283 => 78 | 284 => 79 | 285 => 80 | 286 => 81 | 129 => 89 | 317 => 88 | 318 => 90 | 319 => 91 | 320 => 92 | 337 => 103 | 338 => 104 | n => n, fun | 2 => 2 | 3 => 3 | 9 => 9 | 4 => 4 | 171 => 102 | 0 => 0 | 53 => 103 | 37 => 59 | 5 => 5 | 173 => 106 | 212 => 120 | 51 => 113 | 20 => 20 | 213 => 121 | 46 => 95 | 232 => 141 | 233 => 142 | n => n, fun | 17 => 0 | 18 => 2 | 19 => 3 | n => n⟩
theorem Tryz.laysM246 : Go.Proofs.LaysM.n246 Tryz.prog Tryz.laysM246_ren := {
  mixed := by kernel_rfl
  f129 := Tryz.func89.trans (congrArg some (by kernel_rfl))
  f246 := Tryz.func69.trans (congrArg some (by kernel_rfl))
  f283 := Tryz.func78.trans (congrArg some (by kernel_rfl))
  f284 := Tryz.func79.trans (congrArg some (by kernel_rfl))
  f285 := Tryz.func80.trans (congrArg some (by kernel_rfl))
  f286 := Tryz.func81.trans (congrArg some (by kernel_rfl))
  f317 := Tryz.func88.trans (congrArg some (by kernel_rfl))
  f318 := Tryz.func90.trans (congrArg some (by kernel_rfl))
  f319 := Tryz.func91.trans (congrArg some (by kernel_rfl))
  f320 := Tryz.func92.trans (congrArg some (by kernel_rfl))
  f337 := Tryz.func103.trans (congrArg some (by kernel_rfl))
  f338 := Tryz.func104.trans (congrArg some (by kernel_rfl))
  t0 := Tryz.underlying0
  a0 := Tryz.isAgg0
  z0 := Tryz.sizeOf0
  v0 := Tryz.zeroValue0
  t2 := Tryz.underlying2
  a2 := Tryz.isAgg2
  z2 := Tryz.sizeOf2
  v2 := Tryz.zeroValue2
  t3 := Tryz.underlying3
  a3 := Tryz.isAgg3
  z3 := Tryz.sizeOf3
  v3 := Tryz.zeroValue3
  t4 := Tryz.underlying4
  a4 := Tryz.isAgg4
  z4 := Tryz.sizeOf4
  v4 := Tryz.zeroValue4
  t5 := Tryz.underlying5
  a5 := Tryz.isAgg5
  z5 := Tryz.sizeOf5
  v5 := Tryz.zeroValue5
  t9 := Tryz.underlying9
  a9 := Tryz.isAgg9
  z9 := Tryz.sizeOf9
  v9 := Tryz.zeroValue9
  t20 := Tryz.underlying20
  a20 := Tryz.isAgg20
  z20 := Tryz.sizeOf20
  v20 := Tryz.zeroValue20
  t37 := Tryz.underlying59
  a37 := Tryz.isAgg59
  z37 := Tryz.sizeOf59
  v37 := Tryz.zeroValue59
  t46 := Tryz.underlying95
  a46 := Tryz.isAgg95
  z46 := Tryz.sizeOf95
  v46 := Tryz.zeroValue95
  t51 := Tryz.underlying113
  a51 := Tryz.isAgg113
  z51 := Tryz.sizeOf113
  v51 := Tryz.zeroValue113
  t53 := Tryz.underlying103
  a53 := Tryz.isAgg103
  z53 := Tryz.sizeOf103
  v53 := Tryz.zeroValue103
  t171 := Tryz.underlying102
  a171 := Tryz.isAgg102
  z171 := Tryz.sizeOf102
  v171 := Tryz.zeroValue102
  t173 := Tryz.underlying106
  a173 := Tryz.isAgg106
  z173 := Tryz.sizeOf106
  v173 := Tryz.zeroValue106
  t212 := Tryz.underlying120
  a212 := Tryz.isAgg120
  z212 := Tryz.sizeOf120
  v212 := Tryz.zeroValue120
  t213 := Tryz.underlying121
  a213 := Tryz.isAgg121
  z213 := Tryz.sizeOf121
  t232 := Tryz.underlying141
  a232 := Tryz.isAgg141
  z232 := Tryz.sizeOf141
  v232 := Tryz.zeroValue141
  t233 := Tryz.underlying142
  a233 := Tryz.isAgg142
  z233 := Tryz.sizeOf142
  v233 := Tryz.zeroValue142
  g17 := by kernel_rfl
  g18 := by kernel_rfl
  g19 := by kernel_rfl
  i0 := by kernel_rfl
  i2 := by kernel_rfl
  i3 := by kernel_rfl
  i4 := by kernel_rfl
  i5 := by kernel_rfl
  i9 := by kernel_rfl
  i20 := by kernel_rfl
  i37 := by kernel_rfl
  i46 := by kernel_rfl
  i51 := by kernel_rfl
  i53 := by kernel_rfl
  i171 := by kernel_rfl
  i173 := by kernel_rfl
  i212 := by kernel_rfl
  i232 := by kernel_rfl
  i233 := by kernel_rfl
  m17 := by kernel_rfl
  m18 := by kernel_rfl
  m19 := by kernel_rfl }
open Go.RowKit Go.Sort Go.Lib in
/-- internal/strconv.FormatInt: "FormatInt returns the string representation of i in the given base": AT BASE 10: i's decimal numeral, for every int64. The world behind the call: the world before it, new blocks behind the heap, draws. (LAID: no walk: one application.) -/
theorem Tryz.internal_strconv_FormatInt_10 (n : Int) (h0 : -9223372036854775808 ≤ n) (h1 : n ≤ 9223372036854775807) (w : World) (htab : Lib.TabIs Tryz.prog w "internal/strconv.uint64pow10" .u64 Lib.pow10Tab) :
    Calls Tryz.prog 69 #[.int .i64 n, .int .i64 10] w fun e w' => e = .returned (.string ⟨(Lib.itoa n).toArray⟩) ∧ ∃ k os, w' = grow (w.drewN k) os := Any.internal_strconv_FormatInt_10 Tryz.laysM246 n h0 h1 w htab
def Tryz.lays246_ren : Go.Shelf.Ren := ⟨fun | 246 => 69 | 283 => 78 | 284 => 79 | 285 => 80 | 286 => 81 | 129 => 89 | 317 => 88 | 318 => 90 | 319 => 91 | 320 => 92 | 337 => 103 | 338 => 104 | n => n, fun | 2 => 2 | 3 => 3 | 9 => 9 | 4 => 4 | 171 => 102 | 0 => 0 | 53 => 103 | 37 => 59 | 5 => 5 | 173 => 106 | 212 => 120 | 51 => 113 | 20 => 20 | 213 => 121 | 46 => 95 | 232 => 141 | 233 => 142 | n => n, fun | 17 => 0 | 18 => 2 | 19 => 3 | n => n⟩
theorem Tryz.lays246 : Go.Proofs.Lays.n246 Tryz.prog Tryz.lays246_ren := {
  mixed := by kernel_rfl
  f129 := Tryz.func89.trans (congrArg some (by kernel_rfl))
  f246 := Tryz.func69.trans (congrArg some (by kernel_rfl))
  f283 := Tryz.func78.trans (congrArg some (by kernel_rfl))
  f284 := Tryz.func79.trans (congrArg some (by kernel_rfl))
  f285 := Tryz.func80.trans (congrArg some (by kernel_rfl))
  f286 := Tryz.func81.trans (congrArg some (by kernel_rfl))
  f317 := Tryz.func88.trans (congrArg some (by kernel_rfl))
  f318 := Tryz.func90.trans (congrArg some (by kernel_rfl))
  f319 := Tryz.func91.trans (congrArg some (by kernel_rfl))
  f320 := Tryz.func92.trans (congrArg some (by kernel_rfl))
  f337 := Tryz.func103.trans (congrArg some (by kernel_rfl))
  f338 := Tryz.func104.trans (congrArg some (by kernel_rfl))
  t0 := Tryz.underlying0
  a0 := Tryz.isAgg0
  z0 := Tryz.sizeOf0
  v0 := Tryz.zeroValue0
  t2 := Tryz.underlying2
  a2 := Tryz.isAgg2
  z2 := Tryz.sizeOf2
  v2 := Tryz.zeroValue2
  t3 := Tryz.underlying3
  a3 := Tryz.isAgg3
  z3 := Tryz.sizeOf3
  v3 := Tryz.zeroValue3
  t4 := Tryz.underlying4
  a4 := Tryz.isAgg4
  z4 := Tryz.sizeOf4
  v4 := Tryz.zeroValue4
  t5 := Tryz.underlying5
  a5 := Tryz.isAgg5
  z5 := Tryz.sizeOf5
  v5 := Tryz.zeroValue5
  t9 := Tryz.underlying9
  a9 := Tryz.isAgg9
  z9 := Tryz.sizeOf9
  v9 := Tryz.zeroValue9
  t20 := Tryz.underlying20
  a20 := Tryz.isAgg20
  z20 := Tryz.sizeOf20
  v20 := Tryz.zeroValue20
  t37 := Tryz.underlying59
  a37 := Tryz.isAgg59
  z37 := Tryz.sizeOf59
  v37 := Tryz.zeroValue59
  t46 := Tryz.underlying95
  a46 := Tryz.isAgg95
  z46 := Tryz.sizeOf95
  v46 := Tryz.zeroValue95
  t51 := Tryz.underlying113
  a51 := Tryz.isAgg113
  z51 := Tryz.sizeOf113
  v51 := Tryz.zeroValue113
  t53 := Tryz.underlying103
  a53 := Tryz.isAgg103
  z53 := Tryz.sizeOf103
  v53 := Tryz.zeroValue103
  t171 := Tryz.underlying102
  a171 := Tryz.isAgg102
  z171 := Tryz.sizeOf102
  v171 := Tryz.zeroValue102
  t173 := Tryz.underlying106
  a173 := Tryz.isAgg106
  z173 := Tryz.sizeOf106
  v173 := Tryz.zeroValue106
  t212 := Tryz.underlying120
  a212 := Tryz.isAgg120
  z212 := Tryz.sizeOf120
  v212 := Tryz.zeroValue120
  t213 := Tryz.underlying121
  a213 := Tryz.isAgg121
  z213 := Tryz.sizeOf121
  t232 := Tryz.underlying141
  a232 := Tryz.isAgg141
  z232 := Tryz.sizeOf141
  v232 := Tryz.zeroValue141
  t233 := Tryz.underlying142
  a233 := Tryz.isAgg142
  z233 := Tryz.sizeOf142
  v233 := Tryz.zeroValue142
  g17 := by kernel_rfl
  g18 := by kernel_rfl
  g19 := by kernel_rfl }
open Go.RowKit Go.Sort Go.Lib in
/-- THE ROAD WITHOUT THE TABLE: 0 <= i < 100: two constants are read, nothing is laid: no premise on the world, and the world is as_ it was. (LAID: no walk: one application.) -/
theorem Tryz.internal_strconv_FormatInt_10_small (i : Nat) (hi : i < 100) (w : World) :
    Calls Tryz.prog 69 #[.int .i64 i, .int .i64 10] w fun e w' => e = .returned (.string ⟨(Lib.decDigits i).toArray⟩) ∧ w' = w := Any.internal_strconv_FormatInt_10_small Tryz.lays246 i hi w
def Tryz.laysM243_ren : Go.Shelf.Ren := ⟨fun | 243 => 59 | 246 => 69 | 283 => 78 | 284 => 79 | 285 => 80 | 286 => 81 | 129 => 89 | 317 => 88 | 318 => 90 | 319 => 91 | 320 => 92 | 337 => 103 | 338 => 104 | n => n, fun | 3 => 3 | 9 => 9 | 2 => 2 | 4 => 4 | 171 => 102 | 0 => 0 | 53 => 103 | 37 => 59 | 5 => 5 | 173 => 106 | 212 => 120 | 51 => 113 | 20 => 20 | 213 => 121 | 46 => 95 | 232 => 141 | 233 => 142 | n => n, fun | 17 => 0 | 18 => 2 | 19 => 3 | n => n⟩
theorem Tryz.laysM243 : Go.Proofs.LaysM.n243 Tryz.prog Tryz.laysM243_ren := {
  mixed := by kernel_rfl
  f129 := Tryz.func89.trans (congrArg some (by kernel_rfl))
  f243 := Tryz.func59.trans (congrArg some (by kernel_rfl))
  f246 := Tryz.func69.trans (congrArg some (by kernel_rfl))
  f283 := Tryz.func78.trans (congrArg some (by kernel_rfl))
  f284 := Tryz.func79.trans (congrArg some (by kernel_rfl))
  f285 := Tryz.func80.trans (congrArg some (by kernel_rfl))
  f286 := Tryz.func81.trans (congrArg some (by kernel_rfl))
  f317 := Tryz.func88.trans (congrArg some (by kernel_rfl))
  f318 := Tryz.func90.trans (congrArg some (by kernel_rfl))
  f319 := Tryz.func91.trans (congrArg some (by kernel_rfl))
  f320 := Tryz.func92.trans (congrArg some (by kernel_rfl))
  f337 := Tryz.func103.trans (congrArg some (by kernel_rfl))
  f338 := Tryz.func104.trans (congrArg some (by kernel_rfl))
  t0 := Tryz.underlying0
  a0 := Tryz.isAgg0
  z0 := Tryz.sizeOf0
  v0 := Tryz.zeroValue0
  t2 := Tryz.underlying2
  a2 := Tryz.isAgg2
  z2 := Tryz.sizeOf2
  v2 := Tryz.zeroValue2
  t3 := Tryz.underlying3
  a3 := Tryz.isAgg3
  z3 := Tryz.sizeOf3
  v3 := Tryz.zeroValue3
  t4 := Tryz.underlying4
  a4 := Tryz.isAgg4
  z4 := Tryz.sizeOf4
  v4 := Tryz.zeroValue4
  t5 := Tryz.underlying5
  a5 := Tryz.isAgg5
  z5 := Tryz.sizeOf5
  v5 := Tryz.zeroValue5
  t9 := Tryz.underlying9
  a9 := Tryz.isAgg9
  z9 := Tryz.sizeOf9
  v9 := Tryz.zeroValue9
  t20 := Tryz.underlying20
  a20 := Tryz.isAgg20
  z20 := Tryz.sizeOf20
  v20 := Tryz.zeroValue20
  t37 := Tryz.underlying59
  a37 := Tryz.isAgg59
  z37 := Tryz.sizeOf59
  v37 := Tryz.zeroValue59
  t46 := Tryz.underlying95
  a46 := Tryz.isAgg95
  z46 := Tryz.sizeOf95
  v46 := Tryz.zeroValue95
  t51 := Tryz.underlying113
  a51 := Tryz.isAgg113
  z51 := Tryz.sizeOf113
  v51 := Tryz.zeroValue113
  t53 := Tryz.underlying103
  a53 := Tryz.isAgg103
  z53 := Tryz.sizeOf103
  v53 := Tryz.zeroValue103
  t171 := Tryz.underlying102
  a171 := Tryz.isAgg102
  z171 := Tryz.sizeOf102
  v171 := Tryz.zeroValue102
  t173 := Tryz.underlying106
  a173 := Tryz.isAgg106
  z173 := Tryz.sizeOf106
  v173 := Tryz.zeroValue106
  t212 := Tryz.underlying120
  a212 := Tryz.isAgg120
  z212 := Tryz.sizeOf120
  v212 := Tryz.zeroValue120
  t213 := Tryz.underlying121
  a213 := Tryz.isAgg121
  z213 := Tryz.sizeOf121
  t232 := Tryz.underlying141
  a232 := Tryz.isAgg141
  z232 := Tryz.sizeOf141
  v232 := Tryz.zeroValue141
  t233 := Tryz.underlying142
  a233 := Tryz.isAgg142
  z233 := Tryz.sizeOf142
  v233 := Tryz.zeroValue142
  g17 := by kernel_rfl
  g18 := by kernel_rfl
  g19 := by kernel_rfl
  i0 := by kernel_rfl
  i2 := by kernel_rfl
  i3 := by kernel_rfl
  i4 := by kernel_rfl
  i5 := by kernel_rfl
  i9 := by kernel_rfl
  i20 := by kernel_rfl
  i37 := by kernel_rfl
  i46 := by kernel_rfl
  i51 := by kernel_rfl
  i53 := by kernel_rfl
  i171 := by kernel_rfl
  i173 := by kernel_rfl
  i212 := by kernel_rfl
  i232 := by kernel_rfl
  i233 := by kernel_rfl
  m17 := by kernel_rfl
  m18 := by kernel_rfl
  m19 := by kernel_rfl }
open Go.RowKit Go.Sort Go.Lib in
/-- internal/strconv.Itoa: "Itoa is equivalent to FormatInt(int64(i), 10).": i's decimal numeral, for every int. (LAID: no walk: one application.) -/
theorem Tryz.internal_strconv_Itoa (n : Int) (h0 : -9223372036854775808 ≤ n) (h1 : n ≤ 9223372036854775807) (w : World) (htab : Lib.TabIs Tryz.prog w "internal/strconv.uint64pow10" .u64 Lib.pow10Tab) :
    Calls Tryz.prog 59 #[.int .i64 n] w fun e w' => e = .returned (.string ⟨(Lib.itoa n).toArray⟩) ∧ ∃ k os, w' = grow (w.drewN k) os := Any.internal_strconv_Itoa Tryz.laysM243 n h0 h1 w htab
def Tryz.lays243_ren : Go.Shelf.Ren := ⟨fun | 243 => 59 | 246 => 69 | 283 => 78 | 284 => 79 | 285 => 80 | 286 => 81 | 129 => 89 | 317 => 88 | 318 => 90 | 319 => 91 | 320 => 92 | 337 => 103 | 338 => 104 | n => n, fun | 3 => 3 | 9 => 9 | 2 => 2 | 4 => 4 | 171 => 102 | 0 => 0 | 53 => 103 | 37 => 59 | 5 => 5 | 173 => 106 | 212 => 120 | 51 => 113 | 20 => 20 | 213 => 121 | 46 => 95 | 232 => 141 | 233 => 142 | n => n, fun | 17 => 0 | 18 => 2 | 19 => 3 | n => n⟩
theorem Tryz.lays243 : Go.Proofs.Lays.n243 Tryz.prog Tryz.lays243_ren := {
  mixed := by kernel_rfl
  f129 := Tryz.func89.trans (congrArg some (by kernel_rfl))
  f243 := Tryz.func59.trans (congrArg some (by kernel_rfl))
  f246 := Tryz.func69.trans (congrArg some (by kernel_rfl))
  f283 := Tryz.func78.trans (congrArg some (by kernel_rfl))
  f284 := Tryz.func79.trans (congrArg some (by kernel_rfl))
  f285 := Tryz.func80.trans (congrArg some (by kernel_rfl))
  f286 := Tryz.func81.trans (congrArg some (by kernel_rfl))
  f317 := Tryz.func88.trans (congrArg some (by kernel_rfl))
  f318 := Tryz.func90.trans (congrArg some (by kernel_rfl))
  f319 := Tryz.func91.trans (congrArg some (by kernel_rfl))
  f320 := Tryz.func92.trans (congrArg some (by kernel_rfl))
  f337 := Tryz.func103.trans (congrArg some (by kernel_rfl))
  f338 := Tryz.func104.trans (congrArg some (by kernel_rfl))
  t0 := Tryz.underlying0
  a0 := Tryz.isAgg0
  z0 := Tryz.sizeOf0
  v0 := Tryz.zeroValue0
  t2 := Tryz.underlying2
  a2 := Tryz.isAgg2
  z2 := Tryz.sizeOf2
  v2 := Tryz.zeroValue2
  t3 := Tryz.underlying3
  a3 := Tryz.isAgg3
  z3 := Tryz.sizeOf3
  v3 := Tryz.zeroValue3
  t4 := Tryz.underlying4
  a4 := Tryz.isAgg4
  z4 := Tryz.sizeOf4
  v4 := Tryz.zeroValue4
  t5 := Tryz.underlying5
  a5 := Tryz.isAgg5
  z5 := Tryz.sizeOf5
  v5 := Tryz.zeroValue5
  t9 := Tryz.underlying9
  a9 := Tryz.isAgg9
  z9 := Tryz.sizeOf9
  v9 := Tryz.zeroValue9
  t20 := Tryz.underlying20
  a20 := Tryz.isAgg20
  z20 := Tryz.sizeOf20
  v20 := Tryz.zeroValue20
  t37 := Tryz.underlying59
  a37 := Tryz.isAgg59
  z37 := Tryz.sizeOf59
  v37 := Tryz.zeroValue59
  t46 := Tryz.underlying95
  a46 := Tryz.isAgg95
  z46 := Tryz.sizeOf95
  v46 := Tryz.zeroValue95
  t51 := Tryz.underlying113
  a51 := Tryz.isAgg113
  z51 := Tryz.sizeOf113
  v51 := Tryz.zeroValue113
  t53 := Tryz.underlying103
  a53 := Tryz.isAgg103
  z53 := Tryz.sizeOf103
  v53 := Tryz.zeroValue103
  t171 := Tryz.underlying102
  a171 := Tryz.isAgg102
  z171 := Tryz.sizeOf102
  v171 := Tryz.zeroValue102
  t173 := Tryz.underlying106
  a173 := Tryz.isAgg106
  z173 := Tryz.sizeOf106
  v173 := Tryz.zeroValue106
  t212 := Tryz.underlying120
  a212 := Tryz.isAgg120
  z212 := Tryz.sizeOf120
  v212 := Tryz.zeroValue120
  t213 := Tryz.underlying121
  a213 := Tryz.isAgg121
  z213 := Tryz.sizeOf121
  t232 := Tryz.underlying141
  a232 := Tryz.isAgg141
  z232 := Tryz.sizeOf141
  v232 := Tryz.zeroValue141
  t233 := Tryz.underlying142
  a233 := Tryz.isAgg142
  z233 := Tryz.sizeOf142
  v233 := Tryz.zeroValue142
  g17 := by kernel_rfl
  g18 := by kernel_rfl
  g19 := by kernel_rfl }
open Go.RowKit Go.Sort Go.Lib in
/-- THE ROAD WITHOUT THE TABLE: 0 <= i < 100. (LAID: no walk: one application.) -/
theorem Tryz.internal_strconv_Itoa_small (i : Nat) (hi : i < 100) (w : World) :
    Calls Tryz.prog 59 #[.int .i64 i] w fun e w' => e = .returned (.string ⟨(Lib.decDigits i).toArray⟩) ∧ w' = w := Any.internal_strconv_Itoa_small Tryz.lays243 i hi w
def Tryz.laysM171_ren : Go.Shelf.Ren := ⟨fun | 171 => 40 | 243 => 59 | 246 => 69 | 283 => 78 | 284 => 79 | 285 => 80 | 286 => 81 | 129 => 89 | 317 => 88 | 318 => 90 | 319 => 91 | 320 => 92 | 337 => 103 | 338 => 104 | n => n, fun | 3 => 3 | 9 => 9 | 2 => 2 | 4 => 4 | 171 => 102 | 0 => 0 | 53 => 103 | 37 => 59 | 5 => 5 | 173 => 106 | 212 => 120 | 51 => 113 | 20 => 20 | 213 => 121 | 46 => 95 | 232 => 141 | 233 => 142 | n => n, fun | 17 => 0 | 18 => 2 | 19 => 3 | n => n⟩
theorem Tryz.laysM171 : Go.Proofs.LaysM.n171 Tryz.prog Tryz.laysM171_ren := {
  mixed := by kernel_rfl
  f129 := Tryz.func89.trans (congrArg some (by kernel_rfl))
  f171 := Tryz.func40.trans (congrArg some (by kernel_rfl))
  f243 := Tryz.func59.trans (congrArg some (by kernel_rfl))
  f246 := Tryz.func69.trans (congrArg some (by kernel_rfl))
  f283 := Tryz.func78.trans (congrArg some (by kernel_rfl))
  f284 := Tryz.func79.trans (congrArg some (by kernel_rfl))
  f285 := Tryz.func80.trans (congrArg some (by kernel_rfl))
  f286 := Tryz.func81.trans (congrArg some (by kernel_rfl))
  f317 := Tryz.func88.trans (congrArg some (by kernel_rfl))
  f318 := Tryz.func90.trans (congrArg some (by kernel_rfl))
  f319 := Tryz.func91.trans (congrArg some (by kernel_rfl))
  f320 := Tryz.func92.trans (congrArg some (by kernel_rfl))
  f337 := Tryz.func103.trans (congrArg some (by kernel_rfl))
  f338 := Tryz.func104.trans (congrArg some (by kernel_rfl))
  t0 := Tryz.underlying0
  a0 := Tryz.isAgg0
  z0 := Tryz.sizeOf0
  v0 := Tryz.zeroValue0
  t2 := Tryz.underlying2
  a2 := Tryz.isAgg2
  z2 := Tryz.sizeOf2
  v2 := Tryz.zeroValue2
  t3 := Tryz.underlying3
  a3 := Tryz.isAgg3
  z3 := Tryz.sizeOf3
  v3 := Tryz.zeroValue3
  t4 := Tryz.underlying4
  a4 := Tryz.isAgg4
  z4 := Tryz.sizeOf4
  v4 := Tryz.zeroValue4
  t5 := Tryz.underlying5
  a5 := Tryz.isAgg5
  z5 := Tryz.sizeOf5
  v5 := Tryz.zeroValue5
  t9 := Tryz.underlying9
  a9 := Tryz.isAgg9
  z9 := Tryz.sizeOf9
  v9 := Tryz.zeroValue9
  t20 := Tryz.underlying20
  a20 := Tryz.isAgg20
  z20 := Tryz.sizeOf20
  v20 := Tryz.zeroValue20
  t37 := Tryz.underlying59
  a37 := Tryz.isAgg59
  z37 := Tryz.sizeOf59
  v37 := Tryz.zeroValue59
  t46 := Tryz.underlying95
  a46 := Tryz.isAgg95
  z46 := Tryz.sizeOf95
  v46 := Tryz.zeroValue95
  t51 := Tryz.underlying113
  a51 := Tryz.isAgg113
  z51 := Tryz.sizeOf113
  v51 := Tryz.zeroValue113
  t53 := Tryz.underlying103
  a53 := Tryz.isAgg103
  z53 := Tryz.sizeOf103
  v53 := Tryz.zeroValue103
  t171 := Tryz.underlying102
  a171 := Tryz.isAgg102
  z171 := Tryz.sizeOf102
  v171 := Tryz.zeroValue102
  t173 := Tryz.underlying106
  a173 := Tryz.isAgg106
  z173 := Tryz.sizeOf106
  v173 := Tryz.zeroValue106
  t212 := Tryz.underlying120
  a212 := Tryz.isAgg120
  z212 := Tryz.sizeOf120
  v212 := Tryz.zeroValue120
  t213 := Tryz.underlying121
  a213 := Tryz.isAgg121
  z213 := Tryz.sizeOf121
  t232 := Tryz.underlying141
  a232 := Tryz.isAgg141
  z232 := Tryz.sizeOf141
  v232 := Tryz.zeroValue141
  t233 := Tryz.underlying142
  a233 := Tryz.isAgg142
  z233 := Tryz.sizeOf142
  v233 := Tryz.zeroValue142
  g17 := by kernel_rfl
  g18 := by kernel_rfl
  g19 := by kernel_rfl
  i0 := by kernel_rfl
  i2 := by kernel_rfl
  i3 := by kernel_rfl
  i4 := by kernel_rfl
  i5 := by kernel_rfl
  i9 := by kernel_rfl
  i20 := by kernel_rfl
  i37 := by kernel_rfl
  i46 := by kernel_rfl
  i51 := by kernel_rfl
  i53 := by kernel_rfl
  i171 := by kernel_rfl
  i173 := by kernel_rfl
  i212 := by kernel_rfl
  i232 := by kernel_rfl
  i233 := by kernel_rfl
  m17 := by kernel_rfl
  m18 := by kernel_rfl
  m19 := by kernel_rfl }
open Go.RowKit Go.Sort Go.Lib in
/-- strconv.Itoa: "Itoa is equivalent to FormatInt(int64(i), 10).": i's DECIMAL NUMERAL ('Lib.itoa': a '-' where i is negative, then the digits), FOR EVERY int. The world behind the call: the world before it, new blocks behind the heap (the library's 'var a [24]byte'), draws. (LAID: no walk: one application.) -/
theorem Tryz.strconv_Itoa (n : Int) (h0 : -9223372036854775808 ≤ n) (h1 : n ≤ 9223372036854775807) (w : World) (htab : Lib.TabIs Tryz.prog w "internal/strconv.uint64pow10" .u64 Lib.pow10Tab) :
    Calls Tryz.prog 40 #[.int .i64 n] w fun e w' => e = .returned (.string ⟨(Lib.itoa n).toArray⟩) ∧ ∃ k os, w' = grow (w.drewN k) os := Any.strconv_Itoa Tryz.laysM171 n h0 h1 w htab
def Tryz.lays171_ren : Go.Shelf.Ren := ⟨fun | 171 => 40 | 243 => 59 | 246 => 69 | 283 => 78 | 284 => 79 | 285 => 80 | 286 => 81 | 129 => 89 | 317 => 88 | 318 => 90 | 319 => 91 | 320 => 92 | 337 => 103 | 338 => 104 | n => n, fun | 3 => 3 | 9 => 9 | 2 => 2 | 4 => 4 | 171 => 102 | 0 => 0 | 53 => 103 | 37 => 59 | 5 => 5 | 173 => 106 | 212 => 120 | 51 => 113 | 20 => 20 | 213 => 121 | 46 => 95 | 232 => 141 | 233 => 142 | n => n, fun | 17 => 0 | 18 => 2 | 19 => 3 | n => n⟩
theorem Tryz.lays171 : Go.Proofs.Lays.n171 Tryz.prog Tryz.lays171_ren := {
  mixed := by kernel_rfl
  f129 := Tryz.func89.trans (congrArg some (by kernel_rfl))
  f171 := Tryz.func40.trans (congrArg some (by kernel_rfl))
  f243 := Tryz.func59.trans (congrArg some (by kernel_rfl))
  f246 := Tryz.func69.trans (congrArg some (by kernel_rfl))
  f283 := Tryz.func78.trans (congrArg some (by kernel_rfl))
  f284 := Tryz.func79.trans (congrArg some (by kernel_rfl))
  f285 := Tryz.func80.trans (congrArg some (by kernel_rfl))
  f286 := Tryz.func81.trans (congrArg some (by kernel_rfl))
  f317 := Tryz.func88.trans (congrArg some (by kernel_rfl))
  f318 := Tryz.func90.trans (congrArg some (by kernel_rfl))
  f319 := Tryz.func91.trans (congrArg some (by kernel_rfl))
  f320 := Tryz.func92.trans (congrArg some (by kernel_rfl))
  f337 := Tryz.func103.trans (congrArg some (by kernel_rfl))
  f338 := Tryz.func104.trans (congrArg some (by kernel_rfl))
  t0 := Tryz.underlying0
  a0 := Tryz.isAgg0
  z0 := Tryz.sizeOf0
  v0 := Tryz.zeroValue0
  t2 := Tryz.underlying2
  a2 := Tryz.isAgg2
  z2 := Tryz.sizeOf2
  v2 := Tryz.zeroValue2
  t3 := Tryz.underlying3
  a3 := Tryz.isAgg3
  z3 := Tryz.sizeOf3
  v3 := Tryz.zeroValue3
  t4 := Tryz.underlying4
  a4 := Tryz.isAgg4
  z4 := Tryz.sizeOf4
  v4 := Tryz.zeroValue4
  t5 := Tryz.underlying5
  a5 := Tryz.isAgg5
  z5 := Tryz.sizeOf5
  v5 := Tryz.zeroValue5
  t9 := Tryz.underlying9
  a9 := Tryz.isAgg9
  z9 := Tryz.sizeOf9
  v9 := Tryz.zeroValue9
  t20 := Tryz.underlying20
  a20 := Tryz.isAgg20
  z20 := Tryz.sizeOf20
  v20 := Tryz.zeroValue20
  t37 := Tryz.underlying59
  a37 := Tryz.isAgg59
  z37 := Tryz.sizeOf59
  v37 := Tryz.zeroValue59
  t46 := Tryz.underlying95
  a46 := Tryz.isAgg95
  z46 := Tryz.sizeOf95
  v46 := Tryz.zeroValue95
  t51 := Tryz.underlying113
  a51 := Tryz.isAgg113
  z51 := Tryz.sizeOf113
  v51 := Tryz.zeroValue113
  t53 := Tryz.underlying103
  a53 := Tryz.isAgg103
  z53 := Tryz.sizeOf103
  v53 := Tryz.zeroValue103
  t171 := Tryz.underlying102
  a171 := Tryz.isAgg102
  z171 := Tryz.sizeOf102
  v171 := Tryz.zeroValue102
  t173 := Tryz.underlying106
  a173 := Tryz.isAgg106
  z173 := Tryz.sizeOf106
  v173 := Tryz.zeroValue106
  t212 := Tryz.underlying120
  a212 := Tryz.isAgg120
  z212 := Tryz.sizeOf120
  v212 := Tryz.zeroValue120
  t213 := Tryz.underlying121
  a213 := Tryz.isAgg121
  z213 := Tryz.sizeOf121
  t232 := Tryz.underlying141
  a232 := Tryz.isAgg141
  z232 := Tryz.sizeOf141
  v232 := Tryz.zeroValue141
  t233 := Tryz.underlying142
  a233 := Tryz.isAgg142
  z233 := Tryz.sizeOf142
  v233 := Tryz.zeroValue142
  g17 := by kernel_rfl
  g18 := by kernel_rfl
  g19 := by kernel_rfl }
open Go.RowKit Go.Sort Go.Lib in
/-- THE ROAD WITHOUT THE TABLE: 0 <= i < 100: NO PREMISE ON THE WORLD, AND THE WORLD IS AS IT WAS: a row that keeps its argument in that range need list no table ('laid = []'). (LAID: no walk: one application.) -/
theorem Tryz.strconv_Itoa_small (i : Nat) (hi : i < 100) (w : World) :
    Calls Tryz.prog 40 #[.int .i64 i] w fun e w' => e = .returned (.string ⟨(Lib.decDigits i).toArray⟩) ∧ w' = w := Any.strconv_Itoa_small Tryz.lays171 i hi w
def Tryz.lays206_ren : Go.Shelf.Ren := ⟨fun | 206 => 86 | n => n, fun | 9 => 9 | 4 => 4 | 3 => 3 | n => n, fun | n => n⟩
theorem Tryz.lays206 : Go.Proofs.Lays.n206 Tryz.prog Tryz.lays206_ren := {
  mixed := by kernel_rfl
  f206 := Tryz.func86.trans (congrArg some (by kernel_rfl))
  t3 := Tryz.underlying3
  a3 := Tryz.isAgg3
  z3 := Tryz.sizeOf3
  v3 := Tryz.zeroValue3
  t4 := Tryz.underlying4
  a4 := Tryz.isAgg4
  z4 := Tryz.sizeOf4
  v4 := Tryz.zeroValue4
  t9 := Tryz.underlying9
  a9 := Tryz.isAgg9
  z9 := Tryz.sizeOf9
  v9 := Tryz.zeroValue9 }
open Go.RowKit Go.Lib in
/-- internal/stringslite.HasPrefix (what strings.HasPrefix calls). (LAID: no walk: one application.) -/
theorem Tryz.stringslite_HasPrefix (s p : ByteArray) (w : World) :
    Calls Tryz.prog 86 #[.string s, .string p] w fun e w' => e = .returned (.bool (Lib.hasPrefix s.data.toList p.data.toList)) ∧ w' = w := Any.stringslite_HasPrefix Tryz.lays206 s p w
def Tryz.lays99_ren : Go.Shelf.Ren := ⟨fun | 99 => 74 | 206 => 86 | n => n, fun | 9 => 9 | 4 => 4 | 3 => 3 | n => n, fun | n => n⟩
theorem Tryz.lays99 : Go.Proofs.Lays.n99 Tryz.prog Tryz.lays99_ren := {
  mixed := by kernel_rfl
  f99 := Tryz.func74.trans (congrArg some (by kernel_rfl))
  f206 := Tryz.func86.trans (congrArg some (by kernel_rfl))
  t3 := Tryz.underlying3
  a3 := Tryz.isAgg3
  z3 := Tryz.sizeOf3
  v3 := Tryz.zeroValue3
  t4 := Tryz.underlying4
  a4 := Tryz.isAgg4
  z4 := Tryz.sizeOf4
  v4 := Tryz.zeroValue4
  t9 := Tryz.underlying9
  a9 := Tryz.isAgg9
  z9 := Tryz.sizeOf9
  v9 := Tryz.zeroValue9 }
open Go.RowKit Go.Lib in
/-- strings.HasPrefix: "HasPrefix reports whether the string s begins with prefix.": IT RETURNS 'Lib.hasPrefix s prefix'; the world is as_ it was. (LAID: no walk: one application.) -/
theorem Tryz.strings_HasPrefix (s p : ByteArray) (w : World) :
    Calls Tryz.prog 74 #[.string s, .string p] w fun e w' => e = .returned (.bool (Lib.hasPrefix s.data.toList p.data.toList)) ∧ w' = w := Any.strings_HasPrefix Tryz.lays99 s p w
def Tryz.lays264_ren : Go.Shelf.Ren := ⟨fun | 264 => 85 | n => n, fun | 53 => 103 | 46 => 95 | n => n, fun | n => n⟩
theorem Tryz.lays264 : Go.Proofs.Lays.n264 Tryz.prog Tryz.lays264_ren := {
  mixed := by kernel_rfl
  f264 := Tryz.func85.trans (congrArg some (by kernel_rfl))
  t46 := Tryz.underlying95
  a46 := Tryz.isAgg95
  z46 := Tryz.sizeOf95
  v46 := Tryz.zeroValue95
  t53 := Tryz.underlying103
  a53 := Tryz.isAgg103
  z53 := Tryz.sizeOf103
  v53 := Tryz.zeroValue103 }
open Go.RowKit Go.Lib in
theorem Tryz.bits_Mul64 (x y : Nat) (hx : x < 18446744073709551616) (hy : y < 18446744073709551616) (w : World) :
    Calls Tryz.prog 85 #[.int .u64 x, .int .u64 y] w fun e w' => e = .returned (.tuple #[.int .u64 ((x * y / 18446744073709551616 : Nat) : Int), .int .u64 ((x * y % 18446744073709551616 : Nat) : Int)]) ∧ w' = w := Any.bits_Mul64 Tryz.lays264 x y hx hy w
def Tryz.lays212_ren : Go.Shelf.Ren := ⟨fun | 212 => 73 | 263 => 84 | 264 => 85 | n => n, fun | 46 => 95 | 51 => 113 | 146 => 114 | 53 => 103 | 148 => 116 | n => n, fun | n => n⟩
theorem Tryz.lays212 : Go.Proofs.Lays.n212 Tryz.prog Tryz.lays212_ren := {
  mixed := by kernel_rfl
  f212 := Tryz.func73.trans (congrArg some (by kernel_rfl))
  f263 := Tryz.func84.trans (congrArg some (by kernel_rfl))
  f264 := Tryz.func85.trans (congrArg some (by kernel_rfl))
  t46 := Tryz.underlying95
  a46 := Tryz.isAgg95
  z46 := Tryz.sizeOf95
  v46 := Tryz.zeroValue95
  t51 := Tryz.underlying113
  a51 := Tryz.isAgg113
  z51 := Tryz.sizeOf113
  v51 := Tryz.zeroValue113
  t53 := Tryz.underlying103
  a53 := Tryz.isAgg103
  z53 := Tryz.sizeOf103
  v53 := Tryz.zeroValue103
  t146 := Tryz.underlying114
  a146 := Tryz.isAgg114
  z146 := Tryz.sizeOf114
  v146 := Tryz.zeroValue114
  t148 := Tryz.underlying116
  a148 := Tryz.isAgg116
  z148 := Tryz.sizeOf116
  v148 := Tryz.zeroValue116 }
open Go.RowKit Go.Lib in
/-- math/bits.Mul: "Mul returns the full-width product of x and y": on a machine of 64 bits: Mul64's. (LAID: no walk: one application.) -/
theorem Tryz.bits_Mul (x y : Nat) (hx : x < 18446744073709551616) (hy : y < 18446744073709551616) (w : World) :
    Calls Tryz.prog 73 #[.int .u64 x, .int .u64 y] w fun e w' => e = .returned (.tuple #[.int .u64 ((x * y / 18446744073709551616 : Nat) : Int), .int .u64 ((x * y % 18446744073709551616 : Nat) : Int)]) ∧ w' = w := Any.bits_Mul Tryz.lays212 x y hx hy w
def Tryz.lays105_ren : Go.Shelf.Ren := ⟨fun | 105 => 66 | 212 => 73 | 99 => 74 | 165 => 75 | 166 => 27 | 170 => 76 | 169 => 28 | 263 => 84 | 264 => 85 | 206 => 86 | 240 => 43 | 241 => 87 | 276 => 60 | 277 => 102 | n => n, fun | 9 => 9 | 3 => 3 | 4 => 4 | 20 => 20 | 0 => 0 | 46 => 95 | 109 => 96 | 5 => 5 | 72 => 61 | 76 => 64 | 51 => 113 | 146 => 114 | 53 => 103 | 148 => 116 | 70 => 58 | 37 => 59 | 75 => 63 | 127 => 76 | 164 => 83 | 80 => 66 | n => n, fun | n => n⟩
theorem Tryz.lays105 : Go.Proofs.Lays.n105 Tryz.prog Tryz.lays105_ren := {
  mixed := by kernel_rfl
  f99 := Tryz.func74.trans (congrArg some (by kernel_rfl))
  f105 := Tryz.func66.trans (congrArg some (by kernel_rfl))
  f165 := Tryz.func75.trans (congrArg some (by kernel_rfl))
  f166 := Tryz.func27.trans (congrArg some (by kernel_rfl))
  f169 := Tryz.func28.trans (congrArg some (by kernel_rfl))
  f170 := Tryz.func76.trans (congrArg some (by kernel_rfl))
  f206 := Tryz.func86.trans (congrArg some (by kernel_rfl))
  f212 := Tryz.func73.trans (congrArg some (by kernel_rfl))
  f240 := Tryz.func43.trans (congrArg some (by kernel_rfl))
  f241 := Tryz.func87.trans (congrArg some (by kernel_rfl))
  f263 := Tryz.func84.trans (congrArg some (by kernel_rfl))
  f264 := Tryz.func85.trans (congrArg some (by kernel_rfl))
  f276 := Tryz.func60.trans (congrArg some (by kernel_rfl))
  f277 := Tryz.func102.trans (congrArg some (by kernel_rfl))
  t0 := Tryz.underlying0
  a0 := Tryz.isAgg0
  z0 := Tryz.sizeOf0
  v0 := Tryz.zeroValue0
  t3 := Tryz.underlying3
  a3 := Tryz.isAgg3
  z3 := Tryz.sizeOf3
  v3 := Tryz.zeroValue3
  t4 := Tryz.underlying4
  a4 := Tryz.isAgg4
  z4 := Tryz.sizeOf4
  v4 := Tryz.zeroValue4
  t5 := Tryz.underlying5
  a5 := Tryz.isAgg5
  z5 := Tryz.sizeOf5
  v5 := Tryz.zeroValue5
  t9 := Tryz.underlying9
  a9 := Tryz.isAgg9
  z9 := Tryz.sizeOf9
  v9 := Tryz.zeroValue9
  t20 := Tryz.underlying20
  a20 := Tryz.isAgg20
  z20 := Tryz.sizeOf20
  v20 := Tryz.zeroValue20
  t37 := Tryz.underlying59
  a37 := Tryz.isAgg59
  z37 := Tryz.sizeOf59
  v37 := Tryz.zeroValue59
  t46 := Tryz.underlying95
  a46 := Tryz.isAgg95
  z46 := Tryz.sizeOf95
  v46 := Tryz.zeroValue95
  t51 := Tryz.underlying113
  a51 := Tryz.isAgg113
  z51 := Tryz.sizeOf113
  v51 := Tryz.zeroValue113
  t53 := Tryz.underlying103
  a53 := Tryz.isAgg103
  z53 := Tryz.sizeOf103
  v53 := Tryz.zeroValue103
  t70 := Tryz.underlying58
  a70 := Tryz.isAgg58
  z70 := Tryz.sizeOf58
  v70 := Tryz.zeroValue58
  t72 := Tryz.underlying61
  a72 := Tryz.isAgg61
  z72 := Tryz.sizeOf61
  v72 := Tryz.zeroValue61
  t75 := Tryz.underlying63
  a75 := Tryz.isAgg63
  z75 := Tryz.sizeOf63
  v75 := Tryz.zeroValue63
  t76 := Tryz.underlying64
  a76 := Tryz.isAgg64
  z76 := Tryz.sizeOf64
  v76 := Tryz.zeroValue64
  t109 := Tryz.underlying96
  a109 := Tryz.isAgg96
  z109 := Tryz.sizeOf96
  v109 := Tryz.zeroValue96
  t127 := Tryz.underlying76
  a127 := Tryz.isAgg76
  z127 := Tryz.sizeOf76
  v127 := Tryz.zeroValue76
  t146 := Tryz.underlying114
  a146 := Tryz.isAgg114
  z146 := Tryz.sizeOf114
  v146 := Tryz.zeroValue114
  t148 := Tryz.underlying116
  a148 := Tryz.isAgg116
  z148 := Tryz.sizeOf116
  v148 := Tryz.zeroValue116
  t164 := Tryz.underlying83
  a164 := Tryz.isAgg83
  z164 := Tryz.sizeOf83
  v164 := Tryz.zeroValue83 }
theorem Tryz.Builder_Extra_105 : Builder.Extra Tryz.prog Tryz.lays105_ren := {
  sizeBuilder := by kernel_rfl
  liesBuilder := by kernel_rfl
  t5 := Tryz.underlying5
  a5 := Tryz.isAgg5
  z5 := Tryz.sizeOf5
  v5 := Tryz.zeroValue5
  infoByte := by kernel_rfl
  cellsByte := by kernel_rfl
  sizeByte := by kernel_rfl
  neB5 := by decide }
open Go.RowKit Go.Lib in
/-- THE MAIN CASE: at least two copies of a string that is not empty. (LAID: no walk: one application.) -/
theorem Tryz.strings_Repeat_main (s : ByteArray) (c : Nat) (w : World) (hc2 : 2 ≤ c) (hc : c ≤ 9223372036854775807) (hlen : s.size * c ≤ 140737488355328) (h0 : 0 < s.size) :
    Calls Tryz.prog 66 #[.string s, .int .i64 c] w fun e w' => e = .returned (.string ⟨(Lib.repeatL s.data.toList c).toArray⟩) ∧ Below w.heap.size w w' := Any.strings_Repeat_main Tryz.lays105 Tryz.Builder_Extra_105 s c w hc2 hc hlen h0
open Go.RowKit Go.Lib in
theorem Tryz.strings_Repeat_zero (s : ByteArray) (w : World) :
    Calls Tryz.prog 66 #[.string s, .int .i64 0] w fun e w' => e = .returned (.string ⟨#[]⟩) ∧ w' = w := Any.strings_Repeat_zero Tryz.lays105 s w
open Go.RowKit Go.Lib in
theorem Tryz.strings_Repeat_one (s : ByteArray) (w : World) :
    Calls Tryz.prog 66 #[.string s, .int .i64 1] w fun e w' => e = .returned (.string s) ∧ w' = w := Any.strings_Repeat_one Tryz.lays105 s w
open Go.RowKit Go.Lib in
/-- Copies of the empty string. (LAID: no walk: one application.) -/
theorem Tryz.strings_Repeat_empty (s : ByteArray) (c : Nat) (w : World) (hc2 : 2 ≤ c) (hc : c ≤ 9223372036854775807) (h0 : s.size = 0) :
    Calls Tryz.prog 66 #[.string s, .int .i64 c] w fun e w' => e = .returned (.string ⟨#[]⟩) ∧ w' = w := Any.strings_Repeat_empty Tryz.lays105 s c w hc2 hc h0
open Go.RowKit Go.Lib in
/-- count < 0: "It panics if count is negative". (LAID: no walk: one application.) -/
theorem Tryz.strings_Repeat_negative (s : ByteArray) (c : Int) (w : World) (hc : c < 0) :
    Calls Tryz.prog 66 #[.string s, .int .i64 c] w fun e w' => e = .panicked [{ v := repeatPanic Tryz.lays105_ren "strings: negative Repeat count", recovered := false }] ∧ w' = w := Any.strings_Repeat_negative Tryz.lays105 s c w hc
open Go.RowKit Go.Lib in
/-- len(s) * count is no int: ".. or if the result of (len(s) * count) overflows". (LAID: no walk: one application.) -/
theorem Tryz.strings_Repeat_overflow (s : ByteArray) (c : Nat) (w : World) (hc : c ≤ 9223372036854775807) (hs : s.size ≤ 9223372036854775807) (hbig : 9223372036854775807 < s.size * c) :
    Calls Tryz.prog 66 #[.string s, .int .i64 c] w fun e w' => e = .panicked [{ v := repeatPanic Tryz.lays105_ren "strings: Repeat output length overflow", recovered := false }] ∧ w' = w := Any.strings_Repeat_overflow Tryz.lays105 s c w hc hs hbig
open Go.RowKit Go.Lib in
/-- **strings.Repeat: count ≥ 0, the result within one allocation: count copies of s.** (LAID: no walk: one application.) -/
theorem Tryz.strings_Repeat (s : ByteArray) (c : Nat) (w : World) (hc : c ≤ 9223372036854775807) (hlen : s.size * c ≤ 140737488355328) :
    Calls Tryz.prog 66 #[.string s, .int .i64 c] w fun e w' => e = .returned (.string ⟨(Lib.repeatL s.data.toList c).toArray⟩) ∧ Below w.heap.size w w' := Any.strings_Repeat Tryz.lays105 Tryz.Builder_Extra_105 s c w hc hlen
end Go.Proofs

/- strings.Builder: copyCheck, WriteByte, WriteString, String, at this program (after the shelf's own proofs; here a copied builder is refused, not a panic). -/
namespace Go.Proofs.YtooikkfldddjfaaGreatDoor
set_option maxRecDepth 10000
open Go.RowKit Go.Shelf
set_option linter.unusedVariables false
set_option linter.unusedSimpArgs false
set_option maxRecDepth 100000
set_option maxHeartbeats 2000000
abbrev TB : Nat := 61
theorem bld_used (b : Nat) (w : World) (h0 : w.cell? ⟨b, 0, none⟩ = some (.pointer (some ⟨b, 0, none⟩))) :
    Calls Tryz.prog 43 #[.pointer (some ⟨b, 0, none⟩)] w fun e w' => e = .returned (.tuple #[]) ∧ w' = w := by
  have X := Tryz.Builder_Extra_169
  obtain ⟨j, hj, _⟩ := Option.map_eq_some_iff.1 X.sizeBuilder
  go_enter Tryz.func43, Tryz.ntmps43
  go_wp2
  rw [Lib.run_neq_ptr_same w _ Tryz.underlying58 hj]
  go_wp2
  go_end0
  exact ⟨rfl, rfl⟩
theorem bld_fresh (b : Nat) (w : World) (h0 : w.cell? ⟨b, 0, none⟩ = some (.pointer none)) (hsh : w.shape? b = some (TB, 2)) (hfz : w.frozen? ⟨b, 0, none⟩ = false) :
    Calls Tryz.prog 43 #[.pointer (some ⟨b, 0, none⟩)] w fun e w' => e = .returned (.tuple #[]) ∧ w' = w.setCell ⟨b, 0, none⟩ (.pointer (some ⟨b, 0, none⟩)) := by
  have X := Tryz.Builder_Extra_169
  obtain ⟨j, hj, hjs⟩ := Option.map_eq_some_iff.1 X.sizeBuilder
  go_enter Tryz.func43, Tryz.ntmps43
  go_wp2
  rw [Lib.run_to_unsafe w ⟨b, 0, none⟩ Tryz.underlying58 Tryz.underlying83 hj (by rw [hjs]; decide) hsh (Nat.zero_lt_succ 1)]
  simp only [Result.andThen]
  rw [Oper.upon_value]
  go_wp2
  rw [run_callFunc_extern Tryz.func60 (by kernel_rfl) (by kernel_rfl) (by kernel_rfl) (e := Extern.AbiNoEscape.same) (by kernel_rfl)]
  rw [Lib.run_noEscape]
  simp only [Result.andThen]
  rw [Oper.upon_value]
  go_wp2
  rw [Lib.run_from_unsafe w ⟨b, 0, none⟩ Tryz.underlying83 Tryz.underlying58 hj hsh X.toX72.liesBuilder]
  simp only [Result.andThen]
  rw [Oper.upon_value]
  go_wp2
  go_end0
  exact ⟨rfl, rfl⟩
theorem bld_copy (B b : Nat) (bs : List Value) (w : World) (h : Lib.IsBuilder TB 5 B b bs w) :
    Calls Tryz.prog 43 #[.pointer (some ⟨b, 0, none⟩)] w fun e w' => e = .returned (.tuple #[]) ∧ (Lib.BuilderAt TB 5 B b (.pointer (some ⟨b, 0, none⟩)) bs w' ∧ Below B w w') := by
  rcases h with h | h
  · refine (bld_fresh b w h.cell0 h.shape h.frozen0).mono ?_
    rintro e w' ⟨rfl, rfl⟩
    exact ⟨rfl, h.used _, (Below.refl B w).setCell (p := ⟨b, 0, none⟩) h.1 _⟩
  · refine (bld_used b w h.cell0).mono ?_
    rintro e w' ⟨rfl, rfl⟩
    exact ⟨rfl, h, Below.refl B _⟩
theorem bld_byte (B b : Nat) (bs : List Value) (c : Int) (w : World) (h : Lib.IsBuilder TB 5 B b bs w) (hlen : bs.length + 1 ≤ 140737488355328) (hBw : B ≤ w.heap.size) :
    Calls Tryz.prog 77 #[.pointer (some ⟨b, 0, none⟩), .int .u8 c] w fun e w' => e = .returned .nilIface ∧ (Lib.BuilderAt TB 5 B b (.pointer (some ⟨b, 0, none⟩)) (bs ++ [.int .u8 c]) w' ∧ Below B w w') := by
  have X := Tryz.Builder_Extra_169
  obtain ⟨i0, hi, hz0, hz1, hz2⟩ := info_parts X.infoByte
  go_enter Tryz.func77, Tryz.ntmps77
  go_wp2_with (go_at_call 43; refine (bld_copy B b bs _ h).mono ?_)
  rintro e w1 ⟨rfl, h1, hb1⟩
  obtain ⟨hB, v, hbk, hown, hne⟩ := h1
  have c0 : w1.cell? ⟨b, 0, none⟩ = some (.pointer (some ⟨b, 0, none⟩)) := by rw [Lib.cell_of_heap hbk]; rfl
  have c1 : w1.cell? ⟨b, 1, none⟩ = some v := by rw [Lib.cell_of_heap hbk]; rfl
  go_wp2_with (at_builtin; refine wpList_append_own _ rfl _ _ 59 rfl B 5 i0 (.int .u8 0) 1 1 Tryz.underlying59 hi hz0 hz1 hz2 rfl (by decide) _ _ _ rfl (hown.alloc _) ⟨w1.heap.size, 0, none⟩ 1 1 [.int .u8 c] rfl rfl ?c1 ?c2 ?c3 ?c4 ?c5 ?_)
  case c1 =>
    intro j u hj
    match j, hj with
    | 0, hj => simp at hj; subst hj; simp [Addr.add]
  case c2 => intro u hu; simp at hu; subst hu; rfl
  case c3 => unfold maxLen; omega
  case c4 => omega
  case c5 => have := hb1.size; simp; omega
  intro v' w2 hown' hgrow _
  have hlt : b < w1.heap.size := by
    rcases Nat.lt_or_ge b w1.heap.size with h' | h'
    · exact h'
    · simp [Array.getElem?_eq_none h'] at hbk
  have hb2 : w2.heap[b]? = some (.cells #[.pointer (some ⟨b, 0, none⟩), v] TB (0, 0)) := by
    rw [hgrow.block b (by simp; omega) (fun e => hne e.symm), Lib.alloc_old w1 _ b hlt]
    exact hbk
  have d0 : w2.cell? ⟨b, 0, none⟩ = some (.pointer (some ⟨b, 0, none⟩)) := by rw [Lib.cell_of_heap hb2]; rfl
  have d1 : w2.cell? ⟨b, 1, none⟩ = some v := by rw [Lib.cell_of_heap hb2]; rfl
  have f1 : w2.frozen? ⟨b, 1, none⟩ = false := Lib.frozen_of_heap hb2 1
  obtain ⟨g, cap, rfl⟩ : ∃ g cap, v' = .slice (some ⟨g, 0, none⟩) (bs.length + 1) cap := by
    rcases hown'.2 with ⟨_, h0⟩ | ⟨g, cap, cur, hv, _⟩
    · omega
    · exact ⟨g, cap, hv⟩
  go_wp2
  go_ret
  refine ⟨rfl, ?_, ?_⟩
  · exact Lib.BuilderAt.put (T := TB) (e := 5) hB hb2 (bs' := bs ++ [.int .u8 c]) (by simpa using hown') X.neB5
  · exact ((hb1.alloc (by have := hb1.size; omega) _).grown hgrow (by have := hb1.size; simp; omega) (fun k hk => (hown.lt k hk).1)).setCell (p := ⟨b, 1, none⟩) hB _
theorem bld_str (B b : Nat) (bs : List Value) (s : ByteArray) (w : World) (h : Lib.IsBuilder TB 5 B b bs w) (hlen : bs.length + s.size ≤ 140737488355328) (hBw : B ≤ w.heap.size) :
    Calls Tryz.prog 27 #[.pointer (some ⟨b, 0, none⟩), .string s] w fun e w' => e = .returned (.tuple #[.int .i64 s.size, .nilIface]) ∧ (Lib.BuilderAt TB 5 B b (.pointer (some ⟨b, 0, none⟩)) (bs ++ Lib.strCells s) w' ∧ Below B w w') := by
  have X := Tryz.Builder_Extra_169
  obtain ⟨i0, hi, hz0, hz1, hz2⟩ := info_parts X.infoByte
  go_enter Tryz.func27, Tryz.ntmps27
  go_wp2_with (go_at_call 43; refine (bld_copy B b bs _ h).mono ?_)
  rintro e w1 ⟨rfl, h1, hb1⟩
  obtain ⟨hB, v, hbk, hown, hne⟩ := h1
  have c0 : w1.cell? ⟨b, 0, none⟩ = some (.pointer (some ⟨b, 0, none⟩)) := by rw [Lib.cell_of_heap hbk]; rfl
  have c1 : w1.cell? ⟨b, 1, none⟩ = some v := by rw [Lib.cell_of_heap hbk]; rfl
  go_wp2_with (at_builtin; refine Lib.wpList_append_own_string _ rfl _ _ 59 9 rfl B 5 i0 Tryz.underlying59 Tryz.underlying9 hi hz0 hz1 hz2 _ _ _ rfl hown s rfl ?c3 ?c4 ?c5 ?_)
  case c3 => unfold maxLen; omega
  case c4 => omega
  case c5 => have := hb1.size; omega
  intro v' w2 hown' hgrow _
  have hlt : b < w1.heap.size := by
    rcases Nat.lt_or_ge b w1.heap.size with h' | h'
    · exact h'
    · simp [Array.getElem?_eq_none h'] at hbk
  have hb2 : w2.heap[b]? = some (.cells #[.pointer (some ⟨b, 0, none⟩), v] TB (0, 0)) := by
    rw [hgrow.block b hlt (fun e => hne e.symm)]
    exact hbk
  have d0 : w2.cell? ⟨b, 0, none⟩ = some (.pointer (some ⟨b, 0, none⟩)) := by rw [Lib.cell_of_heap hb2]; rfl
  have d1 : w2.cell? ⟨b, 1, none⟩ = some v := by rw [Lib.cell_of_heap hb2]; rfl
  have f1 : w2.frozen? ⟨b, 1, none⟩ = false := Lib.frozen_of_heap hb2 1
  obtain ⟨ao, n', cap, rfl⟩ : ∃ ao n' cap, v' = .slice ao n' cap := by
    rcases hown'.2 with ⟨hv, _⟩ | ⟨g, cap, cur, hv, _⟩
    · exact ⟨_, _, _, hv⟩
    · exact ⟨_, _, _, hv⟩
  go_wp2
  go_ret2
  refine ⟨rfl, ?_, ?_⟩
  · exact Lib.BuilderAt.put (T := TB) (e := 5) hB hb2 (bs' := bs ++ Lib.strCells s) (by simpa [Lib.strCells_length] using hown') X.neB5
  · exact (hb1.grown hgrow (by have := hb1.size; omega) (fun k hk => (hown.lt k hk).1)).setCell (p := ⟨b, 1, none⟩) hB _
end Go.Proofs.YtooikkfldddjfaaGreatDoor

/- Numbers as_ texts, at a world: impl.FormatInt, impl.padded. -/
namespace Go.Proofs.YtooikkfldddjfaaGreatDoor
set_option maxRecDepth 10000
open Go.RowKit
set_option linter.unusedVariables false
set_option linter.unusedSimpArgs false
set_option maxHeartbeats 2000000
theorem up_grow (w : World) (k : Nat) (os : Array Obj) : Up w (Sort.grow (w.drewN k) os) :=
  ⟨rfl, rfl, rfl, by simp, fun b hb => Sort.heap_grow_old _ _ hb⟩
theorem formatInt_impl (n : Int) (h0 : -9223372036854775808 ≤ n) (h1 : n ≤ 9223372036854775807) (w : World) (ht : TabF w) :
    Calls Tryz.prog 23 #[.int .i64 n] w fun e w' => e = .returned (.string (txt (Lib.itoa n))) ∧ Up w w' := by
  have hI := Tryz.strconv_Itoa n h0 h1 w ht
  go_enter Tryz.func23, Tryz.ntmps23
  go_wp2_with (go_at_call 40; refine hI.mono ?_; rintro e w' ⟨rfl, k, os, rfl⟩)
  go_ret
  exact ⟨rfl, up_grow _ _ _⟩
theorem itoa_nat (i : Nat) : Lib.itoa (i : Int) = Lib.decDigits i := by
  unfold Lib.itoa
  rw [if_neg (by omega)]
  rfl
theorem formatInt_small (i : Nat) (hi : i < 100) (w : World) :
    Calls Tryz.prog 23 #[.int .i64 i] w fun e w' => e = .returned (.string (txt (Lib.itoa i))) ∧ w' = w := by
  have hI := Tryz.strconv_Itoa_small i hi w
  rw [itoa_nat]
  go_enter Tryz.func23, Tryz.ntmps23
  go_wp2_with (go_at_call 40; refine hI.mono ?_; rintro e w' ⟨rfl, rfl⟩)
  go_ret
  exact ⟨rfl, rfl⟩
/-- A number with so many digits. -/
def padL (n : Int) (d : Nat) : List UInt8 := List.replicate (d - (Lib.itoa n).length) 48 ++ Lib.itoa n
theorem repeat48 (c : Nat) : Lib.repeatL [48] c = List.replicate c (48 : UInt8) := by
  induction c with
  | zero => rfl
  | succ c ih =>
    rw [Lib.repeatL, ih, List.replicate_succ]; rfl
theorem padded_impl (n : Int) (d : Nat) (h0 : -9223372036854775808 ≤ n) (h1 : n ≤ 9223372036854775807) (hd : d ≤ 20) (w : World) (ht : TabF w) :
    Calls Tryz.prog 57 #[.int .i64 n, .int .i64 d] w fun e w' => e = .returned (.string (txt (padL n d))) ∧ Up w w' := by
  have hF := formatInt_impl n h0 h1 w ht
  have hlen := Lib.itoa_length_le n h0 h1
  have hsz : (txt (Lib.itoa n)).size = (Lib.itoa n).length := txt_size _
  have hR := fun w1 => Tryz.strings_Repeat ⟨#[48]⟩ (d - (Lib.itoa n).length) w1 (by omega) (by show 1 * _ ≤ _; omega)
  have hsR : (⟨(Lib.repeatL [48] (d - (Lib.itoa n).length)).toArray⟩ : ByteArray).size = d - (Lib.itoa n).length := by simp [ByteArray.size, Lib.repeatL_length]
  rw [show ((d - (Lib.itoa n).length : Nat) : Int) = max 0 ((d : Int) - ((Lib.itoa n).length : Int)) by omega] at hR
  go_enter Tryz.func57, Tryz.ntmps57
  go_wp2_with (first
    | (go_at_call 23; refine hF.mono ?_; rintro e w1 ⟨rfl, hu1⟩)
    | (go_at_call 66; refine (hR _).mono ?_; rintro e w2 ⟨rfl, hu2⟩))
  all_goals (try (exfalso; omega))
  go_ret
  refine ⟨?_, Up.step hu2 hu1⟩
  show Ending.returned (.string (⟨(Lib.repeatL [48] (d - (Lib.itoa n).length)).toArray⟩ ++ txt (Lib.itoa n))) = _
  congr 2
  apply ByteArray.ext
  rw [ByteArray.data_append]
  simp [txt, padL, repeat48]
/-- Digits and capital letters, as_ digits. -/
def dgt (c : UInt8) : Option (List UInt8) := if 48 ≤ c.toNat ∧ c.toNat ≤ 57 then some [c] else if 65 ≤ c.toNat ∧ c.toNat ≤ 90 then some (Lib.itoa ((c.toNat - 55 : Nat) : Int)) else none
def dgts : List UInt8 → Option (List UInt8)
  | [] => some []
  | c :: cs => match dgt c, dgts cs with
    | some a, some b => some (a ++ b)
    | _, _ => none
theorem dgts_snoc (l : List UInt8) (c : UInt8) : dgts (l ++ [c]) = match dgts l, dgt c with
    | some a, some b => some (a ++ b)
    | _, _ => none := by
  induction l with
  | nil =>
    show dgts [c] = _
    simp only [dgts]
    cases dgt c <;> simp
  | cons x l ih =>
    simp only [List.cons_append, dgts, ih]
    cases dgt x <;> cases dgts l <;> cases dgt c <;> simp
theorem dgts_none {l : List UInt8} {i : Nat} {c : UInt8} (h : l[i]? = some c) (hc : dgt c = none) : dgts l = none := by
  induction l generalizing i with
  | nil => simp at h
  | cons x l ih =>
    cases i with
    | zero => simp at h; subst h; simp [dgts, hc]
    | succ i =>
      have := ih (i := i) (by simpa using h)
      simp only [dgts, this]
      cases dgt x <;> rfl
end Go.Proofs.YtooikkfldddjfaaGreatDoor

/- impl.Digits at a world. -/
namespace Go.Proofs.YtooikkfldddjfaaGreatDoor
set_option maxRecDepth 10000
open Go.RowKit
set_option linter.unusedVariables false
set_option linter.unusedSimpArgs false
set_option maxHeartbeats 2000000
theorem txt_get (l : List UInt8) (k : Nat) (h : k < (txt l).size) : l[k]? = some ((txt l)[k]'h) := by
  have h' : k < l.length := by rw [txt_size] at h; exact h
  rw [List.getElem?_eq_getElem h']
  rfl
theorem itoa_small_len (i : Nat) (h : i < 100) : (Lib.itoa (i : Int)).length ≤ 21 :=
  Lib.itoa_length_le (i : Int) (by omega) (by omega)
theorem dgt_len {c : UInt8} {a : List UInt8} (h : dgt c = some a) : a.length ≤ 21 := by
  unfold dgt at h
  split at h
  · cases h; simp
  · split at h
    · cases h; exact itoa_small_len _ (by have := c.toNat_lt; omega)
    · cases h
theorem digits_impl (l : List UInt8) (hl : l.length ≤ 1000000000) (w : World) :
    Calls Tryz.prog 67 #[.string (txt l)] w fun e w' => e = .returned (.tuple #[.string (txt ((dgts l).getD [])), .bool ((dgts l).isSome)]) ∧ Up w w' := by
  have hsz : (txt l).size = l.length := txt_size _
  go_enter Tryz.func67, Tryz.ntmps67
  go_wp2
  go_loopw [5] (fun ii wr => ∃ (k : Nat) (acc : List UInt8), k ≤ l.length ∧ ii = .int .i64 k ∧ dgts (l.take k) = some acc ∧ acc.length ≤ 21 * k ∧ Lib.IsBuilder 61 5 w.heap.size w.heap.size (Lib.byteCells acc) wr ∧ Up w wr) (fun ii _ => l.length - (intOf ii).toNat)
  case atStart =>
    exact ⟨0, [], by omega, rfl, by simp [dgts], by simp, Lib.fresh_isBuilder 61 5 w, by (repeat (first | exact Up.rfl' _ | (refine Up.al _ ?_) | (refine Up.dr _ ?_) | (refine Up.dr1 ?_) | (refine Up.sc ?_ (by first | exact Nat.le_refl _ | (simp; done) | omega) _) | (refine Up.step (by assumption) ?_)))⟩
  case round =>
    obtain ⟨k, acc, hk, rfl, hacc, hal, hI, hu⟩ := hrel
    have hws := hu.size
    by_cases hlt : k < l.length
    · have hlt2 : k < (txt l).size := by omega
      have hg := txt_get l k hlt2
      have htk : dgts (l.take (k + 1)) = match some acc, dgt ((txt l)[k]'hlt2) with
          | some a, some b => some (a ++ b)
          | _, _ => none := by
        rw [List.take_add_one, hg, show (some (txt l)[k]).toList = [(txt l)[k]] from rfl, dgts_snoc, hacc] <;> rfl
      have hcl := ((txt l)[k]'hlt2).toNat_lt
      generalize hc : (txt l)[k]'hlt2 = c at *
      by_cases h1 : 48 ≤ c.toNat ∧ c.toNat ≤ 57
      · obtain ⟨h1a, h1b⟩ := h1
        have hd : dgt c = some [c] := by unfold dgt; rw [if_pos ⟨h1a, h1b⟩]
        rw [hd] at htk
        go_wp2_with (go_at_call 77; refine (bld_byte w.heap.size w.heap.size _ _ _ hI (by rw [Lib.byteCells_length]; omega) hws).mono ?_; rintro e W1 ⟨rfl, hI1, hb1⟩)
        go_roundw
        case rel =>
          refine ⟨k + 1, acc ++ [c], by omega, by simp, htk, by simp; omega, ?_, Below.trans hu hb1⟩
          rw [Lib.byteCells_append]
          exact Or.inr hI1
        case measure => simp [intOf]; omega
      · by_cases h2 : 65 ≤ c.toNat ∧ c.toNat ≤ 90
        · obtain ⟨h2a, h2b⟩ := h2
          have hd : dgt c = some (Lib.itoa ((c.toNat - 55 : Nat) : Int)) := by unfold dgt; rw [if_neg h1, if_pos ⟨h2a, h2b⟩]
          have hdl := dgt_len hd
          rw [hd] at htk
          have hF := formatInt_small (c.toNat - 55) (by omega)
          rw [show ((c.toNat - 55 : Nat) : Int) = ((c.toNat : Int) - 65) + 10 by omega] at hF htk hdl
          go_wp2_with (first
            | (go_at_call 23; refine (hF _).mono ?_; rintro e w1 ⟨rfl, rfl⟩)
            | (go_at_call 27; refine (bld_str w.heap.size w.heap.size _ _ _ hI (by rw [Lib.byteCells_length, txt_size]; omega) hws).mono ?_; rintro e W1 ⟨rfl, hI1, hb1⟩))
          go_roundw
          case rel =>
            refine ⟨k + 1, acc ++ _, by omega, by simp, htk, by simp; omega, ?_, Below.trans hu hb1⟩
            rw [Lib.byteCells_append]
            rw [Lib.strCells_eq] at hI1
            exact Or.inr hI1
          case measure => simp [intOf]; omega
        · have hd : dgt c = none := by unfold dgt; rw [if_neg h1, if_neg h2]
          have hn := dgts_none hg (by rw [hd])
          go_wp2
          all_goals (go_ret2; first | exact ⟨rfl, hu⟩ | (rw [hn]; exact ⟨rfl, hu⟩))
    · have hkl : k = l.length := by omega
      subst hkl
      rw [List.take_length] at hacc
      go_wp2_with (go_at_call 28; refine (Tryz.Builder_String_any w.heap.size w.heap.size acc _ hI hws).mono ?_; rintro e W1 ⟨rfl, hb1⟩)
      go_ret2
      rw [hacc]
      exact ⟨rfl, Below.trans hu hb1⟩
end Go.Proofs.YtooikkfldddjfaaGreatDoor

/- Numbers as_ texts and digits of texts, as_ contracts in plain values. -/
namespace Go.Proofs.YtooikkfldddjfaaGreatDoor
set_option maxRecDepth 10000
open Go.RowKit
set_option linter.unusedVariables false
set_option linter.unusedSimpArgs false
theorem callM_r {P : Program} {f : FuncId} {args : List PV} {r : PV} {val : Value} (h1 : ∀ (w : World) (E : Env), Rep w E r val)
    (h : ∀ (S : Nat → Prop) (β : Nat → Option Blk) (w : World) (vs : Array Value), (∀ b, S b → b < w.heap.size) → TabF w → vs.size = args.length → (∀ (i : Nat) (p : PV), args[i]? = some p → ∃ x, vs[i]? = some x ∧ Rep w (E1 S β 0) p x) →
      Calls P f vs w fun e w' => e = .returned val ∧ Up w w') : CallM P f args [] r [] := by
  intro S β w vs hk hl ha
  refine (h S β w vs hk.sz hk.tab.here hl ha).mono ?_
  rintro e w' ⟨rfl, hu⟩
  refine ⟨val, E1 S β 0, rfl, ⟨⟨hu.os, hu.tape, hu.output, hu.size, fun b hb _ => hu.block b hb⟩, fun b hb => Nat.lt_of_lt_of_le (hk.sz b hb) hu.size, fun l B hB hz => ?_, hk.inj, hk.used, hk.bu, fun l mb hm => (by simp at hm), hk.dom, hk.tab⟩, fun b h => h, fun b h => .inl h, fun l B _ h => h, h1 _ _⟩
  obtain ⟨a, b, c⟩ := hk.own l B hB hz
  exact ⟨a, Nat.lt_of_lt_of_le b hu.size, c⟩
theorem rv1 {w : World} {E : Env} {a x : Value} (h : Rep w E (.v a) x) : x = a := h.v_inv.1
theorem ar1 {vs : Array Value} {x0 : Value} (h : vs.size = 1) (h0 : vs[0]? = some x0) : vs = #[x0] := by
  apply Array.ext (by simp [h])
  intro i h2 h3
  obtain rfl : i = 0 := by omega
  simpa using (Array.getElem?_eq_some_iff.1 h0).2
theorem ar2 {vs : Array Value} {x0 x1 : Value} (h : vs.size = 2) (h0 : vs[0]? = some x0) (h1 : vs[1]? = some x1) : vs = #[x0, x1] := by
  apply Array.ext (by simp [h])
  intro i hi h3
  have a0 := (Array.getElem?_eq_some_iff.1 h0).2
  have a1 := (Array.getElem?_eq_some_iff.1 h1).2
  match i, hi with
  | 0, _ => simpa using a0
  | 1, _ => simpa using a1
  | i + 2, hi => omega
def in64 (n : Int) : Prop := -9223372036854775808 ≤ n ∧ n ≤ 9223372036854775807
instance (n : Int) : Decidable (in64 n) := by unfold in64; infer_instance
def m_impl_FormatInt (n : Int) : Option ByteArray := if in64 n then some (txt (Lib.itoa n)) else none
theorem ok_impl_FormatInt (n : Int) {r : ByteArray} (H : m_impl_FormatInt n = some r) : CallM Tryz.prog 23 [vi n] [] (Go.Proofs.YtooikkfldddjfaaGreatDoor.vs r) [] := by
  unfold m_impl_FormatInt at H
  split at H
  case isFalse => cases H
  rename_i hn
  obtain rfl := Option.some.inj H
  refine callM_r (fun w E => .c (.v _ rfl)) fun S β w vs hsz ht hl ha => ?_
  obtain ⟨x, hx, hr⟩ := ha 0 _ rfl
  obtain rfl := ar1 hl hx
  obtain rfl := rv1 hr
  exact formatInt_impl n hn.1 hn.2 w ht
instance (n : Int) : CT Tryz.prog (m_impl_FormatInt n) := ⟨23, [vi n], [], fun r => vs r, fun r => [], ok_impl_FormatInt n⟩
def m_spec_FormatInt (n : Int) : Option ByteArray := if in64 n then some (txt (Lib.itoa n)) else none
theorem ok_spec_FormatInt (n : Int) {r : ByteArray} (H : m_spec_FormatInt n = some r) : CallM Tryz.prog 18 [vi n] [] (Go.Proofs.YtooikkfldddjfaaGreatDoor.vs r) [] := by
  unfold m_spec_FormatInt at H
  split at H
  case isFalse => cases H
  rename_i hn
  obtain rfl := Option.some.inj H
  refine callM_r (fun w E => .c (.v _ rfl)) fun S β w vs hsz ht hl ha => ?_
  obtain ⟨x, hx, hr⟩ := ha 0 _ rfl
  obtain rfl := ar1 hl hx
  obtain rfl := rv1 hr
  exact formatInt_spec n hn.1 hn.2 w
instance (n : Int) : CT Tryz.prog (m_spec_FormatInt n) := ⟨18, [vi n], [], fun r => vs r, fun r => [], ok_spec_FormatInt n⟩
def m_impl_padded (n d : Int) : Option ByteArray := if in64 n ∧ 0 ≤ d ∧ d ≤ 20 then some (txt (padL n d.toNat)) else none
theorem ok_impl_padded (n d : Int) {r : ByteArray} (H : m_impl_padded n d = some r) : CallM Tryz.prog 57 [vi n, vi d] [] (Go.Proofs.YtooikkfldddjfaaGreatDoor.vs r) [] := by
  unfold m_impl_padded at H
  split at H
  case isFalse => cases H
  rename_i hn
  obtain rfl := Option.some.inj H
  refine callM_r (fun w E => .c (.v _ rfl)) fun S β w vs hsz ht hl ha => ?_
  obtain ⟨x, hx, hr⟩ := ha 0 _ rfl
  obtain ⟨x1, hx1, hr1⟩ := ha 1 _ rfl
  obtain rfl := ar2 hl hx hx1
  obtain rfl := rv1 hr
  obtain rfl := rv1 hr1
  have := padded_impl n d.toNat hn.1.1 hn.1.2 (by omega) w ht
  rwa [show ((d.toNat : Nat) : Int) = d by omega] at this
instance (n d : Int) : CT Tryz.prog (m_impl_padded n d) := ⟨57, [vi n, vi d], [], fun r => vs r, fun r => [], ok_impl_padded n d⟩
def m_impl_Digits (s : ByteArray) : Option (ByteArray × Bool) := if s.size ≤ 1000000000 then some (txt ((dgts s.data.toList).getD []), (dgts s.data.toList).isSome) else none
theorem ok_impl_Digits (s : ByteArray) {r : ByteArray × Bool} (H : m_impl_Digits s = some r) : CallM Tryz.prog 67 [Go.Proofs.YtooikkfldddjfaaGreatDoor.vs s] [] (.tu [Go.Proofs.YtooikkfldddjfaaGreatDoor.vs r.1, vb r.2]) [] := by
  unfold m_impl_Digits at H
  split at H
  case isFalse => cases H
  rename_i hn
  obtain rfl := Option.some.inj H
  refine callM_r (val := .tuple #[.string (txt ((dgts s.data.toList).getD [])), .bool ((dgts s.data.toList).isSome)]) (fun w E => .tu _ _ rfl fun j p x hp hx => ?_) fun S β w vs hsz ht hl ha => ?_
  · match j, hp, hx with
    | 0, hp, hx => simp at hp hx; subst hp hx; exact .c (.v _ rfl)
    | 1, hp, hx => simp at hp hx; subst hp hx; exact .c (.v _ rfl)
    | j + 2, hp, hx => simp at hx
  · obtain ⟨x, hx, hr⟩ := ha 0 _ rfl
    obtain rfl := ar1 hl hx
    obtain rfl := rv1 hr
    have := digits_impl s.data.toList (by rw [Array.length_toList]; exact hn) w
    rwa [show txt s.data.toList = s from ByteArray.ext (by simp [txt])] at this
instance (s : ByteArray) : CT Tryz.prog (m_impl_Digits s) := ⟨67, [vs s], [], fun r => .tu [vs r.1, vb r.2], fun r => [], ok_impl_Digits s⟩
end Go.Proofs.YtooikkfldddjfaaGreatDoor

/- impl.SortSides at three sides: sort.Sort(sort.Reverse(sort.IntSlice(..))), walked once. -/
namespace Go.Proofs.YtooikkfldddjfaaGreatDoor
set_option maxRecDepth 10000
open Go.RowKit
set_option linter.unusedVariables false
set_option linter.unusedSimpArgs false
set_option maxRecDepth 100000
abbrev RP (b : Nat) : Value := .pointer (some ⟨b, 0, none⟩)
theorem rev_emb (w : World) (b f : Nat) (sv : Value) (nm : String) (h : w.cell? ⟨b, 0, none⟩ = some (.iface 94 sv))
    (hm : (((Tryz.prog.info? 110).bind fun i => i.methods.find? (·.name == nm)).map fun m => (m.path, m.func)) = some (#[⟨112, 0, true⟩], none))
    (hi : Sem.run Tryz.prog (method (Tryz.prog.types.size + 99) 94 sv nm) w = .ok (f, sv) w) :
    Sem.run Tryz.prog (method (Tryz.prog.types.size + 100) 110 (RP b) nm) w = .ok (f, sv) w := by
  obtain ⟨m, hm1, hm2⟩ := Option.map_eq_some_iff.1 hm
  obtain ⟨i, hi', hm'⟩ := Option.bind_eq_some_iff.1 hm1
  have hpa : m.path = #[⟨112, 0, true⟩] := congrArg Prod.fst hm2
  have hfu : m.func = none := congrArg Prod.snd hm2
  have u := run_underlying Tryz.underlying112
  unfold method
  have hl : Sem.run Tryz.prog (Sem.load Mode.plain ({ block := b, off := 0 } : Addr) Sem.pure) w = .ok (.iface 94 sv) w := by
    simp [Sem.run, h]
  simp [typeInfo, hi', hm', hpa, hfu, follow, Place.get, u, asAddr, loadVar, isAgg, load, h, fieldPlace]
  rw [show ({ block := b, off := 0 } : Addr).add 0 = { block := b, off := 0 } from rfl, hl]
  exact hi
theorem rev_less (w : World) (b : Nat) (sv : Value) (h : w.cell? ⟨b, 0, none⟩ = some (.iface 94 sv)) :
    Sem.run Tryz.prog (method (Tryz.prog.types.size + 100) 110 (RP b) "Less") w = .ok (132, .agg #[.iface 94 sv]) w := by
  have hm : (((Tryz.prog.info? 110).bind fun i => i.methods.find? (·.name == "Less")).map fun m => (m.path, m.func)) = some (#[], some (132, false)) := by kernel_rfl
  obtain ⟨m, hm1, hm2⟩ := Option.map_eq_some_iff.1 hm
  obtain ⟨i, hi', hm'⟩ := Option.bind_eq_some_iff.1 hm1
  have hpa : m.path = #[] := congrArg Prod.fst hm2
  have hfu : m.func = some (132, false) := congrArg Prod.snd hm2
  have u := run_underlying Tryz.underlying110
  have u2 := run_underlying Tryz.underlying112
  unfold method
  have hlv : Sem.run Tryz.prog (loadVar 112 ⟨b, 0, none⟩) w = .ok (.agg #[.iface 94 sv]) w := by
    have a1 := Tryz.isAgg112
    have a2 := Tryz.sizeOf112
    have hl : Sem.run Tryz.prog (Sem.load Mode.plain ({ block := b, off := 0 } : Addr) Sem.pure) w = .ok (.iface 94 sv) w := by
      simp [Sem.run, h]
    unfold loadVar loadCells
    simp [a1, a2, loadCellsFrom, load]
    rw [show ({ block := b, off := 0 } : Addr).add 0 = { block := b, off := 0 } from rfl, hl]
    rfl
  have hk : ∀ (x y : ByteArray) (w : World), Sem.run Tryz.prog (Builtin.ssaWrapNilChk_ #[110] 110 #[RP b, .string x, .string y]) w = .ok (RP b) w := fun _ _ _ => rfl
  have hf : Sem.run Tryz.prog (follow [] 110 (Place.val (RP b))) w = .ok (110, Place.val (RP b)) w := rfl
  have hr : ∀ x, Sem.run Tryz.prog (receiverAt 110 (Place.val (RP b)) false (some x)) w = .ok (.agg #[.iface 94 sv]) w := by
    intro x
    unfold receiverAt
    simp [u, Place.get, strVal, hk, asAddr, hlv]
  simp [typeInfo, hi', hm', hpa, hfu, hf, hr]
open Go.Lib Go.Sort
set_option maxHeartbeats 4000000
abbrev SV (blk off n c : Nat) : Value := .slice (some ⟨blk, off, none⟩) n c
theorem is_len (blk off n c : Nat) (w : World) : Sem.run Tryz.prog (method (Tryz.prog.types.size + 99) 94 (SV blk off n c) "Len") w = .ok (128, SV blk off n c) w := by kernel_rfl
theorem is_swap (blk off n c : Nat) (w : World) : Sem.run Tryz.prog (method (Tryz.prog.types.size + 99) 94 (SV blk off n c) "Swap") w = .ok (131, SV blk off n c) w := by kernel_rfl
theorem is_less (blk off n c : Nat) (w : World) : Sem.run Tryz.prog (method (Tryz.prog.types.size + 100) 94 (SV blk off n c) "Less") w = .ok (129, SV blk off n c) w := by kernel_rfl
theorem isl_Less (blk off c size : Nat) (W : World) (G : Nat → Int) (hc : ∀ t, t < size → W.cell? ⟨blk, off + t, none⟩ = some (.int .i64 (G t))) (i j : Nat) (hi : i < size) (hj : j < size) (_hsz : size < 4611686018427387904) :
    Calls Tryz.prog 129 #[SV blk off size c, .int .i64 i, .int .i64 j] W fun e w' => e = .returned (.bool (decide (G i < G j))) ∧ ∃ q, w' = W.drewN q := by
  have ci := hc i hi
  have cj := hc j hj
  go_enter Tryz.func129, Tryz.ntmps129
  go_wp2
  go_quiet (fail)
  go_wp2
  go_ret
  exact ⟨rfl, nq, rfl⟩
theorem isl_Swap (blk off c size : Nat) (W : World) (x y : Int) (i j : Nat) (hi : i < size) (hj : j < size) (_hsz : size < 4611686018427387904)
    (ci : W.cell? ⟨blk, off + i, none⟩ = some (.int .i64 x)) (cj : W.cell? ⟨blk, off + j, none⟩ = some (.int .i64 y)) (fi : W.frozen? ⟨blk, off + i, none⟩ = false) (fj : W.frozen? ⟨blk, off + j, none⟩ = false) :
    Calls Tryz.prog 131 #[SV blk off size c, .int .i64 i, .int .i64 j] W fun e w' => e = .returned (.tuple #[]) ∧ ∃ q, w' = ((W.setCell ⟨blk, off + i, none⟩ (.int .i64 y)).setCell ⟨blk, off + j, none⟩ (.int .i64 x)).drewN q := by
  obtain ⟨v', hy'⟩ := cell?_setCell_some (w := W) (p := ⟨blk, off + i, none⟩) (x := .int .i64 y) (q := ⟨blk, off + j, none⟩) cj
  go_enter Tryz.func131, Tryz.ntmps131
  go_wp2
  go_region
  all_goals (try go_wp2)
  all_goals go_end0
  all_goals exact ⟨rfl, 1, rfl⟩
theorem isl_Len (blk off c size : Nat) (W : World) : Calls Tryz.prog 128 #[SV blk off size c] W fun e w' => e = .returned (.int .i64 size) ∧ w' = W := by
  go_enter Tryz.func128, Tryz.ntmps128
  go_wp2
  go_ret
  exact ⟨rfl, rfl⟩
theorem rev_Less (blk off c size : Nat) (W : World) (G : Nat → Int) (hc : ∀ t, t < size → W.cell? ⟨blk, off + t, none⟩ = some (.int .i64 (G t))) (hb : blk < W.heap.size) (i j : Nat) (hi : i < size) (hj : j < size) (hsz : size < 4611686018427387904) :
    Calls Tryz.prog 132 #[.agg #[.iface 94 (SV blk off size c)], .int .i64 i, .int .i64 j] W fun e w' => e = .returned (.bool (decide (G j < G i))) ∧ ∃ o q, w' = (W.alloc o).drewN q := by
  have mL := is_less blk off size c
  have eL : ∀ args w, (callFunc 129 args).run Tryz.prog w = .ok (.enter 129 args) w := enters_of Tryz.func129 (by kernel_rfl) rfl
  simp at mL
  have hl : ∀ o, Calls Tryz.prog 129 #[SV blk off size c, .int .i64 j, .int .i64 i] (W.alloc o) fun e w' => e = .returned (.bool (decide (G j < G i))) ∧ ∃ q, w' = (W.alloc o).drewN q := fun o =>
    isl_Less blk off c size _ G (fun t ht => (Below.cell (Up.al o (Up.rfl' W)) (p := ⟨blk, off + t, none⟩) hb).trans (hc t ht)) j i hj hi hsz
  go_enter Tryz.func132, Tryz.ntmps132
  go_wp2_with (go_at_fn 129; refine (hl _).mono ?_; rintro e w' ⟨rfl, q, rfl⟩)
  go_ret
  exact ⟨rfl, _, q, rfl⟩
theorem SW.cellO {w0 W : World} {blk off : Nat} {dk : Array Int} (h : SW (Value.int .i64) w0 blk off dk W) {b o : Nat} (hb : b < w0.heap.size) (hne : b ≠ blk) : W.cell? ⟨b, o, none⟩ = w0.cell? ⟨b, o, none⟩ := by
  obtain ⟨n, os, rfl⟩ := h
  unfold sortWorld
  rw [cell?_grow _ _ _ (by simpa using hb), cell?_putRow_other _ _ _ _ _ _ (.inl hne)]
  rfl
def gtI (x y : Int) : Bool := decide (y < x)
theorem insSort (blk off c b bR : Nat) (d : Array Int) (w : World) (hH : Holds (Value.int .i64) w blk off d) (hblk : blk < w.heap.size) (hR : w.cell? ⟨bR, 0, none⟩ = some (.iface 94 (SV blk off d.size c))) (hRb : bR < w.heap.size) (hne : bR ≠ blk)
    (hab : 0 ≤ b) (hb : b ≤ d.size) (hsz : d.size < 4611686018427387904) :
    Calls Tryz.prog 94 #[.iface 110 (RP bR), .int .i64 0, .int .i64 b] w fun e w' => e = .returned (.tuple #[]) ∧ SW (Value.int .i64) w blk off (Sort.insertionSort gtI d 0 b) w' := by
  have eL : ∀ args w, (callFunc 132 args).run Tryz.prog w = .ok (.enter 132 args) w := enters_of Tryz.func132 (by kernel_rfl) rfl
  have eS : ∀ args w, (callFunc 131 args).run Tryz.prog w = .ok (.enter 131 args) w := enters_of Tryz.func131 (by kernel_rfl) rfl
  go_enter Tryz.func94, Tryz.ntmps94
  go_wp2
  go_loopw [6] (fun vi wr => ∃ (i : Nat) (dk : Array Int), vi = .int .i64 i ∧ 0 < i ∧ i ≤ b + 1 ∧ dk.size = d.size ∧ SW (Value.int .i64) w blk off dk wr ∧
      insOuter gtI 0 b i dk = insOuter gtI 0 b (0 + 1) d) (fun vi _ => b + 1 - (intOf vi).toNat)
  case atStart => exact ⟨1, d, by go_num, by omega, by omega, rfl, SW.start hH, rfl⟩
  case round =>
    obtain ⟨i, dk, rfl, hai, hib, hsk, hwr, hO⟩ := hrel
    have HO : Hid (insOuter gtI 0 b i dk = insOuter gtI 0 b (0 + 1) d) := hO
    clear hO
    go_wp2
    · go_loopw [7] (fun vj wr2 => ∃ (j : Nat) (dj : Array Int), vj = .int .i64 j ∧ j ≤ i ∧ dj.size = d.size ∧ SW (Value.int .i64) w blk off dj wr2 ∧
          insInner gtI 0 j dj = insInner gtI 0 i dk) (fun vj _ => (intOf vj).toNat)
      case atStart => exact ⟨i, dk, rfl, Nat.le_refl _, hsk, hwr, rfl⟩
      case round =>
        obtain ⟨j, dj, rfl, hji, hsj, hw2, hI⟩ := hrel
        have hlt : i < b := by assumption
        have HW : Hid (SW (Value.int .i64) w blk off dj wr) := hw2
        have HI : Hid (insInner gtI 0 j dj = insInner gtI 0 i dk) := hI
        have hHj := hw2.holds hblk hH hsj
        have hbw := hw2.lt hblk
        have hRw : wr.cell? ⟨bR, 0, none⟩ = some (.iface 94 (SV blk off d.size c)) := (SW.cellO hw2 hRb hne).trans hR
        clear hw2 hI
        have out : (j ≤ 0 ∨ gtI dj[j]! dj[j - 1]! = false) → ∀ W, SW (Value.int .i64) w blk off dj W → ∃ (i' : Nat) (dk' : Array Int), Value.int .i64 ((i : Int) + 1) = .int .i64 (i' : Nat) ∧ 0 < i' ∧ i' ≤ b + 1 ∧ dk'.size = d.size ∧
            SW (Value.int .i64) w blk off dk' W ∧ insOuter gtI 0 b i' dk' = insOuter gtI 0 b (0 + 1) d := fun hs W hW =>
          ⟨i + 1, dj, by go_num, by omega, by omega, hsj, hW,
            by rw [← HO.out, insOuter_go _ _ _ _ _ hlt, ← HI.out, insInner_stop _ _ _ _ hs]⟩
        have OUT : Hid _ := out
        clear out
        by_cases hja : 0 < j
        · have mL := rev_less wr bR _ hRw
          simp at mL
          have hl := rev_Less blk off c d.size wr (fun t => dj[t]!) (fun t ht => (hHj t (by omega)).1) hbw j (j - 1) (by omega) (by omega) hsz
          rw [show (((j - 1 : Nat) : Int)) = (j : Int) - 1 by omega] at hl
          have W2 : Hid (∀ o q, SW (Value.int .i64) w blk off dj ((wr.alloc o).drewN q)) := fun o q => (HW.out.alloc o).drewN q
          have mS : ∀ o q, Sem.run Tryz.prog (method (Tryz.prog.types.size + 100) 110 (RP bR) "Swap") ((wr.alloc o).drewN q) = .ok (131, SV blk off d.size c) ((wr.alloc o).drewN q) := fun o q =>
            rev_emb ((wr.alloc o).drewN q) bR 131 (SV blk off d.size c) "Swap" ((SW.cellO (W2.out o q) hRb hne).trans hR) (by kernel_rfl) (is_swap _ _ _ _ _)
          simp at mS
          have hsw : ∀ o q, Calls Tryz.prog 131 #[SV blk off d.size c, .int .i64 j, .int .i64 ((j - 1 : Nat) : Int)] ((wr.alloc o).drewN q) fun e w' => e = .returned (.tuple #[]) ∧ SW (Value.int .i64) w blk off (swp dj j (j - 1)) w' := fun o q => by
            have hh := (W2.out o q).holds hblk hH hsj
            refine (isl_Swap blk off c d.size _ _ _ j (j - 1) (by omega) (by omega) hsz (hh j (by omega)).1 (hh (j - 1) (by omega)).1 (hh j (by omega)).2 (hh (j - 1) (by omega)).2).mono ?_
            rintro e w' ⟨rfl, q', rfl⟩
            exact ⟨rfl, ((W2.out o q).swap hblk j (j - 1) (by omega) (by omega)).drewN q'⟩
          rw [show (((j - 1 : Nat) : Int)) = (j : Int) - 1 by omega] at hsw
          change Calls _ _ _ _ fun e w' => e = .returned (.bool (gtI dj[j]! dj[j - 1]!)) ∧ _ at hl
          cases hlv : gtI dj[j]! dj[j - 1]! with
          | true =>
            rw [hlv] at hl
            go_wp2_with (first
              | (go_at_fn 132; refine hl.mono ?_; rintro e w' ⟨rfl, o, q, rfl⟩)
              | (go_at_fn 131; refine (hsw _ _).mono ?_; rintro e w' ⟨rfl, hS⟩))
            go_roundw
            case rel =>
              (repeat apply Exists.intro)
              refine ⟨⟨j - 1, swp dj j (j - 1), by congr 1 <;> omega, by omega, by rw [size_swp]; exact hsj, hS, ?_⟩, by rw [decide_eq_true hlt, show ((j - 1 : Nat) : Int) = (j : Int) - 1 by omega]⟩
              rw [← HI.out, insInner_go gtI 0 j dj hja hlv]
            case measure => simp [intOf]; omega
          | false =>
            rw [hlv] at hl
            go_wp2_with (go_at_fn 132; refine hl.mono ?_; rintro e w' ⟨rfl, o, q, rfl⟩)
            go_roundw
            case rel => exact OUT.out (Or.inr hlv) _ (W2.out o q)
            case measure => simp [intOf]; omega
        · go_wp2
          go_roundw
          case rel => exact OUT.out (Or.inl (by omega)) _ HW.out
          case measure => simp [intOf]; omega
    · have hge : ¬ i < b := by assumption
      go_end0
      exact ⟨rfl, by unfold Sort.insertionSort; rw [← HO.out, insOuter_stop _ _ _ _ _ hge]; exact hwr⟩
end Go.Proofs.YtooikkfldddjfaaGreatDoor

/- sort.Sort over sort.Reverse at three integers; impl.SortSides. -/
namespace Go.Proofs.YtooikkfldddjfaaGreatDoor
set_option maxRecDepth 10000
open Go.RowKit Go.Lib Go.Sort
set_option linter.unusedVariables false
set_option linter.unusedSimpArgs false
set_option maxRecDepth 100000
set_option maxHeartbeats 4000000
theorem pdq3 (blk off c lim bR : Nat) (d : Array Int) (w : World) (hH : Holds (Value.int .i64) w blk off d) (hblk : blk < w.heap.size) (hd : d.size = 3) (hR : w.cell? ⟨bR, 0, none⟩ = some (.iface 94 (SV blk off d.size c))) (hRb : bR < w.heap.size) (hne : bR ≠ blk) :
    Calls Tryz.prog 83 #[.iface 110 (RP bR), .int .i64 0, .int .i64 3, .int .i64 lim] w fun e w' => e = .returned (.tuple #[]) ∧ SW (Value.int .i64) w blk off (Sort.insertionSort gtI d 0 3) w' := by
  have hi := insSort blk off c 3 bR d w hH hblk hR hRb hne (by omega) (by omega) (by omega)
  rw [show ((3 : Nat) : Int) = 3 from rfl] at hi
  clear hH hR
  go_enter Tryz.func83, Tryz.ntmps83
  go_wp2
  go_loopw [1, 2] (fun v1 v2 wr => v1 = .int .i64 0 ∧ v2 = .int .i64 3 ∧ wr = w) (fun _ _ _ => 0)
  case atStart => exact ⟨rfl, rfl, rfl⟩
  case round =>
    obtain ⟨rfl, rfl, rfl⟩ := hrel
    go_wp2_with (go_at_call 94; refine hi.mono ?_; rintro e w' ⟨rfl, hS⟩)
    (try simp only [Exit.inBlock, Exit.then])
    refine bodyPost_ret (results_none rfl _ _ _) rfl ?_
    exact ⟨rfl, hS⟩
theorem sortRev3 (blk off c bR : Nat) (d : Array Int) (w : World) (hH : Holds (Value.int .i64) w blk off d) (hblk : blk < w.heap.size) (hd : d.size = 3) (hR : w.cell? ⟨bR, 0, none⟩ = some (.iface 94 (SV blk off d.size c))) (hRb : bR < w.heap.size) (hne : bR ≠ blk) :
    Calls Tryz.prog 71 #[.iface 110 (RP bR)] w fun e w' => e = .returned (.tuple #[]) ∧ SW (Value.int .i64) w blk off (Sort.insertionSort gtI d 0 3) w' := by
  have mN := rev_emb w bR 128 (SV blk off d.size c) "Len" hR (by kernel_rfl) (is_len _ _ _ _ _)
  simp at mN
  have eN : ∀ args w, (callFunc 128 args).run Tryz.prog w = .ok (.enter 128 args) w := enters_of Tryz.func128 (by kernel_rfl) rfl
  have hN := isl_Len blk off c d.size w
  have hL := Tryz.bits_Len 3 w (by omega) (by omega)
  have hp := fun lim => pdq3 blk off c lim bR d w hH hblk hd hR hRb hne
  rw [hd] at mN hN
  rw [show ((3 : Nat) : Int) = 3 from rfl] at hN
  clear hH hR
  go_enter Tryz.func71, Tryz.ntmps71
  go_wp2_with (first
    | (go_at_fn 128; refine hN.mono ?_; rintro e w' ⟨rfl, rfl⟩)
    | (go_at_call 82; refine hL.mono ?_; rintro e w' ⟨rfl, rfl⟩)
    | (go_at_call 83; refine (hp _).mono ?_; rintro e w' ⟨rfl, hS⟩))
  all_goals first
    | (exfalso; omega)
    | (go_end0; exact ⟨rfl, hS⟩)
end Go.Proofs.YtooikkfldddjfaaGreatDoor

/- append onto a slice of the call's own, the source any slice that reads as_ a list. No program in sight. -/
namespace Go.Proofs.YtooikkfldddjfaaGreatDoor
set_option maxRecDepth 10000
open Go.RowKit

/-- The facts on a slice type and its element type that append asks. -/
structure ElT (P : Program) (t e : TypeId) (k bytes : Nat) : Prop where
  ht : P.underlying t = some (.slice e)
  info : ∃ i z, P.info? e = some i ∧ i.zero = some z ∧ i.size = k ∧ i.bytes = bytes ∧ z.cells.size = k
theorem ElT.mk' {P : Program} {t e : TypeId} {k bytes : Nat} {z : Value} (ht : P.underlying t = some (.slice e)) (h : (P.info? e).map (fun i => (i.zero, i.size, i.bytes)) = some (some z, k, bytes)) (hz : z.cells.size = k) : ElT P t e k bytes := by
  obtain ⟨i, h1, h2, h3, h4⟩ := info_parts h
  exact ⟨ht, i, z, h1, h2, h3, h4, hz⟩

theorem Own.form {α : Type} [Enc α] {w : World} {B E : Nat} {v : Value} {xs : List α} (h : Own w B E v xs) : ∃ A c, v = .slice A xs.length c ∧ xs.length ≤ c ∧ c ≤ maxLen := by
  rcases h.2 with ⟨hv, h0⟩ | ⟨g, cap, cur, hv, _, _, hnc, hcm, _⟩
  · exact ⟨none, 0, by rw [hv, h0], by omega, by unfold maxLen; omega⟩
  · exact ⟨_, cap, hv, hnc, hcm⟩
theorem Own.nil_ {α : Type} [Enc α] (w : World) (B E : Nat) : Own w B E (.slice none 0 0) ([] : List α) := World.ownsRow_nil _ _ _ _
theorem Own.empty {α : Type} [Enc α] (w : World) (B E c : Nat) (cur : Array Value) (hB : B ≤ w.heap.size) (hm : c ≤ maxLen) (hs : cur.size = c * Enc.k α) :
    Own (w.alloc (.cells cur E)) B E (.slice (some ⟨w.heap.size, 0, none⟩) 0 c) ([] : List α) := World.ownsRow_made w cur c hB hm hs
theorem Own.more {α : Type} [Enc α] {w : World} {B B' E : Nat} {v : Value} {xs : List α} (h : Own w B E v xs) (hB : B' ≤ B) : Own w B' E v xs := by
  refine ⟨h.1, ?_⟩
  rcases h.2 with h2 | ⟨g, cap, cur, hv, hb, r⟩
  · exact .inl h2
  · exact .inr ⟨g, cap, cur, hv, by omega, r⟩
theorem Own.down {α : Type} [Enc α] {w0 W w : World} {E : Nat} {v : Value} {xs : List α} (h : Own w W.heap.size E v xs) (hu : Up w0 W) : Own w w0.heap.size E v xs := h.more hu.size
theorem Up.le {w0 w : World} (h : Up w0 w) : w0.heap.size ≤ w.heap.size := h.size
theorem Own.grown {α : Type} [Enc α] {w w' : World} {B E : Nat} {v : Value} {xs : List α} {row : Option Nat} (h : Own w B E v xs) (hg : w.grownBy w' row) (hne : v.ownBlock = none ∨ v.ownBlock ≠ row) : Own w' B E v xs :=
  World.ownsRow.kept h hg hne
/-- A fresh slice of one element, as_ append's last argument is laid. -/
theorem Rd.one {α : Type} [Enc α] (w : World) (T : TypeId) (x : α) (B : Nat) (hB : w.heap.size < B) : Rd (w.alloc (.cells (Enc.cells x).toArray T)) B (some ⟨w.heap.size, 0, none⟩) [x] := by
  intro _
  refine ⟨w.heap.size, 0, rfl, hB, fun j u hu => ?_⟩
  rw [flat_one] at hu
  rw [Nat.zero_add, cell_of_row _ _ j _ T (0, 0) (heap_alloc_new w _)]
  simpa using hu

/-- The row at a block, as_ a loop that writes into it sees it: its first m cells are ys's. -/
def Marking (w0 w : World) (B E k : Nat) (g n cap m : Nat) (ys : List Value) : Prop :=
  ∃ cs : List Value, w.ownsRow B E k (.slice (some ⟨g, 0, none⟩) n cap) n cs ∧ cs.take m = ys.take m ∧ w0.grownBy w (some g)
theorem Marking.start {w : World} {B E k g n cap : Nat} {cs ys : List Value} (h : w.ownsRow B E k (.slice (some ⟨g, 0, none⟩) n cap) n cs) : Marking w w B E k g n cap 0 ys :=
  ⟨cs, h, by simp, ⟨rfl, rfl, rfl, Nat.le_refl _, fun _ _ _ => rfl⟩⟩
theorem Marking.cell {w0 w : World} {B E k g n cap m : Nat} {ys : List Value} (h : Marking w0 w B E k g n cap m ys) {j : Nat} (hj : j < n * k) : ∃ u, w.cell? ⟨g, j, none⟩ = some u := by
  obtain ⟨cs, ho, _⟩ := h
  have hl : cs.length = n * k := ho.1
  exact ⟨cs[j]'(by omega), by rw [ho.cellAt j hj]; exact List.getElem?_eq_getElem _⟩
theorem Marking.frozen {w0 w : World} {B E k g n cap m : Nat} {ys : List Value} (h : Marking w0 w B E k g n cap m ys) (j : Nat) : w.frozen? ⟨g, j, none⟩ = false := by
  obtain ⟨cs, ho, _⟩ := h
  exact ho.frozenAt j
theorem grownBy_trans {a b c : World} {row : Option Nat} (h : a.grownBy b row) (k : b.grownBy c row) : a.grownBy c row :=
  ⟨k.os.trans h.os, k.tape.trans h.tape, k.output.trans h.output, Nat.le_trans h.size k.size, fun i hi hne => (k.block i (Nat.lt_of_lt_of_le hi h.size) hne).trans (h.block i hi hne)⟩
theorem Marking.set1 {w0 w : World} {B E k g n cap m : Nat} {ys : List Value} {v : Value} (h : Marking w0 w B E k g n cap m ys) (hm : m < n * k) (hy : ys[m]? = some v) :
    Marking w0 (w.setCell ⟨g, m, none⟩ v) B E k g n cap (m + 1) ys := by
  obtain ⟨cs, ho, ht, hg⟩ := h
  have hl : cs.length = n * k := ho.1
  obtain ⟨h1, h2⟩ := ho.stored m v
  exact ⟨cs.set m v, h1, take_set_succ (by omega) hy ht, grownBy_trans hg h2⟩
theorem Marking.drewN {w0 w : World} {B E k g n cap m : Nat} {ys : List Value} (h : Marking w0 w B E k g n cap m ys) (q : Nat) : Marking w0 (w.drewN q) B E k g n cap m ys := by
  obtain ⟨cs, ho, ht, hg⟩ := h
  exact ⟨cs, ho, ht, ⟨hg.os, hg.tape, hg.output, hg.size, hg.block⟩⟩
theorem Marking.own {α : Type} [Enc α] {w0 w : World} {B E g n cap : Nat} {ys : List α} (h : Marking w0 w B E (Enc.k α) g n cap (n * Enc.k α) (flat ys)) (hn : ys.length = n) : Own w B E (.slice (some ⟨g, 0, none⟩) n cap) ys ∧ w0.grownBy w (some g) := by
  obtain ⟨cs, ho, ht, hg⟩ := h
  have hl : cs.length = n * Enc.k α := ho.1
  have e1 : (flat ys).take (n * Enc.k α) = flat ys := List.take_of_length_le (by rw [flat_len, hn]; exact Nat.le_refl _)
  rw [e1, List.take_of_length_le (by omega)] at ht
  subst ht
  refine ⟨?_, hg⟩
  unfold Own
  rw [hn]
  exact ho
theorem Own.sep1 {α β : Type} [Enc α] [Enc β] {w w' we : World} {B E Bx Ex : Nat} {v vx : Value} {xs : List α} {ys : List β} (hv : Own w B E v xs) (hx : Own we Bx Ex vx ys) (hle : we.heap.size ≤ B) (hg : w.grownBy w' vx.ownBlock) : Own w' B E v xs := by
  refine hv.grown hg ?_
  cases hb : v.ownBlock with
  | none => exact .inl rfl
  | some k =>
    refine .inr fun e => ?_
    have h1 := (World.ownsRow.lt hv k hb).1
    have h2 := (World.ownsRow.lt hx k e.symm).2
    omega
theorem Own.sep2 {α β : Type} [Enc α] [Enc β] {w w' we : World} {B B' E Bx Ex : Nat} {v vx : Value} {xs xs' : List α} {ys : List β} (hv : Own w B E v xs) (hv0 : Own we B' E v xs') (hx : Own w Bx Ex vx ys) (hle : we.heap.size ≤ Bx) (hg : w.grownBy w' vx.ownBlock) : Own w' B E v xs := by
  refine hv.grown hg ?_
  cases hb : v.ownBlock with
  | none => exact .inl rfl
  | some k =>
    refine .inr fun e => ?_
    have h1 := (World.ownsRow.lt hv0 k hb).2
    have h2 := (World.ownsRow.lt hx k e.symm).1
    omega
theorem addr_add (b o j : Nat) : (⟨b, o, none⟩ : Addr).add j = ⟨b, o + j, none⟩ := by unfold Addr.add; split <;> simp_all

theorem run_append_nil_src {α : Type} [Enc α] {P : Program} (w : World) {t ty e : Nat} {i : TypeInfo} (ht : P.underlying t = some (.slice e)) (hi : P.info? e = some i) {base : Nat} {v : Value} {ys : List α} (hown : Own w base e v ys) (c : Nat) :
    (Builtin.append_ #[t, t] ty #[v, .slice none 0 c]).run P w = .ok v w := by
  rcases hown.2 with ⟨rfl, h0⟩ | ⟨g, cap, cur, rfl, _, _, hnc, _⟩
  · simp [Builtin.append_, run_underlying ht, sizeOf, typeInfo, hi, Builtin.lenOf, Builtin.firstCells]
  · simp [Builtin.append_, run_underlying ht, sizeOf, typeInfo, hi, Builtin.lenOf, Builtin.firstCells, hnc, storeCells]
theorem run_append_rd {α : Type} [Enc α] {P : Program} (w : World) {t ty e bytes : Nat} (T : ElT P t e (Enc.k α) bytes) {base : Nat} {v : Value} {ys : List α} (hown : Own w base e v ys)
    {B : Nat} {A : Option Addr} {c : Nat} {xs : List α} (hr : Rd w B A xs) (hbytes : (ys.length + xs.length) * bytes ≤ 140737488355328) (h63 : ys.length + xs.length ≤ maxLen) (hbase : base ≤ w.heap.size) :
    ∃ v' w', (Builtin.append_ #[t, t] ty #[v, .slice A xs.length c]).run P w = .ok v' w' ∧ Own w' base e v' (ys ++ xs) ∧ w.grownBy w' v.ownBlock ∧ (v'.ownBlock = v.ownBlock ∨ v'.ownBlock = some w.heap.size) := by
  obtain ⟨i, z, hi, hz, hs, hb, hzs⟩ := T.info
  cases A with
  | none =>
    have hx : xs = [] := by
      rcases Classical.em (xs = []) with h | h
      · exact h
      · obtain ⟨_, _, h', _⟩ := hr h
        cases h'
    subst hx
    have hrun := run_append_nil_src (P := P) w (ty := ty) T.ht hi hown c
    exact ⟨v, w, by simpa using hrun, by simpa using hown, ⟨rfl, rfl, rfl, Nat.le_refl _, fun _ _ _ => rfl⟩, .inl rfl⟩
  | some ad =>
    have hnews : ∀ j u, (flat xs)[j]? = some u → w.cell? (ad.add j) = some u := by
      intro j u hu
      have hne : xs ≠ [] := by rintro rfl; simp [flat] at hu
      obtain ⟨b, off, hA', _, hc⟩ := hr hne
      injection hA' with hA'
      subst hA'
      rw [addr_add]
      exact hc j u hu
    obtain ⟨v', w', hrun, h2, h3, _, h5⟩ := run_append_own_at (P := P) w base t ty e i z (Enc.k α) bytes T.ht hi hz hs hb hzs Enc.pos v ys.length (flat ys) hown ad xs.length c (flat xs) (flat_len xs) hnews (flat_oneCell xs) h63 hbytes hbase
    refine ⟨v', w', hrun, ?_, h3, h5⟩
    have e1 : (ys ++ xs).length = ys.length + xs.length := List.length_append
    unfold Own
    rw [e1, flat_append]
    exact h2

theorem Up.grown' {α : Type} [Enc α] {w0 w w' : World} {base e : Nat} {v : Value} {ys : List α} (h : Up w0 w) (hg : w.grownBy w' v.ownBlock) (hown : Own w base e v ys) (hb : w0.heap.size ≤ base) : Up w0 w' :=
  Below.grown h hg h.size (fun k hk => Nat.le_trans hb (World.ownsRow.lt hown k hk).1)

theorem wp_append_rd {α : Type} [Enc α] {P : Program} {w : World} {o : Oper} {a : Act} {K : Act → World → Prop} {Q : Exit → Act → World → Prop} {t e bytes : Nat} (T : ElT P t e (Enc.k α) bytes)
    (s x : Operand) (ho : o.op = .call { callee := .builtin .append, args := #[s, x], argTypes := #[t, t] })
    {base : Nat} {v : Value} {ys : List α} (hs : a.eval s = v) (hown : Own w base e v ys)
    {B : Nat} {A : Option Addr} {c : Nat} {xs : List α} (n : Nat) (hx : a.eval x = .slice A n c) (hn : n = xs.length) (hr : Rd w B A xs)
    (hbytes : (ys.length + xs.length) * bytes ≤ 140737488355328) (h63 : ys.length + xs.length ≤ maxLen) (hbase : base ≤ w.heap.size)
    (h : ∀ v' w', Own w' base e v' (ys ++ xs) → w.grownBy w' v.ownBlock → (v'.ownBlock = v.ownBlock ∨ v'.ownBlock = some w.heap.size) → (∀ w0, w0.heap.size ≤ base → Up w0 w → Up w0 w') → K (a.put o.dst v') w') :
    o.wp P a w K Q := by
  subst hn
  obtain ⟨v', w', hrun, h2, h3, h4⟩ := run_append_rd (P := P) w (ty := o.type) (c := c) T hown hr hbytes h63 hbase
  unfold Oper.wp execOp
  simp only [ho, resolve, invoke, builtin, Sem.run_bind, Sem.run_pure, Result.andThen_ok, List.map_toArray, List.map_cons, List.map_nil, hs, hx, hrun]
  exact h v' w' h2 h3 h4 fun w0 hb hu => Up.grown' hu h3 hown hb
theorem wpList_append_rd {α : Type} [Enc α] {P : Program} {w : World} {ops : Array Oper} {rest : List Oper} {o : Oper} {a : Act} {Q : Exit → Act → World → Prop} {t e bytes : Nat} (T : ElT P t e (Enc.k α) bytes)
    (hgd : o.guard = none) (s x : Operand) (ho : o.op = .call { callee := .builtin .append, args := #[s, x], argTypes := #[t, t] })
    {base : Nat} {v : Value} {ys : List α} (hs : a.eval s = v) (hown : Own w base e v ys)
    {B : Nat} {A : Option Addr} {c : Nat} {xs : List α} (n : Nat) (hx : a.eval x = .slice A n c) (hn : n = xs.length) (hr : Rd w B A xs)
    (hbytes : (ys.length + xs.length) * bytes ≤ 140737488355328) (h63 : ys.length + xs.length ≤ maxLen) (hbase : base ≤ w.heap.size)
    (h : ∀ v' w', Own w' base e v' (ys ++ xs) → w.grownBy w' v.ownBlock → (v'.ownBlock = v.ownBlock ∨ v'.ownBlock = some w.heap.size) → (∀ w0, w0.heap.size ≤ base → Up w0 w → Up w0 w') → wpList P ops Q rest (a.put o.dst v') w') :
    wpList P ops Q (o :: rest) a w :=
  wpList_plain hgd fun _ hK => wp_append_rd T s x ho hs hown n hx hn hr hbytes h63 hbase fun v' w' h2 h3 h4 h5 => hK _ _ (h v' w' h2 h3 h4 h5)
theorem step_append_rd {α : Type} [Enc α] {P : Program} {w : World} {ops : Array Oper} {o : Oper} {a : Act} {K : Act → World → Prop} {Q : Exit → Act → World → Prop} {E : Prop} {t e bytes : Nat} (T : ElT P t e (Enc.k α) bytes)
    (hgd : o.guard = none) (s x : Operand) (ho : o.op = .call { callee := .builtin .append, args := #[s, x], argTypes := #[t, t] })
    {base : Nat} {v : Value} {ys : List α} (hs : a.eval s = v) (hown : Own w base e v ys)
    {B : Nat} {A : Option Addr} {c : Nat} {xs : List α} (n : Nat) (hx : a.eval x = .slice A n c) (hn : n = xs.length) (hr : Rd w B A xs)
    (hbytes : (ys.length + xs.length) * bytes ≤ 140737488355328) (h63 : ys.length + xs.length ≤ maxLen) (hbase : base ≤ w.heap.size)
    (h : ∀ v' w', Own w' base e v' (ys ++ xs) → w.grownBy w' v.ownBlock → (v'.ownBlock = v.ownBlock ∨ v'.ownBlock = some w.heap.size) → (∀ w0, w0.heap.size ≤ base → Up w0 w → Up w0 w') → K (a.put o.dst v') w') :
    if Region.wanted o (yielded ops a.tmps) = true then Oper.wp P o a w K Q else E := by
  rw [if_pos (by simp [Region.wanted, hgd])]
  exact wp_append_rd T s x ho hs hown n hx hn hr hbytes h63 hbase h
end Go.Proofs.YtooikkfldddjfaaGreatDoor

/- impl.SortSides at three sides, walked at a world. -/
namespace Go.Proofs.YtooikkfldddjfaaGreatDoor
set_option maxRecDepth 10000
open Go.RowKit Go.Lib Go.Sort
set_option linter.unusedVariables false
set_option linter.unusedSimpArgs false
set_option maxRecDepth 100000
set_option maxHeartbeats 4000000
theorem el_int3 : ElT Tryz.prog 24 3 (Enc.k Int) 8 := ElT.mk' (z := .int .i64 0) Tryz.underlying24 (by kernel_rfl) rfl
theorem flat_intsI (ls : List Int) : flat ls = ls.map (Value.int .i64) := by
  induction ls with
  | nil => rfl
  | cons x xs ih => rw [flat_cons, ih]; rfl
theorem own3 {w : World} {B : Nat} {v : Value} {xs : List Int} (h : Own w B 3 v xs) (hl : xs.length = 3) : ∃ g cap cur, v = .slice (some ⟨g, 0, none⟩) 3 cap ∧ B ≤ g ∧ w.heap[g]? = some (.cells cur 3 (0, 0)) ∧ 3 ≤ cap ∧ cap ≤ maxLen ∧ cur.size = cap * 1 ∧ cur.toList.take 3 = xs.map (Value.int .i64) := by
  rcases h.2 with ⟨_, h0⟩ | ⟨g, cap, cur, hv, hB, hg, hnc, hcm, hcs, ht⟩
  · omega
  · rw [hl] at hv hnc ht
    rw [flat_intsI] at ht
    exact ⟨g, cap, cur, hv, hB, hg, hnc, hcm, hcs, ht⟩
theorem rev_call (W : World) (sv : Value) : Calls Tryz.prog 72 #[.iface 94 sv] W fun e w' => e = .returned (.iface 110 (RP W.heap.size)) ∧ w' = W.alloc (.cells #[.iface 94 sv] 112) := by
  go_enter Tryz.func72, Tryz.ntmps72
  go_wp2
  go_ret
  exact ⟨rfl, rfl⟩
def srt3 (xs : List Int) : List Int := (Sort.insertionSort gtI xs.toArray 0 3).toList
theorem size_insInner (lt : Int → Int → Bool) (a : Nat) : ∀ (j : Nat) (d : Array Int), (insInner lt a j d).size = d.size
  | 0, d => rfl
  | j + 1, d => by
    unfold insInner
    split
    · rw [size_insInner lt a j, size_swp]
    · rfl
theorem size_insOuter (lt : Int → Int → Bool) (a b : Nat) : ∀ (n i : Nat) (d : Array Int), b - i ≤ n → (insOuter lt a b i d).size = d.size
  | 0, i, d, h => by rw [insOuter, if_neg (by omega)]
  | n + 1, i, d, h => by
    rw [insOuter]
    split
    · rw [size_insOuter lt a b n (i + 1) _ (by omega), size_insInner]
    · rfl
theorem srt3_len (xs : List Int) : (srt3 xs).length = xs.length := by
  unfold srt3 Sort.insertionSort
  rw [Array.length_toList, size_insOuter _ _ _ 3 _ _ (by omega)]
  simp
theorem sortSides_any (A : Option Addr) (xs : List Int) (c : Nat) (w : World) (hr : Rd w w.heap.size A xs) (hl : xs.length = 3) :
    Calls Tryz.prog 64 #[.slice A 3 c] w fun e w' => ∃ v, e = .returned v ∧ Own w' w.heap.size 3 v (srt3 xs) ∧ Up w w' := by
  go_enter Tryz.func64, Tryz.ntmps64
  go_wp2_with (at_builtin; refine wpList_append_rd el_int3 rfl (.tmp 4) (.tmp 5) rfl (base := w.heap.size) (ys := []) (by rfl) (Own.empty w _ _ 0 _ (Nat.le_refl _) (by unfold maxLen; omega) rfl) 3 (by rfl) hl.symm (hr.up (by (repeat (first | exact Up.rfl' _ | (refine Up.al _ ?_) | (refine Up.dr _ ?_) | (refine Up.dr1 ?_) | (refine Up.sc ?_ (by first | exact Nat.le_refl _ | (simp; done) | omega) _) | (refine Up.step (by assumption) ?_))))) (by simp; omega) (by unfold maxLen; simp; omega) (by first | (simp; done) | (simp; omega) | (have h_ := hB.size; omega) | (have h_ := hB.size; simp; omega)) ?_; intro v' w1 ho1 hg1 _ hu1; refine Hid.out ?_)
  refine Lib.hid ?_
  have ho : Own w1 w.heap.size 3 v' xs := by simpa using ho1
  have hu := hu1 w (Nat.le_refl _) (by (repeat (first | exact Up.rfl' _ | (refine Up.al _ ?_) | (refine Up.dr _ ?_) | (refine Up.dr1 ?_) | (refine Up.sc ?_ (by first | exact Nat.le_refl _ | (simp; done) | omega) _) | (refine Up.step (by assumption) ?_))))
  obtain ⟨g, cap, cur, rfl, hgB, hgh, h3, hcm, hcs, hct⟩ := own3 ho hl
  have hgl : g < w1.heap.size := (Array.getElem?_eq_some_iff.1 hgh).1
  have hRv := rev_call w1 (SV g 0 3 cap)
  have hg2 : ∀ o, (w1.alloc o).heap[g]? = some (.cells cur 3 (0, 0)) := fun o => (Below.block (Up.al o (Up.rfl' w1)) g hgl).trans hgh
  have hsz : ∀ o, (w1.alloc o).heap.size = w1.heap.size + 1 := fun o => by simp
  have hS : ∀ o, o = Obj.cells #[.iface 94 (SV g 0 3 cap)] 112 (0, 0) → _ := fun o ho => sortRev3 g 0 cap w1.heap.size xs.toArray (w1.alloc o) (holds_of_blockI (hg2 o) (by rw [hl]; exact hct)) (by rw [hsz]; omega) (by simp [hl]) (by subst ho; rw [cell_of_row _ _ 0 _ _ (0, 0) (heap_alloc_new w1 _)]; simp [hl]) (by rw [hsz]; omega) (by omega)
  have hS2 := hS _ rfl
  clear hS
  go_wp2_with (first
    | (go_at_call 72; refine hRv.mono ?_; rintro e w' ⟨rfl, rfl⟩)
    | (go_at_call 71; refine hS2.mono ?_; rintro e w' ⟨rfl, hSW⟩))
  go_ret
  obtain ⟨n, os, rfl⟩ := hSW
  have hlt : (srt3 xs).length = xs.length := srt3_len xs
  have hown := ownsRow_sortedI (n := n) (os := os) (ss := xs) (ts := srt3 xs) hlt hgB (hg2 (Obj.cells #[.iface 94 (SV g 0 3 cap)] 112 (0, 0))) (by omega) hcm hcs
  refine ⟨_, rfl, ?_, ?_⟩
  · unfold Own
    rw [hlt, flat_intsI]
    rw [hl] at hown ⊢
    unfold srt3 at hown ⊢
    exact hown
  · have hgr := grownBy_sortedI (w := w1.alloc (Obj.cells #[.iface 94 (SV g 0 3 cap)] 112 (0, 0))) (g := g) (n := n) (os := os) (Sort.insertionSort gtI xs.toArray 0 3)
    have hu2 := Up.al (Obj.cells #[.iface 94 (SV g 0 3 cap)] 112 (0, 0)) hu
    exact ⟨hgr.os.trans hu2.os, hgr.tape.trans hu2.tape, hgr.output.trans hu2.output, Nat.le_trans hu2.size hgr.size, fun b hb => (hgr.block b (Nat.lt_of_lt_of_le hb hu2.size) (by simp; omega)).trans (hu2.block b hb)⟩
end Go.Proofs.YtooikkfldddjfaaGreatDoor

/- A fresh row at a world, as_ the result of a contract in plain values. -/
namespace Go.Proofs.YtooikkfldddjfaaGreatDoor
set_option maxRecDepth 10000
open Go.RowKit
set_option linter.unusedVariables false
set_option linter.unusedSimpArgs false
/-- A fresh row of the call's own, as_ a result. -/
theorem ms_of_own {α : Type} [Enc α] {c : α → List PV} {T : TypeId} {S : Nat → Prop} {β : Nat → Option Blk} {w w' : World} {v : Value} {ys : List α} (hk : Ok w (own0 β) (E1 S β 0) w []) (ho : Own w' w.heap.size T v ys) (hu : Up w w')
    (hc : ∀ (x : α), (c x).length = Enc.k α ∧ ∀ (j : Nat) (p : PV), (c x)[j]? = some p → ∃ u, (Enc.cells x)[j]? = some u ∧ u.oneCell' = true ∧ ∀ (w : World) (E : Env), Rep w E p u) :
    ∃ E', Ok w (own0 β) E' w' [some ⟨T, Enc.k α, ys.map c⟩] ∧ (∀ b, S b → E'.S b) ∧ (∀ b, E'.S b → S b ∨ w.heap.size ≤ b ∨ own0 β b) ∧ (∀ l B, l < 0 → E'.β l = some B → β l = some B) ∧ Rep w' E' (.ms 0) v := by
  have hesl : ∀ (i : Nat) (cs : List PV), (ys.map c)[i]? = some cs → cs.length = Enc.k α := by
    intro i cs hi
    rw [List.getElem?_map] at hi
    obtain ⟨y, _, rfl⟩ := Option.map_eq_some_iff.1 hi
    exact (hc y).1
  have key : ∀ (B : Blk), v = B.sv → v.oneCell' = true → (B.z = false → w.heap.size ≤ B.b ∧ B.b < w'.heap.size) → (∀ E, BlkRep w' E ⟨T, Enc.k α, ys.map c⟩ B) →
      ∃ E', Ok w (own0 β) E' w' [some ⟨T, Enc.k α, ys.map c⟩] ∧ (∀ b, S b → E'.S b) ∧ (∀ b, E'.S b → S b ∨ w.heap.size ≤ b ∨ own0 β b) ∧ (∀ l B, l < 0 → E'.β l = some B → β l = some B) ∧ Rep w' E' (.ms 0) v := by
    intro B hv h1 hB hb
    obtain ⟨h2, _⟩ := hk.new (ν := 0) (fun h => absurd h (Nat.not_lt_zero 0)) ⟨T, Enc.k α, ys.map c⟩ B hu.os hu.tape hu.output hu.size (fun b hb => hu.block b hb) hB (fun _ => hb _)
    refine ⟨_, h2, fun b h => h, fun b h => .inl h, fun l B h => absurd h (Nat.not_lt_zero l), .ms 0 v (.inl rfl) h1 fun B' hB' => ?_⟩
    have : B' = B := by simpa [Env.add, eq_comm] using hB'
    rw [this]; exact hv
  rcases ho.2 with ⟨hv, h0⟩ | ⟨g, cap, cur, hv, hB, hg, hnc, hcm, hcs, ht⟩
  · have hy : ys = [] := List.length_eq_zero_iff.1 h0
    subst hy
    exact key ⟨0, 0, 0, Enc.k α, T, true⟩ (by rw [hv]; rfl) (by rw [hv]; rfl) (fun h => by cases h) fun E => ⟨rfl, rfl, rfl, Enc.pos, Nat.le_refl _, Nat.zero_le _, hesl, fun _ => rfl, fun h => by cases h⟩
  · refine key ⟨g, cap, ys.length, Enc.k α, T, false⟩ (by rw [hv]; rfl) (by rw [hv]; rfl) (fun _ => ⟨hB, (Array.getElem?_eq_some_iff.1 hg).1⟩) fun E => ⟨rfl, by simp, rfl, Enc.pos, hnc, hcm, hesl, (fun h => by cases h), fun _ => ⟨cur, hg, hcs, fun i cs j p hi hj => ?_⟩⟩
    rw [List.getElem?_map] at hi
    obtain ⟨y, hy, rfl⟩ := Option.map_eq_some_iff.1 hi
    obtain ⟨hl, hcc⟩ := hc y
    obtain ⟨u, hu1, hu2, hu3⟩ := hcc j p hj
    refine ⟨u, ?_, hu2, hu3 _ _⟩
    have hf := flat_at hy hu1
    have hlt := (List.getElem?_eq_some_iff.1 hf).1
    rw [flat_len] at hlt
    have := congrArg (fun l : List Value => l[i * Enc.k α + j]?) ht
    have h2 : (cur.toList.take (ys.length * Enc.k α))[i * Enc.k α + j]? = (flat ys)[i * Enc.k α + j]? := this
    rw [List.getElem?_take_of_lt hlt, Array.getElem?_toList, hf] at h2
    exact h2
end Go.Proofs.YtooikkfldddjfaaGreatDoor

/- impl.SortSides at three sides: its mirror (by hand), and that the code does just that. -/
namespace Go.Proofs.YtooikkfldddjfaaGreatDoor
set_option maxRecDepth 10000
open Go.RowKit Go.Lib
set_option linter.unusedVariables false
set_option linter.unusedSimpArgs false
def m_impl_SortSides (l : List Int) : Option (List Int) := if l.length = 3 then some (srt3 l) else none
theorem rd_ints {w : World} {S : Nat → Prop} {xs : List Int} {x : Value} (hsz : ∀ b, S b → b < w.heap.size) (h : RepC w S (.sl (xs.map cInt)) x) : ∃ A c, x = .slice A xs.length c ∧ xs.length ≤ c ∧ Rd w w.heap.size A xs := by
  generalize hq : PV.sl (xs.map cInt) = q at h
  cases h with
  | v x h => cases hq
  | ud => cases hq
  | un => cases hq
  | rp => cases hq
  | fn => cases hq
  | nil A c =>
    have : xs = [] := by simpa using hq
    exact ⟨A, c, by rw [this]; rfl, by rw [this]; simp, by rw [this]; exact Rd.nil_⟩
  | sl es b off k c u hS hkp hnc hm hes hcc h1 hrr =>
    obtain rfl : xs.map cInt = es := by simpa using hq
    refine ⟨_, c, by simp, by simpa using hnc, fun hne => ⟨b, off, rfl, hsz b hS, fun j u' hu' => ?_⟩⟩
    have hpos : 0 < xs.length := List.length_pos_iff.2 hne
    have hk1 : k = 1 := (hes 0 (cInt xs[0]) (by simp [hpos])).symm
    subst hk1
    rw [flat_intsI] at hu'
    rw [List.getElem?_map] at hu'
    obtain ⟨y, hy, rfl⟩ := Option.map_eq_some_iff.1 hu'
    have hj := (List.getElem?_eq_some_iff.1 hy).1
    have e1 : (xs.map cInt)[j]? = some (cInt y) := by rw [List.getElem?_map, hy]; rfl
    have hc := hcc j _ 0 (vi y) e1 rfl
    have hz := hrr j _ 0 (vi y) e1 rfl
    have hz' : u j 0 = .int .i64 y := by
      generalize hp : u j 0 = z at hz
      cases hz with
      | v _ _ => rfl
    rw [hz'] at hc
    rw [show off + j = off + j * 1 + 0 by omega]
    exact hc
theorem ok_impl_SortSides (l : List Int) {r : List Int} (H : m_impl_SortSides l = some r) : CallM Tryz.prog 64 [.sl (l.map cInt)] [] (.ms 0) [some ⟨3, 1, r.map cInt⟩] := by
  unfold m_impl_SortSides at H
  split at H
  case isFalse => cases H
  rename_i hl3
  obtain rfl := Option.some.inj H
  intro S β w vs hk hl ha
  obtain ⟨x, hx0, hr⟩ := ha 0 _ rfl
  have hv : vs = #[x] := by
    have h1 : vs.size = 1 := hl
    apply Array.ext (by simp [h1])
    intro i h2 h3
    have : i = 0 := by omega
    subst this
    have := (Array.getElem?_eq_some_iff.1 hx0).2
    simpa using this
  subst hv
  have hr0 : RepC w S (.sl (l.map cInt)) x := by cases hr with | c h => exact h
  obtain ⟨A, c, rfl, hcap, hrd⟩ := rd_ints hk.sz hr0
  rw [hl3]
  refine (sortSides_any A l c w hrd hl3).mono ?_
  rintro e w' ⟨v, rfl, ho, hu⟩
  obtain ⟨E', h1, h2, h3, h4, h5⟩ := ms_of_own (c := cInt) hk ho hu (fun x => ⟨rfl, fun j p hj => by
    cases j with
    | zero => obtain rfl : vi x = p := by simpa using hj
              exact ⟨_, rfl, rfl, fun w E => .c (.v _ rfl)⟩
    | succ j => simp [cInt] at hj⟩)
  exact ⟨v, E', rfl, h1, h2, h3, h4, h5⟩
instance (l : List Int) : CT Tryz.prog (m_impl_SortSides l) := ⟨64, [.sl (l.map cInt)], [], fun r => .ms 0, fun r => [some ⟨3, 1, r.map cInt⟩], ok_impl_SortSides l⟩
end Go.Proofs.YtooikkfldddjfaaGreatDoor

/- The mirror of spec_l1Padded, and that the code does just that (printed by a program of my own). -/
namespace Go.Proofs.YtooikkfldddjfaaGreatDoor
set_option maxRecDepth 10000
open Go.RowKit
set_option linter.unusedVariables false
set_option maxHeartbeats 16000000
def m_spec_l1Padded_b0 (digits : Int) (s0 : ByteArray) : Option (ByteArray ⊕ ByteArray) :=
 cond (decide ((s0.size : Int) < digits))
 ((chk (strOk (⟨#[48]⟩) s0)).bind fun _ =>
 some (.inl (⟨#[48]⟩ ++ s0)))
 (some (.inr s0))
instance (digits : Int) : LoopE (m_spec_l1Padded_b0 digits) := ⟨fun s0 => [.un, vi digits, .un, .un, .un, vs s0, .un, .un, .un, .un, .un, .un, .un, .un, .un], fun s0 => []⟩
def m_spec_l1Padded (n : Int) (digits : Int) : Option ByteArray :=
 (m_spec_FormatInt n).bind fun y1 =>
 (iterF (m_spec_l1Padded_b0 digits) NN y1).bind (fun o0 =>
 some o0)
theorem ok_spec_l1Padded (n : Int) (digits : Int) {r : ByteArray} (H : m_spec_l1Padded n digits = some r) : CallM Tryz.prog 49 [vi n, vi digits] [] (vs r) [] := by
  replace H := H0 H
  unfold m_spec_l1Padded at H
  refine callM_of Tryz.func49 rfl Tryz.ntmps49 Tryz.results49 fun Q hQ hQn => ?_
  exact wk2
instance (n : Int) (digits : Int) : CT Tryz.prog (m_spec_l1Padded n digits) := ⟨49, [vi n, vi digits], [], fun r => vs r, fun r => [], ok_spec_l1Padded n digits⟩
end Go.Proofs.YtooikkfldddjfaaGreatDoor

/- The mirror of spec_Digits, and that the code does just that (printed by a program of my own). -/
namespace Go.Proofs.YtooikkfldddjfaaGreatDoor
set_option maxRecDepth 10000
open Go.RowKit
set_option linter.unusedVariables false
set_option maxHeartbeats 16000000
def m_spec_Digits_b0 (s : ByteArray) (s0 : ByteArray × Int) : Option ((ByteArray × Int) ⊕ (ByteArray ⊕ (ByteArray × Bool))) :=
 cond (decide (s0.2 < (s.size : Int)))
 ((jn 5 4 (
 (getB s s0.2).bind fun y1 =>
 (m_spec_l1In (IntKind.i64.wrap y1) 48 57).bind fun y2 =>
 cond y2
 ((chk (slOk s0.2 (w64 (s0.2 + 1)) s.size)).bind fun _ =>
 (chk (strOk s0.1 (subS s s0.2 (w64 (s0.2 + 1))))).bind fun _ =>
 some (.inl (s0.1 ++ (subS s s0.2 (w64 (s0.2 + 1))))))
 ((m_spec_l1In (IntKind.i64.wrap y1) 65 90).bind fun y3 =>
 cond y3
 ((m_spec_FormatInt (w64 ((w64 ((IntKind.i64.wrap y1) - 65)) + 10))).bind fun y4 =>
 (chk (strOk s0.1 y4)).bind fun _ =>
 some (.inl (s0.1 ++ y4)))
 (some (.inr (⟨#[]⟩, false)))) : Option (ByteArray ⊕ (ByteArray × Bool))) (fun z5 => [vs s, .un, .un, .un, vs z5, vi s0.2, .un, .un, .un, .un, .un, .un, .un, .un, .un, .un, .un, .un, .un, .un, .un, .un, .un, .un, .un, .un, .un, .un, .un, .un, .un, .un, .un, .un, .un, .un, .un]) (fun z5 => [])).bind (selim (fun z5 =>
 some (.inl (z5, (w64 (s0.2 + 1))))) (fun r => some (.inr (.inr r)))))
 (some (.inr (.inl s0.1)))
instance (s : ByteArray) : LoopE (m_spec_Digits_b0 s) := ⟨fun s0 => [vs s, .un, .un, .un, vs s0.1, vi s0.2, .un, .un, .un, .un, .un, .un, .un, .un, .un, .un, .un, .un, .un, .un, .un, .un, .un, .un, .un, .un, .un, .un, .un, .un, .un, .un, .un, .un, .un, .un, .un], fun s0 => []⟩
def m_spec_Digits (s : ByteArray) : Option (ByteArray × Bool) :=
 (iterF (m_spec_Digits_b0 s) NN (⟨#[]⟩, 0)).bind (selim (fun o0 =>
 some (o0, true)) (fun r => some r))
theorem ok_spec_Digits (s : ByteArray) {r : ByteArray × Bool} (H : m_spec_Digits s = some r) : CallM Tryz.prog 62 [vs s] [] (.tu [vs r.1, vb r.2]) [] := by
  replace H := H0 H
  unfold m_spec_Digits at H
  refine callM_of Tryz.func62 rfl Tryz.ntmps62 Tryz.results62 fun Q hQ hQn => ?_
  exact wk2
instance (s : ByteArray) : CT Tryz.prog (m_spec_Digits s) := ⟨62, [vs s], [], fun r => .tu [vs r.1, vb r.2], fun r => [], ok_spec_Digits s⟩
end Go.Proofs.YtooikkfldddjfaaGreatDoor

/- The mirror of spec_Mod97, and that the code does just that (printed by a program of my own). -/
namespace Go.Proofs.YtooikkfldddjfaaGreatDoor
set_option maxRecDepth 10000
open Go.RowKit
set_option linter.unusedVariables false
set_option maxHeartbeats 16000000
def m_spec_Mod97_b0 (s : ByteArray) (s0 : Int × Int) : Option ((Int × Int) ⊕ (Int ⊕ Int)) :=
 cond (decide (s0.2 < (s.size : Int)))
 ((getB s s0.2).bind fun y1 =>
 (m_spec_l1In (IntKind.i64.wrap y1) 48 57).bind fun y2 =>
 cond (!y2)
 (some (.inr (.inr (-1))))
 ((getB s s0.2).bind fun y3 =>
 some (.inl ((Int.tmod (w64 ((w64 (10 * s0.1)) + (IntKind.i64.wrap (IntKind.u8.wrap (y3 - 48))))) 97), (w64 (s0.2 + 1))))))
 (some (.inr (.inl s0.1)))
instance (s : ByteArray) : LoopE (m_spec_Mod97_b0 s) := ⟨fun s0 => [vs s, .un, .un, vi s0.1, vi s0.2, .un, .un, .un, .un, .un, .un, .un, .un, .un, .un, .un, .un, .un, .un, .un, .un, .un, .un, .un, .un, .un, .un, .un, .un], fun s0 => []⟩
def m_spec_Mod97 (s : ByteArray) : Option Int :=
 (iterF (m_spec_Mod97_b0 s) NN (0, 0)).bind (selim (fun o0 =>
 cond (decide (s = ⟨#[]⟩))
 (some (-1))
 (some o0)) (fun r => some r))
theorem ok_spec_Mod97 (s : ByteArray) {r : Int} (H : m_spec_Mod97 s = some r) : CallM Tryz.prog 63 [vs s] [] (vi r) [] := by
  replace H := H0 H
  unfold m_spec_Mod97 at H
  refine callM_of Tryz.func63 rfl Tryz.ntmps63 Tryz.results63 fun Q hQ hQn => ?_
  exact wk2
instance (s : ByteArray) : CT Tryz.prog (m_spec_Mod97 s) := ⟨63, [vs s], [], fun r => vi r, fun r => [], ok_spec_Mod97 s⟩
end Go.Proofs.YtooikkfldddjfaaGreatDoor

/- The mirror of impl_Mod97, and that the code does just that (printed by a program of my own). -/
namespace Go.Proofs.YtooikkfldddjfaaGreatDoor
set_option maxRecDepth 10000
open Go.RowKit
set_option linter.unusedVariables false
set_option maxHeartbeats 16000000
def m_impl_Mod97_b0 (s : ByteArray) (s0 : Int × Int) : Option ((Int × Int) ⊕ (Int ⊕ Int)) :=
 cond (decide (s0.2 < (s.size : Int)))
 ((getB s s0.2).bind fun y1 =>
 cond (decide (y1 < 48))
 (some (.inr (.inr (-1))))
 ((getB s s0.2).bind fun y2 =>
 cond (decide (57 < y2))
 (some (.inr (.inr (-1))))
 ((getB s s0.2).bind fun y3 =>
 some (.inl ((Int.tmod (w64 ((w64 (10 * s0.1)) + (IntKind.i64.wrap (IntKind.u8.wrap (y3 - 48))))) 97), (w64 (s0.2 + 1)))))))
 (some (.inr (.inl s0.1)))
instance (s : ByteArray) : LoopE (m_impl_Mod97_b0 s) := ⟨fun s0 => [vs s, .un, .un, vi s0.1, vi s0.2, .un, .un, .un, .un, .un, .un, .un, .un, .un, .un, .un, .un, .un, .un, .un, .un, .un, .un, .un, .un, .un, .un, .un, .un, .un, .un, .un, .un], fun s0 => []⟩
def m_impl_Mod97 (s : ByteArray) : Option Int :=
 (iterF (m_impl_Mod97_b0 s) NN (0, 0)).bind (selim (fun o0 =>
 cond (decide (s = ⟨#[]⟩))
 (some (-1))
 (some o0)) (fun r => some r))
theorem ok_impl_Mod97 (s : ByteArray) {r : Int} (H : m_impl_Mod97 s = some r) : CallM Tryz.prog 68 [vs s] [] (vi r) [] := by
  replace H := H0 H
  unfold m_impl_Mod97 at H
  refine callM_of Tryz.func68 rfl Tryz.ntmps68 Tryz.results68 fun Q hQ hQn => ?_
  exact wk2
instance (s : ByteArray) : CT Tryz.prog (m_impl_Mod97 s) := ⟨68, [vs s], [], fun r => vi r, fun r => [], ok_impl_Mod97 s⟩
end Go.Proofs.YtooikkfldddjfaaGreatDoor

/- Labels and parcels as_ texts: the two sides write alike. -/
namespace Go.Proofs.YtooikkfldddjfaaGreatDoor
set_option maxRecDepth 10000
open Go.RowKit Go.Sort
set_option linter.unusedVariables false
set_option linter.unusedSimpArgs false
set_option maxHeartbeats 1000000
theorem txt_app (a b : List UInt8) : txt a ++ txt b = txt (a ++ b) := by
  apply ByteArray.ext
  rw [ByteArray.data_append]
  simp [txt]
theorem strOk_s {a b : ByteArray} (h : a.size + b.size ≤ B60) : strOk a b = true := by
  unfold strOk
  unfold B60 at h
  exact decide_eq_true (by omega)
theorem repl_cons (k : Nat) (l : List UInt8) : (48 : UInt8) :: (List.replicate k 48 ++ l) = List.replicate (k + 1) 48 ++ l := by rw [List.replicate_succ]; rfl
theorem itoa_len {n : Int} (h : in64 n) : (Lib.itoa n).length ≤ 21 := Lib.itoa_length_le n h.1 h.2
theorem padded_spec {n : Int} {d : Nat} (h : in64 n) (hd : d ≤ 20) : m_spec_l1Padded n (d : Int) = some (txt (padL n d)) := by
  have hl := itoa_len h
  unfold m_spec_l1Padded
  have hF : m_spec_FormatInt n = some (txt (Lib.itoa n)) := by unfold m_spec_FormatInt; rw [if_pos h]
  rw [hF, Option.bind_some]
  have key : ∀ (k N c : Nat), k = d - ((Lib.itoa n).length + c) → k < N → iterF (m_spec_l1Padded_b0 (d : Int)) N (txt (List.replicate c 48 ++ Lib.itoa n)) = some (txt (List.replicate (c + k) 48 ++ Lib.itoa n)) := by
    intro k
    induction k with
    | zero =>
      intro N c hk hN
      cases N with
      | zero => omega
      | succ N =>
        simp only [iterF, m_spec_l1Padded_b0, txt_size, List.length_append, List.length_replicate]
        rw [decide_eq_false (by omega)]
        rfl
    | succ k ih =>
      intro N c hk hN
      cases N with
      | zero => omega
      | succ N =>
        have e1 : (⟨#[48]⟩ : ByteArray) ++ txt (List.replicate c 48 ++ Lib.itoa n) = txt (List.replicate (c + 1) 48 ++ Lib.itoa n) := by
          rw [← repl_cons]; exact txt_app [48] _
        simp only [iterF, m_spec_l1Padded_b0]
        rw [e1, strOk_s (by rw [txt_size]; simp [ByteArray.size]; unfold B60; omega), txt_size]
        rw [decide_eq_true (by simp; omega)]
        have := ih N (c + 1) (by omega) (by omega)
        rw [show c + 1 + k = c + (k + 1) by omega] at this
        exact this
  have := key (d - (Lib.itoa n).length) NN 0 (by omega) (by unfold NN; omega)
  simp only [List.replicate_zero, List.nil_append, Nat.zero_add] at this
  rw [this]
  rfl
theorem padded_im {n : Int} {d : Nat} (h : in64 n) (hd : d ≤ 20) : m_impl_padded n (d : Int) = some (txt (padL n d)) := by
  unfold m_impl_padded
  rw [if_pos ⟨h, by omega, by omega⟩]
  rfl
theorem padL_len {n : Int} {d : Nat} (h : in64 n) (hd : d ≤ 20) : (padL n d).length ≤ 21 := by
  have := itoa_len h
  unfold padL
  simp
  omega
theorem wrap_b {y : Int} (h : 0 ≤ y ∧ y ≤ 255) : IntKind.i64.wrap y = y := w64_in ⟨by omega, by omega⟩
theorem mod97_eq : @m_impl_Mod97 = @m_spec_Mod97 := by
  have e : @m_impl_Mod97_b0 = @m_spec_Mod97_b0 := by
    funext s s0
    unfold m_impl_Mod97_b0 m_spec_Mod97_b0
    cases hd : decide (s0.2 < (s.size : Int))
    · rfl
    simp only [cond_true]
    cases hy : getB s s0.2 with
    | none => rfl
    | some y =>
      have hw := getB_in hy
      simp only [Option.bind_some, wrap_b hw, l1In_v]
      by_cases h1 : y < 48
      · rw [decide_eq_true h1, decide_eq_false (show ¬ 48 ≤ y by omega)]; rfl
      · rw [decide_eq_false h1, decide_eq_true (show 48 ≤ y by omega)]
        by_cases h2 : 57 < y
        · rw [decide_eq_true h2, decide_eq_false (show ¬ y ≤ 57 by omega)]; rfl
        · rw [decide_eq_false h2, decide_eq_true (show y ≤ 57 by omega)]; rfl
  funext s
  unfold m_impl_Mod97 m_spec_Mod97
  rw [e]
theorem mod97_tot {s : ByteArray} (h : s.size < NN) : ∃ m, m_spec_Mod97 s = some m := by
  have ht : ∃ o, iterF (m_spec_Mod97_b0 s) NN (0, 0) = some o := by
    refine iter_tot (fun k s0 => ∃ i : Nat, i + k = s.size ∧ s0.2 = (i : Int)) ?_ NN s.size (0, 0) ⟨0, by omega, rfl⟩ h
    rintro k ⟨m, x⟩ ⟨i, hi, hx⟩
    simp only at hx
    subst hx
    unfold m_spec_Mod97_b0
    by_cases hlt : i < s.size
    · obtain ⟨y, hy⟩ := getB_some hlt
      have hw := getB_in hy
      simp only [hy, Option.bind_some, wrap_b hw, l1In_v, decide_eq_true (show (i : Int) < (s.size : Int) by omega), cond_true]
      cases (decide (48 ≤ y) && decide (y ≤ 57))
      · exact ⟨_, rfl, fun s' e => by cases e⟩
      · refine ⟨_, rfl, fun s' e => ?_⟩
        cases e
        exact ⟨k - 1, by omega, i + 1, by omega, w64_nat hlt (by unfold NN at h; omega)⟩
    · simp only [decide_eq_false (show ¬ (i : Int) < (s.size : Int) by omega), cond_false]
      exact ⟨_, rfl, fun s' e => by cases e⟩
  obtain ⟨o, ho⟩ := ht
  unfold m_spec_Mod97
  rw [ho]
  cases o with
  | inl a => simp only [Option.bind_some, selim]; cases decide (s = ⟨#[]⟩) <;> exact ⟨_, rfl⟩
  | inr r => exact ⟨_, rfl⟩
theorem getB_txt {l : List UInt8} {i : Nat} {c : UInt8} (h : l[i]? = some c) : getB (txt l) (i : Int) = some (c.toNat : Int) := by
  have hlt := (List.getElem?_eq_some_iff.1 h).1
  unfold getB
  rw [if_pos ⟨by omega, by rw [txt_size]; omega⟩]
  unfold byteAt
  have hb : (txt l)[i]? = some c := by
    have hs : i < (txt l).size := by rw [txt_size]; exact hlt
    rw [getElem?_pos (txt l) i hs, ← txt_get l i hs, h]
  rw [Int.toNat_natCast, hb]
  rfl
theorem subS_txt {l : List UInt8} {i : Nat} {c : UInt8} (h : l[i]? = some c) : subS (txt l) (i : Int) ((i + 1 : Nat) : Int) = txt [c] := by
  unfold subS
  apply ByteArray.ext
  rw [ByteArray.data_extract]
  simp only [txt, Int.toNat_natCast]
  apply Array.toList_inj.1
  rw [Array.toList_extract]
  simp only [List.extract_eq_take_drop]
  have hlt := (List.getElem?_eq_some_iff.1 h).1
  rw [show i + 1 - i = 1 by omega]
  apply List.ext_getElem?
  intro n
  rw [List.getElem?_take]
  cases n with
  | zero => simp [h]
  | succ n => simp
theorem digits_spec {l : List UInt8} (hl : l.length ≤ 100000) : m_spec_Digits (txt l) = some (txt ((dgts l).getD []), (dgts l).isSome) := by
  have key : ∀ (k N i : Nat) (acc : List UInt8), i + k = l.length → k < N → dgts (l.take i) = some acc → acc.length ≤ 21 * i →
      iterF (m_spec_Digits_b0 (txt l)) N (txt acc, (i : Int)) = some (match dgts l with | some a => .inl (txt a) | none => .inr (⟨#[]⟩, false)) := by
    intro k
    induction k with
    | zero =>
      intro N i acc hi hN ha hal
      cases N with
      | zero => omega
      | succ N =>
        obtain rfl : i = l.length := by omega
        rw [List.take_length] at ha
        simp only [iterF, m_spec_Digits_b0, txt_size]
        rw [decide_eq_false (by omega), ha]
        rfl
    | succ k ih =>
      intro N i acc hi hN ha hal
      cases N with
      | zero => omega
      | succ N =>
        have hlt : i < l.length := by omega
        obtain ⟨c, hc⟩ : ∃ c, l[i]? = some c := ⟨_, List.getElem?_eq_getElem hlt⟩
        have hcl := c.toNat_lt
        have htk : dgts (l.take (i + 1)) = match some acc, dgt c with
            | some a, some b => some (a ++ b)
            | _, _ => none := by
          rw [List.take_add_one, hc, show (some c).toList = [c] from rfl, dgts_snoc, ha] <;> rfl
        have hw : IntKind.i64.wrap (c.toNat : Int) = (c.toNat : Int) := wrap_b ⟨by omega, by omega⟩
        have h1 : w64 ((i : Int) + 1) = ((i + 1 : Nat) : Int) := w64_nat hlt (by omega)
        simp only [iterF, m_spec_Digits_b0, jn, txt_size, getB_txt hc, hw, l1In_v, h1, subS_txt hc, Option.bind_some]
        rw [decide_eq_true (show (i : Int) < (l.length : Int) by omega)]
        by_cases hd1 : 48 ≤ c.toNat ∧ c.toNat ≤ 57
        · have hd : dgt c = some [c] := by unfold dgt; rw [if_pos hd1]
          rw [hd] at htk
          rw [decide_eq_true (show (48 : Int) ≤ (c.toNat : Int) by omega), decide_eq_true (show (c.toNat : Int) ≤ 57 by omega), strOk_s (by rw [txt_size, txt_size]; simp; unfold B60; omega), chk_t (show slOk (i : Int) ((i + 1 : Nat) : Int) l.length = true by unfold slOk; exact decide_eq_true (by omega)), txt_app]
          exact ih N (i + 1) (acc ++ [c]) (by omega) (by omega) htk (by simp; omega)
        · by_cases hd2 : 65 ≤ c.toNat ∧ c.toNat ≤ 90
          · have hd : dgt c = some (Lib.itoa ((c.toNat - 55 : Nat) : Int)) := by unfold dgt; rw [if_neg hd1, if_pos hd2]
            have hdl := dgt_len hd
            rw [hd] at htk
            have e1 : (decide ((48 : Int) ≤ (c.toNat : Int)) && decide ((c.toNat : Int) ≤ 57)) = false := by
              rw [decide_eq_false (show ¬ (c.toNat : Int) ≤ 57 by omega), Bool.and_false]
            have e2 : w64 (w64 ((c.toNat : Int) - 65) + 10) = ((c.toNat - 55 : Nat) : Int) := by
              rw [w64_in (n := (c.toNat : Int) - 65) ⟨by omega, by omega⟩, w64_in (n := (c.toNat : Int) - 65 + 10) ⟨by omega, by omega⟩]; omega
            have e3 : m_spec_FormatInt ((c.toNat - 55 : Nat) : Int) = some (txt (Lib.itoa ((c.toNat - 55 : Nat) : Int))) := by
              unfold m_spec_FormatInt; rw [if_pos ⟨by omega, by omega⟩]
            rw [e1, decide_eq_true (show (65 : Int) ≤ (c.toNat : Int) by omega), decide_eq_true (show (c.toNat : Int) ≤ 90 by omega), e2, e3]
            simp only [Bool.and_true, cond_false, cond_true, Option.bind_some]
            rw [strOk_s (by rw [txt_size, txt_size]; unfold B60; omega), txt_app]
            exact ih N (i + 1) _ (by omega) (by omega) htk (by simp; omega)
          · have hd : dgt c = none := by unfold dgt; rw [if_neg hd1, if_neg hd2]
            have hn := dgts_none hc hd
            have e1 : (decide ((48 : Int) ≤ (c.toNat : Int)) && decide ((c.toNat : Int) ≤ 57)) = false := by
              by_cases h : 48 ≤ c.toNat
              · rw [decide_eq_false (show ¬ (c.toNat : Int) ≤ 57 by omega), Bool.and_false]
              · rw [decide_eq_false (show ¬ (48 : Int) ≤ (c.toNat : Int) by omega), Bool.false_and]
            have e2 : (decide ((65 : Int) ≤ (c.toNat : Int)) && decide ((c.toNat : Int) ≤ 90)) = false := by
              by_cases h : 65 ≤ c.toNat
              · rw [decide_eq_false (show ¬ (c.toNat : Int) ≤ 90 by omega), Bool.and_false]
              · rw [decide_eq_false (show ¬ (65 : Int) ≤ (c.toNat : Int) by omega), Bool.false_and]
            rw [e1, e2, hn]
            rfl
  have := key l.length NN 0 [] (by omega) (by unfold NN; omega) (by simp [dgts]) (by simp)
  unfold m_spec_Digits
  rw [show (⟨#[]⟩ : ByteArray) = txt [] from rfl, show (0 : Int) = ((0 : Nat) : Int) from rfl, this]
  cases dgts l <;> rfl
theorem digits_im {l : List UInt8} (hl : l.length ≤ 100000) : m_impl_Digits (txt l) = some (txt ((dgts l).getD []), (dgts l).isSome) := by
  unfold m_impl_Digits
  rw [if_pos (by rw [txt_size]; omega)]
  rfl
end Go.Proofs.YtooikkfldddjfaaGreatDoor

/- The mirror of impl_threeSides, and that the code does just that (printed by a program of my own). -/
namespace Go.Proofs.YtooikkfldddjfaaGreatDoor
set_option maxRecDepth 10000
open Go.RowKit
set_option linter.unusedVariables false
set_option maxHeartbeats 16000000
def m_impl_threeSides_b0 (l : List Int) (s0 : Int) : Option (Int ⊕ (Unit ⊕ Bool)) :=
 cond (decide (s0 < (l.length : Int)))
 ((getI l s0).bind fun y1 =>
 (m_impl_within y1 1 2000).bind fun y2 =>
 cond (!y2)
 (some (.inr (.inr false)))
 (some (.inl (w64 (s0 + 1)))))
 (some (.inr (.inl ())))
instance (l : List Int) : LoopE (m_impl_threeSides_b0 l) := ⟨fun s0 => [.sl (l.map cInt), .un, .un, .un, .un, .sl (l.map cInt), vi (l.length : Int), vi s0, .un, .un, .un, .un, .un, .un, .un, .un, .un, .un], fun s0 => []⟩
def m_impl_threeSides (l : List Int) : Option Bool :=
 (iterF (m_impl_threeSides_b0 l) NN 0).bind (selim (fun o0 =>
 some (decide ((l.length : Int) = 3))) (fun r => some r))
theorem ok_impl_threeSides (l : List Int) {r : Bool} (H : m_impl_threeSides l = some r) : CallM Tryz.prog 53 [.sl (l.map cInt)] [] (vb r) [] := by
  replace H := H0 H
  unfold m_impl_threeSides at H
  refine callM_of Tryz.func53 rfl Tryz.ntmps53 Tryz.results53 fun Q hQ hQn => ?_
  exact wk2
instance (l : List Int) : CT Tryz.prog (m_impl_threeSides l) := ⟨53, [.sl (l.map cInt)], [], fun r => vb r, fun r => [], ok_impl_threeSides l⟩
end Go.Proofs.YtooikkfldddjfaaGreatDoor

/- The mirror of impl_GirthOf, and that the code does just that (printed by a program of my own). -/
namespace Go.Proofs.YtooikkfldddjfaaGreatDoor
set_option maxRecDepth 10000
open Go.RowKit
set_option linter.unusedVariables false
set_option maxHeartbeats 16000000
def m_impl_GirthOf (sides : List Int) : Option Int :=
 (m_impl_threeSides sides).bind fun y1 =>
 cond (!y1)
 (some 0)
 ((m_impl_SortSides sides).bind fun y2 =>
 (getI y2 0).bind fun y3 =>
 (getI y2 1).bind fun y4 =>
 (getI y2 2).bind fun y5 =>
 some (w64 ((w64 (y3 + (w64 (2 * y4)))) + (w64 (2 * y5)))))
theorem ok_impl_GirthOf (sides : List Int) {r : Int} (H : m_impl_GirthOf sides = some r) : CallM Tryz.prog 54 [.sl (sides.map cInt)] [] (vi r) [] := by
  replace H := H0 H
  unfold m_impl_GirthOf at H
  refine callM_of Tryz.func54 rfl Tryz.ntmps54 Tryz.results54 fun Q hQ hQn => ?_
  exact wk2
instance (sides : List Int) : CT Tryz.prog (m_impl_GirthOf sides) := ⟨54, [.sl (sides.map cInt)], [], fun r => vi r, fun r => [], ok_impl_GirthOf sides⟩
end Go.Proofs.YtooikkfldddjfaaGreatDoor

/- The mirror of impl_IsLabel, and that the code does just that (printed by a program of my own). -/
namespace Go.Proofs.YtooikkfldddjfaaGreatDoor
set_option maxRecDepth 10000
open Go.RowKit
set_option linter.unusedVariables false
set_option maxHeartbeats 16000000
def m_impl_IsLabel (l : YLabel) : Option Bool :=
 (m_impl_within l.service 1 3).bind fun y1 =>
 cond y1
 ((m_impl_within l.serial 0 999999999).bind fun y2 =>
 cond y2
 ((m_impl_IsPlace l.to_).bind fun y3 =>
 some y3)
 (some false))
 (some false)
theorem ok_impl_IsLabel (l : YLabel) {r : Bool} (H : m_impl_IsLabel l = some r) : CallM Tryz.prog 51 [.ag (cLabel l)] [] (vb r) [] := by
  replace H := H0 H
  unfold m_impl_IsLabel at H
  refine callM_of Tryz.func51 rfl Tryz.ntmps51 Tryz.results51 fun Q hQ hQn => ?_
  exact wk2
instance (l : YLabel) : CT Tryz.prog (m_impl_IsLabel l) := ⟨51, [.ag (cLabel l)], [], fun r => vb r, fun r => [], ok_impl_IsLabel l⟩
end Go.Proofs.YtooikkfldddjfaaGreatDoor

/- The mirror of impl_IsParcel, and that the code does just that (printed by a program of my own). -/
namespace Go.Proofs.YtooikkfldddjfaaGreatDoor
set_option maxRecDepth 10000
open Go.RowKit
set_option linter.unusedVariables false
set_option maxHeartbeats 16000000
def m_impl_IsParcel (p : YParcel) : Option Bool :=
 (m_impl_IsLabel p.label).bind fun y1 =>
 cond y1
 ((m_impl_IsPlace p.from_).bind fun y2 =>
 cond y2
 (cond (!decide (p.from_ = p.label.to_))
 ((m_impl_within p.weight 1 30000).bind fun y3 =>
 cond y3
 ((m_impl_threeSides p.sides).bind fun y4 =>
 cond y4
 ((m_impl_GirthOf p.sides).bind fun y5 =>
 cond (decide (y5 ≤ 3600))
 ((m_impl_within p.value 0 500000).bind fun y6 =>
 some y6)
 (some false))
 (some false))
 (some false))
 (some false))
 (some false))
 (some false)
theorem ok_impl_IsParcel (p : YParcel) {r : Bool} (H : m_impl_IsParcel p = some r) : CallM Tryz.prog 36 [.ag (cParcel p)] [] (vb r) [] := by
  replace H := H0 H
  unfold m_impl_IsParcel at H
  refine callM_of Tryz.func36 rfl Tryz.ntmps36 Tryz.results36 fun Q hQ hQn => ?_
  exact wk2
instance (p : YParcel) : CT Tryz.prog (m_impl_IsParcel p) := ⟨36, [.ag (cParcel p)], [], fun r => vb r, fun r => [], ok_impl_IsParcel p⟩
end Go.Proofs.YtooikkfldddjfaaGreatDoor

/- The mirror of impl_same_int_, and that the code does just that (printed by a program of my own). -/
namespace Go.Proofs.YtooikkfldddjfaaGreatDoor
set_option maxRecDepth 10000
open Go.RowKit
set_option linter.unusedVariables false
set_option maxHeartbeats 16000000
def m_impl_same_int__b0 (a : List Int) (b : List Int) (s0 : Int) : Option (Int ⊕ (Unit ⊕ Bool)) :=
 cond (decide (s0 < (a.length : Int)))
 ((getI a s0).bind fun y1 =>
 (getI b s0).bind fun y2 =>
 cond (!decide (y1 = y2))
 (some (.inr (.inr false)))
 (some (.inl (w64 (s0 + 1)))))
 (some (.inr (.inl ())))
instance (a : List Int) (b : List Int) : LoopE (m_impl_same_int__b0 a b) := ⟨fun s0 => [.sl (a.map cInt), .sl (b.map cInt), .un, .un, .un, .un, .un, .un, .un, .un, .un, .un, vi (a.length : Int), vi s0, .un, .un, .un, .un, .un, .un, .un, .un, .un, .un, .un, .un], fun s0 => []⟩
def m_impl_same_int_ (a : List Int) (b : List Int) : Option Bool :=
 cond (!decide ((a.length : Int) = (b.length : Int)))
 (some false)
 ((iterF (m_impl_same_int__b0 a b) NN 0).bind (selim (fun o0 =>
 some true) (fun r => some r)))
theorem ok_impl_same_int_ (a : List Int) (b : List Int) {r : Bool} (H : m_impl_same_int_ a b = some r) : CallM Tryz.prog 65 [.sl (a.map cInt), .sl (b.map cInt)] [] (vb r) [] := by
  replace H := H0 H
  unfold m_impl_same_int_ at H
  refine callM_of Tryz.func65 rfl Tryz.ntmps65 Tryz.results65 fun Q hQ hQn => ?_
  exact wk2
instance (a : List Int) (b : List Int) : CT Tryz.prog (m_impl_same_int_ a b) := ⟨65, [.sl (a.map cInt), .sl (b.map cInt)], [], fun r => vb r, fun r => [], ok_impl_same_int_ a b⟩
end Go.Proofs.YtooikkfldddjfaaGreatDoor

/- The mirror of impl_sameParcels, and that the code does just that (printed by a program of my own). -/
namespace Go.Proofs.YtooikkfldddjfaaGreatDoor
set_option maxRecDepth 10000
open Go.RowKit
set_option linter.unusedVariables false
set_option maxHeartbeats 16000000
def m_impl_sameParcels (a : YParcel) (b : YParcel) : Option Bool :=
 cond (decide (a.label = b.label))
 (cond (decide (a.from_ = b.from_))
 (cond (decide (a.weight = b.weight))
 ((m_impl_same_int_ a.sides b.sides).bind fun y1 =>
 cond y1
 (some (decide (a.value = b.value)))
 (some false))
 (some false))
 (some false))
 (some false)
theorem ok_impl_sameParcels (a : YParcel) (b : YParcel) {r : Bool} (H : m_impl_sameParcels a b = some r) : CallM Tryz.prog 55 [.ag (cParcel a), .ag (cParcel b)] [] (vb r) [] := by
  replace H := H0 H
  unfold m_impl_sameParcels at H
  refine callM_of Tryz.func55 rfl Tryz.ntmps55 Tryz.results55 fun Q hQ hQn => ?_
  exact wk2
instance (a : YParcel) (b : YParcel) : CT Tryz.prog (m_impl_sameParcels a b) := ⟨55, [.ag (cParcel a), .ag (cParcel b)], [], fun r => vb r, fun r => [], ok_impl_sameParcels a b⟩
end Go.Proofs.YtooikkfldddjfaaGreatDoor

/- The mirror of impl_sameActs, and that the code does just that (printed by a program of my own). -/
namespace Go.Proofs.YtooikkfldddjfaaGreatDoor
set_option maxRecDepth 10000
open Go.RowKit
set_option linter.unusedVariables false
set_option maxHeartbeats 16000000
def m_impl_sameActs (a : YAct) (b : YAct) : Option Bool :=
 cond (decide (a.kind = b.kind))
 ((m_impl_sameParcels a.parcel b.parcel).bind fun y1 =>
 cond y1
 (cond (decide (a.order = b.order))
 (cond (decide (a.amount = b.amount))
 (cond (decide (a.until_ = b.until_))
 (some (decide (a.trip = b.trip)))
 (some false))
 (some false))
 (some false))
 (some false))
 (some false)
theorem ok_impl_sameActs (a : YAct) (b : YAct) {r : Bool} (H : m_impl_sameActs a b = some r) : CallM Tryz.prog 38 [.ag (cAct a), .ag (cAct b)] [] (vb r) [] := by
  replace H := H0 H
  unfold m_impl_sameActs at H
  refine callM_of Tryz.func38 rfl Tryz.ntmps38 Tryz.results38 fun Q hQ hQn => ?_
  exact wk2
instance (a : YAct) (b : YAct) : CT Tryz.prog (m_impl_sameActs a b) := ⟨38, [.ag (cAct a), .ag (cAct b)], [], fun r => vb r, fun r => [], ok_impl_sameActs a b⟩
end Go.Proofs.YtooikkfldddjfaaGreatDoor

/- The mirror of impl_IsAct, and that the code does just that (printed by a program of my own). -/
namespace Go.Proofs.YtooikkfldddjfaaGreatDoor
set_option maxRecDepth 10000
open Go.RowKit
set_option linter.unusedVariables false
set_option maxHeartbeats 16000000
def m_impl_IsAct (a : YAct) : Option Bool :=
 (jn 3 22 (
 cond (decide (a.kind = 1))
 ((m_impl_IsParcel a.parcel).bind fun y1 =>
 some (.inl (y1, a.parcel.label.service, a.parcel.label.serial, a.parcel.label.to_, a.parcel.from_, a.parcel.weight, a.parcel.sides, a.parcel.value, 0, 0, 0, 0, 0)))
 (cond (decide (a.kind = 2))
 ((m_impl_within a.order 1 9999).bind fun y2 =>
 cond y2
 ((m_impl_within a.amount 1 100000).bind fun y3 =>
 some (.inl (y3, 0, 0, ⟨#[]⟩, ⟨#[]⟩, 0, [], 0, a.order, a.amount, 0, 0, 0)))
 (some (.inl (false, 0, 0, ⟨#[]⟩, ⟨#[]⟩, 0, [], 0, a.order, a.amount, 0, 0, 0))))
 (cond (decide (a.kind = 3))
 ((m_impl_within a.until_ 0 100000).bind fun y4 =>
 some (.inl (y4, 0, 0, ⟨#[]⟩, ⟨#[]⟩, 0, [], 0, 0, 0, a.until_, 0, 0)))
 (cond (decide (a.kind = 4))
 ((m_impl_within a.trip.leg 0 19).bind fun y5 =>
 cond y5
 ((m_impl_within a.trip.day 0 60).bind fun y6 =>
 some (.inl (y6, 0, 0, ⟨#[]⟩, ⟨#[]⟩, 0, [], 0, 0, 0, 0, a.trip.leg, a.trip.day)))
 (some (.inl (false, 0, 0, ⟨#[]⟩, ⟨#[]⟩, 0, [], 0, 0, 0, 0, a.trip.leg, a.trip.day))))
 (cond (decide (a.kind = 5))
 (some (.inl (true, 0, 0, ⟨#[]⟩, ⟨#[]⟩, 0, [], 0, 0, 0, 0, 0, 0)))
 (cond (decide (a.kind = 6))
 ((m_impl_within a.order 1 9999).bind fun y7 =>
 some (.inl (y7, 0, 0, ⟨#[]⟩, ⟨#[]⟩, 0, [], 0, a.order, 0, 0, 0, 0)))
 (some (.inl (false, 0, 0, ⟨#[]⟩, ⟨#[]⟩, 0, [], 0, 0, 0, 0, 0, 0)))))))) : Option ((Bool × Int × Int × ByteArray × ByteArray × Int × (List Int) × Int × Int × Int × Int × Int × Int) ⊕ Empty)) (fun z8 => (.un :: .be 0 0 0 :: .un :: .be 1 0 0 :: vb z8.1 :: .un :: .un :: .un :: .un :: .un :: .un :: .un :: .un :: .un :: .un :: .un :: .un :: .un :: .un :: .un :: .un :: .un :: .un :: .un :: .un :: .un :: .un :: .un :: .un :: .un :: .un :: .un :: .un :: .un :: .un :: .un :: .un :: .un :: .un :: .un :: .un :: .un :: .un :: .un :: .un :: .un :: .un :: .un :: .un :: .un :: .un :: .un :: .un :: .un :: .un :: .un :: .un :: .un :: .un :: .un :: .un :: .un :: .un :: .un :: .un :: .un :: .un :: .un :: .un :: .un :: .un :: .un :: .un :: [])) (fun z8 => [some ⟨38, 13, [[vi a.kind, vi a.parcel.label.service, vi a.parcel.label.serial, vs a.parcel.label.to_, vs a.parcel.from_, vi a.parcel.weight, .sl (a.parcel.sides.map cInt), vi a.parcel.value, vi a.order, vi a.amount, vi a.until_, vi a.trip.leg, vi a.trip.day]]⟩, some ⟨38, 13, [[vi a.kind, vi z8.2.1, vi z8.2.2.1, vs z8.2.2.2.1, vs z8.2.2.2.2.1, vi z8.2.2.2.2.2.1, .sl (z8.2.2.2.2.2.2.1.map cInt), vi z8.2.2.2.2.2.2.2.1, vi z8.2.2.2.2.2.2.2.2.1, vi z8.2.2.2.2.2.2.2.2.2.1, vi z8.2.2.2.2.2.2.2.2.2.2.1, vi z8.2.2.2.2.2.2.2.2.2.2.2.1, vi z8.2.2.2.2.2.2.2.2.2.2.2.2]]⟩])).bind (selim (fun z8 =>
 cond z8.1
 ((m_impl_sameActs a (⟨a.kind, (⟨(⟨z8.2.1, z8.2.2.1, z8.2.2.2.1⟩ : YLabel), z8.2.2.2.2.1, z8.2.2.2.2.2.1, z8.2.2.2.2.2.2.1, z8.2.2.2.2.2.2.2.1⟩ : YParcel), z8.2.2.2.2.2.2.2.2.1, z8.2.2.2.2.2.2.2.2.2.1, z8.2.2.2.2.2.2.2.2.2.2.1, (⟨z8.2.2.2.2.2.2.2.2.2.2.2.1, z8.2.2.2.2.2.2.2.2.2.2.2.2⟩ : YTrip)⟩ : YAct)).bind fun y9 =>
 some y9)
 (some false)) (fun r => nomatch r))
theorem ok_impl_IsAct (a : YAct) {r : Bool} (H : m_impl_IsAct a = some r) : CallM Tryz.prog 21 [.ag (cAct a)] [] (vb r) [] := by
  replace H := H0 H
  unfold m_impl_IsAct at H
  refine callM_of Tryz.func21 rfl Tryz.ntmps21 Tryz.results21 fun Q hQ hQn => ?_
  exact wk2
instance (a : YAct) : CT Tryz.prog (m_impl_IsAct a) := ⟨21, [.ag (cAct a)], [], fun r => vb r, fun r => [], ok_impl_IsAct a⟩
end Go.Proofs.YtooikkfldddjfaaGreatDoor

/- The mirror of spec_IsLabel, and that the code does just that (printed by a program of my own). -/
namespace Go.Proofs.YtooikkfldddjfaaGreatDoor
set_option maxRecDepth 10000
open Go.RowKit
set_option linter.unusedVariables false
set_option maxHeartbeats 16000000
def m_spec_IsLabel (l : YLabel) : Option Bool :=
 (m_spec_l1In l.service 1 3).bind fun y1 =>
 cond y1
 ((m_spec_l1In l.serial 0 999999999).bind fun y2 =>
 cond y2
 ((m_spec_IsPlace l.to_).bind fun y3 =>
 some y3)
 (some false))
 (some false)
theorem ok_spec_IsLabel (l : YLabel) {r : Bool} (H : m_spec_IsLabel l = some r) : CallM Tryz.prog 44 [.ag (cLabel l)] [] (vb r) [] := by
  replace H := H0 H
  unfold m_spec_IsLabel at H
  refine callM_of Tryz.func44 rfl Tryz.ntmps44 Tryz.results44 fun Q hQ hQn => ?_
  exact wk2
instance (l : YLabel) : CT Tryz.prog (m_spec_IsLabel l) := ⟨44, [.ag (cLabel l)], [], fun r => vb r, fun r => [], ok_spec_IsLabel l⟩
end Go.Proofs.YtooikkfldddjfaaGreatDoor

/- The mirror of spec_l2Three, and that the code does just that (printed by a program of my own). -/
namespace Go.Proofs.YtooikkfldddjfaaGreatDoor
set_option maxRecDepth 10000
open Go.RowKit
set_option linter.unusedVariables false
set_option maxHeartbeats 16000000
def m_spec_l2Three_b0 (l : List Int) (s0 : Int) : Option (Int ⊕ (Unit ⊕ Bool)) :=
 cond (decide (s0 < (l.length : Int)))
 ((getI l s0).bind fun y1 =>
 (m_spec_l1In y1 1 2000).bind fun y2 =>
 cond (!y2)
 (some (.inr (.inr false)))
 (some (.inl (w64 (s0 + 1)))))
 (some (.inr (.inl ())))
instance (l : List Int) : LoopE (m_spec_l2Three_b0 l) := ⟨fun s0 => [.sl (l.map cInt), .un, .un, vi s0, .un, .un, .un, .un, .un, .un, .un, .un, .un, .un, .un, .un, .un, .un, .un], fun s0 => []⟩
def m_spec_l2Three (l : List Int) : Option Bool :=
 (iterF (m_spec_l2Three_b0 l) NN 0).bind (selim (fun o0 =>
 some (decide ((l.length : Int) = 3))) (fun r => some r))
theorem ok_spec_l2Three (l : List Int) {r : Bool} (H : m_spec_l2Three l = some r) : CallM Tryz.prog 46 [.sl (l.map cInt)] [] (vb r) [] := by
  replace H := H0 H
  unfold m_spec_l2Three at H
  refine callM_of Tryz.func46 rfl Tryz.ntmps46 Tryz.results46 fun Q hQ hQn => ?_
  exact wk2
instance (l : List Int) : CT Tryz.prog (m_spec_l2Three l) := ⟨46, [.sl (l.map cInt)], [], fun r => vb r, fun r => [], ok_spec_l2Three l⟩
end Go.Proofs.YtooikkfldddjfaaGreatDoor

/- The mirror of spec_l1Ints, and that the code does just that (printed by a program of my own). -/
namespace Go.Proofs.YtooikkfldddjfaaGreatDoor
set_option maxRecDepth 10000
open Go.RowKit
set_option linter.unusedVariables false
set_option maxHeartbeats 16000000
def m_spec_l1Ints (l : List Int) : Option (List Int) :=
 (chk (appOk ((([] : List Int) : List Int).length + (l : List Int).length) 8)).bind fun _ =>
 some ((([] : List Int) : List Int) ++ l)
theorem ok_spec_l1Ints (l : List Int) {r : (List Int)} (H : m_spec_l1Ints l = some r) : CallM Tryz.prog 70 [.sl (l.map cInt)] [] (.ms 0) [some ⟨3, 1, r.map cInt⟩] := by
  replace H := H0 H
  unfold m_spec_l1Ints at H
  refine callM_of Tryz.func70 rfl Tryz.ntmps70 Tryz.results70 fun Q hQ hQn => ?_
  exact wk2
instance (l : List Int) : CT Tryz.prog (m_spec_l1Ints l) := ⟨70, [.sl (l.map cInt)], [], fun r => .ms 0, fun r => [some ⟨3, 1, r.map cInt⟩], ok_spec_l1Ints l⟩
end Go.Proofs.YtooikkfldddjfaaGreatDoor

/- The mirror of spec_SortSides, and that the code does just that (printed by a program of my own). -/
namespace Go.Proofs.YtooikkfldddjfaaGreatDoor
set_option maxRecDepth 10000
open Go.RowKit
set_option linter.unusedVariables false
set_option maxHeartbeats 16000000
def m_spec_SortSides_b1 (l : List Int) (s0 : Int × (List Int)) (s1 : Int) : Option (Int ⊕ Int) :=
 cond (decide (s1 < (s0.2.length : Int)))
 ((getI s0.2 s1).bind fun y1 =>
 (getI l s0.1).bind fun y2 =>
 cond (decide (y2 ≤ y1))
 (some (.inl (w64 (s1 + 1))))
 (some (.inr s1)))
 (some (.inr s1))
instance (l : List Int) (s0 : Int × (List Int)) : LoopE (m_spec_SortSides_b1 l s0) := ⟨fun s1 => [.sl (l.map cInt), .un, .un, .ms 0, vi s0.1, vi s1, .un, .un, .un, .un, .un, .un, .un, .un, .un, .un, .un, .un, .un, .un, .un, .un, .un, .un, .un, .un, .un, .un, .un, .un, .un, .un, .un, .un, .un, .un, .un, .un, .un, .un, .un, .un, .un, .un, .un], fun s1 => [some ⟨3, 1, s0.2.map cInt⟩]⟩
def m_spec_SortSides_b0 (l : List Int) (s0 : Int × (List Int)) : Option ((Int × (List Int)) ⊕ (List Int)) :=
 cond (decide (s0.1 < (l.length : Int)))
 ((iterF (m_spec_SortSides_b1 l s0) NN 0).bind (fun o1 =>
 (chk (slOk 0 o1 s0.2.length)).bind fun _ =>
 (m_spec_l1Ints (subL s0.2 0 o1)).bind fun y3 =>
 (getI l s0.1).bind fun y4 =>
 (chk (appOk ((y3 : List Int).length + ([y4] : List Int).length) 8)).bind fun _ =>
 (chk (slOk o1 (s0.2.length : Int) s0.2.length)).bind fun _ =>
 (chk (appOk ((((y3 : List Int) ++ [y4]) : List Int).length + ((subL s0.2 o1 (s0.2.length : Int)) : List Int).length) 8)).bind fun _ =>
 some (.inl ((w64 (s0.1 + 1)), ((((y3 : List Int) ++ [y4]) : List Int) ++ (subL s0.2 o1 (s0.2.length : Int)))))))
 (some (.inr s0.2))
instance (l : List Int) : LoopE (m_spec_SortSides_b0 l) := ⟨fun s0 => [.sl (l.map cInt), .un, .un, .ms 0, vi s0.1, .un, .un, .un, .un, .un, .un, .un, .un, .un, .un, .un, .un, .un, .un, .un, .un, .un, .un, .un, .un, .un, .un, .un, .un, .un, .un, .un, .un, .un, .un, .un, .un, .un, .un, .un, .un, .un, .un, .un, .un], fun s0 => [some ⟨3, 1, s0.2.map cInt⟩]⟩
def m_spec_SortSides (l : List Int) : Option (List Int) :=
 (iterF (m_spec_SortSides_b0 l) NN (0, ([] : List Int))).bind (fun o0 =>
 some o0)
theorem ok_spec_SortSides (l : List Int) {r : (List Int)} (H : m_spec_SortSides l = some r) : CallM Tryz.prog 61 [.sl (l.map cInt)] [] (.ms 0) [some ⟨3, 1, r.map cInt⟩] := by
  replace H := H0 H
  unfold m_spec_SortSides at H
  refine callM_of Tryz.func61 rfl Tryz.ntmps61 Tryz.results61 fun Q hQ hQn => ?_
  exact wk2
instance (l : List Int) : CT Tryz.prog (m_spec_SortSides l) := ⟨61, [.sl (l.map cInt)], [], fun r => .ms 0, fun r => [some ⟨3, 1, r.map cInt⟩], ok_spec_SortSides l⟩
end Go.Proofs.YtooikkfldddjfaaGreatDoor

/- The mirror of spec_GirthOf, and that the code does just that (printed by a program of my own). -/
namespace Go.Proofs.YtooikkfldddjfaaGreatDoor
set_option maxRecDepth 10000
open Go.RowKit
set_option linter.unusedVariables false
set_option maxHeartbeats 16000000
def m_spec_GirthOf (sides : List Int) : Option Int :=
 (m_spec_l2Three sides).bind fun y1 =>
 cond (!y1)
 (some 0)
 ((m_spec_SortSides sides).bind fun y2 =>
 (getI y2 0).bind fun y3 =>
 (getI y2 1).bind fun y4 =>
 (getI y2 2).bind fun y5 =>
 some (w64 ((w64 (y3 + (w64 (2 * y4)))) + (w64 (2 * y5)))))
theorem ok_spec_GirthOf (sides : List Int) {r : Int} (H : m_spec_GirthOf sides = some r) : CallM Tryz.prog 47 [.sl (sides.map cInt)] [] (vi r) [] := by
  replace H := H0 H
  unfold m_spec_GirthOf at H
  refine callM_of Tryz.func47 rfl Tryz.ntmps47 Tryz.results47 fun Q hQ hQn => ?_
  exact wk2
instance (sides : List Int) : CT Tryz.prog (m_spec_GirthOf sides) := ⟨47, [.sl (sides.map cInt)], [], fun r => vi r, fun r => [], ok_spec_GirthOf sides⟩
end Go.Proofs.YtooikkfldddjfaaGreatDoor

/- The mirror of spec_IsParcel, and that the code does just that (printed by a program of my own). -/
namespace Go.Proofs.YtooikkfldddjfaaGreatDoor
set_option maxRecDepth 10000
open Go.RowKit
set_option linter.unusedVariables false
set_option maxHeartbeats 16000000
def m_spec_IsParcel (p : YParcel) : Option Bool :=
 (m_spec_IsLabel p.label).bind fun y1 =>
 cond y1
 ((m_spec_IsPlace p.from_).bind fun y2 =>
 cond y2
 (cond (!decide (p.from_ = p.label.to_))
 ((m_spec_l1In p.weight 1 30000).bind fun y3 =>
 cond y3
 ((m_spec_l2Three p.sides).bind fun y4 =>
 cond y4
 ((m_spec_GirthOf p.sides).bind fun y5 =>
 cond (decide (y5 ≤ 3600))
 ((m_spec_l1In p.value 0 500000).bind fun y6 =>
 some y6)
 (some false))
 (some false))
 (some false))
 (some false))
 (some false))
 (some false)
theorem ok_spec_IsParcel (p : YParcel) {r : Bool} (H : m_spec_IsParcel p = some r) : CallM Tryz.prog 31 [.ag (cParcel p)] [] (vb r) [] := by
  replace H := H0 H
  unfold m_spec_IsParcel at H
  refine callM_of Tryz.func31 rfl Tryz.ntmps31 Tryz.results31 fun Q hQ hQn => ?_
  exact wk2
instance (p : YParcel) : CT Tryz.prog (m_spec_IsParcel p) := ⟨31, [.ag (cParcel p)], [], fun r => vb r, fun r => [], ok_spec_IsParcel p⟩
end Go.Proofs.YtooikkfldddjfaaGreatDoor

/- The mirror of spec_IsAct, and that the code does just that (printed by a program of my own). -/
namespace Go.Proofs.YtooikkfldddjfaaGreatDoor
set_option maxRecDepth 10000
open Go.RowKit
set_option linter.unusedVariables false
set_option maxHeartbeats 16000000
def m_spec_IsAct (a : YAct) : Option Bool :=
 (jn 2 7 (
 cond (decide (a.kind = 1))
 ((m_spec_IsParcel a.parcel).bind fun y1 =>
 cond (!y1)
 (some (.inr false))
 (some (.inl ())))
 (cond (!decide (a.parcel.label = (⟨0, 0, ⟨#[]⟩⟩ : YLabel)))
 (some (.inr false))
 (cond (!decide (a.parcel.from_ = ⟨#[]⟩))
 (some (.inr false))
 (cond (!decide (a.parcel.weight = 0))
 (some (.inr false))
 (cond (decide (0 < (a.parcel.sides.length : Int)))
 (some (.inr false))
 (cond (!decide (a.parcel.value = 0))
 (some (.inr false))
 (some (.inl ()))))))) : Option (Unit ⊕ Bool)) (fun z2 => (.un :: .be 0 0 0 :: .un :: .un :: .un :: .un :: .un :: .un :: .un :: .un :: .un :: .un :: .un :: .un :: .un :: .un :: .un :: .un :: .un :: .un :: .un :: .un :: .un :: .un :: .un :: .un :: .un :: .un :: .un :: .un :: .un :: .un :: .un :: .un :: .un :: .un :: .un :: .un :: .un :: .un :: .un :: .un :: .un :: .un :: .un :: .un :: .un :: .un :: .un :: .un :: .un :: .un :: .un :: .un :: .un :: .un :: .un :: .un :: .un :: .un :: .un :: .un :: .un :: .un :: .un :: .un :: .un :: .un :: .un :: .un :: .un :: .un :: .un :: .un :: .un :: .un :: .un :: .un :: .un :: .un :: .un :: .un :: .un :: .un :: .un :: .un :: .un :: .un :: .un :: .un :: .un :: .un :: .un :: .un :: .un :: .un :: .un :: .un :: .un :: .un :: .un :: .un :: .un :: .un :: .un :: .un :: .un :: .un :: .un :: .un :: .un :: .un :: .un :: .un :: .un :: .un :: .un :: .un :: .un :: .un :: .un :: .un :: .un :: .un :: .un :: .un :: .un :: .un :: .un :: .un :: .un :: [])) (fun z2 => [some ⟨38, 13, [[vi a.kind, vi a.parcel.label.service, vi a.parcel.label.serial, vs a.parcel.label.to_, vs a.parcel.from_, vi a.parcel.weight, .sl (a.parcel.sides.map cInt), vi a.parcel.value, vi a.order, vi a.amount, vi a.until_, vi a.trip.leg, vi a.trip.day]]⟩])).bind (selim (fun z2 =>
 (jn 7 8 (
 cond (decide (a.kind = 2))
 (some (.inl true))
 (some (.inl (decide (a.kind = 6)))) : Option (Bool ⊕ Empty)) (fun z3 => (.un :: .be 0 0 0 :: .un :: .un :: vb z3 :: .un :: .un :: .un :: .un :: .un :: .un :: .un :: .un :: .un :: .un :: .un :: .un :: .un :: .un :: .un :: .un :: .un :: .un :: .un :: .un :: .un :: .un :: .un :: .un :: .un :: .un :: .un :: .un :: .un :: .un :: .un :: .un :: .un :: .un :: .un :: .un :: .un :: .un :: .un :: .un :: .un :: .un :: .un :: .un :: .un :: .un :: .un :: .un :: .un :: .un :: .un :: .un :: .un :: .un :: .un :: .un :: .un :: .un :: .un :: .un :: .un :: .un :: .un :: .un :: .un :: .un :: .un :: .un :: .un :: .un :: .un :: .un :: .un :: .un :: .un :: .un :: .un :: .un :: .un :: .un :: .un :: .un :: .un :: .un :: .un :: .un :: .un :: .un :: .un :: .un :: .un :: .un :: .un :: .un :: .un :: .un :: .un :: .un :: .un :: .un :: .un :: .un :: .un :: .un :: .un :: .un :: .un :: .un :: .un :: .un :: .un :: .un :: .un :: .un :: .un :: .un :: .un :: .un :: .un :: .un :: .un :: .un :: .un :: .un :: .un :: .un :: [])) (fun z3 => [some ⟨38, 13, [[vi a.kind, vi a.parcel.label.service, vi a.parcel.label.serial, vs a.parcel.label.to_, vs a.parcel.from_, vi a.parcel.weight, .sl (a.parcel.sides.map cInt), vi a.parcel.value, vi a.order, vi a.amount, vi a.until_, vi a.trip.leg, vi a.trip.day]]⟩])).bind (selim (fun z3 =>
 (jn 8 10 (
 cond z3
 ((m_spec_l1In a.order 1 9999).bind fun y4 =>
 cond (!y4)
 (some (.inr false))
 (cond (!z3)
 (cond (!decide (a.order = 0))
 (some (.inr false))
 (some (.inl ())))
 (some (.inl ()))))
 (cond (!z3)
 (cond (!decide (a.order = 0))
 (some (.inr false))
 (some (.inl ())))
 (some (.inl ()))) : Option (Unit ⊕ Bool)) (fun z5 => (.un :: .be 0 0 0 :: .un :: .un :: .un :: .un :: .un :: .un :: .un :: .un :: .un :: .un :: .un :: .un :: .un :: .un :: .un :: .un :: .un :: .un :: .un :: .un :: .un :: .un :: .un :: .un :: .un :: .un :: .un :: .un :: .un :: .un :: .un :: .un :: .un :: .un :: .un :: .un :: .un :: .un :: .un :: .un :: .un :: .un :: .un :: .un :: .un :: .un :: .un :: .un :: .un :: .un :: .un :: .un :: .un :: .un :: .un :: .un :: .un :: .un :: .un :: .un :: .un :: .un :: .un :: .un :: .un :: .un :: .un :: .un :: .un :: .un :: .un :: .un :: .un :: .un :: .un :: .un :: .un :: .un :: .un :: .un :: .un :: .un :: .un :: .un :: .un :: .un :: .un :: .un :: .un :: .un :: .un :: .un :: .un :: .un :: .un :: .un :: .un :: .un :: .un :: .un :: .un :: .un :: .un :: .un :: .un :: .un :: .un :: .un :: .un :: .un :: .un :: .un :: .un :: .un :: .un :: .un :: .un :: .un :: .un :: .un :: .un :: .un :: .un :: .un :: .un :: .un :: .un :: .un :: .un :: [])) (fun z5 => [some ⟨38, 13, [[vi a.kind, vi a.parcel.label.service, vi a.parcel.label.serial, vs a.parcel.label.to_, vs a.parcel.from_, vi a.parcel.weight, .sl (a.parcel.sides.map cInt), vi a.parcel.value, vi a.order, vi a.amount, vi a.until_, vi a.trip.leg, vi a.trip.day]]⟩])).bind (selim (fun z5 =>
 (jn 10 12 (
 cond (decide (a.kind = 2))
 ((m_spec_l1In a.amount 1 100000).bind fun y6 =>
 cond (!y6)
 (some (.inr false))
 (cond (!decide (a.kind = 2))
 (cond (!decide (a.amount = 0))
 (some (.inr false))
 (some (.inl ())))
 (some (.inl ()))))
 (cond (!decide (a.kind = 2))
 (cond (!decide (a.amount = 0))
 (some (.inr false))
 (some (.inl ())))
 (some (.inl ()))) : Option (Unit ⊕ Bool)) (fun z7 => (.un :: .be 0 0 0 :: .un :: .un :: .un :: .un :: .un :: .un :: .un :: .un :: .un :: .un :: .un :: .un :: .un :: .un :: .un :: .un :: .un :: .un :: .un :: .un :: .un :: .un :: .un :: .un :: .un :: .un :: .un :: .un :: .un :: .un :: .un :: .un :: .un :: .un :: .un :: .un :: .un :: .un :: .un :: .un :: .un :: .un :: .un :: .un :: .un :: .un :: .un :: .un :: .un :: .un :: .un :: .un :: .un :: .un :: .un :: .un :: .un :: .un :: .un :: .un :: .un :: .un :: .un :: .un :: .un :: .un :: .un :: .un :: .un :: .un :: .un :: .un :: .un :: .un :: .un :: .un :: .un :: .un :: .un :: .un :: .un :: .un :: .un :: .un :: .un :: .un :: .un :: .un :: .un :: .un :: .un :: .un :: .un :: .un :: .un :: .un :: .un :: .un :: .un :: .un :: .un :: .un :: .un :: .un :: .un :: .un :: .un :: .un :: .un :: .un :: .un :: .un :: .un :: .un :: .un :: .un :: .un :: .un :: .un :: .un :: .un :: .un :: .un :: .un :: .un :: .un :: .un :: .un :: .un :: [])) (fun z7 => [some ⟨38, 13, [[vi a.kind, vi a.parcel.label.service, vi a.parcel.label.serial, vs a.parcel.label.to_, vs a.parcel.from_, vi a.parcel.weight, .sl (a.parcel.sides.map cInt), vi a.parcel.value, vi a.order, vi a.amount, vi a.until_, vi a.trip.leg, vi a.trip.day]]⟩])).bind (selim (fun z7 =>
 (jn 12 14 (
 cond (decide (a.kind = 3))
 ((m_spec_l1In a.until_ 0 100000).bind fun y8 =>
 cond (!y8)
 (some (.inr false))
 (cond (!decide (a.kind = 3))
 (cond (!decide (a.until_ = 0))
 (some (.inr false))
 (some (.inl ())))
 (some (.inl ()))))
 (cond (!decide (a.kind = 3))
 (cond (!decide (a.until_ = 0))
 (some (.inr false))
 (some (.inl ())))
 (some (.inl ()))) : Option (Unit ⊕ Bool)) (fun z9 => (.un :: .be 0 0 0 :: .un :: .un :: .un :: .un :: .un :: .un :: .un :: .un :: .un :: .un :: .un :: .un :: .un :: .un :: .un :: .un :: .un :: .un :: .un :: .un :: .un :: .un :: .un :: .un :: .un :: .un :: .un :: .un :: .un :: .un :: .un :: .un :: .un :: .un :: .un :: .un :: .un :: .un :: .un :: .un :: .un :: .un :: .un :: .un :: .un :: .un :: .un :: .un :: .un :: .un :: .un :: .un :: .un :: .un :: .un :: .un :: .un :: .un :: .un :: .un :: .un :: .un :: .un :: .un :: .un :: .un :: .un :: .un :: .un :: .un :: .un :: .un :: .un :: .un :: .un :: .un :: .un :: .un :: .un :: .un :: .un :: .un :: .un :: .un :: .un :: .un :: .un :: .un :: .un :: .un :: .un :: .un :: .un :: .un :: .un :: .un :: .un :: .un :: .un :: .un :: .un :: .un :: .un :: .un :: .un :: .un :: .un :: .un :: .un :: .un :: .un :: .un :: .un :: .un :: .un :: .un :: .un :: .un :: .un :: .un :: .un :: .un :: .un :: .un :: .un :: .un :: .un :: .un :: .un :: [])) (fun z9 => [some ⟨38, 13, [[vi a.kind, vi a.parcel.label.service, vi a.parcel.label.serial, vs a.parcel.label.to_, vs a.parcel.from_, vi a.parcel.weight, .sl (a.parcel.sides.map cInt), vi a.parcel.value, vi a.order, vi a.amount, vi a.until_, vi a.trip.leg, vi a.trip.day]]⟩])).bind (selim (fun z9 =>
 (jn 14 16 (
 cond (decide (a.kind = 4))
 ((m_spec_l1In a.trip.leg 0 19).bind fun y10 =>
 cond (!y10)
 (some (.inr false))
 ((m_spec_l1In a.trip.day 0 60).bind fun y11 =>
 cond (!y11)
 (some (.inr false))
 (cond (!decide (a.kind = 4))
 (cond (!decide (a.trip = (⟨0, 0⟩ : YTrip)))
 (some (.inr false))
 (some (.inl ())))
 (some (.inl ())))))
 (cond (!decide (a.kind = 4))
 (cond (!decide (a.trip = (⟨0, 0⟩ : YTrip)))
 (some (.inr false))
 (some (.inl ())))
 (some (.inl ()))) : Option (Unit ⊕ Bool)) (fun z12 => (.un :: .be 0 0 0 :: .un :: .un :: .un :: .un :: .un :: .un :: .un :: .un :: .un :: .un :: .un :: .un :: .un :: .un :: .un :: .un :: .un :: .un :: .un :: .un :: .un :: .un :: .un :: .un :: .un :: .un :: .un :: .un :: .un :: .un :: .un :: .un :: .un :: .un :: .un :: .un :: .un :: .un :: .un :: .un :: .un :: .un :: .un :: .un :: .un :: .un :: .un :: .un :: .un :: .un :: .un :: .un :: .un :: .un :: .un :: .un :: .un :: .un :: .un :: .un :: .un :: .un :: .un :: .un :: .un :: .un :: .un :: .un :: .un :: .un :: .un :: .un :: .un :: .un :: .un :: .un :: .un :: .un :: .un :: .un :: .un :: .un :: .un :: .un :: .un :: .un :: .un :: .un :: .un :: .un :: .un :: .un :: .un :: .un :: .un :: .un :: .un :: .un :: .un :: .un :: .un :: .un :: .un :: .un :: .un :: .un :: .un :: .un :: .un :: .un :: .un :: .un :: .un :: .un :: .un :: .un :: .un :: .un :: .un :: .un :: .un :: .un :: .un :: .un :: .un :: .un :: .un :: .un :: .un :: [])) (fun z12 => [some ⟨38, 13, [[vi a.kind, vi a.parcel.label.service, vi a.parcel.label.serial, vs a.parcel.label.to_, vs a.parcel.from_, vi a.parcel.weight, .sl (a.parcel.sides.map cInt), vi a.parcel.value, vi a.order, vi a.amount, vi a.until_, vi a.trip.leg, vi a.trip.day]]⟩])).bind (selim (fun z12 =>
 (m_spec_l1In a.kind 1 6).bind fun y13 =>
 some y13) (fun r => some r))) (fun r => some r))) (fun r => some r))) (fun r => some r))) (fun r => nomatch r))) (fun r => some r))
theorem ok_spec_IsAct (a : YAct) {r : Bool} (H : m_spec_IsAct a = some r) : CallM Tryz.prog 16 [.ag (cAct a)] [] (vb r) [] := by
  replace H := H0 H
  unfold m_spec_IsAct at H
  refine callM_of Tryz.func16 rfl Tryz.ntmps16 Tryz.results16 fun Q hQ hQn => ?_
  exact wk2
instance (a : YAct) : CT Tryz.prog (m_spec_IsAct a) := ⟨16, [.ag (cAct a)], [], fun r => vb r, fun r => [], ok_spec_IsAct a⟩
end Go.Proofs.YtooikkfldddjfaaGreatDoor

/- Sides, labels, parcels and acts: the two sides answer alike. -/
namespace Go.Proofs.YtooikkfldddjfaaGreatDoor
set_option maxRecDepth 10000
open Go.RowKit Go.Sort
set_option linter.unusedVariables false
set_option linter.unusedSimpArgs false
set_option maxHeartbeats 1000000
theorem threeB_eq : @m_impl_threeSides_b0 = @m_spec_l2Three_b0 := by
  funext l i; unfold m_impl_threeSides_b0 m_spec_l2Three_b0; rw [within_eq]
theorem three_eq (l : List Int) : m_impl_threeSides l = m_spec_l2Three l := by
  unfold m_impl_threeSides m_spec_l2Three; rw [threeB_eq]
def threeV (l : List Int) : Bool := l.all (fun n => decide (1 ≤ n) && decide (n ≤ 2000)) && decide ((l.length : Int) = 3)
theorem three_v {l : List Int} (h : l.length < NN) : m_spec_l2Three l = some (threeV l) := by
  have e : iterF (m_spec_l2Three_b0 l) NN 0 = some (if l.any (fun n => !(decide (1 ≤ n) && decide (n ≤ 2000))) = true then .inr false else .inl ()) := by
    refine iter_find (fun i hi => ?_) ?_ h
    · have hx : l[i]? = some l[i] := List.getElem?_eq_getElem hi
      have hw := w64_nat hi (by unfold NN at h; omega)
      unfold m_spec_l2Three_b0
      rw [decide_eq_true (by omega : (i : Int) < l.length), cond_true, getI_nat, hx, Option.bind_some, l1In_v, Option.bind_some, hw]
      cases (decide (1 ≤ l[i]) && decide (l[i] ≤ 2000)) <;> rfl
    · unfold m_spec_l2Three_b0
      rw [decide_eq_false (by omega : ¬ ((l.length : Int) < l.length))]; rfl
  unfold m_spec_l2Three threeV
  rw [e, List.all_eq_not_any_not]
  cases l.any (fun n => !(decide (1 ≤ n) && decide (n ≤ 2000))) <;> rfl
theorem iter_more {σ ο : Type} {body : σ → Option (σ ⊕ ο)} {o : ο} : ∀ {n : Nat} {s : σ}, iterF body n s = some o → ∀ k, iterF body (n + k) s = some o
  | 0, s, h, k => by cases h
  | n + 1, s, h, k => by
    rw [Nat.add_right_comm]
    unfold iterF at *
    cases hb : body s with
    | none => rw [hb] at h; cases h
    | some x =>
      rw [hb] at h
      cases x with
      | inl s' => exact iter_more (n := n) h k
      | inr o' => exact h
theorem iter_NN {σ ο : Type} {body : σ → Option (σ ⊕ ο)} {o : ο} {n : Nat} {s : σ} (h : iterF body n s = some o) (hn : n ≤ NN) : iterF body NN s = some o := by
  have := iter_more h (NN - n)
  rwa [Nat.add_sub_cancel' hn] at this
theorem itl {σ ο : Type} {body : σ → Option (σ ⊕ ο)} {n : Nat} {s s' : σ} (h : body s = some (.inl s')) : iterF body (n + 1) s = iterF body n s' := by
  show (body s).bind _ = _
  rw [h]; rfl
theorem itr {σ ο : Type} {body : σ → Option (σ ⊕ ο)} {n : Nat} {s : σ} {o : ο} (h : body s = some (.inr o)) : iterF body (n + 1) s = some o := by
  show (body s).bind _ = _
  rw [h]; rfl
theorem w1 : w64 1 = 1 := by decide
theorem w2 : w64 2 = 2 := by decide
theorem w3 : w64 3 = 3 := by decide
/-- Where y goes. -/
def pos2 (a b y : Int) : Int := if y ≤ a then (if y ≤ b then 2 else 1) else 0
theorem inn0 (l : List Int) (i : Int) : iterF (m_spec_SortSides_b1 l (i, [])) NN 0 = some ((0 : Nat) : Int) := iter_NN (n := 1) (itr (by simp [m_spec_SortSides_b1])) (by unfold NN; omega)
theorem inn1 {l : List Int} {i y a : Int} (h : getI l i = some y) : iterF (m_spec_SortSides_b1 l (i, [a])) NN 0 = some (((if y ≤ a then 1 else 0 : Nat)) : Int) := by
  refine iter_NN (n := 2) ?_ (by unfold NN; omega)
  have q0 : getI [a] 0 = some a := rfl
  by_cases h1 : y ≤ a
  · rw [if_pos h1, itl (s' := 1) (by simp [m_spec_SortSides_b1, h, q0, h1, w1]), itr (o := 1) (by simp [m_spec_SortSides_b1])]; rfl
  · rw [if_neg h1, itr (o := 0) (by simp [m_spec_SortSides_b1, h, q0, h1])]; rfl
theorem inn2 {l : List Int} {i y a b : Int} (h : getI l i = some y) : iterF (m_spec_SortSides_b1 l (i, [a, b])) NN 0 = some (((if y ≤ a then (if y ≤ b then 2 else 1) else 0 : Nat)) : Int) := by
  refine iter_NN (n := 3) ?_ (by unfold NN; omega)
  have q0 : getI [a, b] 0 = some a := rfl
  have q1 : getI [a, b] 1 = some b := rfl
  by_cases h1 : y ≤ a
  · rw [if_pos h1, itl (s' := 1) (by simp [m_spec_SortSides_b1, h, q0, h1, w1])]
    by_cases h2 : y ≤ b
    · rw [if_pos h2, itl (s' := 2) (by simp [m_spec_SortSides_b1, h, q1, h2, w2]), itr (o := 2) (by simp [m_spec_SortSides_b1])]; rfl
    · rw [if_neg h2, itr (o := 1) (by simp [m_spec_SortSides_b1, h, q1, h2])]; rfl
  · rw [if_neg h1, itr (o := 0) (by simp [m_spec_SortSides_b1, h, q0, h1])]; rfl
theorem l1Ints_v {l : List Int} (h : l.length ≤ 1048576) : m_spec_l1Ints l = some l := by
  have c : chk (appOk (([] : List Int).length + l.length) 8) = some () := chk_t (decide_eq_true ⟨by simp; omega, by simp; omega⟩)
  unfold m_spec_l1Ints
  rw [c]
  rfl
theorem outb {l out : List Int} {i y : Int} {k : Nat} (hi : i < (l.length : Int)) (hy : getI l i = some y) (hk : iterF (m_spec_SortSides_b1 l (i, out)) NN 0 = some (k : Int)) (hkl : k ≤ out.length) (hl : out.length ≤ 1000) :
    m_spec_SortSides_b0 l (i, out) = some (.inl (w64 (i + 1), out.take k ++ [y] ++ out.drop k)) := by
  unfold m_spec_SortSides_b0
  have t1 : subL out 0 (k : Int) = out.take k := by simp [subL]
  have t2 : subL out (k : Int) (out.length : Int) = out.drop k := by simp only [subL, Int.toNat_natCast]; exact List.take_of_length_le (by simp)
  have c1 : chk (slOk 0 (k : Int) (out.length : Int)) = some () := chk_t (decide_eq_true ⟨by omega, by omega, by omega⟩)
  have c2 : chk (slOk (k : Int) (out.length : Int) (out.length : Int)) = some () := chk_t (decide_eq_true ⟨by omega, by omega, by omega⟩)
  have c3 : chk (appOk ((out.take k).length + ([y] : List Int).length) 8) = some () := chk_t (decide_eq_true ⟨by simp; omega, by simp; omega⟩)
  have c4 : chk (appOk ((out.take k ++ [y]).length + (out.drop k).length) 8) = some () := chk_t (decide_eq_true ⟨by simp; omega, by simp; omega⟩)
  simp only [decide_eq_true hi, cond_true, hk, Option.bind_some, c1, t1, l1Ints_v (l := out.take k) (by simp; omega), hy, c3, c2, t2, c4]
theorem srt_spec (x y z : Int) : m_spec_SortSides [x, y, z] = some (srt3 [x, y, z]) := by
  have g0 : getI [x, y, z] 0 = some x := rfl
  have g1 : getI [x, y, z] 1 = some y := rfl
  have g2 : getI [x, y, z] 2 = some z := rfl
  have e : iterF (m_spec_SortSides_b0 [x, y, z]) NN (0, []) = some (srt3 [x, y, z]) := by
    refine iter_NN (n := 4) ?_ (by unfold NN; omega)
    have e0 := outb (l := [x, y, z]) (by simp) g0 (inn0 _ _) (Nat.le_refl _) (by simp)
    have hE : ∀ o : List Int, m_spec_SortSides_b0 [x, y, z] (3, o) = some (.inr o) := fun o => by simp [m_spec_SortSides_b0]
    simp only [List.take_nil, List.drop_nil, List.nil_append, List.append_nil, show w64 ((0 : Int) + 1) = 1 by decide] at e0
    have e1 := outb (l := [x, y, z]) (out := [x]) (by simp) g1 (inn1 g1) (by split <;> simp) (by simp)
    simp only [show w64 ((1 : Int) + 1) = 2 by decide] at e1
    have e2 := fun a b => outb (l := [x, y, z]) (out := [a, b]) (by simp) g2 (inn2 g2) (by split <;> (try split) <;> simp) (by simp)
    simp only [show w64 ((2 : Int) + 1) = 3 by decide] at e2
    have hs : srt3 [x, y, z] = (Sort.insertionSort gtI #[x, y, z] 0 3).toList := rfl
    rw [hs]
    unfold Sort.insertionSort
    rw [insOuter, if_pos (by omega), insOuter, if_pos (by omega), insOuter, if_neg (by omega)]
    by_cases h1 : y ≤ x
    · have h1' : ¬ x < y := by omega
      rw [if_pos h1] at e1
      have e2' := e2 x y
      by_cases h2 : z ≤ x
      · by_cases h3 : z ≤ y
        · rw [if_pos h2, if_pos h3] at e2'
          simp at e1 e2'
          rw [itl e0, itl e1, itl e2', itr (hE _)]; simp [insInner, swp, gtI, h1', show ¬ y < z by omega]
        · rw [if_pos h2, if_neg h3] at e2'
          simp at e1 e2'
          rw [itl e0, itl e1, itl e2', itr (hE _)]; simp [insInner, swp, gtI, h1', show y < z by omega, show ¬ x < z by omega]
      · rw [if_neg h2] at e2'
        simp at e1 e2'
        rw [itl e0, itl e1, itl e2', itr (hE _)]; simp [insInner, swp, gtI, h1', show y < z by omega, show x < z by omega]
    · have h1' : x < y := by omega
      rw [if_neg h1] at e1
      have e2' := e2 y x
      by_cases h2 : z ≤ y
      · by_cases h3 : z ≤ x
        · rw [if_pos h2, if_pos h3] at e2'
          simp at e1 e2'
          rw [itl e0, itl e1, itl e2', itr (hE _)]; simp [insInner, swp, gtI, h1', show ¬ x < z by omega]
        · rw [if_pos h2, if_neg h3] at e2'
          simp at e1 e2'
          rw [itl e0, itl e1, itl e2', itr (hE _)]; simp [insInner, swp, gtI, h1', show x < z by omega, show ¬ y < z by omega]
      · rw [if_neg h2] at e2'
        simp at e1 e2'
        rw [itl e0, itl e1, itl e2', itr (hE _)]; simp [insInner, swp, gtI, h1', show y < z by omega, show x < z by omega]
  unfold m_spec_SortSides
  rw [e]; rfl
theorem three_len {l : List Int} (h : threeV l = true) : l.length = 3 := by
  unfold threeV at h
  have := (Bool.and_eq_true _ _ ▸ h : _ ∧ _).2
  have := of_decide_eq_true this
  omega
theorem girth_eq {l : List Int} (h : l.length < NN) : m_impl_GirthOf l = m_spec_GirthOf l ∧ ∃ b, m_spec_GirthOf l = some b := by
  unfold m_impl_GirthOf m_spec_GirthOf
  rw [three_eq, three_v h]
  cases ht : threeV l with
  | false => exact ⟨rfl, _, rfl⟩
  | true =>
    have h3 := three_len ht
    match l, h3 with
    | [x, y, z], _ =>
      have hm : m_impl_SortSides [x, y, z] = some (srt3 [x, y, z]) := if_pos rfl
      have hl := srt3_len [x, y, z]
      match hs : srt3 [x, y, z], hl with
      | [a, b, c], _ =>
        simp only [srt_spec, hm, hs, Option.bind_some, Bool.not_true, cond_false]
        exact ⟨trivial, _, rfl⟩
theorem label_eq {l : YLabel} (h : l.to_.size ≤ B60) : m_impl_IsLabel l = m_spec_IsLabel l ∧ ∃ b, m_spec_IsLabel l = some b := by
  obtain ⟨e, b, hb⟩ := isPlace_eq h
  unfold m_impl_IsLabel m_spec_IsLabel
  rw [within_eq, e, hb, l1In_v, l1In_v]
  refine ⟨rfl, ?_⟩
  cases (decide (1 ≤ l.service) && decide (l.service ≤ 3)) <;> cases (decide (0 ≤ l.serial) && decide (l.serial ≤ 999999999)) <;> exact ⟨_, rfl⟩
theorem parcel_eq {p : YParcel} (h1 : p.label.to_.size ≤ B60) (h2 : p.from_.size ≤ B60) (h3 : p.sides.length < NN) : m_impl_IsParcel p = m_spec_IsParcel p ∧ ∃ b, m_spec_IsParcel p = some b := by
  obtain ⟨e1, b1, hb1⟩ := label_eq h1
  obtain ⟨e2, b2, hb2⟩ := isPlace_eq h2
  obtain ⟨e3, b3, hb3⟩ := girth_eq h3
  unfold m_impl_IsParcel m_spec_IsParcel
  rw [within_eq, e1, e2, e3, three_eq, hb1, hb2, hb3, three_v h3, l1In_v, l1In_v]
  refine ⟨rfl, ?_⟩
  simp only [Option.bind_some]
  generalize (decide (1 ≤ p.weight) && decide (p.weight ≤ 30000)) = c1
  generalize threeV p.sides = c2
  generalize decide (b3 ≤ 3600) = c3
  generalize (!decide (p.from_ = p.label.to_)) = c4
  cases b1
  · exact ⟨_, rfl⟩
  cases b2
  · exact ⟨_, rfl⟩
  cases c4
  · exact ⟨_, rfl⟩
  cases c1
  · exact ⟨_, rfl⟩
  cases c2
  · exact ⟨_, rfl⟩
  cases c3 <;> exact ⟨_, rfl⟩
theorem same_v {a b : List Int} (h : a.length < NN) : m_impl_same_int_ a b = some (decide (a = b)) := by
  unfold m_impl_same_int_
  by_cases hl : a.length = b.length
  · have e : iterF (m_impl_same_int__b0 a b) NN 0 = some (if (List.range a.length).all (fun i => decide (a[i]? = b[i]?)) = true then .inl () else .inr false) := by
      refine iter_check (fun i hi _ => ?_) (fun _ => ?_) h
      · have hx : a[i]? = some a[i] := List.getElem?_eq_getElem hi
        have hy : b[i]? = some b[i] := List.getElem?_eq_getElem (by omega)
        have hw := w64_nat hi (by unfold NN at h; omega)
        unfold m_impl_same_int__b0
        rw [decide_eq_true (by omega : (i : Int) < a.length), cond_true, getI_nat, getI_nat, hx, hy, Option.bind_some, Option.bind_some, hw]
        by_cases he : a[i] = b[i] <;> simp [he]
      · unfold m_impl_same_int__b0
        rw [decide_eq_false (by omega : ¬ ((a.length : Int) < a.length))]; rfl
    rw [decide_eq_true (by omega : (a.length : Int) = b.length), e]
    by_cases hab : a = b
    · subst hab
      simp
    · rw [if_neg, decide_eq_false hab]
      · rfl
      · intro hall
        refine hab (List.ext_getElem? fun i => ?_)
        by_cases hi : i < a.length
        · exact of_decide_eq_true (List.all_eq_true.1 hall i (List.mem_range.2 hi))
        · rw [List.getElem?_eq_none (by omega), List.getElem?_eq_none (by omega)]
  · rw [decide_eq_false (by omega : ¬ ((a.length : Int) = b.length)), decide_eq_false (fun e => hl (by rw [e]))]
    rfl
theorem jn_eq {ο α : Type} (i j : Nat) (J : Option (ο ⊕ α)) (T : ο → List PV) (M : ο → Mem) : jn i j J T M = J := by unfold jn; rfl
theorem cnd1 (b c : Bool) : (bif b then some c else some false) = some (b && c) := by cases b <;> rfl
theorem cnd2 (b c : Bool) : (bif !b then some false else some c) = some (b && c) := by cases b <;> rfl
theorem cnd3 (b c : Bool) : (bif b then some false else some c) = some (!b && c) := by cases b <;> rfl
theorem bndc {α β : Type} (b : Bool) (X Y : Option α) (S : α → Option β) : (bif b then X else Y).bind S = bif b then X.bind S else Y.bind S := by cases b <;> rfl
theorem bexI {α β γ : Type} {o : α} {F : α → Option γ} {G : β → Option γ} : (some (Sum.inl o)).bind (selim F G) = F o := rfl
theorem bexO {α β γ : Type} {o : β} {F : α → Option γ} {G : β → Option γ} : (some (Sum.inr o)).bind (selim F G) = G o := rfl
theorem sameParcels_v {a b : YParcel} (h : a.sides.length < NN) : m_impl_sameParcels a b = some (decide (a.label = b.label) && (decide (a.from_ = b.from_) && (decide (a.weight = b.weight) && (decide (a.sides = b.sides) && decide (a.value = b.value))))) := by
  unfold m_impl_sameParcels
  simp only [same_v h, Option.bind_some, cnd1]
theorem sameActs_v {a b : YAct} (h : a.parcel.sides.length < NN) : m_impl_sameActs a b = some (decide (a.kind = b.kind) && ((decide (a.parcel.label = b.parcel.label) && (decide (a.parcel.from_ = b.parcel.from_) && (decide (a.parcel.weight = b.parcel.weight) && (decide (a.parcel.sides = b.parcel.sides) && decide (a.parcel.value = b.parcel.value))))) && (decide (a.order = b.order) && (decide (a.amount = b.amount) && (decide (a.until_ = b.until_) && decide (a.trip = b.trip)))))) := by
  unfold m_impl_sameActs
  simp only [sameParcels_v h, Option.bind_some, cnd1]
theorem act_eq {a : YAct} (h1 : a.parcel.label.to_.size ≤ B60) (h2 : a.parcel.from_.size ≤ B60) (h3 : a.parcel.sides.length < NN) : ∃ b, m_impl_IsAct a = some b ∧ m_spec_IsAct a = some b := by
  obtain ⟨e1, b1, hb1⟩ := parcel_eq h1 h2 h3
  have hz : decide (0 < (a.parcel.sides.length : Int)) = !decide (a.parcel.sides = []) := by
    cases a.parcel.sides <;> simp
  unfold m_impl_IsAct m_spec_IsAct
  simp only [jn_eq, within_eq, e1, hb1, l1In_v, sameActs_v h3, hz, Option.bind_some]
  generalize hq1 : decide (a.parcel.label = ⟨0, 0, ⟨#[]⟩⟩) = q1
  generalize hq2 : decide (a.parcel.from_ = ⟨#[]⟩) = q2
  generalize hq3 : decide (a.parcel.weight = 0) = q3
  generalize hq4 : decide (a.parcel.sides = []) = q4
  generalize hq5 : decide (a.parcel.value = 0) = q5
  generalize hq6 : decide (a.order = 0) = q6
  generalize hq7 : decide (a.amount = 0) = q7
  generalize hq8 : decide (a.until_ = 0) = q8
  generalize hq9 : decide (a.trip = ⟨0, 0⟩) = q9
  have kk : a.kind = 1 ∨ a.kind = 2 ∨ a.kind = 3 ∨ a.kind = 4 ∨ a.kind = 5 ∨ a.kind = 6 ∨ (a.kind ≠ 1 ∧ a.kind ≠ 2 ∧ a.kind ≠ 3 ∧ a.kind ≠ 4 ∧ a.kind ≠ 5 ∧ a.kind ≠ 6) := by omega
  rcases kk with k | k | k | k | k | k | ⟨n1, n2, n3, n4, n5, n6⟩
  all_goals try (simp only [n1, n2, n3, n4, n5, n6, Int.reduceEq, decide_true, decide_false, Bool.not_true, Bool.not_false, cond_true, cond_false, Option.bind_some, selim, bndc])
  all_goals try simp only [k, Int.reduceEq, decide_true, decide_false, Bool.not_true, Bool.not_false, cond_true, cond_false, Option.bind_some, selim, bndc]
  case inr.inr.inr.inr.inr.inr =>
    have hf : (decide (1 ≤ a.kind) && decide (a.kind ≤ 6)) = false := by
      rw [Bool.and_eq_false_iff, decide_eq_false_iff_not, decide_eq_false_iff_not]; omega
    simp only [hf, cnd1, cnd2, Bool.and_false]
    exact ⟨_, rfl, rfl⟩
  all_goals
    simp only [hq1, hq2, hq3, hq4, hq5, hq6, hq7, hq8, hq9, cnd1, cnd2, Bool.true_and, Bool.and_true, Int.reduceLE, decide_true]
    exact ⟨_, rfl, by congr 1; try ac_rfl⟩
end Go.Proofs.YtooikkfldddjfaaGreatDoor

/- The mirror of impl_bodyOf, and that the code does just that (printed by a program of my own). -/
namespace Go.Proofs.YtooikkfldddjfaaGreatDoor
set_option maxRecDepth 10000
open Go.RowKit
set_option linter.unusedVariables false
set_option maxHeartbeats 16000000
def m_impl_bodyOf (l : YLabel) : Option ByteArray :=
 (m_impl_FormatInt l.service).bind fun y1 =>
 (m_impl_padded l.serial 9).bind fun y2 =>
 (chk (strOk y1 y2)).bind fun _ =>
 (chk (strOk (y1 ++ y2) l.to_)).bind fun _ =>
 some ((y1 ++ y2) ++ l.to_)
theorem ok_impl_bodyOf (l : YLabel) {r : ByteArray} (H : m_impl_bodyOf l = some r) : CallM Tryz.prog 56 [.ag (cLabel l)] [] (vs r) [] := by
  replace H := H0 H
  unfold m_impl_bodyOf at H
  refine callM_of Tryz.func56 rfl Tryz.ntmps56 Tryz.results56 fun Q hQ hQn => ?_
  exact wk2
instance (l : YLabel) : CT Tryz.prog (m_impl_bodyOf l) := ⟨56, [.ag (cLabel l)], [], fun r => vs r, fun r => [], ok_impl_bodyOf l⟩
end Go.Proofs.YtooikkfldddjfaaGreatDoor

/- The mirror of impl_CheckOf, and that the code does just that (printed by a program of my own). -/
namespace Go.Proofs.YtooikkfldddjfaaGreatDoor
set_option maxRecDepth 10000
open Go.RowKit
set_option linter.unusedVariables false
set_option maxHeartbeats 16000000
def m_impl_CheckOf (l : YLabel) : Option Int :=
 (m_impl_IsLabel l).bind fun y1 =>
 cond (!y1)
 (some (-1))
 ((m_impl_bodyOf l).bind fun y2 =>
 (m_impl_Digits y2).bind fun y3 =>
 (chk (strOk y3.1 (⟨#[48, 48]⟩))).bind fun _ =>
 (m_impl_Mod97 (y3.1 ++ ⟨#[48, 48]⟩)).bind fun y4 =>
 some (w64 (98 - y4)))
theorem ok_impl_CheckOf (l : YLabel) {r : Int} (H : m_impl_CheckOf l = some r) : CallM Tryz.prog 58 [.ag (cLabel l)] [] (vi r) [] := by
  replace H := H0 H
  unfold m_impl_CheckOf at H
  refine callM_of Tryz.func58 rfl Tryz.ntmps58 Tryz.results58 fun Q hQ hQn => ?_
  exact wk2
instance (l : YLabel) : CT Tryz.prog (m_impl_CheckOf l) := ⟨58, [.ag (cLabel l)], [], fun r => vi r, fun r => [], ok_impl_CheckOf l⟩
end Go.Proofs.YtooikkfldddjfaaGreatDoor

/- The mirror of impl_FormatLabel, and that the code does just that (printed by a program of my own). -/
namespace Go.Proofs.YtooikkfldddjfaaGreatDoor
set_option maxRecDepth 10000
open Go.RowKit
set_option linter.unusedVariables false
set_option maxHeartbeats 16000000
def m_impl_FormatLabel (l : YLabel) : Option ByteArray :=
 (m_impl_IsLabel l).bind fun y1 =>
 cond (!y1)
 (some (⟨#[]⟩))
 ((m_impl_bodyOf l).bind fun y2 =>
 (m_impl_CheckOf l).bind fun y3 =>
 (m_impl_padded y3 2).bind fun y4 =>
 (chk (strOk y2 y4)).bind fun _ =>
 some (y2 ++ y4))
theorem ok_impl_FormatLabel (l : YLabel) {r : ByteArray} (H : m_impl_FormatLabel l = some r) : CallM Tryz.prog 39 [.ag (cLabel l)] [] (vs r) [] := by
  replace H := H0 H
  unfold m_impl_FormatLabel at H
  refine callM_of Tryz.func39 rfl Tryz.ntmps39 Tryz.results39 fun Q hQ hQn => ?_
  exact wk2
instance (l : YLabel) : CT Tryz.prog (m_impl_FormatLabel l) := ⟨39, [.ag (cLabel l)], [], fun r => vs r, fun r => [], ok_impl_FormatLabel l⟩
end Go.Proofs.YtooikkfldddjfaaGreatDoor

/- The mirror of spec_l1Body, and that the code does just that (printed by a program of my own). -/
namespace Go.Proofs.YtooikkfldddjfaaGreatDoor
set_option maxRecDepth 10000
open Go.RowKit
set_option linter.unusedVariables false
set_option maxHeartbeats 16000000
def m_spec_l1Body (l : YLabel) : Option ByteArray :=
 (m_spec_FormatInt l.service).bind fun y1 =>
 (m_spec_l1Padded l.serial 9).bind fun y2 =>
 (chk (strOk y1 y2)).bind fun _ =>
 (chk (strOk (y1 ++ y2) l.to_)).bind fun _ =>
 some ((y1 ++ y2) ++ l.to_)
theorem ok_spec_l1Body (l : YLabel) {r : ByteArray} (H : m_spec_l1Body l = some r) : CallM Tryz.prog 48 [.ag (cLabel l)] [] (vs r) [] := by
  replace H := H0 H
  unfold m_spec_l1Body at H
  refine callM_of Tryz.func48 rfl Tryz.ntmps48 Tryz.results48 fun Q hQ hQn => ?_
  exact wk2
instance (l : YLabel) : CT Tryz.prog (m_spec_l1Body l) := ⟨48, [.ag (cLabel l)], [], fun r => vs r, fun r => [], ok_spec_l1Body l⟩
end Go.Proofs.YtooikkfldddjfaaGreatDoor

/- The mirror of spec_CheckOf, and that the code does just that (printed by a program of my own). -/
namespace Go.Proofs.YtooikkfldddjfaaGreatDoor
set_option maxRecDepth 10000
open Go.RowKit
set_option linter.unusedVariables false
set_option maxHeartbeats 16000000
def m_spec_CheckOf (l : YLabel) : Option Int :=
 (m_spec_IsLabel l).bind fun y1 =>
 cond (!y1)
 (some (-1))
 ((m_spec_l1Body l).bind fun y2 =>
 (chk (strOk y2 (⟨#[48, 48]⟩))).bind fun _ =>
 (m_spec_Digits (y2 ++ ⟨#[48, 48]⟩)).bind fun y3 =>
 (m_spec_Mod97 y3.1).bind fun y4 =>
 some (w64 (98 - y4)))
theorem ok_spec_CheckOf (l : YLabel) {r : Int} (H : m_spec_CheckOf l = some r) : CallM Tryz.prog 50 [.ag (cLabel l)] [] (vi r) [] := by
  replace H := H0 H
  unfold m_spec_CheckOf at H
  refine callM_of Tryz.func50 rfl Tryz.ntmps50 Tryz.results50 fun Q hQ hQn => ?_
  exact wk2
instance (l : YLabel) : CT Tryz.prog (m_spec_CheckOf l) := ⟨50, [.ag (cLabel l)], [], fun r => vi r, fun r => [], ok_spec_CheckOf l⟩
end Go.Proofs.YtooikkfldddjfaaGreatDoor

/- The mirror of spec_FormatLabel, and that the code does just that (printed by a program of my own). -/
namespace Go.Proofs.YtooikkfldddjfaaGreatDoor
set_option maxRecDepth 10000
open Go.RowKit
set_option linter.unusedVariables false
set_option maxHeartbeats 16000000
def m_spec_FormatLabel (l : YLabel) : Option ByteArray :=
 (m_spec_IsLabel l).bind fun y1 =>
 cond (!y1)
 (some (⟨#[]⟩))
 ((m_spec_l1Body l).bind fun y2 =>
 (m_spec_CheckOf l).bind fun y3 =>
 (m_spec_l1Padded y3 2).bind fun y4 =>
 (chk (strOk y2 y4)).bind fun _ =>
 some (y2 ++ y4))
theorem ok_spec_FormatLabel (l : YLabel) {r : ByteArray} (H : m_spec_FormatLabel l = some r) : CallM Tryz.prog 33 [.ag (cLabel l)] [] (vs r) [] := by
  replace H := H0 H
  unfold m_spec_FormatLabel at H
  refine callM_of Tryz.func33 rfl Tryz.ntmps33 Tryz.results33 fun Q hQ hQn => ?_
  exact wk2
instance (l : YLabel) : CT Tryz.prog (m_spec_FormatLabel l) := ⟨33, [.ag (cLabel l)], [], fun r => vs r, fun r => [], ok_spec_FormatLabel l⟩
end Go.Proofs.YtooikkfldddjfaaGreatDoor

/- Labels as_ texts: a valid label's body is digits and letters. -/
namespace Go.Proofs.YtooikkfldddjfaaGreatDoor
set_option maxRecDepth 10000
open Go.RowKit Go.Sort
set_option linter.unusedVariables false
set_option linter.unusedSimpArgs false
set_option maxHeartbeats 1000000
def isDL (c : UInt8) : Prop := (48 ≤ c.toNat ∧ c.toNat ≤ 57) ∨ (65 ≤ c.toNat ∧ c.toNat ≤ 90)
theorem dgt_isDL {c : UInt8} (h : isDL c) : ∃ a, dgt c = some a := by
  unfold dgt
  by_cases h1 : 48 ≤ c.toNat ∧ c.toNat ≤ 57
  · exact ⟨_, if_pos h1⟩
  · rw [if_neg h1]
    rcases h with h | h
    · exact absurd h h1
    · exact ⟨_, if_pos h⟩
theorem dgts_isDL : ∀ {l : List UInt8}, (∀ c ∈ l, isDL c) → ∃ a, dgts l = some a ∧ a.length ≤ 21 * l.length
  | [], _ => ⟨[], rfl, by simp⟩
  | c :: cs, h => by
    obtain ⟨a, ha⟩ := dgt_isDL (h c (by simp))
    obtain ⟨b, hb, hbl⟩ := dgts_isDL (l := cs) fun x hx => h x (by simp [hx])
    have := dgt_len ha
    exact ⟨a ++ b, by simp only [dgts, ha, hb], by simp; omega⟩
theorem dgts_app {l m a b : List UInt8} (h1 : dgts l = some a) (h2 : dgts m = some b) : dgts (l ++ m) = some (a ++ b) := by
  induction l generalizing a with
  | nil => simp [dgts] at h1; subst h1; simpa using h2
  | cons c l ih =>
    simp only [dgts] at h1
    cases hc : dgt c with
    | none => rw [hc] at h1; cases h1
    | some x =>
      cases hl : dgts l with
      | none => rw [hc, hl] at h1; cases h1
      | some y =>
        rw [hc, hl] at h1
        cases h1
        simp only [List.cons_append, dgts, hc, ih hl, List.append_assoc]
theorem dec_isd : ∀ (k u : Nat), u ≤ k → ∀ c ∈ Lib.decDigits u, isDL c := by
  intro k
  induction k with
  | zero =>
    intro u hu c hc
    obtain rfl : u = 0 := by omega
    rw [Lib.decDigits, dif_pos (by omega)] at hc
    simp at hc
    subst hc
    left; decide
  | succ k ih =>
    intro u hu c hc
    rw [Lib.decDigits] at hc
    by_cases h10 : u < 10
    · rw [dif_pos h10] at hc
      obtain rfl := List.mem_singleton.1 hc
      left
      rw [UInt8.toNat_ofNat']
      omega
    · rw [dif_neg h10] at hc
      rcases List.mem_append.1 hc with h | h
      · exact ih _ (by omega) c h
      · obtain rfl := List.mem_singleton.1 h
        left
        rw [UInt8.toNat_ofNat']
        omega
theorem itoa_isd {n : Int} (h : 0 ≤ n) : ∀ c ∈ Lib.itoa n, isDL c := by
  unfold Lib.itoa
  rw [if_neg (by omega)]
  exact dec_isd _ _ (Nat.le_refl _)
theorem padL_isd {n : Int} {d : Nat} (h : 0 ≤ n) : ∀ c ∈ padL n d, isDL c := by
  intro c hc
  rcases List.mem_append.1 hc with h1 | h1
  · rw [List.eq_of_mem_replicate h1]; left; decide
  · exact itoa_isd h c h1
theorem placeB_at {l : List UInt8} {i : Nat} {c : UInt8} (h : l[i]? = some c) (hi : i < 3) : m_spec_IsPlace_b0 (txt l) (i : Int) = some (if 65 ≤ c.toNat ∧ c.toNat ≤ 90 then .inl ((i + 1 : Nat) : Int) else .inr (.inr false)) := by
  have hcl := c.toNat_lt
  unfold m_spec_IsPlace_b0
  rw [decide_eq_true (show (i : Int) < 3 by omega), getB_txt h]
  simp only [cond_true, Option.bind_some, wrap_b (y := (c.toNat : Int)) ⟨by omega, by omega⟩, l1In_v, w64_nat (n := 3) hi (by omega)]
  by_cases h1 : 65 ≤ c.toNat ∧ c.toNat ≤ 90
  · rw [if_pos h1, decide_eq_true (show (65 : Int) ≤ c.toNat by omega), decide_eq_true (show (c.toNat : Int) ≤ 90 by omega)]; rfl
  · rw [if_neg h1]
    have e : (decide ((65 : Int) ≤ c.toNat) && decide ((c.toNat : Int) ≤ 90)) = false := by
      by_cases h : 65 ≤ c.toNat
      · rw [decide_eq_false (show ¬ (c.toNat : Int) ≤ 90 by omega), Bool.and_false]
      · rw [decide_eq_false (show ¬ (65 : Int) ≤ (c.toNat : Int) by omega), Bool.false_and]
    rw [e]; rfl
theorem txt_data (s : ByteArray) : txt s.data.toList = s := ByteArray.ext (by simp [txt])
theorem place_up {s : ByteArray} (h : m_spec_IsPlace s = some true) : s.size = 3 ∧ ∀ c ∈ s.data.toList, isDL c := by
  by_cases h3 : s.size = 3
  · refine ⟨h3, ?_⟩
    have hl : s.data.toList.length = 3 := by rw [Array.length_toList]; exact h3
    obtain ⟨n, hn⟩ : ∃ n, NN = n + 1 + 1 + 1 := ⟨NN - 3, by unfold NN; omega⟩
    unfold m_spec_IsPlace at h
    rw [h3, hn, ← txt_data s] at h
    revert h hl
    generalize s.data.toList = l
    intro hl h
    match l, hl with
    | [a, b, c], _ =>
      have ea := placeB_at (l := [a, b, c]) (i := 0) rfl (by omega)
      have eb := placeB_at (l := [a, b, c]) (i := 1) rfl (by omega)
      have ec := placeB_at (l := [a, b, c]) (i := 2) rfl (by omega)
      by_cases ha : 65 ≤ a.toNat ∧ a.toNat ≤ 90
      · rw [if_pos ha] at ea
        by_cases hb : 65 ≤ b.toNat ∧ b.toNat ≤ 90
        · rw [if_pos hb] at eb
          by_cases hc : 65 ≤ c.toNat ∧ c.toNat ≤ 90
          · intro x hx
            simp at hx
            rcases hx with rfl | rfl | rfl
            · exact .inr ha
            · exact .inr hb
            · exact .inr hc
          · rw [if_neg hc] at ec
            have e := (itl (n := n + 1 + 1) ea).trans ((itl (n := n + 1) eb).trans (itr (n := n) ec))
            rw [show ((0 : Nat) : Int) = 0 from rfl] at e
            rw [e] at h
            cases h
        · rw [if_neg hb] at eb
          have e := (itl (n := n + 1 + 1) ea).trans (itr (n := n + 1) eb)
          rw [show ((0 : Nat) : Int) = 0 from rfl] at e
          rw [e] at h
          cases h
      · rw [if_neg ha] at ea
        have e := itr (n := n + 1 + 1) ea
        rw [show ((0 : Nat) : Int) = 0 from rfl] at e
        rw [e] at h
        cases h
  · unfold m_spec_IsPlace at h
    rw [decide_eq_false (by omega)] at h
    cases h
def bodyL (l : YLabel) : List UInt8 := Lib.itoa l.service ++ padL l.serial 9 ++ l.to_.data.toList
theorem isLabel_t {l : YLabel} (h : m_spec_IsLabel l = some true) : l.to_.size = 3 ∧ ∀ c ∈ bodyL l, isDL c := by
  unfold m_spec_IsLabel at h
  rw [l1In_v, l1In_v] at h
  simp only [Option.bind_some] at h
  cases h1 : (decide (1 ≤ l.service) && decide (l.service ≤ 3)) with
  | false => rw [h1] at h; cases h
  | true =>
    cases h2 : (decide (0 ≤ l.serial) && decide (l.serial ≤ 999999999)) with
    | false => rw [h1, h2] at h; cases h
    | true =>
      rw [h1, h2] at h
      have h3 : m_spec_IsPlace l.to_ = some true := by
        cases hp : m_spec_IsPlace l.to_ with
        | none => rw [hp] at h; cases h
        | some b => rw [hp] at h; exact h
      obtain ⟨hs, hp⟩ := place_up h3
      simp only [Bool.and_eq_true, decide_eq_true_eq] at h1 h2
      refine ⟨hs, fun c hc => ?_⟩
      rcases List.mem_append.1 hc with hc | hc
      · rcases List.mem_append.1 hc with hc | hc
        · exact itoa_isd (by omega) c hc
        · exact padL_isd (by omega) c hc
      · exact hp c hc
theorem bodyL_len {l : YLabel} (h1 : in64 l.service) (h2 : in64 l.serial) (h3 : l.to_.size ≤ 3) : (bodyL l).length ≤ 45 := by
  have a := itoa_len h1
  have b := padL_len (d := 9) h2 (by omega)
  have c : l.to_.data.toList.length = l.to_.size := by rw [Array.length_toList]; rfl
  unfold bodyL
  simp only [List.length_append]
  omega
theorem fI {n : Int} (h : in64 n) : m_impl_FormatInt n = some (txt (Lib.itoa n)) := by unfold m_impl_FormatInt; rw [if_pos h]
theorem fS {n : Int} (h : in64 n) : m_spec_FormatInt n = some (txt (Lib.itoa n)) := by unfold m_spec_FormatInt; rw [if_pos h]
theorem sOk {a b : ByteArray} (ha : a.size ≤ 100000) (hb : b.size ≤ 100000) : chk (strOk a b) = some () := chk_t (strOk_s (by unfold B60; omega))
theorem body_both {l : YLabel} (h1 : in64 l.service) (h2 : in64 l.serial) (h3 : l.to_.size ≤ 3) : m_impl_bodyOf l = some (txt (bodyL l)) ∧ m_spec_l1Body l = some (txt (bodyL l)) := by
  have a := itoa_len h1
  have b := padL_len (d := 9) h2 (by omega)
  have e : (txt (Lib.itoa l.service) ++ txt (padL l.serial 9)) ++ l.to_ = txt (bodyL l) := by
    rw [← txt_data l.to_, txt_app, txt_app]; rfl
  have c1 : chk (strOk (txt (Lib.itoa l.service)) (txt (padL l.serial 9))) = some () := sOk (by rw [txt_size]; omega) (by rw [txt_size]; omega)
  have c2 : chk (strOk (txt (Lib.itoa l.service) ++ txt (padL l.serial 9)) l.to_) = some () := sOk (by rw [txt_app, txt_size, List.length_append]; omega) (by omega)
  have p1 := padded_im (d := 9) h2 (by omega)
  have p2 := padded_spec (d := 9) h2 (by omega)
  rw [show ((9 : Nat) : Int) = 9 from rfl] at p1 p2
  refine ⟨?_, ?_⟩
  · unfold m_impl_bodyOf
    simp only [fI h1, p1, Option.bind_some, c1, c2, e]
  · unfold m_spec_l1Body
    simp only [fS h1, p2, Option.bind_some, c1, c2, e]
theorem ok_in64 {n : Int} (h : okInt n) : in64 n := bounds_i64 h
theorem w64_in64 (n : Int) : in64 (w64 n) := ok_in64 (wf_wrap .i64 n)
theorem check_both {l : YLabel} (h1 : in64 l.service) (h2 : in64 l.serial) (h : m_spec_IsLabel l = some true) (hi : m_impl_IsLabel l = some true) : ∃ n, in64 n ∧ m_impl_CheckOf l = some n ∧ m_spec_CheckOf l = some n := by
  obtain ⟨hs, hd⟩ := isLabel_t h
  obtain ⟨b1, b2⟩ := body_both h1 h2 (by omega)
  have hl := bodyL_len h1 h2 (by omega)
  obtain ⟨a, ha, hal⟩ := dgts_isDL hd
  have h00 : dgts [48, 48] = some [48, 48] := rfl
  have happ := dgts_app ha h00
  have e48 : (⟨#[48, 48]⟩ : ByteArray) = txt [48, 48] := rfl
  have c1 : chk (strOk (txt a) (txt [48, 48])) = some () := sOk (by rw [txt_size]; omega) (by rw [txt_size]; simp)
  have c2 : chk (strOk (txt (bodyL l)) (txt [48, 48])) = some () := sOk (by rw [txt_size]; omega) (by rw [txt_size]; simp)
  obtain ⟨m, hm⟩ := mod97_tot (s := txt (a ++ [48, 48])) (by rw [txt_size, List.length_append]; unfold NN; simp; omega)
  refine ⟨w64 (98 - m), w64_in64 _, ?_, ?_⟩
  · unfold m_impl_CheckOf
    have d1 := digits_im (l := bodyL l) (by omega)
    rw [ha] at d1
    simp only [Option.getD_some, Option.isSome_some] at d1
    simp only [hi, b1, d1, Option.bind_some, Bool.not_true, cond_false, e48, c1, txt_app, mod97_eq, hm]
  · unfold m_spec_CheckOf
    have d1 := digits_spec (l := bodyL l ++ [48, 48]) (by rw [List.length_append]; simp; omega)
    rw [happ] at d1
    simp only [Option.getD_some, Option.isSome_some] at d1
    simp only [h, b2, d1, Option.bind_some, Bool.not_true, cond_false, e48, c2, txt_app, hm]
theorem label_both {l : YLabel} (h1 : in64 l.service) (h2 : in64 l.serial) (h3 : l.to_.size ≤ B60) : ∃ b : List UInt8, b.length ≤ 100 ∧ m_impl_FormatLabel l = some (txt b) ∧ m_spec_FormatLabel l = some (txt b) := by
  obtain ⟨e, v, hv⟩ := label_eq h3
  have hi : m_impl_IsLabel l = some v := e.trans hv
  cases v with
  | false =>
    refine ⟨[], by simp, ?_, ?_⟩
    · unfold m_impl_FormatLabel; simp only [hi, Option.bind_some, Bool.not_false, cond_true]; rfl
    · unfold m_spec_FormatLabel; simp only [hv, Option.bind_some, Bool.not_false, cond_true]; rfl
  | true =>
    obtain ⟨hs, hd⟩ := isLabel_t hv
    obtain ⟨b1, b2⟩ := body_both h1 h2 (by omega)
    have hl := bodyL_len h1 h2 (by omega)
    obtain ⟨n, hn, c1, c2⟩ := check_both h1 h2 hv hi
    have p1 := padded_im (d := 2) hn (by omega)
    have p2 := padded_spec (d := 2) hn (by omega)
    have pl := padL_len (d := 2) hn (by omega)
    rw [show ((2 : Nat) : Int) = 2 from rfl] at p1 p2
    have c3 : chk (strOk (txt (bodyL l)) (txt (padL n 2))) = some () := sOk (by rw [txt_size]; omega) (by rw [txt_size]; omega)
    refine ⟨bodyL l ++ padL n 2, by rw [List.length_append]; omega, ?_, ?_⟩
    · unfold m_impl_FormatLabel; simp only [hi, b1, c1, p1, c3, Option.bind_some, Bool.not_true, cond_false, txt_app]
    · unfold m_spec_FormatLabel; simp only [hv, b2, c2, p2, c3, Option.bind_some, Bool.not_true, cond_false, txt_app]
end Go.Proofs.YtooikkfldddjfaaGreatDoor

/- The mirror of impl_FormatParcel, and that the code does just that (printed by a program of my own). -/
namespace Go.Proofs.YtooikkfldddjfaaGreatDoor
set_option maxRecDepth 10000
open Go.RowKit
set_option linter.unusedVariables false
set_option maxHeartbeats 16000000
def m_impl_FormatParcel (p : YParcel) : Option ByteArray :=
 (m_impl_IsParcel p).bind fun y1 =>
 cond (!y1)
 (some (⟨#[]⟩))
 ((getI p.sides 0).bind fun y2 =>
 (m_impl_FormatInt y2).bind fun y3 =>
 (chk (strOk y3 (⟨#[120]⟩))).bind fun _ =>
 (getI p.sides 1).bind fun y4 =>
 (m_impl_FormatInt y4).bind fun y5 =>
 (chk (strOk (y3 ++ ⟨#[120]⟩) y5)).bind fun _ =>
 (chk (strOk ((y3 ++ ⟨#[120]⟩) ++ y5) (⟨#[120]⟩))).bind fun _ =>
 (getI p.sides 2).bind fun y6 =>
 (m_impl_FormatInt y6).bind fun y7 =>
 (chk (strOk (((y3 ++ ⟨#[120]⟩) ++ y5) ++ ⟨#[120]⟩) y7)).bind fun _ =>
 (m_impl_FormatLabel p.label).bind fun y8 =>
 (chk (strOk y8 (⟨#[32]⟩))).bind fun _ =>
 (chk (strOk (y8 ++ ⟨#[32]⟩) p.from_)).bind fun _ =>
 (chk (strOk ((y8 ++ ⟨#[32]⟩) ++ p.from_) (⟨#[32]⟩))).bind fun _ =>
 (m_impl_FormatInt p.weight).bind fun y9 =>
 (chk (strOk (((y8 ++ ⟨#[32]⟩) ++ p.from_) ++ ⟨#[32]⟩) y9)).bind fun _ =>
 (chk (strOk ((((y8 ++ ⟨#[32]⟩) ++ p.from_) ++ ⟨#[32]⟩) ++ y9) (⟨#[32]⟩))).bind fun _ =>
 (chk (strOk (((((y8 ++ ⟨#[32]⟩) ++ p.from_) ++ ⟨#[32]⟩) ++ y9) ++ ⟨#[32]⟩) ((((y3 ++ ⟨#[120]⟩) ++ y5) ++ ⟨#[120]⟩) ++ y7))).bind fun _ =>
 (chk (strOk ((((((y8 ++ ⟨#[32]⟩) ++ p.from_) ++ ⟨#[32]⟩) ++ y9) ++ ⟨#[32]⟩) ++ ((((y3 ++ ⟨#[120]⟩) ++ y5) ++ ⟨#[120]⟩) ++ y7)) (⟨#[32]⟩))).bind fun _ =>
 (m_impl_FormatInt p.value).bind fun y10 =>
 (chk (strOk (((((((y8 ++ ⟨#[32]⟩) ++ p.from_) ++ ⟨#[32]⟩) ++ y9) ++ ⟨#[32]⟩) ++ ((((y3 ++ ⟨#[120]⟩) ++ y5) ++ ⟨#[120]⟩) ++ y7)) ++ ⟨#[32]⟩) y10)).bind fun _ =>
 some ((((((((y8 ++ ⟨#[32]⟩) ++ p.from_) ++ ⟨#[32]⟩) ++ y9) ++ ⟨#[32]⟩) ++ ((((y3 ++ ⟨#[120]⟩) ++ y5) ++ ⟨#[120]⟩) ++ y7)) ++ ⟨#[32]⟩) ++ y10))
theorem ok_impl_FormatParcel (p : YParcel) {r : ByteArray} (H : m_impl_FormatParcel p = some r) : CallM Tryz.prog 22 [.ag (cParcel p)] [] (vs r) [] := by
  replace H := H0 H
  unfold m_impl_FormatParcel at H
  refine callM_of Tryz.func22 rfl Tryz.ntmps22 Tryz.results22 fun Q hQ hQn => ?_
  exact wk2
instance (p : YParcel) : CT Tryz.prog (m_impl_FormatParcel p) := ⟨22, [.ag (cParcel p)], [], fun r => vs r, fun r => [], ok_impl_FormatParcel p⟩
end Go.Proofs.YtooikkfldddjfaaGreatDoor

/- The mirror of impl_tripText, and that the code does just that (printed by a program of my own). -/
namespace Go.Proofs.YtooikkfldddjfaaGreatDoor
set_option maxRecDepth 10000
open Go.RowKit
set_option linter.unusedVariables false
set_option maxHeartbeats 16000000
def m_impl_tripText (t : YTrip) : Option ByteArray :=
 (m_impl_FormatInt t.leg).bind fun y1 =>
 (chk (strOk y1 (⟨#[47]⟩))).bind fun _ =>
 (m_impl_FormatInt t.day).bind fun y2 =>
 (chk (strOk (y1 ++ ⟨#[47]⟩) y2)).bind fun _ =>
 some ((y1 ++ ⟨#[47]⟩) ++ y2)
theorem ok_impl_tripText (t : YTrip) {r : ByteArray} (H : m_impl_tripText t = some r) : CallM Tryz.prog 24 [.ag (cTrip t)] [] (vs r) [] := by
  replace H := H0 H
  unfold m_impl_tripText at H
  refine callM_of Tryz.func24 rfl Tryz.ntmps24 Tryz.results24 fun Q hQ hQn => ?_
  exact wk2
instance (t : YTrip) : CT Tryz.prog (m_impl_tripText t) := ⟨24, [.ag (cTrip t)], [], fun r => vs r, fun r => [], ok_impl_tripText t⟩
end Go.Proofs.YtooikkfldddjfaaGreatDoor

/- The mirror of impl_FormatAct, and that the code does just that (printed by a program of my own). -/
namespace Go.Proofs.YtooikkfldddjfaaGreatDoor
set_option maxRecDepth 10000
open Go.RowKit
set_option linter.unusedVariables false
set_option maxHeartbeats 16000000
def m_impl_FormatAct (a : YAct) : Option ByteArray :=
 (m_impl_IsAct a).bind fun y1 =>
 cond (!y1)
 (some (⟨#[]⟩))
 (cond (decide (a.kind = 1))
 ((m_impl_FormatParcel a.parcel).bind fun y2 =>
 (chk (strOk (⟨#[116, 97, 107, 101, 32]⟩) y2)).bind fun _ =>
 some (⟨#[116, 97, 107, 101, 32]⟩ ++ y2))
 (cond (decide (a.kind = 2))
 ((m_impl_FormatInt a.order).bind fun y3 =>
 (chk (strOk (⟨#[112, 97, 121, 32]⟩) y3)).bind fun _ =>
 (chk (strOk (⟨#[112, 97, 121, 32]⟩ ++ y3) (⟨#[32]⟩))).bind fun _ =>
 (m_impl_FormatInt a.amount).bind fun y4 =>
 (chk (strOk ((⟨#[112, 97, 121, 32]⟩ ++ y3) ++ ⟨#[32]⟩) y4)).bind fun _ =>
 some (((⟨#[112, 97, 121, 32]⟩ ++ y3) ++ ⟨#[32]⟩) ++ y4))
 (cond (decide (a.kind = 3))
 ((m_impl_FormatInt a.until_).bind fun y5 =>
 (chk (strOk (⟨#[114, 117, 110, 32]⟩) y5)).bind fun _ =>
 some (⟨#[114, 117, 110, 32]⟩ ++ y5))
 (cond (decide (a.kind = 4))
 ((m_impl_tripText a.trip).bind fun y6 =>
 (chk (strOk (⟨#[115, 104, 117, 116, 32]⟩) y6)).bind fun _ =>
 some (⟨#[115, 104, 117, 116, 32]⟩ ++ y6))
 (cond (decide (a.kind = 5))
 (some (⟨#[114, 101, 116, 114, 121]⟩))
 ((m_impl_FormatInt a.order).bind fun y7 =>
 (chk (strOk (⟨#[114, 101, 102, 117, 110, 100, 32]⟩) y7)).bind fun _ =>
 some (⟨#[114, 101, 102, 117, 110, 100, 32]⟩ ++ y7)))))))
theorem ok_impl_FormatAct (a : YAct) {r : ByteArray} (H : m_impl_FormatAct a = some r) : CallM Tryz.prog 8 [.ag (cAct a)] [] (vs r) [] := by
  replace H := H0 H
  unfold m_impl_FormatAct at H
  refine callM_of Tryz.func8 rfl Tryz.ntmps8 Tryz.results8 fun Q hQ hQn => ?_
  exact wk2
instance (a : YAct) : CT Tryz.prog (m_impl_FormatAct a) := ⟨8, [.ag (cAct a)], [], fun r => vs r, fun r => [], ok_impl_FormatAct a⟩
end Go.Proofs.YtooikkfldddjfaaGreatDoor

/- The mirror of spec_FormatParcel, and that the code does just that (printed by a program of my own). -/
namespace Go.Proofs.YtooikkfldddjfaaGreatDoor
set_option maxRecDepth 10000
open Go.RowKit
set_option linter.unusedVariables false
set_option maxHeartbeats 16000000
def m_spec_FormatParcel (p : YParcel) : Option ByteArray :=
 (m_spec_IsParcel p).bind fun y1 =>
 cond (!y1)
 (some (⟨#[]⟩))
 ((m_spec_FormatLabel p.label).bind fun y2 =>
 (chk (strOk y2 (⟨#[32]⟩))).bind fun _ =>
 (chk (strOk (y2 ++ ⟨#[32]⟩) p.from_)).bind fun _ =>
 (chk (strOk ((y2 ++ ⟨#[32]⟩) ++ p.from_) (⟨#[32]⟩))).bind fun _ =>
 (m_spec_FormatInt p.weight).bind fun y3 =>
 (chk (strOk (((y2 ++ ⟨#[32]⟩) ++ p.from_) ++ ⟨#[32]⟩) y3)).bind fun _ =>
 (chk (strOk ((((y2 ++ ⟨#[32]⟩) ++ p.from_) ++ ⟨#[32]⟩) ++ y3) (⟨#[32]⟩))).bind fun _ =>
 (getI p.sides 0).bind fun y4 =>
 (m_spec_FormatInt y4).bind fun y5 =>
 (chk (strOk (((((y2 ++ ⟨#[32]⟩) ++ p.from_) ++ ⟨#[32]⟩) ++ y3) ++ ⟨#[32]⟩) y5)).bind fun _ =>
 (chk (strOk ((((((y2 ++ ⟨#[32]⟩) ++ p.from_) ++ ⟨#[32]⟩) ++ y3) ++ ⟨#[32]⟩) ++ y5) (⟨#[120]⟩))).bind fun _ =>
 (getI p.sides 1).bind fun y6 =>
 (m_spec_FormatInt y6).bind fun y7 =>
 (chk (strOk (((((((y2 ++ ⟨#[32]⟩) ++ p.from_) ++ ⟨#[32]⟩) ++ y3) ++ ⟨#[32]⟩) ++ y5) ++ ⟨#[120]⟩) y7)).bind fun _ =>
 (chk (strOk ((((((((y2 ++ ⟨#[32]⟩) ++ p.from_) ++ ⟨#[32]⟩) ++ y3) ++ ⟨#[32]⟩) ++ y5) ++ ⟨#[120]⟩) ++ y7) (⟨#[120]⟩))).bind fun _ =>
 (getI p.sides 2).bind fun y8 =>
 (m_spec_FormatInt y8).bind fun y9 =>
 (chk (strOk (((((((((y2 ++ ⟨#[32]⟩) ++ p.from_) ++ ⟨#[32]⟩) ++ y3) ++ ⟨#[32]⟩) ++ y5) ++ ⟨#[120]⟩) ++ y7) ++ ⟨#[120]⟩) y9)).bind fun _ =>
 (chk (strOk ((((((((((y2 ++ ⟨#[32]⟩) ++ p.from_) ++ ⟨#[32]⟩) ++ y3) ++ ⟨#[32]⟩) ++ y5) ++ ⟨#[120]⟩) ++ y7) ++ ⟨#[120]⟩) ++ y9) (⟨#[32]⟩))).bind fun _ =>
 (m_spec_FormatInt p.value).bind fun y10 =>
 (chk (strOk (((((((((((y2 ++ ⟨#[32]⟩) ++ p.from_) ++ ⟨#[32]⟩) ++ y3) ++ ⟨#[32]⟩) ++ y5) ++ ⟨#[120]⟩) ++ y7) ++ ⟨#[120]⟩) ++ y9) ++ ⟨#[32]⟩) y10)).bind fun _ =>
 some ((((((((((((y2 ++ ⟨#[32]⟩) ++ p.from_) ++ ⟨#[32]⟩) ++ y3) ++ ⟨#[32]⟩) ++ y5) ++ ⟨#[120]⟩) ++ y7) ++ ⟨#[120]⟩) ++ y9) ++ ⟨#[32]⟩) ++ y10))
theorem ok_spec_FormatParcel (p : YParcel) {r : ByteArray} (H : m_spec_FormatParcel p = some r) : CallM Tryz.prog 17 [.ag (cParcel p)] [] (vs r) [] := by
  replace H := H0 H
  unfold m_spec_FormatParcel at H
  refine callM_of Tryz.func17 rfl Tryz.ntmps17 Tryz.results17 fun Q hQ hQn => ?_
  exact wk2
instance (p : YParcel) : CT Tryz.prog (m_spec_FormatParcel p) := ⟨17, [.ag (cParcel p)], [], fun r => vs r, fun r => [], ok_spec_FormatParcel p⟩
end Go.Proofs.YtooikkfldddjfaaGreatDoor

/- The mirror of spec_FormatAct, and that the code does just that (printed by a program of my own). -/
namespace Go.Proofs.YtooikkfldddjfaaGreatDoor
set_option maxRecDepth 10000
open Go.RowKit
set_option linter.unusedVariables false
set_option maxHeartbeats 16000000
def m_spec_FormatAct (a : YAct) : Option ByteArray :=
 (m_spec_IsAct a).bind fun y1 =>
 cond (!y1)
 (some (⟨#[]⟩))
 (cond (decide (a.kind = 1))
 ((m_spec_FormatParcel a.parcel).bind fun y2 =>
 (chk (strOk (⟨#[116, 97, 107, 101, 32]⟩) y2)).bind fun _ =>
 some (⟨#[116, 97, 107, 101, 32]⟩ ++ y2))
 (cond (decide (a.kind = 2))
 ((m_spec_FormatInt a.order).bind fun y3 =>
 (chk (strOk (⟨#[112, 97, 121, 32]⟩) y3)).bind fun _ =>
 (chk (strOk (⟨#[112, 97, 121, 32]⟩ ++ y3) (⟨#[32]⟩))).bind fun _ =>
 (m_spec_FormatInt a.amount).bind fun y4 =>
 (chk (strOk ((⟨#[112, 97, 121, 32]⟩ ++ y3) ++ ⟨#[32]⟩) y4)).bind fun _ =>
 some (((⟨#[112, 97, 121, 32]⟩ ++ y3) ++ ⟨#[32]⟩) ++ y4))
 (cond (decide (a.kind = 3))
 ((m_spec_FormatInt a.until_).bind fun y5 =>
 (chk (strOk (⟨#[114, 117, 110, 32]⟩) y5)).bind fun _ =>
 some (⟨#[114, 117, 110, 32]⟩ ++ y5))
 (cond (decide (a.kind = 4))
 ((m_spec_FormatInt a.trip.leg).bind fun y6 =>
 (chk (strOk (⟨#[115, 104, 117, 116, 32]⟩) y6)).bind fun _ =>
 (chk (strOk (⟨#[115, 104, 117, 116, 32]⟩ ++ y6) (⟨#[47]⟩))).bind fun _ =>
 (m_spec_FormatInt a.trip.day).bind fun y7 =>
 (chk (strOk ((⟨#[115, 104, 117, 116, 32]⟩ ++ y6) ++ ⟨#[47]⟩) y7)).bind fun _ =>
 some (((⟨#[115, 104, 117, 116, 32]⟩ ++ y6) ++ ⟨#[47]⟩) ++ y7))
 (cond (decide (a.kind = 5))
 (some (⟨#[114, 101, 116, 114, 121]⟩))
 ((m_spec_FormatInt a.order).bind fun y8 =>
 (chk (strOk (⟨#[114, 101, 102, 117, 110, 100, 32]⟩) y8)).bind fun _ =>
 some (⟨#[114, 101, 102, 117, 110, 100, 32]⟩ ++ y8)))))))
theorem ok_spec_FormatAct (a : YAct) {r : ByteArray} (H : m_spec_FormatAct a = some r) : CallM Tryz.prog 6 [.ag (cAct a)] [] (vs r) [] := by
  replace H := H0 H
  unfold m_spec_FormatAct at H
  refine callM_of Tryz.func6 rfl Tryz.ntmps6 Tryz.results6 fun Q hQ hQn => ?_
  exact wk2
instance (a : YAct) : CT Tryz.prog (m_spec_FormatAct a) := ⟨6, [.ag (cAct a)], [], fun r => vs r, fun r => [], ok_spec_FormatAct a⟩
end Go.Proofs.YtooikkfldddjfaaGreatDoor

/- Parcels and acts as_ texts: the two sides write alike. -/
namespace Go.Proofs.YtooikkfldddjfaaGreatDoor
set_option maxRecDepth 10000
open Go.RowKit Go.Sort
set_option linter.unusedVariables false
set_option linter.unusedSimpArgs false
set_option maxHeartbeats 4000000
def ParcelI (p : YParcel) : Prop := in64 p.label.service ∧ in64 p.label.serial ∧ p.label.to_.size ≤ 2000000 ∧ p.from_.size ≤ 2000000 ∧ in64 p.weight ∧ p.sides.length ≤ 2000000 ∧ (∀ x ∈ p.sides, in64 x) ∧ in64 p.value
theorem bOk {a b : ByteArray} (ha : a.size + b.size ≤ 100000000) : chk (strOk a b) = some () := chk_t (strOk_s (by unfold B60; omega))
theorem lit_size (a : Array UInt8) : (⟨a⟩ : ByteArray).size = a.size := rfl
theorem parcel_both {p : YParcel} (h : ParcelI p) : ∃ b : List UInt8, b.length ≤ 3000000 ∧ m_impl_FormatParcel p = some (txt b) ∧ m_spec_FormatParcel p = some (txt b) := by
  obtain ⟨h1, h2, h3, h4, h5, h6, h7, h8⟩ := h
  obtain ⟨e, v, hv⟩ := parcel_eq (p := p) (by unfold B60; omega) (by unfold B60; omega) (by unfold NN; omega)
  have hi : m_impl_IsParcel p = some v := e.trans hv
  cases v with
  | false =>
    refine ⟨[], by simp, ?_, ?_⟩
    · unfold m_impl_FormatParcel; simp only [hi, Option.bind_some, Bool.not_false, cond_true]; rfl
    · unfold m_spec_FormatParcel; simp only [hv, Option.bind_some, Bool.not_false, cond_true]; rfl
  | true =>
    have h3s : threeV p.sides = true := by
      cases ht : threeV p.sides with
      | true => rfl
      | false =>
        exfalso
        revert hv
        unfold m_spec_IsParcel
        obtain ⟨_, b1, hb1⟩ := label_eq (l := p.label) (by unfold B60; omega)
        obtain ⟨_, b2, hb2⟩ := isPlace_eq (s := p.from_) (by omega)
        rw [hb1, hb2, three_v (by unfold NN; omega), ht, l1In_v]
        simp only [Option.bind_some]
        cases b1 <;> cases b2 <;> cases (!decide (p.from_ = p.label.to_)) <;> cases (decide (1 ≤ p.weight) && decide (p.weight ≤ 30000)) <;> simp
    have hl3 := three_len h3s
    obtain ⟨x, y, z, hs⟩ : ∃ x y z, p.sides = [x, y, z] := by
      match hp : p.sides, hl3 with
      | [x, y, z], _ => exact ⟨x, y, z, rfl⟩
    have i1 : in64 x := h7 x (by rw [hs]; simp)
    have i2 : in64 y := h7 y (by rw [hs]; simp)
    have i3 : in64 z := h7 z (by rw [hs]; simp)
    have l1 := itoa_len i1
    have l2 := itoa_len i2
    have l3 := itoa_len i3
    have l4 := itoa_len h5
    have l5 := itoa_len h8
    obtain ⟨b, hb, f1, f2⟩ := label_both (l := p.label) h1 h2 (by unfold B60; omega)
    have g0 : getI p.sides 0 = some x := by rw [hs]; rfl
    have g1 : getI p.sides 1 = some y := by rw [hs]; rfl
    have g2 : getI p.sides 2 = some z := by rw [hs]; rfl
    have ex : (⟨#[120]⟩ : ByteArray) = txt [120] := rfl
    have es : (⟨#[32]⟩ : ByteArray) = txt [32] := rfl
    have hfl : p.from_.data.toList.length = p.from_.size := by rw [Array.length_toList]; rfl
    have hft : p.from_ = txt p.from_.data.toList := (txt_data _).symm
    generalize p.from_.data.toList = fl at *
    refine ⟨b ++ [32] ++ fl ++ [32] ++ Lib.itoa p.weight ++ [32] ++ Lib.itoa x ++ [120] ++ Lib.itoa y ++ [120] ++ Lib.itoa z ++ [32] ++ Lib.itoa p.value, by simp only [List.length_append, List.length_cons, List.length_nil]; omega, ?_, ?_⟩
    · unfold m_impl_FormatParcel
      simp only [hi, g0, g1, g2, fI i1, fI i2, fI i3, fI h5, fI h8, f1, Option.bind_some, Bool.not_true, cond_false, ex, es, hft, txt_app]
      repeat rw [bOk (by simp only [txt_size, List.length_append, List.length_cons, List.length_nil]; omega), Option.bind_some]
      simp only [List.append_assoc]
    · unfold m_spec_FormatParcel
      simp only [hv, g0, g1, g2, fS i1, fS i2, fS i3, fS h5, fS h8, f2, Option.bind_some, Bool.not_true, cond_false, ex, es, hft, txt_app]
      repeat rw [bOk (by simp only [txt_size, List.length_append, List.length_cons, List.length_nil]; omega), Option.bind_some]
def ActI (a : YAct) : Prop := ParcelI a.parcel ∧ in64 a.order ∧ in64 a.amount ∧ in64 a.until_ ∧ in64 a.trip.leg ∧ in64 a.trip.day
theorem act_both {a : YAct} (h : ActI a) : ∃ b : ByteArray, m_impl_FormatAct a = some b ∧ m_spec_FormatAct a = some b := by
  obtain ⟨hp, h1, h2, h3, h4, h5⟩ := h
  have hp' := hp
  obtain ⟨p1, p2, p3, p4, p5, p6, p7, p8⟩ := hp'
  obtain ⟨v, hi, hv⟩ := act_eq (a := a) (by unfold B60; omega) (by unfold B60; omega) (by unfold NN; omega)
  obtain ⟨b, hb, f1, f2⟩ := parcel_both hp
  have l1 := itoa_len h1
  have l2 := itoa_len h2
  have l3 := itoa_len h3
  have l4 := itoa_len h4
  have l5 := itoa_len h5
  unfold m_impl_FormatAct m_spec_FormatAct m_impl_tripText
  have lit : ∀ l : List UInt8, (⟨l.toArray⟩ : ByteArray) = txt l := fun l => rfl
  have et : (⟨#[116, 97, 107, 101, 32]⟩ : ByteArray) = txt [116, 97, 107, 101, 32] := rfl
  have ep : (⟨#[112, 97, 121, 32]⟩ : ByteArray) = txt [112, 97, 121, 32] := rfl
  have es : (⟨#[32]⟩ : ByteArray) = txt [32] := rfl
  have er : (⟨#[114, 117, 110, 32]⟩ : ByteArray) = txt [114, 117, 110, 32] := rfl
  have eh : (⟨#[115, 104, 117, 116, 32]⟩ : ByteArray) = txt [115, 104, 117, 116, 32] := rfl
  have el : (⟨#[47]⟩ : ByteArray) = txt [47] := rfl
  have ef : (⟨#[114, 101, 102, 117, 110, 100, 32]⟩ : ByteArray) = txt [114, 101, 102, 117, 110, 100, 32] := rfl
  simp only [hi, hv, f1, f2, fI h1, fI h2, fI h3, fI h4, fI h5, fS h1, fS h2, fS h3, fS h4, fS h5, Option.bind_some, et, ep, es, er, eh, el, ef, txt_app]
  repeat rw [bOk (by simp only [txt_size, List.length_append, List.length_cons, List.length_nil]; omega), Option.bind_some]
  simp only [List.append_assoc]
  cases v <;> cases decide (a.kind = 1) <;> cases decide (a.kind = 2) <;> cases decide (a.kind = 3) <;> cases decide (a.kind = 4) <;> cases decide (a.kind = 5) <;> exact ⟨_, rfl, rfl⟩
end Go.Proofs.YtooikkfldddjfaaGreatDoor

/- The mirror of laws_eqLabel, and that the code does just that (printed by a program of my own). -/
namespace Go.Proofs.YtooikkfldddjfaaGreatDoor
set_option maxRecDepth 10000
open Go.RowKit
set_option linter.unusedVariables false
set_option maxHeartbeats 16000000
def m_laws_eqLabel (a : YLabel) (b : YLabel) : Option Bool :=
 cond (!decide (a.service = b.service))
 (some false)
 (cond (!decide (a.serial = b.serial))
 (some false)
 (cond (!decide (a.to_ = b.to_))
 (some false)
 (some true)))
theorem ok_laws_eqLabel (a : YLabel) (b : YLabel) {r : Bool} (H : m_laws_eqLabel a b = some r) : CallM Tryz.prog 41 [.ag (cLabel a), .ag (cLabel b)] [] (vb r) [] := by
  replace H := H0 H
  unfold m_laws_eqLabel at H
  refine callM_of Tryz.func41 rfl Tryz.ntmps41 Tryz.results41 fun Q hQ hQn => ?_
  exact wk2
instance (a : YLabel) (b : YLabel) : CT Tryz.prog (m_laws_eqLabel a b) := ⟨41, [.ag (cLabel a), .ag (cLabel b)], [], fun r => vb r, fun r => [], ok_laws_eqLabel a b⟩
end Go.Proofs.YtooikkfldddjfaaGreatDoor

/- The mirror of laws_toLabel, and that the code does just that (printed by a program of my own). -/
namespace Go.Proofs.YtooikkfldddjfaaGreatDoor
set_option maxRecDepth 10000
open Go.RowKit
set_option linter.unusedVariables false
set_option maxHeartbeats 16000000
def m_laws_toLabel (a : YLabel) : Option YLabel :=
 some a
theorem ok_laws_toLabel (a : YLabel) {r : YLabel} (H : m_laws_toLabel a = some r) : CallM Tryz.prog 34 [.ag (cLabel a)] [] (.ag [vi r.service, vi r.serial, vs r.to_]) [] := by
  replace H := H0 H
  unfold m_laws_toLabel at H
  refine callM_of Tryz.func34 rfl Tryz.ntmps34 Tryz.results34 fun Q hQ hQn => ?_
  exact wk2
instance (a : YLabel) : CT Tryz.prog (m_laws_toLabel a) := ⟨34, [.ag (cLabel a)], [], fun r => .ag [vi r.service, vi r.serial, vs r.to_], fun r => [], ok_laws_toLabel a⟩
end Go.Proofs.YtooikkfldddjfaaGreatDoor

/- The mirror of laws_szLabel, and that the code does just that (printed by a program of my own). -/
namespace Go.Proofs.YtooikkfldddjfaaGreatDoor
set_option maxRecDepth 10000
open Go.RowKit
set_option linter.unusedVariables false
set_option maxHeartbeats 16000000
def m_laws_szLabel (a : YLabel) (left : Int) : Option Int :=
 cond (decide ((w64 (left - (a.to_.size : Int))) < 0))
 (some (-1))
 (some (w64 (left - (a.to_.size : Int))))
theorem ok_laws_szLabel (a : YLabel) (left : Int) {r : Int} (H : m_laws_szLabel a left = some r) : CallM Tryz.prog 29 [.ag (cLabel a), vi left] [] (vi r) [] := by
  replace H := H0 H
  unfold m_laws_szLabel at H
  refine callM_of Tryz.func29 rfl Tryz.ntmps29 Tryz.results29 fun Q hQ hQn => ?_
  exact wk2
instance (a : YLabel) (left : Int) : CT Tryz.prog (m_laws_szLabel a left) := ⟨29, [.ag (cLabel a), vi left], [], fun r => vi r, fun r => [], ok_laws_szLabel a left⟩
end Go.Proofs.YtooikkfldddjfaaGreatDoor

/- The mirror of laws_eqIntS, and that the code does just that (printed by a program of my own). -/
namespace Go.Proofs.YtooikkfldddjfaaGreatDoor
set_option maxRecDepth 10000
open Go.RowKit
set_option linter.unusedVariables false
set_option maxHeartbeats 16000000
def m_laws_eqIntS_b0 (a : List Int) (b : List Int) (s0 : Int) : Option (Int ⊕ (Unit ⊕ Bool)) :=
 cond (decide (s0 < (a.length : Int)))
 ((getI a s0).bind fun y1 =>
 (getI b s0).bind fun y2 =>
 cond (!decide (y1 = y2))
 (some (.inr (.inr false)))
 (some (.inl (w64 (s0 + 1)))))
 (some (.inr (.inl ())))
instance (a : List Int) (b : List Int) : LoopE (m_laws_eqIntS_b0 a b) := ⟨fun s0 => [.sl (a.map cInt), .sl (b.map cInt), .un, .un, .un, vi s0, .un, .un, .un, .un, .un, .un, .un, .un, .un, .un, .un, .un, .un, .un, .un, .un, .un, .un, .un, .un], fun s0 => []⟩
def m_laws_eqIntS (a : List Int) (b : List Int) : Option Bool :=
 cond (!decide ((a.length : Int) = (b.length : Int)))
 (some false)
 ((iterF (m_laws_eqIntS_b0 a b) NN 0).bind (selim (fun o0 =>
 some true) (fun r => some r)))
theorem ok_laws_eqIntS (a : List Int) (b : List Int) {r : Bool} (H : m_laws_eqIntS a b = some r) : CallM Tryz.prog 42 [.sl (a.map cInt), .sl (b.map cInt)] [] (vb r) [] := by
  replace H := H0 H
  unfold m_laws_eqIntS at H
  refine callM_of Tryz.func42 rfl Tryz.ntmps42 Tryz.results42 fun Q hQ hQn => ?_
  exact wk2
instance (a : List Int) (b : List Int) : CT Tryz.prog (m_laws_eqIntS a b) := ⟨42, [.sl (a.map cInt), .sl (b.map cInt)], [], fun r => vb r, fun r => [], ok_laws_eqIntS a b⟩
end Go.Proofs.YtooikkfldddjfaaGreatDoor

/- The mirror of laws_toIntS, and that the code does just that (printed by a program of my own). -/
namespace Go.Proofs.YtooikkfldddjfaaGreatDoor
set_option maxRecDepth 10000
open Go.RowKit
set_option linter.unusedVariables false
set_option maxHeartbeats 16000000
def m_laws_toIntS_b0 (a : List Int) (s0 : Int × (List Int)) : Option ((Int × (List Int)) ⊕ (List Int)) :=
 cond (decide (s0.1 < (a.length : Int)))
 ((getI a s0.1).bind fun y1 =>
 (getI s0.2 s0.1).bind fun y2 =>
 some (.inl ((w64 (s0.1 + 1)), (s0.2.set (Int.toNat s0.1) y1))))
 (some (.inr s0.2))
instance (a : List Int) : LoopE (m_laws_toIntS_b0 a) := ⟨fun s0 => [.sl (a.map cInt), .un, .un, .ms 0, vi s0.1, .un, .un, .un, .un, .un, .un, .un, .un, .un, .un, .un, .un, .un, .un, .un, .un, .un], fun s0 => [some ⟨3, 1, s0.2.map cInt⟩]⟩
def m_laws_toIntS (a : List Int) : Option (List Int) :=
 (chk (mkOk (a.length : Int) 8)).bind fun _ =>
 (iterF (m_laws_toIntS_b0 a) NN (0, (List.replicate (Int.toNat (a.length : Int)) 0))).bind (fun o0 =>
 some o0)
theorem ok_laws_toIntS (a : List Int) {r : (List Int)} (H : m_laws_toIntS a = some r) : CallM Tryz.prog 35 [.sl (a.map cInt)] [] (.ms 0) [some ⟨3, 1, r.map cInt⟩] := by
  replace H := H0 H
  unfold m_laws_toIntS at H
  refine callM_of Tryz.func35 rfl Tryz.ntmps35 Tryz.results35 fun Q hQ hQn => ?_
  exact wk2
instance (a : List Int) : CT Tryz.prog (m_laws_toIntS a) := ⟨35, [.sl (a.map cInt)], [], fun r => .ms 0, fun r => [some ⟨3, 1, r.map cInt⟩], ok_laws_toIntS a⟩
end Go.Proofs.YtooikkfldddjfaaGreatDoor

/- The mirror of laws_szIntS, and that the code does just that (printed by a program of my own). -/
namespace Go.Proofs.YtooikkfldddjfaaGreatDoor
set_option maxRecDepth 10000
open Go.RowKit
set_option linter.unusedVariables false
set_option maxHeartbeats 16000000
def m_laws_szIntS (a : List Int) (left : Int) : Option Int :=
 cond (decide ((w64 (left - (a.length : Int))) < 0))
 (some (-1))
 (some (w64 (left - (a.length : Int))))
theorem ok_laws_szIntS (a : List Int) (left : Int) {r : Int} (H : m_laws_szIntS a left = some r) : CallM Tryz.prog 30 [.sl (a.map cInt), vi left] [] (vi r) [] := by
  replace H := H0 H
  unfold m_laws_szIntS at H
  refine callM_of Tryz.func30 rfl Tryz.ntmps30 Tryz.results30 fun Q hQ hQn => ?_
  exact wk2
instance (a : List Int) (left : Int) : CT Tryz.prog (m_laws_szIntS a left) := ⟨30, [.sl (a.map cInt), vi left], [], fun r => vi r, fun r => [], ok_laws_szIntS a left⟩
end Go.Proofs.YtooikkfldddjfaaGreatDoor

/- The mirror of laws_eqParcel, and that the code does just that (printed by a program of my own). -/
namespace Go.Proofs.YtooikkfldddjfaaGreatDoor
set_option maxRecDepth 10000
open Go.RowKit
set_option linter.unusedVariables false
set_option maxHeartbeats 16000000
def m_laws_eqParcel (a : YParcel) (b : YParcel) : Option Bool :=
 (m_laws_eqLabel a.label b.label).bind fun y1 =>
 cond (!y1)
 (some false)
 (cond (!decide (a.from_ = b.from_))
 (some false)
 (cond (!decide (a.weight = b.weight))
 (some false)
 ((m_laws_eqIntS a.sides b.sides).bind fun y2 =>
 cond (!y2)
 (some false)
 (cond (!decide (a.value = b.value))
 (some false)
 (some true)))))
theorem ok_laws_eqParcel (a : YParcel) (b : YParcel) {r : Bool} (H : m_laws_eqParcel a b = some r) : CallM Tryz.prog 25 [.ag (cParcel a), .ag (cParcel b)] [] (vb r) [] := by
  replace H := H0 H
  unfold m_laws_eqParcel at H
  refine callM_of Tryz.func25 rfl Tryz.ntmps25 Tryz.results25 fun Q hQ hQn => ?_
  exact wk2
instance (a : YParcel) (b : YParcel) : CT Tryz.prog (m_laws_eqParcel a b) := ⟨25, [.ag (cParcel a), .ag (cParcel b)], [], fun r => vb r, fun r => [], ok_laws_eqParcel a b⟩
end Go.Proofs.YtooikkfldddjfaaGreatDoor

/- The mirror of laws_toParcel, and that the code does just that (printed by a program of my own). -/
namespace Go.Proofs.YtooikkfldddjfaaGreatDoor
set_option maxRecDepth 10000
open Go.RowKit
set_option linter.unusedVariables false
set_option maxHeartbeats 16000000
def m_laws_toParcel (a : YParcel) : Option YParcel :=
 (m_laws_toLabel a.label).bind fun y1 =>
 (m_laws_toIntS a.sides).bind fun y2 =>
 some (⟨y1, a.from_, a.weight, y2, a.value⟩ : YParcel)
theorem ok_laws_toParcel (a : YParcel) {r : YParcel} (H : m_laws_toParcel a = some r) : CallM Tryz.prog 19 [.ag (cParcel a)] [] (.ag [vi r.label.service, vi r.label.serial, vs r.label.to_, vs r.from_, vi r.weight, .sl (r.sides.map cInt), vi r.value]) [] := by
  replace H := H0 H
  unfold m_laws_toParcel at H
  refine callM_of Tryz.func19 rfl Tryz.ntmps19 Tryz.results19 fun Q hQ hQn => ?_
  exact wk2
instance (a : YParcel) : CT Tryz.prog (m_laws_toParcel a) := ⟨19, [.ag (cParcel a)], [], fun r => .ag [vi r.label.service, vi r.label.serial, vs r.label.to_, vs r.from_, vi r.weight, .sl (r.sides.map cInt), vi r.value], fun r => [], ok_laws_toParcel a⟩
end Go.Proofs.YtooikkfldddjfaaGreatDoor

/- The mirror of laws_szParcel, and that the code does just that (printed by a program of my own). -/
namespace Go.Proofs.YtooikkfldddjfaaGreatDoor
set_option maxRecDepth 10000
open Go.RowKit
set_option linter.unusedVariables false
set_option maxHeartbeats 16000000
def m_laws_szParcel (a : YParcel) (left : Int) : Option Int :=
 (m_laws_szLabel a.label left).bind fun y1 =>
 cond (decide (y1 < 0))
 (some (-1))
 (cond (decide ((w64 (y1 - (a.from_.size : Int))) < 0))
 (some (-1))
 ((m_laws_szIntS a.sides (w64 (y1 - (a.from_.size : Int)))).bind fun y2 =>
 cond (decide (y2 < 0))
 (some (-1))
 (some y2)))
theorem ok_laws_szParcel (a : YParcel) (left : Int) {r : Int} (H : m_laws_szParcel a left = some r) : CallM Tryz.prog 15 [.ag (cParcel a), vi left] [] (vi r) [] := by
  replace H := H0 H
  unfold m_laws_szParcel at H
  refine callM_of Tryz.func15 rfl Tryz.ntmps15 Tryz.results15 fun Q hQ hQn => ?_
  exact wk2
instance (a : YParcel) (left : Int) : CT Tryz.prog (m_laws_szParcel a left) := ⟨15, [.ag (cParcel a), vi left], [], fun r => vi r, fun r => [], ok_laws_szParcel a left⟩
end Go.Proofs.YtooikkfldddjfaaGreatDoor

/- The mirror of laws_eqTrip, and that the code does just that (printed by a program of my own). -/
namespace Go.Proofs.YtooikkfldddjfaaGreatDoor
set_option maxRecDepth 10000
open Go.RowKit
set_option linter.unusedVariables false
set_option maxHeartbeats 16000000
def m_laws_eqTrip (a : YTrip) (b : YTrip) : Option Bool :=
 cond (!decide (a.leg = b.leg))
 (some false)
 (cond (!decide (a.day = b.day))
 (some false)
 (some true))
theorem ok_laws_eqTrip (a : YTrip) (b : YTrip) {r : Bool} (H : m_laws_eqTrip a b = some r) : CallM Tryz.prog 26 [.ag (cTrip a), .ag (cTrip b)] [] (vb r) [] := by
  replace H := H0 H
  unfold m_laws_eqTrip at H
  refine callM_of Tryz.func26 rfl Tryz.ntmps26 Tryz.results26 fun Q hQ hQn => ?_
  exact wk2
instance (a : YTrip) (b : YTrip) : CT Tryz.prog (m_laws_eqTrip a b) := ⟨26, [.ag (cTrip a), .ag (cTrip b)], [], fun r => vb r, fun r => [], ok_laws_eqTrip a b⟩
end Go.Proofs.YtooikkfldddjfaaGreatDoor

/- The mirror of laws_toTrip, and that the code does just that (printed by a program of my own). -/
namespace Go.Proofs.YtooikkfldddjfaaGreatDoor
set_option maxRecDepth 10000
open Go.RowKit
set_option linter.unusedVariables false
set_option maxHeartbeats 16000000
def m_laws_toTrip (a : YTrip) : Option YTrip :=
 some a
theorem ok_laws_toTrip (a : YTrip) {r : YTrip} (H : m_laws_toTrip a = some r) : CallM Tryz.prog 20 [.ag (cTrip a)] [] (.ag [vi r.leg, vi r.day]) [] := by
  replace H := H0 H
  unfold m_laws_toTrip at H
  refine callM_of Tryz.func20 rfl Tryz.ntmps20 Tryz.results20 fun Q hQ hQn => ?_
  exact wk2
instance (a : YTrip) : CT Tryz.prog (m_laws_toTrip a) := ⟨20, [.ag (cTrip a)], [], fun r => .ag [vi r.leg, vi r.day], fun r => [], ok_laws_toTrip a⟩
end Go.Proofs.YtooikkfldddjfaaGreatDoor

/- The mirror of laws_eqAct, and that the code does just that (printed by a program of my own). -/
namespace Go.Proofs.YtooikkfldddjfaaGreatDoor
set_option maxRecDepth 10000
open Go.RowKit
set_option linter.unusedVariables false
set_option maxHeartbeats 16000000
def m_laws_eqAct (a : YAct) (b : YAct) : Option Bool :=
 cond (!decide (a.kind = b.kind))
 (some false)
 ((m_laws_eqParcel a.parcel b.parcel).bind fun y1 =>
 cond (!y1)
 (some false)
 (cond (!decide (a.order = b.order))
 (some false)
 (cond (!decide (a.amount = b.amount))
 (some false)
 (cond (!decide (a.until_ = b.until_))
 (some false)
 ((m_laws_eqTrip a.trip b.trip).bind fun y2 =>
 cond (!y2)
 (some false)
 (some true))))))
theorem ok_laws_eqAct (a : YAct) (b : YAct) {r : Bool} (H : m_laws_eqAct a b = some r) : CallM Tryz.prog 9 [.ag (cAct a), .ag (cAct b)] [] (vb r) [] := by
  replace H := H0 H
  unfold m_laws_eqAct at H
  refine callM_of Tryz.func9 rfl Tryz.ntmps9 Tryz.results9 fun Q hQ hQn => ?_
  exact wk2
instance (a : YAct) (b : YAct) : CT Tryz.prog (m_laws_eqAct a b) := ⟨9, [.ag (cAct a), .ag (cAct b)], [], fun r => vb r, fun r => [], ok_laws_eqAct a b⟩
end Go.Proofs.YtooikkfldddjfaaGreatDoor

/- The mirror of laws_toAct, and that the code does just that (printed by a program of my own). -/
namespace Go.Proofs.YtooikkfldddjfaaGreatDoor
set_option maxRecDepth 10000
open Go.RowKit
set_option linter.unusedVariables false
set_option maxHeartbeats 16000000
def m_laws_toAct (a : YAct) : Option YAct :=
 (m_laws_toParcel a.parcel).bind fun y1 =>
 (m_laws_toTrip a.trip).bind fun y2 =>
 some (⟨a.kind, y1, a.order, a.amount, a.until_, y2⟩ : YAct)
theorem ok_laws_toAct (a : YAct) {r : YAct} (H : m_laws_toAct a = some r) : CallM Tryz.prog 7 [.ag (cAct a)] [] (.ag [vi r.kind, vi r.parcel.label.service, vi r.parcel.label.serial, vs r.parcel.label.to_, vs r.parcel.from_, vi r.parcel.weight, .sl (r.parcel.sides.map cInt), vi r.parcel.value, vi r.order, vi r.amount, vi r.until_, vi r.trip.leg, vi r.trip.day]) [] := by
  replace H := H0 H
  unfold m_laws_toAct at H
  refine callM_of Tryz.func7 rfl Tryz.ntmps7 Tryz.results7 fun Q hQ hQn => ?_
  exact wk2
instance (a : YAct) : CT Tryz.prog (m_laws_toAct a) := ⟨7, [.ag (cAct a)], [], fun r => .ag [vi r.kind, vi r.parcel.label.service, vi r.parcel.label.serial, vs r.parcel.label.to_, vs r.parcel.from_, vi r.parcel.weight, .sl (r.parcel.sides.map cInt), vi r.parcel.value, vi r.order, vi r.amount, vi r.until_, vi r.trip.leg, vi r.trip.day], fun r => [], ok_laws_toAct a⟩
end Go.Proofs.YtooikkfldddjfaaGreatDoor

/- The mirror of laws_szAct, and that the code does just that (printed by a program of my own). -/
namespace Go.Proofs.YtooikkfldddjfaaGreatDoor
set_option maxRecDepth 10000
open Go.RowKit
set_option linter.unusedVariables false
set_option maxHeartbeats 16000000
def m_laws_szAct (a : YAct) (left : Int) : Option Int :=
 (m_laws_szParcel a.parcel left).bind fun y1 =>
 cond (decide (y1 < 0))
 (some (-1))
 (some y1)
theorem ok_laws_szAct (a : YAct) (left : Int) {r : Int} (H : m_laws_szAct a left = some r) : CallM Tryz.prog 5 [.ag (cAct a), vi left] [] (vi r) [] := by
  replace H := H0 H
  unfold m_laws_szAct at H
  refine callM_of Tryz.func5 rfl Tryz.ntmps5 Tryz.results5 fun Q hQ hQn => ?_
  exact wk2
instance (a : YAct) (left : Int) : CT Tryz.prog (m_laws_szAct a left) := ⟨5, [.ag (cAct a), vi left], [], fun r => vi r, fun r => [], ok_laws_szAct a left⟩
end Go.Proofs.YtooikkfldddjfaaGreatDoor

/- What the mirrors of the laws' own functions answer (printed by wip/genplain.py). -/
namespace Go.Proofs.YtooikkfldddjfaaGreatDoor
set_option maxRecDepth 10000
open Go.RowKit
set_option linter.unusedVariables false
set_option linter.unusedSimpArgs false
theorem mkOk_of {n : Nat} {b : Int} (h : n ≤ 1048576) (hb : 0 ≤ b) (hb2 : b ≤ 134217728) : mkOk (n : Int) b = true := by
  refine decide_eq_true ⟨by omega, by omega, ?_⟩
  have : b * (n : Int) ≤ 134217728 * 1048576 := Int.mul_le_mul hb2 (by omega) (by omega) (by omega)
  omega
theorem totS_len {α : Type} (f : α → Nat) (xs : List α) : xs.length ≤ totS f xs := by unfold totS; omega
theorem totS_mem {α : Type} (f : α → Nat) {xs : List α} {y : α} (h : y ∈ xs) : f y ≤ totS f xs := by
  have : f y ≤ (xs.map f).sum := by
    induction xs with
    | nil => cases h
    | cons x xs ih =>
      simp only [List.map_cons, List.sum_cons]
      rcases List.mem_cons.1 h with rfl | h
      · omega
      · have := ih h; omega
  unfold totS; omega
theorem iter_sz {α : Type} {xs : List α} {f : α → Nat} {body : Int × Int → Option ((Int × Int) ⊕ (Int ⊕ Int))}
    (h1 : ∀ (i : Nat) (l : Int) x, xs[i]? = some x → 0 ≤ l → l ≤ 1048576 → body (l, (i : Int)) = some (if l < f x then .inr (.inr (-1)) else .inl (l - f x, ((i + 1 : Nat) : Int))))
    (h2 : ∀ l, body (l, (xs.length : Int)) = some (.inr (.inl l))) (hN : xs.length < NN) {l : Int} (hl : 0 ≤ l) (hl2 : l ≤ 1048576) :
    iterF body NN (l, 0) = some (if l < ((xs.map f).sum : Nat) then .inr (-1) else .inl (l - ((xs.map f).sum : Nat))) := by
  have key : ∀ (ys : List α) (i N : Nat) (l : Int), xs.drop i = ys → i ≤ xs.length → ys.length < N → 0 ≤ l → l ≤ 1048576 → iterF body N (l, (i : Int)) = some (if l < ((ys.map f).sum : Nat) then .inr (-1) else .inl (l - ((ys.map f).sum : Nat))) := by
    intro ys
    induction ys with
    | nil =>
      intro i N l hd hi hN h0 h1'
      cases N with
      | zero => omega
      | succ N =>
        have : i = xs.length := by have := congrArg List.length hd; simp at this; omega
        subst this
        simp only [iterF, h2]
        show some (Sum.inl l) = _
        rw [if_neg (by simp; omega)]; simp
    | cons y ys ih =>
      intro i N l hd hi hN h0 h1'
      cases N with
      | zero => simp at hN
      | succ N =>
        have hy : xs[i]? = some y := by
          have := congrArg (fun l => l[0]?) hd
          simpa using this
        have hlt : i < xs.length := (List.getElem?_eq_some_iff.1 hy).1
        have hd' : xs.drop (i + 1) = ys := by
          have := congrArg (List.drop 1) hd
          simpa [List.drop_drop] using this
        simp only [iterF, h1 i l y hy h0 h1', List.map_cons, List.sum_cons]
        by_cases hc : l < f y
        · rw [if_pos hc, if_pos (by omega)]; rfl
        · rw [if_neg hc]
          show iterF body N (l - f y, ((i + 1 : Nat) : Int)) = _
          rw [ih (i + 1) N _ hd' hlt (by simp at hN; omega) (by omega) (by omega)]
          by_cases hc2 : l - f y < ((ys.map f).sum : Nat)
          · rw [if_pos hc2, if_pos (by omega)]
          · rw [if_neg hc2, if_neg (by omega)]; congr 2; omega
  exact key xs 0 NN l rfl (Nat.zero_le _) hN hl hl2
theorem szTo_nn {l : Int} {n : Nat} (h : ¬ szTo l n < 0) (h0 : 0 ≤ l) : (n : Int) ≤ l ∧ szTo l n = l - n := by
  rcases szTo_spec l n with ⟨_, e⟩ | ⟨h1, e⟩
  · rw [e] at h; omega
  · exact ⟨h1, e⟩
theorem eqr_Label (x : YLabel) (h : totLabel x ≤ 1048576) : m_laws_eqLabel x x = some true := by
  simp [m_laws_eqLabel]
theorem cpy_Label (x : YLabel) (h : totLabel x ≤ 1048576) : m_laws_toLabel x = some x := by
  simp [m_laws_toLabel]
theorem sz_Label (x : YLabel) {left : Int} (h0 : 0 ≤ left) (h1 : left ≤ 1048576) (ok : okLabel x) : m_laws_szLabel x left = some (szTo left (totLabel x)) := by
  obtain ⟨k0, k1, k2⟩ := ok
  have ht : totLabel x = x.to_.size := rfl
  unfold m_laws_szLabel
  unfold okStr maxLen at k2
  rw [w64_in (by omega)]
  by_cases c0 : left - ((x.to_.size : Nat) : Int) < 0
  · rw [decide_eq_true c0]; show some (-1) = _; rw [ht]; rcases szTo_spec left (x.to_.size) with ⟨h, e⟩ | ⟨h, e⟩; · rw [e]
    omega
  rw [decide_eq_false c0]; simp only [cond_false]
  obtain ⟨l1, hl1⟩ : ∃ l : Int, l = left - ((x.to_.size : Nat) : Int) := ⟨_, rfl⟩
  rw [← hl1]
  rw [ht]; rcases szTo_spec left (x.to_.size) with ⟨h, e⟩ | ⟨h, e⟩
  · omega
  · rw [e]; (first | (congr 1; omega) | congr 1)
theorem eqr_IntS (a : List Int) (hl : a.length ≤ 1048576) : m_laws_eqIntS a a = some true := by
  have e : iterF (m_laws_eqIntS_b0 a a) NN 0 = some (.inl ()) := by
    refine iter_pass (xs := a) (fun i x hx => ?_) ?_ (by unfold NN; omega)
    · obtain ⟨hi, rfl⟩ := List.getElem?_eq_some_iff.1 hx
      have hw := w64_nat hi (by omega)
      simp [m_laws_eqIntS_b0, getI_nat, hx, hi, hw]
    · simp [m_laws_eqIntS_b0]
  unfold m_laws_eqIntS; simp [e]
theorem cpy_IntS (a : List Int) (hl : a.length ≤ 1048576) : m_laws_toIntS a = some a := by
  have e : ∀ z, iterF (m_laws_toIntS_b0 a) NN (0, List.replicate a.length z) = some a := by
    intro z
    refine iter_copy (fun i out x hx ho => ?_) (fun out => ?_) (by unfold NN; omega)
    · obtain ⟨hi, rfl⟩ := List.getElem?_eq_some_iff.1 hx
      have hw := w64_nat hi (by omega)
      have hx3 : out[i]? = some out[i] := List.getElem?_eq_getElem (by omega)
      simp [m_laws_toIntS_b0, getI_nat, hx, hx3, hi, hw]
    · simp [m_laws_toIntS_b0]
  unfold m_laws_toIntS; rw [chk_t (mkOk_of hl (by decide) (by decide))]; simp [e]
theorem sz_IntS (a : List Int) {left : Int} (h0 : 0 ≤ left) (h1 : left ≤ 1048576) (hl : a.length ≤ maxLen) : m_laws_szIntS a left = some (szTo left a.length) := by
  unfold maxLen at hl
  unfold m_laws_szIntS
  rw [w64_in (by omega)]
  rcases szTo_spec left a.length with ⟨h, e⟩ | ⟨h, e⟩
  · rw [e, decide_eq_true (by omega)]; rfl
  · rw [e, decide_eq_false (by omega)]; rfl
theorem eqr_Parcel (x : YParcel) (h : totParcel x ≤ 1048576) : m_laws_eqParcel x x = some true := by
  have e0 := eqr_Label x.label (by unfold totParcel at h; omega)
  have e1 := eqr_IntS x.sides (by unfold totParcel at h; omega)
  simp [m_laws_eqParcel, e0, e1]
theorem cpy_Parcel (x : YParcel) (h : totParcel x ≤ 1048576) : m_laws_toParcel x = some x := by
  have e0 := cpy_Label x.label (by unfold totParcel at h; omega)
  have e1 := cpy_IntS x.sides (by unfold totParcel at h; omega)
  simp [m_laws_toParcel, e0, e1]
theorem sz_Parcel (x : YParcel) {left : Int} (h0 : 0 ≤ left) (h1 : left ≤ 1048576) (ok : okParcel x) : m_laws_szParcel x left = some (szTo left (totParcel x)) := by
  obtain ⟨k0, k1, k2, k3, k4⟩ := ok
  have ht : totParcel x = totLabel x.label + x.from_.size + x.sides.length := rfl
  unfold m_laws_szParcel
  rw [sz_Label x.label (by omega) (by omega) k0]; simp only [Option.bind_some]
  by_cases c0 : szTo left (totLabel x.label) < 0
  · rw [decide_eq_true c0]; show some (-1) = _; rw [ht]; rcases szTo_spec left (totLabel x.label) with ⟨h2, e2⟩ | ⟨h2, e2⟩; rcases szTo_spec left (totLabel x.label + x.from_.size + x.sides.length) with ⟨h, e⟩ | ⟨h, e⟩; · rw [e]
    all_goals omega
  rw [decide_eq_false c0]; simp only [cond_false]
  obtain ⟨d0, e0⟩ := szTo_nn c0 (by omega)
  rw [e0]
  obtain ⟨l1, hl1⟩ : ∃ l : Int, l = left - ((totLabel x.label : Nat) : Int) := ⟨_, rfl⟩
  rw [← hl1]
  unfold okStr maxLen at k1
  rw [w64_in (by omega)]
  by_cases c1 : l1 - ((x.from_.size : Nat) : Int) < 0
  · rw [decide_eq_true c1]; show some (-1) = _; rw [ht]; rcases szTo_spec left (totLabel x.label + x.from_.size + x.sides.length) with ⟨h, e⟩ | ⟨h, e⟩; · rw [e]
    omega
  rw [decide_eq_false c1]; simp only [cond_false]
  obtain ⟨l2, hl2⟩ : ∃ l : Int, l = l1 - ((x.from_.size : Nat) : Int) := ⟨_, rfl⟩
  rw [← hl2]
  rw [sz_IntS x.sides (by omega) (by omega) k3.1]; simp only [Option.bind_some]
  by_cases c2 : szTo l2 (x.sides.length) < 0
  · rw [decide_eq_true c2]; show some (-1) = _; rw [ht]; rcases szTo_spec l2 (x.sides.length) with ⟨h2, e2⟩ | ⟨h2, e2⟩; rcases szTo_spec left (totLabel x.label + x.from_.size + x.sides.length) with ⟨h, e⟩ | ⟨h, e⟩; · rw [e]
    all_goals omega
  rw [decide_eq_false c2]; simp only [cond_false]
  obtain ⟨d2, e2⟩ := szTo_nn c2 (by omega)
  rw [e2]
  obtain ⟨l3, hl3⟩ : ∃ l : Int, l = l2 - ((x.sides.length : Nat) : Int) := ⟨_, rfl⟩
  rw [← hl3]
  rw [ht]; rcases szTo_spec left (totLabel x.label + x.from_.size + x.sides.length) with ⟨h, e⟩ | ⟨h, e⟩
  · omega
  · rw [e]; (first | (congr 1; omega) | congr 1)
theorem eqr_Trip (x : YTrip) : m_laws_eqTrip x x = some true := by
  simp [m_laws_eqTrip]
theorem cpy_Trip (x : YTrip) : m_laws_toTrip x = some x := by
  simp [m_laws_toTrip]
theorem eqr_Act (x : YAct) (h : totAct x ≤ 1048576) : m_laws_eqAct x x = some true := by
  have e0 := eqr_Parcel x.parcel (by unfold totAct at h; omega)
  have e1 := eqr_Trip x.trip
  simp [m_laws_eqAct, e0, e1]
theorem cpy_Act (x : YAct) (h : totAct x ≤ 1048576) : m_laws_toAct x = some x := by
  have e0 := cpy_Parcel x.parcel (by unfold totAct at h; omega)
  have e1 := cpy_Trip x.trip
  simp [m_laws_toAct, e0, e1]
theorem sz_Act (x : YAct) {left : Int} (h0 : 0 ≤ left) (h1 : left ≤ 1048576) (ok : okAct x) : m_laws_szAct x left = some (szTo left (totAct x)) := by
  obtain ⟨k0, k1, k2, k3, k4, k5⟩ := ok
  have ht : totAct x = totParcel x.parcel := rfl
  unfold m_laws_szAct
  rw [sz_Parcel x.parcel (by omega) (by omega) k1]; simp only [Option.bind_some]
  by_cases c0 : szTo left (totParcel x.parcel) < 0
  · rw [decide_eq_true c0]; show some (-1) = _; rw [ht]; rcases szTo_spec left (totParcel x.parcel) with ⟨h2, e2⟩ | ⟨h2, e2⟩; rcases szTo_spec left (totParcel x.parcel) with ⟨h, e⟩ | ⟨h, e⟩; · rw [e]
    all_goals omega
  rw [decide_eq_false c0]; simp only [cond_false]
  obtain ⟨d0, e0⟩ := szTo_nn c0 (by omega)
  rw [e0]
  obtain ⟨l1, hl1⟩ : ∃ l : Int, l = left - ((totParcel x.parcel : Nat) : Int) := ⟨_, rfl⟩
  rw [← hl1]
  rw [ht]; rcases szTo_spec left (totParcel x.parcel) with ⟨h, e⟩ | ⟨h, e⟩
  · omega
  · rw [e]; (first | (congr 1; omega) | congr 1)
end Go.Proofs.YtooikkfldddjfaaGreatDoor

/- The mirror of laws_FnExactFormatAct, and that the code does just that (printed by a program of my own). -/
namespace Go.Proofs.YtooikkfldddjfaaGreatDoor
set_option maxRecDepth 10000
open Go.RowKit
set_option linter.unusedVariables false
set_option maxHeartbeats 16000000
def m_laws_FnExactFormatAct (aA : YAct) : Option Bool :=
 (m_laws_szAct aA 1048576).bind fun y1 =>
 cond (decide (y1 < 0))
 (some true)
 ((m_laws_toAct aA).bind fun y2 =>
 (m_spec_FormatAct y2).bind fun y3 =>
 (m_laws_toAct aA).bind fun y4 =>
 (m_impl_FormatAct y4).bind fun y5 =>
 cond (!decide (y5 = y3))
 (some false)
 ((m_laws_toAct aA).bind fun y6 =>
 (m_laws_eqAct y4 y6).bind fun y7 =>
 cond (!y7)
 (some false)
 (some true)))
theorem ok_laws_FnExactFormatAct (aA : YAct) {r : Bool} (H : m_laws_FnExactFormatAct aA = some r) : CallM Tryz.prog 3 [.ag (cAct aA)] [] (vb r) [] := by
  replace H := H0 H
  unfold m_laws_FnExactFormatAct at H
  refine callM_of Tryz.func3 rfl Tryz.ntmps3 Tryz.results3 fun Q hQ hQn => ?_
  exact wk2
instance (aA : YAct) : CT Tryz.prog (m_laws_FnExactFormatAct aA) := ⟨3, [.ag (cAct aA)], [], fun r => vb r, fun r => [], ok_laws_FnExactFormatAct aA⟩
end Go.Proofs.YtooikkfldddjfaaGreatDoor

/- The law of FormatAct, in plain values. -/
namespace Go.Proofs.YtooikkfldddjfaaGreatDoor
set_option maxRecDepth 10000
open Go.RowKit
set_option linter.unusedVariables false
set_option linter.unusedSimpArgs false
theorem fit_or_Act {a : YAct} (ok : okAct a) : m_laws_szAct a 1048576 = some (-1) ∨ ∃ y, m_laws_szAct a 1048576 = some y ∧ ¬ y < 0 ∧ totAct a ≤ 1048576 := by
  rw [sz_Act a (by omega) (by omega) ok]
  by_cases h : szTo 1048576 (totAct a) < 0
  · left
    unfold szTo at *
    split at h
    · rw [if_pos (by assumption)]
    · omega
  · right
    obtain ⟨h1, _⟩ := szTo_nn h (by omega)
    exact ⟨_, rfl, h, by omega⟩
theorem actI_of {a : YAct} (ok : okAct a) (ht : totAct a ≤ 1048576) : ActI a := by
  have e1 : totAct a = totParcel a.parcel := rfl
  have e2 : totParcel a.parcel = totLabel a.parcel.label + a.parcel.from_.size + a.parcel.sides.length := rfl
  have e3 : totLabel a.parcel.label = a.parcel.label.to_.size := rfl
  obtain ⟨o1, ⟨⟨p1, p2, p3⟩, p4, p5, p6, p7⟩, o2, o3, o4, o5, o6⟩ := ok
  exact ⟨⟨ok_in64 p1, ok_in64 p2, by omega, by omega, ok_in64 p5, by omega, fun x hx => ok_in64 (p6.2 x hx), ok_in64 p7⟩, ok_in64 o2, ok_in64 o3, ok_in64 o4, ok_in64 o5, ok_in64 o6⟩
theorem lawFnExactFormatAct (a : YAct) (ok : okAct a) : CallOk Tryz.prog 3 [.ag (cAct a)] (vb true) [] := by
  refine ok_laws_FnExactFormatAct a ?_
  unfold m_laws_FnExactFormatAct
  rcases fit_or_Act ok with h | ⟨y, h, h1, ht⟩
  · rw [h]; rfl
  · obtain ⟨b, b1, b2⟩ := act_both (actI_of ok ht)
    simp only [h, cpy_Act a ht, b1, b2, eqr_Act a ht, Option.bind_some, decide_eq_false h1, cond_false, Bool.not_true, beq_self_eq_true, decide_true]
end Go.Proofs.YtooikkfldddjfaaGreatDoor

/- The statement FnExactFormatActCardSaid: for every input that can be read the law FnExactFormatAct returns true and leaves its arguments as_ they were. No further condition. -/
namespace Go.Proofs.YtooikkfldddjfaaGreatDoor
open Go.ChangeShapes Go.WideShapes Go.ChangeAt Go.RowKit Go.Deep
set_option linter.unusedVariables false
namespace fnExactFormatAct
theorem own : ownKnob Tryz.prog.godebug = none := by kernel_rfl
theorem laidOut : laidOutB Tryz.prog = true := by kernel_rfl
theorem gTab : Tryz.prog.globalNamed "internal/strconv.uint64pow10" = some 0 := by kernel_rfl
theorem tTab : (Tryz.prog.globals[0]?).map (·.type) = some 120 := by kernel_rfl
theorem uTab : Tryz.prog.underlying 120 = some (.array 20 103) := by kernel_rfl
theorem uEl : Tryz.prog.underlying 103 = some (.int .u64) := by kernel_rfl
theorem cEl : Tryz.prog.cellsOf 103 = 1 := by kernel_rfl
theorem cTab : Tryz.prog.cellsOf 120 = 20 := by kernel_rfl
abbrev laid3 : List (String × DataW Unit) := Rows.fnExactFormatActRow.laid
theorem tab_of {W : World} (h : laidMetH Tryz.prog laid3 W) : Tab W (own0 fun _ => none) := by
  rw [MakeChecks.laidMetH_plain _ _ _ (by kernel_rfl)] at h
  have h2 := laidMet.tail (laidMet.tail h)
  have hT : TabF W := Lib.tabIs_of_head (zs := Lib.pow10Tab) gTab tTab uTab uEl cEl cTab h2
  have hlt : 0 < W.heap.size := by
    rcases Nat.eq_zero_or_pos W.heap.size with h0 | h0
    · exfalso
      unfold TabF Lib.TabIs World.var? at hT
      rw [gTab] at hT
      simp only [Option.bind_some] at hT
      rw [Array.getElem?_eq_none (by omega)] at hT
      cases hT
    · exact h0
  refine ⟨fun b => b = 0, ?_, ?_⟩
  · rintro b rfl
    refine ⟨hlt, ?_⟩
    rintro ⟨l, B, h, _⟩
    cases h
  · intro w' hw
    have e := hw 0 rfl
    unfold TabF Lib.TabIs World.var? at hT ⊢
    rw [gTab] at hT ⊢
    simp only [Option.bind_some] at hT ⊢
    rw [e]
    exact hT
theorem door_met (os : Os) (args : Array Value) : laidMetH Tryz.prog laid3 ((World.doorLaid Tryz.prog 400 os).forCall (fun _ _ => 0) ⟨#[], args, []⟩).memory :=
  laidMetH_of_parts3 (fuel := 8) (laidMet_of_run' 8 (by kernel_rfl) (by kernel_rfl)) (by kernel_rfl) (by kernel_rfl)
set_option maxRecDepth 100000 in
theorem lifted (os : Os) (started : os.Started) (H : Type) (enc : TypeId × Value → H) :
    ReturnsInHanded {} Tryz.checked os 3 .any (fun w args => (Rows.fnExactFormatActSpec.pre enc Tryz.prog Tryz.f3 [] false w args ∧ laidMetH Tryz.prog laid3 w) ∧ sizedMet enc Tryz.prog Tryz.f3 (OpenSpec.ofChange Rows.fnExactFormatActSpec) false w args) (Rows.fnExactFormatActSpec.post enc Tryz.prog Tryz.f3 false true false false) := by
  refine returnsInHanded_of_change_and (C := Tryz.checked) (X := fun w _ => laidMetH Tryz.prog laid3 w) (fun _ _ _ hh h => h.of_heap hh) own started (by kernel_rfl) Tryz.func3
    (ChangeSpec.witness_shaped (enc := enc) (C := Tryz.checked) (os := os) (X := fun w _ => laidMetH Tryz.prog laid3 w) false (World.doorLaid Tryz.prog 400 os) #[.agg #[.int .i64 0, .int .i64 0, .int .i64 0, .string ⟨#[]⟩, .string ⟨#[]⟩, .int .i64 0, .slice none 0 0, .int .i64 0, .int .i64 0, .int .i64 0, .int .i64 0, .int .i64 0, .int .i64 0]] 8 rfl (World.shaped_of_RefB (by kernel_rfl) (by kernel_rfl)) (by kernel_rfl) (by kernel_rfl) (by kernel_rfl) (door_met os _)) ?_
  intro W base args ds gs before hval0 hW _ _ hL _
  have hval : ∀ (j : Nat) t v, Tryz.f3.params[j]? = some t → args[j]? = some v → Value.okWide Tryz.prog W .any base t v := hval0
  have hW' := hW
  obtain ⟨p, q, hA0, hV, rfl, hfz, hnd⟩ := hW
  have hA : DataW.TrodAll enc Tryz.prog W 0 (fun _ => true) true Tryz.f3.params.toList args.toList ds p := hA0
  rw [Tryz.params3] at hA hval
  obtain ⟨v0, vs0, d0, ds0, p0, q0, hargs, rfl, rfl, h0, r0⟩ := trodAll_cons hA
  obtain ⟨rfl, rfl, rfl⟩ := trodAll_nil r0
  obtain rfl : args = #[v0] := by cases args; simp_all
  obtain ⟨rfl, rfl⟩ := trodVars_none hV
  have k0 := h0
  have lt0 : ∀ x ∈ p0, x.block < W.heap.size := by obtain ⟨m, hm⟩ := k0; exact DataW.trod_lt m _ _ _ hm
  obtain ⟨cs0, rfl, hsz0⟩ := okWide_struct Tryz.underlying30 (hval 0 30 v0 rfl rfl)
  obtain ⟨x0, hx0, ok0⟩ : ∃ a : YAct, Reads W (cAct a) cs0.toList ∧ okAct a := by obtain ⟨fuel, hf⟩ := h0; exact dec_Act hf
  clear hA0 hval0
  refine (CallOk.run (lawFnExactFormatAct x0 ok0) (tab_of hL) rfl (vs := #[.agg cs0]) (w := W) (fun i p hp => ?_)).mono fun e W' ⟨he, bel⟩ => ?_
  · match i, hp with
    | 0, hp => obtain rfl := Option.some.inj hp; exact ⟨_, rfl, reads_rep hx0⟩
    | n + 1, hp => simp at hp
  subst he
  exact ⟨_, rfl, _, _, _, [], _, [], hW', trodAll_mk1 (shut_bool Tryz.underlying4 _), (trodAll_cons_mk (Below.trod laidOut (by kernel_rfl) (of_decide_eq_true (by kernel_rfl)) k0 bel lt0) trodAll_mk0), rfl, bel.frame _, fun h => by cases h⟩
theorem over : Rows.FnExactFormatActSaid :=
  OpenClaim.holds_of_wide 3 Tryz.f3 rfl rfl rfl rfl rfl rfl rfl ⟨rfl, rfl, rfl, rfl, rfl⟩ rfl rfl rfl rfl rfl (by kernel_rfl) Tryz.func3 (by kernel_rfl)
    (of_decide_eq_true (by kernel_rfl)) (by unfold Func.isWrapper; first | (rw [if_pos (by decide +kernel)]; kernel_rfl) | (rw [if_neg (by decide +kernel)]; exact ⟨rfl, rfl⟩))
    (fun os started H enc _ => lifted os started H enc)
theorem proved : Rows.FnExactFormatActCardSaid :=
  Claim7.holds_tied_plain_at .later [] [.data, .data, .data] true Rows.fnExactFormatActCard.stood.harness false
    over (fun _ h => by cases h) (by kernel_rfl) (fun _ h => by cases h) fnExactFormatAct_row_tie rfl ⟨rfl, rfl⟩ (by kernel_rfl) rfl
    (fun f fn hf hfn => by
      obtain rfl : f = 3 := Option.some.inj ((show Tryz.prog.funcNamed "loop.example/g03014/laws.FnExactFormatAct" = some 3 by kernel_rfl).symm.trans hf) |>.symm
      obtain rfl : fn = Tryz.f3 := (Option.some.inj (Tryz.func3.symm.trans hfn)).symm
      exact ⟨by kernel_rfl, fun j t ht => by
        rw [Tryz.params3] at ht
        have hm : t ∈ [30] := by simpa using Array.mem_of_getElem? ht
        have hall : ([30].all fun u => !Tryz.prog.wantsStandIn u) = true := by kernel_rfl
        exact (show Tryz.prog.wantsStandIn t = false by simpa using List.all_eq_true.1 hall t hm)⟩)
    (by kernel_rfl)
#print axioms proved
end fnExactFormatAct
end Go.Proofs.YtooikkfldddjfaaGreatDoor
