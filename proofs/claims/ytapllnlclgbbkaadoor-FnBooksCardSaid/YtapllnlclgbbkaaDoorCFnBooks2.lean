/- A part of the proof of the statement in the last file of this claim: texts on the language of the program and on its functions. No condition. -/
import Derived.Shelf.Strings.Builder1
import Derived.Shelf.Strings.Builder2
import Derived.Shelf.Small.Bits
import Derived.Shelf.Small.Wraps
import Derived.Shelf.Strings.BuilderF
import Derived.Shelf.Strings.BuilderK
import Derived.Shelf.Strings.Builder2Cap
import Derived.Shelf.Strconv.Itoa0
import Derived.Shelf.Strconv.Itoa1
import Derived.Shelf.LaysM
import Derived.Shelf.Strconv.Itoa2
import Derived.Shelf.Strconv.Itoa3
import Derived.Shelf.Sort.Plain
import Derived.Shelf.Strings.Prefix
import Derived.Shelf.Bits.Mul64
import Derived.Shelf.Strings.Repeat
import Derived.Shelf.Strings.BuilderCap
import Derived.Ground.Names2Prog
import Derived.Shelf.Slices.SearchI
import Derived.Shelf.Slices.In.SortNone
import Derived.Shelf.Slices.In.SortNone2
import Derived.Test.YtapllnlclgbbkaaDoorProg
import Derived.Test.YtapllnlclgbbkaaDoorCFnBooks1
import Derived.Sort.OwnSortedInts
import Derived.ProofKit
import Derived.Deep.Slices
import Derived.Deep.Fields
import Derived.ChangeOld
import Derived.ChangeSame
import Derived.Test.YtapllnlclgbbkaaDoorChecked
import Derived.Lib.SmallJoins
/-
  DERIVED: THE SHELF's CONTRACTS AT THIS DUMP, IN PLAIN WORDS (tools/lay-plain.mjs out of 'TrydShelf.lean', which tools/lay-shelf.mjs wrote): THE SAME DECLARATIONS UNDER THE SAME NAMES: 'import', 'namespace', 'open', 'def', 'theorem' AND NOTHING ELSE: no command of the shelf's: FOR A HAND-IN. Each laying: the table of numbers ('.._ren') and one theorem, a field a fact of the dump's own or the kernel's comparison; each contract: ONE APPLICATION.
-/
namespace Go.Proofs
open Go.Shelf
def Tryd.lays170_ren : Go.Shelf.Ren := ⟨fun | 170 => 78 | n => n, fun | 70 => 92 | 3 => 3 | 0 => 0 | 72 => 94 | 37 => 29 | 5 => 5 | n => n, fun | n => n⟩
theorem Tryd.lays170 : Go.Proofs.Lays.n170 Tryd.prog Tryd.lays170_ren := {
  mixed := by kernel_rfl
  f170 := Tryd.func78.trans (congrArg some (by kernel_rfl))
  t0 := Tryd.underlying0
  a0 := Tryd.isAgg0
  z0 := Tryd.sizeOf0
  v0 := Tryd.zeroValue0
  t3 := Tryd.underlying3
  a3 := Tryd.isAgg3
  z3 := Tryd.sizeOf3
  v3 := Tryd.zeroValue3
  t37 := Tryd.underlying29
  a37 := Tryd.isAgg29
  z37 := Tryd.sizeOf29
  v37 := Tryd.zeroValue29
  t70 := Tryd.underlying92
  a70 := Tryd.isAgg92
  z70 := Tryd.sizeOf92
  v70 := Tryd.zeroValue92
  t72 := Tryd.underlying94
  a72 := Tryd.isAgg94
  z72 := Tryd.sizeOf94
  v72 := Tryd.zeroValue94 }
open Go.RowKit in
/-- (*strings.Builder).Len: "Len returns the number of accumulated bytes; b.Len() == len(b.String()).": the world is as_ it was. (LAID: no walk: one application.) -/
theorem Tryd.Builder_Len (B b : Nat) (bs : List Value) (w : World) (h : Lib.IsBuilder 94 5 B b bs w) :
    Calls Tryd.prog 78 #[.pointer (some ⟨b, 0, none⟩)] w fun e w' => e = .returned (.int .i64 bs.length) ∧ w' = w := Any.Builder_Len Tryd.lays170 B b bs w h
def Tryd.lays169_ren : Go.Shelf.Ren := ⟨fun | 169 => 79 | n => n, fun | 70 => 92 | 9 => 9 | 0 => 0 | 72 => 94 | 37 => 29 | 127 => 117 | 3 => 3 | 5 => 5 | n => n, fun | n => n⟩
theorem Tryd.lays169 : Go.Proofs.Lays.n169 Tryd.prog Tryd.lays169_ren := {
  mixed := by kernel_rfl
  f169 := Tryd.func79.trans (congrArg some (by kernel_rfl))
  t0 := Tryd.underlying0
  a0 := Tryd.isAgg0
  z0 := Tryd.sizeOf0
  v0 := Tryd.zeroValue0
  t3 := Tryd.underlying3
  a3 := Tryd.isAgg3
  z3 := Tryd.sizeOf3
  v3 := Tryd.zeroValue3
  t9 := Tryd.underlying9
  a9 := Tryd.isAgg9
  z9 := Tryd.sizeOf9
  v9 := Tryd.zeroValue9
  t37 := Tryd.underlying29
  a37 := Tryd.isAgg29
  z37 := Tryd.sizeOf29
  v37 := Tryd.zeroValue29
  t70 := Tryd.underlying92
  a70 := Tryd.isAgg92
  z70 := Tryd.sizeOf92
  v70 := Tryd.zeroValue92
  t72 := Tryd.underlying94
  a72 := Tryd.isAgg94
  z72 := Tryd.sizeOf94
  v72 := Tryd.zeroValue94
  t127 := Tryd.underlying117
  a127 := Tryd.isAgg117
  z127 := Tryd.sizeOf117
  v127 := Tryd.zeroValue117 }
theorem Tryd.Builder_Extra_169 : Builder.Extra Tryd.prog Tryd.lays169_ren := {
  sizeBuilder := by kernel_rfl
  liesBuilder := by kernel_rfl
  t5 := Tryd.underlying5
  a5 := Tryd.isAgg5
  z5 := Tryd.sizeOf5
  v5 := Tryd.zeroValue5
  infoByte := by kernel_rfl
  cellsByte := by kernel_rfl
  sizeByte := by kernel_rfl
  neB5 := by decide }
open Go.RowKit in
/-- (*strings.Builder).String: "String returns the accumulated string.": OF A BUILDER THAT HOLDS AT LEAST ONE BYTE. ✋ THE MODEL FREEZES THOSE BYTES IN THE BUFFER (unsafe.String): a later write INTO them ends the model's run without an answer; a later append BEHIND them goes on. The statement's order of evaluation is drawn: one draw. (LAID: no walk: one application.) -/
theorem Tryd.Builder_String (B b : Nat) (l : List UInt8) (w : World) (h : Lib.IsBuilder 94 5 B b (Lib.byteCells l) w) (h0 : l ≠ []) :
    Calls Tryd.prog 79 #[.pointer (some ⟨b, 0, none⟩)] w fun e w' => e = .returned (.string ⟨l.toArray⟩) ∧ Below B w w' := Any.Builder_String Tryd.lays169 Tryd.Builder_Extra_169 B b l w h h0
open Go.RowKit in
/-- (*strings.Builder).String OF A BUILDER THAT HOLDS NO BYTE: the empty string. (Its buffer is nil, or a row of which it has taken nothing yet; where that row has NO capacity the model lays one new block for unsafe.SliceData's 'some address'.) One draw. (LAID: no walk: one application.) -/
theorem Tryd.Builder_String_empty (B b : Nat) (w : World) (h : Lib.IsBuilder 94 5 B b [] w) (hBw : B ≤ w.heap.size) :
    Calls Tryd.prog 79 #[.pointer (some ⟨b, 0, none⟩)] w fun e w' => e = .returned (.string ⟨#[]⟩) ∧ Below B w w' := Any.Builder_String_empty Tryd.lays169 Tryd.Builder_Extra_169 B b w h hBw
open Go.RowKit in
/-- (*strings.Builder).String: "String returns the accumulated string.": WHATEVER THE BUILDER HOLDS. (LAID: no walk: one application.) -/
theorem Tryd.Builder_String_any (B b : Nat) (l : List UInt8) (w : World) (h : Lib.IsBuilder 94 5 B b (Lib.byteCells l) w) (hBw : B ≤ w.heap.size) :
    Calls Tryd.prog 79 #[.pointer (some ⟨b, 0, none⟩)] w fun e w' => e = .returned (.string ⟨l.toArray⟩) ∧ Below B w w' := Any.Builder_String_any Tryd.lays169 Tryd.Builder_Extra_169 B b l w h hBw
def Tryd.lays241_ren : Go.Shelf.Ren := ⟨fun | 241 => 94 | 277 => 101 | n => n, fun | 70 => 92 | 3 => 3 | 0 => 0 | 72 => 94 | 37 => 29 | 5 => 5 | n => n, fun | n => n⟩
theorem Tryd.lays241 : Go.Proofs.Lays.n241 Tryd.prog Tryd.lays241_ren := {
  mixed := by kernel_rfl
  f241 := Tryd.func94.trans (congrArg some (by kernel_rfl))
  f277 := Tryd.func101.trans (congrArg some (by kernel_rfl))
  t0 := Tryd.underlying0
  a0 := Tryd.isAgg0
  z0 := Tryd.sizeOf0
  v0 := Tryd.zeroValue0
  t3 := Tryd.underlying3
  a3 := Tryd.isAgg3
  z3 := Tryd.sizeOf3
  v3 := Tryd.zeroValue3
  t37 := Tryd.underlying29
  a37 := Tryd.isAgg29
  z37 := Tryd.sizeOf29
  v37 := Tryd.zeroValue29
  t70 := Tryd.underlying92
  a70 := Tryd.isAgg92
  z70 := Tryd.sizeOf92
  v70 := Tryd.zeroValue92
  t72 := Tryd.underlying94
  a72 := Tryd.isAgg94
  z72 := Tryd.sizeOf94
  v72 := Tryd.zeroValue94 }
theorem Tryd.Builder_Extra_241 : Builder.Extra Tryd.prog Tryd.lays241_ren := {
  sizeBuilder := by kernel_rfl
  liesBuilder := by kernel_rfl
  t5 := Tryd.underlying5
  a5 := Tryd.isAgg5
  z5 := Tryd.sizeOf5
  v5 := Tryd.zeroValue5
  infoByte := by kernel_rfl
  cellsByte := by kernel_rfl
  sizeByte := by kernel_rfl
  neB5 := by decide }
open Go.RowKit in
/-- (*strings.Builder).grow (no doc but "grow copies the buffer to a new, larger buffer so that there are at least n bytes of capacity beyond len(b.buf)."): AT A BUILDER WITHOUT A BUFFER: a new row of whatever bytes for its buffer, none of them its own yet. Three draws. (LAID: no walk: one application.) -/
theorem Tryd.Builder_grow_fresh (B b n : Nat) (w : World) (hB : B ≤ b) (hbk : w.heap[b]? = some (.cells #[.pointer (some ⟨b, 0, none⟩), .slice none 0 0] 94 (0, 0))) (hBw : B ≤ w.heap.size) (hn : n ≤ 281474976710656) :
    Calls Tryd.prog 94 #[.pointer (some ⟨b, 0, none⟩), .int .i64 n] w fun e w' => e = .returned (.tuple #[]) ∧ (Lib.BuilderAt 94 5 B b (.pointer (some ⟨b, 0, none⟩)) [] w' ∧ Below B w w') := Any.Builder_grow_fresh Tryd.lays241 Tryd.Builder_Extra_241 B b n w hB hbk hBw hn
def Tryd.lays165_ren : Go.Shelf.Ren := ⟨fun | 165 => 76 | 240 => 93 | 241 => 94 | 276 => 100 | 277 => 101 | n => n, fun | 70 => 92 | 3 => 3 | 0 => 0 | 4 => 4 | 9 => 9 | 20 => 20 | 72 => 94 | 37 => 29 | 164 => 125 | 5 => 5 | n => n, fun | n => n⟩
theorem Tryd.lays165 : Go.Proofs.Lays.n165 Tryd.prog Tryd.lays165_ren := {
  mixed := by kernel_rfl
  f165 := Tryd.func76.trans (congrArg some (by kernel_rfl))
  f240 := Tryd.func93.trans (congrArg some (by kernel_rfl))
  f241 := Tryd.func94.trans (congrArg some (by kernel_rfl))
  f276 := Tryd.func100.trans (congrArg some (by kernel_rfl))
  f277 := Tryd.func101.trans (congrArg some (by kernel_rfl))
  t0 := Tryd.underlying0
  a0 := Tryd.isAgg0
  z0 := Tryd.sizeOf0
  v0 := Tryd.zeroValue0
  t3 := Tryd.underlying3
  a3 := Tryd.isAgg3
  z3 := Tryd.sizeOf3
  v3 := Tryd.zeroValue3
  t4 := Tryd.underlying4
  a4 := Tryd.isAgg4
  z4 := Tryd.sizeOf4
  v4 := Tryd.zeroValue4
  t9 := Tryd.underlying9
  a9 := Tryd.isAgg9
  z9 := Tryd.sizeOf9
  v9 := Tryd.zeroValue9
  t20 := Tryd.underlying20
  a20 := Tryd.isAgg20
  z20 := Tryd.sizeOf20
  v20 := Tryd.zeroValue20
  t37 := Tryd.underlying29
  a37 := Tryd.isAgg29
  z37 := Tryd.sizeOf29
  v37 := Tryd.zeroValue29
  t70 := Tryd.underlying92
  a70 := Tryd.isAgg92
  z70 := Tryd.sizeOf92
  v70 := Tryd.zeroValue92
  t72 := Tryd.underlying94
  a72 := Tryd.isAgg94
  z72 := Tryd.sizeOf94
  v72 := Tryd.zeroValue94
  t164 := Tryd.underlying125
  a164 := Tryd.isAgg125
  z164 := Tryd.sizeOf125
  v164 := Tryd.zeroValue125 }
theorem Tryd.Builder_Extra_165 : Builder.Extra Tryd.prog Tryd.lays165_ren := {
  sizeBuilder := by kernel_rfl
  liesBuilder := by kernel_rfl
  t5 := Tryd.underlying5
  a5 := Tryd.isAgg5
  z5 := Tryd.sizeOf5
  v5 := Tryd.zeroValue5
  infoByte := by kernel_rfl
  cellsByte := by kernel_rfl
  sizeByte := by kernel_rfl
  neB5 := by decide }
open Go.RowKit in
/-- (*strings.Builder).Grow AT A BUILDER THAT HAS NOT BEEN WRITTEN ('var b strings.Builder; b.Grow(n)'): "Grow grows b's capacity, if necessary, to guarantee space for another n bytes.": it holds no byte behind it as_ before it. (LAID: no walk: one application.) -/
theorem Tryd.Builder_Grow_fresh (B b n : Nat) (w : World) (hB : B ≤ b) (hbk : w.heap[b]? = some (.cells #[.pointer none, .slice none 0 0] 94 (0, 0))) (hBw : B ≤ w.heap.size) (hn : n ≤ 281474976710656) :
    Calls Tryd.prog 76 #[.pointer (some ⟨b, 0, none⟩), .int .i64 n] w fun e w' => e = .returned (.tuple #[]) ∧ (Lib.BuilderAt 94 5 B b (.pointer (some ⟨b, 0, none⟩)) [] w' ∧ Below B w w') := Any.Builder_Grow_fresh Tryd.lays165 Tryd.Builder_Extra_165 B b n w hB hbk hBw hn
def Tryd.lays128_ren : Go.Shelf.Ren := ⟨fun | 128 => 72 | n => n, fun | 51 => 86 | 3 => 3 | 4 => 4 | 46 => 68 | 5 => 5 | 9 => 9 | n => n, fun | n => n⟩
theorem Tryd.lays128 : Go.Proofs.Lays.n128 Tryd.prog Tryd.lays128_ren := {
  mixed := by kernel_rfl
  f128 := Tryd.func72.trans (congrArg some (by kernel_rfl))
  t3 := Tryd.underlying3
  a3 := Tryd.isAgg3
  z3 := Tryd.sizeOf3
  v3 := Tryd.zeroValue3
  t4 := Tryd.underlying4
  a4 := Tryd.isAgg4
  z4 := Tryd.sizeOf4
  v4 := Tryd.zeroValue4
  t5 := Tryd.underlying5
  a5 := Tryd.isAgg5
  z5 := Tryd.sizeOf5
  v5 := Tryd.zeroValue5
  t9 := Tryd.underlying9
  a9 := Tryd.isAgg9
  z9 := Tryd.sizeOf9
  v9 := Tryd.zeroValue9
  t46 := Tryd.underlying68
  a46 := Tryd.isAgg68
  z46 := Tryd.sizeOf68
  v46 := Tryd.zeroValue68
  t51 := Tryd.underlying86
  a51 := Tryd.isAgg86
  z51 := Tryd.sizeOf86
  v51 := Tryd.zeroValue86 }
/-- bits.Len32: "Len32 returns the minimum number of bits required to represent x; the result is 0 for x == 0.": IT RETURNS 'Lib.bitLen x'; the world is as_ it was. ('h0', 'h1': x is a uint32.) (LAID: no walk: one application.) -/
theorem Tryd.bits_Len32 (x : Int) (w : World) (h0 : 0 ≤ x) (h1 : x ≤ 4294967295) :
    Calls Tryd.prog 72 #[.int .u32 x] w fun e w' => e = .returned (.int .i64 (Lib.bitLen x.toNat)) ∧ w' = w := Any.bits_Len32 Tryd.lays128 x w h0 h1
def Tryd.lays125_ren : Go.Shelf.Ren := ⟨fun | 125 => 56 | 128 => 72 | 129 => 73 | n => n, fun | 46 => 68 | 3 => 3 | 51 => 86 | 53 => 88 | 4 => 4 | 5 => 5 | 9 => 9 | n => n, fun | n => n⟩
theorem Tryd.lays125 : Go.Proofs.Lays.n125 Tryd.prog Tryd.lays125_ren := {
  mixed := by kernel_rfl
  f125 := Tryd.func56.trans (congrArg some (by kernel_rfl))
  f128 := Tryd.func72.trans (congrArg some (by kernel_rfl))
  f129 := Tryd.func73.trans (congrArg some (by kernel_rfl))
  t3 := Tryd.underlying3
  a3 := Tryd.isAgg3
  z3 := Tryd.sizeOf3
  v3 := Tryd.zeroValue3
  t4 := Tryd.underlying4
  a4 := Tryd.isAgg4
  z4 := Tryd.sizeOf4
  v4 := Tryd.zeroValue4
  t5 := Tryd.underlying5
  a5 := Tryd.isAgg5
  z5 := Tryd.sizeOf5
  v5 := Tryd.zeroValue5
  t9 := Tryd.underlying9
  a9 := Tryd.isAgg9
  z9 := Tryd.sizeOf9
  v9 := Tryd.zeroValue9
  t46 := Tryd.underlying68
  a46 := Tryd.isAgg68
  z46 := Tryd.sizeOf68
  v46 := Tryd.zeroValue68
  t51 := Tryd.underlying86
  a51 := Tryd.isAgg86
  z51 := Tryd.sizeOf86
  v51 := Tryd.zeroValue86
  t53 := Tryd.underlying88
  a53 := Tryd.isAgg88
  z53 := Tryd.sizeOf88
  v53 := Tryd.zeroValue88 }
/-- bits.Len: "Len returns the minimum number of bits required to represent x; the result is 0 for x == 0.": IT RETURNS 'Lib.bitLen x'; the world is as_ it was. (A uint has 64 bits in the model.) ITS CALLEE bits.Len64 IS MET BY ITS OWN CONTRACT OFF THE SHELF (lay that first). (LAID: no walk: one application.) -/
theorem Tryd.bits_Len (x : Int) (w : World) (h0 : 0 ≤ x) (h1 : x ≤ 18446744073709551615) :
    Calls Tryd.prog 56 #[.int .u64 x] w fun e w' => e = .returned (.int .i64 (Lib.bitLen x.toNat)) ∧ w' = w := Any.bits_Len Tryd.lays125 x w h0 h1
def Tryd.lays215_ren : Go.Shelf.Ren := ⟨fun | 215 => 89 | n => n, fun | 3 => 3 | 4 => 4 | n => n, fun | n => n⟩
theorem Tryd.lays215 : Go.Proofs.Lays.n215 Tryd.prog Tryd.lays215_ren := {
  mixed := by kernel_rfl
  f215 := Tryd.func89.trans (congrArg some (by kernel_rfl))
  t3 := Tryd.underlying3
  a3 := Tryd.isAgg3
  z3 := Tryd.sizeOf3
  v3 := Tryd.zeroValue3
  t4 := Tryd.underlying4
  a4 := Tryd.isAgg4
  z4 := Tryd.sizeOf4
  v4 := Tryd.zeroValue4 }
open Go.RowKit in
/-- cmp.isNaN at int: 'x != x': false. (LAID: no walk: one application.) -/
theorem Tryd.cmp_isNaN_int (x : Int) (w : World) :
    Calls Tryd.prog 89 #[.int .i64 x] w fun e w' => e = .returned (.bool false) ∧ w' = w := Any.cmp_isNaN_int Tryd.lays215 x w
open Go.RowKit in
/-- (*strings.Builder).Len: "Len returns the number of accumulated bytes; b.Len() == len(b.String()).": the world is as_ it was. (THE FORM '_f': 'Lib.IsBuilderF'.) (LAID: no walk: one application.) -/
theorem Tryd.Builder_Len_f (B b : Nat) (bs : List Value) (w : World) (h : Lib.IsBuilderF 94 5 B b bs w) :
    Calls Tryd.prog 78 #[.pointer (some ⟨b, 0, none⟩)] w fun e w' => e = .returned (.int .i64 bs.length) ∧ w' = w := Any.Builder_Len_f Tryd.lays170 B b bs w h
open Go.RowKit in
/-- (*strings.Builder).String: "String returns the accumulated string.": OF A BUILDER THAT HOLDS AT LEAST ONE BYTE. ✋ THE MODEL FREEZES THOSE BYTES IN THE BUFFER (unsafe.String): a later write INTO them ends the model's run without an answer; a later append BEHIND them goes on. The statement's order of evaluation is drawn: one draw. THE FORM '_f': IT SAYS BESIDES THAT THE BUILDER IS A BUILDER STILL ('Lib.IsBuilderF', the same bytes): SO IT CAN BE WRITTEN ON: 'b.WriteString(b.String()[:k])'. (LAID: no walk: one application.) -/
theorem Tryd.Builder_String_f (B b : Nat) (l : List UInt8) (w : World) (h : Lib.IsBuilderF 94 5 B b (Lib.byteCells l) w) (h0 : l ≠ []) :
    Calls Tryd.prog 79 #[.pointer (some ⟨b, 0, none⟩)] w fun e w' => e = .returned (.string ⟨l.toArray⟩) ∧ (Lib.IsBuilderF 94 5 B b (Lib.byteCells l) w' ∧ Below B w w') := Any.Builder_String_f Tryd.lays169 Tryd.Builder_Extra_169 B b l w h h0
open Go.RowKit in
/-- (*strings.Builder).String OF A BUILDER THAT HOLDS NO BYTE: the empty string; THE FORM '_f': a builder still. (LAID: no walk: one application.) -/
theorem Tryd.Builder_String_empty_f (B b : Nat) (w : World) (h : Lib.IsBuilderF 94 5 B b [] w) (hBw : B ≤ w.heap.size) :
    Calls Tryd.prog 79 #[.pointer (some ⟨b, 0, none⟩)] w fun e w' => e = .returned (.string ⟨#[]⟩) ∧ (Lib.IsBuilderF 94 5 B b [] w' ∧ Below B w w') := Any.Builder_String_empty_f Tryd.lays169 Tryd.Builder_Extra_169 B b w h hBw
open Go.RowKit in
/-- (*strings.Builder).String: "String returns the accumulated string.": WHATEVER THE BUILDER HOLDS; THE FORM '_f': OF A BUILDER THAT MAY HAVE BEEN READ BEFORE; AND IT IS A BUILDER STILL, holding the same bytes: it can be written on. (LAID: no walk: one application.) -/
theorem Tryd.Builder_String_any_f (B b : Nat) (l : List UInt8) (w : World) (h : Lib.IsBuilderF 94 5 B b (Lib.byteCells l) w) (hBw : B ≤ w.heap.size) :
    Calls Tryd.prog 79 #[.pointer (some ⟨b, 0, none⟩)] w fun e w' => e = .returned (.string ⟨l.toArray⟩) ∧ (Lib.IsBuilderF 94 5 B b (Lib.byteCells l) w' ∧ Below B w w') := Any.Builder_String_any_f Tryd.lays169 Tryd.Builder_Extra_169 B b l w h hBw
open Go.RowKit in
/-- (*strings.Builder).String: "String returns the accumulated string.": OF A BUILDER THAT HOLDS AT LEAST ONE BYTE. ✋ THE MODEL FREEZES THOSE BYTES IN THE BUFFER (unsafe.String): a later write INTO them ends the model's run without an answer; a later append BEHIND them goes on. The statement's order of evaluation is drawn: one draw. THE FORM '_k': OVER 'Lib.IsBuilderF' (a builder that 'String()' may have read), AND WITH THE FRAME THAT REACHES ABOVE THE BUILDER: 'Lib.OthersKept': every block that is not b and is no row of uint8's stands as_ it stood: the iterator of a range among them. (LAID: no walk: one application.) -/
theorem Tryd.Builder_String_k (B b : Nat) (l : List UInt8) (w : World) (h : Lib.IsBuilderF 94 5 B b (Lib.byteCells l) w) (h0 : l ≠ []) :
    Calls Tryd.prog 79 #[.pointer (some ⟨b, 0, none⟩)] w fun e w' => e = .returned (.string ⟨l.toArray⟩) ∧ (Lib.IsBuilderF 94 5 B b (Lib.byteCells l) w' ∧ Below B w w' ∧ Lib.OthersKept 5 (some b) w w') := Any.Builder_String_k Tryd.lays169 Tryd.Builder_Extra_169 B b l w h h0
open Go.RowKit in
/-- (*strings.Builder).String OF A BUILDER THAT HOLDS NO BYTE: the empty string; THE FORM '_k': OVER 'Lib.IsBuilderF' (a builder that 'String()' may have read), AND WITH THE FRAME THAT REACHES ABOVE THE BUILDER: 'Lib.OthersKept': every block that is not b and is no row of uint8's stands as_ it stood: the iterator of a range among them. (LAID: no walk: one application.) -/
theorem Tryd.Builder_String_empty_k (B b : Nat) (w : World) (h : Lib.IsBuilderF 94 5 B b [] w) (hBw : B ≤ w.heap.size) :
    Calls Tryd.prog 79 #[.pointer (some ⟨b, 0, none⟩)] w fun e w' => e = .returned (.string ⟨#[]⟩) ∧ (Lib.IsBuilderF 94 5 B b [] w' ∧ Below B w w' ∧ Lib.OthersKept 5 (some b) w w') := Any.Builder_String_empty_k Tryd.lays169 Tryd.Builder_Extra_169 B b w h hBw
open Go.RowKit in
/-- (*strings.Builder).String: "String returns the accumulated string.": WHATEVER THE BUILDER HOLDS; THE FORM '_k': OVER 'Lib.IsBuilderF' (a builder that 'String()' may have read), AND WITH THE FRAME THAT REACHES ABOVE THE BUILDER: 'Lib.OthersKept': every block that is not b and is no row of uint8's stands as_ it stood: the iterator of a range among them. (LAID: no walk: one application.) -/
theorem Tryd.Builder_String_any_k (B b : Nat) (l : List UInt8) (w : World) (h : Lib.IsBuilderF 94 5 B b (Lib.byteCells l) w) (hBw : B ≤ w.heap.size) :
    Calls Tryd.prog 79 #[.pointer (some ⟨b, 0, none⟩)] w fun e w' => e = .returned (.string ⟨l.toArray⟩) ∧ (Lib.IsBuilderF 94 5 B b (Lib.byteCells l) w' ∧ Below B w w' ∧ Lib.OthersKept 5 (some b) w w') := Any.Builder_String_any_k Tryd.lays169 Tryd.Builder_Extra_169 B b l w h hBw
open Go.RowKit in
/-- (*strings.Builder).grow (no doc but "grow copies the buffer to a new, larger buffer so that there are at least n bytes of capacity beyond len(b.buf)."): AT A BUILDER WITHOUT A BUFFER: a new row of whatever bytes for its buffer, none of them its own yet. Three draws. (LAID: no walk: one application.) -/
theorem Tryd.Builder_grow_fresh_cap (B b n : Nat) (w : World) (hB : B ≤ b) (hbk : w.heap[b]? = some (.cells #[.pointer (some ⟨b, 0, none⟩), .slice none 0 0] 94 (0, 0))) (hBw : B ≤ w.heap.size) (hn : n ≤ 281474976710656) :
    Calls Tryd.prog 94 #[.pointer (some ⟨b, 0, none⟩), .int .i64 n] w fun e w' => e = .returned (.tuple #[]) ∧ (Lib.BuilderAt 94 5 B b (.pointer (some ⟨b, 0, none⟩)) [] w' ∧ Below B w w') ∧ ∃ p cap, w'.cell? ⟨b, 1, none⟩ = some (.slice p 0 cap) ∧ n ≤ cap := Any.Builder_grow_fresh_cap Tryd.lays241 Tryd.Builder_Extra_241 B b n w hB hbk hBw hn
open Go.RowKit in
/-- (*strings.Builder).Grow AT A BUILDER THAT HAS NOT BEEN WRITTEN ('var b strings.Builder; b.Grow(n)'): "Grow grows b's capacity, if necessary, to guarantee space for another n bytes.": it holds no byte behind it as_ before it. (LAID: no walk: one application.) -/
theorem Tryd.Builder_Grow_fresh_cap (B b n : Nat) (w : World) (hB : B ≤ b) (hbk : w.heap[b]? = some (.cells #[.pointer none, .slice none 0 0] 94 (0, 0))) (hBw : B ≤ w.heap.size) (hn : n ≤ 281474976710656) :
    Calls Tryd.prog 76 #[.pointer (some ⟨b, 0, none⟩), .int .i64 n] w fun e w' => e = .returned (.tuple #[]) ∧ (Lib.BuilderAt 94 5 B b (.pointer (some ⟨b, 0, none⟩)) [] w' ∧ Below B w w') ∧ ∃ p cap, w'.cell? ⟨b, 1, none⟩ = some (.slice p 0 cap) ∧ n ≤ cap := Any.Builder_Grow_fresh_cap Tryd.lays165 Tryd.Builder_Extra_165 B b n w hB hbk hBw hn
def Tryd.lays129_ren : Go.Shelf.Ren := ⟨fun | 129 => 73 | n => n, fun | 53 => 88 | 3 => 3 | 4 => 4 | 46 => 68 | 5 => 5 | 9 => 9 | n => n, fun | n => n⟩
theorem Tryd.lays129 : Go.Proofs.Lays.n129 Tryd.prog Tryd.lays129_ren := {
  mixed := by kernel_rfl
  f129 := Tryd.func73.trans (congrArg some (by kernel_rfl))
  t3 := Tryd.underlying3
  a3 := Tryd.isAgg3
  z3 := Tryd.sizeOf3
  v3 := Tryd.zeroValue3
  t4 := Tryd.underlying4
  a4 := Tryd.isAgg4
  z4 := Tryd.sizeOf4
  v4 := Tryd.zeroValue4
  t5 := Tryd.underlying5
  a5 := Tryd.isAgg5
  z5 := Tryd.sizeOf5
  v5 := Tryd.zeroValue5
  t9 := Tryd.underlying9
  a9 := Tryd.isAgg9
  z9 := Tryd.sizeOf9
  v9 := Tryd.zeroValue9
  t46 := Tryd.underlying68
  a46 := Tryd.isAgg68
  z46 := Tryd.sizeOf68
  v46 := Tryd.zeroValue68
  t53 := Tryd.underlying88
  a53 := Tryd.isAgg88
  z53 := Tryd.sizeOf88
  v53 := Tryd.zeroValue88 }
/-- bits.Len64: "Len64 returns the minimum number of bits required to represent x; the result is 0 for x == 0.": IT RETURNS 'Lib.bitLen x'; the world is as_ it was. ('h0', 'h1': x is a uint64.) (LAID: no walk: one application.) -/
theorem Tryd.bits_Len64 (x : Int) (w : World) (h0 : 0 ≤ x) (h1 : x ≤ 18446744073709551615) :
    Calls Tryd.prog 73 #[.int .u64 x] w fun e w' => e = .returned (.int .i64 (Lib.bitLen x.toNat)) ∧ w' = w := Any.bits_Len64 Tryd.lays129 x w h0 h1
def Tryd.lays317_ren : Go.Shelf.Ren := ⟨fun | 317 => 95 | n => n, fun | 3 => 3 | 46 => 68 | n => n, fun | n => n⟩
theorem Tryd.lays317 : Go.Proofs.Lays.n317 Tryd.prog Tryd.lays317_ren := {
  mixed := by kernel_rfl
  f317 := Tryd.func95.trans (congrArg some (by kernel_rfl))
  t3 := Tryd.underlying3
  a3 := Tryd.isAgg3
  z3 := Tryd.sizeOf3
  v3 := Tryd.zeroValue3
  t46 := Tryd.underlying68
  a46 := Tryd.isAgg68
  z46 := Tryd.sizeOf68
  v46 := Tryd.zeroValue68 }
open Go.Lib in
/-- internal/strconv.log10Pow2: "log10Pow2(x) returns ⌊log₁₀ 2**x⌋ = ⌊x * log₁₀ 2⌋.": '(x * 78913) >> 18', at an x up to 64 (a length in bits). The world is as_ it was. (LAID: no walk: one application.) -/
theorem Tryd.internal_strconv_log10Pow2 (x : Nat) (h : x ≤ 64) (w : World) :
    Calls Tryd.prog 95 #[.int .i64 x] w fun e w' => e = .returned (.int .i64 (Lib.l10 x)) ∧ w' = w := Any.internal_strconv_log10Pow2 Tryd.lays317 x h w
def Tryd.lays318_ren : Go.Shelf.Ren := ⟨fun | 318 => 96 | n => n, fun | 3 => 3 | 4 => 4 | n => n, fun | n => n⟩
theorem Tryd.lays318 : Go.Proofs.Lays.n318 Tryd.prog Tryd.lays318_ren := {
  mixed := by kernel_rfl
  f318 := Tryd.func96.trans (congrArg some (by kernel_rfl))
  t3 := Tryd.underlying3
  a3 := Tryd.isAgg3
  z3 := Tryd.sizeOf3
  v3 := Tryd.zeroValue3
  t4 := Tryd.underlying4
  a4 := Tryd.isAgg4
  z4 := Tryd.sizeOf4
  v4 := Tryd.zeroValue4 }
open Go.Lib in
/-- internal/strconv.bool2: "bool2 converts b to an integer: 1 for true, 0 for false." The world is as_ it was. (LAID: no walk: one application.) -/
theorem Tryd.internal_strconv_bool2_int (b : Bool) (w : World) :
    Calls Tryd.prog 96 #[.bool b] w fun e w' => e = .returned (.int .i64 (if b then 1 else 0)) ∧ w' = w := Any.internal_strconv_bool2_int Tryd.lays318 b w
def Tryd.lays283_ren : Go.Shelf.Ren := ⟨fun | 283 => 80 | n => n, fun | 3 => 3 | 9 => 9 | 4 => 4 | n => n, fun | n => n⟩
theorem Tryd.lays283 : Go.Proofs.Lays.n283 Tryd.prog Tryd.lays283_ren := {
  mixed := by kernel_rfl
  f283 := Tryd.func80.trans (congrArg some (by kernel_rfl))
  t3 := Tryd.underlying3
  a3 := Tryd.isAgg3
  z3 := Tryd.sizeOf3
  v3 := Tryd.zeroValue3
  t4 := Tryd.underlying4
  a4 := Tryd.isAgg4
  z4 := Tryd.sizeOf4
  v4 := Tryd.zeroValue4
  t9 := Tryd.underlying9
  a9 := Tryd.isAgg9
  z9 := Tryd.sizeOf9
  v9 := Tryd.zeroValue9 }
open Go.Lib in
/-- internal/strconv.small: "small returns the string for an i with 0 <= i < nSmalls.": i's decimal numeral. The world is as_ it was. (LAID: no walk: one application.) -/
theorem Tryd.internal_strconv_small (i : Nat) (h : i < 100) (w : World) :
    Calls Tryd.prog 80 #[.int .i64 i] w fun e w' => e = .returned (.string ⟨(Lib.decDigits i).toArray⟩) ∧ w' = w := Any.internal_strconv_small Tryd.lays283 i h w
def Tryd.laysM284_ren : Go.Shelf.Ren := ⟨fun | 284 => 81 | 129 => 73 | 317 => 95 | 318 => 96 | n => n, fun | 53 => 88 | 3 => 3 | 212 => 120 | 0 => 0 | 4 => 4 | 46 => 68 | 5 => 5 | 9 => 9 | n => n, fun | 17 => 0 | n => n⟩
theorem Tryd.laysM284 : Go.Proofs.LaysM.n284 Tryd.prog Tryd.laysM284_ren := {
  mixed := by kernel_rfl
  f129 := Tryd.func73.trans (congrArg some (by kernel_rfl))
  f284 := Tryd.func81.trans (congrArg some (by kernel_rfl))
  f317 := Tryd.func95.trans (congrArg some (by kernel_rfl))
  f318 := Tryd.func96.trans (congrArg some (by kernel_rfl))
  t0 := Tryd.underlying0
  a0 := Tryd.isAgg0
  z0 := Tryd.sizeOf0
  v0 := Tryd.zeroValue0
  t3 := Tryd.underlying3
  a3 := Tryd.isAgg3
  z3 := Tryd.sizeOf3
  v3 := Tryd.zeroValue3
  t4 := Tryd.underlying4
  a4 := Tryd.isAgg4
  z4 := Tryd.sizeOf4
  v4 := Tryd.zeroValue4
  t5 := Tryd.underlying5
  a5 := Tryd.isAgg5
  z5 := Tryd.sizeOf5
  v5 := Tryd.zeroValue5
  t9 := Tryd.underlying9
  a9 := Tryd.isAgg9
  z9 := Tryd.sizeOf9
  v9 := Tryd.zeroValue9
  t46 := Tryd.underlying68
  a46 := Tryd.isAgg68
  z46 := Tryd.sizeOf68
  v46 := Tryd.zeroValue68
  t53 := Tryd.underlying88
  a53 := Tryd.isAgg88
  z53 := Tryd.sizeOf88
  v53 := Tryd.zeroValue88
  t212 := Tryd.underlying120
  a212 := Tryd.isAgg120
  z212 := Tryd.sizeOf120
  v212 := Tryd.zeroValue120
  g17 := by kernel_rfl
  i0 := by kernel_rfl
  i3 := by kernel_rfl
  i4 := by kernel_rfl
  i5 := by kernel_rfl
  i9 := by kernel_rfl
  i46 := by kernel_rfl
  i53 := by kernel_rfl
  i212 := by kernel_rfl
  m17 := by kernel_rfl }
open Go.Lib in
/-- internal/strconv.numDigits, at a d that is not 0: THE NUMBER OF d's DECIMAL DIGITS. The world is as_ it was. (LAID: no walk: one application.) -/
theorem Tryd.internal_strconv_numDigits (u : Nat) (h1 : 1 ≤ u) (h2 : u < 18446744073709551616) (w : World) (htab : Lib.TabIs Tryd.prog w "internal/strconv.uint64pow10" .u64 Lib.pow10Tab) :
    Calls Tryd.prog 81 #[.int .u64 u] w fun e w' => e = .returned (.int .i64 (Lib.nDigits u)) ∧ w' = w := Any.internal_strconv_numDigits Tryd.laysM284 u h1 h2 w htab
def Tryd.lays285_ren : Go.Shelf.Ren := ⟨fun | 285 => 82 | n => n, fun | 37 => 29 | 53 => 88 | 3 => 3 | 4 => 4 | 51 => 86 | 9 => 9 | 5 => 5 | 0 => 0 | n => n, fun | n => n⟩
theorem Tryd.lays285 : Go.Proofs.Lays.n285 Tryd.prog Tryd.lays285_ren := {
  mixed := by kernel_rfl
  f285 := Tryd.func82.trans (congrArg some (by kernel_rfl))
  t0 := Tryd.underlying0
  a0 := Tryd.isAgg0
  z0 := Tryd.sizeOf0
  v0 := Tryd.zeroValue0
  t3 := Tryd.underlying3
  a3 := Tryd.isAgg3
  z3 := Tryd.sizeOf3
  v3 := Tryd.zeroValue3
  t4 := Tryd.underlying4
  a4 := Tryd.isAgg4
  z4 := Tryd.sizeOf4
  v4 := Tryd.zeroValue4
  t5 := Tryd.underlying5
  a5 := Tryd.isAgg5
  z5 := Tryd.sizeOf5
  v5 := Tryd.zeroValue5
  t9 := Tryd.underlying9
  a9 := Tryd.isAgg9
  z9 := Tryd.sizeOf9
  v9 := Tryd.zeroValue9
  t37 := Tryd.underlying29
  a37 := Tryd.isAgg29
  z37 := Tryd.sizeOf29
  v37 := Tryd.zeroValue29
  t51 := Tryd.underlying86
  a51 := Tryd.isAgg86
  z51 := Tryd.sizeOf86
  v51 := Tryd.zeroValue86
  t53 := Tryd.underlying88
  a53 := Tryd.isAgg88
  z53 := Tryd.sizeOf88
  v53 := Tryd.zeroValue88 }
open Go.RowKit Go.Sort Go.Lib in
/-- internal/strconv.formatBase10: "formatBase10 formats the decimal representation of u into a. The caller is responsible for ensuring that a is big enough to hold u. If a is too big, leading zeros will be filled in as_ needed.": THE ROW HOLDS u's DIGITS ('FmtInv .. 0 ..': every place t holds 'dg u (len - 1 - t)'); all else is as_ it was but for the count of draws. (LAID: no walk: one application.) -/
theorem Tryd.internal_strconv_formatBase10 (blk off cap : Nat) (u : Nat) (d : Array UInt8) (w : World) (hH : Holds (fun (b : UInt8) => Value.int .u8 (b.toNat : Int)) w blk off d) (hu : u < 10 ^ d.size) (hu64 : u < 18446744073709551616) (hsz : d.size < 4611686018427387904) :
    Calls Tryd.prog 82 #[.slice (some ⟨blk, off, none⟩) d.size cap, .int .u64 u] w fun e w' =>
      e = .returned (.tuple #[]) ∧ ∃ (n v' : Nat) (dk : Array UInt8), w' = (putRow (fun (b : UInt8) => Value.int .u8 (b.toNat : Int)) w blk off dk).drewN n ∧ FmtInv d.size u 0 v' dk := Any.internal_strconv_formatBase10 Tryd.lays285 blk off cap u d w hH hu hu64 hsz
def Tryd.laysM246_ren : Go.Shelf.Ren := ⟨fun | 246 => 58 | 283 => 80 | 284 => 81 | 285 => 82 | 286 => 83 | 129 => 73 | 317 => 95 | 318 => 96 | 319 => 97 | 320 => 98 | 337 => 102 | 338 => 103 | n => n, fun | 2 => 2 | 3 => 3 | 9 => 9 | 4 => 4 | 171 => 102 | 0 => 0 | 53 => 88 | 37 => 29 | 5 => 5 | 173 => 104 | 212 => 120 | 51 => 86 | 20 => 20 | 213 => 121 | 46 => 68 | 232 => 128 | 233 => 129 | n => n, fun | 17 => 0 | 18 => 2 | 19 => 3 | n => n⟩
theorem Tryd.laysM246 : Go.Proofs.LaysM.n246 Tryd.prog Tryd.laysM246_ren := {
  mixed := by kernel_rfl
  f129 := Tryd.func73.trans (congrArg some (by kernel_rfl))
  f246 := Tryd.func58.trans (congrArg some (by kernel_rfl))
  f283 := Tryd.func80.trans (congrArg some (by kernel_rfl))
  f284 := Tryd.func81.trans (congrArg some (by kernel_rfl))
  f285 := Tryd.func82.trans (congrArg some (by kernel_rfl))
  f286 := Tryd.func83.trans (congrArg some (by kernel_rfl))
  f317 := Tryd.func95.trans (congrArg some (by kernel_rfl))
  f318 := Tryd.func96.trans (congrArg some (by kernel_rfl))
  f319 := Tryd.func97.trans (congrArg some (by kernel_rfl))
  f320 := Tryd.func98.trans (congrArg some (by kernel_rfl))
  f337 := Tryd.func102.trans (congrArg some (by kernel_rfl))
  f338 := Tryd.func103.trans (congrArg some (by kernel_rfl))
  t0 := Tryd.underlying0
  a0 := Tryd.isAgg0
  z0 := Tryd.sizeOf0
  v0 := Tryd.zeroValue0
  t2 := Tryd.underlying2
  a2 := Tryd.isAgg2
  z2 := Tryd.sizeOf2
  v2 := Tryd.zeroValue2
  t3 := Tryd.underlying3
  a3 := Tryd.isAgg3
  z3 := Tryd.sizeOf3
  v3 := Tryd.zeroValue3
  t4 := Tryd.underlying4
  a4 := Tryd.isAgg4
  z4 := Tryd.sizeOf4
  v4 := Tryd.zeroValue4
  t5 := Tryd.underlying5
  a5 := Tryd.isAgg5
  z5 := Tryd.sizeOf5
  v5 := Tryd.zeroValue5
  t9 := Tryd.underlying9
  a9 := Tryd.isAgg9
  z9 := Tryd.sizeOf9
  v9 := Tryd.zeroValue9
  t20 := Tryd.underlying20
  a20 := Tryd.isAgg20
  z20 := Tryd.sizeOf20
  v20 := Tryd.zeroValue20
  t37 := Tryd.underlying29
  a37 := Tryd.isAgg29
  z37 := Tryd.sizeOf29
  v37 := Tryd.zeroValue29
  t46 := Tryd.underlying68
  a46 := Tryd.isAgg68
  z46 := Tryd.sizeOf68
  v46 := Tryd.zeroValue68
  t51 := Tryd.underlying86
  a51 := Tryd.isAgg86
  z51 := Tryd.sizeOf86
  v51 := Tryd.zeroValue86
  t53 := Tryd.underlying88
  a53 := Tryd.isAgg88
  z53 := Tryd.sizeOf88
  v53 := Tryd.zeroValue88
  t171 := Tryd.underlying102
  a171 := Tryd.isAgg102
  z171 := Tryd.sizeOf102
  v171 := Tryd.zeroValue102
  t173 := Tryd.underlying104
  a173 := Tryd.isAgg104
  z173 := Tryd.sizeOf104
  v173 := Tryd.zeroValue104
  t212 := Tryd.underlying120
  a212 := Tryd.isAgg120
  z212 := Tryd.sizeOf120
  v212 := Tryd.zeroValue120
  t213 := Tryd.underlying121
  a213 := Tryd.isAgg121
  z213 := Tryd.sizeOf121
  t232 := Tryd.underlying128
  a232 := Tryd.isAgg128
  z232 := Tryd.sizeOf128
  v232 := Tryd.zeroValue128
  t233 := Tryd.underlying129
  a233 := Tryd.isAgg129
  z233 := Tryd.sizeOf129
  v233 := Tryd.zeroValue129
  g17 := by kernel_rfl
  g18 := by kernel_rfl
  g19 := by kernel_rfl
  i0 := by kernel_rfl
  i2 := by kernel_rfl
  i3 := by kernel_rfl
  i4 := by kernel_rfl
  i5 := by kernel_rfl
  i9 := by kernel_rfl
  i20 := by kernel_rfl
  i37 := by kernel_rfl
  i46 := by kernel_rfl
  i51 := by kernel_rfl
  i53 := by kernel_rfl
  i171 := by kernel_rfl
  i173 := by kernel_rfl
  i212 := by kernel_rfl
  i232 := by kernel_rfl
  i233 := by kernel_rfl
  m17 := by kernel_rfl
  m18 := by kernel_rfl
  m19 := by kernel_rfl }
open Go.RowKit Go.Sort Go.Lib in
/-- internal/strconv.FormatInt: "FormatInt returns the string representation of i in the given base": AT BASE 10: i's decimal numeral, for every int64. The world behind the call: the world before it, new blocks behind the heap, draws. (LAID: no walk: one application.) -/
theorem Tryd.internal_strconv_FormatInt_10 (n : Int) (h0 : -9223372036854775808 ≤ n) (h1 : n ≤ 9223372036854775807) (w : World) (htab : Lib.TabIs Tryd.prog w "internal/strconv.uint64pow10" .u64 Lib.pow10Tab) :
    Calls Tryd.prog 58 #[.int .i64 n, .int .i64 10] w fun e w' => e = .returned (.string ⟨(Lib.itoa n).toArray⟩) ∧ ∃ k os, w' = grow (w.drewN k) os := Any.internal_strconv_FormatInt_10 Tryd.laysM246 n h0 h1 w htab
def Tryd.lays246_ren : Go.Shelf.Ren := ⟨fun | 246 => 58 | 283 => 80 | 284 => 81 | 285 => 82 | 286 => 83 | 129 => 73 | 317 => 95 | 318 => 96 | 319 => 97 | 320 => 98 | 337 => 102 | 338 => 103 | n => n, fun | 2 => 2 | 3 => 3 | 9 => 9 | 4 => 4 | 171 => 102 | 0 => 0 | 53 => 88 | 37 => 29 | 5 => 5 | 173 => 104 | 212 => 120 | 51 => 86 | 20 => 20 | 213 => 121 | 46 => 68 | 232 => 128 | 233 => 129 | n => n, fun | 17 => 0 | 18 => 2 | 19 => 3 | n => n⟩
theorem Tryd.lays246 : Go.Proofs.Lays.n246 Tryd.prog Tryd.lays246_ren := {
  mixed := by kernel_rfl
  f129 := Tryd.func73.trans (congrArg some (by kernel_rfl))
  f246 := Tryd.func58.trans (congrArg some (by kernel_rfl))
  f283 := Tryd.func80.trans (congrArg some (by kernel_rfl))
  f284 := Tryd.func81.trans (congrArg some (by kernel_rfl))
  f285 := Tryd.func82.trans (congrArg some (by kernel_rfl))
  f286 := Tryd.func83.trans (congrArg some (by kernel_rfl))
  f317 := Tryd.func95.trans (congrArg some (by kernel_rfl))
  f318 := Tryd.func96.trans (congrArg some (by kernel_rfl))
  f319 := Tryd.func97.trans (congrArg some (by kernel_rfl))
  f320 := Tryd.func98.trans (congrArg some (by kernel_rfl))
  f337 := Tryd.func102.trans (congrArg some (by kernel_rfl))
  f338 := Tryd.func103.trans (congrArg some (by kernel_rfl))
  t0 := Tryd.underlying0
  a0 := Tryd.isAgg0
  z0 := Tryd.sizeOf0
  v0 := Tryd.zeroValue0
  t2 := Tryd.underlying2
  a2 := Tryd.isAgg2
  z2 := Tryd.sizeOf2
  v2 := Tryd.zeroValue2
  t3 := Tryd.underlying3
  a3 := Tryd.isAgg3
  z3 := Tryd.sizeOf3
  v3 := Tryd.zeroValue3
  t4 := Tryd.underlying4
  a4 := Tryd.isAgg4
  z4 := Tryd.sizeOf4
  v4 := Tryd.zeroValue4
  t5 := Tryd.underlying5
  a5 := Tryd.isAgg5
  z5 := Tryd.sizeOf5
  v5 := Tryd.zeroValue5
  t9 := Tryd.underlying9
  a9 := Tryd.isAgg9
  z9 := Tryd.sizeOf9
  v9 := Tryd.zeroValue9
  t20 := Tryd.underlying20
  a20 := Tryd.isAgg20
  z20 := Tryd.sizeOf20
  v20 := Tryd.zeroValue20
  t37 := Tryd.underlying29
  a37 := Tryd.isAgg29
  z37 := Tryd.sizeOf29
  v37 := Tryd.zeroValue29
  t46 := Tryd.underlying68
  a46 := Tryd.isAgg68
  z46 := Tryd.sizeOf68
  v46 := Tryd.zeroValue68
  t51 := Tryd.underlying86
  a51 := Tryd.isAgg86
  z51 := Tryd.sizeOf86
  v51 := Tryd.zeroValue86
  t53 := Tryd.underlying88
  a53 := Tryd.isAgg88
  z53 := Tryd.sizeOf88
  v53 := Tryd.zeroValue88
  t171 := Tryd.underlying102
  a171 := Tryd.isAgg102
  z171 := Tryd.sizeOf102
  v171 := Tryd.zeroValue102
  t173 := Tryd.underlying104
  a173 := Tryd.isAgg104
  z173 := Tryd.sizeOf104
  v173 := Tryd.zeroValue104
  t212 := Tryd.underlying120
  a212 := Tryd.isAgg120
  z212 := Tryd.sizeOf120
  v212 := Tryd.zeroValue120
  t213 := Tryd.underlying121
  a213 := Tryd.isAgg121
  z213 := Tryd.sizeOf121
  t232 := Tryd.underlying128
  a232 := Tryd.isAgg128
  z232 := Tryd.sizeOf128
  v232 := Tryd.zeroValue128
  t233 := Tryd.underlying129
  a233 := Tryd.isAgg129
  z233 := Tryd.sizeOf129
  v233 := Tryd.zeroValue129
  g17 := by kernel_rfl
  g18 := by kernel_rfl
  g19 := by kernel_rfl }
open Go.RowKit Go.Sort Go.Lib in
/-- THE ROAD WITHOUT THE TABLE: 0 <= i < 100: two constants are read, nothing is laid: no premise on the world, and the world is as_ it was. (LAID: no walk: one application.) -/
theorem Tryd.internal_strconv_FormatInt_10_small (i : Nat) (hi : i < 100) (w : World) :
    Calls Tryd.prog 58 #[.int .i64 i, .int .i64 10] w fun e w' => e = .returned (.string ⟨(Lib.decDigits i).toArray⟩) ∧ w' = w := Any.internal_strconv_FormatInt_10_small Tryd.lays246 i hi w
def Tryd.laysM243_ren : Go.Shelf.Ren := ⟨fun | 243 => 48 | 246 => 58 | 283 => 80 | 284 => 81 | 285 => 82 | 286 => 83 | 129 => 73 | 317 => 95 | 318 => 96 | 319 => 97 | 320 => 98 | 337 => 102 | 338 => 103 | n => n, fun | 3 => 3 | 9 => 9 | 2 => 2 | 4 => 4 | 171 => 102 | 0 => 0 | 53 => 88 | 37 => 29 | 5 => 5 | 173 => 104 | 212 => 120 | 51 => 86 | 20 => 20 | 213 => 121 | 46 => 68 | 232 => 128 | 233 => 129 | n => n, fun | 17 => 0 | 18 => 2 | 19 => 3 | n => n⟩
theorem Tryd.laysM243 : Go.Proofs.LaysM.n243 Tryd.prog Tryd.laysM243_ren := {
  mixed := by kernel_rfl
  f129 := Tryd.func73.trans (congrArg some (by kernel_rfl))
  f243 := Tryd.func48.trans (congrArg some (by kernel_rfl))
  f246 := Tryd.func58.trans (congrArg some (by kernel_rfl))
  f283 := Tryd.func80.trans (congrArg some (by kernel_rfl))
  f284 := Tryd.func81.trans (congrArg some (by kernel_rfl))
  f285 := Tryd.func82.trans (congrArg some (by kernel_rfl))
  f286 := Tryd.func83.trans (congrArg some (by kernel_rfl))
  f317 := Tryd.func95.trans (congrArg some (by kernel_rfl))
  f318 := Tryd.func96.trans (congrArg some (by kernel_rfl))
  f319 := Tryd.func97.trans (congrArg some (by kernel_rfl))
  f320 := Tryd.func98.trans (congrArg some (by kernel_rfl))
  f337 := Tryd.func102.trans (congrArg some (by kernel_rfl))
  f338 := Tryd.func103.trans (congrArg some (by kernel_rfl))
  t0 := Tryd.underlying0
  a0 := Tryd.isAgg0
  z0 := Tryd.sizeOf0
  v0 := Tryd.zeroValue0
  t2 := Tryd.underlying2
  a2 := Tryd.isAgg2
  z2 := Tryd.sizeOf2
  v2 := Tryd.zeroValue2
  t3 := Tryd.underlying3
  a3 := Tryd.isAgg3
  z3 := Tryd.sizeOf3
  v3 := Tryd.zeroValue3
  t4 := Tryd.underlying4
  a4 := Tryd.isAgg4
  z4 := Tryd.sizeOf4
  v4 := Tryd.zeroValue4
  t5 := Tryd.underlying5
  a5 := Tryd.isAgg5
  z5 := Tryd.sizeOf5
  v5 := Tryd.zeroValue5
  t9 := Tryd.underlying9
  a9 := Tryd.isAgg9
  z9 := Tryd.sizeOf9
  v9 := Tryd.zeroValue9
  t20 := Tryd.underlying20
  a20 := Tryd.isAgg20
  z20 := Tryd.sizeOf20
  v20 := Tryd.zeroValue20
  t37 := Tryd.underlying29
  a37 := Tryd.isAgg29
  z37 := Tryd.sizeOf29
  v37 := Tryd.zeroValue29
  t46 := Tryd.underlying68
  a46 := Tryd.isAgg68
  z46 := Tryd.sizeOf68
  v46 := Tryd.zeroValue68
  t51 := Tryd.underlying86
  a51 := Tryd.isAgg86
  z51 := Tryd.sizeOf86
  v51 := Tryd.zeroValue86
  t53 := Tryd.underlying88
  a53 := Tryd.isAgg88
  z53 := Tryd.sizeOf88
  v53 := Tryd.zeroValue88
  t171 := Tryd.underlying102
  a171 := Tryd.isAgg102
  z171 := Tryd.sizeOf102
  v171 := Tryd.zeroValue102
  t173 := Tryd.underlying104
  a173 := Tryd.isAgg104
  z173 := Tryd.sizeOf104
  v173 := Tryd.zeroValue104
  t212 := Tryd.underlying120
  a212 := Tryd.isAgg120
  z212 := Tryd.sizeOf120
  v212 := Tryd.zeroValue120
  t213 := Tryd.underlying121
  a213 := Tryd.isAgg121
  z213 := Tryd.sizeOf121
  t232 := Tryd.underlying128
  a232 := Tryd.isAgg128
  z232 := Tryd.sizeOf128
  v232 := Tryd.zeroValue128
  t233 := Tryd.underlying129
  a233 := Tryd.isAgg129
  z233 := Tryd.sizeOf129
  v233 := Tryd.zeroValue129
  g17 := by kernel_rfl
  g18 := by kernel_rfl
  g19 := by kernel_rfl
  i0 := by kernel_rfl
  i2 := by kernel_rfl
  i3 := by kernel_rfl
  i4 := by kernel_rfl
  i5 := by kernel_rfl
  i9 := by kernel_rfl
  i20 := by kernel_rfl
  i37 := by kernel_rfl
  i46 := by kernel_rfl
  i51 := by kernel_rfl
  i53 := by kernel_rfl
  i171 := by kernel_rfl
  i173 := by kernel_rfl
  i212 := by kernel_rfl
  i232 := by kernel_rfl
  i233 := by kernel_rfl
  m17 := by kernel_rfl
  m18 := by kernel_rfl
  m19 := by kernel_rfl }
open Go.RowKit Go.Sort Go.Lib in
/-- internal/strconv.Itoa: "Itoa is equivalent to FormatInt(int64(i), 10).": i's decimal numeral, for every int. (LAID: no walk: one application.) -/
theorem Tryd.internal_strconv_Itoa (n : Int) (h0 : -9223372036854775808 ≤ n) (h1 : n ≤ 9223372036854775807) (w : World) (htab : Lib.TabIs Tryd.prog w "internal/strconv.uint64pow10" .u64 Lib.pow10Tab) :
    Calls Tryd.prog 48 #[.int .i64 n] w fun e w' => e = .returned (.string ⟨(Lib.itoa n).toArray⟩) ∧ ∃ k os, w' = grow (w.drewN k) os := Any.internal_strconv_Itoa Tryd.laysM243 n h0 h1 w htab
def Tryd.lays243_ren : Go.Shelf.Ren := ⟨fun | 243 => 48 | 246 => 58 | 283 => 80 | 284 => 81 | 285 => 82 | 286 => 83 | 129 => 73 | 317 => 95 | 318 => 96 | 319 => 97 | 320 => 98 | 337 => 102 | 338 => 103 | n => n, fun | 3 => 3 | 9 => 9 | 2 => 2 | 4 => 4 | 171 => 102 | 0 => 0 | 53 => 88 | 37 => 29 | 5 => 5 | 173 => 104 | 212 => 120 | 51 => 86 | 20 => 20 | 213 => 121 | 46 => 68 | 232 => 128 | 233 => 129 | n => n, fun | 17 => 0 | 18 => 2 | 19 => 3 | n => n⟩
theorem Tryd.lays243 : Go.Proofs.Lays.n243 Tryd.prog Tryd.lays243_ren := {
  mixed := by kernel_rfl
  f129 := Tryd.func73.trans (congrArg some (by kernel_rfl))
  f243 := Tryd.func48.trans (congrArg some (by kernel_rfl))
  f246 := Tryd.func58.trans (congrArg some (by kernel_rfl))
  f283 := Tryd.func80.trans (congrArg some (by kernel_rfl))
  f284 := Tryd.func81.trans (congrArg some (by kernel_rfl))
  f285 := Tryd.func82.trans (congrArg some (by kernel_rfl))
  f286 := Tryd.func83.trans (congrArg some (by kernel_rfl))
  f317 := Tryd.func95.trans (congrArg some (by kernel_rfl))
  f318 := Tryd.func96.trans (congrArg some (by kernel_rfl))
  f319 := Tryd.func97.trans (congrArg some (by kernel_rfl))
  f320 := Tryd.func98.trans (congrArg some (by kernel_rfl))
  f337 := Tryd.func102.trans (congrArg some (by kernel_rfl))
  f338 := Tryd.func103.trans (congrArg some (by kernel_rfl))
  t0 := Tryd.underlying0
  a0 := Tryd.isAgg0
  z0 := Tryd.sizeOf0
  v0 := Tryd.zeroValue0
  t2 := Tryd.underlying2
  a2 := Tryd.isAgg2
  z2 := Tryd.sizeOf2
  v2 := Tryd.zeroValue2
  t3 := Tryd.underlying3
  a3 := Tryd.isAgg3
  z3 := Tryd.sizeOf3
  v3 := Tryd.zeroValue3
  t4 := Tryd.underlying4
  a4 := Tryd.isAgg4
  z4 := Tryd.sizeOf4
  v4 := Tryd.zeroValue4
  t5 := Tryd.underlying5
  a5 := Tryd.isAgg5
  z5 := Tryd.sizeOf5
  v5 := Tryd.zeroValue5
  t9 := Tryd.underlying9
  a9 := Tryd.isAgg9
  z9 := Tryd.sizeOf9
  v9 := Tryd.zeroValue9
  t20 := Tryd.underlying20
  a20 := Tryd.isAgg20
  z20 := Tryd.sizeOf20
  v20 := Tryd.zeroValue20
  t37 := Tryd.underlying29
  a37 := Tryd.isAgg29
  z37 := Tryd.sizeOf29
  v37 := Tryd.zeroValue29
  t46 := Tryd.underlying68
  a46 := Tryd.isAgg68
  z46 := Tryd.sizeOf68
  v46 := Tryd.zeroValue68
  t51 := Tryd.underlying86
  a51 := Tryd.isAgg86
  z51 := Tryd.sizeOf86
  v51 := Tryd.zeroValue86
  t53 := Tryd.underlying88
  a53 := Tryd.isAgg88
  z53 := Tryd.sizeOf88
  v53 := Tryd.zeroValue88
  t171 := Tryd.underlying102
  a171 := Tryd.isAgg102
  z171 := Tryd.sizeOf102
  v171 := Tryd.zeroValue102
  t173 := Tryd.underlying104
  a173 := Tryd.isAgg104
  z173 := Tryd.sizeOf104
  v173 := Tryd.zeroValue104
  t212 := Tryd.underlying120
  a212 := Tryd.isAgg120
  z212 := Tryd.sizeOf120
  v212 := Tryd.zeroValue120
  t213 := Tryd.underlying121
  a213 := Tryd.isAgg121
  z213 := Tryd.sizeOf121
  t232 := Tryd.underlying128
  a232 := Tryd.isAgg128
  z232 := Tryd.sizeOf128
  v232 := Tryd.zeroValue128
  t233 := Tryd.underlying129
  a233 := Tryd.isAgg129
  z233 := Tryd.sizeOf129
  v233 := Tryd.zeroValue129
  g17 := by kernel_rfl
  g18 := by kernel_rfl
  g19 := by kernel_rfl }
open Go.RowKit Go.Sort Go.Lib in
/-- THE ROAD WITHOUT THE TABLE: 0 <= i < 100. (LAID: no walk: one application.) -/
theorem Tryd.internal_strconv_Itoa_small (i : Nat) (hi : i < 100) (w : World) :
    Calls Tryd.prog 48 #[.int .i64 i] w fun e w' => e = .returned (.string ⟨(Lib.decDigits i).toArray⟩) ∧ w' = w := Any.internal_strconv_Itoa_small Tryd.lays243 i hi w
def Tryd.laysM171_ren : Go.Shelf.Ren := ⟨fun | 171 => 40 | 243 => 48 | 246 => 58 | 283 => 80 | 284 => 81 | 285 => 82 | 286 => 83 | 129 => 73 | 317 => 95 | 318 => 96 | 319 => 97 | 320 => 98 | 337 => 102 | 338 => 103 | n => n, fun | 3 => 3 | 9 => 9 | 2 => 2 | 4 => 4 | 171 => 102 | 0 => 0 | 53 => 88 | 37 => 29 | 5 => 5 | 173 => 104 | 212 => 120 | 51 => 86 | 20 => 20 | 213 => 121 | 46 => 68 | 232 => 128 | 233 => 129 | n => n, fun | 17 => 0 | 18 => 2 | 19 => 3 | n => n⟩
theorem Tryd.laysM171 : Go.Proofs.LaysM.n171 Tryd.prog Tryd.laysM171_ren := {
  mixed := by kernel_rfl
  f129 := Tryd.func73.trans (congrArg some (by kernel_rfl))
  f171 := Tryd.func40.trans (congrArg some (by kernel_rfl))
  f243 := Tryd.func48.trans (congrArg some (by kernel_rfl))
  f246 := Tryd.func58.trans (congrArg some (by kernel_rfl))
  f283 := Tryd.func80.trans (congrArg some (by kernel_rfl))
  f284 := Tryd.func81.trans (congrArg some (by kernel_rfl))
  f285 := Tryd.func82.trans (congrArg some (by kernel_rfl))
  f286 := Tryd.func83.trans (congrArg some (by kernel_rfl))
  f317 := Tryd.func95.trans (congrArg some (by kernel_rfl))
  f318 := Tryd.func96.trans (congrArg some (by kernel_rfl))
  f319 := Tryd.func97.trans (congrArg some (by kernel_rfl))
  f320 := Tryd.func98.trans (congrArg some (by kernel_rfl))
  f337 := Tryd.func102.trans (congrArg some (by kernel_rfl))
  f338 := Tryd.func103.trans (congrArg some (by kernel_rfl))
  t0 := Tryd.underlying0
  a0 := Tryd.isAgg0
  z0 := Tryd.sizeOf0
  v0 := Tryd.zeroValue0
  t2 := Tryd.underlying2
  a2 := Tryd.isAgg2
  z2 := Tryd.sizeOf2
  v2 := Tryd.zeroValue2
  t3 := Tryd.underlying3
  a3 := Tryd.isAgg3
  z3 := Tryd.sizeOf3
  v3 := Tryd.zeroValue3
  t4 := Tryd.underlying4
  a4 := Tryd.isAgg4
  z4 := Tryd.sizeOf4
  v4 := Tryd.zeroValue4
  t5 := Tryd.underlying5
  a5 := Tryd.isAgg5
  z5 := Tryd.sizeOf5
  v5 := Tryd.zeroValue5
  t9 := Tryd.underlying9
  a9 := Tryd.isAgg9
  z9 := Tryd.sizeOf9
  v9 := Tryd.zeroValue9
  t20 := Tryd.underlying20
  a20 := Tryd.isAgg20
  z20 := Tryd.sizeOf20
  v20 := Tryd.zeroValue20
  t37 := Tryd.underlying29
  a37 := Tryd.isAgg29
  z37 := Tryd.sizeOf29
  v37 := Tryd.zeroValue29
  t46 := Tryd.underlying68
  a46 := Tryd.isAgg68
  z46 := Tryd.sizeOf68
  v46 := Tryd.zeroValue68
  t51 := Tryd.underlying86
  a51 := Tryd.isAgg86
  z51 := Tryd.sizeOf86
  v51 := Tryd.zeroValue86
  t53 := Tryd.underlying88
  a53 := Tryd.isAgg88
  z53 := Tryd.sizeOf88
  v53 := Tryd.zeroValue88
  t171 := Tryd.underlying102
  a171 := Tryd.isAgg102
  z171 := Tryd.sizeOf102
  v171 := Tryd.zeroValue102
  t173 := Tryd.underlying104
  a173 := Tryd.isAgg104
  z173 := Tryd.sizeOf104
  v173 := Tryd.zeroValue104
  t212 := Tryd.underlying120
  a212 := Tryd.isAgg120
  z212 := Tryd.sizeOf120
  v212 := Tryd.zeroValue120
  t213 := Tryd.underlying121
  a213 := Tryd.isAgg121
  z213 := Tryd.sizeOf121
  t232 := Tryd.underlying128
  a232 := Tryd.isAgg128
  z232 := Tryd.sizeOf128
  v232 := Tryd.zeroValue128
  t233 := Tryd.underlying129
  a233 := Tryd.isAgg129
  z233 := Tryd.sizeOf129
  v233 := Tryd.zeroValue129
  g17 := by kernel_rfl
  g18 := by kernel_rfl
  g19 := by kernel_rfl
  i0 := by kernel_rfl
  i2 := by kernel_rfl
  i3 := by kernel_rfl
  i4 := by kernel_rfl
  i5 := by kernel_rfl
  i9 := by kernel_rfl
  i20 := by kernel_rfl
  i37 := by kernel_rfl
  i46 := by kernel_rfl
  i51 := by kernel_rfl
  i53 := by kernel_rfl
  i171 := by kernel_rfl
  i173 := by kernel_rfl
  i212 := by kernel_rfl
  i232 := by kernel_rfl
  i233 := by kernel_rfl
  m17 := by kernel_rfl
  m18 := by kernel_rfl
  m19 := by kernel_rfl }
open Go.RowKit Go.Sort Go.Lib in
/-- strconv.Itoa: "Itoa is equivalent to FormatInt(int64(i), 10).": i's DECIMAL NUMERAL ('Lib.itoa': a '-' where i is negative, then the digits), FOR EVERY int. The world behind the call: the world before it, new blocks behind the heap (the library's 'var a [24]byte'), draws. (LAID: no walk: one application.) -/
theorem Tryd.strconv_Itoa (n : Int) (h0 : -9223372036854775808 ≤ n) (h1 : n ≤ 9223372036854775807) (w : World) (htab : Lib.TabIs Tryd.prog w "internal/strconv.uint64pow10" .u64 Lib.pow10Tab) :
    Calls Tryd.prog 40 #[.int .i64 n] w fun e w' => e = .returned (.string ⟨(Lib.itoa n).toArray⟩) ∧ ∃ k os, w' = grow (w.drewN k) os := Any.strconv_Itoa Tryd.laysM171 n h0 h1 w htab
def Tryd.lays171_ren : Go.Shelf.Ren := ⟨fun | 171 => 40 | 243 => 48 | 246 => 58 | 283 => 80 | 284 => 81 | 285 => 82 | 286 => 83 | 129 => 73 | 317 => 95 | 318 => 96 | 319 => 97 | 320 => 98 | 337 => 102 | 338 => 103 | n => n, fun | 3 => 3 | 9 => 9 | 2 => 2 | 4 => 4 | 171 => 102 | 0 => 0 | 53 => 88 | 37 => 29 | 5 => 5 | 173 => 104 | 212 => 120 | 51 => 86 | 20 => 20 | 213 => 121 | 46 => 68 | 232 => 128 | 233 => 129 | n => n, fun | 17 => 0 | 18 => 2 | 19 => 3 | n => n⟩
theorem Tryd.lays171 : Go.Proofs.Lays.n171 Tryd.prog Tryd.lays171_ren := {
  mixed := by kernel_rfl
  f129 := Tryd.func73.trans (congrArg some (by kernel_rfl))
  f171 := Tryd.func40.trans (congrArg some (by kernel_rfl))
  f243 := Tryd.func48.trans (congrArg some (by kernel_rfl))
  f246 := Tryd.func58.trans (congrArg some (by kernel_rfl))
  f283 := Tryd.func80.trans (congrArg some (by kernel_rfl))
  f284 := Tryd.func81.trans (congrArg some (by kernel_rfl))
  f285 := Tryd.func82.trans (congrArg some (by kernel_rfl))
  f286 := Tryd.func83.trans (congrArg some (by kernel_rfl))
  f317 := Tryd.func95.trans (congrArg some (by kernel_rfl))
  f318 := Tryd.func96.trans (congrArg some (by kernel_rfl))
  f319 := Tryd.func97.trans (congrArg some (by kernel_rfl))
  f320 := Tryd.func98.trans (congrArg some (by kernel_rfl))
  f337 := Tryd.func102.trans (congrArg some (by kernel_rfl))
  f338 := Tryd.func103.trans (congrArg some (by kernel_rfl))
  t0 := Tryd.underlying0
  a0 := Tryd.isAgg0
  z0 := Tryd.sizeOf0
  v0 := Tryd.zeroValue0
  t2 := Tryd.underlying2
  a2 := Tryd.isAgg2
  z2 := Tryd.sizeOf2
  v2 := Tryd.zeroValue2
  t3 := Tryd.underlying3
  a3 := Tryd.isAgg3
  z3 := Tryd.sizeOf3
  v3 := Tryd.zeroValue3
  t4 := Tryd.underlying4
  a4 := Tryd.isAgg4
  z4 := Tryd.sizeOf4
  v4 := Tryd.zeroValue4
  t5 := Tryd.underlying5
  a5 := Tryd.isAgg5
  z5 := Tryd.sizeOf5
  v5 := Tryd.zeroValue5
  t9 := Tryd.underlying9
  a9 := Tryd.isAgg9
  z9 := Tryd.sizeOf9
  v9 := Tryd.zeroValue9
  t20 := Tryd.underlying20
  a20 := Tryd.isAgg20
  z20 := Tryd.sizeOf20
  v20 := Tryd.zeroValue20
  t37 := Tryd.underlying29
  a37 := Tryd.isAgg29
  z37 := Tryd.sizeOf29
  v37 := Tryd.zeroValue29
  t46 := Tryd.underlying68
  a46 := Tryd.isAgg68
  z46 := Tryd.sizeOf68
  v46 := Tryd.zeroValue68
  t51 := Tryd.underlying86
  a51 := Tryd.isAgg86
  z51 := Tryd.sizeOf86
  v51 := Tryd.zeroValue86
  t53 := Tryd.underlying88
  a53 := Tryd.isAgg88
  z53 := Tryd.sizeOf88
  v53 := Tryd.zeroValue88
  t171 := Tryd.underlying102
  a171 := Tryd.isAgg102
  z171 := Tryd.sizeOf102
  v171 := Tryd.zeroValue102
  t173 := Tryd.underlying104
  a173 := Tryd.isAgg104
  z173 := Tryd.sizeOf104
  v173 := Tryd.zeroValue104
  t212 := Tryd.underlying120
  a212 := Tryd.isAgg120
  z212 := Tryd.sizeOf120
  v212 := Tryd.zeroValue120
  t213 := Tryd.underlying121
  a213 := Tryd.isAgg121
  z213 := Tryd.sizeOf121
  t232 := Tryd.underlying128
  a232 := Tryd.isAgg128
  z232 := Tryd.sizeOf128
  v232 := Tryd.zeroValue128
  t233 := Tryd.underlying129
  a233 := Tryd.isAgg129
  z233 := Tryd.sizeOf129
  v233 := Tryd.zeroValue129
  g17 := by kernel_rfl
  g18 := by kernel_rfl
  g19 := by kernel_rfl }
open Go.RowKit Go.Sort Go.Lib in
/-- THE ROAD WITHOUT THE TABLE: 0 <= i < 100: NO PREMISE ON THE WORLD, AND THE WORLD IS AS IT WAS: a row that keeps its argument in that range need list no table ('laid = []'). (LAID: no walk: one application.) -/
theorem Tryd.strconv_Itoa_small (i : Nat) (hi : i < 100) (w : World) :
    Calls Tryd.prog 40 #[.int .i64 i] w fun e w' => e = .returned (.string ⟨(Lib.decDigits i).toArray⟩) ∧ w' = w := Any.strconv_Itoa_small Tryd.lays171 i hi w
def Tryd.lays189_ren : Go.Shelf.Ren := ⟨fun | 189 => 45 | 125 => 56 | 257 => 55 | 128 => 72 | 129 => 73 | 294 => 63 | 295 => 64 | 296 => 65 | 297 => 66 | 298 => 67 | 299 => 68 | 216 => 69 | 300 => 70 | 301 => 71 | 328 => 84 | 329 => 85 | 330 => 86 | 331 => 87 | 332 => 88 | 215 => 89 | 343 => 99 | n => n, fun | 28 => 32 | 3 => 3 | 46 => 68 | 0 => 0 | 51 => 86 | 53 => 88 | 4 => 4 | 183 => 78 | 182 => 77 | 131 => 83 | 5 => 5 | 9 => 9 | 218 => 106 | 222 => 110 | 228 => 122 | 229 => 123 | n => n, fun | n => n⟩
theorem Tryd.lays189 : Go.Proofs.Lays.n189 Tryd.prog Tryd.lays189_ren := {
  mixed := by kernel_rfl
  f125 := Tryd.func56.trans (congrArg some (by kernel_rfl))
  f128 := Tryd.func72.trans (congrArg some (by kernel_rfl))
  f129 := Tryd.func73.trans (congrArg some (by kernel_rfl))
  f189 := Tryd.func45.trans (congrArg some (by kernel_rfl))
  f215 := Tryd.func89.trans (congrArg some (by kernel_rfl))
  f216 := Tryd.func69.trans (congrArg some (by kernel_rfl))
  f257 := Tryd.func55.trans (congrArg some (by kernel_rfl))
  f294 := Tryd.func63.trans (congrArg some (by kernel_rfl))
  f295 := Tryd.func64.trans (congrArg some (by kernel_rfl))
  f296 := Tryd.func65.trans (congrArg some (by kernel_rfl))
  f297 := Tryd.func66.trans (congrArg some (by kernel_rfl))
  f298 := Tryd.func67.trans (congrArg some (by kernel_rfl))
  f299 := Tryd.func68.trans (congrArg some (by kernel_rfl))
  f300 := Tryd.func70.trans (congrArg some (by kernel_rfl))
  f301 := Tryd.func71.trans (congrArg some (by kernel_rfl))
  f328 := Tryd.func84.trans (congrArg some (by kernel_rfl))
  f329 := Tryd.func85.trans (congrArg some (by kernel_rfl))
  f330 := Tryd.func86.trans (congrArg some (by kernel_rfl))
  f331 := Tryd.func87.trans (congrArg some (by kernel_rfl))
  f332 := Tryd.func88.trans (congrArg some (by kernel_rfl))
  f343 := Tryd.func99.trans (congrArg some (by kernel_rfl))
  t0 := Tryd.underlying0
  a0 := Tryd.isAgg0
  z0 := Tryd.sizeOf0
  v0 := Tryd.zeroValue0
  t3 := Tryd.underlying3
  a3 := Tryd.isAgg3
  z3 := Tryd.sizeOf3
  v3 := Tryd.zeroValue3
  t4 := Tryd.underlying4
  a4 := Tryd.isAgg4
  z4 := Tryd.sizeOf4
  v4 := Tryd.zeroValue4
  t5 := Tryd.underlying5
  a5 := Tryd.isAgg5
  z5 := Tryd.sizeOf5
  v5 := Tryd.zeroValue5
  t9 := Tryd.underlying9
  a9 := Tryd.isAgg9
  z9 := Tryd.sizeOf9
  v9 := Tryd.zeroValue9
  t28 := Tryd.underlying32
  a28 := Tryd.isAgg32
  z28 := Tryd.sizeOf32
  v28 := Tryd.zeroValue32
  t46 := Tryd.underlying68
  a46 := Tryd.isAgg68
  z46 := Tryd.sizeOf68
  v46 := Tryd.zeroValue68
  t51 := Tryd.underlying86
  a51 := Tryd.isAgg86
  z51 := Tryd.sizeOf86
  v51 := Tryd.zeroValue86
  t53 := Tryd.underlying88
  a53 := Tryd.isAgg88
  z53 := Tryd.sizeOf88
  v53 := Tryd.zeroValue88
  t131 := Tryd.underlying83
  a131 := Tryd.isAgg83
  z131 := Tryd.sizeOf83
  v131 := Tryd.zeroValue83
  t182 := Tryd.underlying77
  a182 := Tryd.isAgg77
  z182 := Tryd.sizeOf77
  v182 := Tryd.zeroValue77
  t183 := Tryd.underlying78
  a183 := Tryd.isAgg78
  z183 := Tryd.sizeOf78
  v183 := Tryd.zeroValue78
  t218 := Tryd.underlying106
  a218 := Tryd.isAgg106
  z218 := Tryd.sizeOf106
  v218 := Tryd.zeroValue106
  t222 := Tryd.underlying110
  a222 := Tryd.isAgg110
  z222 := Tryd.sizeOf110
  v222 := Tryd.zeroValue110
  t228 := Tryd.underlying122
  a228 := Tryd.isAgg122
  z228 := Tryd.sizeOf122
  v228 := Tryd.zeroValue122
  t229 := Tryd.underlying123
  a229 := Tryd.isAgg123
  z229 := Tryd.sizeOf123
  v229 := Tryd.zeroValue123 }
open Go.Sort Go.RowKit in
theorem Tryd.slices_Sort_int (blk off cap : Nat) (zs : List Int) (w : World) (hH : Holds (Value.int .i64) w blk off zs.toArray) (hblk : blk < w.heap.size) (hsz : zs.length < 4611686018427387904) :
    Calls Tryd.prog 45 #[.slice (some ⟨blk, off, none⟩) zs.length cap] w fun e w' =>
      e = .returned (.tuple #[]) ∧ ∃ n os, w' = grow (putRow (Value.int .i64) (Sort.ahead w n) blk off (zs.mergeSort fun x y => decide (x ≤ y)).toArray) os := Any.slices_Sort_int Tryd.lays189 blk off cap zs w hH hblk hsz
def Tryd.lays191_ren : Go.Shelf.Ren := ⟨fun | 191 => 34 | 189 => 45 | 125 => 56 | 257 => 55 | 128 => 72 | 129 => 73 | 294 => 63 | 295 => 64 | 296 => 65 | 297 => 66 | 298 => 67 | 299 => 68 | 216 => 69 | 300 => 70 | 301 => 71 | 328 => 84 | 329 => 85 | 330 => 86 | 331 => 87 | 332 => 88 | 215 => 89 | 343 => 99 | n => n, fun | 28 => 32 | 0 => 0 | 3 => 3 | 46 => 68 | 51 => 86 | 53 => 88 | 4 => 4 | 183 => 78 | 182 => 77 | 131 => 83 | 5 => 5 | 9 => 9 | 218 => 106 | 222 => 110 | 228 => 122 | 229 => 123 | n => n, fun | n => n⟩
theorem Tryd.lays191 : Go.Proofs.Lays.n191 Tryd.prog Tryd.lays191_ren := {
  mixed := by kernel_rfl
  f125 := Tryd.func56.trans (congrArg some (by kernel_rfl))
  f128 := Tryd.func72.trans (congrArg some (by kernel_rfl))
  f129 := Tryd.func73.trans (congrArg some (by kernel_rfl))
  f189 := Tryd.func45.trans (congrArg some (by kernel_rfl))
  f191 := Tryd.func34.trans (congrArg some (by kernel_rfl))
  f215 := Tryd.func89.trans (congrArg some (by kernel_rfl))
  f216 := Tryd.func69.trans (congrArg some (by kernel_rfl))
  f257 := Tryd.func55.trans (congrArg some (by kernel_rfl))
  f294 := Tryd.func63.trans (congrArg some (by kernel_rfl))
  f295 := Tryd.func64.trans (congrArg some (by kernel_rfl))
  f296 := Tryd.func65.trans (congrArg some (by kernel_rfl))
  f297 := Tryd.func66.trans (congrArg some (by kernel_rfl))
  f298 := Tryd.func67.trans (congrArg some (by kernel_rfl))
  f299 := Tryd.func68.trans (congrArg some (by kernel_rfl))
  f300 := Tryd.func70.trans (congrArg some (by kernel_rfl))
  f301 := Tryd.func71.trans (congrArg some (by kernel_rfl))
  f328 := Tryd.func84.trans (congrArg some (by kernel_rfl))
  f329 := Tryd.func85.trans (congrArg some (by kernel_rfl))
  f330 := Tryd.func86.trans (congrArg some (by kernel_rfl))
  f331 := Tryd.func87.trans (congrArg some (by kernel_rfl))
  f332 := Tryd.func88.trans (congrArg some (by kernel_rfl))
  f343 := Tryd.func99.trans (congrArg some (by kernel_rfl))
  t0 := Tryd.underlying0
  a0 := Tryd.isAgg0
  z0 := Tryd.sizeOf0
  v0 := Tryd.zeroValue0
  t3 := Tryd.underlying3
  a3 := Tryd.isAgg3
  z3 := Tryd.sizeOf3
  v3 := Tryd.zeroValue3
  t4 := Tryd.underlying4
  a4 := Tryd.isAgg4
  z4 := Tryd.sizeOf4
  v4 := Tryd.zeroValue4
  t5 := Tryd.underlying5
  a5 := Tryd.isAgg5
  z5 := Tryd.sizeOf5
  v5 := Tryd.zeroValue5
  t9 := Tryd.underlying9
  a9 := Tryd.isAgg9
  z9 := Tryd.sizeOf9
  v9 := Tryd.zeroValue9
  t28 := Tryd.underlying32
  a28 := Tryd.isAgg32
  z28 := Tryd.sizeOf32
  v28 := Tryd.zeroValue32
  t46 := Tryd.underlying68
  a46 := Tryd.isAgg68
  z46 := Tryd.sizeOf68
  v46 := Tryd.zeroValue68
  t51 := Tryd.underlying86
  a51 := Tryd.isAgg86
  z51 := Tryd.sizeOf86
  v51 := Tryd.zeroValue86
  t53 := Tryd.underlying88
  a53 := Tryd.isAgg88
  z53 := Tryd.sizeOf88
  v53 := Tryd.zeroValue88
  t131 := Tryd.underlying83
  a131 := Tryd.isAgg83
  z131 := Tryd.sizeOf83
  v131 := Tryd.zeroValue83
  t182 := Tryd.underlying77
  a182 := Tryd.isAgg77
  z182 := Tryd.sizeOf77
  v182 := Tryd.zeroValue77
  t183 := Tryd.underlying78
  a183 := Tryd.isAgg78
  z183 := Tryd.sizeOf78
  v183 := Tryd.zeroValue78
  t218 := Tryd.underlying106
  a218 := Tryd.isAgg106
  z218 := Tryd.sizeOf106
  v218 := Tryd.zeroValue106
  t222 := Tryd.underlying110
  a222 := Tryd.isAgg110
  z222 := Tryd.sizeOf110
  v222 := Tryd.zeroValue110
  t228 := Tryd.underlying122
  a228 := Tryd.isAgg122
  z228 := Tryd.sizeOf122
  v228 := Tryd.zeroValue122
  t229 := Tryd.underlying123
  a229 := Tryd.isAgg123
  z229 := Tryd.sizeOf123
  v229 := Tryd.zeroValue123 }
open Go.Sort Go.RowKit in
theorem Tryd.sort_Ints (blk off cap : Nat) (zs : List Int) (w : World) (hH : Holds (Value.int .i64) w blk off zs.toArray) (hblk : blk < w.heap.size) (hsz : zs.length < 4611686018427387904) :
    Calls Tryd.prog 34 #[.slice (some ⟨blk, off, none⟩) zs.length cap] w fun e w' =>
      e = .returned (.tuple #[]) ∧ ∃ n os, w' = grow (putRow (Value.int .i64) (Sort.ahead w n) blk off (zs.mergeSort fun x y => decide (x ≤ y)).toArray) os := Any.sort_Ints Tryd.lays191 blk off cap zs w hH hblk hsz
def Tryd.lays206_ren : Go.Shelf.Ren := ⟨fun | 206 => 92 | n => n, fun | 9 => 9 | 4 => 4 | 3 => 3 | n => n, fun | n => n⟩
theorem Tryd.lays206 : Go.Proofs.Lays.n206 Tryd.prog Tryd.lays206_ren := {
  mixed := by kernel_rfl
  f206 := Tryd.func92.trans (congrArg some (by kernel_rfl))
  t3 := Tryd.underlying3
  a3 := Tryd.isAgg3
  z3 := Tryd.sizeOf3
  v3 := Tryd.zeroValue3
  t4 := Tryd.underlying4
  a4 := Tryd.isAgg4
  z4 := Tryd.sizeOf4
  v4 := Tryd.zeroValue4
  t9 := Tryd.underlying9
  a9 := Tryd.isAgg9
  z9 := Tryd.sizeOf9
  v9 := Tryd.zeroValue9 }
open Go.RowKit Go.Lib in
/-- internal/stringslite.HasPrefix (what strings.HasPrefix calls). (LAID: no walk: one application.) -/
theorem Tryd.stringslite_HasPrefix (s p : ByteArray) (w : World) :
    Calls Tryd.prog 92 #[.string s, .string p] w fun e w' => e = .returned (.bool (Lib.hasPrefix s.data.toList p.data.toList)) ∧ w' = w := Any.stringslite_HasPrefix Tryd.lays206 s p w
def Tryd.lays99_ren : Go.Shelf.Ren := ⟨fun | 99 => 75 | 206 => 92 | n => n, fun | 9 => 9 | 4 => 4 | 3 => 3 | n => n, fun | n => n⟩
theorem Tryd.lays99 : Go.Proofs.Lays.n99 Tryd.prog Tryd.lays99_ren := {
  mixed := by kernel_rfl
  f99 := Tryd.func75.trans (congrArg some (by kernel_rfl))
  f206 := Tryd.func92.trans (congrArg some (by kernel_rfl))
  t3 := Tryd.underlying3
  a3 := Tryd.isAgg3
  z3 := Tryd.sizeOf3
  v3 := Tryd.zeroValue3
  t4 := Tryd.underlying4
  a4 := Tryd.isAgg4
  z4 := Tryd.sizeOf4
  v4 := Tryd.zeroValue4
  t9 := Tryd.underlying9
  a9 := Tryd.isAgg9
  z9 := Tryd.sizeOf9
  v9 := Tryd.zeroValue9 }
open Go.RowKit Go.Lib in
/-- strings.HasPrefix: "HasPrefix reports whether the string s begins with prefix.": IT RETURNS 'Lib.hasPrefix s prefix'; the world is as_ it was. (LAID: no walk: one application.) -/
theorem Tryd.strings_HasPrefix (s p : ByteArray) (w : World) :
    Calls Tryd.prog 75 #[.string s, .string p] w fun e w' => e = .returned (.bool (Lib.hasPrefix s.data.toList p.data.toList)) ∧ w' = w := Any.strings_HasPrefix Tryd.lays99 s p w
def Tryd.lays264_ren : Go.Shelf.Ren := ⟨fun | 264 => 91 | n => n, fun | 53 => 88 | 46 => 68 | n => n, fun | n => n⟩
theorem Tryd.lays264 : Go.Proofs.Lays.n264 Tryd.prog Tryd.lays264_ren := {
  mixed := by kernel_rfl
  f264 := Tryd.func91.trans (congrArg some (by kernel_rfl))
  t46 := Tryd.underlying68
  a46 := Tryd.isAgg68
  z46 := Tryd.sizeOf68
  v46 := Tryd.zeroValue68
  t53 := Tryd.underlying88
  a53 := Tryd.isAgg88
  z53 := Tryd.sizeOf88
  v53 := Tryd.zeroValue88 }
open Go.RowKit Go.Lib in
theorem Tryd.bits_Mul64 (x y : Nat) (hx : x < 18446744073709551616) (hy : y < 18446744073709551616) (w : World) :
    Calls Tryd.prog 91 #[.int .u64 x, .int .u64 y] w fun e w' => e = .returned (.tuple #[.int .u64 ((x * y / 18446744073709551616 : Nat) : Int), .int .u64 ((x * y % 18446744073709551616 : Nat) : Int)]) ∧ w' = w := Any.bits_Mul64 Tryd.lays264 x y hx hy w
def Tryd.lays212_ren : Go.Shelf.Ren := ⟨fun | 212 => 74 | 263 => 90 | 264 => 91 | n => n, fun | 46 => 68 | 51 => 86 | 146 => 113 | 53 => 88 | 148 => 115 | n => n, fun | n => n⟩
theorem Tryd.lays212 : Go.Proofs.Lays.n212 Tryd.prog Tryd.lays212_ren := {
  mixed := by kernel_rfl
  f212 := Tryd.func74.trans (congrArg some (by kernel_rfl))
  f263 := Tryd.func90.trans (congrArg some (by kernel_rfl))
  f264 := Tryd.func91.trans (congrArg some (by kernel_rfl))
  t46 := Tryd.underlying68
  a46 := Tryd.isAgg68
  z46 := Tryd.sizeOf68
  v46 := Tryd.zeroValue68
  t51 := Tryd.underlying86
  a51 := Tryd.isAgg86
  z51 := Tryd.sizeOf86
  v51 := Tryd.zeroValue86
  t53 := Tryd.underlying88
  a53 := Tryd.isAgg88
  z53 := Tryd.sizeOf88
  v53 := Tryd.zeroValue88
  t146 := Tryd.underlying113
  a146 := Tryd.isAgg113
  z146 := Tryd.sizeOf113
  v146 := Tryd.zeroValue113
  t148 := Tryd.underlying115
  a148 := Tryd.isAgg115
  z148 := Tryd.sizeOf115
  v148 := Tryd.zeroValue115 }
open Go.RowKit Go.Lib in
/-- math/bits.Mul: "Mul returns the full-width product of x and y": on a machine of 64 bits: Mul64's. (LAID: no walk: one application.) -/
theorem Tryd.bits_Mul (x y : Nat) (hx : x < 18446744073709551616) (hy : y < 18446744073709551616) (w : World) :
    Calls Tryd.prog 74 #[.int .u64 x, .int .u64 y] w fun e w' => e = .returned (.tuple #[.int .u64 ((x * y / 18446744073709551616 : Nat) : Int), .int .u64 ((x * y % 18446744073709551616 : Nat) : Int)]) ∧ w' = w := Any.bits_Mul Tryd.lays212 x y hx hy w
def Tryd.lays105_ren : Go.Shelf.Ren := ⟨fun | 105 => 57 | 212 => 74 | 99 => 75 | 165 => 76 | 166 => 77 | 170 => 78 | 169 => 79 | 263 => 90 | 264 => 91 | 206 => 92 | 240 => 93 | 241 => 94 | 276 => 100 | 277 => 101 | n => n, fun | 9 => 9 | 3 => 3 | 4 => 4 | 20 => 20 | 0 => 0 | 46 => 68 | 109 => 89 | 5 => 5 | 72 => 94 | 76 => 98 | 51 => 86 | 146 => 113 | 53 => 88 | 148 => 115 | 70 => 92 | 37 => 29 | 75 => 97 | 127 => 117 | 164 => 125 | 80 => 101 | n => n, fun | n => n⟩
theorem Tryd.lays105 : Go.Proofs.Lays.n105 Tryd.prog Tryd.lays105_ren := {
  mixed := by kernel_rfl
  f99 := Tryd.func75.trans (congrArg some (by kernel_rfl))
  f105 := Tryd.func57.trans (congrArg some (by kernel_rfl))
  f165 := Tryd.func76.trans (congrArg some (by kernel_rfl))
  f166 := Tryd.func77.trans (congrArg some (by kernel_rfl))
  f169 := Tryd.func79.trans (congrArg some (by kernel_rfl))
  f170 := Tryd.func78.trans (congrArg some (by kernel_rfl))
  f206 := Tryd.func92.trans (congrArg some (by kernel_rfl))
  f212 := Tryd.func74.trans (congrArg some (by kernel_rfl))
  f240 := Tryd.func93.trans (congrArg some (by kernel_rfl))
  f241 := Tryd.func94.trans (congrArg some (by kernel_rfl))
  f263 := Tryd.func90.trans (congrArg some (by kernel_rfl))
  f264 := Tryd.func91.trans (congrArg some (by kernel_rfl))
  f276 := Tryd.func100.trans (congrArg some (by kernel_rfl))
  f277 := Tryd.func101.trans (congrArg some (by kernel_rfl))
  t0 := Tryd.underlying0
  a0 := Tryd.isAgg0
  z0 := Tryd.sizeOf0
  v0 := Tryd.zeroValue0
  t3 := Tryd.underlying3
  a3 := Tryd.isAgg3
  z3 := Tryd.sizeOf3
  v3 := Tryd.zeroValue3
  t4 := Tryd.underlying4
  a4 := Tryd.isAgg4
  z4 := Tryd.sizeOf4
  v4 := Tryd.zeroValue4
  t5 := Tryd.underlying5
  a5 := Tryd.isAgg5
  z5 := Tryd.sizeOf5
  v5 := Tryd.zeroValue5
  t9 := Tryd.underlying9
  a9 := Tryd.isAgg9
  z9 := Tryd.sizeOf9
  v9 := Tryd.zeroValue9
  t20 := Tryd.underlying20
  a20 := Tryd.isAgg20
  z20 := Tryd.sizeOf20
  v20 := Tryd.zeroValue20
  t37 := Tryd.underlying29
  a37 := Tryd.isAgg29
  z37 := Tryd.sizeOf29
  v37 := Tryd.zeroValue29
  t46 := Tryd.underlying68
  a46 := Tryd.isAgg68
  z46 := Tryd.sizeOf68
  v46 := Tryd.zeroValue68
  t51 := Tryd.underlying86
  a51 := Tryd.isAgg86
  z51 := Tryd.sizeOf86
  v51 := Tryd.zeroValue86
  t53 := Tryd.underlying88
  a53 := Tryd.isAgg88
  z53 := Tryd.sizeOf88
  v53 := Tryd.zeroValue88
  t70 := Tryd.underlying92
  a70 := Tryd.isAgg92
  z70 := Tryd.sizeOf92
  v70 := Tryd.zeroValue92
  t72 := Tryd.underlying94
  a72 := Tryd.isAgg94
  z72 := Tryd.sizeOf94
  v72 := Tryd.zeroValue94
  t75 := Tryd.underlying97
  a75 := Tryd.isAgg97
  z75 := Tryd.sizeOf97
  v75 := Tryd.zeroValue97
  t76 := Tryd.underlying98
  a76 := Tryd.isAgg98
  z76 := Tryd.sizeOf98
  v76 := Tryd.zeroValue98
  t109 := Tryd.underlying89
  a109 := Tryd.isAgg89
  z109 := Tryd.sizeOf89
  v109 := Tryd.zeroValue89
  t127 := Tryd.underlying117
  a127 := Tryd.isAgg117
  z127 := Tryd.sizeOf117
  v127 := Tryd.zeroValue117
  t146 := Tryd.underlying113
  a146 := Tryd.isAgg113
  z146 := Tryd.sizeOf113
  v146 := Tryd.zeroValue113
  t148 := Tryd.underlying115
  a148 := Tryd.isAgg115
  z148 := Tryd.sizeOf115
  v148 := Tryd.zeroValue115
  t164 := Tryd.underlying125
  a164 := Tryd.isAgg125
  z164 := Tryd.sizeOf125
  v164 := Tryd.zeroValue125 }
theorem Tryd.Builder_Extra_105 : Builder.Extra Tryd.prog Tryd.lays105_ren := {
  sizeBuilder := by kernel_rfl
  liesBuilder := by kernel_rfl
  t5 := Tryd.underlying5
  a5 := Tryd.isAgg5
  z5 := Tryd.sizeOf5
  v5 := Tryd.zeroValue5
  infoByte := by kernel_rfl
  cellsByte := by kernel_rfl
  sizeByte := by kernel_rfl
  neB5 := by decide }
open Go.RowKit Go.Lib in
/-- THE MAIN CASE: at least two copies of a string that is not empty. (LAID: no walk: one application.) -/
theorem Tryd.strings_Repeat_main (s : ByteArray) (c : Nat) (w : World) (hc2 : 2 ≤ c) (hc : c ≤ 9223372036854775807) (hlen : s.size * c ≤ 140737488355328) (h0 : 0 < s.size) :
    Calls Tryd.prog 57 #[.string s, .int .i64 c] w fun e w' => e = .returned (.string ⟨(Lib.repeatL s.data.toList c).toArray⟩) ∧ Below w.heap.size w w' := Any.strings_Repeat_main Tryd.lays105 Tryd.Builder_Extra_105 s c w hc2 hc hlen h0
open Go.RowKit Go.Lib in
theorem Tryd.strings_Repeat_zero (s : ByteArray) (w : World) :
    Calls Tryd.prog 57 #[.string s, .int .i64 0] w fun e w' => e = .returned (.string ⟨#[]⟩) ∧ w' = w := Any.strings_Repeat_zero Tryd.lays105 s w
open Go.RowKit Go.Lib in
theorem Tryd.strings_Repeat_one (s : ByteArray) (w : World) :
    Calls Tryd.prog 57 #[.string s, .int .i64 1] w fun e w' => e = .returned (.string s) ∧ w' = w := Any.strings_Repeat_one Tryd.lays105 s w
open Go.RowKit Go.Lib in
/-- Copies of the empty string. (LAID: no walk: one application.) -/
theorem Tryd.strings_Repeat_empty (s : ByteArray) (c : Nat) (w : World) (hc2 : 2 ≤ c) (hc : c ≤ 9223372036854775807) (h0 : s.size = 0) :
    Calls Tryd.prog 57 #[.string s, .int .i64 c] w fun e w' => e = .returned (.string ⟨#[]⟩) ∧ w' = w := Any.strings_Repeat_empty Tryd.lays105 s c w hc2 hc h0
open Go.RowKit Go.Lib in
/-- count < 0: "It panics if count is negative". (LAID: no walk: one application.) -/
theorem Tryd.strings_Repeat_negative (s : ByteArray) (c : Int) (w : World) (hc : c < 0) :
    Calls Tryd.prog 57 #[.string s, .int .i64 c] w fun e w' => e = .panicked [{ v := repeatPanic Tryd.lays105_ren "strings: negative Repeat count", recovered := false }] ∧ w' = w := Any.strings_Repeat_negative Tryd.lays105 s c w hc
open Go.RowKit Go.Lib in
/-- len(s) * count is no int: ".. or if the result of (len(s) * count) overflows". (LAID: no walk: one application.) -/
theorem Tryd.strings_Repeat_overflow (s : ByteArray) (c : Nat) (w : World) (hc : c ≤ 9223372036854775807) (hs : s.size ≤ 9223372036854775807) (hbig : 9223372036854775807 < s.size * c) :
    Calls Tryd.prog 57 #[.string s, .int .i64 c] w fun e w' => e = .panicked [{ v := repeatPanic Tryd.lays105_ren "strings: Repeat output length overflow", recovered := false }] ∧ w' = w := Any.strings_Repeat_overflow Tryd.lays105 s c w hc hs hbig
open Go.RowKit Go.Lib in
/-- **strings.Repeat: count ≥ 0, the result within one allocation: count copies of s.** (LAID: no walk: one application.) -/
theorem Tryd.strings_Repeat (s : ByteArray) (c : Nat) (w : World) (hc : c ≤ 9223372036854775807) (hlen : s.size * c ≤ 140737488355328) :
    Calls Tryd.prog 57 #[.string s, .int .i64 c] w fun e w' => e = .returned (.string ⟨(Lib.repeatL s.data.toList c).toArray⟩) ∧ Below w.heap.size w w' := Any.strings_Repeat Tryd.lays105 Tryd.Builder_Extra_105 s c w hc hlen
def Tryd.laysNm237_ren : Go.Shelf.Ren := ⟨fun | 37 => 89 | n => n, fun | 3 => 3 | 4 => 4 | n => n, fun | n => n⟩
theorem Tryd.laysNm237 : Go.Proofs.Lays2.n37 Tryd.prog Tryd.laysNm237_ren := {
  mixed := by kernel_rfl
  f37 := Tryd.func89.trans (congrArg some (by kernel_rfl))
  t3 := Tryd.underlying3
  a3 := Tryd.isAgg3
  z3 := Tryd.sizeOf3
  v3 := Tryd.zeroValue3
  t4 := Tryd.underlying4
  a4 := Tryd.isAgg4
  z4 := Tryd.sizeOf4
  v4 := Tryd.zeroValue4 }
open Go.RowKit Go.Lib in
/-- cmp.isNaN[int]: 'x != x': false. (LAID: no walk: one application.) -/
theorem Tryd.cmp_isNaN_int2 (x : Int) (w : World) :
    Calls Tryd.prog 89 #[.int .i64 x] w fun e w' => e = .returned (.bool false) ∧ w' = w := Any.cmp_isNaN_int2 Tryd.laysNm237 x w
def Tryd.laysNm231_ren : Go.Shelf.Ren := ⟨fun | 31 => 69 | 37 => 89 | n => n, fun | 3 => 3 | 4 => 4 | n => n, fun | n => n⟩
theorem Tryd.laysNm231 : Go.Proofs.Lays2.n31 Tryd.prog Tryd.laysNm231_ren := {
  mixed := by kernel_rfl
  f31 := Tryd.func69.trans (congrArg some (by kernel_rfl))
  f37 := Tryd.func89.trans (congrArg some (by kernel_rfl))
  t3 := Tryd.underlying3
  a3 := Tryd.isAgg3
  z3 := Tryd.sizeOf3
  v3 := Tryd.zeroValue3
  t4 := Tryd.underlying4
  a4 := Tryd.isAgg4
  z4 := Tryd.sizeOf4
  v4 := Tryd.zeroValue4 }
open Go.RowKit Go.Lib in
/-- cmp.Less[int]: "Less reports whether x is less than y.": 'x < y'; the world is as_ it was. (LAID: no walk: one application.) -/
theorem Tryd.cmp_Less_int2 (x y : Int) (w : World) :
    Calls Tryd.prog 69 #[.int .i64 x, .int .i64 y] w fun e w' => e = .returned (.bool (decide (x < y))) ∧ w' = w := Any.cmp_Less_int2 Tryd.laysNm231 x y w
open Go.RowKit Go.Sort in
/-- .. and plain. (LAID: no walk: one application.) -/
theorem Tryd.slices_Sort_int_none (p : Option Addr) (cap : Nat) (w : World) :
    Calls Tryd.prog 45 #[.slice p 0 cap] w fun e w' => e = .returned (.tuple #[]) ∧ w' = w := Any.slices_Sort_int_none Tryd.lays189 p cap w
open Go.RowKit Go.Sort in
/-- .. and plain. (LAID: no walk: one application.) -/
theorem Tryd.sort_Ints_none (p : Option Addr) (cap : Nat) (w : World) :
    Calls Tryd.prog 34 #[.slice p 0 cap] w fun e w' => e = .returned (.tuple #[]) ∧ w' = w := Any.sort_Ints_none Tryd.lays191 p cap w
end Go.Proofs

namespace Go.Proofs.YtapllnlclgbbkaaDoor
set_option maxRecDepth 10000
open Go.RowKit
def srt (zs : List Int) : List Int := zs.mergeSort fun x y => decide (x ≤ y)
theorem srt_len (zs : List Int) : (srt zs).length = zs.length := by simp [srt]
theorem flat_ints' (ls : List Int) : flat ls = ls.map I := by
  induction ls with
  | nil => rfl
  | cons x xs ih => rw [flat_cons, ih]; rfl
theorem sortInts_any (g cp n B : Nat) (zs : List Int) (w : World) (ho : Own w B 3 (.slice (some ⟨g, 0, none⟩) n cp) zs) (hl : n = zs.length) (hn : n ≤ 2000000) :
    Calls Tryd.prog 34 #[.slice (some ⟨g, 0, none⟩) n cp] w fun e w' => e = .returned (.tuple #[]) ∧ Own w' B 3 (.slice (some ⟨g, 0, none⟩) n cp) (srt zs) ∧ w.grownBy w' (some g) := by
  subst hl
  rcases ho.2 with ⟨h0, _⟩ | ⟨g', cap', cur, hv, hB, hg, hnc, hcm, hcs, ht⟩
  · cases h0
  · obtain ⟨rfl, rfl⟩ : g = g' ∧ cp = cap' := by simpa using hv
    have ht' : cur.toList.take zs.length = zs.map (Value.int .i64) := by
      have := ht
      rw [show Enc.k Int = 1 from rfl, Nat.mul_one, flat_ints'] at this
      exact this
    have hH := holds_of_blockI hg ht'
    refine (Tryd.sort_Ints g 0 cp zs w hH (Array.getElem?_eq_some_iff.1 hg).1 (by omega)).mono ?_
    rintro e w' ⟨rfl, m, os, rfl⟩
    have hs := ownsRow_sortedI (n := m) (os := os) (ss := zs) (ts := srt zs) (srt_len zs) hB hg hnc hcm hcs
    refine ⟨rfl, ?_, grownBy_sortedI _⟩
    unfold Own
    rw [srt_len, flat_ints']
    exact hs
end Go.Proofs.YtapllnlclgbbkaaDoor

namespace Go.Proofs.YtapllnlclgbbkaaDoor
set_option maxRecDepth 10000
open Go.RowKit
def opStep (l : List Ln) (out : List Int) (x : Ln) : List Int := if decide (0 < owedV l x.o) = true then (if hasI out x.o = true then out else out ++ [x.o]) else out
def opI (l : List Ln) (i : Nat) : List Int := (l.take i).foldl (opStep l) []
theorem opI_len (l : List Ln) (i : Nat) : (opI l i).length ≤ i := by
  have h : ∀ (b : List Ln) (out : List Int), (b.foldl (opStep l) out).length ≤ out.length + b.length := by
    intro b
    induction b with
    | nil => intro out; simp
    | cons x b ih =>
      intro out
      have h1 := ih (opStep l out x)
      have h2 : (opStep l out x).length ≤ out.length + 1 := by
        unfold opStep
        split
        · split <;> simp
        · omega
      simp only [List.foldl_cons, List.length_cons]
      omega
  have h1 := h (l.take i) []
  have h2 : (l.take i).length ≤ i := List.length_take_le _ _
  simp only [List.length_nil] at h1
  unfold opI
  omega
theorem opI_no {l : List Ln} {i : Nat} {x : Ln} (hx : l[i]? = some x) (h : decide (0 < owedV l x.o) = false) : opI l (i + 1) = opI l i := by
  unfold opI
  rw [foldl_snoc hx]
  simp [opStep, h]
theorem opI_has {l : List Ln} {i : Nat} {x : Ln} (hx : l[i]? = some x) (h2 : hasI (opI l i) x.o = true) : opI l (i + 1) = opI l i := by
  unfold opI at *
  rw [foldl_snoc hx]
  simp [opStep, h2]
theorem opI_new {l : List Ln} {i : Nat} {x : Ln} (hx : l[i]? = some x) (h : decide (0 < owedV l x.o) = true) (h2 : hasI (opI l i) x.o = false) : opI l (i + 1) = opI l i ++ [x.o] := by
  unfold opI at *
  rw [foldl_snoc hx]
  simp only [opStep, h, h2, if_true]
  simp
theorem openOrders_impl (A : Option Addr) (xs : List Ln) (n c : Nat) (w : World) (hr : Rd w w.heap.size A xs) (hl : n = xs.length) (hc : xs.length ≤ c) (hn : n ≤ 2000000) :
    Calls Tryd.prog 18 #[.slice A n c] w fun e w' => ∃ v, e = .returned v ∧ Own w' w.heap.size 3 v (srt (opI xs xs.length)) ∧ Up w w' := by
  subst hl
  go_enter Tryd.func18, Tryd.ntmps18
  go_wp2
  go_loopw [3, 9] (fun v i wr => ∃ j g cp : Nat, j ≤ xs.length ∧ i = .int .i64 j ∧ v = .slice (some ⟨g, 0, none⟩) (opI xs j).length cp ∧ Own wr w.heap.size 3 (.slice (some ⟨g, 0, none⟩) (opI xs j).length cp) (opI xs j) ∧ Up w wr) (fun _ i _ => xs.length - (intOf i).toNat)
  case atStart => exact ⟨0, w.heap.size, 0, by omega, rfl, rfl, Own.empty w _ _ 0 _ (Nat.le_refl _) (by unfold maxLen; omega) rfl, by (repeat (first | exact Up.rfl' _ | (refine Up.al _ ?_) | (refine Up.dr _ ?_) | (refine Up.dr1 ?_) | (refine Up.sc ?_ (by first | exact Nat.le_refl _ | (simp; done) | omega) _) | (refine Up.step (by assumption) ?_)))⟩
  case round =>
    obtain ⟨i, g3, c3', hi, rfl, rfl, ho, hb⟩ := hrel
    by_cases hlt : i < xs.length
    · obtain ⟨x, hx⟩ := get_of_lt hlt
      obtain ⟨b, off, rfl, hbb, c0, c1, c2, c3⟩ := (hr.below hb).ln hx
      have hlen := opI_len xs i
      have HO := Lib.hid ho
      clear ho
      cases h1 : decide (0 < owedV xs x.o) with
      | false =>
        have S := Lib.hid (opI_no hx h1)
        clear hx
        go_wp2_with fail
        generalize hwb : wr.alloc (.cells #[I x.o, I x.k, I x.a, I x.t] 34) = wb
        have d0 : wb.cell? ⟨wr.heap.size, 0, none⟩ = some (I x.o) := by rw [← hwb]; simp [go_sem]
        have hub : Up wr wb := by rw [← hwb]; (repeat (first | exact Up.rfl' _ | (refine Up.al _ ?_) | (refine Up.dr _ ?_) | (refine Up.dr1 ?_) | (refine Up.sc ?_ (by first | exact Nat.le_refl _ | (simp; done) | omega) _) | (refine Up.step (by assumption) ?_)))
        clear hwb
        refine (owedFor_impl _ xs _ _ _ _ (hr.up (Up.step hub hb)) rfl hc hn).mono ?_
        rintro e w1 ⟨rfl, hb1⟩
        replace d0 := cellUp d0 hb1
        go_wp2_with fail
        exact ⟨⟨i + 1, g3, c3', by omega, by go_num, by rw [S.out], by rw [S.out]; exact HO.out.up (Up.step hb1 hub), Up.step hb1 (Up.step hub hb)⟩, by simp [intOf]; omega⟩
      | true =>
        cases h2 : hasI (opI xs i) x.o with
        | true =>
          have S := Lib.hid (opI_has hx h2)
          clear hx
          go_wp2_with fail
          generalize hwb : wr.alloc (.cells #[I x.o, I x.k, I x.a, I x.t] 34) = wb
          have d0 : wb.cell? ⟨wr.heap.size, 0, none⟩ = some (I x.o) := by rw [← hwb]; simp [go_sem]
          have hub : Up wr wb := by rw [← hwb]; (repeat (first | exact Up.rfl' _ | (refine Up.al _ ?_) | (refine Up.dr _ ?_) | (refine Up.dr1 ?_) | (refine Up.sc ?_ (by first | exact Nat.le_refl _ | (simp; done) | omega) _) | (refine Up.step (by assumption) ?_)))
          clear hwb
          refine (owedFor_impl _ xs _ _ _ _ (hr.up (Up.step hub hb)) rfl hc hn).mono ?_
          rintro e w1 ⟨rfl, hb1⟩
          replace d0 := cellUp d0 hb1
          go_wp2_with fail
          refine (hasInt_any _ (opI xs i) _ _ _ _ (HO.out.up (Up.step hb1 hub)).rd rfl (by omega)).mono ?_
          rintro e w2 ⟨rfl, hb2⟩
          replace d0 := cellUp d0 hb2
          rw [h2]
          go_wp2
          exact ⟨⟨i + 1, g3, c3', by omega, by go_num, by rw [S.out], by rw [S.out]; exact HO.out.up (Up.step hb2 (Up.step hb1 hub)), Up.step hb2 (Up.step hb1 (Up.step hub hb))⟩, by simp [intOf]; omega⟩
        | false =>
          have S := Lib.hid (opI_new hx h1 h2)
          clear hx
          go_wp2_with fail
          generalize hwb : wr.alloc (.cells #[I x.o, I x.k, I x.a, I x.t] 34) = wb
          have d0 : wb.cell? ⟨wr.heap.size, 0, none⟩ = some (I x.o) := by rw [← hwb]; simp [go_sem]
          have hub : Up wr wb := by rw [← hwb]; (repeat (first | exact Up.rfl' _ | (refine Up.al _ ?_) | (refine Up.dr _ ?_) | (refine Up.dr1 ?_) | (refine Up.sc ?_ (by first | exact Nat.le_refl _ | (simp; done) | omega) _) | (refine Up.step (by assumption) ?_)))
          clear hwb
          refine (owedFor_impl _ xs _ _ _ _ (hr.up (Up.step hub hb)) rfl hc hn).mono ?_
          rintro e w1 ⟨rfl, hb1⟩
          replace d0 := cellUp d0 hb1
          go_wp2_with fail
          refine (hasInt_any _ (opI xs i) _ _ _ _ (HO.out.up (Up.step hb1 hub)).rd rfl (by omega)).mono ?_
          rintro e w2 ⟨rfl, hb2⟩
          replace d0 := cellUp d0 hb2
          rw [h2]
          go_wp2_with (at_builtin; go_must (refine wpList_append_rd el_int rfl (.tmp 25) (.tmp 28) rfl (base := w.heap.size) (ys := opI xs i) (xs := [x.o]) (by rfl) (HO.out.up (by (repeat (first | exact Up.rfl' _ | (refine Up.al _ ?_) | (refine Up.dr _ ?_) | (refine Up.dr1 ?_) | (refine Up.sc ?_ (by first | exact Nat.le_refl _ | (simp; done) | omega) _) | (refine Up.step (by assumption) ?_))))) 1 (by rfl) rfl (Rd.oneAt _ _ x.o _ (by simp)) (by simp; omega) (by unfold maxLen; simp; omega) (Up.le (by (repeat (first | exact Up.rfl' _ | (refine Up.al _ ?_) | (refine Up.dr _ ?_) | (refine Up.dr1 ?_) | (refine Up.sc ?_ (by first | exact Nat.le_refl _ | (simp; done) | omega) _) | (refine Up.step (by assumption) ?_))))) ?_); intro v' w3 ho3 hg3 _ hu3; have hb3 : Up w w3 := hu3 w (Nat.le_refl _) (by (repeat (first | exact Up.rfl' _ | (refine Up.al _ ?_) | (refine Up.dr _ ?_) | (refine Up.dr1 ?_) | (refine Up.sc ?_ (by first | exact Nat.le_refl _ | (simp; done) | omega) _) | (refine Up.step (by assumption) ?_)))); have HO3 := Lib.hid ho3; clear ho3)
          have ho3 := HO3.out
          rw [← S.out] at ho3
          obtain ⟨g4, c4, hv4, _⟩ := World.ownsRow.form ho3 (by rw [S.out]; simp)
          exact ⟨⟨i + 1, g4, c4, by omega, by go_num, hv4, by rw [← hv4]; exact ho3, hb3⟩, by simp [intOf]; omega⟩
    · obtain rfl : i = xs.length := by omega
      have hlen := opI_len xs xs.length
      go_wp2_with fail
      refine (sortInts_any g3 c3' _ _ (opI xs xs.length) _ ho rfl (by omega)).mono ?_
      rintro e w1 ⟨rfl, ho1, hg1⟩
      have hu1 : Up w w1 := Below.grown hb hg1 hb.size (fun k e => by cases e; exact (World.ownsRow.lt ho g3 rfl).1)
      go_wp2_with fail
      go_ret
      exact ⟨_, rfl, by simpa [srt_len] using ho1, hu1⟩
end Go.Proofs.YtapllnlclgbbkaaDoor

namespace Go.Proofs.YtapllnlclgbbkaaDoor
set_option maxRecDepth 10000
open Go.RowKit
def insAt (out : List Int) (id : Int) : Nat := (out.takeWhile (fun y => decide (y < id))).length
theorem insAt_of : ∀ {out : List Int} {id : Int} {m : Nat}, (∀ (j : Nat) (y : Int), j < m → out[j]? = some y → y < id) → m ≤ out.length → (∀ y, out[m]? = some y → ¬ y < id) → insAt out id = m
  | [], id, m, _, hm, _ => by simp at hm; subst hm; rfl
  | x :: out, id, 0, _, _, h2 => by
    have := h2 x rfl
    simp [insAt, this]
  | x :: out, id, m + 1, h1, hm, h2 => by
    have hx := h1 0 x (by omega) rfl
    have := insAt_of (out := out) (id := id) (m := m) (fun j y hj hy => h1 (j + 1) y (by omega) (by simpa using hy)) (by simpa using hm) (fun y hy => h2 y (by simpa using hy))
    unfold insAt at *
    simp [hx, this]
def hasAt (out : List Int) (k : Nat) (id : Int) : Bool := match out[k]? with | some y => y == id | none => false
def insI (out : List Int) (id : Int) : List Int := out.take (insAt out id) ++ [id] ++ out.drop (insAt out id)
def opsStep (l : List Ln) (out : List Int) (x : Ln) : List Int := if decide (0 < owedV l x.o) = true then (if hasAt out (insAt out x.o) x.o = true then out else insI out x.o) else out
def opS (l : List Ln) (i : Nat) : List Int := (l.take i).foldl (opsStep l) []
theorem opS_len (l : List Ln) (i : Nat) : (opS l i).length ≤ i := by
  have h : ∀ (b : List Ln) (out : List Int), (b.foldl (opsStep l) out).length ≤ out.length + b.length := by
    intro b
    induction b with
    | nil => intro out; simp
    | cons x b ih =>
      intro out
      have h1 := ih (opsStep l out x)
      have h2 : (opsStep l out x).length ≤ out.length + 1 := by
        unfold opsStep
        split
        · split
          · omega
          · simp [insI]; omega
        · omega
      simp only [List.foldl_cons, List.length_cons]
      omega
  have h1 := h (l.take i) []
  have h2 : (l.take i).length ≤ i := List.length_take_le _ _
  simp only [List.length_nil] at h1
  unfold opS
  omega
theorem opS_no {l : List Ln} {i : Nat} {x : Ln} (hx : l[i]? = some x) (h : decide (0 < owedV l x.o) = false) : opS l (i + 1) = opS l i := by
  unfold opS
  rw [foldl_snoc hx]
  simp [opsStep, h]
theorem opS_has {l : List Ln} {i m : Nat} {x : Ln} (hx : l[i]? = some x) (hm : insAt (opS l i) x.o = m) (h2 : hasAt (opS l i) m x.o = true) : opS l (i + 1) = opS l i := by
  subst hm
  unfold opS at *
  rw [foldl_snoc hx]
  simp [opsStep, h2]
theorem opS_new {l : List Ln} {i m : Nat} {x : Ln} (hx : l[i]? = some x) (h : decide (0 < owedV l x.o) = true) (hm : insAt (opS l i) x.o = m) (h2 : hasAt (opS l i) m x.o = false) : opS l (i + 1) = (opS l i).take m ++ [x.o] ++ (opS l i).drop m := by
  subst hm
  unfold opS at *
  rw [foldl_snoc hx]
  simp only [opsStep, h, h2, if_true]
  simp [insI]
theorem Rd.drop_ {w : World} {B g o : Nat} {xs : List Int} (h : Rd w B (some ⟨g, o, none⟩) xs) (n : Nat) : Rd w B (some ⟨g, o + n, none⟩) (xs.drop n) := fun hn => by
  obtain ⟨b, off, e, hb, hc⟩ := h (by rintro rfl; simp at hn)
  obtain ⟨rfl, rfl⟩ : g = b ∧ o = off := by simpa using e
  refine ⟨g, o + n, rfl, hb, fun j u hu => ?_⟩
  rw [flat_ints'] at hu
  rw [Nat.add_assoc]
  refine hc (n + j) u ?_
  rw [flat_ints']
  simpa [List.getElem?_drop] using hu
end Go.Proofs.YtapllnlclgbbkaaDoor

/- What the two orders of open orders come to: the same list. No program in sight. -/
namespace Go.Proofs.YtapllnlclgbbkaaDoor
set_option maxRecDepth 10000
open Go.RowKit
theorem insAt_lt {x id : Int} {out : List Int} (h : x < id) : insAt (x :: out) id = insAt out id + 1 := by simp [insAt, h]
theorem insAt_ge {x id : Int} {out : List Int} (h : ¬ x < id) : insAt (x :: out) id = 0 := by simp [insAt, h]
theorem insI_lt {x id : Int} {out : List Int} (h : x < id) : insI (x :: out) id = x :: insI out id := by simp [insI, insAt_lt h]
theorem insI_ge {x id : Int} {out : List Int} (h : ¬ x < id) : insI (x :: out) id = id :: x :: out := by simp [insI, insAt_ge h]
theorem insI_perm (out : List Int) (id : Int) : (insI out id).Perm (id :: out) := by
  unfold insI
  rw [List.append_assoc]
  refine (List.perm_append_comm_assoc _ _ _).trans ?_
  rw [List.take_append_drop]
  exact List.Perm.refl _
theorem hasAt_mem : ∀ {out : List Int} {id : Int}, out.Pairwise (· < ·) → (hasAt out (insAt out id) id = true ↔ id ∈ out)
  | [], id, _ => by simp [hasAt]
  | x :: out, id, hp => by
    obtain ⟨h1, h2⟩ := List.pairwise_cons.1 hp
    by_cases h : x < id
    · rw [insAt_lt h]
      have ih := hasAt_mem (out := out) (id := id) h2
      have e : hasAt (x :: out) (insAt out id + 1) id = hasAt out (insAt out id) id := by simp [hasAt]
      rw [e, ih]
      have : ¬ id = x := by omega
      simp [this]
    · rw [insAt_ge h]
      have e : hasAt (x :: out) 0 id = (x == id) := by simp [hasAt]
      rw [e]
      constructor
      · intro h3
        have : x = id := by simpa using h3
        simp [this]
      · intro h3
        rcases List.mem_cons.1 h3 with h4 | h4
        · simp [h4]
        · have := h1 id h4
          omega
theorem insI_sorted : ∀ {out : List Int} {id : Int}, out.Pairwise (· < ·) → id ∉ out → (insI out id).Pairwise (· < ·)
  | [], id, _, _ => by simp [insI]
  | x :: out, id, hp, hn => by
    obtain ⟨h1, h2⟩ := List.pairwise_cons.1 hp
    simp only [List.mem_cons, not_or] at hn
    by_cases h : x < id
    · rw [insI_lt h]
      refine List.pairwise_cons.2 ⟨fun y hy => ?_, insI_sorted h2 hn.2⟩
      rcases List.mem_cons.1 ((insI_perm out id).mem_iff.1 hy) with h3 | h3
      · omega
      · exact h1 y h3
    · rw [insI_ge h]
      refine List.pairwise_cons.2 ⟨fun y hy => ?_, hp⟩
      rcases List.mem_cons.1 hy with h3 | h3
      · omega
      · have := h1 y h3
        omega
theorem hasI_mem {xs : List Int} {o : Int} : hasI xs o = true ↔ o ∈ xs := by
  simp only [hasI, List.any_eq_true]
  constructor
  · rintro ⟨x, hx, he⟩
    have : x = o := by simpa using he
    exact this ▸ hx
  · intro h
    exact ⟨o, h, by simp⟩
theorem open_both (l : List Ln) : ∀ (b : List Ln) (u v : List Int), v.Pairwise (· < ·) → v.Perm u → (b.foldl (opsStep l) v).Pairwise (· < ·) ∧ (b.foldl (opsStep l) v).Perm (b.foldl (opStep l) u)
  | [], u, v, h1, h2 => ⟨h1, h2⟩
  | x :: b, u, v, h1, h2 => by
    simp only [List.foldl_cons]
    refine open_both l b _ _ ?_ ?_ <;> unfold opsStep
    · by_cases h3 : decide (0 < owedV l x.o) = true
      · by_cases h4 : hasAt v (insAt v x.o) x.o = true
        · rw [if_pos h3, if_pos h4]; exact h1
        · rw [if_pos h3, if_neg h4]
          exact insI_sorted h1 (fun h => h4 ((hasAt_mem h1).2 h))
      · rw [if_neg h3]; exact h1
    · unfold opStep
      by_cases h3 : decide (0 < owedV l x.o) = true
      · by_cases h4 : hasAt v (insAt v x.o) x.o = true
        · have h5 : hasI u x.o = true := hasI_mem.2 (h2.mem_iff.1 ((hasAt_mem h1).1 h4))
          rw [if_pos h3, if_pos h3, if_pos h4, if_pos h5]; exact h2
        · have h5 : ¬ hasI u x.o = true := fun h => h4 ((hasAt_mem h1).2 (h2.mem_iff.2 (hasI_mem.1 h)))
          rw [if_pos h3, if_pos h3, if_neg h4, if_neg h5]
          exact (insI_perm v x.o).trans ((List.Perm.cons x.o h2).trans (List.perm_append_comm (l₁ := [x.o])))
      · rw [if_neg h3, if_neg h3]; exact h2
theorem srt_eq {u v : List Int} (h1 : v.Pairwise (· < ·)) (h2 : v.Perm u) : srt u = v := by
  refine List.Perm.eq_of_pairwise (le := fun a b : Int => a ≤ b) (fun a b _ _ h3 h4 => Int.le_antisymm h3 h4) ?_ ?_ ((List.mergeSort_perm u _).trans h2.symm)
  · refine (List.pairwise_mergeSort (le := fun x y : Int => decide (x ≤ y)) ?_ ?_ u).imp ?_
    · intro a b c h3 h4
      simp only [decide_eq_true_eq] at *
      omega
    · intro a b
      simp only [Bool.or_eq_true, decide_eq_true_eq]
      omega
    · intro a b h3
      simpa using h3
  · exact h1.imp (fun h => Int.le_of_lt h)
theorem opI_none {l : List Ln} (h : linesB l = false) : ∀ b : List Ln, b.foldl (opStep l) [] = [] := by
  intro b
  induction b with
  | nil => rfl
  | cons x b ih =>
    rw [List.foldl_cons, show opStep l [] x = [] by simp [opStep, owedV_no h]]
    exact ih
def openV (l : List Ln) : List Int := if linesB l = true then opS l l.length else []
theorem open_law (l : List Ln) : srt (opI l l.length) = openV l := by
  unfold openV
  by_cases h : linesB l = true
  · rw [if_pos h]
    have hb := open_both l (l.take l.length) [] [] List.Pairwise.nil (List.Perm.refl _)
    exact srt_eq hb.1 hb.2
  · rw [if_neg h]
    have : opI l l.length = [] := opI_none (by simpa using h) _
    rw [this]
    simp [srt]
theorem openV_len (l : List Ln) : (openV l).length ≤ l.length := by
  unfold openV
  split
  · exact opS_len l l.length
  · simp
end Go.Proofs.YtapllnlclgbbkaaDoor

/- What the law FnRefund asks of the plain refund: no program in sight. -/
namespace Go.Proofs.YtapllnlclgbbkaaDoor
set_option maxRecDepth 10000
open Go.RowKit
theorem pcts_up {ps : List Int} (h : pctsB ps = true) : ∀ (k i : Nat), i + k < ps.length → ps.getD i 0 ≤ ps.getD (i + k) 0
  | 0, i, _ => Int.le_refl _
  | k + 1, i, hi => by
    have h1 := pcts_up h k i (by omega)
    simp only [pctsB, Bool.and_eq_true] at h
    have h3 := allTo_iff.1 h.1 (i + (k + 1)) hi
    simp only [pctAt, Bool.and_eq_true, Bool.or_eq_true, decide_eq_true_eq] at h3
    rcases h3.2 with h4 | h4
    · omega
    · exact Int.le_trans h1 (by simpa using h4)
theorem pcts_in {ps : List Int} (h : pctsB ps = true) {i : Nat} (hi : i < ps.length) : 0 ≤ ps.getD i 0 ∧ ps.getD i 0 ≤ 100 := by
  obtain ⟨x, hx⟩ := get_of_lt hi
  rw [getD_of hx]
  exact (pcts_get h).2.2 i x hx
theorem pctOf_in {c x : Int} (hc : 0 ≤ c ∧ c ≤ 100000) (hx : 0 ≤ x ∧ x ≤ 100) : pctOf c x = c * x / 100 ∧ 0 ≤ c * x ∧ c * x ≤ c * 100 := by
  have h1 : 0 ≤ c * x := Int.mul_nonneg hc.1 hx.1
  have h2 : c * x ≤ c * 100 := Int.mul_le_mul_of_nonneg_left hx.2 hc.1
  refine ⟨?_, h1, h2⟩
  unfold pctOf
  rw [IntWalk.wrap64_in (c * x) ⟨by omega, by omega⟩, Int.tdiv_eq_ediv_of_nonneg h1, IntWalk.wrap64_in _ ⟨by omega, by omega⟩]
theorem refundAt_lt {du en : Int} {ps : List Int} (h : pctsB ps = true) (he : ¬ en ≤ du) : refundAt du en ps < ps.length := by
  have := (pcts_get h).1
  unfold refundAt
  split <;> omega
theorem refundV_fact (ch du en : Int) (ps : List Int) : 0 ≤ refundV ch du en ps ∧ (0 < refundV ch du en ps → refundV ch du en ps ≤ ch ∧ du < en) := by
  unfold refundV
  split
  · rename_i h
    simp only [refundOk, Bool.and_eq_true, Bool.not_eq_true', decide_eq_false_iff_not] at h
    obtain ⟨⟨⟨⟨h1, h2⟩, h3⟩, h4⟩, h5⟩ := h
    have e := pctOf_in (inB_true h2) (pcts_in h1 (refundAt_lt h1 h5))
    rw [e.1]
    omega
  · omega
theorem refundV_up (ch du en en2 : Int) (ps : List Int) (h : en ≤ en2) (h2 : en2 ≤ 200000) : refundV ch du en ps ≤ refundV ch du en2 ps := by
  by_cases hk : refundOk ch du en ps = true
  · have hk' := hk
    simp only [refundOk, Bool.and_eq_true, Bool.not_eq_true', decide_eq_false_iff_not] at hk
    obtain ⟨⟨⟨⟨h1, h3⟩, h4⟩, h5⟩, h6⟩ := hk
    have b5 := inB_true h5
    have hk2 : refundOk ch du en2 ps = true := by
      simp only [refundOk, Bool.and_eq_true, Bool.not_eq_true', decide_eq_false_iff_not]
      exact ⟨⟨⟨⟨h1, h3⟩, h4⟩, inB_of ⟨by omega, h2⟩⟩, by omega⟩
    simp only [refundV, hk', hk2, if_true]
    have l1 := refundAt_lt h1 h6
    have l2 := refundAt_lt (en := en2) h1 (show ¬ en2 ≤ du by omega)
    have hle : refundAt du en ps ≤ refundAt du en2 ps := by
      have := (pcts_get h1).1
      unfold refundAt
      split <;> split <;> omega
    have hm := pcts_up h1 (refundAt du en2 ps - refundAt du en ps) (refundAt du en ps) (by omega)
    rw [show refundAt du en ps + (refundAt du en2 ps - refundAt du en ps) = refundAt du en2 ps by omega] at hm
    have e1 := pctOf_in (inB_true h3) (pcts_in h1 l1)
    have e2 := pctOf_in (inB_true h3) (pcts_in h1 l2)
    rw [e1.1, e2.1]
    have := Int.mul_le_mul_of_nonneg_left hm (inB_true h3).1
    omega
  · have h0 : refundV ch du en ps = 0 := by simp [refundV, hk]
    rw [h0]
    exact (refundV_fact ch du en2 ps).1
end Go.Proofs.YtapllnlclgbbkaaDoor

/- What the law FnGiven asks of the plain refund of an order: no program in sight. -/
namespace Go.Proofs.YtapllnlclgbbkaaDoor
set_option maxRecDepth 10000
open Go.RowKit
theorem sumLn_snoc (xs : List Ln) (x : Ln) (o k : Int) : sumLn (xs ++ [x]) o k = sumStep o k (sumLn xs o k) x := by simp [sumLn, List.foldl_append]
theorem cashLn_snoc (xs : List Ln) (x : Ln) : cashLn (xs ++ [x]) = cashStep (cashLn xs) x := by simp [cashLn, List.foldl_append]
theorem lines_last {xs : List Ln} {x : Ln} (h : linesB (xs ++ [x]) = true) : fitB xs x = true := by
  simp only [linesB, Bool.and_eq_true] at h
  have h2 := allTo_iff.1 h.2 xs.length (by simp)
  simp only [lineAt, Bool.and_eq_true] at h2
  have e1 : (xs ++ [x]).getD xs.length default = x := by simp
  have e2 : (xs ++ [x]).take xs.length = xs := by simp
  rw [e1, e2] at h2
  exact h2.2
theorem lines_amounts {xs : List Ln} (h : linesB xs = true) : (∀ x ∈ xs, 1 ≤ x.a ∧ x.a ≤ 100000) ∧ xs.length ≤ 200 := by
  simp only [linesB, Bool.and_eq_true, decide_eq_true_eq] at h
  have := take_amounts h.2
  rw [List.take_length] at this
  exact ⟨this, h.1⟩
theorem sum_in {xs : List Ln} (h : linesB xs = true) (o k : Int) : 0 ≤ sumLn xs o k ∧ sumLn xs o k ≤ 20000000 := by
  obtain ⟨h1, h2⟩ := lines_amounts h
  have := cnt_sum o k h1 h2
  omega
structure Given (xs : List Ln) (o du en : Int) (ps : List Int) (t n : Int) (ys : List Ln) : Prop where
  again : (refundO ys o du en ps t).2 = 2
  pos : 0 < n
  cash : cashV ys = wrap64 (cashV xs - n)
  owed : owedV ys o = 0
  paid : n ≤ sumLn ys o 2
  lines : linesB ys = true
theorem postV_shape (xs : List Ln) (x : Ln) : (∃ c, postV xs x = (xs, c)) ∨ postV xs x = (xs ++ [x], 0) := by
  unfold postV
  split
  · exact .inl ⟨_, rfl⟩
  · split
    · exact .inr rfl
    · exact .inl ⟨_, rfl⟩
theorem refundO_shape (xs : List Ln) (o du en t : Int) (ps : List Int) : (∃ c, refundO xs o du en ps t = (xs, c)) ∨ refundO xs o du en ps t = postV xs ⟨o, 3, refundV (sumLn xs o 1) du en ps, t⟩ := by
  unfold refundO
  repeat (split; · exact .inl ⟨_, rfl⟩)
  exact .inr rfl
theorem refundO_no {xs : List Ln} {o du en t : Int} {ps : List Int} (h : (refundO xs o du en ps t).2 ≠ 0) : (refundO xs o du en ps t).1.length = xs.length := by
  rcases refundO_shape xs o du en t ps with ⟨c, e⟩ | e
  · rw [e]
  · rw [e] at h ⊢
    rcases postV_shape xs ⟨o, 3, refundV (sumLn xs o 1) du en ps, t⟩ with ⟨c, e2⟩ | e2
    · rw [e2]
    · rw [e2] at h
      exact absurd rfl h
theorem given_law {xs : List Ln} {o du en t : Int} {ps : List Int} (h : (refundO xs o du en ps t).2 = 0) :
    Given xs o du en ps t (refundV (sumLn xs o 1) du en ps) (refundO xs o du en ps t).1 := by
  cases h0 : linesB xs with
  | false => simp [refundO, h0] at h
  | true =>
  cases h1 : pctsB ps with
  | false => simp [refundO, h0, h1] at h
  | true =>
  cases h2 : inB o 1 9999 with
  | false => simp [refundO, h0, h1, h2] at h
  | true =>
  cases h3 : inB t 0 100000 with
  | false => simp [refundO, h0, h1, h2, h3] at h
  | true =>
  cases h4 : (sumLn xs o 1 == 0) with
  | true => simp [refundO, h0, h1, h2, h3, h4] at h
  | false =>
  cases h5 : decide (0 < owedV xs o) with
  | true => simp [refundO, h0, h1, h2, h3, h4, h5] at h
  | false =>
  cases h6 : decide (0 < sumLn xs o 3) with
  | true => simp [refundO, h0, h1, h2, h3, h4, h5, h6] at h
  | false =>
  cases h7 : (refundV (sumLn xs o 1) du en ps == 0) with
  | true => simp [refundO, h0, h1, h2, h3, h4, h5, h6, h7] at h
  | false =>
  have hR : refundO xs o du en ps t = postV xs ⟨o, 3, refundV (sumLn xs o 1) du en ps, t⟩ := by simp only [refundO, h0, h1, h2, h3, h4, h5, h6, h7]; rfl
  rw [hR] at h ⊢
  have hn := (refundV_fact (sumLn xs o 1) du en ps).1
  generalize refundV (sumLn xs o 1) du en ps = n at h h7 hn ⊢
  have hn0 : 0 < n := by
    have : n ≠ 0 := by simpa using h7
    omega
  by_cases hf : 200 ≤ xs.length
  · simp [postV_full hf] at h
  cases h8 : linesB (xs ++ [⟨o, 3, n, t⟩]) with
  | false => simp [postV_bad hf h8] at h
  | true =>
  rw [postV_ok hf h8]
  have hfit := lines_last h8
  rw [fit3 rfl] at hfit
  simp only [Bool.and_eq_true, Bool.not_eq_true', decide_eq_false_iff_not, beq_iff_eq] at hfit
  obtain ⟨⟨_, hpay⟩, hle⟩ := hfit
  have s1 : sumLn (xs ++ [⟨o, 3, n, t⟩]) o 1 = sumLn xs o 1 := by rw [sumLn_snoc]; simp [sumStep]
  have s2 : sumLn (xs ++ [⟨o, 3, n, t⟩]) o 2 = sumLn xs o 2 := by rw [sumLn_snoc]; simp [sumStep]
  have b1 := sum_in h0 o 1
  have b3 := sum_in h0 o 3
  have h60 : ¬ 0 < sumLn xs o 3 := by simpa using h6
  have s3 : sumLn (xs ++ [⟨o, 3, n, t⟩]) o 3 = n := by
    rw [sumLn_snoc]
    have : sumLn xs o 3 = 0 := by omega
    simp only [sumStep, this]
    simp
    exact IntWalk.wrap64_in _ ⟨by omega, by omega⟩
  have howed : owedV (xs ++ [⟨o, 3, n, t⟩]) o = 0 := by
    rw [owedV_ok h8, s1, s2, hpay, Int.sub_self]
    exact IntWalk.wrap64_in 0 ⟨by omega, by omega⟩
  refine ⟨?_, hn0, ?_, howed, by rw [s2, hpay]; omega, h8⟩
  · have h40 : (sumLn (xs ++ [⟨o, 3, n, t⟩]) o 1 == 0) = false := by rw [s1]; exact h4
    have h50 : decide (0 < owedV (xs ++ [⟨o, 3, n, t⟩]) o) = false := by rw [howed]; rfl
    have h61 : decide (0 < sumLn (xs ++ [⟨o, 3, n, t⟩]) o 3) = true := by rw [s3]; simpa using hn0
    simp only [refundO, h8, h1, h2, h3, h40, h50, h61]
    rfl
  · rw [cashV_ok h8, cashV_ok h0, cashLn_snoc]
    rfl
end Go.Proofs.YtapllnlclgbbkaaDoor

/- What the law FnPaid asks of the plain money functions: no program in sight. -/
namespace Go.Proofs.YtapllnlclgbbkaaDoor
set_option maxRecDepth 10000
open Go.RowKit
theorem line_get {xs : List Ln} (h : linesB xs = true) {i : Nat} {x : Ln} (hx : xs[i]? = some x) : lineB x.o x.k x.a x.t = true ∧ fitB (xs.take i) x = true := by
  simp only [linesB, Bool.and_eq_true] at h
  have h2 := allTo_iff.1 h.2 i (lt_of_get hx)
  simp only [lineAt, List.getD_eq_getElem?_getD, hx, Option.getD_some, Bool.and_eq_true, Bool.not_eq_true'] at h2
  exact ⟨line_of_bad h2.1, h2.2⟩
theorem sum_other {xs : List Ln} {x : Ln} {o k : Int} (h : ¬ (x.o = o ∧ x.k = k)) : sumLn (xs ++ [x]) o k = sumLn xs o k := by
  rw [sumLn_snoc]
  simp only [sumStep, Bool.and_eq_true, beq_iff_eq]
  rw [if_neg h]
theorem sum_same {xs : List Ln} {x : Ln} {o k : Int} (h1 : x.o = o) (h2 : x.k = k) : sumLn (xs ++ [x]) o k = wrap64 (sumLn xs o k + x.a) := by
  rw [sumLn_snoc]
  simp [sumStep, h1, h2]
theorem sum_take_nonneg {xs : List Ln} (h : linesB xs = true) (i : Nat) (o k : Int) : 0 ≤ sumLn (xs.take i) o k := by
  obtain ⟨h1, h2⟩ := lines_amounts h
  have h3 : (xs.take i).length ≤ 200 := by rw [List.length_take]; omega
  have := cnt_sum o k (fun x hx => h1 x (List.mem_of_mem_take hx)) h3
  omega
theorem sums_inv {xs : List Ln} (h : linesB xs = true) (o : Int) : ∀ i, i ≤ xs.length → sumLn (xs.take i) o 2 ≤ sumLn (xs.take i) o 1 ∧ sumLn (xs.take i) o 1 ≤ 100000 ∧ (sumLn (xs.take i) o 1 ≠ 0 → (1 ≤ o ∧ o ≤ 9999) ∧ ∃ x ∈ xs, x.o = o)
  | 0, _ => by simp [sumLn]
  | i + 1, hi => by
    obtain ⟨x, hx⟩ := get_of_lt (show i < xs.length by omega)
    have ih := sums_inv h o i (by omega)
    obtain ⟨hl, hf⟩ := line_get h hx
    have ha := amount_of hl
    have p1 := sum_take_nonneg h i o 1
    rw [take_snoc hx]
    by_cases ho : x.o = o
    · have hor : 1 ≤ o ∧ o ≤ 9999 := by
        simp only [lineB, Bool.and_eq_true] at hl
        have := inB_true hl.1.1.1
        omega
      have hmem : ∃ y ∈ xs, y.o = o := ⟨x, List.mem_of_getElem? hx, ho⟩
      rcases kind_of hl with hk | hk | hk
      · rw [fit1 hk, ho] at hf
        have h0 : sumLn (xs.take i) o 1 = 0 := by
          have : ¬ 0 < sumLn (xs.take i) o 1 := by simpa using hf
          omega
        rw [sum_same ho hk, sum_other (k := 2) (by rintro ⟨_, e⟩; omega), h0, IntWalk.wrap64_in _ ⟨by omega, by omega⟩]
        exact ⟨by omega, by omega, fun _ => ⟨hor, hmem⟩⟩
      · rw [fit2 hk, ho] at hf
        have h0 : ¬ sumLn (xs.take i) o 1 < wrap64 (sumLn (xs.take i) o 2 + x.a) := by simpa using hf
        rw [sum_same ho hk, sum_other (k := 1) (by rintro ⟨_, e⟩; omega)]
        exact ⟨by omega, ih.2.1, ih.2.2⟩
      · rw [sum_other (k := 1) (by rintro ⟨_, e⟩; omega), sum_other (k := 2) (by rintro ⟨_, e⟩; omega)]
        exact ih
    · rw [sum_other (k := 1) (by rintro ⟨e, _⟩; exact ho e), sum_other (k := 2) (by rintro ⟨e, _⟩; exact ho e)]
      exact ih
theorem lines_snoc {xs : List Ln} {x : Ln} (h : linesB xs = true) (hn : xs.length < 200) (hl : lineB x.o x.k x.a x.t = true) (ht : ∀ y ∈ xs, y.t ≤ x.t) (hf : fitB xs x = true) : linesB (xs ++ [x]) = true := by
  have h' := h
  simp only [linesB, Bool.and_eq_true] at h
  refine linesB_all (by simp; omega) (allTo_iff.2 fun j hj => ?_)
  by_cases hjn : j < xs.length
  · have h2 := allTo_iff.1 h.2 j hjn
    have e1 : (xs ++ [x]).getD j default = xs.getD j default := by simp [List.getD_eq_getElem?_getD, List.getElem?_append_left hjn]
    have e2 : (xs ++ [x]).take j = xs.take j := by rw [List.take_append_of_le_length (by omega)]
    have e3 : (xs ++ [x]).getD (j - 1) default = xs.getD (j - 1) default := by simp [List.getD_eq_getElem?_getD, List.getElem?_append_left (show j - 1 < xs.length by omega)]
    simp only [lineAt, badAt, e1, e2, e3] at h2 ⊢
    exact h2
  · have hj2 : j = xs.length := by simp at hj; omega
    subst hj2
    have e1 : (xs ++ [x])[xs.length]? = some x := by simp
    refine lineAt_ok e1 ?_ (by rw [List.take_append_of_le_length (Nat.le_refl _), List.take_length]; exact hf)
    by_cases h0 : xs.length = 0
    · exact bad_first hl (by omega)
    · obtain ⟨m, hm⟩ : ∃ m, xs.length = m + 1 := ⟨xs.length - 1, by omega⟩
      obtain ⟨y, hy⟩ := get_of_lt (show m < xs.length by omega)
      rw [hm, bad_next hl (show (xs ++ [x])[m]? = some y by rw [List.getElem?_append_left (by omega)]; exact hy)]
      have := ht y (List.mem_of_getElem? hy)
      simp
      omega
theorem mem_opI (l : List Ln) (o : Int) : ∀ (b : List Ln) (u : List Int), o ∈ b.foldl (opStep l) u ↔ o ∈ u ∨ (0 < owedV l o ∧ ∃ x ∈ b, x.o = o)
  | [], u => by simp
  | x :: b, u => by
    rw [List.foldl_cons, mem_opI l o b]
    unfold opStep
    by_cases h1 : decide (0 < owedV l x.o) = true
    · have h1' : 0 < owedV l x.o := by simpa using h1
      rw [if_pos h1]
      by_cases h2 : hasI u x.o = true
      · rw [if_pos h2]
        have h3 := hasI_mem.1 h2
        constructor
        · rintro (h | ⟨h, y, hy, e⟩)
          · exact .inl h
          · exact .inr ⟨h, y, List.mem_cons_of_mem _ hy, e⟩
        · rintro (h | ⟨h, y, hy, e⟩)
          · exact .inl h
          · rcases List.mem_cons.1 hy with hy | hy
            · subst hy; subst e; exact .inl h3
            · exact .inr ⟨h, y, hy, e⟩
      · rw [if_neg h2]
        constructor
        · rintro (h | ⟨h, y, hy, e⟩)
          · rcases List.mem_append.1 h with h | h
            · exact .inl h
            · have e : o = x.o := by simpa using h
              subst e
              exact .inr ⟨h1', x, List.mem_cons_self, rfl⟩
          · exact .inr ⟨h, y, List.mem_cons_of_mem _ hy, e⟩
        · rintro (h | ⟨h, y, hy, e⟩)
          · exact .inl (List.mem_append_left _ h)
          · rcases List.mem_cons.1 hy with hy | hy
            · subst hy; subst e; exact .inl (List.mem_append_right _ (by simp))
            · exact .inr ⟨h, y, hy, e⟩
    · rw [if_neg h1]
      constructor
      · rintro (h | ⟨h, y, hy, e⟩)
        · exact .inl h
        · exact .inr ⟨h, y, List.mem_cons_of_mem _ hy, e⟩
      · rintro (h | ⟨h, y, hy, e⟩)
        · exact .inl h
        · rcases List.mem_cons.1 hy with hy | hy
          · subst hy; subst e; exact absurd (by simpa using h) h1
          · exact .inr ⟨h, y, hy, e⟩
theorem mem_openV (l : List Ln) (o : Int) : hasI (openV l) o = true ↔ 0 < owedV l o ∧ ∃ x ∈ l, x.o = o := by
  rw [hasI_mem, ← open_law, srt, (List.mergeSort_perm _ _).mem_iff]
  unfold opI
  rw [mem_opI, List.take_length]
  simp
structure Paid (l : List Ln) (o owed : Int) (ys : List Ln) : Prop where
  lines : linesB ys = true
  owed0 : owedV ys o = 0
  again : payV ys o 1 100000 = (ys, 4)
  twice : chargeV ys o 5 100000 = (ys, 2)
  cash : cashV ys = wrap64 (cashV l + owed)
  gone : hasI (openV ys) o = false
  was : hasI (openV l) o = true
theorem paid_zero (l : List Ln) (o : Int) : payV l o 0 100000 = (l, 1) := by
  unfold payV
  split
  · rfl
  · have : lineB o 2 0 100000 = false := by simp [lineB, inB]
    rw [if_pos this]
theorem paid_law {l : List Ln} {o : Int} (h : linesB l = true) (hn : l.length ≤ 197) (h0 : owedV l o ≠ 0) : payV l o (owedV l o) 100000 = (l ++ [⟨o, 2, owedV l o, 100000⟩], 0) ∧ Paid l o (owedV l o) (l ++ [⟨o, 2, owedV l o, 100000⟩]) := by
  have inv := sums_inv h o l.length (Nat.le_refl _)
  rw [List.take_length] at inv
  have p2 := sum_in h o 2
  have e : owedV l o = sumLn l o 1 - sumLn l o 2 := by rw [owedV_ok h, IntWalk.wrap64_in _ ⟨by omega, by omega⟩]
  have hs : sumLn l o 1 ≠ 0 := by omega
  obtain ⟨hor, hmem⟩ := inv.2.2 hs
  have hw : 0 < owedV l o ∧ owedV l o ≤ 100000 := by omega
  have hline : lineB o 2 (owedV l o) 100000 = true := by
    simp only [lineB, Bool.and_eq_true]
    exact ⟨⟨⟨inB_of hor, inB_of (by omega)⟩, inB_of (by omega)⟩, inB_of (by omega)⟩
  have hline1 : lineB o 2 1 100000 = true := by
    simp only [lineB, Bool.and_eq_true]
    exact ⟨⟨⟨inB_of hor, inB_of (by omega)⟩, inB_of (by omega)⟩, inB_of (by omega)⟩
  have hline5 : lineB o 1 5 100000 = true := by
    simp only [lineB, Bool.and_eq_true]
    exact ⟨⟨⟨inB_of hor, inB_of (by omega)⟩, inB_of (by omega)⟩, inB_of (by omega)⟩
  have hwas : hasI (openV l) o = true := (mem_openV l o).2 ⟨hw.1, hmem⟩
  have hfit : fitB l ⟨o, 2, owedV l o, 100000⟩ = true := by
    rw [fit2 rfl]
    have : wrap64 (sumLn l o 2 + owedV l o) = sumLn l o 1 := by rw [e, IntWalk.wrap64_in _ ⟨by omega, by omega⟩]; omega
    simp [this]
  have ht : ∀ y ∈ l, y.t ≤ 100000 := by
    intro y hy
    obtain ⟨i, hi⟩ := List.getElem?_of_mem hy
    have := (line_get h hi).1
    simp only [lineB, Bool.and_eq_true] at this
    exact (inB_true this.2).2
  have hl2 : linesB (l ++ [⟨o, 2, owedV l o, 100000⟩]) = true := lines_snoc h (by omega) hline ht hfit
  have s1 : sumLn (l ++ [⟨o, 2, owedV l o, 100000⟩]) o 1 = sumLn l o 1 := sum_other (by rintro ⟨_, e9⟩; cases e9)
  have s2 : sumLn (l ++ [⟨o, 2, owedV l o, 100000⟩]) o 2 = sumLn l o 1 := by
    rw [sum_same rfl rfl]
    show wrap64 (sumLn l o 2 + owedV l o) = _
    rw [e, IntWalk.wrap64_in _ ⟨by omega, by omega⟩]
    omega
  have how : owedV (l ++ [⟨o, 2, owedV l o, 100000⟩]) o = 0 := by
    rw [owedV_ok hl2, s1, s2, Int.sub_self]
    exact IntWalk.wrap64_in 0 ⟨by omega, by omega⟩
  have hs1 : (sumLn l o 1 == 0) = false := by simpa using hs
  refine ⟨?_, hl2, how, ?_, ?_, ?_, ?_, hwas⟩
  · have h9 : decide (owedV l o < owedV l o) = false := by simp
    simp only [payV, h, hline, hs1, h9]
    exact postV_ok (by omega) hl2
  · have h9 : decide (owedV (l ++ [⟨o, 2, owedV l o, 100000⟩]) o < 1) = true := by rw [how]; rfl
    have h8 : (sumLn (l ++ [⟨o, 2, owedV l o, 100000⟩]) o 1 == 0) = false := by rw [s1]; exact hs1
    simp only [payV, hl2, hline1, h8, h9]
    rfl
  · have h8 : decide (0 < sumLn (l ++ [⟨o, 2, owedV l o, 100000⟩]) o 1) = true := by rw [s1]; simp; omega
    simp only [chargeV, hl2, hline5, h8]
    rfl
  · rw [cashV_ok hl2, cashV_ok h, cashLn_snoc]
    rfl
  · cases hb : hasI (openV (l ++ [⟨o, 2, owedV l o, 100000⟩])) o with
    | false => rfl
    | true =>
      have := ((mem_openV _ o).1 hb).1
      omega
end Go.Proofs.YtapllnlclgbbkaaDoor

/- The plain law of FnBooks: the lines of all orders are all lines, and their sums the sum. -/
namespace Go.Proofs.YtapllnlclgbbkaaDoor
set_option maxRecDepth 10000
open Go.RowKit
def lnsOf (l : List Ln) (o : Int) : List Ln := l.filter fun x => x.o == o
/-- One line looked at: (orders seen, lines, cash, orders that owe). -/
def bookStep (l : List Ln) (s : List Int × Int × Int × Int) (x : Ln) : List Int × Int × Int × Int :=
  if hasI s.1 x.o = true then s else (s.1 ++ [x.o], wrap64 (s.2.1 + (lnsOf l x.o).length), wrap64 (wrap64 (s.2.2.1 + sumLn l x.o 2) - sumLn l x.o 3), if decide (0 < owedV l x.o) = true then wrap64 (s.2.2.2 + 1) else s.2.2.2)
def booksI (l : List Ln) (i : Nat) : List Int × Int × Int × Int := (l.take i).foldl (bookStep l) ([], 0, 0, 0)
theorem wrap_in {n : Int} (h : -9223372036854775808 ≤ n ∧ n ≤ 9223372036854775807) : wrap64 n = n := IntWalk.wrap64_in _ ⟨by omega, by omega⟩
/-- Lines whose order is among d. -/
def cntIn (l : List Ln) (d : List Int) : Nat := (l.filter fun x => decide (x.o ∈ d)).length
theorem cntIn_snoc (d : List Int) (id : Int) (h : ¬ id ∈ d) : ∀ l : List Ln, cntIn l (d ++ [id]) = cntIn l d + (lnsOf l id).length
  | [] => rfl
  | x :: xs => by
    have ih := cntIn_snoc d id h xs
    unfold cntIn lnsOf at *
    by_cases h1 : x.o ∈ d
    · have h2 : ¬ x.o = id := fun e => h (e ▸ h1)
      rw [List.filter_cons_of_pos (by simp [h1]), List.filter_cons_of_pos (by simpa using h1), List.filter_cons_of_neg (by simpa using h2), List.length_cons, List.length_cons, ih]; omega
    · by_cases h2 : x.o = id
      · rw [List.filter_cons_of_pos (by simp [h2]), List.filter_cons_of_neg (by simpa using h1), List.filter_cons_of_pos (by simpa using h2), List.length_cons, List.length_cons, ih]; omega
      · rw [List.filter_cons_of_neg (by simp [h1, h2]), List.filter_cons_of_neg (by simpa using h1), List.filter_cons_of_neg (by simpa using h2), ih]
theorem cntIn_le (l : List Ln) (d : List Int) : cntIn l d ≤ l.length := List.length_filter_le _ _
theorem cntIn_all {l : List Ln} {d : List Int} (h : ∀ x ∈ l, x.o ∈ d) : cntIn l d = l.length := by
  unfold cntIn
  rw [List.filter_eq_self.2 fun x hx => by simpa using h x hx]
/-- Sums without wrap. -/
def sumP : List Ln → Int → Int → Int
  | [], _, _ => 0
  | x :: xs, o, k => (if x.o = o ∧ x.k = k then x.a else 0) + sumP xs o k
def cashX (x : Ln) : Int := if x.k = 2 then x.a else if x.k = 3 then - x.a else 0
def cashIn : List Ln → List Int → Int
  | [], _ => 0
  | x :: xs, d => (if x.o ∈ d then cashX x else 0) + cashIn xs d
def cashP : List Ln → Int
  | [] => 0
  | x :: xs => cashX x + cashP xs
theorem cashIn_snoc (d : List Int) (id : Int) (h : ¬ id ∈ d) : ∀ l : List Ln, cashIn l (d ++ [id]) = cashIn l d + sumP l id 2 - sumP l id 3
  | [] => by simp [cashIn, sumP]
  | x :: xs => by
    have ih := cashIn_snoc d id h xs
    unfold cashIn sumP cashX
    by_cases h1 : x.o ∈ d
    · have h2 : ¬ x.o = id := fun e => h (e ▸ h1)
      have f2 : ¬ (x.o = id ∧ x.k = 2) := fun e => h2 e.1
      have f3 : ¬ (x.o = id ∧ x.k = 3) := fun e => h2 e.1
      rw [if_pos (List.mem_append.2 (.inl h1)), if_pos h1, if_neg f2, if_neg f3, ih]; omega
    · by_cases h2 : x.o = id
      · rw [if_pos (List.mem_append.2 (.inr (List.mem_singleton.2 h2))), if_neg h1, ih]
        by_cases k2 : x.k = 2
        · rw [if_pos k2, if_pos ⟨h2, k2⟩, if_neg (by omega)]; omega
        · by_cases k3 : x.k = 3
          · rw [if_neg k2, if_pos k3, if_neg (by simp [k2]), if_pos ⟨h2, k3⟩]; omega
          · rw [if_neg k2, if_neg k3, if_neg (by simp [k2]), if_neg (by simp [k3])]; omega
      · have h3 : ¬ x.o ∈ d ++ [id] := fun e => by rcases List.mem_append.1 e with e | e
                                                   · exact h1 e
                                                   · exact h2 (List.mem_singleton.1 e)
        have f2 : ¬ (x.o = id ∧ x.k = 2) := fun e => h2 e.1
        have f3 : ¬ (x.o = id ∧ x.k = 3) := fun e => h2 e.1
        rw [if_neg h3, if_neg h1, if_neg f2, if_neg f3, ih]; omega
theorem cashIn_all {d : List Int} : ∀ {l : List Ln}, (∀ x ∈ l, x.o ∈ d) → cashIn l d = cashP l
  | [], _ => rfl
  | x :: xs, h => by
    unfold cashIn cashP
    rw [if_pos (h x List.mem_cons_self), cashIn_all fun y hy => h y (List.mem_cons_of_mem _ hy)]
theorem cashIn_bound (d : List Int) : ∀ {l : List Ln}, (∀ x ∈ l, 1 ≤ x.a ∧ x.a ≤ 100000) → -(100000 * (l.length : Int)) ≤ cashIn l d ∧ cashIn l d ≤ 100000 * (l.length : Int)
  | [], _ => by simp [cashIn]
  | x :: xs, h => by
    have := h x List.mem_cons_self
    have := cashIn_bound d (l := xs) fun y hy => h y (List.mem_cons_of_mem _ hy)
    unfold cashIn cashX
    rw [List.length_cons]
    split
    · split
      · omega
      · split <;> omega
    · omega
theorem sum_plain (o k : Int) : ∀ (l : List Ln) (s : Int), (∀ x ∈ l, 1 ≤ x.a ∧ x.a ≤ 100000) → 0 ≤ s → s + 100000 * (l.length : Int) ≤ 1000000000 → l.foldl (sumStep o k) s = s + sumP l o k ∧ 0 ≤ sumP l o k ∧ sumP l o k ≤ 100000 * (l.length : Int)
  | [], s, _, _, _ => by simp [sumP]
  | x :: xs, s, h, h0, h1 => by
    have ha := h x List.mem_cons_self
    have hx : ∀ y ∈ xs, 1 ≤ y.a ∧ y.a ≤ 100000 := fun y hy => h y (List.mem_cons_of_mem _ hy)
    rw [List.length_cons] at h1 ⊢
    rw [List.foldl_cons]
    unfold sumP
    by_cases hc : x.o = o ∧ x.k = k
    · have hs : sumStep o k s x = s + x.a := by
        unfold sumStep
        rw [if_pos (by simp [hc]), wrap_in (by omega)]
      obtain ⟨a, b, c⟩ := sum_plain o k xs (s + x.a) hx (by omega) (by omega)
      rw [hs, a, if_pos hc]; omega
    · have hs : sumStep o k s x = s := by
        unfold sumStep
        rw [if_neg (by simpa using hc)]
      obtain ⟨a, b, c⟩ := sum_plain o k xs s hx h0 (by omega)
      rw [hs, a, if_neg hc]; omega
theorem sumLn_plain {l : List Ln} (h : linesB l = true) (o k : Int) : sumLn l o k = sumP l o k ∧ 0 ≤ sumP l o k ∧ sumP l o k ≤ 20000000 := by
  obtain ⟨h1, h2⟩ := lines_amounts h
  obtain ⟨a, b, c⟩ := sum_plain o k l 0 h1 (by omega) (by omega)
  unfold sumLn
  exact ⟨by rw [a]; omega, b, by omega⟩
theorem cash_plain : ∀ (l : List Ln) (s : Int), (∀ x ∈ l, 1 ≤ x.a ∧ x.a ≤ 100000) → -1000000000 ≤ s - 100000 * (l.length : Int) → s + 100000 * (l.length : Int) ≤ 1000000000 → l.foldl cashStep s = s + cashP l
  | [], s, _, _, _ => by simp [cashP]
  | x :: xs, s, h, h0, h1 => by
    have ha := h x List.mem_cons_self
    have hx : ∀ y ∈ xs, 1 ≤ y.a ∧ y.a ≤ 100000 := fun y hy => h y (List.mem_cons_of_mem _ hy)
    rw [List.length_cons] at h0 h1
    rw [List.foldl_cons]
    unfold cashP cashX
    by_cases k2 : x.k = 2
    · have hs : cashStep s x = s + x.a := by unfold cashStep; rw [if_pos (by simp [k2]), wrap_in (by omega)]
      rw [hs, cash_plain xs (s + x.a) hx (by omega) (by omega), if_pos k2]; omega
    · by_cases k3 : x.k = 3
      · have hs : cashStep s x = s - x.a := by unfold cashStep; rw [if_neg (by simp [k2]), if_pos (by simp [k3]), wrap_in (by omega)]
        rw [hs, cash_plain xs (s - x.a) hx (by omega) (by omega), if_neg k2, if_pos k3]; omega
      · have hs : cashStep s x = s := by unfold cashStep; rw [if_neg (by simp [k2]), if_neg (by simp [k3])]
        rw [hs, cash_plain xs s hx (by omega) (by omega), if_neg k2, if_neg k3]; omega
/-- No more is given back than was paid. -/
theorem back_le {l : List Ln} (h : linesB l = true) (o : Int) : ∀ i, i ≤ l.length → sumLn (l.take i) o 3 ≤ sumLn (l.take i) o 2 := by
  intro i
  induction i with
  | zero => intro _; simp [sumLn]
  | succ i ih =>
    intro hi
    have ih := ih (by omega)
    have hx : l[i]? = some l[i] := List.getElem?_eq_getElem (by omega)
    obtain ⟨hline, hfit⟩ := line_get h hx
    have ha := amount_of hline
    have h2 := sum_take_nonneg h i o 2
    have h3 := sum_take_nonneg h i o 3
    obtain ⟨s1, s2, _⟩ := sums_inv h o i (by omega)
    have ht : l.take (i + 1) = l.take i ++ [l[i]] := by rw [List.take_add_one, hx]; rfl
    rw [ht]
    by_cases ho : l[i].o = o
    · rcases kind_of hline with k | k | k
      · rw [sum_other (by omega), sum_other (by omega)]; exact ih
      · rw [sum_other (by omega), sum_same ho k, wrap_in (by omega)]; omega
      · rw [fit3 k] at hfit
        simp only [Bool.and_eq_true, Bool.not_eq_true', decide_eq_false_iff_not, beq_iff_eq] at hfit
        rw [ho] at hfit
        rw [sum_same ho k, sum_other (by omega), wrap_in (by omega)]
        omega
    · rw [sum_other (by simp [ho]), sum_other (by simp [ho])]; exact ih
structure BookInv (l : List Ln) (b : List Ln) (s : List Int × Int × Int × Int) : Prop where
  nodup : s.1.Nodup
  mem : ∀ o, o ∈ s.1 ↔ ∃ x ∈ b, x.o = o
  len : s.1.length ≤ b.length
  cnt : s.2.1 = cntIn l s.1
  cash : linesB l = true → s.2.2.1 = cashIn l s.1 ∧ 0 ≤ s.2.2.1
  owed : s.2.2.2 = (s.1.filter fun o => decide (0 < owedV l o)).length
theorem book_inv {l : List Ln} (hl : l.length ≤ 4002) : ∀ (a b : List Ln) (s : List Int × Int × Int × Int), BookInv l b s → b.length + a.length ≤ 4002 → BookInv l (b ++ a) (a.foldl (bookStep l) s)
  | [], b, s, h, _ => by rw [List.append_nil]; exact h
  | x :: a, b, s, h, hlen => by
    rw [List.length_cons] at hlen
    have hstep : BookInv l (b ++ [x]) (bookStep l s x) := by
      unfold bookStep
      by_cases hh : hasI s.1 x.o = true
      · rw [if_pos hh]
        have hm := hasI_mem.1 hh
        refine ⟨h.nodup, fun o => ⟨fun ho => ?_, fun ⟨y, hy, e⟩ => ?_⟩, by rw [List.length_append]; have := h.len; omega, h.cnt, h.cash, h.owed⟩
        · obtain ⟨y, hy, e⟩ := (h.mem o).1 ho
          exact ⟨y, List.mem_append.2 (.inl hy), e⟩
        · rcases List.mem_append.1 hy with hy | hy
          · exact (h.mem o).2 ⟨y, hy, e⟩
          · obtain rfl := List.mem_singleton.1 hy; rw [← e]; exact hm
      · rw [if_neg hh]
        have hm : ¬ x.o ∈ s.1 := fun e => hh (hasI_mem.2 e)
        have hc := cntIn_snoc s.1 x.o hm l
        have hle := cntIn_le l (s.1 ++ [x.o])
        have hsl := h.len
        refine ⟨?_, fun o => ⟨fun ho => ?_, fun ⟨y, hy, e⟩ => ?_⟩, by simp only [List.length_append, List.length_cons, List.length_nil]; omega, ?_, fun hL => ?_, ?_⟩
        · refine List.nodup_append.2 ⟨h.nodup, by simp, fun u hu v hv => ?_⟩
          obtain rfl := List.mem_singleton.1 hv
          rintro rfl; exact hm hu
        · rcases List.mem_append.1 ho with ho | ho
          · obtain ⟨y, hy, e⟩ := (h.mem o).1 ho
            exact ⟨y, List.mem_append.2 (.inl hy), e⟩
          · exact ⟨x, List.mem_append.2 (.inr (List.mem_singleton.2 rfl)), (List.mem_singleton.1 ho).symm⟩
        · rcases List.mem_append.1 hy with hy | hy
          · exact List.mem_append.2 (.inl ((h.mem o).2 ⟨y, hy, e⟩))
          · obtain rfl := List.mem_singleton.1 hy
            exact List.mem_append.2 (.inr (List.mem_singleton.2 e.symm))
        · show wrap64 (s.2.1 + (lnsOf l x.o).length) = cntIn l (s.1 ++ [x.o])
          rw [hc, h.cnt, wrap_in (by omega)]; omega
        · obtain ⟨c1, c2⟩ := h.cash hL
          obtain ⟨p1, p2, p3⟩ := sumLn_plain hL x.o 2
          obtain ⟨q1, q2, q3⟩ := sumLn_plain hL x.o 3
          obtain ⟨l1, l2⟩ := lines_amounts hL
          have hb := cashIn_bound s.1 l1
          have hbk := back_le hL x.o l.length (Nat.le_refl _)
          rw [List.take_length] at hbk
          have e : wrap64 (wrap64 (s.2.2.1 + sumLn l x.o 2) - sumLn l x.o 3) = s.2.2.1 + sumLn l x.o 2 - sumLn l x.o 3 := by
            rw [wrap_in (n := s.2.2.1 + sumLn l x.o 2) (by omega), wrap_in (by omega)]
          refine ⟨?_, ?_⟩
          · show wrap64 (wrap64 (s.2.2.1 + sumLn l x.o 2) - sumLn l x.o 3) = cashIn l (s.1 ++ [x.o])
            rw [e, cashIn_snoc s.1 x.o hm, p1, q1, c1]
          · show 0 ≤ wrap64 (wrap64 (s.2.2.1 + sumLn l x.o 2) - sumLn l x.o 3)
            rw [e]; omega
        · show (if decide (0 < owedV l x.o) = true then wrap64 (s.2.2.2 + 1) else s.2.2.2) = (((s.1 ++ [x.o]).filter fun o => decide (0 < owedV l o)).length : Int)
          have hfl : (s.1.filter fun o => decide (0 < owedV l o)).length ≤ s.1.length := List.length_filter_le _ _
          rw [List.filter_append, List.length_append, h.owed]
          by_cases ho : decide (0 < owedV l x.o) = true
          · rw [if_pos ho, List.filter_cons_of_pos (p := fun o => decide (0 < owedV l o)) ho, wrap_in (by omega)]; simp
          · rw [if_neg ho, List.filter_cons_of_neg (p := fun o => decide (0 < owedV l o)) ho]; simp
    have := book_inv hl a (b ++ [x]) _ hstep (by simp only [List.length_append, List.length_cons, List.length_nil]; omega)
    rw [List.append_assoc] at this
    exact this
theorem books_inv {l : List Ln} (hl : l.length ≤ 4002) {i : Nat} (hi : i ≤ l.length) : BookInv l (l.take i) (booksI l i) := by
  have h0 : BookInv l [] ([], 0, 0, 0) := ⟨List.nodup_nil, fun o => by simp, by simp, by
    have : l.filter (fun x => decide (x.o ∈ ([] : List Int))) = [] := List.filter_eq_nil_iff.2 (by simp)
    unfold cntIn; rw [this]; rfl, fun _ => ⟨by
    have : ∀ xs : List Ln, cashIn xs [] = 0 := fun xs => by
      induction xs with
      | nil => rfl
      | cons x xs ih => unfold cashIn; rw [ih]; simp
    rw [this], by simp⟩, by simp⟩
  have := book_inv hl (l.take i) [] _ h0 (by rw [List.length_nil, List.length_take]; omega)
  rw [List.nil_append] at this
  exact this
theorem openV_nodup (l : List Ln) : (openV l).Pairwise (· < ·) := by
  unfold openV
  split
  · exact (open_both l (l.take l.length) [] [] List.Pairwise.nil (List.Perm.refl _)).1
  · exact List.Pairwise.nil
/-- FnBooks. -/
theorem books_law {l : List Ln} (hl : l.length ≤ 4002) : (booksI l l.length).2.1 = l.length ∧ (linesB l = true → (booksI l l.length).2.2.1 = cashV l ∧ 0 ≤ (booksI l l.length).2.2.1 ∧ (booksI l l.length).2.2.2 = (openV l).length) := by
  have h := books_inv hl (Nat.le_refl l.length)
  rw [List.take_length] at h
  have hall : ∀ x ∈ l, x.o ∈ (booksI l l.length).1 := fun x hx => (h.mem x.o).2 ⟨x, hx, rfl⟩
  refine ⟨by rw [h.cnt, cntIn_all hall], fun hL => ⟨?_, (h.cash hL).2, ?_⟩⟩
  · obtain ⟨h1, h2⟩ := lines_amounts hL
    rw [(h.cash hL).1, cashIn_all hall, cashV_ok hL]
    unfold cashLn
    rw [cash_plain l 0 h1 (by omega) (by omega)]; omega
  · rw [h.owed]
    have hp : ((booksI l l.length).1.filter fun o => decide (0 < owedV l o)).Perm (openV l) := by
      refine (List.perm_ext_iff_of_nodup (h.nodup.filter _) ((openV_nodup l).imp fun {a b} hab e => by omega)).2 fun o => ?_
      rw [List.mem_filter, ← hasI_mem (xs := openV l), mem_openV, h.mem o, decide_eq_true_iff]
      exact ⟨fun ⟨a, b⟩ => ⟨b, a⟩, fun ⟨a, b⟩ => ⟨b, a⟩⟩
    rw [hp.length_eq]
theorem booksI_next {l : List Ln} {i : Nat} {x : Ln} (hx : l[i]? = some x) : booksI l (i + 1) = bookStep l (booksI l i) x := by
  unfold booksI
  rw [List.take_add_one, hx]
  simp [List.foldl_append]
theorem booksI_len {l : List Ln} (hl : l.length ≤ 4002) {i : Nat} (hi : i ≤ l.length) : (booksI l i).1.length ≤ 4002 := by
  have := (books_inv hl hi).len
  rw [List.length_take] at this
  omega
end Go.Proofs.YtapllnlclgbbkaaDoor

/- The walk through the law FnBooks, over any bytes. -/
namespace Go.Proofs.YtapllnlclgbbkaaDoor
set_option maxRecDepth 10000
open Go.RowKit
theorem drawCashOf_any (A : Option Addr) (xs : List By) (c n : Nat) (w : World) (hl : n = xs.length) (hr : Rd w w.heap.size A xs) (hok : ∀ x ∈ xs, ByOk x) (h : n ≤ 4096) :
    Calls Tryd.prog 11 #[.slice A n c] w fun e w' => ∃ (v : Value), e = .returned v ∧ OwnL w' w.heap.size v 4001 ∧ Up w w' := by
  subst hl
  go_enter Tryd.func11, Tryd.ntmps11
  go_wp2_with fail
  refine (l1New_any A xs c _ w rfl hr hok h).mono ?_
  rintro e w1 ⟨g, rfl, ⟨hg, hc1⟩, hu1⟩
  have hlt := hc1.lt
  go_wp2_with fail
  refine (l11Any_any g xs _ hc1).mono ?_
  rintro e w2 ⟨v2, rfl, ho2, hc2, hg2⟩
  have hup := up_grown hu1 hg2 hg
  go_wp2_with fail
  go_ret
  exact ⟨v2, rfl, ho2.more hu1.size, hup⟩
theorem openOrders_books (A : Option Addr) (xs : List Ln) (n c : Nat) (w : World) (hr : Rd w w.heap.size A xs) (hl : n = xs.length) (hc : xs.length ≤ c) (hn : n ≤ 2000000) :
    Calls Tryd.prog 18 #[.slice A n c] w fun e w' => ∃ v, e = .returned v ∧ Own w' w.heap.size 3 v (openV xs) ∧ Up w w' := by
  rw [← open_law]
  exact openOrders_impl A xs n c w hr hl hc hn
theorem statement_no (A : Option Addr) (xs : List Ln) (n c : Nat) (o : Int) (w : World) (hr : Rd w w.heap.size A xs) (hl : n = xs.length) (hc : xs.length ≤ c) (hn : n ≤ 2000000) (hL : linesB xs = false) :
    Calls Tryd.prog 8 #[.slice A n c, .int .i64 o] w fun e w' => e = .returned (.string ⟨#[]⟩) ∧ Up w w' := by
  subst hl
  go_enter Tryd.func8, Tryd.ntmps8
  go_wp2_with fail
  refine (areLines_impl_n A xs _ c _ hr rfl hc hn).mono ?_
  rintro e w1 ⟨rfl, hb1⟩
  rw [hL]
  go_wp2_with fail
  go_ret
  exact ⟨rfl, hb1⟩
theorem booksI_seen {l : List Ln} {i : Nat} {x : Ln} (hx : l[i]? = some x) (h : hasI (booksI l i).1 x.o = true) : booksI l (i + 1) = booksI l i := by
  rw [booksI_next hx]; unfold bookStep; rw [if_pos h]
theorem booksI_new {l : List Ln} {i : Nat} {x : Ln} (hx : l[i]? = some x) (h : hasI (booksI l i).1 x.o = false) (b : Bool) (hb : decide (0 < owedV l x.o) = b) :
    booksI l (i + 1) = ((booksI l i).1 ++ [x.o], wrap64 ((booksI l i).2.1 + (linesOfV l x.o).length), wrap64 (wrap64 ((booksI l i).2.2.1 + sumLn l x.o 2) - sumLn l x.o 3), if b = true then wrap64 ((booksI l i).2.2.2 + 1) else (booksI l i).2.2.2) := by
  rw [booksI_next hx]; unfold bookStep; rw [if_neg (by rw [h]; exact Bool.false_ne_true), hb]; rfl
end Go.Proofs.YtapllnlclgbbkaaDoor

/- The walk through the law FnBooks, over any bytes: the law. -/
namespace Go.Proofs.YtapllnlclgbbkaaDoor
set_option maxRecDepth 10000
open Go.RowKit
set_option maxHeartbeats 1600000 in
theorem books_walk (A : Option Addr) (xs : List By) (c : Nat) (w : World) (hx : Rd w w.heap.size A xs) (hok : ∀ a ∈ xs, ByOk a) (_hc : xs.length ≤ c) (hm : c ≤ maxLen) :
    Calls Tryd.prog 4 #[.slice A xs.length c] w fun e w' => e = .returned (.bool true) ∧ Up w w' := by
  unfold maxLen at hm
  by_cases hn : xs.length ≤ 4096
  · have HB := Lib.hid (show decide (4096 < xs.length) = false by simp; omega)
    go_enter Tryd.func4, Tryd.ntmps4
    go_wp2_with fail
    refine (big_any A c _ w (by omega)).mono ?_
    rintro e w0 ⟨rfl, rfl⟩
    rw [HB.out]
    go_wp2_with fail
    refine (drawCashOf_any A xs c _ w rfl hx hok hn).mono ?_
    rintro e w1 ⟨v, rfl, ⟨ls, ho1, hll⟩, hu1⟩
    obtain ⟨A1, c1, rfl, hc1, _⟩ := ho1.form
    have HO1 := Lib.hid ho1
    clear ho1
    go_wp2
    go_loopw [4, 5, 6, 7, 8] (fun a b d f i wr => ∃ j g cp : Nat, j ≤ ls.length ∧ i = .int .i64 j ∧ a = .int .i64 (booksI ls j).2.1 ∧ b = .int .i64 (booksI ls j).2.2.1 ∧ d = .int .i64 (booksI ls j).2.2.2 ∧ f = .slice (some ⟨g, 0, none⟩) (booksI ls j).1.length cp ∧ Own wr w1.heap.size 3 (.slice (some ⟨g, 0, none⟩) (booksI ls j).1.length cp) (booksI ls j).1 ∧ Up w1 wr) (fun _ _ _ _ i _ => ls.length - (intOf i).toNat)
    case atStart => exact ⟨0, w1.heap.size, 0, by omega, rfl, rfl, rfl, rfl, rfl, Own.empty w1 _ _ 0 _ (Nat.le_refl _) (by unfold maxLen; omega) rfl, by (repeat (first | exact Up.rfl' _ | (refine Up.al _ ?_) | (refine Up.dr _ ?_) | (refine Up.dr1 ?_) | (refine Up.sc ?_ (by first | exact Nat.le_refl _ | (simp; done) | omega) _) | (refine Up.step (by assumption) ?_)))⟩
    case round =>
      obtain ⟨i, g3, c3', hi, rfl, rfl, rfl, rfl, rfl, ho, hb⟩ := hrel
      have hlen := booksI_len (l := ls) (by omega) hi
      by_cases hlt : i < ls.length
      · obtain ⟨x, hxl⟩ := get_of_lt hlt
        have hr := (HO1.out.up hb).rd
        obtain ⟨b, off, rfl, hbb, k0, k1, k2, k3⟩ := (hr.below (w := wr) (by (repeat (first | exact Up.rfl' _ | (refine Up.al _ ?_) | (refine Up.dr _ ?_) | (refine Up.dr1 ?_) | (refine Up.sc ?_ (by first | exact Nat.le_refl _ | (simp; done) | omega) _) | (refine Up.step (by assumption) ?_))))).ln hxl
        have hb8 : (ls.length : Int) ≤ 4001 := by omega
        cases h1 : hasI (booksI ls i).1 x.o with
        | true =>
          have S := Lib.hid (booksI_seen hxl h1)
          clear hxl
          go_wp2_with fail
          refine (has_any _ (booksI ls i).1 _ _ _ _ (ho.up (by (repeat (first | exact Up.rfl' _ | (refine Up.al _ ?_) | (refine Up.dr _ ?_) | (refine Up.dr1 ?_) | (refine Up.sc ?_ (by first | exact Nat.le_refl _ | (simp; done) | omega) _) | (refine Up.step (by assumption) ?_))))).rd rfl (by omega)).mono ?_
          rintro e w2 ⟨rfl, hb2⟩
          rw [h1]
          go_wp2
          exact ⟨⟨i + 1, g3, c3', by omega, by go_num, by rw [S.out], by rw [S.out], by rw [S.out], by rw [S.out], by rw [S.out]; exact ho.up hb2, Up.step hb2 hb⟩, by simp [intOf]; omega⟩
        | false =>
          have HO := Lib.hid ho
          clear ho
          cases h2 : decide (0 < owedV ls x.o) with
          | true =>
            have S := Lib.hid (booksI_new hxl h1 _ h2)
            clear hxl
            go_wp2_with fail
            refine (has_any _ (booksI ls i).1 _ _ _ _ (HO.out.up (by (repeat (first | exact Up.rfl' _ | (refine Up.al _ ?_) | (refine Up.dr _ ?_) | (refine Up.dr1 ?_) | (refine Up.sc ?_ (by first | exact Nat.le_refl _ | (simp; done) | omega) _) | (refine Up.step (by assumption) ?_))))).rd rfl (by omega)).mono ?_
            rintro e w2 ⟨rfl, hb2⟩
            rw [h1]
            go_wp2_with (at_builtin; go_must (refine wpList_append_rd el_int rfl (.tmp 29) (.tmp 31) rfl (base := w1.heap.size) (ys := (booksI ls i).1) (xs := [x.o]) (by rfl) (HO.out.up (by (repeat (first | exact Up.rfl' _ | (refine Up.al _ ?_) | (refine Up.dr _ ?_) | (refine Up.dr1 ?_) | (refine Up.sc ?_ (by first | exact Nat.le_refl _ | (simp; done) | omega) _) | (refine Up.step (by assumption) ?_))))) 1 (by rfl) rfl (Rd.oneAt _ _ x.o _ (by simp)) (by simp; omega) (by unfold maxLen; simp; omega) (Up.le (by (repeat (first | exact Up.rfl' _ | (refine Up.al _ ?_) | (refine Up.dr _ ?_) | (refine Up.dr1 ?_) | (refine Up.sc ?_ (by first | exact Nat.le_refl _ | (simp; done) | omega) _) | (refine Up.step (by assumption) ?_))))) ?_); intro v' w3 ho3 hg3 _ hu3; have hb3 : Up w1 w3 := hu3 w1 (Nat.le_refl _) (by (repeat (first | exact Up.rfl' _ | (refine Up.al _ ?_) | (refine Up.dr _ ?_) | (refine Up.dr1 ?_) | (refine Up.sc ?_ (by first | exact Nat.le_refl _ | (simp; done) | omega) _) | (refine Up.step (by assumption) ?_)))); have HO3 := Lib.hid ho3; clear ho3)
            refine (linesOf_impl _ ls _ c1 x.o _ (HO1.out.up hb3).rd rfl (by omega)).mono ?_
            rintro e w4 ⟨v4, rfl, ho4, hb4⟩
            obtain ⟨A4, c4, rfl, _, _⟩ := ho4.form
            have hu4 : Up w1 w4 := Up.step hb4 hb3
            go_wp2_with fail
            refine (sumOf_impl_n _ ls _ c1 x.o 2 _ (HO1.out.up hu4).rd rfl (by omega)).mono ?_
            rintro e w5 ⟨rfl, hb5⟩
            have hu5 : Up w1 w5 := Up.step hb5 hu4
            go_wp2_with fail
            refine (sumOf_impl_n _ ls _ c1 x.o 3 _ (HO1.out.up hu5).rd rfl (by omega)).mono ?_
            rintro e w6 ⟨rfl, hb6⟩
            have hu6 : Up w1 w6 := Up.step hb6 hu5
            go_wp2_with fail
            refine (owedFor_impl _ ls _ c1 x.o _ (HO1.out.up hu6).rd rfl hc1 (by omega)).mono ?_
            rintro e w7 ⟨rfl, hb7⟩
            have hu7 : Up w1 w7 := Up.step hb7 hu6
            go_wp2_with fail
            have ho7 := HO3.out.up (Up.step hb7 (Up.step hb6 (Up.step hb5 hb4)))
            have e1 : (booksI ls (i + 1)).1 = (booksI ls i).1 ++ [x.o] := by rw [S.out]
            rw [← e1] at ho7
            obtain ⟨g8, c8, hv8, _⟩ := World.ownsRow.form ho7 (by rw [e1]; simp)
            exact ⟨⟨i + 1, g8, c8, by omega, by go_num, by rw [S.out], by rw [S.out], by rw [S.out]; rfl, hv8, by rw [← hv8]; exact ho7, hu7⟩, by simp [intOf]; omega⟩
          | false =>
            have S := Lib.hid (booksI_new hxl h1 _ h2)
            clear hxl
            go_wp2_with fail
            refine (has_any _ (booksI ls i).1 _ _ _ _ (HO.out.up (by (repeat (first | exact Up.rfl' _ | (refine Up.al _ ?_) | (refine Up.dr _ ?_) | (refine Up.dr1 ?_) | (refine Up.sc ?_ (by first | exact Nat.le_refl _ | (simp; done) | omega) _) | (refine Up.step (by assumption) ?_))))).rd rfl (by omega)).mono ?_
            rintro e w2 ⟨rfl, hb2⟩
            rw [h1]
            go_wp2_with (at_builtin; go_must (refine wpList_append_rd el_int rfl (.tmp 29) (.tmp 31) rfl (base := w1.heap.size) (ys := (booksI ls i).1) (xs := [x.o]) (by rfl) (HO.out.up (by (repeat (first | exact Up.rfl' _ | (refine Up.al _ ?_) | (refine Up.dr _ ?_) | (refine Up.dr1 ?_) | (refine Up.sc ?_ (by first | exact Nat.le_refl _ | (simp; done) | omega) _) | (refine Up.step (by assumption) ?_))))) 1 (by rfl) rfl (Rd.oneAt _ _ x.o _ (by simp)) (by simp; omega) (by unfold maxLen; simp; omega) (Up.le (by (repeat (first | exact Up.rfl' _ | (refine Up.al _ ?_) | (refine Up.dr _ ?_) | (refine Up.dr1 ?_) | (refine Up.sc ?_ (by first | exact Nat.le_refl _ | (simp; done) | omega) _) | (refine Up.step (by assumption) ?_))))) ?_); intro v' w3 ho3 hg3 _ hu3; have hb3 : Up w1 w3 := hu3 w1 (Nat.le_refl _) (by (repeat (first | exact Up.rfl' _ | (refine Up.al _ ?_) | (refine Up.dr _ ?_) | (refine Up.dr1 ?_) | (refine Up.sc ?_ (by first | exact Nat.le_refl _ | (simp; done) | omega) _) | (refine Up.step (by assumption) ?_)))); have HO3 := Lib.hid ho3; clear ho3)
            refine (linesOf_impl _ ls _ c1 x.o _ (HO1.out.up hb3).rd rfl (by omega)).mono ?_
            rintro e w4 ⟨v4, rfl, ho4, hb4⟩
            obtain ⟨A4, c4, rfl, _, _⟩ := ho4.form
            have hu4 : Up w1 w4 := Up.step hb4 hb3
            go_wp2_with fail
            refine (sumOf_impl_n _ ls _ c1 x.o 2 _ (HO1.out.up hu4).rd rfl (by omega)).mono ?_
            rintro e w5 ⟨rfl, hb5⟩
            have hu5 : Up w1 w5 := Up.step hb5 hu4
            go_wp2_with fail
            refine (sumOf_impl_n _ ls _ c1 x.o 3 _ (HO1.out.up hu5).rd rfl (by omega)).mono ?_
            rintro e w6 ⟨rfl, hb6⟩
            have hu6 : Up w1 w6 := Up.step hb6 hu5
            go_wp2_with fail
            refine (owedFor_impl _ ls _ c1 x.o _ (HO1.out.up hu6).rd rfl hc1 (by omega)).mono ?_
            rintro e w7 ⟨rfl, hb7⟩
            have hu7 : Up w1 w7 := Up.step hb7 hu6
            go_wp2_with fail
            have ho7 := HO3.out.up (Up.step hb7 (Up.step hb6 (Up.step hb5 hb4)))
            have e1 : (booksI ls (i + 1)).1 = (booksI ls i).1 ++ [x.o] := by rw [S.out]
            rw [← e1] at ho7
            obtain ⟨g8, c8, hv8, _⟩ := World.ownsRow.form ho7 (by rw [e1]; simp)
            exact ⟨⟨i + 1, g8, c8, by omega, by go_num, by rw [S.out], by rw [S.out], by rw [S.out]; rfl, hv8, by rw [← hv8]; exact ho7, hu7⟩, by simp [intOf]; omega⟩
      · obtain rfl : i = ls.length := by omega
        obtain ⟨bl1, bl2⟩ := books_law (l := ls) (by omega)
        have hx1 := HO1.out.up hb
        have hu1' := Up.step hb hu1
        rw [bl1]
        go_wp2_with fail
        refine (areLines_spec_n _ ls _ c1 _ hx1.rd rfl hc1 (by omega)).mono ?_
        rintro e w2 ⟨rfl, hb2⟩
        have hx2 := hx1.up hb2
        have hu2 := Up.step hb2 hu1'
        cases hL : linesB ls with
        | false =>
          have hov : openV ls = [] := by unfold openV; rw [hL]; rfl
          go_wp2_with fail
          refine (cashOf_impl _ ls _ c1 _ hx2.rd rfl hc1 (by omega)).mono ?_
          rintro e w3 ⟨rfl, hb3⟩
          rw [cashV_no hL]
          have hx3 := hx2.up hb3
          go_wp2_with fail
          refine (openOrders_books _ ls _ c1 _ hx3.rd rfl hc1 (by omega)).mono ?_
          rintro e w4 ⟨v4, rfl, ho4, hb4⟩
          rw [hov] at ho4
          obtain ⟨A4, c4, rfl, _, _⟩ := ho4.form
          have hx4 := hx3.up hb4
          go_wp2_with fail
          refine (statement_no _ ls _ c1 1 _ hx4.rd rfl hc1 (by omega) hL).mono ?_
          rintro e w5 ⟨rfl, hb5⟩
          go_wp2_with fail
          go_ret
          exact ⟨rfl, Up.step hb5 (Up.step hb4 (Up.step hb3 hu2))⟩
        | true =>
          obtain ⟨b1, b2, b3⟩ := bl2 hL
          rw [b1] at b2
          rw [b1, b3]
          have hol := openV_len ls
          go_wp2_with fail
          refine (cashOf_impl _ ls _ c1 _ hx2.rd rfl hc1 (by omega)).mono ?_
          rintro e w3 ⟨rfl, hb3⟩
          have hx3 := hx2.up hb3
          go_wp2_with fail
          refine (openOrders_books _ ls _ c1 _ hx3.rd rfl hc1 (by omega)).mono ?_
          rintro e w4 ⟨v4, rfl, ho4, hb4⟩
          obtain ⟨A4, c4, rfl, _, _⟩ := ho4.form
          go_wp2_with fail
          go_ret
          exact ⟨by simp, Up.step hb4 (Up.step hb3 hu2)⟩
  · have HB := Lib.hid (show decide (4096 < xs.length) = true by simp; omega)
    go_enter Tryd.func4, Tryd.ntmps4
    go_wp2_with fail
    refine (big_any A c _ w (by omega)).mono ?_
    rintro e w0 ⟨rfl, rfl⟩
    rw [HB.out]
    go_wp2
    go_ret
    exact ⟨rfl, by (repeat (first | exact Up.rfl' _ | (refine Up.al _ ?_) | (refine Up.dr _ ?_) | (refine Up.dr1 ?_) | (refine Up.sc ?_ (by first | exact Nat.le_refl _ | (simp; done) | omega) _) | (refine Up.step (by assumption) ?_)))⟩
end Go.Proofs.YtapllnlclgbbkaaDoor

/- Small lemmas of my own on the reading of a law's arguments: what can be read as_ data is a list of values of a codec. No program in sight. -/
namespace Go.Proofs.YtapllnlclgbbkaaDoor
set_option maxRecDepth 10000
open Go.ChangeShapes Go.WideShapes Go.ChangeAt Go.RowKit Go.Deep

section
variable {H : Type} {enc : TypeId × Value → H} {P : Program} {w : World} {base : Nat} {spare : Nat → Bool} {held : Bool}

/-- What a type's cells that can be read as_ data are: the cells of some value of the codec, which is in order. -/
def Decodes (P : Program) (t : TypeId) {α : Type} [Enc α] (ok : α → Prop) : Prop :=
  ∀ {H : Type} {enc : TypeId × Value → H} {w : World} {base : Nat} {spare : Nat → Bool} {held : Bool} {fuel : Nat} {cs : List Value} {x : DataW H × List MemPlace},
    DataW.trod enc P w base spare held fuel t cs = some x → ∃ a : α, cs = Enc.cells a ∧ ok a

theorem field_of {t : TypeId} {fs : Array Field} {fuel : Nat} {cs : List Value} {x : DataW H × List MemPlace} (ht : P.underlying t = some (.struct fs))
    (h : DataW.trod enc P w base spare held fuel t cs = some x) (j : Nat) (f : Field) (hf : fs[j]? = some f) :
    ∃ y n, DataW.trod enc P w base spare held n f.type ((cs.drop f.offset).take (P.cellsOf f.type)) = some y := by
  obtain ⟨xs, n, _, _, _, hlen, hg⟩ := DataW.trod_struct ht h
  have hj : j < xs.length := by rw [hlen]; exact (Array.getElem?_eq_some_iff.1 hf).1
  exact ⟨xs[j], n, (hg j f hf).trans (List.getElem?_eq_getElem hj)⟩
theorem len_of {t : TypeId} {fs : Array Field} {fuel : Nat} {cs : List Value} {x : DataW H × List MemPlace} (ht : P.underlying t = some (.struct fs))
    (h : DataW.trod enc P w base spare held fuel t cs = some x) : cs.length = P.cellsOf t := by
  obtain ⟨xs, n, _, _, hl, _, _⟩ := DataW.trod_struct ht h
  exact hl
theorem inI_of_wf {n : Int} (h : (Lit.int .i64 n).wf = true) : InI n := by
  simp [Lit.wf, IntKind.min, IntKind.max, IntKind.signed, IntKind.bits] at h
  exact ⟨by omega, by omega⟩
theorem int_of {t : TypeId} {fuel : Nat} {cs : List Value} {x : DataW H × List MemPlace} (ht : P.underlying t = some (.int .i64)) (h : DataW.trod enc P w base spare held fuel t cs = some x) : ∃ n, cs = [I n] ∧ InI n := by
  obtain ⟨n, e, _, hw⟩ := DataW.trod_int ht h
  exact ⟨n, e, inI_of_wf hw⟩
theorem str_of {t : TypeId} {fuel : Nat} {cs : List Value} {x : DataW H × List MemPlace} (ht : P.underlying t = some .string) (h : DataW.trod enc P w base spare held fuel t cs = some x) : ∃ s, cs = [.string s] ∧ s.size ≤ maxLen := by
  obtain ⟨s, e, _, hw⟩ := DataW.trod_string ht h
  exact ⟨s, e, hw⟩

theorem add_add' (a : Addr) (i j : Nat) : (a.add i).add j = a.add (i + j) := by
  unfold Addr.add
  by_cases hi : i = 0 <;> by_cases hj : j = 0 <;> simp [hi, hj, Nat.add_assoc]

/-- A slice that can be read as_ data reads as_ a list of values of the codec. -/
theorem open_flat {α : Type} [Enc α] {ok : α → Prop} {t e : TypeId} {fuel : Nat} {A : Option Addr} {n c : Nat} {x : DataW H × List MemPlace} (ht : P.underlying t = some (.slice e)) (hC : P.cellsOf e = Enc.k α)
    (hdec : Decodes P e ok) (h : DataW.trod enc P w base spare held fuel t [.slice A n c] = some x) :
    ∃ xs : List α, n = xs.length ∧ Rd w w.heap.size A xs ∧ (∀ a ∈ xs, ok a) ∧ n ≤ c ∧ c ≤ maxLen := by
  rcases open_slice ht h with ⟨hcs, _⟩ | ⟨a, len, cap, m, k, D, Pl, hcs, _, hl, hm, hmm, _, hi⟩
  · simp at hcs
    obtain ⟨rfl, rfl, rfl⟩ := hcs
    exact ⟨[], rfl, Rd.nil_, by simp, by omega, by unfold maxLen; omega⟩
  · simp at hcs
    obtain ⟨rfl, rfl, rfl⟩ := hcs
    have hnm : n ≤ m := by rw [hmm]; split <;> omega
    have hex : ∀ i : _root_.Fin n, ∃ a' : α, ok a' ∧ ∀ j u, (Enc.cells a')[j]? = some u → w.cell? (a.add (i * Enc.k α + j)) = some u := by
      intro i
      obtain ⟨cs', hc, htr⟩ := hi i (by omega)
      obtain ⟨a', rfl, hok⟩ := hdec htr
      rw [hC] at hc
      obtain ⟨_, hcl, hat⟩ := World.cells?_some hc
      refine ⟨a', hok, fun j u hu => ?_⟩
      have hj : j < Enc.k α := by rw [← Enc.len a']; exact (List.getElem?_eq_some_iff.1 hu).1
      have := hat j hj
      rw [add_add'] at this
      rw [this, hu]
    obtain ⟨f, hf⟩ := Classical.axiomOfChoice hex
    refine ⟨List.ofFn f, by simp, ?_, ?_, hl, hm⟩
    · intro hne
      have hpos : 0 < n := by
        rcases Nat.eq_zero_or_pos n with h0 | h0
        · subst h0; simp at hne
        · exact h0
      have hk := Enc.pos (α := α)
      have hc0 : (Enc.cells (f ⟨0, hpos⟩))[0]? = some ((Enc.cells (f ⟨0, hpos⟩))[0]'(by rw [Enc.len]; exact hk)) := List.getElem?_eq_getElem _
      have h0 := (hf ⟨0, hpos⟩).2 0 _ hc0
      have hs := World.cell?_spot h0
      have hb := World.block_lt_of_cell? _ _ h0
      obtain ⟨b, off, spot⟩ := a
      have hadd : ∀ q, (⟨b, off, none⟩ : Addr).add q = ⟨b, off + q, none⟩ := fun q => by unfold Addr.add; split <;> simp_all
      have hspot : spot = none := by simpa [Addr.add] using hs
      subst hspot
      rw [hadd] at hb
      refine ⟨b, off, rfl, hb, fun j u hu => ?_⟩
      have hjl : j < (flat (List.ofFn f)).length := (List.getElem?_eq_some_iff.1 hu).1
      rw [flat_len] at hjl
      simp only [List.length_ofFn] at hjl
      have hq : j / Enc.k α < n := by rw [Nat.div_lt_iff_lt_mul hk]; exact hjl
      have hr := Nat.mod_lt j hk
      have hx : (List.ofFn f)[j / Enc.k α]? = some (f ⟨j / Enc.k α, hq⟩) := by simp [hq]
      have hcr : (Enc.cells (f ⟨j / Enc.k α, hq⟩))[j % Enc.k α]? = some ((Enc.cells (f ⟨j / Enc.k α, hq⟩))[j % Enc.k α]'(by rw [Enc.len]; exact hr)) := List.getElem?_eq_getElem _
      have hfl := flat_at hx hcr
      have hjj : j / Enc.k α * Enc.k α + j % Enc.k α = j := by rw [Nat.mul_comm]; exact Nat.div_add_mod _ _
      rw [hjj] at hfl
      rw [hfl] at hu
      obtain rfl := Option.some.inj hu
      have := (hf ⟨j / Enc.k α, hq⟩).2 _ _ hcr
      simp only [hjj, hadd] at this
      exact this
    · intro a' ha'
      obtain ⟨i, rfl⟩ := List.mem_ofFn.1 ha'
      exact (hf i).1
end
end Go.Proofs.YtapllnlclgbbkaaDoor

/- What the types of this seat's parameters decode to. -/
namespace Go.Proofs.YtapllnlclgbbkaaDoor
set_option maxRecDepth 10000
open Go.ChangeShapes Go.WideShapes Go.ChangeAt Go.RowKit Go.Deep
theorem dec_int : Decodes Tryd.prog 3 InI := by
  intro H enc w base spare held fuel cs x h
  exact int_of Tryd.underlying3 h
theorem cells_int : Tryd.prog.cellsOf 3 = 1 := by kernel_rfl
theorem cells_line : Tryd.prog.cellsOf 44 = 4 := by kernel_rfl
theorem dec_line : Decodes Tryd.prog 44 LnOk := by
  intro H enc w base spare held fuel cs x h
  have hl := (len_of Tryd.underlying44 h).trans cells_line
  match cs, hl with
  | [c0, c1, c2, c3], _ =>
    obtain ⟨y0, n0, h0⟩ := field_of Tryd.underlying44 h 0 _ rfl
    obtain ⟨y1, n1, h1⟩ := field_of Tryd.underlying44 h 1 _ rfl
    obtain ⟨y2, n2, h2⟩ := field_of Tryd.underlying44 h 2 _ rfl
    obtain ⟨y3, n3, h3⟩ := field_of Tryd.underlying44 h 3 _ rfl
    obtain ⟨a0, e0, w0⟩ := int_of Tryd.underlying3 h0
    obtain ⟨a1, e1, w1⟩ := int_of Tryd.underlying3 h1
    obtain ⟨a2, e2, w2⟩ := int_of Tryd.underlying3 h2
    obtain ⟨a3, e3, w3⟩ := int_of Tryd.underlying3 h3
    simp [cells_int] at e0 e1 e2 e3
    subst e0 e1 e2 e3
    exact ⟨⟨a0, a1, a2, a3⟩, rfl, w0, w1, w2, w3⟩
end Go.Proofs.YtapllnlclgbbkaaDoor

/- What a byte decodes to. -/
namespace Go.Proofs.YtapllnlclgbbkaaDoor
set_option maxRecDepth 10000
open Go.ChangeShapes Go.WideShapes Go.ChangeAt Go.RowKit Go.Deep
theorem byOk_of_wf {n : Int} (h : (Lit.int .u8 n).wf = true) : ByOk ⟨n⟩ := by
  simp [Lit.wf, IntKind.min, IntKind.max, IntKind.signed, IntKind.bits] at h
  exact ⟨by show 0 ≤ n; omega, by show n ≤ 255; omega⟩
theorem cells_byte : Tryd.prog.cellsOf 5 = 1 := by kernel_rfl
theorem dec_byte : Decodes Tryd.prog 5 ByOk := by
  intro H enc w base spare held fuel cs x h
  obtain ⟨n, e, _, hw⟩ := DataW.trod_int Tryd.underlying5 h
  exact ⟨⟨n⟩, e, byOk_of_wf hw⟩
end Go.Proofs.YtapllnlclgbbkaaDoor
