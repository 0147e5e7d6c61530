/- What the types of this seat's parameters decode to. -/
import Derived.Test.YtapllnlclgbbkaaChecked
import Derived.Test.YtapllnlclgbbkaaOpen
import Derived.Test.YtapllnlclgbbkaaMon
import Derived.Lib.SmallJoins
namespace Go.Proofs.Ytapllnlclgbbkaa
set_option maxRecDepth 10000
open Go.ChangeShapes Go.WideShapes Go.ChangeAt Go.RowKit Go.Deep
theorem dec_int : Decodes Try.prog 3 InI := by
  intro H enc w base spare held fuel cs x h
  exact int_of Try.underlying3 h
theorem cells_int : Try.prog.cellsOf 3 = 1 := by kernel_rfl
theorem cells_line : Try.prog.cellsOf 23 = 4 := by kernel_rfl
theorem dec_line : Decodes Try.prog 23 LnOk := by
  intro H enc w base spare held fuel cs x h
  have hl := (len_of Try.underlying23 h).trans cells_line
  match cs, hl with
  | [c0, c1, c2, c3], _ =>
    obtain ⟨y0, n0, h0⟩ := field_of Try.underlying23 h 0 _ rfl
    obtain ⟨y1, n1, h1⟩ := field_of Try.underlying23 h 1 _ rfl
    obtain ⟨y2, n2, h2⟩ := field_of Try.underlying23 h 2 _ rfl
    obtain ⟨y3, n3, h3⟩ := field_of Try.underlying23 h 3 _ rfl
    obtain ⟨a0, e0, w0⟩ := int_of Try.underlying3 h0
    obtain ⟨a1, e1, w1⟩ := int_of Try.underlying3 h1
    obtain ⟨a2, e2, w2⟩ := int_of Try.underlying3 h2
    obtain ⟨a3, e3, w3⟩ := int_of Try.underlying3 h3
    simp [cells_int] at e0 e1 e2 e3
    subst e0 e1 e2 e3
    exact ⟨⟨a0, a1, a2, a3⟩, rfl, w0, w1, w2, w3⟩
end Go.Proofs.Ytapllnlclgbbkaa
