/- What a byte decodes to. -/
import Derived.Test.YtapllnlclgbbkaaChecked
import Derived.Test.YtapllnlclgbbkaaOpen
import Derived.Test.YtapllnlclgbbkaaG1
import Derived.Lib.SmallJoins
namespace Go.Proofs.Ytapllnlclgbbkaa
set_option maxRecDepth 10000
open Go.ChangeShapes Go.WideShapes Go.ChangeAt Go.RowKit Go.Deep
theorem byOk_of_wf {n : Int} (h : (Lit.int .u8 n).wf = true) : ByOk ⟨n⟩ := by
  simp [Lit.wf, IntKind.min, IntKind.max, IntKind.signed, IntKind.bits] at h
  exact ⟨by show 0 ≤ n; omega, by show n ≤ 255; omega⟩
theorem cells_byte : Try.prog.cellsOf 5 = 1 := by kernel_rfl
theorem dec_byte : Decodes Try.prog 5 ByOk := by
  intro H enc w base spare held fuel cs x h
  obtain ⟨n, e, _, hw⟩ := DataW.trod_int Try.underlying5 h
  exact ⟨⟨n⟩, e, byOk_of_wf hw⟩
end Go.Proofs.Ytapllnlclgbbkaa
