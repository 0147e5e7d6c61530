/- A part of the proof of the statement in the last file of this claim: texts on the language of the program and on its functions. No condition. -/
import Derived.Test.YtgdcengoopjplaaDoorCStatement5
import Derived.Test.YtgdcengoopjplaaDoorCStatement3
namespace Go.Proofs.YtgdcengoopjplaaDoor
set_option maxRecDepth 10000
open Go.RowKit
set_option linter.unusedVariables false
set_option linter.unusedSimpArgs false
theorem lawFnExactStatement (l : List YLine) (o : Int) (ok : okS okLine l) : CallOk Tryd.prog 3 [.sl (l.map cLine), vi o] (vb true) [] := by
  refine ok_laws_FnExactStatement l o ?_
  unfold m_laws_FnExactStatement
  have hz := sz_LineS l (left := 1048576) (by omega) (by omega) ok.1
  by_cases h : szTo 1048576 l.length < 0
  · rw [hz, Option.bind_some, decide_eq_true h]; rfl
  · obtain ⟨h1, _⟩ := szTo_nn h (by omega)
    have hlen : l.length ≤ 1048576 := by omega
    obtain ⟨b, b1, b2⟩ := stmt_both hlen o
    have hc := cpy_LineS l hlen fun x _ => cpy_Line x
    have he := eqr_LineS l hlen fun x _ => eqr_Line x
    simp only [hz, hc, b1, b2, he, Option.bind_some, decide_eq_false h, cond_false, Bool.not_true, decide_true]
end Go.Proofs.YtgdcengoopjplaaDoor
