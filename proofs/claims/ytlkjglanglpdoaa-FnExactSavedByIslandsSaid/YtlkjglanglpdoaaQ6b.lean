/-
  Texts of a proof, laid together by a program of mine: L6p.
-/
import Derived.Test.YtlkjglanglpdoaaRows
import Derived.JoinedOf
namespace Go.Proofs.Ytlkjglanglpdoaa.fnExactSavedByIslands
theorem named : Try.pinned.checked.prog.funcNamed Rows.fnExactSavedByIslandsRow.func = some 6 := by kernel_rfl
end Go.Proofs.Ytlkjglanglpdoaa.fnExactSavedByIslands
