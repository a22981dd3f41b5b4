/-
  Texts of a proof, laid together by a program of mine: L4p.
-/
import Derived.Test.YtlkjglanglpdoaaRows
import Derived.JoinedOf
namespace Go.Proofs.Ytlkjglanglpdoaa.fnExactCountPlacesReached
theorem named : Try.pinned.checked.prog.funcNamed Rows.fnExactCountPlacesReachedRow.func = some 4 := by kernel_rfl
end Go.Proofs.Ytlkjglanglpdoaa.fnExactCountPlacesReached
