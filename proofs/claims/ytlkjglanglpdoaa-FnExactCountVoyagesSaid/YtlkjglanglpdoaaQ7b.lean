/-
  Texts of a proof, laid together by a program of mine: L7p.
-/
import Derived.Test.YtlkjglanglpdoaaRows
import Derived.JoinedOf
namespace Go.Proofs.Ytlkjglanglpdoaa.fnExactCountVoyages
theorem named : Try.pinned.checked.prog.funcNamed Rows.fnExactCountVoyagesRow.func = some 7 := by kernel_rfl
end Go.Proofs.Ytlkjglanglpdoaa.fnExactCountVoyages
