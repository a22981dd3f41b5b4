/-
  Texts of a proof, laid together by a program of mine: L5p.
-/
import Derived.Test.YtlkjglanglpdoaaRows
import Derived.JoinedOf
namespace Go.Proofs.Ytlkjglanglpdoaa.fnExactFewestVoyages
theorem named : Try.pinned.checked.prog.funcNamed Rows.fnExactFewestVoyagesRow.func = some 5 := by kernel_rfl
end Go.Proofs.Ytlkjglanglpdoaa.fnExactFewestVoyages
