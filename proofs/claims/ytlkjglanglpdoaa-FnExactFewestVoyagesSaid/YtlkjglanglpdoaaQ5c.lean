/-
  Texts of a proof, laid together by a program of mine: L5q.
-/
import Derived.Test.YtlkjglanglpdoaaRows
import Derived.JoinedOf
namespace Go.Proofs.Ytlkjglanglpdoaa.fnExactFewestVoyages
theorem joined : joinedFacts Try.pinned.checked.prog 5 Try.f5 Rows.fnExactFewestVoyagesSpec Rows.fnExactFewestVoyagesRow = true := by kernel_rfl
end Go.Proofs.Ytlkjglanglpdoaa.fnExactFewestVoyages
