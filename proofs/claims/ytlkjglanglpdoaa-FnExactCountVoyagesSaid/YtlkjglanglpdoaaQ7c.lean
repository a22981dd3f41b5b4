/-
  Texts of a proof, laid together by a program of mine: L7q.
-/
import Derived.Test.YtlkjglanglpdoaaRows
import Derived.JoinedOf
namespace Go.Proofs.Ytlkjglanglpdoaa.fnExactCountVoyages
theorem joined : joinedFacts Try.pinned.checked.prog 7 Try.f7 Rows.fnExactCountVoyagesSpec Rows.fnExactCountVoyagesRow = true := by kernel_rfl
end Go.Proofs.Ytlkjglanglpdoaa.fnExactCountVoyages
