/-
  Texts of a proof, laid together by a program of mine: L4q.
-/
import Derived.Test.YtlkjglanglpdoaaRows
import Derived.JoinedOf
namespace Go.Proofs.Ytlkjglanglpdoaa.fnExactCountPlacesReached
theorem joined : joinedFacts Try.pinned.checked.prog 4 Try.f4 Rows.fnExactCountPlacesReachedSpec Rows.fnExactCountPlacesReachedRow = true := by kernel_rfl
end Go.Proofs.Ytlkjglanglpdoaa.fnExactCountPlacesReached
