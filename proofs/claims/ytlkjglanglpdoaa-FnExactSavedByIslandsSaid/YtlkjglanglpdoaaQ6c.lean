/-
  Texts of a proof, laid together by a program of mine: L6q.
-/
import Derived.Test.YtlkjglanglpdoaaRows
import Derived.JoinedOf
namespace Go.Proofs.Ytlkjglanglpdoaa.fnExactSavedByIslands
theorem joined : joinedFacts Try.pinned.checked.prog 6 Try.f6 Rows.fnExactSavedByIslandsSpec Rows.fnExactSavedByIslandsRow = true := by kernel_rfl
end Go.Proofs.Ytlkjglanglpdoaa.fnExactSavedByIslands
