/-
  For all arguments, the program's SavedByIslands and the reference's return the same number and the same Boolean (FnExactSavedByIslands returns true, and its arguments read afterwards as before). No condition.
-/
import Derived.Lib.SliceRun
import Derived.BigRegion
import Derived.Laws.CopyOwn
import Derived.Laws.BitsAllLaws
import Derived.Laws.EntriesVeiled
import Derived.Test.YtlkjglanglpdoaaRows
import Derived.WalkKit
import Derived.ProofKit
import Derived.OpenShut
import Derived.ChangeOld
import Derived.Below
import Derived.SizedLaws
import Derived.Lib.SmallJoins
import Derived.JoinedOf
import Derived.Test.YtlkjglanglpdoaaProg
import Derived.Deep.Draws
import Derived.Deep.AppendLies
import Derived.Maps.AppendAt
import Derived.OwnWalk
import Derived.Laws.BytesArg
import Derived.Laws.MakeOwn
import Derived.Laws.OwnMore
import Derived.Deep.OwnRows
import Derived.Tactics
import Derived.Lib.ConvBytes
import Derived.Laws.Slices
import Derived.KernelRfl
import Derived.RowKit3
import Derived.Deep.LoopGhost
import Derived.Deep.QuietTactic
import Derived.BigQuiet
import Derived.WideLaws
import Derived.Deep.DeepCutAuto
import Derived.Deep.CutBlock
import Derived.Deep.RegionHeld3
import Derived.Laws.Rows
import Derived.Lib.AppendStr
import Derived.ArgAppend
import Derived.Laws.IdiomCopy
import Derived.OrdersHeld
import Derived.Laws.BitsLemmas
import Derived.RowKit
import Derived.Laws.StructEq
import Derived.Test.YtlkjglanglpdoaaQ6a
import Derived.Test.YtlkjglanglpdoaaQ6b
import Derived.Test.YtlkjglanglpdoaaQ6c
import Derived.Test.YtlkjglanglpdoaaQ6d
import Derived.Test.YtlkjglanglpdoaaQ6e
import Derived.Test.YtlkjglanglpdoaaQ6f
import Derived.Test.YtlkjglanglpdoaaQ6g
import Derived.Test.YtlkjglanglpdoaaQ6h
namespace Go.Proofs.Ytlkjglanglpdoaa.fnExactSavedByIslands
open Go.ChangeShapes Go.WideShapes Go.ChangeAt Go.RowKit
theorem over (hB : T.Both6) : Rows.fnExactSavedByIslandsRow.holds Try.pinned (OpenSpec.ofChange Rows.fnExactSavedByIslandsSpec) :=
  OpenClaim.holds_of_wide 6 Try.f6 rfl rfl rfl rfl rfl rfl rfl ⟨rfl, rfl, rfl, rfl, rfl⟩ rfl rfl rfl rfl rfl named Try.func6 joined
    (of_decide_eq_true (by kernel_rfl)) (by unfold Func.isWrapper; first | (rw [if_pos (by decide +kernel)]; kernel_rfl) | (rw [if_neg (by decide +kernel)]; exact ⟨rfl, rfl⟩))
    (fun os started H enc _ => lifted hB os started H enc)
theorem proved : Rows.FnExactSavedByIslandsSaid := over T.both6
end Go.Proofs.Ytlkjglanglpdoaa.fnExactSavedByIslands
