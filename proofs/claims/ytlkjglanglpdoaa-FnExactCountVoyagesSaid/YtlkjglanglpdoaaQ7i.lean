/-
  For all arguments, the program's CountVoyages and the reference's return the same number and the same Boolean (FnExactCountVoyages returns true, and its arguments read afterwards as before). No condition.
-/
import Derived.Lib.SliceRun
import Derived.BigRegion
import Derived.Laws.CopyOwn
import Derived.Laws.BitsAllLaws
import Derived.Laws.IdiomCopy
import Derived.Maps.OwnSet
import Derived.Laws.EntriesVeiled
import Derived.Test.YtlkjglanglpdoaaRows
import Derived.WalkKit
import Derived.ProofKit
import Derived.OpenShut
import Derived.ChangeOld
import Derived.Below
import Derived.SizedLaws
import Derived.Lib.SmallJoins
import Derived.JoinedOf
import Derived.Test.YtlkjglanglpdoaaProg
import Derived.Deep.Draws
import Derived.Deep.AppendLies
import Derived.Maps.AppendAt
import Derived.OwnWalk
import Derived.Laws.BytesArg
import Derived.Laws.MakeOwn
import Derived.Laws.OwnMore
import Derived.Deep.OwnRows
import Derived.Tactics
import Derived.Lib.ConvBytes
import Derived.Laws.Slices
import Derived.KernelRfl
import Derived.RowKit3
import Derived.Deep.LoopGhost
import Derived.Deep.QuietTactic
import Derived.BigQuiet
import Derived.WideLaws
import Derived.Deep.DeepCutAuto
import Derived.Deep.CutBlock
import Derived.Deep.RegionHeld3
import Derived.Laws.Rows
import Derived.Lib.AppendStr
import Derived.ArgAppend
import Derived.OrdersHeld
import Derived.Laws.BitsLemmas
import Derived.RowKit
import Derived.Laws.StructEq
import Derived.Test.YtlkjglanglpdoaaQ7a
import Derived.Test.YtlkjglanglpdoaaQ7b
import Derived.Test.YtlkjglanglpdoaaQ7c
import Derived.Test.YtlkjglanglpdoaaQ7d
import Derived.Test.YtlkjglanglpdoaaQ7e
import Derived.Test.YtlkjglanglpdoaaQ7f
import Derived.Test.YtlkjglanglpdoaaQ7g
import Derived.Test.YtlkjglanglpdoaaQ7h
namespace Go.Proofs.Ytlkjglanglpdoaa.fnExactCountVoyages
open Go.ChangeShapes Go.WideShapes Go.ChangeAt Go.RowKit
theorem over (hB : T.Both7) : Rows.fnExactCountVoyagesRow.holds Try.pinned (OpenSpec.ofChange Rows.fnExactCountVoyagesSpec) :=
  OpenClaim.holds_of_wide 7 Try.f7 rfl rfl rfl rfl rfl rfl rfl ⟨rfl, rfl, rfl, rfl, rfl⟩ rfl rfl rfl rfl rfl named Try.func7 joined
    (of_decide_eq_true (by kernel_rfl)) (by unfold Func.isWrapper; first | (rw [if_pos (by decide +kernel)]; kernel_rfl) | (rw [if_neg (by decide +kernel)]; exact ⟨rfl, rfl⟩))
    (fun os started H enc _ => lifted hB os started H enc)
theorem proved : Rows.FnExactCountVoyagesSaid := over T.both7
end Go.Proofs.Ytlkjglanglpdoaa.fnExactCountVoyages
