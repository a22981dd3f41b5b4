/-
  No cell of these rows narrows 'for every input' (looked for: loops, veiled, ifaces, maps, wideKeys, modest, calm, conditions, laid).
  DERIVED. THE GIVEN ROWS OF THIS SEAT. 11 by the template 'for every input the law returns true; each argument reads behind the call as it read before'; 0 by the template 'total and deterministic' (their statements: YtlkjglanglpdoaaTotals.lean).
  GIVEN WITH THE SEED: the statements are not yours to turn. If you find one false, say at which input.
  Laid BY PROGRAM, IN A SANDBOX (cutbox-rows.mjs): the forced cells as the released guide's own fill.sh prints them over the translation 4e538a0782d192ea… (all of the seat's roots in one cut). By AI agents, Wed Nov 11 2026. No macro, syntax, notation, axiom, sorry.
-/
import Derived.Test.YtlkjglanglpdoaaChecked
import GoSem.Claim
import GoSem.ClaimJoined
import GoSem.ClaimMapViews
import Derived.JoinedTies
import Derived.KernelRfl
namespace Go.Proofs.Ytlkjglanglpdoaa
/- THE CELL 'sum', in the pinned program and in every row, IS THE sha256 OF THE DUMP (.gsa) THAT YtlkjglanglpdoaaProg.lean LOADS. Nothing in Lean hashes anything: it is a label: what it is worth is what the hold of that sum in a sandbox is worth. -/
noncomputable def Try.pinned : Pinned := { name := "ytlkjglanglpdoaa", sum := "4e538a0782d192ea8cb31df7917687b611ff60f39eee151deecb5bf517a958e7", checked := Try.checked }
namespace Rows
def none {H : Type} : Left H := { results := [], args := [] }

/-- 'laws.FnGuardsOver': WHATEVER THE INPUT: true; the input reads as it did. -/
def fnGuardsOverSpec : ChangeSpec := { name := "fnGuardsOver", fn := fun _ => fun
  | [d1, d2] => { results := [.lit (.bool true)], args := [d1, d2] }
  | _ => none }
def fnGuardsOverRow : OpenClaim := { program := "ytlkjglanglpdoaa", sum := "4e538a0782d192ea8cb31df7917687b611ff60f39eee151deecb5bf517a958e7", func := "loop.example/g01272/laws.FnGuardsOver", spec := "fnGuardsOver", unfollowed := true, recurses := true, apart := false }
def FnGuardsOverSaid : Prop := fnGuardsOverRow.holds Try.pinned (OpenSpec.ofChange fnGuardsOverSpec)

/-- ITS FALSE NEIGHBOUR: 'it returns false'. Refute it at one input. -/
def fnGuardsOverWrong : ChangeSpec := { name := "fnGuardsOver", fn := fun _ => fun
  | [d1, d2] => { results := [.lit (.bool false)], args := [d1, d2] }
  | _ => none }
def FnGuardsOverWrongFalsely : Prop := fnGuardsOverRow.holds Try.pinned (OpenSpec.ofChange fnGuardsOverWrong)

/-- 'laws.FnExactCountPlacesReached': WHATEVER THE INPUT: true; the input reads as it did. -/
def fnExactCountPlacesReachedSpec : ChangeSpec := { name := "fnExactCountPlacesReached", fn := fun _ => fun
  | [d] => { results := [.lit (.bool true)], args := [d] }
  | _ => none }
def fnExactCountPlacesReachedRow : OpenClaim := { program := "ytlkjglanglpdoaa", sum := "4e538a0782d192ea8cb31df7917687b611ff60f39eee151deecb5bf517a958e7", func := "loop.example/g01272/laws.FnExactCountPlacesReached", spec := "fnExactCountPlacesReached", unfollowed := true, recurses := true, apart := false }
def FnExactCountPlacesReachedSaid : Prop := fnExactCountPlacesReachedRow.holds Try.pinned (OpenSpec.ofChange fnExactCountPlacesReachedSpec)

/-- ITS FALSE NEIGHBOUR: 'it returns false'. Refute it at one input. -/
def fnExactCountPlacesReachedWrong : ChangeSpec := { name := "fnExactCountPlacesReached", fn := fun _ => fun
  | [d] => { results := [.lit (.bool false)], args := [d] }
  | _ => none }
def FnExactCountPlacesReachedWrongFalsely : Prop := fnExactCountPlacesReachedRow.holds Try.pinned (OpenSpec.ofChange fnExactCountPlacesReachedWrong)

/-- 'laws.FnExactFewestVoyages': WHATEVER THE INPUT: true; the input reads as it did. -/
def fnExactFewestVoyagesSpec : ChangeSpec := { name := "fnExactFewestVoyages", fn := fun _ => fun
  | [d] => { results := [.lit (.bool true)], args := [d] }
  | _ => none }
def fnExactFewestVoyagesRow : OpenClaim := { program := "ytlkjglanglpdoaa", sum := "4e538a0782d192ea8cb31df7917687b611ff60f39eee151deecb5bf517a958e7", func := "loop.example/g01272/laws.FnExactFewestVoyages", spec := "fnExactFewestVoyages", unfollowed := true, recurses := true, apart := false }
def FnExactFewestVoyagesSaid : Prop := fnExactFewestVoyagesRow.holds Try.pinned (OpenSpec.ofChange fnExactFewestVoyagesSpec)

/-- ITS FALSE NEIGHBOUR: 'it returns false'. Refute it at one input. -/
def fnExactFewestVoyagesWrong : ChangeSpec := { name := "fnExactFewestVoyages", fn := fun _ => fun
  | [d] => { results := [.lit (.bool false)], args := [d] }
  | _ => none }
def FnExactFewestVoyagesWrongFalsely : Prop := fnExactFewestVoyagesRow.holds Try.pinned (OpenSpec.ofChange fnExactFewestVoyagesWrong)

/-- 'laws.FnExactSavedByIslands': WHATEVER THE INPUT: true; the input reads as it did. -/
def fnExactSavedByIslandsSpec : ChangeSpec := { name := "fnExactSavedByIslands", fn := fun _ => fun
  | [d] => { results := [.lit (.bool true)], args := [d] }
  | _ => none }
def fnExactSavedByIslandsRow : OpenClaim := { program := "ytlkjglanglpdoaa", sum := "4e538a0782d192ea8cb31df7917687b611ff60f39eee151deecb5bf517a958e7", func := "loop.example/g01272/laws.FnExactSavedByIslands", spec := "fnExactSavedByIslands", unfollowed := true, recurses := true, apart := false }
def FnExactSavedByIslandsSaid : Prop := fnExactSavedByIslandsRow.holds Try.pinned (OpenSpec.ofChange fnExactSavedByIslandsSpec)

/-- ITS FALSE NEIGHBOUR: 'it returns false'. Refute it at one input. -/
def fnExactSavedByIslandsWrong : ChangeSpec := { name := "fnExactSavedByIslands", fn := fun _ => fun
  | [d] => { results := [.lit (.bool false)], args := [d] }
  | _ => none }
def FnExactSavedByIslandsWrongFalsely : Prop := fnExactSavedByIslandsRow.holds Try.pinned (OpenSpec.ofChange fnExactSavedByIslandsWrong)

/-- 'laws.FnExactCountVoyages': WHATEVER THE INPUT: true; the input reads as it did. -/
def fnExactCountVoyagesSpec : ChangeSpec := { name := "fnExactCountVoyages", fn := fun _ => fun
  | [d] => { results := [.lit (.bool true)], args := [d] }
  | _ => none }
def fnExactCountVoyagesRow : OpenClaim := { program := "ytlkjglanglpdoaa", sum := "4e538a0782d192ea8cb31df7917687b611ff60f39eee151deecb5bf517a958e7", func := "loop.example/g01272/laws.FnExactCountVoyages", spec := "fnExactCountVoyages", unfollowed := true, recurses := true, apart := false }
def FnExactCountVoyagesSaid : Prop := fnExactCountVoyagesRow.holds Try.pinned (OpenSpec.ofChange fnExactCountVoyagesSpec)

/-- ITS FALSE NEIGHBOUR: 'it returns false'. Refute it at one input. -/
def fnExactCountVoyagesWrong : ChangeSpec := { name := "fnExactCountVoyages", fn := fun _ => fun
  | [d] => { results := [.lit (.bool false)], args := [d] }
  | _ => none }
def FnExactCountVoyagesWrongFalsely : Prop := fnExactCountVoyagesRow.holds Try.pinned (OpenSpec.ofChange fnExactCountVoyagesWrong)

/-- 'laws.FnCouplesCalm': WHATEVER THE INPUT: true; the input reads as it did. -/
def fnCouplesCalmSpec : ChangeSpec := { name := "fnCouplesCalm", fn := fun _ => fun
  | [d1, d2] => { results := [.lit (.bool true)], args := [d1, d2] }
  | _ => none }
def fnCouplesCalmRow : OpenClaim := { program := "ytlkjglanglpdoaa", sum := "4e538a0782d192ea8cb31df7917687b611ff60f39eee151deecb5bf517a958e7", func := "loop.example/g01272/laws.FnCouplesCalm", spec := "fnCouplesCalm", unfollowed := true, recurses := true, apart := false }
def FnCouplesCalmSaid : Prop := fnCouplesCalmRow.holds Try.pinned (OpenSpec.ofChange fnCouplesCalmSpec)

/-- ITS FALSE NEIGHBOUR: 'it returns false'. Refute it at one input. -/
def fnCouplesCalmWrong : ChangeSpec := { name := "fnCouplesCalm", fn := fun _ => fun
  | [d1, d2] => { results := [.lit (.bool false)], args := [d1, d2] }
  | _ => none }
def FnCouplesCalmWrongFalsely : Prop := fnCouplesCalmRow.holds Try.pinned (OpenSpec.ofChange fnCouplesCalmWrong)

/-- 'laws.FnVoyagesSailOfAll': WHATEVER THE INPUT: true; the input reads as it did. -/
def fnVoyagesSailOfAllSpec : ChangeSpec := { name := "fnVoyagesSailOfAll", fn := fun _ => fun
  | [d1, d2, d3, d4, d5, d6, d7, d8, d9] => { results := [.lit (.bool true)], args := [d1, d2, d3, d4, d5, d6, d7, d8, d9] }
  | _ => none }
def fnVoyagesSailOfAllRow : OpenClaim := { program := "ytlkjglanglpdoaa", sum := "4e538a0782d192ea8cb31df7917687b611ff60f39eee151deecb5bf517a958e7", func := "loop.example/g01272/laws.FnVoyagesSailOfAll", spec := "fnVoyagesSailOfAll", unfollowed := true, recurses := true, apart := false }
def FnVoyagesSailOfAllSaid : Prop := fnVoyagesSailOfAllRow.holds Try.pinned (OpenSpec.ofChange fnVoyagesSailOfAllSpec)

/-- ITS FALSE NEIGHBOUR: 'it returns false'. Refute it at one input. -/
def fnVoyagesSailOfAllWrong : ChangeSpec := { name := "fnVoyagesSailOfAll", fn := fun _ => fun
  | [d1, d2, d3, d4, d5, d6, d7, d8, d9] => { results := [.lit (.bool false)], args := [d1, d2, d3, d4, d5, d6, d7, d8, d9] }
  | _ => none }
def FnVoyagesSailOfAllWrongFalsely : Prop := fnVoyagesSailOfAllRow.holds Try.pinned (OpenSpec.ofChange fnVoyagesSailOfAllWrong)

/-- 'laws.FnExactFirstVoyages': WHATEVER THE INPUT: true; the input reads as it did. -/
def fnExactFirstVoyagesSpec : ChangeSpec := { name := "fnExactFirstVoyages", fn := fun _ => fun
  | [d] => { results := [.lit (.bool true)], args := [d] }
  | _ => none }
def fnExactFirstVoyagesRow : OpenClaim := { program := "ytlkjglanglpdoaa", sum := "4e538a0782d192ea8cb31df7917687b611ff60f39eee151deecb5bf517a958e7", func := "loop.example/g01272/laws.FnExactFirstVoyages", spec := "fnExactFirstVoyages", unfollowed := true, recurses := true, apart := false }
def FnExactFirstVoyagesSaid : Prop := fnExactFirstVoyagesRow.holds Try.pinned (OpenSpec.ofChange fnExactFirstVoyagesSpec)

/-- ITS FALSE NEIGHBOUR: 'it returns false'. Refute it at one input. -/
def fnExactFirstVoyagesWrong : ChangeSpec := { name := "fnExactFirstVoyages", fn := fun _ => fun
  | [d] => { results := [.lit (.bool false)], args := [d] }
  | _ => none }
def FnExactFirstVoyagesWrongFalsely : Prop := fnExactFirstVoyagesRow.holds Try.pinned (OpenSpec.ofChange fnExactFirstVoyagesWrong)

/-- 'laws.FnTripsCross': WHATEVER THE INPUT: true; the input reads as it did. -/
def fnTripsCrossSpec : ChangeSpec := { name := "fnTripsCross", fn := fun _ => fun
  | [d1, d2] => { results := [.lit (.bool true)], args := [d1, d2] }
  | _ => none }
def fnTripsCrossRow : OpenClaim := { program := "ytlkjglanglpdoaa", sum := "4e538a0782d192ea8cb31df7917687b611ff60f39eee151deecb5bf517a958e7", func := "loop.example/g01272/laws.FnTripsCross", spec := "fnTripsCross", unfollowed := true, recurses := true, apart := false }
def FnTripsCrossSaid : Prop := fnTripsCrossRow.holds Try.pinned (OpenSpec.ofChange fnTripsCrossSpec)

/-- ITS FALSE NEIGHBOUR: 'it returns false'. Refute it at one input. -/
def fnTripsCrossWrong : ChangeSpec := { name := "fnTripsCross", fn := fun _ => fun
  | [d1, d2] => { results := [.lit (.bool false)], args := [d1, d2] }
  | _ => none }
def FnTripsCrossWrongFalsely : Prop := fnTripsCrossRow.holds Try.pinned (OpenSpec.ofChange fnTripsCrossWrong)

/-- 'laws.FnVoyagesSail': WHATEVER THE INPUT: true; the input reads as it did. -/
def fnVoyagesSailSpec : ChangeSpec := { name := "fnVoyagesSail", fn := fun _ => fun
  | [d1, d2] => { results := [.lit (.bool true)], args := [d1, d2] }
  | _ => none }
def fnVoyagesSailRow : OpenClaim := { program := "ytlkjglanglpdoaa", sum := "4e538a0782d192ea8cb31df7917687b611ff60f39eee151deecb5bf517a958e7", func := "loop.example/g01272/laws.FnVoyagesSail", spec := "fnVoyagesSail", unfollowed := true, recurses := true, apart := false }
def FnVoyagesSailSaid : Prop := fnVoyagesSailRow.holds Try.pinned (OpenSpec.ofChange fnVoyagesSailSpec)

/-- ITS FALSE NEIGHBOUR: 'it returns false'. Refute it at one input. -/
def fnVoyagesSailWrong : ChangeSpec := { name := "fnVoyagesSail", fn := fun _ => fun
  | [d1, d2] => { results := [.lit (.bool false)], args := [d1, d2] }
  | _ => none }
def FnVoyagesSailWrongFalsely : Prop := fnVoyagesSailRow.holds Try.pinned (OpenSpec.ofChange fnVoyagesSailWrong)

/-- 'laws.FnKeepersRide': WHATEVER THE INPUT: true; the input reads as it did. -/
def fnKeepersRideSpec : ChangeSpec := { name := "fnKeepersRide", fn := fun _ => fun
  | [d1, d2] => { results := [.lit (.bool true)], args := [d1, d2] }
  | _ => none }
def fnKeepersRideRow : OpenClaim := { program := "ytlkjglanglpdoaa", sum := "4e538a0782d192ea8cb31df7917687b611ff60f39eee151deecb5bf517a958e7", func := "loop.example/g01272/laws.FnKeepersRide", spec := "fnKeepersRide", unfollowed := true, recurses := true, apart := false }
def FnKeepersRideSaid : Prop := fnKeepersRideRow.holds Try.pinned (OpenSpec.ofChange fnKeepersRideSpec)

/-- ITS FALSE NEIGHBOUR: 'it returns false'. Refute it at one input. -/
def fnKeepersRideWrong : ChangeSpec := { name := "fnKeepersRide", fn := fun _ => fun
  | [d1, d2] => { results := [.lit (.bool false)], args := [d1, d2] }
  | _ => none }
def FnKeepersRideWrongFalsely : Prop := fnKeepersRideRow.holds Try.pinned (OpenSpec.ofChange fnKeepersRideWrong)

/- THE SECOND FORM. 'bulk': how many values and letters a reading holds, each counted each time it is reached (what is shared counts as often as it is met; a slice's spare places count too). A statement '..UptoSaid' is the law's where the arguments, and the package variables that the reading takes, are together of bulk at most 1048576: NARROWER than '..Said'. Prove '..Said' where nothing that the law and all that it calls make is longer than what came in: it says more and counts as full. Else prove '..UptoSaid'. A law counts once. -/
mutual
def uptoBulk {H : Type} : DataW H → Nat
  | .lit (.string bytes) => bytes.length + 1
  | .lit _ => 1
  | .nil => 1
  | .ptr d => uptoBulk d + 1
  | .slice elems spare => uptoBulkAll elems + uptoBulkAll spare + 1
  | .agg parts => uptoBulkAll parts + 1
  | .iface _ d => uptoBulk d + 1
  | .map entries => uptoBulkEntries entries + 1
  | .held _ => 1
def uptoBulkAll {H : Type} : List (DataW H) → Nat
  | [] => 0
  | d :: r => uptoBulk d + uptoBulkAll r
def uptoBulkEntries {H : Type} : List (Lit × DataW H) → Nat
  | [] => 0
  | x :: r => uptoBulkEntry x + uptoBulkEntries r
def uptoBulkEntry {H : Type} : Lit × DataW H → Nat
  | (.string bytes, d) => bytes.length + uptoBulk d + 1
  | (_, d) => uptoBulk d + 1
 end
def uptoSmall : (H : Type) → List (DataW H) → Bool := fun _ ds => decide (uptoBulkAll ds ≤ 1048576)
def OpenSpec.upto (s : _root_.Go.ChangeSpec) : _root_.Go.OpenSpec := { _root_.Go.OpenSpec.ofChange s with cond := some uptoSmall }

/-- 'laws.FnGuardsOver', WHERE WHAT IT READS IS OF BULK AT MOST 1048576: true; the input reads as it did. -/
def fnGuardsOverUptoRow : OpenClaim := { program := "ytlkjglanglpdoaa", sum := "4e538a0782d192ea8cb31df7917687b611ff60f39eee151deecb5bf517a958e7", func := "loop.example/g01272/laws.FnGuardsOver", spec := "fnGuardsOver", unfollowed := true, recurses := true, apart := false, narrowed := true }
def FnGuardsOverUptoSaid : Prop := fnGuardsOverUptoRow.holds Try.pinned (OpenSpec.upto fnGuardsOverSpec)

/-- 'laws.FnExactCountPlacesReached', WHERE WHAT IT READS IS OF BULK AT MOST 1048576: true; the input reads as it did. -/
def fnExactCountPlacesReachedUptoRow : OpenClaim := { program := "ytlkjglanglpdoaa", sum := "4e538a0782d192ea8cb31df7917687b611ff60f39eee151deecb5bf517a958e7", func := "loop.example/g01272/laws.FnExactCountPlacesReached", spec := "fnExactCountPlacesReached", unfollowed := true, recurses := true, apart := false, narrowed := true }
def FnExactCountPlacesReachedUptoSaid : Prop := fnExactCountPlacesReachedUptoRow.holds Try.pinned (OpenSpec.upto fnExactCountPlacesReachedSpec)

/-- 'laws.FnExactFewestVoyages', WHERE WHAT IT READS IS OF BULK AT MOST 1048576: true; the input reads as it did. -/
def fnExactFewestVoyagesUptoRow : OpenClaim := { program := "ytlkjglanglpdoaa", sum := "4e538a0782d192ea8cb31df7917687b611ff60f39eee151deecb5bf517a958e7", func := "loop.example/g01272/laws.FnExactFewestVoyages", spec := "fnExactFewestVoyages", unfollowed := true, recurses := true, apart := false, narrowed := true }
def FnExactFewestVoyagesUptoSaid : Prop := fnExactFewestVoyagesUptoRow.holds Try.pinned (OpenSpec.upto fnExactFewestVoyagesSpec)

/-- 'laws.FnExactSavedByIslands', WHERE WHAT IT READS IS OF BULK AT MOST 1048576: true; the input reads as it did. -/
def fnExactSavedByIslandsUptoRow : OpenClaim := { program := "ytlkjglanglpdoaa", sum := "4e538a0782d192ea8cb31df7917687b611ff60f39eee151deecb5bf517a958e7", func := "loop.example/g01272/laws.FnExactSavedByIslands", spec := "fnExactSavedByIslands", unfollowed := true, recurses := true, apart := false, narrowed := true }
def FnExactSavedByIslandsUptoSaid : Prop := fnExactSavedByIslandsUptoRow.holds Try.pinned (OpenSpec.upto fnExactSavedByIslandsSpec)

/-- 'laws.FnExactCountVoyages', WHERE WHAT IT READS IS OF BULK AT MOST 1048576: true; the input reads as it did. -/
def fnExactCountVoyagesUptoRow : OpenClaim := { program := "ytlkjglanglpdoaa", sum := "4e538a0782d192ea8cb31df7917687b611ff60f39eee151deecb5bf517a958e7", func := "loop.example/g01272/laws.FnExactCountVoyages", spec := "fnExactCountVoyages", unfollowed := true, recurses := true, apart := false, narrowed := true }
def FnExactCountVoyagesUptoSaid : Prop := fnExactCountVoyagesUptoRow.holds Try.pinned (OpenSpec.upto fnExactCountVoyagesSpec)

/-- 'laws.FnCouplesCalm', WHERE WHAT IT READS IS OF BULK AT MOST 1048576: true; the input reads as it did. -/
def fnCouplesCalmUptoRow : OpenClaim := { program := "ytlkjglanglpdoaa", sum := "4e538a0782d192ea8cb31df7917687b611ff60f39eee151deecb5bf517a958e7", func := "loop.example/g01272/laws.FnCouplesCalm", spec := "fnCouplesCalm", unfollowed := true, recurses := true, apart := false, narrowed := true }
def FnCouplesCalmUptoSaid : Prop := fnCouplesCalmUptoRow.holds Try.pinned (OpenSpec.upto fnCouplesCalmSpec)

/-- 'laws.FnVoyagesSailOfAll', WHERE WHAT IT READS IS OF BULK AT MOST 1048576: true; the input reads as it did. -/
def fnVoyagesSailOfAllUptoRow : OpenClaim := { program := "ytlkjglanglpdoaa", sum := "4e538a0782d192ea8cb31df7917687b611ff60f39eee151deecb5bf517a958e7", func := "loop.example/g01272/laws.FnVoyagesSailOfAll", spec := "fnVoyagesSailOfAll", unfollowed := true, recurses := true, apart := false, narrowed := true }
def FnVoyagesSailOfAllUptoSaid : Prop := fnVoyagesSailOfAllUptoRow.holds Try.pinned (OpenSpec.upto fnVoyagesSailOfAllSpec)

/-- 'laws.FnExactFirstVoyages', WHERE WHAT IT READS IS OF BULK AT MOST 1048576: true; the input reads as it did. -/
def fnExactFirstVoyagesUptoRow : OpenClaim := { program := "ytlkjglanglpdoaa", sum := "4e538a0782d192ea8cb31df7917687b611ff60f39eee151deecb5bf517a958e7", func := "loop.example/g01272/laws.FnExactFirstVoyages", spec := "fnExactFirstVoyages", unfollowed := true, recurses := true, apart := false, narrowed := true }
def FnExactFirstVoyagesUptoSaid : Prop := fnExactFirstVoyagesUptoRow.holds Try.pinned (OpenSpec.upto fnExactFirstVoyagesSpec)

/-- 'laws.FnTripsCross', WHERE WHAT IT READS IS OF BULK AT MOST 1048576: true; the input reads as it did. -/
def fnTripsCrossUptoRow : OpenClaim := { program := "ytlkjglanglpdoaa", sum := "4e538a0782d192ea8cb31df7917687b611ff60f39eee151deecb5bf517a958e7", func := "loop.example/g01272/laws.FnTripsCross", spec := "fnTripsCross", unfollowed := true, recurses := true, apart := false, narrowed := true }
def FnTripsCrossUptoSaid : Prop := fnTripsCrossUptoRow.holds Try.pinned (OpenSpec.upto fnTripsCrossSpec)

/-- 'laws.FnVoyagesSail', WHERE WHAT IT READS IS OF BULK AT MOST 1048576: true; the input reads as it did. -/
def fnVoyagesSailUptoRow : OpenClaim := { program := "ytlkjglanglpdoaa", sum := "4e538a0782d192ea8cb31df7917687b611ff60f39eee151deecb5bf517a958e7", func := "loop.example/g01272/laws.FnVoyagesSail", spec := "fnVoyagesSail", unfollowed := true, recurses := true, apart := false, narrowed := true }
def FnVoyagesSailUptoSaid : Prop := fnVoyagesSailUptoRow.holds Try.pinned (OpenSpec.upto fnVoyagesSailSpec)

/-- 'laws.FnKeepersRide', WHERE WHAT IT READS IS OF BULK AT MOST 1048576: true; the input reads as it did. -/
def fnKeepersRideUptoRow : OpenClaim := { program := "ytlkjglanglpdoaa", sum := "4e538a0782d192ea8cb31df7917687b611ff60f39eee151deecb5bf517a958e7", func := "loop.example/g01272/laws.FnKeepersRide", spec := "fnKeepersRide", unfollowed := true, recurses := true, apart := false, narrowed := true }
def FnKeepersRideUptoSaid : Prop := fnKeepersRideUptoRow.holds Try.pinned (OpenSpec.upto fnKeepersRideSpec)

end Rows
end Go.Proofs.Ytlkjglanglpdoaa
