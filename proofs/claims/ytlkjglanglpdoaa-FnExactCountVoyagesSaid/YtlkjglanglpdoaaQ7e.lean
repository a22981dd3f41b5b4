/-
  Texts of a proof, laid together by a program of mine: Tf177, Tf188, Tf251, H5a, H5b, H5, Tf252, H6a, Tf132, Tf169, Tf171, Tf172, Tf179, Tf229.
-/
import Derived.Test.YtlkjglanglpdoaaProg
import Derived.Below
import Derived.Deep.Draws
import Derived.Deep.AppendLies
import Derived.Maps.AppendAt
import Derived.OwnWalk
import Derived.Laws.BytesArg
import Derived.Laws.MakeOwn
import Derived.Laws.OwnMore
import Derived.Deep.OwnRows
import Derived.Tactics
import Derived.Lib.ConvBytes
import Derived.Laws.Slices
import Derived.WalkKit
import Derived.KernelRfl
import Derived.RowKit3
import Derived.Deep.LoopGhost
import Derived.Deep.QuietTactic
import Derived.BigQuiet
import Derived.WideLaws
import Derived.Deep.DeepCutAuto
import Derived.Deep.CutBlock
import Derived.Deep.RegionHeld3
import Derived.Laws.Rows
import Derived.Lib.AppendStr
import Derived.ArgAppend
import Derived.Laws.IdiomCopy
import Derived.OrdersHeld
import Derived.Laws.BitsLemmas
import Derived.RowKit
import Derived.Laws.StructEq
import Derived.Lib.SliceRun
import Derived.BigRegion
import Derived.Laws.CopyOwn
import Derived.Laws.BitsAllLaws
import Derived.Laws.EntriesVeiled
import Derived.Test.YtlkjglanglpdoaaQ7a
import Derived.Test.YtlkjglanglpdoaaQ7d
namespace Go.Proofs.Ytlkjglanglpdoaa.T
open Go.RowKit Go.Proofs.YtlkjglanglpdoaaW.PrintWords Go.Proofs.YtlkjglanglpdoaaW.PrintLast Go.Proofs.YtlkjglanglpdoaaW.PrintMore
attribute [local go_sem] max2_int min2_int max_two min_two max_three min_three max_four min_four
set_option linter.unusedVariables false
set_option linter.unusedSimpArgs false
def impl_Isles_areCalm.l0 : Nat → Int → Int → List Int → Int → Option (Bool)
 | 0, _, _, _, _ => none
 | k + 1, x8, x9, x1017000, x1017001 => if x9 < x8 then ((impl_Places_standing.f k x1017000 x1017001 x9).bind fun t1018 => ((impl_calm.f t1018).bind fun t1021 => (if t1021 = true then (impl_Isles_areCalm.l0 k x8 (wrap64 (x9 + 1)) x1017000 x1017001) else (some false)))) else (some true)
def impl_Isles_areCalm.f (k : Nat) (a0_0 : Int) (a0_1 : Int) (a0_2 : Int) (l1_0 : List Int) (a1_1 : Int) : Option (Bool) := (impl_Isles_far.f a0_0 a0_1 a0_2).bind fun t1017 => (impl_Isles_areCalm.l0 k (wrap64 (t1017 + 1)) 0 l1_0 a1_1)
theorem impl_Isles_areCalm.mono_l : ∀ k, (∀ y0 y1 y2 y3, LeO (impl_Isles_areCalm.l0 k y0 y1 y2 y3) (impl_Isles_areCalm.l0 (k + 1) y0 y1 y2 y3))
 | 0 => fun _ _ _ _ r h => by simp [impl_Isles_areCalm.l0] at h
 | k + 1 => by
  have ih0 := impl_Isles_areCalm.mono_l k
  ·intro y0 y1 y2 y3
   unfold impl_Isles_areCalm.l0
   repeat' first
   | (with_reducible exact ih0 _ _ _ _)
   | (with_reducible exact impl_Places_standing.mono _ _ _ _)
   | (with_reducible exact LeO.refl _)
   | (with_reducible exact LeO.none _)
   | (with_reducible refine LeO.ite ?_ ?_)
   | (with_reducible refine LeO.bind ?_ (fun _ => ?_))
   | exact ih0 _ _ _ _
   | exact impl_Places_standing.mono _ _ _ _
   | exact LeO.none _
   | refine LeO.ite ?_ ?_
   | refine LeO.bind ?_ (fun _ => ?_)
theorem impl_Isles_areCalm.mono : ∀ a0 a1 a2 a3 a4 k, LeO (impl_Isles_areCalm.f k a0 a1 a2 a3 a4) (impl_Isles_areCalm.f (k + 1) a0 a1 a2 a3 a4) := by
 intro a0 a1 a2 a3 a4 k
 have ih0 := impl_Isles_areCalm.mono_l k
 unfold impl_Isles_areCalm.f
 repeat' first
   | (with_reducible exact ih0 _ _ _ _)
   | (with_reducible exact impl_Places_standing.mono _ _ _ _)
   | (with_reducible exact LeO.refl _)
   | (with_reducible exact LeO.none _)
   | (with_reducible refine LeO.ite ?_ ?_)
   | (with_reducible refine LeO.bind ?_ (fun _ => ?_))
   | exact ih0 _ _ _ _
   | exact impl_Places_standing.mono _ _ _ _
   | exact LeO.none _
   | refine LeO.ite ?_ ?_
   | refine LeO.bind ?_ (fun _ => ?_)
set_option maxHeartbeats 8000000 in
set_option maxRecDepth 100000 in
theorem impl_Isles_areCalm.calls (k : Nat) (a0_0 : Int) (a0_1 : Int) (a0_2 : Int) (A1_0 : Option Addr) (c1_0 : Nat) (l1_0 : List Int) (a1_1 : Int) (r : Bool) (w : World) (hr1_0 : Kd.C (Kd.int .i64) w A1_0 l1_0.length l1_0) (hc1_0 : l1_0.length ≤ c1_0) (h : impl_Isles_areCalm.f k a0_0 a0_1 a0_2 l1_0 a1_1 = some r) :
  Calls Try.prog 177 #[.agg #[.int .i64 a0_0, .int .i64 a0_1, .int .i64 a0_2], .agg #[.slice A1_0 l1_0.length c1_0, .int .i64 a1_1]] w fun e w' => e = .returned (.bool r) ∧ Below w.heap.size w w' := by
 have hu39 := Try.underlying39
 have hu64 := Try.underlying64
 have HR1_0 := Aside0.mk hr1_0
 have HC1_0 := Aside0.mk hc1_0
 clear hr1_0 hc1_0
 have HB := Aside0.mk (Below.refl w.heap.size w)
 have H : ((impl_Isles_far.f a0_0 a0_1 a0_2).bind fun t1017 => (impl_Isles_areCalm.l0 k (wrap64 (t1017 + 1)) 0 l1_0 a1_1)) = some r := h
 clear h
 replace H := Option.bind_eq_some_iff.mp H
 obtain ⟨t1017, A30, H⟩ := H
 replace H : (impl_Isles_areCalm.l0 k (wrap64 (t1017 + 1)) 0 l1_0 a1_1) = some r := H
 have A3 := Aside0.mk A30
 clear A30
 have H' := Aside0.mk H
 clear H
 go_enter Try.func177, Try.ntmps177
 go_wp2_with (first | ((with_reducible refine gate_dst (N := 2) rfl ?_); refine box_event ?hg (N := 2) ?hd (cs := #[.int .i64 a0_0, .int .i64 a0_1, .int .i64 a0_2]) (t := 39) ?hr ?_; (case hd => rfl); (case hg => rfl); (case hr => first | (go_simp; done) | (go_simp; rfl)); intro gb1015 hg w4 hbox hb; have n0_ := Aside0.mk (below_step (by repeat (first | (with_reducible first | exact HB.out | apply below_alloc | apply pw_below_drewN | apply below_drew1) | exact HB.out)) hb); have n1_ := Aside0.mk (hbox); have n2_ := Aside0.mk ((by rw [hg]; exact (below_size (by repeat (first | (with_reducible first | exact HB.out | apply below_alloc | apply pw_below_drewN | apply below_drew1) | exact HB.out))) : w.heap.size ≤ gb1015)); have n3_ := Aside0.mk ((by rw [hg]; exact (below_size (by repeat (first | (with_reducible first | exact HB.out | apply below_alloc | apply pw_below_drewN | apply below_drew1) | exact HB.out))) : w.heap.size ≤ gb1015)); clear HB; have HB := n0_; have BK1015 := n1_; have GW1015 := n2_; have GE1015 := n3_; clear n0_ n1_ n2_ n3_; clear hb hbox hg) | ((with_reducible refine gate_dst (N := 3) rfl ?_); refine box_event ?hg (N := 3) ?hd (cs := #[.slice A1_0 l1_0.length c1_0, .int .i64 a1_1]) (t := 64) ?hr ?_; (case hd => rfl); (case hg => rfl); (case hr => first | (go_simp; done) | (go_simp; rfl)); intro gb1016 hg w5 hbox hb; have n0_ := Aside0.mk (blk_below (g := gb1015) (o := .cells #[.int .i64 a0_0, .int .i64 a0_1, .int .i64 a0_2] 39 (0, 0)) (by (with_reducible repeat (first | refine blk_drewN ?_ _ | refine blk_drew ?_ | refine blk_alloc ?_ _)); exact BK1015.out) hb); have n1_ := Aside0.mk (below_step (by repeat (first | (with_reducible first | exact HB.out | apply below_alloc | apply pw_below_drewN | apply below_drew1 | refine below_set ?_ GE1015.out) | exact HB.out)) hb); have n2_ := Aside0.mk (hbox); have n3_ := Aside0.mk ((by rw [hg]; exact (below_size (by repeat (first | (with_reducible first | exact HB.out | apply below_alloc | apply pw_below_drewN | apply below_drew1 | refine below_set ?_ GE1015.out) | exact HB.out))) : w.heap.size ≤ gb1016)); have n4_ := Aside0.mk ((by rw [hg]; exact (below_size (by repeat (first | (with_reducible first | exact HB.out | apply below_alloc | apply pw_below_drewN | apply below_drew1 | refine below_set ?_ GE1015.out) | exact HB.out))) : w.heap.size ≤ gb1016)); have n5_ := Aside0.mk ((by rw [hg]; exact Nat.ne_of_lt (blk_lt (g := gb1015) (o := .cells #[.int .i64 a0_0, .int .i64 a0_1, .int .i64 a0_2] 39 (0, 0)) (by (with_reducible repeat (first | refine blk_drewN ?_ _ | refine blk_drew ?_ | refine blk_alloc ?_ _)); exact BK1015.out)) : gb1015 ≠ gb1016)); have n6_ := Aside0.mk ((by rw [hg]; exact Nat.ne_of_gt (blk_lt (g := gb1015) (o := .cells #[.int .i64 a0_0, .int .i64 a0_1, .int .i64 a0_2] 39 (0, 0)) (by (with_reducible repeat (first | refine blk_drewN ?_ _ | refine blk_drew ?_ | refine blk_alloc ?_ _)); exact BK1015.out)) : gb1016 ≠ gb1015)); clear BK1015; clear HB; have BK1015 := n0_; have HB := n1_; have BK1016 := n2_; have GW1016 := n3_; have GE1016 := n4_; have NB1015_1016 := n5_; have NB1016_1015 := n6_; clear n0_ n1_ n2_ n3_ n4_ n5_ n6_; clear hb hbox hg; have hnb6 := NB1015_1016.out; have hnc6 := NB1016_1015.out; have hcz7_0 : w5.cell? ⟨gb1015, 0, none⟩ = some (.int .i64 a0_0) := (blk_cell BK1015.out 0).trans rfl; have hcz7_1 : w5.cell? ⟨gb1015, 1, none⟩ = some (.int .i64 a0_1) := (blk_cell BK1015.out 1).trans rfl; have hcz7_2 : w5.cell? ⟨gb1015, 2, none⟩ = some (.int .i64 a0_2) := (blk_cell BK1015.out 2).trans rfl; have hfz7_0 := blk_frozen BK1015.out 0; have hfz7_1 := blk_frozen BK1015.out 1; have hfz7_2 := blk_frozen BK1015.out 2) | ((with_reducible refine gate_callee (f := 189) rfl ?_); refine goesL_ (some 7) rfl rfl Try.func189 (by kernel_rfl) rfl #[.agg #[.int .i64 a0_0, .int .i64 a0_1, .int .i64 a0_2]] rfl (by (try simp only [List.map_toArray, List.map_cons, List.map_nil]); first | done | rfl | (simp only [List.length_drop, List.length_take]; rfl)) ?_; (with_reducible refine (impl_Isles_far.calls a0_0 a0_1 a0_2 t1017 _ A3.out).mono ?_); rintro e w8 ⟨rfl, hb⟩; refine ⟨_, rfl, ?_⟩; have n0_ := Aside0.mk (blk_below (g := gb1015) (o := .cells #[.int .i64 a0_0, .int .i64 a0_1, .int .i64 a0_2] 39 (0, 0)) (by (with_reducible repeat (first | refine blk_drewN ?_ _ | refine blk_drew ?_ | refine blk_alloc ?_ _)); exact BK1015.out) hb); have n1_ := Aside0.mk (blk_below (g := gb1016) (o := .cells #[.slice A1_0 l1_0.length c1_0, .int .i64 a1_1] 64 (0, 0)) (by (with_reducible repeat (first | refine blk_drewN ?_ _ | refine blk_drew ?_ | refine blk_alloc ?_ _)); exact BK1016.out) hb); have n2_ := Aside0.mk (below_step (by repeat (first | (with_reducible first | exact HB.out | apply below_alloc | apply pw_below_drewN | apply below_drew1 | refine below_set ?_ GE1015.out | refine below_set ?_ GE1016.out) | exact HB.out)) hb); clear BK1015; clear BK1016; clear HB; have BK1015 := n0_; have BK1016 := n1_; have HB := n2_; clear n0_ n1_ n2_; (try clear hb); (try clear hb2); (try clear hk); (try clear hi)))
 go_loopg [9] k (fun kq v9 w' => ∃ (x9_1 : Int), v9 = .int .i64 x9_1 ∧ Aside0 (impl_Isles_areCalm.l0 kq (wrap64 (t1017 + 1)) x9_1 l1_0 a1_1 = some r) ∧ Aside0 (kq ≤ k) ∧ Aside0 (w'.heap[gb1015]? = some (.cells #[.int .i64 a0_0, .int .i64 a0_1, .int .i64 a0_2] 39 (0, 0))) ∧ Aside0 (w'.heap[gb1016]? = some (.cells #[(.slice A1_0 l1_0.length c1_0), .int .i64 a1_1] 64 (0, 0))) ∧ Aside0 (Below w.heap.size w w'))
 case atStart => exact ⟨(0), (by first | rfl | (simp; done) | (simp [*]; done)), H', ⟨Nat.le_refl _⟩, ⟨by (with_reducible repeat (first | refine blk_drewN ?_ _ | refine blk_drew ?_ | refine blk_alloc ?_ _)); exact BK1015.out⟩, ⟨by (with_reducible repeat (first | refine blk_drewN ?_ _ | refine blk_drew ?_ | refine blk_alloc ?_ _)); exact BK1016.out⟩, ⟨by repeat (first | (with_reducible first | exact HB.out | apply below_alloc | apply pw_below_drewN | apply below_drew1 | refine below_set ?_ GE1015.out | refine below_set ?_ GE1016.out) | exact HB.out)⟩⟩
 case round =>
  clear H'
  try clear c1
  try clear p2
  try clear c6
  try clear p6
  try clear hcz7_0
  try clear hcz7_1
  try clear hcz7_2
  try clear hfz7_0
  try clear hfz7_1
  try clear hfz7_2
  obtain ⟨x9_1, rfl, HA, HK1, BK1015, BK1016, HB⟩ := hrel
  cases gk with
  | zero => exact absurd HA.out (by simp [impl_Isles_areCalm.l0])
  | succ k1 =>
   have H := HA.out
   clear HA
   simp only [impl_Isles_areCalm.l0] at H
   by_cases c9 : x9_1 < (wrap64 (t1017 + 1))
   ·rw [if_pos c9] at H
    have c9b0 : decide (x9_1 < (wrap64 (t1017 + 1))) = true := decide_eq_true c9
    clear c9
    replace H := Option.bind_eq_some_iff.mp H
    obtain ⟨t1018, A100, H⟩ := H
    replace H : ((impl_calm.f t1018).bind fun t1021 => (if t1021 = true then (impl_Isles_areCalm.l0 k1 (wrap64 (t1017 + 1)) (wrap64 (x9_1 + 1)) l1_0 a1_1) else (some false))) = some r := H
    have A10 := Aside0.mk A100
    clear A100
    replace H := Option.bind_eq_some_iff.mp H
    obtain ⟨t1021, A110, H⟩ := H
    replace H : (if t1021 = true then (impl_Isles_areCalm.l0 k1 (wrap64 (t1017 + 1)) (wrap64 (x9_1 + 1)) l1_0 a1_1) else (some false)) = some r := H
    have A11 := Aside0.mk A110
    clear A110
    by_cases c12 : t1021 = true
    ·subst c12
     have H1 : (impl_Isles_areCalm.l0 k1 (wrap64 (t1017 + 1)) (wrap64 (x9_1 + 1)) l1_0 a1_1) = some r := by rw [if_pos rfl] at H; exact H
     clear H
     have H := H1
     clear H1
     have H' := Aside0.mk H
     clear H
     have hnb13 := NB1016_1015.out
     have hnc13 := NB1015_1016.out
     have hcz14_0 : wr.cell? ⟨gb1016, 0, none⟩ = some (.slice A1_0 l1_0.length c1_0) := (blk_cell BK1016.out 0).trans rfl
     have hcz14_1 : wr.cell? ⟨gb1016, 1, none⟩ = some (.int .i64 a1_1) := (blk_cell BK1016.out 1).trans rfl
     have hfz14_0 := blk_frozen BK1016.out 0
     have hfz14_1 := blk_frozen BK1016.out 1
     go_wp2_with (first | ((with_reducible refine gate_callee (f := 269) rfl ?_); refine goesL_ (some 14) rfl rfl Try.func269 (by kernel_rfl) rfl #[.agg #[.slice A1_0 l1_0.length c1_0, .int .i64 a1_1], .int .i64 x9_1] rfl (by (try simp only [List.map_toArray, List.map_cons, List.map_nil]); first | done | rfl | (simp only [List.length_drop, List.length_take]; rfl)) ?_; (with_reducible refine (impl_Places_standing.calls k1 _ _ l1_0 a1_1 x9_1 t1018 _ ?side1 ?side2 A10.out).mono ?_); (case side1 => repeat (first | exact (Kd.C_below HR1_0.out HB.out) | (with_reducible refine Kd.C_alloc ?_ _) | (with_reducible refine Kd.C_drewN ?_ _) | (with_reducible refine Kd.C_drew ?_))); (case side2 => exact HC1_0.out); rintro e w15 ⟨v1019, rfl, ho0, hb⟩; refine ⟨_, rfl, ?_⟩; have n0_ := Aside0.mk (Kd.R_lower ho0 (below_size (by repeat (first | (with_reducible first | exact HB.out | apply below_alloc | apply pw_below_drewN | apply below_drew1 | refine below_set ?_ GE1015.out | refine below_set ?_ GE1016.out) | exact HB.out)))); have n1_ := Aside0.mk (blk_below (g := gb1015) (o := .cells #[.int .i64 a0_0, .int .i64 a0_1, .int .i64 a0_2] 39 (0, 0)) (by (with_reducible repeat (first | refine blk_drewN ?_ _ | refine blk_drew ?_ | refine blk_alloc ?_ _)); exact BK1015.out) hb); have n2_ := Aside0.mk (blk_below (g := gb1016) (o := .cells #[.slice A1_0 l1_0.length c1_0, .int .i64 a1_1] 64 (0, 0)) (by (with_reducible repeat (first | refine blk_drewN ?_ _ | refine blk_drew ?_ | refine blk_alloc ?_ _)); exact BK1016.out) hb); have n3_ := Aside0.mk (below_step (by repeat (first | (with_reducible first | exact HB.out | apply below_alloc | apply pw_below_drewN | apply below_drew1 | refine below_set ?_ GE1015.out | refine below_set ?_ GE1016.out) | exact HB.out)) hb); clear BK1015; clear BK1016; clear HB; have HO1020 := n0_; have BK1015 := n1_; have BK1016 := n2_; have HB := n3_; clear n0_ n1_ n2_ n3_; (try clear hb); (try clear hb2); (try clear hk); (try clear hi); (try clear ho0); obtain ⟨Ao16, co16, eo16⟩ := Kd.R_slice HO1020.out; subst eo16) | ((with_reducible refine gate_callee (f := 163) rfl ?_); refine goesL_ (some 15) rfl rfl Try.func163 (by kernel_rfl) rfl #[.slice Ao16 t1018.length co16] rfl (by (try simp only [List.map_toArray, List.map_cons, List.map_nil]); first | done | rfl | (simp only [List.length_drop, List.length_take]; rfl)) ?_; (with_reducible refine (impl_calm.calls _ _ t1018 true _ ?side1 ?side2 A11.out).mono ?_); (case side1 => repeat (first | exact (Kd.R_reads' HO1020.out).2.2 | (with_reducible refine Kd.C_alloc ?_ _) | (with_reducible refine Kd.C_drewN ?_ _) | (with_reducible refine Kd.C_drew ?_))); (case side2 => exact (Kd.R_reads' HO1020.out).2.1); rintro e w17 ⟨rfl, hb⟩; refine ⟨_, rfl, ?_⟩; have n0_ := Aside0.mk (Kd.R_below (by (with_reducible repeat (first | apply Kd.R_alloc | apply Kd.R_drewN | apply Kd.R_drew)); exact HO1020.out) hb); have n1_ := Aside0.mk (blk_below (g := gb1015) (o := .cells #[.int .i64 a0_0, .int .i64 a0_1, .int .i64 a0_2] 39 (0, 0)) (by (with_reducible repeat (first | refine blk_drewN ?_ _ | refine blk_drew ?_ | refine blk_alloc ?_ _)); exact BK1015.out) hb); have n2_ := Aside0.mk (blk_below (g := gb1016) (o := .cells #[.slice A1_0 l1_0.length c1_0, .int .i64 a1_1] 64 (0, 0)) (by (with_reducible repeat (first | refine blk_drewN ?_ _ | refine blk_drew ?_ | refine blk_alloc ?_ _)); exact BK1016.out) hb); have n3_ := Aside0.mk (below_step (by repeat (first | (with_reducible first | exact HB.out | apply below_alloc | apply pw_below_drewN | apply below_drew1 | refine below_set ?_ GE1015.out | refine below_set ?_ GE1016.out) | exact HB.out)) hb); clear HO1020; clear BK1015; clear BK1016; clear HB; have HO1020 := n0_; have BK1015 := n1_; have BK1016 := n2_; have HB := n3_; clear n0_ n1_ n2_ n3_; (try clear hb); (try clear hb2); (try clear hk); (try clear hi)))
     go_roundg k1
     case measure => have := HK1.out; omega
     case rel => exact ⟨(wrap64 (x9_1 + 1)), (by first | rfl | (simp; done) | (simp [*]; done)), H', ⟨by have := HK1.out; omega⟩, ⟨by (with_reducible repeat (first | refine blk_drewN ?_ _ | refine blk_drew ?_ | refine blk_alloc ?_ _)); exact BK1015.out⟩, ⟨by (with_reducible repeat (first | refine blk_drewN ?_ _ | refine blk_drew ?_ | refine blk_alloc ?_ _)); exact BK1016.out⟩, ⟨by repeat (first | (with_reducible first | exact HB.out | apply below_alloc | apply pw_below_drewN | apply below_drew1 | refine below_set ?_ GE1015.out | refine below_set ?_ GE1016.out) | exact HB.out)⟩⟩
    ·replace c12 := Bool.eq_false_iff.mpr c12
     subst c12
     have H1 : (some false) = some r := by rw [if_neg (show ¬ (false = true) by decide)] at H; exact H
     clear H
     have H := H1
     clear H1
     obtain rfl := Option.some.inj H
     have hnb18 := NB1016_1015.out
     have hnc18 := NB1015_1016.out
     have hcz19_0 : wr.cell? ⟨gb1016, 0, none⟩ = some (.slice A1_0 l1_0.length c1_0) := (blk_cell BK1016.out 0).trans rfl
     have hcz19_1 : wr.cell? ⟨gb1016, 1, none⟩ = some (.int .i64 a1_1) := (blk_cell BK1016.out 1).trans rfl
     have hfz19_0 := blk_frozen BK1016.out 0
     have hfz19_1 := blk_frozen BK1016.out 1
     go_wp2_with (first | ((with_reducible refine gate_callee (f := 269) rfl ?_); refine goesL_ (some 14) rfl rfl Try.func269 (by kernel_rfl) rfl #[.agg #[.slice A1_0 l1_0.length c1_0, .int .i64 a1_1], .int .i64 x9_1] rfl (by (try simp only [List.map_toArray, List.map_cons, List.map_nil]); first | done | rfl | (simp only [List.length_drop, List.length_take]; rfl)) ?_; (with_reducible refine (impl_Places_standing.calls k1 _ _ l1_0 a1_1 x9_1 t1018 _ ?side1 ?side2 A10.out).mono ?_); (case side1 => repeat (first | exact (Kd.C_below HR1_0.out HB.out) | (with_reducible refine Kd.C_alloc ?_ _) | (with_reducible refine Kd.C_drewN ?_ _) | (with_reducible refine Kd.C_drew ?_))); (case side2 => exact HC1_0.out); rintro e w20 ⟨v1019, rfl, ho0, hb⟩; refine ⟨_, rfl, ?_⟩; have n0_ := Aside0.mk (Kd.R_lower ho0 (below_size (by repeat (first | (with_reducible first | exact HB.out | apply below_alloc | apply pw_below_drewN | apply below_drew1 | refine below_set ?_ GE1015.out | refine below_set ?_ GE1016.out) | exact HB.out)))); have n1_ := Aside0.mk (blk_below (g := gb1015) (o := .cells #[.int .i64 a0_0, .int .i64 a0_1, .int .i64 a0_2] 39 (0, 0)) (by (with_reducible repeat (first | refine blk_drewN ?_ _ | refine blk_drew ?_ | refine blk_alloc ?_ _)); exact BK1015.out) hb); have n2_ := Aside0.mk (blk_below (g := gb1016) (o := .cells #[.slice A1_0 l1_0.length c1_0, .int .i64 a1_1] 64 (0, 0)) (by (with_reducible repeat (first | refine blk_drewN ?_ _ | refine blk_drew ?_ | refine blk_alloc ?_ _)); exact BK1016.out) hb); have n3_ := Aside0.mk (below_step (by repeat (first | (with_reducible first | exact HB.out | apply below_alloc | apply pw_below_drewN | apply below_drew1 | refine below_set ?_ GE1015.out | refine below_set ?_ GE1016.out) | exact HB.out)) hb); clear BK1015; clear BK1016; clear HB; have HO1020 := n0_; have BK1015 := n1_; have BK1016 := n2_; have HB := n3_; clear n0_ n1_ n2_ n3_; (try clear hb); (try clear hb2); (try clear hk); (try clear hi); (try clear ho0); obtain ⟨Ao21, co21, eo21⟩ := Kd.R_slice HO1020.out; subst eo21) | ((with_reducible refine gate_callee (f := 163) rfl ?_); refine goesL_ (some 15) rfl rfl Try.func163 (by kernel_rfl) rfl #[.slice Ao21 t1018.length co21] rfl (by (try simp only [List.map_toArray, List.map_cons, List.map_nil]); first | done | rfl | (simp only [List.length_drop, List.length_take]; rfl)) ?_; (with_reducible refine (impl_calm.calls _ _ t1018 false _ ?side1 ?side2 A11.out).mono ?_); (case side1 => repeat (first | exact (Kd.R_reads' HO1020.out).2.2 | (with_reducible refine Kd.C_alloc ?_ _) | (with_reducible refine Kd.C_drewN ?_ _) | (with_reducible refine Kd.C_drew ?_))); (case side2 => exact (Kd.R_reads' HO1020.out).2.1); rintro e w22 ⟨rfl, hb⟩; refine ⟨_, rfl, ?_⟩; have n0_ := Aside0.mk (Kd.R_below (by (with_reducible repeat (first | apply Kd.R_alloc | apply Kd.R_drewN | apply Kd.R_drew)); exact HO1020.out) hb); have n1_ := Aside0.mk (blk_below (g := gb1015) (o := .cells #[.int .i64 a0_0, .int .i64 a0_1, .int .i64 a0_2] 39 (0, 0)) (by (with_reducible repeat (first | refine blk_drewN ?_ _ | refine blk_drew ?_ | refine blk_alloc ?_ _)); exact BK1015.out) hb); have n2_ := Aside0.mk (blk_below (g := gb1016) (o := .cells #[.slice A1_0 l1_0.length c1_0, .int .i64 a1_1] 64 (0, 0)) (by (with_reducible repeat (first | refine blk_drewN ?_ _ | refine blk_drew ?_ | refine blk_alloc ?_ _)); exact BK1016.out) hb); have n3_ := Aside0.mk (below_step (by repeat (first | (with_reducible first | exact HB.out | apply below_alloc | apply pw_below_drewN | apply below_drew1 | refine below_set ?_ GE1015.out | refine below_set ?_ GE1016.out) | exact HB.out)) hb); clear HO1020; clear BK1015; clear BK1016; clear HB; have HO1020 := n0_; have BK1015 := n1_; have BK1016 := n2_; have HB := n3_; clear n0_ n1_ n2_ n3_; (try clear hb); (try clear hb2); (try clear hk); (try clear hi)))
     go_ret
     exact ⟨by first | rfl | (simp [errW_none, errW_some] <;> rfl) | (simp [*, errW_none, errW_some] <;> rfl), by repeat (first | (with_reducible first | exact HB.out | apply below_alloc | apply pw_below_drewN | apply below_drew1 | refine below_set ?_ GE1015.out | refine below_set ?_ GE1016.out) | exact HB.out)⟩
   ·rw [if_neg c9] at H
    have c9b0 : decide (x9_1 < (wrap64 (t1017 + 1))) = false := decide_eq_false c9
    clear c9
    obtain rfl := Option.some.inj H
    go_wp2
    go_ret
    exact ⟨by first | rfl | (simp [errW_none, errW_some] <;> rfl) | (simp [*, errW_none, errW_some] <;> rfl), by repeat (first | (with_reducible first | exact HB.out | apply below_alloc | apply pw_below_drewN | apply below_drew1 | refine below_set ?_ GE1015.out | refine below_set ?_ GE1016.out) | exact HB.out)⟩
end Go.Proofs.Ytlkjglanglpdoaa.T
namespace Go.Proofs.Ytlkjglanglpdoaa.T
open Go.RowKit Go.Proofs.YtlkjglanglpdoaaW.PrintWords Go.Proofs.YtlkjglanglpdoaaW.PrintLast Go.Proofs.YtlkjglanglpdoaaW.PrintMore
attribute [local go_sem] max2_int min2_int max_two min_two max_three min_three max_four min_four
set_option linter.unusedVariables false
set_option linter.unusedSimpArgs false
def impl_Isles_allIn.f (a0_0 : Int) (a0_1 : Int) (a0_2 : Int) (a1 : Int) : Option (List Int × Int) := (impl_Isles_people.f a0_0 a0_1 a0_2).bind fun t1170 => ((slices_Repeat_int_int.f (([a1] : List Int)) t1170).bind fun t1171 => (some (t1171, a1)))
set_option maxHeartbeats 8000000 in
set_option maxRecDepth 100000 in
theorem impl_Isles_allIn.calls (a0_0 : Int) (a0_1 : Int) (a0_2 : Int) (a1 : Int) (r1 : List Int) (r2 : Int) (w : World) (h : impl_Isles_allIn.f a0_0 a0_1 a0_2 a1 = some (r1, r2)) :
  Calls Try.prog 188 #[.agg #[.int .i64 a0_0, .int .i64 a0_1, .int .i64 a0_2], .int .i64 a1] w fun e w' => ∃ v0_ : Value, e = .returned (.agg #[v0_, .int .i64 r2]) ∧ Kd.R (Kd.int .i64) 3 w' w.heap.size (fun _ => True) v0_ r1 ∧ Below w.heap.size w w' := by
 have hu39 := Try.underlying39
 have hu64 := Try.underlying64
 have HB := Aside0.mk (Below.refl w.heap.size w)
 have H : ((impl_Isles_people.f a0_0 a0_1 a0_2).bind fun t1170 => ((slices_Repeat_int_int.f (([a1] : List Int)) t1170).bind fun t1171 => (some (t1171, a1)))) = some (r1, r2) := h
 clear h
 obtain ⟨y1167, hy1167⟩ : ∃ y_ : List Int, y_ = (([a1] : List Int)) := ⟨_, rfl⟩
 replace H : ((impl_Isles_people.f a0_0 a0_1 a0_2).bind fun t1170 => ((slices_Repeat_int_int.f y1167 t1170).bind fun t1171 => (some (t1171, a1)))) = some (r1, r2) := by first | (rw [hy1167]; with_reducible exact H) | (have H2_ := (Option.bind_some _ _).symm.trans H; rw [hy1167]; with_reducible exact H2_) | (have H2_ := (Option.bind_some _ _).symm.trans H; with_reducible exact H2_) | with_reducible exact H | (rw [hy1167]; exact H) | exact H
 have Ny1167 := Aside0.mk hy1167
 clear hy1167
 replace H := Option.bind_eq_some_iff.mp H
 obtain ⟨t1170, A30, H⟩ := H
 replace H : ((slices_Repeat_int_int.f y1167 t1170).bind fun t1171 => (some (t1171, a1))) = some (r1, r2) := H
 have A3 := Aside0.mk A30
 clear A30
 replace H := Option.bind_eq_some_iff.mp H
 obtain ⟨t1171, A40, H⟩ := H
 replace H : (some (t1171, a1)) = some (r1, r2) := H
 have A4 := Aside0.mk A40
 clear A40
 simp only [Option.some.injEq, Prod.mk.injEq] at H
 obtain ⟨rfl, rfl⟩ := H
 go_enter Try.func188, Try.ntmps188
 go_wp2_with (first | ((with_reducible refine gate_dst (N := 2) rfl ?_); refine box_event ?hg (N := 2) ?hd (cs := #[.int .i64 a0_0, .int .i64 a0_1, .int .i64 a0_2]) (t := 39) ?hr ?_; (case hd => rfl); (case hg => rfl); (case hr => first | (go_simp; done) | (go_simp; rfl)); intro gb1165 hg w5 hbox hb; have n0_ := Aside0.mk (below_step (by repeat (first | (with_reducible first | exact HB.out | apply below_alloc | apply pw_below_drewN | apply below_drew1) | exact HB.out)) hb); have n1_ := Aside0.mk (hbox); have n2_ := Aside0.mk ((by rw [hg]; exact (below_size (by repeat (first | (with_reducible first | exact HB.out | apply below_alloc | apply pw_below_drewN | apply below_drew1) | exact HB.out))) : w.heap.size ≤ gb1165)); have n3_ := Aside0.mk ((by rw [hg]; exact (below_size (by repeat (first | (with_reducible first | exact HB.out | apply below_alloc | apply pw_below_drewN | apply below_drew1) | exact HB.out))) : w.heap.size ≤ gb1165)); clear HB; have HB := n0_; have BK1165 := n1_; have GW1165 := n2_; have GE1165 := n3_; clear n0_ n1_ n2_ n3_; clear hb hbox hg) | ((with_reducible refine gate_dst (N := 4) rfl ?_); refine box_event ?hg (N := 4) ?hd (cs := #[.slice none 0 0, .int .i64 0]) (t := 64) ?hr ?_; (case hd => rfl); (case hg => rfl); (case hr => first | (go_simp; done) | (go_simp; rfl)); intro gb1166 hg w6 hbox hb; have n0_ := Aside0.mk (blk_below (g := gb1165) (o := .cells #[.int .i64 a0_0, .int .i64 a0_1, .int .i64 a0_2] 39 (0, 0)) (by (with_reducible repeat (first | refine blk_drewN ?_ _ | refine blk_drew ?_ | refine blk_alloc ?_ _)); exact BK1165.out) hb); have n1_ := Aside0.mk (below_step (by repeat (first | (with_reducible first | exact HB.out | apply below_alloc | apply pw_below_drewN | apply below_drew1 | refine below_set ?_ GE1165.out) | exact HB.out)) hb); have n2_ := Aside0.mk (hbox); have n3_ := Aside0.mk ((by rw [hg]; exact (below_size (by repeat (first | (with_reducible first | exact HB.out | apply below_alloc | apply pw_below_drewN | apply below_drew1 | refine below_set ?_ GE1165.out) | exact HB.out))) : w.heap.size ≤ gb1166)); have n4_ := Aside0.mk ((by rw [hg]; exact (below_size (by repeat (first | (with_reducible first | exact HB.out | apply below_alloc | apply pw_below_drewN | apply below_drew1 | refine below_set ?_ GE1165.out) | exact HB.out))) : w.heap.size ≤ gb1166)); have n5_ := Aside0.mk ((by rw [hg]; exact Nat.ne_of_lt (blk_lt (g := gb1165) (o := .cells #[.int .i64 a0_0, .int .i64 a0_1, .int .i64 a0_2] 39 (0, 0)) (by (with_reducible repeat (first | refine blk_drewN ?_ _ | refine blk_drew ?_ | refine blk_alloc ?_ _)); exact BK1165.out)) : gb1165 ≠ gb1166)); have n6_ := Aside0.mk ((by rw [hg]; exact Nat.ne_of_gt (blk_lt (g := gb1165) (o := .cells #[.int .i64 a0_0, .int .i64 a0_1, .int .i64 a0_2] 39 (0, 0)) (by (with_reducible repeat (first | refine blk_drewN ?_ _ | refine blk_drew ?_ | refine blk_alloc ?_ _)); exact BK1165.out)) : gb1166 ≠ gb1165)); clear BK1165; clear HB; have BK1165 := n0_; have HB := n1_; have BK1166 := n2_; have GW1166 := n3_; have GE1166 := n4_; have NB1165_1166 := n5_; have NB1166_1165 := n6_; clear n0_ n1_ n2_ n3_ n4_ n5_ n6_; clear hb hbox hg) | ((with_reducible refine gate_dst (N := 6) rfl ?_); refine Kd.R_lit (Kd.int .i64) _ 3 ?hg (N := 6) ?hd (xs := ([a1] : List Int)) (inner := [.int .i64 a1]) (ok := fun _ => True) (okp := fun _ => True) ?hr ?hp (fun _ hk => hk) trivial (Below.refl _ _) (Nat.le_refl _) (by simp) ?_; (case hd => rfl); (case hg => rfl); (case hr => first | (go_simp; done) | (go_simp; rfl)); (case hp => exact (Reps.one (show Kd.M (Kd.int .i64) _ _ _ a1 [.int .i64 a1] from rfl) (Reps.none _ _))); intro v1168 w7 ho8 hb hg_ hnew_; clear hg_ hnew_; (first | rw [← Ny1167.out] at ho8 | (simp only [Int.reduceToNat] at ho8; rw [← Ny1167.out] at ho8)); have n0_ := Aside0.mk (Kd.R_lower ho8 (below_size (by repeat (first | (with_reducible first | exact HB.out | apply below_alloc | apply pw_below_drewN | apply below_drew1 | refine below_set ?_ GE1165.out | refine below_set ?_ GE1166.out) | exact HB.out)))); have n1_ := Aside0.mk (blk_below (g := gb1165) (o := .cells #[.int .i64 a0_0, .int .i64 a0_1, .int .i64 a0_2] 39 (0, 0)) (by (with_reducible repeat (first | refine blk_drewN ?_ _ | refine blk_drew ?_ | refine blk_alloc ?_ _)); exact BK1165.out) hb); have n2_ := Aside0.mk (blk_below (g := gb1166) (o := .cells #[.slice none 0 0, .int .i64 0] 64 (0, 0)) (by (with_reducible repeat (first | refine blk_drewN ?_ _ | refine blk_drew ?_ | refine blk_alloc ?_ _)); exact BK1166.out) hb); have n3_ := Aside0.mk (below_step (by repeat (first | (with_reducible first | exact HB.out | apply below_alloc | apply pw_below_drewN | apply below_drew1 | refine below_set ?_ GE1165.out | refine below_set ?_ GE1166.out) | exact HB.out)) hb); clear BK1165; clear BK1166; clear HB; have HO1169 := n0_; have BK1165 := n1_; have BK1166 := n2_; have HB := n3_; clear n0_ n1_ n2_ n3_; clear hb ho8; have hnb9 := NB1165_1166.out; have hnc9 := NB1166_1165.out; have hcz10_0 : w7.cell? ⟨gb1165, 0, none⟩ = some (.int .i64 a0_0) := (blk_cell BK1165.out 0).trans rfl; have hcz10_1 : w7.cell? ⟨gb1165, 1, none⟩ = some (.int .i64 a0_1) := (blk_cell BK1165.out 1).trans rfl; have hcz10_2 : w7.cell? ⟨gb1165, 2, none⟩ = some (.int .i64 a0_2) := (blk_cell BK1165.out 2).trans rfl; have hfz10_0 := blk_frozen BK1165.out 0; have hfz10_1 := blk_frozen BK1165.out 1; have hfz10_2 := blk_frozen BK1165.out 2) | ((with_reducible refine gate_callee (f := 274) rfl ?_); refine goesL_ (some 8) rfl rfl Try.func274 (by kernel_rfl) rfl #[.agg #[.int .i64 a0_0, .int .i64 a0_1, .int .i64 a0_2]] rfl (by (try simp only [List.map_toArray, List.map_cons, List.map_nil]); first | done | rfl | (simp only [List.length_drop, List.length_take]; rfl)) ?_; (with_reducible refine (impl_Isles_people.calls a0_0 a0_1 a0_2 t1170 _ A3.out).mono ?_); rintro e w11 ⟨rfl, hb⟩; refine ⟨_, rfl, ?_⟩; have n0_ := Aside0.mk (Kd.R_below (by (with_reducible repeat (first | apply Kd.R_alloc | apply Kd.R_drewN | apply Kd.R_drew)); exact HO1169.out) hb); have n1_ := Aside0.mk (blk_below (g := gb1165) (o := .cells #[.int .i64 a0_0, .int .i64 a0_1, .int .i64 a0_2] 39 (0, 0)) (by (with_reducible repeat (first | refine blk_drewN ?_ _ | refine blk_drew ?_ | refine blk_alloc ?_ _)); exact BK1165.out) hb); have n2_ := Aside0.mk (blk_below (g := gb1166) (o := .cells #[.slice none 0 0, .int .i64 0] 64 (0, 0)) (by (with_reducible repeat (first | refine blk_drewN ?_ _ | refine blk_drew ?_ | refine blk_alloc ?_ _)); exact BK1166.out) hb); have n3_ := Aside0.mk (below_step (by repeat (first | (with_reducible first | exact HB.out | apply below_alloc | apply pw_below_drewN | apply below_drew1 | refine below_set ?_ GE1165.out | refine below_set ?_ GE1166.out) | exact HB.out)) hb); clear HO1169; clear BK1165; clear BK1166; clear HB; have HO1169 := n0_; have BK1165 := n1_; have BK1166 := n2_; have HB := n3_; clear n0_ n1_ n2_ n3_; (try clear hb); (try clear hb2); (try clear hk); (try clear hi); obtain ⟨Ao12, co12, eo12⟩ := Kd.R_slice HO1169.out; subst eo12) | ((with_reducible refine gate_callee (f := 277) rfl ?_); refine goesL_ (some 9) rfl rfl Try.func277 (by kernel_rfl) rfl #[.slice Ao12 y1167.length co12, .int .i64 t1170] rfl (by (try simp only [List.map_toArray, List.map_cons, List.map_nil]); first | done | rfl | (simp only [List.length_drop, List.length_take]; rfl)) ?_; (with_reducible refine (slices_Repeat_int_int.calls _ _ y1167 t1170 t1171 _ ?side1 ?side2 A4.out).mono ?_); (case side1 => repeat (first | exact (Kd.R_reads' HO1169.out).2.2 | (with_reducible refine Kd.C_alloc ?_ _) | (with_reducible refine Kd.C_drewN ?_ _) | (with_reducible refine Kd.C_drew ?_))); (case side2 => exact (Kd.R_reads' HO1169.out).2.1); rintro e w13 ⟨v1172, rfl, ho0, hb⟩; refine ⟨_, rfl, ?_⟩; have n0_ := Aside0.mk (Kd.R_elder' (by (with_reducible repeat (first | apply Kd.R_alloc | apply Kd.R_drewN | apply Kd.R_drew)); exact HO1169.out) (Kd.R_base ho0) hb); have n1_ := Aside0.mk (Kd.R_lower (Kd.R_new' ho0 (Kd.R_lt (by (with_reducible repeat (first | apply Kd.R_alloc | apply Kd.R_drewN | apply Kd.R_drew)); exact HO1169.out))) (below_size (by repeat (first | (with_reducible first | exact HB.out | apply below_alloc | apply pw_below_drewN | apply below_drew1 | refine below_set ?_ GE1165.out | refine below_set ?_ GE1166.out) | exact HB.out)))); have n2_ := Aside0.mk (blk_below (g := gb1165) (o := .cells #[.int .i64 a0_0, .int .i64 a0_1, .int .i64 a0_2] 39 (0, 0)) (by (with_reducible repeat (first | refine blk_drewN ?_ _ | refine blk_drew ?_ | refine blk_alloc ?_ _)); exact BK1165.out) hb); have n3_ := Aside0.mk (blk_below (g := gb1166) (o := .cells #[.slice none 0 0, .int .i64 0] 64 (0, 0)) (by (with_reducible repeat (first | refine blk_drewN ?_ _ | refine blk_drew ?_ | refine blk_alloc ?_ _)); exact BK1166.out) hb); have n4_ := Aside0.mk (below_step (by repeat (first | (with_reducible first | exact HB.out | apply below_alloc | apply pw_below_drewN | apply below_drew1 | refine below_set ?_ GE1165.out | refine below_set ?_ GE1166.out) | exact HB.out)) hb); clear HO1169; clear BK1165; clear BK1166; clear HB; have HO1169 := n0_; have HO1173 := n1_; have BK1165 := n2_; have BK1166 := n3_; have HB := n4_; clear n0_ n1_ n2_ n3_ n4_; (try clear hb); (try clear hb2); (try clear hk); (try clear hi); (try clear ho0); obtain ⟨Ao14, co14, eo14⟩ := Kd.R_slice HO1173.out; subst eo14; have hcz15_0 : w13.cell? ⟨gb1166, 0, none⟩ = some (.slice none 0 0) := (blk_cell BK1166.out 0).trans rfl; have hcz15_1 : w13.cell? ⟨gb1166, 1, none⟩ = some (.int .i64 0) := (blk_cell BK1166.out 1).trans rfl; have hfz15_0 := blk_frozen BK1166.out 0; have hfz15_1 := blk_frozen BK1166.out 1))
 refine bodyPost_ret (results_cell_row rfl _ _ gb1166 64 #[.slice Ao14 t1171.length co14, .int .i64 a1] (0, 0) _ rfl (by (with_reducible repeat (first | refine blk_drewN ?_ _ | refine blk_drew ?_ | refine blk_alloc ?_ _)); refine blk_put (cs := #[.slice Ao14 t1171.length co14, .int .i64 0]) ?_ 1 _ rfl; (with_reducible repeat (first | refine blk_drewN ?_ _ | refine blk_drew ?_ | refine blk_alloc ?_ _)); refine blk_put (cs := #[.slice none 0 0, .int .i64 0]) ?_ 0 _ rfl; (with_reducible repeat (first | refine blk_drewN ?_ _ | refine blk_drew ?_ | refine blk_alloc ?_ _)); exact BK1166.out) Try.underlying64 rfl (by kernel_rfl)) rfl ?_
 exact ⟨_, by first | rfl | (simp [errW_none, errW_some] <;> rfl) | (simp [*, errW_none, errW_some] <;> rfl), by (with_reducible repeat (first | apply Kd.R_alloc | apply Kd.R_drewN | apply Kd.R_drew)); exact Kd.R_mono (Kd.R_far (p := ⟨gb1166, 1, none⟩) (Kd.R_far (p := ⟨gb1166, 0, none⟩) (Kd.R_types HO1173.out BK1166.out (by decide)) (fun _ hk => hk.2) (.slice Ao14 t1171.length co14)) (fun _ hk => hk.2) (.int .i64 a1)) (fun _ hk => trivial), by repeat (first | (with_reducible first | exact HB.out | apply below_alloc | apply pw_below_drewN | apply below_drew1 | refine below_set ?_ GE1165.out | refine below_set ?_ GE1166.out) | exact HB.out)⟩
end Go.Proofs.Ytlkjglanglpdoaa.T
namespace Go.Proofs.Ytlkjglanglpdoaa.T
open Go.RowKit Go.Proofs.YtlkjglanglpdoaaW.PrintWords Go.Proofs.YtlkjglanglpdoaaW.PrintLast Go.Proofs.YtlkjglanglpdoaaW.PrintMore
attribute [local go_sem] max2_int min2_int max_two min_two max_three min_three max_four min_four
set_option linter.unusedVariables false
set_option linter.unusedSimpArgs false
def impl_Isles_many.l0 : Nat → Int → Int → Int → Option (Int)
 | 0, _, _, _ => none
 | k + 1, x3, x5, x6 => if x6 < x5 then (impl_Isles_many.l0 k (wrap64 (x3 * 4)) x5 (wrap64 (x6 + 1))) else (some x3)
def impl_Isles_many.f (k : Nat) (a0_0 : Int) (a0_1 : Int) (a0_2 : Int) : Option (Int) := (impl_Isles_people.f a0_0 a0_1 a0_2).bind fun t2613 => (impl_Isles_many.l0 k 4 t2613 0)
theorem impl_Isles_many.mono_l : ∀ k, (∀ y0 y1 y2, LeO (impl_Isles_many.l0 k y0 y1 y2) (impl_Isles_many.l0 (k + 1) y0 y1 y2))
 | 0 => fun _ _ _ r h => by simp [impl_Isles_many.l0] at h
 | k + 1 => by
  have ih0 := impl_Isles_many.mono_l k
  ·intro y0 y1 y2
   unfold impl_Isles_many.l0
   repeat' first
   | (with_reducible exact ih0 _ _ _)
   | (with_reducible exact LeO.refl _)
   | (with_reducible exact LeO.none _)
   | (with_reducible refine LeO.ite ?_ ?_)
   | (with_reducible refine LeO.bind ?_ (fun _ => ?_))
   | exact ih0 _ _ _
   | exact LeO.none _
   | refine LeO.ite ?_ ?_
   | refine LeO.bind ?_ (fun _ => ?_)
theorem impl_Isles_many.mono : ∀ a0 a1 a2 k, LeO (impl_Isles_many.f k a0 a1 a2) (impl_Isles_many.f (k + 1) a0 a1 a2) := by
 intro a0 a1 a2 k
 have ih0 := impl_Isles_many.mono_l k
 unfold impl_Isles_many.f
 repeat' first
   | (with_reducible exact ih0 _ _ _)
   | (with_reducible exact LeO.refl _)
   | (with_reducible exact LeO.none _)
   | (with_reducible refine LeO.ite ?_ ?_)
   | (with_reducible refine LeO.bind ?_ (fun _ => ?_))
   | exact ih0 _ _ _
   | exact LeO.none _
   | refine LeO.ite ?_ ?_
   | refine LeO.bind ?_ (fun _ => ?_)
set_option maxHeartbeats 8000000 in
set_option maxRecDepth 100000 in
theorem impl_Isles_many.calls (k : Nat) (a0_0 : Int) (a0_1 : Int) (a0_2 : Int) (r : Int) (w : World) (h : impl_Isles_many.f k a0_0 a0_1 a0_2 = some r) :
  Calls Try.prog 251 #[.agg #[.int .i64 a0_0, .int .i64 a0_1, .int .i64 a0_2]] w fun e w' => e = .returned (.int .i64 r) ∧ Below w.heap.size w w' := by
 have hu39 := Try.underlying39
 have HB := Aside0.mk (Below.refl w.heap.size w)
 have H : ((impl_Isles_people.f a0_0 a0_1 a0_2).bind fun t2613 => (impl_Isles_many.l0 k 4 t2613 0)) = some r := h
 clear h
 replace H := Option.bind_eq_some_iff.mp H
 obtain ⟨t2613, A20, H⟩ := H
 replace H : (impl_Isles_many.l0 k 4 t2613 0) = some r := H
 have A2 := Aside0.mk A20
 clear A20
 have H' := Aside0.mk H
 clear H
 go_enter Try.func251, Try.ntmps251
 go_wp2_with (first | ((with_reducible refine gate_dst (N := 1) rfl ?_); refine box_event ?hg (N := 1) ?hd (cs := #[.int .i64 a0_0, .int .i64 a0_1, .int .i64 a0_2]) (t := 39) ?hr ?_; (case hd => rfl); (case hg => rfl); (case hr => first | (go_simp; done) | (go_simp; rfl)); intro gb2612 hg w3 hbox hb; have n0_ := Aside0.mk (below_step (by repeat (first | (with_reducible first | exact HB.out | apply below_alloc | apply pw_below_drewN | apply below_drew1) | exact HB.out)) hb); have n1_ := Aside0.mk (hbox); have n2_ := Aside0.mk ((by rw [hg]; exact (below_size (by repeat (first | (with_reducible first | exact HB.out | apply below_alloc | apply pw_below_drewN | apply below_drew1) | exact HB.out))) : w.heap.size ≤ gb2612)); have n3_ := Aside0.mk ((by rw [hg]; exact (below_size (by repeat (first | (with_reducible first | exact HB.out | apply below_alloc | apply pw_below_drewN | apply below_drew1) | exact HB.out))) : w.heap.size ≤ gb2612)); clear HB; have HB := n0_; have BK2612 := n1_; have GW2612 := n2_; have GE2612 := n3_; clear n0_ n1_ n2_ n3_; clear hb hbox hg; have hcz4_0 : w3.cell? ⟨gb2612, 0, none⟩ = some (.int .i64 a0_0) := (blk_cell BK2612.out 0).trans rfl; have hcz4_1 : w3.cell? ⟨gb2612, 1, none⟩ = some (.int .i64 a0_1) := (blk_cell BK2612.out 1).trans rfl; have hcz4_2 : w3.cell? ⟨gb2612, 2, none⟩ = some (.int .i64 a0_2) := (blk_cell BK2612.out 2).trans rfl; have hfz4_0 := blk_frozen BK2612.out 0; have hfz4_1 := blk_frozen BK2612.out 1; have hfz4_2 := blk_frozen BK2612.out 2) | ((with_reducible refine gate_callee (f := 274) rfl ?_); refine goesL_ (some 5) rfl rfl Try.func274 (by kernel_rfl) rfl #[.agg #[.int .i64 a0_0, .int .i64 a0_1, .int .i64 a0_2]] rfl (by (try simp only [List.map_toArray, List.map_cons, List.map_nil]); first | done | rfl | (simp only [List.length_drop, List.length_take]; rfl)) ?_; (with_reducible refine (impl_Isles_people.calls a0_0 a0_1 a0_2 t2613 _ A2.out).mono ?_); rintro e w5 ⟨rfl, hb⟩; refine ⟨_, rfl, ?_⟩; have n0_ := Aside0.mk (blk_below (g := gb2612) (o := .cells #[.int .i64 a0_0, .int .i64 a0_1, .int .i64 a0_2] 39 (0, 0)) (by (with_reducible repeat (first | refine blk_drewN ?_ _ | refine blk_drew ?_ | refine blk_alloc ?_ _)); exact BK2612.out) hb); have n1_ := Aside0.mk (below_step (by repeat (first | (with_reducible first | exact HB.out | apply below_alloc | apply pw_below_drewN | apply below_drew1 | refine below_set ?_ GE2612.out) | exact HB.out)) hb); clear BK2612; clear HB; have BK2612 := n0_; have HB := n1_; clear n0_ n1_; (try clear hb); (try clear hb2); (try clear hk); (try clear hi)))
 go_loopg [3, 6] k (fun kq v3 v6 w' => ∃ (x3_1 : Int) (x6_1 : Int), v3 = .int .i64 x3_1 ∧ v6 = .int .i64 x6_1 ∧ Aside0 (impl_Isles_many.l0 kq x3_1 t2613 x6_1 = some r) ∧ Aside0 (kq ≤ k) ∧ Aside0 (w'.heap[gb2612]? = some (.cells #[.int .i64 a0_0, .int .i64 a0_1, .int .i64 a0_2] 39 (0, 0))) ∧ Aside0 (Below w.heap.size w w'))
 case atStart => exact ⟨(4), (0), (by first | rfl | (simp; done) | (simp [*]; done)), (by first | rfl | (simp; done) | (simp [*]; done)), H', ⟨Nat.le_refl _⟩, ⟨by (with_reducible repeat (first | refine blk_drewN ?_ _ | refine blk_drew ?_ | refine blk_alloc ?_ _)); exact BK2612.out⟩, ⟨by repeat (first | (with_reducible first | exact HB.out | apply below_alloc | apply pw_below_drewN | apply below_drew1 | refine below_set ?_ GE2612.out) | exact HB.out)⟩⟩
 case round =>
  clear H'
  try clear c2
  try clear p2
  try clear hcz4_0
  try clear hcz4_1
  try clear hcz4_2
  try clear hfz4_0
  try clear hfz4_1
  try clear hfz4_2
  obtain ⟨x3_1, x6_1, rfl, rfl, HA, HK1, BK2612, HB⟩ := hrel
  cases gk with
  | zero => exact absurd HA.out (by simp [impl_Isles_many.l0])
  | succ k1 =>
   have H := HA.out
   clear HA
   simp only [impl_Isles_many.l0] at H
   by_cases c6 : x6_1 < t2613
   ·rw [if_pos c6] at H
    have c6b0 : decide (x6_1 < t2613) = true := decide_eq_true c6
    clear c6
    have H' := Aside0.mk H
    clear H
    go_wp2
    go_roundg k1
    case measure => have := HK1.out; omega
    case rel => exact ⟨(wrap64 (x3_1 * 4)), (wrap64 (x6_1 + 1)), (by first | rfl | (simp; done) | (simp [*]; done)), (by first | rfl | (simp; done) | (simp [*]; done)), H', ⟨by have := HK1.out; omega⟩, ⟨by (with_reducible repeat (first | refine blk_drewN ?_ _ | refine blk_drew ?_ | refine blk_alloc ?_ _)); exact BK2612.out⟩, ⟨by repeat (first | (with_reducible first | exact HB.out | apply below_alloc | apply pw_below_drewN | apply below_drew1 | refine below_set ?_ GE2612.out) | exact HB.out)⟩⟩
   ·rw [if_neg c6] at H
    have c6b0 : decide (x6_1 < t2613) = false := decide_eq_false c6
    clear c6
    obtain rfl := Option.some.inj H
    go_wp2
    go_ret
    exact ⟨by first | rfl | (simp [errW_none, errW_some] <;> rfl) | (simp [*, errW_none, errW_some] <;> rfl), by repeat (first | (with_reducible first | exact HB.out | apply below_alloc | apply pw_below_drewN | apply below_drew1 | refine below_set ?_ GE2612.out) | exact HB.out)⟩
end Go.Proofs.Ytlkjglanglpdoaa.T
namespace Go.Proofs.Ytlkjglanglpdoaa.T
open Go.RowKit Go.Proofs.YtlkjglanglpdoaaW.PrintWords Go.Proofs.YtlkjglanglpdoaaW.PrintLast Go.Proofs.YtlkjglanglpdoaaW.PrintMore
set_option linter.unusedVariables false
set_option linter.unusedSimpArgs false
def standFrom (p : Int) : Int → List Int → List Int
  | _, [] => []
  | i, x :: xs => if x = p then i :: standFrom p (i + 1) xs else standFrom p (i + 1) xs
def stand (at_ : List Int) (p : Int) : List Int := standFrom p 0 at_
def gone (at_ : List Int) (tt : Int) (l : List Int) : List Int := l.foldl (fun a k => a.set k.toNat tt) at_
def calmAt (n : Nat) (at_ : List Int) : Bool := (List.range n).all fun p => calmL (stand at_ (p : Int))
def codeB (base : Int) (at_ : List Int) (b : Int) : Int := at_.foldl (fun c x => c * base + x) b
theorem rd_cons_drop (l : List Int) (i : Nat) (h : i < l.length) : l.drop i = rd l (i : Int) :: l.drop (i + 1) := by
  unfold rd
  rw [Int.toNat_natCast, List.getD_eq_getElem?_getD, List.getElem?_eq_getElem h]
  exact (List.getElem_cons_drop h).symm
theorem standFrom_length (p : Int) : ∀ (l : List Int) (i : Int), (standFrom p i l).length ≤ l.length
  | [], _ => Nat.le_refl _
  | x :: xs, i => by
    unfold standFrom
    have := standFrom_length p xs (i + 1)
    split <;> simp <;> omega
theorem standing_l0 (at_ : List Int) (p : Int) (hl : at_.length ≤ 1048576) : ∀ (d k i : Nat) (out : List Int), i + d = at_.length → d < k → out.length ≤ i →
    impl_Places_standing.l0 k p out at_ (at_.length : Int) (i : Int) = some (out ++ standFrom p (i : Int) (at_.drop i)) := by
  intro d
  induction d with
  | zero =>
    intro k i out hi hk ho
    obtain ⟨k, rfl⟩ : ∃ m, k = m + 1 := ⟨k - 1, by omega⟩
    simp only [impl_Places_standing.l0]
    rw [if_neg (by omega), List.drop_eq_nil_of_le (by omega)]
    simp [standFrom]
  | succ d ih =>
    intro k i out hi hk ho
    obtain ⟨k, rfl⟩ : ∃ m, k = m + 1 := ⟨k - 1, by omega⟩
    have hlt : i < at_.length := by omega
    simp only [impl_Places_standing.l0]
    rw [if_pos (by omega), if_pos (by omega), if_pos (by omega), rd_cons_drop at_ i hlt, wrap_up (i : Int) (at_.length : Int) (by omega) (by omega) (by omega)]
    by_cases he : rd at_ (i : Int) = p
    · rw [if_pos he, if_pos (by omega)]
      have := ih k (i + 1) (out ++ [(i : Int)]) (by omega) (by omega) (by simp; omega)
      rw [show ((i : Int) + 1) = ((i + 1 : Nat) : Int) from by push_cast; rfl, this]
      simp only [standFrom, if_pos he]
      push_cast
      simp
    · rw [if_neg he]
      have := ih k (i + 1) out (by omega) (by omega) (by omega)
      rw [show ((i : Int) + 1) = ((i + 1 : Nat) : Int) from by push_cast; rfl, this]
      simp only [standFrom, if_neg he]
      push_cast
      rfl
theorem standing_eq (at_ : List Int) (b p : Int) (hl : at_.length ≤ 1048576) (k : Nat) (hk : at_.length < k) : impl_Places_standing.f k at_ b p = some (stand at_ p) := by
  unfold impl_Places_standing.f stand
  have := standing_l0 at_ p hl at_.length k 0 [] (by omega) hk (by simp)
  simpa using this
theorem gone_length (tt : Int) : ∀ (l at_ : List Int), (gone at_ tt l).length = at_.length
  | [], _ => rfl
  | k :: l, at_ => by
    show (gone (at_.set k.toNat tt) tt l).length = _
    rw [gone_length tt l, List.length_set]
theorem behind_l0 (tt : Int) (b : Int) (l : List Int) (hl : l.length ≤ 1048576) : ∀ (d k i : Nat) (at_ : List Int), i + d = l.length → d < k → (∀ x ∈ l.drop i, 0 ≤ x ∧ x < (at_.length : Int)) →
    impl_Places_behind.l0 k tt l (l.length : Int) (i : Int) at_ b = some (gone at_ tt (l.drop i), b) := by
  intro d
  induction d with
  | zero =>
    intro k i at_ hi hk hx
    obtain ⟨k, rfl⟩ : ∃ m, k = m + 1 := ⟨k - 1, by omega⟩
    simp only [impl_Places_behind.l0]
    rw [if_neg (by omega), List.drop_eq_nil_of_le (by omega)]
    rfl
  | succ d ih =>
    intro k i at_ hi hk hx
    obtain ⟨k, rfl⟩ : ∃ m, k = m + 1 := ⟨k - 1, by omega⟩
    have hlt : i < l.length := by omega
    rw [rd_cons_drop l i hlt] at hx ⊢
    have h0 := hx _ (List.mem_cons_self)
    simp only [impl_Places_behind.l0]
    rw [if_pos (by omega), if_pos (by omega), if_pos (by omega), if_pos h0.1, if_pos h0.2, wrap_up (i : Int) (l.length : Int) (by omega) (by omega) (by omega)]
    have := ih k (i + 1) (at_.set (rd l (i : Int)).toNat tt) (by omega) (by omega) (fun x hm => by rw [List.length_set]; exact hx x (List.mem_cons_of_mem _ hm))
    rw [show ((i : Int) + 1) = ((i + 1 : Nat) : Int) from by push_cast; rfl, this]
    rfl
theorem behind_eq (at_ : List Int) (b tt : Int) (l : List Int) (ha : at_.length ≤ 1048576) (hl : l.length ≤ 1048576) (hx : ∀ x ∈ l, 0 ≤ x ∧ x < (at_.length : Int)) (k : Nat) (hk : l.length < k) : impl_Places_behind.f k at_ b tt l = some (gone at_ tt l, tt) := by
  unfold impl_Places_behind.f slices_Clone_int_int.f
  rw [if_pos (by omega), Option.bind_some]
  have := behind_l0 tt tt l hl l.length k 0 at_ (by omega) hk (by simpa using hx)
  simpa using this
theorem areCalm_l0 (at_ : List Int) (b : Int) (hl : at_.length ≤ 1048576) (n : Nat) (hn : n ≤ 1048576) : ∀ (d k i : Nat), i + d = n → d + at_.length < k →
    impl_Isles_areCalm.l0 k (n : Int) (i : Int) at_ b = some ((List.range' i d).all fun p => calmL (stand at_ (p : Int))) := by
  intro d
  induction d with
  | zero =>
    intro k i hi hk
    obtain ⟨k, rfl⟩ : ∃ m, k = m + 1 := ⟨k - 1, by omega⟩
    simp only [impl_Isles_areCalm.l0]
    rw [if_neg (by omega)]; rfl
  | succ d ih =>
    intro k i hi hk
    obtain ⟨k, rfl⟩ : ∃ m, k = m + 1 := ⟨k - 1, by omega⟩
    simp only [impl_Isles_areCalm.l0]
    rw [if_pos (by omega), standing_eq at_ b (i : Int) hl k (by omega), Option.bind_some]
    show (if calmL (stand at_ (i : Int)) = true then _ else _) = _
    rw [List.range'_succ, List.all_cons]
    cases hc : calmL (stand at_ (i : Int))
    · simp
    · rw [if_pos rfl, wrap_up (i : Int) (n : Int) (by omega) (by omega) (by omega)]
      have := ih k (i + 1) (by omega) (by omega)
      rw [show ((i : Int) + 1) = ((i + 1 : Nat) : Int) from by push_cast; rfl, this]
      simp
theorem areCalm_eq (a0 a1 a2 : Int) (at_ : List Int) (b : Int) (hl : at_.length ≤ 1048576) (h0 : 0 ≤ a2) (h1 : a2 ≤ 2) (k : Nat) (hk : 4 + at_.length < k) : impl_Isles_areCalm.f k a0 a1 a2 at_ b = some (calmAt (a2 + 2).toNat at_) := by
  unfold impl_Isles_areCalm.f impl_Isles_far.f
  rw [Option.bind_some]
  have e : wrap64 (wrap64 (a2 + 1) + 1) = ((a2 + 2).toNat : Int) := by unfold wrap64; omega
  rw [e]
  have := areCalm_l0 at_ b hl (a2 + 2).toNat (by omega) (a2 + 2).toNat k 0 (by omega) (by omega)
  rw [show ((0 : Nat) : Int) = 0 from rfl] at this
  rw [this]
  unfold calmAt
  rw [List.range_eq_range']
theorem code_l0 (at_ : List Int) (hl : at_.length ≤ 6) (hx : ∀ x ∈ at_, 0 ≤ x ∧ x ≤ 3) : ∀ (d k i : Nat) (c : Int), i + d = at_.length → d < k → 0 ≤ c → c < 4 ^ (i + 1) →
    impl_Places_code.l0 k c at_ (at_.length : Int) (i : Int) = some (codeB 4 (at_.drop i) c) := by
  intro d
  induction d with
  | zero =>
    intro k i c hi hk h0 h1
    obtain ⟨k, rfl⟩ : ∃ m, k = m + 1 := ⟨k - 1, by omega⟩
    simp only [impl_Places_code.l0]
    rw [if_neg (by omega), List.drop_eq_nil_of_le (by omega)]; rfl
  | succ d ih =>
    intro k i c hi hk h0 h1
    obtain ⟨k, rfl⟩ : ∃ m, k = m + 1 := ⟨k - 1, by omega⟩
    have hlt : i < at_.length := by omega
    have hr := hx _ (rd_mem at_ i hlt)
    have hp : (4 : Int) ^ (i + 1) ≤ 4 ^ 6 := by
      have : i + 1 ≤ 6 := by omega
      exact_mod_cast Nat.pow_le_pow_right (by omega : 0 < 4) this
    have hp2 : (4 : Int) ^ (i + 1 + 1) = 4 ^ (i + 1) * 4 := by rw [Int.pow_succ]
    have e : wrap64 (wrap64 (c * 4) + rd at_ (i : Int)) = c * 4 + rd at_ (i : Int) := by unfold wrap64; omega
    simp only [impl_Places_code.l0]
    rw [if_pos (by omega), if_pos (by omega), if_pos (by omega), e, wrap_up (i : Int) (at_.length : Int) (by omega) (by omega) (by omega)]
    have := ih k (i + 1) (c * 4 + rd at_ (i : Int)) (by omega) (by omega) (by omega) (by rw [hp2]; omega)
    rw [show ((i : Int) + 1) = ((i + 1 : Nat) : Int) from by push_cast; rfl, this, rd_cons_drop at_ i hlt]
    rfl
theorem code_eq (at_ : List Int) (b : Int) (hl : at_.length ≤ 6) (hx : ∀ x ∈ at_, 0 ≤ x ∧ x ≤ 3) (hb : 0 ≤ b ∧ b ≤ 3) (k : Nat) (hk : at_.length < k) : impl_Places_code.f k at_ b = some (codeB 4 at_ b) := by
  unfold impl_Places_code.f
  have := code_l0 at_ hl hx at_.length k 0 b (by omega) hk hb.1 (by simp; omega)
  simpa using this
end Go.Proofs.Ytlkjglanglpdoaa.T
namespace Go.Proofs.Ytlkjglanglpdoaa.T
open Go.RowKit Go.Proofs.YtlkjglanglpdoaaW.PrintWords Go.Proofs.YtlkjglanglpdoaaW.PrintLast Go.Proofs.YtlkjglanglpdoaaW.PrintMore
set_option linter.unusedVariables false
set_option linter.unusedSimpArgs false
theorem codeB_nonneg (B : Int) (hB : 0 ≤ B) : ∀ (l : List Int) (b : Int), 0 ≤ b → (∀ x ∈ l, 0 ≤ x) → 0 ≤ codeB B l b
  | [], b, hb, _ => hb
  | x :: xs, b, hb, hx => codeB_nonneg B hB xs (b * B + x) (Int.add_nonneg (Int.mul_nonneg hb hB) (hx x List.mem_cons_self)) (fun y hy => hx y (List.mem_cons_of_mem _ hy))
theorem codeB_lt (B : Int) (hB : 1 ≤ B) : ∀ (l : List Int) (b : Int) (m : Nat), 0 ≤ b → b < B ^ m → (∀ x ∈ l, 0 ≤ x ∧ x < B) → codeB B l b < B ^ (m + l.length)
  | [], b, m, hb, h, _ => h
  | x :: xs, b, m, hb, h, hx => by
    have h0 := hx x List.mem_cons_self
    have := codeB_lt B hB xs (b * B + x) (m + 1) (Int.add_nonneg (Int.mul_nonneg hb (by omega)) h0.1) (by
      rw [Int.pow_succ]
      have h1 : b + 1 ≤ B ^ m := h
      have h2 : (b + 1) * B ≤ B ^ m * B := Int.mul_le_mul_of_nonneg_right h1 (by omega)
      rw [Int.add_mul, Int.one_mul] at h2
      omega) (fun y hy => hx y (List.mem_cons_of_mem _ hy))
    rw [show m + (x :: xs).length = m + 1 + xs.length from by simp; omega]
    exact this
theorem codeB_snoc (B : Int) (l : List Int) (x b : Int) : codeB B (l ++ [x]) b = codeB B l b * B + x := by
  unfold codeB; rw [List.foldl_append]; rfl
theorem codeB_inj (B : Int) (hB : 1 ≤ B) : ∀ (n : Nat) (l l' : List Int) (b b' : Int), l.length = n → l'.length = n → (∀ x ∈ l, 0 ≤ x ∧ x < B) → (∀ x ∈ l', 0 ≤ x ∧ x < B) → 0 ≤ b → 0 ≤ b' → codeB B l b = codeB B l' b' → l = l' ∧ b = b' := by
  intro n
  induction n with
  | zero =>
    intro l l' b b' hl hl' _ _ _ _ h
    rw [List.length_eq_zero_iff] at hl hl'
    subst hl; subst hl'
    exact ⟨rfl, h⟩
  | succ n ih =>
    intro l l' b b' hl hl' hx hx' hb hb' h
    obtain ⟨m, x, rfl⟩ : ∃ m x, l = m ++ [x] := ⟨l.dropLast, l.getLast (by rintro rfl; simp at hl), (List.dropLast_concat_getLast _).symm⟩
    obtain ⟨m', x', rfl⟩ : ∃ m x, l' = m ++ [x] := ⟨l'.dropLast, l'.getLast (by rintro rfl; simp at hl'), (List.dropLast_concat_getLast _).symm⟩
    rw [codeB_snoc, codeB_snoc] at h
    have h0 := hx x (by simp)
    have h0' := hx' x' (by simp)
    have e : x = x' ∧ codeB B m b = codeB B m' b' := by
      have h1 : (codeB B m b * B + x) % B = x := by rw [Int.add_comm, Int.add_mul_emod_self_right]; exact Int.emod_eq_of_lt h0.1 h0.2
      have h2 : (codeB B m' b' * B + x') % B = x' := by rw [Int.add_comm, Int.add_mul_emod_self_right]; exact Int.emod_eq_of_lt h0'.1 h0'.2
      have h3 : x = x' := by rw [← h1, ← h2, h]
      subst h3
      refine ⟨rfl, ?_⟩
      have h4 : codeB B m b * B = codeB B m' b' * B := by omega
      exact Int.eq_of_mul_eq_mul_right (by omega) h4
    clear h
    obtain ⟨rfl, h⟩ := e
    obtain ⟨rfl, rfl⟩ := ih m m' b b' (by simpa using hl) (by simpa using hl') (fun y hy => hx y (by simp [hy])) (fun y hy => hx' y (by simp [hy])) hb hb' h
    exact ⟨rfl, rfl⟩
theorem take_snoc (l : List Int) (i : Nat) (h : i < l.length) : l.take (i + 1) = l.take i ++ [rd l (i : Int)] := by
  rw [List.take_succ_eq_append_getElem h]
  unfold rd
  rw [Int.toNat_natCast, List.getD_eq_getElem?_getD, List.getElem?_eq_getElem h]; rfl
structure PlOk (n : Nat) (f : Int) (at_ : List Int) (b : Int) : Prop where
  len : at_.length = n
  ats : ∀ x ∈ at_, 0 ≤ x ∧ x ≤ f
  boat : 0 ≤ b ∧ b ≤ f
theorem places_l0 (at_ : List Int) (b : Int) (hl : at_.length ≤ 6) (hx : ∀ x ∈ at_, 0 ≤ x ∧ x ≤ 3) (hb : 0 ≤ b ∧ b ≤ 3) : ∀ (i k : Nat), i ≤ at_.length → i < k →
    impl_Isles_places.l0 k (codeB 4 (at_.take i) b) ((i : Int) - 1) (List.replicate i 0 ++ at_.drop i) 0 = some (at_, b) := by
  intro i
  induction i with
  | zero =>
    intro k hi hk
    obtain ⟨k, rfl⟩ : ∃ m, k = m + 1 := ⟨k - 1, by omega⟩
    simp only [impl_Isles_places.l0]
    rw [if_neg (by omega)]
    simp [codeB]
  | succ i ih =>
    intro k hi hk
    obtain ⟨k, rfl⟩ : ∃ m, k = m + 1 := ⟨k - 1, by omega⟩
    have hlt : i < at_.length := by omega
    have hr := hx _ (rd_mem at_ i hlt)
    have hn : 0 ≤ codeB 4 (at_.take i) b := codeB_nonneg 4 (by omega) _ _ hb.1 (fun x hm => (hx x (List.mem_of_mem_take hm)).1)
    have hlt2 : codeB 4 (at_.take i) b < 4 ^ (1 + (at_.take i).length) := codeB_lt 4 (by omega) _ _ 1 hb.1 (by omega) (fun x hm => by have := hx x (List.mem_of_mem_take hm); omega)
    have hp : (4 : Int) ^ (1 + (at_.take i).length) ≤ 4 ^ 7 := by
      have : 1 + (at_.take i).length ≤ 7 := by rw [List.length_take]; omega
      exact_mod_cast Nat.pow_le_pow_right (by omega : 0 < 4) this
    have hcode : codeB 4 (at_.take (i + 1)) b = codeB 4 (at_.take i) b * 4 + rd at_ (i : Int) := by rw [take_snoc at_ i hlt, codeB_snoc]
    have hm : Int.tmod (codeB 4 (at_.take i) b * 4 + rd at_ (i : Int)) 4 = rd at_ (i : Int) := by
      rw [Int.tmod_eq_emod_of_nonneg (by omega)]; omega
    have hd : wrap64 (Int.tdiv (codeB 4 (at_.take i) b * 4 + rd at_ (i : Int)) 4) = codeB 4 (at_.take i) b := by
      rw [Int.tdiv_eq_ediv_of_nonneg (by omega)]; unfold wrap64; omega
    have hlen : (List.replicate (i + 1) (0 : Int) ++ at_.drop (i + 1)).length = at_.length := by simp; omega
    simp only [impl_Isles_places.l0]
    have ee : ((i + 1 : Nat) : Int) - 1 = (i : Int) := by omega
    rw [ee, if_pos (by omega), if_pos (by omega), hlen, if_pos (by omega), hcode, hm, hd]
    have hset : (List.replicate (i + 1) (0 : Int) ++ at_.drop (i + 1)).set ((i : Int).toNat) (rd at_ (i : Int)) = List.replicate i 0 ++ at_.drop i := by
      rw [Int.toNat_natCast, rd_cons_drop at_ i hlt, List.replicate_succ', List.append_assoc, List.set_append_right (s := List.replicate i (0 : Int)) (h := by simp)]
      simp
    rw [hset, show wrap64 ((i : Int) - 1) = (i : Int) - 1 from by unfold wrap64; omega]
    exact ih k (by omega) (by omega)
theorem places_eq (a0 a1 a2 : Int) (at_ : List Int) (b : Int) (h0 : 1 ≤ a0 ∧ a0 ≤ 3) (hl : at_.length = (2 * a0).toNat) (hx : ∀ x ∈ at_, 0 ≤ x ∧ x ≤ 3) (hb : 0 ≤ b ∧ b ≤ 3) (k : Nat) (hk : at_.length < k) :
    impl_Isles_places.f k a0 a1 a2 (codeB 4 at_ b) = some (at_, b) := by
  unfold impl_Isles_places.f impl_Isles_people.f
  have e : wrap64 (2 * a0) = 2 * a0 := by unfold wrap64; omega
  simp only [Option.bind_some, e]
  rw [if_pos (by omega), if_pos (by omega)]
  have := places_l0 at_ b (by omega) hx hb at_.length k (Nat.le_refl _) hk
  rw [List.take_length, List.drop_length, List.append_nil, hl] at this
  rw [show wrap64 (2 * a0 - 1) = (((2 * a0).toNat : Nat) : Int) - 1 from by unfold wrap64; omega]
  exact this
theorem many_l0 (n : Nat) (hn : n ≤ 6) : ∀ (d k i : Nat), i + d = n → d < k → impl_Isles_many.l0 k (4 ^ (i + 1)) (n : Int) (i : Int) = some (4 ^ (n + 1)) := by
  intro d
  induction d with
  | zero =>
    intro k i hi hk
    obtain ⟨k, rfl⟩ : ∃ m, k = m + 1 := ⟨k - 1, by omega⟩
    simp only [impl_Isles_many.l0]
    rw [if_neg (by omega)]
    rw [show i = n from by omega]
  | succ d ih =>
    intro k i hi hk
    obtain ⟨k, rfl⟩ : ∃ m, k = m + 1 := ⟨k - 1, by omega⟩
    have hp : (4 : Int) ^ (i + 1) ≤ 4 ^ 6 := by
      have : i + 1 ≤ 6 := by omega
      exact_mod_cast Nat.pow_le_pow_right (by omega : 0 < 4) this
    have hp0 : (0 : Int) < 4 ^ (i + 1) := Int.pow_pos (by omega)
    simp only [impl_Isles_many.l0]
    rw [if_pos (by omega), wrap_up (i : Int) (n : Int) (by omega) (by omega) (by omega), show wrap64 (4 ^ (i + 1) * 4) = 4 ^ (i + 1 + 1) from by rw [Int.pow_succ 4 (i + 1)]; unfold wrap64; omega]
    have := ih k (i + 1) (by omega) (by omega)
    rw [show ((i : Int) + 1) = ((i + 1 : Nat) : Int) from by push_cast; rfl, this]
theorem many_eq (a0 a1 a2 : Int) (h0 : 1 ≤ a0 ∧ a0 ≤ 3) (k : Nat) (hk : 6 < k) : impl_Isles_many.f k a0 a1 a2 = some (4 ^ ((2 * a0).toNat + 1)) := by
  unfold impl_Isles_many.f impl_Isles_people.f
  rw [Option.bind_some, show wrap64 (2 * a0) = (((2 * a0).toNat : Nat) : Int) from by unfold wrap64; omega]
  exact many_l0 (2 * a0).toNat (by omega) (2 * a0).toNat k 0 (by omega) (by omega)
theorem allIn_eq (a0 a1 a2 p : Int) (h0 : 1 ≤ a0 ∧ a0 ≤ 3) : impl_Isles_allIn.f a0 a1 a2 p = some (List.replicate (2 * a0).toNat p, p) := by
  unfold impl_Isles_allIn.f impl_Isles_people.f slices_Repeat_int_int.f
  rw [Option.bind_some, show wrap64 (2 * a0) = 2 * a0 from by unfold wrap64; omega, if_pos (by simp; omega)]
  simp [rd]
end Go.Proofs.Ytlkjglanglpdoaa.T
namespace Go.Proofs.Ytlkjglanglpdoaa.T
open Go.RowKit Go.Proofs.YtlkjglanglpdoaaW.PrintWords Go.Proofs.YtlkjglanglpdoaaW.PrintLast Go.Proofs.YtlkjglanglpdoaaW.PrintMore
set_option linter.unusedVariables false
set_option linter.unusedSimpArgs false
def mayGo (n : Nat) (at_ : List Int) (tt : Int) (l : List Int) : Bool := calmL l && calmAt n (gone at_ tt l)
def voyTo (n : Nat) (at_ : List Int) (tt : Int) (ls : List (List Int)) : List S66 := (ls.filter (mayGo n at_ tt)).map fun l => ⟨tt, l⟩
theorem voyTo_snoc (n : Nat) (at_ : List Int) (tt : Int) (ls : List (List Int)) (l : List Int) : voyTo n at_ tt (ls ++ [l]) = voyTo n at_ tt ls ++ (if mayGo n at_ tt l = true then [⟨tt, l⟩] else []) := by
 unfold voyTo
 rw [List.filter_append, List.map_append]
 congr 1
 by_cases h : mayGo n at_ tt l = true
 ·rw [if_pos h]; simp [List.filter, h]
 ·rw [if_neg h]; simp [List.filter, h]
theorem voyTo_length (n : Nat) (at_ : List Int) (tt : Int) (ls : List (List Int)) : (voyTo n at_ tt ls).length ≤ ls.length := by
 unfold voyTo
 rw [List.length_map]
 exact List.length_filter_le _ _
structure Sail (W0 : World) (pw ps pt po : Nat) (a0 a1 a2 : Int) (Ap : Option Addr) (cp : Nat) (at_ : List Int) (b tt : Int) (outs : List S66) (v : Value) (w : World) : Prop where
 cw : w.heap[pw]? = some (.cells #[.int .i64 a0, .int .i64 a1, .int .i64 a2] 39 (0, 0))
 cs : w.heap[ps]? = some (.cells #[.slice Ap at_.length cp, .int .i64 b] 64 (0, 0))
 ct : w.heap[pt]? = some (.cells #[.int .i64 tt] 3 (0, 0))
 co : w.heap[po]? = some (.cells #[v] 67 (0, 0))
 row : Kd.N k66 66 w W0.heap.size (fun k => W0.heap.size ≤ k ∧ k ≠ po) v outs
 below : Below W0.heap.size W0 w
def SailI (W0 : World) (pw ps pt po : Nat) (a0 a1 a2 : Int) (Ap : Option Addr) (cp : Nat) (at_ : List Int) (b tt : Int) (outs : List S66) (dn : List (List Int)) (m : Nat → Prop) (w : World) : Prop :=
 ∃ v, Sail W0 pw ps pt po a0 a1 a2 Ap cp at_ b tt (outs ++ voyTo (a2 + 2).toNat at_ tt dn) v w ∧ m = fun k => k = po ∨ v.ownBlock = some k
section
variable {W0 : World} {pw ps pt po : Nat} {a0 a1 a2 : Int} {Ap : Option Addr} {cp : Nat} {at_ : List Int} {b tt : Int} {outs : List S66} {v : Value} {w w' : World}
theorem Sail.later (h : Sail W0 pw ps pt po a0 a1 a2 Ap cp at_ b tt outs v w) (hb : Below w.heap.size w w') : Sail W0 pw ps pt po a0 a1 a2 Ap cp at_ b tt outs v w' :=
 ⟨blk_below h.cw hb, blk_below h.cs hb, blk_below h.ct hb, blk_below h.co hb, Kd.N_below h.row hb, h.below.trans (hb.mono h.below.size)⟩
theorem Sail.own (h : Sail W0 pw ps pt po a0 a1 a2 Ap cp at_ b tt outs v w) : ∀ k, v.ownBlock = some k → W0.heap.size ≤ k ∧ k ≠ po ∧ k < w.heap.size := by
 intro k hk
 exact ⟨(h.row.1 k hk).1, (h.row.1 k hk).2, Kd.N_lt h.row k hk⟩
end
set_option maxHeartbeats 6400000 in
set_option maxRecDepth 100000 in
theorem sail_call (W0 : World) (pw ps pt po : Nat) (a0 a1 a2 : Int) (Ap : Option Addr) (cp : Nat) (at_ : List Int) (b tt : Int) (outs : List S66) (v : Value) (w : World)
  (hS : Sail W0 pw ps pt po a0 a1 a2 Ap cp at_ b tt outs v w) (hpo : W0.heap.size ≤ po) (h2 : 0 ≤ a2 ∧ a2 ≤ 2) (hat : at_.length ≤ 1048576) (hA : Kd.C (Kd.int .i64) W0 Ap at_.length at_) (hcp : at_.length ≤ cp)
  (Al : Option Addr) (cl : Nat) (l : List Int) (hl : l.length ≤ 1048576) (hx : ∀ x ∈ l, 0 ≤ x ∧ x < (at_.length : Int)) (B : Nat) (hL : Kd.R (Kd.int .i64) 3 w B (fun _ => True) (.slice Al l.length cl) l) (hB : W0.heap.size ≤ B ∧ po < B ∧ ∀ k, v.ownBlock = some k → k < B) (hout : outs.length < 1048576) :
  Calls Try.prog 270 #[.slice Al l.length cl, .pointer (some ⟨pw, 0, none⟩), .pointer (some ⟨ps, 0, none⟩), .pointer (some ⟨pt, 0, none⟩), .pointer (some ⟨po, 0, none⟩)] w fun e w' =>
   e = .returned (.tuple #[]) ∧ ∃ v', Sail W0 pw ps pt po a0 a1 a2 Ap cp at_ b tt (outs ++ (if mayGo (a2 + 2).toNat at_ tt l = true then [⟨tt, l⟩] else [])) v' w' ∧ (∀ k, (k = po ∨ v'.ownBlock = some k) → (k = po ∨ v.ownBlock = some k) ∨ w.heap.size ≤ k) ∧ Kept w w' (fun k => k = po ∨ v.ownBlock = some k) := by
 have HS := Aside0.mk hS
 have HPO := Aside0.mk hpo
 have HAR := Aside0.mk (Kd.C_below hA hS.below)
 have HAC := Aside0.mk hcp
 have HLR := Aside0.mk (Kd.R_reads' hL).2.2
 have HLC := Aside0.mk (Kd.R_reads' hL).2.1
 have HL := Aside0.mk hL
 have HBB := Aside0.mk hB
 have HOUT := Aside0.mk hout
 have HC0 := Aside0.mk (show w.cell? ⟨pw, 0, none⟩ = some (.int .i64 a0) from (blk_cell hS.cw 0).trans rfl)
 have HC1 := Aside0.mk (show w.cell? ⟨pw, 1, none⟩ = some (.int .i64 a1) from (blk_cell hS.cw 1).trans rfl)
 have HC2 := Aside0.mk (show w.cell? ⟨pw, 2, none⟩ = some (.int .i64 a2) from (blk_cell hS.cw 2).trans rfl)
 have HS0 := Aside0.mk (show w.cell? ⟨ps, 0, none⟩ = some (.slice Ap at_.length cp) from (blk_cell hS.cs 0).trans rfl)
 have HS1 := Aside0.mk (show w.cell? ⟨ps, 1, none⟩ = some (.int .i64 b) from (blk_cell hS.cs 1).trans rfl)
 have HT0 := Aside0.mk (show w.cell? ⟨pt, 0, none⟩ = some (.int .i64 tt) from (blk_cell hS.ct 0).trans rfl)
 have HBE := Aside0.mk (behind_eq at_ b tt l hat hl hx (l.length + 1) (by omega))
 have HCM := Aside0.mk (areCalm_eq a0 a1 a2 (gone at_ tt l) tt (by rw [gone_length]; exact hat) h2.1 h2.2 (at_.length + 5) (by rw [gone_length]; omega))
 clear hS hpo hA hcp hL hB hout h2 hat hl hx
 cases hca : calmL l
 ·have HCA := Aside0.mk hca
  have hm : mayGo (a2 + 2).toNat at_ tt l = false := by unfold mayGo; rw [hca]; rfl
  rw [hm, if_neg (by decide), List.append_nil]
  clear hm hca
  go_enter Try.func270, Try.ntmps270
  go_wp2
  refine start_ (n := 10) (S := fun w' => Below w.heap.size w w') (ds := []) #[false, false, false, false, false, false, false, false, false, false] (by kernel_rfl) rfl rfl (Below.refl _ _).drew (fun hHeld => ?_)
  refine pure_ (i := 0) (N := some 6) (v := ?_) (a' := ?_) #[true, false, false, false, false, false, false, false, false, false] rfl rfl (by kernel_rfl) (fun _ _ _ h => h) (Or.inl ⟨by rfl, ?_⟩) ?_ ?_
  rotate_left
  ·intro w'
   go_simp
   with_reducible rfl
  rotate_left
  ·simp only [Act.put, List.setIfInBounds_toArray, List.set_cons_zero, List.set_cons_succ, i64_w, i32_w]
   rfl
  refine one_ (i := 1) (N := some 7) #[true, true, false, false, false, false, false, false, false, false] rfl rfl (by kernel_rfl) (by decide) (fun K hK => ?_)
  refine goes_ Try.func163 (by kernel_rfl) rfl #[.slice Al l.length cl] (by rfl) rfl rfl (by (try simp only [List.map_toArray, List.map_cons, List.map_nil]); first | done | rfl) ?_
  with_reducible refine (impl_calm.calls _ _ l (calmL l) _ (Kd.C_below HLR.out hHeld) HLC.out rfl).mono ?_
  rintro e w7 ⟨rfl, hb7⟩
  rw [HCA.out]
  have HB7 := Aside0.mk (below_step hHeld hb7)
  clear hb7
  refine ⟨_, rfl, ?_⟩
  refine hK.out _ _ (HB7.out) (fun hHeld => ?_)
  clear hK K
  refine norm_ (a' := ?_) ?_ ?_
  rotate_left
  ·show Act.put _ (some 7) _ = _
   simp only [Act.put, List.setIfInBounds_toArray, List.set_cons_zero, List.set_cons_succ, i64_w, i32_w]
   rfl
  refine pure_ (i := 2) (N := some 8) (v := ?_) (a' := ?_) #[true, true, true, false, false, false, false, false, false, false] rfl rfl (by kernel_rfl) (fun _ _ _ h => h) (Or.inl ⟨by rfl, ?_⟩) ?_ ?_
  rotate_left
  ·intro w'
   go_simp
   with_reducible rfl
  rotate_left
  ·simp only [Act.put, List.setIfInBounds_toArray, List.set_cons_zero, List.set_cons_succ, i64_w, i32_w]
   rfl
  refine pure_ (i := 3) (N := some 9) (v := undef) (a' := ?_) #[true, true, true, true, false, false, false, false, false, false] rfl rfl (by kernel_rfl) (fun _ _ _ h => h) (Or.inr ⟨by rfl, rfl⟩) ?_ ?_
  rotate_left
  ·simp only [Act.put, List.setIfInBounds_toArray, List.set_cons_zero, List.set_cons_succ, i64_w, i32_w]
   rfl
  refine pure_ (i := 4) (N := some 10) (v := undef) (a' := ?_) #[true, true, true, true, true, false, false, false, false, false] rfl rfl (by kernel_rfl) (fun _ _ _ h => h) (Or.inr ⟨by rfl, rfl⟩) ?_ ?_
  rotate_left
  ·simp only [Act.put, List.setIfInBounds_toArray, List.set_cons_zero, List.set_cons_succ, i64_w, i32_w]
   rfl
  refine pure_ (i := 5) (N := some 11) (v := undef) (a' := ?_) #[true, true, true, true, true, true, false, false, false, false] rfl rfl (by kernel_rfl) (fun _ _ _ h => h) (Or.inr ⟨by rfl, rfl⟩) ?_ ?_
  rotate_left
  ·simp only [Act.put, List.setIfInBounds_toArray, List.set_cons_zero, List.set_cons_succ, i64_w, i32_w]
   rfl
  refine pure_ (i := 6) (N := some 12) (v := undef) (a' := ?_) #[true, true, true, true, true, true, true, false, false, false] rfl rfl (by kernel_rfl) (fun _ _ _ h => h) (Or.inr ⟨by rfl, rfl⟩) ?_ ?_
  rotate_left
  ·simp only [Act.put, List.setIfInBounds_toArray, List.set_cons_zero, List.set_cons_succ, i64_w, i32_w]
   rfl
  refine pure_ (i := 7) (N := some 13) (v := undef) (a' := ?_) #[true, true, true, true, true, true, true, true, false, false] rfl rfl (by kernel_rfl) (fun _ _ _ h => h) (Or.inr ⟨by rfl, rfl⟩) ?_ ?_
  rotate_left
  ·simp only [Act.put, List.setIfInBounds_toArray, List.set_cons_zero, List.set_cons_succ, i64_w, i32_w]
   rfl
  refine pure_ (i := 8) (N := some 14) (v := undef) (a' := ?_) #[true, true, true, true, true, true, true, true, true, false] rfl rfl (by kernel_rfl) (fun _ _ _ h => h) (Or.inr ⟨by rfl, rfl⟩) ?_ ?_
  rotate_left
  ·simp only [Act.put, List.setIfInBounds_toArray, List.set_cons_zero, List.set_cons_succ, i64_w, i32_w]
   rfl
  refine pure_ (i := 9) (N := some 15) (v := ?_) (a' := ?_) #[true, true, true, true, true, true, true, true, true, true] rfl rfl (by kernel_rfl) (fun _ _ _ h => h) (Or.inl ⟨by rfl, ?_⟩) ?_ ?_
  rotate_left
  ·intro w'
   go_simp
   with_reducible rfl
  rotate_left
  ·simp only [Act.put, List.setIfInBounds_toArray, List.set_cons_zero, List.set_cons_succ, i64_w, i32_w]
   rfl
  refine done_ (by kernel_rfl) ?_
  go_wp2
  go_end0
  exact ⟨rfl, v, HS.out.later HB7.out, (by first | exact fun k hk => .inl hk | exact fun k hk => .inl (.inr hk)), Kept.below (Kept.refl _ _) HB7.out⟩
 ·have HCA := Aside0.mk hca
  cases hcm : calmAt (a2 + 2).toNat (gone at_ tt l)
  ·have hm : mayGo (a2 + 2).toNat at_ tt l = false := by unfold mayGo; rw [hca, hcm]; rfl
   rw [hm, if_neg (by decide), List.append_nil]
   rw [hcm] at HCM
   clear hm hca hcm
   go_enter Try.func270, Try.ntmps270
   go_wp2
   refine start_ (n := 10) (S := fun w' => Below w.heap.size w w') (ds := []) #[false, false, false, false, false, false, false, false, false, false] (by kernel_rfl) rfl rfl (Below.refl _ _).drew (fun hHeld => ?_)
   refine pure_ (i := 0) (N := some 6) (v := ?_) (a' := ?_) #[true, false, false, false, false, false, false, false, false, false] rfl rfl (by kernel_rfl) (fun _ _ _ h => h) (Or.inl ⟨by rfl, ?_⟩) ?_ ?_
   rotate_left
   ·intro w'
    go_simp
    with_reducible rfl
   rotate_left
   ·simp only [Act.put, List.setIfInBounds_toArray, List.set_cons_zero, List.set_cons_succ, i64_w, i32_w]
    rfl
   refine one_ (i := 1) (N := some 7) #[true, true, false, false, false, false, false, false, false, false] rfl rfl (by kernel_rfl) (by decide) (fun K hK => ?_)
   refine goes_ Try.func163 (by kernel_rfl) rfl #[.slice Al l.length cl] (by rfl) rfl rfl (by (try simp only [List.map_toArray, List.map_cons, List.map_nil]); first | done | rfl) ?_
   with_reducible refine (impl_calm.calls _ _ l (calmL l) _ (Kd.C_below HLR.out hHeld) HLC.out rfl).mono ?_
   rintro e w7 ⟨rfl, hb7⟩
   rw [HCA.out]
   have HB7 := Aside0.mk (below_step hHeld hb7)
   clear hb7
   refine ⟨_, rfl, ?_⟩
   refine hK.out _ _ (HB7.out) (fun hHeld => ?_)
   clear hK K
   refine norm_ (a' := ?_) ?_ ?_
   rotate_left
   ·show Act.put _ (some 7) _ = _
    simp only [Act.put, List.setIfInBounds_toArray, List.set_cons_zero, List.set_cons_succ, i64_w, i32_w]
    rfl
   refine pure_ (i := 2) (N := some 8) (v := ?_) (a' := ?_) #[true, true, true, false, false, false, false, false, false, false] rfl rfl (by kernel_rfl) (fun _ _ _ h => h) (Or.inl ⟨by rfl, ?_⟩) ?_ ?_
   rotate_left
   ·intro w'
    go_simp
    with_reducible rfl
   rotate_left
   ·simp only [Act.put, List.setIfInBounds_toArray, List.set_cons_zero, List.set_cons_succ, i64_w, i32_w]
    rfl
   refine take_ (i := 3) (N := some 9) (v := ?_) (a' := ?_) #[true, true, true, true, false, false, false, false, false, false] rfl rfl (by kernel_rfl) (fun _ _ _ h => h) (Or.inl ⟨by rfl, ?_⟩) hHeld ?_ ?_
   rotate_left
   ·intro w' s0
    have s_0 := (s0.cell (World.block_lt_of_cell? w _ HC0.out)).trans HC0.out
    have s_1 := (s0.cell (World.block_lt_of_cell? w _ HC1.out)).trans HC1.out
    have s_2 := (s0.cell (World.block_lt_of_cell? w _ HC2.out)).trans HC2.out
    clear s0
    go_simp
    with_reducible rfl
   rotate_left
   ·simp only [Act.put, List.setIfInBounds_toArray, List.set_cons_zero, List.set_cons_succ, i64_w, i32_w]
    rfl
   refine take_ (i := 4) (N := some 10) (v := ?_) (a' := ?_) #[true, true, true, true, true, false, false, false, false, false] rfl rfl (by kernel_rfl) (fun _ _ _ h => h) (Or.inl ⟨by rfl, ?_⟩) hHeld ?_ ?_
   rotate_left
   ·intro w' s0
    have s_0 := (s0.cell (World.block_lt_of_cell? w _ HS0.out)).trans HS0.out
    have s_1 := (s0.cell (World.block_lt_of_cell? w _ HS1.out)).trans HS1.out
    clear s0
    go_simp
    with_reducible rfl
   rotate_left
   ·simp only [Act.put, List.setIfInBounds_toArray, List.set_cons_zero, List.set_cons_succ, i64_w, i32_w]
    rfl
   refine take_ (i := 5) (N := some 11) (v := ?_) (a' := ?_) #[true, true, true, true, true, true, false, false, false, false] rfl rfl (by kernel_rfl) (fun _ _ _ h => h) (Or.inl ⟨by rfl, ?_⟩) hHeld ?_ ?_
   rotate_left
   ·intro w' s0
    have s_0 := (s0.cell (World.block_lt_of_cell? w _ HT0.out)).trans HT0.out
    clear s0
    go_simp
    with_reducible rfl
   rotate_left
   ·simp only [Act.put, List.setIfInBounds_toArray, List.set_cons_zero, List.set_cons_succ, i64_w, i32_w]
    rfl
   refine pure_ (i := 6) (N := some 12) (v := ?_) (a' := ?_) #[true, true, true, true, true, true, true, false, false, false] rfl rfl (by kernel_rfl) (fun _ _ _ h => h) (Or.inl ⟨by rfl, ?_⟩) ?_ ?_
   rotate_left
   ·intro w'
    go_simp
    with_reducible rfl
   rotate_left
   ·simp only [Act.put, List.setIfInBounds_toArray, List.set_cons_zero, List.set_cons_succ, i64_w, i32_w]
    rfl
   refine one_ (i := 7) (N := some 13) #[true, true, true, true, true, true, true, true, false, false] rfl rfl (by kernel_rfl) (by decide) (fun K hK => ?_)
   refine goes_ Try.func183 (by kernel_rfl) rfl #[.agg #[.slice Ap at_.length cp, .int .i64 b], .int .i64 tt, .slice Al l.length cl] (by rfl) rfl rfl (by (try simp only [List.map_toArray, List.map_cons, List.map_nil]); first | done | rfl) ?_
   with_reducible refine (impl_Places_behind.calls (l.length + 1) _ _ at_ b tt _ _ l _ _ _ (Kd.C_below HAR.out hHeld) HAC.out (Kd.C_below HLR.out hHeld) HLC.out HBE.out).mono ?_
   rintro e w13 ⟨v13, rfl, ho13, hb13⟩
   obtain ⟨A13, c13, e13⟩ := Kd.R_slice ho13
   subst e13
   have HO13 := Aside0.mk (Kd.R_reads' ho13)
   have HB13 := Aside0.mk (below_step hHeld hb13)
   clear hb13 ho13
   refine ⟨_, rfl, ?_⟩
   refine hK.out _ _ (HB13.out) (fun hHeld => ?_)
   clear hK K
   refine norm_ (a' := ?_) ?_ ?_
   rotate_left
   ·show Act.put _ (some 13) _ = _
    simp only [Act.put, List.setIfInBounds_toArray, List.set_cons_zero, List.set_cons_succ, i64_w, i32_w]
    rfl
   refine one_ (i := 8) (N := some 14) #[true, true, true, true, true, true, true, true, true, false] rfl rfl (by kernel_rfl) (by decide) (fun K hK => ?_)
   refine goes_ Try.func177 (by kernel_rfl) rfl #[.agg #[.int .i64 a0, .int .i64 a1, .int .i64 a2], .agg #[.slice A13 (gone at_ tt l).length c13, .int .i64 tt]] (by rfl) rfl rfl (by (try simp only [List.map_toArray, List.map_cons, List.map_nil]); first | done | rfl) ?_
   with_reducible refine (impl_Isles_areCalm.calls (at_.length + 5) a0 a1 a2 _ _ (gone at_ tt l) tt (false) _ (Kd.C_below HO13.out.2.2 (Below.refl _ _)) HO13.out.2.1 HCM.out).mono ?_
   rintro e w14 ⟨rfl, hb14⟩
   have HB14 := Aside0.mk (below_step hHeld hb14)
   clear hb14
   refine ⟨_, rfl, ?_⟩
   refine hK.out _ _ (HB14.out) (fun hHeld => ?_)
   clear hK K
   refine norm_ (a' := ?_) ?_ ?_
   rotate_left
   ·show Act.put _ (some 14) _ = _
    simp only [Act.put, List.setIfInBounds_toArray, List.set_cons_zero, List.set_cons_succ, i64_w, i32_w]
    rfl
   refine pure_ (i := 9) (N := some 15) (v := ?_) (a' := ?_) #[true, true, true, true, true, true, true, true, true, true] rfl rfl (by kernel_rfl) (fun _ _ _ h => h) (Or.inl ⟨by rfl, ?_⟩) ?_ ?_
   rotate_left
   ·intro w'
    go_simp
    with_reducible rfl
   rotate_left
   ·simp only [Act.put, List.setIfInBounds_toArray, List.set_cons_zero, List.set_cons_succ, i64_w, i32_w]
    rfl
   refine done_ (by kernel_rfl) ?_
   go_wp2
   go_end0
   exact ⟨rfl, v, HS.out.later HB14.out, (by first | exact fun k hk => .inl hk | exact fun k hk => .inl (.inr hk)), Kept.below (Kept.refl _ _) HB14.out⟩
  ·have hm : mayGo (a2 + 2).toNat at_ tt l = true := by unfold mayGo; rw [hca, hcm]; rfl
   rw [hm, if_pos rfl]
   rw [hcm] at HCM
   clear hm hca hcm
   go_enter Try.func270, Try.ntmps270
   go_wp2
   refine start_ (n := 10) (S := fun w' => Below w.heap.size w w') (ds := []) #[false, false, false, false, false, false, false, false, false, false] (by kernel_rfl) rfl rfl (Below.refl _ _).drew (fun hHeld => ?_)
   refine pure_ (i := 0) (N := some 6) (v := ?_) (a' := ?_) #[true, false, false, false, false, false, false, false, false, false] rfl rfl (by kernel_rfl) (fun _ _ _ h => h) (Or.inl ⟨by rfl, ?_⟩) ?_ ?_
   rotate_left
   ·intro w'
    go_simp
    with_reducible rfl
   rotate_left
   ·simp only [Act.put, List.setIfInBounds_toArray, List.set_cons_zero, List.set_cons_succ, i64_w, i32_w]
    rfl
   refine one_ (i := 1) (N := some 7) #[true, true, false, false, false, false, false, false, false, false] rfl rfl (by kernel_rfl) (by decide) (fun K hK => ?_)
   refine goes_ Try.func163 (by kernel_rfl) rfl #[.slice Al l.length cl] (by rfl) rfl rfl (by (try simp only [List.map_toArray, List.map_cons, List.map_nil]); first | done | rfl) ?_
   with_reducible refine (impl_calm.calls _ _ l (calmL l) _ (Kd.C_below HLR.out hHeld) HLC.out rfl).mono ?_
   rintro e w7 ⟨rfl, hb7⟩
   rw [HCA.out]
   have HB7 := Aside0.mk (below_step hHeld hb7)
   clear hb7
   refine ⟨_, rfl, ?_⟩
   refine hK.out _ _ (HB7.out) (fun hHeld => ?_)
   clear hK K
   refine norm_ (a' := ?_) ?_ ?_
   rotate_left
   ·show Act.put _ (some 7) _ = _
    simp only [Act.put, List.setIfInBounds_toArray, List.set_cons_zero, List.set_cons_succ, i64_w, i32_w]
    rfl
   refine pure_ (i := 2) (N := some 8) (v := ?_) (a' := ?_) #[true, true, true, false, false, false, false, false, false, false] rfl rfl (by kernel_rfl) (fun _ _ _ h => h) (Or.inl ⟨by rfl, ?_⟩) ?_ ?_
   rotate_left
   ·intro w'
    go_simp
    with_reducible rfl
   rotate_left
   ·simp only [Act.put, List.setIfInBounds_toArray, List.set_cons_zero, List.set_cons_succ, i64_w, i32_w]
    rfl
   refine take_ (i := 3) (N := some 9) (v := ?_) (a' := ?_) #[true, true, true, true, false, false, false, false, false, false] rfl rfl (by kernel_rfl) (fun _ _ _ h => h) (Or.inl ⟨by rfl, ?_⟩) hHeld ?_ ?_
   rotate_left
   ·intro w' s0
    have s_0 := (s0.cell (World.block_lt_of_cell? w _ HC0.out)).trans HC0.out
    have s_1 := (s0.cell (World.block_lt_of_cell? w _ HC1.out)).trans HC1.out
    have s_2 := (s0.cell (World.block_lt_of_cell? w _ HC2.out)).trans HC2.out
    clear s0
    go_simp
    with_reducible rfl
   rotate_left
   ·simp only [Act.put, List.setIfInBounds_toArray, List.set_cons_zero, List.set_cons_succ, i64_w, i32_w]
    rfl
   refine take_ (i := 4) (N := some 10) (v := ?_) (a' := ?_) #[true, true, true, true, true, false, false, false, false, false] rfl rfl (by kernel_rfl) (fun _ _ _ h => h) (Or.inl ⟨by rfl, ?_⟩) hHeld ?_ ?_
   rotate_left
   ·intro w' s0
    have s_0 := (s0.cell (World.block_lt_of_cell? w _ HS0.out)).trans HS0.out
    have s_1 := (s0.cell (World.block_lt_of_cell? w _ HS1.out)).trans HS1.out
    clear s0
    go_simp
    with_reducible rfl
   rotate_left
   ·simp only [Act.put, List.setIfInBounds_toArray, List.set_cons_zero, List.set_cons_succ, i64_w, i32_w]
    rfl
   refine take_ (i := 5) (N := some 11) (v := ?_) (a' := ?_) #[true, true, true, true, true, true, false, false, false, false] rfl rfl (by kernel_rfl) (fun _ _ _ h => h) (Or.inl ⟨by rfl, ?_⟩) hHeld ?_ ?_
   rotate_left
   ·intro w' s0
    have s_0 := (s0.cell (World.block_lt_of_cell? w _ HT0.out)).trans HT0.out
    clear s0
    go_simp
    with_reducible rfl
   rotate_left
   ·simp only [Act.put, List.setIfInBounds_toArray, List.set_cons_zero, List.set_cons_succ, i64_w, i32_w]
    rfl
   refine pure_ (i := 6) (N := some 12) (v := ?_) (a' := ?_) #[true, true, true, true, true, true, true, false, false, false] rfl rfl (by kernel_rfl) (fun _ _ _ h => h) (Or.inl ⟨by rfl, ?_⟩) ?_ ?_
   rotate_left
   ·intro w'
    go_simp
    with_reducible rfl
   rotate_left
   ·simp only [Act.put, List.setIfInBounds_toArray, List.set_cons_zero, List.set_cons_succ, i64_w, i32_w]
    rfl
   refine one_ (i := 7) (N := some 13) #[true, true, true, true, true, true, true, true, false, false] rfl rfl (by kernel_rfl) (by decide) (fun K hK => ?_)
   refine goes_ Try.func183 (by kernel_rfl) rfl #[.agg #[.slice Ap at_.length cp, .int .i64 b], .int .i64 tt, .slice Al l.length cl] (by rfl) rfl rfl (by (try simp only [List.map_toArray, List.map_cons, List.map_nil]); first | done | rfl) ?_
   with_reducible refine (impl_Places_behind.calls (l.length + 1) _ _ at_ b tt _ _ l _ _ _ (Kd.C_below HAR.out hHeld) HAC.out (Kd.C_below HLR.out hHeld) HLC.out HBE.out).mono ?_
   rintro e w13 ⟨v13, rfl, ho13, hb13⟩
   obtain ⟨A13, c13, e13⟩ := Kd.R_slice ho13
   subst e13
   have HO13 := Aside0.mk (Kd.R_reads' ho13)
   have HB13 := Aside0.mk (below_step hHeld hb13)
   clear hb13 ho13
   refine ⟨_, rfl, ?_⟩
   refine hK.out _ _ (HB13.out) (fun hHeld => ?_)
   clear hK K
   refine norm_ (a' := ?_) ?_ ?_
   rotate_left
   ·show Act.put _ (some 13) _ = _
    simp only [Act.put, List.setIfInBounds_toArray, List.set_cons_zero, List.set_cons_succ, i64_w, i32_w]
    rfl
   refine one_ (i := 8) (N := some 14) #[true, true, true, true, true, true, true, true, true, false] rfl rfl (by kernel_rfl) (by decide) (fun K hK => ?_)
   refine goes_ Try.func177 (by kernel_rfl) rfl #[.agg #[.int .i64 a0, .int .i64 a1, .int .i64 a2], .agg #[.slice A13 (gone at_ tt l).length c13, .int .i64 tt]] (by rfl) rfl rfl (by (try simp only [List.map_toArray, List.map_cons, List.map_nil]); first | done | rfl) ?_
   with_reducible refine (impl_Isles_areCalm.calls (at_.length + 5) a0 a1 a2 _ _ (gone at_ tt l) tt (true) _ (Kd.C_below HO13.out.2.2 (Below.refl _ _)) HO13.out.2.1 HCM.out).mono ?_
   rintro e w14 ⟨rfl, hb14⟩
   have HB14 := Aside0.mk (below_step hHeld hb14)
   clear hb14
   refine ⟨_, rfl, ?_⟩
   refine hK.out _ _ (HB14.out) (fun hHeld => ?_)
   clear hK K
   refine norm_ (a' := ?_) ?_ ?_
   rotate_left
   ·show Act.put _ (some 14) _ = _
    simp only [Act.put, List.setIfInBounds_toArray, List.set_cons_zero, List.set_cons_succ, i64_w, i32_w]
    rfl
   refine pure_ (i := 9) (N := some 15) (v := ?_) (a' := ?_) #[true, true, true, true, true, true, true, true, true, true] rfl rfl (by kernel_rfl) (fun _ _ _ h => h) (Or.inl ⟨by rfl, ?_⟩) ?_ ?_
   rotate_left
   ·intro w'
    go_simp
    with_reducible rfl
   rotate_left
   ·simp only [Act.put, List.setIfInBounds_toArray, List.set_cons_zero, List.set_cons_succ, i64_w, i32_w]
    rfl
   refine done_ (by kernel_rfl) ?_
   have hS2 := HS.out.later HB14.out
   have hx0 : w14.cell? ⟨pt, 0, none⟩ = some (.int .i64 tt) := (blk_cell hS2.ct 0).trans rfl
   have hx1 : w14.cell? ⟨po, 0, none⟩ = some v := (blk_cell hS2.co 0).trans rfl
   have HS2 := Aside0.mk hS2
   have HL2 : Aside0 (Kd.R (Kd.int .i64) 3 w14 B (fun k => (W0.heap.size ≤ k ∧ k ≠ po) ∧ some k ≠ v.ownBlock) (.slice Al l.length cl) l) := ⟨Kd.R_below (Kd.R_mono (Kd.R_bound HL.out) (fun k hk => ⟨⟨Nat.le_trans HBB.out.1 hk.2.1, fun e => by have := HBB.out.2.1; have := hk.2.1; omega⟩, fun e => by have := HBB.out.2.2 k e.symm; have := hk.2.1; omega⟩)) HB14.out⟩
   have HPN := Aside0.mk (Kd.N_ne hS2.row hS2.co (by decide))
   clear hS2 HB13 HO13 HCM HBE hHeld
   go_wp2_with ((with_reducible refine gate_builtin (b := .append) (xs := #[.tmp 16, .tmp 20]) rfl ?_); at_builtin; refine Kd.N_append k66 (w0 := W0) W0.heap.size rfl (.tmp 16) (.tmp 20) 67 66 (.agg #[(.int .i64 0), (.slice none 0 0)]) 32 rfl Try.underlying67 info66 rfl (by decide) (by omega) v outs (⟨tt, l⟩ : S66) [.int .i64 tt, .slice Al l.length cl] (fun k => W0.heap.size ≤ k ∧ k ≠ po) (fun k => (W0.heap.size ≤ k ∧ k ≠ po) ∧ some k ≠ v.ownBlock) rfl rfl ?aP (fun _ hk => hk) ?aF ?aO ?aB ?aS ?aL ?_; (case aP => exact k66_mkF _ _ (⟨tt, l⟩ : S66) HLC.out (Kd.R_F HL2.out)); (case aF => exact fun k hk => ⟨Nat.le_trans HS2.out.below.size hk, fun e => by have := blk_lt HS2.out.co; omega⟩); (case aO => exact HS2.out.row); (case aB => exact HS2.out.below); (case aS => exact HS2.out.below.size); (case aL => have := HOUT.out; omega); intro v1 w21 hn hb hg hat; obtain ⟨A21, n21, c21, e21⟩ : ∃ A n c, v1 = .slice A n c := (by obtain ⟨A, c, e⟩ := Kd.N_slice hn; exact ⟨A, _, c, e⟩); subst e21; have HN := Aside0.mk hn; have HB21 := Aside0.mk hb; have HG21 := Aside0.mk hg; have HAT := Aside0.mk hat; have hco : w21.heap[po]? = some (.cells #[v] 67 (0, 0)) := blk_grown HS2.out.co hg HPN.out; have HCO := Aside0.mk hco; have hx2 : w21.cell? ⟨po, 0, none⟩ = some v := (blk_cell hco 0).trans rfl; have hf2 : w21.frozen? ⟨po, 0, none⟩ = false := blk_frozen hco 0; clear hn hb hg hat hco)
   go_end0
   have q0 : pw ≠ po := blk_ne HS2.out.cw HS2.out.co (by decide)
   have q1 : ps ≠ po := blk_ne HS2.out.cs HS2.out.co (by decide)
   have q2 : pt ≠ po := blk_ne HS2.out.ct HS2.out.co (by decide)
   refine ⟨rfl, .slice A21 n21 c21, ⟨blk_far (blk_grown HS2.out.cw HG21.out (Kd.N_ne HS2.out.row HS2.out.cw (by decide))) q0 _, blk_far (blk_grown HS2.out.cs HG21.out (Kd.N_ne HS2.out.row HS2.out.cs (by decide))) q1 _, blk_far (blk_grown HS2.out.ct HG21.out (Kd.N_ne HS2.out.row HS2.out.ct (by decide))) q2 _, ?_, Kd.N_far HN.out (fun k hk => hk.2) _, below_set HB21.out HPO.out⟩, ?_, ?_⟩
   ·simpa using blk_set HCO.out 0 (.slice A21 n21 c21)
   ·rintro k (hk | hk)
    ·exact .inl (.inl hk)
    ·rcases HAT.out with h | ⟨b', h, hb'⟩
     ·exact .inl (.inr (h.symm.trans hk))
     ·have : k = b' := by rw [h] at hk; exact (Option.some.inj hk).symm
      have := HB14.out.size
      exact .inr (by omega)
   ·exact (Kept.of_grown HG21.out (Kept.below (Kept.refl _ _) HB14.out) (fun k hk => .inl (.inr hk))).setCell (.inl (.inl rfl)) _
theorem sail_each (W0 : World) (pw ps pt po : Nat) (a0 a1 a2 : Int) (Ap : Option Addr) (cp : Nat) (at_ : List Int) (b tt : Int) (outs : List S66) (full : List (List Int))
  (hpo : W0.heap.size ≤ po) (h2 : 0 ≤ a2 ∧ a2 ≤ 2) (hat : at_.length ≤ 1048576) (hA : Kd.C (Kd.int .i64) W0 Ap at_.length at_) (hcp : at_.length ≤ cp)
  (hx : ∀ l ∈ full, l.length ≤ 1048576 ∧ ∀ x ∈ l, 0 ≤ x ∧ x < (at_.length : Int)) (hout : outs.length + full.length ≤ 1048576) :
  Each 270 #[.pointer (some ⟨pw, 0, none⟩), .pointer (some ⟨ps, 0, none⟩), .pointer (some ⟨pt, 0, none⟩), .pointer (some ⟨po, 0, none⟩)] full (SailI W0 pw ps pt po a0 a1 a2 Ap cp at_ b tt outs) := by
 refine ⟨⟨_, Try.func270, by kernel_rfl, rfl⟩, ?_, ?_, ?_⟩
 ·rintro dn m w ⟨v, hS, rfl⟩ k (hk | hk)
  ·subst hk; exact blk_lt hS.co
  ·exact (hS.own k hk).2.2
 ·rintro dn m w w' ⟨v, hS, rfl⟩ hb
  exact ⟨v, hS.later hb, rfl⟩
 ·rintro dn l rest m w0 w vl hfull ⟨v, hS, rfl⟩ hb hL
  have hmem : l ∈ full := by rw [← hfull]; simp
  have hlen : dn.length < full.length := by rw [← hfull]; simp
  obtain ⟨Al, cl, rfl⟩ := Kd.R_slice hL
  have hv := voyTo_length (a2 + 2).toNat at_ tt dn
  refine (sail_call W0 pw ps pt po a0 a1 a2 Ap cp at_ b tt _ v w (hS.later hb) hpo h2 hat hA hcp Al cl l (hx l hmem).1 (hx l hmem).2 w0.heap.size hL ⟨hS.below.size, blk_lt hS.co, fun k hk => (hS.own k hk).2.2⟩ (by rw [List.length_append]; omega)).mono ?_
  rintro e w' ⟨rfl, v', hS', hm, hk⟩
  refine ⟨rfl, _, ⟨v', ?_, rfl⟩, hm, hk⟩
  rw [voyTo_snoc, ← List.append_assoc]
  exact hS'
theorem grp_length (most : Int) : ∀ (p l : List Int), (grp most p l).length < 2 ^ p.length
 | [], l => by simp [grp]
 | x :: p, l => by
  simp only [grp]
  split
  ·have h1 := grp_length most p (l ++ [x])
   have h2 := grp_length most p l
   simp only [List.length_cons, List.length_append, Nat.pow_succ]
   omega
  ·simp; exact Nat.pow_pos (by omega)
theorem grp_mem (most : Int) : ∀ (p l g : List Int), g ∈ grp most p l → g.length ≤ l.length + p.length ∧ ∀ x ∈ g, x ∈ l ∨ x ∈ p
 | [], l, g, h => by simp [grp] at h
 | x :: p, l, g, h => by
  simp only [grp] at h
  split at h
  ·rcases List.mem_cons.1 h with rfl | h
   ·refine ⟨by simp, fun y hy => ?_⟩
    rcases List.mem_append.1 hy with hy | hy
    ·exact .inl hy
    ·exact .inr (by rw [List.mem_singleton.1 hy]; exact List.mem_cons_self)
   ·rcases List.mem_append.1 h with h | h
    ·have := grp_mem most p _ g h
     refine ⟨by have := this.1; simp at this ⊢; omega, fun y hy => ?_⟩
     rcases this.2 y hy with hy | hy
     ·rcases List.mem_append.1 hy with hy | hy
      ·exact .inl hy
      ·exact .inr (by rw [List.mem_singleton.1 hy]; exact List.mem_cons_self)
     ·exact .inr (List.mem_cons_of_mem _ hy)
    ·have := grp_mem most p _ g h
     refine ⟨by have := this.1; simp; omega, fun y hy => ?_⟩
     rcases this.2 y hy with hy | hy
     ·exact .inl hy
     ·exact .inr (List.mem_cons_of_mem _ hy)
  ·cases h
theorem standFrom_mem (p : Int) : ∀ (l : List Int) (i x : Int), x ∈ standFrom p i l → i ≤ x ∧ x < i + (l.length : Int)
 | [], i, x, h => by simp [standFrom] at h
 | y :: l, i, x, h => by
  unfold standFrom at h
  have ih := standFrom_mem p l (i + 1) x
  simp only [List.length_cons]
  push_cast
  split at h
  ·rcases List.mem_cons.1 h with rfl | h
   ·omega
   ·have := ih h; omega
  ·have := ih h; omega
theorem stand_mem (at_ : List Int) (p x : Int) (h : x ∈ stand at_ p) : 0 ≤ x ∧ x < (at_.length : Int) := by
 have := standFrom_mem p at_ 0 x h
 omega
def voyRow (n : Nat) (a1 : Int) (at_ : List Int) (b : Int) (i : Nat) : List S66 := if (i : Int) = b then [] else voyTo n at_ (i : Int) (grp a1 (stand at_ b) [])
def voyUp (n : Nat) (a1 : Int) (at_ : List Int) (b : Int) (i : Nat) : List S66 := (List.range i).flatMap (voyRow n a1 at_ b)
def voyL (a1 a2 : Int) (at_ : List Int) (b : Int) : List S66 := voyUp (a2 + 2).toNat a1 at_ b (a2 + 2).toNat
theorem voyUp_succ (n : Nat) (a1 : Int) (at_ : List Int) (b : Int) (i : Nat) : voyUp n a1 at_ b (i + 1) = voyUp n a1 at_ b i ++ voyRow n a1 at_ b i := by
 unfold voyUp
 rw [List.range_succ, List.flatMap_append]; simp
theorem voyRow_length (n : Nat) (a1 : Int) (at_ : List Int) (b : Int) (i : Nat) (hl : at_.length ≤ 6) : (voyRow n a1 at_ b i).length ≤ 64 := by
 unfold voyRow
 split
 ·simp
 ·have h1 := voyTo_length n at_ (i : Int) (grp a1 (stand at_ b) [])
  have h2 := grp_length a1 (stand at_ b) []
  have h3 := standFrom_length b at_ 0
  have h4 : 2 ^ (stand at_ b).length ≤ 2 ^ 6 := Nat.pow_le_pow_right (by omega) (Nat.le_trans h3 hl)
  omega
theorem voyUp_length (n : Nat) (a1 : Int) (at_ : List Int) (b : Int) (hl : at_.length ≤ 6) : ∀ i, (voyUp n a1 at_ b i).length ≤ 64 * i
 | 0 => by simp [voyUp]
 | i + 1 => by
  rw [voyUp_succ, List.length_append]
  have := voyUp_length n a1 at_ b hl i
  have := voyRow_length n a1 at_ b i hl
  omega
def impl_Isles_voyages.f (a0 a1 a2 : Int) (at_ : List Int) (b : Int) : Option (List S66) := if a1 ≤ 3 ∧ 0 ≤ a2 ∧ a2 ≤ 2 ∧ at_.length ≤ 6 then some (voyL a1 a2 at_ b) else none
structure SailO (W0 : World) (pw ps po : Nat) (a0 a1 a2 : Int) (Ap : Option Addr) (cp : Nat) (at_ : List Int) (b : Int) (outs : List S66) (v : Value) (w : World) : Prop where
 cw : w.heap[pw]? = some (.cells #[.int .i64 a0, .int .i64 a1, .int .i64 a2] 39 (0, 0))
 cs : w.heap[ps]? = some (.cells #[.slice Ap at_.length cp, .int .i64 b] 64 (0, 0))
 co : w.heap[po]? = some (.cells #[v] 67 (0, 0))
 row : Kd.N k66 66 w W0.heap.size (fun k => W0.heap.size ≤ k ∧ k ≠ po) v outs
 below : Below W0.heap.size W0 w
section
variable {W0 : World} {pw ps pt po : Nat} {a0 a1 a2 : Int} {Ap : Option Addr} {cp : Nat} {at_ : List Int} {b tt : Int} {outs : List S66} {v : Value} {w w' : World}
theorem SailO.later (h : SailO W0 pw ps po a0 a1 a2 Ap cp at_ b outs v w) (hb : Below w.heap.size w w') : SailO W0 pw ps po a0 a1 a2 Ap cp at_ b outs v w' :=
 ⟨blk_below h.cw hb, blk_below h.cs hb, blk_below h.co hb, Kd.N_below h.row hb, h.below.trans (hb.mono h.below.size)⟩
theorem SailO.with_ (h : SailO W0 pw ps po a0 a1 a2 Ap cp at_ b outs v w) (hb : Below w.heap.size w w') (ht : w'.heap[pt]? = some (.cells #[.int .i64 tt] 3 (0, 0))) : Sail W0 pw ps pt po a0 a1 a2 Ap cp at_ b tt outs v w' :=
 ⟨blk_below h.cw hb, blk_below h.cs hb, ht, blk_below h.co hb, Kd.N_below h.row hb, h.below.trans (hb.mono h.below.size)⟩
theorem Sail.drop_ (h : Sail W0 pw ps pt po a0 a1 a2 Ap cp at_ b tt outs v w) : SailO W0 pw ps po a0 a1 a2 Ap cp at_ b outs v w := ⟨h.cw, h.cs, h.co, h.row, h.below⟩
theorem Sail.people (h : Sail W0 pw ps pt po a0 a1 a2 Ap cp at_ b tt outs v w) {B : Nat} {ok : Nat → Prop} {u : Value} {xs : List Int} (hR : Kd.R (Kd.int .i64) 3 w B ok u xs) (hk : Kept w w' (fun k => k = po ∨ v.ownBlock = some k)) : Kd.R (Kd.int .i64) 3 w' B ok u xs := by
 have h1 := Kd.R_mineIs hR
 refine Kd.R_mono (Kd.R_kept h1 hk (fun k hk' hs => ?_)) (fun k hk => hk.1)
 rcases hs with hs | hs
 ·rw [hs] at hk'
  exact Kd.R_ne hR h.co (by decide) hk'.2.symm
 ·obtain ⟨c, hc⟩ := Kd.N_typed h.row k hs
  exact Kd.R_ne hR hc (by decide) hk'.2.symm
end
set_option maxHeartbeats 6400000 in
set_option maxRecDepth 100000 in
theorem impl_Isles_voyages.calls (a0 a1 a2 : Int) (Ap : Option Addr) (cp : Nat) (at_ : List Int) (b : Int) (r : List S66) (w : World) (hA : Kd.C (Kd.int .i64) w Ap at_.length at_) (hcp : at_.length ≤ cp) (h : impl_Isles_voyages.f a0 a1 a2 at_ b = some r) :
  Calls Try.prog 174 #[.agg #[.int .i64 a0, .int .i64 a1, .int .i64 a2], .agg #[.slice Ap at_.length cp, .int .i64 b]] w fun e w' => ∃ v : Value, e = .returned v ∧ Kd.N k66 66 w' w.heap.size (fun k => w.heap.size ≤ k) v r ∧ Below w.heap.size w w' := by
 unfold impl_Isles_voyages.f at h
 by_cases hc : a1 ≤ 3 ∧ 0 ≤ a2 ∧ a2 ≤ 2 ∧ at_.length ≤ 6
 rotate_left
 ·rw [if_neg hc] at h; cases h
 rw [if_pos hc] at h
 obtain rfl := Option.some.inj h
 clear h
 have HA := Aside0.mk hA
 have HCP := Aside0.mk hcp
 have HC := Aside0.mk hc
 clear hA hcp hc
 go_enter Try.func174, Try.ntmps174
 have HBW := Aside0.mk (Below.refl w.heap.size w)
 have HST := Aside0.mk (standing_eq at_ b b (by have := HC.out.2.2.2; omega) (at_.length + 1) (by omega))
 have fa : impl_Isles_far.f a0 a1 a2 = some (a2 + 1) := by unfold impl_Isles_far.f; rw [wrap_up a2 3 HC.out.2.1 (by have := HC.out.2.2.1; omega) (by omega)]
 have HFA := Aside0.mk fa
 clear fa
 go_wp2_with (first | ((with_reducible refine gate_dst (N := 2) rfl ?_); refine box_event ?hg (N := 2) ?hd (cs := #[.int .i64 a0, .int .i64 a1, .int .i64 a2]) (t := 39) ?hr ?_; (case hd => rfl); (case hg => rfl); (case hr => first | (go_simp; done) | (go_simp; rfl)); intro pw hpw w2 hcw hb2; have HPW := Aside0.mk hcw; have HB2 := Aside0.mk hb2; clear hcw hb2 hpw) | ((with_reducible refine gate_dst (N := 3) rfl ?_); refine box_event ?hg (N := 3) ?hd (cs := #[.slice Ap at_.length cp, .int .i64 b]) (t := 64) ?hr ?_; (case hd => rfl); (case hg => rfl); (case hr => first | (go_simp; done) | (go_simp; rfl)); intro ps hps w3 hcs hb3; have HPS := Aside0.mk hcs; have HPW3 := Aside0.mk (blk_below HPW.out hb3); have HB33 := Aside0.mk (below_step HB2.out hb3); clear hcs hb3 hps) | ((with_reducible refine gate_dst (N := 8) rfl ?_); refine Kd.N_lit k66 (w0 := w) w.heap.size 66 ?hg (N' := 8) ?hd (xs := ([] : List S66)) (inner := []) (ok := fun k => w.heap.size ≤ k) (okp := fun k => w.heap.size ≤ k) ?hr ?hp (fun _ hk => hk) ?hfr ?hB ?hbs (by simp) ?_; (case hd => rfl); (case hg => rfl); (case hr => first | (go_simp; done) | (go_simp; rfl)); (case hp => exact (Reps.none _ _)); (case hfr => exact HB33.out.size); (case hB => exact HB33.out); (case hbs => exact HB33.out.size); intro v8 w8 ho8 hb8 hg8 hnew8; obtain ⟨A8, n8, c8, e8⟩ : ∃ A n c, v8 = .slice A n c := (by obtain ⟨A, c, e⟩ := Kd.N_slice ho8; exact ⟨A, _, c, e⟩); subst e8; have HO8 := Aside0.mk (Kd.N_bound ho8); have HB8 := Aside0.mk hb8; have HPS8 := Aside0.mk (blk_grown HPS.out hg8 (by simp)); have HPW8 := Aside0.mk (blk_grown HPW3.out hg8 (by simp)); have hx0 : (w8.alloc (.cells #[.slice A8 n8 c8] 67)).cell? ⟨ps, 0, none⟩ = some (.slice Ap at_.length cp) := (blk_cell (blk_alloc HPS8.out _) 0).trans rfl; have hx1 : (w8.alloc (.cells #[.slice A8 n8 c8] 67)).cell? ⟨ps, 1, none⟩ = some (.int .i64 b) := (blk_cell (blk_alloc HPS8.out _) 1).trans rfl; clear ho8 hb8 hnew8 hg8))
 obtain ⟨po, hpo⟩ : ∃ po, po = w8.heap.size := ⟨_, rfl⟩
 obtain ⟨W9, hW9⟩ : ∃ W9, W9 = w8.alloc (.cells #[.slice A8 n8 c8] 67) := ⟨_, rfl⟩
 have hS9 : SailO w pw ps po a0 a1 a2 Ap cp at_ b [] (.slice A8 n8 c8) W9 := by
  subst hW9
  exact ⟨blk_alloc HPW8.out _, blk_alloc HPS8.out _, by rw [hpo]; exact blk_new w8 _, Kd.N_mono (Kd.N_alloc HO8.out _) (fun k hk => ⟨hk.1, by omega⟩), below_alloc HB8.out _⟩
 have hpo9 : w.heap.size ≤ po := by rw [hpo]; exact HB8.out.size
 rw [← hpo, ← hW9]
 clear hx0 hx1 hpo hW9 HO8 HPS8 HPW8 HB8 HB33 HPW3 HPS HB2 HPW
 have HS9 := Aside0.mk hS9
 have HPO := Aside0.mk hpo9
 clear hS9 hpo9
 refine (impl_Places_standing.calls (at_.length + 1) _ _ at_ b b (stand at_ b) _ (Kd.C_below HA.out HS9.out.below) HCP.out HST.out).mono ?_
 rintro e w12 ⟨v12, rfl, ho12, hb12⟩
 obtain ⟨A12, c12, e12⟩ := Kd.R_slice ho12
 subst e12
 have HS12 := Aside0.mk (HS9.out.later hb12)
 have HR12 := Aside0.mk ho12
 have hz0 : w12.cell? ⟨pw, 0, none⟩ = some (.int .i64 a0) := (blk_cell HS12.out.cw 0).trans rfl
 have hz1 : w12.cell? ⟨pw, 1, none⟩ = some (.int .i64 a1) := (blk_cell HS12.out.cw 1).trans rfl
 have hz2 : w12.cell? ⟨pw, 2, none⟩ = some (.int .i64 a2) := (blk_cell HS12.out.cw 2).trans rfl
 have h20 : 0 ≤ a2 := HC.out.2.1
 have h22 : a2 ≤ 2 := HC.out.2.2.1
 clear ho12 hb12 HS9
 go_wp2_with (go_at_call 189; refine (impl_Isles_far.calls a0 a1 a2 (a2 + 1) _ HFA.out).mono ?_; rintro e w14 ⟨rfl, hb⟩; have HS14 := Aside0.mk (HS12.out.later hb); have HR14 := Aside0.mk (Kd.R_below HR12.out hb); clear hb)
 clear hz0 hz1 hz2 HS12 HR12
 go_loopw [16] (fun v16 wr => ∃ (i : Nat) (v : Value), v16 = .int .i64 (i : Int) ∧ Aside0 (i ≤ (a2 + 2).toNat) ∧ Aside0 (SailO w pw ps po a0 a1 a2 Ap cp at_ b (voyUp (a2 + 2).toNat a1 at_ b i) v wr) ∧ Aside0 (Kd.R (Kd.int .i64) 3 wr W9.heap.size (fun _ => True) (.slice A12 (stand at_ b).length c12) (stand at_ b))) (fun v16 _ => (a2 + 2).toNat - (intOf v16).toNat)
 case atStart => exact ⟨0, _, rfl, ⟨Nat.zero_le _⟩, HS14, HR14⟩
 case round =>
  clear HS14 HR14
  obtain ⟨i, v, rfl, HI, HS, HR⟩ := hrel
  by_cases hlt : i < (a2 + 2).toNat
  ·have c0b : decide ((i : Int) < a2 + 1 + 1) = true := by simp; omega
   have hi3 : i ≤ 3 := by omega
   have hy0 : ∀ o, (wr.alloc o).cell? ⟨ps, 1, none⟩ = some (.int .i64 b) := fun o => (blk_cell (blk_alloc HS.out.cs o) 1).trans rfl
   have hy1 : ∀ o, (wr.alloc o).cell? ⟨pw, 1, none⟩ = some (.int .i64 a1) := fun o => (blk_cell (blk_alloc HS.out.cw o) 1).trans rfl
   have hmf : ∀ (fn : Fn) (first cap : Array Value) (w : World), (Instr.makeFunc fn first cap).run Try.prog w = .ok (.func fn first cap) w := fun _ _ _ _ => rfl
   by_cases heb : (i : Int) = b
   ·have c1b : ((i : Int) == b) = true := by simpa using heb
    go_wp2
    go_roundw
    case rel => exact ⟨i + 1, v, by go_num, ⟨by omega⟩, ⟨by rw [voyUp_succ]; unfold voyRow; rw [if_pos heb, List.append_nil]; exact HS.out.later (below_alloc (Below.refl _ _) _)⟩, ⟨Kd.R_below HR.out (below_alloc (Below.refl _ _) _)⟩⟩
    case measure => simp [intOf]; omega
   ·have c1b : ((i : Int) == b) = false := by simpa using heb
    have hlen : (voyUp (a2 + 2).toNat a1 at_ b i).length + (grp a1 (stand at_ b) []).length ≤ 1048576 := by
     have h1 := voyUp_length (a2 + 2).toNat a1 at_ b HC.out.2.2.2 i
     have h2 := grp_length a1 (stand at_ b) []
     have h3 := standFrom_length b at_ 0
     have h4 : 2 ^ (stand at_ b).length ≤ 2 ^ 6 := Nat.pow_le_pow_right (by omega) (Nat.le_trans h3 HC.out.2.2.2)
     omega
    have hgm : ∀ l ∈ grp a1 (stand at_ b) [], l.length ≤ 1048576 ∧ ∀ x ∈ l, 0 ≤ x ∧ x < (at_.length : Int) := by
     intro l hl
     have h1 := grp_mem a1 _ _ l hl
     have h3 := standFrom_length b at_ 0
     have h4 := HC.out.2.2.2
     have h5 : (stand at_ b).length ≤ 6 := Nat.le_trans h3 h4
     refine ⟨by have := h1.1; simp at this; omega, fun x hx => ?_⟩
     rcases h1.2 x hx with h | h
     ·cases h
     ·exact stand_mem at_ b x h
    have HLEN := Aside0.mk hlen
    have HGM := Aside0.mk hgm
    clear hlen hgm
    obtain ⟨Wt, hWt⟩ : ∃ Wt, Wt = wr.alloc (.cells #[.int .i64 (i : Int)] 3) := ⟨_, rfl⟩
    have hst : Sail w pw ps wr.heap.size po a0 a1 a2 Ap cp at_ b (i : Int) (voyUp (a2 + 2).toNat a1 at_ b i) v Wt := by
     subst hWt; exact HS.out.with_ (below_alloc (Below.refl _ _) _) (blk_new wr _)
    have hrt := Kd.R_below HR.out (show Below wr.heap.size wr Wt from by subst hWt; exact below_alloc (Below.refl _ _) _)
    have HST2 := Aside0.mk hst
    have HRT := Aside0.mk hrt
    clear hst hrt
    have HWT := Aside0.mk hWt
    clear hWt
    go_wp2_with (go_at_call 201; rw [← HWT.out]; refine (groups_runs 270 _ A12 c12 (stand at_ b) a1 (by have := HC.out.1; omega) (SailI w pw ps wr.heap.size po a0 a1 a2 Ap cp at_ b (i : Int) (voyUp (a2 + 2).toNat a1 at_ b i)) (sail_each w pw ps wr.heap.size po a0 a1 a2 Ap cp at_ b (i : Int) _ _ HPO.out ⟨HC.out.2.1, HC.out.2.2.1⟩ (by have := HC.out.2.2.2; omega) HA.out HCP.out HGM.out HLEN.out) (fun k => k = po ∨ v.ownBlock = some k) Wt ⟨v, by unfold voyTo; simpa using HST2.out, rfl⟩ (fun w' hk => (Kd.R_reads' (HST2.out.people HRT.out hk)).2.2)).mono ?_; rintro e w27 ⟨rfl, m', ⟨v', hs', rfl⟩, hm', hk'⟩; have HS27 := Aside0.mk hs'.drop_; have HR27 := Aside0.mk (HST2.out.people HRT.out hk'); clear hs' hm' hk')
    go_roundw
    case rel => exact ⟨i + 1, v', by go_num, ⟨by omega⟩, ⟨by rw [voyUp_succ]; unfold voyRow; rw [if_neg heb]; exact HS27.out⟩, HR27⟩
    case measure => simp [intOf]; omega
  ·have c0b : decide ((i : Int) < a2 + 1 + 1) = false := by simp; omega
   have hi : i = (a2 + 2).toNat := by have := HI.out; omega
   subst hi
   have hz : wr.cell? ⟨po, 0, none⟩ = some v := (blk_cell HS.out.co 0).trans rfl
   go_wp2
   go_ret
   exact ⟨_, rfl, Kd.N_mono HS.out.row (fun k hk => hk.1), HS.out.below⟩
end Go.Proofs.Ytlkjglanglpdoaa.T
namespace Go.Proofs.Ytlkjglanglpdoaa.T
open Go.RowKit Go.Proofs.YtlkjglanglpdoaaW.PrintWords Go.Proofs.YtlkjglanglpdoaaW.PrintLast Go.Proofs.YtlkjglanglpdoaaW.PrintMore
attribute [local go_sem] max2_int min2_int max_two min_two max_three min_three max_four min_four
set_option linter.unusedVariables false
set_option linter.unusedSimpArgs false
def IsS39 (w0 W : World) (g : Nat) (f0 : Int) (f1 : Int) (f2 : Int) : Prop := W.heap[g]? = some (.cells #[.int .i64 f0, .int .i64 f1, .int .i64 f2] 39 (0, 0)) ∧ w0.heap.size ≤ g
theorem IsS39.grown {w0 W : World} {g : Nat} {f0 : Int} {f1 : Int} {f2 : Int} {W1 : World} {row : Option Nat} (h : IsS39 w0 W g f0 f1 f2) (hw : W.grownBy W1 row) (hne : some g ≠ row) : IsS39 w0 W1 g f0 f1 f2 := by
 obtain ⟨hb, hg⟩ := h
 exact ⟨blk_grown hb hw hne, hg⟩
theorem IsS39.own_neN {w0 W : World} {g : Nat} {f0 : Int} {f1 : Int} {f2 : Int} {α : Type} {d : Kd α} {e : Nat} {base : Nat} {ok : Nat → Prop} {v : Value} {xs : List α} (h : IsS39 w0 W g f0 f1 f2) (ho : Kd.N d e W base ok v xs) (ht : e ≠ 39) : some g ≠ v.ownBlock := by
 obtain ⟨hb, hg⟩ := h
 exact Kd.N_ne ho hb ht
theorem IsS39.fresh {w0 W : World} {g : Nat} {f0 : Int} {f1 : Int} {f2 : Int} (h : IsS39 w0 W g f0 f1 f2) : ∀ k, W.heap.size ≤ k → k ≠ g := by
 obtain ⟨hb, hg⟩ := h
 exact Kd.freshB hb
theorem IsS39.kept {w0 W : World} {g : Nat} {f0 : Int} {f1 : Int} {f2 : Int} {W1 : World} {S : Nat → Prop} (h : IsS39 w0 W g f0 f1 f2) (hk : Kept W W1 S) (hne : ¬ S g) : IsS39 w0 W1 g f0 f1 f2 := by
 obtain ⟨hb, hg⟩ := h
 exact ⟨blk_kept hb hk hne, hg⟩
theorem IsS39.below {w0 W : World} {g : Nat} {f0 : Int} {f1 : Int} {f2 : Int} {W1 : World} (h : IsS39 w0 W g f0 f1 f2) (hw : Below W.heap.size W W1) : IsS39 w0 W1 g f0 f1 f2 := h.grown (grown_of_below hw none) (by simp)
theorem IsS39.alloc {w0 W : World} {g : Nat} {f0 : Int} {f1 : Int} {f2 : Int} (h : IsS39 w0 W g f0 f1 f2) (o : Obj) : IsS39 w0 (W.alloc o) g f0 f1 f2 := h.below (below_alloc (Below.refl _ _) o)
theorem IsS39.drewN {w0 W : World} {g : Nat} {f0 : Int} {f1 : Int} {f2 : Int} (h : IsS39 w0 W g f0 f1 f2) (m : Nat) : IsS39 w0 (W.drewN m) g f0 f1 f2 := h
theorem IsS39.drew {w0 W : World} {g : Nat} {f0 : Int} {f1 : Int} {f2 : Int} (h : IsS39 w0 W g f0 f1 f2) : IsS39 w0 W.drew g f0 f1 f2 := h
theorem IsS39.at_ {w0 W : World} {g : Nat} {f0 : Int} {f1 : Int} {f2 : Int} {w' : World} {m : Nat} (hq : W.drewN m = w') (h : IsS39 w0 W g f0 f1 f2) : IsS39 w0 w' g f0 f1 f2 := by subst hq; exact IsS39.drewN h m
theorem IsS39.apart {w0 W : World} {g : Nat} {f0 : Int} {f1 : Int} {f2 : Int} {α : Type} {d : Kd α} {e : Nat} {base : Nat} {ok : Nat → Prop} {v : Value} {xs : List α} (h : IsS39 w0 W g f0 f1 f2) (ho : d.R e W base ok v xs) (ht : ∀ q, q ∈ e :: d.E → q ≠ 39) : d.R e W base (fun k => ok k ∧ k ≠ g) v xs := by
 obtain ⟨hb, hg⟩ := h
 exact Kd.R_types ho hb ht
theorem IsS39.own_ne {w0 W : World} {g : Nat} {f0 : Int} {f1 : Int} {f2 : Int} {α : Type} {d : Kd α} {e : Nat} {base : Nat} {ok : Nat → Prop} {v : Value} {xs : List α} (h : IsS39 w0 W g f0 f1 f2) (ho : d.R e W base ok v xs) (ht : e ≠ 39) : some g ≠ v.ownBlock := by
 obtain ⟨hb, hg⟩ := h
 exact Kd.R_ne ho hb ht
theorem IsS39.lt {w0 W : World} {g : Nat} {f0 : Int} {f1 : Int} {f2 : Int} (h : IsS39 w0 W g f0 f1 f2) : g < W.heap.size := by
 obtain ⟨hb, hg⟩ := h
 exact blk_lt hb
theorem IsS39.ge {w0 W : World} {g : Nat} {f0 : Int} {f1 : Int} {f2 : Int} (h : IsS39 w0 W g f0 f1 f2) : w0.heap.size ≤ g := by
 obtain ⟨hb, hg⟩ := h
 exact hg
theorem IsS39.far {w0 W : World} {g : Nat} {f0 : Int} {f1 : Int} {f2 : Int} {p : Addr} (h : IsS39 w0 W g f0 f1 f2) (hne : g ≠ p.block) (u : Value) : IsS39 w0 (W.setCell p u) g f0 f1 f2 := by
 obtain ⟨hb, hg⟩ := h
 exact ⟨blk_far hb hne u, hg⟩
theorem cellS39_0 {W : World} {g : Nat} {f0 : Int} {f1 : Int} {f2 : Int} (h : W.heap[g]? = some (.cells #[.int .i64 f0, .int .i64 f1, .int .i64 f2] 39 (0, 0))) : W.cell? ⟨g, 0, none⟩ = some (.int .i64 f0) := (blk_cell h 0).trans rfl
theorem IsS39.set_0 {w0 W : World} {g : Nat} {f0 : Int} {f1 : Int} {f2 : Int} (h : IsS39 w0 W g f0 f1 f2) (x : Int) : IsS39 w0 (W.setCell ⟨g, 0, none⟩ (.int .i64 x)) g x f1 f2 := by
 obtain ⟨hb, hg⟩ := h
 exact ⟨by simpa using blk_set hb 0 (.int .i64 x), hg⟩
theorem cellS39_1 {W : World} {g : Nat} {f0 : Int} {f1 : Int} {f2 : Int} (h : W.heap[g]? = some (.cells #[.int .i64 f0, .int .i64 f1, .int .i64 f2] 39 (0, 0))) : W.cell? ⟨g, 1, none⟩ = some (.int .i64 f1) := (blk_cell h 1).trans rfl
theorem IsS39.set_1 {w0 W : World} {g : Nat} {f0 : Int} {f1 : Int} {f2 : Int} (h : IsS39 w0 W g f0 f1 f2) (x : Int) : IsS39 w0 (W.setCell ⟨g, 1, none⟩ (.int .i64 x)) g f0 x f2 := by
 obtain ⟨hb, hg⟩ := h
 exact ⟨by simpa using blk_set hb 1 (.int .i64 x), hg⟩
theorem cellS39_2 {W : World} {g : Nat} {f0 : Int} {f1 : Int} {f2 : Int} (h : W.heap[g]? = some (.cells #[.int .i64 f0, .int .i64 f1, .int .i64 f2] 39 (0, 0))) : W.cell? ⟨g, 2, none⟩ = some (.int .i64 f2) := (blk_cell h 2).trans rfl
theorem IsS39.set_2 {w0 W : World} {g : Nat} {f0 : Int} {f1 : Int} {f2 : Int} (h : IsS39 w0 W g f0 f1 f2) (x : Int) : IsS39 w0 (W.setCell ⟨g, 2, none⟩ (.int .i64 x)) g f0 f1 x := by
 obtain ⟨hb, hg⟩ := h
 exact ⟨by simpa using blk_set hb 2 (.int .i64 x), hg⟩
def impl_Isles_graph_1.l0 : Nat → List (S234) → List (S66) → Int → Int → Int → Int → Int → List Int → Int → Option ((List (S234)) × Int × Int × Int)
 | 0, _, _, _, _, _, _, _, _, _ => none
 | k + 1, x5, x14, x15, x16, x2000, x2001, x2002, x2599000, x2599001 => if x16 < x15 then (if 0 ≤ x16 then (if x16 < (x14.length : Int) then ((impl_Places_behind.f k x2599000 x2599001 ((rd_T66 x14 x16).f0) ((rd_T66 x14 x16).f1)).bind fun bt2604 => ((impl_Places_code.f k bt2604.1 bt2604.2).bind fun t2608 => (if x5.length < 2932031007402 then (impl_Isles_graph_1.l0 k (x5 ++ [(⟨t2608, 1, (⟨(rd_T66 x14 x16).f0, (rd_T66 x14 x16).f1⟩ : S66)⟩ : S234)]) x14 x15 (wrap64 (x16 + 1)) x2000 x2001 x2002 x2599000 x2599001) else (none)))) else (none)) else (none)) else (some (x5, x2000, x2001, x2002))
def impl_Isles_graph_1.f (k : Nat) (a0 : Int) (s1_0 : Int) (s1_1 : Int) (s1_2 : Int) : Option ((List (S234)) × Int × Int × Int) := (impl_Isles_places.f k s1_0 s1_1 s1_2 a0).bind fun bt2591 => ((impl_Isles_voyages.f s1_0 s1_1 s1_2 bt2591.1 bt2591.2).bind fun t2599 => (impl_Isles_graph_1.l0 k (([] : List (S234))) t2599 (t2599.length : Int) 0 s1_0 s1_1 s1_2 bt2591.1 bt2591.2))
theorem impl_Isles_graph_1.mono_l : ∀ k, (∀ y0 y1 y2 y3 y4 y5 y6 y7 y8, LeO (impl_Isles_graph_1.l0 k y0 y1 y2 y3 y4 y5 y6 y7 y8) (impl_Isles_graph_1.l0 (k + 1) y0 y1 y2 y3 y4 y5 y6 y7 y8))
 | 0 => fun _ _ _ _ _ _ _ _ _ r h => by simp [impl_Isles_graph_1.l0] at h
 | k + 1 => by
  have ih0 := impl_Isles_graph_1.mono_l k
  ·intro y0 y1 y2 y3 y4 y5 y6 y7 y8
   unfold impl_Isles_graph_1.l0
   repeat' first
   | (with_reducible exact ih0 _ _ _ _ _ _ _ _ _)
   | (with_reducible exact impl_Isles_places.mono _ _ _ _ _)
   | (with_reducible exact impl_Places_behind.mono _ _ _ _ _)
   | (with_reducible exact impl_Places_code.mono _ _ _)
   | (with_reducible exact LeO.refl _)
   | (with_reducible exact LeO.none _)
   | (with_reducible refine LeO.ite ?_ ?_)
   | (with_reducible refine LeO.bind ?_ (fun _ => ?_))
   | exact ih0 _ _ _ _ _ _ _ _ _
   | exact impl_Isles_places.mono _ _ _ _ _
   | exact impl_Places_behind.mono _ _ _ _ _
   | exact impl_Places_code.mono _ _ _
   | exact LeO.none _
   | refine LeO.ite ?_ ?_
   | refine LeO.bind ?_ (fun _ => ?_)
theorem impl_Isles_graph_1.mono : ∀ a0 a1 a2 a3 k, LeO (impl_Isles_graph_1.f k a0 a1 a2 a3) (impl_Isles_graph_1.f (k + 1) a0 a1 a2 a3) := by
 intro a0 a1 a2 a3 k
 have ih0 := impl_Isles_graph_1.mono_l k
 unfold impl_Isles_graph_1.f
 repeat' first
   | (with_reducible exact ih0 _ _ _ _ _ _ _ _ _)
   | (with_reducible exact impl_Isles_places.mono _ _ _ _ _)
   | (with_reducible exact impl_Places_behind.mono _ _ _ _ _)
   | (with_reducible exact impl_Places_code.mono _ _ _)
   | (with_reducible exact LeO.refl _)
   | (with_reducible exact LeO.none _)
   | (with_reducible refine LeO.ite ?_ ?_)
   | (with_reducible refine LeO.bind ?_ (fun _ => ?_))
   | exact ih0 _ _ _ _ _ _ _ _ _
   | exact impl_Isles_places.mono _ _ _ _ _
   | exact impl_Places_behind.mono _ _ _ _ _
   | exact impl_Places_code.mono _ _ _
   | exact LeO.none _
   | refine LeO.ite ?_ ?_
   | refine LeO.bind ?_ (fun _ => ?_)
def impl_Isles_graph_1.T5 : Bool × List (List Nat × List Nat) := (true, [([], []), ([], []), ([], []), ([2], [2]), ([], []), ([4], [4]), ([1, 3, 5], [1, 3, 5]), ([6, 6], [6]), ([], []), ([7, 8], [7, 8]), ([9], [9]), ([0, 10, 7], [0, 10]), ([11, 11, 0, 1, 2, 3, 4, 5, 6, 7, 8, 9, 10, 11], [0, 11])])
def impl_Isles_graph_1.B5 : List Nat := [0, 0, 0, 4, 0, 16, 62, 126, 0, 510, 1022, 2047, 4095]
theorem impl_Isles_graph_1.tab5 : rtab .any (opsOf Try.f252 5) = impl_Isles_graph_1.T5 := by kernel_rfl
theorem impl_Isles_graph_1.bits5 : waitsOk impl_Isles_graph_1.T5.2 impl_Isles_graph_1.B5 = true := by kernel_rfl
set_option maxHeartbeats 8000000 in
set_option maxRecDepth 100000 in
theorem impl_Isles_graph_1.calls (k : Nat) (a0 : Int) (g : Nat) (s1_0 : Int) (s1_1 : Int) (s1_2 : Int) (r1 : List (S234)) (r2 : Int) (r3 : Int) (r4 : Int) (w0 w : World) (hI : IsS39 w0 w g s1_0 s1_1 s1_2) (hB : Below w0.heap.size w0 w) (h : impl_Isles_graph_1.f k a0 s1_0 s1_1 s1_2 = some (r1, r2, r3, r4)) :
  Calls Try.prog 252 #[.int .i64 a0, .pointer (some ⟨g, 0, none⟩)] w fun e w' => ∃ v0_ : Value, e = .returned (v0_) ∧ Kd.N k234 234 w' w.heap.size (fun k_ => (w.heap.size ≤ k_)) v0_ r1 ∧ IsS39 w0 w' g r2 r3 r4 ∧ Below w0.heap.size w0 w' ∧ KeepBut w w' g none := by
 have hu39 := Try.underlying39
 have hu64 := Try.underlying64
 have hu66 := Try.underlying66
 have hu234 := Try.underlying234
 have HI1 := Aside0.mk hI
 have HK := Aside0.mk (KeepBut.refl w g none)
 have HL := Aside0.mk hB.size
 clear hI
 have HW0 := Aside0.mk hB.size
 have HB := Aside0.mk hB
 clear hB
 have H : ((impl_Isles_places.f k s1_0 s1_1 s1_2 a0).bind fun bt2591 => ((impl_Isles_voyages.f s1_0 s1_1 s1_2 bt2591.1 bt2591.2).bind fun t2599 => (impl_Isles_graph_1.l0 k (([] : List (S234))) t2599 (t2599.length : Int) 0 s1_0 s1_1 s1_2 bt2591.1 bt2591.2))) = some (r1, r2, r3, r4) := h
 clear h
 replace H := Option.bind_eq_some_iff.mp H
 obtain ⟨⟨t2591, t2594⟩, A30, H⟩ := H
 replace H : ((impl_Isles_voyages.f s1_0 s1_1 s1_2 t2591 t2594).bind fun t2599 => (impl_Isles_graph_1.l0 k (([] : List (S234))) t2599 (t2599.length : Int) 0 s1_0 s1_1 s1_2 t2591 t2594)) = some (r1, r2, r3, r4) := H
 have A3 := Aside0.mk A30
 clear A30
 obtain ⟨y2595, hy2595⟩ : ∃ y_ : List (S234), y_ = (([] : List (S234))) := ⟨_, rfl⟩
 replace H : ((impl_Isles_voyages.f s1_0 s1_1 s1_2 t2591 t2594).bind fun t2599 => (impl_Isles_graph_1.l0 k y2595 t2599 (t2599.length : Int) 0 s1_0 s1_1 s1_2 t2591 t2594)) = some (r1, r2, r3, r4) := by first | (rw [hy2595]; with_reducible exact H) | (have H2_ := (Option.bind_some _ _).symm.trans H; rw [hy2595]; with_reducible exact H2_) | (have H2_ := (Option.bind_some _ _).symm.trans H; with_reducible exact H2_) | with_reducible exact H | (rw [hy2595]; exact H) | exact H
 have Ny2595 := Aside0.mk hy2595
 clear hy2595
 replace H := Option.bind_eq_some_iff.mp H
 obtain ⟨t2599, A40, H⟩ := H
 replace H : (impl_Isles_graph_1.l0 k y2595 t2599 (t2599.length : Int) 0 s1_0 s1_1 s1_2 t2591 t2594) = some (r1, r2, r3, r4) := H
 have A4 := Aside0.mk A40
 clear A40
 have H' := Aside0.mk H
 clear H
 obtain ⟨HGz5, hgz5⟩ := HI1.out
 have hcz5_0 := cellS39_0 HGz5
 have hcz5_1 := cellS39_1 HGz5
 have hcz5_2 := cellS39_2 HGz5
 have hfz5_0 := blk_frozen HGz5 0
 have hfz5_1 := blk_frozen HGz5 1
 have hfz5_2 := blk_frozen HGz5 2
 clear HGz5 hgz5
 go_enter Try.func252, Try.ntmps252
 go_wp2_with (first | ((with_reducible refine gate_callee (f := 253) rfl ?_); refine goesL_ (some 10) rfl rfl Try.func253 (by kernel_rfl) rfl #[.agg #[.int .i64 s1_0, .int .i64 s1_1, .int .i64 s1_2], .int .i64 a0] rfl (by (try simp only [List.map_toArray, List.map_cons, List.map_nil]); first | done | rfl | (simp only [List.length_drop, List.length_take]; rfl)) ?_; (with_reducible refine (impl_Isles_places.calls k s1_0 s1_1 s1_2 a0 t2591 t2594 _ A3.out).mono ?_); rintro e w6 ⟨v2592, rfl, ho0, hb⟩; refine ⟨_, rfl, ?_⟩; have n0_ := Aside0.mk (Kd.R_lower (Kd.R_newM (M := fun k_ => (w.heap.size ≤ k_)) ho0 (keep_size (w := w) (g := g) (row := none) (by repeat (first | (with_reducible first | exact HK.out | apply KeepBut.set_ | apply keep_drewN | apply keep_drew | apply keep_alloc) | exact HK.out))) (fun k_ h_ => h_)) (keep_size (w := w) (g := g) (row := none) (by repeat (first | (with_reducible first | exact HK.out | apply KeepBut.set_ | apply keep_drewN | apply keep_drew | apply keep_alloc) | exact HK.out)))); have n1_ := Aside0.mk (IsS39.below (by repeat (first | (with_reducible first | exact HI1.out | apply IsS39.alloc | apply IsS39.drewN | apply IsS39.drew | apply IsS39.set_0 | apply IsS39.set_1 | apply IsS39.set_2) | exact HI1.out)) hb); have n2_ := Aside0.mk (KeepBut.trans (by repeat (first | (with_reducible first | exact HK.out | apply KeepBut.set_ | apply keep_drewN | apply keep_drew | apply keep_alloc) | exact HK.out)) (KeepBut.of_below hb g none) (.inl rfl)); have n3_ := Aside0.mk (below_step (by repeat (first | (with_reducible first | exact HB.out | apply below_alloc | apply pw_below_drewN | apply below_drew1 | refine below_set ?_ (IsS39.ge HI1.out)) | exact HB.out)) hb); clear HI1; clear HK; clear HB; have HO2593 := n0_; have HI1 := n1_; have HK := n2_; have HB := n3_; clear n0_ n1_ n2_ n3_; (try clear hb); (try clear hb2); (try clear hk); (try clear hi); (try clear ho0)) | ((with_reducible refine gate_dst (N := 11) rfl ?_); refine Kd.N_lit k234 _ 234 ?hg (N' := 11) ?hd (xs := ([] : List (S234))) (inner := []) (ok := (fun k_ => (w.heap.size ≤ k_) ∧ some k_ ≠ (v2592 : Value).ownBlock ∧ k_ ≠ g)) (okp := (fun k_ => (w.heap.size ≤ k_) ∧ some k_ ≠ (v2592 : Value).ownBlock ∧ k_ ≠ g)) ?hr ?hp (fun _ hk => hk) ((show ∀ k_, w6.heap.size ≤ k_ → (fun k_ => (w.heap.size ≤ k_) ∧ some k_ ≠ (v2592 : Value).ownBlock ∧ k_ ≠ g) k_ from fun k_ hk => ⟨(Nat.le_trans (keep_size (w := w) (g := g) (row := none) (by repeat (first | (with_reducible first | exact HK.out | apply KeepBut.set_ | apply keep_drewN | apply keep_drew | apply keep_alloc) | exact HK.out))) hk), Kd.fresh' (Kd.R_lt (by (with_reducible repeat (first | apply Kd.R_alloc | apply Kd.R_drewN | apply Kd.R_drew)); exact HO2593.out)) k_ hk, IsS39.fresh (by repeat (first | (with_reducible first | exact HI1.out | apply IsS39.alloc | apply IsS39.drewN | apply IsS39.drew | apply IsS39.set_0 | apply IsS39.set_1 | apply IsS39.set_2) | exact HI1.out)) k_ hk⟩) _ (Nat.le_refl _)) (Below.refl _ _) (Nat.le_refl _) (by simp) ?_; (case hd => rfl); (case hg => rfl); (case hr => first | (go_simp; done) | (go_simp; rfl)); (case hp => exact (Reps.none _ _)); intro v2596 w7 ho8 hb hg_ hnew_; clear hg_ hnew_; (first | rw [← Ny2595.out] at ho8 | (simp only [Int.reduceToNat] at ho8; rw [← Ny2595.out] at ho8)); have n0_ := Aside0.mk (Kd.R_below (by (with_reducible repeat (first | apply Kd.R_alloc | apply Kd.R_drewN | apply Kd.R_drew)); exact HO2593.out) hb); have n1_ := Aside0.mk (Kd.N_lower ho8 (keep_size (w := w) (g := g) (row := none) (by repeat (first | (with_reducible first | exact HK.out | apply KeepBut.set_ | apply keep_drewN | apply keep_drew | apply keep_alloc) | exact HK.out)))); have n2_ := Aside0.mk (IsS39.below (by repeat (first | (with_reducible first | exact HI1.out | apply IsS39.alloc | apply IsS39.drewN | apply IsS39.drew | apply IsS39.set_0 | apply IsS39.set_1 | apply IsS39.set_2) | exact HI1.out)) hb); have n3_ := Aside0.mk (KeepBut.trans (by repeat (first | (with_reducible first | exact HK.out | apply KeepBut.set_ | apply keep_drewN | apply keep_drew | apply keep_alloc) | exact HK.out)) (KeepBut.of_below hb g none) (.inl rfl)); have n4_ := Aside0.mk (below_step (by repeat (first | (with_reducible first | exact HB.out | apply below_alloc | apply pw_below_drewN | apply below_drew1 | refine below_set ?_ (IsS39.ge HI1.out)) | exact HB.out)) hb); clear HO2593; clear HI1; clear HK; clear HB; have HO2593 := n0_; have HO2597 := n1_; have HI1 := n2_; have HK := n3_; have HB := n4_; clear n0_ n1_ n2_ n3_ n4_; clear hb ho8) | ((with_reducible refine gate_dst (N := 4) rfl ?_); refine box_event ?hg (N := 4) ?hd (cs := #[.slice none 0 0, .int .i64 0]) (t := 64) ?hr ?_; (case hd => rfl); (case hg => rfl); (case hr => first | (go_simp; done) | (go_simp; rfl)); intro gb2598 hg w9 hbox hb; have n0_ := Aside0.mk (Kd.R_below (by (with_reducible repeat (first | apply Kd.R_alloc | apply Kd.R_drewN | apply Kd.R_drew)); exact HO2593.out) hb); have n1_ := Aside0.mk (Kd.N_below (Kd.N_elderB (by (with_reducible repeat (first | apply Kd.N_alloc | apply Kd.N_drewN | apply Kd.N_drew)); exact HO2597.out) gb2598 (Nat.le_of_eq hg.symm)) hb); have n2_ := Aside0.mk (IsS39.below (by repeat (first | (with_reducible first | exact HI1.out | apply IsS39.alloc | apply IsS39.drewN | apply IsS39.drew | apply IsS39.set_0 | apply IsS39.set_1 | apply IsS39.set_2) | exact HI1.out)) hb); have n3_ := Aside0.mk (KeepBut.trans (by repeat (first | (with_reducible first | exact HK.out | apply KeepBut.set_ | apply keep_drewN | apply keep_drew | apply keep_alloc) | exact HK.out)) (KeepBut.of_below hb g none) (.inl rfl)); have n4_ := Aside0.mk (below_step (by repeat (first | (with_reducible first | exact HB.out | apply below_alloc | apply pw_below_drewN | apply below_drew1 | refine below_set ?_ (IsS39.ge HI1.out)) | exact HB.out)) hb); have n5_ := Aside0.mk (hbox); have n6_ := Aside0.mk ((by rw [hg]; exact (keep_size (w := w) (g := g) (row := none) (by repeat (first | (with_reducible first | exact HK.out | apply KeepBut.set_ | apply keep_drewN | apply keep_drew | apply keep_alloc) | exact HK.out))) : w.heap.size ≤ gb2598)); have n7_ := Aside0.mk ((Nat.le_trans HW0.out (by rw [hg]; exact (keep_size (w := w) (g := g) (row := none) (by repeat (first | (with_reducible first | exact HK.out | apply KeepBut.set_ | apply keep_drewN | apply keep_drew | apply keep_alloc) | exact HK.out))) : w.heap.size ≤ gb2598) : w0.heap.size ≤ gb2598)); have n8_ := Aside0.mk ((by rw [hg]; exact Nat.ne_of_lt (IsS39.lt (show IsS39 w0 _ g s1_0 s1_1 s1_2 from by repeat (first | (with_reducible first | exact HI1.out | apply IsS39.alloc | apply IsS39.drewN | apply IsS39.drew | apply IsS39.set_0 | apply IsS39.set_1 | apply IsS39.set_2) | exact HI1.out))) : g ≠ gb2598)); have n9_ := Aside0.mk ((by rw [hg]; exact Nat.ne_of_gt (IsS39.lt (show IsS39 w0 _ g s1_0 s1_1 s1_2 from by repeat (first | (with_reducible first | exact HI1.out | apply IsS39.alloc | apply IsS39.drewN | apply IsS39.drew | apply IsS39.set_0 | apply IsS39.set_1 | apply IsS39.set_2) | exact HI1.out))) : gb2598 ≠ g)); clear HO2593; clear HO2597; clear HI1; clear HK; clear HB; have HO2593 := n0_; have HO2597 := n1_; have HI1 := n2_; have HK := n3_; have HB := n4_; have BK2598 := n5_; have GW2598 := n6_; have GE2598 := n7_; have NB1_2598 := n8_; have NB2598_1 := n9_; clear n0_ n1_ n2_ n3_ n4_ n5_ n6_ n7_ n8_ n9_; clear hb hbox hg; obtain ⟨Ao10, co10, eo10⟩ := Kd.R_slice HO2593.out; subst eo10; have hnb11 := NB2598_1.out; have hnc11 := NB1_2598.out; have hcz12_0 : w9.cell? ⟨gb2598, 0, none⟩ = some (.slice none 0 0) := (blk_cell BK2598.out 0).trans rfl; have hcz12_1 : w9.cell? ⟨gb2598, 1, none⟩ = some (.int .i64 0) := (blk_cell BK2598.out 1).trans rfl; have hfz12_0 := blk_frozen BK2598.out 0; have hfz12_1 := blk_frozen BK2598.out 1; obtain ⟨HGz13, hgz13⟩ := HI1.out; have hcz13_0 := cellS39_0 HGz13; have hcz13_1 := cellS39_1 HGz13; have hcz13_2 := cellS39_2 HGz13; have hfz13_0 := blk_frozen HGz13 0; have hfz13_1 := blk_frozen HGz13 1; have hfz13_2 := blk_frozen HGz13 2; clear HGz13 hgz13) | ((with_reducible refine gate_callee (f := 174) rfl ?_); refine goesL_ (some 14) rfl rfl Try.func174 (by kernel_rfl) rfl #[.agg #[.int .i64 s1_0, .int .i64 s1_1, .int .i64 s1_2], .agg #[.slice Ao10 t2591.length co10, .int .i64 t2594]] rfl (by (try simp only [List.map_toArray, List.map_cons, List.map_nil]); first | done | rfl | (simp only [List.length_drop, List.length_take]; rfl)) ?_; (with_reducible refine (impl_Isles_voyages.calls s1_0 s1_1 s1_2 _ _ t2591 t2594 t2599 _ ?side1 ?side2 A4.out).mono ?_); (case side1 => refine (Kd.R_reads' (e := 3) (base := w.heap.size) (ok := fun k_ => ((w.heap.size ≤ k_) ∧ True)) (n := t2591.length) (c := co10) ?_).2.2; exact (by (with_reducible repeat (first | apply Kd.R_alloc | apply Kd.R_drewN | apply Kd.R_drew)); exact (Kd.R_mono (Kd.R_far (p := ⟨gb2598, 1, none⟩) (Kd.R_far (p := ⟨gb2598, 0, none⟩) (Kd.R_types HO2593.out BK2598.out (by decide)) (fun _ hk => hk.2) (.slice Ao10 t2591.length co10)) (fun _ hk => hk.2) (.int .i64 t2594)) (fun _ h_ => h_.1)))); (case side2 => exact (Kd.R_reads' HO2593.out).2.1); rintro e w14 ⟨v2600, rfl, ho0, hb⟩; refine ⟨_, rfl, ?_⟩; have n0_ := Aside0.mk (Kd.R_below (by (with_reducible repeat (first | apply Kd.R_alloc | apply Kd.R_drewN | apply Kd.R_drew)); exact (Kd.R_mono (Kd.R_far (p := ⟨gb2598, 1, none⟩) (Kd.R_far (p := ⟨gb2598, 0, none⟩) (Kd.R_types HO2593.out BK2598.out (by decide)) (fun _ hk => hk.2) (.slice Ao10 t2591.length co10)) (fun _ hk => hk.2) (.int .i64 t2594)) (fun _ h_ => h_.1))) hb); have n1_ := Aside0.mk (Kd.N_elder' (by (with_reducible repeat (first | apply Kd.N_alloc | apply Kd.N_drewN | apply Kd.N_drew)); exact (Kd.N_mono (Kd.N_far (p := ⟨gb2598, 1, none⟩) (Kd.N_far (p := ⟨gb2598, 0, none⟩) (Kd.N_mono HO2597.out (fun k_ hk => (⟨hk, hk.2⟩ : _ ∧ k_ ≠ gb2598))) (fun _ hk => hk.2) (.slice Ao10 t2591.length co10)) (fun _ hk => hk.2) (.int .i64 t2594)) (fun _ h_ => h_.1))) (Kd.N_base ho0) hb); have n2_ := Aside0.mk (Kd.N_lower (Kd.N_mono (ok' := fun k_ => (w.heap.size ≤ k_) ∧ some k_ ≠ (.slice Ao10 t2591.length co10 : Value).ownBlock ∧ some k_ ≠ (v2596 : Value).ownBlock ∧ k_ ≠ gb2598 ∧ k_ ≠ g) ho0 (fun k_ hk_ => ⟨(Nat.le_trans (keep_size (w := w) (g := g) (row := none) (by repeat (first | (with_reducible first | exact HK.out | apply KeepBut.set_ | apply keep_drewN | apply keep_drew | apply keep_alloc | refine keep_far ?_ GW2598.out _) | exact HK.out))) hk_), (Kd.fresh' (Kd.R_lt (by (with_reducible repeat (first | apply Kd.R_alloc | apply Kd.R_drewN | apply Kd.R_drew)); exact (Kd.R_mono (Kd.R_far (p := ⟨gb2598, 1, none⟩) (Kd.R_far (p := ⟨gb2598, 0, none⟩) (Kd.R_types HO2593.out BK2598.out (by decide)) (fun _ hk => hk.2) (.slice Ao10 t2591.length co10)) (fun _ hk => hk.2) (.int .i64 t2594)) (fun _ h_ => h_.1)))) k_ hk_), (Kd.fresh' (Kd.N_lt (by (with_reducible repeat (first | apply Kd.N_alloc | apply Kd.N_drewN | apply Kd.N_drew)); exact (Kd.N_mono (Kd.N_far (p := ⟨gb2598, 1, none⟩) (Kd.N_far (p := ⟨gb2598, 0, none⟩) (Kd.N_mono HO2597.out (fun k_ hk => (⟨hk, hk.2⟩ : _ ∧ k_ ≠ gb2598))) (fun _ hk => hk.2) (.slice Ao10 t2591.length co10)) (fun _ hk => hk.2) (.int .i64 t2594)) (fun _ h_ => h_.1)))) k_ hk_), (Kd.freshB (g := gb2598) (o := .cells #[.slice Ao10 t2591.length co10, .int .i64 t2594] 64 (0, 0)) (by (with_reducible repeat (first | refine blk_drewN ?_ _ | refine blk_drew ?_ | refine blk_alloc ?_ _)); refine blk_put (cs := #[.slice Ao10 t2591.length co10, .int .i64 0]) ?_ 1 _ rfl; (with_reducible repeat (first | refine blk_drewN ?_ _ | refine blk_drew ?_ | refine blk_alloc ?_ _)); refine blk_put (cs := #[.slice none 0 0, .int .i64 0]) ?_ 0 _ rfl; (with_reducible repeat (first | refine blk_drewN ?_ _ | refine blk_drew ?_ | refine blk_alloc ?_ _)); exact BK2598.out) k_ hk_), (IsS39.fresh (by repeat (first | (with_reducible first | exact HI1.out | apply IsS39.alloc | apply IsS39.drewN | apply IsS39.drew | apply IsS39.set_0 | apply IsS39.set_1 | apply IsS39.set_2 | refine IsS39.far ?_ NB1_2598.out _) | exact HI1.out)) k_ hk_)⟩)) (keep_size (w := w) (g := g) (row := none) (by repeat (first | (with_reducible first | exact HK.out | apply KeepBut.set_ | apply keep_drewN | apply keep_drew | apply keep_alloc | refine keep_far ?_ GW2598.out _) | exact HK.out)))); have n3_ := Aside0.mk (IsS39.below (show IsS39 w0 ((w9.setCell ⟨gb2598, 0, none⟩ (.slice Ao10 t2591.length co10)).setCell ⟨gb2598, 1, none⟩ (.int .i64 t2594)) g s1_0 s1_1 s1_2 from by repeat (first | (with_reducible first | exact HI1.out | apply IsS39.alloc | apply IsS39.drewN | apply IsS39.drew | apply IsS39.set_0 | apply IsS39.set_1 | apply IsS39.set_2 | refine IsS39.far ?_ NB1_2598.out _) | exact HI1.out)) hb); have n4_ := Aside0.mk (blk_below (g := gb2598) (o := .cells #[.slice Ao10 t2591.length co10, .int .i64 t2594] 64 (0, 0)) (by (with_reducible repeat (first | refine blk_drewN ?_ _ | refine blk_drew ?_ | refine blk_alloc ?_ _)); refine blk_put (cs := #[.slice Ao10 t2591.length co10, .int .i64 0]) ?_ 1 _ rfl; (with_reducible repeat (first | refine blk_drewN ?_ _ | refine blk_drew ?_ | refine blk_alloc ?_ _)); refine blk_put (cs := #[.slice none 0 0, .int .i64 0]) ?_ 0 _ rfl; (with_reducible repeat (first | refine blk_drewN ?_ _ | refine blk_drew ?_ | refine blk_alloc ?_ _)); exact BK2598.out) hb); have n5_ := Aside0.mk (KeepBut.trans (by repeat (first | (with_reducible first | exact HK.out | apply KeepBut.set_ | apply keep_drewN | apply keep_drew | apply keep_alloc | refine keep_far ?_ GW2598.out _) | exact HK.out)) (KeepBut.of_below hb g none) (.inl rfl)); have n6_ := Aside0.mk (below_step (by repeat (first | (with_reducible first | exact HB.out | apply below_alloc | apply pw_below_drewN | apply below_drew1 | refine below_set ?_ (IsS39.ge HI1.out) | refine below_set ?_ GE2598.out) | exact HB.out)) hb); clear HO2593; clear HO2597; clear HI1; clear BK2598; clear HK; clear HB; have HO2593 := n0_; have HO2597 := n1_; have HO2601 := n2_; have HI1 := n3_; have BK2598 := n4_; have HK := n5_; have HB := n6_; clear n0_ n1_ n2_ n3_ n4_ n5_ n6_; (try clear hb); (try clear hb2); (try clear hk); (try clear hi); (try clear ho0); obtain ⟨Ao15, co15, eo15⟩ := Kd.N_slice HO2601.out; subst eo15))
 go_loopg [5, 16] k (fun kq v5 v16 w' => ∃ (x5_1 : List (S234)) (x16_1 : Int), v16 = .int .i64 x16_1 ∧ Aside0 (impl_Isles_graph_1.l0 kq x5_1 t2599 (t2599.length : Int) x16_1 s1_0 s1_1 s1_2 t2591 t2594 = some (r1, r2, r3, r4)) ∧ Aside0 (kq ≤ k) ∧ Aside0 (Kd.N k234 234 w' w.heap.size (fun k_ => (w.heap.size ≤ k_) ∧ some k_ ≠ ((.slice Ao15 t2599.length co15) : Value).ownBlock ∧ some k_ ≠ ((.slice Ao10 t2591.length co10) : Value).ownBlock ∧ k_ ≠ gb2598 ∧ k_ ≠ g) v5 x5_1) ∧ Aside0 (Kd.N k66 66 w' w.heap.size (fun k_ => (w.heap.size ≤ k_) ∧ some k_ ≠ (v5 : Value).ownBlock ∧ some k_ ≠ ((.slice Ao10 t2591.length co10) : Value).ownBlock ∧ k_ ≠ gb2598 ∧ k_ ≠ g) (.slice Ao15 t2599.length co15) t2599) ∧ Aside0 (Kd.R (Kd.int .i64) 3 w' w.heap.size (fun k_ => (w.heap.size ≤ k_)) (.slice Ao10 t2591.length co10) t2591) ∧ Aside0 (w'.heap[gb2598]? = some (.cells #[(.slice Ao10 t2591.length co10), .int .i64 t2594] 64 (0, 0))) ∧ Aside0 (IsS39 w0 w' g s1_0 s1_1 s1_2) ∧ Aside0 (KeepBut w w' g none) ∧ Aside0 (Below w0.heap.size w0 w'))
 case atStart => exact ⟨(y2595), (0), (by first | rfl | (simp; done) | (simp [*]; done)), H', ⟨Nat.le_refl _⟩, ⟨by (with_reducible repeat (first | apply Kd.N_alloc | apply Kd.N_drewN | apply Kd.N_drew)); exact Kd.N_mono HO2597.out (fun _ hk => ⟨hk.1.1.1, ⟨hk.2, ⟨hk.1.1.2.1, ⟨hk.1.2, hk.1.1.2.2⟩⟩⟩⟩)⟩, ⟨by (with_reducible repeat (first | apply Kd.N_alloc | apply Kd.N_drewN | apply Kd.N_drew)); exact Kd.N_mono HO2601.out (fun _ hk => ⟨hk.1, ⟨hk.2.2.1, ⟨hk.2.1, ⟨hk.2.2.2.1, hk.2.2.2.2⟩⟩⟩⟩)⟩, ⟨by (with_reducible repeat (first | apply Kd.R_alloc | apply Kd.R_drewN | apply Kd.R_drew)); exact Kd.R_mono HO2593.out (fun _ hk => hk.1)⟩, ⟨by (with_reducible repeat (first | refine blk_drewN ?_ _ | refine blk_drew ?_ | refine blk_alloc ?_ _)); exact BK2598.out⟩, ⟨by repeat (first | (with_reducible first | exact HI1.out | apply IsS39.alloc | apply IsS39.drewN | apply IsS39.drew | apply IsS39.set_0 | apply IsS39.set_1 | apply IsS39.set_2 | refine IsS39.far ?_ NB1_2598.out _) | exact HI1.out)⟩, ⟨by repeat (first | (with_reducible first | exact HK.out | apply KeepBut.set_ | apply keep_drewN | apply keep_drew | apply keep_alloc | refine keep_far ?_ GW2598.out _) | exact HK.out)⟩, ⟨by repeat (first | (with_reducible first | exact HB.out | apply below_alloc | apply pw_below_drewN | apply below_drew1 | refine below_set ?_ (IsS39.ge HI1.out) | refine below_set ?_ GE2598.out) | exact HB.out)⟩⟩
 case round =>
  clear H'
  try clear c1
  try clear c2
  try clear p2
  try clear c11
  try clear hcz12_0
  try clear hcz12_1
  try clear hcz13_0
  try clear hcz13_1
  try clear hcz13_2
  try clear hcz5_0
  try clear hcz5_1
  try clear hcz5_2
  try clear hfz12_0
  try clear hfz12_1
  try clear hfz13_0
  try clear hfz13_1
  try clear hfz13_2
  try clear hfz5_0
  try clear hfz5_1
  try clear hfz5_2
  obtain ⟨x5_1, x16_1, rfl, HA, HK1, HO_5, HO_14, HO_2599000, BK2598, HI1, HK, HB⟩ := hrel
  cases gk with
  | zero => exact absurd HA.out (by simp [impl_Isles_graph_1.l0])
  | succ k1 =>
   have H := HA.out
   clear HA
   simp only [impl_Isles_graph_1.l0] at H
   by_cases c16 : x16_1 < (t2599.length : Int)
   ·rw [if_pos c16] at H
    have c16b0 : decide (x16_1 < (t2599.length : Int)) = true := decide_eq_true c16
    clear c16
    by_cases c17 : 0 ≤ x16_1
    ·rw [if_pos c17] at H
     have c17b0 : decide (0 ≤ x16_1) = true := decide_eq_true c17
     clear c17
     by_cases c18 : x16_1 < (t2599.length : Int)
     ·rw [if_pos c18] at H
      have c18b0 : decide (x16_1 < (t2599.length : Int)) = true := decide_eq_true c18
      clear c18
      replace H := Option.bind_eq_some_iff.mp H
      obtain ⟨⟨t2604, t2607⟩, A190, H⟩ := H
      replace H : ((impl_Places_code.f k1 t2604 t2607).bind fun t2608 => (if x5_1.length < 2932031007402 then (impl_Isles_graph_1.l0 k1 (x5_1 ++ [(⟨t2608, 1, (⟨(rd_T66 t2599 x16_1).f0, (rd_T66 t2599 x16_1).f1⟩ : S66)⟩ : S234)]) t2599 (t2599.length : Int) (wrap64 (x16_1 + 1)) s1_0 s1_1 s1_2 t2591 t2594) else (none))) = some (r1, r2, r3, r4) := H
      have A19 := Aside0.mk A190
      clear A190
      replace H := Option.bind_eq_some_iff.mp H
      obtain ⟨t2608, A200, H⟩ := H
      replace H : (if x5_1.length < 2932031007402 then (impl_Isles_graph_1.l0 k1 (x5_1 ++ [(⟨t2608, 1, (⟨(rd_T66 t2599 x16_1).f0, (rd_T66 t2599 x16_1).f1⟩ : S66)⟩ : S234)]) t2599 (t2599.length : Int) (wrap64 (x16_1 + 1)) s1_0 s1_1 s1_2 t2591 t2594) else (none)) = some (r1, r2, r3, r4) := H
      have A20 := Aside0.mk A200
      clear A200
      by_cases c21 : x5_1.length < 2932031007402
      ·rw [if_pos c21] at H
       have LMc21 := Aside0.mk c21
       clear c21
       obtain ⟨y2609, hy2609⟩ : ∃ y_ : List (S234), y_ = (x5_1 ++ [(⟨t2608, 1, (⟨(rd_T66 t2599 x16_1).f0, (rd_T66 t2599 x16_1).f1⟩ : S66)⟩ : S234)]) := ⟨_, rfl⟩
       replace H : (impl_Isles_graph_1.l0 k1 y2609 t2599 (t2599.length : Int) (wrap64 (x16_1 + 1)) s1_0 s1_1 s1_2 t2591 t2594) = some (r1, r2, r3, r4) := by first | (rw [hy2609]; with_reducible exact H) | (have H2_ := (Option.bind_some _ _).symm.trans H; rw [hy2609]; with_reducible exact H2_) | (have H2_ := (Option.bind_some _ _).symm.trans H; with_reducible exact H2_) | with_reducible exact H | (rw [hy2609]; exact H) | exact H
       have Ny2609 := Aside0.mk hy2609
       clear hy2609
       have H' := Aside0.mk H
       clear H
       have p2602 : 0 ≤ (x16_1 : Int) := of_decide_eq_true (by first | (with_reducible assumption) | assumption)
       have q2602 : x16_1 < (t2599.length : Int) := of_decide_eq_true (by first | (with_reducible assumption) | assumption)
       obtain ⟨ad2602, A2602_1, c2602_1, e2602, hx2602_0, hx2602_1, hl2602_1, hi2602_1⟩ := at_T66 (Kd.N_reads' HO_14.out).2.2 x16_1 p2602 q2602
       cases e2602
       obtain ⟨ce2602, hce2602, hMe2602, hcc2602⟩ := Kd.N_get HO_14.out z66 x16_1 p2602 (by first | exact q2602 | exact of_decide_eq_true (by first | (with_reducible assumption) | assumption) | (have e_ := (Kd.N_reads' HO_14.out).1; omega))
       obtain ⟨ua2602_1, uc2602_1, rfl, ul2602_1, ge2602_1⟩ := k66_openF hMe2602
       have hv2602_1 := hcc2602 1 _ rfl
       rw [add_field _ _ 1 (by omega)] at hv2602_1
       replace hv2602_1 := Option.some.inj (hv2602_1.symm.trans hx2602_1)
       injection hv2602_1 with hva_ hvn_ hvc_
       rw [hva_] at ge2602_1
       rw [hvc_] at ul2602_1
       have HL2602_1 := Aside0.mk (show Kd.V (Kd.int .i64) 3 _ w.heap.size _ _ ((rd_T66 t2599 x16_1).f1) from Kd.V_mk ul2602_1 ge2602_1)
       clear hva_ hvn_ hvc_ ge2602_1 ul2602_1
       clear hcc2602 hce2602
       have HR2602_1 := Aside0.mk hi2602_1
       have HC2602_1 := Aside0.mk hl2602_1
       clear hi2602_1 hl2602_1
       replace p2602 := eq_true p2602
       replace q2602 := eq_true q2602
       try go_wp2_with (first | ((with_reducible refine gate_dst (N := 7) rfl ?_); refine box_event ?hg (N := 7) ?hd (cs := #[.int .i64 0, .slice none 0 0]) (t := 66) ?hr ?_; (case hd => rfl); (case hg => rfl); (case hr => first | (go_simp; done) | (go_simp; rfl)); intro gb2603 hg w22 hbox hb; have n0_ := Aside0.mk (Kd.N_below (Kd.N_elderB (by (with_reducible repeat (first | apply Kd.N_alloc | apply Kd.N_drewN | apply Kd.N_drew)); exact HO_5.out) gb2603 (Nat.le_of_eq hg.symm)) hb); have n1_ := Aside0.mk (Kd.N_below (Kd.N_elderB (by (with_reducible repeat (first | apply Kd.N_alloc | apply Kd.N_drewN | apply Kd.N_drew)); exact HO_14.out) gb2603 (Nat.le_of_eq hg.symm)) hb); have n2_ := Aside0.mk (Kd.R_below (by (with_reducible repeat (first | apply Kd.R_alloc | apply Kd.R_drewN | apply Kd.R_drew)); exact HO_2599000.out) hb); have n3_ := Aside0.mk (Kd.V_below (Kd.V_elderB (by (with_reducible repeat (first | apply Kd.V_alloc | apply Kd.V_drewN | apply Kd.V_drew)); exact HL2602_1.out) gb2603 (Nat.le_of_eq hg.symm)) hb); have n4_ := Aside0.mk (blk_below (g := gb2598) (o := .cells #[.slice Ao10 t2591.length co10, .int .i64 t2594] 64 (0, 0)) (by (with_reducible repeat (first | refine blk_drewN ?_ _ | refine blk_drew ?_ | refine blk_alloc ?_ _)); exact BK2598.out) hb); have n5_ := Aside0.mk (IsS39.below (by repeat (first | (with_reducible first | exact HI1.out | apply IsS39.alloc | apply IsS39.drewN | apply IsS39.drew | apply IsS39.set_0 | apply IsS39.set_1 | apply IsS39.set_2 | refine IsS39.far ?_ NB1_2598.out _) | exact HI1.out)) hb); have n6_ := Aside0.mk (Kd.C_below (by repeat (first | (with_reducible exact HR2602_1.out) | (with_reducible refine Kd.C_alloc ?_ _) | (with_reducible refine Kd.C_drewN ?_ _) | (with_reducible refine Kd.C_drew ?_) | exact HR2602_1.out)) hb); have n7_ := Aside0.mk (KeepBut.trans (by repeat (first | (with_reducible first | exact HK.out | apply KeepBut.set_ | apply keep_drewN | apply keep_drew | apply keep_alloc | refine keep_far ?_ GW2598.out _) | exact HK.out)) (KeepBut.of_below hb g none) (.inl rfl)); have n8_ := Aside0.mk (below_step (by repeat (first | (with_reducible first | exact HB.out | apply below_alloc | apply pw_below_drewN | apply below_drew1 | refine below_set ?_ (IsS39.ge HI1.out) | refine below_set ?_ GE2598.out) | exact HB.out)) hb); have n9_ := Aside0.mk (hbox); have n10_ := Aside0.mk ((by rw [hg]; exact (keep_size (w := w) (g := g) (row := none) (by repeat (first | (with_reducible first | exact HK.out | apply KeepBut.set_ | apply keep_drewN | apply keep_drew | apply keep_alloc | refine keep_far ?_ GW2598.out _) | exact HK.out))) : w.heap.size ≤ gb2603)); have n11_ := Aside0.mk ((Nat.le_trans HW0.out (by rw [hg]; exact (keep_size (w := w) (g := g) (row := none) (by repeat (first | (with_reducible first | exact HK.out | apply KeepBut.set_ | apply keep_drewN | apply keep_drew | apply keep_alloc | refine keep_far ?_ GW2598.out _) | exact HK.out))) : w.heap.size ≤ gb2603) : w0.heap.size ≤ gb2603)); have n12_ := Aside0.mk ((by rw [hg]; exact Nat.ne_of_lt (blk_lt (g := gb2598) (o := .cells #[.slice Ao10 t2591.length co10, .int .i64 t2594] 64 (0, 0)) (by (with_reducible repeat (first | refine blk_drewN ?_ _ | refine blk_drew ?_ | refine blk_alloc ?_ _)); exact BK2598.out)) : gb2598 ≠ gb2603)); have n13_ := Aside0.mk ((by rw [hg]; exact Nat.ne_of_gt (blk_lt (g := gb2598) (o := .cells #[.slice Ao10 t2591.length co10, .int .i64 t2594] 64 (0, 0)) (by (with_reducible repeat (first | refine blk_drewN ?_ _ | refine blk_drew ?_ | refine blk_alloc ?_ _)); exact BK2598.out)) : gb2603 ≠ gb2598)); have n14_ := Aside0.mk ((by rw [hg]; exact Nat.ne_of_lt (IsS39.lt (show IsS39 w0 _ g s1_0 s1_1 s1_2 from by repeat (first | (with_reducible first | exact HI1.out | apply IsS39.alloc | apply IsS39.drewN | apply IsS39.drew | apply IsS39.set_0 | apply IsS39.set_1 | apply IsS39.set_2 | refine IsS39.far ?_ NB1_2598.out _) | exact HI1.out))) : g ≠ gb2603)); have n15_ := Aside0.mk ((by rw [hg]; exact Nat.ne_of_gt (IsS39.lt (show IsS39 w0 _ g s1_0 s1_1 s1_2 from by repeat (first | (with_reducible first | exact HI1.out | apply IsS39.alloc | apply IsS39.drewN | apply IsS39.drew | apply IsS39.set_0 | apply IsS39.set_1 | apply IsS39.set_2 | refine IsS39.far ?_ NB1_2598.out _) | exact HI1.out))) : gb2603 ≠ g)); clear HO_5; clear HO_14; clear HO_2599000; clear HL2602_1; clear BK2598; clear HI1; clear HR2602_1; clear HK; clear HB; have HO_5 := n0_; have HO_14 := n1_; have HO_2599000 := n2_; have HL2602_1 := n3_; have BK2598 := n4_; have HI1 := n5_; have HR2602_1 := n6_; have HK := n7_; have HB := n8_; have BK2603 := n9_; have GW2603 := n10_; have GE2603 := n11_; have NB2598_2603 := n12_; have NB2603_2598 := n13_; have NB1_2603 := n14_; have NB2603_1 := n15_; clear n0_ n1_ n2_ n3_ n4_ n5_ n6_ n7_ n8_ n9_ n10_ n11_ n12_ n13_ n14_ n15_; clear hb hbox hg; have hnb23 := NB2603_2598.out; have hnc23 := NB2598_2603.out; have hnb24 := NB2603_1.out; have hnc24 := NB1_2603.out; have hcz25_0 : w22.cell? ⟨gb2603, 0, none⟩ = some (.int .i64 0) := (blk_cell BK2603.out 0).trans rfl; have hcz25_1 : w22.cell? ⟨gb2603, 1, none⟩ = some (.slice none 0 0) := (blk_cell BK2603.out 1).trans rfl; have hfz25_0 := blk_frozen BK2603.out 0; have hfz25_1 := blk_frozen BK2603.out 1))
       have n0_ : Aside0 (Kd.N k234 234 ((w22.setCell ⟨gb2603, 0, none⟩ (.int .i64 ((rd_T66 t2599 x16_1).f0))).setCell ⟨gb2603, 1, none⟩ (.slice A2602_1 ((rd_T66 t2599 x16_1).f1).length c2602_1)) w.heap.size (fun k_ => (w.heap.size ≤ k_) ∧ some k_ ≠ (.slice (some ad2602) t2599.length co15 : Value).ownBlock ∧ some k_ ≠ (.slice Ao10 t2591.length co10 : Value).ownBlock ∧ k_ ≠ gb2598 ∧ k_ ≠ g ∧ k_ ≠ gb2603) u5 x5_1) := ⟨by (with_reducible repeat (first | apply Kd.N_alloc | apply Kd.N_drewN | apply Kd.N_drew)); exact Kd.N_mono (Kd.N_far (p := ⟨gb2603, 1, none⟩) (Kd.N_far (p := ⟨gb2603, 0, none⟩) (Kd.N_mono HO_5.out (fun k_ hk => (⟨hk, hk.2⟩ : _ ∧ k_ ≠ gb2603))) (fun _ hk => hk.2) (.int .i64 ((rd_T66 t2599 x16_1).f0))) (fun _ hk => hk.2) (.slice A2602_1 ((rd_T66 t2599 x16_1).f1).length c2602_1)) (fun _ hk => ⟨hk.1.1.1, ⟨hk.1.1.2.1, ⟨hk.1.1.2.2.1, ⟨hk.1.1.2.2.2.1, ⟨hk.1.1.2.2.2.2, hk.1.2⟩⟩⟩⟩⟩)⟩
       have n1_ : Aside0 (Kd.N k66 66 ((w22.setCell ⟨gb2603, 0, none⟩ (.int .i64 ((rd_T66 t2599 x16_1).f0))).setCell ⟨gb2603, 1, none⟩ (.slice A2602_1 ((rd_T66 t2599 x16_1).f1).length c2602_1)) w.heap.size (fun k_ => (w.heap.size ≤ k_) ∧ some k_ ≠ (u5 : Value).ownBlock ∧ some k_ ≠ (.slice Ao10 t2591.length co10 : Value).ownBlock ∧ k_ ≠ gb2598 ∧ k_ ≠ g ∧ k_ ≠ gb2603) (.slice (some ad2602) t2599.length co15) t2599) := ⟨by (with_reducible repeat (first | apply Kd.N_alloc | apply Kd.N_drewN | apply Kd.N_drew)); exact Kd.N_mono (Kd.N_far (p := ⟨gb2603, 1, none⟩) (Kd.N_far (p := ⟨gb2603, 0, none⟩) (Kd.N_mono HO_14.out (fun k_ hk => (⟨hk, hk.2⟩ : _ ∧ k_ ≠ gb2603))) (fun _ hk => hk.2) (.int .i64 ((rd_T66 t2599 x16_1).f0))) (fun _ hk => hk.2) (.slice A2602_1 ((rd_T66 t2599 x16_1).f1).length c2602_1)) (fun _ hk => ⟨hk.1.1.1, ⟨hk.1.1.2.1, ⟨hk.1.1.2.2.1, ⟨hk.1.1.2.2.2.1, ⟨hk.1.1.2.2.2.2, hk.1.2⟩⟩⟩⟩⟩)⟩
       have n2_ : Aside0 (Kd.R (Kd.int .i64) 3 ((w22.setCell ⟨gb2603, 0, none⟩ (.int .i64 ((rd_T66 t2599 x16_1).f0))).setCell ⟨gb2603, 1, none⟩ (.slice A2602_1 ((rd_T66 t2599 x16_1).f1).length c2602_1)) w.heap.size (fun k_ => (w.heap.size ≤ k_)) (.slice Ao10 t2591.length co10) t2591) := ⟨by (with_reducible repeat (first | apply Kd.R_alloc | apply Kd.R_drewN | apply Kd.R_drew)); exact Kd.R_mono (Kd.R_far (p := ⟨gb2603, 1, none⟩) (Kd.R_far (p := ⟨gb2603, 0, none⟩) (Kd.R_types HO_2599000.out BK2603.out (by decide)) (fun _ hk => hk.2) (.int .i64 ((rd_T66 t2599 x16_1).f0))) (fun _ hk => hk.2) (.slice A2602_1 ((rd_T66 t2599 x16_1).f1).length c2602_1)) (fun _ hk => hk.1)⟩
       have n3_ : Aside0 (Kd.V (Kd.int .i64) 3 ((w22.setCell ⟨gb2603, 0, none⟩ (.int .i64 ((rd_T66 t2599 x16_1).f0))).setCell ⟨gb2603, 1, none⟩ (.slice A2602_1 ((rd_T66 t2599 x16_1).f1).length c2602_1)) w.heap.size (fun k_ => (w.heap.size ≤ k_) ∧ some k_ ≠ (u5 : Value).ownBlock ∧ some k_ ≠ (.slice (some ad2602) t2599.length co15 : Value).ownBlock ∧ some k_ ≠ (.slice Ao10 t2591.length co10 : Value).ownBlock ∧ k_ ≠ gb2598 ∧ k_ ≠ g ∧ k_ ≠ gb2603) (.slice A2602_1 ((rd_T66 t2599 x16_1).f1).length c2602_1) ((rd_T66 t2599 x16_1).f1)) := ⟨by (with_reducible repeat (first | apply Kd.V_alloc | apply Kd.V_drewN | apply Kd.V_drew)); exact Kd.V_mono (Kd.V_far (p := ⟨gb2603, 1, none⟩) (Kd.V_far (p := ⟨gb2603, 0, none⟩) (Kd.V_mono HL2602_1.out (fun k_ hk => (⟨hk, hk.2⟩ : _ ∧ k_ ≠ gb2603))) (fun _ hk => hk.2) (.int .i64 ((rd_T66 t2599 x16_1).f0))) (fun _ hk => hk.2) (.slice A2602_1 ((rd_T66 t2599 x16_1).f1).length c2602_1)) (fun _ hk => ⟨hk.1.1.1.1, ⟨hk.1.1.1.2.1, ⟨hk.1.1.2, ⟨hk.1.1.1.2.2.1, ⟨hk.1.1.1.2.2.2.1, ⟨hk.1.1.1.2.2.2.2, hk.1.2⟩⟩⟩⟩⟩⟩)⟩
       have n4_ : Aside0 (((w22.setCell ⟨gb2603, 0, none⟩ (.int .i64 ((rd_T66 t2599 x16_1).f0))).setCell ⟨gb2603, 1, none⟩ (.slice A2602_1 ((rd_T66 t2599 x16_1).f1).length c2602_1)).heap[gb2598]? = some (.cells #[.slice Ao10 t2591.length co10, .int .i64 t2594] 64 (0, 0))) := ⟨by (with_reducible repeat (first | refine blk_drewN ?_ _ | refine blk_drew ?_ | refine blk_alloc ?_ _)); refine blk_far ?_ NB2598_2603.out _; (with_reducible repeat (first | refine blk_drewN ?_ _ | refine blk_drew ?_ | refine blk_alloc ?_ _)); refine blk_far ?_ NB2598_2603.out _; (with_reducible repeat (first | refine blk_drewN ?_ _ | refine blk_drew ?_ | refine blk_alloc ?_ _)); exact BK2598.out⟩
       have n5_ : Aside0 (((w22.setCell ⟨gb2603, 0, none⟩ (.int .i64 ((rd_T66 t2599 x16_1).f0))).setCell ⟨gb2603, 1, none⟩ (.slice A2602_1 ((rd_T66 t2599 x16_1).f1).length c2602_1)).heap[gb2603]? = some (.cells #[.int .i64 ((rd_T66 t2599 x16_1).f0), .slice A2602_1 ((rd_T66 t2599 x16_1).f1).length c2602_1] 66 (0, 0))) := ⟨by (with_reducible repeat (first | refine blk_drewN ?_ _ | refine blk_drew ?_ | refine blk_alloc ?_ _)); refine blk_put (cs := #[.int .i64 ((rd_T66 t2599 x16_1).f0), .slice none 0 0]) ?_ 1 _ rfl; (with_reducible repeat (first | refine blk_drewN ?_ _ | refine blk_drew ?_ | refine blk_alloc ?_ _)); refine blk_put (cs := #[.int .i64 0, .slice none 0 0]) ?_ 0 _ rfl; (with_reducible repeat (first | refine blk_drewN ?_ _ | refine blk_drew ?_ | refine blk_alloc ?_ _)); exact BK2603.out⟩
       have n6_ : Aside0 (IsS39 w0 ((w22.setCell ⟨gb2603, 0, none⟩ (.int .i64 ((rd_T66 t2599 x16_1).f0))).setCell ⟨gb2603, 1, none⟩ (.slice A2602_1 ((rd_T66 t2599 x16_1).f1).length c2602_1)) g s1_0 s1_1 s1_2) := ⟨by repeat (first | (with_reducible first | exact HI1.out | apply IsS39.alloc | apply IsS39.drewN | apply IsS39.drew | apply IsS39.set_0 | apply IsS39.set_1 | apply IsS39.set_2 | refine IsS39.far ?_ NB1_2598.out _ | refine IsS39.far ?_ NB1_2603.out _) | exact HI1.out)⟩
       have n7_ : Aside0 (KeepBut w ((w22.setCell ⟨gb2603, 0, none⟩ (.int .i64 ((rd_T66 t2599 x16_1).f0))).setCell ⟨gb2603, 1, none⟩ (.slice A2602_1 ((rd_T66 t2599 x16_1).f1).length c2602_1)) g none) := ⟨by repeat (first | (with_reducible first | exact HK.out | apply KeepBut.set_ | apply keep_drewN | apply keep_drew | apply keep_alloc | refine keep_far ?_ GW2598.out _ | refine keep_far ?_ GW2603.out _) | exact HK.out)⟩
       have n8_ : Aside0 (Below w0.heap.size w0 ((w22.setCell ⟨gb2603, 0, none⟩ (.int .i64 ((rd_T66 t2599 x16_1).f0))).setCell ⟨gb2603, 1, none⟩ (.slice A2602_1 ((rd_T66 t2599 x16_1).f1).length c2602_1))) := ⟨by repeat (first | (with_reducible first | exact HB.out | apply below_alloc | apply pw_below_drewN | apply below_drew1 | refine below_set ?_ (IsS39.ge HI1.out) | refine below_set ?_ GE2598.out | refine below_set ?_ GE2603.out) | exact HB.out)⟩
       (try clear HO_5)
       (try clear HO_14)
       (try clear HO_2599000)
       (try clear HL2602_1)
       (try clear BK2598)
       (try clear BK2603)
       (try clear HI1)
       (try clear HK)
       (try clear HB)
       generalize ((w22.setCell ⟨gb2603, 0, none⟩ (.int .i64 ((rd_T66 t2599 x16_1).f0))).setCell ⟨gb2603, 1, none⟩ (.slice A2602_1 ((rd_T66 t2599 x16_1).f1).length c2602_1)) = w26 at n0_ n1_ n2_ n3_ n4_ n5_ n6_ n7_ n8_ ⊢
       have HO_5 := n0_
       have HO_14 := n1_
       have HO_2599000 := n2_
       have HL2602_1 := n3_
       have BK2598 := n4_
       have BK2603 := n5_
       have HI1 := n6_
       have HK := n7_
       have HB := n8_
       clear n0_ n1_ n2_ n3_ n4_ n5_ n6_ n7_ n8_
       have n0_ := Aside0.mk (Kd.N_drew HO_5.out)
       have n1_ := Aside0.mk (Kd.N_drew HO_14.out)
       have n2_ := Aside0.mk (Kd.R_drew HO_2599000.out)
       have n3_ := Aside0.mk (Kd.V_drew HL2602_1.out)
       have n4_ := Aside0.mk (blk_drew BK2598.out)
       have n5_ := Aside0.mk (blk_drew BK2603.out)
       have n6_ := Aside0.mk (IsS39.drew HI1.out)
       have n7_ := Aside0.mk (keep_drew HK.out)
       have n8_ := Aside0.mk (below_drew1 HB.out)
       clear HO_5
       clear HO_14
       clear HO_2599000
       clear HL2602_1
       clear BK2598
       clear BK2603
       clear HI1
       clear HK
       clear HB
       have HO_5 := n0_
       have HO_14 := n1_
       have HO_2599000 := n2_
       have HL2602_1 := n3_
       have BK2598 := n4_
       have BK2603 := n5_
       have HI1 := n6_
       have HK := n7_
       have HB := n8_
       clear n0_ n1_ n2_ n3_ n4_ n5_ n6_ n7_ n8_
       refine start_ (n := 13) (S := fun w' => w'.cell? ⟨gb2598, 0, none⟩ = some (.slice Ao10 t2591.length co10) ∧ w'.cell? ⟨gb2598, 1, none⟩ = some (.int .i64 t2594) ∧ w'.cell? ⟨gb2603, 0, none⟩ = some (.int .i64 ((rd_T66 t2599 x16_1).f0)) ∧ w'.cell? ⟨gb2603, 1, none⟩ = some (.slice A2602_1 ((rd_T66 t2599 x16_1).f1).length c2602_1)) (ds := []) #[false, false, false, false, false, false, false, false, false, false, false, false, false] (by kernel_rfl) rfl rfl ⟨(blk_cell BK2598.out 0).trans rfl, (blk_cell BK2598.out 1).trans rfl, (blk_cell BK2603.out 0).trans rfl, (blk_cell BK2603.out 1).trans rfl⟩ (fun hHeld => ?_); refine with_tabW impl_Isles_graph_1.tab5 impl_Isles_graph_1.bits5 (fun HT_ HW_ => ?_)
       generalize w26.drew = w27 at HO_5 HO_14 HO_2599000 HL2602_1 BK2598 BK2603 HI1 HK HB hHeld ⊢
       refine pure_ (i := 0) (N := some 20) (v := ?_) (a' := ?_) #[true, false, false, false, false, false, false, false, false, false, false, false, false] rfl rfl (any_of HT_.out (by kernel_rfl)) (fun _ _ _ h => h) (Or.inl ⟨by rfl, ?_⟩) ?_ ?_
       rotate_left
       ·intro w'
        go_simp
        with_reducible rfl
       rotate_left
       ·simp only [Act.put, List.setIfInBounds_toArray, List.set_cons_zero, List.set_cons_succ, i64_w, i32_w]
        rfl
       refine pure_ (i := 2) (N := some 22) (v := ?_) (a' := ?_) #[true, false, true, false, false, false, false, false, false, false, false, false, false] rfl rfl (any_of HT_.out (by kernel_rfl)) (fun _ _ _ h => h) (Or.inl ⟨by rfl, ?_⟩) ?_ ?_
       rotate_left
       ·intro w'
        go_simp
        with_reducible rfl
       rotate_left
       ·simp only [Act.put, List.setIfInBounds_toArray, List.set_cons_zero, List.set_cons_succ, i64_w, i32_w]
        rfl
       refine pure_ (i := 4) (N := some 24) (v := ?_) (a' := ?_) #[true, false, true, false, true, false, false, false, false, false, false, false, false] rfl rfl (any_of HT_.out (by kernel_rfl)) (fun _ _ _ h => h) (Or.inl ⟨by rfl, ?_⟩) ?_ ?_
       rotate_left
       ·intro w'
        go_simp
        with_reducible rfl
       rotate_left
       ·simp only [Act.put, List.setIfInBounds_toArray, List.set_cons_zero, List.set_cons_succ, i64_w, i32_w]
        rfl
       refine take_ (i := 1) (N := some 21) (v := ?_) (a' := ?_) #[true, true, true, false, true, false, false, false, false, false, false, false, false] rfl rfl (take_ofW HT_.out HW_.out (by kernel_rfl)) (fun _ _ _ h => h) (Or.inl ⟨by rfl, ?_⟩) hHeld ?_ ?_
       rotate_left
       ·rintro w' ⟨s0, s1, s2, s3⟩
        go_simp
        with_reducible rfl
       rotate_left
       ·simp only [Act.put, List.setIfInBounds_toArray, List.set_cons_zero, List.set_cons_succ, i64_w, i32_w]
        rfl
       refine take_ (i := 3) (N := some 23) (v := ?_) (a' := ?_) #[true, true, true, true, true, false, false, false, false, false, false, false, false] rfl rfl (take_ofW HT_.out HW_.out (by kernel_rfl)) (fun _ _ _ h => h) (Or.inl ⟨by rfl, ?_⟩) hHeld ?_ ?_
       rotate_left
       ·rintro w' ⟨s0, s1, s2, s3⟩
        go_simp
        with_reducible rfl
       rotate_left
       ·simp only [Act.put, List.setIfInBounds_toArray, List.set_cons_zero, List.set_cons_succ, i64_w, i32_w]
        rfl
       refine take_ (i := 5) (N := some 25) (v := ?_) (a' := ?_) #[true, true, true, true, true, true, false, false, false, false, false, false, false] rfl rfl (take_ofW HT_.out HW_.out (by kernel_rfl)) (fun _ _ _ h => h) (Or.inl ⟨by rfl, ?_⟩) hHeld ?_ ?_
       rotate_left
       ·rintro w' ⟨s0, s1, s2, s3⟩
        go_simp
        with_reducible rfl
       rotate_left
       ·simp only [Act.put, List.setIfInBounds_toArray, List.set_cons_zero, List.set_cons_succ, i64_w, i32_w]
        rfl
       refine take_ (i := 8) (N := some 28) (v := ?_) (a' := ?_) #[true, true, true, true, true, true, false, false, true, false, false, false, false] rfl rfl (take_ofW HT_.out HW_.out (by kernel_rfl)) (fun _ _ _ h => h) (Or.inl ⟨by rfl, ?_⟩) hHeld ?_ ?_
       rotate_left
       ·rintro w' ⟨s0, s1, s2, s3⟩
        go_simp
        with_reducible rfl
       rotate_left
       ·simp only [Act.put, List.setIfInBounds_toArray, List.set_cons_zero, List.set_cons_succ, i64_w, i32_w]
        rfl
       refine one_ (i := 6) (N := some 26) #[true, true, true, true, true, true, true, false, true, false, false, false, false] rfl rfl (one_of HT_.out (by kernel_rfl)) (by decide) (fun K hK => ?_)
       refine goes_ Try.func183 (by kernel_rfl) rfl #[.agg #[.slice Ao10 t2591.length co10, .int .i64 t2594], .int .i64 ((rd_T66 t2599 x16_1).f0), .slice A2602_1 ((rd_T66 t2599 x16_1).f1).length c2602_1] (by rfl) rfl rfl (by (try simp only [List.map_toArray, List.map_cons, List.map_nil]); first | done | rfl | (simp only [List.length_drop, List.length_take]; rfl)) ?_
       with_reducible refine (impl_Places_behind.calls k1 _ _ t2591 t2594 ((rd_T66 t2599 x16_1).f0) _ _ ((rd_T66 t2599 x16_1).f1) t2604 t2607 _ ?side1 ?side2 ?side3 ?side4 A19.out).mono ?_
       (case side1 => repeat (first | exact (Kd.R_reads' HO_2599000.out).2.2 | (with_reducible refine Kd.C_alloc ?_ _) | (with_reducible refine Kd.C_drewN ?_ _) | (with_reducible refine Kd.C_drew ?_)))
       (case side2 => exact (Kd.R_reads' HO_2599000.out).2.1)
       (case side3 => repeat (first | exact ((Kd.V_reads' (by (with_reducible repeat (first | apply Kd.V_alloc | apply Kd.V_drewN | apply Kd.V_drew)); exact HL2602_1.out)).2.2) | (with_reducible refine Kd.C_alloc ?_ _) | (with_reducible refine Kd.C_drewN ?_ _) | (with_reducible refine Kd.C_drew ?_)))
       (case side4 => exact HC2602_1.out)
       rintro e w28 ⟨v2605, rfl, ho0, hb⟩
       refine ⟨_, rfl, ?_⟩
       have n0_ := Aside0.mk (Kd.N_elder' (by (with_reducible repeat (first | apply Kd.N_alloc | apply Kd.N_drewN | apply Kd.N_drew)); exact HO_5.out) (Kd.R_base ho0) hb)
       have n1_ := Aside0.mk (Kd.N_elder' (by (with_reducible repeat (first | apply Kd.N_alloc | apply Kd.N_drewN | apply Kd.N_drew)); exact HO_14.out) (Kd.R_base ho0) hb)
       have n2_ := Aside0.mk (Kd.R_elder' (by (with_reducible repeat (first | apply Kd.R_alloc | apply Kd.R_drewN | apply Kd.R_drew)); exact HO_2599000.out) (Kd.R_base ho0) hb)
       have n3_ := Aside0.mk (Kd.V_elder' (by (with_reducible repeat (first | apply Kd.V_alloc | apply Kd.V_drewN | apply Kd.V_drew)); exact HL2602_1.out) (Kd.R_base ho0) hb)
       have n4_ := Aside0.mk (Kd.R_lower (Kd.R_new' (Kd.R_newM (M := fun k_ => (w.heap.size ≤ k_)) ho0 (keep_size (w := w) (g := g) (row := none) (by repeat (first | (with_reducible first | exact HK.out | apply KeepBut.set_ | apply keep_drewN | apply keep_drew | apply keep_alloc | refine keep_far ?_ GW2598.out _ | refine keep_far ?_ GW2603.out _) | exact HK.out))) (fun k_ h_ => h_)) (Kd.R_lt (by (with_reducible repeat (first | apply Kd.R_alloc | apply Kd.R_drewN | apply Kd.R_drew)); exact HO_2599000.out))) (keep_size (w := w) (g := g) (row := none) (by repeat (first | (with_reducible first | exact HK.out | apply KeepBut.set_ | apply keep_drewN | apply keep_drew | apply keep_alloc | refine keep_far ?_ GW2598.out _ | refine keep_far ?_ GW2603.out _) | exact HK.out))))
       have n5_ := Aside0.mk (blk_below (g := gb2598) (o := .cells #[.slice Ao10 t2591.length co10, .int .i64 t2594] 64 (0, 0)) (by (with_reducible repeat (first | refine blk_drewN ?_ _ | refine blk_drew ?_ | refine blk_alloc ?_ _)); exact BK2598.out) hb)
       have n6_ := Aside0.mk (IsS39.below (by repeat (first | (with_reducible first | exact HI1.out | apply IsS39.alloc | apply IsS39.drewN | apply IsS39.drew | apply IsS39.set_0 | apply IsS39.set_1 | apply IsS39.set_2 | refine IsS39.far ?_ NB1_2598.out _ | refine IsS39.far ?_ NB1_2603.out _) | exact HI1.out)) hb)
       have n7_ := Aside0.mk (blk_below (g := gb2603) (o := .cells #[.int .i64 ((rd_T66 t2599 x16_1).f0), .slice A2602_1 ((rd_T66 t2599 x16_1).f1).length c2602_1] 66 (0, 0)) (by (with_reducible repeat (first | refine blk_drewN ?_ _ | refine blk_drew ?_ | refine blk_alloc ?_ _)); exact BK2603.out) hb)
       have n8_ := Aside0.mk (KeepBut.trans (by repeat (first | (with_reducible first | exact HK.out | apply KeepBut.set_ | apply keep_drewN | apply keep_drew | apply keep_alloc | refine keep_far ?_ GW2598.out _ | refine keep_far ?_ GW2603.out _) | exact HK.out)) (KeepBut.of_below hb g none) (.inl rfl))
       have n9_ := Aside0.mk (below_step (by repeat (first | (with_reducible first | exact HB.out | apply below_alloc | apply pw_below_drewN | apply below_drew1 | refine below_set ?_ (IsS39.ge HI1.out) | refine below_set ?_ GE2598.out | refine below_set ?_ GE2603.out) | exact HB.out)) hb)
       clear HO_5
       clear HO_14
       clear HO_2599000
       clear HL2602_1
       clear BK2598
       clear HI1
       clear BK2603
       clear HK
       clear HB
       have HO_5 := n0_
       have HO_14 := n1_
       have HO_2599000 := n2_
       have HL2602_1 := n3_
       have HO2606 := n4_
       have BK2598 := n5_
       have HI1 := n6_
       have BK2603 := n7_
       have HK := n8_
       have HB := n9_
       clear n0_ n1_ n2_ n3_ n4_ n5_ n6_ n7_ n8_ n9_
       (try clear hb)
       (try clear hb2)
       (try clear hk)
       (try clear hi)
       (try clear ho0)
       obtain ⟨Ao29, co29, eo29⟩ := Kd.R_slice HO2606.out
       (first | subst eo29 | (injection eo29 with f1_ f2_ f3_; have f4_ := f1_.symm; have f5_ := f3_.symm; clear f1_ f2_ f3_; subst f4_; subst f5_))
       refine hK.out _ _ ⟨(blk_cell BK2598.out 0).trans rfl, (blk_cell BK2598.out 1).trans rfl, (blk_cell BK2603.out 0).trans rfl, (blk_cell BK2603.out 1).trans rfl⟩ (fun hHeld => ?_)
       clear hK K
       refine norm_ (a' := ?_) ?_ ?_
       rotate_left
       ·show Act.put _ (some 26) _ = _
        simp only [Act.put, List.setIfInBounds_toArray, List.set_cons_zero, List.set_cons_succ, i64_w, i32_w]
        rfl
       refine one_ (i := 7) (N := some 27) #[true, true, true, true, true, true, true, true, true, false, false, false, false] rfl rfl (one_of HT_.out (by kernel_rfl)) (by decide) (fun K hK => ?_)
       refine goes_ Try.func254 (by kernel_rfl) rfl #[.agg #[.slice Ao29 t2604.length co29, .int .i64 t2607]] (by rfl) rfl rfl (by (try simp only [List.map_toArray, List.map_cons, List.map_nil]); first | done | rfl | (simp only [List.length_drop, List.length_take]; rfl)) ?_
       with_reducible refine (impl_Places_code.calls k1 _ _ t2604 t2607 t2608 _ ?side1 ?side2 A20.out).mono ?_
       (case side1 => repeat (first | exact (Kd.R_reads' HO2606.out).2.2 | (with_reducible refine Kd.C_alloc ?_ _) | (with_reducible refine Kd.C_drewN ?_ _) | (with_reducible refine Kd.C_drew ?_)))
       (case side2 => exact (Kd.R_reads' HO2606.out).2.1)
       rintro e w30 ⟨rfl, hb⟩
       refine ⟨_, rfl, ?_⟩
       have n0_ := Aside0.mk (Kd.N_below (by (with_reducible repeat (first | apply Kd.N_alloc | apply Kd.N_drewN | apply Kd.N_drew)); exact HO_5.out) hb)
       have n1_ := Aside0.mk (Kd.N_below (by (with_reducible repeat (first | apply Kd.N_alloc | apply Kd.N_drewN | apply Kd.N_drew)); exact HO_14.out) hb)
       have n2_ := Aside0.mk (Kd.R_below (by (with_reducible repeat (first | apply Kd.R_alloc | apply Kd.R_drewN | apply Kd.R_drew)); exact HO_2599000.out) hb)
       have n3_ := Aside0.mk (Kd.V_below (by (with_reducible repeat (first | apply Kd.V_alloc | apply Kd.V_drewN | apply Kd.V_drew)); exact HL2602_1.out) hb)
       have n4_ := Aside0.mk (Kd.R_below (by (with_reducible repeat (first | apply Kd.R_alloc | apply Kd.R_drewN | apply Kd.R_drew)); exact HO2606.out) hb)
       have n5_ := Aside0.mk (blk_below (g := gb2598) (o := .cells #[.slice Ao10 t2591.length co10, .int .i64 t2594] 64 (0, 0)) (by (with_reducible repeat (first | refine blk_drewN ?_ _ | refine blk_drew ?_ | refine blk_alloc ?_ _)); exact BK2598.out) hb)
       have n6_ := Aside0.mk (IsS39.below (by repeat (first | (with_reducible first | exact HI1.out | apply IsS39.alloc | apply IsS39.drewN | apply IsS39.drew | apply IsS39.set_0 | apply IsS39.set_1 | apply IsS39.set_2 | refine IsS39.far ?_ NB1_2598.out _ | refine IsS39.far ?_ NB1_2603.out _) | exact HI1.out)) hb)
       have n7_ := Aside0.mk (blk_below (g := gb2603) (o := .cells #[.int .i64 ((rd_T66 t2599 x16_1).f0), .slice A2602_1 ((rd_T66 t2599 x16_1).f1).length c2602_1] 66 (0, 0)) (by (with_reducible repeat (first | refine blk_drewN ?_ _ | refine blk_drew ?_ | refine blk_alloc ?_ _)); exact BK2603.out) hb)
       have n8_ := Aside0.mk (KeepBut.trans (by repeat (first | (with_reducible first | exact HK.out | apply KeepBut.set_ | apply keep_drewN | apply keep_drew | apply keep_alloc | refine keep_far ?_ GW2598.out _ | refine keep_far ?_ GW2603.out _) | exact HK.out)) (KeepBut.of_below hb g none) (.inl rfl))
       have n9_ := Aside0.mk (below_step (by repeat (first | (with_reducible first | exact HB.out | apply below_alloc | apply pw_below_drewN | apply below_drew1 | refine below_set ?_ (IsS39.ge HI1.out) | refine below_set ?_ GE2598.out | refine below_set ?_ GE2603.out) | exact HB.out)) hb)
       clear HO_5
       clear HO_14
       clear HO_2599000
       clear HL2602_1
       clear HO2606
       clear BK2598
       clear HI1
       clear BK2603
       clear HK
       clear HB
       have HO_5 := n0_
       have HO_14 := n1_
       have HO_2599000 := n2_
       have HL2602_1 := n3_
       have HO2606 := n4_
       have BK2598 := n5_
       have HI1 := n6_
       have BK2603 := n7_
       have HK := n8_
       have HB := n9_
       clear n0_ n1_ n2_ n3_ n4_ n5_ n6_ n7_ n8_ n9_
       (try clear hb)
       (try clear hb2)
       (try clear hk)
       (try clear hi)
       refine hK.out _ _ ⟨(blk_cell BK2598.out 0).trans rfl, (blk_cell BK2598.out 1).trans rfl, (blk_cell BK2603.out 0).trans rfl, (blk_cell BK2603.out 1).trans rfl⟩ (fun hHeld => ?_)
       clear hK K
       refine norm_ (a' := ?_) ?_ ?_
       rotate_left
       ·show Act.put _ (some 27) _ = _
        simp only [Act.put, List.setIfInBounds_toArray, List.set_cons_zero, List.set_cons_succ, i64_w, i32_w]
        rfl
       refine pure_ (i := 9) (N := some 29) (v := ?_) (a' := ?_) #[true, true, true, true, true, true, true, true, true, true, false, false, false] rfl rfl (any_of HT_.out (by kernel_rfl)) (fun _ _ _ h => h) (Or.inl ⟨by rfl, ?_⟩) ?_ ?_
       rotate_left
       ·intro w'
        go_simp
        with_reducible rfl
       rotate_left
       ·simp only [Act.put, List.setIfInBounds_toArray, List.set_cons_zero, List.set_cons_succ, i64_w, i32_w]
        rfl
       refine one_ (i := 10) (N := some 30) #[true, true, true, true, true, true, true, true, true, true, true, false, false] rfl rfl (one_of HT_.out (by kernel_rfl)) (by decide) (fun K hK => ?_)
       refine value_ (w1 := ?_) (v := ?_) (by rfl) rfl ?_ ?_
       rotate_left 2
       ·go_simp
        constructor
        ·rfl
        ·rfl
       refine hK.out _ _ ⟨(blk_cell (blk_alloc BK2598.out _) 0).trans rfl, (blk_cell (blk_alloc BK2598.out _) 1).trans rfl, (blk_cell (blk_alloc BK2603.out _) 0).trans rfl, (blk_cell (blk_alloc BK2603.out _) 1).trans rfl⟩ (fun hHeld => ?_)
       clear hK K
       refine norm_ (a' := ?_) ?_ ?_
       rotate_left
       ·show Act.put _ (some 30) _ = _
        simp only [Act.put, List.setIfInBounds_toArray, List.set_cons_zero, List.set_cons_succ, i64_w, i32_w]
        rfl
       refine one_ (i := 11) (N := some 31) #[true, true, true, true, true, true, true, true, true, true, true, true, false] rfl rfl (one_of HT_.out (by kernel_rfl)) (by decide) (fun K hK => ?_)
       refine Kd.N_append_step k234 w.heap.size (by rfl) (.tmp 20) (.tmp 30) 232 234 (.agg #[(.int .i64 0), (.int .i64 0), (.int .i64 0), (.slice none 0 0)]) 48 rfl Try.underlying232 info234 rfl (by decide) (by omega) u5 x5_1 (⟨t2608, 1, (⟨(rd_T66 t2599 x16_1).f0, (rd_T66 t2599 x16_1).f1⟩ : S66)⟩ : S234) [.int .i64 t2608, .int .i64 1, .int .i64 ((rd_T66 t2599 x16_1).f0), .slice A2602_1 ((rd_T66 t2599 x16_1).f1).length c2602_1] (fun k_ => (w.heap.size ≤ k_) ∧ some k_ ≠ (.slice (some ad2602) t2599.length co15 : Value).ownBlock ∧ some k_ ≠ (.slice Ao10 t2591.length co10 : Value).ownBlock ∧ some k_ ≠ (.slice Ao29 t2604.length co29 : Value).ownBlock ∧ k_ ≠ gb2598 ∧ k_ ≠ gb2603 ∧ k_ ≠ g) (fun k_ => ((fun k_ => (w.heap.size ≤ k_) ∧ some k_ ≠ (.slice (some ad2602) t2599.length co15 : Value).ownBlock ∧ some k_ ≠ (.slice Ao10 t2591.length co10 : Value).ownBlock ∧ some k_ ≠ (.slice Ao29 t2604.length co29 : Value).ownBlock ∧ k_ ≠ gb2598 ∧ k_ ≠ gb2603 ∧ k_ ≠ g)) k_ ∧ some k_ ≠ (u5 : Value).ownBlock) rfl rfl ?aP (fun _ hk => hk) ?aF ?aO (Below.refl _ _) ?aS ?aL ?_
       (case aP => exact (k234_mkF _ _ (⟨t2608, 1, (⟨(rd_T66 t2599 x16_1).f0, (rd_T66 t2599 x16_1).f1⟩ : S66)⟩ : S234) (Kd.V_reads' (Kd.V_mono (ok' := (fun k_ => ((fun k_ => (w.heap.size ≤ k_) ∧ some k_ ≠ (.slice (some ad2602) t2599.length co15 : Value).ownBlock ∧ some k_ ≠ (.slice Ao10 t2591.length co10 : Value).ownBlock ∧ some k_ ≠ (.slice Ao29 t2604.length co29 : Value).ownBlock ∧ k_ ≠ gb2598 ∧ k_ ≠ gb2603 ∧ k_ ≠ g)) k_ ∧ some k_ ≠ (u5 : Value).ownBlock)) (HL2602_1.out) (fun k_ hk => ⟨⟨hk.1.1, ⟨hk.1.2.2.1, ⟨hk.1.2.2.2.1, ⟨hk.2, ⟨hk.1.2.2.2.2.1, ⟨hk.1.2.2.2.2.2.2, hk.1.2.2.2.2.2.1⟩⟩⟩⟩⟩⟩, hk.1.2.1⟩))).2.1 (Kd.V_F (Kd.V_mono (ok' := (fun k_ => ((fun k_ => (w.heap.size ≤ k_) ∧ some k_ ≠ (.slice (some ad2602) t2599.length co15 : Value).ownBlock ∧ some k_ ≠ (.slice Ao10 t2591.length co10 : Value).ownBlock ∧ some k_ ≠ (.slice Ao29 t2604.length co29 : Value).ownBlock ∧ k_ ≠ gb2598 ∧ k_ ≠ gb2603 ∧ k_ ≠ g)) k_ ∧ some k_ ≠ (u5 : Value).ownBlock)) (HL2602_1.out) (fun k_ hk => ⟨⟨hk.1.1, ⟨hk.1.2.2.1, ⟨hk.1.2.2.2.1, ⟨hk.2, ⟨hk.1.2.2.2.2.1, ⟨hk.1.2.2.2.2.2.2, hk.1.2.2.2.2.2.1⟩⟩⟩⟩⟩⟩, hk.1.2.1⟩)))))
       (case aF => exact (fun k_ hk => ⟨(Nat.le_trans (keep_size (w := w) (g := g) (row := none) (by repeat (first | (with_reducible first | exact HK.out | apply KeepBut.set_ | apply keep_drewN | apply keep_drew | apply keep_alloc | refine keep_far ?_ GW2598.out _ | refine keep_far ?_ GW2603.out _) | exact HK.out))) hk), Kd.fresh' (Kd.N_lt (by (with_reducible repeat (first | apply Kd.N_alloc | apply Kd.N_drewN | apply Kd.N_drew)); exact HO_14.out)) k_ hk, Kd.fresh' (Kd.R_lt (by (with_reducible repeat (first | apply Kd.R_alloc | apply Kd.R_drewN | apply Kd.R_drew)); exact HO_2599000.out)) k_ hk, Kd.fresh' (Kd.R_lt (by (with_reducible repeat (first | apply Kd.R_alloc | apply Kd.R_drewN | apply Kd.R_drew)); exact HO2606.out)) k_ hk, Kd.freshB (g := gb2598) (o := .cells #[.slice Ao10 t2591.length co10, .int .i64 t2594] 64 (0, 0)) (by (with_reducible repeat (first | refine blk_drewN ?_ _ | refine blk_drew ?_ | refine blk_alloc ?_ _)); exact BK2598.out) k_ hk, Kd.freshB (g := gb2603) (o := .cells #[.int .i64 ((rd_T66 t2599 x16_1).f0), .slice A2602_1 ((rd_T66 t2599 x16_1).f1).length c2602_1] 66 (0, 0)) (by (with_reducible repeat (first | refine blk_drewN ?_ _ | refine blk_drew ?_ | refine blk_alloc ?_ _)); exact BK2603.out) k_ hk, IsS39.fresh (by repeat (first | (with_reducible first | exact HI1.out | apply IsS39.alloc | apply IsS39.drewN | apply IsS39.drew | apply IsS39.set_0 | apply IsS39.set_1 | apply IsS39.set_2 | refine IsS39.far ?_ NB1_2598.out _ | refine IsS39.far ?_ NB1_2603.out _) | exact HI1.out)) k_ hk⟩))
       (case aO => exact (by (with_reducible repeat (first | apply Kd.N_alloc | apply Kd.N_drewN | apply Kd.N_drew)); exact Kd.N_mono HO_5.out (fun _ hk => ⟨hk.1.1, ⟨hk.1.2.1, ⟨hk.1.2.2.1, ⟨hk.2, ⟨hk.1.2.2.2.1, ⟨hk.1.2.2.2.2.2, hk.1.2.2.2.2.1⟩⟩⟩⟩⟩⟩)))
       (case aS => exact (keep_size (w := w) (g := g) (row := none) (by repeat (first | (with_reducible first | exact HK.out | apply KeepBut.set_ | apply keep_drewN | apply keep_drew | apply keep_alloc | refine keep_far ?_ GW2598.out _ | refine keep_far ?_ GW2603.out _) | exact HK.out))))
       (case aL => have := LMc21.out; omega)
       intro v2610 w31 ho hb hg hat
       rw [← Ny2609.out] at ho
       have n0_ := Aside0.mk (Kd.N_afterv (ok := (fun k_ => (w.heap.size ≤ k_) ∧ some k_ ≠ (.slice Ao10 t2591.length co10 : Value).ownBlock ∧ some k_ ≠ (.slice Ao29 t2604.length co29 : Value).ownBlock ∧ k_ ≠ gb2598 ∧ k_ ≠ g ∧ k_ ≠ gb2603)) (by (with_reducible repeat (first | apply Kd.N_alloc | apply Kd.N_drewN | apply Kd.N_drew)); exact Kd.N_mono HO_14.out (fun _ hk => ⟨⟨hk.1.1, ⟨hk.1.2.2.1, ⟨hk.2, ⟨hk.1.2.2.2.1, ⟨hk.1.2.2.2.2.1, hk.1.2.2.2.2.2⟩⟩⟩⟩⟩, hk.1.2.1⟩)) hg hat)
       have n1_ := Aside0.mk (Kd.R_over' (by (with_reducible repeat (first | apply Kd.R_alloc | apply Kd.R_drewN | apply Kd.R_drew)); exact HO_2599000.out) (Kd.N_typed (by (with_reducible repeat (first | apply Kd.N_alloc | apply Kd.N_drewN | apply Kd.N_drew)); exact HO_5.out)) (by decide) hg)
       have n2_ := Aside0.mk (blk_grown (g := gb2598) (o := .cells #[.slice Ao10 t2591.length co10, .int .i64 t2594] 64 (0, 0)) (by (with_reducible repeat (first | refine blk_drewN ?_ _ | refine blk_drew ?_ | refine blk_alloc ?_ _)); exact BK2598.out) hg (Kd.N_ne HO_5.out BK2598.out (by decide)))
       have n3_ := Aside0.mk (IsS39.grown (by repeat (first | (with_reducible first | exact HI1.out | apply IsS39.alloc | apply IsS39.drewN | apply IsS39.drew | apply IsS39.set_0 | apply IsS39.set_1 | apply IsS39.set_2 | refine IsS39.far ?_ NB1_2598.out _ | refine IsS39.far ?_ NB1_2603.out _) | exact HI1.out)) hg (IsS39.own_neN HI1.out HO_5.out (by decide)))
       have n4_ := Aside0.mk (Kd.V_afterv (ok := (fun k_ => (w.heap.size ≤ k_) ∧ some k_ ≠ (.slice (some ad2602) t2599.length co15 : Value).ownBlock ∧ some k_ ≠ (.slice Ao10 t2591.length co10 : Value).ownBlock ∧ some k_ ≠ (.slice Ao29 t2604.length co29 : Value).ownBlock ∧ k_ ≠ gb2598 ∧ k_ ≠ g ∧ k_ ≠ gb2603)) (by (with_reducible repeat (first | apply Kd.V_alloc | apply Kd.V_drewN | apply Kd.V_drew)); exact Kd.V_mono HL2602_1.out (fun _ hk => ⟨⟨hk.1.1, ⟨hk.1.2.2.1, ⟨hk.1.2.2.2.1, ⟨hk.2, ⟨hk.1.2.2.2.2.1, ⟨hk.1.2.2.2.2.2.1, hk.1.2.2.2.2.2.2⟩⟩⟩⟩⟩⟩, hk.1.2.1⟩)) hg hat)
       have n5_ := Aside0.mk (blk_grown (g := gb2603) (o := .cells #[.int .i64 ((rd_T66 t2599 x16_1).f0), .slice A2602_1 ((rd_T66 t2599 x16_1).f1).length c2602_1] 66 (0, 0)) (by (with_reducible repeat (first | refine blk_drewN ?_ _ | refine blk_drew ?_ | refine blk_alloc ?_ _)); exact BK2603.out) hg (Kd.N_ne HO_5.out BK2603.out (by decide)))
       have n6_ := Aside0.mk (Kd.R_over' (by (with_reducible repeat (first | apply Kd.R_alloc | apply Kd.R_drewN | apply Kd.R_drew)); exact HO2606.out) (Kd.N_typed (by (with_reducible repeat (first | apply Kd.N_alloc | apply Kd.N_drewN | apply Kd.N_drew)); exact HO_5.out)) (by decide) hg)
       have n7_ := Aside0.mk (below_weaken (by repeat (first | (with_reducible first | exact HB.out | apply below_alloc | apply pw_below_drewN | apply below_drew1 | refine below_set ?_ (IsS39.ge HI1.out) | refine below_set ?_ GE2598.out | refine below_set ?_ GE2603.out) | exact HB.out)) HL.out hb)
       have n8_ := Aside0.mk (KeepBut.trans (by repeat (first | (with_reducible first | exact HK.out | apply KeepBut.set_ | apply keep_drewN | apply keep_drew | apply keep_alloc | refine keep_far ?_ GW2598.out _ | refine keep_far ?_ GW2603.out _) | exact HK.out)) (KeepBut.of_grown hg g) (Kd.N_base2 HO_5.out))
       have n9_ := Aside0.mk (ho)
       clear HO_14
       clear HO_2599000
       clear BK2598
       clear HI1
       clear HL2602_1
       clear BK2603
       clear HO2606
       clear HB
       clear HK
       clear HO_5
       have HO_14 := n0_
       have HO_2599000 := n1_
       have BK2598 := n2_
       have HI1 := n3_
       have HL2602_1 := n4_
       have BK2603 := n5_
       have HO2606 := n6_
       have HB := n7_
       have HK := n8_
       have HO2611 := n9_
       clear n0_ n1_ n2_ n3_ n4_ n5_ n6_ n7_ n8_ n9_
       clear ho hb hg hat
       refine hK.out _ _ ⟨(blk_cell BK2598.out 0).trans rfl, (blk_cell BK2598.out 1).trans rfl, (blk_cell BK2603.out 0).trans rfl, (blk_cell BK2603.out 1).trans rfl⟩ (fun hHeld => ?_)
       clear hK K
       refine norm_ (a' := ?_) ?_ ?_
       rotate_left
       ·show Act.put _ (some 31) _ = _
        simp only [Act.put, List.setIfInBounds_toArray, List.set_cons_zero, List.set_cons_succ, i64_w, i32_w]
        rfl
       refine pure_ (i := 12) (N := some 5) (v := ?_) (a' := ?_) #[true, true, true, true, true, true, true, true, true, true, true, true, true] rfl rfl (any_of HT_.out (by kernel_rfl)) (fun _ _ _ h => h) (Or.inl ⟨by rfl, ?_⟩) ?_ ?_
       rotate_left
       ·intro w'
        go_simp
        with_reducible rfl
       rotate_left
       ·simp only [Act.put, List.setIfInBounds_toArray, List.set_cons_zero, List.set_cons_succ, i64_w, i32_w]
        rfl
       refine done_ (done_of HT_.out (by kernel_rfl)) ?_
       try go_wp2
       go_roundg k1
       case measure => have := HK1.out; omega
       case rel => exact ⟨(y2609), (wrap64 (x16_1 + 1)), (by first | rfl | (simp; done) | (simp [*]; done)), H', ⟨by have := HK1.out; omega⟩, ⟨by (with_reducible repeat (first | apply Kd.N_alloc | apply Kd.N_drewN | apply Kd.N_drew)); exact Kd.N_mono HO2611.out (fun _ hk => ⟨hk.1, ⟨hk.2.1, ⟨hk.2.2.1, ⟨hk.2.2.2.2.1, hk.2.2.2.2.2.2⟩⟩⟩⟩)⟩, ⟨by (with_reducible repeat (first | apply Kd.N_alloc | apply Kd.N_drewN | apply Kd.N_drew)); exact Kd.N_mono HO_14.out (fun _ hk => ⟨hk.1.1, ⟨hk.2, ⟨hk.1.2.1, ⟨hk.1.2.2.2.1, hk.1.2.2.2.2.1⟩⟩⟩⟩)⟩, ⟨by (with_reducible repeat (first | apply Kd.R_alloc | apply Kd.R_drewN | apply Kd.R_drew)); exact Kd.R_mono HO_2599000.out (fun _ hk => hk.1)⟩, ⟨by (with_reducible repeat (first | refine blk_drewN ?_ _ | refine blk_drew ?_ | refine blk_alloc ?_ _)); exact BK2598.out⟩, ⟨by repeat (first | (with_reducible first | exact HI1.out | apply IsS39.alloc | apply IsS39.drewN | apply IsS39.drew | apply IsS39.set_0 | apply IsS39.set_1 | apply IsS39.set_2 | refine IsS39.far ?_ NB1_2598.out _ | refine IsS39.far ?_ NB1_2603.out _) | exact HI1.out)⟩, ⟨by repeat (first | (with_reducible first | exact HK.out | apply KeepBut.set_ | apply keep_drewN | apply keep_drew | apply keep_alloc | refine keep_far ?_ GW2598.out _ | refine keep_far ?_ GW2603.out _) | exact HK.out)⟩, ⟨by repeat (first | (with_reducible first | exact HB.out | apply below_alloc | apply pw_below_drewN | apply below_drew1 | refine below_set ?_ (IsS39.ge HI1.out) | refine below_set ?_ GE2598.out | refine below_set ?_ GE2603.out) | exact HB.out)⟩⟩
      ·rw [if_neg c21] at H
       exact absurd H (by simp)
     ·rw [if_neg c18] at H
      exact absurd H (by simp)
    ·rw [if_neg c17] at H
     exact absurd H (by simp)
   ·rw [if_neg c16] at H
    have c16b0 : decide (x16_1 < (t2599.length : Int)) = false := decide_eq_false c16
    clear c16
    simp only [Option.some.injEq, Prod.mk.injEq] at H
    obtain ⟨rfl, rfl, rfl, rfl⟩ := H
    go_wp2
    go_ret
    exact ⟨_, by first | rfl | (simp [errW_none, errW_some] <;> rfl) | (simp [*, errW_none, errW_some] <;> rfl), by (with_reducible repeat (first | apply Kd.N_alloc | apply Kd.N_drewN | apply Kd.N_drew)); exact Kd.N_mono HO_5.out (fun _ hk => hk.1), by repeat (first | (with_reducible first | exact HI1.out | apply IsS39.alloc | apply IsS39.drewN | apply IsS39.drew | apply IsS39.set_0 | apply IsS39.set_1 | apply IsS39.set_2 | refine IsS39.far ?_ NB1_2598.out _) | exact HI1.out), by repeat (first | (with_reducible first | exact HB.out | apply below_alloc | apply pw_below_drewN | apply below_drew1 | refine below_set ?_ (IsS39.ge HI1.out) | refine below_set ?_ GE2598.out) | exact HB.out), by repeat (first | (with_reducible first | exact HK.out | apply KeepBut.set_ | apply keep_drewN | apply keep_drew | apply keep_alloc | refine keep_far ?_ GW2598.out _) | exact HK.out)⟩
end Go.Proofs.Ytlkjglanglpdoaa.T
namespace Go.Proofs.Ytlkjglanglpdoaa.T
open Go.RowKit Go.Proofs.YtlkjglanglpdoaaW.PrintWords Go.Proofs.YtlkjglanglpdoaaW.PrintLast Go.Proofs.YtlkjglanglpdoaaW.PrintMore
set_option linter.unusedVariables false
set_option linter.unusedSimpArgs false
theorem voyL_mem (a1 a2 : Int) (at_ : List Int) (b : Int) (v : S66) : v ∈ voyL a1 a2 at_ b ↔ ∃ i : Nat, i < (a2 + 2).toNat ∧ (i : Int) ≠ b ∧ v.f0 = i ∧ v.f1 ∈ grp a1 (stand at_ b) [] ∧ mayGo (a2 + 2).toNat at_ i v.f1 = true := by
  unfold voyL voyUp
  rw [List.mem_flatMap]
  constructor
  · rintro ⟨i, hi, hv⟩
    unfold voyRow at hv
    split at hv
    · cases hv
    · rename_i hne
      unfold voyTo at hv
      obtain ⟨l, hl, rfl⟩ := List.mem_map.1 hv
      rw [List.mem_filter] at hl
      exact ⟨i, List.mem_range.1 hi, hne, rfl, hl.1, hl.2⟩
  · rintro ⟨i, hi, hne, h0, h1, h2⟩
    refine ⟨i, List.mem_range.2 hi, ?_⟩
    unfold voyRow
    rw [if_neg hne]
    unfold voyTo
    exact List.mem_map.2 ⟨v.f1, List.mem_filter.2 ⟨h1, h2⟩, by rw [← h0]⟩
theorem voyL_length (a1 a2 : Int) (at_ : List Int) (b : Int) (hl : at_.length ≤ 6) (h2 : a2 ≤ 2) : (voyL a1 a2 at_ b).length ≤ 256 := by
  have := voyUp_length (a2 + 2).toNat a1 at_ b hl (a2 + 2).toNat
  unfold voyL
  omega
theorem gone_mem (tt : Int) : ∀ (l at_ : List Int) (x : Int), x ∈ gone at_ tt l → x ∈ at_ ∨ x = tt
  | [], at_, x, h => .inl h
  | k :: l, at_, x, h => by
    rcases gone_mem tt l (at_.set k.toNat tt) x h with h | h
    · rcases List.mem_or_eq_of_mem_set h with h | h
      · exact .inl h
      · exact .inr h
    · exact .inr h
theorem voy_ok {n : Nat} {a1 a2 : Int} {at_ : List Int} {b : Int} (h0 : 0 ≤ a2) (h : PlOk n (a2 + 1) at_ b) {v : S66} (hv : v ∈ voyL a1 a2 at_ b) :
    (0 ≤ v.f0 ∧ v.f0 ≤ a2 + 1 ∧ v.f0 ≠ b) ∧ (v.f1.length ≤ n ∧ ∀ x ∈ v.f1, 0 ≤ x ∧ x < (n : Int)) ∧ calmL v.f1 = true ∧ calmAt (a2 + 2).toNat (gone at_ v.f0 v.f1) = true ∧ PlOk n (a2 + 1) (gone at_ v.f0 v.f1) v.f0 := by
  obtain ⟨i, hi, hne, hf, hg, hm⟩ := (voyL_mem a1 a2 at_ b v).1 hv
  have hf0 : 0 ≤ v.f0 ∧ v.f0 ≤ a2 + 1 := by omega
  have hg2 := grp_mem a1 _ _ _ hg
  have hs := standFrom_length b at_ 0
  have hs2 : (stand at_ b).length ≤ n := by have := h.len; unfold stand; omega
  unfold mayGo at hm
  rw [Bool.and_eq_true] at hm
  rw [hf]
  rw [← hf]
  refine ⟨⟨hf0.1, hf0.2, by rw [hf]; exact hne⟩, ⟨by have := hg2.1; simp at this; omega, fun x hx => ?_⟩, hm.1, by rw [hf]; exact hm.2, ⟨by rw [gone_length]; exact h.len, fun x hx => ?_, hf0⟩⟩
  · rcases hg2.2 x hx with hx | hx
    · cases hx
    · have := stand_mem at_ b x hx; rw [h.len] at this; exact this
  · rcases gone_mem _ _ _ _ hx with hx | hx
    · exact h.ats x hx
    · rw [hx]; exact hf0
def edge4 (at_ : List Int) (v : S66) : S234 := ⟨codeB 4 (gone at_ v.f0 v.f1) v.f0, 1, v⟩
def edges4 (a1 a2 : Int) (at_ : List Int) (b : Int) : List S234 := (voyL a1 a2 at_ b).map (edge4 at_)
theorem rd_T66_drop (l : List S66) (i : Nat) (h : i < l.length) : l.drop i = rd_T66 l (i : Int) :: l.drop (i + 1) := by
  unfold rd_T66
  rw [Int.toNat_natCast, List.getD_eq_getElem?_getD, List.getElem?_eq_getElem h]
  exact (List.getElem_cons_drop h).symm
theorem graph_l0 (a0 a1 a2 : Int) (at_ : List Int) (b : Int) (n : Nat) (hn : n ≤ 6) (hat : at_.length = n) (vs : List S66) (hvs : vs.length ≤ 256)
    (hv : ∀ v ∈ vs, (v.f1.length ≤ 6 ∧ ∀ x ∈ v.f1, 0 ≤ x ∧ x < (n : Int)) ∧ (0 ≤ v.f0 ∧ v.f0 ≤ 3) ∧ (∀ x ∈ gone at_ v.f0 v.f1, 0 ≤ x ∧ x ≤ 3)) :
    ∀ (d k i : Nat) (out : List S234), i + d = vs.length → d + 8 < k → out.length ≤ i →
    impl_Isles_graph_1.l0 k out vs (vs.length : Int) (i : Int) a0 a1 a2 at_ b = some (out ++ (vs.drop i).map (edge4 at_), a0, a1, a2) := by
  intro d
  induction d with
  | zero =>
    intro k i out hi hk ho
    obtain ⟨k, rfl⟩ : ∃ m, k = m + 1 := ⟨k - 1, by omega⟩
    simp only [impl_Isles_graph_1.l0]
    rw [if_neg (by omega), List.drop_eq_nil_of_le (by omega)]; simp
  | succ d ih =>
    intro k i out hi hk ho
    obtain ⟨k, rfl⟩ : ∃ m, k = m + 1 := ⟨k - 1, by omega⟩
    have hlt : i < vs.length := by omega
    have hm : rd_T66 vs (i : Int) ∈ vs := by
      unfold rd_T66; rw [Int.toNat_natCast, List.getD_eq_getElem?_getD, List.getElem?_eq_getElem hlt]; exact List.getElem_mem _
    have h1 := hv _ hm
    simp only [impl_Isles_graph_1.l0]
    rw [if_pos (by omega), if_pos (by omega), if_pos (by omega), behind_eq at_ b _ _ (by omega) (by omega) (by rw [hat]; exact h1.1.2) k (by have := h1.1.1; omega), Option.bind_some,
      code_eq _ _ (by rw [gone_length]; omega) h1.2.2 h1.2.1 k (by rw [gone_length]; omega), Option.bind_some, if_pos (by omega), wrap_up (i : Int) (vs.length : Int) (by omega) (by omega) (by omega)]
    have := ih k (i + 1) (out ++ [edge4 at_ (rd_T66 vs (i : Int))]) (by omega) (by omega) (by simp; omega)
    rw [show ((i : Int) + 1) = ((i + 1 : Nat) : Int) from by push_cast; rfl]
    refine Eq.trans (show _ = impl_Isles_graph_1.l0 k (out ++ [edge4 at_ (rd_T66 vs (i : Int))]) vs (vs.length : Int) ((i + 1 : Nat) : Int) a0 a1 a2 at_ b from rfl) (this.trans ?_)
    rw [rd_T66_drop vs i hlt]
    simp
theorem graph_eq (a0 a1 a2 : Int) (at_ : List Int) (b : Int) (h0 : 1 ≤ a0 ∧ a0 ≤ 3) (h1 : a1 ≤ 3) (h2 : 0 ≤ a2 ∧ a2 ≤ 2) (h : PlOk (2 * a0).toNat (a2 + 1) at_ b) (k : Nat) (hk : 300 < k) :
    impl_Isles_graph_1.f k (codeB 4 at_ b) a0 a1 a2 = some (edges4 a1 a2 at_ b, a0, a1, a2) := by
  have hl := h.len
  unfold impl_Isles_graph_1.f
  rw [places_eq a0 a1 a2 at_ b h0 hl (fun x hx => by have := h.ats x hx; omega) (by have := h.boat; omega) k (by omega), Option.bind_some]
  have hvf : impl_Isles_voyages.f a0 a1 a2 at_ b = some (voyL a1 a2 at_ b) := by unfold impl_Isles_voyages.f; rw [if_pos ⟨h1, h2.1, h2.2, by omega⟩]
  show (impl_Isles_voyages.f a0 a1 a2 at_ b).bind _ = _
  rw [hvf, Option.bind_some]
  have hlen := voyL_length a1 a2 at_ b (by omega) h2.2
  have := graph_l0 a0 a1 a2 at_ b (2 * a0).toNat (by omega) hl (voyL a1 a2 at_ b) hlen (fun v hv => by
    have hk := voy_ok h2.1 h hv
    exact ⟨⟨by have := hk.2.1.1; omega, hk.2.1.2⟩, by omega, fun x hx => by have := hk.2.2.2.2.ats x hx; omega⟩) (voyL a1 a2 at_ b).length k 0 [] (by omega) (by omega) (by simp)
  rw [show ((0 : Nat) : Int) = 0 from rfl] at this
  rw [this]
  simp [edges4]
end Go.Proofs.Ytlkjglanglpdoaa.T
namespace Go.Proofs.Ytlkjglanglpdoaa.T
open Go.RowKit Go.Proofs.YtlkjglanglpdoaaW.PrintWords Go.Proofs.YtlkjglanglpdoaaW.PrintLast Go.Proofs.YtlkjglanglpdoaaW.PrintMore
attribute [local go_sem] max2_int min2_int max_two min_two max_three min_three max_four min_four
set_option linter.unusedVariables false
set_option linter.unusedSimpArgs false
def spec_l1In.f (a0 : Int) (a1 : Int) (a2 : Int) : Option (Bool) := if a0 ≥ a1 then (some (decide (a0 ≤ a2))) else (some false)
set_option maxHeartbeats 8000000 in
set_option maxRecDepth 100000 in
theorem spec_l1In.calls (a0 : Int) (a1 : Int) (a2 : Int) (r : Bool) (w : World) (h : spec_l1In.f a0 a1 a2 = some r) :
  Calls Try.prog 132 #[.int .i64 a0, .int .i64 a1, .int .i64 a2] w fun e w' => e = .returned (.bool r) ∧ Drawn0 w w' := by
 have H : (if a0 ≥ a1 then (some (decide (a0 ≤ a2))) else (some false)) = some r := h
 clear h
 by_cases c4 : a0 ≥ a1
 ·rw [if_pos c4] at H
  have c4b0 : decide (a1 ≤ a0) = true := decide_eq_true c4
  clear c4
  obtain rfl := Option.some.inj H
  go_enter Try.func132, Try.ntmps132
  go_wp2
  go_ret
  exact ⟨by first | rfl | (simp; done) | (simp [*]; done), by repeat (first | exact Drawn0.refl _ | apply Drawn0.step)⟩
 ·rw [if_neg c4] at H
  have c4b0 : decide (a1 ≤ a0) = false := decide_eq_false c4
  clear c4
  obtain rfl := Option.some.inj H
  go_enter Try.func132, Try.ntmps132
  go_wp2
  go_ret
  exact ⟨by first | rfl | (simp; done) | (simp [*]; done), by repeat (first | exact Drawn0.refl _ | apply Drawn0.step)⟩
end Go.Proofs.Ytlkjglanglpdoaa.T
namespace Go.Proofs.Ytlkjglanglpdoaa.T
open Go.RowKit Go.Proofs.YtlkjglanglpdoaaW.PrintWords Go.Proofs.YtlkjglanglpdoaaW.PrintLast Go.Proofs.YtlkjglanglpdoaaW.PrintMore
attribute [local go_sem] max2_int min2_int max_two min_two max_three min_three max_four min_four
set_option linter.unusedVariables false
set_option linter.unusedSimpArgs false
def spec_cuBits.l0 : Nat → Int → List Int → Int → Int → Option (Int)
 | 0, _, _, _, _ => none
 | k + 1, x3, x6, x7, x8 => if x8 < x7 then (if 0 ≤ x8 then (if x8 < (x6.length : Int) then (if 0 ≤ (rd x6 x8) then (spec_cuBits.l0 k (Go.bits .or .i64 x3 (shl .i64 1 (rd x6 x8))) x6 x7 (wrap64 (x8 + 1))) else (none)) else (none)) else (none)) else (some x3)
def spec_cuBits.f (k : Nat) (l0 : List Int) : Option (Int) := spec_cuBits.l0 k 0 l0 (l0.length : Int) 0
theorem spec_cuBits.mono_l : ∀ k, (∀ y0 y1 y2 y3, LeO (spec_cuBits.l0 k y0 y1 y2 y3) (spec_cuBits.l0 (k + 1) y0 y1 y2 y3))
 | 0 => fun _ _ _ _ r h => by simp [spec_cuBits.l0] at h
 | k + 1 => by
  have ih0 := spec_cuBits.mono_l k
  ·intro y0 y1 y2 y3
   unfold spec_cuBits.l0
   repeat' first
   | (with_reducible exact ih0 _ _ _ _)
   | (with_reducible exact LeO.refl _)
   | (with_reducible exact LeO.none _)
   | (with_reducible refine LeO.ite ?_ ?_)
   | (with_reducible refine LeO.bind ?_ (fun _ => ?_))
   | exact ih0 _ _ _ _
   | exact LeO.none _
   | refine LeO.ite ?_ ?_
   | refine LeO.bind ?_ (fun _ => ?_)
theorem spec_cuBits.mono : ∀ a0 k, LeO (spec_cuBits.f k a0) (spec_cuBits.f (k + 1) a0) := by
 intro a0 k
 have ih0 := spec_cuBits.mono_l k
 unfold spec_cuBits.f
 repeat' first
   | (with_reducible exact ih0 _ _ _ _)
   | (with_reducible exact LeO.refl _)
   | (with_reducible exact LeO.none _)
   | (with_reducible refine LeO.ite ?_ ?_)
   | (with_reducible refine LeO.bind ?_ (fun _ => ?_))
   | exact ih0 _ _ _ _
   | exact LeO.none _
   | refine LeO.ite ?_ ?_
   | refine LeO.bind ?_ (fun _ => ?_)
set_option maxHeartbeats 8000000 in
set_option maxRecDepth 100000 in
theorem spec_cuBits.calls (k : Nat) (A0 : Option Addr) (c0 : Nat) (l0 : List Int) (r : Int) (w : World) (hr0 : Kd.C (Kd.int .i64) w A0 l0.length l0) (hc0 : l0.length ≤ c0) (h : spec_cuBits.f k l0 = some r) :
  Calls Try.prog 169 #[.slice A0 l0.length c0] w fun e w' => e = .returned (.int .i64 r) ∧ Drawn0 w w' := by
 have HR0 := Aside0.mk hr0
 have HC0 := Aside0.mk hc0
 clear hr0 hc0
 have H : (spec_cuBits.l0 k 0 l0 (l0.length : Int) 0) = some r := h
 clear h
 have H' := Aside0.mk H
 clear H
 go_enter Try.func169, Try.ntmps169
 go_wp2
 go_loopg [3, 8] k (fun kq v3 v8 w' => ∃ (x3_1 : Int) (x8_1 : Int), v3 = .int .i64 x3_1 ∧ v8 = .int .i64 x8_1 ∧ Aside0 (spec_cuBits.l0 kq x3_1 l0 (l0.length : Int) x8_1 = some r) ∧ Aside0 (kq ≤ k) ∧ Drawn0 w w')
 case atStart => exact ⟨(0), (0), (by first | rfl | (simp; done) | (simp [*]; done)), (by first | rfl | (simp; done) | (simp [*]; done)), H', ⟨Nat.le_refl _⟩, by repeat (first | exact Drawn0.refl _ | apply Drawn0.step)⟩
 case round =>
  clear H'
  try clear c1
  obtain ⟨x3_1, x8_1, rfl, rfl, HA, HK1, ⟨m1, rfl⟩⟩ := hrel
  cases gk with
  | zero => exact absurd HA.out (by simp [spec_cuBits.l0])
  | succ k1 =>
   have H := HA.out
   clear HA
   simp only [spec_cuBits.l0] at H
   by_cases c2 : x8_1 < (l0.length : Int)
   ·rw [if_pos c2] at H
    have c2b0 : decide (x8_1 < (l0.length : Int)) = true := decide_eq_true c2
    clear c2
    by_cases c3 : 0 ≤ x8_1
    ·rw [if_pos c3] at H
     have c3b0 : decide (0 ≤ x8_1) = true := decide_eq_true c3
     clear c3
     by_cases c4 : x8_1 < (l0.length : Int)
     ·rw [if_pos c4] at H
      have c4b0 : decide (x8_1 < (l0.length : Int)) = true := decide_eq_true c4
      clear c4
      by_cases c5 : 0 ≤ (rd l0 x8_1)
      ·rw [if_pos c5] at H
       have c5b0 := eq_true c5
       have c5b1 : decide (0 ≤ (rd l0 x8_1)) = true := decide_eq_true c5
       clear c5
       obtain ⟨ji6, hji6⟩ : ∃ j_ : Int, (shl .i64 1 (rd l0 x8_1)) = j_ := ⟨_, rfl⟩
       replace H : (spec_cuBits.l0 k1 (Go.bits .or .i64 x3_1 (ji6)) l0 (l0.length : Int) (wrap64 (x8_1 + 1))) = some r := by first | (rw [hji6] at H; exact H) | (simp only [hji6] at H ⊢; exact H)
       have hji6_ : (IntKind.i64.wrap (1 * 2 ^ min (rd l0 x8_1).toNat 64)) = ji6 := hji6
       have hji6z : (rd l0 x8_1) ≤ 64 → (IntKind.i64.wrap (1 * 2 ^ (rd l0 x8_1).toNat)) = ji6 := shl_small hji6
       have hji6u : (IntKind.i64.wrap (2 ^ min (rd l0 x8_1).toNat 64)) = ji6 := by have h_ := hji6_; rw [Int.one_mul] at h_; exact h_
       have hji6v : (rd l0 x8_1) ≤ 64 → (IntKind.i64.wrap (2 ^ (rd l0 x8_1).toNat)) = ji6 := fun hle_ => by have h_ := hji6z hle_; rw [Int.one_mul] at h_; exact h_
       have hji6y : (wrap64 (1 * 2 ^ min (rd l0 x8_1).toNat 64)) = ji6 := (i64_w _).symm.trans hji6_
       have hji6x : (rd l0 x8_1) ≤ 64 → (wrap64 (1 * 2 ^ (rd l0 x8_1).toNat)) = ji6 := fun h_ => (i64_w _).symm.trans (hji6z h_)
       have H' := Aside0.mk H
       clear H
       have p276 : 0 ≤ (x8_1 : Int) := of_decide_eq_true (by first | (with_reducible assumption) | assumption)
       have q276 : x8_1 < (l0.length : Int) := of_decide_eq_true (by first | (with_reducible assumption) | assumption)
       obtain ⟨ad276, e276, hx276_0⟩ := Kd.at_int HR0.out x8_1 p276 q276
       cases e276
       replace p276 := eq_true p276
       replace q276 := eq_true q276
       go_wp2
       go_roundg k1
       case measure => have := HK1.out; omega
       case rel => exact ⟨(Go.bits .or .i64 x3_1 (ji6)), (wrap64 (x8_1 + 1)), (by first | rfl | (simp; done) | (simp only [← hji6] <;> (first | rfl | simp)) | (simp [*]; done)), (by first | rfl | (simp; done) | (simp [*]; done)), H', ⟨by have := HK1.out; omega⟩, by repeat (first | exact Drawn0.refl _ | apply Drawn0.step)⟩
      ·rw [if_neg c5] at H
       exact absurd H (by simp)
     ·rw [if_neg c4] at H
      exact absurd H (by simp)
    ·rw [if_neg c3] at H
     exact absurd H (by simp)
   ·rw [if_neg c2] at H
    have c2b0 : decide (x8_1 < (l0.length : Int)) = false := decide_eq_false c2
    clear c2
    obtain rfl := Option.some.inj H
    go_wp2
    go_ret
    exact ⟨by first | rfl | (simp; done) | (simp [*]; done), by repeat (first | exact Drawn0.refl _ | apply Drawn0.step)⟩
end Go.Proofs.Ytlkjglanglpdoaa.T
namespace Go.Proofs.Ytlkjglanglpdoaa.T
open Go.RowKit Go.Proofs.YtlkjglanglpdoaaW.PrintWords Go.Proofs.YtlkjglanglpdoaaW.PrintLast Go.Proofs.YtlkjglanglpdoaaW.PrintMore
attribute [local go_sem] max2_int min2_int max_two min_two max_three min_three max_four min_four
set_option linter.unusedVariables false
set_option linter.unusedSimpArgs false
def spec_l1Rising.l0 : Nat → List Int → Int → Int → List Int → Int → Int → Option (Bool)
 | 0, _, _, _, _, _, _ => none
 | k + 1, x0, x1, x2, x9, x10, x11 => if x11 < x10 then (if 0 ≤ x11 then (if x11 < (x9.length : Int) then ((spec_l1In.f (rd x9 x11) x1 x2).bind fun t278 => (if t278 = true then (if x11 > 0 then (if 0 ≤ (wrap64 (x11 - 1)) then (if (wrap64 (x11 - 1)) < (x0.length : Int) then (if (rd x0 (wrap64 (x11 - 1))) ≥ (rd x9 x11) then (some false) else (spec_l1Rising.l0 k x0 x1 x2 x9 x10 (wrap64 (x11 + 1)))) else (none)) else (none)) else (spec_l1Rising.l0 k x0 x1 x2 x9 x10 (wrap64 (x11 + 1)))) else (some false))) else (none)) else (none)) else (some true)
def spec_l1Rising.f (k : Nat) (l0 : List Int) (a1 : Int) (a2 : Int) : Option (Bool) := spec_l1Rising.l0 k l0 a1 a2 l0 (l0.length : Int) 0
theorem spec_l1Rising.mono_l : ∀ k, (∀ y0 y1 y2 y3 y4 y5, LeO (spec_l1Rising.l0 k y0 y1 y2 y3 y4 y5) (spec_l1Rising.l0 (k + 1) y0 y1 y2 y3 y4 y5))
 | 0 => fun _ _ _ _ _ _ r h => by simp [spec_l1Rising.l0] at h
 | k + 1 => by
  have ih0 := spec_l1Rising.mono_l k
  ·intro y0 y1 y2 y3 y4 y5
   unfold spec_l1Rising.l0
   repeat' first
   | (with_reducible exact ih0 _ _ _ _ _ _)
   | (with_reducible exact LeO.refl _)
   | (with_reducible exact LeO.none _)
   | (with_reducible refine LeO.ite ?_ ?_)
   | (with_reducible refine LeO.bind ?_ (fun _ => ?_))
   | exact ih0 _ _ _ _ _ _
   | exact LeO.none _
   | refine LeO.ite ?_ ?_
   | refine LeO.bind ?_ (fun _ => ?_)
theorem spec_l1Rising.mono : ∀ a0 a1 a2 k, LeO (spec_l1Rising.f k a0 a1 a2) (spec_l1Rising.f (k + 1) a0 a1 a2) := by
 intro a0 a1 a2 k
 have ih0 := spec_l1Rising.mono_l k
 unfold spec_l1Rising.f
 repeat' first
   | (with_reducible exact ih0 _ _ _ _ _ _)
   | (with_reducible exact LeO.refl _)
   | (with_reducible exact LeO.none _)
   | (with_reducible refine LeO.ite ?_ ?_)
   | (with_reducible refine LeO.bind ?_ (fun _ => ?_))
   | exact ih0 _ _ _ _ _ _
   | exact LeO.none _
   | refine LeO.ite ?_ ?_
   | refine LeO.bind ?_ (fun _ => ?_)
set_option maxHeartbeats 8000000 in
set_option maxRecDepth 100000 in
theorem spec_l1Rising.calls (k : Nat) (A0 : Option Addr) (c0 : Nat) (l0 : List Int) (a1 : Int) (a2 : Int) (r : Bool) (w : World) (hr0 : Kd.C (Kd.int .i64) w A0 l0.length l0) (hc0 : l0.length ≤ c0) (h : spec_l1Rising.f k l0 a1 a2 = some r) :
  Calls Try.prog 171 #[.slice A0 l0.length c0, .int .i64 a1, .int .i64 a2] w fun e w' => e = .returned (.bool r) ∧ Drawn0 w w' := by
 have HR0 := Aside0.mk hr0
 have HC0 := Aside0.mk hc0
 clear hr0 hc0
 have H : (spec_l1Rising.l0 k l0 a1 a2 l0 (l0.length : Int) 0) = some r := h
 clear h
 have H' := Aside0.mk H
 clear H
 go_enter Try.func171, Try.ntmps171
 go_wp2
 go_loopg [11] k (fun kq v11 w' => ∃ (x11_1 : Int), v11 = .int .i64 x11_1 ∧ Aside0 (spec_l1Rising.l0 kq l0 a1 a2 l0 (l0.length : Int) x11_1 = some r) ∧ Aside0 (kq ≤ k) ∧ Drawn0 w w')
 case atStart => exact ⟨(0), (by first | rfl | (simp; done) | (simp [*]; done)), H', ⟨Nat.le_refl _⟩, by repeat (first | exact Drawn0.refl _ | apply Drawn0.step)⟩
 case round =>
  clear H'
  try clear c1
  try clear p2
  obtain ⟨x11_1, rfl, HA, HK1, ⟨m1, rfl⟩⟩ := hrel
  cases gk with
  | zero => exact absurd HA.out (by simp [spec_l1Rising.l0])
  | succ k1 =>
   have H := HA.out
   clear HA
   simp only [spec_l1Rising.l0] at H
   by_cases c4 : x11_1 < (l0.length : Int)
   ·rw [if_pos c4] at H
    have c4b0 : decide (x11_1 < (l0.length : Int)) = true := decide_eq_true c4
    clear c4
    by_cases c5 : 0 ≤ x11_1
    ·rw [if_pos c5] at H
     have c5b0 : decide (0 ≤ x11_1) = true := decide_eq_true c5
     clear c5
     by_cases c6 : x11_1 < (l0.length : Int)
     ·rw [if_pos c6] at H
      have c6b0 : decide (x11_1 < (l0.length : Int)) = true := decide_eq_true c6
      clear c6
      replace H := Option.bind_eq_some_iff.mp H
      obtain ⟨t278, A70, H⟩ := H
      replace H : (if t278 = true then (if x11_1 > 0 then (if 0 ≤ (wrap64 (x11_1 - 1)) then (if (wrap64 (x11_1 - 1)) < (l0.length : Int) then (if (rd l0 (wrap64 (x11_1 - 1))) ≥ (rd l0 x11_1) then (some false) else (spec_l1Rising.l0 k1 l0 a1 a2 l0 (l0.length : Int) (wrap64 (x11_1 + 1)))) else (none)) else (none)) else (spec_l1Rising.l0 k1 l0 a1 a2 l0 (l0.length : Int) (wrap64 (x11_1 + 1)))) else (some false)) = some r := H
      have A7 := Aside0.mk A70
      clear A70
      by_cases c8 : t278 = true
      ·subst c8
       have H1 : (if x11_1 > 0 then (if 0 ≤ (wrap64 (x11_1 - 1)) then (if (wrap64 (x11_1 - 1)) < (l0.length : Int) then (if (rd l0 (wrap64 (x11_1 - 1))) ≥ (rd l0 x11_1) then (some false) else (spec_l1Rising.l0 k1 l0 a1 a2 l0 (l0.length : Int) (wrap64 (x11_1 + 1)))) else (none)) else (none)) else (spec_l1Rising.l0 k1 l0 a1 a2 l0 (l0.length : Int) (wrap64 (x11_1 + 1)))) = some r := by rw [if_pos rfl] at H; exact H
       clear H
       have H := H1
       clear H1
       by_cases c9 : x11_1 > 0
       ·rw [if_pos c9] at H
        have c9b0 : decide (0 < x11_1) = true := decide_eq_true c9
        clear c9
        obtain ⟨ji10, hji10⟩ : ∃ j_ : Int, (wrap64 (x11_1 - 1)) = j_ := ⟨_, rfl⟩
        replace H : (if 0 ≤ (ji10) then (if (ji10) < (l0.length : Int) then (if (rd l0 (ji10)) ≥ (rd l0 x11_1) then (some false) else (spec_l1Rising.l0 k1 l0 a1 a2 l0 (l0.length : Int) (wrap64 (x11_1 + 1)))) else (none)) else (none)) = some r := by first | (rw [hji10] at H; exact H) | (simp only [hji10] at H ⊢; exact H)
        (try rw [hji10] at A7)
        have hji10w : (IntKind.i64.wrap (x11_1 - 1)) = ji10 := (i64_w _).trans hji10
        by_cases c11 : 0 ≤ (ji10)
        ·rw [if_pos c11] at H
         have c11b0 : decide (0 ≤ (ji10)) = true := decide_eq_true c11
         clear c11
         by_cases c12 : (ji10) < (l0.length : Int)
         ·rw [if_pos c12] at H
          have c12b0 : decide ((ji10) < (l0.length : Int)) = true := decide_eq_true c12
          clear c12
          by_cases c13 : (rd l0 (ji10)) ≥ (rd l0 x11_1)
          ·rw [if_pos c13] at H
           have c13b0 : decide ((rd l0 x11_1) ≤ (rd l0 (ji10))) = true := decide_eq_true c13
           clear c13
           obtain rfl := Option.some.inj H
           have p277 : 0 ≤ (x11_1 : Int) := of_decide_eq_true (by first | (with_reducible assumption) | assumption)
           have q277 : x11_1 < (l0.length : Int) := of_decide_eq_true (by first | (with_reducible assumption) | assumption)
           obtain ⟨ad277, e277, hx277_0⟩ := Kd.at_int HR0.out x11_1 p277 q277
           cases e277
           replace p277 := eq_true p277
           replace q277 := eq_true q277
           go_wp2_with (first | ((with_reducible refine gate_callee (f := 132) rfl ?_); refine goesL_ (some 19) rfl rfl Try.func132 (by kernel_rfl) rfl #[.int .i64 (rd l0 x11_1), .int .i64 a1, .int .i64 a2] rfl (by (try simp only [List.map_toArray, List.map_cons, List.map_nil]); first | done | rfl | (simp only [List.length_drop, List.length_take]; rfl)) ?_; (with_reducible refine (spec_l1In.calls (rd l0 x11_1) a1 a2 true _ A7.out).mono ?_); rintro e w' ⟨rfl, ⟨nd, rfl⟩⟩; refine ⟨_, rfl, ?_⟩; have p279 : 0 ≤ ((ji10) : Int) := of_decide_eq_true (by first | (with_reducible assumption) | assumption); have q279 : (ji10) < (l0.length : Int) := of_decide_eq_true (by first | (with_reducible assumption) | assumption); obtain ⟨ad279, e279, hx279_0⟩ := Kd.at_int HR0.out (ji10) p279 q279; obtain rfl : ad277 = ad279 := (by injection e279); replace p279 := eq_true p279; replace q279 := eq_true q279))
           go_ret
           exact ⟨by first | rfl | (simp; done) | (simp only [← hji10] <;> (first | rfl | simp)) | (simp [*]; done), by repeat (first | exact Drawn0.refl _ | apply Drawn0.step)⟩
          ·rw [if_neg c13] at H
           have c13b0 : decide ((rd l0 x11_1) ≤ (rd l0 (ji10))) = false := decide_eq_false c13
           clear c13
           have H' := Aside0.mk H
           clear H
           have p277 : 0 ≤ (x11_1 : Int) := of_decide_eq_true (by first | (with_reducible assumption) | assumption)
           have q277 : x11_1 < (l0.length : Int) := of_decide_eq_true (by first | (with_reducible assumption) | assumption)
           obtain ⟨ad277, e277, hx277_0⟩ := Kd.at_int HR0.out x11_1 p277 q277
           cases e277
           replace p277 := eq_true p277
           replace q277 := eq_true q277
           go_wp2_with (first | ((with_reducible refine gate_callee (f := 132) rfl ?_); refine goesL_ (some 19) rfl rfl Try.func132 (by kernel_rfl) rfl #[.int .i64 (rd l0 x11_1), .int .i64 a1, .int .i64 a2] rfl (by (try simp only [List.map_toArray, List.map_cons, List.map_nil]); first | done | rfl | (simp only [List.length_drop, List.length_take]; rfl)) ?_; (with_reducible refine (spec_l1In.calls (rd l0 x11_1) a1 a2 true _ A7.out).mono ?_); rintro e w' ⟨rfl, ⟨nd, rfl⟩⟩; refine ⟨_, rfl, ?_⟩; have p279 : 0 ≤ ((ji10) : Int) := of_decide_eq_true (by first | (with_reducible assumption) | assumption); have q279 : (ji10) < (l0.length : Int) := of_decide_eq_true (by first | (with_reducible assumption) | assumption); obtain ⟨ad279, e279, hx279_0⟩ := Kd.at_int HR0.out (ji10) p279 q279; obtain rfl : ad277 = ad279 := (by injection e279); replace p279 := eq_true p279; replace q279 := eq_true q279))
           go_roundg k1
           case measure => have := HK1.out; omega
           case rel => exact ⟨(wrap64 (x11_1 + 1)), (by first | rfl | (simp; done) | (simp [*]; done)), H', ⟨by have := HK1.out; omega⟩, by repeat (first | exact Drawn0.refl _ | apply Drawn0.step)⟩
         ·rw [if_neg c12] at H
          exact absurd H (by simp)
        ·rw [if_neg c11] at H
         exact absurd H (by simp)
       ·rw [if_neg c9] at H
        have c9b0 : decide (0 < x11_1) = false := decide_eq_false c9
        clear c9
        have H' := Aside0.mk H
        clear H
        have p277 : 0 ≤ (x11_1 : Int) := of_decide_eq_true (by first | (with_reducible assumption) | assumption)
        have q277 : x11_1 < (l0.length : Int) := of_decide_eq_true (by first | (with_reducible assumption) | assumption)
        obtain ⟨ad277, e277, hx277_0⟩ := Kd.at_int HR0.out x11_1 p277 q277
        cases e277
        replace p277 := eq_true p277
        replace q277 := eq_true q277
        go_wp2_with (first | ((with_reducible refine gate_callee (f := 132) rfl ?_); refine goesL_ (some 19) rfl rfl Try.func132 (by kernel_rfl) rfl #[.int .i64 (rd l0 x11_1), .int .i64 a1, .int .i64 a2] rfl (by (try simp only [List.map_toArray, List.map_cons, List.map_nil]); first | done | rfl | (simp only [List.length_drop, List.length_take]; rfl)) ?_; (with_reducible refine (spec_l1In.calls (rd l0 x11_1) a1 a2 true _ A7.out).mono ?_); rintro e w' ⟨rfl, ⟨nd, rfl⟩⟩; refine ⟨_, rfl, ?_⟩))
        go_roundg k1
        case measure => have := HK1.out; omega
        case rel => exact ⟨(wrap64 (x11_1 + 1)), (by first | rfl | (simp; done) | (simp [*]; done)), H', ⟨by have := HK1.out; omega⟩, by repeat (first | exact Drawn0.refl _ | apply Drawn0.step)⟩
      ·replace c8 := Bool.eq_false_iff.mpr c8
       subst c8
       have H1 : (some false) = some r := by rw [if_neg (show ¬ (false = true) by decide)] at H; exact H
       clear H
       have H := H1
       clear H1
       obtain rfl := Option.some.inj H
       have p277 : 0 ≤ (x11_1 : Int) := of_decide_eq_true (by first | (with_reducible assumption) | assumption)
       have q277 : x11_1 < (l0.length : Int) := of_decide_eq_true (by first | (with_reducible assumption) | assumption)
       obtain ⟨ad277, e277, hx277_0⟩ := Kd.at_int HR0.out x11_1 p277 q277
       cases e277
       replace p277 := eq_true p277
       replace q277 := eq_true q277
       go_wp2_with (first | ((with_reducible refine gate_callee (f := 132) rfl ?_); refine goesL_ (some 19) rfl rfl Try.func132 (by kernel_rfl) rfl #[.int .i64 (rd l0 x11_1), .int .i64 a1, .int .i64 a2] rfl (by (try simp only [List.map_toArray, List.map_cons, List.map_nil]); first | done | rfl | (simp only [List.length_drop, List.length_take]; rfl)) ?_; (with_reducible refine (spec_l1In.calls (rd l0 x11_1) a1 a2 false _ A7.out).mono ?_); rintro e w' ⟨rfl, ⟨nd, rfl⟩⟩; refine ⟨_, rfl, ?_⟩))
       go_ret
       exact ⟨by first | rfl | (simp; done) | (simp [*]; done), by repeat (first | exact Drawn0.refl _ | apply Drawn0.step)⟩
     ·rw [if_neg c6] at H
      exact absurd H (by simp)
    ·rw [if_neg c5] at H
     exact absurd H (by simp)
   ·rw [if_neg c4] at H
    have c4b0 : decide (x11_1 < (l0.length : Int)) = false := decide_eq_false c4
    clear c4
    obtain rfl := Option.some.inj H
    go_wp2
    go_ret
    exact ⟨by first | rfl | (simp; done) | (simp [*]; done), by repeat (first | exact Drawn0.refl _ | apply Drawn0.step)⟩
end Go.Proofs.Ytlkjglanglpdoaa.T
namespace Go.Proofs.Ytlkjglanglpdoaa.T
open Go.RowKit Go.Proofs.YtlkjglanglpdoaaW.PrintWords Go.Proofs.YtlkjglanglpdoaaW.PrintLast Go.Proofs.YtlkjglanglpdoaaW.PrintMore
attribute [local go_sem] max2_int min2_int max_two min_two max_three min_three max_four min_four
set_option linter.unusedVariables false
set_option linter.unusedSimpArgs false
mutual
def spec_cuCalm.l0 : Nat → Int → Int → Int → Option (Bool)
 | 0, _, _, _ => none
 | k + 1, x0, x1, x5 => if x5 < x0 then (if 0 ≤ (wrap64 (2 * x5)) then (if (Int.tmod (shr .i64 x1 (wrap64 (2 * x5))) 4) = 2 then (spec_cuCalm.l1 k x0 x1 x5 0) else (spec_cuCalm.l0 k x0 x1 (wrap64 (x5 + 1)))) else (none)) else (some true)
def spec_cuCalm.l1 : Nat → Int → Int → Int → Int → Option (Bool)
 | 0, _, _, _, _ => none
 | k + 1, x0, x1, x5, x6 => if x6 < x0 then (if 0 ≤ (wrap64 (2 * x6)) then (if (Int.tmod (shr .i64 x1 (wrap64 (2 * x6))) 2) = 1 then (some false) else (spec_cuCalm.l1 k x0 x1 x5 (wrap64 (x6 + 1)))) else (none)) else (spec_cuCalm.l0 k x0 x1 (wrap64 (x5 + 1)))
end
def spec_cuCalm.f (k : Nat) (a0 : Int) (a1 : Int) : Option (Bool) := spec_cuCalm.l0 k a0 a1 0
theorem spec_cuCalm.mono_l : ∀ k, (∀ y0 y1 y2, LeO (spec_cuCalm.l0 k y0 y1 y2) (spec_cuCalm.l0 (k + 1) y0 y1 y2)) ∧ (∀ y0 y1 y2 y3, LeO (spec_cuCalm.l1 k y0 y1 y2 y3) (spec_cuCalm.l1 (k + 1) y0 y1 y2 y3))
 | 0 => ⟨fun _ _ _ r h => by simp [spec_cuCalm.l0] at h, fun _ _ _ _ r h => by simp [spec_cuCalm.l1] at h⟩
 | k + 1 => by
  obtain ⟨ih0, ih1⟩ := spec_cuCalm.mono_l k
  refine ⟨?_, ?_⟩
  ·intro y0 y1 y2
   unfold spec_cuCalm.l0
   repeat' first
   | (with_reducible exact ih0 _ _ _)
   | (with_reducible exact ih1 _ _ _ _)
   | (with_reducible exact LeO.refl _)
   | (with_reducible exact LeO.none _)
   | (with_reducible refine LeO.ite ?_ ?_)
   | (with_reducible refine LeO.bind ?_ (fun _ => ?_))
   | exact ih0 _ _ _
   | exact ih1 _ _ _ _
   | exact LeO.none _
   | refine LeO.ite ?_ ?_
   | refine LeO.bind ?_ (fun _ => ?_)
  ·intro y0 y1 y2 y3
   unfold spec_cuCalm.l1
   repeat' first
   | (with_reducible exact ih0 _ _ _)
   | (with_reducible exact ih1 _ _ _ _)
   | (with_reducible exact LeO.refl _)
   | (with_reducible exact LeO.none _)
   | (with_reducible refine LeO.ite ?_ ?_)
   | (with_reducible refine LeO.bind ?_ (fun _ => ?_))
   | exact ih0 _ _ _
   | exact ih1 _ _ _ _
   | exact LeO.none _
   | refine LeO.ite ?_ ?_
   | refine LeO.bind ?_ (fun _ => ?_)
theorem spec_cuCalm.mono : ∀ a0 a1 k, LeO (spec_cuCalm.f k a0 a1) (spec_cuCalm.f (k + 1) a0 a1) := by
 intro a0 a1 k
 obtain ⟨ih0, ih1⟩ := spec_cuCalm.mono_l k
 unfold spec_cuCalm.f
 repeat' first
   | (with_reducible exact ih0 _ _ _)
   | (with_reducible exact ih1 _ _ _ _)
   | (with_reducible exact LeO.refl _)
   | (with_reducible exact LeO.none _)
   | (with_reducible refine LeO.ite ?_ ?_)
   | (with_reducible refine LeO.bind ?_ (fun _ => ?_))
   | exact ih0 _ _ _
   | exact ih1 _ _ _ _
   | exact LeO.none _
   | refine LeO.ite ?_ ?_
   | refine LeO.bind ?_ (fun _ => ?_)
set_option maxHeartbeats 8000000 in
set_option maxRecDepth 100000 in
theorem spec_cuCalm.calls (k : Nat) (a0 : Int) (a1 : Int) (r : Bool) (w : World) (h : spec_cuCalm.f k a0 a1 = some r) :
  Calls Try.prog 172 #[.int .i64 a0, .int .i64 a1] w fun e w' => e = .returned (.bool r) ∧ Drawn0 w w' := by
 have H : (spec_cuCalm.l0 k a0 a1 0) = some r := h
 clear h
 have H' := Aside0.mk H
 clear H
 go_enter Try.func172, Try.ntmps172
 go_wp2
 go_loopg [5] k (fun kq v5 w' => ∃ (x5_1 : Int), v5 = .int .i64 x5_1 ∧ Aside0 (spec_cuCalm.l0 kq a0 a1 x5_1 = some r) ∧ Aside0 (kq ≤ k) ∧ Drawn0 w w')
 case atStart => exact ⟨(0), (by first | rfl | (simp; done) | (simp [*]; done)), H', ⟨Nat.le_refl _⟩, by repeat (first | exact Drawn0.refl _ | apply Drawn0.step)⟩
 case round =>
  clear H'
  try clear c1
  try clear p2
  obtain ⟨x5_1, rfl, HA, HK1, ⟨m1, rfl⟩⟩ := hrel
  cases gk with
  | zero => exact absurd HA.out (by simp [spec_cuCalm.l0])
  | succ k1 =>
   have H := HA.out
   clear HA
   simp only [spec_cuCalm.l0] at H
   by_cases c3 : x5_1 < a0
   ·rw [if_pos c3] at H
    have c3b0 : decide (x5_1 < a0) = true := decide_eq_true c3
    clear c3
    obtain ⟨ji4, hji4⟩ : ∃ j_ : Int, (wrap64 (2 * x5_1)) = j_ := ⟨_, rfl⟩
    replace H : (if 0 ≤ (ji4) then (if (Int.tmod (shr .i64 a1 (ji4)) 4) = 2 then (spec_cuCalm.l1 k1 a0 a1 x5_1 0) else (spec_cuCalm.l0 k1 a0 a1 (wrap64 (x5_1 + 1)))) else (none)) = some r := by first | (rw [hji4] at H; exact H) | (simp only [hji4] at H ⊢; exact H)
    have hji4w : (IntKind.i64.wrap (2 * x5_1)) = ji4 := (i64_w _).trans hji4
    by_cases c5 : 0 ≤ (ji4)
    ·rw [if_pos c5] at H
     have c5b0 := eq_true c5
     have c5b1 : decide (0 ≤ (ji4)) = true := decide_eq_true c5
     clear c5
     obtain ⟨ji6, hji6⟩ : ∃ j_ : Int, (shr .i64 a1 (ji4)) = j_ := ⟨_, rfl⟩
     replace H : (if (Int.tmod (ji6) 4) = 2 then (spec_cuCalm.l1 k1 a0 a1 x5_1 0) else (spec_cuCalm.l0 k1 a0 a1 (wrap64 (x5_1 + 1)))) = some r := by first | (rw [hji6] at H; exact H) | (simp only [hji6] at H ⊢; exact H)
     have hji6_ : (a1 / 2 ^ min (ji4).toNat 64) = ji6 := hji6
     have hji6z : (ji4) ≤ 64 → (a1 / 2 ^ (ji4).toNat) = ji6 := shr_small hji6
     by_cases c7 : (Int.tmod (ji6) 4) = 2
     ·rw [if_pos c7] at H
      have c7b0 : ((Int.tmod (ji6) 4) == 2) = true := beq_iff_eq.mpr c7
      have c7b1 : ((Int.tmod (ji6) 4) != 2) = false := bne_eq_false_iff_eq.mpr c7
      clear c7
      have H' := Aside0.mk H
      clear H
      go_wp2
      go_loopg [6] k1 (fun kq v6 w' => ∃ (x6_2 : Int), v6 = .int .i64 x6_2 ∧ Aside0 (spec_cuCalm.l1 kq a0 a1 x5_1 x6_2 = some r) ∧ Aside0 (kq ≤ k1) ∧ Drawn0 w w')
      case atStart => exact ⟨(0), (by first | rfl | (simp; done) | (simp [*]; done)), H', ⟨Nat.le_refl _⟩, by repeat (first | exact Drawn0.refl _ | apply Drawn0.step)⟩
      case round =>
       clear H'
       try clear c1
       try clear p2
       try clear c3
       try clear c3b0
       try clear c5
       try clear c5b0
       try clear c5b1
       try clear p6
       try clear c7
       try clear c7b0
       try clear c7b1
       try clear p2
       obtain ⟨x6_2, rfl, HA, HK2, ⟨m2, rfl⟩⟩ := hrel
       cases gk with
       | zero => exact absurd HA.out (by simp [spec_cuCalm.l1])
       | succ k2 =>
        have H := HA.out
        clear HA
        simp only [spec_cuCalm.l1] at H
        by_cases c8 : x6_2 < a0
        ·rw [if_pos c8] at H
         have c8b0 : decide (x6_2 < a0) = true := decide_eq_true c8
         clear c8
         obtain ⟨ji9, hji9⟩ : ∃ j_ : Int, (wrap64 (2 * x6_2)) = j_ := ⟨_, rfl⟩
         replace H : (if 0 ≤ (ji9) then (if (Int.tmod (shr .i64 a1 (ji9)) 2) = 1 then (some false) else (spec_cuCalm.l1 k2 a0 a1 x5_1 (wrap64 (x6_2 + 1)))) else (none)) = some r := by first | (rw [hji9] at H; exact H) | (simp only [hji9] at H ⊢; exact H)
         have hji9w : (IntKind.i64.wrap (2 * x6_2)) = ji9 := (i64_w _).trans hji9
         by_cases c10 : 0 ≤ (ji9)
         ·rw [if_pos c10] at H
          have c10b0 := eq_true c10
          have c10b1 : decide (0 ≤ (ji9)) = true := decide_eq_true c10
          clear c10
          obtain ⟨ji11, hji11⟩ : ∃ j_ : Int, (shr .i64 a1 (ji9)) = j_ := ⟨_, rfl⟩
          replace H : (if (Int.tmod (ji11) 2) = 1 then (some false) else (spec_cuCalm.l1 k2 a0 a1 x5_1 (wrap64 (x6_2 + 1)))) = some r := by first | (rw [hji11] at H; exact H) | (simp only [hji11] at H ⊢; exact H)
          have hji11_ : (a1 / 2 ^ min (ji9).toNat 64) = ji11 := hji11
          have hji11z : (ji9) ≤ 64 → (a1 / 2 ^ (ji9).toNat) = ji11 := shr_small hji11
          by_cases c12 : (Int.tmod (ji11) 2) = 1
          ·rw [if_pos c12] at H
           have c12b0 : ((Int.tmod (ji11) 2) == 1) = true := beq_iff_eq.mpr c12
           have c12b1 : ((Int.tmod (ji11) 2) != 1) = false := bne_eq_false_iff_eq.mpr c12
           clear c12
           obtain rfl := Option.some.inj H
           go_wp2
           go_ret
           exact ⟨by first | rfl | (simp; done) | (simp only [← hji4, ← hji6, ← hji9, ← hji11] <;> (first | rfl | simp)) | (simp [*]; done), by repeat (first | exact Drawn0.refl _ | apply Drawn0.step)⟩
          ·rw [if_neg c12] at H
           have c12b0 : ((Int.tmod (ji11) 2) == 1) = false := beq_eq_false_iff_ne.mpr c12
           have c12b1 : ((Int.tmod (ji11) 2) != 1) = true := bne_iff_ne.mpr c12
           have H' := Aside0.mk H
           clear H
           go_wp2
           go_roundg k2
           case measure => have := HK1.out; have := HK2.out; omega
           case rel => exact ⟨(wrap64 (x6_2 + 1)), (by first | rfl | (simp; done) | (simp [*]; done)), H', ⟨by have := HK1.out; have := HK2.out; omega⟩, by repeat (first | exact Drawn0.refl _ | apply Drawn0.step)⟩
         ·rw [if_neg c10] at H
          exact absurd H (by simp)
        ·rw [if_neg c8] at H
         have c8b0 : decide (x6_2 < a0) = false := decide_eq_false c8
         clear c8
         have H' := Aside0.mk H
         clear H
         go_wp2
         go_roundg k2
         case measure => have := HK1.out; have := HK2.out; omega
         case rel => exact ⟨(wrap64 (x5_1 + 1)), (by first | rfl | (simp; done) | (simp [*]; done)), H', ⟨by have := HK1.out; have := HK2.out; omega⟩, by repeat (first | exact Drawn0.refl _ | apply Drawn0.step)⟩
     ·rw [if_neg c7] at H
      have c7b0 : ((Int.tmod (ji6) 4) == 2) = false := beq_eq_false_iff_ne.mpr c7
      have c7b1 : ((Int.tmod (ji6) 4) != 2) = true := bne_iff_ne.mpr c7
      have H' := Aside0.mk H
      clear H
      go_wp2
      go_roundg k1
      case measure => have := HK1.out; omega
      case rel => exact ⟨(wrap64 (x5_1 + 1)), (by first | rfl | (simp; done) | (simp [*]; done)), H', ⟨by have := HK1.out; omega⟩, by repeat (first | exact Drawn0.refl _ | apply Drawn0.step)⟩
    ·rw [if_neg c5] at H
     exact absurd H (by simp)
   ·rw [if_neg c3] at H
    have c3b0 : decide (x5_1 < a0) = false := decide_eq_false c3
    clear c3
    obtain rfl := Option.some.inj H
    go_wp2
    go_ret
    exact ⟨by first | rfl | (simp; done) | (simp [*]; done), by repeat (first | exact Drawn0.refl _ | apply Drawn0.step)⟩
end Go.Proofs.Ytlkjglanglpdoaa.T
namespace Go.Proofs.Ytlkjglanglpdoaa.T
open Go.RowKit Go.Proofs.YtlkjglanglpdoaaW.PrintWords Go.Proofs.YtlkjglanglpdoaaW.PrintLast Go.Proofs.YtlkjglanglpdoaaW.PrintMore
attribute [local go_sem] max2_int min2_int max_two min_two max_three min_three max_four min_four
set_option linter.unusedVariables false
set_option linter.unusedSimpArgs false
mutual
def spec_isCalm.l0 : Nat → Int → Int → Int → Int → List Int → Int → Option (Bool)
 | 0, _, _, _, _, _, _ => none
 | k + 1, x5, x281000, x281001, x281002, x282000, x282001 => if x5 ≤ (wrap64 (x281002 + 1)) then (spec_isCalm.l1 k x5 0 x282000 (x282000.length : Int) 0 x281000 x281001 x281002 x282000 x282001) else (some true)
def spec_isCalm.l1 : Nat → Int → Int → List Int → Int → Int → Int → Int → Int → List Int → Int → Option (Bool)
 | 0, _, _, _, _, _, _, _, _, _, _ => none
 | k + 1, x5, x6, x17, x18, x19, x281000, x281001, x281002, x282000, x282001 => if x19 < x18 then (if 0 ≤ x19 then (if x19 < (x17.length : Int) then (if (rd x17 x19) = x5 then (spec_isCalm.l1 k x5 (Go.bits .or .i64 x6 (shl .i64 1 x19)) x17 x18 (wrap64 (x19 + 1)) x281000 x281001 x281002 x282000 x282001) else (spec_isCalm.l1 k x5 x6 x17 x18 (wrap64 (x19 + 1)) x281000 x281001 x281002 x282000 x282001)) else (none)) else (none)) else ((spec_cuCalm.f k x281000 x6).bind fun t283 => (if t283 = true then (spec_isCalm.l0 k (wrap64 (x5 + 1)) x281000 x281001 x281002 x282000 x282001) else (some false)))
end
def spec_isCalm.f (k : Nat) (a0_0 : Int) (a0_1 : Int) (a0_2 : Int) (l1_0 : List Int) (a1_1 : Int) : Option (Bool) := spec_isCalm.l0 k 0 a0_0 a0_1 a0_2 l1_0 a1_1
theorem spec_isCalm.mono_l : ∀ k, (∀ y0 y1 y2 y3 y4 y5, LeO (spec_isCalm.l0 k y0 y1 y2 y3 y4 y5) (spec_isCalm.l0 (k + 1) y0 y1 y2 y3 y4 y5)) ∧ (∀ y0 y1 y2 y3 y4 y5 y6 y7 y8 y9, LeO (spec_isCalm.l1 k y0 y1 y2 y3 y4 y5 y6 y7 y8 y9) (spec_isCalm.l1 (k + 1) y0 y1 y2 y3 y4 y5 y6 y7 y8 y9))
 | 0 => ⟨fun _ _ _ _ _ _ r h => by simp [spec_isCalm.l0] at h, fun _ _ _ _ _ _ _ _ _ _ r h => by simp [spec_isCalm.l1] at h⟩
 | k + 1 => by
  obtain ⟨ih0, ih1⟩ := spec_isCalm.mono_l k
  refine ⟨?_, ?_⟩
  ·intro y0 y1 y2 y3 y4 y5
   unfold spec_isCalm.l0
   repeat' first
   | (with_reducible exact ih0 _ _ _ _ _ _)
   | (with_reducible exact ih1 _ _ _ _ _ _ _ _ _ _)
   | (with_reducible exact spec_cuCalm.mono _ _ _)
   | (with_reducible exact LeO.refl _)
   | (with_reducible exact LeO.none _)
   | (with_reducible refine LeO.ite ?_ ?_)
   | (with_reducible refine LeO.bind ?_ (fun _ => ?_))
   | exact ih0 _ _ _ _ _ _
   | exact ih1 _ _ _ _ _ _ _ _ _ _
   | exact spec_cuCalm.mono _ _ _
   | exact LeO.none _
   | refine LeO.ite ?_ ?_
   | refine LeO.bind ?_ (fun _ => ?_)
  ·intro y0 y1 y2 y3 y4 y5 y6 y7 y8 y9
   unfold spec_isCalm.l1
   repeat' first
   | (with_reducible exact ih0 _ _ _ _ _ _)
   | (with_reducible exact ih1 _ _ _ _ _ _ _ _ _ _)
   | (with_reducible exact spec_cuCalm.mono _ _ _)
   | (with_reducible exact LeO.refl _)
   | (with_reducible exact LeO.none _)
   | (with_reducible refine LeO.ite ?_ ?_)
   | (with_reducible refine LeO.bind ?_ (fun _ => ?_))
   | exact ih0 _ _ _ _ _ _
   | exact ih1 _ _ _ _ _ _ _ _ _ _
   | exact spec_cuCalm.mono _ _ _
   | exact LeO.none _
   | refine LeO.ite ?_ ?_
   | refine LeO.bind ?_ (fun _ => ?_)
theorem spec_isCalm.mono : ∀ a0 a1 a2 a3 a4 k, LeO (spec_isCalm.f k a0 a1 a2 a3 a4) (spec_isCalm.f (k + 1) a0 a1 a2 a3 a4) := by
 intro a0 a1 a2 a3 a4 k
 obtain ⟨ih0, ih1⟩ := spec_isCalm.mono_l k
 unfold spec_isCalm.f
 repeat' first
   | (with_reducible exact ih0 _ _ _ _ _ _)
   | (with_reducible exact ih1 _ _ _ _ _ _ _ _ _ _)
   | (with_reducible exact spec_cuCalm.mono _ _ _)
   | (with_reducible exact LeO.refl _)
   | (with_reducible exact LeO.none _)
   | (with_reducible refine LeO.ite ?_ ?_)
   | (with_reducible refine LeO.bind ?_ (fun _ => ?_))
   | exact ih0 _ _ _ _ _ _
   | exact ih1 _ _ _ _ _ _ _ _ _ _
   | exact spec_cuCalm.mono _ _ _
   | exact LeO.none _
   | refine LeO.ite ?_ ?_
   | refine LeO.bind ?_ (fun _ => ?_)
set_option maxHeartbeats 8000000 in
set_option maxRecDepth 100000 in
theorem spec_isCalm.calls (k : Nat) (a0_0 : Int) (a0_1 : Int) (a0_2 : Int) (A1_0 : Option Addr) (c1_0 : Nat) (l1_0 : List Int) (a1_1 : Int) (r : Bool) (w : World) (hr1_0 : Kd.C (Kd.int .i64) w A1_0 l1_0.length l1_0) (hc1_0 : l1_0.length ≤ c1_0) (h : spec_isCalm.f k a0_0 a0_1 a0_2 l1_0 a1_1 = some r) :
  Calls Try.prog 179 #[.agg #[.int .i64 a0_0, .int .i64 a0_1, .int .i64 a0_2], .agg #[.slice A1_0 l1_0.length c1_0, .int .i64 a1_1]] w fun e w' => e = .returned (.bool r) ∧ Below w.heap.size w w' := by
 have hu39 := Try.underlying39
 have hu64 := Try.underlying64
 have HR1_0 := Aside0.mk hr1_0
 have HC1_0 := Aside0.mk hc1_0
 clear hr1_0 hc1_0
 have HB := Aside0.mk (Below.refl w.heap.size w)
 have H : (spec_isCalm.l0 k 0 a0_0 a0_1 a0_2 l1_0 a1_1) = some r := h
 clear h
 have H' := Aside0.mk H
 clear H
 go_enter Try.func179, Try.ntmps179
 go_wp2_with (first | ((with_reducible refine gate_dst (N := 2) rfl ?_); refine box_event ?hg (N := 2) ?hd (cs := #[.int .i64 a0_0, .int .i64 a0_1, .int .i64 a0_2]) (t := 39) ?hr ?_; (case hd => rfl); (case hg => rfl); (case hr => first | (go_simp; done) | (go_simp; rfl)); intro gb280 hg w3 hbox hb; have n0_ := Aside0.mk (below_step (by repeat (first | (with_reducible first | exact HB.out | apply below_alloc | apply pw_below_drewN | apply below_drew1) | exact HB.out)) hb); have n1_ := Aside0.mk (hbox); have n2_ := Aside0.mk ((by rw [hg]; exact (below_size (by repeat (first | (with_reducible first | exact HB.out | apply below_alloc | apply pw_below_drewN | apply below_drew1) | exact HB.out))) : w.heap.size ≤ gb280)); have n3_ := Aside0.mk ((by rw [hg]; exact (below_size (by repeat (first | (with_reducible first | exact HB.out | apply below_alloc | apply pw_below_drewN | apply below_drew1) | exact HB.out))) : w.heap.size ≤ gb280)); clear HB; have HB := n0_; have BK280 := n1_; have GW280 := n2_; have GE280 := n3_; clear n0_ n1_ n2_ n3_; clear hb hbox hg) | ((with_reducible refine gate_dst (N := 3) rfl ?_); refine box_event ?hg (N := 3) ?hd (cs := #[.slice A1_0 l1_0.length c1_0, .int .i64 a1_1]) (t := 64) ?hr ?_; (case hd => rfl); (case hg => rfl); (case hr => first | (go_simp; done) | (go_simp; rfl)); intro gb281 hg w4 hbox hb; have n0_ := Aside0.mk (blk_below (g := gb280) (o := .cells #[.int .i64 a0_0, .int .i64 a0_1, .int .i64 a0_2] 39 (0, 0)) (by (with_reducible repeat (first | refine blk_drewN ?_ _ | refine blk_drew ?_ | refine blk_alloc ?_ _)); exact BK280.out) hb); have n1_ := Aside0.mk (below_step (by repeat (first | (with_reducible first | exact HB.out | apply below_alloc | apply pw_below_drewN | apply below_drew1 | refine below_set ?_ GE280.out) | exact HB.out)) hb); have n2_ := Aside0.mk (hbox); have n3_ := Aside0.mk ((by rw [hg]; exact (below_size (by repeat (first | (with_reducible first | exact HB.out | apply below_alloc | apply pw_below_drewN | apply below_drew1 | refine below_set ?_ GE280.out) | exact HB.out))) : w.heap.size ≤ gb281)); have n4_ := Aside0.mk ((by rw [hg]; exact (below_size (by repeat (first | (with_reducible first | exact HB.out | apply below_alloc | apply pw_below_drewN | apply below_drew1 | refine below_set ?_ GE280.out) | exact HB.out))) : w.heap.size ≤ gb281)); have n5_ := Aside0.mk ((by rw [hg]; exact Nat.ne_of_lt (blk_lt (g := gb280) (o := .cells #[.int .i64 a0_0, .int .i64 a0_1, .int .i64 a0_2] 39 (0, 0)) (by (with_reducible repeat (first | refine blk_drewN ?_ _ | refine blk_drew ?_ | refine blk_alloc ?_ _)); exact BK280.out)) : gb280 ≠ gb281)); have n6_ := Aside0.mk ((by rw [hg]; exact Nat.ne_of_gt (blk_lt (g := gb280) (o := .cells #[.int .i64 a0_0, .int .i64 a0_1, .int .i64 a0_2] 39 (0, 0)) (by (with_reducible repeat (first | refine blk_drewN ?_ _ | refine blk_drew ?_ | refine blk_alloc ?_ _)); exact BK280.out)) : gb281 ≠ gb280)); clear BK280; clear HB; have BK280 := n0_; have HB := n1_; have BK281 := n2_; have GW281 := n3_; have GE281 := n4_; have NB280_281 := n5_; have NB281_280 := n6_; clear n0_ n1_ n2_ n3_ n4_ n5_ n6_; clear hb hbox hg))
 go_loopg [5] k (fun kq v5 w' => ∃ (x5_1 : Int), v5 = .int .i64 x5_1 ∧ Aside0 (spec_isCalm.l0 kq x5_1 a0_0 a0_1 a0_2 l1_0 a1_1 = some r) ∧ Aside0 (kq ≤ k) ∧ Aside0 (w'.heap[gb280]? = some (.cells #[.int .i64 a0_0, .int .i64 a0_1, .int .i64 a0_2] 39 (0, 0))) ∧ Aside0 (w'.heap[gb281]? = some (.cells #[(.slice A1_0 l1_0.length c1_0), .int .i64 a1_1] 64 (0, 0))) ∧ Aside0 (Below w.heap.size w w'))
 case atStart => exact ⟨(0), (by first | rfl | (simp; done) | (simp [*]; done)), H', ⟨Nat.le_refl _⟩, ⟨by (with_reducible repeat (first | refine blk_drewN ?_ _ | refine blk_drew ?_ | refine blk_alloc ?_ _)); exact BK280.out⟩, ⟨by (with_reducible repeat (first | refine blk_drewN ?_ _ | refine blk_drew ?_ | refine blk_alloc ?_ _)); exact BK281.out⟩, ⟨by repeat (first | (with_reducible first | exact HB.out | apply below_alloc | apply pw_below_drewN | apply below_drew1 | refine below_set ?_ GE280.out | refine below_set ?_ GE281.out) | exact HB.out)⟩⟩
 case round =>
  clear H'
  try clear c1
  try clear p2
  obtain ⟨x5_1, rfl, HA, HK1, BK280, BK281, HB⟩ := hrel
  cases gk with
  | zero => exact absurd HA.out (by simp [spec_isCalm.l0])
  | succ k1 =>
   have H := HA.out
   clear HA
   simp only [spec_isCalm.l0] at H
   by_cases c5 : x5_1 ≤ (wrap64 (a0_2 + 1))
   ·rw [if_pos c5] at H
    have c5b0 : decide (x5_1 ≤ (wrap64 (a0_2 + 1))) = true := decide_eq_true c5
    clear c5
    have H' := Aside0.mk H
    clear H
    have hnb6 := NB280_281.out
    have hnc6 := NB281_280.out
    have hcz7_0 : wr.cell? ⟨gb280, 0, none⟩ = some (.int .i64 a0_0) := (blk_cell BK280.out 0).trans rfl
    have hcz7_1 : wr.cell? ⟨gb280, 1, none⟩ = some (.int .i64 a0_1) := (blk_cell BK280.out 1).trans rfl
    have hcz7_2 : wr.cell? ⟨gb280, 2, none⟩ = some (.int .i64 a0_2) := (blk_cell BK280.out 2).trans rfl
    have hfz7_0 := blk_frozen BK280.out 0
    have hfz7_1 := blk_frozen BK280.out 1
    have hfz7_2 := blk_frozen BK280.out 2
    have hcz8_0 : wr.cell? ⟨gb281, 0, none⟩ = some (.slice A1_0 l1_0.length c1_0) := (blk_cell BK281.out 0).trans rfl
    have hcz8_1 : wr.cell? ⟨gb281, 1, none⟩ = some (.int .i64 a1_1) := (blk_cell BK281.out 1).trans rfl
    have hfz8_0 := blk_frozen BK281.out 0
    have hfz8_1 := blk_frozen BK281.out 1
    go_wp2
    go_loopg [6, 19] k1 (fun kq v6 v19 w' => ∃ (x6_2 : Int) (x19_2 : Int), v6 = .int .i64 x6_2 ∧ v19 = .int .i64 x19_2 ∧ Aside0 (spec_isCalm.l1 kq x5_1 x6_2 l1_0 (l1_0.length : Int) x19_2 a0_0 a0_1 a0_2 l1_0 a1_1 = some r) ∧ Aside0 (kq ≤ k1) ∧ Aside0 (w'.heap[gb280]? = some (.cells #[.int .i64 a0_0, .int .i64 a0_1, .int .i64 a0_2] 39 (0, 0))) ∧ Aside0 (w'.heap[gb281]? = some (.cells #[(.slice A1_0 l1_0.length c1_0), .int .i64 a1_1] 64 (0, 0))) ∧ Aside0 (Below w.heap.size w w'))
    case atStart => exact ⟨(0), (0), (by first | rfl | (simp; done) | (simp [*]; done)), (by first | rfl | (simp; done) | (simp [*]; done)), H', ⟨Nat.le_refl _⟩, ⟨by (with_reducible repeat (first | refine blk_drewN ?_ _ | refine blk_drew ?_ | refine blk_alloc ?_ _)); exact BK280.out⟩, ⟨by (with_reducible repeat (first | refine blk_drewN ?_ _ | refine blk_drew ?_ | refine blk_alloc ?_ _)); exact BK281.out⟩, ⟨by repeat (first | (with_reducible first | exact HB.out | apply below_alloc | apply pw_below_drewN | apply below_drew1 | refine below_set ?_ GE280.out | refine below_set ?_ GE281.out) | exact HB.out)⟩⟩
    case round =>
     clear H'
     try clear c1
     try clear p2
     try clear c5
     try clear c5b0
     try clear c6
     try clear p6
     try clear hcz7_0
     try clear hcz7_1
     try clear hcz7_2
     try clear hcz8_0
     try clear hcz8_1
     try clear hfz7_0
     try clear hfz7_1
     try clear hfz7_2
     try clear hfz8_0
     try clear hfz8_1
     try clear p2
     obtain ⟨x6_2, x19_2, rfl, rfl, HA, HK2, BK280, BK281, HB⟩ := hrel
     cases gk with
     | zero => exact absurd HA.out (by simp [spec_isCalm.l1])
     | succ k2 =>
      have H := HA.out
      clear HA
      simp only [spec_isCalm.l1] at H
      by_cases c9 : x19_2 < (l1_0.length : Int)
      ·rw [if_pos c9] at H
       have c9b0 : decide (x19_2 < (l1_0.length : Int)) = true := decide_eq_true c9
       clear c9
       by_cases c10 : 0 ≤ x19_2
       ·rw [if_pos c10] at H
        have c10b0 : decide (0 ≤ x19_2) = true := decide_eq_true c10
        clear c10
        by_cases c11 : x19_2 < (l1_0.length : Int)
        ·rw [if_pos c11] at H
         have c11b0 : decide (x19_2 < (l1_0.length : Int)) = true := decide_eq_true c11
         clear c11
         by_cases c12 : (rd l1_0 x19_2) = x5_1
         ·rw [if_pos c12] at H
          have c12b0 : ((rd l1_0 x19_2) == x5_1) = true := beq_iff_eq.mpr c12
          have c12b1 : ((rd l1_0 x19_2) != x5_1) = false := bne_eq_false_iff_eq.mpr c12
          clear c12
          have c13b0 := eq_true (of_decide_eq_true (by first | (with_reducible assumption) | assumption) : 0 ≤ x19_2)
          obtain ⟨ji14, hji14⟩ : ∃ j_ : Int, (shl .i64 1 x19_2) = j_ := ⟨_, rfl⟩
          replace H : (spec_isCalm.l1 k2 x5_1 (Go.bits .or .i64 x6_2 (ji14)) l1_0 (l1_0.length : Int) (wrap64 (x19_2 + 1)) a0_0 a0_1 a0_2 l1_0 a1_1) = some r := by first | (rw [hji14] at H; exact H) | (simp only [hji14] at H ⊢; exact H)
          have hji14_ : (IntKind.i64.wrap (1 * 2 ^ min x19_2.toNat 64)) = ji14 := hji14
          have hji14z : x19_2 ≤ 64 → (IntKind.i64.wrap (1 * 2 ^ x19_2.toNat)) = ji14 := shl_small hji14
          have hji14u : (IntKind.i64.wrap (2 ^ min x19_2.toNat 64)) = ji14 := by have h_ := hji14_; rw [Int.one_mul] at h_; exact h_
          have hji14v : x19_2 ≤ 64 → (IntKind.i64.wrap (2 ^ x19_2.toNat)) = ji14 := fun hle_ => by have h_ := hji14z hle_; rw [Int.one_mul] at h_; exact h_
          have hji14y : (wrap64 (1 * 2 ^ min x19_2.toNat 64)) = ji14 := (i64_w _).symm.trans hji14_
          have hji14x : x19_2 ≤ 64 → (wrap64 (1 * 2 ^ x19_2.toNat)) = ji14 := fun h_ => (i64_w _).symm.trans (hji14z h_)
          have H' := Aside0.mk H
          clear H
          have p282 : 0 ≤ (x19_2 : Int) := of_decide_eq_true (by first | (with_reducible assumption) | assumption)
          have q282 : x19_2 < (l1_0.length : Int) := of_decide_eq_true (by first | (with_reducible assumption) | assumption)
          obtain ⟨ad282, e282, hx282_0⟩ := Kd.at_int HR1_0.out x19_2 p282 q282
          cases e282
          replace hx282_0 := (HB.out.cell (World.block_lt_of_cell? w _ hx282_0)).trans hx282_0
          replace p282 := eq_true p282
          replace q282 := eq_true q282
          go_wp2
          go_roundg k2
          case measure => have := HK1.out; have := HK2.out; omega
          case rel => exact ⟨(Go.bits .or .i64 x6_2 (ji14)), (wrap64 (x19_2 + 1)), (by first | rfl | (simp; done) | (simp only [← hji14] <;> (first | rfl | simp)) | (simp [*]; done)), (by first | rfl | (simp; done) | (simp [*]; done)), H', ⟨by have := HK1.out; have := HK2.out; omega⟩, ⟨by (with_reducible repeat (first | refine blk_drewN ?_ _ | refine blk_drew ?_ | refine blk_alloc ?_ _)); exact BK280.out⟩, ⟨by (with_reducible repeat (first | refine blk_drewN ?_ _ | refine blk_drew ?_ | refine blk_alloc ?_ _)); exact BK281.out⟩, ⟨by repeat (first | (with_reducible first | exact HB.out | apply below_alloc | apply pw_below_drewN | apply below_drew1 | refine below_set ?_ GE280.out | refine below_set ?_ GE281.out) | exact HB.out)⟩⟩
         ·rw [if_neg c12] at H
          have c12b0 : ((rd l1_0 x19_2) == x5_1) = false := beq_eq_false_iff_ne.mpr c12
          have c12b1 : ((rd l1_0 x19_2) != x5_1) = true := bne_iff_ne.mpr c12
          have H' := Aside0.mk H
          clear H
          have p282 : 0 ≤ (x19_2 : Int) := of_decide_eq_true (by first | (with_reducible assumption) | assumption)
          have q282 : x19_2 < (l1_0.length : Int) := of_decide_eq_true (by first | (with_reducible assumption) | assumption)
          obtain ⟨ad282, e282, hx282_0⟩ := Kd.at_int HR1_0.out x19_2 p282 q282
          cases e282
          replace hx282_0 := (HB.out.cell (World.block_lt_of_cell? w _ hx282_0)).trans hx282_0
          replace p282 := eq_true p282
          replace q282 := eq_true q282
          go_wp2
          go_roundg k2
          case measure => have := HK1.out; have := HK2.out; omega
          case rel => exact ⟨(x6_2), (wrap64 (x19_2 + 1)), (by first | rfl | (simp; done) | (simp [*]; done)), (by first | rfl | (simp; done) | (simp [*]; done)), H', ⟨by have := HK1.out; have := HK2.out; omega⟩, ⟨by (with_reducible repeat (first | refine blk_drewN ?_ _ | refine blk_drew ?_ | refine blk_alloc ?_ _)); exact BK280.out⟩, ⟨by (with_reducible repeat (first | refine blk_drewN ?_ _ | refine blk_drew ?_ | refine blk_alloc ?_ _)); exact BK281.out⟩, ⟨by repeat (first | (with_reducible first | exact HB.out | apply below_alloc | apply pw_below_drewN | apply below_drew1 | refine below_set ?_ GE280.out | refine below_set ?_ GE281.out) | exact HB.out)⟩⟩
        ·rw [if_neg c11] at H
         exact absurd H (by simp)
       ·rw [if_neg c10] at H
        exact absurd H (by simp)
      ·rw [if_neg c9] at H
       have c9b0 : decide (x19_2 < (l1_0.length : Int)) = false := decide_eq_false c9
       clear c9
       replace H := Option.bind_eq_some_iff.mp H
       obtain ⟨t283, A150, H⟩ := H
       replace H : (if t283 = true then (spec_isCalm.l0 k2 (wrap64 (x5_1 + 1)) a0_0 a0_1 a0_2 l1_0 a1_1) else (some false)) = some r := H
       have A15 := Aside0.mk A150
       clear A150
       by_cases c16 : t283 = true
       ·subst c16
        have H1 : (spec_isCalm.l0 k2 (wrap64 (x5_1 + 1)) a0_0 a0_1 a0_2 l1_0 a1_1) = some r := by rw [if_pos rfl] at H; exact H
        clear H
        have H := H1
        clear H1
        have H' := Aside0.mk H
        clear H
        have hnb17 := NB280_281.out
        have hnc17 := NB281_280.out
        have hcz18_0 : wr.cell? ⟨gb280, 0, none⟩ = some (.int .i64 a0_0) := (blk_cell BK280.out 0).trans rfl
        have hcz18_1 : wr.cell? ⟨gb280, 1, none⟩ = some (.int .i64 a0_1) := (blk_cell BK280.out 1).trans rfl
        have hcz18_2 : wr.cell? ⟨gb280, 2, none⟩ = some (.int .i64 a0_2) := (blk_cell BK280.out 2).trans rfl
        have hfz18_0 := blk_frozen BK280.out 0
        have hfz18_1 := blk_frozen BK280.out 1
        have hfz18_2 := blk_frozen BK280.out 2
        go_wp2_with (first | ((with_reducible refine gate_callee (f := 172) rfl ?_); refine goesL_ (some 35) rfl rfl Try.func172 (by kernel_rfl) rfl #[.int .i64 a0_0, .int .i64 x6_2] rfl (by (try simp only [List.map_toArray, List.map_cons, List.map_nil]); first | done | rfl | (simp only [List.length_drop, List.length_take]; rfl)) ?_; (with_reducible refine (spec_cuCalm.calls k2 a0_0 x6_2 true _ A15.out).mono ?_); rintro e w' ⟨rfl, ⟨nd, rfl⟩⟩; refine ⟨_, rfl, ?_⟩))
        go_roundg k2
        case measure => have := HK1.out; have := HK2.out; omega
        case rel => exact ⟨(wrap64 (x5_1 + 1)), (by first | rfl | (simp; done) | (simp [*]; done)), H', ⟨by have := HK1.out; have := HK2.out; omega⟩, ⟨by (with_reducible repeat (first | refine blk_drewN ?_ _ | refine blk_drew ?_ | refine blk_alloc ?_ _)); exact BK280.out⟩, ⟨by (with_reducible repeat (first | refine blk_drewN ?_ _ | refine blk_drew ?_ | refine blk_alloc ?_ _)); exact BK281.out⟩, ⟨by repeat (first | (with_reducible first | exact HB.out | apply below_alloc | apply pw_below_drewN | apply below_drew1 | refine below_set ?_ GE280.out | refine below_set ?_ GE281.out) | exact HB.out)⟩⟩
       ·replace c16 := Bool.eq_false_iff.mpr c16
        subst c16
        have H1 : (some false) = some r := by rw [if_neg (show ¬ (false = true) by decide)] at H; exact H
        clear H
        have H := H1
        clear H1
        obtain rfl := Option.some.inj H
        have hnb19 := NB280_281.out
        have hnc19 := NB281_280.out
        have hcz20_0 : wr.cell? ⟨gb280, 0, none⟩ = some (.int .i64 a0_0) := (blk_cell BK280.out 0).trans rfl
        have hcz20_1 : wr.cell? ⟨gb280, 1, none⟩ = some (.int .i64 a0_1) := (blk_cell BK280.out 1).trans rfl
        have hcz20_2 : wr.cell? ⟨gb280, 2, none⟩ = some (.int .i64 a0_2) := (blk_cell BK280.out 2).trans rfl
        have hfz20_0 := blk_frozen BK280.out 0
        have hfz20_1 := blk_frozen BK280.out 1
        have hfz20_2 := blk_frozen BK280.out 2
        go_wp2_with (first | ((with_reducible refine gate_callee (f := 172) rfl ?_); refine goesL_ (some 35) rfl rfl Try.func172 (by kernel_rfl) rfl #[.int .i64 a0_0, .int .i64 x6_2] rfl (by (try simp only [List.map_toArray, List.map_cons, List.map_nil]); first | done | rfl | (simp only [List.length_drop, List.length_take]; rfl)) ?_; (with_reducible refine (spec_cuCalm.calls k2 a0_0 x6_2 false _ A15.out).mono ?_); rintro e w' ⟨rfl, ⟨nd, rfl⟩⟩; refine ⟨_, rfl, ?_⟩))
        go_ret
        exact ⟨by first | rfl | (simp [errW_none, errW_some] <;> rfl) | (simp [*, errW_none, errW_some] <;> rfl), by repeat (first | (with_reducible first | exact HB.out | apply below_alloc | apply pw_below_drewN | apply below_drew1 | refine below_set ?_ GE280.out | refine below_set ?_ GE281.out) | exact HB.out)⟩
   ·rw [if_neg c5] at H
    have c5b0 : decide (x5_1 ≤ (wrap64 (a0_2 + 1))) = false := decide_eq_false c5
    clear c5
    obtain rfl := Option.some.inj H
    have hnb21 := NB280_281.out
    have hnc21 := NB281_280.out
    have hcz22_0 : wr.cell? ⟨gb280, 0, none⟩ = some (.int .i64 a0_0) := (blk_cell BK280.out 0).trans rfl
    have hcz22_1 : wr.cell? ⟨gb280, 1, none⟩ = some (.int .i64 a0_1) := (blk_cell BK280.out 1).trans rfl
    have hcz22_2 : wr.cell? ⟨gb280, 2, none⟩ = some (.int .i64 a0_2) := (blk_cell BK280.out 2).trans rfl
    have hfz22_0 := blk_frozen BK280.out 0
    have hfz22_1 := blk_frozen BK280.out 1
    have hfz22_2 := blk_frozen BK280.out 2
    go_wp2
    go_ret
    exact ⟨by first | rfl | (simp [errW_none, errW_some] <;> rfl) | (simp [*, errW_none, errW_some] <;> rfl), by repeat (first | (with_reducible first | exact HB.out | apply below_alloc | apply pw_below_drewN | apply below_drew1 | refine below_set ?_ GE280.out | refine below_set ?_ GE281.out) | exact HB.out)⟩
end Go.Proofs.Ytlkjglanglpdoaa.T
namespace Go.Proofs.Ytlkjglanglpdoaa.T
open Go.RowKit Go.Proofs.YtlkjglanglpdoaaW.PrintWords Go.Proofs.YtlkjglanglpdoaaW.PrintLast Go.Proofs.YtlkjglanglpdoaaW.PrintMore
attribute [local go_sem] max2_int min2_int max_two min_two max_three min_three max_four min_four
set_option linter.unusedVariables false
set_option linter.unusedSimpArgs false
def spec_l1Own.f (l0 : List Int) : Option (List Int) := (some (([] : List Int) : List Int)).bind fun y284 => (if y284.length + l0.length < 17592186044416 then (some (y284 ++ l0)) else (none))
set_option maxHeartbeats 8000000 in
set_option maxRecDepth 100000 in
theorem spec_l1Own.calls (A0 : Option Addr) (c0 : Nat) (l0 : List Int) (r : List Int) (w : World) (hr0 : Kd.C (Kd.int .i64) w A0 l0.length l0) (hc0 : l0.length ≤ c0) (h : spec_l1Own.f l0 = some r) :
  Calls Try.prog 229 #[.slice A0 l0.length c0] w fun e w' => ∃ v0_ : Value, e = .returned (v0_) ∧ Kd.R (Kd.int .i64) 3 w' w.heap.size (fun _ => True) v0_ r ∧ Below w.heap.size w w' := by
 have HR0 := Aside0.mk hr0
 have HC0 := Aside0.mk hc0
 clear hr0 hc0
 have HB := Aside0.mk (Below.refl w.heap.size w)
 have H : ((some (([] : List Int) : List Int)).bind fun y284 => (if y284.length + l0.length < 17592186044416 then (some (y284 ++ l0)) else (none))) = some r := h
 clear h
 obtain ⟨y284, hy284⟩ : ∃ y_ : List Int, y_ = (([] : List Int)) := ⟨_, rfl⟩
 replace H : (if y284.length + l0.length < 17592186044416 then (some (y284 ++ l0)) else (none)) = some r := by first | (rw [hy284]; with_reducible exact H) | (have H2_ := (Option.bind_some _ _).symm.trans H; rw [hy284]; with_reducible exact H2_) | (have H2_ := (Option.bind_some _ _).symm.trans H; with_reducible exact H2_) | with_reducible exact H | (rw [hy284]; exact H) | exact H
 have Ny284 := Aside0.mk hy284
 clear hy284
 by_cases c2 : y284.length + l0.length < 17592186044416
 ·rw [if_pos c2] at H
  have LMc2 := Aside0.mk c2
  clear c2
  obtain ⟨y287, hy287⟩ : ∃ y_ : List Int, y_ = (y284 ++ l0) := ⟨_, rfl⟩
  replace H : (some y287) = some r := by first | (rw [hy287]; with_reducible exact H) | (have H2_ := (Option.bind_some _ _).symm.trans H; rw [hy287]; with_reducible exact H2_) | (have H2_ := (Option.bind_some _ _).symm.trans H; with_reducible exact H2_) | with_reducible exact H | (rw [hy287]; exact H) | exact H
  have Ny287 := Aside0.mk hy287
  clear hy287
  obtain rfl := Option.some.inj H
  go_enter Try.func229, Try.ntmps229
  go_wp2_with (first | ((with_reducible refine gate_dst (N := 3) rfl ?_); refine Kd.R_lit (Kd.int .i64) _ 3 ?hg (N := 3) ?hd (xs := ([] : List Int)) (inner := []) (ok := fun _ => True) (okp := fun _ => True) ?hr ?hp (fun _ hk => hk) trivial (Below.refl _ _) (Nat.le_refl _) (by simp) ?_; (case hd => rfl); (case hg => rfl); (case hr => first | (go_simp; done) | (go_simp; rfl)); (case hp => exact (Reps.none _ _)); intro v285 w3 ho4 hb hg_ hnew_; clear hg_ hnew_; (first | rw [← Ny284.out] at ho4 | (simp only [Int.reduceToNat] at ho4; rw [← Ny284.out] at ho4)); have n0_ := Aside0.mk (Kd.R_lower ho4 (below_size (by repeat (first | (with_reducible first | exact HB.out | apply below_alloc | apply pw_below_drewN | apply below_drew1) | exact HB.out)))); have n1_ := Aside0.mk (below_step (by repeat (first | (with_reducible first | exact HB.out | apply below_alloc | apply pw_below_drewN | apply below_drew1) | exact HB.out)) hb); clear HB; have HO286 := n0_; have HB := n1_; clear n0_ n1_; clear hb ho4) | ((with_reducible refine gate_builtin (b := .append) (xs := #[.tmp 3, .tmp 4]) rfl ?_); at_builtin; refine Kd.R_append_rows (Kd.int .i64) (w0 := w) w.heap.size rfl (.tmp 3) (.tmp 4) 32 3 (.int .i64 0) 8 rfl Try.underlying32 info3 rfl (by decide) (by omega) v285 y284 l0 _ _ _ (fun _ => True) (fun _ => False) rfl rfl ?aO ?aR (fun _ _ h => h) (fun _ h => h.elim) ?aF ?aB ?aS ?aL ?_; (case aR => repeat (first | exact (Kd.C_below HR0.out HB.out) | (with_reducible refine Kd.C_alloc ?_ _) | (with_reducible refine Kd.C_drewN ?_ _) | (with_reducible refine Kd.C_drew ?_))); (case aB => exact (by repeat (first | (with_reducible first | exact HB.out | apply below_alloc | apply pw_below_drewN | apply below_drew1) | exact HB.out))); (case aF => exact (fun _ _ => trivial)); (case aO => exact (by (with_reducible repeat (first | apply Kd.R_alloc | apply Kd.R_drewN | apply Kd.R_drew)); exact HO286.out)); (case aS => exact (below_size (by repeat (first | (with_reducible first | exact HB.out | apply below_alloc | apply pw_below_drewN | apply below_drew1) | exact HB.out)))); (case aL => have := LMc2.out; omega); intro v288 w5 ho hb hg hat; rw [← Ny287.out] at ho; have n0_ := Aside0.mk (hb); have n1_ := Aside0.mk (ho); clear HB; clear HO286; have HB := n0_; have HO289 := n1_; clear n0_ n1_; clear ho hb hg hat))
  go_ret
  exact ⟨_, by first | rfl | (simp [errW_none, errW_some] <;> rfl) | (simp [*, errW_none, errW_some] <;> rfl), by (with_reducible repeat (first | apply Kd.R_alloc | apply Kd.R_drewN | apply Kd.R_drew)); exact HO289.out, by repeat (first | (with_reducible first | exact HB.out | apply below_alloc | apply pw_below_drewN | apply below_drew1) | exact HB.out)⟩
 ·rw [if_neg c2] at H
  exact absurd H (by simp)
end Go.Proofs.Ytlkjglanglpdoaa.T
