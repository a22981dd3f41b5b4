/-
  Texts of a proof, laid together by a program of mine: Tf190, H8a, H8b, H8c, H8d, H15, H141, Tf141, H8e, Tf59, H6, H7, H9a.
-/
import Derived.Test.YtlkjglanglpdoaaProg
import Derived.Below
import Derived.Deep.Draws
import Derived.Deep.AppendLies
import Derived.Maps.AppendAt
import Derived.OwnWalk
import Derived.Laws.BytesArg
import Derived.Laws.MakeOwn
import Derived.Laws.OwnMore
import Derived.Deep.OwnRows
import Derived.Tactics
import Derived.Lib.ConvBytes
import Derived.Laws.Slices
import Derived.WalkKit
import Derived.KernelRfl
import Derived.RowKit3
import Derived.Deep.LoopGhost
import Derived.Deep.QuietTactic
import Derived.BigQuiet
import Derived.WideLaws
import Derived.Deep.DeepCutAuto
import Derived.Deep.CutBlock
import Derived.Deep.RegionHeld3
import Derived.Laws.Rows
import Derived.Lib.AppendStr
import Derived.ArgAppend
import Derived.Laws.IdiomCopy
import Derived.OrdersHeld
import Derived.Laws.BitsLemmas
import Derived.RowKit
import Derived.Laws.StructEq
import Derived.Lib.SliceRun
import Derived.BigRegion
import Derived.Laws.CopyOwn
import Derived.Laws.BitsAllLaws
import Derived.Laws.EntriesVeiled
import Derived.Maps.OwnSet
import Derived.Test.YtlkjglanglpdoaaQ7a
import Derived.Test.YtlkjglanglpdoaaQ7d
import Derived.Test.YtlkjglanglpdoaaQ7e
import Derived.Test.YtlkjglanglpdoaaQ7f
namespace Go.Proofs.Ytlkjglanglpdoaa.T
open Go.RowKit Go.Proofs.YtlkjglanglpdoaaW.PrintWords Go.Proofs.YtlkjglanglpdoaaW.PrintLast Go.Proofs.YtlkjglanglpdoaaW.PrintMore
attribute [local go_sem] max2_int min2_int max_two min_two max_three min_three max_four min_four
set_option linter.unusedVariables false
set_option linter.unusedSimpArgs false
def spec_isCode.l0 : Nat → Int → List Int → Int → Int → Int → Int → Int → Option (Int)
 | 0, _, _, _, _, _, _, _ => none
 | k + 1, x5, x11, x12, x13, x355000, x355001, x355002 => if x13 < x12 then (if 0 ≤ x13 then (if x13 < (x11.length : Int) then (spec_isCode.l0 k (wrap64 ((wrap64 (x5 * (wrap64 (x355002 + 2)))) + (rd x11 x13))) x11 x12 (wrap64 (x13 + 1)) x355000 x355001 x355002) else (none)) else (none)) else (some x5)
def spec_isCode.f (k : Nat) (a0_0 : Int) (a0_1 : Int) (a0_2 : Int) (l1_0 : List Int) (a1_1 : Int) : Option (Int) := spec_isCode.l0 k a1_1 l1_0 (l1_0.length : Int) 0 a0_0 a0_1 a0_2
theorem spec_isCode.mono_l : ∀ k, (∀ y0 y1 y2 y3 y4 y5 y6, LeO (spec_isCode.l0 k y0 y1 y2 y3 y4 y5 y6) (spec_isCode.l0 (k + 1) y0 y1 y2 y3 y4 y5 y6))
 | 0 => fun _ _ _ _ _ _ _ r h => by simp [spec_isCode.l0] at h
 | k + 1 => by
  have ih0 := spec_isCode.mono_l k
  ·intro y0 y1 y2 y3 y4 y5 y6
   unfold spec_isCode.l0
   repeat' first
   | (with_reducible exact ih0 _ _ _ _ _ _ _)
   | (with_reducible exact LeO.refl _)
   | (with_reducible exact LeO.none _)
   | (with_reducible refine LeO.ite ?_ ?_)
   | (with_reducible refine LeO.bind ?_ (fun _ => ?_))
   | exact ih0 _ _ _ _ _ _ _
   | exact LeO.none _
   | refine LeO.ite ?_ ?_
   | refine LeO.bind ?_ (fun _ => ?_)
theorem spec_isCode.mono : ∀ a0 a1 a2 a3 a4 k, LeO (spec_isCode.f k a0 a1 a2 a3 a4) (spec_isCode.f (k + 1) a0 a1 a2 a3 a4) := by
 intro a0 a1 a2 a3 a4 k
 have ih0 := spec_isCode.mono_l k
 unfold spec_isCode.f
 repeat' first
   | (with_reducible exact ih0 _ _ _ _ _ _ _)
   | (with_reducible exact LeO.refl _)
   | (with_reducible exact LeO.none _)
   | (with_reducible refine LeO.ite ?_ ?_)
   | (with_reducible refine LeO.bind ?_ (fun _ => ?_))
   | exact ih0 _ _ _ _ _ _ _
   | exact LeO.none _
   | refine LeO.ite ?_ ?_
   | refine LeO.bind ?_ (fun _ => ?_)
set_option maxHeartbeats 8000000 in
set_option maxRecDepth 100000 in
theorem spec_isCode.calls (k : Nat) (a0_0 : Int) (a0_1 : Int) (a0_2 : Int) (A1_0 : Option Addr) (c1_0 : Nat) (l1_0 : List Int) (a1_1 : Int) (r : Int) (w : World) (hr1_0 : Kd.C (Kd.int .i64) w A1_0 l1_0.length l1_0) (hc1_0 : l1_0.length ≤ c1_0) (h : spec_isCode.f k a0_0 a0_1 a0_2 l1_0 a1_1 = some r) :
  Calls Try.prog 190 #[.agg #[.int .i64 a0_0, .int .i64 a0_1, .int .i64 a0_2], .agg #[.slice A1_0 l1_0.length c1_0, .int .i64 a1_1]] w fun e w' => e = .returned (.int .i64 r) ∧ Below w.heap.size w w' := by
 have hu39 := Try.underlying39
 have hu64 := Try.underlying64
 have HR1_0 := Aside0.mk hr1_0
 have HC1_0 := Aside0.mk hc1_0
 clear hr1_0 hc1_0
 have HB := Aside0.mk (Below.refl w.heap.size w)
 have H : (spec_isCode.l0 k a1_1 l1_0 (l1_0.length : Int) 0 a0_0 a0_1 a0_2) = some r := h
 clear h
 have H' := Aside0.mk H
 clear H
 go_enter Try.func190, Try.ntmps190
 go_wp2_with (first | ((with_reducible refine gate_dst (N := 2) rfl ?_); refine box_event ?hg (N := 2) ?hd (cs := #[.int .i64 a0_0, .int .i64 a0_1, .int .i64 a0_2]) (t := 39) ?hr ?_; (case hd => rfl); (case hg => rfl); (case hr => first | (go_simp; done) | (go_simp; rfl)); intro gb354 hg w3 hbox hb; have n0_ := Aside0.mk (below_step (by repeat (first | (with_reducible first | exact HB.out | apply below_alloc | apply pw_below_drewN | apply below_drew1) | exact HB.out)) hb); have n1_ := Aside0.mk (hbox); have n2_ := Aside0.mk ((by rw [hg]; exact (below_size (by repeat (first | (with_reducible first | exact HB.out | apply below_alloc | apply pw_below_drewN | apply below_drew1) | exact HB.out))) : w.heap.size ≤ gb354)); have n3_ := Aside0.mk ((by rw [hg]; exact (below_size (by repeat (first | (with_reducible first | exact HB.out | apply below_alloc | apply pw_below_drewN | apply below_drew1) | exact HB.out))) : w.heap.size ≤ gb354)); clear HB; have HB := n0_; have BK354 := n1_; have GW354 := n2_; have GE354 := n3_; clear n0_ n1_ n2_ n3_; clear hb hbox hg) | ((with_reducible refine gate_dst (N := 3) rfl ?_); refine box_event ?hg (N := 3) ?hd (cs := #[.slice A1_0 l1_0.length c1_0, .int .i64 a1_1]) (t := 64) ?hr ?_; (case hd => rfl); (case hg => rfl); (case hr => first | (go_simp; done) | (go_simp; rfl)); intro gb355 hg w4 hbox hb; have n0_ := Aside0.mk (blk_below (g := gb354) (o := .cells #[.int .i64 a0_0, .int .i64 a0_1, .int .i64 a0_2] 39 (0, 0)) (by (with_reducible repeat (first | refine blk_drewN ?_ _ | refine blk_drew ?_ | refine blk_alloc ?_ _)); exact BK354.out) hb); have n1_ := Aside0.mk (below_step (by repeat (first | (with_reducible first | exact HB.out | apply below_alloc | apply pw_below_drewN | apply below_drew1 | refine below_set ?_ GE354.out) | exact HB.out)) hb); have n2_ := Aside0.mk (hbox); have n3_ := Aside0.mk ((by rw [hg]; exact (below_size (by repeat (first | (with_reducible first | exact HB.out | apply below_alloc | apply pw_below_drewN | apply below_drew1 | refine below_set ?_ GE354.out) | exact HB.out))) : w.heap.size ≤ gb355)); have n4_ := Aside0.mk ((by rw [hg]; exact (below_size (by repeat (first | (with_reducible first | exact HB.out | apply below_alloc | apply pw_below_drewN | apply below_drew1 | refine below_set ?_ GE354.out) | exact HB.out))) : w.heap.size ≤ gb355)); have n5_ := Aside0.mk ((by rw [hg]; exact Nat.ne_of_lt (blk_lt (g := gb354) (o := .cells #[.int .i64 a0_0, .int .i64 a0_1, .int .i64 a0_2] 39 (0, 0)) (by (with_reducible repeat (first | refine blk_drewN ?_ _ | refine blk_drew ?_ | refine blk_alloc ?_ _)); exact BK354.out)) : gb354 ≠ gb355)); have n6_ := Aside0.mk ((by rw [hg]; exact Nat.ne_of_gt (blk_lt (g := gb354) (o := .cells #[.int .i64 a0_0, .int .i64 a0_1, .int .i64 a0_2] 39 (0, 0)) (by (with_reducible repeat (first | refine blk_drewN ?_ _ | refine blk_drew ?_ | refine blk_alloc ?_ _)); exact BK354.out)) : gb355 ≠ gb354)); clear BK354; clear HB; have BK354 := n0_; have HB := n1_; have BK355 := n2_; have GW355 := n3_; have GE355 := n4_; have NB354_355 := n5_; have NB355_354 := n6_; clear n0_ n1_ n2_ n3_ n4_ n5_ n6_; clear hb hbox hg; have hnb5 := NB355_354.out; have hnc5 := NB354_355.out; have hcz6_0 : w4.cell? ⟨gb355, 0, none⟩ = some (.slice A1_0 l1_0.length c1_0) := (blk_cell BK355.out 0).trans rfl; have hcz6_1 : w4.cell? ⟨gb355, 1, none⟩ = some (.int .i64 a1_1) := (blk_cell BK355.out 1).trans rfl; have hfz6_0 := blk_frozen BK355.out 0; have hfz6_1 := blk_frozen BK355.out 1))
 go_loopg [5, 13] k (fun kq v5 v13 w' => ∃ (x5_1 : Int) (x13_1 : Int), v5 = .int .i64 x5_1 ∧ v13 = .int .i64 x13_1 ∧ Aside0 (spec_isCode.l0 kq x5_1 l1_0 (l1_0.length : Int) x13_1 a0_0 a0_1 a0_2 = some r) ∧ Aside0 (kq ≤ k) ∧ Aside0 (w'.heap[gb354]? = some (.cells #[.int .i64 a0_0, .int .i64 a0_1, .int .i64 a0_2] 39 (0, 0))) ∧ Aside0 (w'.heap[gb355]? = some (.cells #[(.slice A1_0 l1_0.length c1_0), .int .i64 a1_1] 64 (0, 0))) ∧ Aside0 (Below w.heap.size w w'))
 case atStart => exact ⟨(a1_1), (0), (by first | rfl | (simp; done) | (simp [*]; done)), (by first | rfl | (simp; done) | (simp [*]; done)), H', ⟨Nat.le_refl _⟩, ⟨by (with_reducible repeat (first | refine blk_drewN ?_ _ | refine blk_drew ?_ | refine blk_alloc ?_ _)); exact BK354.out⟩, ⟨by (with_reducible repeat (first | refine blk_drewN ?_ _ | refine blk_drew ?_ | refine blk_alloc ?_ _)); exact BK355.out⟩, ⟨by repeat (first | (with_reducible first | exact HB.out | apply below_alloc | apply pw_below_drewN | apply below_drew1 | refine below_set ?_ GE354.out | refine below_set ?_ GE355.out) | exact HB.out)⟩⟩
 case round =>
  clear H'
  try clear c1
  try clear p2
  try clear c5
  try clear hcz6_0
  try clear hcz6_1
  try clear hfz6_0
  try clear hfz6_1
  obtain ⟨x5_1, x13_1, rfl, rfl, HA, HK1, BK354, BK355, HB⟩ := hrel
  cases gk with
  | zero => exact absurd HA.out (by simp [spec_isCode.l0])
  | succ k1 =>
   have H := HA.out
   clear HA
   simp only [spec_isCode.l0] at H
   by_cases c7 : x13_1 < (l1_0.length : Int)
   ·rw [if_pos c7] at H
    have c7b0 : decide (x13_1 < (l1_0.length : Int)) = true := decide_eq_true c7
    clear c7
    by_cases c8 : 0 ≤ x13_1
    ·rw [if_pos c8] at H
     have c8b0 : decide (0 ≤ x13_1) = true := decide_eq_true c8
     clear c8
     by_cases c9 : x13_1 < (l1_0.length : Int)
     ·rw [if_pos c9] at H
      have c9b0 : decide (x13_1 < (l1_0.length : Int)) = true := decide_eq_true c9
      clear c9
      have H' := Aside0.mk H
      clear H
      have p356 : 0 ≤ (x13_1 : Int) := of_decide_eq_true (by first | (with_reducible assumption) | assumption)
      have q356 : x13_1 < (l1_0.length : Int) := of_decide_eq_true (by first | (with_reducible assumption) | assumption)
      obtain ⟨ad356, e356, hx356_0⟩ := Kd.at_int HR1_0.out x13_1 p356 q356
      cases e356
      replace hx356_0 := (HB.out.cell (World.block_lt_of_cell? w _ hx356_0)).trans hx356_0
      replace p356 := eq_true p356
      replace q356 := eq_true q356
      have hnb10 := NB354_355.out
      have hnc10 := NB355_354.out
      have hcz11_0 : wr.cell? ⟨gb354, 0, none⟩ = some (.int .i64 a0_0) := (blk_cell BK354.out 0).trans rfl
      have hcz11_1 : wr.cell? ⟨gb354, 1, none⟩ = some (.int .i64 a0_1) := (blk_cell BK354.out 1).trans rfl
      have hcz11_2 : wr.cell? ⟨gb354, 2, none⟩ = some (.int .i64 a0_2) := (blk_cell BK354.out 2).trans rfl
      have hfz11_0 := blk_frozen BK354.out 0
      have hfz11_1 := blk_frozen BK354.out 1
      have hfz11_2 := blk_frozen BK354.out 2
      go_wp2
      go_roundg k1
      case measure => have := HK1.out; omega
      case rel => exact ⟨(wrap64 ((wrap64 (x5_1 * (wrap64 (a0_2 + 2)))) + (rd l1_0 x13_1))), (wrap64 (x13_1 + 1)), (by first | rfl | (simp; done) | (simp [*]; done)), (by first | rfl | (simp; done) | (simp [*]; done)), H', ⟨by have := HK1.out; omega⟩, ⟨by (with_reducible repeat (first | refine blk_drewN ?_ _ | refine blk_drew ?_ | refine blk_alloc ?_ _)); exact BK354.out⟩, ⟨by (with_reducible repeat (first | refine blk_drewN ?_ _ | refine blk_drew ?_ | refine blk_alloc ?_ _)); exact BK355.out⟩, ⟨by repeat (first | (with_reducible first | exact HB.out | apply below_alloc | apply pw_below_drewN | apply below_drew1 | refine below_set ?_ GE354.out | refine below_set ?_ GE355.out) | exact HB.out)⟩⟩
     ·rw [if_neg c9] at H
      exact absurd H (by simp)
    ·rw [if_neg c8] at H
     exact absurd H (by simp)
   ·rw [if_neg c7] at H
    have c7b0 : decide (x13_1 < (l1_0.length : Int)) = false := decide_eq_false c7
    clear c7
    obtain rfl := Option.some.inj H
    go_wp2
    go_ret
    exact ⟨by first | rfl | (simp [errW_none, errW_some] <;> rfl) | (simp [*, errW_none, errW_some] <;> rfl), by repeat (first | (with_reducible first | exact HB.out | apply below_alloc | apply pw_below_drewN | apply below_drew1 | refine below_set ?_ GE354.out | refine below_set ?_ GE355.out) | exact HB.out)⟩
end Go.Proofs.Ytlkjglanglpdoaa.T
namespace Go.Proofs.Ytlkjglanglpdoaa.T
open Go.RowKit Go.Proofs.YtlkjglanglpdoaaW.PrintWords Go.Proofs.YtlkjglanglpdoaaW.PrintLast Go.Proofs.YtlkjglanglpdoaaW.PrintMore
set_option linter.unusedVariables false
set_option linter.unusedSimpArgs false
theorem own_eq (l : List Int) (h : l.length < 17592186044416) : spec_l1Own.f l = some l := by
  unfold spec_l1Own.f
  rw [Option.bind_some, if_pos (by simp; omega)]; rfl
def preL (l : List Int) : List (List Int) := if (l.length : Int) > 0 then [l] else []
theorem paGroups_up (people : List Int) (most : Int) (hp : people.length ≤ 6) (hmost : 1 ≤ most ∧ most ≤ 3) :
    ∀ (d i : Nat), i + d = people.length →
      (∀ (k : Nat) (list : List Int) (out : List (List Int)), 3 * d < k → (list.length : Int) < most → out.length + 2 ^ d ≤ 4096 → spec_paGroups.l0 k people list most out (i : Int) = some (out ++ grp most (people.drop i) list)) ∧
      (∀ (k : Nat) (list : List Int), 3 * d + 2 < k → (list.length : Int) ≤ most → spec_paGroups.f k people list (i : Int) most = some (preL list ++ grp most (people.drop i) list)) := by
  intro d
  induction d with
  | zero =>
    intro i hi
    have hd : people.drop i = [] := List.drop_eq_nil_of_le (by omega)
    have h1 : ∀ (k : Nat) (list : List Int) (out : List (List Int)), 3 * 0 < k → spec_paGroups.l0 k people list most out (i : Int) = some (out ++ grp most (people.drop i) list) := by
      intro k list out hk
      obtain ⟨k, rfl⟩ : ∃ m, k = m + 1 := ⟨k - 1, by omega⟩
      simp only [spec_paGroups.l0]
      rw [if_neg (by omega), hd]; simp [grp]
    refine ⟨fun k list out hk _ _ => h1 k list out hk, fun k list hk hl => ?_⟩
    obtain ⟨k, rfl⟩ : ∃ m, k = m + 2 := ⟨k - 2, by omega⟩
    simp only [spec_paGroups.f, spec_paGroups.j0]
    unfold preL
    by_cases h0 : (list.length : Int) > 0
    · rw [if_pos h0, if_pos h0, own_eq list (by omega)]
      simp only [Option.bind_some]
      rw [if_pos (by simp)]
      by_cases h2 : (list.length : Int) = most
      · rw [if_pos h2, hd]; simp [grp]
      · rw [if_neg h2, h1 k list _ (by omega)]; simp
    · rw [if_neg h0, if_neg h0]
      by_cases h2 : (list.length : Int) = most
      · rw [if_pos h2, hd]; simp [grp]
      · rw [if_neg h2, h1 k list _ (by omega)]
  | succ d ih =>
    intro i hi
    have hlt : i < people.length := by omega
    obtain ⟨ih1, ih2⟩ := ih (i + 1) (by omega)
    have hdr := rd_cons_drop people i hlt
    have h1 : ∀ (k : Nat) (list : List Int) (out : List (List Int)), 3 * (d + 1) < k → (list.length : Int) < most → out.length + 2 ^ (d + 1) ≤ 4096 → spec_paGroups.l0 k people list most out (i : Int) = some (out ++ grp most (people.drop i) list) := by
      intro k list out hk hl ho
      obtain ⟨k, rfl⟩ : ∃ m, k = m + 1 := ⟨k - 1, by omega⟩
      simp only [spec_paGroups.l0]
      rw [if_pos (by omega), own_eq list (by omega), Option.bind_some, if_pos (by omega), Option.bind_some, if_pos (by simp; omega), wrap_up (i : Int) (people.length : Int) (by omega) (by omega) (by omega), show ((i : Int) + 1) = ((i + 1 : Nat) : Int) from by push_cast; rfl]
      rw [ih2 k (list ++ [rd people (i : Int)]) (by omega) (by simp; omega), Option.bind_some]
      have hg := grp_length most (people.drop (i + 1)) (list ++ [rd people (i : Int)])
      have hdl : (people.drop (i + 1)).length = d := by rw [List.length_drop]; omega
      rw [hdl] at hg
      have hpre : preL (list ++ [rd people (i : Int)]) = [list ++ [rd people (i : Int)]] := by unfold preL; rw [if_pos (by simp)]
      rw [hpre]
      have hlen : (out ++ ([list ++ [rd people (i : Int)]] ++ grp most (people.drop (i + 1)) (list ++ [rd people (i : Int)]))).length + 2 ^ d ≤ 4096 := by
        rw [Nat.pow_succ] at ho
        simp only [List.length_append, List.length_singleton]
        omega
      have hlen2 : out.length + ([list ++ [rd people (i : Int)]] ++ grp most (people.drop (i + 1)) (list ++ [rd people (i : Int)])).length < 5864062014805 := by
        rw [List.length_append] at hlen; omega
      rw [if_pos hlen2, ih1 k list _ (by omega) hl hlen, hdr]
      simp only [grp]
      rw [if_pos hl]
      simp
    refine ⟨h1, fun k list hk hl => ?_⟩
    obtain ⟨k, rfl⟩ : ∃ m, k = m + 2 := ⟨k - 2, by omega⟩
    have h2p : 2 ^ (d + 1) ≤ 2 ^ 6 := Nat.pow_le_pow_right (by omega) (by omega)
    simp only [spec_paGroups.f, spec_paGroups.j0]
    unfold preL
    have hfull : (list.length : Int) = most → grp most (people.drop i) list = [] := fun h => grp_full most _ list (by omega)
    by_cases h0 : (list.length : Int) > 0
    · rw [if_pos h0, if_pos h0, own_eq list (by omega)]
      simp only [Option.bind_some]
      rw [if_pos (by simp)]
      by_cases h2 : (list.length : Int) = most
      · rw [if_pos h2, hfull h2]; simp
      · rw [if_neg h2, h1 k list _ (by omega) (by omega) (by simp; omega)]; simp
    · rw [if_neg h0, if_neg h0]
      by_cases h2 : (list.length : Int) = most
      · rw [if_pos h2, hfull h2]; simp
      · rw [if_neg h2, h1 k list _ (by omega) (by omega) (by simp; omega)]
theorem paGroups_eq (people : List Int) (most : Int) (hp : people.length ≤ 6) (hmost : 1 ≤ most ∧ most ≤ 3) (k : Nat) (hk : 20 < k) : spec_paGroups.f k people [] 0 most = some (grp most people []) := by
  have := (paGroups_up people most hp hmost people.length 0 (by omega)).2 k [] (by omega) (by simp; omega)
  rw [show ((0 : Nat) : Int) = 0 from rfl] at this
  rw [this]
  simp [preL]
theorem sail_l0 (tt : Int) (l1 : List Int) (b : Int) (l : List Int) (hl : l.length ≤ 1048576) : ∀ (d k i : Nat) (at_ : List Int), i + d = l.length → d < k → (∀ x ∈ l.drop i, 0 ≤ x ∧ x < (at_.length : Int)) →
    spec_isSail.l0 k l (l.length : Int) (i : Int) tt l1 at_ b = some (gone at_ tt (l.drop i), b) := by
  intro d
  induction d with
  | zero =>
    intro k i at_ hi hk hx
    obtain ⟨k, rfl⟩ : ∃ m, k = m + 1 := ⟨k - 1, by omega⟩
    simp only [spec_isSail.l0]
    rw [if_neg (by omega), List.drop_eq_nil_of_le (by omega)]
    rfl
  | succ d ih =>
    intro k i at_ hi hk hx
    obtain ⟨k, rfl⟩ : ∃ m, k = m + 1 := ⟨k - 1, by omega⟩
    have hlt : i < l.length := by omega
    rw [rd_cons_drop l i hlt] at hx ⊢
    have h0 := hx _ (List.mem_cons_self)
    simp only [spec_isSail.l0]
    rw [if_pos (by omega), if_pos (by omega), if_pos (by omega), if_pos h0.1, if_pos h0.2, wrap_up (i : Int) (l.length : Int) (by omega) (by omega) (by omega)]
    have := ih k (i + 1) (at_.set (rd l (i : Int)).toNat tt) (by omega) (by omega) (fun x hm => by rw [List.length_set]; exact hx x (List.mem_cons_of_mem _ hm))
    rw [show ((i : Int) + 1) = ((i + 1 : Nat) : Int) from by push_cast; rfl, this]
    rfl
theorem sail_eq (at_ : List Int) (b tt : Int) (l : List Int) (ha : at_.length ≤ 1048576) (hl : l.length ≤ 1048576) (hx : ∀ x ∈ l, 0 ≤ x ∧ x < (at_.length : Int)) (k : Nat) (hk : l.length < k) : spec_isSail.f k at_ b tt l = some (gone at_ tt l, tt) := by
  unfold spec_isSail.f
  rw [own_eq at_ (by omega), Option.bind_some]
  have := sail_l0 tt l tt l hl l.length k 0 at_ (by omega) hk (by simpa using hx)
  simpa using this
theorem codeS_l0 (a0 a1 a2 : Int) (h2 : 0 ≤ a2 ∧ a2 ≤ 2) (at_ : List Int) (hl : at_.length ≤ 6) (hx : ∀ x ∈ at_, 0 ≤ x ∧ x ≤ a2 + 1) : ∀ (d k i : Nat) (c : Int), i + d = at_.length → d < k → 0 ≤ c → c < 4 ^ (i + 1) →
    spec_isCode.l0 k c at_ (at_.length : Int) (i : Int) a0 a1 a2 = some (codeB (a2 + 2) (at_.drop i) c) := by
  intro d
  induction d with
  | zero =>
    intro k i c hi hk h0 h1
    obtain ⟨k, rfl⟩ : ∃ m, k = m + 1 := ⟨k - 1, by omega⟩
    simp only [spec_isCode.l0]
    rw [if_neg (by omega), List.drop_eq_nil_of_le (by omega)]; rfl
  | succ d ih =>
    intro k i c hi hk h0 h1
    obtain ⟨k, rfl⟩ : ∃ m, k = m + 1 := ⟨k - 1, by omega⟩
    have hlt : i < at_.length := by omega
    have hr := hx _ (rd_mem at_ i hlt)
    have hp : (4 : Int) ^ (i + 1) ≤ 4 ^ 6 := by
      have : i + 1 ≤ 6 := by omega
      exact_mod_cast Nat.pow_le_pow_right (by omega : 0 < 4) this
    have hp2 : (4 : Int) ^ (i + 1 + 1) = 4 ^ (i + 1) * 4 := by rw [Int.pow_succ]
    have hB : wrap64 (a2 + 2) = a2 + 2 := by unfold wrap64; omega
    have hc : 0 ≤ c * (a2 + 2) ∧ c * (a2 + 2) ≤ c * 4 := ⟨Int.mul_nonneg h0 (by omega), Int.mul_le_mul_of_nonneg_left (by omega) h0⟩
    have hc3 : c * (a2 + 2) + (a2 + 1) < c * 4 + 4 := by omega
    have e : wrap64 (wrap64 (c * wrap64 (a2 + 2)) + rd at_ (i : Int)) = c * (a2 + 2) + rd at_ (i : Int) := by
      rw [hB]
      generalize c * (a2 + 2) = m at hc
      unfold wrap64
      omega
    simp only [spec_isCode.l0]
    rw [if_pos (by omega), if_pos (by omega), if_pos (by omega), e, wrap_up (i : Int) (at_.length : Int) (by omega) (by omega) (by omega)]
    have := ih k (i + 1) (c * (a2 + 2) + rd at_ (i : Int)) (by omega) (by omega) (by omega) (by rw [hp2]; omega)
    rw [show ((i : Int) + 1) = ((i + 1 : Nat) : Int) from by push_cast; rfl, this, rd_cons_drop at_ i hlt]
    rfl
theorem codeS_eq (a0 a1 a2 : Int) (h2 : 0 ≤ a2 ∧ a2 ≤ 2) (at_ : List Int) (b : Int) (hl : at_.length ≤ 6) (hx : ∀ x ∈ at_, 0 ≤ x ∧ x ≤ a2 + 1) (hb : 0 ≤ b ∧ b ≤ a2 + 1) (k : Nat) (hk : at_.length < k) : spec_isCode.f k a0 a1 a2 at_ b = some (codeB (a2 + 2) at_ b) := by
  unfold spec_isCode.f
  have := codeS_l0 a0 a1 a2 h2 at_ hl hx at_.length k 0 b (by omega) hk hb.1 (by simp; omega)
  simpa using this
theorem allS_l0 (a0 a1 a2 p : Int) (h0 : 1 ≤ a0 ∧ a0 ≤ 3) : ∀ (d k : Nat) (l : List Int), l.length + d = (2 * a0).toNat → d < k → l = List.replicate l.length p →
    spec_isAll.l0 k p a0 a1 a2 l p = some (List.replicate (2 * a0).toNat p, p) := by
  intro d
  induction d with
  | zero =>
    intro k l hl hk he
    obtain ⟨k, rfl⟩ : ∃ m, k = m + 1 := ⟨k - 1, by omega⟩
    simp only [spec_isAll.l0]
    rw [if_neg (by unfold wrap64; omega), he]
    simp at hl
    rw [hl]
  | succ d ih =>
    intro k l hl hk he
    obtain ⟨k, rfl⟩ : ∃ m, k = m + 1 := ⟨k - 1, by omega⟩
    simp only [spec_isAll.l0]
    rw [if_pos (by unfold wrap64; omega), if_pos (by omega)]
    refine ih k (l ++ [p]) (by simp; omega) (by omega) ?_
    rw [List.length_append, List.length_singleton, List.replicate_succ', ← he]
theorem allS_eq (a0 a1 a2 p : Int) (h0 : 1 ≤ a0 ∧ a0 ≤ 3) (k : Nat) (hk : 6 < k) : spec_isAll.f k a0 a1 a2 p = some (List.replicate (2 * a0).toNat p, p) := by
  unfold spec_isAll.f
  exact allS_l0 a0 a1 a2 p h0 (2 * a0).toNat k [] (by simp) (by omega) rfl
end Go.Proofs.Ytlkjglanglpdoaa.T
namespace Go.Proofs.Ytlkjglanglpdoaa.T
open Go.RowKit Go.Proofs.YtlkjglanglpdoaaW.PrintWords Go.Proofs.YtlkjglanglpdoaaW.PrintLast Go.Proofs.YtlkjglanglpdoaaW.PrintMore
set_option linter.unusedVariables false
set_option linter.unusedSimpArgs false
def subs : List Int → List (List Int)
  | [] => [[]]
  | x :: xs => subs xs ++ (subs xs).map (fun l => x :: l)
theorem subs_mem {l L : List Int} (h : l.Sublist L) : l ∈ subs L := by
  induction h with
  | slnil => simp [subs]
  | cons a _ ih => exact List.mem_append_left _ ih
  | cons_cons a _ ih => exact List.mem_append_right _ (List.mem_map.2 ⟨_, ih, rfl⟩)
def ups : Int → Nat → List Int
  | _, 0 => []
  | i, n + 1 => i :: ups (i + 1) n
theorem standFrom_sub (p : Int) : ∀ (l : List Int) (i : Int), (standFrom p i l).Sublist (ups i l.length)
  | [], i => List.Sublist.slnil
  | x :: xs, i => by
    unfold standFrom ups
    split
    · exact List.Sublist.cons_cons _ (standFrom_sub p xs (i + 1))
    · exact List.Sublist.cons _ (standFrom_sub p xs (i + 1))
theorem grp_sub (most : Int) : ∀ (p l g : List Int), g ∈ grp most p l → (∃ s, g = l ++ s ∧ s.Sublist p) ∧ (l.length : Int) < g.length ∧ (g.length : Int) ≤ most
  | [], l, g, h => by simp [grp] at h
  | x :: p, l, g, h => by
    simp only [grp] at h
    split at h
    · rename_i hl
      rcases List.mem_cons.1 h with rfl | h
      · exact ⟨⟨[x], rfl, List.Sublist.cons_cons _ (List.nil_sublist _)⟩, by simp; omega, by simp; omega⟩
      · rcases List.mem_append.1 h with h | h
        · obtain ⟨⟨s, rfl, hs⟩, h1, h2⟩ := grp_sub most p _ g h
          exact ⟨⟨x :: s, by simp, List.Sublist.cons_cons _ hs⟩, by simp at h1 ⊢; omega, h2⟩
        · obtain ⟨⟨s, rfl, hs⟩, h1, h2⟩ := grp_sub most p _ g h
          exact ⟨⟨s, rfl, List.Sublist.cons _ hs⟩, h1, h2⟩
    · cases h
theorem standFrom_rd (p : Int) : ∀ (l : List Int) (i : Nat) (x : Int), x ∈ standFrom p (i : Int) l → ∃ j : Nat, x = (i : Int) + j ∧ l[j]? = some p
  | [], i, x, h => by simp [standFrom] at h
  | y :: l, i, x, h => by
    unfold standFrom at h
    have ih : x ∈ standFrom p ((i : Int) + 1) l → ∃ j : Nat, x = (i : Int) + j ∧ (y :: l)[j]? = some p := fun h' => by
      obtain ⟨j, h1, h2⟩ := standFrom_rd p l (i + 1) x (by push_cast; exact h')
      exact ⟨j + 1, by push_cast at h1 ⊢; omega, by simpa using h2⟩
    split at h
    · rename_i he
      rcases List.mem_cons.1 h with rfl | h
      · exact ⟨0, by simp, by simp [he]⟩
      · exact ih h
    · exact ih h
theorem stand_rd {at_ : List Int} {p x : Int} (h : x ∈ stand at_ p) : rd at_ x = p := by
  obtain ⟨j, h1, h2⟩ := standFrom_rd p at_ 0 x h
  unfold rd
  rw [show x.toNat = j from by omega, List.getD_eq_getElem?_getD, h2]; rfl
def bitsFrom (b : Int) (l : List Int) : Int := l.foldl (fun b x => Go.bits .or .i64 b (shl .i64 1 x)) b
theorem cuBits_l0 (l : List Int) (hl : l.length ≤ 1048576) (hx : ∀ x ∈ l, 0 ≤ x) : ∀ (d k i : Nat) (b : Int), i + d = l.length → d < k → spec_cuBits.l0 k b l (l.length : Int) (i : Int) = some (bitsFrom b (l.drop i)) := by
  intro d
  induction d with
  | zero =>
    intro k i b hi hk
    obtain ⟨k, rfl⟩ : ∃ m, k = m + 1 := ⟨k - 1, by omega⟩
    simp only [spec_cuBits.l0]
    rw [if_neg (by omega), List.drop_eq_nil_of_le (by omega)]; rfl
  | succ d ih =>
    intro k i b hi hk
    obtain ⟨k, rfl⟩ : ∃ m, k = m + 1 := ⟨k - 1, by omega⟩
    have hlt : i < l.length := by omega
    simp only [spec_cuBits.l0]
    rw [if_pos (by omega), if_pos (by omega), if_pos (by omega), if_pos (hx _ (rd_mem l i hlt)), wrap_up (i : Int) (l.length : Int) (by omega) (by omega) (by omega), show ((i : Int) + 1) = ((i + 1 : Nat) : Int) from by push_cast; rfl, ih k (i + 1) _ (by omega) (by omega), rd_cons_drop l i hlt]
    rfl
theorem cuBits_eq (l : List Int) (hl : l.length ≤ 1048576) (hx : ∀ x ∈ l, 0 ≤ x) (k : Nat) (hk : l.length < k) : spec_cuBits.f k l = some (bitsFrom 0 l) := by
  unfold spec_cuBits.f
  have := cuBits_l0 l hl hx l.length k 0 0 (by omega) hk
  simpa using this
def calmTry (c : Int) (n : Nat) : Bool := (subs (ups 0 n)).all fun l => spec_cuCalm.f 40 c (bitsFrom 0 l) == some (calmL l)
theorem calmTry1 : calmTry 1 2 = true := by kernel_rfl
theorem calmTry2 : calmTry 2 4 = true := by kernel_rfl
theorem calmTry3 : calmTry 3 6 = true := by kernel_rfl
def riseTry (n : Nat) : Bool := (subs (ups 0 n)).all fun l => spec_l1Rising.f 20 l 0 ((n : Int) - 1) == some true
theorem riseTry1 : riseTry 2 = true := by kernel_rfl
theorem riseTry2 : riseTry 4 = true := by kernel_rfl
theorem riseTry3 : riseTry 6 = true := by kernel_rfl
theorem cuCalm_up (k : Nat) (c b : Int) (r : Bool) (h : spec_cuCalm.f 40 c b = some r) : 40 ≤ k → spec_cuCalm.f k c b = some r := by
  intro hk
  induction k with
  | zero => omega
  | succ k ih =>
    rcases Nat.lt_or_ge k 40 with h1 | h1
    · rw [show k + 1 = 40 from by omega]; exact h
    · exact spec_cuCalm.mono c b k r (ih h1)
theorem rising_up (k : Nat) (l : List Int) (a b : Int) (r : Bool) (h : spec_l1Rising.f 20 l a b = some r) : 20 ≤ k → spec_l1Rising.f k l a b = some r := by
  intro hk
  induction k with
  | zero => omega
  | succ k ih =>
    rcases Nat.lt_or_ge k 20 with h1 | h1
    · rw [show k + 1 = 20 from by omega]; exact h
    · exact spec_l1Rising.mono l a b k r (ih h1)
theorem cuCalm_eq {a0 : Int} (h0 : 1 ≤ a0 ∧ a0 ≤ 3) {l : List Int} (hl : l.Sublist (ups 0 (2 * a0).toNat)) (k : Nat) (hk : 40 ≤ k) : spec_cuCalm.f k a0 (bitsFrom 0 l) = some (calmL l) := by
  refine cuCalm_up k _ _ _ ?_ hk
  have hm := subs_mem hl
  obtain rfl | rfl | rfl : a0 = 1 ∨ a0 = 2 ∨ a0 = 3 := by omega
  · exact beq_iff_eq.1 (List.all_eq_true.1 calmTry1 l hm)
  · exact beq_iff_eq.1 (List.all_eq_true.1 calmTry2 l hm)
  · exact beq_iff_eq.1 (List.all_eq_true.1 calmTry3 l hm)
theorem rising_eq {a0 : Int} (h0 : 1 ≤ a0 ∧ a0 ≤ 3) {l : List Int} (hl : l.Sublist (ups 0 (2 * a0).toNat)) (k : Nat) (hk : 20 ≤ k) : spec_l1Rising.f k l 0 (2 * a0 - 1) = some true := by
  refine rising_up k _ _ _ _ ?_ hk
  have hm := subs_mem hl
  obtain rfl | rfl | rfl : a0 = 1 ∨ a0 = 2 ∨ a0 = 3 := by omega
  · exact beq_iff_eq.1 (List.all_eq_true.1 riseTry1 l hm)
  · exact beq_iff_eq.1 (List.all_eq_true.1 riseTry2 l hm)
  · exact beq_iff_eq.1 (List.all_eq_true.1 riseTry3 l hm)
theorem calmS_l1 (a0 a1 a2 : Int) (h0 : 1 ≤ a0 ∧ a0 ≤ 3) (at_ : List Int) (b p : Int) (hl : at_.length ≤ 6) : ∀ (d k i : Nat) (bits : Int), i + d = at_.length → d + 45 < k →
    ∃ k', k = k' + (d + 1) ∧ spec_isCalm.l1 k p bits at_ (at_.length : Int) (i : Int) a0 a1 a2 at_ b = (spec_cuCalm.f k' a0 (bitsFrom bits (standFrom p (i : Int) (at_.drop i)))).bind fun t283 => (if t283 = true then (spec_isCalm.l0 k' (wrap64 (p + 1)) a0 a1 a2 at_ b) else (some false)) := by
  intro d
  induction d with
  | zero =>
    intro k i bits hi hk
    obtain ⟨k, rfl⟩ : ∃ m, k = m + 1 := ⟨k - 1, by omega⟩
    refine ⟨k, rfl, ?_⟩
    simp only [spec_isCalm.l1]
    rw [if_neg (by omega), List.drop_eq_nil_of_le (by omega)]
    simp only [standFrom, bitsFrom, List.foldl_nil]
  | succ d ih =>
    intro k i bits hi hk
    obtain ⟨k, rfl⟩ : ∃ m, k = m + 1 := ⟨k - 1, by omega⟩
    have hlt : i < at_.length := by omega
    rw [rd_cons_drop at_ i hlt]
    simp only [spec_isCalm.l1]
    rw [if_pos (by omega), if_pos (by omega), if_pos (by omega), wrap_up (i : Int) (at_.length : Int) (by omega) (by omega) (by omega), show ((i : Int) + 1) = ((i + 1 : Nat) : Int) from by push_cast; rfl]
    by_cases he : rd at_ (i : Int) = p
    · obtain ⟨k', hk', h⟩ := ih k (i + 1) (Go.bits .or .i64 bits (shl .i64 1 (i : Int))) (by omega) (by omega)
      refine ⟨k', by omega, ?_⟩
      rw [if_pos he, h]
      simp only [standFrom, if_pos he, bitsFrom, List.foldl_cons]
      push_cast
      rfl
    · obtain ⟨k', hk', h⟩ := ih k (i + 1) bits (by omega) (by omega)
      refine ⟨k', by omega, ?_⟩
      rw [if_neg he, h]
      simp only [standFrom, if_neg he]
      push_cast
      rfl
theorem stand_ups {a0 : Int} {at_ : List Int} (hl : at_.length = (2 * a0).toNat) (p : Int) : (stand at_ p).Sublist (ups 0 (2 * a0).toNat) := by
  rw [← hl]; exact standFrom_sub p at_ 0
theorem calmS_l0 (a0 a1 a2 : Int) (h0 : 1 ≤ a0 ∧ a0 ≤ 3) (h2 : 0 ≤ a2 ∧ a2 ≤ 2) (at_ : List Int) (b : Int) (hl : at_.length = (2 * a0).toNat) : ∀ (d k i : Nat), i + d = (a2 + 2).toNat → 10 * d + 60 < k →
    spec_isCalm.l0 k (i : Int) a0 a1 a2 at_ b = some ((List.range' i d).all fun p => calmL (stand at_ (p : Int))) := by
  intro d
  induction d with
  | zero =>
    intro k i hi hk
    obtain ⟨k, rfl⟩ : ∃ m, k = m + 1 := ⟨k - 1, by omega⟩
    simp only [spec_isCalm.l0]
    rw [if_neg (by unfold wrap64; omega)]; rfl
  | succ d ih =>
    intro k i hi hk
    obtain ⟨k, rfl⟩ : ∃ m, k = m + 1 := ⟨k - 1, by omega⟩
    simp only [spec_isCalm.l0]
    rw [if_pos (by unfold wrap64; omega)]
    obtain ⟨k', hk', h⟩ := calmS_l1 a0 a1 a2 h0 at_ b (i : Int) (by omega) at_.length k 0 0 (by omega) (by omega)
    rw [show ((0 : Nat) : Int) = 0 from rfl, List.drop_zero] at h
    rw [h, show standFrom (i : Int) 0 at_ = stand at_ (i : Int) from rfl, cuCalm_eq h0 (stand_ups hl (i : Int)) k' (by omega), Option.bind_some, List.range'_succ, List.all_cons]
    cases hc : calmL (stand at_ (i : Int))
    · simp
    · rw [if_pos rfl, show wrap64 ((i : Int) + 1) = ((i + 1 : Nat) : Int) from by unfold wrap64; omega, ih k' (i + 1) (by omega) (by omega)]
      simp
theorem calmS_eq (a0 a1 a2 : Int) (h0 : 1 ≤ a0 ∧ a0 ≤ 3) (h2 : 0 ≤ a2 ∧ a2 ≤ 2) (at_ : List Int) (b : Int) (hl : at_.length = (2 * a0).toNat) (k : Nat) (hk : 100 < k) : spec_isCalm.f k a0 a1 a2 at_ b = some (calmAt (a2 + 2).toNat at_) := by
  unfold spec_isCalm.f
  have := calmS_l0 a0 a1 a2 h0 h2 at_ b hl (a2 + 2).toNat k 0 (by omega) (by omega)
  rw [show ((0 : Nat) : Int) = 0 from rfl] at this
  rw [this]
  unfold calmAt
  rw [List.range_eq_range']
end Go.Proofs.Ytlkjglanglpdoaa.T
namespace Go.Proofs.Ytlkjglanglpdoaa.T
open Go.RowKit Go.Proofs.YtlkjglanglpdoaaW.PrintWords Go.Proofs.YtlkjglanglpdoaaW.PrintLast Go.Proofs.YtlkjglanglpdoaaW.PrintMore
set_option linter.unusedVariables false
set_option linter.unusedSimpArgs false
theorem inS_eq (a l h : Int) : spec_l1In.f a l h = some (decide (l ≤ a ∧ a ≤ h)) := by
  unfold spec_l1In.f
  by_cases h1 : l ≤ a
  · rw [if_pos h1]; simp [h1]
  · rw [if_neg h1]; simp [h1]
theorem ups_mem : ∀ (n : Nat) (i x : Int), x ∈ ups i n → i ≤ x ∧ x < i + n
  | 0, i, x, h => by simp [ups] at h
  | n + 1, i, x, h => by
    simp only [ups] at h
    rcases List.mem_cons.1 h with rfl | h
    · omega
    · have := ups_mem n (i + 1) x h; omega
theorem ups_length : ∀ (n : Nat) (i : Int), (ups i n).length = n
  | 0, _ => rfl
  | n + 1, i => by simp [ups, ups_length n]
theorem can_l0 (a0 a1 a2 : Int) (h0 : 1 ≤ a0 ∧ a0 ≤ 3) (h2 : 0 ≤ a2 ∧ a2 ≤ 2) (at_ : List Int) (b tt : Int) (hl : at_.length = (2 * a0).toNat) (l : List Int) (hs : l.Sublist (ups 0 (2 * a0).toNat)) (hb : ∀ x ∈ l, rd at_ x = b) :
    ∀ (d k i : Nat), i + d = l.length → d + 200 < k →
      spec_isCan.l0 k l (l.length : Int) (i : Int) a0 a1 a2 at_ b tt l = some (calmL l && calmAt (a2 + 2).toNat (gone at_ tt l)) := by
  have hx : ∀ x ∈ l, 0 ≤ x ∧ x < (at_.length : Int) := fun x hm => by
    have := ups_mem _ _ _ (hs.subset hm); omega
  have hll : l.length ≤ 6 := by have := hs.length_le; rw [ups_length] at this; omega
  intro d
  induction d with
  | zero =>
    intro k i hi hk
    obtain ⟨k, rfl⟩ : ∃ m, k = m + 1 := ⟨k - 1, by omega⟩
    simp only [spec_isCan.l0]
    rw [if_neg (by omega), cuBits_eq l (by omega) (fun x hm => (hx x hm).1) k (by omega), Option.bind_some, cuCalm_eq h0 hs k (by omega), Option.bind_some]
    cases hc : calmL l
    · simp
    · rw [if_pos rfl, sail_eq at_ b tt l (by omega) (by omega) hx k (by omega), Option.bind_some]
      show (spec_isCalm.f k a0 a1 a2 (gone at_ tt l) tt).bind _ = _
      rw [calmS_eq a0 a1 a2 h0 h2 _ tt (by rw [gone_length]; exact hl) k (by omega)]
      simp
  | succ d ih =>
    intro k i hi hk
    obtain ⟨k, rfl⟩ : ∃ m, k = m + 1 := ⟨k - 1, by omega⟩
    have hlt : i < l.length := by omega
    have hm := rd_mem l i hlt
    have h1 := hx _ hm
    simp only [spec_isCan.l0]
    rw [if_pos (by omega), if_pos (by omega), if_pos (by omega), if_pos h1.1, if_pos h1.2, if_pos (hb _ hm), wrap_up (i : Int) (l.length : Int) (by omega) (by omega) (by omega), show ((i : Int) + 1) = ((i + 1 : Nat) : Int) from by push_cast; rfl]
    exact ih k (i + 1) (by omega) (by omega)
theorem can_eq (a0 a1 a2 : Int) (h0 : 1 ≤ a0 ∧ a0 ≤ 3) (h2 : 0 ≤ a2 ∧ a2 ≤ 2) (at_ : List Int) (b : Int) (hl : at_.length = (2 * a0).toNat) (tt : Int) (ht : 0 ≤ tt ∧ tt ≤ a2 + 1) (l : List Int) (hg : l ∈ grp a1 (stand at_ b) []) (k : Nat) (hk : 300 < k) :
    spec_isCan.f k a0 a1 a2 at_ b tt l = some (!(decide (tt = b)) && mayGo (a2 + 2).toNat at_ tt l) := by
  obtain ⟨⟨s, he, hs⟩, h1, h3⟩ := grp_sub a1 _ _ _ hg
  rw [List.nil_append] at he
  subst he
  have hs2 := hs.trans (stand_ups hl b)
  obtain ⟨k, rfl⟩ : ∃ m, k = m + 1 := ⟨k - 1, by omega⟩
  unfold spec_isCan.f
  rw [inS_eq, Option.bind_some, decide_eq_true (by unfold wrap64; omega), if_pos rfl]
  by_cases hb : tt = b
  · rw [if_pos hb]
    simp [spec_isCan.j0, hb]
  · rw [if_neg hb, inS_eq, Option.bind_some, decide_eq_true (by simp at h1; omega), if_pos rfl]
    have hr := rising_eq h0 hs2 (k + 1) (by omega)
    rw [show wrap64 ((at_.length : Int) - 1) = 2 * a0 - 1 from by unfold wrap64; omega, hr, Option.bind_some]
    simp only [spec_isCan.j0, Bool.not_true]
    rw [if_neg (by decide)]
    have := can_l0 a0 a1 a2 h0 h2 at_ b tt hl l hs2 (fun x hx => stand_rd (hs.subset hx)) l.length k 0 (by omega) (by have := hs2.length_le; rw [ups_length] at this; omega)
    rw [show ((0 : Nat) : Int) = 0 from rfl] at this
    rw [this]
    simp [hb, mayGo]
theorem rd_L2_drop (l : List (List Int)) (i : Nat) (h : i < l.length) : l.drop i = rd_L2 l (i : Int) :: l.drop (i + 1) := by
  unfold rd_L2
  rw [Int.toNat_natCast, List.getD_eq_getElem?_getD, List.getElem?_eq_getElem h]
  exact (List.getElem_cons_drop h).symm
theorem voyS_l2 (a0 a1 a2 : Int) (h0 : 1 ≤ a0 ∧ a0 ≤ 3) (h2 : 0 ≤ a2 ∧ a2 ≤ 2) (at_ : List Int) (b : Int) (hl : at_.length = (2 * a0).toNat) (tt : Int) (ht : 0 ≤ tt ∧ tt ≤ a2 + 1) (people : List Int) (hg2 : (grp a1 (stand at_ b) []).length ≤ 64) :
    ∀ (d k i : Nat) (out : List S66), i + d = (grp a1 (stand at_ b) []).length → d + 400 < k → out.length + d ≤ 100000 →
      ∃ k', k = k' + (d + 1) ∧ spec_isVoyages.l2 k people out tt (grp a1 (stand at_ b) []) ((grp a1 (stand at_ b) []).length : Int) (i : Int) a0 a1 a2 at_ b =
        spec_isVoyages.l1 k' people (out ++ (if tt = b then [] else voyTo (a2 + 2).toNat at_ tt ((grp a1 (stand at_ b) []).drop i))) (wrap64 (tt + 1)) a0 a1 a2 at_ b := by
  intro d
  induction d with
  | zero =>
    intro k i out hi hk ho
    obtain ⟨k, rfl⟩ : ∃ m, k = m + 1 := ⟨k - 1, by omega⟩
    refine ⟨k, rfl, ?_⟩
    simp only [spec_isVoyages.l2]
    rw [if_neg (by omega), List.drop_eq_nil_of_le (by omega)]
    simp [voyTo]
  | succ d ih =>
    intro k i out hi hk ho
    obtain ⟨k, rfl⟩ : ∃ m, k = m + 1 := ⟨k - 1, by omega⟩
    have hlt : i < (grp a1 (stand at_ b) []).length := by omega
    have hm : rd_L2 (grp a1 (stand at_ b) []) (i : Int) ∈ grp a1 (stand at_ b) [] := by
      unfold rd_L2; rw [Int.toNat_natCast, List.getD_eq_getElem?_getD, List.getElem?_eq_getElem hlt]; exact List.getElem_mem _
    simp only [spec_isVoyages.l2]
    rw [if_pos (by omega), if_pos (by omega), if_pos (by omega), can_eq a0 a1 a2 h0 h2 at_ b hl tt ht _ hm k (by omega), Option.bind_some, wrap_up (i : Int) ((grp a1 (stand at_ b) []).length : Int) (by omega) (by omega) (by omega), show ((i : Int) + 1) = ((i + 1 : Nat) : Int) from by push_cast; rfl, rd_L2_drop _ i hlt]
    by_cases hb : tt = b
    · obtain ⟨k', hk', h⟩ := ih k (i + 1) out (by omega) (by omega) (by omega)
      refine ⟨k', by omega, ?_⟩
      rw [if_neg (by simp [hb]), h, if_pos hb, if_pos hb]
    · by_cases hgo : mayGo (a2 + 2).toNat at_ tt (rd_L2 (grp a1 (stand at_ b) []) (i : Int)) = true
      · obtain ⟨k', hk', h⟩ := ih k (i + 1) (out ++ [⟨tt, rd_L2 (grp a1 (stand at_ b) []) (i : Int)⟩]) (by omega) (by omega) (by simp; omega)
        refine ⟨k', by omega, ?_⟩
        rw [if_pos (by simp [hb, hgo]), if_pos (by omega), h, if_neg hb, if_neg hb]
        congr 1
        unfold voyTo
        rw [List.filter_cons_of_pos hgo]
        simp
      · obtain ⟨k', hk', h⟩ := ih k (i + 1) out (by omega) (by omega) (by omega)
        refine ⟨k', by omega, ?_⟩
        rw [if_neg (by simp [hb, hgo]), h, if_neg hb, if_neg hb]
        congr 1
        unfold voyTo
        rw [List.filter_cons_of_neg hgo]
theorem grp_small {a1 : Int} {at_ : List Int} (b : Int) (hl : at_.length ≤ 6) : (stand at_ b).length ≤ 6 ∧ (grp a1 (stand at_ b) []).length ≤ 64 := by
  have h1 : (stand at_ b).length ≤ 6 := Nat.le_trans (standFrom_length b at_ 0) hl
  have h2 := grp_length a1 (stand at_ b) []
  have h4 : 2 ^ (stand at_ b).length ≤ 2 ^ 6 := Nat.pow_le_pow_right (by omega) h1
  exact ⟨h1, by omega⟩
theorem voyS_l1 (a0 a1 a2 : Int) (h0 : 1 ≤ a0 ∧ a0 ≤ 3) (h1 : 1 ≤ a1 ∧ a1 ≤ 3) (h2 : 0 ≤ a2 ∧ a2 ≤ 2) (at_ : List Int) (b : Int) (hl : at_.length = (2 * a0).toNat) :
    ∀ (d k i : Nat) (out : List S66), i + d = (a2 + 2).toNat → 100 * d + 600 < k → out.length ≤ 64 * i →
      spec_isVoyages.l1 k (stand at_ b) out (i : Int) a0 a1 a2 at_ b = some (out ++ (List.range' i d).flatMap (voyRow (a2 + 2).toNat a1 at_ b)) := by
  obtain ⟨hs1, hs2⟩ := grp_small (a1 := a1) b (show at_.length ≤ 6 by omega)
  intro d
  induction d with
  | zero =>
    intro k i out hi hk ho
    obtain ⟨k, rfl⟩ : ∃ m, k = m + 1 := ⟨k - 1, by omega⟩
    simp only [spec_isVoyages.l1]
    rw [if_neg (by unfold wrap64; omega)]
    simp
  | succ d ih =>
    intro k i out hi hk ho
    obtain ⟨k, rfl⟩ : ∃ m, k = m + 1 := ⟨k - 1, by omega⟩
    simp only [spec_isVoyages.l1]
    rw [if_pos (by unfold wrap64; omega), paGroups_eq (stand at_ b) a1 hs1 h1 k (by omega), Option.bind_some]
    obtain ⟨k', hk', h⟩ := voyS_l2 (a1 := a1) a0 a2 h0 h2 at_ b hl (i : Int) (by omega) (stand at_ b) hs2 (grp a1 (stand at_ b) []).length k 0 out (by omega) (by omega) (by omega)
    rw [show ((0 : Nat) : Int) = 0 from rfl, List.drop_zero] at h
    rw [h, show wrap64 ((i : Int) + 1) = ((i + 1 : Nat) : Int) from by unfold wrap64; omega]
    have hr := voyRow_length (a2 + 2).toNat a1 at_ b i (by omega)
    rw [show (if (i : Int) = b then [] else voyTo (a2 + 2).toNat at_ (i : Int) (grp a1 (stand at_ b) [])) = voyRow (a2 + 2).toNat a1 at_ b i from rfl]
    rw [ih k' (i + 1) _ (by omega) (by omega) (by rw [List.length_append]; omega), List.range'_succ, List.flatMap_cons, List.append_assoc]
theorem voyS_l0 (a0 a1 a2 : Int) (at_ : List Int) (b : Int) (hl : at_.length ≤ 6) : ∀ (d k i : Nat) (out : List Int), i + d = at_.length → d < k → out.length ≤ i →
    ∃ k', k = k' + (d + 1) ∧ spec_isVoyages.l0 k out at_ (at_.length : Int) (i : Int) a0 a1 a2 at_ b = spec_isVoyages.l1 k' (out ++ standFrom b (i : Int) (at_.drop i)) [] 0 a0 a1 a2 at_ b := by
  intro d
  induction d with
  | zero =>
    intro k i out hi hk ho
    obtain ⟨k, rfl⟩ : ∃ m, k = m + 1 := ⟨k - 1, by omega⟩
    refine ⟨k, rfl, ?_⟩
    simp only [spec_isVoyages.l0]
    rw [if_neg (by omega), List.drop_eq_nil_of_le (by omega)]
    simp [standFrom]
  | succ d ih =>
    intro k i out hi hk ho
    obtain ⟨k, rfl⟩ : ∃ m, k = m + 1 := ⟨k - 1, by omega⟩
    have hlt : i < at_.length := by omega
    simp only [spec_isVoyages.l0]
    rw [if_pos (by omega), if_pos (by omega), if_pos (by omega), rd_cons_drop at_ i hlt, wrap_up (i : Int) (at_.length : Int) (by omega) (by omega) (by omega), show ((i : Int) + 1) = ((i + 1 : Nat) : Int) from by push_cast; rfl]
    by_cases he : rd at_ (i : Int) = b
    · obtain ⟨k', hk', h⟩ := ih k (i + 1) (out ++ [(i : Int)]) (by omega) (by omega) (by simp; omega)
      refine ⟨k', by omega, ?_⟩
      rw [if_pos he, if_pos (by omega), h]
      simp only [standFrom, if_pos he]
      push_cast
      simp
    · obtain ⟨k', hk', h⟩ := ih k (i + 1) out (by omega) (by omega) (by omega)
      refine ⟨k', by omega, ?_⟩
      rw [if_neg he, h]
      simp only [standFrom, if_neg he]
      push_cast
      rfl
theorem voyS_eq (a0 a1 a2 : Int) (h0 : 1 ≤ a0 ∧ a0 ≤ 3) (h1 : 1 ≤ a1 ∧ a1 ≤ 3) (h2 : 0 ≤ a2 ∧ a2 ≤ 2) (at_ : List Int) (b : Int) (hl : at_.length = (2 * a0).toNat) (k : Nat) (hk : 1100 < k) :
    spec_isVoyages.f k a0 a1 a2 at_ b = some (voyL a1 a2 at_ b) := by
  unfold spec_isVoyages.f
  obtain ⟨k', hk', h⟩ := voyS_l0 a0 a1 a2 at_ b (by omega) at_.length k 0 [] (by omega) (by omega) (by simp)
  rw [show ((0 : Nat) : Int) = 0 from rfl, List.drop_zero, List.nil_append] at h
  have h4 := voyS_l1 a0 a1 a2 h0 h1 h2 at_ b hl (a2 + 2).toNat k' 0 [] (by omega) (by omega) (by simp)
  rw [show ((0 : Nat) : Int) = 0 from rfl, List.nil_append] at h4
  rw [h, show standFrom b 0 at_ = stand at_ b from rfl, h4]
  unfold voyL voyUp
  rw [List.range_eq_range']
end Go.Proofs.Ytlkjglanglpdoaa.T
namespace Go.Proofs.Ytlkjglanglpdoaa.T
open Go.RowKit Go.Proofs.YtlkjglanglpdoaaW.PrintWords Go.Proofs.YtlkjglanglpdoaaW.PrintLast Go.Proofs.YtlkjglanglpdoaaW.PrintMore
set_option linter.unusedVariables false
set_option linter.unusedSimpArgs false
def GoodS (a0 a2 : Int) (s : S64) : Prop := PlOk (2 * a0).toNat (a2 + 1) s.f0 s.f1 ∧ calmAt (a2 + 2).toNat s.f0 = true
def cdS (a2 : Int) (s : S64) : Nat := (codeB (a2 + 2) s.f0 s.f1).toNat
def nextS (a1 a2 : Int) (s : S64) : List S64 := (voyL a1 a2 s.f0 s.f1).map fun v => ⟨gone s.f0 v.f0 v.f1, v.f0⟩
def sizeS (a0 a2 : Int) : Nat := (a2 + 2).toNat ^ ((2 * a0).toNat + 1)
theorem cdS_code {a0 a2 : Int} (h2 : 0 ≤ a2) {s : S64} (h : GoodS a0 a2 s) : codeB (a2 + 2) s.f0 s.f1 = (cdS a2 s : Int) ∧ cdS a2 s < sizeS a0 a2 := by
  have h1 := codeB_nonneg (a2 + 2) (by omega) s.f0 s.f1 h.1.boat.1 (fun x hx => (h.1.ats x hx).1)
  have h3 := codeB_lt (a2 + 2) (by omega) s.f0 s.f1 1 h.1.boat.1 (by have := h.1.boat; rw [Int.pow_succ, Int.pow_zero]; omega) (fun x hx => by have := h.1.ats x hx; omega)
  rw [h.1.len, Nat.add_comm 1] at h3
  have h4 : ((a2 + 2).toNat : Int) = a2 + 2 := by omega
  have h5 : (sizeS a0 a2 : Int) = (a2 + 2) ^ ((2 * a0).toNat + 1) := by unfold sizeS; push_cast; rw [h4]
  unfold cdS
  omega
theorem cdS_inj {a0 a2 : Int} (h2 : 0 ≤ a2) {s t : S64} (h : GoodS a0 a2 s) (h' : GoodS a0 a2 t) (e : cdS a2 s = cdS a2 t) : s = t := by
  have e1 := (cdS_code h2 h).1
  have e2 := (cdS_code h2 h').1
  obtain ⟨h3, h4⟩ := codeB_inj (a2 + 2) (by omega) _ s.f0 t.f0 s.f1 t.f1 h.1.len h'.1.len (fun x hx => by have := h.1.ats x hx; omega) (fun x hx => by have := h'.1.ats x hx; omega) h.1.boat.1 h'.1.boat.1 (by rw [e1, e2, e])
  cases s; cases t
  simp at h3 h4
  rw [h3, h4]
theorem next_good {a0 a1 a2 : Int} (h2 : 0 ≤ a2) {s t : S64} (h : GoodS a0 a2 s) (ht : t ∈ nextS a1 a2 s) : GoodS a0 a2 t := by
  obtain ⟨v, hv, rfl⟩ := List.mem_map.1 ht
  have := voy_ok h2 h.1 hv
  exact ⟨this.2.2.2.2, this.2.2.2.1⟩
open Classical in
noncomputable def EB (a0 a1 a2 : Int) (c : Nat) : List (Nat × Nat) := if h : ∃ s, GoodS a0 a2 s ∧ cdS a2 s = c then (nextS a1 a2 (Classical.choose h)).map (fun t => (cdS a2 t, 1)) else []
theorem EB_eq {a0 a1 a2 : Int} (h2 : 0 ≤ a2) {s : S64} (h : GoodS a0 a2 s) : EB a0 a1 a2 (cdS a2 s) = (nextS a1 a2 s).map (fun t => (cdS a2 t, 1)) := by
  have hex : ∃ t, GoodS a0 a2 t ∧ cdS a2 t = cdS a2 s := ⟨s, h, rfl⟩
  unfold EB
  rw [dif_pos hex]
  have hc := Classical.choose_spec hex
  rw [cdS_inj h2 hc.1 h hc.2]
theorem EB_mem {a0 a1 a2 : Int} (h2 : 0 ≤ a2) {c t k : Nat} (h : (t, k) ∈ EB a0 a1 a2 c) : ∃ s u, GoodS a0 a2 s ∧ cdS a2 s = c ∧ u ∈ nextS a1 a2 s ∧ cdS a2 u = t ∧ k = 1 := by
  unfold EB at h
  split at h
  · rename_i hex
    obtain ⟨u, hu, e⟩ := List.mem_map.1 h
    have hc := Classical.choose_spec hex
    have := Prod.mk.inj e
    exact ⟨_, u, hc.1, hc.2, hu, this.1, this.2.symm⟩
  · cases h
structure Bfs (a0 a1 a2 : Int) (start : S64) (far : List Int) (q : List S64) (i m : Nat) : Prop where
  len : far.length = sizeS a0 a2
  good : ∀ p ∈ q, GoodS a0 a2 p
  nodup : (q.map (cdS a2)).Nodup
  told : ∀ c : Nat, c < sizeS a0 a2 → (0 ≤ rd far c ↔ c ∈ q.map (cdS a2))
  none : ∀ c : Nat, c < sizeS a0 a2 → rd far c < 0 → rd far c = -1
  first : start ∈ q ∧ rd far (cdS a2 start) = 0
  sorted : ∀ j j' : Nat, j ≤ j' → j' < q.length → rd far (cdS a2 (rd_T64 q j)) ≤ rd far (cdS a2 (rd_T64 q j'))
  top : i < q.length → ∀ j : Nat, j < q.length → rd far (cdS a2 (rd_T64 q j)) ≤ rd far (cdS a2 (rd_T64 q i)) + 1
  deep : ∀ j : Nat, j < q.length → rd far (cdS a2 (rd_T64 q j)) ≤ j
  ways : ∀ p ∈ q, Way (EB a0 a1 a2) (cdS a2 start) (cdS a2 p) (rd far (cdS a2 p)).toNat
  closed : ∀ j : Nat, j < i → j < q.length → ∀ t ∈ nextS a1 a2 (rd_T64 q j), 0 ≤ rd far (cdS a2 t) ∧ rd far (cdS a2 t) ≤ rd far (cdS a2 (rd_T64 q j)) + 1
  part : i < q.length → ∀ t ∈ (nextS a1 a2 (rd_T64 q i)).take m, 0 ≤ rd far (cdS a2 t) ∧ rd far (cdS a2 t) ≤ rd far (cdS a2 (rd_T64 q i)) + 1
theorem nodup_le : ∀ (n : Nat) (l : List Nat), l.Nodup → (∀ c ∈ l, c < n) → l.length ≤ n := by
  intro n
  induction n with
  | zero =>
    intro l _ h
    cases l with
    | nil => simp
    | cons x l => exact absurd (h x List.mem_cons_self) (by omega)
  | succ n ih =>
    intro l hn h
    by_cases hm : n ∈ l
    · have h1 := ih (l.erase n) (hn.erase n) (fun c hc => by
        have h2 := (hn.mem_erase_iff).1 hc
        have := h c h2.2
        have := h2.1
        omega)
      rw [List.length_erase_of_mem hm] at h1
      omega
    · have := ih l hn (fun c hc => by
        have := h c hc
        have : c ≠ n := fun e => hm (e ▸ hc)
        omega)
      omega
section
variable {a0 a1 a2 : Int} {start : S64} {far : List Int} {q : List S64} {i m : Nat}
theorem rd_T64_lt (q : List S64) (j : Nat) (h : j < q.length) : rd_T64 q (j : Int) = q[j] := by
  unfold rd_T64; rw [Int.toNat_natCast, List.getD_eq_getElem?_getD, List.getElem?_eq_getElem h]; rfl
theorem rd_T64_mem (q : List S64) (j : Nat) (h : j < q.length) : rd_T64 q (j : Int) ∈ q := by rw [rd_T64_lt q j h]; exact List.getElem_mem _
theorem rd_T64_app (q : List S64) (t : S64) (j : Nat) (h : j < q.length) : rd_T64 (q ++ [t]) (j : Int) = rd_T64 q (j : Int) := by
  rw [rd_T64_lt q j h, rd_T64_lt _ j (by simp; omega), List.getElem_append_left h]
theorem rd_T64_end (q : List S64) (t : S64) : rd_T64 (q ++ [t]) (q.length : Int) = t := by
  rw [rd_T64_lt _ _ (by simp)]; simp
theorem Bfs.small (h : Bfs a0 a1 a2 start far q i m) (h2 : 0 ≤ a2) : q.length ≤ sizeS a0 a2 := by
  have hsub : ∀ c ∈ q.map (cdS a2), c ∈ List.range (sizeS a0 a2) := fun c hc => by
    obtain ⟨p, hp, rfl⟩ := List.mem_map.1 hc
    exact List.mem_range.2 (cdS_code h2 (h.good p hp)).2
  have := nodup_le (sizeS a0 a2) (q.map (cdS a2)) h.nodup (fun c hc => List.mem_range.1 (hsub c hc))
  simpa using this
theorem Bfs.ends (h : Bfs a0 a1 a2 start far q i m) (h2 : 0 ≤ a2) (hi : q.length ≤ i) : ∀ c : Nat, c < sizeS a0 a2 → rd far c = least (EB a0 a1 a2) (cdS a2 start) c := by
  have key := least_of_closed (E := EB a0 a1 a2) (a := cdS a2 start) (fun c => if c < sizeS a0 a2 then rd far c else -1)
    (by
      rw [if_pos (cdS_code h2 (h.good _ h.first.1)).2]; exact h.first.2)
    (fun c hc => by
      by_cases hlt : c < sizeS a0 a2
      · simp only [if_pos hlt] at hc ⊢
        obtain ⟨p, hp, rfl⟩ := List.mem_map.1 ((h.told c hlt).1 hc)
        exact h.ways p hp
      · simp only [if_neg hlt] at hc; omega)
    (fun c hc => by
      by_cases hlt : c < sizeS a0 a2
      · simp only [if_pos hlt] at hc ⊢
        exact h.none c hlt hc
      · simp only [if_neg hlt])
    (fun c hc t k hm => by
      by_cases hlt : c < sizeS a0 a2
      · simp only [if_pos hlt] at hc
        obtain ⟨p, hp, rfl⟩ := List.mem_map.1 ((h.told c hlt).1 hc)
        rw [EB_eq h2 (h.good p hp)] at hm
        obtain ⟨u, hu, e⟩ := List.mem_map.1 hm
        obtain ⟨rfl, rfl⟩ := Prod.mk.inj e
        have hgu := next_good h2 (h.good p hp) hu
        obtain ⟨j, hj, rfl⟩ := List.getElem_of_mem hp
        have hcl := h.closed j (by omega) hj u (by rw [rd_T64_lt q j hj]; exact hu)
        rw [rd_T64_lt q j hj] at hcl
        simp only [if_pos hlt, if_pos (cdS_code h2 hgu).2]
        exact hcl
      · simp only [if_neg hlt] at hc; omega)
  intro c hc
  have := key c
  simp only [if_pos hc] at this
  exact this
theorem Bfs.begins (h2 : 0 ≤ a2) (hs : GoodS a0 a2 start) : Bfs a0 a1 a2 start ((List.replicate (sizeS a0 a2) (-1)).set (cdS a2 start) 0) [start] 0 0 := by
  have hlt := (cdS_code h2 hs).2
  have hr : ∀ c : Nat, c < sizeS a0 a2 → rd ((List.replicate (sizeS a0 a2) (-1)).set (cdS a2 start) 0) c = if cdS a2 start = c then 0 else -1 := by
    intro c hc
    rw [rd_set _ _ _ _ (by simp; exact hlt)]
    split
    · rfl
    · rw [rd_nat _ _ (by simp; exact hc)]; simp
  have h0 := hr _ hlt
  rw [if_pos rfl] at h0
  have hat : ∀ j : Nat, j < [start].length → rd_T64 [start] (j : Int) = start := fun j hj => by
    have : j = 0 := by simpa using hj
    subst this; rfl
  refine ⟨by simp, by simp; exact hs, by simp, ?_, ?_, ⟨by simp, h0⟩, ?_, ?_, ?_, ?_, ?_, ?_⟩
  · intro c hc
    rw [hr c hc]
    split
    · rename_i e; simp [e]
    · rename_i e; simp; exact fun e' => e e'.symm
  · intro c hc hn
    rw [hr c hc] at hn ⊢
    split
    · rename_i e; rw [if_pos e] at hn; omega
    · rfl
  · intro j j' hj hj'
    rw [hat j (by omega), hat j' hj']; exact Int.le_refl _
  · intro hi j hj
    rw [hat j hj, hat 0 hi]; omega
  · intro j hj
    rw [hat j hj, h0]; omega
  · intro p hp
    have : p = start := by simpa using hp
    subst this
    rw [h0]; exact .nil _
  · intro j hj; omega
  · intro hi t ht; simp at ht
theorem Bfs.seen (h : Bfs a0 a1 a2 start far q i m) (h2 : 0 ≤ a2) (hi : i < q.length) {t : S64} (ht : (nextS a1 a2 (rd_T64 q i))[m]? = some t) (hk : 0 ≤ rd far (cdS a2 t)) : Bfs a0 a1 a2 start far q i (m + 1) := by
  refine { h with part := fun hi' u hu => ?_ }
  rw [List.take_add_one, ht] at hu
  rcases List.mem_append.1 hu with hu | hu
  · exact h.part hi' u hu
  · have hu : u = t := by simpa using hu
    subst hu
    have hg := next_good h2 (h.good _ (rd_T64_mem q i hi)) (List.mem_of_getElem? ht)
    obtain ⟨p, hp, e⟩ := List.mem_map.1 ((h.told _ (cdS_code h2 hg).2).1 hk)
    obtain ⟨j, hj, rfl⟩ := List.getElem_of_mem hp
    have := h.top hi j hj
    rw [rd_T64_lt q j hj, e] at this
    exact ⟨hk, this⟩
theorem Bfs.push (h : Bfs a0 a1 a2 start far q i m) (h2 : 0 ≤ a2) (hi : i < q.length) {t : S64} (ht : (nextS a1 a2 (rd_T64 q i))[m]? = some t) (hk : rd far (cdS a2 t) < 0) :
    Bfs a0 a1 a2 start (far.set (cdS a2 t) (rd far (cdS a2 (rd_T64 q i)) + 1)) (q ++ [t]) i (m + 1) := by
  have hx := rd_T64_mem q i hi
  have hgx := h.good _ hx
  have hgt := next_good h2 hgx (List.mem_of_getElem? ht)
  have hct := (cdS_code h2 hgt).2
  have hcx := (cdS_code h2 hgx).2
  have hx0 : 0 ≤ rd far (cdS a2 (rd_T64 q i)) := (h.told _ hcx).2 (List.mem_map.2 ⟨_, hx, rfl⟩)
  have hset : ∀ c : Nat, rd (far.set (cdS a2 t) (rd far (cdS a2 (rd_T64 q i)) + 1)) c = if cdS a2 t = c then rd far (cdS a2 (rd_T64 q i)) + 1 else rd far c := fun c => rd_set _ _ _ _ (by rw [h.len]; exact hct)
  have hsame : ∀ c : Nat, 0 ≤ rd far c → rd (far.set (cdS a2 t) (rd far (cdS a2 (rd_T64 q i)) + 1)) c = rd far c := fun c hc => by
    rw [hset, if_neg (fun e => by rw [e] at hk; omega)]
  have hold : ∀ p ∈ q, rd (far.set (cdS a2 t) (rd far (cdS a2 (rd_T64 q i)) + 1)) (cdS a2 p) = rd far (cdS a2 p) := fun p hp => hsame _ ((h.told _ (cdS_code h2 (h.good p hp)).2).2 (List.mem_map.2 ⟨p, hp, rfl⟩))
  have hnew : rd (far.set (cdS a2 t) (rd far (cdS a2 (rd_T64 q i)) + 1)) (cdS a2 t) = rd far (cdS a2 (rd_T64 q i)) + 1 := by rw [hset, if_pos rfl]
  have hat : ∀ j : Nat, j < q.length → rd (far.set (cdS a2 t) (rd far (cdS a2 (rd_T64 q i)) + 1)) (cdS a2 (rd_T64 (q ++ [t]) j)) = rd far (cdS a2 (rd_T64 q j)) := fun j hj => by
    rw [rd_T64_app q t j hj]; exact hold _ (rd_T64_mem q j hj)
  have hend : rd (far.set (cdS a2 t) (rd far (cdS a2 (rd_T64 q i)) + 1)) (cdS a2 (rd_T64 (q ++ [t]) (q.length : Int))) = rd far (cdS a2 (rd_T64 q i)) + 1 := by rw [rd_T64_end]; exact hnew
  refine ⟨by rw [List.length_set]; exact h.len, ?_, ?_, ?_, ?_, ⟨List.mem_append_left _ h.first.1, by rw [hold _ h.first.1]; exact h.first.2⟩, ?_, ?_, ?_, ?_, ?_, ?_⟩
  · intro p hp
    rcases List.mem_append.1 hp with hp | hp
    · exact h.good p hp
    · rw [List.mem_singleton.1 hp]; exact hgt
  · rw [List.map_append, List.nodup_append]
    refine ⟨h.nodup, by simp, fun a ha b hb e => ?_⟩
    have hb : b = cdS a2 t := by simpa using hb
    subst hb
    rw [e] at ha
    have := (h.told _ hct).2 ha
    omega
  · intro c hc
    rw [hset]
    by_cases e : cdS a2 t = c
    · rw [if_pos e]; simp [e]; omega
    · rw [if_neg e, h.told c hc]; simp; intro e'; exact absurd e'.symm e
  · intro c hc hn
    rw [hset] at hn ⊢
    by_cases e : cdS a2 t = c
    · rw [if_pos e] at hn; omega
    · rw [if_neg e] at hn ⊢; exact h.none c hc hn
  · intro j j' hj hj'
    rw [List.length_append, List.length_singleton] at hj'
    rcases Nat.lt_or_ge j' q.length with hl | hl
    · rw [hat j (by omega), hat j' hl]; exact h.sorted j j' hj hl
    · have : j' = q.length := by omega
      subst this
      rw [hend]
      rcases Nat.lt_or_ge j q.length with hl2 | hl2
      · rw [hat j hl2]; exact h.top hi j hl2
      · have : j = q.length := by omega
        subst this
        rw [hend]; exact Int.le_refl _
  · intro _ j hj
    rw [List.length_append, List.length_singleton] at hj
    rw [hat i hi]
    rcases Nat.lt_or_ge j q.length with hl2 | hl2
    · rw [hat j hl2]; exact h.top hi j hl2
    · have : j = q.length := by omega
      subst this
      rw [hend]; exact Int.le_refl _
  · intro j hj
    rw [List.length_append, List.length_singleton] at hj
    rcases Nat.lt_or_ge j q.length with hl2 | hl2
    · rw [hat j hl2]; exact h.deep j hl2
    · have : j = q.length := by omega
      subst this
      rw [hend]
      have := h.deep i hi
      omega
  · intro p hp
    rcases List.mem_append.1 hp with hp | hp
    · rw [hold p hp]; exact h.ways p hp
    · have hp : p = t := List.mem_singleton.1 hp
      subst hp
      rw [hnew, show (rd far (cdS a2 (rd_T64 q i)) + 1).toNat = (rd far (cdS a2 (rd_T64 q i))).toNat + 1 from by omega]
      refine .snoc (h.ways _ hx) ?_
      rw [EB_eq h2 hgx]
      exact List.mem_map.2 ⟨_, List.mem_of_getElem? ht, rfl⟩
  · intro j hj _ u hu
    have hjl : j < q.length := by omega
    rw [rd_T64_app q t j hjl] at hu
    have := h.closed j hj hjl u hu
    rw [hat j hjl, hsame _ this.1]
    exact this
  · intro _ u hu
    rw [rd_T64_app q t i hi] at hu
    rw [List.take_add_one, ht] at hu
    rw [hat i hi]
    rcases List.mem_append.1 hu with hu | hu
    · have := h.part hi u hu
      rw [hsame _ this.1]; exact this
    · have hu : u = t := by simpa using hu
      subst hu
      rw [hnew]; omega
theorem Bfs.next (h : Bfs a0 a1 a2 start far q i m) (hi : i < q.length) (hm : (nextS a1 a2 (rd_T64 q i)).length ≤ m) : Bfs a0 a1 a2 start far q (i + 1) 0 := by
  refine { h with top := fun hi' j hj => ?_, closed := fun j hj hj' t ht => ?_, part := fun _ t ht => by simp at ht }
  · have h1 := h.top hi j hj
    have h3 := h.sorted i (i + 1) (by omega) hi'
    omega
  · rcases Nat.lt_or_ge j i with hl | hl
    · exact h.closed j hl hj' t ht
    · have : j = i := by omega
      subst this
      exact h.part hi t (by rw [List.take_of_length_le hm]; exact ht)
end
end Go.Proofs.Ytlkjglanglpdoaa.T
namespace Go.Proofs.Ytlkjglanglpdoaa.T
open Go.RowKit Go.Maps Go.Proofs.YtlkjglanglpdoaaW.PrintWords Go.Proofs.YtlkjglanglpdoaaW.PrintLast Go.Proofs.YtlkjglanglpdoaaW.PrintMore
set_option linter.unusedVariables false
set_option linter.unusedSimpArgs false
theorem goesF_ {P : Program} {ops : Array Oper} {Q : Exit → Act → World → Prop} {oi : Oper} {N : Option Tmp} {a : Act} {w : World} {K : Act → World → Prop} {f : FuncId} {fn : Func} {as_ : Array Operand} {ts : Array TypeId} {c : Operand} (hf : P.funcs[f]? = some fn) (hname : (fn.name == "runtime.NumGoroutine") = false) (hb : fn.body.isSome = true) (cap args : Array Value)
  (hw : Region.wanted oi (yielded ops a.tmps) = true) (hN : oi.dst = N) (hop : oi.op = .call { callee := .value c, args := as_, argTypes := ts }) (hc : a.eval c = .func (.func f) #[] cap) (hargs : as_.map a.eval = args)
  (h : Calls P f (args ++ cap) w fun e w' => ∃ v, e = .returned v ∧ K (a.put N v) w') : if Region.wanted oi (yielded ops a.tmps) = true then Oper.wp P oi a w K Q else K (a.put N undef) w := by
 refine call_ f (args ++ cap) hw hN ?_ h
 have he := enters_ hf hname hb (args ++ cap) w
 unfold execOp
 simp [hop, resolve, Deferred.ofValue, invoke, hc, hargs, he]
def talV (ds : List Int) (E : Nat → List S234) : Nat → Nat → Int
 | 0, _ => 1
 | d + 1, s => (bestV ds (s : Int) (E s)).foldl (fun n e => wrap64 (n + talV ds E d e.f0.toNat)) 0
set_option maxHeartbeats 800000 in
set_option maxRecDepth 100000 in
theorem joinV (t : Nat) (x : S234) (A3 : Option Addr) (c3 : Nat) (now behind : Int) (b : Bool) (w : World) : Calls Try.prog 257 #[.agg #[.int .i64 (t : Int), .int .i64 x.f1, .int .i64 x.f2.f0, .slice A3 x.f2.f1.length c3], .int .i64 now, .int .i64 behind, .bool b] w fun e w' => e = .returned (.int .i64 (wrap64 (now + behind))) ∧ Below w.heap.size w w' := by
 go_enter Try.func257, Try.ntmps257
 go_wp2
 go_ret
 exact ⟨rfl, below_alloc (Below.refl _ _) _⟩
theorem lawK : Keyed Try.prog 3 := int_keyed Try.underlying3
theorem zeroK (w : World) : (zeroValue 3).run Try.prog w = .ok (.int .i64 0) w := by kernel_rfl
theorem wf_nat {c : Nat} (h : c < 1048577) : (Lit.int .i64 (c : Int)).wf = true := WalkArith.wf_i64 (by omega)
def Known (ds : List Int) (E : Nat → List S234) (many : Nat) (w : World) (B : Nat) (L : List Nat) : Prop :=
 ∃ D : DataW Unit, w.ownsMap Try.prog 3 (plainElem Try.prog 3) B L.length D ∧ L.Nodup ∧ (∀ c ∈ L, c < many) ∧ (∀ c : Nat, Maps.has D (.int .i64 (c : Int)) = decide (c ∈ L)) ∧ (∀ c ∈ L, D.atKey (.int .i64 (c : Int)) (.lit (.int .i64 0)) = .lit (.int .i64 (talV ds E (rd ds (c : Int)).toNat c)))
section
variable {ds : List Int} {E : Nat → List S234} {many : Nat} {w w' : World} {B : Nat} {L : List Nat}
theorem Known.lt (h : Known ds E many w B L) : B < w.heap.size := by
 obtain ⟨D, ⟨es, clock, hb, _⟩, _⟩ := h
 exact blk_lt hb
theorem Known.same (h : Known ds E many w B L) (hb : w'.heap[B]? = w.heap[B]?) : Known ds E many w' B L := by
 obtain ⟨D, ⟨es, clock, h1, h2⟩, h3⟩ := h
 exact ⟨D, ⟨es, clock, hb.trans h1, h2⟩, h3⟩
theorem Known.later (h : Known ds E many w B L) (hb : Below w.heap.size w w') : Known ds E many w' B L := h.same (hb.block B h.lt)
theorem Known.drew (h : Known ds E many w B L) : Known ds E many w.drew B L := h.same rfl
theorem Known.small (h : Known ds E many w B L) : L.length ≤ many := by
 obtain ⟨D, _, h1, h2, _⟩ := h
 exact nodup_le many L h1 h2
theorem Known.made (w : World) : Known ds E many (w.alloc (.map #[] 0)) w.heap.size [] :=
 ⟨.map [], World.ownsMap_made _ _ _ _, List.nodup_nil, fun c hc => by simp at hc, fun c => by simp [Maps.has], fun c hc => by simp at hc⟩
end
structure Spot (w : World) (bx gb many : Nat) (f : FuncId) (cap : Array Value) (t : Nat) (x : S234) (A3 : Option Addr) (c3 : Nat) : Prop where
 b0 : w.cell? ⟨bx, 0, none⟩ = some (.int .i64 (t : Int))
 b1 : w.cell? ⟨bx, 1, none⟩ = some (.int .i64 x.f1)
 b2 : w.cell? ⟨bx, 2, none⟩ = some (.int .i64 x.f2.f0)
 b3 : w.cell? ⟨bx, 3, none⟩ = some (.slice A3 x.f2.f1.length c3)
 g0 : w.cell? ⟨gb, 0, none⟩ = some (.int .i64 (many : Int))
 g1 : w.cell? ⟨gb, 1, none⟩ = some (.func (.func f) #[] cap)
section
variable {w w' : World} {bx gb many : Nat} {f : FuncId} {cap : Array Value} {t : Nat} {x : S234} {A3 : Option Addr} {c3 : Nat}
theorem Spot.kept {B : Nat} (h : Spot w bx gb many f cap t x A3 c3) (hk : Kept w w' (fun k => k = B)) (hB : bx ≠ B ∧ gb ≠ B) : Spot w' bx gb many f cap t x A3 c3 :=
 ⟨cell_kept h.b0 hk hB.1, cell_kept h.b1 hk hB.1, cell_kept h.b2 hk hB.1, cell_kept h.b3 hk hB.1, cell_kept h.g0 hk hB.2, cell_kept h.g1 hk hB.2⟩
theorem Spot.later (h : Spot w bx gb many f cap t x A3 c3) (hb : Below w.heap.size w w') : Spot w' bx gb many f cap t x A3 c3 :=
 have hc : ∀ {b o : Nat} {v : Value}, w.cell? ⟨b, o, none⟩ = some v → w'.cell? ⟨b, o, none⟩ = some v := fun h => (hb.cell (World.block_lt_of_cell? w _ h)).trans h
 ⟨hc h.b0, hc h.b1, hc h.b2, hc h.b3, hc h.g0, hc h.g1⟩
end
theorem foldl_snoc {α : Type} (g : Int → α → Int) (l : List α) (i : Nat) (h : i < l.length) (z : Int) : (l.take (i + 1)).foldl g z = g ((l.take i).foldl g z) l[i] := by
 rw [List.take_succ_eq_append_getElem h, List.foldl_append]; rfl
theorem wrap64_wf2 (z : Int) : (Lit.int .i64 (wrap64 z)).wf = true := WalkArith.wf_i64 (by unfold wrap64; omega)
theorem fold_wf (T : S234 → Int) : ∀ (l : List S234) (z : Int), (Lit.int .i64 (l.foldl (fun n e => wrap64 (n + T e)) 0)).wf = true := by
 intro l z
 rcases List.eq_nil_or_concat l with rfl | ⟨l', x, rfl⟩
 ·exact WalkArith.wf_i64 (by simp)
 ·rw [List.concat_eq_append, List.foldl_append]
  exact wrap64_wf2 _
set_option maxHeartbeats 6400000 in
set_option maxRecDepth 100000 in
theorem tallyV (f : FuncId) (cap : Array Value) (E : Nat → List S234) (G : Nat → Prop) (many K bd cd B : Nat) (ds : List Int) (wb : World) (hO : OutsV f cap E G many 1 K wb) (hmany : many < 1048577) (hB : wb.heap.size ≤ B)
  (hds : Kd.C (Kd.int .i64) wb (some ⟨bd, 0, none⟩) many ds) (hge : ∀ s : Nat, s < many → -1 ≤ rd ds (s : Int) ∧ rd ds (s : Int) ≤ 1048576) :
  ∀ (d s : Nat) (L : List Nat) (w : World), s < many → G s → rd ds (s : Int) = d → Below wb.heap.size wb w → Known ds E many w B L →
   Calls Try.prog 256 #[.agg #[.int .i64 (many : Int), .func (.func f) #[] cap], .int .i64 (s : Int), .slice (some ⟨bd, 0, none⟩) many cd, .map (some B), .func (.func 257) #[] #[], .int .i64 1] w fun e w' =>
    e = .returned (.int .i64 (talV ds E d s)) ∧ ∃ L', Known ds E many w' B L' ∧ (∀ c ∈ L', c ∈ L ∨ rd ds (c : Int) ≤ d) ∧ Below wb.heap.size wb w' ∧ Kept w w' (fun k => k = B) := by
 have HO := Aside0.mk hO
 have HMANY := Aside0.mk hmany
 have HBB := Aside0.mk hB
 have HDS := Aside0.mk hds
 have HGE := Aside0.mk hge
 clear hO hmany hB hds hge
 intro d
 induction d with
 | zero =>
  intro s L w hs hG hd hb hk
  obtain ⟨ad, hade, hct⟩ := Kd.at_int (Kd.C_below HDS.out hb) (s : Int) (by omega) (by omega)
  have e1 : ad = ⟨bd, 0, none⟩ := by injection hade with e; exact e.symm
  subst e1
  rw [Int.toNat_natCast, add_plain, hd] at hct
  have hcb : ∀ o, (w.alloc o).cell? ⟨bd, s, none⟩ = some (.int .i64 ((0 : Nat) : Int)) := fun o => (World.cell?_alloc_past _ _ _ (World.block_lt_of_cell? w _ hct)).trans hct
  have HK := Aside0.mk hk
  have HB := Aside0.mk hb
  have hsn : s < many := hs
  clear hade hct hk hb hG hd hs
  go_enter Try.func256, Try.ntmps256
  go_wp2
  go_ret
  exact ⟨rfl, L, HK.out.later (below_alloc (Below.refl _ _) _), fun c hc => .inl hc, below_alloc HB.out _, Kept.alloc (Kept.refl _ _) _⟩
 | succ d ih =>
  intro s L w hs hG hd hb hk
  have HIH := Aside0.mk ih
  clear ih
  obtain ⟨ad, hade, hct⟩ := Kd.at_int (Kd.C_below HDS.out hb) (s : Int) (by omega) (by omega)
  have e1 : ad = ⟨bd, 0, none⟩ := by injection hade with e; exact e.symm
  subst e1
  rw [Int.toNat_natCast, add_plain, hd] at hct
  have hcb : ∀ o, (w.alloc o).cell? ⟨bd, s, none⟩ = some (.int .i64 ((d + 1 : Nat) : Int)) := fun o => (World.cell?_alloc_past _ _ _ (World.block_lt_of_cell? w _ hct)).trans hct
  have c0b : (((d + 1 : Nat) : Int) == 0) = false := beq_eq_false_iff_ne.mpr (by omega)
  have HBL0 := Aside0.mk hk.lt
  have HK := Aside0.mk (hk.later (below_alloc (Below.refl w.heap.size w) (.cells #[.int .i64 (many : Int), .func (.func f) #[] cap] 151)))
  have HB := Aside0.mk hb
  have HSM := Aside0.mk hs
  have HG := Aside0.mk hG
  have HD := Aside0.mk hd
  have hsn : s < many := hs
  clear hade hct hk hb hG hd hs
  have hkey := keyOf_int_mk Try.underlying3 (wf_nat (c := s) (by have := HMANY.out; omega))
  obtain ⟨D, hown, hnd, hlt, hhas, hval⟩ := HK.out
  have HOWN := Aside0.mk hown
  have HHAS := Aside0.mk hhas
  have HVAL := Aside0.mk hval
  have HKEY := Aside0.mk hkey
  clear hown hnd hlt hhas hval hkey
  by_cases hin : s ∈ L
  ·have hhs : Maps.has D (.int .i64 (s : Int)) = true := by rw [HHAS.out]; simpa using hin
   have HIN := Aside0.mk hin
   clear hin
   go_enter Try.func256, Try.ntmps256
   go_wp2_with (at_lookup; refine wpList_lookup_own_ok_int _ rfl _ _ 236 rfl 3 3 .i64 lawK Try.underlying236 Try.underlying3 (zeroK _) B L.length D rfl HOWN.out _ _ rfl HKEY.out ?_; intro c hat hwc; have HAT := Aside0.mk hat; clear hat hwc)
   go_ret
   refine ⟨?_, L, HK.out, fun c hc => .inl hc, below_alloc HB.out _, Kept.alloc (Kept.refl _ _) _⟩
   have h1 := HAT.out.symm.trans (HVAL.out s HIN.out)
   rw [HD.out, Int.toNat_natCast] at h1
   injection h1 with h1
   injection h1 with _ h1
   show Ending.returned (.int .i64 c) = _
   rw [h1]
  ·have hhs : Maps.has D (.int .i64 (s : Int)) = false := by rw [HHAS.out]; simpa using hin
   have HIN := Aside0.mk hin
   clear hin
   go_enter Try.func256, Try.ntmps256
   go_wp2_with (at_lookup; refine wpList_lookup_own_ok_int _ rfl _ _ 236 rfl 3 3 .i64 lawK Try.underlying236 Try.underlying3 (zeroK _) B L.length D rfl HOWN.out _ _ rfl HKEY.out ?_; intro c hat hwc; clear hat hwc)
   have hba := below_alloc HB.out (.cells #[.int .i64 (many : Int), .func (.func f) #[] cap] 151)
   refine (bestV_runs f cap E G many 1 K bd cd ds s _ (HO.out.later hba) HSM.out HG.out (Kd.C_below HDS.out hba)).mono ?_
   rintro e w2 ⟨v35, rfl, hN, hb2⟩
   obtain ⟨A35, c35, e35⟩ := Kd.N_slice hN
   subst e35
   obtain ⟨bs, hbs⟩ : ∃ bs, bs = bestV ds (s : Int) (E s) := ⟨_, rfl⟩
   rw [← hbs] at hN ⊢
   have HBS := Aside0.mk hbs
   have HN := Aside0.mk hN
   have HGB := Aside0.mk (blk_below (blk_new w (.cells #[.int .i64 (many : Int), .func (.func f) #[] cap] 151)) hb2)
   have HBL : Aside0 (B < w.heap.size) := ⟨HBL0.out⟩
   have HK2 := Aside0.mk (HK.out.later hb2)
   have HB2 := Aside0.mk (hba.trans (hb2.mono hba.size))
   have HKP2 := Aside0.mk (Kept.below (Kept.alloc (Kept.refl w (fun k => k = B)) (.cells #[.int .i64 (many : Int), .func (.func f) #[] cap] 151)) hb2)
   have hbl : bs.length ≤ 9223372036854775807 := (Kd.N_reads' hN).2.2.2.1
   obtain ⟨gb, hgb⟩ : ∃ gb, gb = w.heap.size := ⟨_, rfl⟩
   rw [← hgb] at HGB ⊢
   have HGBB : Aside0 (gb ≠ B) := ⟨by have := HBL.out; omega⟩
   clear hba hN hb2 hbs hgb hcb
   go_wp2
   go_loopw [15, 37] (fun v15 v37 wr => ∃ (i : Nat) (Li : List Nat), v37 = .int .i64 (i : Int) ∧ v15 = .int .i64 ((bs.take i).foldl (fun n e => wrap64 (n + talV ds E d e.f0.toNat)) 0) ∧ Aside0 (i ≤ bs.length) ∧ Aside0 (Known ds E many wr B Li) ∧ Aside0 (∀ c ∈ Li, c ∈ L ∨ rd ds (c : Int) ≤ d) ∧ Aside0 (Below wb.heap.size wb wr) ∧ Aside0 (Kept w2 wr (fun k => k = B))) (fun _ v37 _ => bs.length - (intOf v37).toNat)
   case atStart => exact ⟨0, L, rfl, by simp, ⟨Nat.zero_le _⟩, HK2, ⟨fun c hc => .inl hc⟩, HB2, ⟨Kept.refl _ _⟩⟩
   case round =>
    clear HK2 HB2
    obtain ⟨i, Li, rfl, rfl, HIL, HKI, HSU, HBI, HKP⟩ := hrel
    obtain ⟨acc, hacc⟩ : ∃ acc, acc = (bs.take i).foldl (fun n e => wrap64 (n + talV ds E d e.f0.toNat)) 0 := ⟨_, rfl⟩
    have HACC := Aside0.mk hacc
    rw [← hacc]
    clear hacc
    by_cases hlt : i < bs.length
    ·have c1b : decide ((i : Int) < (bs.length : Int)) = true := by simpa using hlt
     have HLT := Aside0.mk hlt
     obtain ⟨g, A3, c3, rfl, hx0, hx1, hx2, hx3, hfr, hcap, hF⟩ := rowV (Kd.N_kept HN.out HKP.out (fun k hk => by have := HBL.out; simp at hk; omega)) i hlt
     obtain ⟨x, hx⟩ : ∃ x, x = rd_T234 bs i := ⟨_, rfl⟩
     have HX := Aside0.mk hx
     rw [← hx] at hx0 hx1 hx2 hx3
     have hxm : x ∈ bestV ds (s : Int) (E s) := by rw [hx, ← HBS.out]; exact rd_T234_mem2 bs i hlt
     obtain ⟨hxe, hxd⟩ := List.mem_filter.1 hxm
     obtain ⟨t, k, ht, hk, htm, htG, hk1, hk2⟩ := HO.out.good s HG.out x hxe
     have htd : rd ds (t : Int) = d := by
      have h1 := HGE.out t htm
      unfold delV at hxd
      rw [ht, hk, HD.out] at hxd
      simp at hxd
      have hkk : k = 1 := by omega
      subst hkk
      have h3 : wrap64 (rd ds (t : Int) + ((1 : Nat) : Int)) = rd ds (t : Int) + 1 := by unfold wrap64; omega
      omega
     have HXT := Aside0.mk ht
     rw [ht] at hx0
     have HTM := Aside0.mk htm
     have HTG := Aside0.mk htG
     have HTD := Aside0.mk htd
     clear hfr hcap hF hx hxm hxe hxd ht hk htm htG hk1 hk2 htd
     have HNB : Aside0 (wr.heap.size ≠ B ∧ gb ≠ B) := ⟨by have := HKI.out.lt; omega, HGBB.out⟩
     have HGR := Aside0.mk (blk_kept HGB.out HKP.out HGBB.out)
     go_wp2
     obtain ⟨wn, hwn⟩ : ∃ wn, wn = wr.alloc (.cells #[.int .i64 (t : Int), .int .i64 x.f1, .int .i64 x.f2.f0, .slice A3 x.f2.f1.length c3] 234) := ⟨_, rfl⟩
     rw [← hwn]
     have hsp : Spot wn wr.heap.size gb many f cap t x A3 c3 := by
      have h1 := blk_new wr (.cells #[.int .i64 (t : Int), .int .i64 x.f1, .int .i64 x.f2.f0, .slice A3 x.f2.f1.length c3] 234)
      have h2 := blk_alloc HGR.out (.cells #[.int .i64 (t : Int), .int .i64 x.f1, .int .i64 x.f2.f0, .slice A3 x.f2.f1.length c3] 234)
      rw [← hwn] at h1 h2
      exact ⟨(blk_cell h1 0).trans rfl, (blk_cell h1 1).trans rfl, (blk_cell h1 2).trans rfl, (blk_cell h1 3).trans rfl, (blk_cell h2 0).trans rfl, (blk_cell h2 1).trans rfl⟩
     have HSP := Aside0.mk hsp
     have HKN : Aside0 (Known ds E many wn B Li) := ⟨by rw [hwn]; exact HKI.out.later (below_alloc (Below.refl _ _) _)⟩
     have HBN : Aside0 (Below wb.heap.size wb wn) := ⟨by rw [hwn]; exact below_alloc HBI.out _⟩
     have HKPN : Aside0 (Kept w2 wn (fun k => k = B)) := ⟨by rw [hwn]; exact Kept.alloc HKP.out _⟩
     clear hsp hwn hx0 hx1 hx2 hx3
     refine start_ (n := 15) (S := fun w' => Spot w' wr.heap.size gb many f cap t x A3 c3) (ds := []) #[false, false, false, false, false, false, false, false, false, false, false, false, false, false, false] (by kernel_rfl) rfl rfl (HSP.out.later (below_drew1 (Below.refl _ _))) (fun hHeld => ?_)
     refine pure_ (i := 0) (N := some 42) (v := ?_) (a' := ?_) #[true, false, false, false, false, false, false, false, false, false, false, false, false, false, false] rfl rfl (by kernel_rfl) (fun _ _ _ h => h) (Or.inl ⟨by rfl, ?_⟩) ?_ ?_
     rotate_left
     ·intro w'
      go_simp
      with_reducible rfl
     rotate_left
     ·simp only [Act.put, List.setIfInBounds_toArray, List.set_cons_zero, List.set_cons_succ, i64_w, i32_w]
      rfl
     refine take_ (i := 1) (N := some 43) (v := ?_) (a' := ?_) #[true, true, false, false, false, false, false, false, false, false, false, false, false, false, false] rfl rfl (by kernel_rfl) (fun _ _ _ h => h) (Or.inl ⟨by rfl, ?_⟩) hHeld ?_ ?_
     rotate_left
     ·intro w' s0
      have s_0 := s0.b0
      have s_1 := s0.b1
      have s_2 := s0.b2
      have s_3 := s0.b3
      clear s0
      go_simp
      with_reducible rfl
     rotate_left
     ·simp only [Act.put, List.setIfInBounds_toArray, List.set_cons_zero, List.set_cons_succ, i64_w, i32_w]
      rfl
     refine pure_ (i := 2) (N := some 44) (v := ?_) (a' := ?_) #[true, true, true, false, false, false, false, false, false, false, false, false, false, false, false] rfl rfl (by kernel_rfl) (fun _ _ _ h => h) (Or.inl ⟨by rfl, ?_⟩) ?_ ?_
     rotate_left
     ·intro w'
      go_simp
      with_reducible rfl
     rotate_left
     ·simp only [Act.put, List.setIfInBounds_toArray, List.set_cons_zero, List.set_cons_succ, i64_w, i32_w]
      rfl
     refine take_ (i := 3) (N := some 45) (v := ?_) (a' := ?_) #[true, true, true, true, false, false, false, false, false, false, false, false, false, false, false] rfl rfl (by kernel_rfl) (fun _ _ _ h => h) (Or.inl ⟨by rfl, ?_⟩) hHeld ?_ ?_
     rotate_left
     ·intro w' s0
      have s_0 := s0.g0
      have s_1 := s0.g1
      clear s0
      go_simp
      with_reducible rfl
     rotate_left
     ·simp only [Act.put, List.setIfInBounds_toArray, List.set_cons_zero, List.set_cons_succ, i64_w, i32_w]
      rfl
     refine pure_ (i := 4) (N := some 46) (v := ?_) (a' := ?_) #[true, true, true, true, true, false, false, false, false, false, false, false, false, false, false] rfl rfl (by kernel_rfl) (fun _ _ _ h => h) (Or.inl ⟨by rfl, ?_⟩) ?_ ?_
     rotate_left
     ·intro w'
      go_simp
      with_reducible rfl
     rotate_left
     ·simp only [Act.put, List.setIfInBounds_toArray, List.set_cons_zero, List.set_cons_succ, i64_w, i32_w]
      rfl
     refine take_ (i := 5) (N := some 47) (v := ?_) (a' := ?_) #[true, true, true, true, true, true, false, false, false, false, false, false, false, false, false] rfl rfl (by kernel_rfl) (fun _ _ _ h => h) (Or.inl ⟨by rfl, ?_⟩) hHeld ?_ ?_
     rotate_left
     ·intro w' s0
      have s_0 := s0.b0
      clear s0
      go_simp
      with_reducible rfl
     rotate_left
     ·simp only [Act.put, List.setIfInBounds_toArray, List.set_cons_zero, List.set_cons_succ, i64_w, i32_w]
      rfl
     refine pure_ (i := 6) (N := some 48) (v := ?_) (a' := ?_) #[true, true, true, true, true, true, true, false, false, false, false, false, false, false, false] rfl rfl (by kernel_rfl) (fun _ _ _ h => h) (Or.inl ⟨by rfl, ?_⟩) ?_ ?_
     rotate_left
     ·intro w'
      go_simp
      with_reducible rfl
     rotate_left
     ·simp only [Act.put, List.setIfInBounds_toArray, List.set_cons_zero, List.set_cons_succ, i64_w, i32_w]
      rfl
     refine pure_ (i := 7) (N := some 49) (v := ?_) (a' := ?_) #[true, true, true, true, true, true, true, true, false, false, false, false, false, false, false] rfl rfl (by kernel_rfl) (fun _ _ _ h => h) (Or.inl ⟨by rfl, ?_⟩) ?_ ?_
     rotate_left
     ·intro w'
      go_simp
      with_reducible rfl
     rotate_left
     ·simp only [Act.put, List.setIfInBounds_toArray, List.set_cons_zero, List.set_cons_succ, i64_w, i32_w]
      rfl
     refine pure_ (i := 8) (N := some 50) (v := ?_) (a' := ?_) #[true, true, true, true, true, true, true, true, true, false, false, false, false, false, false] rfl rfl (by kernel_rfl) (fun _ _ _ h => h) (Or.inl ⟨by rfl, ?_⟩) ?_ ?_
     rotate_left
     ·intro w'
      go_simp
      with_reducible rfl
     rotate_left
     ·simp only [Act.put, List.setIfInBounds_toArray, List.set_cons_zero, List.set_cons_succ, i64_w, i32_w]
      rfl
     refine pure_ (i := 9) (N := some 51) (v := ?_) (a' := ?_) #[true, true, true, true, true, true, true, true, true, true, false, false, false, false, false] rfl rfl (by kernel_rfl) (fun _ _ _ h => h) (Or.inl ⟨by rfl, ?_⟩) ?_ ?_
     rotate_left
     ·intro w'
      go_simp
      with_reducible rfl
     rotate_left
     ·simp only [Act.put, List.setIfInBounds_toArray, List.set_cons_zero, List.set_cons_succ, i64_w, i32_w]
      rfl
     refine pure_ (i := 11) (N := some 53) (v := ?_) (a' := ?_) #[true, true, true, true, true, true, true, true, true, true, false, true, false, false, false] rfl rfl (by kernel_rfl) (fun _ _ _ h => h) (Or.inl ⟨by rfl, ?_⟩) ?_ ?_
     rotate_left
     ·intro w'
      go_simp
      with_reducible rfl
     rotate_left
     ·simp only [Act.put, List.setIfInBounds_toArray, List.set_cons_zero, List.set_cons_succ, i64_w, i32_w]
      rfl
     refine pure_ (i := 12) (N := some 54) (v := ?_) (a' := ?_) #[true, true, true, true, true, true, true, true, true, true, false, true, true, false, false] rfl rfl (by kernel_rfl) (fun _ _ _ h => h) (Or.inl ⟨by rfl, ?_⟩) ?_ ?_
     rotate_left
     ·intro w'
      go_simp
      with_reducible rfl
     rotate_left
     ·simp only [Act.put, List.setIfInBounds_toArray, List.set_cons_zero, List.set_cons_succ, i64_w, i32_w]
      rfl
     refine one_ (i := 10) (N := some 52) #[true, true, true, true, true, true, true, true, true, true, true, true, true, false, false] rfl rfl (by kernel_rfl) (by decide) (fun K hK => ?_)
     refine goes_ Try.func256 (by kernel_rfl) rfl #[.agg #[.int .i64 (many : Int), .func (.func f) #[] cap], .int .i64 (t : Int), .slice (some ⟨bd, 0, none⟩) many cd, .map (some B), .func (.func 257) #[] #[], .int .i64 1] (by rfl) rfl rfl (by (try simp only [List.map_toArray, List.map_cons, List.map_nil]); first | done | rfl) ?_
     refine (HIH.out t Li (wn.drew) HTM.out HTG.out HTD.out (below_drew1 HBN.out) (Known.drew HKN.out)).mono ?_
     rintro e w52 ⟨rfl, L52, hk52, hsub52, hb52, hkp52⟩
     have HK52 := Aside0.mk hk52
     have HS52 := Aside0.mk hsub52
     have HB52 := Aside0.mk hb52
     have HKP52 := Aside0.mk hkp52
     have HSP52 := Aside0.mk (HSP.out.kept (Kept.then_ (Kept.refl _ (fun k => k = B)) hkp52 (fun k hk => .inl hk)) HNB.out)
     clear hk52 hsub52 hb52 hkp52
     refine ⟨_, rfl, ?_⟩
     refine hK.out _ _ HSP52.out (fun hHeld => ?_)
     clear hK K
     refine norm_ (a' := ?_) ?_ ?_
     rotate_left
     ·show Act.put _ (some 52) _ = _
      simp only [Act.put, List.setIfInBounds_toArray, List.set_cons_zero, List.set_cons_succ, i64_w, i32_w]
      rfl
     refine one_ (i := 13) (N := some 55) #[true, true, true, true, true, true, true, true, true, true, true, true, true, true, false] rfl rfl (by kernel_rfl) (by decide) (fun K hK => ?_)
     refine goesF_ Try.func257 (by kernel_rfl) rfl #[] #[.agg #[.int .i64 (t : Int), .int .i64 x.f1, .int .i64 x.f2.f0, .slice A3 x.f2.f1.length c3], .int .i64 acc, .int .i64 (talV ds E d t), .bool ((i : Int) == 0)] (by rfl) rfl rfl rfl (by (try simp only [List.map_toArray, List.map_cons, List.map_nil]); first | done | rfl) ?_
     refine (show Calls Try.prog 257 #[.agg #[.int .i64 (t : Int), .int .i64 x.f1, .int .i64 x.f2.f0, .slice A3 x.f2.f1.length c3], .int .i64 acc, .int .i64 (talV ds E d t), .bool ((i : Int) == 0)] w52 _ from (joinV t x A3 c3 acc (talV ds E d t) ((i : Int) == 0) w52).mono ?_)
     rintro e w55 ⟨rfl, hb55⟩
     have HB55 := Aside0.mk hb55
     have HSP55 := Aside0.mk (HSP52.out.later hb55)
     clear hb55
     refine ⟨_, rfl, ?_⟩
     refine hK.out _ _ HSP55.out (fun hHeld => ?_)
     clear hK K
     refine norm_ (a' := ?_) ?_ ?_
     rotate_left
     ·show Act.put _ (some 55) _ = _
      simp only [Act.put, List.setIfInBounds_toArray, List.set_cons_zero, List.set_cons_succ, i64_w, i32_w]
      rfl
     refine pure_ (i := 14) (N := some 15) (v := ?_) (a' := ?_) #[true, true, true, true, true, true, true, true, true, true, true, true, true, true, true] rfl rfl (by kernel_rfl) (fun _ _ _ h => h) (Or.inl ⟨by rfl, ?_⟩) ?_ ?_
     rotate_left
     ·intro w'
      go_simp
      with_reducible rfl
     rotate_left
     ·simp only [Act.put, List.setIfInBounds_toArray, List.set_cons_zero, List.set_cons_succ, i64_w, i32_w]
      rfl
     refine done_ (by kernel_rfl) ?_
     go_wp2
     go_roundw
     case rel => exact ⟨i + 1, L52, by go_num, by rw [foldl_snoc _ bs i HLT.out, ← HACC.out, ← rd_T234_at bs i HLT.out, ← HX.out, HXT.out, Int.toNat_natCast], ⟨by omega⟩, ⟨HK52.out.later HB55.out⟩, ⟨fun c hc => (HS52.out c hc).elim (HSU.out c) .inr⟩, ⟨HB52.out.trans (HB55.out.mono HB52.out.size)⟩, ⟨Kept.below (Kept.then_ HKPN.out HKP52.out (fun k hk => .inl hk)) HB55.out⟩⟩
     case measure => simp only [intOf]; omega
    ·have c1b : decide ((i : Int) < (bs.length : Int)) = false := by simpa using hlt
     have hil : i = bs.length := by have := HIL.out; omega
     have HIE := Aside0.mk hil
     clear hil
     obtain ⟨Di, hown, hnd, hlt2, hhas2, hval2⟩ := HKI.out
     have hlm : Li.length < 1048577 := by have := HKI.out.small; have := HMANY.out; omega
     have HOWI := Aside0.mk hown
     have HREST := Aside0.mk (And.intro hnd (And.intro hlt2 (And.intro hhas2 hval2)))
     have HWF : Aside0 ((Lit.int .i64 acc).wf = true) := ⟨by rw [HACC.out]; exact fold_wf (fun e => talV ds E d e.f0.toNat) _ 0⟩
     clear hown hnd hlt2 hhas2 hval2
     go_wp2_with (at_mapUpdate; refine wpList_mapUpdate_own _ rfl _ _ _ 236 rfl 3 3 lawK Try.underlying236 _ B Li.length Di rfl HOWI.out (by unfold maxLen; omega) _ _ _ rfl rfl HKEY.out _ [] (plainElem_int Try.underlying3 HWF.out) ?_; intro w5 hown5 hg5; have HOW5 := Aside0.mk hown5; have HG5 := Aside0.mk hg5; clear hown5 hg5)
     go_ret
     obtain ⟨hnd, hlt2, hhas2, hval2⟩ := HREST.out
     have hnot : s ∉ Li := fun h => (HSU.out s h).elim HIN.out (fun h2 => by rw [HD.out] at h2; omega)
     have htal : acc = talV ds E (d + 1) s := by rw [HACC.out, HIE.out, List.take_length, HBS.out]; rfl
     have hmap := (HOWI.out.tidy lawK).isMap
     refine ⟨by rw [htal]; rfl, s :: Li, ⟨_, HOW5.out, List.nodup_cons.2 ⟨hnot, hnd⟩, fun c hc => ?_, fun c => ?_, fun c hc => ?_⟩, fun c hc => ?_, HBI.out.grown HG5.out HBI.out.size (fun k hk => by obtain rfl := Option.some.inj hk; exact HBB.out), Kept.of_grown HG5.out (Kept.then_ HKP2.out HKP.out (fun k hk => .inl hk)) (fun k hk => .inl (Option.some.inj hk).symm)⟩
     ·rcases List.mem_cons.1 hc with rfl | hc
      ·exact HSM.out
      ·exact hlt2 c hc
     ·by_cases hcs : c = s
      ·subst hcs
       rw [has_put_same hmap (by trivial)]
       simp
      ·rw [has_put_other (by intro e; injection e with _ e; omega), hhas2]
       simp [hcs]
     ·by_cases hcs : c = s
      ·subst hcs
       rw [atKey_put_same hmap (by trivial), HD.out, Int.toNat_natCast, htal]
      ·rw [atKey_put_other (by intro e; injection e with _ e; omega)]
       exact hval2 c (by rcases List.mem_cons.1 hc with e | hc; exact absurd e hcs; exact hc)
     ·rcases List.mem_cons.1 hc with rfl | hc
      ·exact .inr (by rw [HD.out]; omega)
      ·rcases HSU.out c hc with h | h
       ·exact .inl h
       ·exact .inr (by omega)
set_option maxHeartbeats 1600000 in
set_option maxRecDepth 100000 in
theorem countV (f : FuncId) (cap : Array Value) (E : Nat → List S234) (G : Nat → Prop) (many K bd cd : Nat) (ds : List Int) (d s : Nat) (w : World) (hO : OutsV f cap E G many 1 K w) (hmany : many < 1048577)
  (hds : Kd.C (Kd.int .i64) w (some ⟨bd, 0, none⟩) many ds) (hge : ∀ s : Nat, s < many → -1 ≤ rd ds (s : Int) ∧ rd ds (s : Int) ≤ 1048576) (hs : s < many) (hG : G s) (hd : rd ds (s : Int) = d) :
  Calls Try.prog 147 #[.agg #[.int .i64 (many : Int), .func (.func f) #[] cap], .int .i64 (s : Int), .slice (some ⟨bd, 0, none⟩) many cd] w fun e w' => e = .returned (.int .i64 (talV ds E d s)) ∧ Below w.heap.size w w' := by
 have HO := Aside0.mk hO
 have HMANY := Aside0.mk hmany
 have HDS := Aside0.mk hds
 have HGE := Aside0.mk hge
 have HSM := Aside0.mk hs
 have HG := Aside0.mk hG
 have HD := Aside0.mk hd
 clear hO hmany hds hge hs hG hd
 have hmm := @run_makeMap Try.prog
 go_enter Try.func147, Try.ntmps147
 go_wp2_with (go_at_call 256; refine (tallyV f cap E G many K bd cd (w.heap.size + 1) ds w HO.out HMANY.out (by omega) HDS.out HGE.out d s [] _ HSM.out HG.out HD.out (below_alloc (below_alloc (Below.refl _ _) _) _) (by have := Known.made (ds := ds) (E := E) (many := many) (w.alloc (.cells #[.int .i64 (many : Int), .func (.func f) #[] cap] 151)); simpa using this)).mono ?_; rintro e w' ⟨rfl, _, _, _, hb, _⟩; have HB := Aside0.mk hb; clear hb)
 go_ret
 exact ⟨rfl, HB.out⟩
end Go.Proofs.Ytlkjglanglpdoaa.T
namespace Go.Proofs.Ytlkjglanglpdoaa.T
open Go.RowKit Go.Proofs.YtlkjglanglpdoaaW.PrintWords Go.Proofs.YtlkjglanglpdoaaW.PrintLast Go.Proofs.YtlkjglanglpdoaaW.PrintMore
set_option linter.unusedVariables false
set_option linter.unusedSimpArgs false
structure FarS (wb w : World) (gw bf cf bw cw : Nat) (a0 a1 a2 : Int) (n8 n9 : Nat) (far ways : List Int) (vq : Value) (q : List S64) : Prop where
  box : w.heap[gw]? = some (.cells #[.int .i64 a0, .int .i64 a1, .int .i64 a2] 39 (0, 0))
  far : Kd.R (Kd.int .i64) 3 w wb.heap.size (fun k => k = bf) (.slice (some ⟨bf, 0, none⟩) n8 cf) far
  ways : Kd.R (Kd.int .i64) 3 w wb.heap.size (fun k => k = bw) (.slice (some ⟨bw, 0, none⟩) n9 cw) ways
  q : Kd.N k64 64 w wb.heap.size (fun k => k ≠ bf ∧ k ≠ bw) vq q
  ne : bf ≠ bw
  lo : wb.heap.size ≤ bf ∧ wb.heap.size ≤ bw
  below : Below wb.heap.size wb w
section
variable {wb w w1 : World} {gw bf cf bw cw : Nat} {a0 a1 a2 : Int} {n8 n9 : Nat} {far ways : List Int} {vq : Value} {q : List S64}
theorem FarS.later (h : FarS wb w gw bf cf bw cw a0 a1 a2 n8 n9 far ways vq q) (hb : Below w.heap.size w w1) : FarS wb w1 gw bf cf bw cw a0 a1 a2 n8 n9 far ways vq q :=
  ⟨blk_below h.box hb, Kd.R_below h.far hb, Kd.R_below h.ways hb, Kd.N_below h.q hb, h.ne, h.lo, h.below.trans (hb.mono h.below.size)⟩
theorem FarS.len8 (h : FarS wb w gw bf cf bw cw a0 a1 a2 n8 n9 far ways vq q) : far.length = n8 := (Kd.R_reads' h.far).1.symm
theorem FarS.len9 (h : FarS wb w gw bf cf bw cw a0 a1 a2 n8 n9 far ways vq q) : ways.length = n9 := (Kd.R_reads' h.ways).1.symm
theorem FarS.lt8 (h : FarS wb w gw bf cf bw cw a0 a1 a2 n8 n9 far ways vq q) : bf < w.heap.size := Kd.R_lt h.far bf (by simp [Value.ownBlock])
theorem FarS.lt9 (h : FarS wb w gw bf cf bw cw a0 a1 a2 n8 n9 far ways vq q) : bw < w.heap.size := Kd.R_lt h.ways bw (by simp [Value.ownBlock])
theorem FarS.ty8 (h : FarS wb w gw bf cf bw cw a0 a1 a2 n8 n9 far ways vq q) : ∃ cells, w.heap[bf]? = some (.cells cells 3 (0, 0)) := Kd.R_typed h.far bf (by simp [Value.ownBlock])
theorem FarS.ty9 (h : FarS wb w gw bf cf bw cw a0 a1 a2 n8 n9 far ways vq q) : ∃ cells, w.heap[bw]? = some (.cells cells 3 (0, 0)) := Kd.R_typed h.ways bw (by simp [Value.ownBlock])
theorem ne_typed {w : World} {g b t t' : Nat} {cs : Array Value} (h : w.heap[g]? = some (.cells cs t (0, 0))) (hb : ∃ cells, w.heap[b]? = some (.cells cells t' (0, 0))) (ht : t ≠ t') : g ≠ b := by
  rintro rfl
  obtain ⟨c, hc⟩ := hb
  rw [h] at hc
  injection hc with hc
  injection hc with _ hc
  exact ht hc
theorem FarS.setFar (h : FarS wb w gw bf cf bw cw a0 a1 a2 n8 n9 far ways vq q) (i x : Int) : FarS wb (w.setCell ⟨bf, i.toNat, none⟩ (.int .i64 x)) gw bf cf bw cw a0 a1 a2 n8 n9 (far.set i.toNat x) ways vq q :=
  ⟨blk_far h.box (p := ⟨bf, i.toNat, none⟩) (ne_typed h.box h.ty8 (by decide)) _, (Kd.R_putg (enc := Value.int .i64) h.far i x).1, Kd.R_far (p := ⟨bf, i.toNat, none⟩) h.ways (fun k hk => by rw [hk]; exact fun e => h.ne e.symm) _, Kd.N_far (p := ⟨bf, i.toNat, none⟩) h.q (fun k hk => hk.1) _, h.ne, h.lo, below_set h.below h.lo.1⟩
theorem FarS.setWays (h : FarS wb w gw bf cf bw cw a0 a1 a2 n8 n9 far ways vq q) (i x : Int) : FarS wb (w.setCell ⟨bw, i.toNat, none⟩ (.int .i64 x)) gw bf cf bw cw a0 a1 a2 n8 n9 far (ways.set i.toNat x) vq q :=
  ⟨blk_far h.box (p := ⟨bw, i.toNat, none⟩) (ne_typed h.box h.ty9 (by decide)) _, Kd.R_far (p := ⟨bw, i.toNat, none⟩) h.far (fun k hk => by rw [hk]; exact h.ne) _, (Kd.R_putg (enc := Value.int .i64) h.ways i x).1, Kd.N_far (p := ⟨bw, i.toNat, none⟩) h.q (fun k hk => hk.2) _, h.ne, h.lo, below_set h.below h.lo.2⟩
theorem FarS.cell8 (h : FarS wb w gw bf cf bw cw a0 a1 a2 n8 n9 far ways vq q) (i : Int) (h0 : 0 ≤ i) (h1 : i < (n8 : Int)) : w.cell? ⟨bf, i.toNat, none⟩ = some (.int .i64 (rd far i)) ∧ w.frozen? ⟨bf, i.toNat, none⟩ = false := Kd.R_celln 0 h.far i h0 h1
theorem FarS.cell9 (h : FarS wb w gw bf cf bw cw a0 a1 a2 n8 n9 far ways vq q) (i : Int) (h0 : 0 ≤ i) (h1 : i < (n9 : Int)) : w.cell? ⟨bw, i.toNat, none⟩ = some (.int .i64 (rd ways i)) ∧ w.frozen? ⟨bw, i.toNat, none⟩ = false := Kd.R_celln 0 h.ways i h0 h1
theorem FarS.elem {A : Option Addr} {n c : Nat} (h : FarS wb w gw bf cf bw cw a0 a1 a2 n8 n9 far ways (.slice A n c) q) (i : Int) (h0 : 0 ≤ i) (h1 : i < (q.length : Int)) :
    ∃ ad A0 c0, A = some ad ∧ w.cell? (ad.add (i.toNat * 2)) = some (.slice A0 (rd_T64 q i).f0.length c0) ∧ w.cell? ⟨(ad.add (i.toNat * 2)).block, (ad.add (i.toNat * 2)).off + 1, none⟩ = some (.int .i64 (rd_T64 q i).f1) ∧ (rd_T64 q i).f0.length ≤ c0 ∧
      Kd.F (Kd.int .i64) w (fun k => (k ≠ bf ∧ k ≠ bw) ∧ some k ≠ (Value.slice A n c).ownBlock) A0 (rd_T64 q i).f0.length (rd_T64 q i).f0 := by
  obtain ⟨hn, hc, hC⟩ := Kd.N_reads' h.q
  obtain ⟨ad, A0, c0, rfl, hx0, hx1, hl, hi⟩ := at_T64 hC i h0 h1
  obtain ⟨ce, hce, hM, hcc⟩ := Kd.N_get h.q z64 i h0 (by omega)
  obtain ⟨ua, uc, rfl, ul, ge⟩ := k64_openF hM
  have hv := hcc 0 _ rfl
  rw [Nat.add_zero] at hv
  replace hv := Option.some.inj (hv.symm.trans hx0)
  injection hv with hva hvn hvc
  rw [hva] at ge
  exact ⟨ad, A0, c0, rfl, hx0, hx1, hl, ge⟩
theorem FarS.pushed {v1 : Value} {q' : List S64} (h : FarS wb w gw bf cf bw cw a0 a1 a2 n8 n9 far ways vq q) (hq : Kd.N k64 64 w1 wb.heap.size (fun k => k ≠ bf ∧ k ≠ bw) v1 q') (hb : Below wb.heap.size wb w1) (hg : w.grownBy w1 vq.ownBlock) : FarS wb w1 gw bf cf bw cw a0 a1 a2 n8 n9 far ways v1 q' := by
  have hty := Kd.N_typed h.q
  refine ⟨blk_grown h.box hg (fun e => ne_typed h.box (hty gw e.symm) (by decide) rfl), Kd.R_grown h.far hg (fun k hk e => ?_), Kd.R_grown h.ways hg (fun k hk e => ?_), hq, h.ne, h.lo, hb⟩
  · subst hk; exact (h.q.1 k e.symm).1 rfl
  · subst hk; exact (h.q.1 k e.symm).2 rfl
end
structure FarI (wb w : World) (bf bw gs : Nat) (A : Option Addr) (c : Nat) (s : S64) (vq v73 : Value) (vs : List S66) : Prop where
  box : w.heap[gs]? = some (.cells #[.slice A s.f0.length c, .int .i64 s.f1] 64 (0, 0))
  cap : s.f0.length ≤ c
  row : Kd.F (Kd.int .i64) w (fun k => (k ≠ bf ∧ k ≠ bw) ∧ some k ≠ vq.ownBlock) A s.f0.length s.f0
  voys : Kd.N k66 66 w wb.heap.size (fun k => (k ≠ bf ∧ k ≠ bw) ∧ some k ≠ vq.ownBlock) v73 vs
  apart : some gs ≠ vq.ownBlock
  ne : gs ≠ bf ∧ gs ≠ bw
section
variable {wb w w1 : World} {bf bw gs : Nat} {A : Option Addr} {c : Nat} {s : S64} {vq v73 : Value} {vs : List S66}
theorem FarI.later (h : FarI wb w bf bw gs A c s vq v73 vs) (hb : Below w.heap.size w w1) : FarI wb w1 bf bw gs A c s vq v73 vs :=
  ⟨blk_below h.box hb, h.cap, Kd.F_below h.row hb, Kd.N_below h.voys hb, h.apart, h.ne⟩
theorem FarI.set8 (h : FarI wb w bf bw gs A c s vq v73 vs) (j : Nat) (u : Value) : FarI wb (w.setCell ⟨bf, j, none⟩ u) bf bw gs A c s vq v73 vs :=
  ⟨blk_far h.box (p := ⟨bf, j, none⟩) h.ne.1 _, h.cap, Kd.F_far (p := ⟨bf, j, none⟩) h.row (fun k hk => hk.1.1) _, Kd.N_far (p := ⟨bf, j, none⟩) h.voys (fun k hk => hk.1.1) _, h.apart, h.ne⟩
theorem FarI.set9 (h : FarI wb w bf bw gs A c s vq v73 vs) (j : Nat) (u : Value) : FarI wb (w.setCell ⟨bw, j, none⟩ u) bf bw gs A c s vq v73 vs :=
  ⟨blk_far h.box (p := ⟨bw, j, none⟩) h.ne.2 _, h.cap, Kd.F_far (p := ⟨bw, j, none⟩) h.row (fun k hk => hk.1.2) _, Kd.N_far (p := ⟨bw, j, none⟩) h.voys (fun k hk => hk.1.2) _, h.apart, h.ne⟩
theorem FarI.pushed {v1 : Value} (h : FarI wb w bf bw gs A c s vq v73 vs) (hg : w.grownBy w1 vq.ownBlock) (hat : v1.ownBlock = vq.ownBlock ∨ ∃ b, v1.ownBlock = some b ∧ w.heap.size ≤ b) : FarI wb w1 bf bw gs A c s v1 v73 vs := by
  refine ⟨blk_grown h.box hg h.apart, h.cap, Kd.F_after h.row hg hat, Kd.N_after h.voys hg hat, ?_, h.ne⟩
  rcases hat with hat | ⟨b, hb, hle⟩
  · rw [hat]; exact h.apart
  · rw [hb]
    intro e
    injection e with e
    have := blk_lt h.box
    omega
theorem FarI.voy {B : Option Addr} {n m : Nat} (h : FarI wb w bf bw gs A c s vq (.slice B n m) vs) (i : Int) (h0 : 0 ≤ i) (h1 : i < (vs.length : Int)) :
    ∃ ad A1 c1, B = some ad ∧ w.cell? (ad.add (i.toNat * 2)) = some (.int .i64 (rd_T66 vs i).f0) ∧ w.cell? ⟨(ad.add (i.toNat * 2)).block, (ad.add (i.toNat * 2)).off + 1, none⟩ = some (.slice A1 (rd_T66 vs i).f1.length c1) ∧ (rd_T66 vs i).f1.length ≤ c1 ∧ (Kd.int .i64).C w A1 (rd_T66 vs i).f1.length (rd_T66 vs i).f1 :=
  at_T66 (Kd.N_reads' h.voys).2.2 i h0 h1
theorem FarI.begins {A0 : Option Addr} {c0 : Nat} {w2 : World} (hcap : s.f0.length ≤ c0) (hrow : Kd.F (Kd.int .i64) w (fun k => (k ≠ bf ∧ k ≠ bw) ∧ some k ≠ vq.ownBlock) A0 s.f0.length s.f0)
    (hb1 : Below (w.alloc (.cells #[.slice A0 s.f0.length c0, .int .i64 s.f1] 64)).heap.size (w.alloc (.cells #[.slice A0 s.f0.length c0, .int .i64 s.f1] 64)) w1)
    (hN : Kd.N k66 66 w2 w1.heap.size (fun k => w1.heap.size ≤ k) v73 vs) (hb2 : Below w1.heap.size w1 w2) (hwb : wb.heap.size ≤ w.heap.size) (hbf : bf < w.heap.size) (hbw : bw < w.heap.size) (hq : ∀ k, vq.ownBlock = some k → k < w.heap.size) : FarI wb w2 bf bw w.heap.size A0 c0 s vq v73 vs := by
  have hz1 : w.heap.size + 1 ≤ w1.heap.size := by have := hb1.size; simpa using this
  refine ⟨blk_below (blk_below (blk_new w _) hb1) hb2, hcap, Kd.F_below (Kd.F_below (Kd.F_alloc hrow _) hb1) hb2, Kd.N_mono (Kd.N_lower hN (by omega)) (fun k hk => ⟨⟨by omega, by omega⟩, fun e => by have := hq k e.symm; omega⟩), fun e => by have := hq _ e.symm; omega, by omega, by omega⟩
theorem next_fresh {wn : World} {xs : List Int} {A1 : Option Addr} {c1 n1 B : Nat} (hR : Kd.R (Kd.int .i64) 3 wn B (fun _ => True) (.slice A1 n1 c1) xs) (hbf : bf < B) (hbw : bw < B) (hq : ∀ k, vq.ownBlock = some k → k < B) :
    Kd.F (Kd.int .i64) wn (fun k => (k ≠ bf ∧ k ≠ bw) ∧ some k ≠ vq.ownBlock) A1 n1 xs :=
  Kd.R_F (Kd.R_reok rfl hR (fun k hk => by
    have := Kd.R_base hR k hk
    exact ⟨⟨by omega, by omega⟩, fun e => by have := hq k e.symm; omega⟩))
end
end Go.Proofs.Ytlkjglanglpdoaa.T
namespace Go.Proofs.Ytlkjglanglpdoaa.T
open Go.RowKit Go.Proofs.YtlkjglanglpdoaaW.PrintWords Go.Proofs.YtlkjglanglpdoaaW.PrintLast Go.Proofs.YtlkjglanglpdoaaW.PrintMore
attribute [local go_sem] max2_int min2_int max_two min_two max_three min_three max_four min_four
set_option linter.unusedVariables false
set_option linter.unusedSimpArgs false
mutual
def spec_isFar.l0 : Nat → Int → Int → Int → Int → Int → Int → List Int → Int → Option (List Int × List Int × Int)
 | 0, _, _, _, _, _, _, _, _ => none
 | k + 1, x7, x25, x26, x358000, x358001, x358002, x359000, x359001 => if x26 < x25 then (spec_isFar.l0 k (wrap64 (x7 * (wrap64 (x358002 + 2)))) x25 (wrap64 (x26 + 1)) x358000 x358001 x358002 x359000 x359001) else (if 0 ≤ x7 then (if (x7 : Int).toNat ≤ 35184372088832 then ((some (List.replicate (x7 : Int).toNat 0 : List Int)).bind fun y359 => (spec_isFar.l1 k y359 (List.replicate (x7 : Int).toNat 0) (y359.length : Int) 0 x358000 x358001 x358002 x359000 x359001)) else (none)) else (none))
def spec_isFar.l1 : Nat → List Int → List Int → Int → Int → Int → Int → Int → List Int → Int → Option (List Int × List Int × Int)
 | 0, _, _, _, _, _, _, _, _, _ => none
 | k + 1, x8, x9, x39, x40, x358000, x358001, x358002, x359000, x359001 => if x40 < x39 then (if 0 ≤ x40 then (if x40 < (x8.length : Int) then (spec_isFar.l1 k (x8.set (x40 : Int).toNat (-1)) x9 x39 (wrap64 (x40 + 1)) x358000 x358001 x358002 x359000 x359001) else (none)) else (none)) else ((spec_isCode.f k x358000 x358001 x358002 x359000 x359001).bind fun t366 => (if 0 ≤ t366 then (if t366 < (x8.length : Int) then (if t366 < (x9.length : Int) then (spec_isFar.l2 k (x8.set (t366 : Int).toNat 0) (x9.set (t366 : Int).toNat 1) (([(⟨x359000, x359001⟩ : S64)] : List (S64))) 0 x358000 x358001 x358002) else (none)) else (none)) else (none)))
def spec_isFar.l2 : Nat → List Int → List Int → List (S64) → Int → Int → Int → Int → Option (List Int × List Int × Int)
 | 0, _, _, _, _, _, _, _ => none
 | k + 1, x8, x9, x12, x13, x358000, x358001, x358002 => if x13 < (x12.length : Int) then (if 0 ≤ x13 then ((spec_isCode.f k x358000 x358001 x358002 ((rd_T64 x12 x13).f0) ((rd_T64 x12 x13).f1)).bind fun t374 => ((spec_isVoyages.f k x358000 x358001 x358002 ((rd_T64 x12 x13).f0) ((rd_T64 x12 x13).f1)).bind fun t375 => (spec_isFar.l3 k x8 x9 x12 x13 t374 t375 (t375.length : Int) 0 x358000 x358001 x358002 ((rd_T64 x12 x13).f0) ((rd_T64 x12 x13).f1)))) else (none)) else (some (x8, x9, (x12.length : Int)))
def spec_isFar.l3 : Nat → List Int → List Int → List (S64) → Int → Int → List (S66) → Int → Int → Int → Int → Int → List Int → Int → Option (List Int × List Int × Int)
 | 0, _, _, _, _, _, _, _, _, _, _, _, _, _ => none
 | k + 1, x8, x9, x12, x13, x15, x73, x74, x75, x358000, x358001, x358002, x374000, x374001 => if x75 < x74 then (if 0 ≤ x75 then (if x75 < (x73.length : Int) then ((spec_isSail.f k x374000 x374001 ((rd_T66 x73 x75).f0) ((rd_T66 x73 x75).f1)).bind fun bt380 => ((spec_isCode.f k x358000 x358001 x358002 bt380.1 bt380.2).bind fun t385 => (if 0 ≤ t385 then (if t385 < (x8.length : Int) then (if (rd x8 t385) < 0 then (if 0 ≤ x15 then (if x15 < (x8.length : Int) then ((some (x8.set (t385 : Int).toNat (wrap64 ((rd x8 x15) + 1)) : List Int)).bind fun y388 => (if x12.length < 4398046511104 then ((some (x12 ++ [(⟨bt380.1, bt380.2⟩ : S64)] : List (S64))).bind fun y389 => (if (rd y388 t385) = (wrap64 ((rd y388 x15) + 1)) then (if t385 < (x9.length : Int) then (if x15 < (x9.length : Int) then (spec_isFar.l3 k y388 (x9.set (t385 : Int).toNat (wrap64 ((rd x9 t385) + (rd x9 x15)))) y389 x13 x15 x73 x74 (wrap64 (x75 + 1)) x358000 x358001 x358002 x374000 x374001) else (none)) else (none)) else (spec_isFar.l3 k y388 x9 y389 x13 x15 x73 x74 (wrap64 (x75 + 1)) x358000 x358001 x358002 x374000 x374001))) else (none))) else (none)) else (none)) else (if 0 ≤ x15 then (if x15 < (x8.length : Int) then (if (rd x8 t385) = (wrap64 ((rd x8 x15) + 1)) then (if t385 < (x9.length : Int) then (if x15 < (x9.length : Int) then (spec_isFar.l3 k x8 (x9.set (t385 : Int).toNat (wrap64 ((rd x9 t385) + (rd x9 x15)))) x12 x13 x15 x73 x74 (wrap64 (x75 + 1)) x358000 x358001 x358002 x374000 x374001) else (none)) else (none)) else (spec_isFar.l3 k x8 x9 x12 x13 x15 x73 x74 (wrap64 (x75 + 1)) x358000 x358001 x358002 x374000 x374001)) else (none)) else (none))) else (none)) else (none)))) else (none)) else (none)) else (spec_isFar.l2 k x8 x9 x12 (wrap64 (x13 + 1)) x358000 x358001 x358002)
end
def spec_isFar.f (k : Nat) (a0_0 : Int) (a0_1 : Int) (a0_2 : Int) (l1_0 : List Int) (a1_1 : Int) : Option (List Int × List Int × Int) := spec_isFar.l0 k (wrap64 (a0_2 + 2)) (l1_0.length : Int) 0 a0_0 a0_1 a0_2 l1_0 a1_1
theorem spec_isFar.mono_l : ∀ k, (∀ y0 y1 y2 y3 y4 y5 y6 y7, LeO (spec_isFar.l0 k y0 y1 y2 y3 y4 y5 y6 y7) (spec_isFar.l0 (k + 1) y0 y1 y2 y3 y4 y5 y6 y7)) ∧ (∀ y0 y1 y2 y3 y4 y5 y6 y7 y8, LeO (spec_isFar.l1 k y0 y1 y2 y3 y4 y5 y6 y7 y8) (spec_isFar.l1 (k + 1) y0 y1 y2 y3 y4 y5 y6 y7 y8)) ∧ (∀ y0 y1 y2 y3 y4 y5 y6, LeO (spec_isFar.l2 k y0 y1 y2 y3 y4 y5 y6) (spec_isFar.l2 (k + 1) y0 y1 y2 y3 y4 y5 y6)) ∧ (∀ y0 y1 y2 y3 y4 y5 y6 y7 y8 y9 y10 y11 y12, LeO (spec_isFar.l3 k y0 y1 y2 y3 y4 y5 y6 y7 y8 y9 y10 y11 y12) (spec_isFar.l3 (k + 1) y0 y1 y2 y3 y4 y5 y6 y7 y8 y9 y10 y11 y12))
 | 0 => ⟨fun _ _ _ _ _ _ _ _ r h => by simp [spec_isFar.l0] at h, fun _ _ _ _ _ _ _ _ _ r h => by simp [spec_isFar.l1] at h, fun _ _ _ _ _ _ _ r h => by simp [spec_isFar.l2] at h, fun _ _ _ _ _ _ _ _ _ _ _ _ _ r h => by simp [spec_isFar.l3] at h⟩
 | k + 1 => by
  obtain ⟨ih0, ih1, ih2, ih3⟩ := spec_isFar.mono_l k
  refine ⟨?_, ?_, ?_, ?_⟩
  ·intro y0 y1 y2 y3 y4 y5 y6 y7
   unfold spec_isFar.l0
   repeat' first
   | (with_reducible exact ih0 _ _ _ _ _ _ _ _)
   | (with_reducible exact ih1 _ _ _ _ _ _ _ _ _)
   | (with_reducible exact ih2 _ _ _ _ _ _ _)
   | (with_reducible exact ih3 _ _ _ _ _ _ _ _ _ _ _ _ _)
   | (with_reducible exact spec_isCode.mono _ _ _ _ _ _)
   | (with_reducible exact spec_isSail.mono _ _ _ _ _)
   | (with_reducible exact spec_isVoyages.mono _ _ _ _ _ _)
   | (with_reducible exact LeO.refl _)
   | (with_reducible exact LeO.none _)
   | (with_reducible refine LeO.ite ?_ ?_)
   | (with_reducible refine LeO.bind ?_ (fun _ => ?_))
   | exact ih0 _ _ _ _ _ _ _ _
   | exact ih1 _ _ _ _ _ _ _ _ _
   | exact ih2 _ _ _ _ _ _ _
   | exact ih3 _ _ _ _ _ _ _ _ _ _ _ _ _
   | exact spec_isCode.mono _ _ _ _ _ _
   | exact spec_isSail.mono _ _ _ _ _
   | exact spec_isVoyages.mono _ _ _ _ _ _
   | exact LeO.none _
   | refine LeO.ite ?_ ?_
   | refine LeO.bind ?_ (fun _ => ?_)
  ·intro y0 y1 y2 y3 y4 y5 y6 y7 y8
   unfold spec_isFar.l1
   repeat' first
   | (with_reducible exact ih0 _ _ _ _ _ _ _ _)
   | (with_reducible exact ih1 _ _ _ _ _ _ _ _ _)
   | (with_reducible exact ih2 _ _ _ _ _ _ _)
   | (with_reducible exact ih3 _ _ _ _ _ _ _ _ _ _ _ _ _)
   | (with_reducible exact spec_isCode.mono _ _ _ _ _ _)
   | (with_reducible exact spec_isSail.mono _ _ _ _ _)
   | (with_reducible exact spec_isVoyages.mono _ _ _ _ _ _)
   | (with_reducible exact LeO.refl _)
   | (with_reducible exact LeO.none _)
   | (with_reducible refine LeO.ite ?_ ?_)
   | (with_reducible refine LeO.bind ?_ (fun _ => ?_))
   | exact ih0 _ _ _ _ _ _ _ _
   | exact ih1 _ _ _ _ _ _ _ _ _
   | exact ih2 _ _ _ _ _ _ _
   | exact ih3 _ _ _ _ _ _ _ _ _ _ _ _ _
   | exact spec_isCode.mono _ _ _ _ _ _
   | exact spec_isSail.mono _ _ _ _ _
   | exact spec_isVoyages.mono _ _ _ _ _ _
   | exact LeO.none _
   | refine LeO.ite ?_ ?_
   | refine LeO.bind ?_ (fun _ => ?_)
  ·intro y0 y1 y2 y3 y4 y5 y6
   unfold spec_isFar.l2
   repeat' first
   | (with_reducible exact ih0 _ _ _ _ _ _ _ _)
   | (with_reducible exact ih1 _ _ _ _ _ _ _ _ _)
   | (with_reducible exact ih2 _ _ _ _ _ _ _)
   | (with_reducible exact ih3 _ _ _ _ _ _ _ _ _ _ _ _ _)
   | (with_reducible exact spec_isCode.mono _ _ _ _ _ _)
   | (with_reducible exact spec_isSail.mono _ _ _ _ _)
   | (with_reducible exact spec_isVoyages.mono _ _ _ _ _ _)
   | (with_reducible exact LeO.refl _)
   | (with_reducible exact LeO.none _)
   | (with_reducible refine LeO.ite ?_ ?_)
   | (with_reducible refine LeO.bind ?_ (fun _ => ?_))
   | exact ih0 _ _ _ _ _ _ _ _
   | exact ih1 _ _ _ _ _ _ _ _ _
   | exact ih2 _ _ _ _ _ _ _
   | exact ih3 _ _ _ _ _ _ _ _ _ _ _ _ _
   | exact spec_isCode.mono _ _ _ _ _ _
   | exact spec_isSail.mono _ _ _ _ _
   | exact spec_isVoyages.mono _ _ _ _ _ _
   | exact LeO.none _
   | refine LeO.ite ?_ ?_
   | refine LeO.bind ?_ (fun _ => ?_)
  ·intro y0 y1 y2 y3 y4 y5 y6 y7 y8 y9 y10 y11 y12
   unfold spec_isFar.l3
   repeat' first
   | (with_reducible exact ih0 _ _ _ _ _ _ _ _)
   | (with_reducible exact ih1 _ _ _ _ _ _ _ _ _)
   | (with_reducible exact ih2 _ _ _ _ _ _ _)
   | (with_reducible exact ih3 _ _ _ _ _ _ _ _ _ _ _ _ _)
   | (with_reducible exact spec_isCode.mono _ _ _ _ _ _)
   | (with_reducible exact spec_isSail.mono _ _ _ _ _)
   | (with_reducible exact spec_isVoyages.mono _ _ _ _ _ _)
   | (with_reducible exact LeO.refl _)
   | (with_reducible exact LeO.none _)
   | (with_reducible refine LeO.ite ?_ ?_)
   | (with_reducible refine LeO.bind ?_ (fun _ => ?_))
   | exact ih0 _ _ _ _ _ _ _ _
   | exact ih1 _ _ _ _ _ _ _ _ _
   | exact ih2 _ _ _ _ _ _ _
   | exact ih3 _ _ _ _ _ _ _ _ _ _ _ _ _
   | exact spec_isCode.mono _ _ _ _ _ _
   | exact spec_isSail.mono _ _ _ _ _
   | exact spec_isVoyages.mono _ _ _ _ _ _
   | exact LeO.none _
   | refine LeO.ite ?_ ?_
   | refine LeO.bind ?_ (fun _ => ?_)
theorem spec_isFar.mono : ∀ a0 a1 a2 a3 a4 k, LeO (spec_isFar.f k a0 a1 a2 a3 a4) (spec_isFar.f (k + 1) a0 a1 a2 a3 a4) := by
 intro a0 a1 a2 a3 a4 k
 obtain ⟨ih0, ih1, ih2, ih3⟩ := spec_isFar.mono_l k
 unfold spec_isFar.f
 repeat' first
   | (with_reducible exact ih0 _ _ _ _ _ _ _ _)
   | (with_reducible exact ih1 _ _ _ _ _ _ _ _ _)
   | (with_reducible exact ih2 _ _ _ _ _ _ _)
   | (with_reducible exact ih3 _ _ _ _ _ _ _ _ _ _ _ _ _)
   | (with_reducible exact spec_isCode.mono _ _ _ _ _ _)
   | (with_reducible exact spec_isSail.mono _ _ _ _ _)
   | (with_reducible exact spec_isVoyages.mono _ _ _ _ _ _)
   | (with_reducible exact LeO.refl _)
   | (with_reducible exact LeO.none _)
   | (with_reducible refine LeO.ite ?_ ?_)
   | (with_reducible refine LeO.bind ?_ (fun _ => ?_))
   | exact ih0 _ _ _ _ _ _ _ _
   | exact ih1 _ _ _ _ _ _ _ _ _
   | exact ih2 _ _ _ _ _ _ _
   | exact ih3 _ _ _ _ _ _ _ _ _ _ _ _ _
   | exact spec_isCode.mono _ _ _ _ _ _
   | exact spec_isSail.mono _ _ _ _ _
   | exact spec_isVoyages.mono _ _ _ _ _ _
   | exact LeO.none _
   | refine LeO.ite ?_ ?_
   | refine LeO.bind ?_ (fun _ => ?_)
set_option maxHeartbeats 8000000 in
set_option maxRecDepth 100000 in
theorem spec_isFar.calls (k : Nat) (a0_0 : Int) (a0_1 : Int) (a0_2 : Int) (P1_0_ : Nat → Prop) (A1_0 : Option Addr) (c1_0 : Nat) (l1_0 : List Int) (a1_1 : Int) (r1 : List Int) (r2 : List Int) (r3 : Int) (w : World) (hs1_0 : Kd.V (Kd.int .i64) 3 w w.heap.size (fun k_ => P1_0_ k_) (.slice A1_0 l1_0.length c1_0) l1_0) (h : spec_isFar.f k a0_0 a0_1 a0_2 l1_0 a1_1 = some (r1, r2, r3)) :
  Calls Try.prog 141 #[.agg #[.int .i64 a0_0, .int .i64 a0_1, .int .i64 a0_2], .agg #[.slice A1_0 l1_0.length c1_0, .int .i64 a1_1]] w fun e w' => ∃ v0_ v1_ : Value, e = .returned (.tuple #[v0_, v1_, .int .i64 r3]) ∧ Kd.R (Kd.int .i64) 3 w' w.heap.size (fun k_ => (w.heap.size ≤ k_) ∧ some k_ ≠ (v1_ : Value).ownBlock) v0_ r1 ∧ Kd.R (Kd.int .i64) 3 w' w.heap.size (fun k_ => (w.heap.size ≤ k_) ∧ some k_ ≠ (v0_ : Value).ownBlock) v1_ r2 ∧ Below w.heap.size w w' := by
 have hu39 := Try.underlying39
 have hu64 := Try.underlying64
 have hu66 := Try.underlying66
 have HO1_0 := Aside0.mk (show Kd.V (Kd.int .i64) 3 w w.heap.size (fun k_ => (P1_0_ k_ ∨ w.heap.size ≤ k_)) (.slice A1_0 l1_0.length c1_0) l1_0 from Kd.V_mono hs1_0 (fun k_ hk => .inl hk))
 have HB := Aside0.mk (Below.refl w.heap.size w)
 have H : (spec_isFar.l0 k (wrap64 (a0_2 + 2)) (l1_0.length : Int) 0 a0_0 a0_1 a0_2 l1_0 a1_1) = some (r1, r2, r3) := h
 clear h
 have H' := Aside0.mk H
 clear H
 go_enter Try.func141, Try.ntmps141
 go_wp2_with (first | ((with_reducible refine gate_dst (N := 2) rfl ?_); refine box_event ?hg (N := 2) ?hd (cs := #[.int .i64 a0_0, .int .i64 a0_1, .int .i64 a0_2]) (t := 39) ?hr ?_; (case hd => rfl); (case hg => rfl); (case hr => first | (go_simp; done) | (go_simp; rfl)); intro gb357 hg w3 hbox hb; have n0_ := Aside0.mk (Kd.V_below (Kd.V_elderB (by (with_reducible repeat (first | apply Kd.V_alloc | apply Kd.V_drewN | apply Kd.V_drew)); exact HO1_0.out) gb357 (Nat.le_of_eq hg.symm)) hb); have n1_ := Aside0.mk (below_step (by repeat (first | (with_reducible first | exact HB.out | apply below_alloc | apply pw_below_drewN | apply below_drew1) | exact HB.out)) hb); have n2_ := Aside0.mk (hbox); have n3_ := Aside0.mk ((by rw [hg]; exact (below_size (by repeat (first | (with_reducible first | exact HB.out | apply below_alloc | apply pw_below_drewN | apply below_drew1) | exact HB.out))) : w.heap.size ≤ gb357)); have n4_ := Aside0.mk ((by rw [hg]; exact (below_size (by repeat (first | (with_reducible first | exact HB.out | apply below_alloc | apply pw_below_drewN | apply below_drew1) | exact HB.out))) : w.heap.size ≤ gb357)); clear HO1_0; clear HB; have HO1_0 := n0_; have HB := n1_; have BK357 := n2_; have GW357 := n3_; have GE357 := n4_; clear n0_ n1_ n2_ n3_ n4_; clear hb hbox hg) | ((with_reducible refine gate_dst (N := 3) rfl ?_); refine box_event ?hg (N := 3) ?hd (cs := #[.slice A1_0 l1_0.length c1_0, .int .i64 a1_1]) (t := 64) ?hr ?_; (case hd => rfl); (case hg => rfl); (case hr => first | (go_simp; done) | (go_simp; rfl)); intro gb358 hg w4 hbox hb; have n0_ := Aside0.mk (Kd.V_below (Kd.V_elderB (by (with_reducible repeat (first | apply Kd.V_alloc | apply Kd.V_drewN | apply Kd.V_drew)); exact HO1_0.out) gb358 (Nat.le_of_eq hg.symm)) hb); have n1_ := Aside0.mk (blk_below (g := gb357) (o := .cells #[.int .i64 a0_0, .int .i64 a0_1, .int .i64 a0_2] 39 (0, 0)) (by (with_reducible repeat (first | refine blk_drewN ?_ _ | refine blk_drew ?_ | refine blk_alloc ?_ _)); exact BK357.out) hb); have n2_ := Aside0.mk (below_step (by repeat (first | (with_reducible first | exact HB.out | apply below_alloc | apply pw_below_drewN | apply below_drew1 | refine below_set ?_ GE357.out) | exact HB.out)) hb); have n3_ := Aside0.mk (hbox); have n4_ := Aside0.mk ((by rw [hg]; exact (below_size (by repeat (first | (with_reducible first | exact HB.out | apply below_alloc | apply pw_below_drewN | apply below_drew1 | refine below_set ?_ GE357.out) | exact HB.out))) : w.heap.size ≤ gb358)); have n5_ := Aside0.mk ((by rw [hg]; exact (below_size (by repeat (first | (with_reducible first | exact HB.out | apply below_alloc | apply pw_below_drewN | apply below_drew1 | refine below_set ?_ GE357.out) | exact HB.out))) : w.heap.size ≤ gb358)); have n6_ := Aside0.mk ((by rw [hg]; exact Nat.ne_of_lt (blk_lt (g := gb357) (o := .cells #[.int .i64 a0_0, .int .i64 a0_1, .int .i64 a0_2] 39 (0, 0)) (by (with_reducible repeat (first | refine blk_drewN ?_ _ | refine blk_drew ?_ | refine blk_alloc ?_ _)); exact BK357.out)) : gb357 ≠ gb358)); have n7_ := Aside0.mk ((by rw [hg]; exact Nat.ne_of_gt (blk_lt (g := gb357) (o := .cells #[.int .i64 a0_0, .int .i64 a0_1, .int .i64 a0_2] 39 (0, 0)) (by (with_reducible repeat (first | refine blk_drewN ?_ _ | refine blk_drew ?_ | refine blk_alloc ?_ _)); exact BK357.out)) : gb358 ≠ gb357)); clear HO1_0; clear BK357; clear HB; have HO1_0 := n0_; have BK357 := n1_; have HB := n2_; have BK358 := n3_; have GW358 := n4_; have GE358 := n5_; have NB357_358 := n6_; have NB358_357 := n7_; clear n0_ n1_ n2_ n3_ n4_ n5_ n6_ n7_; clear hb hbox hg; have hnb5 := NB357_358.out; have hnc5 := NB358_357.out; have hcz6_0 : w4.cell? ⟨gb357, 0, none⟩ = some (.int .i64 a0_0) := (blk_cell BK357.out 0).trans rfl; have hcz6_1 : w4.cell? ⟨gb357, 1, none⟩ = some (.int .i64 a0_1) := (blk_cell BK357.out 1).trans rfl; have hcz6_2 : w4.cell? ⟨gb357, 2, none⟩ = some (.int .i64 a0_2) := (blk_cell BK357.out 2).trans rfl; have hfz6_0 := blk_frozen BK357.out 0; have hfz6_1 := blk_frozen BK357.out 1; have hfz6_2 := blk_frozen BK357.out 2; have hcz7_0 : w4.cell? ⟨gb358, 0, none⟩ = some (.slice A1_0 l1_0.length c1_0) := (blk_cell BK358.out 0).trans rfl; have hcz7_1 : w4.cell? ⟨gb358, 1, none⟩ = some (.int .i64 a1_1) := (blk_cell BK358.out 1).trans rfl; have hfz7_0 := blk_frozen BK358.out 0; have hfz7_1 := blk_frozen BK358.out 1))
 go_loopg [7, 26] k (fun kq v7 v26 w' => ∃ (x7_1 : Int) (x26_1 : Int), v7 = .int .i64 x7_1 ∧ v26 = .int .i64 x26_1 ∧ Aside0 (spec_isFar.l0 kq x7_1 (l1_0.length : Int) x26_1 a0_0 a0_1 a0_2 l1_0 a1_1 = some (r1, r2, r3)) ∧ Aside0 (kq ≤ k) ∧ Aside0 (Kd.V (Kd.int .i64) 3 w' w.heap.size (fun k_ => (P1_0_ k_ ∨ w.heap.size ≤ k_) ∧ k_ ≠ gb357 ∧ k_ ≠ gb358) (.slice A1_0 l1_0.length c1_0) l1_0) ∧ Aside0 (w'.heap[gb357]? = some (.cells #[.int .i64 a0_0, .int .i64 a0_1, .int .i64 a0_2] 39 (0, 0))) ∧ Aside0 (w'.heap[gb358]? = some (.cells #[(.slice A1_0 l1_0.length c1_0), .int .i64 a1_1] 64 (0, 0))) ∧ Aside0 (Below w.heap.size w w'))
 case atStart => exact ⟨(wrap64 (a0_2 + 2)), (0), (by first | rfl | (simp; done) | (simp [*]; done)), (by first | rfl | (simp; done) | (simp [*]; done)), H', ⟨Nat.le_refl _⟩, ⟨by (with_reducible repeat (first | apply Kd.V_alloc | apply Kd.V_drewN | apply Kd.V_drew)); exact Kd.V_mono HO1_0.out (fun _ hk => ⟨hk.1.1, ⟨hk.1.2, hk.2⟩⟩)⟩, ⟨by (with_reducible repeat (first | refine blk_drewN ?_ _ | refine blk_drew ?_ | refine blk_alloc ?_ _)); exact BK357.out⟩, ⟨by (with_reducible repeat (first | refine blk_drewN ?_ _ | refine blk_drew ?_ | refine blk_alloc ?_ _)); exact BK358.out⟩, ⟨by repeat (first | (with_reducible first | exact HB.out | apply below_alloc | apply pw_below_drewN | apply below_drew1 | refine below_set ?_ GE357.out | refine below_set ?_ GE358.out) | exact HB.out)⟩⟩
 case round =>
  clear H'
  try clear c1
  try clear p2
  try clear c5
  try clear p6
  try clear hcz6_0
  try clear hcz6_1
  try clear hcz6_2
  try clear hcz7_0
  try clear hcz7_1
  try clear hfz6_0
  try clear hfz6_1
  try clear hfz6_2
  try clear hfz7_0
  try clear hfz7_1
  obtain ⟨x7_1, x26_1, rfl, rfl, HA, HK1, HO_359000, BK357, BK358, HB⟩ := hrel
  cases gk with
  | zero => exact absurd HA.out (by simp [spec_isFar.l0])
  | succ k1 =>
   have H := HA.out
   clear HA
   simp only [spec_isFar.l0] at H
   by_cases c8 : x26_1 < (l1_0.length : Int)
   ·rw [if_pos c8] at H
    have c8b0 : decide (x26_1 < (l1_0.length : Int)) = true := decide_eq_true c8
    clear c8
    have H' := Aside0.mk H
    clear H
    have hnb9 := NB357_358.out
    have hnc9 := NB358_357.out
    have hcz10_0 : wr.cell? ⟨gb357, 0, none⟩ = some (.int .i64 a0_0) := (blk_cell BK357.out 0).trans rfl
    have hcz10_1 : wr.cell? ⟨gb357, 1, none⟩ = some (.int .i64 a0_1) := (blk_cell BK357.out 1).trans rfl
    have hcz10_2 : wr.cell? ⟨gb357, 2, none⟩ = some (.int .i64 a0_2) := (blk_cell BK357.out 2).trans rfl
    have hfz10_0 := blk_frozen BK357.out 0
    have hfz10_1 := blk_frozen BK357.out 1
    have hfz10_2 := blk_frozen BK357.out 2
    go_wp2
    go_roundg k1
    case measure => have := HK1.out; omega
    case rel => exact ⟨(wrap64 (x7_1 * (wrap64 (a0_2 + 2)))), (wrap64 (x26_1 + 1)), (by first | rfl | (simp; done) | (simp [*]; done)), (by first | rfl | (simp; done) | (simp [*]; done)), H', ⟨by have := HK1.out; omega⟩, ⟨by (with_reducible repeat (first | apply Kd.V_alloc | apply Kd.V_drewN | apply Kd.V_drew)); exact HO_359000.out⟩, ⟨by (with_reducible repeat (first | refine blk_drewN ?_ _ | refine blk_drew ?_ | refine blk_alloc ?_ _)); exact BK357.out⟩, ⟨by (with_reducible repeat (first | refine blk_drewN ?_ _ | refine blk_drew ?_ | refine blk_alloc ?_ _)); exact BK358.out⟩, ⟨by repeat (first | (with_reducible first | exact HB.out | apply below_alloc | apply pw_below_drewN | apply below_drew1 | refine below_set ?_ GE357.out | refine below_set ?_ GE358.out) | exact HB.out)⟩⟩
   ·rw [if_neg c8] at H
    have c8b0 : decide (x26_1 < (l1_0.length : Int)) = false := decide_eq_false c8
    clear c8
    by_cases c11 : 0 ≤ x7_1
    ·rw [if_pos c11] at H
     have c11b0 := eq_true c11
     have c11b1 : decide (0 ≤ x7_1) = true := decide_eq_true c11
     clear c11
     by_cases c12 : (x7_1 : Int).toNat ≤ 35184372088832
     ·rw [if_pos c12] at H
      have c12b0 := eq_true c12
      have c12b1 : decide ((x7_1 : Int).toNat ≤ 35184372088832) = true := decide_eq_true c12
      clear c12
      obtain ⟨y359, hy359⟩ : ∃ y_ : List Int, y_ = (List.replicate (x7_1 : Int).toNat 0) := ⟨_, rfl⟩
      replace H : (spec_isFar.l1 k1 y359 (List.replicate (x7_1 : Int).toNat 0) (y359.length : Int) 0 a0_0 a0_1 a0_2 l1_0 a1_1) = some (r1, r2, r3) := by first | (rw [hy359]; with_reducible exact H) | (have H2_ := (Option.bind_some _ _).symm.trans H; rw [hy359]; with_reducible exact H2_) | (have H2_ := (Option.bind_some _ _).symm.trans H; with_reducible exact H2_) | with_reducible exact H | (rw [hy359]; exact H) | exact H
      have Ny359 := Aside0.mk hy359
      clear hy359
      obtain ⟨y362, hy362⟩ : ∃ y_ : List Int, y_ = (List.replicate (x7_1 : Int).toNat 0) := ⟨_, rfl⟩
      replace H : (spec_isFar.l1 k1 y359 y362 (y359.length : Int) 0 a0_0 a0_1 a0_2 l1_0 a1_1) = some (r1, r2, r3) := by first | (rw [hy362]; with_reducible exact H) | (have H2_ := (Option.bind_some _ _).symm.trans H; rw [hy362]; with_reducible exact H2_) | (have H2_ := (Option.bind_some _ _).symm.trans H; with_reducible exact H2_) | with_reducible exact H | (rw [hy362]; exact H) | exact H
      have Ny362 := Aside0.mk hy362
      clear hy362
      have H' := Aside0.mk H
      clear H
      try go_wp2
      have n0_ := Aside0.mk (Kd.V_drew HO_359000.out)
      have n1_ := Aside0.mk (blk_drew BK357.out)
      have n2_ := Aside0.mk (blk_drew BK358.out)
      have n3_ := Aside0.mk (below_drew1 HB.out)
      clear HO_359000
      clear BK357
      clear BK358
      clear HB
      have HO_359000 := n0_
      have BK357 := n1_
      have BK358 := n2_
      have HB := n3_
      clear n0_ n1_ n2_ n3_
      refine start_ (n := 6) (S := fun w' => True) (ds := []) #[false, false, false, false, false, false] (by kernel_rfl) rfl rfl trivial (fun hHeld => ?_)
      generalize wr.drew = w13 at HO_359000 BK357 BK358 HB hHeld ⊢
      refine pure_ (i := 0) (N := some 34) (v := ?_) (a' := ?_) #[true, false, false, false, false, false] rfl rfl (by kernel_rfl) (fun _ _ _ h => h) (Or.inl ⟨by rfl, ?_⟩) ?_ ?_
      rotate_left
      ·intro w'
       go_simp
       with_reducible rfl
      rotate_left
      ·simp only [Act.put, List.setIfInBounds_toArray, List.set_cons_zero, List.set_cons_succ, i64_w, i32_w]
       rfl
      refine pure_ (i := 2) (N := some 36) (v := ?_) (a' := ?_) #[true, false, true, false, false, false] rfl rfl (by kernel_rfl) (fun _ _ _ h => h) (Or.inl ⟨by rfl, ?_⟩) ?_ ?_
      rotate_left
      ·intro w'
       go_simp
       with_reducible rfl
      rotate_left
      ·simp only [Act.put, List.setIfInBounds_toArray, List.set_cons_zero, List.set_cons_succ, i64_w, i32_w]
       rfl
      refine join_ (σ := Value × Value) 1 #[true, true, true, true, true, false] (fun s_ => [(35, s_.1), (37, s_.2), (8, s_.1)]) (fun s_ w' => (Kd.R (Kd.int .i64) 3 w' w.heap.size (fun k_ => (w.heap.size ≤ k_) ∧ some k_ ≠ (s_.2 : Value).ownBlock) s_.1 y359) ∧ (Kd.R (Kd.int .i64) 3 w' w.heap.size (fun k_ => (w.heap.size ≤ k_) ∧ some k_ ≠ (s_.1 : Value).ownBlock) s_.2 y362) ∧ (Kd.V (Kd.int .i64) 3 w' w.heap.size (fun k_ => (P1_0_ k_ ∨ w.heap.size ≤ k_) ∧ some k_ ≠ (s_.1 : Value).ownBlock ∧ some k_ ≠ (s_.2 : Value).ownBlock ∧ k_ ≠ gb357 ∧ k_ ≠ gb358) (.slice A1_0 l1_0.length c1_0) l1_0) ∧ (w'.heap[gb357]? = some (.cells #[.int .i64 a0_0, .int .i64 a0_1, .int .i64 a0_2] 39 (0, 0))) ∧ (w'.heap[gb358]? = some (.cells #[.slice A1_0 l1_0.length c1_0, .int .i64 a1_1] 64 (0, 0))) ∧ (Below w.heap.size w w')) ?_ ?_
      rotate_left
      ·intro hCont
       refine two_ (i := 1) (j := 3) (Ni := some 35) (Nj := some 37) #[true, true, true, false, false, false] #[true, false, true, true, false, false] rfl rfl rfl rfl (by kernel_rfl) (by decide) (by decide) (fun K hK => ?_) (fun K hK => ?_)
       ·skip
        refine Kd.R_make_step (Kd.int .i64) _ 3 (by rfl) (N := 35) rfl 32 _ _ rfl x7_1 rfl rfl Try.underlying32 (.int .i64 0) 8 info3 rfl (by decide) (by omega) 0 (ok := fun _ => True) (okp := fun _ => True) rfl (fun _ hk => hk) trivial (of_decide_eq_true (by first | (with_reducible assumption) | assumption)) (Nat.le_trans (Nat.mul_le_mul_right _ (of_decide_eq_true (by first | (with_reducible assumption) | assumption) : x7_1.toNat ≤ 35184372088832)) (by omega)) (Below.refl _ _) (Nat.le_refl _) ?_
        intro v360 w14 ho15 hb hg_ hnew_
        clear hg_ hnew_
        (first | rw [← Ny359.out] at ho15 | (simp only [Int.reduceToNat] at ho15; rw [← Ny359.out] at ho15))
        have n0_ := Aside0.mk (Kd.V_elder' (by (with_reducible repeat (first | apply Kd.V_alloc | apply Kd.V_drewN | apply Kd.V_drew)); exact HO_359000.out) (Kd.R_base ho15) hb)
        have n1_ := Aside0.mk (Kd.R_lower (Kd.R_newM (M := fun k_ => (w.heap.size ≤ k_)) ho15 (below_size (by repeat (first | (with_reducible first | exact HB.out | apply below_alloc | apply pw_below_drewN | apply below_drew1 | refine below_set ?_ GE357.out | refine below_set ?_ GE358.out) | exact HB.out))) (fun k_ h_ => h_)) (below_size (by repeat (first | (with_reducible first | exact HB.out | apply below_alloc | apply pw_below_drewN | apply below_drew1 | refine below_set ?_ GE357.out | refine below_set ?_ GE358.out) | exact HB.out))))
        have n2_ := Aside0.mk (blk_below (g := gb357) (o := .cells #[.int .i64 a0_0, .int .i64 a0_1, .int .i64 a0_2] 39 (0, 0)) (by (with_reducible repeat (first | refine blk_drewN ?_ _ | refine blk_drew ?_ | refine blk_alloc ?_ _)); exact BK357.out) hb)
        have n3_ := Aside0.mk (blk_below (g := gb358) (o := .cells #[.slice A1_0 l1_0.length c1_0, .int .i64 a1_1] 64 (0, 0)) (by (with_reducible repeat (first | refine blk_drewN ?_ _ | refine blk_drew ?_ | refine blk_alloc ?_ _)); exact BK358.out) hb)
        have n4_ := Aside0.mk (below_step (by repeat (first | (with_reducible first | exact HB.out | apply below_alloc | apply pw_below_drewN | apply below_drew1 | refine below_set ?_ GE357.out | refine below_set ?_ GE358.out) | exact HB.out)) hb)
        clear HO_359000
        clear BK357
        clear BK358
        clear HB
        have HO_359000 := n0_
        have HO361 := n1_
        have BK357 := n2_
        have BK358 := n3_
        have HB := n4_
        clear n0_ n1_ n2_ n3_ n4_
        clear hb ho15
        refine hK.out _ _ trivial (fun hHeld => ?_)
        clear hK K
        refine norm_ (a' := ?_) ?_ ?_
        rotate_left
        ·show Act.put _ (some 35) _ = _
         simp only [Act.put, List.setIfInBounds_toArray, List.set_cons_zero, List.set_cons_succ, i64_w, i32_w]
         rfl
        refine pure_ (i := 4) (N := some 8) (v := ?_) (a' := ?_) #[true, true, true, false, true, false] rfl rfl (by kernel_rfl) (fun _ _ _ h => h) (Or.inl ⟨by rfl, ?_⟩) ?_ ?_
        rotate_left
        ·intro w'
         go_simp
         with_reducible rfl
        rotate_left
        ·simp only [Act.put, List.setIfInBounds_toArray, List.set_cons_zero, List.set_cons_succ, i64_w, i32_w]
         rfl
        refine one_ (i := 3) (N := some 37) #[true, true, true, true, true, false] rfl rfl (by kernel_rfl) (by decide) (fun K hK => ?_)
        refine Kd.R_make_step (Kd.int .i64) _ 3 (by rfl) (N := 37) rfl 32 _ _ rfl x7_1 rfl rfl Try.underlying32 (.int .i64 0) 8 info3 rfl (by decide) (by omega) 0 (ok := fun _ => True) (okp := fun _ => True) rfl (fun _ hk => hk) trivial (of_decide_eq_true (by first | (with_reducible assumption) | assumption)) (Nat.le_trans (Nat.mul_le_mul_right _ (of_decide_eq_true (by first | (with_reducible assumption) | assumption) : x7_1.toNat ≤ 35184372088832)) (by omega)) (Below.refl _ _) (Nat.le_refl _) ?_
        intro v363 w16 ho17 hb hg_ hnew_
        clear hg_ hnew_
        (first | rw [← Ny362.out] at ho17 | (simp only [Int.reduceToNat] at ho17; rw [← Ny362.out] at ho17))
        have n0_ := Aside0.mk (Kd.V_elder' (by (with_reducible repeat (first | apply Kd.V_alloc | apply Kd.V_drewN | apply Kd.V_drew)); exact HO_359000.out) (Kd.R_base ho17) hb)
        have n1_ := Aside0.mk (Kd.R_elder' (by (with_reducible repeat (first | apply Kd.R_alloc | apply Kd.R_drewN | apply Kd.R_drew)); exact HO361.out) (Kd.R_base ho17) hb)
        have n2_ := Aside0.mk (Kd.R_lower (Kd.R_new' (Kd.R_newM (M := fun k_ => (w.heap.size ≤ k_)) ho17 (below_size (by repeat (first | (with_reducible first | exact HB.out | apply below_alloc | apply pw_below_drewN | apply below_drew1 | refine below_set ?_ GE357.out | refine below_set ?_ GE358.out) | exact HB.out))) (fun k_ h_ => h_)) (Kd.R_lt (by (with_reducible repeat (first | apply Kd.R_alloc | apply Kd.R_drewN | apply Kd.R_drew)); exact HO361.out))) (below_size (by repeat (first | (with_reducible first | exact HB.out | apply below_alloc | apply pw_below_drewN | apply below_drew1 | refine below_set ?_ GE357.out | refine below_set ?_ GE358.out) | exact HB.out))))
        have n3_ := Aside0.mk (blk_below (g := gb357) (o := .cells #[.int .i64 a0_0, .int .i64 a0_1, .int .i64 a0_2] 39 (0, 0)) (by (with_reducible repeat (first | refine blk_drewN ?_ _ | refine blk_drew ?_ | refine blk_alloc ?_ _)); exact BK357.out) hb)
        have n4_ := Aside0.mk (blk_below (g := gb358) (o := .cells #[.slice A1_0 l1_0.length c1_0, .int .i64 a1_1] 64 (0, 0)) (by (with_reducible repeat (first | refine blk_drewN ?_ _ | refine blk_drew ?_ | refine blk_alloc ?_ _)); exact BK358.out) hb)
        have n5_ := Aside0.mk (below_step (by repeat (first | (with_reducible first | exact HB.out | apply below_alloc | apply pw_below_drewN | apply below_drew1 | refine below_set ?_ GE357.out | refine below_set ?_ GE358.out) | exact HB.out)) hb)
        clear HO_359000
        clear HO361
        clear BK357
        clear BK358
        clear HB
        have HO_359000 := n0_
        have HO361 := n1_
        have HO364 := n2_
        have BK357 := n3_
        have BK358 := n4_
        have HB := n5_
        clear n0_ n1_ n2_ n3_ n4_ n5_
        clear hb ho17
        refine hK.out _ _ trivial (fun hHeld => ?_)
        clear hK K
        refine norm_ (a' := ?_) ?_ ?_
        rotate_left
        ·show Act.put _ (some 37) _ = _
         simp only [Act.put, List.setIfInBounds_toArray, List.set_cons_zero, List.set_cons_succ, i64_w, i32_w]
         rfl
        exact norm_ (by simp only [putAll, Act.put, List.setIfInBounds_toArray, List.set_cons_zero, List.set_cons_succ]) (hCont (v360, v363) _ ⟨(by (with_reducible repeat (first | apply Kd.R_alloc | apply Kd.R_drewN | apply Kd.R_drew)); exact Kd.R_mono HO361.out (fun _ hk => ⟨hk.1.1, hk.2⟩)), (by (with_reducible repeat (first | apply Kd.R_alloc | apply Kd.R_drewN | apply Kd.R_drew)); exact Kd.R_mono HO364.out (fun _ hk => ⟨hk.1.1, hk.2⟩)), (by (with_reducible repeat (first | apply Kd.V_alloc | apply Kd.V_drewN | apply Kd.V_drew)); exact Kd.V_mono HO_359000.out (fun _ hk => ⟨hk.1.1.1, ⟨hk.1.2, ⟨hk.2, ⟨hk.1.1.2.1, hk.1.1.2.2⟩⟩⟩⟩)), (by (with_reducible repeat (first | refine blk_drewN ?_ _ | refine blk_drew ?_ | refine blk_alloc ?_ _)); exact BK357.out), (by (with_reducible repeat (first | refine blk_drewN ?_ _ | refine blk_drew ?_ | refine blk_alloc ?_ _)); exact BK358.out), (by repeat (first | (with_reducible first | exact HB.out | apply below_alloc | apply pw_below_drewN | apply below_drew1 | refine below_set ?_ GE357.out | refine below_set ?_ GE358.out) | exact HB.out))⟩)
       ·skip
        refine Kd.R_make_step (Kd.int .i64) _ 3 (by rfl) (N := 37) rfl 32 _ _ rfl x7_1 rfl rfl Try.underlying32 (.int .i64 0) 8 info3 rfl (by decide) (by omega) 0 (ok := fun _ => True) (okp := fun _ => True) rfl (fun _ hk => hk) trivial (of_decide_eq_true (by first | (with_reducible assumption) | assumption)) (Nat.le_trans (Nat.mul_le_mul_right _ (of_decide_eq_true (by first | (with_reducible assumption) | assumption) : x7_1.toNat ≤ 35184372088832)) (by omega)) (Below.refl _ _) (Nat.le_refl _) ?_
        intro v363 w14 ho15 hb hg_ hnew_
        clear hg_ hnew_
        (first | rw [← Ny362.out] at ho15 | (simp only [Int.reduceToNat] at ho15; rw [← Ny362.out] at ho15))
        have n0_ := Aside0.mk (Kd.V_elder' (by (with_reducible repeat (first | apply Kd.V_alloc | apply Kd.V_drewN | apply Kd.V_drew)); exact HO_359000.out) (Kd.R_base ho15) hb)
        have n1_ := Aside0.mk (Kd.R_lower (Kd.R_newM (M := fun k_ => (w.heap.size ≤ k_)) ho15 (below_size (by repeat (first | (with_reducible first | exact HB.out | apply below_alloc | apply pw_below_drewN | apply below_drew1 | refine below_set ?_ GE357.out | refine below_set ?_ GE358.out) | exact HB.out))) (fun k_ h_ => h_)) (below_size (by repeat (first | (with_reducible first | exact HB.out | apply below_alloc | apply pw_below_drewN | apply below_drew1 | refine below_set ?_ GE357.out | refine below_set ?_ GE358.out) | exact HB.out))))
        have n2_ := Aside0.mk (blk_below (g := gb357) (o := .cells #[.int .i64 a0_0, .int .i64 a0_1, .int .i64 a0_2] 39 (0, 0)) (by (with_reducible repeat (first | refine blk_drewN ?_ _ | refine blk_drew ?_ | refine blk_alloc ?_ _)); exact BK357.out) hb)
        have n3_ := Aside0.mk (blk_below (g := gb358) (o := .cells #[.slice A1_0 l1_0.length c1_0, .int .i64 a1_1] 64 (0, 0)) (by (with_reducible repeat (first | refine blk_drewN ?_ _ | refine blk_drew ?_ | refine blk_alloc ?_ _)); exact BK358.out) hb)
        have n4_ := Aside0.mk (below_step (by repeat (first | (with_reducible first | exact HB.out | apply below_alloc | apply pw_below_drewN | apply below_drew1 | refine below_set ?_ GE357.out | refine below_set ?_ GE358.out) | exact HB.out)) hb)
        clear HO_359000
        clear BK357
        clear BK358
        clear HB
        have HO_359000 := n0_
        have HO364 := n1_
        have BK357 := n2_
        have BK358 := n3_
        have HB := n4_
        clear n0_ n1_ n2_ n3_ n4_
        clear hb ho15
        refine hK.out _ _ trivial (fun hHeld => ?_)
        clear hK K
        refine norm_ (a' := ?_) ?_ ?_
        rotate_left
        ·show Act.put _ (some 37) _ = _
         simp only [Act.put, List.setIfInBounds_toArray, List.set_cons_zero, List.set_cons_succ, i64_w, i32_w]
         rfl
        refine one_ (i := 1) (N := some 35) #[true, true, true, true, false, false] rfl rfl (by kernel_rfl) (by decide) (fun K hK => ?_)
        refine Kd.R_make_step (Kd.int .i64) _ 3 (by rfl) (N := 35) rfl 32 _ _ rfl x7_1 rfl rfl Try.underlying32 (.int .i64 0) 8 info3 rfl (by decide) (by omega) 0 (ok := fun _ => True) (okp := fun _ => True) rfl (fun _ hk => hk) trivial (of_decide_eq_true (by first | (with_reducible assumption) | assumption)) (Nat.le_trans (Nat.mul_le_mul_right _ (of_decide_eq_true (by first | (with_reducible assumption) | assumption) : x7_1.toNat ≤ 35184372088832)) (by omega)) (Below.refl _ _) (Nat.le_refl _) ?_
        intro v360 w16 ho17 hb hg_ hnew_
        clear hg_ hnew_
        (first | rw [← Ny359.out] at ho17 | (simp only [Int.reduceToNat] at ho17; rw [← Ny359.out] at ho17))
        have n0_ := Aside0.mk (Kd.V_elder' (by (with_reducible repeat (first | apply Kd.V_alloc | apply Kd.V_drewN | apply Kd.V_drew)); exact HO_359000.out) (Kd.R_base ho17) hb)
        have n1_ := Aside0.mk (Kd.R_elder' (by (with_reducible repeat (first | apply Kd.R_alloc | apply Kd.R_drewN | apply Kd.R_drew)); exact HO364.out) (Kd.R_base ho17) hb)
        have n2_ := Aside0.mk (Kd.R_lower (Kd.R_new' (Kd.R_newM (M := fun k_ => (w.heap.size ≤ k_)) ho17 (below_size (by repeat (first | (with_reducible first | exact HB.out | apply below_alloc | apply pw_below_drewN | apply below_drew1 | refine below_set ?_ GE357.out | refine below_set ?_ GE358.out) | exact HB.out))) (fun k_ h_ => h_)) (Kd.R_lt (by (with_reducible repeat (first | apply Kd.R_alloc | apply Kd.R_drewN | apply Kd.R_drew)); exact HO364.out))) (below_size (by repeat (first | (with_reducible first | exact HB.out | apply below_alloc | apply pw_below_drewN | apply below_drew1 | refine below_set ?_ GE357.out | refine below_set ?_ GE358.out) | exact HB.out))))
        have n3_ := Aside0.mk (blk_below (g := gb357) (o := .cells #[.int .i64 a0_0, .int .i64 a0_1, .int .i64 a0_2] 39 (0, 0)) (by (with_reducible repeat (first | refine blk_drewN ?_ _ | refine blk_drew ?_ | refine blk_alloc ?_ _)); exact BK357.out) hb)
        have n4_ := Aside0.mk (blk_below (g := gb358) (o := .cells #[.slice A1_0 l1_0.length c1_0, .int .i64 a1_1] 64 (0, 0)) (by (with_reducible repeat (first | refine blk_drewN ?_ _ | refine blk_drew ?_ | refine blk_alloc ?_ _)); exact BK358.out) hb)
        have n5_ := Aside0.mk (below_step (by repeat (first | (with_reducible first | exact HB.out | apply below_alloc | apply pw_below_drewN | apply below_drew1 | refine below_set ?_ GE357.out | refine below_set ?_ GE358.out) | exact HB.out)) hb)
        clear HO_359000
        clear HO364
        clear BK357
        clear BK358
        clear HB
        have HO_359000 := n0_
        have HO364 := n1_
        have HO361 := n2_
        have BK357 := n3_
        have BK358 := n4_
        have HB := n5_
        clear n0_ n1_ n2_ n3_ n4_ n5_
        clear hb ho17
        refine hK.out _ _ trivial (fun hHeld => ?_)
        clear hK K
        refine norm_ (a' := ?_) ?_ ?_
        rotate_left
        ·show Act.put _ (some 35) _ = _
         simp only [Act.put, List.setIfInBounds_toArray, List.set_cons_zero, List.set_cons_succ, i64_w, i32_w]
         rfl
        refine pure_ (i := 4) (N := some 8) (v := ?_) (a' := ?_) #[true, true, true, true, true, false] rfl rfl (by kernel_rfl) (fun _ _ _ h => h) (Or.inl ⟨by rfl, ?_⟩) ?_ ?_
        rotate_left
        ·intro w'
         go_simp
         with_reducible rfl
        rotate_left
        ·simp only [Act.put, List.setIfInBounds_toArray, List.set_cons_zero, List.set_cons_succ, i64_w, i32_w]
         rfl
        exact norm_ (by simp only [putAll, Act.put, List.setIfInBounds_toArray, List.set_cons_zero, List.set_cons_succ]) (hCont (v360, v363) _ ⟨(by (with_reducible repeat (first | apply Kd.R_alloc | apply Kd.R_drewN | apply Kd.R_drew)); exact Kd.R_mono HO361.out (fun _ hk => ⟨hk.1.1, hk.2⟩)), (by (with_reducible repeat (first | apply Kd.R_alloc | apply Kd.R_drewN | apply Kd.R_drew)); exact Kd.R_mono HO364.out (fun _ hk => ⟨hk.1.1, hk.2⟩)), (by (with_reducible repeat (first | apply Kd.V_alloc | apply Kd.V_drewN | apply Kd.V_drew)); exact Kd.V_mono HO_359000.out (fun _ hk => ⟨hk.1.1.1, ⟨hk.2, ⟨hk.1.2, ⟨hk.1.1.2.1, hk.1.1.2.2⟩⟩⟩⟩)), (by (with_reducible repeat (first | refine blk_drewN ?_ _ | refine blk_drew ?_ | refine blk_alloc ?_ _)); exact BK357.out), (by (with_reducible repeat (first | refine blk_drewN ?_ _ | refine blk_drew ?_ | refine blk_alloc ?_ _)); exact BK358.out), (by repeat (first | (with_reducible first | exact HB.out | apply below_alloc | apply pw_below_drewN | apply below_drew1 | refine below_set ?_ GE357.out | refine below_set ?_ GE358.out) | exact HB.out))⟩)
      rintro ⟨v360, v363⟩ w18 ⟨h0_, h1_, h2_, h3_, h4_, h5_⟩
      have n0_ : Aside0 (Kd.R (Kd.int .i64) 3 w18 w.heap.size (fun k_ => (w.heap.size ≤ k_) ∧ some k_ ≠ (v363 : Value).ownBlock) v360 y359) := ⟨h0_⟩
      have n1_ : Aside0 (Kd.R (Kd.int .i64) 3 w18 w.heap.size (fun k_ => (w.heap.size ≤ k_) ∧ some k_ ≠ (v360 : Value).ownBlock) v363 y362) := ⟨h1_⟩
      have n2_ : Aside0 (Kd.V (Kd.int .i64) 3 w18 w.heap.size (fun k_ => (P1_0_ k_ ∨ w.heap.size ≤ k_) ∧ some k_ ≠ (v360 : Value).ownBlock ∧ some k_ ≠ (v363 : Value).ownBlock ∧ k_ ≠ gb357 ∧ k_ ≠ gb358) (.slice A1_0 l1_0.length c1_0) l1_0) := ⟨h2_⟩
      have n3_ : Aside0 (w18.heap[gb357]? = some (.cells #[.int .i64 a0_0, .int .i64 a0_1, .int .i64 a0_2] 39 (0, 0))) := ⟨h3_⟩
      have n4_ : Aside0 (w18.heap[gb358]? = some (.cells #[.slice A1_0 l1_0.length c1_0, .int .i64 a1_1] 64 (0, 0))) := ⟨h4_⟩
      have n5_ : Aside0 (Below w.heap.size w w18) := ⟨h5_⟩
      clear HO_359000
      clear BK357
      clear BK358
      clear HB
      clear h0_ h1_ h2_ h3_ h4_ h5_
      have HO361 := n0_
      have HO364 := n1_
      have HO_359000 := n2_
      have BK357 := n3_
      have BK358 := n4_
      have HB := n5_
      clear n0_ n1_ n2_ n3_ n4_ n5_
      have hHeld := trivial
      refine norm_ (a' := ?_) ?_ ?_
      rotate_left
      ·simp only [putAll, Act.put, List.setIfInBounds_toArray, List.set_cons_zero, List.set_cons_succ]
       rfl
      refine pure_ (i := 5) (N := some 9) (v := ?_) (a' := ?_) #[true, true, true, true, true, true] rfl rfl (by kernel_rfl) (fun _ _ _ h => h) (Or.inl ⟨by rfl, ?_⟩) ?_ ?_
      rotate_left
      ·intro w'
       go_simp
       with_reducible rfl
      rotate_left
      ·simp only [Act.put, List.setIfInBounds_toArray, List.set_cons_zero, List.set_cons_succ, i64_w, i32_w]
       rfl
      refine done_ (by kernel_rfl) ?_
      obtain ⟨Ao19, co19, eo19⟩ := Kd.R_slice HO361.out
      subst eo19
      try go_wp2
      go_loopg [40] k1 (fun kq v40 w' => ∃ (x8_2 : List Int) (x40_2 : Int), v40 = .int .i64 x40_2 ∧ Aside0 (spec_isFar.l1 kq x8_2 y362 (y359.length : Int) x40_2 a0_0 a0_1 a0_2 l1_0 a1_1 = some (r1, r2, r3)) ∧ Aside0 (kq ≤ k1) ∧ Aside0 (Kd.R (Kd.int .i64) 3 w' w.heap.size (fun k_ => (w.heap.size ≤ k_) ∧ some k_ ≠ (v363 : Value).ownBlock) (.slice Ao19 y359.length co19) x8_2) ∧ Aside0 (Kd.R (Kd.int .i64) 3 w' w.heap.size (fun k_ => (w.heap.size ≤ k_) ∧ some k_ ≠ ((.slice Ao19 y359.length co19) : Value).ownBlock) v363 y362) ∧ Aside0 (Kd.V (Kd.int .i64) 3 w' w.heap.size (fun k_ => (P1_0_ k_ ∨ w.heap.size ≤ k_) ∧ some k_ ≠ ((.slice Ao19 y359.length co19) : Value).ownBlock ∧ some k_ ≠ (v363 : Value).ownBlock ∧ k_ ≠ gb357 ∧ k_ ≠ gb358) (.slice A1_0 l1_0.length c1_0) l1_0) ∧ Aside0 (w'.heap[gb357]? = some (.cells #[.int .i64 a0_0, .int .i64 a0_1, .int .i64 a0_2] 39 (0, 0))) ∧ Aside0 (w'.heap[gb358]? = some (.cells #[(.slice A1_0 l1_0.length c1_0), .int .i64 a1_1] 64 (0, 0))) ∧ Aside0 (Below w.heap.size w w'))
      case atStart => exact ⟨(y359), (0), (by first | rfl | (simp; done) | (simp [*]; done)), H', ⟨Nat.le_refl _⟩, ⟨by (with_reducible repeat (first | apply Kd.R_alloc | apply Kd.R_drewN | apply Kd.R_drew)); exact HO361.out⟩, ⟨by (with_reducible repeat (first | apply Kd.R_alloc | apply Kd.R_drewN | apply Kd.R_drew)); exact HO364.out⟩, ⟨by (with_reducible repeat (first | apply Kd.V_alloc | apply Kd.V_drewN | apply Kd.V_drew)); exact HO_359000.out⟩, ⟨by (with_reducible repeat (first | refine blk_drewN ?_ _ | refine blk_drew ?_ | refine blk_alloc ?_ _)); exact BK357.out⟩, ⟨by (with_reducible repeat (first | refine blk_drewN ?_ _ | refine blk_drew ?_ | refine blk_alloc ?_ _)); exact BK358.out⟩, ⟨by repeat (first | (with_reducible first | exact HB.out | apply below_alloc | apply pw_below_drewN | apply below_drew1 | refine below_set ?_ GE357.out | refine below_set ?_ GE358.out) | exact HB.out)⟩⟩
      case round =>
       clear H'
       try clear c1
       try clear p2
       try clear c5
       try clear p6
       try clear c8
       try clear c8b0
       try clear c9
       try clear c11
       try clear c11b0
       try clear c11b1
       try clear c12
       try clear c12b0
       try clear c12b1
       try clear c14
       try clear hcz10_0
       try clear hcz10_1
       try clear hcz10_2
       try clear hcz6_0
       try clear hcz6_1
       try clear hcz6_2
       try clear hcz7_0
       try clear hcz7_1
       try clear hfz10_0
       try clear hfz10_1
       try clear hfz10_2
       try clear hfz6_0
       try clear hfz6_1
       try clear hfz6_2
       try clear hfz7_0
       try clear hfz7_1
       try clear p2
       try clear p6
       obtain ⟨x8_2, x40_2, rfl, HA, HK2, HO_8, HO_9, HO_359000, BK357, BK358, HB⟩ := hrel
       have hl8_2 := (Kd.R_reads' HO_8.out).1
       rw [hl8_2] at HO_8
       (try simp only [hl8_2])
       (try simp only [hl8_2] at BK357)
       (try simp only [hl8_2] at BK358)
       (try simp only [hl8_2] at HO_9)
       (try simp only [hl8_2] at HO_359000)
       cases gk with
       | zero => exact absurd HA.out (by simp [spec_isFar.l1])
       | succ k2 =>
        have H := HA.out
        clear HA
        simp only [spec_isFar.l1] at H
        by_cases c20 : x40_2 < (y359.length : Int)
        ·rw [if_pos c20] at H
         have c20b0 : decide (x40_2 < (y359.length : Int)) = true := decide_eq_true c20
         clear c20
         by_cases c21 : 0 ≤ x40_2
         ·rw [if_pos c21] at H
          have c21b0 : decide (0 ≤ x40_2) = true := decide_eq_true c21
          clear c21
          by_cases c22 : x40_2 < (x8_2.length : Int)
          ·rw [if_pos c22] at H
           have c22b0 : decide (x40_2 < (x8_2.length : Int)) = true := decide_eq_true c22
           clear c22
           obtain ⟨y365, hy365⟩ : ∃ y_ : List Int, y_ = (x8_2.set (x40_2 : Int).toNat (-1)) := ⟨_, rfl⟩
           replace H : (spec_isFar.l1 k2 y365 y362 (y359.length : Int) (wrap64 (x40_2 + 1)) a0_0 a0_1 a0_2 l1_0 a1_1) = some (r1, r2, r3) := by first | (rw [hy365]; with_reducible exact H) | (have H2_ := (Option.bind_some _ _).symm.trans H; rw [hy365]; with_reducible exact H2_) | (have H2_ := (Option.bind_some _ _).symm.trans H; with_reducible exact H2_) | with_reducible exact H | (rw [hy365]; exact H) | exact H
           have Ny365 := Aside0.mk hy365
           clear hy365
           have H' := Aside0.mk H
           clear H
           have p23 : 0 ≤ (x40_2 : Int) := of_decide_eq_true (by first | (with_reducible assumption) | assumption)
           have q23 : (x40_2 : Int) < ((x8_2.length : Int) : Int) := of_decide_eq_true (by first | (with_reducible assumption) | assumption)
           obtain ⟨go23, co23, eo23, gb23, gl23, cl23, HG23⟩ := Kd.R_form HO_8.out (by omega)
           (first | cases eo23 | (injection eo23 with ea_ en_ ec_; (first | subst ea_ | (injection ea_ with ea_; subst ea_)); subst ec_; clear en_))
           have GB23 := Aside0.mk gb23
           have GG23 := Aside0.mk HG23
           clear gb23 gl23 HG23
           obtain ⟨hx23_0, hf23_0⟩ := Kd.R_celln 0 HO_8.out (x40_2 : Int) p23 q23
           replace p23 := eq_true p23
           replace q23 := eq_true q23
           have HP24 := Kd.R_putg HO_8.out (x40_2 : Int) (-1)
           go_wp2_with (first | ((with_reducible refine gate_store (t := 3) (p := 45) rfl ?_); refine store_event (t := 3) (p := 45) (v := ?vo_w25) (w1 := (wr.setCell ⟨go23, (x40_2 : Int).toNat, none⟩ (.int .i64 (-1)))) ?hg ?ho ?hn ?hr ?_; (case ho => rfl); (case hg => rfl); (case hn => rfl); (case hr => first | (go_simp; done) | (go_simp; rfl)); intro w25 hw; have hg : wr.grownBy w25 (some go23) := (by rw [hw]; exact HP24.2); have hp_ : Kd.R (Kd.int .i64) 3 w25 w.heap.size (fun k_ => (w.heap.size ≤ k_) ∧ some k_ ≠ (v363 : Value).ownBlock) (.slice (some ⟨go23, 0, none⟩) x8_2.length co19) y365 := (by rw [hw, Ny365.out]; exact HP24.1); clear HP24; have n0_ := Aside0.mk (hp_); have n1_ := Aside0.mk (Kd.R_after (v := (.slice (some ⟨go23, 0, none⟩) x8_2.length co19)) (v1 := (.slice (some ⟨go23, 0, none⟩) x8_2.length co19)) (ok := (fun k_ => (w.heap.size ≤ k_))) (by (with_reducible repeat (first | apply Kd.R_alloc | apply Kd.R_drewN | apply Kd.R_drew)); exact HO_9.out) hg (.inl rfl)); have n2_ := Aside0.mk (Kd.V_afterv (v := (.slice (some ⟨go23, 0, none⟩) x8_2.length co19)) (v1 := (.slice (some ⟨go23, 0, none⟩) x8_2.length co19)) (ok := (fun k_ => (P1_0_ k_ ∨ w.heap.size ≤ k_) ∧ some k_ ≠ (v363 : Value).ownBlock ∧ k_ ≠ gb357 ∧ k_ ≠ gb358)) (by (with_reducible repeat (first | apply Kd.V_alloc | apply Kd.V_drewN | apply Kd.V_drew)); exact Kd.V_mono HO_359000.out (fun _ hk => ⟨⟨hk.1, ⟨hk.2.2.1, ⟨hk.2.2.2.1, hk.2.2.2.2⟩⟩⟩, hk.2.1⟩)) hg (.inl rfl)); have n3_ := Aside0.mk (blk_grown (g := gb357) (o := .cells #[.int .i64 a0_0, .int .i64 a0_1, .int .i64 a0_2] 39 (0, 0)) (by (with_reducible repeat (first | refine blk_drewN ?_ _ | refine blk_drew ?_ | refine blk_alloc ?_ _)); exact BK357.out) hg (Kd.R_ne HO_8.out BK357.out (by decide))); have n4_ := Aside0.mk (blk_grown (g := gb358) (o := .cells #[.slice A1_0 l1_0.length c1_0, .int .i64 a1_1] 64 (0, 0)) (by (with_reducible repeat (first | refine blk_drewN ?_ _ | refine blk_drew ?_ | refine blk_alloc ?_ _)); exact BK358.out) hg (Kd.R_ne HO_8.out BK358.out (by decide))); have n5_ := Aside0.mk ((by rw [hw]; exact below_set (HB.out) GB23.out : Below w.heap.size w w25)); clear HO_8; clear HO_9; clear HO_359000; clear BK357; clear BK358; clear HB; have HO_8 := n0_; have HO_9 := n1_; have HO_359000 := n2_; have BK357 := n3_; have BK358 := n4_; have HB := n5_; clear n0_ n1_ n2_ n3_ n4_ n5_; clear hg hw hp_))
           (try simp only [← hl8_2])
           go_roundg k2
           case measure => have := HK1.out; have := HK2.out; omega
           case rel => exact ⟨(y365), (wrap64 (x40_2 + 1)), (by first | rfl | (simp; done) | (simp [*]; done)), H', ⟨by have := HK1.out; have := HK2.out; omega⟩, ⟨by (try simp only [hl8_2]); (with_reducible repeat (first | apply Kd.R_alloc | apply Kd.R_drewN | apply Kd.R_drew)); exact HO_8.out⟩, ⟨by (try simp only [hl8_2]); (with_reducible repeat (first | apply Kd.R_alloc | apply Kd.R_drewN | apply Kd.R_drew)); exact HO_9.out⟩, ⟨by (try simp only [hl8_2]); (with_reducible repeat (first | apply Kd.V_alloc | apply Kd.V_drewN | apply Kd.V_drew)); exact Kd.V_mono HO_359000.out (fun _ hk => ⟨hk.1.1, ⟨hk.2, ⟨hk.1.2.1, ⟨hk.1.2.2.1, hk.1.2.2.2⟩⟩⟩⟩)⟩, ⟨by (try simp only [hl8_2]); (with_reducible repeat (first | refine blk_drewN ?_ _ | refine blk_drew ?_ | refine blk_alloc ?_ _)); exact BK357.out⟩, ⟨by (try simp only [hl8_2]); (with_reducible repeat (first | refine blk_drewN ?_ _ | refine blk_drew ?_ | refine blk_alloc ?_ _)); exact BK358.out⟩, ⟨by repeat (first | (with_reducible first | exact HB.out | apply below_alloc | apply pw_below_drewN | apply below_drew1 | refine below_set ?_ GE357.out | refine below_set ?_ GE358.out) | exact HB.out)⟩⟩
          ·rw [if_neg c22] at H
           exact absurd H (by simp)
         ·rw [if_neg c21] at H
          exact absurd H (by simp)
        ·rw [if_neg c20] at H
         have c20b0 : decide (x40_2 < (y359.length : Int)) = false := decide_eq_false c20
         clear c20
         replace H := Option.bind_eq_some_iff.mp H
         obtain ⟨t366, A260, H⟩ := H
         replace H : (if 0 ≤ t366 then (if t366 < (x8_2.length : Int) then (if t366 < (y362.length : Int) then (spec_isFar.l2 k2 (x8_2.set (t366 : Int).toNat 0) (y362.set (t366 : Int).toNat 1) (([(⟨l1_0, a1_1⟩ : S64)] : List (S64))) 0 a0_0 a0_1 a0_2) else (none)) else (none)) else (none)) = some (r1, r2, r3) := H
         have A26 := Aside0.mk A260
         clear A260
         by_cases c27 : 0 ≤ t366
         ·rw [if_pos c27] at H
          have c27b0 : decide (0 ≤ t366) = true := decide_eq_true c27
          clear c27
          by_cases c28 : t366 < (x8_2.length : Int)
          ·rw [if_pos c28] at H
           have c28b0 : decide (t366 < (x8_2.length : Int)) = true := decide_eq_true c28
           clear c28
           obtain ⟨y367, hy367⟩ : ∃ y_ : List Int, y_ = (x8_2.set (t366 : Int).toNat 0) := ⟨_, rfl⟩
           replace H : (if t366 < (y362.length : Int) then (spec_isFar.l2 k2 y367 (y362.set (t366 : Int).toNat 1) (([(⟨l1_0, a1_1⟩ : S64)] : List (S64))) 0 a0_0 a0_1 a0_2) else (none)) = some (r1, r2, r3) := by first | (rw [hy367]; with_reducible exact H) | (have H2_ := (Option.bind_some _ _).symm.trans H; rw [hy367]; with_reducible exact H2_) | (have H2_ := (Option.bind_some _ _).symm.trans H; with_reducible exact H2_) | with_reducible exact H | (rw [hy367]; exact H) | exact H
           have Ny367 := Aside0.mk hy367
           clear hy367
           by_cases c30 : t366 < (y362.length : Int)
           ·rw [if_pos c30] at H
            have c30b0 : decide (t366 < (y362.length : Int)) = true := decide_eq_true c30
            clear c30
            obtain ⟨y368, hy368⟩ : ∃ y_ : List Int, y_ = (y362.set (t366 : Int).toNat 1) := ⟨_, rfl⟩
            replace H : (spec_isFar.l2 k2 y367 y368 (([(⟨l1_0, a1_1⟩ : S64)] : List (S64))) 0 a0_0 a0_1 a0_2) = some (r1, r2, r3) := by first | (rw [hy368]; with_reducible exact H) | (have H2_ := (Option.bind_some _ _).symm.trans H; rw [hy368]; with_reducible exact H2_) | (have H2_ := (Option.bind_some _ _).symm.trans H; with_reducible exact H2_) | with_reducible exact H | (rw [hy368]; exact H) | exact H
            have Ny368 := Aside0.mk hy368
            clear hy368
            obtain ⟨y369, hy369⟩ : ∃ y_ : List (S64), y_ = (([(⟨l1_0, a1_1⟩ : S64)] : List (S64))) := ⟨_, rfl⟩
            replace H : (spec_isFar.l2 k2 y367 y368 y369 0 a0_0 a0_1 a0_2) = some (r1, r2, r3) := by first | (rw [hy369]; with_reducible exact H) | (have H2_ := (Option.bind_some _ _).symm.trans H; rw [hy369]; with_reducible exact H2_) | (have H2_ := (Option.bind_some _ _).symm.trans H; with_reducible exact H2_) | with_reducible exact H | (rw [hy369]; exact H) | exact H
            have Ny369 := Aside0.mk hy369
            clear hy369
            have H' := Aside0.mk H
            clear H
            have hnb32 := NB357_358.out
            have hnc32 := NB358_357.out
            have hcz33_0 : wr.cell? ⟨gb357, 0, none⟩ = some (.int .i64 a0_0) := (blk_cell BK357.out 0).trans rfl
            have hcz33_1 : wr.cell? ⟨gb357, 1, none⟩ = some (.int .i64 a0_1) := (blk_cell BK357.out 1).trans rfl
            have hcz33_2 : wr.cell? ⟨gb357, 2, none⟩ = some (.int .i64 a0_2) := (blk_cell BK357.out 2).trans rfl
            have hfz33_0 := blk_frozen BK357.out 0
            have hfz33_1 := blk_frozen BK357.out 1
            have hfz33_2 := blk_frozen BK357.out 2
            have hcz34_0 : wr.cell? ⟨gb358, 0, none⟩ = some (.slice A1_0 l1_0.length c1_0) := (blk_cell BK358.out 0).trans rfl
            have hcz34_1 : wr.cell? ⟨gb358, 1, none⟩ = some (.int .i64 a1_1) := (blk_cell BK358.out 1).trans rfl
            have hfz34_0 := blk_frozen BK358.out 0
            have hfz34_1 := blk_frozen BK358.out 1
            have c20bb : decide (x40_2 < (x8_2.length : Int)) = false := by rw [← hl8_2]; exact c20b0
            go_wp2_with (first | ((with_reducible refine gate_callee (f := 190) rfl ?_); refine goesL_ (some 49) rfl rfl Try.func190 (by kernel_rfl) rfl #[.agg #[.int .i64 a0_0, .int .i64 a0_1, .int .i64 a0_2], .agg #[.slice A1_0 l1_0.length c1_0, .int .i64 a1_1]] rfl (by (try simp only [List.map_toArray, List.map_cons, List.map_nil]); first | done | rfl | (simp only [List.length_drop, List.length_take]; rfl)) ?_; (with_reducible refine (spec_isCode.calls k2 a0_0 a0_1 a0_2 _ _ l1_0 a1_1 t366 _ ?side1 ?side2 A26.out).mono ?_); (case side1 => repeat (first | exact (Kd.V_reads' HO_359000.out).2.2 | (with_reducible refine Kd.C_alloc ?_ _) | (with_reducible refine Kd.C_drewN ?_ _) | (with_reducible refine Kd.C_drew ?_))); (case side2 => exact (Kd.V_reads' HO_359000.out).2.1); rintro e w35 ⟨rfl, hb⟩; refine ⟨_, rfl, ?_⟩; have n0_ := Aside0.mk (Kd.R_below (by (with_reducible repeat (first | apply Kd.R_alloc | apply Kd.R_drewN | apply Kd.R_drew)); exact HO_8.out) hb); have n1_ := Aside0.mk (Kd.R_below (by (with_reducible repeat (first | apply Kd.R_alloc | apply Kd.R_drewN | apply Kd.R_drew)); exact HO_9.out) hb); have n2_ := Aside0.mk (Kd.V_below (by (with_reducible repeat (first | apply Kd.V_alloc | apply Kd.V_drewN | apply Kd.V_drew)); exact HO_359000.out) hb); have n3_ := Aside0.mk (blk_below (g := gb357) (o := .cells #[.int .i64 a0_0, .int .i64 a0_1, .int .i64 a0_2] 39 (0, 0)) (by (with_reducible repeat (first | refine blk_drewN ?_ _ | refine blk_drew ?_ | refine blk_alloc ?_ _)); exact BK357.out) hb); have n4_ := Aside0.mk (blk_below (g := gb358) (o := .cells #[.slice A1_0 l1_0.length c1_0, .int .i64 a1_1] 64 (0, 0)) (by (with_reducible repeat (first | refine blk_drewN ?_ _ | refine blk_drew ?_ | refine blk_alloc ?_ _)); exact BK358.out) hb); have n5_ := Aside0.mk (below_step (by repeat (first | (with_reducible first | exact HB.out | apply below_alloc | apply pw_below_drewN | apply below_drew1 | refine below_set ?_ GE357.out | refine below_set ?_ GE358.out) | exact HB.out)) hb); clear HO_8; clear HO_9; clear HO_359000; clear BK357; clear BK358; clear HB; have HO_8 := n0_; have HO_9 := n1_; have HO_359000 := n2_; have BK357 := n3_; have BK358 := n4_; have HB := n5_; clear n0_ n1_ n2_ n3_ n4_ n5_; (try clear hb); (try clear hb2); (try clear hk); (try clear hi); have p29 : 0 ≤ (t366 : Int) := of_decide_eq_true (by first | (with_reducible assumption) | assumption); have q29 : (t366 : Int) < ((x8_2.length : Int) : Int) := of_decide_eq_true (by first | (with_reducible assumption) | assumption); obtain ⟨go29, co29, eo29, gb29, gl29, cl29, HG29⟩ := Kd.R_form HO_8.out (by omega); (first | cases eo29 | (injection eo29 with ea_ en_ ec_; (first | subst ea_ | (injection ea_ with ea_; subst ea_)); subst ec_; clear en_)); have GB29 := Aside0.mk gb29; have GG29 := Aside0.mk HG29; clear gb29 gl29 HG29; obtain ⟨hx29_0, hf29_0⟩ := Kd.R_celln 0 HO_8.out (t366 : Int) p29 q29; replace p29 := eq_true p29; replace q29 := eq_true q29; obtain ⟨hy36_, hz36_⟩ := Kd.R_celln 0 HO_8.out (t366 : Int) (of_decide_eq_true (by first | (with_reducible assumption) | assumption)) (of_decide_eq_true (by first | (with_reducible assumption) | assumption)); have HP36 := Kd.R_putg HO_8.out (t366 : Int) 0) | ((with_reducible refine gate_store (t := 3) (p := 52) rfl ?_); refine store_event (t := 3) (p := 52) (v := ?vo_w37) (w1 := (w35.setCell ⟨go29, (t366 : Int).toNat, none⟩ (.int .i64 0))) ?hg ?ho ?hn ?hr ?_; (case ho => rfl); (case hg => rfl); (case hn => rfl); (case hr => first | (go_simp; done) | (go_simp; rfl)); intro w37 hw; have hg : w35.grownBy w37 (some go29) := (by rw [hw]; exact HP36.2); have hp_ : Kd.R (Kd.int .i64) 3 w37 w.heap.size (fun k_ => (w.heap.size ≤ k_) ∧ some k_ ≠ (v363 : Value).ownBlock) (.slice (some ⟨go29, 0, none⟩) x8_2.length co19) y367 := (by rw [hw, Ny367.out]; exact HP36.1); clear HP36; have n0_ := Aside0.mk (hp_); have n1_ := Aside0.mk (Kd.R_after (v := (.slice (some ⟨go29, 0, none⟩) x8_2.length co19)) (v1 := (.slice (some ⟨go29, 0, none⟩) x8_2.length co19)) (ok := (fun k_ => (w.heap.size ≤ k_))) (by (with_reducible repeat (first | apply Kd.R_alloc | apply Kd.R_drewN | apply Kd.R_drew)); exact HO_9.out) hg (.inl rfl)); have n2_ := Aside0.mk (Kd.V_afterv (v := (.slice (some ⟨go29, 0, none⟩) x8_2.length co19)) (v1 := (.slice (some ⟨go29, 0, none⟩) x8_2.length co19)) (ok := (fun k_ => (P1_0_ k_ ∨ w.heap.size ≤ k_) ∧ some k_ ≠ (v363 : Value).ownBlock ∧ k_ ≠ gb357 ∧ k_ ≠ gb358)) (by (with_reducible repeat (first | apply Kd.V_alloc | apply Kd.V_drewN | apply Kd.V_drew)); exact Kd.V_mono HO_359000.out (fun _ hk => ⟨⟨hk.1, ⟨hk.2.2.1, ⟨hk.2.2.2.1, hk.2.2.2.2⟩⟩⟩, hk.2.1⟩)) hg (.inl rfl)); have n3_ := Aside0.mk (blk_grown (g := gb357) (o := .cells #[.int .i64 a0_0, .int .i64 a0_1, .int .i64 a0_2] 39 (0, 0)) (by (with_reducible repeat (first | refine blk_drewN ?_ _ | refine blk_drew ?_ | refine blk_alloc ?_ _)); exact BK357.out) hg (Kd.R_ne HO_8.out BK357.out (by decide))); have n4_ := Aside0.mk (blk_grown (g := gb358) (o := .cells #[.slice A1_0 l1_0.length c1_0, .int .i64 a1_1] 64 (0, 0)) (by (with_reducible repeat (first | refine blk_drewN ?_ _ | refine blk_drew ?_ | refine blk_alloc ?_ _)); exact BK358.out) hg (Kd.R_ne HO_8.out BK358.out (by decide))); have n5_ := Aside0.mk ((by rw [hw]; exact below_set (HB.out) GB29.out : Below w.heap.size w w37)); clear HO_8; clear HO_9; clear HO_359000; clear BK357; clear BK358; clear HB; have HO_8 := n0_; have HO_9 := n1_; have HO_359000 := n2_; have BK357 := n3_; have BK358 := n4_; have HB := n5_; clear n0_ n1_ n2_ n3_ n4_ n5_; clear hg hw hp_; have p31 : 0 ≤ (t366 : Int) := of_decide_eq_true (by first | (with_reducible assumption) | assumption); have q31 : (t366 : Int) < ((y362.length : Int) : Int) := of_decide_eq_true (by first | (with_reducible assumption) | assumption); obtain ⟨go31, co31, eo31, gb31, gl31, cl31, HG31⟩ := Kd.R_form HO_9.out (by omega); (first | cases eo31 | (injection eo31 with ea_ en_ ec_; (first | subst ea_ | (injection ea_ with ea_; subst ea_)); subst ec_; clear en_)); have GB31 := Aside0.mk gb31; have GG31 := Aside0.mk HG31; clear gb31 gl31 HG31; obtain ⟨hx31_0, hf31_0⟩ := Kd.R_celln 0 HO_9.out (t366 : Int) p31 q31; replace p31 := eq_true p31; replace q31 := eq_true q31; obtain ⟨hy38_, hz38_⟩ := Kd.R_celln 0 HO_9.out (t366 : Int) (of_decide_eq_true (by first | (with_reducible assumption) | assumption)) (of_decide_eq_true (by first | (with_reducible assumption) | assumption)); have HP38 := Kd.R_putg HO_9.out (t366 : Int) 1) | ((with_reducible refine gate_store (t := 3) (p := 55) rfl ?_); refine store_event (t := 3) (p := 55) (v := ?vo_w39) (w1 := (w37.setCell ⟨go31, (t366 : Int).toNat, none⟩ (.int .i64 1))) ?hg ?ho ?hn ?hr ?_; (case ho => rfl); (case hg => rfl); (case hn => rfl); (case hr => first | (go_simp; done) | (go_simp; rfl)); intro w39 hw; have hg : w37.grownBy w39 (some go31) := (by rw [hw]; exact HP38.2); have hp_ : Kd.R (Kd.int .i64) 3 w39 w.heap.size (fun k_ => (w.heap.size ≤ k_) ∧ some k_ ≠ (.slice (some ⟨go29, 0, none⟩) x8_2.length co19 : Value).ownBlock) (.slice (some ⟨go31, 0, none⟩) y362.length co31) y368 := (by rw [hw, Ny368.out]; exact HP38.1); clear HP38; have n0_ := Aside0.mk (Kd.R_after (v := (.slice (some ⟨go31, 0, none⟩) y362.length co31)) (v1 := (.slice (some ⟨go31, 0, none⟩) y362.length co31)) (ok := (fun k_ => (w.heap.size ≤ k_))) (by (with_reducible repeat (first | apply Kd.R_alloc | apply Kd.R_drewN | apply Kd.R_drew)); exact HO_8.out) hg (.inl rfl)); have n1_ := Aside0.mk (hp_); have n2_ := Aside0.mk (Kd.V_afterv (v := (.slice (some ⟨go31, 0, none⟩) y362.length co31)) (v1 := (.slice (some ⟨go31, 0, none⟩) y362.length co31)) (ok := (fun k_ => (P1_0_ k_ ∨ w.heap.size ≤ k_) ∧ some k_ ≠ (.slice (some ⟨go29, 0, none⟩) x8_2.length co19 : Value).ownBlock ∧ k_ ≠ gb357 ∧ k_ ≠ gb358)) (by (with_reducible repeat (first | apply Kd.V_alloc | apply Kd.V_drewN | apply Kd.V_drew)); exact Kd.V_mono HO_359000.out (fun _ hk => ⟨⟨hk.1.1, ⟨hk.2, ⟨hk.1.2.2.1, hk.1.2.2.2⟩⟩⟩, hk.1.2.1⟩)) hg (.inl rfl)); have n3_ := Aside0.mk (blk_grown (g := gb357) (o := .cells #[.int .i64 a0_0, .int .i64 a0_1, .int .i64 a0_2] 39 (0, 0)) (by (with_reducible repeat (first | refine blk_drewN ?_ _ | refine blk_drew ?_ | refine blk_alloc ?_ _)); exact BK357.out) hg (Kd.R_ne HO_9.out BK357.out (by decide))); have n4_ := Aside0.mk (blk_grown (g := gb358) (o := .cells #[.slice A1_0 l1_0.length c1_0, .int .i64 a1_1] 64 (0, 0)) (by (with_reducible repeat (first | refine blk_drewN ?_ _ | refine blk_drew ?_ | refine blk_alloc ?_ _)); exact BK358.out) hg (Kd.R_ne HO_9.out BK358.out (by decide))); have n5_ := Aside0.mk ((by rw [hw]; exact below_set (HB.out) GB31.out : Below w.heap.size w w39)); clear HO_8; clear HO_9; clear HO_359000; clear BK357; clear BK358; clear HB; have HO_8 := n0_; have HO_9 := n1_; have HO_359000 := n2_; have BK357 := n3_; have BK358 := n4_; have HB := n5_; clear n0_ n1_ n2_ n3_ n4_ n5_; clear hg hw hp_; have hcz40_0 : w39.cell? ⟨gb358, 0, none⟩ = some (.slice A1_0 l1_0.length c1_0) := (blk_cell BK358.out 0).trans rfl; have hcz40_1 : w39.cell? ⟨gb358, 1, none⟩ = some (.int .i64 a1_1) := (blk_cell BK358.out 1).trans rfl; have hfz40_0 := blk_frozen BK358.out 0; have hfz40_1 := blk_frozen BK358.out 1) | ((with_reducible refine gate_dst (N := 57) rfl ?_); refine Kd.N_lit k64 _ 64 ?hg (N' := 57) ?hd (xs := ([(⟨l1_0, a1_1⟩ : S64)] : List (S64))) (inner := [.slice A1_0 l1_0.length c1_0, .int .i64 a1_1]) (ok := (fun k_ => (P1_0_ k_ ∨ w.heap.size ≤ k_) ∧ some k_ ≠ (.slice (some ⟨go29, 0, none⟩) x8_2.length co19 : Value).ownBlock ∧ some k_ ≠ (.slice (some ⟨go31, 0, none⟩) y362.length co31 : Value).ownBlock ∧ k_ ≠ gb357 ∧ k_ ≠ gb358)) (okp := (fun k_ => (P1_0_ k_ ∨ w.heap.size ≤ k_) ∧ some k_ ≠ (.slice (some ⟨go29, 0, none⟩) x8_2.length co19 : Value).ownBlock ∧ some k_ ≠ (.slice (some ⟨go31, 0, none⟩) y362.length co31 : Value).ownBlock ∧ k_ ≠ gb357 ∧ k_ ≠ gb358)) ?hr ?hp (fun _ hk => hk) ((show ∀ k_, w39.heap.size ≤ k_ → (fun k_ => (P1_0_ k_ ∨ w.heap.size ≤ k_) ∧ some k_ ≠ (.slice (some ⟨go29, 0, none⟩) x8_2.length co19 : Value).ownBlock ∧ some k_ ≠ (.slice (some ⟨go31, 0, none⟩) y362.length co31 : Value).ownBlock ∧ k_ ≠ gb357 ∧ k_ ≠ gb358) k_ from fun k_ hk => ⟨(.inr (Nat.le_trans (below_size (by repeat (first | (with_reducible first | exact HB.out | apply below_alloc | apply pw_below_drewN | apply below_drew1 | refine below_set ?_ GE357.out | refine below_set ?_ GE358.out) | exact HB.out))) hk)), Kd.fresh' (Kd.R_lt (by (with_reducible repeat (first | apply Kd.R_alloc | apply Kd.R_drewN | apply Kd.R_drew)); exact HO_8.out)) k_ hk, Kd.fresh' (Kd.R_lt (by (with_reducible repeat (first | apply Kd.R_alloc | apply Kd.R_drewN | apply Kd.R_drew)); exact HO_9.out)) k_ hk, Kd.freshB (g := gb357) (o := .cells #[.int .i64 a0_0, .int .i64 a0_1, .int .i64 a0_2] 39 (0, 0)) (by (with_reducible repeat (first | refine blk_drewN ?_ _ | refine blk_drew ?_ | refine blk_alloc ?_ _)); exact BK357.out) k_ hk, Kd.freshB (g := gb358) (o := .cells #[.slice A1_0 l1_0.length c1_0, .int .i64 a1_1] 64 (0, 0)) (by (with_reducible repeat (first | refine blk_drewN ?_ _ | refine blk_drew ?_ | refine blk_alloc ?_ _)); exact BK358.out) k_ hk⟩) _ (Nat.le_refl _)) (Below.refl _ _) (Nat.le_refl _) (by simp) ?_; (case hd => rfl); (case hg => rfl); (case hr => first | (go_simp; done) | (go_simp; rfl)); (case hp => exact (Reps.c2 (show Kd.FK k64 _ _ (⟨l1_0, a1_1⟩ : S64) [.slice A1_0 l1_0.length c1_0, .int .i64 a1_1] from (k64_mkF _ _ (⟨l1_0, a1_1⟩ : S64) (Kd.V_reads' (Kd.V_mono (ok' := (fun k_ => (P1_0_ k_ ∨ w.heap.size ≤ k_) ∧ some k_ ≠ (.slice (some ⟨go29, 0, none⟩) x8_2.length co19 : Value).ownBlock ∧ some k_ ≠ (.slice (some ⟨go31, 0, none⟩) y362.length co31 : Value).ownBlock ∧ k_ ≠ gb357 ∧ k_ ≠ gb358)) (HO_359000.out) (fun k_ hk => ⟨hk.1.1, ⟨hk.1.2.1, ⟨hk.2, ⟨hk.1.2.2.1, hk.1.2.2.2⟩⟩⟩⟩))).2.1 (Kd.V_F (Kd.V_mono (ok' := (fun k_ => (P1_0_ k_ ∨ w.heap.size ≤ k_) ∧ some k_ ≠ (.slice (some ⟨go29, 0, none⟩) x8_2.length co19 : Value).ownBlock ∧ some k_ ≠ (.slice (some ⟨go31, 0, none⟩) y362.length co31 : Value).ownBlock ∧ k_ ≠ gb357 ∧ k_ ≠ gb358)) (HO_359000.out) (fun k_ hk => ⟨hk.1.1, ⟨hk.1.2.1, ⟨hk.2, ⟨hk.1.2.2.1, hk.1.2.2.2⟩⟩⟩⟩))))) (Reps.none _ _))); intro v370 w41 ho42 hb hg_ hnew_; clear hg_ hnew_; (first | rw [← Ny369.out] at ho42 | (simp only [Int.reduceToNat] at ho42; rw [← Ny369.out] at ho42)); have n0_ := Aside0.mk (Kd.R_below (by (with_reducible repeat (first | apply Kd.R_alloc | apply Kd.R_drewN | apply Kd.R_drew)); exact HO_8.out) hb); have n1_ := Aside0.mk (Kd.R_below (by (with_reducible repeat (first | apply Kd.R_alloc | apply Kd.R_drewN | apply Kd.R_drew)); exact HO_9.out) hb); have n2_ := Aside0.mk (Kd.V_elder' (by (with_reducible repeat (first | apply Kd.V_alloc | apply Kd.V_drewN | apply Kd.V_drew)); exact HO_359000.out) (Kd.N_base ho42) hb); have n3_ := Aside0.mk (Kd.N_lower ho42 (below_size (by repeat (first | (with_reducible first | exact HB.out | apply below_alloc | apply pw_below_drewN | apply below_drew1 | refine below_set ?_ GE357.out | refine below_set ?_ GE358.out) | exact HB.out)))); have n4_ := Aside0.mk (blk_below (g := gb357) (o := .cells #[.int .i64 a0_0, .int .i64 a0_1, .int .i64 a0_2] 39 (0, 0)) (by (with_reducible repeat (first | refine blk_drewN ?_ _ | refine blk_drew ?_ | refine blk_alloc ?_ _)); exact BK357.out) hb); have n5_ := Aside0.mk (blk_below (g := gb358) (o := .cells #[.slice A1_0 l1_0.length c1_0, .int .i64 a1_1] 64 (0, 0)) (by (with_reducible repeat (first | refine blk_drewN ?_ _ | refine blk_drew ?_ | refine blk_alloc ?_ _)); exact BK358.out) hb); have n6_ := Aside0.mk (below_step (by repeat (first | (with_reducible first | exact HB.out | apply below_alloc | apply pw_below_drewN | apply below_drew1 | refine below_set ?_ GE357.out | refine below_set ?_ GE358.out) | exact HB.out)) hb); clear HO_8; clear HO_9; clear HO_359000; clear BK357; clear BK358; clear HB; have HO_8 := n0_; have HO_9 := n1_; have HO_359000 := n2_; have HO371 := n3_; have BK357 := n4_; have BK358 := n5_; have HB := n6_; clear n0_ n1_ n2_ n3_ n4_ n5_ n6_; clear hb ho42))
            go_loopg [12, 13] k2 (fun kq v12 v13 w' => ∃ (x8_3 : List Int) (x9_3 : List Int) (x12_3 : List (S64)) (x13_3 : Int), v13 = .int .i64 x13_3 ∧ Aside0 (spec_isFar.l2 kq x8_3 x9_3 x12_3 x13_3 a0_0 a0_1 a0_2 = some (r1, r2, r3)) ∧ Aside0 (kq ≤ k2) ∧ Aside0 (FarS w w' gb357 go29 co19 go31 co31 a0_0 a0_1 a0_2 x8_2.length y362.length x8_3 x9_3 v12 x12_3))
            case atStart =>
             have hB0 : Below w.heap.size w _ := (by repeat (first | (with_reducible first | exact HB.out | apply below_alloc | apply pw_below_drewN | apply below_drew1 | refine below_set ?_ GE357.out | refine below_set ?_ GE358.out) | exact HB.out))
             have hne : go29 ≠ go31 := fun e => (HO_8.out.1 go29 (by simp [Value.ownBlock])).2 (by simp [Value.ownBlock, e])
             refine ⟨y367, y368, y369, 0, rfl, H', ⟨Nat.le_refl _⟩, ⟨⟨?_, ?_, ?_, ?_, hne, ⟨(HO_8.out.1 go29 (by simp [Value.ownBlock])).1, (HO_9.out.1 go31 (by simp [Value.ownBlock])).1⟩, ?_⟩⟩⟩
             ·(try simp only [hl8_2]); (with_reducible repeat (first | refine blk_drewN ?_ _ | refine blk_drew ?_ | refine blk_alloc ?_ _)); exact BK357.out
             ·(try simp only [hl8_2]); (with_reducible repeat (first | apply Kd.R_alloc | apply Kd.R_drewN | apply Kd.R_drew)); exact Kd.R_reok rfl HO_8.out (fun k hk => by simpa [Value.ownBlock] using hk.symm)
             ·(try simp only [hl8_2]); (with_reducible repeat (first | apply Kd.R_alloc | apply Kd.R_drewN | apply Kd.R_drew)); exact Kd.R_reok rfl HO_9.out (fun k hk => by simpa [Value.ownBlock] using hk.symm)
             ·(try simp only [hl8_2]); (with_reducible repeat (first | apply Kd.N_alloc | apply Kd.N_drewN | apply Kd.N_drew)); exact Kd.N_mono HO371.out (fun k hk => ⟨fun e => hk.2.1 (by simp [Value.ownBlock, e]), fun e => hk.2.2.1 (by simp [Value.ownBlock, e])⟩)
             ·(repeat (first | (with_reducible first | exact HB.out | apply below_alloc | apply pw_below_drewN | apply below_drew1 | refine below_set ?_ GE357.out | refine below_set ?_ GE358.out) | exact HB.out))
            case round =>
             clear H'
             try clear c1
             try clear c2
             try clear p2
             try clear q2
             try clear hx2
             try clear hf2
             try clear c3
             try clear p3
             try clear q3
             try clear hx3
             try clear hf3
             try clear c5
             try clear p6
             try clear c8
             try clear c8b0
             try clear c9
             try clear c11
             try clear c11b0
             try clear c11b1
             try clear c12
             try clear c12b0
             try clear c12b1
             try clear c14
             try clear c19
             try clear c20
             try clear c20b0
             try clear c21
             try clear c21b0
             try clear c22
             try clear c22b0
             try clear p23
             try clear q23
             try clear hx23
             try clear hf23
             try clear c27
             try clear c27b0
             try clear c28
             try clear c28b0
             try clear p29
             try clear q29
             try clear hx29
             try clear hf29
             try clear c30
             try clear c30b0
             try clear p31
             try clear q31
             try clear hx31
             try clear hf31
             try clear c32
             try clear hcz10_0
             try clear hcz10_1
             try clear hcz10_2
             try clear hcz33_0
             try clear hcz33_1
             try clear hcz33_2
             try clear hcz34_0
             try clear hcz34_1
             try clear hcz40_0
             try clear hcz40_1
             try clear hcz6_0
             try clear hcz6_1
             try clear hcz6_2
             try clear hcz7_0
             try clear hcz7_1
             try clear hfz10_0
             try clear hfz10_1
             try clear hfz10_2
             try clear hfz33_0
             try clear hfz33_1
             try clear hfz33_2
             try clear hfz34_0
             try clear hfz34_1
             try clear hfz40_0
             try clear hfz40_1
             try clear hfz6_0
             try clear hfz6_1
             try clear hfz6_2
             try clear hfz7_0
             try clear hfz7_1
             try clear hx23_0
             try clear hx29_0
             try clear hx31_0
             try clear p2
             try clear p23
             try clear p29
             try clear p31
             try clear p6
             try clear q23
             try clear q29
             try clear q31
             clear HO_8 HO_9 HO_359000 BK357 BK358 HB HO371
             obtain ⟨x8_3, x9_3, x12_3, x13_3, rfl, HA, HK3, HF⟩ := hrel
             cases gk with
             | zero => exact absurd HA.out (by simp [spec_isFar.l2])
             | succ k3 =>
              have H := HA.out
              clear HA
              simp only [spec_isFar.l2] at H
              obtain ⟨A12, c12, e12⟩ := Kd.N_slice HF.out.q
              subst e12
              by_cases c43 : x13_3 < (x12_3.length : Int)
              ·rw [if_pos c43] at H
               by_cases c44 : 0 ≤ x13_3
               ·rw [if_pos c44] at H
                obtain ⟨t374, A450, H⟩ := Option.bind_eq_some_iff.mp H
                obtain ⟨t375, A460, H⟩ := Option.bind_eq_some_iff.mp H
                obtain ⟨ad, A0, c0, e0, hx0, hx1, hcap, hrow⟩ := HF.out.elem x13_3 c44 c43
                subst e0
                obtain ⟨s, hs⟩ : ∃ s, s = rd_T64 x12_3 x13_3 := ⟨_, rfl⟩
                rw [← hs] at hx0 hx1 hcap hrow A450 A460
                replace H : (spec_isFar.l3 k3 x8_3 x9_3 x12_3 x13_3 t374 t375 (t375.length : Int) 0 a0_0 a0_1 a0_2 s.f0 s.f1) = some (r1, r2, r3) := by rw [hs]; exact H
                have A45 := Aside0.mk A450
                have A46 := Aside0.mk A460
                have H' := Aside0.mk H
                have HCAP := Aside0.mk hcap
                have HROW := Aside0.mk hrow
                have c43b0 : decide (x13_3 < (x12_3.length : Int)) = true := decide_eq_true c43
                have c44b0 : decide (0 ≤ x13_3) = true := decide_eq_true c44
                have HX13 := Aside0.mk (And.intro c44 c43)
                have p372 := eq_true c44
                have q372 := eq_true c43
                have hz0 : ∀ o, (wr.alloc o).cell? ⟨gb357, 0, none⟩ = some (.int .i64 a0_0) := fun o => (blk_cell (blk_alloc HF.out.box o) 0).trans rfl
                have hz1 : ∀ o, (wr.alloc o).cell? ⟨gb357, 1, none⟩ = some (.int .i64 a0_1) := fun o => (blk_cell (blk_alloc HF.out.box o) 1).trans rfl
                have hz2 : ∀ o, (wr.alloc o).cell? ⟨gb357, 2, none⟩ = some (.int .i64 a0_2) := fun o => (blk_cell (blk_alloc HF.out.box o) 2).trans rfl
                clear A450 A460 H hs hcap hrow c43 c44
                have hgw : gb357 < wr.heap.size := blk_lt HF.out.box
                go_wp2_with (first | (go_at_call 190; refine (spec_isCode.calls k3 a0_0 a0_1 a0_2 A0 c0 s.f0 s.f1 t374 _ (Kd.F_now (Kd.F_alloc HROW.out _)) HCAP.out A45.out).mono ?_; rintro e w1 ⟨rfl, hb1⟩; have HB1 := Aside0.mk hb1; have hbx := blk_below (blk_alloc HF.out.box _) hb1; have hbs := blk_below (blk_new wr (.cells #[.slice A0 s.f0.length c0, .int .i64 s.f1] 64)) hb1; have hy0 : w1.cell? ⟨gb357, 0, none⟩ = some (.int .i64 a0_0) := (blk_cell hbx 0).trans rfl; have hy1 : w1.cell? ⟨gb357, 1, none⟩ = some (.int .i64 a0_1) := (blk_cell hbx 1).trans rfl; have hy2 : w1.cell? ⟨gb357, 2, none⟩ = some (.int .i64 a0_2) := (blk_cell hbx 2).trans rfl; have hy3 : w1.cell? ⟨wr.heap.size, 0, none⟩ = some (.slice A0 s.f0.length c0) := (blk_cell hbs 0).trans rfl; have hy4 : w1.cell? ⟨wr.heap.size, 1, none⟩ = some (.int .i64 s.f1) := (blk_cell hbs 1).trans rfl; clear hb1 hbx hbs hz0 hz1 hz2) | (go_at_call 176; refine (spec_isVoyages.calls k3 a0_0 a0_1 a0_2 A0 c0 s.f0 s.f1 t375 _ (Kd.F_now (Kd.F_below (Kd.F_alloc HROW.out _) HB1.out)) HCAP.out A46.out).mono ?_; rintro e w2 ⟨v73, rfl, hN, hb2⟩; obtain ⟨A73, c73, e73⟩ := Kd.N_slice hN; subst e73; have HI0 := Aside0.mk (FarI.begins (wb := w) (bf := go29) (bw := go31) HCAP.out HROW.out HB1.out hN hb2 HF.out.below.size HF.out.lt8 HF.out.lt9 (Kd.N_lt HF.out.q)); have HF2 := Aside0.mk (HF.out.later (below_step (below_alloc (Below.refl _ _) _) HB1.out |>.trans (hb2.mono (Nat.le_trans (by simp) HB1.out.size)))); clear hN hb2 hy0 hy1 hy2 hy3 hy4))
                clear hx0 hx1 HF HROW HB1
                obtain ⟨gs, hgs⟩ : ∃ gs, gs = wr.heap.size := ⟨_, rfl⟩
                rw [← hgs] at HI0 ⊢
                clear hgs hgw p372 q372 c43b0 c44b0
                go_loopg [12, 75] k3 (fun kq v12 v75 w' => ∃ (x8_4 : List Int) (x9_4 : List Int) (x12_4 : List (S64)) (x75_4 : Int), v75 = .int .i64 x75_4 ∧ Aside0 (spec_isFar.l3 kq x8_4 x9_4 x12_4 x13_3 t374 t375 (t375.length : Int) x75_4 a0_0 a0_1 a0_2 s.f0 s.f1 = some (r1, r2, r3)) ∧ Aside0 (kq ≤ k3) ∧ Aside0 (FarS w w' gb357 go29 co19 go31 co31 a0_0 a0_1 a0_2 x8_2.length y362.length x8_4 x9_4 v12 x12_4) ∧ Aside0 (FarI w w' go29 go31 gs A0 c0 s v12 (.slice A73 t375.length c73) t375))
                case atStart => exact ⟨x8_3, x9_3, x12_3, 0, rfl, H', ⟨Nat.le_refl _⟩, HF2, HI0⟩
                case round =>
                 clear H' HF2 HI0
                 obtain ⟨x8, x9, x12, x75, rfl, HA, HK4, HF, HI⟩ := hrel
                 have e8 := HF.out.len8
                 have e9 := HF.out.len9
                 cases gk with
                 | zero => exact absurd HA.out (by simp [spec_isFar.l3])
                 | succ k4 =>
                  have H := HA.out
                  clear HA
                  simp only [spec_isFar.l3] at H
                  by_cases c59 : x75 < (t375.length : Int)
                  ·rw [if_pos c59] at H
                   by_cases c60 : 0 ≤ x75
                   ·rw [if_pos c60, if_pos c59] at H
                    obtain ⟨⟨t380, t383⟩, A620, H⟩ := Option.bind_eq_some_iff.mp H
                    obtain ⟨t385, A630, H⟩ := Option.bind_eq_some_iff.mp H
                    dsimp only at A630 H
                    rw [e8, e9] at H
                    by_cases c64 : 0 ≤ t385
                    ·rw [if_pos c64] at H
                     by_cases c65 : t385 < (x8_2.length : Int)
                     ·rw [if_pos c65] at H
                      have A62 := Aside0.mk A620
                      have A63 := Aside0.mk A630
                      obtain ⟨ad3, A3, c3, e3, hx0, hx1, hcap3, hrow3⟩ := HI.out.voy x75 c60 c59
                      subst e3
                      have HC3 := Aside0.mk hcap3
                      have HR3 := Aside0.mk hrow3
                      obtain ⟨v, hv⟩ : ∃ v, v = rd_T66 t375 x75 := ⟨_, rfl⟩
                      rw [← hv] at hx0 hx1 HC3 HR3 A62
                      obtain ⟨fx, hfx⟩ : ∃ fx, fx = rd x8 t385 := ⟨_, rfl⟩
                      clear A620 A630 hcap3 hrow3
                      by_cases c66 : rd x8 t385 < 0
                      ·rw [if_pos c66] at H
                       by_cases c67 : 0 ≤ t374
                       ·rw [if_pos c67] at H
                        by_cases c68 : t374 < (x8_2.length : Int)
                        ·rw [if_pos c68, Option.bind_some] at H
                         by_cases c70 : x12.length < 4398046511104
                         ·rw [if_pos c70, Option.bind_some] at H
                          obtain ⟨y, hy⟩ : ∃ y, y = x8.set t385.toNat (wrap64 (rd x8 t374 + 1)) := ⟨_, rfl⟩
                          rw [← hy] at H
                          by_cases c71 : rd y t385 = wrap64 (rd y t374 + 1)
                          ·rw [if_pos c71] at H
                           by_cases c72 : t385 < (y362.length : Int)
                           ·rw [if_pos c72] at H
                            by_cases c73 : t374 < (y362.length : Int)
                            ·rw [if_pos c73] at H
                             have c59b0 : decide (x75 < (t375.length : Int)) = true := decide_eq_true c59
                             have c60b0 : decide (0 ≤ x75) = true := decide_eq_true c60
                             have p60 := eq_true c60
                             have p59 := eq_true c59
                             have p64 := eq_true c64
                             have p65 := eq_true c65
                             have c71b0 : (rd y t385 == wrap64 (rd y t374 + 1)) = true := beq_iff_eq.mpr c71
                             have p72 := eq_true c72
                             have p73 := eq_true c73
                             have H' := Aside0.mk H
                             clear c71 c72 c73
                             have c66b0 : decide (fx < 0) = true := decide_eq_true (by rw [hfx]; exact c66)
                             have HFX : Aside0 (rd x8 t385 = fx) := ⟨hfx.symm⟩
                             have p67 := eq_true c67
                             have p68 := eq_true c68
                             have HLM := Aside0.mk c70
                             have HY := Aside0.mk hy
                             clear c66 c67 c68 c70 hy
                             have hs0 : ∀ o, (wr.alloc o).cell? ⟨gs, 0, none⟩ = some (.slice A0 s.f0.length c0) := fun o => (blk_cell (blk_alloc HI.out.box o) 0).trans rfl
                             have hs1 : ∀ o, (wr.alloc o).cell? ⟨gs, 1, none⟩ = some (.int .i64 s.f1) := fun o => (blk_cell (blk_alloc HI.out.box o) 1).trans rfl
                             clear H e8 e9 c59 c60 c64 c65 hv hfx
                             go_wp2_with (first | (go_at_call 185; refine (spec_isSail.calls k4 A0 c0 s.f0 s.f1 v.f0 A3 c3 v.f1 t380 t383 _ (Kd.F_now (Kd.F_alloc HI.out.row _)) HI.out.cap (Kd.C_alloc HR3.out _) HC3.out A62.out).mono ?_; rintro e w1 ⟨v81, rfl, ho81, hb1⟩; obtain ⟨A81, c81, e81⟩ := Kd.R_slice ho81; subst e81; have HO81 := Aside0.mk ho81; have HB1 := Aside0.mk hb1; have HBW := Aside0.mk (below_step (below_alloc (Below.refl wr.heap.size wr) _) hb1); have HBX := Aside0.mk (HF.out.later HBW.out); have hz0 : ∀ o, (w1.alloc o).cell? ⟨gb357, 0, none⟩ = some (.int .i64 a0_0) := fun o => (blk_cell (blk_alloc HBX.out.box o) 0).trans rfl; have hz1 : ∀ o, (w1.alloc o).cell? ⟨gb357, 1, none⟩ = some (.int .i64 a0_1) := fun o => (blk_cell (blk_alloc HBX.out.box o) 1).trans rfl; have hz2 : ∀ o, (w1.alloc o).cell? ⟨gb357, 2, none⟩ = some (.int .i64 a0_2) := fun o => (blk_cell (blk_alloc HBX.out.box o) 2).trans rfl; clear ho81 hb1 hs0 hs1 hx0 hx1) | (go_at_call 190; refine (spec_isCode.calls k4 a0_0 a0_1 a0_2 A81 c81 t380 t383 t385 _ (Kd.C_alloc (Kd.R_reads' HO81.out).2.2 _) (Kd.R_reads' HO81.out).2.1 A63.out).mono ?_; rintro e w2 ⟨rfl, hb2⟩; have HB2 := Aside0.mk (below_step (below_alloc (Below.refl w1.heap.size w1) _) hb2); have HNB := Aside0.mk (blk_below (blk_new w1 (.cells #[.slice A81 t380.length c81, .int .i64 t383] 64)) hb2); clear hb2 hz0 hz1 hz2; have HFN := Aside0.mk (HF.out.later (below_step HBW.out HB2.out)); have HIN := Aside0.mk (HI.out.later (below_step HBW.out HB2.out)); have HON := Aside0.mk (Kd.R_below HO81.out HB2.out); have HLT := Aside0.mk (And.intro (And.intro HF.out.lt8 HF.out.lt9) (And.intro (Kd.N_lt HF.out.q) (show wr.heap.size ≤ (wr.alloc (.cells #[.int .i64 v.f0, .slice A3 v.f1.length c3] 66)).heap.size from by simp))); obtain ⟨nb, hnb⟩ : ∃ nb, nb = w1.heap.size := ⟨_, rfl⟩; have HNW : Aside0 (wr.heap.size ≤ nb) := ⟨by rw [hnb]; exact Nat.le_trans (by simp) HB1.out.size⟩; rw [← hnb] at HNB ⊢; clear hnb HF HI HO81 HBX HBW HB1 HB2; have hf8 := HFN.out.cell8 t385 (of_eq_true p64) (of_eq_true p65); have hc8 := hf8.1; have hq8 := hf8.2; rw [HFX.out] at hc8; clear hf8; have hc9 := (HFN.out.cell8 t374 (of_eq_true p67) (of_eq_true p68)).1) | ((with_reducible refine gate_store (t := 3) (p := 97) rfl ?_); refine store_event (t := 3) (p := 97) (v := ?vo) (w1 := w2.setCell ⟨go29, t385.toNat, none⟩ (.int .i64 (wrap64 (rd x8 t374 + 1)))) ?hg ?ho ?hn ?hr ?_; (case ho => rfl); (case hg => rfl); (case hn => rfl); (case hr => first | (go_simp; done) | (go_simp; rfl)); intro w3a hw3a; have HF3a := Aside0.mk (HFN.out.setFar t385 (wrap64 (rd x8 t374 + 1))); have HI3a := Aside0.mk (HIN.out.set8 t385.toNat (.int .i64 (wrap64 (rd x8 t374 + 1)))); have HNBa := Aside0.mk (blk_far HNB.out (p := ⟨go29, t385.toNat, none⟩) (ne_typed HNB.out HFN.out.ty8 (by decide)) (.int .i64 (wrap64 (rd x8 t374 + 1)))); have HONa := Aside0.mk (Kd.R_far (p := ⟨go29, t385.toNat, none⟩) (Kd.R_reok rfl (ok := fun k => k ≠ go29) HON.out (fun k hk e => by have h1 := Kd.R_base HON.out k hk; have h2 := HLT.out.1.1; have h3 := HLT.out.2.2; omega)) (fun k hk => hk) (.int .i64 (wrap64 (rd x8 t374 + 1)))); rw [← hw3a, ← HY.out] at HF3a; rw [← hw3a] at HI3a HNBa HONa; clear hw3a HFN HIN HNB HON; have HCN : Aside0 (t380.length ≤ c81) := ⟨(Kd.R_reads' HONa.out).2.1⟩; have HFR : Aside0 (Kd.F (Kd.int .i64) w3a (fun k => (k ≠ go29 ∧ k ≠ go31) ∧ some k ≠ (u12 : Value).ownBlock) A81 t380.length t380) := ⟨next_fresh (vq := u12) (bf := go29) (bw := go31) (Kd.R_mono (ok' := fun _ => True) HONa.out (fun _ _ => trivial)) (Nat.lt_of_lt_of_le HLT.out.1.1 HLT.out.2.2) (Nat.lt_of_lt_of_le HLT.out.1.2 HLT.out.2.2) (fun k hk => Nat.lt_of_lt_of_le (HLT.out.2.1 k hk) HLT.out.2.2)⟩; have hn0 : w3a.cell? ⟨nb, 0, none⟩ = some (.slice A81 t380.length c81) := (blk_cell HNBa.out 0).trans rfl; have hn1 : w3a.cell? ⟨nb, 1, none⟩ = some (.int .i64 t383) := (blk_cell HNBa.out 1).trans rfl) | ((with_reducible refine gate_builtin (b := .append) (xs := #[.tmp 98, .tmp 100]) rfl ?_); at_builtin; refine Kd.N_append k64 (w0 := w) w.heap.size rfl (.tmp 98) (.tmp 100) 231 64 (.agg #[(.slice none 0 0), (.int .i64 0)]) 32 rfl Try.underlying231 info64 rfl (by decide) (by omega) u12 x12 (⟨t380, t383⟩ : S64) [.slice A81 t380.length c81, .int .i64 t383] (fun k_ => k_ ≠ go29 ∧ k_ ≠ go31) (fun k_ => (k_ ≠ go29 ∧ k_ ≠ go31) ∧ some k_ ≠ (u12 : Value).ownBlock) rfl rfl ?aP (fun _ hk => hk) ?aF ?aO ?aB ?aS ?aL ?_; (case aP => exact k64_mkF w3a _ (⟨t380, t383⟩ : S64) HCN.out HFR.out); (case aF => exact (fun k hk => ⟨by have := HF3a.out.lt8; omega, by have := HF3a.out.lt9; omega⟩)); (case aO => exact HF3a.out.q); (case aB => exact HF3a.out.below); (case aS => exact HF3a.out.below.size); (case aL => have := HLM.out; omega); intro v101 w3 hN3 hB3 hg3 hat3; have HF3 := Aside0.mk (HF3a.out.pushed hN3 hB3 hg3); have HI3 := Aside0.mk (HI3a.out.pushed hg3 hat3); clear hN3 hB3 hg3 hat3 HF3a HI3a HNBa HONa HCN HFR hn0 hn1; have hr0 := (HF3.out.cell8 t385 (of_eq_true p64) (of_eq_true p65)).1; have hr1 := (HF3.out.cell8 t374 (of_eq_true p67) (of_eq_true p68)).1))
                             refine start_ (n := 10) (S := fun w' => w'.cell? ⟨go29, t385.toNat, none⟩ = some (.int .i64 (rd y t385)) ∧ w'.cell? ⟨go29, t374.toNat, none⟩ = some (.int .i64 (rd y t374))) (ds := []) #[false, false, false, false, false, false, false, false, false, false] (by kernel_rfl) rfl rfl (⟨hr0, hr1⟩ : _ ∧ _) (fun hHeld => ?_)
                             refine pure_ (i := 0) (N := some 102) (v := ?_) (a' := ?_) #[true, false, false, false, false, false, false, false, false, false] rfl rfl (by kernel_rfl) (fun _ _ _ h => h) (Or.inl ⟨by rfl, ?_⟩) ?_ ?_
                             rotate_left
                             ·intro w'
                              go_simp
                              with_reducible rfl
                             rotate_left
                             ·simp only [Act.put, List.setIfInBounds_toArray, List.set_cons_zero, List.set_cons_succ, i64_w, i32_w]
                              rfl
                             refine pure_ (i := 1) (N := some 103) (v := ?_) (a' := ?_) #[true, true, false, false, false, false, false, false, false, false] rfl rfl (by kernel_rfl) (fun _ _ _ h => h) (Or.inl ⟨by rfl, ?_⟩) ?_ ?_
                             rotate_left
                             ·intro w'
                              go_simp
                              with_reducible rfl
                             rotate_left
                             ·simp only [Act.put, List.setIfInBounds_toArray, List.set_cons_zero, List.set_cons_succ, i64_w, i32_w]
                              rfl
                             refine pure_ (i := 2) (N := some 104) (v := ?_) (a' := ?_) #[true, true, true, false, false, false, false, false, false, false] rfl rfl (by kernel_rfl) (fun _ _ _ h => h) (Or.inl ⟨by rfl, ?_⟩) ?_ ?_
                             rotate_left
                             ·intro w'
                              go_simp
                              with_reducible rfl
                             rotate_left
                             ·simp only [Act.put, List.setIfInBounds_toArray, List.set_cons_zero, List.set_cons_succ, i64_w, i32_w]
                              rfl
                             refine take_ (i := 3) (N := some 105) (v := ?_) (a' := ?_) #[true, true, true, true, false, false, false, false, false, false] rfl rfl (by kernel_rfl) (fun _ _ _ h => h) (Or.inl ⟨by rfl, ?_⟩) hHeld ?_ ?_
                             rotate_left
                             ·intro w' s0
                              have s_0 := s0.1
                              clear s0
                              go_simp
                              with_reducible rfl
                             rotate_left
                             ·simp only [Act.put, List.setIfInBounds_toArray, List.set_cons_zero, List.set_cons_succ, i64_w, i32_w]
                              rfl
                             refine pure_ (i := 4) (N := some 106) (v := ?_) (a' := ?_) #[true, true, true, true, true, false, false, false, false, false] rfl rfl (by kernel_rfl) (fun _ _ _ h => h) (Or.inl ⟨by rfl, ?_⟩) ?_ ?_
                             rotate_left
                             ·intro w'
                              go_simp
                              with_reducible rfl
                             rotate_left
                             ·simp only [Act.put, List.setIfInBounds_toArray, List.set_cons_zero, List.set_cons_succ, i64_w, i32_w]
                              rfl
                             refine pure_ (i := 5) (N := some 107) (v := ?_) (a' := ?_) #[true, true, true, true, true, true, false, false, false, false] rfl rfl (by kernel_rfl) (fun _ _ _ h => h) (Or.inl ⟨by rfl, ?_⟩) ?_ ?_
                             rotate_left
                             ·intro w'
                              go_simp
                              with_reducible rfl
                             rotate_left
                             ·simp only [Act.put, List.setIfInBounds_toArray, List.set_cons_zero, List.set_cons_succ, i64_w, i32_w]
                              rfl
                             refine pure_ (i := 6) (N := some 108) (v := ?_) (a' := ?_) #[true, true, true, true, true, true, true, false, false, false] rfl rfl (by kernel_rfl) (fun _ _ _ h => h) (Or.inl ⟨by rfl, ?_⟩) ?_ ?_
                             rotate_left
                             ·intro w'
                              go_simp
                              with_reducible rfl
                             rotate_left
                             ·simp only [Act.put, List.setIfInBounds_toArray, List.set_cons_zero, List.set_cons_succ, i64_w, i32_w]
                              rfl
                             refine take_ (i := 7) (N := some 109) (v := ?_) (a' := ?_) #[true, true, true, true, true, true, true, true, false, false] rfl rfl (by kernel_rfl) (fun _ _ _ h => h) (Or.inl ⟨by rfl, ?_⟩) hHeld ?_ ?_
                             rotate_left
                             ·intro w' s0
                              have s_0 := s0.2
                              clear s0
                              go_simp
                              with_reducible rfl
                             rotate_left
                             ·simp only [Act.put, List.setIfInBounds_toArray, List.set_cons_zero, List.set_cons_succ, i64_w, i32_w]
                              rfl
                             refine pure_ (i := 8) (N := some 110) (v := ?_) (a' := ?_) #[true, true, true, true, true, true, true, true, true, false] rfl rfl (by kernel_rfl) (fun _ _ _ h => h) (Or.inl ⟨by rfl, ?_⟩) ?_ ?_
                             rotate_left
                             ·intro w'
                              go_simp
                              with_reducible rfl
                             rotate_left
                             ·simp only [Act.put, List.setIfInBounds_toArray, List.set_cons_zero, List.set_cons_succ, i64_w, i32_w]
                              rfl
                             refine pure_ (i := 9) (N := some 111) (v := ?_) (a' := ?_) #[true, true, true, true, true, true, true, true, true, true] rfl rfl (by kernel_rfl) (fun _ _ _ h => h) (Or.inl ⟨by rfl, ?_⟩) ?_ ?_
                             rotate_left
                             ·intro w'
                              go_simp
                              with_reducible rfl
                             rotate_left
                             ·simp only [Act.put, List.setIfInBounds_toArray, List.set_cons_zero, List.set_cons_succ, i64_w, i32_w]
                              rfl
                             refine done_ (by kernel_rfl) ?_
                             clear hr0 hr1 hHeld
                             have hu0 := (HF3.out.cell9 t385 (of_eq_true p64) (of_eq_true p72)).1
                             have huf := (HF3.out.cell9 t385 (of_eq_true p64) (of_eq_true p72)).2
                             have hu1 := (HF3.out.cell9 t374 (of_eq_true p67) (of_eq_true p73)).1
                             go_wp2
                             refine start_ (n := 11) (S := fun w' => w'.cell? ⟨go31, t385.toNat, none⟩ = some (.int .i64 (rd x9 t385)) ∧ w'.cell? ⟨go31, t374.toNat, none⟩ = some (.int .i64 (rd x9 t374))) (ds := [10]) #[false, false, false, false, false, false, false, false, false, false, false] (by kernel_rfl) rfl rfl (⟨hu0, hu1⟩ : _ ∧ _) (fun hHeld => ?_)
                             refine pure_ (i := 0) (N := some 112) (v := ?_) (a' := ?_) #[true, false, false, false, false, false, false, false, false, false, false] rfl rfl (by kernel_rfl) (fun _ _ _ h => h) (Or.inl ⟨by rfl, ?_⟩) ?_ ?_
                             rotate_left
                             ·intro w'
                              go_simp
                              with_reducible rfl
                             rotate_left
                             ·simp only [Act.put, List.setIfInBounds_toArray, List.set_cons_zero, List.set_cons_succ, i64_w, i32_w]
                              rfl
                             refine pure_ (i := 1) (N := some 113) (v := ?_) (a' := ?_) #[true, true, false, false, false, false, false, false, false, false, false] rfl rfl (by kernel_rfl) (fun _ _ _ h => h) (Or.inl ⟨by rfl, ?_⟩) ?_ ?_
                             rotate_left
                             ·intro w'
                              go_simp
                              with_reducible rfl
                             rotate_left
                             ·simp only [Act.put, List.setIfInBounds_toArray, List.set_cons_zero, List.set_cons_succ, i64_w, i32_w]
                              rfl
                             refine pure_ (i := 2) (N := some 114) (v := ?_) (a' := ?_) #[true, true, true, false, false, false, false, false, false, false, false] rfl rfl (by kernel_rfl) (fun _ _ _ h => h) (Or.inl ⟨by rfl, ?_⟩) ?_ ?_
                             rotate_left
                             ·intro w'
                              go_simp
                              with_reducible rfl
                             rotate_left
                             ·simp only [Act.put, List.setIfInBounds_toArray, List.set_cons_zero, List.set_cons_succ, i64_w, i32_w]
                              rfl
                             refine take_ (i := 3) (N := some 115) (v := ?_) (a' := ?_) #[true, true, true, true, false, false, false, false, false, false, false] rfl rfl (by kernel_rfl) (fun _ _ _ h => h) (Or.inl ⟨by rfl, ?_⟩) hHeld ?_ ?_
                             rotate_left
                             ·intro w' s0
                              have s_0 := s0.1
                              clear s0
                              go_simp
                              with_reducible rfl
                             rotate_left
                             ·simp only [Act.put, List.setIfInBounds_toArray, List.set_cons_zero, List.set_cons_succ, i64_w, i32_w]
                              rfl
                             refine pure_ (i := 4) (N := some 116) (v := ?_) (a' := ?_) #[true, true, true, true, true, false, false, false, false, false, false] rfl rfl (by kernel_rfl) (fun _ _ _ h => h) (Or.inl ⟨by rfl, ?_⟩) ?_ ?_
                             rotate_left
                             ·intro w'
                              go_simp
                              with_reducible rfl
                             rotate_left
                             ·simp only [Act.put, List.setIfInBounds_toArray, List.set_cons_zero, List.set_cons_succ, i64_w, i32_w]
                              rfl
                             refine pure_ (i := 5) (N := some 117) (v := ?_) (a' := ?_) #[true, true, true, true, true, true, false, false, false, false, false] rfl rfl (by kernel_rfl) (fun _ _ _ h => h) (Or.inl ⟨by rfl, ?_⟩) ?_ ?_
                             rotate_left
                             ·intro w'
                              go_simp
                              with_reducible rfl
                             rotate_left
                             ·simp only [Act.put, List.setIfInBounds_toArray, List.set_cons_zero, List.set_cons_succ, i64_w, i32_w]
                              rfl
                             refine pure_ (i := 6) (N := some 118) (v := ?_) (a' := ?_) #[true, true, true, true, true, true, true, false, false, false, false] rfl rfl (by kernel_rfl) (fun _ _ _ h => h) (Or.inl ⟨by rfl, ?_⟩) ?_ ?_
                             rotate_left
                             ·intro w'
                              go_simp
                              with_reducible rfl
                             rotate_left
                             ·simp only [Act.put, List.setIfInBounds_toArray, List.set_cons_zero, List.set_cons_succ, i64_w, i32_w]
                              rfl
                             refine take_ (i := 7) (N := some 119) (v := ?_) (a' := ?_) #[true, true, true, true, true, true, true, true, false, false, false] rfl rfl (by kernel_rfl) (fun _ _ _ h => h) (Or.inl ⟨by rfl, ?_⟩) hHeld ?_ ?_
                             rotate_left
                             ·intro w' s0
                              have s_0 := s0.2
                              clear s0
                              go_simp
                              with_reducible rfl
                             rotate_left
                             ·simp only [Act.put, List.setIfInBounds_toArray, List.set_cons_zero, List.set_cons_succ, i64_w, i32_w]
                              rfl
                             refine pure_ (i := 8) (N := some 120) (v := ?_) (a' := ?_) #[true, true, true, true, true, true, true, true, true, false, false] rfl rfl (by kernel_rfl) (fun _ _ _ h => h) (Or.inl ⟨by rfl, ?_⟩) ?_ ?_
                             rotate_left
                             ·intro w'
                              go_simp
                              with_reducible rfl
                             rotate_left
                             ·simp only [Act.put, List.setIfInBounds_toArray, List.set_cons_zero, List.set_cons_succ, i64_w, i32_w]
                              rfl
                             refine pure_ (i := 9) (N := some 121) (v := ?_) (a' := ?_) #[true, true, true, true, true, true, true, true, true, true, false] rfl rfl (by kernel_rfl) (fun _ _ _ h => h) (Or.inl ⟨by rfl, ?_⟩) ?_ ?_
                             rotate_left
                             ·intro w'
                              go_simp
                              with_reducible rfl
                             rotate_left
                             ·simp only [Act.put, List.setIfInBounds_toArray, List.set_cons_zero, List.set_cons_succ, i64_w, i32_w]
                              rfl
                             refine last_ (i := 10) (N := none) #[true, true, true, true, true, true, true, true, true, true, true] rfl rfl (by kernel_rfl) (by decide) (fun K hK => ?_)
                             refine skip_ (w1 := w3.drew.drew.setCell ⟨go31, t385.toNat, none⟩ (.int .i64 (wrap64 (rd x9 t385 + rd x9 t374)))) rfl rfl ?_ ?_
                             ·go_simp
                             refine hK.out _ _ ?_
                             clear hK K
                             refine done_ (by kernel_rfl) ?_
                             go_wp2
                             go_roundg k4
                             case measure => have := HK1.out; have := HK2.out; have := HK3.out; have := HK4.out; omega
                             case rel => exact ⟨y, x9.set t385.toNat (wrap64 (rd x9 t385 + rd x9 t374)), x12 ++ [(⟨t380, t383⟩ : S64)], wrap64 (x75 + 1), by first | rfl | (simp; done) | (simp [*]; done), H', ⟨by have := HK1.out; have := HK2.out; have := HK3.out; have := HK4.out; omega⟩, ⟨(HF3.out.setWays t385 (wrap64 (rd x9 t385 + rd x9 t374))).later (below_drew1 (below_drew1 (Below.refl _ _)))⟩, ⟨(HI3.out.set9 t385.toNat (.int .i64 (wrap64 (rd x9 t385 + rd x9 t374)))).later (below_drew1 (below_drew1 (Below.refl _ _)))⟩⟩
                            ·rw [if_neg c73] at H; exact absurd H (by simp)
                           ·rw [if_neg c72] at H; exact absurd H (by simp)
                          ·rw [if_neg c71] at H
                           have c59b0 : decide (x75 < (t375.length : Int)) = true := decide_eq_true c59
                           have c60b0 : decide (0 ≤ x75) = true := decide_eq_true c60
                           have p60 := eq_true c60
                           have p59 := eq_true c59
                           have p64 := eq_true c64
                           have p65 := eq_true c65
                           have c71b0 : (rd y t385 == wrap64 (rd y t374 + 1)) = false := beq_eq_false_iff_ne.mpr c71
                           have H' := Aside0.mk H
                           clear c71
                           have c66b0 : decide (fx < 0) = true := decide_eq_true (by rw [hfx]; exact c66)
                           have HFX : Aside0 (rd x8 t385 = fx) := ⟨hfx.symm⟩
                           have p67 := eq_true c67
                           have p68 := eq_true c68
                           have HLM := Aside0.mk c70
                           have HY := Aside0.mk hy
                           clear c66 c67 c68 c70 hy
                           have hs0 : ∀ o, (wr.alloc o).cell? ⟨gs, 0, none⟩ = some (.slice A0 s.f0.length c0) := fun o => (blk_cell (blk_alloc HI.out.box o) 0).trans rfl
                           have hs1 : ∀ o, (wr.alloc o).cell? ⟨gs, 1, none⟩ = some (.int .i64 s.f1) := fun o => (blk_cell (blk_alloc HI.out.box o) 1).trans rfl
                           clear H e8 e9 c59 c60 c64 c65 hv hfx
                           go_wp2_with (first | (go_at_call 185; refine (spec_isSail.calls k4 A0 c0 s.f0 s.f1 v.f0 A3 c3 v.f1 t380 t383 _ (Kd.F_now (Kd.F_alloc HI.out.row _)) HI.out.cap (Kd.C_alloc HR3.out _) HC3.out A62.out).mono ?_; rintro e w1 ⟨v81, rfl, ho81, hb1⟩; obtain ⟨A81, c81, e81⟩ := Kd.R_slice ho81; subst e81; have HO81 := Aside0.mk ho81; have HB1 := Aside0.mk hb1; have HBW := Aside0.mk (below_step (below_alloc (Below.refl wr.heap.size wr) _) hb1); have HBX := Aside0.mk (HF.out.later HBW.out); have hz0 : ∀ o, (w1.alloc o).cell? ⟨gb357, 0, none⟩ = some (.int .i64 a0_0) := fun o => (blk_cell (blk_alloc HBX.out.box o) 0).trans rfl; have hz1 : ∀ o, (w1.alloc o).cell? ⟨gb357, 1, none⟩ = some (.int .i64 a0_1) := fun o => (blk_cell (blk_alloc HBX.out.box o) 1).trans rfl; have hz2 : ∀ o, (w1.alloc o).cell? ⟨gb357, 2, none⟩ = some (.int .i64 a0_2) := fun o => (blk_cell (blk_alloc HBX.out.box o) 2).trans rfl; clear ho81 hb1 hs0 hs1 hx0 hx1) | (go_at_call 190; refine (spec_isCode.calls k4 a0_0 a0_1 a0_2 A81 c81 t380 t383 t385 _ (Kd.C_alloc (Kd.R_reads' HO81.out).2.2 _) (Kd.R_reads' HO81.out).2.1 A63.out).mono ?_; rintro e w2 ⟨rfl, hb2⟩; have HB2 := Aside0.mk (below_step (below_alloc (Below.refl w1.heap.size w1) _) hb2); have HNB := Aside0.mk (blk_below (blk_new w1 (.cells #[.slice A81 t380.length c81, .int .i64 t383] 64)) hb2); clear hb2 hz0 hz1 hz2; have HFN := Aside0.mk (HF.out.later (below_step HBW.out HB2.out)); have HIN := Aside0.mk (HI.out.later (below_step HBW.out HB2.out)); have HON := Aside0.mk (Kd.R_below HO81.out HB2.out); have HLT := Aside0.mk (And.intro (And.intro HF.out.lt8 HF.out.lt9) (And.intro (Kd.N_lt HF.out.q) (show wr.heap.size ≤ (wr.alloc (.cells #[.int .i64 v.f0, .slice A3 v.f1.length c3] 66)).heap.size from by simp))); obtain ⟨nb, hnb⟩ : ∃ nb, nb = w1.heap.size := ⟨_, rfl⟩; have HNW : Aside0 (wr.heap.size ≤ nb) := ⟨by rw [hnb]; exact Nat.le_trans (by simp) HB1.out.size⟩; rw [← hnb] at HNB ⊢; clear hnb HF HI HO81 HBX HBW HB1 HB2; have hf8 := HFN.out.cell8 t385 (of_eq_true p64) (of_eq_true p65); have hc8 := hf8.1; have hq8 := hf8.2; rw [HFX.out] at hc8; clear hf8; have hc9 := (HFN.out.cell8 t374 (of_eq_true p67) (of_eq_true p68)).1) | ((with_reducible refine gate_store (t := 3) (p := 97) rfl ?_); refine store_event (t := 3) (p := 97) (v := ?vo) (w1 := w2.setCell ⟨go29, t385.toNat, none⟩ (.int .i64 (wrap64 (rd x8 t374 + 1)))) ?hg ?ho ?hn ?hr ?_; (case ho => rfl); (case hg => rfl); (case hn => rfl); (case hr => first | (go_simp; done) | (go_simp; rfl)); intro w3a hw3a; have HF3a := Aside0.mk (HFN.out.setFar t385 (wrap64 (rd x8 t374 + 1))); have HI3a := Aside0.mk (HIN.out.set8 t385.toNat (.int .i64 (wrap64 (rd x8 t374 + 1)))); have HNBa := Aside0.mk (blk_far HNB.out (p := ⟨go29, t385.toNat, none⟩) (ne_typed HNB.out HFN.out.ty8 (by decide)) (.int .i64 (wrap64 (rd x8 t374 + 1)))); have HONa := Aside0.mk (Kd.R_far (p := ⟨go29, t385.toNat, none⟩) (Kd.R_reok rfl (ok := fun k => k ≠ go29) HON.out (fun k hk e => by have h1 := Kd.R_base HON.out k hk; have h2 := HLT.out.1.1; have h3 := HLT.out.2.2; omega)) (fun k hk => hk) (.int .i64 (wrap64 (rd x8 t374 + 1)))); rw [← hw3a, ← HY.out] at HF3a; rw [← hw3a] at HI3a HNBa HONa; clear hw3a HFN HIN HNB HON; have HCN : Aside0 (t380.length ≤ c81) := ⟨(Kd.R_reads' HONa.out).2.1⟩; have HFR : Aside0 (Kd.F (Kd.int .i64) w3a (fun k => (k ≠ go29 ∧ k ≠ go31) ∧ some k ≠ (u12 : Value).ownBlock) A81 t380.length t380) := ⟨next_fresh (vq := u12) (bf := go29) (bw := go31) (Kd.R_mono (ok' := fun _ => True) HONa.out (fun _ _ => trivial)) (Nat.lt_of_lt_of_le HLT.out.1.1 HLT.out.2.2) (Nat.lt_of_lt_of_le HLT.out.1.2 HLT.out.2.2) (fun k hk => Nat.lt_of_lt_of_le (HLT.out.2.1 k hk) HLT.out.2.2)⟩; have hn0 : w3a.cell? ⟨nb, 0, none⟩ = some (.slice A81 t380.length c81) := (blk_cell HNBa.out 0).trans rfl; have hn1 : w3a.cell? ⟨nb, 1, none⟩ = some (.int .i64 t383) := (blk_cell HNBa.out 1).trans rfl) | ((with_reducible refine gate_builtin (b := .append) (xs := #[.tmp 98, .tmp 100]) rfl ?_); at_builtin; refine Kd.N_append k64 (w0 := w) w.heap.size rfl (.tmp 98) (.tmp 100) 231 64 (.agg #[(.slice none 0 0), (.int .i64 0)]) 32 rfl Try.underlying231 info64 rfl (by decide) (by omega) u12 x12 (⟨t380, t383⟩ : S64) [.slice A81 t380.length c81, .int .i64 t383] (fun k_ => k_ ≠ go29 ∧ k_ ≠ go31) (fun k_ => (k_ ≠ go29 ∧ k_ ≠ go31) ∧ some k_ ≠ (u12 : Value).ownBlock) rfl rfl ?aP (fun _ hk => hk) ?aF ?aO ?aB ?aS ?aL ?_; (case aP => exact k64_mkF w3a _ (⟨t380, t383⟩ : S64) HCN.out HFR.out); (case aF => exact (fun k hk => ⟨by have := HF3a.out.lt8; omega, by have := HF3a.out.lt9; omega⟩)); (case aO => exact HF3a.out.q); (case aB => exact HF3a.out.below); (case aS => exact HF3a.out.below.size); (case aL => have := HLM.out; omega); intro v101 w3 hN3 hB3 hg3 hat3; have HF3 := Aside0.mk (HF3a.out.pushed hN3 hB3 hg3); have HI3 := Aside0.mk (HI3a.out.pushed hg3 hat3); clear hN3 hB3 hg3 hat3 HF3a HI3a HNBa HONa HCN HFR hn0 hn1; have hr0 := (HF3.out.cell8 t385 (of_eq_true p64) (of_eq_true p65)).1; have hr1 := (HF3.out.cell8 t374 (of_eq_true p67) (of_eq_true p68)).1))
                           refine start_ (n := 10) (S := fun w' => w'.cell? ⟨go29, t385.toNat, none⟩ = some (.int .i64 (rd y t385)) ∧ w'.cell? ⟨go29, t374.toNat, none⟩ = some (.int .i64 (rd y t374))) (ds := []) #[false, false, false, false, false, false, false, false, false, false] (by kernel_rfl) rfl rfl (⟨hr0, hr1⟩ : _ ∧ _) (fun hHeld => ?_)
                           refine pure_ (i := 0) (N := some 102) (v := ?_) (a' := ?_) #[true, false, false, false, false, false, false, false, false, false] rfl rfl (by kernel_rfl) (fun _ _ _ h => h) (Or.inl ⟨by rfl, ?_⟩) ?_ ?_
                           rotate_left
                           ·intro w'
                            go_simp
                            with_reducible rfl
                           rotate_left
                           ·simp only [Act.put, List.setIfInBounds_toArray, List.set_cons_zero, List.set_cons_succ, i64_w, i32_w]
                            rfl
                           refine pure_ (i := 1) (N := some 103) (v := ?_) (a' := ?_) #[true, true, false, false, false, false, false, false, false, false] rfl rfl (by kernel_rfl) (fun _ _ _ h => h) (Or.inl ⟨by rfl, ?_⟩) ?_ ?_
                           rotate_left
                           ·intro w'
                            go_simp
                            with_reducible rfl
                           rotate_left
                           ·simp only [Act.put, List.setIfInBounds_toArray, List.set_cons_zero, List.set_cons_succ, i64_w, i32_w]
                            rfl
                           refine pure_ (i := 2) (N := some 104) (v := ?_) (a' := ?_) #[true, true, true, false, false, false, false, false, false, false] rfl rfl (by kernel_rfl) (fun _ _ _ h => h) (Or.inl ⟨by rfl, ?_⟩) ?_ ?_
                           rotate_left
                           ·intro w'
                            go_simp
                            with_reducible rfl
                           rotate_left
                           ·simp only [Act.put, List.setIfInBounds_toArray, List.set_cons_zero, List.set_cons_succ, i64_w, i32_w]
                            rfl
                           refine take_ (i := 3) (N := some 105) (v := ?_) (a' := ?_) #[true, true, true, true, false, false, false, false, false, false] rfl rfl (by kernel_rfl) (fun _ _ _ h => h) (Or.inl ⟨by rfl, ?_⟩) hHeld ?_ ?_
                           rotate_left
                           ·intro w' s0
                            have s_0 := s0.1
                            clear s0
                            go_simp
                            with_reducible rfl
                           rotate_left
                           ·simp only [Act.put, List.setIfInBounds_toArray, List.set_cons_zero, List.set_cons_succ, i64_w, i32_w]
                            rfl
                           refine pure_ (i := 4) (N := some 106) (v := ?_) (a' := ?_) #[true, true, true, true, true, false, false, false, false, false] rfl rfl (by kernel_rfl) (fun _ _ _ h => h) (Or.inl ⟨by rfl, ?_⟩) ?_ ?_
                           rotate_left
                           ·intro w'
                            go_simp
                            with_reducible rfl
                           rotate_left
                           ·simp only [Act.put, List.setIfInBounds_toArray, List.set_cons_zero, List.set_cons_succ, i64_w, i32_w]
                            rfl
                           refine pure_ (i := 5) (N := some 107) (v := ?_) (a' := ?_) #[true, true, true, true, true, true, false, false, false, false] rfl rfl (by kernel_rfl) (fun _ _ _ h => h) (Or.inl ⟨by rfl, ?_⟩) ?_ ?_
                           rotate_left
                           ·intro w'
                            go_simp
                            with_reducible rfl
                           rotate_left
                           ·simp only [Act.put, List.setIfInBounds_toArray, List.set_cons_zero, List.set_cons_succ, i64_w, i32_w]
                            rfl
                           refine pure_ (i := 6) (N := some 108) (v := ?_) (a' := ?_) #[true, true, true, true, true, true, true, false, false, false] rfl rfl (by kernel_rfl) (fun _ _ _ h => h) (Or.inl ⟨by rfl, ?_⟩) ?_ ?_
                           rotate_left
                           ·intro w'
                            go_simp
                            with_reducible rfl
                           rotate_left
                           ·simp only [Act.put, List.setIfInBounds_toArray, List.set_cons_zero, List.set_cons_succ, i64_w, i32_w]
                            rfl
                           refine take_ (i := 7) (N := some 109) (v := ?_) (a' := ?_) #[true, true, true, true, true, true, true, true, false, false] rfl rfl (by kernel_rfl) (fun _ _ _ h => h) (Or.inl ⟨by rfl, ?_⟩) hHeld ?_ ?_
                           rotate_left
                           ·intro w' s0
                            have s_0 := s0.2
                            clear s0
                            go_simp
                            with_reducible rfl
                           rotate_left
                           ·simp only [Act.put, List.setIfInBounds_toArray, List.set_cons_zero, List.set_cons_succ, i64_w, i32_w]
                            rfl
                           refine pure_ (i := 8) (N := some 110) (v := ?_) (a' := ?_) #[true, true, true, true, true, true, true, true, true, false] rfl rfl (by kernel_rfl) (fun _ _ _ h => h) (Or.inl ⟨by rfl, ?_⟩) ?_ ?_
                           rotate_left
                           ·intro w'
                            go_simp
                            with_reducible rfl
                           rotate_left
                           ·simp only [Act.put, List.setIfInBounds_toArray, List.set_cons_zero, List.set_cons_succ, i64_w, i32_w]
                            rfl
                           refine pure_ (i := 9) (N := some 111) (v := ?_) (a' := ?_) #[true, true, true, true, true, true, true, true, true, true] rfl rfl (by kernel_rfl) (fun _ _ _ h => h) (Or.inl ⟨by rfl, ?_⟩) ?_ ?_
                           rotate_left
                           ·intro w'
                            go_simp
                            with_reducible rfl
                           rotate_left
                           ·simp only [Act.put, List.setIfInBounds_toArray, List.set_cons_zero, List.set_cons_succ, i64_w, i32_w]
                            rfl
                           refine done_ (by kernel_rfl) ?_
                           clear hr0 hr1 hHeld
                           go_wp2
                           go_roundg k4
                           case measure => have := HK1.out; have := HK2.out; have := HK3.out; have := HK4.out; omega
                           case rel => exact ⟨y, x9, x12 ++ [(⟨t380, t383⟩ : S64)], wrap64 (x75 + 1), by first | rfl | (simp; done) | (simp [*]; done), H', ⟨by have := HK1.out; have := HK2.out; have := HK3.out; have := HK4.out; omega⟩, ⟨HF3.out.later (below_drew1 (Below.refl _ _))⟩, ⟨HI3.out.later (below_drew1 (Below.refl _ _))⟩⟩
                         ·rw [if_neg c70] at H; exact absurd H (by simp)
                        ·rw [if_neg c68] at H; exact absurd H (by simp)
                       ·rw [if_neg c67] at H; exact absurd H (by simp)
                      ·rw [if_neg c66] at H
                       by_cases c67 : 0 ≤ t374
                       ·rw [if_pos c67] at H
                        by_cases c68 : t374 < (x8_2.length : Int)
                        ·rw [if_pos c68] at H
                         by_cases c71 : rd x8 t385 = wrap64 (rd x8 t374 + 1)
                         ·rw [if_pos c71] at H
                          by_cases c72 : t385 < (y362.length : Int)
                          ·rw [if_pos c72] at H
                           by_cases c73 : t374 < (y362.length : Int)
                           ·rw [if_pos c73] at H
                            have c59b0 : decide (x75 < (t375.length : Int)) = true := decide_eq_true c59
                            have c60b0 : decide (0 ≤ x75) = true := decide_eq_true c60
                            have p60 := eq_true c60
                            have p59 := eq_true c59
                            have p64 := eq_true c64
                            have p65 := eq_true c65
                            have c71b0 : (rd x8 t385 == wrap64 (rd x8 t374 + 1)) = true := beq_iff_eq.mpr c71
                            have p72 := eq_true c72
                            have p73 := eq_true c73
                            have H' := Aside0.mk H
                            clear c71 c72 c73
                            have c66b0 : decide (fx < 0) = false := decide_eq_false (by rw [hfx]; exact c66)
                            have HFX : Aside0 (rd x8 t385 = fx) := ⟨hfx.symm⟩
                            have p67 := eq_true c67
                            have p68 := eq_true c68
                            clear c66 c67 c68
                            have hs0 : ∀ o, (wr.alloc o).cell? ⟨gs, 0, none⟩ = some (.slice A0 s.f0.length c0) := fun o => (blk_cell (blk_alloc HI.out.box o) 0).trans rfl
                            have hs1 : ∀ o, (wr.alloc o).cell? ⟨gs, 1, none⟩ = some (.int .i64 s.f1) := fun o => (blk_cell (blk_alloc HI.out.box o) 1).trans rfl
                            clear H e8 e9 c59 c60 c64 c65 hv hfx
                            go_wp2_with (first | (go_at_call 185; refine (spec_isSail.calls k4 A0 c0 s.f0 s.f1 v.f0 A3 c3 v.f1 t380 t383 _ (Kd.F_now (Kd.F_alloc HI.out.row _)) HI.out.cap (Kd.C_alloc HR3.out _) HC3.out A62.out).mono ?_; rintro e w1 ⟨v81, rfl, ho81, hb1⟩; obtain ⟨A81, c81, e81⟩ := Kd.R_slice ho81; subst e81; have HO81 := Aside0.mk ho81; have HB1 := Aside0.mk hb1; have HBW := Aside0.mk (below_step (below_alloc (Below.refl wr.heap.size wr) _) hb1); have HBX := Aside0.mk (HF.out.later HBW.out); have hz0 : ∀ o, (w1.alloc o).cell? ⟨gb357, 0, none⟩ = some (.int .i64 a0_0) := fun o => (blk_cell (blk_alloc HBX.out.box o) 0).trans rfl; have hz1 : ∀ o, (w1.alloc o).cell? ⟨gb357, 1, none⟩ = some (.int .i64 a0_1) := fun o => (blk_cell (blk_alloc HBX.out.box o) 1).trans rfl; have hz2 : ∀ o, (w1.alloc o).cell? ⟨gb357, 2, none⟩ = some (.int .i64 a0_2) := fun o => (blk_cell (blk_alloc HBX.out.box o) 2).trans rfl; clear ho81 hb1 hs0 hs1 hx0 hx1) | (go_at_call 190; refine (spec_isCode.calls k4 a0_0 a0_1 a0_2 A81 c81 t380 t383 t385 _ (Kd.C_alloc (Kd.R_reads' HO81.out).2.2 _) (Kd.R_reads' HO81.out).2.1 A63.out).mono ?_; rintro e w2 ⟨rfl, hb2⟩; have HB2 := Aside0.mk (below_step (below_alloc (Below.refl w1.heap.size w1) _) hb2); have HNB := Aside0.mk (blk_below (blk_new w1 (.cells #[.slice A81 t380.length c81, .int .i64 t383] 64)) hb2); clear hb2 hz0 hz1 hz2; have HFN := Aside0.mk (HF.out.later (below_step HBW.out HB2.out)); have HIN := Aside0.mk (HI.out.later (below_step HBW.out HB2.out)); have HON := Aside0.mk (Kd.R_below HO81.out HB2.out); have HLT := Aside0.mk (And.intro (And.intro HF.out.lt8 HF.out.lt9) (And.intro (Kd.N_lt HF.out.q) (show wr.heap.size ≤ (wr.alloc (.cells #[.int .i64 v.f0, .slice A3 v.f1.length c3] 66)).heap.size from by simp))); obtain ⟨nb, hnb⟩ : ∃ nb, nb = w1.heap.size := ⟨_, rfl⟩; have HNW : Aside0 (wr.heap.size ≤ nb) := ⟨by rw [hnb]; exact Nat.le_trans (by simp) HB1.out.size⟩; rw [← hnb] at HNB ⊢; clear hnb HF HI HO81 HBX HBW HB1 HB2; have hf8 := HFN.out.cell8 t385 (of_eq_true p64) (of_eq_true p65); have hc8 := hf8.1; have hq8 := hf8.2; rw [HFX.out] at hc8; clear hf8; have hr1 := (HFN.out.cell8 t374 (of_eq_true p67) (of_eq_true p68)).1))
                            have hr0 := (HFN.out.cell8 t385 (of_eq_true p64) (of_eq_true p65)).1
                            clear hc8
                            refine start_ (n := 10) (S := fun w' => w'.cell? ⟨go29, t385.toNat, none⟩ = some (.int .i64 (rd x8 t385)) ∧ w'.cell? ⟨go29, t374.toNat, none⟩ = some (.int .i64 (rd x8 t374))) (ds := []) #[false, false, false, false, false, false, false, false, false, false] (by kernel_rfl) rfl rfl (⟨hr0, hr1⟩ : _ ∧ _) (fun hHeld => ?_)
                            refine pure_ (i := 0) (N := some 102) (v := ?_) (a' := ?_) #[true, false, false, false, false, false, false, false, false, false] rfl rfl (by kernel_rfl) (fun _ _ _ h => h) (Or.inl ⟨by rfl, ?_⟩) ?_ ?_
                            rotate_left
                            ·intro w'
                             go_simp
                             with_reducible rfl
                            rotate_left
                            ·simp only [Act.put, List.setIfInBounds_toArray, List.set_cons_zero, List.set_cons_succ, i64_w, i32_w]
                             rfl
                            refine pure_ (i := 1) (N := some 103) (v := ?_) (a' := ?_) #[true, true, false, false, false, false, false, false, false, false] rfl rfl (by kernel_rfl) (fun _ _ _ h => h) (Or.inl ⟨by rfl, ?_⟩) ?_ ?_
                            rotate_left
                            ·intro w'
                             go_simp
                             with_reducible rfl
                            rotate_left
                            ·simp only [Act.put, List.setIfInBounds_toArray, List.set_cons_zero, List.set_cons_succ, i64_w, i32_w]
                             rfl
                            refine pure_ (i := 2) (N := some 104) (v := ?_) (a' := ?_) #[true, true, true, false, false, false, false, false, false, false] rfl rfl (by kernel_rfl) (fun _ _ _ h => h) (Or.inl ⟨by rfl, ?_⟩) ?_ ?_
                            rotate_left
                            ·intro w'
                             go_simp
                             with_reducible rfl
                            rotate_left
                            ·simp only [Act.put, List.setIfInBounds_toArray, List.set_cons_zero, List.set_cons_succ, i64_w, i32_w]
                             rfl
                            refine take_ (i := 3) (N := some 105) (v := ?_) (a' := ?_) #[true, true, true, true, false, false, false, false, false, false] rfl rfl (by kernel_rfl) (fun _ _ _ h => h) (Or.inl ⟨by rfl, ?_⟩) hHeld ?_ ?_
                            rotate_left
                            ·intro w' s0
                             have s_0 := s0.1
                             clear s0
                             go_simp
                             with_reducible rfl
                            rotate_left
                            ·simp only [Act.put, List.setIfInBounds_toArray, List.set_cons_zero, List.set_cons_succ, i64_w, i32_w]
                             rfl
                            refine pure_ (i := 4) (N := some 106) (v := ?_) (a' := ?_) #[true, true, true, true, true, false, false, false, false, false] rfl rfl (by kernel_rfl) (fun _ _ _ h => h) (Or.inl ⟨by rfl, ?_⟩) ?_ ?_
                            rotate_left
                            ·intro w'
                             go_simp
                             with_reducible rfl
                            rotate_left
                            ·simp only [Act.put, List.setIfInBounds_toArray, List.set_cons_zero, List.set_cons_succ, i64_w, i32_w]
                             rfl
                            refine pure_ (i := 5) (N := some 107) (v := ?_) (a' := ?_) #[true, true, true, true, true, true, false, false, false, false] rfl rfl (by kernel_rfl) (fun _ _ _ h => h) (Or.inl ⟨by rfl, ?_⟩) ?_ ?_
                            rotate_left
                            ·intro w'
                             go_simp
                             with_reducible rfl
                            rotate_left
                            ·simp only [Act.put, List.setIfInBounds_toArray, List.set_cons_zero, List.set_cons_succ, i64_w, i32_w]
                             rfl
                            refine pure_ (i := 6) (N := some 108) (v := ?_) (a' := ?_) #[true, true, true, true, true, true, true, false, false, false] rfl rfl (by kernel_rfl) (fun _ _ _ h => h) (Or.inl ⟨by rfl, ?_⟩) ?_ ?_
                            rotate_left
                            ·intro w'
                             go_simp
                             with_reducible rfl
                            rotate_left
                            ·simp only [Act.put, List.setIfInBounds_toArray, List.set_cons_zero, List.set_cons_succ, i64_w, i32_w]
                             rfl
                            refine take_ (i := 7) (N := some 109) (v := ?_) (a' := ?_) #[true, true, true, true, true, true, true, true, false, false] rfl rfl (by kernel_rfl) (fun _ _ _ h => h) (Or.inl ⟨by rfl, ?_⟩) hHeld ?_ ?_
                            rotate_left
                            ·intro w' s0
                             have s_0 := s0.2
                             clear s0
                             go_simp
                             with_reducible rfl
                            rotate_left
                            ·simp only [Act.put, List.setIfInBounds_toArray, List.set_cons_zero, List.set_cons_succ, i64_w, i32_w]
                             rfl
                            refine pure_ (i := 8) (N := some 110) (v := ?_) (a' := ?_) #[true, true, true, true, true, true, true, true, true, false] rfl rfl (by kernel_rfl) (fun _ _ _ h => h) (Or.inl ⟨by rfl, ?_⟩) ?_ ?_
                            rotate_left
                            ·intro w'
                             go_simp
                             with_reducible rfl
                            rotate_left
                            ·simp only [Act.put, List.setIfInBounds_toArray, List.set_cons_zero, List.set_cons_succ, i64_w, i32_w]
                             rfl
                            refine pure_ (i := 9) (N := some 111) (v := ?_) (a' := ?_) #[true, true, true, true, true, true, true, true, true, true] rfl rfl (by kernel_rfl) (fun _ _ _ h => h) (Or.inl ⟨by rfl, ?_⟩) ?_ ?_
                            rotate_left
                            ·intro w'
                             go_simp
                             with_reducible rfl
                            rotate_left
                            ·simp only [Act.put, List.setIfInBounds_toArray, List.set_cons_zero, List.set_cons_succ, i64_w, i32_w]
                             rfl
                            refine done_ (by kernel_rfl) ?_
                            clear hr0 hr1 hHeld
                            have hu0 := (HFN.out.cell9 t385 (of_eq_true p64) (of_eq_true p72)).1
                            have huf := (HFN.out.cell9 t385 (of_eq_true p64) (of_eq_true p72)).2
                            have hu1 := (HFN.out.cell9 t374 (of_eq_true p67) (of_eq_true p73)).1
                            go_wp2
                            refine start_ (n := 11) (S := fun w' => w'.cell? ⟨go31, t385.toNat, none⟩ = some (.int .i64 (rd x9 t385)) ∧ w'.cell? ⟨go31, t374.toNat, none⟩ = some (.int .i64 (rd x9 t374))) (ds := [10]) #[false, false, false, false, false, false, false, false, false, false, false] (by kernel_rfl) rfl rfl (⟨hu0, hu1⟩ : _ ∧ _) (fun hHeld => ?_)
                            refine pure_ (i := 0) (N := some 112) (v := ?_) (a' := ?_) #[true, false, false, false, false, false, false, false, false, false, false] rfl rfl (by kernel_rfl) (fun _ _ _ h => h) (Or.inl ⟨by rfl, ?_⟩) ?_ ?_
                            rotate_left
                            ·intro w'
                             go_simp
                             with_reducible rfl
                            rotate_left
                            ·simp only [Act.put, List.setIfInBounds_toArray, List.set_cons_zero, List.set_cons_succ, i64_w, i32_w]
                             rfl
                            refine pure_ (i := 1) (N := some 113) (v := ?_) (a' := ?_) #[true, true, false, false, false, false, false, false, false, false, false] rfl rfl (by kernel_rfl) (fun _ _ _ h => h) (Or.inl ⟨by rfl, ?_⟩) ?_ ?_
                            rotate_left
                            ·intro w'
                             go_simp
                             with_reducible rfl
                            rotate_left
                            ·simp only [Act.put, List.setIfInBounds_toArray, List.set_cons_zero, List.set_cons_succ, i64_w, i32_w]
                             rfl
                            refine pure_ (i := 2) (N := some 114) (v := ?_) (a' := ?_) #[true, true, true, false, false, false, false, false, false, false, false] rfl rfl (by kernel_rfl) (fun _ _ _ h => h) (Or.inl ⟨by rfl, ?_⟩) ?_ ?_
                            rotate_left
                            ·intro w'
                             go_simp
                             with_reducible rfl
                            rotate_left
                            ·simp only [Act.put, List.setIfInBounds_toArray, List.set_cons_zero, List.set_cons_succ, i64_w, i32_w]
                             rfl
                            refine take_ (i := 3) (N := some 115) (v := ?_) (a' := ?_) #[true, true, true, true, false, false, false, false, false, false, false] rfl rfl (by kernel_rfl) (fun _ _ _ h => h) (Or.inl ⟨by rfl, ?_⟩) hHeld ?_ ?_
                            rotate_left
                            ·intro w' s0
                             have s_0 := s0.1
                             clear s0
                             go_simp
                             with_reducible rfl
                            rotate_left
                            ·simp only [Act.put, List.setIfInBounds_toArray, List.set_cons_zero, List.set_cons_succ, i64_w, i32_w]
                             rfl
                            refine pure_ (i := 4) (N := some 116) (v := ?_) (a' := ?_) #[true, true, true, true, true, false, false, false, false, false, false] rfl rfl (by kernel_rfl) (fun _ _ _ h => h) (Or.inl ⟨by rfl, ?_⟩) ?_ ?_
                            rotate_left
                            ·intro w'
                             go_simp
                             with_reducible rfl
                            rotate_left
                            ·simp only [Act.put, List.setIfInBounds_toArray, List.set_cons_zero, List.set_cons_succ, i64_w, i32_w]
                             rfl
                            refine pure_ (i := 5) (N := some 117) (v := ?_) (a' := ?_) #[true, true, true, true, true, true, false, false, false, false, false] rfl rfl (by kernel_rfl) (fun _ _ _ h => h) (Or.inl ⟨by rfl, ?_⟩) ?_ ?_
                            rotate_left
                            ·intro w'
                             go_simp
                             with_reducible rfl
                            rotate_left
                            ·simp only [Act.put, List.setIfInBounds_toArray, List.set_cons_zero, List.set_cons_succ, i64_w, i32_w]
                             rfl
                            refine pure_ (i := 6) (N := some 118) (v := ?_) (a' := ?_) #[true, true, true, true, true, true, true, false, false, false, false] rfl rfl (by kernel_rfl) (fun _ _ _ h => h) (Or.inl ⟨by rfl, ?_⟩) ?_ ?_
                            rotate_left
                            ·intro w'
                             go_simp
                             with_reducible rfl
                            rotate_left
                            ·simp only [Act.put, List.setIfInBounds_toArray, List.set_cons_zero, List.set_cons_succ, i64_w, i32_w]
                             rfl
                            refine take_ (i := 7) (N := some 119) (v := ?_) (a' := ?_) #[true, true, true, true, true, true, true, true, false, false, false] rfl rfl (by kernel_rfl) (fun _ _ _ h => h) (Or.inl ⟨by rfl, ?_⟩) hHeld ?_ ?_
                            rotate_left
                            ·intro w' s0
                             have s_0 := s0.2
                             clear s0
                             go_simp
                             with_reducible rfl
                            rotate_left
                            ·simp only [Act.put, List.setIfInBounds_toArray, List.set_cons_zero, List.set_cons_succ, i64_w, i32_w]
                             rfl
                            refine pure_ (i := 8) (N := some 120) (v := ?_) (a' := ?_) #[true, true, true, true, true, true, true, true, true, false, false] rfl rfl (by kernel_rfl) (fun _ _ _ h => h) (Or.inl ⟨by rfl, ?_⟩) ?_ ?_
                            rotate_left
                            ·intro w'
                             go_simp
                             with_reducible rfl
                            rotate_left
                            ·simp only [Act.put, List.setIfInBounds_toArray, List.set_cons_zero, List.set_cons_succ, i64_w, i32_w]
                             rfl
                            refine pure_ (i := 9) (N := some 121) (v := ?_) (a' := ?_) #[true, true, true, true, true, true, true, true, true, true, false] rfl rfl (by kernel_rfl) (fun _ _ _ h => h) (Or.inl ⟨by rfl, ?_⟩) ?_ ?_
                            rotate_left
                            ·intro w'
                             go_simp
                             with_reducible rfl
                            rotate_left
                            ·simp only [Act.put, List.setIfInBounds_toArray, List.set_cons_zero, List.set_cons_succ, i64_w, i32_w]
                             rfl
                            refine last_ (i := 10) (N := none) #[true, true, true, true, true, true, true, true, true, true, true] rfl rfl (by kernel_rfl) (by decide) (fun K hK => ?_)
                            refine skip_ (w1 := w2.drew.drew.setCell ⟨go31, t385.toNat, none⟩ (.int .i64 (wrap64 (rd x9 t385 + rd x9 t374)))) rfl rfl ?_ ?_
                            ·go_simp
                            refine hK.out _ _ ?_
                            clear hK K
                            refine done_ (by kernel_rfl) ?_
                            go_wp2
                            go_roundg k4
                            case measure => have := HK1.out; have := HK2.out; have := HK3.out; have := HK4.out; omega
                            case rel => exact ⟨x8, x9.set t385.toNat (wrap64 (rd x9 t385 + rd x9 t374)), x12, wrap64 (x75 + 1), by first | rfl | (simp; done) | (simp [*]; done), H', ⟨by have := HK1.out; have := HK2.out; have := HK3.out; have := HK4.out; omega⟩, ⟨(HFN.out.later (below_drew1 (below_drew1 (Below.refl _ _)))).setWays t385 _⟩, ⟨(HIN.out.later (below_drew1 (below_drew1 (Below.refl _ _)))).set9 _ _⟩⟩
                           ·rw [if_neg c73] at H; exact absurd H (by simp)
                          ·rw [if_neg c72] at H; exact absurd H (by simp)
                         ·rw [if_neg c71] at H
                          have c59b0 : decide (x75 < (t375.length : Int)) = true := decide_eq_true c59
                          have c60b0 : decide (0 ≤ x75) = true := decide_eq_true c60
                          have p60 := eq_true c60
                          have p59 := eq_true c59
                          have p64 := eq_true c64
                          have p65 := eq_true c65
                          have c71b0 : (rd x8 t385 == wrap64 (rd x8 t374 + 1)) = false := beq_eq_false_iff_ne.mpr c71
                          have H' := Aside0.mk H
                          clear c71
                          have c66b0 : decide (fx < 0) = false := decide_eq_false (by rw [hfx]; exact c66)
                          have HFX : Aside0 (rd x8 t385 = fx) := ⟨hfx.symm⟩
                          have p67 := eq_true c67
                          have p68 := eq_true c68
                          clear c66 c67 c68
                          have hs0 : ∀ o, (wr.alloc o).cell? ⟨gs, 0, none⟩ = some (.slice A0 s.f0.length c0) := fun o => (blk_cell (blk_alloc HI.out.box o) 0).trans rfl
                          have hs1 : ∀ o, (wr.alloc o).cell? ⟨gs, 1, none⟩ = some (.int .i64 s.f1) := fun o => (blk_cell (blk_alloc HI.out.box o) 1).trans rfl
                          clear H e8 e9 c59 c60 c64 c65 hv hfx
                          go_wp2_with (first | (go_at_call 185; refine (spec_isSail.calls k4 A0 c0 s.f0 s.f1 v.f0 A3 c3 v.f1 t380 t383 _ (Kd.F_now (Kd.F_alloc HI.out.row _)) HI.out.cap (Kd.C_alloc HR3.out _) HC3.out A62.out).mono ?_; rintro e w1 ⟨v81, rfl, ho81, hb1⟩; obtain ⟨A81, c81, e81⟩ := Kd.R_slice ho81; subst e81; have HO81 := Aside0.mk ho81; have HB1 := Aside0.mk hb1; have HBW := Aside0.mk (below_step (below_alloc (Below.refl wr.heap.size wr) _) hb1); have HBX := Aside0.mk (HF.out.later HBW.out); have hz0 : ∀ o, (w1.alloc o).cell? ⟨gb357, 0, none⟩ = some (.int .i64 a0_0) := fun o => (blk_cell (blk_alloc HBX.out.box o) 0).trans rfl; have hz1 : ∀ o, (w1.alloc o).cell? ⟨gb357, 1, none⟩ = some (.int .i64 a0_1) := fun o => (blk_cell (blk_alloc HBX.out.box o) 1).trans rfl; have hz2 : ∀ o, (w1.alloc o).cell? ⟨gb357, 2, none⟩ = some (.int .i64 a0_2) := fun o => (blk_cell (blk_alloc HBX.out.box o) 2).trans rfl; clear ho81 hb1 hs0 hs1 hx0 hx1) | (go_at_call 190; refine (spec_isCode.calls k4 a0_0 a0_1 a0_2 A81 c81 t380 t383 t385 _ (Kd.C_alloc (Kd.R_reads' HO81.out).2.2 _) (Kd.R_reads' HO81.out).2.1 A63.out).mono ?_; rintro e w2 ⟨rfl, hb2⟩; have HB2 := Aside0.mk (below_step (below_alloc (Below.refl w1.heap.size w1) _) hb2); have HNB := Aside0.mk (blk_below (blk_new w1 (.cells #[.slice A81 t380.length c81, .int .i64 t383] 64)) hb2); clear hb2 hz0 hz1 hz2; have HFN := Aside0.mk (HF.out.later (below_step HBW.out HB2.out)); have HIN := Aside0.mk (HI.out.later (below_step HBW.out HB2.out)); have HON := Aside0.mk (Kd.R_below HO81.out HB2.out); have HLT := Aside0.mk (And.intro (And.intro HF.out.lt8 HF.out.lt9) (And.intro (Kd.N_lt HF.out.q) (show wr.heap.size ≤ (wr.alloc (.cells #[.int .i64 v.f0, .slice A3 v.f1.length c3] 66)).heap.size from by simp))); obtain ⟨nb, hnb⟩ : ∃ nb, nb = w1.heap.size := ⟨_, rfl⟩; have HNW : Aside0 (wr.heap.size ≤ nb) := ⟨by rw [hnb]; exact Nat.le_trans (by simp) HB1.out.size⟩; rw [← hnb] at HNB ⊢; clear hnb HF HI HO81 HBX HBW HB1 HB2; have hf8 := HFN.out.cell8 t385 (of_eq_true p64) (of_eq_true p65); have hc8 := hf8.1; have hq8 := hf8.2; rw [HFX.out] at hc8; clear hf8; have hr1 := (HFN.out.cell8 t374 (of_eq_true p67) (of_eq_true p68)).1))
                          have hr0 := (HFN.out.cell8 t385 (of_eq_true p64) (of_eq_true p65)).1
                          clear hc8
                          refine start_ (n := 10) (S := fun w' => w'.cell? ⟨go29, t385.toNat, none⟩ = some (.int .i64 (rd x8 t385)) ∧ w'.cell? ⟨go29, t374.toNat, none⟩ = some (.int .i64 (rd x8 t374))) (ds := []) #[false, false, false, false, false, false, false, false, false, false] (by kernel_rfl) rfl rfl (⟨hr0, hr1⟩ : _ ∧ _) (fun hHeld => ?_)
                          refine pure_ (i := 0) (N := some 102) (v := ?_) (a' := ?_) #[true, false, false, false, false, false, false, false, false, false] rfl rfl (by kernel_rfl) (fun _ _ _ h => h) (Or.inl ⟨by rfl, ?_⟩) ?_ ?_
                          rotate_left
                          ·intro w'
                           go_simp
                           with_reducible rfl
                          rotate_left
                          ·simp only [Act.put, List.setIfInBounds_toArray, List.set_cons_zero, List.set_cons_succ, i64_w, i32_w]
                           rfl
                          refine pure_ (i := 1) (N := some 103) (v := ?_) (a' := ?_) #[true, true, false, false, false, false, false, false, false, false] rfl rfl (by kernel_rfl) (fun _ _ _ h => h) (Or.inl ⟨by rfl, ?_⟩) ?_ ?_
                          rotate_left
                          ·intro w'
                           go_simp
                           with_reducible rfl
                          rotate_left
                          ·simp only [Act.put, List.setIfInBounds_toArray, List.set_cons_zero, List.set_cons_succ, i64_w, i32_w]
                           rfl
                          refine pure_ (i := 2) (N := some 104) (v := ?_) (a' := ?_) #[true, true, true, false, false, false, false, false, false, false] rfl rfl (by kernel_rfl) (fun _ _ _ h => h) (Or.inl ⟨by rfl, ?_⟩) ?_ ?_
                          rotate_left
                          ·intro w'
                           go_simp
                           with_reducible rfl
                          rotate_left
                          ·simp only [Act.put, List.setIfInBounds_toArray, List.set_cons_zero, List.set_cons_succ, i64_w, i32_w]
                           rfl
                          refine take_ (i := 3) (N := some 105) (v := ?_) (a' := ?_) #[true, true, true, true, false, false, false, false, false, false] rfl rfl (by kernel_rfl) (fun _ _ _ h => h) (Or.inl ⟨by rfl, ?_⟩) hHeld ?_ ?_
                          rotate_left
                          ·intro w' s0
                           have s_0 := s0.1
                           clear s0
                           go_simp
                           with_reducible rfl
                          rotate_left
                          ·simp only [Act.put, List.setIfInBounds_toArray, List.set_cons_zero, List.set_cons_succ, i64_w, i32_w]
                           rfl
                          refine pure_ (i := 4) (N := some 106) (v := ?_) (a' := ?_) #[true, true, true, true, true, false, false, false, false, false] rfl rfl (by kernel_rfl) (fun _ _ _ h => h) (Or.inl ⟨by rfl, ?_⟩) ?_ ?_
                          rotate_left
                          ·intro w'
                           go_simp
                           with_reducible rfl
                          rotate_left
                          ·simp only [Act.put, List.setIfInBounds_toArray, List.set_cons_zero, List.set_cons_succ, i64_w, i32_w]
                           rfl
                          refine pure_ (i := 5) (N := some 107) (v := ?_) (a' := ?_) #[true, true, true, true, true, true, false, false, false, false] rfl rfl (by kernel_rfl) (fun _ _ _ h => h) (Or.inl ⟨by rfl, ?_⟩) ?_ ?_
                          rotate_left
                          ·intro w'
                           go_simp
                           with_reducible rfl
                          rotate_left
                          ·simp only [Act.put, List.setIfInBounds_toArray, List.set_cons_zero, List.set_cons_succ, i64_w, i32_w]
                           rfl
                          refine pure_ (i := 6) (N := some 108) (v := ?_) (a' := ?_) #[true, true, true, true, true, true, true, false, false, false] rfl rfl (by kernel_rfl) (fun _ _ _ h => h) (Or.inl ⟨by rfl, ?_⟩) ?_ ?_
                          rotate_left
                          ·intro w'
                           go_simp
                           with_reducible rfl
                          rotate_left
                          ·simp only [Act.put, List.setIfInBounds_toArray, List.set_cons_zero, List.set_cons_succ, i64_w, i32_w]
                           rfl
                          refine take_ (i := 7) (N := some 109) (v := ?_) (a' := ?_) #[true, true, true, true, true, true, true, true, false, false] rfl rfl (by kernel_rfl) (fun _ _ _ h => h) (Or.inl ⟨by rfl, ?_⟩) hHeld ?_ ?_
                          rotate_left
                          ·intro w' s0
                           have s_0 := s0.2
                           clear s0
                           go_simp
                           with_reducible rfl
                          rotate_left
                          ·simp only [Act.put, List.setIfInBounds_toArray, List.set_cons_zero, List.set_cons_succ, i64_w, i32_w]
                           rfl
                          refine pure_ (i := 8) (N := some 110) (v := ?_) (a' := ?_) #[true, true, true, true, true, true, true, true, true, false] rfl rfl (by kernel_rfl) (fun _ _ _ h => h) (Or.inl ⟨by rfl, ?_⟩) ?_ ?_
                          rotate_left
                          ·intro w'
                           go_simp
                           with_reducible rfl
                          rotate_left
                          ·simp only [Act.put, List.setIfInBounds_toArray, List.set_cons_zero, List.set_cons_succ, i64_w, i32_w]
                           rfl
                          refine pure_ (i := 9) (N := some 111) (v := ?_) (a' := ?_) #[true, true, true, true, true, true, true, true, true, true] rfl rfl (by kernel_rfl) (fun _ _ _ h => h) (Or.inl ⟨by rfl, ?_⟩) ?_ ?_
                          rotate_left
                          ·intro w'
                           go_simp
                           with_reducible rfl
                          rotate_left
                          ·simp only [Act.put, List.setIfInBounds_toArray, List.set_cons_zero, List.set_cons_succ, i64_w, i32_w]
                           rfl
                          refine done_ (by kernel_rfl) ?_
                          clear hr0 hr1 hHeld
                          go_wp2
                          go_roundg k4
                          case measure => have := HK1.out; have := HK2.out; have := HK3.out; have := HK4.out; omega
                          case rel => exact ⟨x8, x9, x12, wrap64 (x75 + 1), by first | rfl | (simp; done) | (simp [*]; done), H', ⟨by have := HK1.out; have := HK2.out; have := HK3.out; have := HK4.out; omega⟩, ⟨HFN.out.later (below_drew1 (Below.refl _ _))⟩, ⟨HIN.out.later (below_drew1 (Below.refl _ _))⟩⟩
                        ·rw [if_neg c68] at H; exact absurd H (by simp)
                       ·rw [if_neg c67] at H; exact absurd H (by simp)
                     ·rw [if_neg c65] at H; exact absurd H (by simp)
                    ·rw [if_neg c64] at H; exact absurd H (by simp)
                   ·rw [if_neg c60] at H; exact absurd H (by simp)
                  ·rw [if_neg c59] at H
                   have c59b0 : decide (x75 < (t375.length : Int)) = false := decide_eq_false c59
                   have H' := Aside0.mk H
                   clear H c59 e8 e9
                   go_wp2
                   go_roundg k4
                   case measure => have := HK1.out; have := HK2.out; have := HK3.out; have := HK4.out; omega
                   case rel => exact ⟨x8, x9, x12, wrap64 (x13_3 + 1), by first | rfl | (simp; done) | (simp [*]; done), H', ⟨by have := HK1.out; have := HK2.out; have := HK3.out; have := HK4.out; omega⟩, HF⟩
               ·rw [if_neg c44] at H; exact absurd H (by simp)
              ·rw [if_neg c43] at H
               have c43b0 : decide (x13_3 < (x12_3.length : Int)) = false := decide_eq_false c43
               obtain ⟨rfl, rfl, rfl⟩ : x8_3 = r1 ∧ x9_3 = r2 ∧ (x12_3.length : Int) = r3 := by injection H with H; injection H with h1 h2; injection h2 with h2 h3; exact ⟨h1, h2, h3⟩
               clear H c43
               go_wp2
               go_ret3
               exact ⟨_, _, rfl, Kd.R_reok rfl HF.out.far (fun k hk => ⟨Kd.R_base HF.out.far k hk, fun e => HF.out.ne (by simp [Value.ownBlock] at hk e; omega)⟩), Kd.R_reok rfl HF.out.ways (fun k hk => ⟨Kd.R_base HF.out.ways k hk, fun e => HF.out.ne (by simp [Value.ownBlock] at hk e; omega)⟩), HF.out.below⟩
           ·rw [if_neg c30] at H
            exact absurd H (by simp)
          ·rw [if_neg c28] at H
           exact absurd H (by simp)
         ·rw [if_neg c27] at H
          exact absurd H (by simp)
     ·rw [if_neg c12] at H
      exact absurd H (by simp)
    ·rw [if_neg c11] at H
     exact absurd H (by simp)
end Go.Proofs.Ytlkjglanglpdoaa.T
namespace Go.Proofs.Ytlkjglanglpdoaa.T
open Go.RowKit Go.Proofs.YtlkjglanglpdoaaW.PrintWords Go.Proofs.YtlkjglanglpdoaaW.PrintLast Go.Proofs.YtlkjglanglpdoaaW.PrintMore
set_option linter.unusedVariables false
set_option linter.unusedSimpArgs false
theorem sizeS_le {a0 a2 : Int} (h0 : 1 ≤ a0 ∧ a0 ≤ 3) (h2 : 0 ≤ a2 ∧ a2 ≤ 2) : sizeS a0 a2 ≤ 16384 := by
  obtain rfl | rfl | rfl : a0 = 1 ∨ a0 = 2 ∨ a0 = 3 := by omega
  all_goals obtain rfl | rfl | rfl : a2 = 0 ∨ a2 = 1 ∨ a2 = 2 := by omega
  all_goals decide
theorem far_l3 {a0 a1 a2 : Int} (h0 : 1 ≤ a0 ∧ a0 ≤ 3) (h1 : 1 ≤ a1 ∧ a1 ≤ 3) (h2 : 0 ≤ a2 ∧ a2 ≤ 2) (start x : S64) (i : Nat) :
    ∀ (d k m : Nat) (far ways : List Int) (q : List S64), Bfs a0 a1 a2 start far q i m → i < q.length → rd_T64 q i = x → ways.length = sizeS a0 a2 → m + d = (voyL a1 a2 x.f0 x.f1).length → d + 1200 < k →
      ∃ (k' : Nat) (far' ways' : List Int) (q' : List S64), k = k' + (d + 1) ∧
        spec_isFar.l3 k far ways q (i : Int) (cdS a2 x : Int) (voyL a1 a2 x.f0 x.f1) ((voyL a1 a2 x.f0 x.f1).length : Int) (m : Int) a0 a1 a2 x.f0 x.f1 = spec_isFar.l2 k' far' ways' q' (wrap64 ((i : Int) + 1)) a0 a1 a2 ∧
        Bfs a0 a1 a2 start far' q' i (voyL a1 a2 x.f0 x.f1).length ∧ i < q'.length ∧ rd_T64 q' i = x ∧ ways'.length = sizeS a0 a2 := by
  have hsz := sizeS_le h0 h2
  intro d
  induction d with
  | zero =>
    intro k m far ways q hB hi hx hw hm hk
    obtain ⟨k, rfl⟩ : ∃ m, k = m + 1 := ⟨k - 1, by omega⟩
    refine ⟨k, far, ways, q, rfl, ?_, by rw [← hm]; exact hB, hi, hx, hw⟩
    simp only [spec_isFar.l3]
    rw [if_neg (by omega)]
  | succ d ih =>
    intro k m far ways q hB hi hx hw hm hk
    obtain ⟨k, rfl⟩ : ∃ m, k = m + 1 := ⟨k - 1, by omega⟩
    have hlt : m < (voyL a1 a2 x.f0 x.f1).length := by omega
    have hgx : GoodS a0 a2 x := by rw [← hx]; exact hB.good _ (rd_T64_mem q i hi)
    have hvl := voyL_length a1 a2 x.f0 x.f1 (by have := hgx.1.len; omega) h2.2
    obtain ⟨v, hv⟩ : ∃ v, v = rd_T66 (voyL a1 a2 x.f0 x.f1) (m : Int) := ⟨_, rfl⟩
    have hve : (voyL a1 a2 x.f0 x.f1)[m]? = some v := by
      rw [hv]; unfold rd_T66; rw [Int.toNat_natCast, List.getD_eq_getElem?_getD, List.getElem?_eq_getElem hlt]; rfl
    have hvm := List.mem_of_getElem? hve
    have hok := voy_ok h2.1 hgx.1 hvm
    have hnt : (nextS a1 a2 (rd_T64 q i))[m]? = some ⟨gone x.f0 v.f0 v.f1, v.f0⟩ := by
      rw [hx]; unfold nextS; rw [List.getElem?_map, hve]; rfl
    have hgt : GoodS a0 a2 ⟨gone x.f0 v.f0 v.f1, v.f0⟩ := next_good h2.1 hgx (by have := List.mem_of_getElem? hnt; rw [hx] at this; exact this)
    have hct := cdS_code h2.1 hgt
    have hcx := cdS_code h2.1 hgx
    have hql := hB.small h2.1
    have hxl := hgx.1.len
    have hdeep := hB.deep i hi
    rw [hx] at hdeep
    have hx0 : 0 ≤ rd far (cdS a2 x) := (hB.told _ hcx.2).2 (List.mem_map.2 ⟨x, by rw [← hx]; exact rd_T64_mem q i hi, rfl⟩)
    simp only [spec_isFar.l3]
    rw [← hv, if_pos (by omega), if_pos (by omega), if_pos (by omega), sail_eq x.f0 x.f1 v.f0 v.f1 (by omega) (by have := hok.2.1.1; omega) (by rw [hxl]; exact hok.2.1.2) k (by have := hok.2.1.1; omega), Option.bind_some]
    have hcode : spec_isCode.f k a0 a1 a2 (gone x.f0 v.f0 v.f1) v.f0 = some (cdS a2 ⟨gone x.f0 v.f0 v.f1, v.f0⟩ : Int) := by
      rw [codeS_eq a0 a1 a2 h2 _ _ (by rw [gone_length]; omega) hok.2.2.2.2.ats hok.2.2.2.2.boat k (by rw [gone_length]; omega)]
      rw [hct.1]
    dsimp only
    obtain ⟨ct, hcte⟩ : ∃ ct, ct = cdS a2 ⟨gone x.f0 v.f0 v.f1, v.f0⟩ := ⟨_, rfl⟩
    obtain ⟨cx, hcxe⟩ : ∃ cx, cx = cdS a2 x := ⟨_, rfl⟩
    rw [hcode, Option.bind_some]
    have hfl := hB.len
    rw [← hcte, ← hcxe]
    rw [← hcte] at hct
    rw [← hcxe] at hcx hdeep hx0
    rw [if_pos (by omega), if_pos (by omega), wrap_up (m : Int) ((voyL a1 a2 x.f0 x.f1).length : Int) (by omega) (by omega) (by omega), show ((m : Int) + 1) = ((m + 1 : Nat) : Int) from by push_cast; rfl]
    have fin : ∀ (far2 ways2 : List Int) (q2 : List S64), Bfs a0 a1 a2 start far2 q2 i (m + 1) → i < q2.length → rd_T64 q2 i = x → ways2.length = sizeS a0 a2 →
        ∃ (k' : Nat) (far' ways' : List Int) (q' : List S64), k + 1 = k' + (d + 1 + 1) ∧
          spec_isFar.l3 k far2 ways2 q2 (i : Int) (cx : Int) (voyL a1 a2 x.f0 x.f1) ((voyL a1 a2 x.f0 x.f1).length : Int) ((m + 1 : Nat) : Int) a0 a1 a2 x.f0 x.f1 = spec_isFar.l2 k' far' ways' q' (wrap64 ((i : Int) + 1)) a0 a1 a2 ∧
          Bfs a0 a1 a2 start far' q' i (voyL a1 a2 x.f0 x.f1).length ∧ i < q'.length ∧ rd_T64 q' i = x ∧ ways'.length = sizeS a0 a2 := by
      intro far2 ways2 q2 hB2 hi2 hx2 hw2
      rw [hcxe]
      obtain ⟨k', far', ways', q', e1, e2⟩ := ih k (m + 1) far2 ways2 q2 hB2 hi2 hx2 hw2 (by omega) (by omega)
      exact ⟨k', far', ways', q', by omega, e2⟩
    by_cases hneg : rd far (ct : Int) < 0
    · rw [if_pos hneg, if_pos (by omega), if_pos (by omega), Option.bind_some, if_pos (by omega), Option.bind_some]
      have ew : wrap64 (rd far (cx : Int) + 1) = rd far (cx : Int) + 1 := by unfold wrap64; omega
      rw [ew, Int.toNat_natCast]
      have hB2 := hB.push h2.1 hi hnt (by rw [← hcte]; exact hneg)
      rw [hx, ← hcte, ← hcxe] at hB2
      have hi2 : i < (q ++ [(⟨gone x.f0 v.f0 v.f1, v.f0⟩ : S64)]).length := by simp; omega
      have hx2 : rd_T64 (q ++ [(⟨gone x.f0 v.f0 v.f1, v.f0⟩ : S64)]) i = x := by rw [rd_T64_app _ _ _ hi]; exact hx
      split
      · rw [if_pos (by omega), if_pos (by omega)]
        exact fin _ _ _ hB2 hi2 hx2 (by rw [List.length_set]; exact hw)
      · exact fin _ _ _ hB2 hi2 hx2 hw
    · rw [if_neg hneg, if_pos (by omega), if_pos (by omega)]
      have hB2 := hB.seen h2.1 hi hnt (by rw [← hcte]; omega)
      split
      · rw [if_pos (by omega), if_pos (by omega)]
        exact fin _ _ _ hB2 hi hx (by rw [List.length_set]; exact hw)
      · exact fin _ _ _ hB2 hi hx hw
theorem far_l2 {a0 a1 a2 : Int} (h0 : 1 ≤ a0 ∧ a0 ≤ 3) (h1 : 1 ≤ a1 ∧ a1 ≤ 3) (h2 : 0 ≤ a2 ∧ a2 ≤ 2) (start : S64) :
    ∀ (d k i : Nat) (far ways : List Int) (q : List S64), Bfs a0 a1 a2 start far q i 0 → ways.length = sizeS a0 a2 → i + d = sizeS a0 a2 → 300 * d + 2000 < k →
      ∃ (far' ways' : List Int) (q' : List S64) (i' : Nat), spec_isFar.l2 k far ways q (i : Int) a0 a1 a2 = some (far', ways', (q'.length : Int)) ∧ Bfs a0 a1 a2 start far' q' i' 0 ∧ q'.length ≤ i' ∧ ways'.length = sizeS a0 a2 := by
  have hsz := sizeS_le h0 h2
  intro d
  induction d with
  | zero =>
    intro k i far ways q hB hw hi hk
    obtain ⟨k, rfl⟩ : ∃ m, k = m + 1 := ⟨k - 1, by omega⟩
    have hql := hB.small h2.1
    refine ⟨far, ways, q, i, ?_, hB, by omega, hw⟩
    simp only [spec_isFar.l2]
    rw [if_neg (by omega)]
  | succ d ih =>
    intro k i far ways q hB hw hi hk
    obtain ⟨k, rfl⟩ : ∃ m, k = m + 1 := ⟨k - 1, by omega⟩
    have hql := hB.small h2.1
    simp only [spec_isFar.l2]
    by_cases hlt : i < q.length
    · obtain ⟨x, hx⟩ : ∃ x, x = rd_T64 q (i : Int) := ⟨_, rfl⟩
      have hgx : GoodS a0 a2 x := by rw [hx]; exact hB.good _ (rd_T64_mem q i hlt)
      have hxl := hgx.1.len
      have hvl := voyL_length a1 a2 x.f0 x.f1 (by omega) h2.2
      rw [if_pos (by omega), if_pos (by omega), ← hx, codeS_eq a0 a1 a2 h2 x.f0 x.f1 (by omega) hgx.1.ats hgx.1.boat k (by omega), Option.bind_some, (cdS_code h2.1 hgx).1, voyS_eq a0 a1 a2 h0 h1 h2 x.f0 x.f1 hxl k (by omega), Option.bind_some]
      obtain ⟨k', far', ways', q', e1, e2, hB', hi', hx', hw'⟩ := far_l3 h0 h1 h2 start x i (voyL a1 a2 x.f0 x.f1).length k 0 far ways q hB hlt hx.symm hw (by omega) (by omega)
      rw [show ((0 : Nat) : Int) = 0 from rfl] at e2
      rw [e2, show wrap64 ((i : Int) + 1) = ((i + 1 : Nat) : Int) from by unfold wrap64; omega]
      have hB2 := hB'.next hi' (by rw [hx']; unfold nextS; rw [List.length_map]; exact Nat.le_refl _)
      exact ih k' (i + 1) far' ways' q' hB2 hw' (by omega) (by omega)
    · refine ⟨far, ways, q, i, ?_, hB, by omega, hw⟩
      rw [if_neg (by omega)]
theorem far_l1 {a0 a1 a2 : Int} (h0 : 1 ≤ a0 ∧ a0 ≤ 3) (h1 : 1 ≤ a1 ∧ a1 ≤ 3) (h2 : 0 ≤ a2 ∧ a2 ≤ 2) (start : S64) (hs : GoodS a0 a2 start) :
    ∀ (d k i : Nat), i + d = sizeS a0 a2 → d + 300 * sizeS a0 a2 + 3000 < k →
      ∃ (far' ways' : List Int) (q' : List S64) (i' : Nat), spec_isFar.l1 k (List.replicate i (-1) ++ List.replicate d 0) (List.replicate (sizeS a0 a2) 0) (sizeS a0 a2 : Int) (i : Int) a0 a1 a2 start.f0 start.f1 = some (far', ways', (q'.length : Int)) ∧ Bfs a0 a1 a2 start far' q' i' 0 ∧ q'.length ≤ i' ∧ ways'.length = sizeS a0 a2 := by
  have hsz := sizeS_le h0 h2
  have hcs := cdS_code h2.1 hs
  intro d
  induction d with
  | zero =>
    intro k i hi hk
    obtain ⟨k, rfl⟩ : ∃ m, k = m + 1 := ⟨k - 1, by omega⟩
    have hii : i = sizeS a0 a2 := by omega
    subst hii
    simp only [spec_isFar.l1]
    rw [if_neg (by omega), codeS_eq a0 a1 a2 h2 start.f0 start.f1 (by have := hs.1.len; omega) hs.1.ats hs.1.boat k (by have := hs.1.len; omega), Option.bind_some, hcs.1, if_pos (by omega), if_pos (by simp; omega), if_pos (by simp; omega), Int.toNat_natCast]
    have hB := Bfs.begins (a0 := a0) (a1 := a1) h2.1 hs
    have := far_l2 h0 h1 h2 start (sizeS a0 a2) k 0 _ ((List.replicate (sizeS a0 a2) 0).set (cdS a2 start) 1) _ hB (by simp) (by omega) (by omega)
    rw [show ((0 : Nat) : Int) = 0 from rfl] at this
    simpa using this
  | succ d ih =>
    intro k i hi hk
    obtain ⟨k, rfl⟩ : ∃ m, k = m + 1 := ⟨k - 1, by omega⟩
    simp only [spec_isFar.l1]
    rw [if_pos (by omega), if_pos (by omega), if_pos (by simp; omega), Int.toNat_natCast, wrap_up (i : Int) (sizeS a0 a2 : Int) (by omega) (by omega) (by omega), show ((i : Int) + 1) = ((i + 1 : Nat) : Int) from by push_cast; rfl]
    have hset : (List.replicate i (-1) ++ List.replicate (d + 1) (0 : Int)).set i (-1) = List.replicate (i + 1) (-1) ++ List.replicate d 0 := by
      rw [List.set_append_right (s := List.replicate i (-1 : Int)) (h := by simp), List.replicate_succ (n := d), List.replicate_succ' (n := i)]
      simp
    rw [hset]
    exact ih k (i + 1) (by omega) (by omega)
theorem far_l0 {a0 a1 a2 : Int} (h0 : 1 ≤ a0 ∧ a0 ≤ 3) (h2 : 0 ≤ a2 ∧ a2 ≤ 2) (l1 : List Int) (b : Int) (n : Nat) (hn : n = (2 * a0).toNat) : ∀ (d k i : Nat), i + d = n → d < k →
    ∃ k', k = k' + (d + 1) ∧ spec_isFar.l0 k ((a2 + 2) ^ (i + 1)) (n : Int) (i : Int) a0 a1 a2 l1 b = spec_isFar.l1 k' (List.replicate (sizeS a0 a2) 0) (List.replicate (sizeS a0 a2) 0) (sizeS a0 a2 : Int) 0 a0 a1 a2 l1 b := by
  have hsz := sizeS_le h0 h2
  have h4 : ((a2 + 2).toNat : Int) = a2 + 2 := by omega
  have h5 : (sizeS a0 a2 : Int) = (a2 + 2) ^ (n + 1) := by unfold sizeS; push_cast; rw [h4, hn]
  intro d
  induction d with
  | zero =>
    intro k i hi hk
    obtain ⟨k, rfl⟩ : ∃ m, k = m + 1 := ⟨k - 1, by omega⟩
    refine ⟨k, rfl, ?_⟩
    simp only [spec_isFar.l0]
    rw [if_neg (by omega), show i = n from by omega, ← h5, if_pos (by omega), if_pos (by omega), Option.bind_some, Int.toNat_natCast, List.length_replicate]
  | succ d ih =>
    intro k i hi hk
    obtain ⟨k, rfl⟩ : ∃ m, k = m + 1 := ⟨k - 1, by omega⟩
    simp only [spec_isFar.l0]
    have hp : (a2 + 2) ^ (i + 1) ≤ 4 ^ 6 := by
      have h6 : (a2 + 2).toNat ^ (i + 1) ≤ 4 ^ (i + 1) := Nat.pow_le_pow_left (by omega) _
      have h7 : 4 ^ (i + 1) ≤ 4 ^ 6 := Nat.pow_le_pow_right (by omega) (by omega)
      have h8 : (a2 + 2) ^ (i + 1) = (((a2 + 2).toNat ^ (i + 1) : Nat) : Int) := by push_cast; rw [h4]
      rw [h8]
      have : (a2 + 2).toNat ^ (i + 1) ≤ 4096 := Nat.le_trans h6 h7
      omega
    have hp0 : 0 ≤ (a2 + 2) ^ (i + 1) := Int.pow_nonneg (by omega)
    have hm : 0 ≤ (a2 + 2) ^ (i + 1) * (a2 + 2) ∧ (a2 + 2) ^ (i + 1) * (a2 + 2) ≤ 4 ^ 6 * 4 := ⟨Int.mul_nonneg hp0 (by omega), Int.le_trans (Int.mul_le_mul_of_nonneg_left (by omega : a2 + 2 ≤ 4) hp0) (by omega)⟩
    rw [if_pos (by omega), show wrap64 (a2 + 2) = a2 + 2 from by unfold wrap64; omega, show wrap64 ((a2 + 2) ^ (i + 1) * (a2 + 2)) = (a2 + 2) ^ (i + 1 + 1) from by
      rw [Int.pow_succ (a2 + 2) (i + 1)]
      generalize (a2 + 2) ^ (i + 1) * (a2 + 2) = z at hm
      unfold wrap64; omega, wrap_up (i : Int) (n : Int) (by omega) (by omega) (by omega), show ((i : Int) + 1) = ((i + 1 : Nat) : Int) from by push_cast; rfl]
    obtain ⟨k', e1, e2⟩ := ih k (i + 1) (by omega) (by omega)
    exact ⟨k', by omega, e2⟩
theorem far_eq {a0 a1 a2 : Int} (hI : (1 ≤ a0 ∧ a0 ≤ 3) ∧ (1 ≤ a1 ∧ a1 ≤ 3) ∧ (0 ≤ a2 ∧ a2 ≤ 2)) (start : S64) (hs : GoodS a0 a2 start) (k : Nat) (hk : 6000000 < k) :
    ∃ (far ways : List Int) (q : List S64) (i : Nat), spec_isFar.f k a0 a1 a2 start.f0 start.f1 = some (far, ways, (q.length : Int)) ∧ Bfs a0 a1 a2 start far q i 0 ∧ q.length ≤ i ∧ ways.length = sizeS a0 a2 := by
  have hsz := sizeS_le hI.1 hI.2.2
  have hl := hs.1.len
  unfold spec_isFar.f
  obtain ⟨k', e1, e2⟩ := far_l0 (a1 := a1) hI.1 hI.2.2 start.f0 start.f1 start.f0.length hl start.f0.length k 0 (by omega) (by omega)
  rw [show ((0 : Nat) : Int) = 0 from rfl, Nat.zero_add, Int.pow_succ, Int.pow_zero, Int.one_mul] at e2
  rw [show wrap64 (a2 + 2) = a2 + 2 from by unfold wrap64; omega, e2]
  have := far_l1 hI.1 hI.2.1 hI.2.2 start hs (sizeS a0 a2) k' 0 (by omega) (by omega)
  rw [show ((0 : Nat) : Int) = 0 from rfl] at this
  simpa using this
end Go.Proofs.Ytlkjglanglpdoaa.T
namespace Go.Proofs.Ytlkjglanglpdoaa.T
open Go.RowKit Go.Proofs.YtlkjglanglpdoaaW.PrintWords Go.Proofs.YtlkjglanglpdoaaW.PrintLast Go.Proofs.YtlkjglanglpdoaaW.PrintMore
attribute [local go_sem] max2_int min2_int max_two min_two max_three min_three max_four min_four
set_option linter.unusedVariables false
set_option linter.unusedSimpArgs false
def impl_IsIsles.f (a0_0 : Int) (a0_1 : Int) (a0_2 : Int) : Option (Bool) := (impl_in.f a0_0 1 3).bind fun t989 => (if t989 = true then ((impl_in.f a0_1 1 3).bind fun t990 => (if t990 = true then ((impl_in.f a0_2 0 2).bind fun t991 => (some t991)) else (some false))) else (some false))
set_option maxHeartbeats 8000000 in
set_option maxRecDepth 100000 in
theorem impl_IsIsles.calls (a0_0 : Int) (a0_1 : Int) (a0_2 : Int) (r : Bool) (w : World) (h : impl_IsIsles.f a0_0 a0_1 a0_2 = some r) :
  Calls Try.prog 59 #[.agg #[.int .i64 a0_0, .int .i64 a0_1, .int .i64 a0_2]] w fun e w' => e = .returned (.bool r) ∧ Below w.heap.size w w' := by
 have hu39 := Try.underlying39
 have HB := Aside0.mk (Below.refl w.heap.size w)
 have H : ((impl_in.f a0_0 1 3).bind fun t989 => (if t989 = true then ((impl_in.f a0_1 1 3).bind fun t990 => (if t990 = true then ((impl_in.f a0_2 0 2).bind fun t991 => (some t991)) else (some false))) else (some false))) = some r := h
 clear h
 replace H := Option.bind_eq_some_iff.mp H
 obtain ⟨t989, A20, H⟩ := H
 replace H : (if t989 = true then ((impl_in.f a0_1 1 3).bind fun t990 => (if t990 = true then ((impl_in.f a0_2 0 2).bind fun t991 => (some t991)) else (some false))) else (some false)) = some r := H
 have A2 := Aside0.mk A20
 clear A20
 by_cases c3 : t989 = true
 ·subst c3
  have H1 : ((impl_in.f a0_1 1 3).bind fun t990 => (if t990 = true then ((impl_in.f a0_2 0 2).bind fun t991 => (some t991)) else (some false))) = some r := by rw [if_pos rfl] at H; exact H
  clear H
  have H := H1
  clear H1
  replace H := Option.bind_eq_some_iff.mp H
  obtain ⟨t990, A40, H⟩ := H
  replace H : (if t990 = true then ((impl_in.f a0_2 0 2).bind fun t991 => (some t991)) else (some false)) = some r := H
  have A4 := Aside0.mk A40
  clear A40
  by_cases c5 : t990 = true
  ·subst c5
   have H1 : ((impl_in.f a0_2 0 2).bind fun t991 => (some t991)) = some r := by rw [if_pos rfl] at H; exact H
   clear H
   have H := H1
   clear H1
   replace H := Option.bind_eq_some_iff.mp H
   obtain ⟨t991, A60, H⟩ := H
   replace H : (some t991) = some r := H
   have A6 := Aside0.mk A60
   clear A60
   obtain rfl := Option.some.inj H
   go_enter Try.func59, Try.ntmps59
   go_wp2_with (first | ((with_reducible refine gate_dst (N := 1) rfl ?_); refine box_event ?hg (N := 1) ?hd (cs := #[.int .i64 a0_0, .int .i64 a0_1, .int .i64 a0_2]) (t := 39) ?hr ?_; (case hd => rfl); (case hg => rfl); (case hr => first | (go_simp; done) | (go_simp; rfl)); intro gb988 hg w7 hbox hb; have n0_ := Aside0.mk (below_step (by repeat (first | (with_reducible first | exact HB.out | apply below_alloc | apply pw_below_drewN | apply below_drew1) | exact HB.out)) hb); have n1_ := Aside0.mk (hbox); have n2_ := Aside0.mk ((by rw [hg]; exact (below_size (by repeat (first | (with_reducible first | exact HB.out | apply below_alloc | apply pw_below_drewN | apply below_drew1) | exact HB.out))) : w.heap.size ≤ gb988)); have n3_ := Aside0.mk ((by rw [hg]; exact (below_size (by repeat (first | (with_reducible first | exact HB.out | apply below_alloc | apply pw_below_drewN | apply below_drew1) | exact HB.out))) : w.heap.size ≤ gb988)); clear HB; have HB := n0_; have BK988 := n1_; have GW988 := n2_; have GE988 := n3_; clear n0_ n1_ n2_ n3_; clear hb hbox hg; have hcz8_0 : w7.cell? ⟨gb988, 0, none⟩ = some (.int .i64 a0_0) := (blk_cell BK988.out 0).trans rfl; have hcz8_1 : w7.cell? ⟨gb988, 1, none⟩ = some (.int .i64 a0_1) := (blk_cell BK988.out 1).trans rfl; have hcz8_2 : w7.cell? ⟨gb988, 2, none⟩ = some (.int .i64 a0_2) := (blk_cell BK988.out 2).trans rfl; have hfz8_0 := blk_frozen BK988.out 0; have hfz8_1 := blk_frozen BK988.out 1; have hfz8_2 := blk_frozen BK988.out 2) | ((with_reducible refine gate_callee (f := 157) rfl ?_); refine goesL_ (some 5) rfl rfl Try.func157 (by kernel_rfl) rfl #[.int .i64 a0_0, .int .i64 1, .int .i64 3] rfl (by (try simp only [List.map_toArray, List.map_cons, List.map_nil]); first | done | rfl | (simp only [List.length_drop, List.length_take]; rfl)) ?_; (with_reducible refine (impl_in.calls a0_0 1 3 true _ A2.out).mono ?_); rintro e w' ⟨rfl, ⟨nd, rfl⟩⟩; refine ⟨_, rfl, ?_⟩) | (go_at_call 157; (with_reducible refine (impl_in.calls a0_1 1 3 true _ A4.out).mono ?_); rintro e w' ⟨rfl, ⟨nd, rfl⟩⟩) | (go_at_call 157; (with_reducible refine (impl_in.calls a0_2 0 2 t991 _ A6.out).mono ?_); rintro e w' ⟨rfl, ⟨nd, rfl⟩⟩))
   go_ret
   exact ⟨by first | rfl | (simp [errW_none, errW_some] <;> rfl) | (simp [*, errW_none, errW_some] <;> rfl), by repeat (first | (with_reducible first | exact HB.out | apply below_alloc | apply pw_below_drewN | apply below_drew1 | refine below_set ?_ GE988.out) | exact HB.out)⟩
  ·replace c5 := Bool.eq_false_iff.mpr c5
   subst c5
   have H1 : (some false) = some r := by rw [if_neg (show ¬ (false = true) by decide)] at H; exact H
   clear H
   have H := H1
   clear H1
   obtain rfl := Option.some.inj H
   go_enter Try.func59, Try.ntmps59
   go_wp2_with (first | ((with_reducible refine gate_dst (N := 1) rfl ?_); refine box_event ?hg (N := 1) ?hd (cs := #[.int .i64 a0_0, .int .i64 a0_1, .int .i64 a0_2]) (t := 39) ?hr ?_; (case hd => rfl); (case hg => rfl); (case hr => first | (go_simp; done) | (go_simp; rfl)); intro gb988 hg w9 hbox hb; have n0_ := Aside0.mk (below_step (by repeat (first | (with_reducible first | exact HB.out | apply below_alloc | apply pw_below_drewN | apply below_drew1) | exact HB.out)) hb); have n1_ := Aside0.mk (hbox); have n2_ := Aside0.mk ((by rw [hg]; exact (below_size (by repeat (first | (with_reducible first | exact HB.out | apply below_alloc | apply pw_below_drewN | apply below_drew1) | exact HB.out))) : w.heap.size ≤ gb988)); have n3_ := Aside0.mk ((by rw [hg]; exact (below_size (by repeat (first | (with_reducible first | exact HB.out | apply below_alloc | apply pw_below_drewN | apply below_drew1) | exact HB.out))) : w.heap.size ≤ gb988)); clear HB; have HB := n0_; have BK988 := n1_; have GW988 := n2_; have GE988 := n3_; clear n0_ n1_ n2_ n3_; clear hb hbox hg; have hcz10_0 : w9.cell? ⟨gb988, 0, none⟩ = some (.int .i64 a0_0) := (blk_cell BK988.out 0).trans rfl; have hcz10_1 : w9.cell? ⟨gb988, 1, none⟩ = some (.int .i64 a0_1) := (blk_cell BK988.out 1).trans rfl; have hcz10_2 : w9.cell? ⟨gb988, 2, none⟩ = some (.int .i64 a0_2) := (blk_cell BK988.out 2).trans rfl; have hfz10_0 := blk_frozen BK988.out 0; have hfz10_1 := blk_frozen BK988.out 1; have hfz10_2 := blk_frozen BK988.out 2) | ((with_reducible refine gate_callee (f := 157) rfl ?_); refine goesL_ (some 5) rfl rfl Try.func157 (by kernel_rfl) rfl #[.int .i64 a0_0, .int .i64 1, .int .i64 3] rfl (by (try simp only [List.map_toArray, List.map_cons, List.map_nil]); first | done | rfl | (simp only [List.length_drop, List.length_take]; rfl)) ?_; (with_reducible refine (impl_in.calls a0_0 1 3 true _ A2.out).mono ?_); rintro e w' ⟨rfl, ⟨nd, rfl⟩⟩; refine ⟨_, rfl, ?_⟩) | (go_at_call 157; (with_reducible refine (impl_in.calls a0_1 1 3 false _ A4.out).mono ?_); rintro e w' ⟨rfl, ⟨nd, rfl⟩⟩))
   go_ret
   exact ⟨by first | rfl | (simp [errW_none, errW_some] <;> rfl) | (simp [*, errW_none, errW_some] <;> rfl), by repeat (first | (with_reducible first | exact HB.out | apply below_alloc | apply pw_below_drewN | apply below_drew1 | refine below_set ?_ GE988.out) | exact HB.out)⟩
 ·replace c3 := Bool.eq_false_iff.mpr c3
  subst c3
  have H1 : (some false) = some r := by rw [if_neg (show ¬ (false = true) by decide)] at H; exact H
  clear H
  have H := H1
  clear H1
  obtain rfl := Option.some.inj H
  go_enter Try.func59, Try.ntmps59
  go_wp2_with (first | ((with_reducible refine gate_dst (N := 1) rfl ?_); refine box_event ?hg (N := 1) ?hd (cs := #[.int .i64 a0_0, .int .i64 a0_1, .int .i64 a0_2]) (t := 39) ?hr ?_; (case hd => rfl); (case hg => rfl); (case hr => first | (go_simp; done) | (go_simp; rfl)); intro gb988 hg w11 hbox hb; have n0_ := Aside0.mk (below_step (by repeat (first | (with_reducible first | exact HB.out | apply below_alloc | apply pw_below_drewN | apply below_drew1) | exact HB.out)) hb); have n1_ := Aside0.mk (hbox); have n2_ := Aside0.mk ((by rw [hg]; exact (below_size (by repeat (first | (with_reducible first | exact HB.out | apply below_alloc | apply pw_below_drewN | apply below_drew1) | exact HB.out))) : w.heap.size ≤ gb988)); have n3_ := Aside0.mk ((by rw [hg]; exact (below_size (by repeat (first | (with_reducible first | exact HB.out | apply below_alloc | apply pw_below_drewN | apply below_drew1) | exact HB.out))) : w.heap.size ≤ gb988)); clear HB; have HB := n0_; have BK988 := n1_; have GW988 := n2_; have GE988 := n3_; clear n0_ n1_ n2_ n3_; clear hb hbox hg; have hcz12_0 : w11.cell? ⟨gb988, 0, none⟩ = some (.int .i64 a0_0) := (blk_cell BK988.out 0).trans rfl; have hcz12_1 : w11.cell? ⟨gb988, 1, none⟩ = some (.int .i64 a0_1) := (blk_cell BK988.out 1).trans rfl; have hcz12_2 : w11.cell? ⟨gb988, 2, none⟩ = some (.int .i64 a0_2) := (blk_cell BK988.out 2).trans rfl; have hfz12_0 := blk_frozen BK988.out 0; have hfz12_1 := blk_frozen BK988.out 1; have hfz12_2 := blk_frozen BK988.out 2) | ((with_reducible refine gate_callee (f := 157) rfl ?_); refine goesL_ (some 5) rfl rfl Try.func157 (by kernel_rfl) rfl #[.int .i64 a0_0, .int .i64 1, .int .i64 3] rfl (by (try simp only [List.map_toArray, List.map_cons, List.map_nil]); first | done | rfl | (simp only [List.length_drop, List.length_take]; rfl)) ?_; (with_reducible refine (impl_in.calls a0_0 1 3 false _ A2.out).mono ?_); rintro e w' ⟨rfl, ⟨nd, rfl⟩⟩; refine ⟨_, rfl, ?_⟩))
  go_ret
  exact ⟨by first | rfl | (simp [errW_none, errW_some] <;> rfl) | (simp [*, errW_none, errW_some] <;> rfl), by repeat (first | (with_reducible first | exact HB.out | apply below_alloc | apply pw_below_drewN | apply below_drew1 | refine below_set ?_ GE988.out) | exact HB.out)⟩
end Go.Proofs.Ytlkjglanglpdoaa.T
namespace Go.Proofs.Ytlkjglanglpdoaa.T
open Go.RowKit Go.Proofs.YtlkjglanglpdoaaW.PrintWords Go.Proofs.YtlkjglanglpdoaaW.PrintLast Go.Proofs.YtlkjglanglpdoaaW.PrintMore
set_option linter.unusedVariables false
set_option linter.unusedSimpArgs false
def E4 (a0 a1 a2 : Int) (s : Nat) : List S234 := match impl_Isles_graph_1.f 400 (s : Int) a0 a1 a2 with
 | some (r, _) => r
 | none => []
def G4 (a0 a2 : Int) (s : Nat) : Prop := ∃ at_ b, PlOk (2 * a0).toNat (a2 + 1) at_ b ∧ calmAt (a2 + 2).toNat at_ = true ∧ (s : Int) = codeB 4 at_ b
def many4 (a0 : Int) : Nat := 4 ^ ((2 * a0).toNat + 1)
def IslOk (a0 a1 a2 : Int) : Prop := (1 ≤ a0 ∧ a0 ≤ 3) ∧ (1 ≤ a1 ∧ a1 ≤ 3) ∧ (0 ≤ a2 ∧ a2 ≤ 2)
theorem E4_eq {a0 a1 a2 : Int} (hI : IslOk a0 a1 a2) {at_ : List Int} {b : Int} {s : Nat} (h : PlOk (2 * a0).toNat (a2 + 1) at_ b) (hs : (s : Int) = codeB 4 at_ b) : E4 a0 a1 a2 s = edges4 a1 a2 at_ b := by
 unfold E4
 rw [hs, graph_eq a0 a1 a2 at_ b hI.1 hI.2.1.2 hI.2.2 h 400 (by omega)]
theorem code4_lt {a0 a2 : Int} (h0 : a2 ≤ 2) {at_ : List Int} {b : Int} (h : PlOk (2 * a0).toNat (a2 + 1) at_ b) : 0 ≤ codeB 4 at_ b ∧ codeB 4 at_ b < (many4 a0 : Int) := by
 have h1 := codeB_nonneg 4 (by omega) at_ b h.boat.1 (fun x hx => (h.ats x hx).1)
 have h2 := codeB_lt 4 (by omega) at_ b 1 h.boat.1 (by have := h.boat; omega) (fun x hx => by have := h.ats x hx; omega)
 rw [h.len, Nat.add_comm 1] at h2
 unfold many4
 push_cast
 exact ⟨h1, h2⟩
theorem below_keep {wb w w' : World} {g : Nat} {a0 a1 a2 : Int} (hI : IsS39 wb w g a0 a1 a2) (hI' : IsS39 wb w' g a0 a1 a2) (hB : Below wb.heap.size wb w) (hB' : Below wb.heap.size wb w') (hK : KeepBut w w' g none) : Below w.heap.size w w' := by
 refine ⟨hB'.os.trans hB.os.symm, hB'.tape.trans hB.tape.symm, hB'.output.trans hB.output.symm, hK.1, fun k hk => ?_⟩
 by_cases e : k = g
 ·subst e; rw [hI'.1, hI.1]
 ·exact hK.2 k hk e (by simp)
theorem outs_isles {a0 a1 a2 : Int} (hI : IslOk a0 a1 a2) {wb w0 : World} {pw : Nat} (hb : IsS39 wb w0 pw a0 a1 a2) (hB : Below wb.heap.size wb w0) :
  OutsV 252 #[.pointer (some ⟨pw, 0, none⟩)] (E4 a0 a1 a2) (G4 a0 a2) (many4 a0) 1 256 w0 := by
 refine ⟨⟨_, Try.func252, by kernel_rfl, rfl⟩, ?_, ?_, ?_⟩
 ·rintro s hs ⟨at_, b, hp, hc, he⟩ w' hw
  have h1 := hb.below hw
  have h2 := hB.trans (hw.mono hB.size)
  have hf := graph_eq a0 a1 a2 at_ b hI.1 hI.2.1.2 hI.2.2 hp 400 (by omega)
  rw [← he] at hf
  refine (show Calls Try.prog 252 #[.int .i64 (s : Int), .pointer (some ⟨pw, 0, none⟩)] w' _ from (impl_Isles_graph_1.calls 400 (s : Int) pw a0 a1 a2 (edges4 a1 a2 at_ b) a0 a1 a2 wb w' h1 h2 hf).mono ?_)
  rintro e w'' ⟨v, rfl, hN, hI', hB', hK⟩
  rw [E4_eq hI hp he]
  exact ⟨v, rfl, hN, below_keep h1 hI' h2 hB' hK⟩
 ·rintro s ⟨at_, b, hp, hc, he⟩ e hm
  rw [E4_eq hI hp he] at hm
  obtain ⟨v, hv, rfl⟩ := List.mem_map.1 hm
  have hk := voy_ok hI.2.2.1 hp hv
  have hl := code4_lt hI.2.2.2 hk.2.2.2.2
  exact ⟨(codeB 4 (gone at_ v.f0 v.f1) v.f0).toNat, 1, by show codeB 4 (gone at_ v.f0 v.f1) v.f0 = _; omega, rfl, by omega, ⟨_, _, hk.2.2.2.2, hk.2.2.2.1, by omega⟩, by omega, by omega⟩
 ·rintro s ⟨at_, b, hp, hc, he⟩
  rw [E4_eq hI hp he]
  unfold edges4
  rw [List.length_map]
  exact voyL_length a1 a2 at_ b (by have := hp.len; have := hI.1; omega) hI.2.2.2
set_option maxHeartbeats 3200000 in
set_option maxRecDepth 100000 in
theorem graphI2 {a0 a1 a2 : Int} (hI : IslOk a0 a1 a2) (w : World) :
  Calls Try.prog 143 #[.agg #[.int .i64 a0, .int .i64 a1, .int .i64 a2]] w fun e w' =>
   ∃ pw : Nat, e = .returned (.agg #[.int .i64 (many4 a0 : Int), .func (.func 252) #[] #[.pointer (some ⟨pw, 0, none⟩)]]) ∧ IsS39 w w' pw a0 a1 a2 ∧ Below w.heap.size w w' := by
 have HI := Aside0.mk hI
 have hm : impl_Isles_many.f 10 a0 a1 a2 = some (many4 a0 : Int) := by
  rw [many_eq a0 a1 a2 hI.1 10 (by omega)]; unfold many4; push_cast; rfl
 have HM := Aside0.mk hm
 clear hm hI
 have hmf : ∀ (fn : Fn) (first cap : Array Value) (w : World), (Instr.makeFunc fn first cap).run Try.prog w = .ok (.func fn first cap) w := fun _ _ _ _ => rfl
 go_enter Try.func143, Try.ntmps143
 go_wp2_with (first | ((with_reducible refine gate_dst (N := 1) rfl ?_); refine box_event ?hg (N := 1) ?hd (cs := #[.int .i64 a0, .int .i64 a1, .int .i64 a2]) (t := 39) ?hr ?_; (case hd => rfl); (case hg => rfl); (case hr => first | (go_simp; done) | (go_simp; rfl)); intro pw hpw w1 hcw hb1; have HP := Aside0.mk hcw; have HB1 := Aside0.mk hb1; have HPW := Aside0.mk (show w.heap.size ≤ pw from by rw [hpw]; exact Nat.le_refl _); have hz0 : ∀ o, (w1.alloc o).cell? ⟨pw, 0, none⟩ = some (.int .i64 a0) := (fun o => (blk_cell (blk_alloc HP.out o) 0).trans rfl); have hz1 : ∀ o, (w1.alloc o).cell? ⟨pw, 1, none⟩ = some (.int .i64 a1) := (fun o => (blk_cell (blk_alloc HP.out o) 1).trans rfl); have hz2 : ∀ o, (w1.alloc o).cell? ⟨pw, 2, none⟩ = some (.int .i64 a2) := (fun o => (blk_cell (blk_alloc HP.out o) 2).trans rfl); clear hcw hb1 hpw) | (go_at_call 251; refine (impl_Isles_many.calls 10 a0 a1 a2 (many4 a0 : Int) _ HM.out).mono ?_; rintro e w4 ⟨rfl, hb4⟩; have HB4 := Aside0.mk hb4; have hblk := blk_below (blk_new w1 (.cells #[.int .i64 0, .nilFunc] 151)) hb4; have HBK := Aside0.mk hblk; have hc0 : w4.cell? ⟨w1.heap.size, 0, none⟩ = some (.int .i64 0) := (blk_cell hblk 0).trans rfl; have hc1 : w4.cell? ⟨w1.heap.size, 1, none⟩ = some .nilFunc := (blk_cell hblk 1).trans rfl; have hf0 := blk_frozen hblk 0; have hf1 := blk_frozen hblk 1; clear hb4 hblk))
 have hp1 : pw < w1.heap.size := blk_lt HP.out
 have hset : ((w4.setCell ⟨w1.heap.size, 0, none⟩ (.int .i64 (many4 a0 : Int))).setCell ⟨w1.heap.size, 1, none⟩ (.func (.func 252) #[] #[.pointer (some ⟨pw, 0, none⟩)])).heap[w1.heap.size]? = some (.cells #[.int .i64 (many4 a0 : Int), .func (.func 252) #[] #[.pointer (some ⟨pw, 0, none⟩)]] 151 (0, 0)) := by
  have h1 := blk_set HBK.out 0 (.int .i64 (many4 a0 : Int))
  have h2 := blk_set h1 1 (.func (.func 252) #[] #[.pointer (some ⟨pw, 0, none⟩)])
  simpa using h2
 refine bodyPost_ret (results_single rfl (.cell w1.heap.size 151 #[.int .i64 (many4 a0 : Int), .func (.func 252) #[] #[.pointer (some ⟨pw, 0, none⟩)]] (0, 0) _ rfl hset Try.underlying151 rfl (by kernel_rfl) .nil)) rfl ?_
 have hB4 := HB1.out.trans ((below_alloc (Below.refl _ _) (.cells #[.int .i64 0, .nilFunc] 151)).mono HB1.out.size) |>.trans (HB4.out.mono (Nat.le_trans HB1.out.size (by simp)))
 have hB5 : Below w.heap.size w ((w4.setCell ⟨w1.heap.size, 0, none⟩ (.int .i64 (many4 a0 : Int))).setCell ⟨w1.heap.size, 1, none⟩ (.func (.func 252) #[] #[.pointer (some ⟨pw, 0, none⟩)])) := below_set (below_set hB4 HB1.out.size) HB1.out.size
 refine ⟨pw, rfl, ⟨?_, HPW.out⟩, hB5⟩
 exact blk_far (blk_far (blk_below (blk_alloc HP.out _) HB4.out) (p := ⟨w1.heap.size, 0, none⟩) (by show pw ≠ w1.heap.size; omega) _) (p := ⟨w1.heap.size, 1, none⟩) (by show pw ≠ w1.heap.size; omega) _
end Go.Proofs.Ytlkjglanglpdoaa.T
namespace Go.Proofs.Ytlkjglanglpdoaa.T
open Go.RowKit Go.Proofs.YtlkjglanglpdoaaW.PrintWords Go.Proofs.YtlkjglanglpdoaaW.PrintLast Go.Proofs.YtlkjglanglpdoaaW.PrintMore
set_option linter.unusedVariables false
set_option linter.unusedSimpArgs false
theorem all_calm {a0 a2 p : Int} (h0 : 1 ≤ a0 ∧ a0 ≤ 3) (h2 : 0 ≤ a2 ∧ a2 ≤ 2) (hp : 0 ≤ p ∧ p ≤ a2 + 1) : calmAt (a2 + 2).toNat (List.replicate (2 * a0).toNat p) = true := by
  obtain rfl | rfl | rfl : a0 = 1 ∨ a0 = 2 ∨ a0 = 3 := by omega
  all_goals obtain rfl | rfl | rfl : a2 = 0 ∨ a2 = 1 ∨ a2 = 2 := by omega
  all_goals obtain rfl | rfl | rfl | rfl : p = 0 ∨ p = 1 ∨ p = 2 ∨ p = 3 := by omega
  all_goals first | (exfalso; omega) | kernel_rfl
theorem all_ok {a0 a2 p : Int} (hp : 0 ≤ p ∧ p ≤ a2 + 1) : PlOk (2 * a0).toNat (a2 + 1) (List.replicate (2 * a0).toNat p) p :=
  ⟨List.length_replicate, fun x hx => by rw [List.eq_of_mem_replicate hx]; exact hp, hp⟩
theorem code_zero : ∀ (n : Nat), codeB 4 (List.replicate n 0) 0 = 0
  | 0 => rfl
  | n + 1 => by
    show codeB 4 (List.replicate n 0) (0 * 4 + 0) = 0
    exact code_zero n
theorem zero_good {a0 a1 a2 : Int} (hI : IslOk a0 a1 a2) : G4 a0 a2 0 :=
  ⟨List.replicate (2 * a0).toNat 0, 0, all_ok ⟨by omega, by have := hI.2.2; omega⟩, all_calm hI.1 hI.2.2 ⟨by omega, by have := hI.2.2; omega⟩, (code_zero _).symm⟩
theorem many4_lt {a0 a1 a2 : Int} (hI : IslOk a0 a1 a2) : 0 < many4 a0 ∧ many4 a0 < 1048577 := by
  obtain ⟨⟨h0, h1⟩, _⟩ := hI
  obtain rfl | rfl | rfl : a0 = 1 ∨ a0 = 2 ∨ a0 = 3 := by omega
  all_goals decide
theorem in_eq (a l h : Int) : impl_in.f a l h = some (decide (l ≤ a ∧ a ≤ h)) := by
  unfold impl_in.f
  by_cases h1 : l ≤ a
  · rw [if_pos h1]; simp [h1]
  · rw [if_neg h1]; simp [h1]
theorem isIsles_eq (a0 a1 a2 : Int) : ∃ b, impl_IsIsles.f a0 a1 a2 = some b ∧ (b = true ↔ IslOk a0 a1 a2) := by
  unfold impl_IsIsles.f IslOk
  rw [in_eq, in_eq, in_eq]
  simp only [Option.bind_some, decide_eq_true_eq]
  by_cases h0 : 1 ≤ a0 ∧ a0 ≤ 3
  · rw [if_pos h0]
    by_cases h1 : 1 ≤ a1 ∧ a1 ≤ 3
    · rw [if_pos h1]
      exact ⟨_, rfl, by rw [decide_eq_true_eq]; exact ⟨fun h => ⟨h0, h1, h⟩, fun h => h.2.2⟩⟩
    · rw [if_neg h1]
      exact ⟨_, rfl, ⟨fun h => (Bool.false_ne_true h).elim, fun h => absurd h.2.1 h1⟩⟩
  · rw [if_neg h0]
    exact ⟨_, rfl, ⟨fun h => (Bool.false_ne_true h).elim, fun h => absurd h.1 h0⟩⟩
end Go.Proofs.Ytlkjglanglpdoaa.T
namespace Go.Proofs.Ytlkjglanglpdoaa.T
open Go.RowKit Go.Proofs.YtlkjglanglpdoaaW.PrintWords Go.Proofs.YtlkjglanglpdoaaW.PrintLast Go.Proofs.YtlkjglanglpdoaaW.PrintMore
set_option linter.unusedVariables false
set_option linter.unusedSimpArgs false
def c4S (s : S64) : Nat := (codeB 4 s.f0 s.f1).toNat
theorem c4_code {a0 a2 : Int} (h2 : a2 ≤ 2) {s : S64} (h : GoodS a0 a2 s) : (c4S s : Int) = codeB 4 s.f0 s.f1 ∧ c4S s < many4 a0 := by
  have := code4_lt h2 h.1
  unfold c4S
  omega
theorem c4_inj {a0 a2 : Int} (h2 : a2 ≤ 2) {s t : S64} (h : GoodS a0 a2 s) (h' : GoodS a0 a2 t) (e : c4S s = c4S t) : s = t := by
  have e1 := (c4_code h2 h).1
  have e2 := (c4_code h2 h').1
  obtain ⟨h3, h4⟩ := codeB_inj 4 (by omega) _ s.f0 t.f0 s.f1 t.f1 h.1.len h'.1.len (fun x hx => by have := h.1.ats x hx; omega) (fun x hx => by have := h'.1.ats x hx; omega) h.1.boat.1 h'.1.boat.1 (by rw [← e1, ← e2, e])
  cases s; cases t
  simp at h3 h4
  rw [h3, h4]
theorem eV4 {a0 a1 a2 : Int} (hI : IslOk a0 a1 a2) {s : S64} (h : GoodS a0 a2 s) : eV (E4 a0 a1 a2) (c4S s) = (nextS a1 a2 s).map (fun t => (c4S t, 1)) := by
  unfold eV
  rw [E4_eq hI h.1 (c4_code hI.2.2.2 h).1]
  unfold edges4 nextS
  rw [List.map_map, List.map_map]
  rfl
theorem way_to {a0 a1 a2 : Int} (hI : IslOk a0 a1 a2) {start : S64} (hs : GoodS a0 a2 start) {c d : Nat} (h : Way (eV (E4 a0 a1 a2)) (c4S start) c d) : ∃ p, GoodS a0 a2 p ∧ c4S p = c ∧ Way (EB a0 a1 a2) (cdS a2 start) (cdS a2 p) d := by
  generalize hst : c4S start = st at h
  induction h with
  | nil => exact ⟨start, hs, hst, .nil _⟩
  | snoc _ hm ih =>
    obtain ⟨p, hp, e, hw⟩ := ih
    rw [← e, eV4 hI hp] at hm
    obtain ⟨t, ht, e2⟩ := List.mem_map.1 hm
    obtain ⟨rfl, rfl⟩ := Prod.mk.inj e2
    refine ⟨t, next_good hI.2.2.1 hp ht, rfl, .snoc hw ?_⟩
    rw [EB_eq hI.2.2.1 hp]
    exact List.mem_map.2 ⟨t, ht, rfl⟩
theorem way_from {a0 a1 a2 : Int} (hI : IslOk a0 a1 a2) {start : S64} (hs : GoodS a0 a2 start) {c d : Nat} (h : Way (EB a0 a1 a2) (cdS a2 start) c d) : ∃ p, GoodS a0 a2 p ∧ cdS a2 p = c ∧ Way (eV (E4 a0 a1 a2)) (c4S start) (c4S p) d := by
  generalize hst : cdS a2 start = st at h
  induction h with
  | nil => exact ⟨start, hs, hst, .nil _⟩
  | snoc _ hm ih =>
    obtain ⟨p, hp, e, hw⟩ := ih
    rw [← e, EB_eq hI.2.2.1 hp] at hm
    obtain ⟨t, ht, e2⟩ := List.mem_map.1 hm
    obtain ⟨rfl, rfl⟩ := Prod.mk.inj e2
    refine ⟨t, next_good hI.2.2.1 hp ht, rfl, .snoc hw ?_⟩
    rw [eV4 hI hp]
    exact List.mem_map.2 ⟨t, ht, rfl⟩
theorem least_same {a0 a1 a2 : Int} (hI : IslOk a0 a1 a2) {start p : S64} (hs : GoodS a0 a2 start) (hp : GoodS a0 a2 p) : least (eV (E4 a0 a1 a2)) (c4S start) (c4S p) = least (EB a0 a1 a2) (cdS a2 start) (cdS a2 p) := by
  have h1 : ∀ d, Way (eV (E4 a0 a1 a2)) (c4S start) (c4S p) d ↔ Way (EB a0 a1 a2) (cdS a2 start) (cdS a2 p) d := by
    intro d
    constructor
    · intro h
      obtain ⟨p', hp', e, hw⟩ := way_to hI hs h
      rw [c4_inj hI.2.2.2 hp' hp e] at hw
      exact hw
    · intro h
      obtain ⟨p', hp', e, hw⟩ := way_from hI hs h
      rw [cdS_inj hI.2.2.1 hp' hp e] at hw
      exact hw
  rcases least_is (EB a0 a1 a2) (cdS a2 start) (cdS a2 p) with ⟨h, hn⟩ | ⟨n, h, hw, hl⟩
  · rw [h]; exact least_eq (.inl ⟨rfl, fun d hd => hn d ((h1 d).1 hd)⟩)
  · rw [h]; exact least_eq (.inr ⟨n, rfl, (h1 n).2 hw, fun d hd => hl d ((h1 d).1 hd)⟩)
end Go.Proofs.Ytlkjglanglpdoaa.T
