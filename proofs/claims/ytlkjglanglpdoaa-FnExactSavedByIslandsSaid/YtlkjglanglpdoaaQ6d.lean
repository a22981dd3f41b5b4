/-
  Texts of a proof, laid together by a program of mine: H1, Tf183, Tf274, Tf253, Tf254, Tf157, Tf298, Tf266, H2, H4, H3, Tf269, Tf189, Tf177, Tf188, Tf251, H5a, H5b, HDist, HP, HW.
-/
import Derived.Lib.SliceRun
import Derived.BigRegion
import Derived.Laws.CopyOwn
import Derived.Laws.BitsAllLaws
import Derived.Test.YtlkjglanglpdoaaProg
import Derived.Below
import Derived.Deep.Draws
import Derived.Deep.AppendLies
import Derived.Maps.AppendAt
import Derived.OwnWalk
import Derived.Laws.BytesArg
import Derived.Laws.MakeOwn
import Derived.Laws.OwnMore
import Derived.Deep.OwnRows
import Derived.Tactics
import Derived.Lib.ConvBytes
import Derived.Laws.Slices
import Derived.WalkKit
import Derived.KernelRfl
import Derived.RowKit3
import Derived.Deep.LoopGhost
import Derived.Deep.QuietTactic
import Derived.BigQuiet
import Derived.WideLaws
import Derived.Deep.DeepCutAuto
import Derived.Deep.CutBlock
import Derived.Deep.RegionHeld3
import Derived.Laws.Rows
import Derived.Lib.AppendStr
import Derived.ArgAppend
import Derived.Laws.IdiomCopy
import Derived.OrdersHeld
import Derived.Laws.BitsLemmas
import Derived.RowKit
import Derived.Laws.StructEq
import Derived.Laws.EntriesVeiled
import Derived.Test.YtlkjglanglpdoaaQ6a
namespace Go.Proofs.Ytlkjglanglpdoaa.T
open Go.RowKit Go.Proofs.YtlkjglanglpdoaaW.PrintWords Go.Proofs.YtlkjglanglpdoaaW.PrintLast Go.Proofs.YtlkjglanglpdoaaW.PrintMore
set_option linter.unusedVariables false
set_option linter.unusedSimpArgs false
def slices_Clone_int_int.f (l0 : List Int) : Option (List Int) := if l0.length < 17592186044416 then some l0 else none
set_option maxHeartbeats 8000000 in
set_option maxRecDepth 100000 in
theorem slices_Clone_int_int.calls (A0 : Option Addr) (c0 : Nat) (l0 : List Int) (r : List Int) (w : World) (hr0 : Kd.C (Kd.int .i64) w A0 l0.length l0) (hc0 : l0.length ≤ c0) (h : slices_Clone_int_int.f l0 = some r) :
    Calls Try.prog 276 #[.slice A0 l0.length c0] w fun e w' => ∃ v0_ : Value, e = .returned (v0_) ∧ Kd.R (Kd.int .i64) 3 w' w.heap.size (fun _ => True) v0_ r ∧ Below w.heap.size w w' := by
  unfold slices_Clone_int_int.f at h
  have HR0 := Aside0.mk hr0
  have HC0 := Aside0.mk hc0
  have hn := hr0.2.2
  clear hr0 hc0
  by_cases c2 : l0.length < 17592186044416
  · rw [if_pos c2] at h
    obtain rfl := Option.some.inj h
    have LM := Aside0.mk c2
    clear c2
    have qT : ∀ (w : World) (a : Option Addr) (n c n' c' : Nat), (binOp .eql 32 (.slice a n c) (.slice none n' c')).run Try.prog w = .ok (.bool a.isNone) w := fun w a n c n' c' => Lib.run_eql_slice_nil w _ _ a n c n' c' Try.underlying32
    rcases A0 with _ | ad
    · have h0 : l0.length = 0 := by
        rcases Nat.eq_zero_or_pos l0.length with h0 | h0
        · exact h0
        · obtain ⟨ad, h1, _⟩ := hn h0
          cases h1
      obtain rfl : l0 = [] := List.eq_nil_of_length_eq_zero h0
      clear hn h0
      go_enter Try.func276, Try.ntmps276
      go_wp2
      go_ret
      exact ⟨_, rfl, Kd.R_nil _ _ _ _ _, Below.refl _ _⟩
    · clear hn
      have HB := Aside0.mk (Below.refl w.heap.size w)
      go_enter Try.func276, Try.ntmps276
      go_wp2_with (first | ((with_reducible refine gate_dst (N := 5) rfl ?_); refine Kd.R_lit (Kd.int .i64) _ 3 ?hg (N := 5) ?hd (xs := ([] : List Int)) (inner := []) (ok := fun _ => True) (okp := fun _ => True) ?hr ?hp (fun _ hk => hk) trivial (Below.refl _ _) (Nat.le_refl _) (by simp) ?_; (case hd => rfl); (case hg => rfl); (case hr => first | (go_simp; done) | (go_simp; rfl)); (case hp => exact (Reps.none _ _)); intro v171 w3 ho4 hb hg_ hnew_; clear hg_ hnew_; have n0_ := Aside0.mk (Kd.R_lower ho4 (below_size (by repeat (first | (with_reducible first | exact HB.out | apply below_alloc | apply pw_below_drewN | apply below_drew1) | exact HB.out)))); have n1_ := Aside0.mk (below_step (by repeat (first | (with_reducible first | exact HB.out | apply below_alloc | apply pw_below_drewN | apply below_drew1) | exact HB.out)) hb); clear HB; have HO172 := n0_; have HB := n1_; clear n0_ n1_; clear hb ho4) | ((with_reducible refine gate_builtin (b := .append) (xs := #[.tmp 5, .tmp 6]) rfl ?_); at_builtin; refine Kd.R_append_rows (Kd.int .i64) (w0 := w) w.heap.size rfl (.tmp 5) (.tmp 6) 32 3 (.int .i64 0) 8 rfl Try.underlying32 info3 rfl (by decide) (by omega) v171 ([] : List Int) l0 _ _ _ (fun _ => True) (fun _ => False) rfl rfl ?aO ?aR (fun _ _ h => h) (fun _ h => h.elim) ?aF ?aB ?aS ?aL ?_; (case aR => repeat (first | exact (Kd.C_below HR0.out HB.out) | (with_reducible refine Kd.C_alloc ?_ _) | (with_reducible refine Kd.C_drewN ?_ _) | (with_reducible refine Kd.C_drew ?_))); (case aB => exact (by repeat (first | (with_reducible first | exact HB.out | apply below_alloc | apply pw_below_drewN | apply below_drew1) | exact HB.out))); (case aF => exact (fun _ _ => trivial)); (case aO => exact (by (with_reducible repeat (first | apply Kd.R_alloc | apply Kd.R_drewN | apply Kd.R_drew)); exact HO172.out)); (case aS => exact (below_size (by repeat (first | (with_reducible first | exact HB.out | apply below_alloc | apply pw_below_drewN | apply below_drew1) | exact HB.out)))); (case aL => have := LM.out; simp; omega); intro v174 w5 ho hb hg hat; have n0_ := Aside0.mk (hb); have n1_ := Aside0.mk (ho); clear HB; clear HO172; have HB := n0_; have HO175 := n1_; clear n0_ n1_; clear ho hb hg hat))
      go_ret
      exact ⟨_, rfl, by have := HO175.out; simpa using this, HB.out⟩
  · rw [if_neg c2] at h
    exact absurd h (by simp)
theorem and_small (n : Int) (h0 : 0 ≤ n) (h1 : n < 4294967296) : bits .and .u64 n 4294967295 = n := by
  rw [u64_and n 4294967295 h0 (by omega) (by omega) (by omega)]
  have : n.toNat &&& (4294967295 : Int).toNat = n.toNat := by
    show n.toNat &&& (2 ^ 32 - 1) = n.toNat
    rw [Nat.and_two_pow_sub_one_eq_mod]
    exact Nat.mod_eq_of_lt (by omega)
  rw [this]; omega
set_option maxHeartbeats 800000 in
set_option maxRecDepth 100000 in
theorem mul64_one (n : Int) (h0 : 0 ≤ n) (h1 : n < 1048577) (w : World) : Calls Try.prog 309 #[.int .u64 1, .int .u64 n] w fun e w' => e = .returned (.tuple #[.int .u64 0, .int .u64 n]) ∧ w = w' := by
  have ha := and_small n h0 (by omega)
  have hb := and_small 1 (by omega) (by omega)
  have hd : n / 4294967296 = 0 := by omega
  go_enter Try.func309, Try.ntmps309
  go_wp2
  go_ret2
  exact ⟨rfl, rfl⟩
set_option maxHeartbeats 800000 in
set_option maxRecDepth 100000 in
theorem mul_one (n : Int) (h0 : 0 ≤ n) (h1 : n < 1048577) (w : World) : Calls Try.prog 300 #[.int .u64 1, .int .u64 n] w fun e w' => e = .returned (.tuple #[.int .u64 0, .int .u64 n]) ∧ w = w' := by
  go_enter Try.func300, Try.ntmps300
  go_wp2_with (go_at_call 309; refine (mul64_one n h0 h1 _).mono ?_; rintro e w' ⟨rfl, rfl⟩)
  go_ret2
  exact ⟨rfl, rfl⟩
theorem splice_rep {α : Type} (x z : α) (m N k : Nat) (hm : m ≤ N) (hk : k ≤ N - m) : splice (List.replicate m x ++ List.replicate (N - m) z) m (List.replicate k x) = List.replicate (m + k) x ++ List.replicate (N - (m + k)) z := by
  unfold splice
  rw [List.take_left' (by simp), List.drop_append]
  simp only [List.length_replicate, List.drop_replicate]
  rw [show m + k - m = k by omega, show m - (m + k) = 0 by omega]
  simp only [List.replicate_zero, List.nil_append]
  rw [← List.append_assoc, List.replicate_append_replicate, show N - m - k = N - (m + k) by omega]
theorem madeCells_rep (z : Value) (N : Nat) : madeCells #[z] N = (List.replicate N z).toArray := by
  apply Array.ext'
  apply List.ext_getElem
  · simp [madeCells]
  · intro i h1 h2
    simp [madeCells, Nat.mod_one]
theorem rep_src {W : World} {ad : Addr} {x v : Value} {m j : Nat} (h : W.cell? ad = some x) (hm : Aside0 (m ≤ 1)) (hj : (List.replicate m x)[j]? = some v) : W.cell? (ad.add j) = some v := by
  have hm := hm.out
  obtain ⟨hlt, rfl⟩ := List.getElem?_eq_some_iff.1 hj
  rw [List.length_replicate] at hlt
  have : j = 0 := by omega
  subst this
  simpa [Addr.add] using h
theorem splice_start {x z : Value} {N E : Nat} {o : Option Obj} (h : o = some (.cells (splice (List.replicate N z) 0 (List.replicate (min 1 N) x)).toArray E (0, 0))) : o = some (.cells (List.replicate (min 1 N) x ++ List.replicate (N - min 1 N) z).toArray E (0, 0)) := by
  have := splice_rep x z 0 N (min 1 N) (by omega) (by omega)
  simp only [List.replicate_zero, List.nil_append, Nat.sub_zero, Nat.zero_add] at this
  rw [this] at h
  exact h
theorem rep_copy (P : Program) (wr : World) (B : Nat) (w : World) (g m N : Nat) (x z : Value) (dT ty elem : TypeId) (hu : P.underlying dT = some (.slice elem)) (hs : (P.info? elem).map (·.size) = some 1) (hx : x.oneCell' = true)
    (hg : wr.heap[g]? = some (.cells (List.replicate m x ++ List.replicate (N - m) z).toArray elem (0, 0))) (hb : Below B w wr) (hB : B ≤ g) (hm : m ≤ N) :
    ∃ w2, (Builtin.copy_ #[dT, dT] ty #[.slice (some ⟨g, m, none⟩) (N - m) (N - m), .slice (some ⟨g, 0, none⟩) m N]).run P wr = .ok (.int .i64 ((min m (N - m) : Nat) : Int)) w2 ∧
      w2.heap[g]? = some (.cells (List.replicate (m + min m (N - m)) x ++ List.replicate (N - (m + min m (N - m))) z).toArray elem (0, 0)) ∧ Below B w w2 := by
  have hrun := run_copy_row (P := P) wr dT dT ty elem g m (N - m) (N - m) ⟨g, 0, none⟩ m N (List.replicate m x ++ List.replicate (N - m) z).toArray elem (List.replicate (min m (N - m)) x) hu hs hg List.length_replicate
    (fun j v hj => by
      obtain ⟨hlt, rfl⟩ := List.getElem?_eq_some_iff.1 hj
      rw [List.length_replicate] at hlt
      rw [add_plain]
      have : (List.replicate m x ++ List.replicate (N - m) z)[j]? = some x := by
        rw [List.getElem?_append_left (by rw [List.length_replicate]; omega), List.getElem?_replicate, if_pos (by omega)]
      simp [World.cell?, hg, this]) (by simp; omega) (by intro v hv; rw [List.eq_of_mem_replicate hv]; exact hx)
  have hs2 := splice_rep x z m N (min m (N - m)) hm (Nat.min_le_right _ _)
  refine ⟨_, by rw [hrun, List.length_replicate]; rfl, ?_, below_setRow hb hB _⟩
  have h3 : (List.take m (List.replicate m x ++ List.replicate (N - m) z).toArray.toList ++ List.replicate (min m (N - m)) x ++ List.drop (m + min m (N - m)) (List.replicate m x ++ List.replicate (N - m) z).toArray.toList) = splice (List.replicate m x ++ List.replicate (N - m) z) m (List.replicate (min m (N - m)) x) := by
    unfold splice; rw [List.append_assoc, List.length_replicate]
  rw [h3, hs2]
  exact setRow_heap wr g _ _ elem _ hg
theorem rep_own {α : Type} (enc : α → Value) (he : ∀ x, (enc x).oneCell' = true) {W : World} {B m E : Nat} {x : α} (hg : W.heap[B]? = some (.cells (List.replicate m (enc x)).toArray E (0, 0))) (hm : m ≤ 9223372036854775807) :
    (Kd.scalar enc he).R E W B (fun _ => True) (.slice (some ⟨B, 0, none⟩) m m) (List.replicate m x) := by
  refine ⟨fun _ _ => trivial, List.replicate m (enc x), ⟨?_, .inr ⟨B, m, _, ?_, Nat.le_refl _, hg, ?_, hm, ?_, ?_⟩⟩, ?_, ?_⟩
  · simp [Kd.scalar]
  · simp
  · simp
  · simp [Kd.scalar]
  · simp [Kd.scalar]
  · simp [Kd.scalar]
  · intro j p hj
    obtain ⟨hlt, rfl⟩ := List.getElem?_eq_some_iff.1 hj
    rw [List.length_replicate] at hlt
    show _ = [enc _]
    simp only [List.getElem_replicate, Kd.scalar, Nat.mul_one, List.drop_replicate, List.take_replicate]
    rw [show min 1 (m - j) = 1 by omega]; rfl
def slices_Repeat_int_int.f (l0 : List Int) (a1 : Int) : Option (List Int) := if l0.length = 1 ∧ 0 ≤ a1 ∧ a1 < 1048577 then some (List.replicate a1.toNat (rd l0 0)) else none
set_option maxHeartbeats 1600000 in
set_option maxRecDepth 100000 in
theorem slices_Repeat_int_int.calls (A0 : Option Addr) (c0 : Nat) (l0 : List Int) (a1 : Int) (r : List Int) (w : World) (hr0 : Kd.C (Kd.int .i64) w A0 l0.length l0) (hc0 : l0.length ≤ c0) (h : slices_Repeat_int_int.f l0 a1 = some r) :
    Calls Try.prog 277 #[.slice A0 l0.length c0, .int .i64 a1] w fun e w' => ∃ v0_ : Value, e = .returned (v0_) ∧ Kd.R (Kd.int .i64) 3 w' w.heap.size (fun _ => True) v0_ r ∧ Below w.heap.size w w' := by
  unfold slices_Repeat_int_int.f at h
  by_cases c2 : l0.length = 1 ∧ 0 ≤ a1 ∧ a1 < 1048577
  case neg => rw [if_neg c2] at h; cases h
  rw [if_pos c2] at h
  obtain rfl := Option.some.inj h
  clear h
  obtain ⟨hl, h0, h1⟩ := c2
  obtain ⟨N, rfl⟩ := Int.eq_ofNat_of_zero_le h0
  obtain ⟨x, rfl⟩ : ∃ x, l0 = [x] := by
    match l0, hl with
    | [x], _ => exact ⟨x, rfl⟩
  obtain ⟨ad, rfl, hcell⟩ := Kd.at_int hr0 0 (by omega) (by simp)
  clear hr0 hl
  have hx : w.cell? ad = some (.int .i64 x) := by
    have : ad.add (0 : Int).toNat = ad := by simp [Addr.add]
    rwa [this] at hcell
  clear hcell
  have hxl := World.block_lt_of_cell? w _ hx
  have hxw : ∀ wr : World, Below w.heap.size w wr → wr.cell? ad = some (.int .i64 x) := fun wr hb => (hb.cell hxl).trans hx
  have hmk : ∀ W : World, (Instr.makeSlice 32 (.int .i64 (N : Int)) (.int .i64 (N : Int))).run Try.prog W = .ok (.slice (some ⟨W.heap.size, 0, none⟩) N N) (W.alloc (.cells (madeCells #[.int .i64 0] N) 3)) := print_make 32 3 .i64 8 Try.underlying32 info3 (by omega) N (by omega)
  have hw1 : IntKind.u64.wrap (N : Int) = N := by unfold IntKind.wrap; simp [IntKind.bits, IntKind.signed]; omega
  have hw2 : IntKind.i64.wrap (N : Int) = N := IntWalk.i64_in _ (by omega)
  have HX := Aside0.mk hx
  have HXW := Aside0.mk hxw
  clear hx hxw
  have LB : decide ((N : Int) < 0) = false := by simp
  have LB2 : decide (9223372036854775807 < (N : Int)) = false := by simp; omega
  have HC := Aside0.mk hc0
  have HN := Aside0.mk h1
  clear hc0 hxl
  go_enter Try.func277, Try.ntmps277
  go_wp2_with (first | (go_at_call 300; refine (mul_one (N : Int) h0 HN.out _).mono ?_; rintro e w' ⟨rfl, rfl⟩) | ((with_reducible refine gate_builtin (b := .copy) (xs := #[.tmp 31, .tmp 32]) rfl ?_); go_loud (refine wpList_copy_splice rfl (.tmp 31) (.tmp 32) 32 32 rfl 3 Try.underlying32 (by kernel_rfl) (some ⟨w.heap.size, 0, none⟩) (some ad) N N 1 c0 rfl rfl w.heap.size 0 (List.replicate N (.int .i64 0)) 3 ?cg (List.replicate (min 1 N) (.int .i64 x)) ?cn ?cpos ?cfit ?cone w.heap.size w ?cbelow (Nat.le_refl _) ?_; (case cg => exact (madeCells_rep (.int .i64 0) N) ▸ heap_alloc_new w _); (case cn => exact List.length_replicate); (case cpos => exact fun _ => ⟨rfl, ad, rfl, fun j v hj => rep_src (HXW.out _ (below_alloc (Below.refl _ _) _)) ⟨Nat.min_le_left _ _⟩ hj⟩); (case cfit => simp; omega); (case cone => intro v hv; rw [List.eq_of_mem_replicate hv]; rfl); (case cbelow => exact below_alloc (Below.refl _ _) _); intro w1 HG hb1; have HG1 := Aside0.mk HG; have HB1 := Aside0.mk hb1; clear HG hb1)))
  go_loopw [8] (fun v8 wr => ∃ m : Nat, v8 = .int .i64 (m : Int) ∧ Aside0 (m ≤ N) ∧ Aside0 (0 < N → 0 < m) ∧ Aside0 (wr.heap[w.heap.size]? = some (.cells (List.replicate m (Value.int .i64 x) ++ List.replicate (N - m) (Value.int .i64 0)).toArray 3 (0, 0))) ∧ Aside0 (Below w.heap.size w wr)) (fun v8 _ => N - (intOf v8).toNat)
  case atStart => exact ⟨min 1 N, rfl, ⟨Nat.min_le_right _ _⟩, ⟨fun h => by omega⟩, ⟨splice_start HG1.out⟩, HB1⟩
  case round =>
    clear HG1 HB1
    obtain ⟨m, rfl, HM, HP, HG, HB⟩ := hrel
    by_cases hlt : m < N
    · have c0b : decide ((m : Int) < (N : Int)) = true := by simpa using hlt
      have c1b : decide (m < N) = true := by simpa using hlt
      go_wp2
      have hne : ¬ N = m := by omega
      have hle : m ≤ N := by omega
      have hmx : m ≤ 9223372036854775807 := by have := HN.out; omega
      obtain ⟨w2, hrun, hg2, hb2⟩ := rep_copy Try.prog wr.drew w.heap.size w w.heap.size m N (Value.int .i64 x) (Value.int .i64 0) 32 3 3 Try.underlying32 (by kernel_rfl) rfl HG.out HB.out.drew (Nat.le_refl _) hle
      have HG2 := Aside0.mk hg2
      have HB2 := Aside0.mk hb2
      clear hg2 hb2 HG HB
      have hsum : IntKind.i64.wrap ((m : Int) + ((min m (N - m) : Nat) : Int)) = ((m + min m (N - m) : Nat) : Int) := by rw [← Int.natCast_add]; exact IntWalk.i64_in _ (by have := HN.out; omega)
      go_region
      all_goals
        go_roundw
        case rel => (repeat apply Exists.intro); exact ⟨⟨m + min m (N - m), rfl, ⟨by omega⟩, ⟨fun _ => by have := HP.out; omega⟩, HG2, HB2⟩, rfl⟩
        case measure => have := HP.out (by omega); simp [intOf]; omega
    · have c0b : decide ((m : Int) < (N : Int)) = false := by simpa using hlt
      have c1b : decide (m < N) = false := by simpa using hlt
      go_wp2
      go_ret
      have hm : m = N := by have := HM.out; omega
      subst hm
      have hb := HB.out
      refine ⟨_, rfl, ?_, hb⟩
      have hg := HG.out
      simp only [Nat.sub_self, List.replicate_zero, List.append_nil] at hg
      exact rep_own (Value.int .i64) (fun _ => rfl) hg (by have := HN.out; omega)
end Go.Proofs.Ytlkjglanglpdoaa.T
namespace Go.Proofs.Ytlkjglanglpdoaa.T
open Go.RowKit Go.Proofs.YtlkjglanglpdoaaW.PrintWords Go.Proofs.YtlkjglanglpdoaaW.PrintLast Go.Proofs.YtlkjglanglpdoaaW.PrintMore
attribute [local go_sem] max2_int min2_int max_two min_two max_three min_three max_four min_four
set_option linter.unusedVariables false
set_option linter.unusedSimpArgs false
def impl_Places_behind.l0 : Nat → Int → List Int → Int → Int → List Int → Int → Option (List Int × Int)
  | 0, _, _, _, _, _, _ => none
  | k + 1, x1, x15, x16, x17, x1075000, x1075001 => if x17 < x16 then (if 0 ≤ x17 then (if x17 < (x15.length : Int) then (if 0 ≤ (rd x15 x17) then (if (rd x15 x17) < (x1075000.length : Int) then (impl_Places_behind.l0 k x1 x15 x16 (wrap64 (x17 + 1)) (x1075000.set ((rd x15 x17) : Int).toNat x1) x1075001) else (none)) else (none)) else (none)) else (none)) else (some (x1075000, x1075001))
def impl_Places_behind.f (k : Nat) (l0_0 : List Int) (a0_1 : Int) (a1 : Int) (l2 : List Int) : Option (List Int × Int) := (slices_Clone_int_int.f l0_0).bind fun t1071 => (impl_Places_behind.l0 k a1 l2 (l2.length : Int) 0 t1071 a1)
theorem impl_Places_behind.mono_l : ∀ k, (∀ y0 y1 y2 y3 y4 y5, LeO (impl_Places_behind.l0 k y0 y1 y2 y3 y4 y5) (impl_Places_behind.l0 (k + 1) y0 y1 y2 y3 y4 y5))
  | 0 => fun _ _ _ _ _ _ r h => by simp [impl_Places_behind.l0] at h
  | k + 1 => by
    have ih0 := impl_Places_behind.mono_l k
    · intro y0 y1 y2 y3 y4 y5
      unfold impl_Places_behind.l0
      repeat' first
      | (with_reducible exact ih0 _ _ _ _ _ _)
      | (with_reducible exact LeO.refl _)
      | (with_reducible exact LeO.none _)
      | (with_reducible refine LeO.ite ?_ ?_)
      | (with_reducible refine LeO.bind ?_ (fun _ => ?_))
      | exact ih0 _ _ _ _ _ _
      | exact LeO.none _
      | refine LeO.ite ?_ ?_
      | refine LeO.bind ?_ (fun _ => ?_)
theorem impl_Places_behind.mono : ∀ a0 a1 a2 a3 k, LeO (impl_Places_behind.f k a0 a1 a2 a3) (impl_Places_behind.f (k + 1) a0 a1 a2 a3) := by
  intro a0 a1 a2 a3 k
  have ih0 := impl_Places_behind.mono_l k
  unfold impl_Places_behind.f
  repeat' first
      | (with_reducible exact ih0 _ _ _ _ _ _)
      | (with_reducible exact LeO.refl _)
      | (with_reducible exact LeO.none _)
      | (with_reducible refine LeO.ite ?_ ?_)
      | (with_reducible refine LeO.bind ?_ (fun _ => ?_))
      | exact ih0 _ _ _ _ _ _
      | exact LeO.none _
      | refine LeO.ite ?_ ?_
      | refine LeO.bind ?_ (fun _ => ?_)
set_option maxHeartbeats 8000000 in
set_option maxRecDepth 100000 in
theorem impl_Places_behind.calls (k : Nat) (A0_0 : Option Addr) (c0_0 : Nat) (l0_0 : List Int) (a0_1 : Int) (a1 : Int) (A2 : Option Addr) (c2 : Nat) (l2 : List Int) (r1 : List Int) (r2 : Int) (w : World) (hr0_0 : Kd.C (Kd.int .i64) w A0_0 l0_0.length l0_0) (hc0_0 : l0_0.length ≤ c0_0) (hr2 : Kd.C (Kd.int .i64) w A2 l2.length l2) (hc2 : l2.length ≤ c2) (h : impl_Places_behind.f k l0_0 a0_1 a1 l2 = some (r1, r2)) :
    Calls Try.prog 183 #[.agg #[.slice A0_0 l0_0.length c0_0, .int .i64 a0_1], .int .i64 a1, .slice A2 l2.length c2] w fun e w' => ∃ v0_ : Value, e = .returned (.agg #[v0_, .int .i64 r2]) ∧ Kd.R (Kd.int .i64) 3 w' w.heap.size (fun _ => True) v0_ r1 ∧ Below w.heap.size w w' := by
  have hu64 := Try.underlying64
  have HR0_0 := Aside0.mk hr0_0
  have HC0_0 := Aside0.mk hc0_0
  clear hr0_0 hc0_0
  have HR2 := Aside0.mk hr2
  have HC2 := Aside0.mk hc2
  clear hr2 hc2
  have HB := Aside0.mk (Below.refl w.heap.size w)
  have H : ((slices_Clone_int_int.f l0_0).bind fun t1071 => (impl_Places_behind.l0 k a1 l2 (l2.length : Int) 0 t1071 a1)) = some (r1, r2) := h
  clear h
  replace H := Option.bind_eq_some_iff.mp H
  obtain ⟨t1071, A40, H⟩ := H
  replace H : (impl_Places_behind.l0 k a1 l2 (l2.length : Int) 0 t1071 a1) = some (r1, r2) := H
  have A4 := Aside0.mk A40
  clear A40
  have H' := Aside0.mk H
  clear H
  go_enter Try.func183, Try.ntmps183
  go_wp2_with (first | ((with_reducible refine gate_dst (N := 3) rfl ?_); refine box_event ?hg (N := 3) ?hd (cs := #[.slice A0_0 l0_0.length c0_0, .int .i64 a0_1]) (t := 64) ?hr ?_; (case hd => rfl); (case hg => rfl); (case hr => first | (go_simp; done) | (go_simp; rfl)); intro gb1069 hg w5 hbox hb; have n0_ := Aside0.mk (below_step (by repeat (first | (with_reducible first | exact HB.out | apply below_alloc | apply pw_below_drewN | apply below_drew1) | exact HB.out)) hb); have n1_ := Aside0.mk (hbox); have n2_ := Aside0.mk ((by rw [hg]; exact (below_size (by repeat (first | (with_reducible first | exact HB.out | apply below_alloc | apply pw_below_drewN | apply below_drew1) | exact HB.out))) : w.heap.size ≤ gb1069)); have n3_ := Aside0.mk ((by rw [hg]; exact (below_size (by repeat (first | (with_reducible first | exact HB.out | apply below_alloc | apply pw_below_drewN | apply below_drew1) | exact HB.out))) : w.heap.size ≤ gb1069)); clear HB; have HB := n0_; have BK1069 := n1_; have GW1069 := n2_; have GE1069 := n3_; clear n0_ n1_ n2_ n3_; clear hb hbox hg) | ((with_reducible refine gate_dst (N := 6) rfl ?_); refine box_event ?hg (N := 6) ?hd (cs := #[.slice none 0 0, .int .i64 0]) (t := 64) ?hr ?_; (case hd => rfl); (case hg => rfl); (case hr => first | (go_simp; done) | (go_simp; rfl)); intro gb1070 hg w6 hbox hb; have n0_ := Aside0.mk (blk_below (g := gb1069) (o := .cells #[.slice A0_0 l0_0.length c0_0, .int .i64 a0_1] 64 (0, 0)) (by (with_reducible repeat (first | refine blk_drewN ?_ _ | refine blk_drew ?_ | refine blk_alloc ?_ _)); exact BK1069.out) hb); have n1_ := Aside0.mk (below_step (by repeat (first | (with_reducible first | exact HB.out | apply below_alloc | apply pw_below_drewN | apply below_drew1 | refine below_set ?_ GE1069.out) | exact HB.out)) hb); have n2_ := Aside0.mk (hbox); have n3_ := Aside0.mk ((by rw [hg]; exact (below_size (by repeat (first | (with_reducible first | exact HB.out | apply below_alloc | apply pw_below_drewN | apply below_drew1 | refine below_set ?_ GE1069.out) | exact HB.out))) : w.heap.size ≤ gb1070)); have n4_ := Aside0.mk ((by rw [hg]; exact (below_size (by repeat (first | (with_reducible first | exact HB.out | apply below_alloc | apply pw_below_drewN | apply below_drew1 | refine below_set ?_ GE1069.out) | exact HB.out))) : w.heap.size ≤ gb1070)); have n5_ := Aside0.mk ((by rw [hg]; exact Nat.ne_of_lt (blk_lt (g := gb1069) (o := .cells #[.slice A0_0 l0_0.length c0_0, .int .i64 a0_1] 64 (0, 0)) (by (with_reducible repeat (first | refine blk_drewN ?_ _ | refine blk_drew ?_ | refine blk_alloc ?_ _)); exact BK1069.out)) : gb1069 ≠ gb1070)); have n6_ := Aside0.mk ((by rw [hg]; exact Nat.ne_of_gt (blk_lt (g := gb1069) (o := .cells #[.slice A0_0 l0_0.length c0_0, .int .i64 a0_1] 64 (0, 0)) (by (with_reducible repeat (first | refine blk_drewN ?_ _ | refine blk_drew ?_ | refine blk_alloc ?_ _)); exact BK1069.out)) : gb1070 ≠ gb1069)); clear BK1069; clear HB; have BK1069 := n0_; have HB := n1_; have BK1070 := n2_; have GW1070 := n3_; have GE1070 := n4_; have NB1069_1070 := n5_; have NB1070_1069 := n6_; clear n0_ n1_ n2_ n3_ n4_ n5_ n6_; clear hb hbox hg; have hnb7 := NB1069_1070.out; have hnc7 := NB1070_1069.out; have hcz8_0 : w6.cell? ⟨gb1069, 0, none⟩ = some (.slice A0_0 l0_0.length c0_0) := (blk_cell BK1069.out 0).trans rfl; have hcz8_1 : w6.cell? ⟨gb1069, 1, none⟩ = some (.int .i64 a0_1) := (blk_cell BK1069.out 1).trans rfl; have hfz8_0 := blk_frozen BK1069.out 0; have hfz8_1 := blk_frozen BK1069.out 1) | ((with_reducible refine gate_callee (f := 276) rfl ?_); refine goesL_ (some 12) rfl rfl Try.func276 (by kernel_rfl) rfl #[.slice A0_0 l0_0.length c0_0] rfl (by (try simp only [List.map_toArray, List.map_cons, List.map_nil]); first | done | rfl | (simp only [List.length_drop, List.length_take]; rfl)) ?_; (with_reducible refine (slices_Clone_int_int.calls _ _ l0_0 t1071 _ ?side1 ?side2 A4.out).mono ?_); (case side1 => repeat (first | exact (Kd.C_below HR0_0.out HB.out) | (with_reducible refine Kd.C_alloc ?_ _) | (with_reducible refine Kd.C_drewN ?_ _) | (with_reducible refine Kd.C_drew ?_))); (case side2 => exact HC0_0.out); rintro e w9 ⟨v1072, rfl, ho0, hb⟩; refine ⟨_, rfl, ?_⟩; have n0_ := Aside0.mk (Kd.R_lower ho0 (below_size (by repeat (first | (with_reducible first | exact HB.out | apply below_alloc | apply pw_below_drewN | apply below_drew1 | refine below_set ?_ GE1069.out | refine below_set ?_ GE1070.out) | exact HB.out)))); have n1_ := Aside0.mk (blk_below (g := gb1069) (o := .cells #[.slice A0_0 l0_0.length c0_0, .int .i64 a0_1] 64 (0, 0)) (by (with_reducible repeat (first | refine blk_drewN ?_ _ | refine blk_drew ?_ | refine blk_alloc ?_ _)); exact BK1069.out) hb); have n2_ := Aside0.mk (blk_below (g := gb1070) (o := .cells #[.slice none 0 0, .int .i64 0] 64 (0, 0)) (by (with_reducible repeat (first | refine blk_drewN ?_ _ | refine blk_drew ?_ | refine blk_alloc ?_ _)); exact BK1070.out) hb); have n3_ := Aside0.mk (below_step (by repeat (first | (with_reducible first | exact HB.out | apply below_alloc | apply pw_below_drewN | apply below_drew1 | refine below_set ?_ GE1069.out | refine below_set ?_ GE1070.out) | exact HB.out)) hb); clear BK1069; clear BK1070; clear HB; have HO1073 := n0_; have BK1069 := n1_; have BK1070 := n2_; have HB := n3_; clear n0_ n1_ n2_ n3_; (try clear hb); (try clear hb2); (try clear hk); (try clear hi); (try clear ho0); obtain ⟨Ao10, co10, eo10⟩ := Kd.R_slice HO1073.out; subst eo10) | ((with_reducible refine gate_dst (N := 7) rfl ?_); refine box_event ?hg (N := 7) ?hd (cs := #[.slice none 0 0, .int .i64 0]) (t := 64) ?hr ?_; (case hd => rfl); (case hg => rfl); (case hr => first | (go_simp; done) | (go_simp; rfl)); intro gb1074 hg w11 hbox hb; have n0_ := Aside0.mk (Kd.R_below (by (with_reducible repeat (first | apply Kd.R_alloc | apply Kd.R_drewN | apply Kd.R_drew)); exact HO1073.out) hb); have n1_ := Aside0.mk (blk_below (g := gb1069) (o := .cells #[.slice A0_0 l0_0.length c0_0, .int .i64 a0_1] 64 (0, 0)) (by (with_reducible repeat (first | refine blk_drewN ?_ _ | refine blk_drew ?_ | refine blk_alloc ?_ _)); exact BK1069.out) hb); have n2_ := Aside0.mk (blk_below (g := gb1070) (o := .cells #[.slice none 0 0, .int .i64 0] 64 (0, 0)) (by (with_reducible repeat (first | refine blk_drewN ?_ _ | refine blk_drew ?_ | refine blk_alloc ?_ _)); exact BK1070.out) hb); have n3_ := Aside0.mk (below_step (by repeat (first | (with_reducible first | exact HB.out | apply below_alloc | apply pw_below_drewN | apply below_drew1 | refine below_set ?_ GE1069.out | refine below_set ?_ GE1070.out) | exact HB.out)) hb); have n4_ := Aside0.mk (hbox); have n5_ := Aside0.mk ((by rw [hg]; exact (below_size (by repeat (first | (with_reducible first | exact HB.out | apply below_alloc | apply pw_below_drewN | apply below_drew1 | refine below_set ?_ GE1069.out | refine below_set ?_ GE1070.out) | exact HB.out))) : w.heap.size ≤ gb1074)); have n6_ := Aside0.mk ((by rw [hg]; exact (below_size (by repeat (first | (with_reducible first | exact HB.out | apply below_alloc | apply pw_below_drewN | apply below_drew1 | refine below_set ?_ GE1069.out | refine below_set ?_ GE1070.out) | exact HB.out))) : w.heap.size ≤ gb1074)); have n7_ := Aside0.mk ((by rw [hg]; exact Nat.ne_of_lt (blk_lt (g := gb1069) (o := .cells #[.slice A0_0 l0_0.length c0_0, .int .i64 a0_1] 64 (0, 0)) (by (with_reducible repeat (first | refine blk_drewN ?_ _ | refine blk_drew ?_ | refine blk_alloc ?_ _)); exact BK1069.out)) : gb1069 ≠ gb1074)); have n8_ := Aside0.mk ((by rw [hg]; exact Nat.ne_of_gt (blk_lt (g := gb1069) (o := .cells #[.slice A0_0 l0_0.length c0_0, .int .i64 a0_1] 64 (0, 0)) (by (with_reducible repeat (first | refine blk_drewN ?_ _ | refine blk_drew ?_ | refine blk_alloc ?_ _)); exact BK1069.out)) : gb1074 ≠ gb1069)); have n9_ := Aside0.mk ((by rw [hg]; exact Nat.ne_of_lt (blk_lt (g := gb1070) (o := .cells #[.slice none 0 0, .int .i64 0] 64 (0, 0)) (by (with_reducible repeat (first | refine blk_drewN ?_ _ | refine blk_drew ?_ | refine blk_alloc ?_ _)); exact BK1070.out)) : gb1070 ≠ gb1074)); have n10_ := Aside0.mk ((by rw [hg]; exact Nat.ne_of_gt (blk_lt (g := gb1070) (o := .cells #[.slice none 0 0, .int .i64 0] 64 (0, 0)) (by (with_reducible repeat (first | refine blk_drewN ?_ _ | refine blk_drew ?_ | refine blk_alloc ?_ _)); exact BK1070.out)) : gb1074 ≠ gb1070)); clear HO1073; clear BK1069; clear BK1070; clear HB; have HO1073 := n0_; have BK1069 := n1_; have BK1070 := n2_; have HB := n3_; have BK1074 := n4_; have GW1074 := n5_; have GE1074 := n6_; have NB1069_1074 := n7_; have NB1074_1069 := n8_; have NB1070_1074 := n9_; have NB1074_1070 := n10_; clear n0_ n1_ n2_ n3_ n4_ n5_ n6_ n7_ n8_ n9_ n10_; clear hb hbox hg; have hnb12 := NB1074_1069.out; have hnc12 := NB1069_1074.out; have hnb13 := NB1074_1070.out; have hnc13 := NB1070_1074.out; have hcz14_0 : w11.cell? ⟨gb1074, 0, none⟩ = some (.slice none 0 0) := (blk_cell BK1074.out 0).trans rfl; have hcz14_1 : w11.cell? ⟨gb1074, 1, none⟩ = some (.int .i64 0) := (blk_cell BK1074.out 1).trans rfl; have hfz14_0 := blk_frozen BK1074.out 0; have hfz14_1 := blk_frozen BK1074.out 1))
  go_loopg [17] k (fun kq v17 w' => ∃ (x17_1 : Int) (x1075000_1 : List Int) (u1075000 : Value), v17 = .int .i64 x17_1 ∧ Aside0 (impl_Places_behind.l0 kq a1 l2 (l2.length : Int) x17_1 x1075000_1 a1 = some (r1, r2)) ∧ Aside0 (kq ≤ k) ∧ Aside0 (Kd.R (Kd.int .i64) 3 w' w.heap.size (fun _ => True) u1075000 x1075000_1) ∧ Aside0 (w'.heap[gb1069]? = some (.cells #[(.slice A0_0 l0_0.length c0_0), .int .i64 a0_1] 64 (0, 0))) ∧ Aside0 (w'.heap[gb1070]? = some (.cells #[(.slice none 0 0), .int .i64 0] 64 (0, 0))) ∧ Aside0 (w'.heap[gb1074]? = some (.cells #[u1075000, .int .i64 a1] 64 (0, 0))) ∧ Aside0 (Below w.heap.size w w'))
  case atStart => exact ⟨(0), (t1071), (.slice Ao10 t1071.length co10), (by first | rfl | (simp; done) | (simp [*]; done)), H', ⟨Nat.le_refl _⟩, ⟨by (with_reducible repeat (first | apply Kd.R_alloc | apply Kd.R_drewN | apply Kd.R_drew)); exact Kd.R_mono (Kd.R_far (p := ⟨gb1074, 1, none⟩) (Kd.R_far (p := ⟨gb1074, 0, none⟩) (Kd.R_types HO1073.out BK1074.out (by decide)) (fun _ hk => hk.2) (.slice Ao10 t1071.length co10)) (fun _ hk => hk.2) (.int .i64 a1)) (fun _ hk => trivial)⟩, ⟨by (with_reducible repeat (first | refine blk_drewN ?_ _ | refine blk_drew ?_ | refine blk_alloc ?_ _)); refine blk_far ?_ NB1069_1074.out _; (with_reducible repeat (first | refine blk_drewN ?_ _ | refine blk_drew ?_ | refine blk_alloc ?_ _)); refine blk_far ?_ NB1069_1074.out _; (with_reducible repeat (first | refine blk_drewN ?_ _ | refine blk_drew ?_ | refine blk_alloc ?_ _)); exact BK1069.out⟩, ⟨by (with_reducible repeat (first | refine blk_drewN ?_ _ | refine blk_drew ?_ | refine blk_alloc ?_ _)); refine blk_far ?_ NB1070_1074.out _; (with_reducible repeat (first | refine blk_drewN ?_ _ | refine blk_drew ?_ | refine blk_alloc ?_ _)); refine blk_far ?_ NB1070_1074.out _; (with_reducible repeat (first | refine blk_drewN ?_ _ | refine blk_drew ?_ | refine blk_alloc ?_ _)); exact BK1070.out⟩, ⟨by (with_reducible repeat (first | refine blk_drewN ?_ _ | refine blk_drew ?_ | refine blk_alloc ?_ _)); refine blk_put (cs := #[.slice Ao10 t1071.length co10, .int .i64 0]) ?_ 1 _ rfl; (with_reducible repeat (first | refine blk_drewN ?_ _ | refine blk_drew ?_ | refine blk_alloc ?_ _)); refine blk_put (cs := #[.slice none 0 0, .int .i64 0]) ?_ 0 _ rfl; (with_reducible repeat (first | refine blk_drewN ?_ _ | refine blk_drew ?_ | refine blk_alloc ?_ _)); exact BK1074.out⟩, ⟨by repeat (first | (with_reducible first | exact HB.out | apply below_alloc | apply pw_below_drewN | apply below_drew1 | refine below_set ?_ GE1069.out | refine below_set ?_ GE1070.out | refine below_set ?_ GE1074.out) | exact HB.out)⟩⟩
  case round =>
    clear H'
    try clear c1
    try clear c2
    try clear p2
    try clear c7
    try clear c12
    try clear c13
    try clear hcz14_0
    try clear hcz14_1
    try clear hcz8_0
    try clear hcz8_1
    try clear hfz14_0
    try clear hfz14_1
    try clear hfz8_0
    try clear hfz8_1
    obtain ⟨x17_1, x1075000_1, u1075000, rfl, HA, HK1, HO_1075000, BK1069, BK1070, BK1074, HB⟩ := hrel
    cases gk with
    | zero => exact absurd HA.out (by simp [impl_Places_behind.l0])
    | succ k1 =>
      have H := HA.out
      clear HA
      simp only [impl_Places_behind.l0] at H
      by_cases c15 : x17_1 < (l2.length : Int)
      · rw [if_pos c15] at H
        have c15b0 : decide (x17_1 < (l2.length : Int)) = true := decide_eq_true c15
        clear c15
        by_cases c16 : 0 ≤ x17_1
        · rw [if_pos c16] at H
          have c16b0 : decide (0 ≤ x17_1) = true := decide_eq_true c16
          clear c16
          by_cases c17 : x17_1 < (l2.length : Int)
          · rw [if_pos c17] at H
            have c17b0 : decide (x17_1 < (l2.length : Int)) = true := decide_eq_true c17
            clear c17
            by_cases c18 : 0 ≤ (rd l2 x17_1)
            · rw [if_pos c18] at H
              have c18b0 : decide (0 ≤ (rd l2 x17_1)) = true := decide_eq_true c18
              clear c18
              by_cases c19 : (rd l2 x17_1) < (x1075000_1.length : Int)
              · rw [if_pos c19] at H
                have c19b0 : decide ((rd l2 x17_1) < (x1075000_1.length : Int)) = true := decide_eq_true c19
                clear c19
                obtain ⟨y1076, hy1076⟩ : ∃ y_ : List Int, y_ = (x1075000_1.set ((rd l2 x17_1) : Int).toNat a1) := ⟨_, rfl⟩
                replace H : (impl_Places_behind.l0 k1 a1 l2 (l2.length : Int) (wrap64 (x17_1 + 1)) y1076 a1) = some (r1, r2) := by first | (rw [hy1076]; with_reducible exact H) | (have H2_ := (Option.bind_some _ _).symm.trans H; rw [hy1076]; with_reducible exact H2_) | (have H2_ := (Option.bind_some _ _).symm.trans H; with_reducible exact H2_) | with_reducible exact H | (rw [hy1076]; exact H) | exact H
                have Ny1076 := Aside0.mk hy1076
                clear hy1076
                have H' := Aside0.mk H
                clear H
                have p1075 : 0 ≤ (x17_1 : Int) := of_decide_eq_true (by first | (with_reducible assumption) | assumption)
                have q1075 : x17_1 < (l2.length : Int) := of_decide_eq_true (by first | (with_reducible assumption) | assumption)
                obtain ⟨ad1075, e1075, hx1075_0⟩ := Kd.at_int HR2.out x17_1 p1075 q1075
                cases e1075
                replace hx1075_0 := (HB.out.cell (World.block_lt_of_cell? w _ hx1075_0)).trans hx1075_0
                replace p1075 := eq_true p1075
                replace q1075 := eq_true q1075
                have hnb21 := NB1074_1069.out
                have hnc21 := NB1069_1074.out
                have hnb22 := NB1074_1070.out
                have hnc22 := NB1070_1074.out
                have hcz23_0 : wr.cell? ⟨gb1074, 0, none⟩ = some (u1075000) := (blk_cell BK1074.out 0).trans rfl
                have hcz23_1 : wr.cell? ⟨gb1074, 1, none⟩ = some (.int .i64 a1) := (blk_cell BK1074.out 1).trans rfl
                have hfz23_0 := blk_frozen BK1074.out 0
                have hfz23_1 := blk_frozen BK1074.out 1
                have p20 : 0 ≤ ((rd l2 x17_1) : Int) := of_decide_eq_true (by first | (with_reducible assumption) | assumption)
                have q20 : ((rd l2 x17_1) : Int) < ((x1075000_1.length : Int) : Int) := of_decide_eq_true (by first | (with_reducible assumption) | assumption)
                obtain ⟨go20, co20, eo20, gb20, gl20, cl20, HG20⟩ := Kd.R_form HO_1075000.out (by omega)
                (first | cases eo20 | (injection eo20 with ea_ en_ ec_; (first | subst ea_ | (injection ea_ with ea_; subst ea_)); subst ec_; clear en_))
                have GB20 := Aside0.mk gb20
                have GG20 := Aside0.mk HG20
                clear gb20 gl20 HG20
                obtain ⟨hx20_0, hf20_0⟩ := Kd.R_celln 0 HO_1075000.out ((rd l2 x17_1) : Int) p20 q20
                replace p20 := eq_true p20
                replace q20 := eq_true q20
                have HP24 := Kd.R_putg HO_1075000.out ((rd l2 x17_1) : Int) a1
                go_wp2_with (first | ((with_reducible refine gate_store (t := 3) (p := 25) rfl ?_); refine store_event (t := 3) (p := 25) (v := ?vo_w25) (w1 := (wr.setCell ⟨go20, ((rd l2 x17_1) : Int).toNat, none⟩ (.int .i64 a1))) ?hg ?ho ?hn ?hr ?_; (case ho => rfl); (case hg => rfl); (case hn => rfl); (case hr => first | (go_simp; done) | (go_simp; rfl)); intro w25 hw; have hg : wr.grownBy w25 (some go20) := (by rw [hw]; exact HP24.2); have hp_ : Kd.R (Kd.int .i64) 3 w25 w.heap.size (fun _ => True) (.slice (some ⟨go20, 0, none⟩) x1075000_1.length co20) y1076 := (by rw [hw, Ny1076.out]; exact HP24.1); clear HP24; have n0_ := Aside0.mk (hp_); have n1_ := Aside0.mk (blk_grown (g := gb1069) (o := .cells #[.slice A0_0 l0_0.length c0_0, .int .i64 a0_1] 64 (0, 0)) (by (with_reducible repeat (first | refine blk_drewN ?_ _ | refine blk_drew ?_ | refine blk_alloc ?_ _)); exact BK1069.out) hg (Kd.R_ne HO_1075000.out BK1069.out (by decide))); have n2_ := Aside0.mk (blk_grown (g := gb1070) (o := .cells #[.slice none 0 0, .int .i64 0] 64 (0, 0)) (by (with_reducible repeat (first | refine blk_drewN ?_ _ | refine blk_drew ?_ | refine blk_alloc ?_ _)); exact BK1070.out) hg (Kd.R_ne HO_1075000.out BK1070.out (by decide))); have n3_ := Aside0.mk (blk_grown (g := gb1074) (o := .cells #[.slice (some ⟨go20, 0, none⟩) x1075000_1.length co20, .int .i64 a1] 64 (0, 0)) (by (with_reducible repeat (first | refine blk_drewN ?_ _ | refine blk_drew ?_ | refine blk_alloc ?_ _)); exact BK1074.out) hg (Kd.R_ne HO_1075000.out BK1074.out (by decide))); have n4_ := Aside0.mk ((by rw [hw]; exact below_set (HB.out) GB20.out : Below w.heap.size w w25)); clear HO_1075000; clear BK1069; clear BK1070; clear BK1074; clear HB; have HO_1075000 := n0_; have BK1069 := n1_; have BK1070 := n2_; have BK1074 := n3_; have HB := n4_; clear n0_ n1_ n2_ n3_ n4_; clear hg hw hp_))
                go_roundg k1
                case measure => have := HK1.out; omega
                case rel => exact ⟨(wrap64 (x17_1 + 1)), (y1076), (.slice (some ⟨go20, 0, none⟩) x1075000_1.length co20), (by first | rfl | (simp; done) | (simp [*]; done)), H', ⟨by have := HK1.out; omega⟩, ⟨by (with_reducible repeat (first | apply Kd.R_alloc | apply Kd.R_drewN | apply Kd.R_drew)); exact HO_1075000.out⟩, ⟨by (with_reducible repeat (first | refine blk_drewN ?_ _ | refine blk_drew ?_ | refine blk_alloc ?_ _)); exact BK1069.out⟩, ⟨by (with_reducible repeat (first | refine blk_drewN ?_ _ | refine blk_drew ?_ | refine blk_alloc ?_ _)); exact BK1070.out⟩, ⟨by (with_reducible repeat (first | refine blk_drewN ?_ _ | refine blk_drew ?_ | refine blk_alloc ?_ _)); exact BK1074.out⟩, ⟨by repeat (first | (with_reducible first | exact HB.out | apply below_alloc | apply pw_below_drewN | apply below_drew1 | refine below_set ?_ GE1069.out | refine below_set ?_ GE1070.out | refine below_set ?_ GE1074.out) | exact HB.out)⟩⟩
              · rw [if_neg c19] at H
                exact absurd H (by simp)
            · rw [if_neg c18] at H
              exact absurd H (by simp)
          · rw [if_neg c17] at H
            exact absurd H (by simp)
        · rw [if_neg c16] at H
          exact absurd H (by simp)
      · rw [if_neg c15] at H
        have c15b0 : decide (x17_1 < (l2.length : Int)) = false := decide_eq_false c15
        clear c15
        simp only [Option.some.injEq, Prod.mk.injEq] at H
        obtain ⟨rfl, rfl⟩ := H
        have hnb26 := NB1074_1069.out
        have hnc26 := NB1069_1074.out
        have hnb27 := NB1074_1070.out
        have hnc27 := NB1070_1074.out
        have hcz28_0 : wr.cell? ⟨gb1074, 0, none⟩ = some (u1075000) := (blk_cell BK1074.out 0).trans rfl
        have hcz28_1 : wr.cell? ⟨gb1074, 1, none⟩ = some (.int .i64 a1) := (blk_cell BK1074.out 1).trans rfl
        have hfz28_0 := blk_frozen BK1074.out 0
        have hfz28_1 := blk_frozen BK1074.out 1
        obtain ⟨Ao29, co29, eo29⟩ := Kd.R_slice HO_1075000.out
        subst eo29
        have hnb30 := NB1070_1069.out
        have hnc30 := NB1069_1070.out
        have hcz31_0 : wr.cell? ⟨gb1070, 0, none⟩ = some (.slice none 0 0) := (blk_cell BK1070.out 0).trans rfl
        have hcz31_1 : wr.cell? ⟨gb1070, 1, none⟩ = some (.int .i64 0) := (blk_cell BK1070.out 1).trans rfl
        have hfz31_0 := blk_frozen BK1070.out 0
        have hfz31_1 := blk_frozen BK1070.out 1
        go_wp2
        refine bodyPost_ret (results_cell_row rfl _ _ gb1070 64 #[.slice Ao29 x1075000_1.length co29, .int .i64 a1] (0, 0) _ rfl (by (with_reducible repeat (first | refine blk_drewN ?_ _ | refine blk_drew ?_ | refine blk_alloc ?_ _)); refine blk_put (cs := #[.slice Ao29 x1075000_1.length co29, .int .i64 0]) ?_ 1 _ rfl; (with_reducible repeat (first | refine blk_drewN ?_ _ | refine blk_drew ?_ | refine blk_alloc ?_ _)); refine blk_put (cs := #[.slice none 0 0, .int .i64 0]) ?_ 0 _ rfl; (with_reducible repeat (first | refine blk_drewN ?_ _ | refine blk_drew ?_ | refine blk_alloc ?_ _)); exact BK1070.out) Try.underlying64 rfl (by kernel_rfl)) rfl ?_
        exact ⟨_, by first | rfl | (simp [errW_none, errW_some] <;> rfl) | (simp [*, errW_none, errW_some] <;> rfl), by (with_reducible repeat (first | apply Kd.R_alloc | apply Kd.R_drewN | apply Kd.R_drew)); exact Kd.R_mono (Kd.R_far (p := ⟨gb1070, 1, none⟩) (Kd.R_far (p := ⟨gb1070, 0, none⟩) (Kd.R_types HO_1075000.out BK1070.out (by decide)) (fun _ hk => hk.2) (.slice Ao29 x1075000_1.length co29)) (fun _ hk => hk.2) (.int .i64 a1)) (fun _ hk => trivial), by repeat (first | (with_reducible first | exact HB.out | apply below_alloc | apply pw_below_drewN | apply below_drew1 | refine below_set ?_ GE1069.out | refine below_set ?_ GE1070.out | refine below_set ?_ GE1074.out) | exact HB.out)⟩
end Go.Proofs.Ytlkjglanglpdoaa.T
namespace Go.Proofs.Ytlkjglanglpdoaa.T
open Go.RowKit Go.Proofs.YtlkjglanglpdoaaW.PrintWords Go.Proofs.YtlkjglanglpdoaaW.PrintLast Go.Proofs.YtlkjglanglpdoaaW.PrintMore
attribute [local go_sem] max2_int min2_int max_two min_two max_three min_three max_four min_four
set_option linter.unusedVariables false
set_option linter.unusedSimpArgs false
def impl_Isles_people.f (a0_0 : Int) (a0_1 : Int) (a0_2 : Int) : Option (Int) := some (wrap64 (2 * a0_0))
set_option maxHeartbeats 8000000 in
set_option maxRecDepth 100000 in
theorem impl_Isles_people.calls (a0_0 : Int) (a0_1 : Int) (a0_2 : Int) (r : Int) (w : World) (h : impl_Isles_people.f a0_0 a0_1 a0_2 = some r) :
    Calls Try.prog 274 #[.agg #[.int .i64 a0_0, .int .i64 a0_1, .int .i64 a0_2]] w fun e w' => e = .returned (.int .i64 r) ∧ Below w.heap.size w w' := by
  have hu39 := Try.underlying39
  have HB := Aside0.mk (Below.refl w.heap.size w)
  have H : (some (wrap64 (2 * a0_0))) = some r := h
  clear h
  obtain rfl := Option.some.inj H
  go_enter Try.func274, Try.ntmps274
  go_wp2_with (first | ((with_reducible refine gate_dst (N := 1) rfl ?_); refine box_event ?hg (N := 1) ?hd (cs := #[.int .i64 a0_0, .int .i64 a0_1, .int .i64 a0_2]) (t := 39) ?hr ?_; (case hd => rfl); (case hg => rfl); (case hr => first | (go_simp; done) | (go_simp; rfl)); intro gb995 hg w2 hbox hb; have n0_ := Aside0.mk (below_step (by repeat (first | (with_reducible first | exact HB.out | apply below_alloc | apply pw_below_drewN | apply below_drew1) | exact HB.out)) hb); have n1_ := Aside0.mk (hbox); have n2_ := Aside0.mk ((by rw [hg]; exact (below_size (by repeat (first | (with_reducible first | exact HB.out | apply below_alloc | apply pw_below_drewN | apply below_drew1) | exact HB.out))) : w.heap.size ≤ gb995)); have n3_ := Aside0.mk ((by rw [hg]; exact (below_size (by repeat (first | (with_reducible first | exact HB.out | apply below_alloc | apply pw_below_drewN | apply below_drew1) | exact HB.out))) : w.heap.size ≤ gb995)); clear HB; have HB := n0_; have BK995 := n1_; have GW995 := n2_; have GE995 := n3_; clear n0_ n1_ n2_ n3_; clear hb hbox hg; have hcz3_0 : w2.cell? ⟨gb995, 0, none⟩ = some (.int .i64 a0_0) := (blk_cell BK995.out 0).trans rfl; have hcz3_1 : w2.cell? ⟨gb995, 1, none⟩ = some (.int .i64 a0_1) := (blk_cell BK995.out 1).trans rfl; have hcz3_2 : w2.cell? ⟨gb995, 2, none⟩ = some (.int .i64 a0_2) := (blk_cell BK995.out 2).trans rfl; have hfz3_0 := blk_frozen BK995.out 0; have hfz3_1 := blk_frozen BK995.out 1; have hfz3_2 := blk_frozen BK995.out 2))
  go_ret
  exact ⟨by first | rfl | (simp [errW_none, errW_some] <;> rfl) | (simp [*, errW_none, errW_some] <;> rfl), by repeat (first | (with_reducible first | exact HB.out | apply below_alloc | apply pw_below_drewN | apply below_drew1 | refine below_set ?_ GE995.out) | exact HB.out)⟩
end Go.Proofs.Ytlkjglanglpdoaa.T
namespace Go.Proofs.Ytlkjglanglpdoaa.T
open Go.RowKit Go.Proofs.YtlkjglanglpdoaaW.PrintWords Go.Proofs.YtlkjglanglpdoaaW.PrintLast Go.Proofs.YtlkjglanglpdoaaW.PrintMore
attribute [local go_sem] max2_int min2_int max_two min_two max_three min_three max_four min_four
set_option linter.unusedVariables false
set_option linter.unusedSimpArgs false
def impl_Isles_places.l0 : Nat → Int → Int → List Int → Int → Option (List Int × Int)
  | 0, _, _, _, _ => none
  | k + 1, x1, x6, x2587000, x2587001 => if x6 ≥ 0 then (if 0 ≤ x6 then (if x6 < (x2587000.length : Int) then (impl_Isles_places.l0 k (wrap64 (Int.tdiv x1 4)) (wrap64 (x6 - 1)) (x2587000.set (x6 : Int).toNat (Int.tmod x1 4)) x2587001) else (none)) else (none)) else (some (x2587000, x1))
def impl_Isles_places.f (k : Nat) (a0_0 : Int) (a0_1 : Int) (a0_2 : Int) (a1 : Int) : Option (List Int × Int) := (impl_Isles_people.f a0_0 a0_1 a0_2).bind fun t2582 => (if 0 ≤ t2582 then (if (t2582 : Int).toNat ≤ 35184372088832 then ((impl_Isles_people.f a0_0 a0_1 a0_2).bind fun t2587 => (impl_Isles_places.l0 k a1 (wrap64 (t2587 - 1)) (List.replicate (t2582 : Int).toNat 0) 0)) else (none)) else (none))
theorem impl_Isles_places.mono_l : ∀ k, (∀ y0 y1 y2 y3, LeO (impl_Isles_places.l0 k y0 y1 y2 y3) (impl_Isles_places.l0 (k + 1) y0 y1 y2 y3))
  | 0 => fun _ _ _ _ r h => by simp [impl_Isles_places.l0] at h
  | k + 1 => by
    have ih0 := impl_Isles_places.mono_l k
    · intro y0 y1 y2 y3
      unfold impl_Isles_places.l0
      repeat' first
      | (with_reducible exact ih0 _ _ _ _)
      | (with_reducible exact LeO.refl _)
      | (with_reducible exact LeO.none _)
      | (with_reducible refine LeO.ite ?_ ?_)
      | (with_reducible refine LeO.bind ?_ (fun _ => ?_))
      | exact ih0 _ _ _ _
      | exact LeO.none _
      | refine LeO.ite ?_ ?_
      | refine LeO.bind ?_ (fun _ => ?_)
theorem impl_Isles_places.mono : ∀ a0 a1 a2 a3 k, LeO (impl_Isles_places.f k a0 a1 a2 a3) (impl_Isles_places.f (k + 1) a0 a1 a2 a3) := by
  intro a0 a1 a2 a3 k
  have ih0 := impl_Isles_places.mono_l k
  unfold impl_Isles_places.f
  repeat' first
      | (with_reducible exact ih0 _ _ _ _)
      | (with_reducible exact LeO.refl _)
      | (with_reducible exact LeO.none _)
      | (with_reducible refine LeO.ite ?_ ?_)
      | (with_reducible refine LeO.bind ?_ (fun _ => ?_))
      | exact ih0 _ _ _ _
      | exact LeO.none _
      | refine LeO.ite ?_ ?_
      | refine LeO.bind ?_ (fun _ => ?_)
set_option maxHeartbeats 8000000 in
set_option maxRecDepth 100000 in
theorem impl_Isles_places.calls (k : Nat) (a0_0 : Int) (a0_1 : Int) (a0_2 : Int) (a1 : Int) (r1 : List Int) (r2 : Int) (w : World) (h : impl_Isles_places.f k a0_0 a0_1 a0_2 a1 = some (r1, r2)) :
    Calls Try.prog 253 #[.agg #[.int .i64 a0_0, .int .i64 a0_1, .int .i64 a0_2], .int .i64 a1] w fun e w' => ∃ v0_ : Value, e = .returned (.agg #[v0_, .int .i64 r2]) ∧ Kd.R (Kd.int .i64) 3 w' w.heap.size (fun _ => True) v0_ r1 ∧ Below w.heap.size w w' := by
  have hu39 := Try.underlying39
  have hu64 := Try.underlying64
  have HB := Aside0.mk (Below.refl w.heap.size w)
  have H : ((impl_Isles_people.f a0_0 a0_1 a0_2).bind fun t2582 => (if 0 ≤ t2582 then (if (t2582 : Int).toNat ≤ 35184372088832 then ((impl_Isles_people.f a0_0 a0_1 a0_2).bind fun t2587 => (impl_Isles_places.l0 k a1 (wrap64 (t2587 - 1)) (List.replicate (t2582 : Int).toNat 0) 0)) else (none)) else (none))) = some (r1, r2) := h
  clear h
  replace H := Option.bind_eq_some_iff.mp H
  obtain ⟨t2582, A30, H⟩ := H
  replace H : (if 0 ≤ t2582 then (if (t2582 : Int).toNat ≤ 35184372088832 then ((impl_Isles_people.f a0_0 a0_1 a0_2).bind fun t2587 => (impl_Isles_places.l0 k a1 (wrap64 (t2587 - 1)) (List.replicate (t2582 : Int).toNat 0) 0)) else (none)) else (none)) = some (r1, r2) := H
  have A3 := Aside0.mk A30
  clear A30
  by_cases c4 : 0 ≤ t2582
  · rw [if_pos c4] at H
    have c4b0 := eq_true c4
    have c4b1 : decide (0 ≤ t2582) = true := decide_eq_true c4
    clear c4
    by_cases c5 : (t2582 : Int).toNat ≤ 35184372088832
    · rw [if_pos c5] at H
      have c5b0 := eq_true c5
      have c5b1 : decide ((t2582 : Int).toNat ≤ 35184372088832) = true := decide_eq_true c5
      clear c5
      obtain ⟨y2583, hy2583⟩ : ∃ y_ : List Int, y_ = (List.replicate (t2582 : Int).toNat 0) := ⟨_, rfl⟩
      replace H : ((impl_Isles_people.f a0_0 a0_1 a0_2).bind fun t2587 => (impl_Isles_places.l0 k a1 (wrap64 (t2587 - 1)) y2583 0)) = some (r1, r2) := by first | (rw [hy2583]; with_reducible exact H) | (have H2_ := (Option.bind_some _ _).symm.trans H; rw [hy2583]; with_reducible exact H2_) | (have H2_ := (Option.bind_some _ _).symm.trans H; with_reducible exact H2_) | with_reducible exact H | (rw [hy2583]; exact H) | exact H
      have Ny2583 := Aside0.mk hy2583
      clear hy2583
      replace H := Option.bind_eq_some_iff.mp H
      obtain ⟨t2587, A60, H⟩ := H
      replace H : (impl_Isles_places.l0 k a1 (wrap64 (t2587 - 1)) y2583 0) = some (r1, r2) := H
      have A6 := Aside0.mk A60
      clear A60
      have H' := Aside0.mk H
      clear H
      go_enter Try.func253, Try.ntmps253
      go_wp2_with (first | ((with_reducible refine gate_dst (N := 2) rfl ?_); refine box_event ?hg (N := 2) ?hd (cs := #[.int .i64 a0_0, .int .i64 a0_1, .int .i64 a0_2]) (t := 39) ?hr ?_; (case hd => rfl); (case hg => rfl); (case hr => first | (go_simp; done) | (go_simp; rfl)); intro gb2580 hg w7 hbox hb; have n0_ := Aside0.mk (below_step (by repeat (first | (with_reducible first | exact HB.out | apply below_alloc | apply pw_below_drewN | apply below_drew1) | exact HB.out)) hb); have n1_ := Aside0.mk (hbox); have n2_ := Aside0.mk ((by rw [hg]; exact (below_size (by repeat (first | (with_reducible first | exact HB.out | apply below_alloc | apply pw_below_drewN | apply below_drew1) | exact HB.out))) : w.heap.size ≤ gb2580)); have n3_ := Aside0.mk ((by rw [hg]; exact (below_size (by repeat (first | (with_reducible first | exact HB.out | apply below_alloc | apply pw_below_drewN | apply below_drew1) | exact HB.out))) : w.heap.size ≤ gb2580)); clear HB; have HB := n0_; have BK2580 := n1_; have GW2580 := n2_; have GE2580 := n3_; clear n0_ n1_ n2_ n3_; clear hb hbox hg) | ((with_reducible refine gate_dst (N := 4) rfl ?_); refine box_event ?hg (N := 4) ?hd (cs := #[.slice none 0 0, .int .i64 0]) (t := 64) ?hr ?_; (case hd => rfl); (case hg => rfl); (case hr => first | (go_simp; done) | (go_simp; rfl)); intro gb2581 hg w8 hbox hb; have n0_ := Aside0.mk (blk_below (g := gb2580) (o := .cells #[.int .i64 a0_0, .int .i64 a0_1, .int .i64 a0_2] 39 (0, 0)) (by (with_reducible repeat (first | refine blk_drewN ?_ _ | refine blk_drew ?_ | refine blk_alloc ?_ _)); exact BK2580.out) hb); have n1_ := Aside0.mk (below_step (by repeat (first | (with_reducible first | exact HB.out | apply below_alloc | apply pw_below_drewN | apply below_drew1 | refine below_set ?_ GE2580.out) | exact HB.out)) hb); have n2_ := Aside0.mk (hbox); have n3_ := Aside0.mk ((by rw [hg]; exact (below_size (by repeat (first | (with_reducible first | exact HB.out | apply below_alloc | apply pw_below_drewN | apply below_drew1 | refine below_set ?_ GE2580.out) | exact HB.out))) : w.heap.size ≤ gb2581)); have n4_ := Aside0.mk ((by rw [hg]; exact (below_size (by repeat (first | (with_reducible first | exact HB.out | apply below_alloc | apply pw_below_drewN | apply below_drew1 | refine below_set ?_ GE2580.out) | exact HB.out))) : w.heap.size ≤ gb2581)); have n5_ := Aside0.mk ((by rw [hg]; exact Nat.ne_of_lt (blk_lt (g := gb2580) (o := .cells #[.int .i64 a0_0, .int .i64 a0_1, .int .i64 a0_2] 39 (0, 0)) (by (with_reducible repeat (first | refine blk_drewN ?_ _ | refine blk_drew ?_ | refine blk_alloc ?_ _)); exact BK2580.out)) : gb2580 ≠ gb2581)); have n6_ := Aside0.mk ((by rw [hg]; exact Nat.ne_of_gt (blk_lt (g := gb2580) (o := .cells #[.int .i64 a0_0, .int .i64 a0_1, .int .i64 a0_2] 39 (0, 0)) (by (with_reducible repeat (first | refine blk_drewN ?_ _ | refine blk_drew ?_ | refine blk_alloc ?_ _)); exact BK2580.out)) : gb2581 ≠ gb2580)); clear BK2580; clear HB; have BK2580 := n0_; have HB := n1_; have BK2581 := n2_; have GW2581 := n3_; have GE2581 := n4_; have NB2580_2581 := n5_; have NB2581_2580 := n6_; clear n0_ n1_ n2_ n3_ n4_ n5_ n6_; clear hb hbox hg; have hnb9 := NB2580_2581.out; have hnc9 := NB2581_2580.out; have hcz10_0 : w8.cell? ⟨gb2580, 0, none⟩ = some (.int .i64 a0_0) := (blk_cell BK2580.out 0).trans rfl; have hcz10_1 : w8.cell? ⟨gb2580, 1, none⟩ = some (.int .i64 a0_1) := (blk_cell BK2580.out 1).trans rfl; have hcz10_2 : w8.cell? ⟨gb2580, 2, none⟩ = some (.int .i64 a0_2) := (blk_cell BK2580.out 2).trans rfl; have hfz10_0 := blk_frozen BK2580.out 0; have hfz10_1 := blk_frozen BK2580.out 1; have hfz10_2 := blk_frozen BK2580.out 2) | ((with_reducible refine gate_callee (f := 274) rfl ?_); refine goesL_ (some 8) rfl rfl Try.func274 (by kernel_rfl) rfl #[.agg #[.int .i64 a0_0, .int .i64 a0_1, .int .i64 a0_2]] rfl (by (try simp only [List.map_toArray, List.map_cons, List.map_nil]); first | done | rfl | (simp only [List.length_drop, List.length_take]; rfl)) ?_; (with_reducible refine (impl_Isles_people.calls a0_0 a0_1 a0_2 t2582 _ A3.out).mono ?_); rintro e w11 ⟨rfl, hb⟩; refine ⟨_, rfl, ?_⟩; have n0_ := Aside0.mk (blk_below (g := gb2580) (o := .cells #[.int .i64 a0_0, .int .i64 a0_1, .int .i64 a0_2] 39 (0, 0)) (by (with_reducible repeat (first | refine blk_drewN ?_ _ | refine blk_drew ?_ | refine blk_alloc ?_ _)); exact BK2580.out) hb); have n1_ := Aside0.mk (blk_below (g := gb2581) (o := .cells #[.slice none 0 0, .int .i64 0] 64 (0, 0)) (by (with_reducible repeat (first | refine blk_drewN ?_ _ | refine blk_drew ?_ | refine blk_alloc ?_ _)); exact BK2581.out) hb); have n2_ := Aside0.mk (below_step (by repeat (first | (with_reducible first | exact HB.out | apply below_alloc | apply pw_below_drewN | apply below_drew1 | refine below_set ?_ GE2580.out | refine below_set ?_ GE2581.out) | exact HB.out)) hb); clear BK2580; clear BK2581; clear HB; have BK2580 := n0_; have BK2581 := n1_; have HB := n2_; clear n0_ n1_ n2_; (try clear hb); (try clear hb2); (try clear hk); (try clear hi)) | ((with_reducible refine gate_dst (N := 9) rfl ?_); refine Kd.R_make (Kd.int .i64) _ 3 rfl (N := 9) rfl 32 _ _ rfl t2582 rfl rfl Try.underlying32 (.int .i64 0) 8 info3 rfl (by decide) (by omega) 0 (ok := fun _ => True) (okp := fun _ => True) rfl (fun _ hk => hk) trivial (of_decide_eq_true (by first | (with_reducible assumption) | assumption)) (Nat.le_trans (Nat.mul_le_mul_right _ (of_decide_eq_true (by first | (with_reducible assumption) | assumption) : t2582.toNat ≤ 35184372088832)) (by omega)) (Below.refl _ _) (Nat.le_refl _) ?_; intro v2584 w12 ho13 hb hg_ hnew_; clear hg_ hnew_; (first | rw [← Ny2583.out] at ho13 | (simp only [Int.reduceToNat] at ho13; rw [← Ny2583.out] at ho13)); have n0_ := Aside0.mk (Kd.R_lower ho13 (below_size (by repeat (first | (with_reducible first | exact HB.out | apply below_alloc | apply pw_below_drewN | apply below_drew1 | refine below_set ?_ GE2580.out | refine below_set ?_ GE2581.out) | exact HB.out)))); have n1_ := Aside0.mk (blk_below (g := gb2580) (o := .cells #[.int .i64 a0_0, .int .i64 a0_1, .int .i64 a0_2] 39 (0, 0)) (by (with_reducible repeat (first | refine blk_drewN ?_ _ | refine blk_drew ?_ | refine blk_alloc ?_ _)); exact BK2580.out) hb); have n2_ := Aside0.mk (blk_below (g := gb2581) (o := .cells #[.slice none 0 0, .int .i64 0] 64 (0, 0)) (by (with_reducible repeat (first | refine blk_drewN ?_ _ | refine blk_drew ?_ | refine blk_alloc ?_ _)); exact BK2581.out) hb); have n3_ := Aside0.mk (below_step (by repeat (first | (with_reducible first | exact HB.out | apply below_alloc | apply pw_below_drewN | apply below_drew1 | refine below_set ?_ GE2580.out | refine below_set ?_ GE2581.out) | exact HB.out)) hb); clear BK2580; clear BK2581; clear HB; have HO2585 := n0_; have BK2580 := n1_; have BK2581 := n2_; have HB := n3_; clear n0_ n1_ n2_ n3_; clear hb ho13; obtain ⟨Ao14, co14, eo14⟩ := Kd.R_slice HO2585.out; subst eo14) | ((with_reducible refine gate_dst (N := 5) rfl ?_); refine box_event ?hg (N := 5) ?hd (cs := #[.slice none 0 0, .int .i64 0]) (t := 64) ?hr ?_; (case hd => rfl); (case hg => rfl); (case hr => first | (go_simp; done) | (go_simp; rfl)); intro gb2586 hg w15 hbox hb; have n0_ := Aside0.mk (Kd.R_below (by (with_reducible repeat (first | apply Kd.R_alloc | apply Kd.R_drewN | apply Kd.R_drew)); exact HO2585.out) hb); have n1_ := Aside0.mk (blk_below (g := gb2580) (o := .cells #[.int .i64 a0_0, .int .i64 a0_1, .int .i64 a0_2] 39 (0, 0)) (by (with_reducible repeat (first | refine blk_drewN ?_ _ | refine blk_drew ?_ | refine blk_alloc ?_ _)); exact BK2580.out) hb); have n2_ := Aside0.mk (blk_below (g := gb2581) (o := .cells #[.slice none 0 0, .int .i64 0] 64 (0, 0)) (by (with_reducible repeat (first | refine blk_drewN ?_ _ | refine blk_drew ?_ | refine blk_alloc ?_ _)); exact BK2581.out) hb); have n3_ := Aside0.mk (below_step (by repeat (first | (with_reducible first | exact HB.out | apply below_alloc | apply pw_below_drewN | apply below_drew1 | refine below_set ?_ GE2580.out | refine below_set ?_ GE2581.out) | exact HB.out)) hb); have n4_ := Aside0.mk (hbox); have n5_ := Aside0.mk ((by rw [hg]; exact (below_size (by repeat (first | (with_reducible first | exact HB.out | apply below_alloc | apply pw_below_drewN | apply below_drew1 | refine below_set ?_ GE2580.out | refine below_set ?_ GE2581.out) | exact HB.out))) : w.heap.size ≤ gb2586)); have n6_ := Aside0.mk ((by rw [hg]; exact (below_size (by repeat (first | (with_reducible first | exact HB.out | apply below_alloc | apply pw_below_drewN | apply below_drew1 | refine below_set ?_ GE2580.out | refine below_set ?_ GE2581.out) | exact HB.out))) : w.heap.size ≤ gb2586)); have n7_ := Aside0.mk ((by rw [hg]; exact Nat.ne_of_lt (blk_lt (g := gb2580) (o := .cells #[.int .i64 a0_0, .int .i64 a0_1, .int .i64 a0_2] 39 (0, 0)) (by (with_reducible repeat (first | refine blk_drewN ?_ _ | refine blk_drew ?_ | refine blk_alloc ?_ _)); exact BK2580.out)) : gb2580 ≠ gb2586)); have n8_ := Aside0.mk ((by rw [hg]; exact Nat.ne_of_gt (blk_lt (g := gb2580) (o := .cells #[.int .i64 a0_0, .int .i64 a0_1, .int .i64 a0_2] 39 (0, 0)) (by (with_reducible repeat (first | refine blk_drewN ?_ _ | refine blk_drew ?_ | refine blk_alloc ?_ _)); exact BK2580.out)) : gb2586 ≠ gb2580)); have n9_ := Aside0.mk ((by rw [hg]; exact Nat.ne_of_lt (blk_lt (g := gb2581) (o := .cells #[.slice none 0 0, .int .i64 0] 64 (0, 0)) (by (with_reducible repeat (first | refine blk_drewN ?_ _ | refine blk_drew ?_ | refine blk_alloc ?_ _)); exact BK2581.out)) : gb2581 ≠ gb2586)); have n10_ := Aside0.mk ((by rw [hg]; exact Nat.ne_of_gt (blk_lt (g := gb2581) (o := .cells #[.slice none 0 0, .int .i64 0] 64 (0, 0)) (by (with_reducible repeat (first | refine blk_drewN ?_ _ | refine blk_drew ?_ | refine blk_alloc ?_ _)); exact BK2581.out)) : gb2586 ≠ gb2581)); clear HO2585; clear BK2580; clear BK2581; clear HB; have HO2585 := n0_; have BK2580 := n1_; have BK2581 := n2_; have HB := n3_; have BK2586 := n4_; have GW2586 := n5_; have GE2586 := n6_; have NB2580_2586 := n7_; have NB2586_2580 := n8_; have NB2581_2586 := n9_; have NB2586_2581 := n10_; clear n0_ n1_ n2_ n3_ n4_ n5_ n6_ n7_ n8_ n9_ n10_; clear hb hbox hg; have hnb16 := NB2586_2580.out; have hnc16 := NB2580_2586.out; have hnb17 := NB2586_2581.out; have hnc17 := NB2581_2586.out; have hcz18_0 : w15.cell? ⟨gb2586, 0, none⟩ = some (.slice none 0 0) := (blk_cell BK2586.out 0).trans rfl; have hcz18_1 : w15.cell? ⟨gb2586, 1, none⟩ = some (.int .i64 0) := (blk_cell BK2586.out 1).trans rfl; have hfz18_0 := blk_frozen BK2586.out 0; have hfz18_1 := blk_frozen BK2586.out 1; have hcz19_0 : w15.cell? ⟨gb2580, 0, none⟩ = some (.int .i64 a0_0) := (blk_cell BK2580.out 0).trans rfl; have hcz19_1 : w15.cell? ⟨gb2580, 1, none⟩ = some (.int .i64 a0_1) := (blk_cell BK2580.out 1).trans rfl; have hcz19_2 : w15.cell? ⟨gb2580, 2, none⟩ = some (.int .i64 a0_2) := (blk_cell BK2580.out 2).trans rfl; have hfz19_0 := blk_frozen BK2580.out 0; have hfz19_1 := blk_frozen BK2580.out 1; have hfz19_2 := blk_frozen BK2580.out 2) | ((with_reducible refine gate_callee (f := 274) rfl ?_); refine goesL_ (some 12) rfl rfl Try.func274 (by kernel_rfl) rfl #[.agg #[.int .i64 a0_0, .int .i64 a0_1, .int .i64 a0_2]] rfl (by (try simp only [List.map_toArray, List.map_cons, List.map_nil]); first | done | rfl | (simp only [List.length_drop, List.length_take]; rfl)) ?_; (with_reducible refine (impl_Isles_people.calls a0_0 a0_1 a0_2 t2587 _ A6.out).mono ?_); rintro e w20 ⟨rfl, hb⟩; refine ⟨_, rfl, ?_⟩; have n0_ := Aside0.mk (Kd.R_below (by (with_reducible repeat (first | apply Kd.R_alloc | apply Kd.R_drewN | apply Kd.R_drew)); exact (Kd.R_mono (Kd.R_far (p := ⟨gb2586, 1, none⟩) (Kd.R_far (p := ⟨gb2586, 0, none⟩) (Kd.R_types HO2585.out BK2586.out (by decide)) (fun _ hk => hk.2) (.slice Ao14 y2583.length co14)) (fun _ hk => hk.2) (.int .i64 0)) (fun _ h_ => h_.1))) hb); have n1_ := Aside0.mk (blk_below (g := gb2580) (o := .cells #[.int .i64 a0_0, .int .i64 a0_1, .int .i64 a0_2] 39 (0, 0)) (by (with_reducible repeat (first | refine blk_drewN ?_ _ | refine blk_drew ?_ | refine blk_alloc ?_ _)); refine blk_far ?_ NB2580_2586.out _; (with_reducible repeat (first | refine blk_drewN ?_ _ | refine blk_drew ?_ | refine blk_alloc ?_ _)); refine blk_far ?_ NB2580_2586.out _; (with_reducible repeat (first | refine blk_drewN ?_ _ | refine blk_drew ?_ | refine blk_alloc ?_ _)); exact BK2580.out) hb); have n2_ := Aside0.mk (blk_below (g := gb2581) (o := .cells #[.slice none 0 0, .int .i64 0] 64 (0, 0)) (by (with_reducible repeat (first | refine blk_drewN ?_ _ | refine blk_drew ?_ | refine blk_alloc ?_ _)); refine blk_far ?_ NB2581_2586.out _; (with_reducible repeat (first | refine blk_drewN ?_ _ | refine blk_drew ?_ | refine blk_alloc ?_ _)); refine blk_far ?_ NB2581_2586.out _; (with_reducible repeat (first | refine blk_drewN ?_ _ | refine blk_drew ?_ | refine blk_alloc ?_ _)); exact BK2581.out) hb); have n3_ := Aside0.mk (blk_below (g := gb2586) (o := .cells #[.slice Ao14 y2583.length co14, .int .i64 0] 64 (0, 0)) (by (with_reducible repeat (first | refine blk_drewN ?_ _ | refine blk_drew ?_ | refine blk_alloc ?_ _)); refine blk_put (cs := #[.slice Ao14 y2583.length co14, .int .i64 0]) ?_ 1 _ rfl; (with_reducible repeat (first | refine blk_drewN ?_ _ | refine blk_drew ?_ | refine blk_alloc ?_ _)); refine blk_put (cs := #[.slice none 0 0, .int .i64 0]) ?_ 0 _ rfl; (with_reducible repeat (first | refine blk_drewN ?_ _ | refine blk_drew ?_ | refine blk_alloc ?_ _)); exact BK2586.out) hb); have n4_ := Aside0.mk (below_step (by repeat (first | (with_reducible first | exact HB.out | apply below_alloc | apply pw_below_drewN | apply below_drew1 | refine below_set ?_ GE2580.out | refine below_set ?_ GE2581.out | refine below_set ?_ GE2586.out) | exact HB.out)) hb); clear HO2585; clear BK2580; clear BK2581; clear BK2586; clear HB; have HO2585 := n0_; have BK2580 := n1_; have BK2581 := n2_; have BK2586 := n3_; have HB := n4_; clear n0_ n1_ n2_ n3_ n4_; (try clear hb); (try clear hb2); (try clear hk); (try clear hi)))
      go_loopg [1, 6] k (fun kq v1 v6 w' => ∃ (x1_1 : Int) (x6_1 : Int) (x2587000_1 : List Int) (u2587000 : Value), v1 = .int .i64 x1_1 ∧ v6 = .int .i64 x6_1 ∧ Aside0 (impl_Isles_places.l0 kq x1_1 x6_1 x2587000_1 0 = some (r1, r2)) ∧ Aside0 (kq ≤ k) ∧ Aside0 (Kd.R (Kd.int .i64) 3 w' w.heap.size (fun _ => True) u2587000 x2587000_1) ∧ Aside0 (w'.heap[gb2580]? = some (.cells #[.int .i64 a0_0, .int .i64 a0_1, .int .i64 a0_2] 39 (0, 0))) ∧ Aside0 (w'.heap[gb2581]? = some (.cells #[(.slice none 0 0), .int .i64 0] 64 (0, 0))) ∧ Aside0 (w'.heap[gb2586]? = some (.cells #[u2587000, .int .i64 0] 64 (0, 0))) ∧ Aside0 (Below w.heap.size w w'))
      case atStart => exact ⟨(a1), (wrap64 (t2587 - 1)), (y2583), (.slice Ao14 y2583.length co14), (by first | rfl | (simp; done) | (simp [*]; done)), (by first | rfl | (simp; done) | (simp [*]; done)), H', ⟨Nat.le_refl _⟩, ⟨by (with_reducible repeat (first | apply Kd.R_alloc | apply Kd.R_drewN | apply Kd.R_drew)); exact HO2585.out⟩, ⟨by (with_reducible repeat (first | refine blk_drewN ?_ _ | refine blk_drew ?_ | refine blk_alloc ?_ _)); exact BK2580.out⟩, ⟨by (with_reducible repeat (first | refine blk_drewN ?_ _ | refine blk_drew ?_ | refine blk_alloc ?_ _)); exact BK2581.out⟩, ⟨by (with_reducible repeat (first | refine blk_drewN ?_ _ | refine blk_drew ?_ | refine blk_alloc ?_ _)); exact BK2586.out⟩, ⟨by repeat (first | (with_reducible first | exact HB.out | apply below_alloc | apply pw_below_drewN | apply below_drew1 | refine below_set ?_ GE2580.out | refine below_set ?_ GE2581.out | refine below_set ?_ GE2586.out) | exact HB.out)⟩⟩
      case round =>
        clear H'
        try clear c1
        try clear c2
        try clear p2
        try clear c4
        try clear c4b0
        try clear c4b1
        try clear c5
        try clear c5b0
        try clear c5b1
        try clear p6
        try clear c9
        try clear c16
        try clear c17
        try clear hcz10_0
        try clear hcz10_1
        try clear hcz10_2
        try clear hcz18_0
        try clear hcz18_1
        try clear hcz19_0
        try clear hcz19_1
        try clear hcz19_2
        try clear hfz10_0
        try clear hfz10_1
        try clear hfz10_2
        try clear hfz18_0
        try clear hfz18_1
        try clear hfz19_0
        try clear hfz19_1
        try clear hfz19_2
        obtain ⟨x1_1, x6_1, x2587000_1, u2587000, rfl, rfl, HA, HK1, HO_2587000, BK2580, BK2581, BK2586, HB⟩ := hrel
        cases gk with
        | zero => exact absurd HA.out (by simp [impl_Isles_places.l0])
        | succ k1 =>
          have H := HA.out
          clear HA
          simp only [impl_Isles_places.l0] at H
          by_cases c21 : x6_1 ≥ 0
          · rw [if_pos c21] at H
            have c21b0 : decide (0 ≤ x6_1) = true := decide_eq_true c21
            clear c21
            by_cases c22 : 0 ≤ x6_1
            · rw [if_pos c22] at H
              have c22b0 : decide (0 ≤ x6_1) = true := decide_eq_true c22
              clear c22
              by_cases c23 : x6_1 < (x2587000_1.length : Int)
              · rw [if_pos c23] at H
                have c23b0 : decide (x6_1 < (x2587000_1.length : Int)) = true := decide_eq_true c23
                clear c23
                obtain ⟨y2588, hy2588⟩ : ∃ y_ : List Int, y_ = (x2587000_1.set (x6_1 : Int).toNat (Int.tmod x1_1 4)) := ⟨_, rfl⟩
                replace H : (impl_Isles_places.l0 k1 (wrap64 (Int.tdiv x1_1 4)) (wrap64 (x6_1 - 1)) y2588 0) = some (r1, r2) := by first | (rw [hy2588]; with_reducible exact H) | (have H2_ := (Option.bind_some _ _).symm.trans H; rw [hy2588]; with_reducible exact H2_) | (have H2_ := (Option.bind_some _ _).symm.trans H; with_reducible exact H2_) | with_reducible exact H | (rw [hy2588]; exact H) | exact H
                have Ny2588 := Aside0.mk hy2588
                clear hy2588
                have H' := Aside0.mk H
                clear H
                have hnb25 := NB2586_2580.out
                have hnc25 := NB2580_2586.out
                have hnb26 := NB2586_2581.out
                have hnc26 := NB2581_2586.out
                have hcz27_0 : wr.cell? ⟨gb2586, 0, none⟩ = some (u2587000) := (blk_cell BK2586.out 0).trans rfl
                have hcz27_1 : wr.cell? ⟨gb2586, 1, none⟩ = some (.int .i64 0) := (blk_cell BK2586.out 1).trans rfl
                have hfz27_0 := blk_frozen BK2586.out 0
                have hfz27_1 := blk_frozen BK2586.out 1
                have p24 : 0 ≤ (x6_1 : Int) := of_decide_eq_true (by first | (with_reducible assumption) | assumption)
                have q24 : (x6_1 : Int) < ((x2587000_1.length : Int) : Int) := of_decide_eq_true (by first | (with_reducible assumption) | assumption)
                obtain ⟨go24, co24, eo24, gb24, gl24, cl24, HG24⟩ := Kd.R_form HO_2587000.out (by omega)
                (first | cases eo24 | (injection eo24 with ea_ en_ ec_; (first | subst ea_ | (injection ea_ with ea_; subst ea_)); subst ec_; clear en_))
                have GB24 := Aside0.mk gb24
                have GG24 := Aside0.mk HG24
                clear gb24 gl24 HG24
                obtain ⟨hx24_0, hf24_0⟩ := Kd.R_celln 0 HO_2587000.out (x6_1 : Int) p24 q24
                replace p24 := eq_true p24
                replace q24 := eq_true q24
                have HP28 := Kd.R_putg HO_2587000.out (x6_1 : Int) (Int.tmod x1_1 4)
                go_wp2_with (first | ((with_reducible refine gate_store (t := 3) (p := 25) rfl ?_); refine store_event (t := 3) (p := 25) (v := ?vo_w29) (w1 := (wr.setCell ⟨go24, (x6_1 : Int).toNat, none⟩ (.int .i64 (Int.tmod x1_1 4)))) ?hg ?ho ?hn ?hr ?_; (case ho => rfl); (case hg => rfl); (case hn => rfl); (case hr => first | (go_simp; done) | (go_simp; rfl)); intro w29 hw; have hg : wr.grownBy w29 (some go24) := (by rw [hw]; exact HP28.2); have hp_ : Kd.R (Kd.int .i64) 3 w29 w.heap.size (fun _ => True) (.slice (some ⟨go24, 0, none⟩) x2587000_1.length co24) y2588 := (by rw [hw, Ny2588.out]; exact HP28.1); clear HP28; have n0_ := Aside0.mk (hp_); have n1_ := Aside0.mk (blk_grown (g := gb2580) (o := .cells #[.int .i64 a0_0, .int .i64 a0_1, .int .i64 a0_2] 39 (0, 0)) (by (with_reducible repeat (first | refine blk_drewN ?_ _ | refine blk_drew ?_ | refine blk_alloc ?_ _)); exact BK2580.out) hg (Kd.R_ne HO_2587000.out BK2580.out (by decide))); have n2_ := Aside0.mk (blk_grown (g := gb2581) (o := .cells #[.slice none 0 0, .int .i64 0] 64 (0, 0)) (by (with_reducible repeat (first | refine blk_drewN ?_ _ | refine blk_drew ?_ | refine blk_alloc ?_ _)); exact BK2581.out) hg (Kd.R_ne HO_2587000.out BK2581.out (by decide))); have n3_ := Aside0.mk (blk_grown (g := gb2586) (o := .cells #[.slice (some ⟨go24, 0, none⟩) x2587000_1.length co24, .int .i64 0] 64 (0, 0)) (by (with_reducible repeat (first | refine blk_drewN ?_ _ | refine blk_drew ?_ | refine blk_alloc ?_ _)); exact BK2586.out) hg (Kd.R_ne HO_2587000.out BK2586.out (by decide))); have n4_ := Aside0.mk ((by rw [hw]; exact below_set (HB.out) GB24.out : Below w.heap.size w w29)); clear HO_2587000; clear BK2580; clear BK2581; clear BK2586; clear HB; have HO_2587000 := n0_; have BK2580 := n1_; have BK2581 := n2_; have BK2586 := n3_; have HB := n4_; clear n0_ n1_ n2_ n3_ n4_; clear hg hw hp_))
                go_roundg k1
                case measure => have := HK1.out; omega
                case rel => exact ⟨(wrap64 (Int.tdiv x1_1 4)), (wrap64 (x6_1 - 1)), (y2588), (.slice (some ⟨go24, 0, none⟩) x2587000_1.length co24), (by first | rfl | (simp; done) | (simp [*]; done)), (by first | rfl | (simp; done) | (simp [*]; done)), H', ⟨by have := HK1.out; omega⟩, ⟨by (with_reducible repeat (first | apply Kd.R_alloc | apply Kd.R_drewN | apply Kd.R_drew)); exact HO_2587000.out⟩, ⟨by (with_reducible repeat (first | refine blk_drewN ?_ _ | refine blk_drew ?_ | refine blk_alloc ?_ _)); exact BK2580.out⟩, ⟨by (with_reducible repeat (first | refine blk_drewN ?_ _ | refine blk_drew ?_ | refine blk_alloc ?_ _)); exact BK2581.out⟩, ⟨by (with_reducible repeat (first | refine blk_drewN ?_ _ | refine blk_drew ?_ | refine blk_alloc ?_ _)); exact BK2586.out⟩, ⟨by repeat (first | (with_reducible first | exact HB.out | apply below_alloc | apply pw_below_drewN | apply below_drew1 | refine below_set ?_ GE2580.out | refine below_set ?_ GE2581.out | refine below_set ?_ GE2586.out) | exact HB.out)⟩⟩
              · rw [if_neg c23] at H
                exact absurd H (by simp)
            · rw [if_neg c22] at H
              exact absurd H (by simp)
          · rw [if_neg c21] at H
            have c21b0 : decide (0 ≤ x6_1) = false := decide_eq_false c21
            clear c21
            simp only [Option.some.injEq, Prod.mk.injEq] at H
            obtain ⟨rfl, rfl⟩ := H
            have hnb30 := NB2586_2580.out
            have hnc30 := NB2580_2586.out
            have hnb31 := NB2586_2581.out
            have hnc31 := NB2581_2586.out
            have hcz32_0 : wr.cell? ⟨gb2586, 0, none⟩ = some (u2587000) := (blk_cell BK2586.out 0).trans rfl
            have hcz32_1 : wr.cell? ⟨gb2586, 1, none⟩ = some (.int .i64 0) := (blk_cell BK2586.out 1).trans rfl
            have hfz32_0 := blk_frozen BK2586.out 0
            have hfz32_1 := blk_frozen BK2586.out 1
            obtain ⟨Ao33, co33, eo33⟩ := Kd.R_slice HO_2587000.out
            subst eo33
            have hnb34 := NB2581_2580.out
            have hnc34 := NB2580_2581.out
            have hcz35_0 : wr.cell? ⟨gb2581, 0, none⟩ = some (.slice none 0 0) := (blk_cell BK2581.out 0).trans rfl
            have hcz35_1 : wr.cell? ⟨gb2581, 1, none⟩ = some (.int .i64 0) := (blk_cell BK2581.out 1).trans rfl
            have hfz35_0 := blk_frozen BK2581.out 0
            have hfz35_1 := blk_frozen BK2581.out 1
            go_wp2
            refine bodyPost_ret (results_cell_row rfl _ _ gb2581 64 #[.slice Ao33 x2587000_1.length co33, .int .i64 x1_1] (0, 0) _ rfl (by (with_reducible repeat (first | refine blk_drewN ?_ _ | refine blk_drew ?_ | refine blk_alloc ?_ _)); refine blk_put (cs := #[.slice Ao33 x2587000_1.length co33, .int .i64 0]) ?_ 1 _ rfl; (with_reducible repeat (first | refine blk_drewN ?_ _ | refine blk_drew ?_ | refine blk_alloc ?_ _)); refine blk_put (cs := #[.slice none 0 0, .int .i64 0]) ?_ 0 _ rfl; (with_reducible repeat (first | refine blk_drewN ?_ _ | refine blk_drew ?_ | refine blk_alloc ?_ _)); refine blk_far ?_ NB2581_2586.out _; (with_reducible repeat (first | refine blk_drewN ?_ _ | refine blk_drew ?_ | refine blk_alloc ?_ _)); exact BK2581.out) Try.underlying64 rfl (by kernel_rfl)) rfl ?_
            exact ⟨_, by first | rfl | (simp [errW_none, errW_some] <;> rfl) | (simp [*, errW_none, errW_some] <;> rfl), by (with_reducible repeat (first | apply Kd.R_alloc | apply Kd.R_drewN | apply Kd.R_drew)); exact Kd.R_mono (Kd.R_far (p := ⟨gb2581, 1, none⟩) (Kd.R_far (p := ⟨gb2581, 0, none⟩) (Kd.R_far (p := ⟨gb2586, 1, none⟩) (Kd.R_types (Kd.R_types HO_2587000.out BK2586.out (by decide)) BK2581.out (by decide)) (fun _ hk => hk.1.2) (.int .i64 x1_1)) (fun _ hk => hk.2) (.slice Ao33 x2587000_1.length co33)) (fun _ hk => hk.2) (.int .i64 x1_1)) (fun _ hk => trivial), by repeat (first | (with_reducible first | exact HB.out | apply below_alloc | apply pw_below_drewN | apply below_drew1 | refine below_set ?_ GE2580.out | refine below_set ?_ GE2581.out | refine below_set ?_ GE2586.out) | exact HB.out)⟩
    · rw [if_neg c5] at H
      exact absurd H (by simp)
  · rw [if_neg c4] at H
    exact absurd H (by simp)
end Go.Proofs.Ytlkjglanglpdoaa.T
namespace Go.Proofs.Ytlkjglanglpdoaa.T
open Go.RowKit Go.Proofs.YtlkjglanglpdoaaW.PrintWords Go.Proofs.YtlkjglanglpdoaaW.PrintLast Go.Proofs.YtlkjglanglpdoaaW.PrintMore
attribute [local go_sem] max2_int min2_int max_two min_two max_three min_three max_four min_four
set_option linter.unusedVariables false
set_option linter.unusedSimpArgs false
def impl_Places_code.l0 : Nat → Int → List Int → Int → Int → Option (Int)
  | 0, _, _, _, _ => none
  | k + 1, x3, x9, x10, x11 => if x11 < x10 then (if 0 ≤ x11 then (if x11 < (x9.length : Int) then (impl_Places_code.l0 k (wrap64 ((wrap64 (x3 * 4)) + (rd x9 x11))) x9 x10 (wrap64 (x11 + 1))) else (none)) else (none)) else (some x3)
def impl_Places_code.f (k : Nat) (l0_0 : List Int) (a0_1 : Int) : Option (Int) := impl_Places_code.l0 k a0_1 l0_0 (l0_0.length : Int) 0
theorem impl_Places_code.mono_l : ∀ k, (∀ y0 y1 y2 y3, LeO (impl_Places_code.l0 k y0 y1 y2 y3) (impl_Places_code.l0 (k + 1) y0 y1 y2 y3))
  | 0 => fun _ _ _ _ r h => by simp [impl_Places_code.l0] at h
  | k + 1 => by
    have ih0 := impl_Places_code.mono_l k
    · intro y0 y1 y2 y3
      unfold impl_Places_code.l0
      repeat' first
      | (with_reducible exact ih0 _ _ _ _)
      | (with_reducible exact LeO.refl _)
      | (with_reducible exact LeO.none _)
      | (with_reducible refine LeO.ite ?_ ?_)
      | (with_reducible refine LeO.bind ?_ (fun _ => ?_))
      | exact ih0 _ _ _ _
      | exact LeO.none _
      | refine LeO.ite ?_ ?_
      | refine LeO.bind ?_ (fun _ => ?_)
theorem impl_Places_code.mono : ∀ a0 a1 k, LeO (impl_Places_code.f k a0 a1) (impl_Places_code.f (k + 1) a0 a1) := by
  intro a0 a1 k
  have ih0 := impl_Places_code.mono_l k
  unfold impl_Places_code.f
  repeat' first
      | (with_reducible exact ih0 _ _ _ _)
      | (with_reducible exact LeO.refl _)
      | (with_reducible exact LeO.none _)
      | (with_reducible refine LeO.ite ?_ ?_)
      | (with_reducible refine LeO.bind ?_ (fun _ => ?_))
      | exact ih0 _ _ _ _
      | exact LeO.none _
      | refine LeO.ite ?_ ?_
      | refine LeO.bind ?_ (fun _ => ?_)
set_option maxHeartbeats 8000000 in
set_option maxRecDepth 100000 in
theorem impl_Places_code.calls (k : Nat) (A0_0 : Option Addr) (c0_0 : Nat) (l0_0 : List Int) (a0_1 : Int) (r : Int) (w : World) (hr0_0 : Kd.C (Kd.int .i64) w A0_0 l0_0.length l0_0) (hc0_0 : l0_0.length ≤ c0_0) (h : impl_Places_code.f k l0_0 a0_1 = some r) :
    Calls Try.prog 254 #[.agg #[.slice A0_0 l0_0.length c0_0, .int .i64 a0_1]] w fun e w' => e = .returned (.int .i64 r) ∧ Below w.heap.size w w' := by
  have hu64 := Try.underlying64
  have HR0_0 := Aside0.mk hr0_0
  have HC0_0 := Aside0.mk hc0_0
  clear hr0_0 hc0_0
  have HB := Aside0.mk (Below.refl w.heap.size w)
  have H : (impl_Places_code.l0 k a0_1 l0_0 (l0_0.length : Int) 0) = some r := h
  clear h
  have H' := Aside0.mk H
  clear H
  go_enter Try.func254, Try.ntmps254
  go_wp2_with (first | ((with_reducible refine gate_dst (N := 1) rfl ?_); refine box_event ?hg (N := 1) ?hd (cs := #[.slice A0_0 l0_0.length c0_0, .int .i64 a0_1]) (t := 64) ?hr ?_; (case hd => rfl); (case hg => rfl); (case hr => first | (go_simp; done) | (go_simp; rfl)); intro gb2589 hg w2 hbox hb; have n0_ := Aside0.mk (below_step (by repeat (first | (with_reducible first | exact HB.out | apply below_alloc | apply pw_below_drewN | apply below_drew1) | exact HB.out)) hb); have n1_ := Aside0.mk (hbox); have n2_ := Aside0.mk ((by rw [hg]; exact (below_size (by repeat (first | (with_reducible first | exact HB.out | apply below_alloc | apply pw_below_drewN | apply below_drew1) | exact HB.out))) : w.heap.size ≤ gb2589)); have n3_ := Aside0.mk ((by rw [hg]; exact (below_size (by repeat (first | (with_reducible first | exact HB.out | apply below_alloc | apply pw_below_drewN | apply below_drew1) | exact HB.out))) : w.heap.size ≤ gb2589)); clear HB; have HB := n0_; have BK2589 := n1_; have GW2589 := n2_; have GE2589 := n3_; clear n0_ n1_ n2_ n3_; clear hb hbox hg; have hcz3_0 : w2.cell? ⟨gb2589, 0, none⟩ = some (.slice A0_0 l0_0.length c0_0) := (blk_cell BK2589.out 0).trans rfl; have hcz3_1 : w2.cell? ⟨gb2589, 1, none⟩ = some (.int .i64 a0_1) := (blk_cell BK2589.out 1).trans rfl; have hfz3_0 := blk_frozen BK2589.out 0; have hfz3_1 := blk_frozen BK2589.out 1))
  go_loopg [3, 11] k (fun kq v3 v11 w' => ∃ (x3_1 : Int) (x11_1 : Int), v3 = .int .i64 x3_1 ∧ v11 = .int .i64 x11_1 ∧ Aside0 (impl_Places_code.l0 kq x3_1 l0_0 (l0_0.length : Int) x11_1 = some r) ∧ Aside0 (kq ≤ k) ∧ Aside0 (w'.heap[gb2589]? = some (.cells #[(.slice A0_0 l0_0.length c0_0), .int .i64 a0_1] 64 (0, 0))) ∧ Aside0 (Below w.heap.size w w'))
  case atStart => exact ⟨(a0_1), (0), (by first | rfl | (simp; done) | (simp [*]; done)), (by first | rfl | (simp; done) | (simp [*]; done)), H', ⟨Nat.le_refl _⟩, ⟨by (with_reducible repeat (first | refine blk_drewN ?_ _ | refine blk_drew ?_ | refine blk_alloc ?_ _)); exact BK2589.out⟩, ⟨by repeat (first | (with_reducible first | exact HB.out | apply below_alloc | apply pw_below_drewN | apply below_drew1 | refine below_set ?_ GE2589.out) | exact HB.out)⟩⟩
  case round =>
    clear H'
    try clear c2
    try clear p2
    try clear hcz3_0
    try clear hcz3_1
    try clear hfz3_0
    try clear hfz3_1
    obtain ⟨x3_1, x11_1, rfl, rfl, HA, HK1, BK2589, HB⟩ := hrel
    cases gk with
    | zero => exact absurd HA.out (by simp [impl_Places_code.l0])
    | succ k1 =>
      have H := HA.out
      clear HA
      simp only [impl_Places_code.l0] at H
      by_cases c4 : x11_1 < (l0_0.length : Int)
      · rw [if_pos c4] at H
        have c4b0 : decide (x11_1 < (l0_0.length : Int)) = true := decide_eq_true c4
        clear c4
        by_cases c5 : 0 ≤ x11_1
        · rw [if_pos c5] at H
          have c5b0 : decide (0 ≤ x11_1) = true := decide_eq_true c5
          clear c5
          by_cases c6 : x11_1 < (l0_0.length : Int)
          · rw [if_pos c6] at H
            have c6b0 : decide (x11_1 < (l0_0.length : Int)) = true := decide_eq_true c6
            clear c6
            have H' := Aside0.mk H
            clear H
            have p2590 : 0 ≤ (x11_1 : Int) := of_decide_eq_true (by first | (with_reducible assumption) | assumption)
            have q2590 : x11_1 < (l0_0.length : Int) := of_decide_eq_true (by first | (with_reducible assumption) | assumption)
            obtain ⟨ad2590, e2590, hx2590_0⟩ := Kd.at_int HR0_0.out x11_1 p2590 q2590
            cases e2590
            replace hx2590_0 := (HB.out.cell (World.block_lt_of_cell? w _ hx2590_0)).trans hx2590_0
            replace p2590 := eq_true p2590
            replace q2590 := eq_true q2590
            go_wp2
            go_roundg k1
            case measure => have := HK1.out; omega
            case rel => exact ⟨(wrap64 ((wrap64 (x3_1 * 4)) + (rd l0_0 x11_1))), (wrap64 (x11_1 + 1)), (by first | rfl | (simp; done) | (simp [*]; done)), (by first | rfl | (simp; done) | (simp [*]; done)), H', ⟨by have := HK1.out; omega⟩, ⟨by (with_reducible repeat (first | refine blk_drewN ?_ _ | refine blk_drew ?_ | refine blk_alloc ?_ _)); exact BK2589.out⟩, ⟨by repeat (first | (with_reducible first | exact HB.out | apply below_alloc | apply pw_below_drewN | apply below_drew1 | refine below_set ?_ GE2589.out) | exact HB.out)⟩⟩
          · rw [if_neg c6] at H
            exact absurd H (by simp)
        · rw [if_neg c5] at H
          exact absurd H (by simp)
      · rw [if_neg c4] at H
        have c4b0 : decide (x11_1 < (l0_0.length : Int)) = false := decide_eq_false c4
        clear c4
        obtain rfl := Option.some.inj H
        go_wp2
        go_ret
        exact ⟨by first | rfl | (simp [errW_none, errW_some] <;> rfl) | (simp [*, errW_none, errW_some] <;> rfl), by repeat (first | (with_reducible first | exact HB.out | apply below_alloc | apply pw_below_drewN | apply below_drew1 | refine below_set ?_ GE2589.out) | exact HB.out)⟩
end Go.Proofs.Ytlkjglanglpdoaa.T
namespace Go.Proofs.Ytlkjglanglpdoaa.T
open Go.RowKit Go.Proofs.YtlkjglanglpdoaaW.PrintWords Go.Proofs.YtlkjglanglpdoaaW.PrintLast Go.Proofs.YtlkjglanglpdoaaW.PrintMore
attribute [local go_sem] max2_int min2_int max_two min_two max_three min_three max_four min_four
set_option linter.unusedVariables false
set_option linter.unusedSimpArgs false
def impl_in.f (a0 : Int) (a1 : Int) (a2 : Int) : Option (Bool) := if a1 ≤ a0 then (some (decide (a0 ≤ a2))) else (some false)
set_option maxHeartbeats 8000000 in
set_option maxRecDepth 100000 in
theorem impl_in.calls (a0 : Int) (a1 : Int) (a2 : Int) (r : Bool) (w : World) (h : impl_in.f a0 a1 a2 = some r) :
    Calls Try.prog 157 #[.int .i64 a0, .int .i64 a1, .int .i64 a2] w fun e w' => e = .returned (.bool r) ∧ Drawn0 w w' := by
  have H : (if a1 ≤ a0 then (some (decide (a0 ≤ a2))) else (some false)) = some r := h
  clear h
  by_cases c4 : a1 ≤ a0
  · rw [if_pos c4] at H
    have c4b0 : decide (a1 ≤ a0) = true := decide_eq_true c4
    clear c4
    obtain rfl := Option.some.inj H
    go_enter Try.func157, Try.ntmps157
    go_wp2
    go_ret
    exact ⟨by first | rfl | (simp; done) | (simp [*]; done), by repeat (first | exact Drawn0.refl _ | apply Drawn0.step)⟩
  · rw [if_neg c4] at H
    have c4b0 : decide (a1 ≤ a0) = false := decide_eq_false c4
    clear c4
    obtain rfl := Option.some.inj H
    go_enter Try.func157, Try.ntmps157
    go_wp2
    go_ret
    exact ⟨by first | rfl | (simp; done) | (simp [*]; done), by repeat (first | exact Drawn0.refl _ | apply Drawn0.step)⟩
end Go.Proofs.Ytlkjglanglpdoaa.T
namespace Go.Proofs.Ytlkjglanglpdoaa.T
open Go.RowKit Go.Proofs.YtlkjglanglpdoaaW.PrintWords Go.Proofs.YtlkjglanglpdoaaW.PrintLast Go.Proofs.YtlkjglanglpdoaaW.PrintMore
attribute [local go_sem] max2_int min2_int max_two min_two max_three min_three max_four min_four
set_option linter.unusedVariables false
set_option linter.unusedSimpArgs false
def slices_Index_int_int.l0 : Nat → List Int → Int → Int → Int → Option (Int)
  | 0, _, _, _, _ => none
  | k + 1, x0, x1, x7, x8 => if x8 < x7 then (if 0 ≤ x8 then (if x8 < (x0.length : Int) then (if x1 = (rd x0 x8) then (some x8) else (slices_Index_int_int.l0 k x0 x1 x7 (wrap64 (x8 + 1)))) else (none)) else (none)) else (some (-1))
def slices_Index_int_int.f (k : Nat) (l0 : List Int) (a1 : Int) : Option (Int) := slices_Index_int_int.l0 k l0 a1 (l0.length : Int) 0
theorem slices_Index_int_int.mono_l : ∀ k, (∀ y0 y1 y2 y3, LeO (slices_Index_int_int.l0 k y0 y1 y2 y3) (slices_Index_int_int.l0 (k + 1) y0 y1 y2 y3))
  | 0 => fun _ _ _ _ r h => by simp [slices_Index_int_int.l0] at h
  | k + 1 => by
    have ih0 := slices_Index_int_int.mono_l k
    · intro y0 y1 y2 y3
      unfold slices_Index_int_int.l0
      repeat' first
      | (with_reducible exact ih0 _ _ _ _)
      | (with_reducible exact LeO.refl _)
      | (with_reducible exact LeO.none _)
      | (with_reducible refine LeO.ite ?_ ?_)
      | (with_reducible refine LeO.bind ?_ (fun _ => ?_))
      | exact ih0 _ _ _ _
      | exact LeO.none _
      | refine LeO.ite ?_ ?_
      | refine LeO.bind ?_ (fun _ => ?_)
theorem slices_Index_int_int.mono : ∀ a0 a1 k, LeO (slices_Index_int_int.f k a0 a1) (slices_Index_int_int.f (k + 1) a0 a1) := by
  intro a0 a1 k
  have ih0 := slices_Index_int_int.mono_l k
  unfold slices_Index_int_int.f
  repeat' first
      | (with_reducible exact ih0 _ _ _ _)
      | (with_reducible exact LeO.refl _)
      | (with_reducible exact LeO.none _)
      | (with_reducible refine LeO.ite ?_ ?_)
      | (with_reducible refine LeO.bind ?_ (fun _ => ?_))
      | exact ih0 _ _ _ _
      | exact LeO.none _
      | refine LeO.ite ?_ ?_
      | refine LeO.bind ?_ (fun _ => ?_)
set_option maxHeartbeats 8000000 in
set_option maxRecDepth 100000 in
theorem slices_Index_int_int.calls (k : Nat) (A0 : Option Addr) (c0 : Nat) (l0 : List Int) (a1 : Int) (r : Int) (w : World) (hr0 : Kd.C (Kd.int .i64) w A0 l0.length l0) (hc0 : l0.length ≤ c0) (h : slices_Index_int_int.f k l0 a1 = some r) :
    Calls Try.prog 298 #[.slice A0 l0.length c0, .int .i64 a1] w fun e w' => e = .returned (.int .i64 r) ∧ Drawn0 w w' := by
  have HR0 := Aside0.mk hr0
  have HC0 := Aside0.mk hc0
  clear hr0 hc0
  have H : (slices_Index_int_int.l0 k l0 a1 (l0.length : Int) 0) = some r := h
  clear h
  have H' := Aside0.mk H
  clear H
  go_enter Try.func298, Try.ntmps298
  go_wp2
  go_loopg [8] k (fun kq v8 w' => ∃ (x8_1 : Int), v8 = .int .i64 x8_1 ∧ Aside0 (slices_Index_int_int.l0 kq l0 a1 (l0.length : Int) x8_1 = some r) ∧ Aside0 (kq ≤ k) ∧ Drawn0 w w')
  case atStart => exact ⟨(0), (by first | rfl | (simp; done) | (simp [*]; done)), H', ⟨Nat.le_refl _⟩, by repeat (first | exact Drawn0.refl _ | apply Drawn0.step)⟩
  case round =>
    clear H'
    try clear c2
    try clear p2
    obtain ⟨x8_1, rfl, HA, HK1, ⟨m1, rfl⟩⟩ := hrel
    cases gk with
    | zero => exact absurd HA.out (by simp [slices_Index_int_int.l0])
    | succ k1 =>
      have H := HA.out
      clear HA
      simp only [slices_Index_int_int.l0] at H
      by_cases c3 : x8_1 < (l0.length : Int)
      · rw [if_pos c3] at H
        have c3b0 : decide (x8_1 < (l0.length : Int)) = true := decide_eq_true c3
        clear c3
        by_cases c4 : 0 ≤ x8_1
        · rw [if_pos c4] at H
          have c4b0 : decide (0 ≤ x8_1) = true := decide_eq_true c4
          clear c4
          by_cases c5 : x8_1 < (l0.length : Int)
          · rw [if_pos c5] at H
            have c5b0 : decide (x8_1 < (l0.length : Int)) = true := decide_eq_true c5
            clear c5
            by_cases c6 : a1 = (rd l0 x8_1)
            · rw [if_pos c6] at H
              have c6b0 : (a1 == (rd l0 x8_1)) = true := beq_iff_eq.mpr c6
              have c6b1 : (a1 != (rd l0 x8_1)) = false := bne_eq_false_iff_eq.mpr c6
              clear c6
              obtain rfl := Option.some.inj H
              have p993 : 0 ≤ (x8_1 : Int) := of_decide_eq_true (by first | (with_reducible assumption) | assumption)
              have q993 : x8_1 < (l0.length : Int) := of_decide_eq_true (by first | (with_reducible assumption) | assumption)
              obtain ⟨ad993, e993, hx993_0⟩ := Kd.at_int HR0.out x8_1 p993 q993
              cases e993
              replace p993 := eq_true p993
              replace q993 := eq_true q993
              go_wp2
              go_ret
              exact ⟨by first | rfl | (simp; done) | (simp [*]; done), by repeat (first | exact Drawn0.refl _ | apply Drawn0.step)⟩
            · rw [if_neg c6] at H
              have c6b0 : (a1 == (rd l0 x8_1)) = false := beq_eq_false_iff_ne.mpr c6
              have c6b1 : (a1 != (rd l0 x8_1)) = true := bne_iff_ne.mpr c6
              have H' := Aside0.mk H
              clear H
              have p993 : 0 ≤ (x8_1 : Int) := of_decide_eq_true (by first | (with_reducible assumption) | assumption)
              have q993 : x8_1 < (l0.length : Int) := of_decide_eq_true (by first | (with_reducible assumption) | assumption)
              obtain ⟨ad993, e993, hx993_0⟩ := Kd.at_int HR0.out x8_1 p993 q993
              cases e993
              replace p993 := eq_true p993
              replace q993 := eq_true q993
              go_wp2
              go_roundg k1
              case measure => have := HK1.out; omega
              case rel => exact ⟨(wrap64 (x8_1 + 1)), (by first | rfl | (simp; done) | (simp [*]; done)), H', ⟨by have := HK1.out; omega⟩, by repeat (first | exact Drawn0.refl _ | apply Drawn0.step)⟩
          · rw [if_neg c5] at H
            exact absurd H (by simp)
        · rw [if_neg c4] at H
          exact absurd H (by simp)
      · rw [if_neg c3] at H
        have c3b0 : decide (x8_1 < (l0.length : Int)) = false := decide_eq_false c3
        clear c3
        obtain rfl := Option.some.inj H
        go_wp2
        go_ret
        exact ⟨by first | rfl | (simp; done) | (simp [*]; done), by repeat (first | exact Drawn0.refl _ | apply Drawn0.step)⟩
end Go.Proofs.Ytlkjglanglpdoaa.T
namespace Go.Proofs.Ytlkjglanglpdoaa.T
open Go.RowKit Go.Proofs.YtlkjglanglpdoaaW.PrintWords Go.Proofs.YtlkjglanglpdoaaW.PrintLast Go.Proofs.YtlkjglanglpdoaaW.PrintMore
attribute [local go_sem] max2_int min2_int max_two min_two max_three min_three max_four min_four
set_option linter.unusedVariables false
set_option linter.unusedSimpArgs false
def slices_Contains_int_int.f (k : Nat) (l0 : List Int) (a1 : Int) : Option (Bool) := (slices_Index_int_int.f k l0 a1).bind fun t994 => (some (decide (t994 ≥ 0)))
theorem slices_Contains_int_int.mono : ∀ a0 a1 k, LeO (slices_Contains_int_int.f k a0 a1) (slices_Contains_int_int.f (k + 1) a0 a1) := by
  intro a0 a1 k
  unfold slices_Contains_int_int.f
  repeat' first
      | (with_reducible exact slices_Index_int_int.mono _ _ _)
      | (with_reducible exact LeO.refl _)
      | (with_reducible exact LeO.none _)
      | (with_reducible refine LeO.ite ?_ ?_)
      | (with_reducible refine LeO.bind ?_ (fun _ => ?_))
      | exact slices_Index_int_int.mono _ _ _
      | exact LeO.none _
      | refine LeO.ite ?_ ?_
      | refine LeO.bind ?_ (fun _ => ?_)
set_option maxHeartbeats 8000000 in
set_option maxRecDepth 100000 in
theorem slices_Contains_int_int.calls (k : Nat) (A0 : Option Addr) (c0 : Nat) (l0 : List Int) (a1 : Int) (r : Bool) (w : World) (hr0 : Kd.C (Kd.int .i64) w A0 l0.length l0) (hc0 : l0.length ≤ c0) (h : slices_Contains_int_int.f k l0 a1 = some r) :
    Calls Try.prog 266 #[.slice A0 l0.length c0, .int .i64 a1] w fun e w' => e = .returned (.bool r) ∧ Drawn0 w w' := by
  have HR0 := Aside0.mk hr0
  have HC0 := Aside0.mk hc0
  clear hr0 hc0
  have H : ((slices_Index_int_int.f k l0 a1).bind fun t994 => (some (decide (t994 ≥ 0)))) = some r := h
  clear h
  replace H := Option.bind_eq_some_iff.mp H
  obtain ⟨t994, A30, H⟩ := H
  replace H : (some (decide (t994 ≥ 0))) = some r := H
  have A3 := Aside0.mk A30
  clear A30
  obtain rfl := Option.some.inj H
  go_enter Try.func266, Try.ntmps266
  go_wp2_with (first | ((with_reducible refine gate_callee (f := 298) rfl ?_); refine goesL_ (some 7) rfl rfl Try.func298 (by kernel_rfl) rfl #[.slice A0 l0.length c0, .int .i64 a1] rfl (by (try simp only [List.map_toArray, List.map_cons, List.map_nil]); first | done | rfl | (simp only [List.length_drop, List.length_take]; rfl)) ?_; (with_reducible refine (slices_Index_int_int.calls k _ _ l0 a1 t994 _ ?side1 ?side2 A3.out).mono ?_); (case side1 => repeat (first | exact HR0.out | (with_reducible refine Kd.C_alloc ?_ _) | (with_reducible refine Kd.C_drewN ?_ _) | (with_reducible refine Kd.C_drew ?_))); (case side2 => exact HC0.out); rintro e w' ⟨rfl, ⟨nd, rfl⟩⟩; refine ⟨_, rfl, ?_⟩))
  go_ret
  exact ⟨by first | rfl | (simp; done) | (simp [*]; done), by repeat (first | exact Drawn0.refl _ | apply Drawn0.step)⟩
end Go.Proofs.Ytlkjglanglpdoaa.T
namespace Go.Proofs.Ytlkjglanglpdoaa.T
open Go.RowKit Go.Proofs.YtlkjglanglpdoaaW.PrintWords Go.Proofs.YtlkjglanglpdoaaW.PrintLast Go.Proofs.YtlkjglanglpdoaaW.PrintMore
set_option linter.unusedVariables false
set_option linter.unusedSimpArgs false
theorem goesV_ {P : Program} {ops : Array Oper} {Q : Exit → Act → World → Prop} {rest : List Oper} {oi : Oper} {a : Act} {w : World} (N : Option Tmp) (hd : oi.dst = N) (hg : oi.guard = none) {f : FuncId} {fn : Func} {as_ : Array Operand} {ts : Array TypeId} {c : Operand} (hf : P.funcs[f]? = some fn) (hname : (fn.name == "runtime.NumGoroutine") = false) (hb : fn.body.isSome = true) (cap args : Array Value)
    (hop : oi.op = .call { callee := .value c, args := as_, argTypes := ts }) (hc : a.eval c = .func (.func f) #[] cap) (hargs : as_.map a.eval = args)
    (h : Calls P f (args ++ cap) w fun e w' => ∃ v, e = .returned v ∧ wpList P ops Q rest (a.put N v) w') : wpList P ops Q (oi :: rest) a w := by
  refine wpList_plain hg fun K hK => ?_
  have he := enters_ hf hname hb (args ++ cap) w
  have hrun : (execOp a.eval oi).run P w = .ok (.enter f (args ++ cap)) w := by
    unfold execOp
    simp [hop, resolve, Deferred.ofValue, invoke, hc, hargs, he]
  unfold Oper.wp
  rw [hrun, Oper.upon_enter]
  refine h.mono fun e w'' hh => ?_
  obtain ⟨v, rfl, hk⟩ := hh
  subst hd
  exact hK _ _ hk
theorem ret_bool {a b : Bool} (h : a = b) : Ending.returned (.bool a) = .returned (.bool b) := by rw [h]
def Says (f : FuncId) (cap : Array Value) (p : Int → Bool) (xs : List Int) (w0 : World) : Prop :=
  (∃ fn, Try.prog.funcs[f]? = some fn ∧ (fn.name == "runtime.NumGoroutine") = false ∧ fn.body.isSome = true) ∧
  ∀ x ∈ xs, ∀ w', Below w0.heap.size w0 w' → Calls Try.prog f (#[.int .i64 x] ++ cap) w' fun e w'' => e = .returned (.bool (p x)) ∧ Below w'.heap.size w' w''
def anyUp (p : Int → Bool) (xs : List Int) (k : Nat) : Bool := (xs.take k).any p
theorem anyUp_step (p : Int → Bool) (xs : List Int) (k : Nat) (h : k < xs.length) : anyUp p xs (k + 1) = (anyUp p xs k || p (rd xs k)) := by
  unfold anyUp rd
  rw [List.take_succ_eq_append_getElem h, List.any_append]
  simp [List.getD_eq_getElem?_getD, List.getElem?_eq_getElem h]
set_option maxHeartbeats 1600000 in
set_option maxRecDepth 100000 in
theorem indexFunc (A0 : Option Addr) (c0 : Nat) (l0 : List Int) (f : FuncId) (cap : Array Value) (p : Int → Bool) (w : World) (hr0 : Kd.C (Kd.int .i64) w A0 l0.length l0) (hs : Says f cap p l0 w) :
    Calls Try.prog 297 #[.slice A0 l0.length c0, .func (.func f) #[] cap] w fun e w' => ∃ i : Int, e = .returned (.int .i64 i) ∧ decide (0 ≤ i) = l0.any p ∧ Below w.heap.size w w' := by
  obtain ⟨⟨fn, hf, hname, hbody⟩, hs⟩ := hs
  have hlen : l0.length ≤ 9223372036854775807 := hr0.2.1
  have HF := Aside0.mk hf
  have HS := Aside0.mk hs
  have HR := Aside0.mk hr0
  clear hf hs hr0
  go_enter Try.func297, Try.ntmps297
  go_wp2
  go_loopw [8] (fun v8 wr => ∃ k : Nat, v8 = .int .i64 (k : Int) ∧ Aside0 (k ≤ l0.length) ∧ Aside0 (anyUp p l0 k = false) ∧ Aside0 (Below w.heap.size w wr)) (fun v8 _ => l0.length - (intOf v8).toNat)
  case atStart => exact ⟨0, rfl, ⟨Nat.zero_le _⟩, ⟨rfl⟩, ⟨Below.refl _ _⟩⟩
  case round =>
    obtain ⟨k, rfl, HK, HA, HB⟩ := hrel
    by_cases hlt : k < l0.length
    · have c0b : decide ((k : Int) < (l0.length : Int)) = true := by simpa using hlt
      obtain ⟨ad, rfl, hcell⟩ := Kd.at_int (Kd.C_below HR.out HB.out) (k : Int) (by omega) (by omega)
      rw [Int.toNat_natCast] at hcell
      have hk0 : k ≤ 9223372036854775806 := by omega
      have hstep := Aside0.mk (anyUp_step p l0 k hlt)
      have hmem : rd l0 k ∈ l0 := by
        unfold rd
        rw [List.getD_eq_getElem?_getD, Int.toNat_natCast, List.getElem?_eq_getElem hlt]
        exact List.getElem_mem _
      have HM := Aside0.mk hmem
      clear hmem
      cases hp : p (rd l0 k)
      · have HP := Aside0.mk hp
        clear hp
        go_wp2_with ((with_reducible refine gate_dst (N := 16) rfl ?_); refine goesV_ (some 16) rfl rfl HF.out hname hbody cap #[.int .i64 (rd l0 k)] rfl rfl (by simp; rfl) ?_; refine (HS.out _ HM.out _ HB.out).mono ?_; rintro e w' ⟨rfl, hb⟩; refine ⟨_, rfl, ?_⟩; rw [HP.out]; have HB' := Aside0.mk (HB.out.trans (hb.mono HB.out.size)); clear hb)
        go_roundw
        case rel => exact ⟨k + 1, by go_num, ⟨by omega⟩, ⟨by rw [hstep.out, HA.out, HP.out]; rfl⟩, HB'⟩
        case measure => simp [intOf]; omega
      · have HP := Aside0.mk hp
        clear hp
        go_wp2_with ((with_reducible refine gate_dst (N := 16) rfl ?_); refine goesV_ (some 16) rfl rfl HF.out hname hbody cap #[.int .i64 (rd l0 k)] rfl rfl (by simp; rfl) ?_; refine (HS.out _ HM.out _ HB.out).mono ?_; rintro e w' ⟨rfl, hb⟩; refine ⟨_, rfl, ?_⟩; rw [HP.out]; have HB' := Aside0.mk (HB.out.trans (hb.mono HB.out.size)); clear hb)
        go_ret
        exact ⟨_, rfl, by rw [List.any_eq_true.2 ⟨_, HM.out, HP.out⟩]; simp, HB'.out⟩
    · have c0b : decide ((k : Int) < (l0.length : Int)) = false := by simpa using hlt
      go_wp2
      go_ret
      have hk := HK.out
      have : k = l0.length := by omega
      subst this
      have ha := HA.out
      unfold anyUp at ha
      rw [List.take_length] at ha
      exact ⟨_, rfl, by rw [ha]; rfl, HB.out⟩
theorem Says.later {f : FuncId} {cap : Array Value} {p : Int → Bool} {xs : List Int} {w0 w1 : World} (h : Says f cap p xs w0) (hb : Below w0.heap.size w0 w1) : Says f cap p xs w1 :=
  ⟨h.1, fun x hx w' hw => h.2 x hx w' (hb.trans (hw.mono hb.size))⟩
set_option maxHeartbeats 800000 in
set_option maxRecDepth 100000 in
theorem containsFunc (A0 : Option Addr) (c0 : Nat) (l0 : List Int) (f : FuncId) (cap : Array Value) (p : Int → Bool) (w : World) (hr0 : Kd.C (Kd.int .i64) w A0 l0.length l0) (hs : Says f cap p l0 w) :
    Calls Try.prog 264 #[.slice A0 l0.length c0, .func (.func f) #[] cap] w fun e w' => e = .returned (.bool (l0.any p)) ∧ Below w.heap.size w w' := by
  have HS := Aside0.mk hs
  have HR := Aside0.mk hr0
  clear hs hr0
  go_enter Try.func264, Try.ntmps264
  go_wp2_with (go_at_call 297; refine (indexFunc _ _ _ _ _ _ _ HR.out HS.out).mono ?_; rintro e w' ⟨i, rfl, hi, hb⟩; have HI := Aside0.mk hi; have HB := Aside0.mk hb; clear hi hb)
  go_ret
  exact ⟨ret_bool HI.out, HB.out⟩
end Go.Proofs.Ytlkjglanglpdoaa.T
namespace Go.Proofs.Ytlkjglanglpdoaa.T
open Go.RowKit Go.Proofs.YtlkjglanglpdoaaW.PrintWords Go.Proofs.YtlkjglanglpdoaaW.PrintLast Go.Proofs.YtlkjglanglpdoaaW.PrintMore
set_option linter.unusedVariables false
set_option linter.unusedSimpArgs false
def grp (most : Int) : List Int → List Int → List (List Int)
  | [], _ => []
  | x :: rest, list => if (list.length : Int) < most then (list ++ [x]) :: (grp most rest (list ++ [x]) ++ grp most rest list) else []
theorem grp_full (most : Int) (people list : List Int) (h : ¬ (list.length : Int) < most) : grp most people list = [] := by
  cases people with
  | nil => rfl
  | cons x rest => simp only [grp]; rw [if_neg h]
structure Each (f : FuncId) (cap : Array Value) (full : List (List Int)) (I : List (List Int) → (Nat → Prop) → World → Prop) : Prop where
  fn : ∃ fn, Try.prog.funcs[f]? = some fn ∧ (fn.name == "runtime.NumGoroutine") = false ∧ fn.body.isSome = true
  bound : ∀ done m w, I done m w → ∀ k, m k → k < w.heap.size
  later : ∀ done m w w', I done m w → Below w.heap.size w w' → I done m w'
  call : ∀ done l rest m w0 w v, done ++ l :: rest = full → I done m w0 → Below w0.heap.size w0 w → Kd.R (Kd.int .i64) 3 w w0.heap.size (fun _ => True) v l →
    Calls Try.prog f (#[v] ++ cap) w fun e w' => e = .returned (.tuple #[]) ∧ ∃ m', I (done ++ [l]) m' w' ∧ (∀ k, m' k → m k ∨ w.heap.size ≤ k) ∧ Kept w w' m
structure Caught (f : FuncId) (cap : Array Value) (pa pm pe po : Nat) (Ap : Option Addr) (cp : Nat) (people : List Int) (most : Int) (w : World) : Prop where
  a : w.cell? ⟨pa, 0, none⟩ = some (.slice Ap people.length cp)
  b : w.cell? ⟨pm, 0, none⟩ = some (.int .i64 most)
  c : w.cell? ⟨pe, 0, none⟩ = some (.func (.func f) #[] cap)
  d : w.cell? ⟨po, 0, none⟩ = some (.func (.func 281) #[] #[.pointer (some ⟨pa, 0, none⟩), .pointer (some ⟨pm, 0, none⟩), .pointer (some ⟨pe, 0, none⟩), .pointer (some ⟨po, 0, none⟩)])
  e : Kd.C (Kd.int .i64) w Ap people.length people
theorem drop_rd (people : List Int) (i : Nat) (h : i < people.length) : people.drop i = rd people i :: people.drop (i + 1) := by
  unfold rd
  rw [Int.toNat_natCast, List.getD_eq_getElem?_getD, List.getElem?_eq_getElem h]
  exact (List.getElem_cons_drop h).symm
theorem two_new1 {W0 W1 W2 : World} {v1 v2 : Value} {B : Nat} {xs ys : List Int} (h1 : Kd.R (Kd.int .i64) 3 W1 W0.heap.size (fun _ => True) v1 xs) (h2 : Kd.R (Kd.int .i64) 3 W2 W1.heap.size (fun _ => True) v2 ys) (hb : Below W1.heap.size W1 W2) (hB : B ≤ W0.heap.size) :
    Kd.R (Kd.int .i64) 3 W2 B (fun k => some k ≠ v2.ownBlock) v1 xs :=
  Kd.R_mono (Kd.R_lower (Kd.R_below (Kd.R_bound h1) hb) hB) (fun k hk he => by have := Kd.R_base h2 k he.symm; have := hk.2.2.1; omega)
theorem two_new2 {W0 W1 W2 : World} {v1 v2 : Value} {B : Nat} {xs ys : List Int} (h1 : Kd.R (Kd.int .i64) 3 W1 W0.heap.size (fun _ => True) v1 xs) (h2 : Kd.R (Kd.int .i64) 3 W2 W1.heap.size (fun _ => True) v2 ys) (hB : B ≤ W1.heap.size) :
    Kd.R (Kd.int .i64) 3 W2 B (fun k => some k ≠ v1.ownBlock) v2 ys :=
  Kd.R_mono (Kd.R_lower (Kd.R_bound h2) hB) (fun k hk he => by have := Kd.R_lt h1 k he.symm; have := hk.2.1; omega)
theorem groups_mid {f : FuncId} {cap : Array Value} {pa pm pe po : Nat} {Ap : Option Addr} {cp : Nat} {people : List Int} {most : Int} {w wr w28 w2 : World} {m mI m2 : Nat → Prop} {A : Option Addr} {c : Nat} {l : List Int}
    (hC : ∀ w', Kept w w' m → Caught f cap pa pm pe po Ap cp people most w') (hK1 : Kept w w28 m) (hMI : ∀ k, mI k → m k ∨ w.heap.size ≤ k) (hs0 : w.heap.size ≤ wr.heap.size) (hs1 : wr.heap.size ≤ w28.heap.size) (hK2 : Kept w28 w2 mI) (hM2 : ∀ k, m2 k → mI k ∨ w28.heap.size ≤ k)
    (hbd : ∀ k, mI k → k < wr.heap.size) {n : Nat} (hR : Kd.R (Kd.int .i64) 3 w28 wr.heap.size (fun _ => True) (.slice A n c) l) :
    (∀ w', Kept w2 w' m2 → Caught f cap pa pm pe po Ap cp people most w') ∧ (∀ w', Kept w2 w' m2 → Kd.C (Kd.int .i64) w' A n l) := by
  have hK3 : Kept w w2 m := hK1.then_ hK2 hMI
  refine ⟨fun w' hw => hC w' (hK3.then_ hw (fun k hk => ?_)), ?_⟩
  · rcases hM2 k hk with h | h
    · exact hMI k h
    · exact .inr (Nat.le_trans (Nat.le_trans hs0 hs1) h)
  · have h1 := Kd.R_mono (ok' := fun k => wr.heap.size ≤ k ∧ k < w28.heap.size) (Kd.R_bound hR) (fun k hk => ⟨hk.2.1, hk.2.2.1⟩)
    have h2 := Kd.R_kept h1 hK2 (fun k hk hm => by have := hbd k hm; omega)
    exact Kd.C_kept_own h2 (fun k hk hm => by
      rcases hM2 k hm with h | h
      · have := hbd k h; omega
      · omega)
set_option maxHeartbeats 6400000 in
set_option maxRecDepth 100000 in
theorem groups_on (f : FuncId) (cap : Array Value) (full : List (List Int)) (I : List (List Int) → (Nat → Prop) → World → Prop) (hEach : Each f cap full I) (pa pm pe po : Nat) (Ap : Option Addr) (cp : Nat) (people : List Int) (most : Int) (hmost : most ≤ 1048576) :
    ∀ (d b0 : Nat), b0 + d = people.length → ∀ (list : List Int) (done rest : List (List Int)) (m : Nat → Prop) (w : World) (A : Option Addr) (c : Nat),
      done ++ grp most (people.drop b0) list ++ rest = full → I done m w → (∀ w', Kept w w' m → Caught f cap pa pm pe po Ap cp people most w') → (∀ w', Kept w w' m → Kd.C (Kd.int .i64) w' A list.length list) → list.length ≤ c →
      Calls Try.prog 281 #[.int .i64 (b0 : Int), .slice A list.length c, .pointer (some ⟨pa, 0, none⟩), .pointer (some ⟨pm, 0, none⟩), .pointer (some ⟨pe, 0, none⟩), .pointer (some ⟨po, 0, none⟩)] w fun e w' =>
        e = .returned (.tuple #[]) ∧ ∃ m', I (done ++ grp most (people.drop b0) list) m' w' ∧ (∀ k, m' k → m k ∨ w.heap.size ≤ k) ∧ Kept w w' m := by
  intro d
  induction d using Nat.strongRecOn with
  | _ d ih =>
  intro b0 hd list done rest m w A c hfull hI hC hL hcap
  obtain ⟨fn, hf, hname, hbody⟩ := hEach.fn
  have hlen : people.length ≤ 9223372036854775807 := (hC w (Kept.refl _ _)).e.2.1
  have HI := Aside0.mk hI
  have HC := Aside0.mk hC
  have HL := Aside0.mk hL
  have HF := Aside0.mk hf
  have HFULL := Aside0.mk hfull
  have HCAP := Aside0.mk hcap
  have IH := Aside0.mk ih
  have HEA := Aside0.mk hEach
  have HD := Aside0.mk hd
  clear hI hC hL hf hfull hcap ih hEach hd
  go_enter Try.func281, Try.ntmps281
  go_wp2
  go_loopw [8, 9] (fun v8 v9 wr => ∃ (i : Nat) (doneI : List (List Int)) (mI : Nat → Prop), v8 = .int .i64 (i : Int) ∧ Aside0 (b0 ≤ i ∧ i ≤ people.length) ∧ Aside0 (doneI ++ grp most (people.drop i) list = done ++ grp most (people.drop b0) list) ∧ Aside0 (I doneI mI wr) ∧ Aside0 (∀ k, mI k → m k ∨ w.heap.size ≤ k) ∧ Aside0 (Kept w wr m)) (fun v8 _ _ => people.length - (intOf v8).toNat)
  case atStart => exact ⟨b0, done, m, rfl, ⟨Nat.le_refl _, by have := HD.out; omega⟩, ⟨rfl⟩, HI, ⟨fun k hk => .inl hk⟩, ⟨Kept.refl _ _⟩⟩
  case round =>
    obtain ⟨i, doneI, mI, rfl, HB, HG, HII, HMI, HKI⟩ := hrel
    have hnow := HC.out _ HKI.out
    have h1 := hnow.a
    have h2 := hnow.b
    have h3 := hnow.c
    have h4 := hnow.d
    have HN := Aside0.mk hnow
    clear hnow
    by_cases hlt : i < people.length
    · by_cases hls : (list.length : Int) < most
      · have c0b : decide ((i : Int) < (people.length : Int)) = true := by simpa using hlt
        have c1b : decide ((list.length : Int) < most) = true := by simpa using hls
        have hk0 : i ≤ 9223372036854775806 := by omega
        go_wp2
        have q0 : (0 : Int) ≤ (i : Int) := by omega
        have q1 : (i : Int) < (people.length : Int) := by omega
        obtain ⟨ad, hade, hcell⟩ := Kd.at_int HN.out.e (i : Int) q0 q1
        obtain rfl := hade
        rw [Int.toNat_natCast] at hcell
        have HCL := Aside0.mk hcell
        clear hcell q0 q1
        refine start_ (n := 9) (S := fun w' => Below wr.heap.size wr w') (ds := []) #[false, false, false, false, false, false, false, false, false] (by kernel_rfl) rfl rfl (Below.refl _ _).drew (fun hHeld => ?_)
        have HCLN : Aside0 (slices_Clone_int_int.f list = some list) := ⟨by unfold slices_Clone_int_int.f; rw [if_pos (by omega)]⟩
        have HLM : Aside0 (list.length < 1048576) := ⟨by omega⟩
        refine pure_ (i := 0) (N := some 23) (v := ?_) (a' := ?_) #[true, false, false, false, false, false, false, false, false] rfl rfl (by kernel_rfl) (fun _ _ _ h => h) (Or.inl ⟨by rfl, ?_⟩) ?_ ?_
        rotate_left
        · intro w'
          go_simp
          with_reducible rfl
        rotate_left
        · simp only [Act.put, List.setIfInBounds_toArray, List.set_cons_zero, List.set_cons_succ, i64_w, i32_w]
          rfl
        refine take_ (i := 2) (N := some 25) (v := ?_) (a' := ?_) #[true, false, true, false, false, false, false, false, false] rfl rfl (by kernel_rfl) (fun _ _ _ h => h) (Or.inl ⟨by rfl, ?_⟩) hHeld ?_ ?_
        rotate_left
        · intro w' s0
          have s1 := (s0.cell (World.block_lt_of_cell? wr _ h1)).trans h1
          clear s0
          go_simp
          with_reducible rfl
        rotate_left
        · simp only [Act.put, List.setIfInBounds_toArray, List.set_cons_zero, List.set_cons_succ, i64_w, i32_w]
          rfl
        refine pure_ (i := 3) (N := some 26) (v := ?_) (a' := ?_) #[true, false, true, true, false, false, false, false, false] rfl rfl (by kernel_rfl) (fun _ _ _ h => h) (Or.inl ⟨by rfl, ?_⟩) ?_ ?_
        rotate_left
        · intro w'
          go_simp
          with_reducible rfl
        rotate_left
        · simp only [Act.put, List.setIfInBounds_toArray, List.set_cons_zero, List.set_cons_succ, i64_w, i32_w]
          rfl
        refine pure_ (i := 4) (N := some 27) (v := ?_) (a' := ?_) #[true, false, true, true, true, false, false, false, false] rfl rfl (by kernel_rfl) (fun _ _ _ h => h) (Or.inl ⟨by rfl, ?_⟩) ?_ ?_
        rotate_left
        · intro w'
          go_simp
          with_reducible rfl
        rotate_left
        · simp only [Act.put, List.setIfInBounds_toArray, List.set_cons_zero, List.set_cons_succ, i64_w, i32_w]
          rfl
        refine take_ (i := 5) (N := some 28) (v := ?_) (a' := ?_) #[true, false, true, true, true, true, false, false, false] rfl rfl (by kernel_rfl) (fun _ _ _ h => h) (Or.inl ⟨by rfl, ?_⟩) hHeld ?_ ?_
        rotate_left
        · intro w' s0
          have s1 := (s0.cell (World.block_lt_of_cell? wr _ HCL.out)).trans HCL.out
          clear s0
          go_simp
          with_reducible rfl
        rotate_left
        · simp only [Act.put, List.setIfInBounds_toArray, List.set_cons_zero, List.set_cons_succ, i64_w, i32_w]
          rfl
        have HB := Aside0.mk hHeld
        refine join_ (σ := Value × Value) 2 #[true, true, true, true, true, true, true, false, false] (fun s_ => [(24, s_.1), (29, s_.2)]) (fun s_ w' => (Kd.R (Kd.int .i64) 3 w' wr.heap.size (fun k_ => some k_ ≠ (s_.2 : Value).ownBlock) s_.1 list) ∧ (Kd.R (Kd.int .i64) 3 w' wr.heap.size (fun k_ => some k_ ≠ (s_.1 : Value).ownBlock) s_.2 [rd people i]) ∧ (Below wr.heap.size wr w')) ?_ ?_
        rotate_left
        · intro hCont
          refine two_ (i := 1) (j := 6) (Ni := some 24) (Nj := some 29) #[true, true, true, true, true, true, false, false, false] #[true, false, true, true, true, true, true, false, false] rfl rfl rfl rfl (by kernel_rfl) (by decide) (by decide) (fun K hK => ?_) (fun K hK => ?_)
          · refine goes_ Try.func276 (by kernel_rfl) rfl #[.slice A list.length c] (by rfl) rfl rfl (by (try simp only [List.map_toArray, List.map_cons, List.map_nil]); first | done | rfl) ?_
            with_reducible refine (slices_Clone_int_int.calls _ _ list list _ (HL.out _ (HKI.out.below HB.out)) HCAP.out HCLN.out).mono ?_
            rintro e w24 ⟨v1, rfl, ho0, hb⟩
            refine ⟨_, rfl, ?_⟩
            have HB1 := Aside0.mk (below_step HB.out hb)
            refine hK.out _ _ HB1.out (fun hHeld1 => ?_)
            clear hK K
            refine norm_ (a' := ?_) ?_ ?_
            rotate_left
            · show Act.put _ (some 24) _ = _
              simp only [Act.put, List.setIfInBounds_toArray, List.set_cons_zero, List.set_cons_succ, i64_w, i32_w]
              rfl
            refine one_ (i := 6) (N := some 29) #[true, true, true, true, true, true, true, false, false] rfl rfl (by kernel_rfl) (by decide) (fun K hK => ?_)
            refine Kd.R_lit_step (Kd.int .i64) _ 3 ?hg (N := 29) ?hd (xs := ([rd people i] : List Int)) (inner := [.int .i64 (rd people i)]) (ok := fun _ => True) (okp := fun _ => True) ?hr ?hp (fun _ hk => hk) trivial (Below.refl _ _) (Nat.le_refl _) (by simp) ?_; (case hd => rfl); (case hg => rfl); (case hr => first | (go_simp; done) | (go_simp; rfl)); (case hp => exact (Reps.one (show Kd.M (Kd.int .i64) _ _ _ (rd people i) [.int .i64 (rd people i)] from rfl) (Reps.none _ _)))
            intro v2 w25 ho26 hb2 hg_ hnew_
            refine hK.out _ _ (below_step HB1.out hb2) (fun hHeld => ?_)
            clear hK K
            refine norm_ (a' := ?_) ?_ ?_
            rotate_left
            · show Act.put _ (some 29) _ = _
              simp only [Act.put, List.setIfInBounds_toArray, List.set_cons_zero, List.set_cons_succ, i64_w, i32_w]
              rfl
            exact norm_ (by simp only [putAll, Act.put, List.setIfInBounds_toArray, List.set_cons_zero, List.set_cons_succ]) (hCont (v1, v2) _ ⟨two_new1 ho0 ho26 hb2 HB.out.size, two_new2 ho0 ho26 (Nat.le_trans HB.out.size hb.size), below_step HB1.out hb2⟩)
          · refine Kd.R_lit_step (Kd.int .i64) _ 3 ?hg (N := 29) ?hd (xs := ([rd people i] : List Int)) (inner := [.int .i64 (rd people i)]) (ok := fun _ => True) (okp := fun _ => True) ?hr ?hp (fun _ hk => hk) trivial (Below.refl _ _) (Nat.le_refl _) (by simp) ?_; (case hd => rfl); (case hg => rfl); (case hr => first | (go_simp; done) | (go_simp; rfl)); (case hp => exact (Reps.one (show Kd.M (Kd.int .i64) _ _ _ (rd people i) [.int .i64 (rd people i)] from rfl) (Reps.none _ _)))
            intro v2 w25 ho26 hb2 hg_ hnew_
            have HB1 := Aside0.mk (below_step HB.out hb2)
            refine hK.out _ _ HB1.out (fun hHeld1 => ?_)
            clear hK K
            refine norm_ (a' := ?_) ?_ ?_
            rotate_left
            · show Act.put _ (some 29) _ = _
              simp only [Act.put, List.setIfInBounds_toArray, List.set_cons_zero, List.set_cons_succ, i64_w, i32_w]
              rfl
            refine one_ (i := 1) (N := some 24) #[true, true, true, true, true, true, true, false, false] rfl rfl (by kernel_rfl) (by decide) (fun K hK => ?_)
            refine goes_ Try.func276 (by kernel_rfl) rfl #[.slice A list.length c] (by rfl) rfl rfl (by (try simp only [List.map_toArray, List.map_cons, List.map_nil]); first | done | rfl) ?_
            with_reducible refine (slices_Clone_int_int.calls _ _ list list _ (HL.out _ (HKI.out.below HB1.out)) HCAP.out HCLN.out).mono ?_
            rintro e w24 ⟨v1, rfl, ho0, hb⟩
            refine ⟨_, rfl, ?_⟩
            refine hK.out _ _ (below_step HB1.out hb) (fun hHeld => ?_)
            clear hK K
            refine norm_ (a' := ?_) ?_ ?_
            rotate_left
            · show Act.put _ (some 24) _ = _
              simp only [Act.put, List.setIfInBounds_toArray, List.set_cons_zero, List.set_cons_succ, i64_w, i32_w]
              rfl
            exact norm_ (by simp only [putAll, Act.put, List.setIfInBounds_toArray, List.set_cons_zero, List.set_cons_succ]) (hCont (v1, v2) _ ⟨two_new2 ho26 ho0 (Nat.le_trans HB.out.size hb2.size), two_new1 ho26 ho0 hb HB.out.size, below_step HB1.out hb⟩)
        rintro ⟨v1, v2⟩ w27 ⟨hr1, hr2, hb3⟩
        obtain ⟨Ao29, co29, eo29⟩ := Kd.R_slice hr2
        subst eo29
        have HR1 := Aside0.mk hr1
        have HR2 := Aside0.mk hr2
        have HB3 := Aside0.mk hb3
        clear hr1 hr2 hb3
        refine norm_ (a' := ?_) ?_ ?_
        rotate_left
        · simp only [putAll, Act.put, List.setIfInBounds_toArray, List.set_cons_zero, List.set_cons_succ]
          rfl
        refine one_ (i := 7) (N := some 30) #[true, true, true, true, true, true, true, true, false] rfl rfl (by kernel_rfl) (by decide) (fun K hK => ?_)
        refine Kd.R_append_rows_step (Kd.int .i64) (w0 := wr) wr.heap.size (by rfl) (.tmp 24) (.tmp 29) 32 3 (.int .i64 0) 8 rfl Try.underlying32 info3 rfl (by decide) (by omega) v1 list [rd people i] _ _ _ (fun k_ => some k_ ≠ (.slice Ao29 [rd people i].length co29 : Value).ownBlock) (fun _ => False) rfl rfl ?aO ?aR (fun _ _ h => h) (fun _ h => h.elim) ?aF ?aB ?aS ?aL ?_
        (case aR => exact (Kd.R_reads' HR2.out).2.2)
        (case aB => exact HB3.out)
        (case aF => exact fun k_ hk => Kd.fresh' (Kd.R_lt HR2.out) k_ hk)
        (case aO => exact HR1.out)
        (case aS => exact HB3.out.size)
        (case aL => have := HLM.out; simp; omega)
        intro v976 w28 ho hb hg hat
        have HR := Aside0.mk (Kd.R_mono (ok' := fun _ => True) ho (fun _ _ => trivial))
        have HB4 := Aside0.mk hb
        clear ho hb hg hat HR1 HR2 HB3 HB
        obtain ⟨Ao30, co30, eo30⟩ := Kd.R_slice HR.out
        subst eo30
        refine hK.out _ _ HB4.out (fun hHeld => ?_)
        clear hK K
        refine norm_ (a' := ?_) ?_ ?_
        rotate_left
        · show Act.put _ (some 30) _ = _
          simp only [Act.put, List.setIfInBounds_toArray, List.set_cons_zero, List.set_cons_succ, i64_w, i32_w]
          rfl
        refine pure_ (i := 8) (N := some 9) (v := ?_) (a' := ?_) #[true, true, true, true, true, true, true, true, true] rfl rfl (by kernel_rfl) (fun _ _ _ h => h) (Or.inl ⟨by rfl, ?_⟩) ?_ ?_
        rotate_left
        · intro w'
          go_simp
          with_reducible rfl
        rotate_left
        · simp only [Act.put, List.setIfInBounds_toArray, List.set_cons_zero, List.set_cons_succ, i64_w, i32_w]
          rfl
        refine done_ (by kernel_rfl) ?_
        have e1 : (list ++ [rd people i]).length = list.length + 1 := by simp
        have hRr := HR.out
        rw [e1] at hRr
        have HR' := Aside0.mk hRr
        have hgrp : grp most (people.drop i) list = (list ++ [rd people i]) :: (grp most (people.drop (i + 1)) (list ++ [rd people i]) ++ grp most (people.drop (i + 1)) list) := by
          rw [drop_rd people i hlt]; simp only [grp]; rw [if_pos hls]
        have HGRP := Aside0.mk hgrp
        have hful : doneI ++ (list ++ [rd people i]) :: (grp most (people.drop (i + 1)) (list ++ [rd people i]) ++ grp most (people.drop (i + 1)) list ++ rest) = full := by
          rw [← HFULL.out, ← HG.out, hgrp]; simp
        have HFUL := Aside0.mk hful
        have HLT := Aside0.mk hlt
        clear e1 hRr hgrp hful HR HN HCL hHeld hls hlt c1b
        have hK1 := Kept.below HKI.out HB4.out
        have HK1 := Aside0.mk hK1
        have h3' := (HC.out _ hK1).c
        clear hK1
        go_wp2_with (((with_reducible refine gate_dst (N := 33) rfl ?_); refine goesV_ (some 33) rfl rfl HF.out hname hbody cap #[.slice Ao30 (list.length + 1) co30] rfl rfl (by simp; rfl) ?_; refine (HEA.out.call _ _ _ _ _ _ _ HFUL.out HII.out HB4.out HR'.out).mono ?_; rintro e w30 ⟨rfl, m2, hI2, hm2, hk2⟩; refine ⟨_, rfl, ?_⟩; have HI2 := Aside0.mk hI2; have HM2 := Aside0.mk hm2; have HK2 := Aside0.mk hk2; clear hI2 hm2 hk2; obtain ⟨g1, g2⟩ := groups_mid HC.out HK1.out HMI.out HKI.out.1 HB4.out.size HK2.out HM2.out (HEA.out.bound _ _ _ HII.out) HR'.out; have h4' := (g1 _ (Kept.refl _ _)).d; have G1 := Aside0.mk g1; have G2 := Aside0.mk g2; clear g1 g2))
        refine calls_of_args (args' := #[.int .i64 ((i + 1 : Nat) : Int), .slice Ao30 (list ++ [rd people i]).length co30, .pointer (some ⟨pa, 0, none⟩), .pointer (some ⟨pm, 0, none⟩), .pointer (some ⟨pe, 0, none⟩), .pointer (some ⟨po, 0, none⟩)]) ?ha ?_
        case ha => simp
        refine (IH.out (people.length - (i + 1)) (by have := HLT.out; have := HD.out; have := HB.out; omega) (i + 1) (by have := HLT.out; omega) (list ++ [rd people i]) (doneI ++ [list ++ [rd people i]]) (grp most (people.drop (i + 1)) list ++ rest) m2 w30 Ao30 co30 ?hy1 HI2.out G1.out ?hy2 ?hy3).mono ?_
        case hy1 => have := HFUL.out; simpa using this
        case hy2 => have := G2.out; simpa using this
        case hy3 => have := (Kd.R_reads' HR'.out).2.1; simpa using this
        rintro e w31 ⟨rfl, m3, hI3, hm3, hk3⟩
        have HI3 := Aside0.mk hI3
        have HM3 := Aside0.mk hm3
        have HK3 := Aside0.mk hk3
        clear hI3 hm3 hk3
        go_wp2
        go_roundw
        case rel =>
          refine ⟨i + 1, doneI ++ [list ++ [rd people i]] ++ grp most (people.drop (i + 1)) (list ++ [rd people i]), m3, by go_num, ⟨by have := HB.out; omega, by have := HLT.out; omega⟩, ⟨?_⟩, HI3, ⟨fun k hk => ?_⟩, ⟨?_⟩⟩
          · rw [← HG.out, HGRP.out]; simp
          · have hsz : w.heap.size ≤ w28.heap.size := HK1.out.1
            have hsz2 : w28.heap.size ≤ w30.heap.size := HK2.out.1
            rcases HM3.out k hk with h | h
            · rcases HM2.out k h with h | h
              · exact HMI.out k h
              · exact .inr (by omega)
            · exact .inr (by omega)
          · have hsz : w.heap.size ≤ w28.heap.size := HK1.out.1
            exact (HK1.out.then_ HK2.out HMI.out).then_ HK3.out (fun k hk => by
              rcases HM2.out k hk with h | h
              · exact HMI.out k h
              · exact .inr (by omega))
        case measure => have := HLT.out; simp [intOf]; omega
      · have c0b : decide ((i : Int) < (people.length : Int)) = true := by simpa using hlt
        have c1b : decide ((list.length : Int) < most) = false := by simpa using hls
        go_wp2
        go_end0
        rw [grp_full most (people.drop i) list (by omega), List.append_nil] at HG
        exact ⟨rfl, mI, HG.out ▸ HII.out, HMI.out, HKI.out⟩
    · have c0b : decide ((i : Int) < (people.length : Int)) = false := by simpa using hlt
      go_wp2
      go_end0
      have hi : people.drop i = [] := List.drop_eq_nil_of_le (by omega)
      rw [hi] at HG
      simp only [grp, List.append_nil] at HG
      exact ⟨rfl, mI, HG.out ▸ HII.out, HMI.out, HKI.out⟩
theorem cell_new {w : World} {cs : Array Value} {E : TypeId} {a : Nat} (h : w.heap.size = a) {v : Value} (hv : cs[0]? = some v) : (w.alloc (.cells cs E)).cell? ⟨a, 0, none⟩ = some v := by
  rw [World.cell?_alloc_at _ _ _ _ h.symm]; exact hv
theorem cell_on {w : World} {o : Obj} {a : Nat} {v : Value} (h : w.cell? ⟨a, 0, none⟩ = some v) : (w.alloc o).cell? ⟨a, 0, none⟩ = some v := by
  rw [World.cell?_alloc_past _ _ _ (World.block_lt_of_cell? w _ h)]; exact h
theorem caught_new (f : FuncId) (cap : Array Value) (Ap : Option Addr) (cp : Nat) (people : List Int) (most : Int) (m : Nat → Prop) (w W : World) (hm : ∀ k, m k → k < w.heap.size) (hp : ∀ w', Kept w w' m → Kd.C (Kd.int .i64) w' Ap people.length people)
    (hW : W = ((((w.alloc (.cells #[.slice Ap people.length cp] 32)).alloc (.cells #[.int .i64 most] 3)).alloc (.cells #[.func (.func f) #[] cap] 195)).alloc (.cells #[.func (.func 281) #[] #[.pointer (some ⟨w.heap.size, 0, none⟩), .pointer (some ⟨w.heap.size + 1, 0, none⟩), .pointer (some ⟨w.heap.size + 1 + 1, 0, none⟩), .pointer (some ⟨w.heap.size + 1 + 1 + 1, 0, none⟩)]] 248))) :
    Below w.heap.size w W ∧ ∀ w', Kept W w' m → Caught f cap w.heap.size (w.heap.size + 1) (w.heap.size + 1 + 1) (w.heap.size + 1 + 1 + 1) Ap cp people most w' := by
  have hb : Below w.heap.size w W := by subst hW; exact below_alloc (below_alloc (below_alloc (below_alloc (Below.refl _ _) _) _) _) _
  refine ⟨hb, fun w' hk => ⟨?_, ?_, ?_, ?_, ?_⟩⟩
  · refine cell_kept ?_ hk (fun h => by have : w.heap.size < w.heap.size := hm _ h; omega)
    subst hW
    exact cell_on (cell_on (cell_on (cell_new rfl rfl)))
  · refine cell_kept ?_ hk (fun h => by have : w.heap.size + 1 < w.heap.size := hm _ h; omega)
    subst hW
    exact cell_on (cell_on (cell_new (by simp) rfl))
  · refine cell_kept ?_ hk (fun h => by have : w.heap.size + 1 + 1 < w.heap.size := hm _ h; omega)
    subst hW
    exact cell_on (cell_new (by simp) rfl)
  · refine cell_kept ?_ hk (fun h => by have : w.heap.size + 1 + 1 + 1 < w.heap.size := hm _ h; omega)
    subst hW
    exact cell_new (by simp) rfl
  · exact hp _ ((Kept.of_below hb m).then_ hk (fun _ h => .inl h))
set_option maxHeartbeats 1600000 in
set_option maxRecDepth 100000 in
theorem groups_runs (f : FuncId) (cap : Array Value) (Ap : Option Addr) (cp : Nat) (people : List Int) (most : Int) (hmost : most ≤ 1048576) (I : List (List Int) → (Nat → Prop) → World → Prop) (hEach : Each f cap (grp most people []) I) (m : Nat → Prop) (w : World)
    (hI : I [] m w) (hp : ∀ w', Kept w w' m → Kd.C (Kd.int .i64) w' Ap people.length people) :
    Calls Try.prog 201 #[.slice Ap people.length cp, .int .i64 most, .func (.func f) #[] cap] w fun e w' =>
      e = .returned (.tuple #[]) ∧ ∃ m', I (grp most people []) m' w' ∧ (∀ k, m' k → m k ∨ w.heap.size ≤ k) ∧ Kept w w' m := by
  have hmf : ∀ (fn : Fn) (first cap : Array Value) (w : World), (Instr.makeFunc fn first cap).run Try.prog w = .ok (.func fn first cap) w := fun _ _ _ _ => rfl
  have HI := Aside0.mk hI
  have HP := Aside0.mk hp
  have HEA := Aside0.mk hEach
  clear hI hp hEach
  go_enter Try.func201, Try.ntmps201
  go_wp2_with fail
  obtain ⟨W, hW⟩ : ∃ W, W = ((((w.alloc (.cells #[.slice Ap people.length cp] 32)).alloc (.cells #[.int .i64 most] 3)).alloc (.cells #[.func (.func f) #[] cap] 195)).alloc (.cells #[.func (.func 281) #[] #[.pointer (some ⟨w.heap.size, 0, none⟩), .pointer (some ⟨w.heap.size + 1, 0, none⟩), .pointer (some ⟨w.heap.size + 1 + 1, 0, none⟩), .pointer (some ⟨w.heap.size + 1 + 1 + 1, 0, none⟩)]] 248)) := ⟨_, rfl⟩
  obtain ⟨hb, hC⟩ := caught_new f cap Ap cp people most m w W (HEA.out.bound _ _ _ HI.out) HP.out hW
  rw [← hW]
  refine calls_of_args (args' := #[.int .i64 ((0 : Nat) : Int), .slice none ([] : List Int).length 0, .pointer (some ⟨w.heap.size, 0, none⟩), .pointer (some ⟨w.heap.size + 1, 0, none⟩), .pointer (some ⟨w.heap.size + 1 + 1, 0, none⟩), .pointer (some ⟨w.heap.size + 1 + 1 + 1, 0, none⟩)]) rfl ?_
  have HB := Aside0.mk hb
  have HC := Aside0.mk hC
  clear hW hb hC
  refine (groups_on f cap (grp most people []) I HEA.out _ _ _ _ Ap cp people most hmost people.length 0 (by omega) [] [] [] m W none 0 (by simp) (HEA.out.later _ _ _ _ HI.out HB.out) HC.out (fun w' _ => Kd.C_nil _ _) (by simp)).mono ?_
  rintro e w1 ⟨rfl, m', hI', hm', hk'⟩
  have HI' := Aside0.mk hI'
  have HM' := Aside0.mk hm'
  have HK' := Aside0.mk hk'
  clear hI' hm' hk'
  go_wp2
  go_end0
  exact ⟨rfl, m', by have := HI'.out; simpa using this, fun k hk => (HM'.out k hk).imp_right (fun h => Nat.le_trans HB.out.size h), (Kept.of_below HB.out m).then_ HK'.out (fun _ h => .inl h)⟩
end Go.Proofs.Ytlkjglanglpdoaa.T
namespace Go.Proofs.Ytlkjglanglpdoaa.T
open Go.RowKit Go.Proofs.YtlkjglanglpdoaaW.PrintWords Go.Proofs.YtlkjglanglpdoaaW.PrintLast Go.Proofs.YtlkjglanglpdoaaW.PrintMore
set_option linter.unusedVariables false
set_option linter.unusedSimpArgs false
theorem wrap_up (i n : Int) (h0 : 0 ≤ i) (h : i < n) (hn : n ≤ 9223372036854775807) : wrap64 (i + 1) = i + 1 := by
  unfold wrap64; omega
theorem index_tells (l : List Int) (a : Int) (hl : (l.length : Int) ≤ 9223372036854775807) : ∀ (d k i : Nat), i + d = l.length → d < k → (∀ j, j < i → (rd l j == a) = false) →
    ∃ r, slices_Index_int_int.l0 k l a (l.length : Int) (i : Int) = some r ∧ decide (r ≥ 0) = (l.drop i).contains a := by
  intro d
  induction d with
  | zero =>
    intro k i hi hk _
    obtain ⟨k, rfl⟩ : ∃ m, k = m + 1 := ⟨k - 1, by omega⟩
    refine ⟨-1, ?_, ?_⟩
    · simp only [slices_Index_int_int.l0]; rw [if_neg (by omega)]
    · rw [List.drop_eq_nil_of_le (by omega)]; rfl
  | succ d ih =>
    intro k i hi hk hn
    obtain ⟨k, rfl⟩ : ∃ m, k = m + 1 := ⟨k - 1, by omega⟩
    have hlt : i < l.length := by omega
    have hrd : rd l (i : Int) = l[i] := by unfold rd; rw [Int.toNat_natCast, List.getD_eq_getElem?_getD, List.getElem?_eq_getElem hlt]; rfl
    have hd : l.drop i = l[i] :: l.drop (i + 1) := (List.getElem_cons_drop hlt).symm
    by_cases he : a = rd l (i : Int)
    · refine ⟨i, ?_, ?_⟩
      · simp only [slices_Index_int_int.l0]; rw [if_pos (by omega), if_pos (by omega), if_pos (by omega), if_pos he]
      · rw [hd, List.contains_cons, he, hrd]; simp
    · obtain ⟨r, hr, hc⟩ := ih k (i + 1) (by omega) (by omega) (fun j hj => by
        rcases Nat.lt_or_ge j i with h | h
        · exact hn j h
        · have : j = i := by omega
          subst this; simpa using fun e => he e.symm)
      refine ⟨r, ?_, ?_⟩
      · simp only [slices_Index_int_int.l0]; rw [if_pos (by omega), if_pos (by omega), if_pos (by omega), if_neg he, wrap_up (i : Int) (l.length : Int) (by omega) (by omega) hl]; exact hr
      · rw [hd, List.contains_cons, hc, hrd.symm]
        have : (a == rd l (i : Int)) = false := by simpa using he
        rw [this, Bool.false_or]
theorem contains_runs (A0 : Option Addr) (c0 : Nat) (l0 : List Int) (a1 : Int) (w : World) (hr0 : Kd.C (Kd.int .i64) w A0 l0.length l0) (hc0 : l0.length ≤ c0) :
    Calls Try.prog 266 #[.slice A0 l0.length c0, .int .i64 a1] w fun e w' => e = .returned (.bool (l0.contains a1)) ∧ Below w.heap.size w w' := by
  obtain ⟨r, hr, hc⟩ := index_tells l0 a1 (by have := hr0.2.1; omega) l0.length (l0.length + 1) 0 (by omega) (by omega) (fun j hj => by omega)
  have h : slices_Contains_int_int.f (l0.length + 1) l0 a1 = some (l0.contains a1) := by
    unfold slices_Contains_int_int.f slices_Index_int_int.f
    rw [show ((0 : Nat) : Int) = 0 from rfl] at hr
    rw [hr]; simp only [Option.bind_some]; rw [hc, List.drop_zero]
  refine (slices_Contains_int_int.calls _ _ _ _ _ _ w hr0 hc0 h).mono ?_
  rintro e w' ⟨rfl, hd⟩
  exact ⟨rfl, hd.below⟩
def evenB (y : Int) : Bool := y.tmod 2 == 0
def oneCalm (l : List Int) (x : Int) : Bool := evenB x || (l.contains (wrap64 (x - 1)) || !l.any evenB)
def calmL (l : List Int) : Bool := l.all (oneCalm l)
def impl_calm.f (l0 : List Int) : Option Bool := some (calmL l0)
set_option maxHeartbeats 800000 in
set_option maxRecDepth 100000 in
theorem even_says (l0 : List Int) (w : World) : Says 267 #[] evenB l0 w := by
  refine ⟨⟨_, Try.func267, by kernel_rfl, rfl⟩, fun x _ w' hw => ?_⟩
  clear hw
  show Calls Try.prog 267 #[.int .i64 x] w' _
  go_enter Try.func267, Try.ntmps267
  go_wp2
  go_ret
  exact ⟨ret_bool rfl, Below.refl _ _⟩
def allUp (p : Int → Bool) (xs : List Int) (k : Nat) : Bool := (xs.take k).all p
theorem allUp_step (p : Int → Bool) (xs : List Int) (k : Nat) (h : k < xs.length) : allUp p xs (k + 1) = (allUp p xs k && p (rd xs k)) := by
  unfold allUp rd
  rw [List.take_succ_eq_append_getElem h, List.all_append]
  simp [List.getD_eq_getElem?_getD, List.getElem?_eq_getElem h]
theorem rd_mem (xs : List Int) (k : Nat) (h : k < xs.length) : rd xs k ∈ xs := by
  unfold rd
  rw [List.getD_eq_getElem?_getD, Int.toNat_natCast, List.getElem?_eq_getElem h]
  exact List.getElem_mem _
set_option maxHeartbeats 3200000 in
set_option maxRecDepth 100000 in
theorem impl_calm.calls (A0 : Option Addr) (c0 : Nat) (l0 : List Int) (r : Bool) (w : World) (hr0 : Kd.C (Kd.int .i64) w A0 l0.length l0) (hc0 : l0.length ≤ c0) (h : impl_calm.f l0 = some r) :
    Calls Try.prog 163 #[.slice A0 l0.length c0] w fun e w' => e = .returned (.bool r) ∧ Below w.heap.size w w' := by
  obtain rfl := Option.some.inj h
  clear h
  have hlen : l0.length ≤ 9223372036854775807 := hr0.2.1
  have HR := Aside0.mk hr0
  have HC := Aside0.mk hc0
  clear hr0 hc0
  go_enter Try.func163, Try.ntmps163
  go_wp2
  go_loopw [7] (fun v7 wr => ∃ k : Nat, v7 = .int .i64 (k : Int) ∧ Aside0 (k ≤ l0.length) ∧ Aside0 (allUp (oneCalm l0) l0 k = true) ∧ Aside0 (Below w.heap.size w wr)) (fun v7 _ => l0.length - (intOf v7).toNat)
  case atStart => exact ⟨0, rfl, ⟨Nat.zero_le _⟩, ⟨rfl⟩, ⟨Below.refl _ _⟩⟩
  case round =>
    obtain ⟨k, rfl, HK, HA, HB⟩ := hrel
    by_cases hlt : k < l0.length
    · have c0b : decide ((k : Int) < (l0.length : Int)) = true := by simpa using hlt
      obtain ⟨ad, rfl, hcell⟩ := Kd.at_int (Kd.C_below HR.out HB.out) (k : Int) (by omega) (by omega)
      rw [Int.toNat_natCast] at hcell
      have hk0 : k ≤ 9223372036854775806 := by omega
      have HST := Aside0.mk (allUp_step (oneCalm l0) l0 k hlt)
      have HM := Aside0.mk (rd_mem l0 k hlt)
      obtain ⟨x, hx⟩ : ∃ x, x = rd l0 k := ⟨_, rfl⟩
      rw [← hx] at hcell HST HM
      clear hx
      cases he : evenB x
      · have he2 : (x.tmod 2 == 0) = false := he
        have he3 : ¬ x.tmod 2 = 0 := by simpa using he2
        cases hn : l0.contains (wrap64 (x - 1))
        · have HN := Aside0.mk hn
          clear hn
          cases hv : l0.any evenB
          · have HV := Aside0.mk hv
            have HO : Aside0 (oneCalm l0 x = true) := ⟨by unfold oneCalm; rw [hv]; simp⟩
            clear hv he
            go_wp2_with (first | (go_at_call 266; refine (contains_runs _ _ _ _ _ (Kd.C_below HR.out HB.out) HC.out).mono ?_; rintro e w3 ⟨rfl, hb⟩; rw [HN.out]; have HB3 := Aside0.mk (HB.out.trans (hb.mono HB.out.size)); clear hb) | (go_at_call 264; refine (containsFunc _ _ _ _ _ _ _ (Kd.C_below HR.out HB3.out) (even_says _ _)).mono ?_; rintro e w4 ⟨rfl, hb⟩; rw [HV.out]; have HB4 := Aside0.mk (HB3.out.trans (hb.mono HB3.out.size)); clear hb))
            go_roundw
            case rel => exact ⟨k + 1, by go_num, ⟨by omega⟩, ⟨by rw [HST.out, HA.out, HO.out]; rfl⟩, HB4⟩
            case measure => simp [intOf]; omega
          · have HV := Aside0.mk hv
            have HO : Aside0 (oneCalm l0 x = false) := ⟨by unfold oneCalm; rw [hv, he, HN.out]; rfl⟩
            clear hv he
            go_wp2_with (first | (go_at_call 266; refine (contains_runs _ _ _ _ _ (Kd.C_below HR.out HB.out) HC.out).mono ?_; rintro e w3 ⟨rfl, hb⟩; rw [HN.out]; have HB3 := Aside0.mk (HB.out.trans (hb.mono HB.out.size)); clear hb) | (go_at_call 264; refine (containsFunc _ _ _ _ _ _ _ (Kd.C_below HR.out HB3.out) (even_says _ _)).mono ?_; rintro e w4 ⟨rfl, hb⟩; rw [HV.out]; have HB4 := Aside0.mk (HB3.out.trans (hb.mono HB3.out.size)); clear hb))
            go_ret
            exact ⟨ret_bool (by unfold calmL; rw [eq_comm, List.all_eq_false]; exact ⟨x, HM.out, by rw [HO.out]; simp⟩), HB4.out⟩
        · have HN := Aside0.mk hn
          have HO : Aside0 (oneCalm l0 x = true) := ⟨by unfold oneCalm; rw [hn]; simp⟩
          clear hn he
          go_wp2_with (first | (go_at_call 266; refine (contains_runs _ _ _ _ _ (Kd.C_below HR.out HB.out) HC.out).mono ?_; rintro e w3 ⟨rfl, hb⟩; rw [HN.out]; have HB3 := Aside0.mk (HB.out.trans (hb.mono HB.out.size)); clear hb))
          go_roundw
          case rel => exact ⟨k + 1, by go_num, ⟨by omega⟩, ⟨by rw [HST.out, HA.out, HO.out]; rfl⟩, HB3⟩
          case measure => simp [intOf]; omega
      · have he2 : (x.tmod 2 == 0) = true := he
        have HO : Aside0 (oneCalm l0 x = true) := ⟨by unfold oneCalm; rw [he]; rfl⟩
        clear he
        go_wp2
        go_roundw
        case rel => exact ⟨k + 1, by go_num, ⟨by omega⟩, ⟨by rw [HST.out, HA.out, HO.out]; rfl⟩, HB⟩
        case measure => simp [intOf]; omega
    · have c0b : decide ((k : Int) < (l0.length : Int)) = false := by simpa using hlt
      go_wp2
      go_ret
      have hk := HK.out
      have : k = l0.length := by omega
      subst this
      have ha := HA.out
      unfold allUp at ha
      rw [List.take_length] at ha
      exact ⟨ret_bool ha.symm, HB.out⟩
end Go.Proofs.Ytlkjglanglpdoaa.T
namespace Go.Proofs.Ytlkjglanglpdoaa.T
open Go.RowKit Go.Proofs.YtlkjglanglpdoaaW.PrintWords Go.Proofs.YtlkjglanglpdoaaW.PrintLast Go.Proofs.YtlkjglanglpdoaaW.PrintMore
attribute [local go_sem] max2_int min2_int max_two min_two max_three min_three max_four min_four
set_option linter.unusedVariables false
set_option linter.unusedSimpArgs false
def impl_Places_standing.l0 : Nat → Int → List Int → List Int → Int → Int → Option (List Int)
  | 0, _, _, _, _, _ => none
  | k + 1, x1, x5, x10, x11, x12 => if x12 < x11 then (if 0 ≤ x12 then (if x12 < (x10.length : Int) then (if (rd x10 x12) = x1 then (if x5.length < 17592186044416 then (impl_Places_standing.l0 k x1 (x5 ++ [x12]) x10 x11 (wrap64 (x12 + 1))) else (none)) else (impl_Places_standing.l0 k x1 x5 x10 x11 (wrap64 (x12 + 1)))) else (none)) else (none)) else (some x5)
def impl_Places_standing.f (k : Nat) (l0_0 : List Int) (a0_1 : Int) (a1 : Int) : Option (List Int) := impl_Places_standing.l0 k a1 (([] : List Int)) l0_0 (l0_0.length : Int) 0
theorem impl_Places_standing.mono_l : ∀ k, (∀ y0 y1 y2 y3 y4, LeO (impl_Places_standing.l0 k y0 y1 y2 y3 y4) (impl_Places_standing.l0 (k + 1) y0 y1 y2 y3 y4))
  | 0 => fun _ _ _ _ _ r h => by simp [impl_Places_standing.l0] at h
  | k + 1 => by
    have ih0 := impl_Places_standing.mono_l k
    · intro y0 y1 y2 y3 y4
      unfold impl_Places_standing.l0
      repeat' first
      | (with_reducible exact ih0 _ _ _ _ _)
      | (with_reducible exact LeO.refl _)
      | (with_reducible exact LeO.none _)
      | (with_reducible refine LeO.ite ?_ ?_)
      | (with_reducible refine LeO.bind ?_ (fun _ => ?_))
      | exact ih0 _ _ _ _ _
      | exact LeO.none _
      | refine LeO.ite ?_ ?_
      | refine LeO.bind ?_ (fun _ => ?_)
theorem impl_Places_standing.mono : ∀ a0 a1 a2 k, LeO (impl_Places_standing.f k a0 a1 a2) (impl_Places_standing.f (k + 1) a0 a1 a2) := by
  intro a0 a1 a2 k
  have ih0 := impl_Places_standing.mono_l k
  unfold impl_Places_standing.f
  repeat' first
      | (with_reducible exact ih0 _ _ _ _ _)
      | (with_reducible exact LeO.refl _)
      | (with_reducible exact LeO.none _)
      | (with_reducible refine LeO.ite ?_ ?_)
      | (with_reducible refine LeO.bind ?_ (fun _ => ?_))
      | exact ih0 _ _ _ _ _
      | exact LeO.none _
      | refine LeO.ite ?_ ?_
      | refine LeO.bind ?_ (fun _ => ?_)
set_option maxHeartbeats 8000000 in
set_option maxRecDepth 100000 in
theorem impl_Places_standing.calls (k : Nat) (A0_0 : Option Addr) (c0_0 : Nat) (l0_0 : List Int) (a0_1 : Int) (a1 : Int) (r : List Int) (w : World) (hr0_0 : Kd.C (Kd.int .i64) w A0_0 l0_0.length l0_0) (hc0_0 : l0_0.length ≤ c0_0) (h : impl_Places_standing.f k l0_0 a0_1 a1 = some r) :
    Calls Try.prog 269 #[.agg #[.slice A0_0 l0_0.length c0_0, .int .i64 a0_1], .int .i64 a1] w fun e w' => ∃ v0_ : Value, e = .returned (v0_) ∧ Kd.R (Kd.int .i64) 3 w' w.heap.size (fun _ => True) v0_ r ∧ Below w.heap.size w w' := by
  have hu64 := Try.underlying64
  have HR0_0 := Aside0.mk hr0_0
  have HC0_0 := Aside0.mk hc0_0
  clear hr0_0 hc0_0
  have HB := Aside0.mk (Below.refl w.heap.size w)
  have H : (impl_Places_standing.l0 k a1 (([] : List Int)) l0_0 (l0_0.length : Int) 0) = some r := h
  clear h
  obtain ⟨y1008, hy1008⟩ : ∃ y_ : List Int, y_ = (([] : List Int)) := ⟨_, rfl⟩
  replace H : (impl_Places_standing.l0 k a1 y1008 l0_0 (l0_0.length : Int) 0) = some r := by first | (rw [hy1008]; with_reducible exact H) | (have H2_ := (Option.bind_some _ _).symm.trans H; rw [hy1008]; with_reducible exact H2_) | (have H2_ := (Option.bind_some _ _).symm.trans H; with_reducible exact H2_) | with_reducible exact H | (rw [hy1008]; exact H) | exact H
  have Ny1008 := Aside0.mk hy1008
  clear hy1008
  have H' := Aside0.mk H
  clear H
  go_enter Try.func269, Try.ntmps269
  go_wp2_with (first | ((with_reducible refine gate_dst (N := 2) rfl ?_); refine box_event ?hg (N := 2) ?hd (cs := #[.slice A0_0 l0_0.length c0_0, .int .i64 a0_1]) (t := 64) ?hr ?_; (case hd => rfl); (case hg => rfl); (case hr => first | (go_simp; done) | (go_simp; rfl)); intro gb1007 hg w3 hbox hb; have n0_ := Aside0.mk (below_step (by repeat (first | (with_reducible first | exact HB.out | apply below_alloc | apply pw_below_drewN | apply below_drew1) | exact HB.out)) hb); have n1_ := Aside0.mk (hbox); have n2_ := Aside0.mk ((by rw [hg]; exact (below_size (by repeat (first | (with_reducible first | exact HB.out | apply below_alloc | apply pw_below_drewN | apply below_drew1) | exact HB.out))) : w.heap.size ≤ gb1007)); have n3_ := Aside0.mk ((by rw [hg]; exact (below_size (by repeat (first | (with_reducible first | exact HB.out | apply below_alloc | apply pw_below_drewN | apply below_drew1) | exact HB.out))) : w.heap.size ≤ gb1007)); clear HB; have HB := n0_; have BK1007 := n1_; have GW1007 := n2_; have GE1007 := n3_; clear n0_ n1_ n2_ n3_; clear hb hbox hg) | ((with_reducible refine gate_dst (N := 8) rfl ?_); refine Kd.R_lit (Kd.int .i64) _ 3 ?hg (N := 8) ?hd (xs := ([] : List Int)) (inner := []) (ok := fun _ => True) (okp := fun _ => True) ?hr ?hp (fun _ hk => hk) trivial (Below.refl _ _) (Nat.le_refl _) (by simp) ?_; (case hd => rfl); (case hg => rfl); (case hr => first | (go_simp; done) | (go_simp; rfl)); (case hp => exact (Reps.none _ _)); intro v1009 w4 ho5 hb hg_ hnew_; clear hg_ hnew_; (first | rw [← Ny1008.out] at ho5 | (simp only [Int.reduceToNat] at ho5; rw [← Ny1008.out] at ho5)); have n0_ := Aside0.mk (Kd.R_lower ho5 (below_size (by repeat (first | (with_reducible first | exact HB.out | apply below_alloc | apply pw_below_drewN | apply below_drew1 | refine below_set ?_ GE1007.out) | exact HB.out)))); have n1_ := Aside0.mk (blk_below (g := gb1007) (o := .cells #[.slice A0_0 l0_0.length c0_0, .int .i64 a0_1] 64 (0, 0)) (by (with_reducible repeat (first | refine blk_drewN ?_ _ | refine blk_drew ?_ | refine blk_alloc ?_ _)); exact BK1007.out) hb); have n2_ := Aside0.mk (below_step (by repeat (first | (with_reducible first | exact HB.out | apply below_alloc | apply pw_below_drewN | apply below_drew1 | refine below_set ?_ GE1007.out) | exact HB.out)) hb); clear BK1007; clear HB; have HO1010 := n0_; have BK1007 := n1_; have HB := n2_; clear n0_ n1_ n2_; clear hb ho5; have hcz6_0 : w4.cell? ⟨gb1007, 0, none⟩ = some (.slice A0_0 l0_0.length c0_0) := (blk_cell BK1007.out 0).trans rfl; have hcz6_1 : w4.cell? ⟨gb1007, 1, none⟩ = some (.int .i64 a0_1) := (blk_cell BK1007.out 1).trans rfl; have hfz6_0 := blk_frozen BK1007.out 0; have hfz6_1 := blk_frozen BK1007.out 1))
  go_loopg [5, 12] k (fun kq v5 v12 w' => ∃ (x5_1 : List Int) (x12_1 : Int), v12 = .int .i64 x12_1 ∧ Aside0 (impl_Places_standing.l0 kq a1 x5_1 l0_0 (l0_0.length : Int) x12_1 = some r) ∧ Aside0 (kq ≤ k) ∧ Aside0 (Kd.R (Kd.int .i64) 3 w' w.heap.size (fun _ => True) v5 x5_1) ∧ Aside0 (w'.heap[gb1007]? = some (.cells #[(.slice A0_0 l0_0.length c0_0), .int .i64 a0_1] 64 (0, 0))) ∧ Aside0 (Below w.heap.size w w'))
  case atStart => exact ⟨(y1008), (0), (by first | rfl | (simp; done) | (simp [*]; done)), H', ⟨Nat.le_refl _⟩, ⟨by (with_reducible repeat (first | apply Kd.R_alloc | apply Kd.R_drewN | apply Kd.R_drew)); exact HO1010.out⟩, ⟨by (with_reducible repeat (first | refine blk_drewN ?_ _ | refine blk_drew ?_ | refine blk_alloc ?_ _)); exact BK1007.out⟩, ⟨by repeat (first | (with_reducible first | exact HB.out | apply below_alloc | apply pw_below_drewN | apply below_drew1 | refine below_set ?_ GE1007.out) | exact HB.out)⟩⟩
  case round =>
    clear H'
    try clear c2
    try clear p2
    try clear hcz6_0
    try clear hcz6_1
    try clear hfz6_0
    try clear hfz6_1
    obtain ⟨x5_1, x12_1, rfl, HA, HK1, HO_5, BK1007, HB⟩ := hrel
    cases gk with
    | zero => exact absurd HA.out (by simp [impl_Places_standing.l0])
    | succ k1 =>
      have H := HA.out
      clear HA
      simp only [impl_Places_standing.l0] at H
      by_cases c7 : x12_1 < (l0_0.length : Int)
      · rw [if_pos c7] at H
        have c7b0 : decide (x12_1 < (l0_0.length : Int)) = true := decide_eq_true c7
        clear c7
        by_cases c8 : 0 ≤ x12_1
        · rw [if_pos c8] at H
          have c8b0 : decide (0 ≤ x12_1) = true := decide_eq_true c8
          clear c8
          by_cases c9 : x12_1 < (l0_0.length : Int)
          · rw [if_pos c9] at H
            have c9b0 : decide (x12_1 < (l0_0.length : Int)) = true := decide_eq_true c9
            clear c9
            by_cases c10 : (rd l0_0 x12_1) = a1
            · rw [if_pos c10] at H
              have c10b0 : ((rd l0_0 x12_1) == a1) = true := beq_iff_eq.mpr c10
              have c10b1 : ((rd l0_0 x12_1) != a1) = false := bne_eq_false_iff_eq.mpr c10
              clear c10
              by_cases c11 : x5_1.length < 17592186044416
              · rw [if_pos c11] at H
                have LMc11 := Aside0.mk c11
                clear c11
                obtain ⟨y1012, hy1012⟩ : ∃ y_ : List Int, y_ = (x5_1 ++ [x12_1]) := ⟨_, rfl⟩
                replace H : (impl_Places_standing.l0 k1 a1 y1012 l0_0 (l0_0.length : Int) (wrap64 (x12_1 + 1))) = some r := by first | (rw [hy1012]; with_reducible exact H) | (have H2_ := (Option.bind_some _ _).symm.trans H; rw [hy1012]; with_reducible exact H2_) | (have H2_ := (Option.bind_some _ _).symm.trans H; with_reducible exact H2_) | with_reducible exact H | (rw [hy1012]; exact H) | exact H
                have Ny1012 := Aside0.mk hy1012
                clear hy1012
                have H' := Aside0.mk H
                clear H
                have p1011 : 0 ≤ (x12_1 : Int) := of_decide_eq_true (by first | (with_reducible assumption) | assumption)
                have q1011 : x12_1 < (l0_0.length : Int) := of_decide_eq_true (by first | (with_reducible assumption) | assumption)
                obtain ⟨ad1011, e1011, hx1011_0⟩ := Kd.at_int HR0_0.out x12_1 p1011 q1011
                cases e1011
                replace hx1011_0 := (HB.out.cell (World.block_lt_of_cell? w _ hx1011_0)).trans hx1011_0
                replace p1011 := eq_true p1011
                replace q1011 := eq_true q1011
                go_wp2_with (first | ((with_reducible refine gate_builtin (b := .append) (xs := #[.tmp 20, .tmp 22]) rfl ?_); at_builtin; refine Kd.R_append (Kd.int .i64) (w0 := w) w.heap.size rfl (.tmp 20) (.tmp 22) 32 3 (.int .i64 0) 8 rfl Try.underlying32 info3 rfl (by decide) (by omega) u5 x5_1 x12_1 [.int .i64 x12_1] (fun _ => True) (fun _ => False) rfl rfl ?aP (fun _ hk => hk.elim) ?aF ?aO ?aB ?aS ?aL ?_; (case aP => exact rfl); (case aB => exact (by repeat (first | (with_reducible first | exact HB.out | apply below_alloc | apply pw_below_drewN | apply below_drew1 | refine below_set ?_ GE1007.out) | exact HB.out))); (case aF => exact (fun _ _ => trivial)); (case aO => exact (by (with_reducible repeat (first | apply Kd.R_alloc | apply Kd.R_drewN | apply Kd.R_drew)); exact HO_5.out)); (case aS => exact (below_size (by repeat (first | (with_reducible first | exact HB.out | apply below_alloc | apply pw_below_drewN | apply below_drew1 | refine below_set ?_ GE1007.out) | exact HB.out)))); (case aL => have := LMc11.out; omega); intro v1013 w12 ho hb hg hat; rw [← Ny1012.out] at ho; have n0_ := Aside0.mk (blk_grown (g := gb1007) (o := .cells #[.slice (some ad1011) l0_0.length c0_0, .int .i64 a0_1] 64 (0, 0)) (by (with_reducible repeat (first | refine blk_drewN ?_ _ | refine blk_drew ?_ | refine blk_alloc ?_ _)); exact BK1007.out) hg (Kd.R_ne HO_5.out BK1007.out (by decide))); have n1_ := Aside0.mk (hb); have n2_ := Aside0.mk (ho); clear BK1007; clear HB; clear HO_5; have BK1007 := n0_; have HB := n1_; have HO1014 := n2_; clear n0_ n1_ n2_; clear ho hb hg hat))
                go_roundg k1
                case measure => have := HK1.out; omega
                case rel => exact ⟨(y1012), (wrap64 (x12_1 + 1)), (by first | rfl | (simp; done) | (simp [*]; done)), H', ⟨by have := HK1.out; omega⟩, ⟨by (with_reducible repeat (first | apply Kd.R_alloc | apply Kd.R_drewN | apply Kd.R_drew)); exact HO1014.out⟩, ⟨by (with_reducible repeat (first | refine blk_drewN ?_ _ | refine blk_drew ?_ | refine blk_alloc ?_ _)); exact BK1007.out⟩, ⟨by repeat (first | (with_reducible first | exact HB.out | apply below_alloc | apply pw_below_drewN | apply below_drew1 | refine below_set ?_ GE1007.out) | exact HB.out)⟩⟩
              · rw [if_neg c11] at H
                exact absurd H (by simp)
            · rw [if_neg c10] at H
              have c10b0 : ((rd l0_0 x12_1) == a1) = false := beq_eq_false_iff_ne.mpr c10
              have c10b1 : ((rd l0_0 x12_1) != a1) = true := bne_iff_ne.mpr c10
              have H' := Aside0.mk H
              clear H
              have p1011 : 0 ≤ (x12_1 : Int) := of_decide_eq_true (by first | (with_reducible assumption) | assumption)
              have q1011 : x12_1 < (l0_0.length : Int) := of_decide_eq_true (by first | (with_reducible assumption) | assumption)
              obtain ⟨ad1011, e1011, hx1011_0⟩ := Kd.at_int HR0_0.out x12_1 p1011 q1011
              cases e1011
              replace hx1011_0 := (HB.out.cell (World.block_lt_of_cell? w _ hx1011_0)).trans hx1011_0
              replace p1011 := eq_true p1011
              replace q1011 := eq_true q1011
              go_wp2
              go_roundg k1
              case measure => have := HK1.out; omega
              case rel => exact ⟨(x5_1), (wrap64 (x12_1 + 1)), (by first | rfl | (simp; done) | (simp [*]; done)), H', ⟨by have := HK1.out; omega⟩, ⟨by (with_reducible repeat (first | apply Kd.R_alloc | apply Kd.R_drewN | apply Kd.R_drew)); exact HO_5.out⟩, ⟨by (with_reducible repeat (first | refine blk_drewN ?_ _ | refine blk_drew ?_ | refine blk_alloc ?_ _)); exact BK1007.out⟩, ⟨by repeat (first | (with_reducible first | exact HB.out | apply below_alloc | apply pw_below_drewN | apply below_drew1 | refine below_set ?_ GE1007.out) | exact HB.out)⟩⟩
          · rw [if_neg c9] at H
            exact absurd H (by simp)
        · rw [if_neg c8] at H
          exact absurd H (by simp)
      · rw [if_neg c7] at H
        have c7b0 : decide (x12_1 < (l0_0.length : Int)) = false := decide_eq_false c7
        clear c7
        obtain rfl := Option.some.inj H
        go_wp2
        go_ret
        exact ⟨_, by first | rfl | (simp [errW_none, errW_some] <;> rfl) | (simp [*, errW_none, errW_some] <;> rfl), by (with_reducible repeat (first | apply Kd.R_alloc | apply Kd.R_drewN | apply Kd.R_drew)); exact HO_5.out, by repeat (first | (with_reducible first | exact HB.out | apply below_alloc | apply pw_below_drewN | apply below_drew1 | refine below_set ?_ GE1007.out) | exact HB.out)⟩
end Go.Proofs.Ytlkjglanglpdoaa.T
namespace Go.Proofs.Ytlkjglanglpdoaa.T
open Go.RowKit Go.Proofs.YtlkjglanglpdoaaW.PrintWords Go.Proofs.YtlkjglanglpdoaaW.PrintLast Go.Proofs.YtlkjglanglpdoaaW.PrintMore
attribute [local go_sem] max2_int min2_int max_two min_two max_three min_three max_four min_four
set_option linter.unusedVariables false
set_option linter.unusedSimpArgs false
def impl_Isles_far.f (a0_0 : Int) (a0_1 : Int) (a0_2 : Int) : Option (Int) := some (wrap64 (a0_2 + 1))
set_option maxHeartbeats 8000000 in
set_option maxRecDepth 100000 in
theorem impl_Isles_far.calls (a0_0 : Int) (a0_1 : Int) (a0_2 : Int) (r : Int) (w : World) (h : impl_Isles_far.f a0_0 a0_1 a0_2 = some r) :
    Calls Try.prog 189 #[.agg #[.int .i64 a0_0, .int .i64 a0_1, .int .i64 a0_2]] w fun e w' => e = .returned (.int .i64 r) ∧ Below w.heap.size w w' := by
  have hu39 := Try.underlying39
  have HB := Aside0.mk (Below.refl w.heap.size w)
  have H : (some (wrap64 (a0_2 + 1))) = some r := h
  clear h
  obtain rfl := Option.some.inj H
  go_enter Try.func189, Try.ntmps189
  go_wp2_with (first | ((with_reducible refine gate_dst (N := 1) rfl ?_); refine box_event ?hg (N := 1) ?hd (cs := #[.int .i64 a0_0, .int .i64 a0_1, .int .i64 a0_2]) (t := 39) ?hr ?_; (case hd => rfl); (case hg => rfl); (case hr => first | (go_simp; done) | (go_simp; rfl)); intro gb992 hg w2 hbox hb; have n0_ := Aside0.mk (below_step (by repeat (first | (with_reducible first | exact HB.out | apply below_alloc | apply pw_below_drewN | apply below_drew1) | exact HB.out)) hb); have n1_ := Aside0.mk (hbox); have n2_ := Aside0.mk ((by rw [hg]; exact (below_size (by repeat (first | (with_reducible first | exact HB.out | apply below_alloc | apply pw_below_drewN | apply below_drew1) | exact HB.out))) : w.heap.size ≤ gb992)); have n3_ := Aside0.mk ((by rw [hg]; exact (below_size (by repeat (first | (with_reducible first | exact HB.out | apply below_alloc | apply pw_below_drewN | apply below_drew1) | exact HB.out))) : w.heap.size ≤ gb992)); clear HB; have HB := n0_; have BK992 := n1_; have GW992 := n2_; have GE992 := n3_; clear n0_ n1_ n2_ n3_; clear hb hbox hg; have hcz3_0 : w2.cell? ⟨gb992, 0, none⟩ = some (.int .i64 a0_0) := (blk_cell BK992.out 0).trans rfl; have hcz3_1 : w2.cell? ⟨gb992, 1, none⟩ = some (.int .i64 a0_1) := (blk_cell BK992.out 1).trans rfl; have hcz3_2 : w2.cell? ⟨gb992, 2, none⟩ = some (.int .i64 a0_2) := (blk_cell BK992.out 2).trans rfl; have hfz3_0 := blk_frozen BK992.out 0; have hfz3_1 := blk_frozen BK992.out 1; have hfz3_2 := blk_frozen BK992.out 2))
  go_ret
  exact ⟨by first | rfl | (simp [errW_none, errW_some] <;> rfl) | (simp [*, errW_none, errW_some] <;> rfl), by repeat (first | (with_reducible first | exact HB.out | apply below_alloc | apply pw_below_drewN | apply below_drew1 | refine below_set ?_ GE992.out) | exact HB.out)⟩
end Go.Proofs.Ytlkjglanglpdoaa.T
namespace Go.Proofs.Ytlkjglanglpdoaa.T
open Go.RowKit Go.Proofs.YtlkjglanglpdoaaW.PrintWords Go.Proofs.YtlkjglanglpdoaaW.PrintLast Go.Proofs.YtlkjglanglpdoaaW.PrintMore
attribute [local go_sem] max2_int min2_int max_two min_two max_three min_three max_four min_four
set_option linter.unusedVariables false
set_option linter.unusedSimpArgs false
def impl_Isles_areCalm.l0 : Nat → Int → Int → List Int → Int → Option (Bool)
  | 0, _, _, _, _ => none
  | k + 1, x8, x9, x1017000, x1017001 => if x9 < x8 then ((impl_Places_standing.f k x1017000 x1017001 x9).bind fun t1018 => ((impl_calm.f t1018).bind fun t1021 => (if t1021 = true then (impl_Isles_areCalm.l0 k x8 (wrap64 (x9 + 1)) x1017000 x1017001) else (some false)))) else (some true)
def impl_Isles_areCalm.f (k : Nat) (a0_0 : Int) (a0_1 : Int) (a0_2 : Int) (l1_0 : List Int) (a1_1 : Int) : Option (Bool) := (impl_Isles_far.f a0_0 a0_1 a0_2).bind fun t1017 => (impl_Isles_areCalm.l0 k (wrap64 (t1017 + 1)) 0 l1_0 a1_1)
theorem impl_Isles_areCalm.mono_l : ∀ k, (∀ y0 y1 y2 y3, LeO (impl_Isles_areCalm.l0 k y0 y1 y2 y3) (impl_Isles_areCalm.l0 (k + 1) y0 y1 y2 y3))
  | 0 => fun _ _ _ _ r h => by simp [impl_Isles_areCalm.l0] at h
  | k + 1 => by
    have ih0 := impl_Isles_areCalm.mono_l k
    · intro y0 y1 y2 y3
      unfold impl_Isles_areCalm.l0
      repeat' first
      | (with_reducible exact ih0 _ _ _ _)
      | (with_reducible exact impl_Places_standing.mono _ _ _ _)
      | (with_reducible exact LeO.refl _)
      | (with_reducible exact LeO.none _)
      | (with_reducible refine LeO.ite ?_ ?_)
      | (with_reducible refine LeO.bind ?_ (fun _ => ?_))
      | exact ih0 _ _ _ _
      | exact impl_Places_standing.mono _ _ _ _
      | exact LeO.none _
      | refine LeO.ite ?_ ?_
      | refine LeO.bind ?_ (fun _ => ?_)
theorem impl_Isles_areCalm.mono : ∀ a0 a1 a2 a3 a4 k, LeO (impl_Isles_areCalm.f k a0 a1 a2 a3 a4) (impl_Isles_areCalm.f (k + 1) a0 a1 a2 a3 a4) := by
  intro a0 a1 a2 a3 a4 k
  have ih0 := impl_Isles_areCalm.mono_l k
  unfold impl_Isles_areCalm.f
  repeat' first
      | (with_reducible exact ih0 _ _ _ _)
      | (with_reducible exact impl_Places_standing.mono _ _ _ _)
      | (with_reducible exact LeO.refl _)
      | (with_reducible exact LeO.none _)
      | (with_reducible refine LeO.ite ?_ ?_)
      | (with_reducible refine LeO.bind ?_ (fun _ => ?_))
      | exact ih0 _ _ _ _
      | exact impl_Places_standing.mono _ _ _ _
      | exact LeO.none _
      | refine LeO.ite ?_ ?_
      | refine LeO.bind ?_ (fun _ => ?_)
set_option maxHeartbeats 8000000 in
set_option maxRecDepth 100000 in
theorem impl_Isles_areCalm.calls (k : Nat) (a0_0 : Int) (a0_1 : Int) (a0_2 : Int) (A1_0 : Option Addr) (c1_0 : Nat) (l1_0 : List Int) (a1_1 : Int) (r : Bool) (w : World) (hr1_0 : Kd.C (Kd.int .i64) w A1_0 l1_0.length l1_0) (hc1_0 : l1_0.length ≤ c1_0) (h : impl_Isles_areCalm.f k a0_0 a0_1 a0_2 l1_0 a1_1 = some r) :
    Calls Try.prog 177 #[.agg #[.int .i64 a0_0, .int .i64 a0_1, .int .i64 a0_2], .agg #[.slice A1_0 l1_0.length c1_0, .int .i64 a1_1]] w fun e w' => e = .returned (.bool r) ∧ Below w.heap.size w w' := by
  have hu39 := Try.underlying39
  have hu64 := Try.underlying64
  have HR1_0 := Aside0.mk hr1_0
  have HC1_0 := Aside0.mk hc1_0
  clear hr1_0 hc1_0
  have HB := Aside0.mk (Below.refl w.heap.size w)
  have H : ((impl_Isles_far.f a0_0 a0_1 a0_2).bind fun t1017 => (impl_Isles_areCalm.l0 k (wrap64 (t1017 + 1)) 0 l1_0 a1_1)) = some r := h
  clear h
  replace H := Option.bind_eq_some_iff.mp H
  obtain ⟨t1017, A30, H⟩ := H
  replace H : (impl_Isles_areCalm.l0 k (wrap64 (t1017 + 1)) 0 l1_0 a1_1) = some r := H
  have A3 := Aside0.mk A30
  clear A30
  have H' := Aside0.mk H
  clear H
  go_enter Try.func177, Try.ntmps177
  go_wp2_with (first | ((with_reducible refine gate_dst (N := 2) rfl ?_); refine box_event ?hg (N := 2) ?hd (cs := #[.int .i64 a0_0, .int .i64 a0_1, .int .i64 a0_2]) (t := 39) ?hr ?_; (case hd => rfl); (case hg => rfl); (case hr => first | (go_simp; done) | (go_simp; rfl)); intro gb1015 hg w4 hbox hb; have n0_ := Aside0.mk (below_step (by repeat (first | (with_reducible first | exact HB.out | apply below_alloc | apply pw_below_drewN | apply below_drew1) | exact HB.out)) hb); have n1_ := Aside0.mk (hbox); have n2_ := Aside0.mk ((by rw [hg]; exact (below_size (by repeat (first | (with_reducible first | exact HB.out | apply below_alloc | apply pw_below_drewN | apply below_drew1) | exact HB.out))) : w.heap.size ≤ gb1015)); have n3_ := Aside0.mk ((by rw [hg]; exact (below_size (by repeat (first | (with_reducible first | exact HB.out | apply below_alloc | apply pw_below_drewN | apply below_drew1) | exact HB.out))) : w.heap.size ≤ gb1015)); clear HB; have HB := n0_; have BK1015 := n1_; have GW1015 := n2_; have GE1015 := n3_; clear n0_ n1_ n2_ n3_; clear hb hbox hg) | ((with_reducible refine gate_dst (N := 3) rfl ?_); refine box_event ?hg (N := 3) ?hd (cs := #[.slice A1_0 l1_0.length c1_0, .int .i64 a1_1]) (t := 64) ?hr ?_; (case hd => rfl); (case hg => rfl); (case hr => first | (go_simp; done) | (go_simp; rfl)); intro gb1016 hg w5 hbox hb; have n0_ := Aside0.mk (blk_below (g := gb1015) (o := .cells #[.int .i64 a0_0, .int .i64 a0_1, .int .i64 a0_2] 39 (0, 0)) (by (with_reducible repeat (first | refine blk_drewN ?_ _ | refine blk_drew ?_ | refine blk_alloc ?_ _)); exact BK1015.out) hb); have n1_ := Aside0.mk (below_step (by repeat (first | (with_reducible first | exact HB.out | apply below_alloc | apply pw_below_drewN | apply below_drew1 | refine below_set ?_ GE1015.out) | exact HB.out)) hb); have n2_ := Aside0.mk (hbox); have n3_ := Aside0.mk ((by rw [hg]; exact (below_size (by repeat (first | (with_reducible first | exact HB.out | apply below_alloc | apply pw_below_drewN | apply below_drew1 | refine below_set ?_ GE1015.out) | exact HB.out))) : w.heap.size ≤ gb1016)); have n4_ := Aside0.mk ((by rw [hg]; exact (below_size (by repeat (first | (with_reducible first | exact HB.out | apply below_alloc | apply pw_below_drewN | apply below_drew1 | refine below_set ?_ GE1015.out) | exact HB.out))) : w.heap.size ≤ gb1016)); have n5_ := Aside0.mk ((by rw [hg]; exact Nat.ne_of_lt (blk_lt (g := gb1015) (o := .cells #[.int .i64 a0_0, .int .i64 a0_1, .int .i64 a0_2] 39 (0, 0)) (by (with_reducible repeat (first | refine blk_drewN ?_ _ | refine blk_drew ?_ | refine blk_alloc ?_ _)); exact BK1015.out)) : gb1015 ≠ gb1016)); have n6_ := Aside0.mk ((by rw [hg]; exact Nat.ne_of_gt (blk_lt (g := gb1015) (o := .cells #[.int .i64 a0_0, .int .i64 a0_1, .int .i64 a0_2] 39 (0, 0)) (by (with_reducible repeat (first | refine blk_drewN ?_ _ | refine blk_drew ?_ | refine blk_alloc ?_ _)); exact BK1015.out)) : gb1016 ≠ gb1015)); clear BK1015; clear HB; have BK1015 := n0_; have HB := n1_; have BK1016 := n2_; have GW1016 := n3_; have GE1016 := n4_; have NB1015_1016 := n5_; have NB1016_1015 := n6_; clear n0_ n1_ n2_ n3_ n4_ n5_ n6_; clear hb hbox hg; have hnb6 := NB1015_1016.out; have hnc6 := NB1016_1015.out; have hcz7_0 : w5.cell? ⟨gb1015, 0, none⟩ = some (.int .i64 a0_0) := (blk_cell BK1015.out 0).trans rfl; have hcz7_1 : w5.cell? ⟨gb1015, 1, none⟩ = some (.int .i64 a0_1) := (blk_cell BK1015.out 1).trans rfl; have hcz7_2 : w5.cell? ⟨gb1015, 2, none⟩ = some (.int .i64 a0_2) := (blk_cell BK1015.out 2).trans rfl; have hfz7_0 := blk_frozen BK1015.out 0; have hfz7_1 := blk_frozen BK1015.out 1; have hfz7_2 := blk_frozen BK1015.out 2) | ((with_reducible refine gate_callee (f := 189) rfl ?_); refine goesL_ (some 7) rfl rfl Try.func189 (by kernel_rfl) rfl #[.agg #[.int .i64 a0_0, .int .i64 a0_1, .int .i64 a0_2]] rfl (by (try simp only [List.map_toArray, List.map_cons, List.map_nil]); first | done | rfl | (simp only [List.length_drop, List.length_take]; rfl)) ?_; (with_reducible refine (impl_Isles_far.calls a0_0 a0_1 a0_2 t1017 _ A3.out).mono ?_); rintro e w8 ⟨rfl, hb⟩; refine ⟨_, rfl, ?_⟩; have n0_ := Aside0.mk (blk_below (g := gb1015) (o := .cells #[.int .i64 a0_0, .int .i64 a0_1, .int .i64 a0_2] 39 (0, 0)) (by (with_reducible repeat (first | refine blk_drewN ?_ _ | refine blk_drew ?_ | refine blk_alloc ?_ _)); exact BK1015.out) hb); have n1_ := Aside0.mk (blk_below (g := gb1016) (o := .cells #[.slice A1_0 l1_0.length c1_0, .int .i64 a1_1] 64 (0, 0)) (by (with_reducible repeat (first | refine blk_drewN ?_ _ | refine blk_drew ?_ | refine blk_alloc ?_ _)); exact BK1016.out) hb); have n2_ := Aside0.mk (below_step (by repeat (first | (with_reducible first | exact HB.out | apply below_alloc | apply pw_below_drewN | apply below_drew1 | refine below_set ?_ GE1015.out | refine below_set ?_ GE1016.out) | exact HB.out)) hb); clear BK1015; clear BK1016; clear HB; have BK1015 := n0_; have BK1016 := n1_; have HB := n2_; clear n0_ n1_ n2_; (try clear hb); (try clear hb2); (try clear hk); (try clear hi)))
  go_loopg [9] k (fun kq v9 w' => ∃ (x9_1 : Int), v9 = .int .i64 x9_1 ∧ Aside0 (impl_Isles_areCalm.l0 kq (wrap64 (t1017 + 1)) x9_1 l1_0 a1_1 = some r) ∧ Aside0 (kq ≤ k) ∧ Aside0 (w'.heap[gb1015]? = some (.cells #[.int .i64 a0_0, .int .i64 a0_1, .int .i64 a0_2] 39 (0, 0))) ∧ Aside0 (w'.heap[gb1016]? = some (.cells #[(.slice A1_0 l1_0.length c1_0), .int .i64 a1_1] 64 (0, 0))) ∧ Aside0 (Below w.heap.size w w'))
  case atStart => exact ⟨(0), (by first | rfl | (simp; done) | (simp [*]; done)), H', ⟨Nat.le_refl _⟩, ⟨by (with_reducible repeat (first | refine blk_drewN ?_ _ | refine blk_drew ?_ | refine blk_alloc ?_ _)); exact BK1015.out⟩, ⟨by (with_reducible repeat (first | refine blk_drewN ?_ _ | refine blk_drew ?_ | refine blk_alloc ?_ _)); exact BK1016.out⟩, ⟨by repeat (first | (with_reducible first | exact HB.out | apply below_alloc | apply pw_below_drewN | apply below_drew1 | refine below_set ?_ GE1015.out | refine below_set ?_ GE1016.out) | exact HB.out)⟩⟩
  case round =>
    clear H'
    try clear c1
    try clear p2
    try clear c6
    try clear p6
    try clear hcz7_0
    try clear hcz7_1
    try clear hcz7_2
    try clear hfz7_0
    try clear hfz7_1
    try clear hfz7_2
    obtain ⟨x9_1, rfl, HA, HK1, BK1015, BK1016, HB⟩ := hrel
    cases gk with
    | zero => exact absurd HA.out (by simp [impl_Isles_areCalm.l0])
    | succ k1 =>
      have H := HA.out
      clear HA
      simp only [impl_Isles_areCalm.l0] at H
      by_cases c9 : x9_1 < (wrap64 (t1017 + 1))
      · rw [if_pos c9] at H
        have c9b0 : decide (x9_1 < (wrap64 (t1017 + 1))) = true := decide_eq_true c9
        clear c9
        replace H := Option.bind_eq_some_iff.mp H
        obtain ⟨t1018, A100, H⟩ := H
        replace H : ((impl_calm.f t1018).bind fun t1021 => (if t1021 = true then (impl_Isles_areCalm.l0 k1 (wrap64 (t1017 + 1)) (wrap64 (x9_1 + 1)) l1_0 a1_1) else (some false))) = some r := H
        have A10 := Aside0.mk A100
        clear A100
        replace H := Option.bind_eq_some_iff.mp H
        obtain ⟨t1021, A110, H⟩ := H
        replace H : (if t1021 = true then (impl_Isles_areCalm.l0 k1 (wrap64 (t1017 + 1)) (wrap64 (x9_1 + 1)) l1_0 a1_1) else (some false)) = some r := H
        have A11 := Aside0.mk A110
        clear A110
        by_cases c12 : t1021 = true
        · subst c12
          have H1 : (impl_Isles_areCalm.l0 k1 (wrap64 (t1017 + 1)) (wrap64 (x9_1 + 1)) l1_0 a1_1) = some r := by rw [if_pos rfl] at H; exact H
          clear H
          have H := H1
          clear H1
          have H' := Aside0.mk H
          clear H
          have hnb13 := NB1016_1015.out
          have hnc13 := NB1015_1016.out
          have hcz14_0 : wr.cell? ⟨gb1016, 0, none⟩ = some (.slice A1_0 l1_0.length c1_0) := (blk_cell BK1016.out 0).trans rfl
          have hcz14_1 : wr.cell? ⟨gb1016, 1, none⟩ = some (.int .i64 a1_1) := (blk_cell BK1016.out 1).trans rfl
          have hfz14_0 := blk_frozen BK1016.out 0
          have hfz14_1 := blk_frozen BK1016.out 1
          go_wp2_with (first | ((with_reducible refine gate_callee (f := 269) rfl ?_); refine goesL_ (some 14) rfl rfl Try.func269 (by kernel_rfl) rfl #[.agg #[.slice A1_0 l1_0.length c1_0, .int .i64 a1_1], .int .i64 x9_1] rfl (by (try simp only [List.map_toArray, List.map_cons, List.map_nil]); first | done | rfl | (simp only [List.length_drop, List.length_take]; rfl)) ?_; (with_reducible refine (impl_Places_standing.calls k1 _ _ l1_0 a1_1 x9_1 t1018 _ ?side1 ?side2 A10.out).mono ?_); (case side1 => repeat (first | exact (Kd.C_below HR1_0.out HB.out) | (with_reducible refine Kd.C_alloc ?_ _) | (with_reducible refine Kd.C_drewN ?_ _) | (with_reducible refine Kd.C_drew ?_))); (case side2 => exact HC1_0.out); rintro e w15 ⟨v1019, rfl, ho0, hb⟩; refine ⟨_, rfl, ?_⟩; have n0_ := Aside0.mk (Kd.R_lower ho0 (below_size (by repeat (first | (with_reducible first | exact HB.out | apply below_alloc | apply pw_below_drewN | apply below_drew1 | refine below_set ?_ GE1015.out | refine below_set ?_ GE1016.out) | exact HB.out)))); have n1_ := Aside0.mk (blk_below (g := gb1015) (o := .cells #[.int .i64 a0_0, .int .i64 a0_1, .int .i64 a0_2] 39 (0, 0)) (by (with_reducible repeat (first | refine blk_drewN ?_ _ | refine blk_drew ?_ | refine blk_alloc ?_ _)); exact BK1015.out) hb); have n2_ := Aside0.mk (blk_below (g := gb1016) (o := .cells #[.slice A1_0 l1_0.length c1_0, .int .i64 a1_1] 64 (0, 0)) (by (with_reducible repeat (first | refine blk_drewN ?_ _ | refine blk_drew ?_ | refine blk_alloc ?_ _)); exact BK1016.out) hb); have n3_ := Aside0.mk (below_step (by repeat (first | (with_reducible first | exact HB.out | apply below_alloc | apply pw_below_drewN | apply below_drew1 | refine below_set ?_ GE1015.out | refine below_set ?_ GE1016.out) | exact HB.out)) hb); clear BK1015; clear BK1016; clear HB; have HO1020 := n0_; have BK1015 := n1_; have BK1016 := n2_; have HB := n3_; clear n0_ n1_ n2_ n3_; (try clear hb); (try clear hb2); (try clear hk); (try clear hi); (try clear ho0); obtain ⟨Ao16, co16, eo16⟩ := Kd.R_slice HO1020.out; subst eo16) | ((with_reducible refine gate_callee (f := 163) rfl ?_); refine goesL_ (some 15) rfl rfl Try.func163 (by kernel_rfl) rfl #[.slice Ao16 t1018.length co16] rfl (by (try simp only [List.map_toArray, List.map_cons, List.map_nil]); first | done | rfl | (simp only [List.length_drop, List.length_take]; rfl)) ?_; (with_reducible refine (impl_calm.calls _ _ t1018 true _ ?side1 ?side2 A11.out).mono ?_); (case side1 => repeat (first | exact (Kd.R_reads' HO1020.out).2.2 | (with_reducible refine Kd.C_alloc ?_ _) | (with_reducible refine Kd.C_drewN ?_ _) | (with_reducible refine Kd.C_drew ?_))); (case side2 => exact (Kd.R_reads' HO1020.out).2.1); rintro e w17 ⟨rfl, hb⟩; refine ⟨_, rfl, ?_⟩; have n0_ := Aside0.mk (Kd.R_below (by (with_reducible repeat (first | apply Kd.R_alloc | apply Kd.R_drewN | apply Kd.R_drew)); exact HO1020.out) hb); have n1_ := Aside0.mk (blk_below (g := gb1015) (o := .cells #[.int .i64 a0_0, .int .i64 a0_1, .int .i64 a0_2] 39 (0, 0)) (by (with_reducible repeat (first | refine blk_drewN ?_ _ | refine blk_drew ?_ | refine blk_alloc ?_ _)); exact BK1015.out) hb); have n2_ := Aside0.mk (blk_below (g := gb1016) (o := .cells #[.slice A1_0 l1_0.length c1_0, .int .i64 a1_1] 64 (0, 0)) (by (with_reducible repeat (first | refine blk_drewN ?_ _ | refine blk_drew ?_ | refine blk_alloc ?_ _)); exact BK1016.out) hb); have n3_ := Aside0.mk (below_step (by repeat (first | (with_reducible first | exact HB.out | apply below_alloc | apply pw_below_drewN | apply below_drew1 | refine below_set ?_ GE1015.out | refine below_set ?_ GE1016.out) | exact HB.out)) hb); clear HO1020; clear BK1015; clear BK1016; clear HB; have HO1020 := n0_; have BK1015 := n1_; have BK1016 := n2_; have HB := n3_; clear n0_ n1_ n2_ n3_; (try clear hb); (try clear hb2); (try clear hk); (try clear hi)))
          go_roundg k1
          case measure => have := HK1.out; omega
          case rel => exact ⟨(wrap64 (x9_1 + 1)), (by first | rfl | (simp; done) | (simp [*]; done)), H', ⟨by have := HK1.out; omega⟩, ⟨by (with_reducible repeat (first | refine blk_drewN ?_ _ | refine blk_drew ?_ | refine blk_alloc ?_ _)); exact BK1015.out⟩, ⟨by (with_reducible repeat (first | refine blk_drewN ?_ _ | refine blk_drew ?_ | refine blk_alloc ?_ _)); exact BK1016.out⟩, ⟨by repeat (first | (with_reducible first | exact HB.out | apply below_alloc | apply pw_below_drewN | apply below_drew1 | refine below_set ?_ GE1015.out | refine below_set ?_ GE1016.out) | exact HB.out)⟩⟩
        · replace c12 := Bool.eq_false_iff.mpr c12
          subst c12
          have H1 : (some false) = some r := by rw [if_neg (show ¬ (false = true) by decide)] at H; exact H
          clear H
          have H := H1
          clear H1
          obtain rfl := Option.some.inj H
          have hnb18 := NB1016_1015.out
          have hnc18 := NB1015_1016.out
          have hcz19_0 : wr.cell? ⟨gb1016, 0, none⟩ = some (.slice A1_0 l1_0.length c1_0) := (blk_cell BK1016.out 0).trans rfl
          have hcz19_1 : wr.cell? ⟨gb1016, 1, none⟩ = some (.int .i64 a1_1) := (blk_cell BK1016.out 1).trans rfl
          have hfz19_0 := blk_frozen BK1016.out 0
          have hfz19_1 := blk_frozen BK1016.out 1
          go_wp2_with (first | ((with_reducible refine gate_callee (f := 269) rfl ?_); refine goesL_ (some 14) rfl rfl Try.func269 (by kernel_rfl) rfl #[.agg #[.slice A1_0 l1_0.length c1_0, .int .i64 a1_1], .int .i64 x9_1] rfl (by (try simp only [List.map_toArray, List.map_cons, List.map_nil]); first | done | rfl | (simp only [List.length_drop, List.length_take]; rfl)) ?_; (with_reducible refine (impl_Places_standing.calls k1 _ _ l1_0 a1_1 x9_1 t1018 _ ?side1 ?side2 A10.out).mono ?_); (case side1 => repeat (first | exact (Kd.C_below HR1_0.out HB.out) | (with_reducible refine Kd.C_alloc ?_ _) | (with_reducible refine Kd.C_drewN ?_ _) | (with_reducible refine Kd.C_drew ?_))); (case side2 => exact HC1_0.out); rintro e w20 ⟨v1019, rfl, ho0, hb⟩; refine ⟨_, rfl, ?_⟩; have n0_ := Aside0.mk (Kd.R_lower ho0 (below_size (by repeat (first | (with_reducible first | exact HB.out | apply below_alloc | apply pw_below_drewN | apply below_drew1 | refine below_set ?_ GE1015.out | refine below_set ?_ GE1016.out) | exact HB.out)))); have n1_ := Aside0.mk (blk_below (g := gb1015) (o := .cells #[.int .i64 a0_0, .int .i64 a0_1, .int .i64 a0_2] 39 (0, 0)) (by (with_reducible repeat (first | refine blk_drewN ?_ _ | refine blk_drew ?_ | refine blk_alloc ?_ _)); exact BK1015.out) hb); have n2_ := Aside0.mk (blk_below (g := gb1016) (o := .cells #[.slice A1_0 l1_0.length c1_0, .int .i64 a1_1] 64 (0, 0)) (by (with_reducible repeat (first | refine blk_drewN ?_ _ | refine blk_drew ?_ | refine blk_alloc ?_ _)); exact BK1016.out) hb); have n3_ := Aside0.mk (below_step (by repeat (first | (with_reducible first | exact HB.out | apply below_alloc | apply pw_below_drewN | apply below_drew1 | refine below_set ?_ GE1015.out | refine below_set ?_ GE1016.out) | exact HB.out)) hb); clear BK1015; clear BK1016; clear HB; have HO1020 := n0_; have BK1015 := n1_; have BK1016 := n2_; have HB := n3_; clear n0_ n1_ n2_ n3_; (try clear hb); (try clear hb2); (try clear hk); (try clear hi); (try clear ho0); obtain ⟨Ao21, co21, eo21⟩ := Kd.R_slice HO1020.out; subst eo21) | ((with_reducible refine gate_callee (f := 163) rfl ?_); refine goesL_ (some 15) rfl rfl Try.func163 (by kernel_rfl) rfl #[.slice Ao21 t1018.length co21] rfl (by (try simp only [List.map_toArray, List.map_cons, List.map_nil]); first | done | rfl | (simp only [List.length_drop, List.length_take]; rfl)) ?_; (with_reducible refine (impl_calm.calls _ _ t1018 false _ ?side1 ?side2 A11.out).mono ?_); (case side1 => repeat (first | exact (Kd.R_reads' HO1020.out).2.2 | (with_reducible refine Kd.C_alloc ?_ _) | (with_reducible refine Kd.C_drewN ?_ _) | (with_reducible refine Kd.C_drew ?_))); (case side2 => exact (Kd.R_reads' HO1020.out).2.1); rintro e w22 ⟨rfl, hb⟩; refine ⟨_, rfl, ?_⟩; have n0_ := Aside0.mk (Kd.R_below (by (with_reducible repeat (first | apply Kd.R_alloc | apply Kd.R_drewN | apply Kd.R_drew)); exact HO1020.out) hb); have n1_ := Aside0.mk (blk_below (g := gb1015) (o := .cells #[.int .i64 a0_0, .int .i64 a0_1, .int .i64 a0_2] 39 (0, 0)) (by (with_reducible repeat (first | refine blk_drewN ?_ _ | refine blk_drew ?_ | refine blk_alloc ?_ _)); exact BK1015.out) hb); have n2_ := Aside0.mk (blk_below (g := gb1016) (o := .cells #[.slice A1_0 l1_0.length c1_0, .int .i64 a1_1] 64 (0, 0)) (by (with_reducible repeat (first | refine blk_drewN ?_ _ | refine blk_drew ?_ | refine blk_alloc ?_ _)); exact BK1016.out) hb); have n3_ := Aside0.mk (below_step (by repeat (first | (with_reducible first | exact HB.out | apply below_alloc | apply pw_below_drewN | apply below_drew1 | refine below_set ?_ GE1015.out | refine below_set ?_ GE1016.out) | exact HB.out)) hb); clear HO1020; clear BK1015; clear BK1016; clear HB; have HO1020 := n0_; have BK1015 := n1_; have BK1016 := n2_; have HB := n3_; clear n0_ n1_ n2_ n3_; (try clear hb); (try clear hb2); (try clear hk); (try clear hi)))
          go_ret
          exact ⟨by first | rfl | (simp [errW_none, errW_some] <;> rfl) | (simp [*, errW_none, errW_some] <;> rfl), by repeat (first | (with_reducible first | exact HB.out | apply below_alloc | apply pw_below_drewN | apply below_drew1 | refine below_set ?_ GE1015.out | refine below_set ?_ GE1016.out) | exact HB.out)⟩
      · rw [if_neg c9] at H
        have c9b0 : decide (x9_1 < (wrap64 (t1017 + 1))) = false := decide_eq_false c9
        clear c9
        obtain rfl := Option.some.inj H
        go_wp2
        go_ret
        exact ⟨by first | rfl | (simp [errW_none, errW_some] <;> rfl) | (simp [*, errW_none, errW_some] <;> rfl), by repeat (first | (with_reducible first | exact HB.out | apply below_alloc | apply pw_below_drewN | apply below_drew1 | refine below_set ?_ GE1015.out | refine below_set ?_ GE1016.out) | exact HB.out)⟩
end Go.Proofs.Ytlkjglanglpdoaa.T
namespace Go.Proofs.Ytlkjglanglpdoaa.T
open Go.RowKit Go.Proofs.YtlkjglanglpdoaaW.PrintWords Go.Proofs.YtlkjglanglpdoaaW.PrintLast Go.Proofs.YtlkjglanglpdoaaW.PrintMore
attribute [local go_sem] max2_int min2_int max_two min_two max_three min_three max_four min_four
set_option linter.unusedVariables false
set_option linter.unusedSimpArgs false
def impl_Isles_allIn.f (a0_0 : Int) (a0_1 : Int) (a0_2 : Int) (a1 : Int) : Option (List Int × Int) := (impl_Isles_people.f a0_0 a0_1 a0_2).bind fun t1170 => ((slices_Repeat_int_int.f (([a1] : List Int)) t1170).bind fun t1171 => (some (t1171, a1)))
set_option maxHeartbeats 8000000 in
set_option maxRecDepth 100000 in
theorem impl_Isles_allIn.calls (a0_0 : Int) (a0_1 : Int) (a0_2 : Int) (a1 : Int) (r1 : List Int) (r2 : Int) (w : World) (h : impl_Isles_allIn.f a0_0 a0_1 a0_2 a1 = some (r1, r2)) :
    Calls Try.prog 188 #[.agg #[.int .i64 a0_0, .int .i64 a0_1, .int .i64 a0_2], .int .i64 a1] w fun e w' => ∃ v0_ : Value, e = .returned (.agg #[v0_, .int .i64 r2]) ∧ Kd.R (Kd.int .i64) 3 w' w.heap.size (fun _ => True) v0_ r1 ∧ Below w.heap.size w w' := by
  have hu39 := Try.underlying39
  have hu64 := Try.underlying64
  have HB := Aside0.mk (Below.refl w.heap.size w)
  have H : ((impl_Isles_people.f a0_0 a0_1 a0_2).bind fun t1170 => ((slices_Repeat_int_int.f (([a1] : List Int)) t1170).bind fun t1171 => (some (t1171, a1)))) = some (r1, r2) := h
  clear h
  obtain ⟨y1167, hy1167⟩ : ∃ y_ : List Int, y_ = (([a1] : List Int)) := ⟨_, rfl⟩
  replace H : ((impl_Isles_people.f a0_0 a0_1 a0_2).bind fun t1170 => ((slices_Repeat_int_int.f y1167 t1170).bind fun t1171 => (some (t1171, a1)))) = some (r1, r2) := by first | (rw [hy1167]; with_reducible exact H) | (have H2_ := (Option.bind_some _ _).symm.trans H; rw [hy1167]; with_reducible exact H2_) | (have H2_ := (Option.bind_some _ _).symm.trans H; with_reducible exact H2_) | with_reducible exact H | (rw [hy1167]; exact H) | exact H
  have Ny1167 := Aside0.mk hy1167
  clear hy1167
  replace H := Option.bind_eq_some_iff.mp H
  obtain ⟨t1170, A30, H⟩ := H
  replace H : ((slices_Repeat_int_int.f y1167 t1170).bind fun t1171 => (some (t1171, a1))) = some (r1, r2) := H
  have A3 := Aside0.mk A30
  clear A30
  replace H := Option.bind_eq_some_iff.mp H
  obtain ⟨t1171, A40, H⟩ := H
  replace H : (some (t1171, a1)) = some (r1, r2) := H
  have A4 := Aside0.mk A40
  clear A40
  simp only [Option.some.injEq, Prod.mk.injEq] at H
  obtain ⟨rfl, rfl⟩ := H
  go_enter Try.func188, Try.ntmps188
  go_wp2_with (first | ((with_reducible refine gate_dst (N := 2) rfl ?_); refine box_event ?hg (N := 2) ?hd (cs := #[.int .i64 a0_0, .int .i64 a0_1, .int .i64 a0_2]) (t := 39) ?hr ?_; (case hd => rfl); (case hg => rfl); (case hr => first | (go_simp; done) | (go_simp; rfl)); intro gb1165 hg w5 hbox hb; have n0_ := Aside0.mk (below_step (by repeat (first | (with_reducible first | exact HB.out | apply below_alloc | apply pw_below_drewN | apply below_drew1) | exact HB.out)) hb); have n1_ := Aside0.mk (hbox); have n2_ := Aside0.mk ((by rw [hg]; exact (below_size (by repeat (first | (with_reducible first | exact HB.out | apply below_alloc | apply pw_below_drewN | apply below_drew1) | exact HB.out))) : w.heap.size ≤ gb1165)); have n3_ := Aside0.mk ((by rw [hg]; exact (below_size (by repeat (first | (with_reducible first | exact HB.out | apply below_alloc | apply pw_below_drewN | apply below_drew1) | exact HB.out))) : w.heap.size ≤ gb1165)); clear HB; have HB := n0_; have BK1165 := n1_; have GW1165 := n2_; have GE1165 := n3_; clear n0_ n1_ n2_ n3_; clear hb hbox hg) | ((with_reducible refine gate_dst (N := 4) rfl ?_); refine box_event ?hg (N := 4) ?hd (cs := #[.slice none 0 0, .int .i64 0]) (t := 64) ?hr ?_; (case hd => rfl); (case hg => rfl); (case hr => first | (go_simp; done) | (go_simp; rfl)); intro gb1166 hg w6 hbox hb; have n0_ := Aside0.mk (blk_below (g := gb1165) (o := .cells #[.int .i64 a0_0, .int .i64 a0_1, .int .i64 a0_2] 39 (0, 0)) (by (with_reducible repeat (first | refine blk_drewN ?_ _ | refine blk_drew ?_ | refine blk_alloc ?_ _)); exact BK1165.out) hb); have n1_ := Aside0.mk (below_step (by repeat (first | (with_reducible first | exact HB.out | apply below_alloc | apply pw_below_drewN | apply below_drew1 | refine below_set ?_ GE1165.out) | exact HB.out)) hb); have n2_ := Aside0.mk (hbox); have n3_ := Aside0.mk ((by rw [hg]; exact (below_size (by repeat (first | (with_reducible first | exact HB.out | apply below_alloc | apply pw_below_drewN | apply below_drew1 | refine below_set ?_ GE1165.out) | exact HB.out))) : w.heap.size ≤ gb1166)); have n4_ := Aside0.mk ((by rw [hg]; exact (below_size (by repeat (first | (with_reducible first | exact HB.out | apply below_alloc | apply pw_below_drewN | apply below_drew1 | refine below_set ?_ GE1165.out) | exact HB.out))) : w.heap.size ≤ gb1166)); have n5_ := Aside0.mk ((by rw [hg]; exact Nat.ne_of_lt (blk_lt (g := gb1165) (o := .cells #[.int .i64 a0_0, .int .i64 a0_1, .int .i64 a0_2] 39 (0, 0)) (by (with_reducible repeat (first | refine blk_drewN ?_ _ | refine blk_drew ?_ | refine blk_alloc ?_ _)); exact BK1165.out)) : gb1165 ≠ gb1166)); have n6_ := Aside0.mk ((by rw [hg]; exact Nat.ne_of_gt (blk_lt (g := gb1165) (o := .cells #[.int .i64 a0_0, .int .i64 a0_1, .int .i64 a0_2] 39 (0, 0)) (by (with_reducible repeat (first | refine blk_drewN ?_ _ | refine blk_drew ?_ | refine blk_alloc ?_ _)); exact BK1165.out)) : gb1166 ≠ gb1165)); clear BK1165; clear HB; have BK1165 := n0_; have HB := n1_; have BK1166 := n2_; have GW1166 := n3_; have GE1166 := n4_; have NB1165_1166 := n5_; have NB1166_1165 := n6_; clear n0_ n1_ n2_ n3_ n4_ n5_ n6_; clear hb hbox hg) | ((with_reducible refine gate_dst (N := 6) rfl ?_); refine Kd.R_lit (Kd.int .i64) _ 3 ?hg (N := 6) ?hd (xs := ([a1] : List Int)) (inner := [.int .i64 a1]) (ok := fun _ => True) (okp := fun _ => True) ?hr ?hp (fun _ hk => hk) trivial (Below.refl _ _) (Nat.le_refl _) (by simp) ?_; (case hd => rfl); (case hg => rfl); (case hr => first | (go_simp; done) | (go_simp; rfl)); (case hp => exact (Reps.one (show Kd.M (Kd.int .i64) _ _ _ a1 [.int .i64 a1] from rfl) (Reps.none _ _))); intro v1168 w7 ho8 hb hg_ hnew_; clear hg_ hnew_; (first | rw [← Ny1167.out] at ho8 | (simp only [Int.reduceToNat] at ho8; rw [← Ny1167.out] at ho8)); have n0_ := Aside0.mk (Kd.R_lower ho8 (below_size (by repeat (first | (with_reducible first | exact HB.out | apply below_alloc | apply pw_below_drewN | apply below_drew1 | refine below_set ?_ GE1165.out | refine below_set ?_ GE1166.out) | exact HB.out)))); have n1_ := Aside0.mk (blk_below (g := gb1165) (o := .cells #[.int .i64 a0_0, .int .i64 a0_1, .int .i64 a0_2] 39 (0, 0)) (by (with_reducible repeat (first | refine blk_drewN ?_ _ | refine blk_drew ?_ | refine blk_alloc ?_ _)); exact BK1165.out) hb); have n2_ := Aside0.mk (blk_below (g := gb1166) (o := .cells #[.slice none 0 0, .int .i64 0] 64 (0, 0)) (by (with_reducible repeat (first | refine blk_drewN ?_ _ | refine blk_drew ?_ | refine blk_alloc ?_ _)); exact BK1166.out) hb); have n3_ := Aside0.mk (below_step (by repeat (first | (with_reducible first | exact HB.out | apply below_alloc | apply pw_below_drewN | apply below_drew1 | refine below_set ?_ GE1165.out | refine below_set ?_ GE1166.out) | exact HB.out)) hb); clear BK1165; clear BK1166; clear HB; have HO1169 := n0_; have BK1165 := n1_; have BK1166 := n2_; have HB := n3_; clear n0_ n1_ n2_ n3_; clear hb ho8; have hnb9 := NB1165_1166.out; have hnc9 := NB1166_1165.out; have hcz10_0 : w7.cell? ⟨gb1165, 0, none⟩ = some (.int .i64 a0_0) := (blk_cell BK1165.out 0).trans rfl; have hcz10_1 : w7.cell? ⟨gb1165, 1, none⟩ = some (.int .i64 a0_1) := (blk_cell BK1165.out 1).trans rfl; have hcz10_2 : w7.cell? ⟨gb1165, 2, none⟩ = some (.int .i64 a0_2) := (blk_cell BK1165.out 2).trans rfl; have hfz10_0 := blk_frozen BK1165.out 0; have hfz10_1 := blk_frozen BK1165.out 1; have hfz10_2 := blk_frozen BK1165.out 2) | ((with_reducible refine gate_callee (f := 274) rfl ?_); refine goesL_ (some 8) rfl rfl Try.func274 (by kernel_rfl) rfl #[.agg #[.int .i64 a0_0, .int .i64 a0_1, .int .i64 a0_2]] rfl (by (try simp only [List.map_toArray, List.map_cons, List.map_nil]); first | done | rfl | (simp only [List.length_drop, List.length_take]; rfl)) ?_; (with_reducible refine (impl_Isles_people.calls a0_0 a0_1 a0_2 t1170 _ A3.out).mono ?_); rintro e w11 ⟨rfl, hb⟩; refine ⟨_, rfl, ?_⟩; have n0_ := Aside0.mk (Kd.R_below (by (with_reducible repeat (first | apply Kd.R_alloc | apply Kd.R_drewN | apply Kd.R_drew)); exact HO1169.out) hb); have n1_ := Aside0.mk (blk_below (g := gb1165) (o := .cells #[.int .i64 a0_0, .int .i64 a0_1, .int .i64 a0_2] 39 (0, 0)) (by (with_reducible repeat (first | refine blk_drewN ?_ _ | refine blk_drew ?_ | refine blk_alloc ?_ _)); exact BK1165.out) hb); have n2_ := Aside0.mk (blk_below (g := gb1166) (o := .cells #[.slice none 0 0, .int .i64 0] 64 (0, 0)) (by (with_reducible repeat (first | refine blk_drewN ?_ _ | refine blk_drew ?_ | refine blk_alloc ?_ _)); exact BK1166.out) hb); have n3_ := Aside0.mk (below_step (by repeat (first | (with_reducible first | exact HB.out | apply below_alloc | apply pw_below_drewN | apply below_drew1 | refine below_set ?_ GE1165.out | refine below_set ?_ GE1166.out) | exact HB.out)) hb); clear HO1169; clear BK1165; clear BK1166; clear HB; have HO1169 := n0_; have BK1165 := n1_; have BK1166 := n2_; have HB := n3_; clear n0_ n1_ n2_ n3_; (try clear hb); (try clear hb2); (try clear hk); (try clear hi); obtain ⟨Ao12, co12, eo12⟩ := Kd.R_slice HO1169.out; subst eo12) | ((with_reducible refine gate_callee (f := 277) rfl ?_); refine goesL_ (some 9) rfl rfl Try.func277 (by kernel_rfl) rfl #[.slice Ao12 y1167.length co12, .int .i64 t1170] rfl (by (try simp only [List.map_toArray, List.map_cons, List.map_nil]); first | done | rfl | (simp only [List.length_drop, List.length_take]; rfl)) ?_; (with_reducible refine (slices_Repeat_int_int.calls _ _ y1167 t1170 t1171 _ ?side1 ?side2 A4.out).mono ?_); (case side1 => repeat (first | exact (Kd.R_reads' HO1169.out).2.2 | (with_reducible refine Kd.C_alloc ?_ _) | (with_reducible refine Kd.C_drewN ?_ _) | (with_reducible refine Kd.C_drew ?_))); (case side2 => exact (Kd.R_reads' HO1169.out).2.1); rintro e w13 ⟨v1172, rfl, ho0, hb⟩; refine ⟨_, rfl, ?_⟩; have n0_ := Aside0.mk (Kd.R_elder' (by (with_reducible repeat (first | apply Kd.R_alloc | apply Kd.R_drewN | apply Kd.R_drew)); exact HO1169.out) (Kd.R_base ho0) hb); have n1_ := Aside0.mk (Kd.R_lower (Kd.R_new' ho0 (Kd.R_lt (by (with_reducible repeat (first | apply Kd.R_alloc | apply Kd.R_drewN | apply Kd.R_drew)); exact HO1169.out))) (below_size (by repeat (first | (with_reducible first | exact HB.out | apply below_alloc | apply pw_below_drewN | apply below_drew1 | refine below_set ?_ GE1165.out | refine below_set ?_ GE1166.out) | exact HB.out)))); have n2_ := Aside0.mk (blk_below (g := gb1165) (o := .cells #[.int .i64 a0_0, .int .i64 a0_1, .int .i64 a0_2] 39 (0, 0)) (by (with_reducible repeat (first | refine blk_drewN ?_ _ | refine blk_drew ?_ | refine blk_alloc ?_ _)); exact BK1165.out) hb); have n3_ := Aside0.mk (blk_below (g := gb1166) (o := .cells #[.slice none 0 0, .int .i64 0] 64 (0, 0)) (by (with_reducible repeat (first | refine blk_drewN ?_ _ | refine blk_drew ?_ | refine blk_alloc ?_ _)); exact BK1166.out) hb); have n4_ := Aside0.mk (below_step (by repeat (first | (with_reducible first | exact HB.out | apply below_alloc | apply pw_below_drewN | apply below_drew1 | refine below_set ?_ GE1165.out | refine below_set ?_ GE1166.out) | exact HB.out)) hb); clear HO1169; clear BK1165; clear BK1166; clear HB; have HO1169 := n0_; have HO1173 := n1_; have BK1165 := n2_; have BK1166 := n3_; have HB := n4_; clear n0_ n1_ n2_ n3_ n4_; (try clear hb); (try clear hb2); (try clear hk); (try clear hi); (try clear ho0); obtain ⟨Ao14, co14, eo14⟩ := Kd.R_slice HO1173.out; subst eo14; have hcz15_0 : w13.cell? ⟨gb1166, 0, none⟩ = some (.slice none 0 0) := (blk_cell BK1166.out 0).trans rfl; have hcz15_1 : w13.cell? ⟨gb1166, 1, none⟩ = some (.int .i64 0) := (blk_cell BK1166.out 1).trans rfl; have hfz15_0 := blk_frozen BK1166.out 0; have hfz15_1 := blk_frozen BK1166.out 1))
  refine bodyPost_ret (results_cell_row rfl _ _ gb1166 64 #[.slice Ao14 t1171.length co14, .int .i64 a1] (0, 0) _ rfl (by (with_reducible repeat (first | refine blk_drewN ?_ _ | refine blk_drew ?_ | refine blk_alloc ?_ _)); refine blk_put (cs := #[.slice Ao14 t1171.length co14, .int .i64 0]) ?_ 1 _ rfl; (with_reducible repeat (first | refine blk_drewN ?_ _ | refine blk_drew ?_ | refine blk_alloc ?_ _)); refine blk_put (cs := #[.slice none 0 0, .int .i64 0]) ?_ 0 _ rfl; (with_reducible repeat (first | refine blk_drewN ?_ _ | refine blk_drew ?_ | refine blk_alloc ?_ _)); exact BK1166.out) Try.underlying64 rfl (by kernel_rfl)) rfl ?_
  exact ⟨_, by first | rfl | (simp [errW_none, errW_some] <;> rfl) | (simp [*, errW_none, errW_some] <;> rfl), by (with_reducible repeat (first | apply Kd.R_alloc | apply Kd.R_drewN | apply Kd.R_drew)); exact Kd.R_mono (Kd.R_far (p := ⟨gb1166, 1, none⟩) (Kd.R_far (p := ⟨gb1166, 0, none⟩) (Kd.R_types HO1173.out BK1166.out (by decide)) (fun _ hk => hk.2) (.slice Ao14 t1171.length co14)) (fun _ hk => hk.2) (.int .i64 a1)) (fun _ hk => trivial), by repeat (first | (with_reducible first | exact HB.out | apply below_alloc | apply pw_below_drewN | apply below_drew1 | refine below_set ?_ GE1165.out | refine below_set ?_ GE1166.out) | exact HB.out)⟩
end Go.Proofs.Ytlkjglanglpdoaa.T
namespace Go.Proofs.Ytlkjglanglpdoaa.T
open Go.RowKit Go.Proofs.YtlkjglanglpdoaaW.PrintWords Go.Proofs.YtlkjglanglpdoaaW.PrintLast Go.Proofs.YtlkjglanglpdoaaW.PrintMore
attribute [local go_sem] max2_int min2_int max_two min_two max_three min_three max_four min_four
set_option linter.unusedVariables false
set_option linter.unusedSimpArgs false
def impl_Isles_many.l0 : Nat → Int → Int → Int → Option (Int)
  | 0, _, _, _ => none
  | k + 1, x3, x5, x6 => if x6 < x5 then (impl_Isles_many.l0 k (wrap64 (x3 * 4)) x5 (wrap64 (x6 + 1))) else (some x3)
def impl_Isles_many.f (k : Nat) (a0_0 : Int) (a0_1 : Int) (a0_2 : Int) : Option (Int) := (impl_Isles_people.f a0_0 a0_1 a0_2).bind fun t2613 => (impl_Isles_many.l0 k 4 t2613 0)
theorem impl_Isles_many.mono_l : ∀ k, (∀ y0 y1 y2, LeO (impl_Isles_many.l0 k y0 y1 y2) (impl_Isles_many.l0 (k + 1) y0 y1 y2))
  | 0 => fun _ _ _ r h => by simp [impl_Isles_many.l0] at h
  | k + 1 => by
    have ih0 := impl_Isles_many.mono_l k
    · intro y0 y1 y2
      unfold impl_Isles_many.l0
      repeat' first
      | (with_reducible exact ih0 _ _ _)
      | (with_reducible exact LeO.refl _)
      | (with_reducible exact LeO.none _)
      | (with_reducible refine LeO.ite ?_ ?_)
      | (with_reducible refine LeO.bind ?_ (fun _ => ?_))
      | exact ih0 _ _ _
      | exact LeO.none _
      | refine LeO.ite ?_ ?_
      | refine LeO.bind ?_ (fun _ => ?_)
theorem impl_Isles_many.mono : ∀ a0 a1 a2 k, LeO (impl_Isles_many.f k a0 a1 a2) (impl_Isles_many.f (k + 1) a0 a1 a2) := by
  intro a0 a1 a2 k
  have ih0 := impl_Isles_many.mono_l k
  unfold impl_Isles_many.f
  repeat' first
      | (with_reducible exact ih0 _ _ _)
      | (with_reducible exact LeO.refl _)
      | (with_reducible exact LeO.none _)
      | (with_reducible refine LeO.ite ?_ ?_)
      | (with_reducible refine LeO.bind ?_ (fun _ => ?_))
      | exact ih0 _ _ _
      | exact LeO.none _
      | refine LeO.ite ?_ ?_
      | refine LeO.bind ?_ (fun _ => ?_)
set_option maxHeartbeats 8000000 in
set_option maxRecDepth 100000 in
theorem impl_Isles_many.calls (k : Nat) (a0_0 : Int) (a0_1 : Int) (a0_2 : Int) (r : Int) (w : World) (h : impl_Isles_many.f k a0_0 a0_1 a0_2 = some r) :
    Calls Try.prog 251 #[.agg #[.int .i64 a0_0, .int .i64 a0_1, .int .i64 a0_2]] w fun e w' => e = .returned (.int .i64 r) ∧ Below w.heap.size w w' := by
  have hu39 := Try.underlying39
  have HB := Aside0.mk (Below.refl w.heap.size w)
  have H : ((impl_Isles_people.f a0_0 a0_1 a0_2).bind fun t2613 => (impl_Isles_many.l0 k 4 t2613 0)) = some r := h
  clear h
  replace H := Option.bind_eq_some_iff.mp H
  obtain ⟨t2613, A20, H⟩ := H
  replace H : (impl_Isles_many.l0 k 4 t2613 0) = some r := H
  have A2 := Aside0.mk A20
  clear A20
  have H' := Aside0.mk H
  clear H
  go_enter Try.func251, Try.ntmps251
  go_wp2_with (first | ((with_reducible refine gate_dst (N := 1) rfl ?_); refine box_event ?hg (N := 1) ?hd (cs := #[.int .i64 a0_0, .int .i64 a0_1, .int .i64 a0_2]) (t := 39) ?hr ?_; (case hd => rfl); (case hg => rfl); (case hr => first | (go_simp; done) | (go_simp; rfl)); intro gb2612 hg w3 hbox hb; have n0_ := Aside0.mk (below_step (by repeat (first | (with_reducible first | exact HB.out | apply below_alloc | apply pw_below_drewN | apply below_drew1) | exact HB.out)) hb); have n1_ := Aside0.mk (hbox); have n2_ := Aside0.mk ((by rw [hg]; exact (below_size (by repeat (first | (with_reducible first | exact HB.out | apply below_alloc | apply pw_below_drewN | apply below_drew1) | exact HB.out))) : w.heap.size ≤ gb2612)); have n3_ := Aside0.mk ((by rw [hg]; exact (below_size (by repeat (first | (with_reducible first | exact HB.out | apply below_alloc | apply pw_below_drewN | apply below_drew1) | exact HB.out))) : w.heap.size ≤ gb2612)); clear HB; have HB := n0_; have BK2612 := n1_; have GW2612 := n2_; have GE2612 := n3_; clear n0_ n1_ n2_ n3_; clear hb hbox hg; have hcz4_0 : w3.cell? ⟨gb2612, 0, none⟩ = some (.int .i64 a0_0) := (blk_cell BK2612.out 0).trans rfl; have hcz4_1 : w3.cell? ⟨gb2612, 1, none⟩ = some (.int .i64 a0_1) := (blk_cell BK2612.out 1).trans rfl; have hcz4_2 : w3.cell? ⟨gb2612, 2, none⟩ = some (.int .i64 a0_2) := (blk_cell BK2612.out 2).trans rfl; have hfz4_0 := blk_frozen BK2612.out 0; have hfz4_1 := blk_frozen BK2612.out 1; have hfz4_2 := blk_frozen BK2612.out 2) | ((with_reducible refine gate_callee (f := 274) rfl ?_); refine goesL_ (some 5) rfl rfl Try.func274 (by kernel_rfl) rfl #[.agg #[.int .i64 a0_0, .int .i64 a0_1, .int .i64 a0_2]] rfl (by (try simp only [List.map_toArray, List.map_cons, List.map_nil]); first | done | rfl | (simp only [List.length_drop, List.length_take]; rfl)) ?_; (with_reducible refine (impl_Isles_people.calls a0_0 a0_1 a0_2 t2613 _ A2.out).mono ?_); rintro e w5 ⟨rfl, hb⟩; refine ⟨_, rfl, ?_⟩; have n0_ := Aside0.mk (blk_below (g := gb2612) (o := .cells #[.int .i64 a0_0, .int .i64 a0_1, .int .i64 a0_2] 39 (0, 0)) (by (with_reducible repeat (first | refine blk_drewN ?_ _ | refine blk_drew ?_ | refine blk_alloc ?_ _)); exact BK2612.out) hb); have n1_ := Aside0.mk (below_step (by repeat (first | (with_reducible first | exact HB.out | apply below_alloc | apply pw_below_drewN | apply below_drew1 | refine below_set ?_ GE2612.out) | exact HB.out)) hb); clear BK2612; clear HB; have BK2612 := n0_; have HB := n1_; clear n0_ n1_; (try clear hb); (try clear hb2); (try clear hk); (try clear hi)))
  go_loopg [3, 6] k (fun kq v3 v6 w' => ∃ (x3_1 : Int) (x6_1 : Int), v3 = .int .i64 x3_1 ∧ v6 = .int .i64 x6_1 ∧ Aside0 (impl_Isles_many.l0 kq x3_1 t2613 x6_1 = some r) ∧ Aside0 (kq ≤ k) ∧ Aside0 (w'.heap[gb2612]? = some (.cells #[.int .i64 a0_0, .int .i64 a0_1, .int .i64 a0_2] 39 (0, 0))) ∧ Aside0 (Below w.heap.size w w'))
  case atStart => exact ⟨(4), (0), (by first | rfl | (simp; done) | (simp [*]; done)), (by first | rfl | (simp; done) | (simp [*]; done)), H', ⟨Nat.le_refl _⟩, ⟨by (with_reducible repeat (first | refine blk_drewN ?_ _ | refine blk_drew ?_ | refine blk_alloc ?_ _)); exact BK2612.out⟩, ⟨by repeat (first | (with_reducible first | exact HB.out | apply below_alloc | apply pw_below_drewN | apply below_drew1 | refine below_set ?_ GE2612.out) | exact HB.out)⟩⟩
  case round =>
    clear H'
    try clear c2
    try clear p2
    try clear hcz4_0
    try clear hcz4_1
    try clear hcz4_2
    try clear hfz4_0
    try clear hfz4_1
    try clear hfz4_2
    obtain ⟨x3_1, x6_1, rfl, rfl, HA, HK1, BK2612, HB⟩ := hrel
    cases gk with
    | zero => exact absurd HA.out (by simp [impl_Isles_many.l0])
    | succ k1 =>
      have H := HA.out
      clear HA
      simp only [impl_Isles_many.l0] at H
      by_cases c6 : x6_1 < t2613
      · rw [if_pos c6] at H
        have c6b0 : decide (x6_1 < t2613) = true := decide_eq_true c6
        clear c6
        have H' := Aside0.mk H
        clear H
        go_wp2
        go_roundg k1
        case measure => have := HK1.out; omega
        case rel => exact ⟨(wrap64 (x3_1 * 4)), (wrap64 (x6_1 + 1)), (by first | rfl | (simp; done) | (simp [*]; done)), (by first | rfl | (simp; done) | (simp [*]; done)), H', ⟨by have := HK1.out; omega⟩, ⟨by (with_reducible repeat (first | refine blk_drewN ?_ _ | refine blk_drew ?_ | refine blk_alloc ?_ _)); exact BK2612.out⟩, ⟨by repeat (first | (with_reducible first | exact HB.out | apply below_alloc | apply pw_below_drewN | apply below_drew1 | refine below_set ?_ GE2612.out) | exact HB.out)⟩⟩
      · rw [if_neg c6] at H
        have c6b0 : decide (x6_1 < t2613) = false := decide_eq_false c6
        clear c6
        obtain rfl := Option.some.inj H
        go_wp2
        go_ret
        exact ⟨by first | rfl | (simp [errW_none, errW_some] <;> rfl) | (simp [*, errW_none, errW_some] <;> rfl), by repeat (first | (with_reducible first | exact HB.out | apply below_alloc | apply pw_below_drewN | apply below_drew1 | refine below_set ?_ GE2612.out) | exact HB.out)⟩
end Go.Proofs.Ytlkjglanglpdoaa.T
namespace Go.Proofs.Ytlkjglanglpdoaa.T
open Go.RowKit Go.Proofs.YtlkjglanglpdoaaW.PrintWords Go.Proofs.YtlkjglanglpdoaaW.PrintLast Go.Proofs.YtlkjglanglpdoaaW.PrintMore
set_option linter.unusedVariables false
set_option linter.unusedSimpArgs false
def standFrom (p : Int) : Int → List Int → List Int
  | _, [] => []
  | i, x :: xs => if x = p then i :: standFrom p (i + 1) xs else standFrom p (i + 1) xs
def stand (at_ : List Int) (p : Int) : List Int := standFrom p 0 at_
def gone (at_ : List Int) (tt : Int) (l : List Int) : List Int := l.foldl (fun a k => a.set k.toNat tt) at_
def calmAt (n : Nat) (at_ : List Int) : Bool := (List.range n).all fun p => calmL (stand at_ (p : Int))
def codeB (base : Int) (at_ : List Int) (b : Int) : Int := at_.foldl (fun c x => c * base + x) b
theorem rd_cons_drop (l : List Int) (i : Nat) (h : i < l.length) : l.drop i = rd l (i : Int) :: l.drop (i + 1) := by
  unfold rd
  rw [Int.toNat_natCast, List.getD_eq_getElem?_getD, List.getElem?_eq_getElem h]
  exact (List.getElem_cons_drop h).symm
theorem standFrom_length (p : Int) : ∀ (l : List Int) (i : Int), (standFrom p i l).length ≤ l.length
  | [], _ => Nat.le_refl _
  | x :: xs, i => by
    unfold standFrom
    have := standFrom_length p xs (i + 1)
    split <;> simp <;> omega
theorem standing_l0 (at_ : List Int) (p : Int) (hl : at_.length ≤ 1048576) : ∀ (d k i : Nat) (out : List Int), i + d = at_.length → d < k → out.length ≤ i →
    impl_Places_standing.l0 k p out at_ (at_.length : Int) (i : Int) = some (out ++ standFrom p (i : Int) (at_.drop i)) := by
  intro d
  induction d with
  | zero =>
    intro k i out hi hk ho
    obtain ⟨k, rfl⟩ : ∃ m, k = m + 1 := ⟨k - 1, by omega⟩
    simp only [impl_Places_standing.l0]
    rw [if_neg (by omega), List.drop_eq_nil_of_le (by omega)]
    simp [standFrom]
  | succ d ih =>
    intro k i out hi hk ho
    obtain ⟨k, rfl⟩ : ∃ m, k = m + 1 := ⟨k - 1, by omega⟩
    have hlt : i < at_.length := by omega
    simp only [impl_Places_standing.l0]
    rw [if_pos (by omega), if_pos (by omega), if_pos (by omega), rd_cons_drop at_ i hlt, wrap_up (i : Int) (at_.length : Int) (by omega) (by omega) (by omega)]
    by_cases he : rd at_ (i : Int) = p
    · rw [if_pos he, if_pos (by omega)]
      have := ih k (i + 1) (out ++ [(i : Int)]) (by omega) (by omega) (by simp; omega)
      rw [show ((i : Int) + 1) = ((i + 1 : Nat) : Int) from by push_cast; rfl, this]
      simp only [standFrom, if_pos he]
      push_cast
      simp
    · rw [if_neg he]
      have := ih k (i + 1) out (by omega) (by omega) (by omega)
      rw [show ((i : Int) + 1) = ((i + 1 : Nat) : Int) from by push_cast; rfl, this]
      simp only [standFrom, if_neg he]
      push_cast
      rfl
theorem standing_eq (at_ : List Int) (b p : Int) (hl : at_.length ≤ 1048576) (k : Nat) (hk : at_.length < k) : impl_Places_standing.f k at_ b p = some (stand at_ p) := by
  unfold impl_Places_standing.f stand
  have := standing_l0 at_ p hl at_.length k 0 [] (by omega) hk (by simp)
  simpa using this
theorem gone_length (tt : Int) : ∀ (l at_ : List Int), (gone at_ tt l).length = at_.length
  | [], _ => rfl
  | k :: l, at_ => by
    show (gone (at_.set k.toNat tt) tt l).length = _
    rw [gone_length tt l, List.length_set]
theorem behind_l0 (tt : Int) (b : Int) (l : List Int) (hl : l.length ≤ 1048576) : ∀ (d k i : Nat) (at_ : List Int), i + d = l.length → d < k → (∀ x ∈ l.drop i, 0 ≤ x ∧ x < (at_.length : Int)) →
    impl_Places_behind.l0 k tt l (l.length : Int) (i : Int) at_ b = some (gone at_ tt (l.drop i), b) := by
  intro d
  induction d with
  | zero =>
    intro k i at_ hi hk hx
    obtain ⟨k, rfl⟩ : ∃ m, k = m + 1 := ⟨k - 1, by omega⟩
    simp only [impl_Places_behind.l0]
    rw [if_neg (by omega), List.drop_eq_nil_of_le (by omega)]
    rfl
  | succ d ih =>
    intro k i at_ hi hk hx
    obtain ⟨k, rfl⟩ : ∃ m, k = m + 1 := ⟨k - 1, by omega⟩
    have hlt : i < l.length := by omega
    rw [rd_cons_drop l i hlt] at hx ⊢
    have h0 := hx _ (List.mem_cons_self)
    simp only [impl_Places_behind.l0]
    rw [if_pos (by omega), if_pos (by omega), if_pos (by omega), if_pos h0.1, if_pos h0.2, wrap_up (i : Int) (l.length : Int) (by omega) (by omega) (by omega)]
    have := ih k (i + 1) (at_.set (rd l (i : Int)).toNat tt) (by omega) (by omega) (fun x hm => by rw [List.length_set]; exact hx x (List.mem_cons_of_mem _ hm))
    rw [show ((i : Int) + 1) = ((i + 1 : Nat) : Int) from by push_cast; rfl, this]
    rfl
theorem behind_eq (at_ : List Int) (b tt : Int) (l : List Int) (ha : at_.length ≤ 1048576) (hl : l.length ≤ 1048576) (hx : ∀ x ∈ l, 0 ≤ x ∧ x < (at_.length : Int)) (k : Nat) (hk : l.length < k) : impl_Places_behind.f k at_ b tt l = some (gone at_ tt l, tt) := by
  unfold impl_Places_behind.f slices_Clone_int_int.f
  rw [if_pos (by omega), Option.bind_some]
  have := behind_l0 tt tt l hl l.length k 0 at_ (by omega) hk (by simpa using hx)
  simpa using this
theorem areCalm_l0 (at_ : List Int) (b : Int) (hl : at_.length ≤ 1048576) (n : Nat) (hn : n ≤ 1048576) : ∀ (d k i : Nat), i + d = n → d + at_.length < k →
    impl_Isles_areCalm.l0 k (n : Int) (i : Int) at_ b = some ((List.range' i d).all fun p => calmL (stand at_ (p : Int))) := by
  intro d
  induction d with
  | zero =>
    intro k i hi hk
    obtain ⟨k, rfl⟩ : ∃ m, k = m + 1 := ⟨k - 1, by omega⟩
    simp only [impl_Isles_areCalm.l0]
    rw [if_neg (by omega)]; rfl
  | succ d ih =>
    intro k i hi hk
    obtain ⟨k, rfl⟩ : ∃ m, k = m + 1 := ⟨k - 1, by omega⟩
    simp only [impl_Isles_areCalm.l0]
    rw [if_pos (by omega), standing_eq at_ b (i : Int) hl k (by omega), Option.bind_some]
    show (if calmL (stand at_ (i : Int)) = true then _ else _) = _
    rw [List.range'_succ, List.all_cons]
    cases hc : calmL (stand at_ (i : Int))
    · simp
    · rw [if_pos rfl, wrap_up (i : Int) (n : Int) (by omega) (by omega) (by omega)]
      have := ih k (i + 1) (by omega) (by omega)
      rw [show ((i : Int) + 1) = ((i + 1 : Nat) : Int) from by push_cast; rfl, this]
      simp
theorem areCalm_eq (a0 a1 a2 : Int) (at_ : List Int) (b : Int) (hl : at_.length ≤ 1048576) (h0 : 0 ≤ a2) (h1 : a2 ≤ 2) (k : Nat) (hk : 4 + at_.length < k) : impl_Isles_areCalm.f k a0 a1 a2 at_ b = some (calmAt (a2 + 2).toNat at_) := by
  unfold impl_Isles_areCalm.f impl_Isles_far.f
  rw [Option.bind_some]
  have e : wrap64 (wrap64 (a2 + 1) + 1) = ((a2 + 2).toNat : Int) := by unfold wrap64; omega
  rw [e]
  have := areCalm_l0 at_ b hl (a2 + 2).toNat (by omega) (a2 + 2).toNat k 0 (by omega) (by omega)
  rw [show ((0 : Nat) : Int) = 0 from rfl] at this
  rw [this]
  unfold calmAt
  rw [List.range_eq_range']
theorem code_l0 (at_ : List Int) (hl : at_.length ≤ 6) (hx : ∀ x ∈ at_, 0 ≤ x ∧ x ≤ 3) : ∀ (d k i : Nat) (c : Int), i + d = at_.length → d < k → 0 ≤ c → c < 4 ^ (i + 1) →
    impl_Places_code.l0 k c at_ (at_.length : Int) (i : Int) = some (codeB 4 (at_.drop i) c) := by
  intro d
  induction d with
  | zero =>
    intro k i c hi hk h0 h1
    obtain ⟨k, rfl⟩ : ∃ m, k = m + 1 := ⟨k - 1, by omega⟩
    simp only [impl_Places_code.l0]
    rw [if_neg (by omega), List.drop_eq_nil_of_le (by omega)]; rfl
  | succ d ih =>
    intro k i c hi hk h0 h1
    obtain ⟨k, rfl⟩ : ∃ m, k = m + 1 := ⟨k - 1, by omega⟩
    have hlt : i < at_.length := by omega
    have hr := hx _ (rd_mem at_ i hlt)
    have hp : (4 : Int) ^ (i + 1) ≤ 4 ^ 6 := by
      have : i + 1 ≤ 6 := by omega
      exact_mod_cast Nat.pow_le_pow_right (by omega : 0 < 4) this
    have hp2 : (4 : Int) ^ (i + 1 + 1) = 4 ^ (i + 1) * 4 := by rw [Int.pow_succ]
    have e : wrap64 (wrap64 (c * 4) + rd at_ (i : Int)) = c * 4 + rd at_ (i : Int) := by unfold wrap64; omega
    simp only [impl_Places_code.l0]
    rw [if_pos (by omega), if_pos (by omega), if_pos (by omega), e, wrap_up (i : Int) (at_.length : Int) (by omega) (by omega) (by omega)]
    have := ih k (i + 1) (c * 4 + rd at_ (i : Int)) (by omega) (by omega) (by omega) (by rw [hp2]; omega)
    rw [show ((i : Int) + 1) = ((i + 1 : Nat) : Int) from by push_cast; rfl, this, rd_cons_drop at_ i hlt]
    rfl
theorem code_eq (at_ : List Int) (b : Int) (hl : at_.length ≤ 6) (hx : ∀ x ∈ at_, 0 ≤ x ∧ x ≤ 3) (hb : 0 ≤ b ∧ b ≤ 3) (k : Nat) (hk : at_.length < k) : impl_Places_code.f k at_ b = some (codeB 4 at_ b) := by
  unfold impl_Places_code.f
  have := code_l0 at_ hl hx at_.length k 0 b (by omega) hk hb.1 (by simp; omega)
  simpa using this
end Go.Proofs.Ytlkjglanglpdoaa.T
namespace Go.Proofs.Ytlkjglanglpdoaa.T
open Go.RowKit Go.Proofs.YtlkjglanglpdoaaW.PrintWords Go.Proofs.YtlkjglanglpdoaaW.PrintLast Go.Proofs.YtlkjglanglpdoaaW.PrintMore
set_option linter.unusedVariables false
set_option linter.unusedSimpArgs false
theorem codeB_nonneg (B : Int) (hB : 0 ≤ B) : ∀ (l : List Int) (b : Int), 0 ≤ b → (∀ x ∈ l, 0 ≤ x) → 0 ≤ codeB B l b
  | [], b, hb, _ => hb
  | x :: xs, b, hb, hx => codeB_nonneg B hB xs (b * B + x) (Int.add_nonneg (Int.mul_nonneg hb hB) (hx x List.mem_cons_self)) (fun y hy => hx y (List.mem_cons_of_mem _ hy))
theorem codeB_lt (B : Int) (hB : 1 ≤ B) : ∀ (l : List Int) (b : Int) (m : Nat), 0 ≤ b → b < B ^ m → (∀ x ∈ l, 0 ≤ x ∧ x < B) → codeB B l b < B ^ (m + l.length)
  | [], b, m, hb, h, _ => h
  | x :: xs, b, m, hb, h, hx => by
    have h0 := hx x List.mem_cons_self
    have := codeB_lt B hB xs (b * B + x) (m + 1) (Int.add_nonneg (Int.mul_nonneg hb (by omega)) h0.1) (by
      rw [Int.pow_succ]
      have h1 : b + 1 ≤ B ^ m := h
      have h2 : (b + 1) * B ≤ B ^ m * B := Int.mul_le_mul_of_nonneg_right h1 (by omega)
      rw [Int.add_mul, Int.one_mul] at h2
      omega) (fun y hy => hx y (List.mem_cons_of_mem _ hy))
    rw [show m + (x :: xs).length = m + 1 + xs.length from by simp; omega]
    exact this
theorem codeB_snoc (B : Int) (l : List Int) (x b : Int) : codeB B (l ++ [x]) b = codeB B l b * B + x := by
  unfold codeB; rw [List.foldl_append]; rfl
theorem codeB_inj (B : Int) (hB : 1 ≤ B) : ∀ (n : Nat) (l l' : List Int) (b b' : Int), l.length = n → l'.length = n → (∀ x ∈ l, 0 ≤ x ∧ x < B) → (∀ x ∈ l', 0 ≤ x ∧ x < B) → 0 ≤ b → 0 ≤ b' → codeB B l b = codeB B l' b' → l = l' ∧ b = b' := by
  intro n
  induction n with
  | zero =>
    intro l l' b b' hl hl' _ _ _ _ h
    rw [List.length_eq_zero_iff] at hl hl'
    subst hl; subst hl'
    exact ⟨rfl, h⟩
  | succ n ih =>
    intro l l' b b' hl hl' hx hx' hb hb' h
    obtain ⟨m, x, rfl⟩ : ∃ m x, l = m ++ [x] := ⟨l.dropLast, l.getLast (by rintro rfl; simp at hl), (List.dropLast_concat_getLast _).symm⟩
    obtain ⟨m', x', rfl⟩ : ∃ m x, l' = m ++ [x] := ⟨l'.dropLast, l'.getLast (by rintro rfl; simp at hl'), (List.dropLast_concat_getLast _).symm⟩
    rw [codeB_snoc, codeB_snoc] at h
    have h0 := hx x (by simp)
    have h0' := hx' x' (by simp)
    have e : x = x' ∧ codeB B m b = codeB B m' b' := by
      have h1 : (codeB B m b * B + x) % B = x := by rw [Int.add_comm, Int.add_mul_emod_self_right]; exact Int.emod_eq_of_lt h0.1 h0.2
      have h2 : (codeB B m' b' * B + x') % B = x' := by rw [Int.add_comm, Int.add_mul_emod_self_right]; exact Int.emod_eq_of_lt h0'.1 h0'.2
      have h3 : x = x' := by rw [← h1, ← h2, h]
      subst h3
      refine ⟨rfl, ?_⟩
      have h4 : codeB B m b * B = codeB B m' b' * B := by omega
      exact Int.eq_of_mul_eq_mul_right (by omega) h4
    clear h
    obtain ⟨rfl, h⟩ := e
    obtain ⟨rfl, rfl⟩ := ih m m' b b' (by simpa using hl) (by simpa using hl') (fun y hy => hx y (by simp [hy])) (fun y hy => hx' y (by simp [hy])) hb hb' h
    exact ⟨rfl, rfl⟩
theorem take_snoc (l : List Int) (i : Nat) (h : i < l.length) : l.take (i + 1) = l.take i ++ [rd l (i : Int)] := by
  rw [List.take_succ_eq_append_getElem h]
  unfold rd
  rw [Int.toNat_natCast, List.getD_eq_getElem?_getD, List.getElem?_eq_getElem h]; rfl
structure PlOk (n : Nat) (f : Int) (at_ : List Int) (b : Int) : Prop where
  len : at_.length = n
  ats : ∀ x ∈ at_, 0 ≤ x ∧ x ≤ f
  boat : 0 ≤ b ∧ b ≤ f
theorem places_l0 (at_ : List Int) (b : Int) (hl : at_.length ≤ 6) (hx : ∀ x ∈ at_, 0 ≤ x ∧ x ≤ 3) (hb : 0 ≤ b ∧ b ≤ 3) : ∀ (i k : Nat), i ≤ at_.length → i < k →
    impl_Isles_places.l0 k (codeB 4 (at_.take i) b) ((i : Int) - 1) (List.replicate i 0 ++ at_.drop i) 0 = some (at_, b) := by
  intro i
  induction i with
  | zero =>
    intro k hi hk
    obtain ⟨k, rfl⟩ : ∃ m, k = m + 1 := ⟨k - 1, by omega⟩
    simp only [impl_Isles_places.l0]
    rw [if_neg (by omega)]
    simp [codeB]
  | succ i ih =>
    intro k hi hk
    obtain ⟨k, rfl⟩ : ∃ m, k = m + 1 := ⟨k - 1, by omega⟩
    have hlt : i < at_.length := by omega
    have hr := hx _ (rd_mem at_ i hlt)
    have hn : 0 ≤ codeB 4 (at_.take i) b := codeB_nonneg 4 (by omega) _ _ hb.1 (fun x hm => (hx x (List.mem_of_mem_take hm)).1)
    have hlt2 : codeB 4 (at_.take i) b < 4 ^ (1 + (at_.take i).length) := codeB_lt 4 (by omega) _ _ 1 hb.1 (by omega) (fun x hm => by have := hx x (List.mem_of_mem_take hm); omega)
    have hp : (4 : Int) ^ (1 + (at_.take i).length) ≤ 4 ^ 7 := by
      have : 1 + (at_.take i).length ≤ 7 := by rw [List.length_take]; omega
      exact_mod_cast Nat.pow_le_pow_right (by omega : 0 < 4) this
    have hcode : codeB 4 (at_.take (i + 1)) b = codeB 4 (at_.take i) b * 4 + rd at_ (i : Int) := by rw [take_snoc at_ i hlt, codeB_snoc]
    have hm : Int.tmod (codeB 4 (at_.take i) b * 4 + rd at_ (i : Int)) 4 = rd at_ (i : Int) := by
      rw [Int.tmod_eq_emod_of_nonneg (by omega)]; omega
    have hd : wrap64 (Int.tdiv (codeB 4 (at_.take i) b * 4 + rd at_ (i : Int)) 4) = codeB 4 (at_.take i) b := by
      rw [Int.tdiv_eq_ediv_of_nonneg (by omega)]; unfold wrap64; omega
    have hlen : (List.replicate (i + 1) (0 : Int) ++ at_.drop (i + 1)).length = at_.length := by simp; omega
    simp only [impl_Isles_places.l0]
    have ee : ((i + 1 : Nat) : Int) - 1 = (i : Int) := by omega
    rw [ee, if_pos (by omega), if_pos (by omega), hlen, if_pos (by omega), hcode, hm, hd]
    have hset : (List.replicate (i + 1) (0 : Int) ++ at_.drop (i + 1)).set ((i : Int).toNat) (rd at_ (i : Int)) = List.replicate i 0 ++ at_.drop i := by
      rw [Int.toNat_natCast, rd_cons_drop at_ i hlt, List.replicate_succ', List.append_assoc, List.set_append_right (s := List.replicate i (0 : Int)) (h := by simp)]
      simp
    rw [hset, show wrap64 ((i : Int) - 1) = (i : Int) - 1 from by unfold wrap64; omega]
    exact ih k (by omega) (by omega)
theorem places_eq (a0 a1 a2 : Int) (at_ : List Int) (b : Int) (h0 : 1 ≤ a0 ∧ a0 ≤ 3) (hl : at_.length = (2 * a0).toNat) (hx : ∀ x ∈ at_, 0 ≤ x ∧ x ≤ 3) (hb : 0 ≤ b ∧ b ≤ 3) (k : Nat) (hk : at_.length < k) :
    impl_Isles_places.f k a0 a1 a2 (codeB 4 at_ b) = some (at_, b) := by
  unfold impl_Isles_places.f impl_Isles_people.f
  have e : wrap64 (2 * a0) = 2 * a0 := by unfold wrap64; omega
  simp only [Option.bind_some, e]
  rw [if_pos (by omega), if_pos (by omega)]
  have := places_l0 at_ b (by omega) hx hb at_.length k (Nat.le_refl _) hk
  rw [List.take_length, List.drop_length, List.append_nil, hl] at this
  rw [show wrap64 (2 * a0 - 1) = (((2 * a0).toNat : Nat) : Int) - 1 from by unfold wrap64; omega]
  exact this
theorem many_l0 (n : Nat) (hn : n ≤ 6) : ∀ (d k i : Nat), i + d = n → d < k → impl_Isles_many.l0 k (4 ^ (i + 1)) (n : Int) (i : Int) = some (4 ^ (n + 1)) := by
  intro d
  induction d with
  | zero =>
    intro k i hi hk
    obtain ⟨k, rfl⟩ : ∃ m, k = m + 1 := ⟨k - 1, by omega⟩
    simp only [impl_Isles_many.l0]
    rw [if_neg (by omega)]
    rw [show i = n from by omega]
  | succ d ih =>
    intro k i hi hk
    obtain ⟨k, rfl⟩ : ∃ m, k = m + 1 := ⟨k - 1, by omega⟩
    have hp : (4 : Int) ^ (i + 1) ≤ 4 ^ 6 := by
      have : i + 1 ≤ 6 := by omega
      exact_mod_cast Nat.pow_le_pow_right (by omega : 0 < 4) this
    have hp0 : (0 : Int) < 4 ^ (i + 1) := Int.pow_pos (by omega)
    simp only [impl_Isles_many.l0]
    rw [if_pos (by omega), wrap_up (i : Int) (n : Int) (by omega) (by omega) (by omega), show wrap64 (4 ^ (i + 1) * 4) = 4 ^ (i + 1 + 1) from by rw [Int.pow_succ 4 (i + 1)]; unfold wrap64; omega]
    have := ih k (i + 1) (by omega) (by omega)
    rw [show ((i : Int) + 1) = ((i + 1 : Nat) : Int) from by push_cast; rfl, this]
theorem many_eq (a0 a1 a2 : Int) (h0 : 1 ≤ a0 ∧ a0 ≤ 3) (k : Nat) (hk : 6 < k) : impl_Isles_many.f k a0 a1 a2 = some (4 ^ ((2 * a0).toNat + 1)) := by
  unfold impl_Isles_many.f impl_Isles_people.f
  rw [Option.bind_some, show wrap64 (2 * a0) = (((2 * a0).toNat : Nat) : Int) from by unfold wrap64; omega]
  exact many_l0 (2 * a0).toNat (by omega) (2 * a0).toNat k 0 (by omega) (by omega)
theorem allIn_eq (a0 a1 a2 p : Int) (h0 : 1 ≤ a0 ∧ a0 ≤ 3) : impl_Isles_allIn.f a0 a1 a2 p = some (List.replicate (2 * a0).toNat p, p) := by
  unfold impl_Isles_allIn.f impl_Isles_people.f slices_Repeat_int_int.f
  rw [Option.bind_some, show wrap64 (2 * a0) = 2 * a0 from by unfold wrap64; omega, if_pos (by simp; omega)]
  simp [rd]
end Go.Proofs.Ytlkjglanglpdoaa.T
namespace Go.Proofs.Ytlkjglanglpdoaa.T
inductive Way (E : Nat → List (Nat × Nat)) : Nat → Nat → Nat → Prop
  | nil (s : Nat) : Way E s s 0
  | snoc {a b c d k : Nat} : Way E a b d → (c, k) ∈ E b → Way E a c (d + k)
theorem Way.one {E : Nat → List (Nat × Nat)} {a c k : Nat} (h : (c, k) ∈ E a) : Way E a c k := by
  have := Way.snoc (Way.nil a) h
  rwa [Nat.zero_add] at this
theorem Way.trans {E : Nat → List (Nat × Nat)} {a b c d e : Nat} (h : Way E a b d) (h' : Way E b c e) : Way E a c (d + e) := by
  induction h' with
  | nil => exact h
  | snoc _ hm ih => rw [← Nat.add_assoc]; exact .snoc ih hm
theorem Way.cons {E : Nat → List (Nat × Nat)} {a b c k e : Nat} (h : (b, k) ∈ E a) (h' : Way E b c e) : Way E a c (k + e) := (Way.one h).trans h'
theorem Way.keeps {E : Nat → List (Nat × Nat)} {G : Nat → Prop} (hE : ∀ s, G s → ∀ t k, (t, k) ∈ E s → G t) {a b d : Nat} (h : Way E a b d) (ha : G a) : G b := by
  induction h with
  | nil => exact ha
  | snoc _ hm ih => exact hE _ ih _ _ hm
def IsLeast (E : Nat → List (Nat × Nat)) (a s : Nat) (x : Int) : Prop :=
  (x = -1 ∧ ∀ d, ¬ Way E a s d) ∨ (∃ n : Nat, x = n ∧ Way E a s n ∧ ∀ d, Way E a s d → n ≤ d)
theorem IsLeast.unique {E : Nat → List (Nat × Nat)} {a s : Nat} {x y : Int} (h : IsLeast E a s x) (h' : IsLeast E a s y) : x = y := by
  rcases h with ⟨rfl, h⟩ | ⟨n, rfl, hw, hl⟩ <;> rcases h' with ⟨rfl, h'⟩ | ⟨m, rfl, hw', hl'⟩
  · rfl
  · exact absurd hw' (h _)
  · exact absurd hw (h' _)
  · have := hl _ hw'; have := hl' _ hw; omega
theorem IsLeast.exists (E : Nat → List (Nat × Nat)) (a s : Nat) : ∃ x, IsLeast E a s x := by
  by_cases h : ∃ d, Way E a s d
  · obtain ⟨d, hd⟩ := h
    have key : ∀ n, (∃ d, d < n ∧ Way E a s d) → ∃ m, Way E a s m ∧ ∀ d, Way E a s d → m ≤ d := by
      intro n
      induction n with
      | zero => rintro ⟨d, h, _⟩; omega
      | succ n ih =>
        rintro ⟨d, h, hw⟩
        by_cases hs : ∃ d, d < n ∧ Way E a s d
        · exact ih hs
        · refine ⟨d, hw, fun e he => ?_⟩
          rcases Nat.lt_or_ge e d with hl | hl
          · exact absurd ⟨e, by omega, he⟩ hs
          · exact hl
    obtain ⟨m, hm, hl⟩ := key (d + 1) ⟨d, by omega, hd⟩
    exact ⟨m, .inr ⟨m, rfl, hm, hl⟩⟩
  · exact ⟨-1, .inl ⟨rfl, fun d hd => h ⟨d, hd⟩⟩⟩
noncomputable def least (E : Nat → List (Nat × Nat)) (a s : Nat) : Int := Classical.choose (IsLeast.exists E a s)
theorem least_is (E : Nat → List (Nat × Nat)) (a s : Nat) : IsLeast E a s (least E a s) := Classical.choose_spec (IsLeast.exists E a s)
theorem least_eq {E : Nat → List (Nat × Nat)} {a s : Nat} {x : Int} (h : IsLeast E a s x) : least E a s = x := (least_is E a s).unique h
theorem least_of_closed {E : Nat → List (Nat × Nat)} {a : Nat} (f : Nat → Int) (h0 : f a = 0)
    (hw : ∀ s, 0 ≤ f s → Way E a s (f s).toNat) (hn : ∀ s, f s < 0 → f s = -1)
    (he : ∀ s, 0 ≤ f s → ∀ t k, (t, k) ∈ E s → 0 ≤ f t ∧ f t ≤ f s + k) : ∀ s, f s = least E a s := by
  have key : ∀ s d, Way E a s d → 0 ≤ f s ∧ f s ≤ d := by
    intro s d h
    induction h with
    | nil => omega
    | snoc _ hm ih => have := he _ ih.1 _ _ hm; omega
  intro s
  symm
  rcases Int.lt_or_le (f s) 0 with h | h
  · exact least_eq (.inl ⟨hn s h, fun d hd => by have := (key s d hd).1; omega⟩)
  · exact least_eq (.inr ⟨(f s).toNat, by omega, hw s h, fun d hd => by have := (key s d hd).2; omega⟩)
theorem Way.back {E : Nat → List (Nat × Nat)} {G : Nat → Prop} (hE : ∀ s, G s → ∀ t k, (t, k) ∈ E s → G t ∧ (s, k) ∈ E t) {a b d : Nat} (h : Way E a b d) (ha : G a) : Way E b a d := by
  have hk : ∀ {b d}, Way E a b d → G b := fun h => h.keeps (fun s hs t k hm => (hE s hs t k hm).1) ha
  induction h with
  | nil => exact .nil _
  | snoc hw hm ih => rw [Nat.add_comm]; exact .cons (hE _ (hk hw) _ _ hm).2 ih
theorem least_back {E : Nat → List (Nat × Nat)} {G : Nat → Prop} (hE : ∀ s, G s → ∀ t k, (t, k) ∈ E s → G t ∧ (s, k) ∈ E t) {a b : Nat} (ha : G a) (hb : G b) : least E a b = least E b a := by
  rcases least_is E a b with ⟨h, hn⟩ | ⟨n, h, hw, hl⟩
  · rw [h]; exact (least_eq (.inl ⟨rfl, fun d hd => hn d (hd.back hE hb)⟩)).symm
  · rw [h]; exact (least_eq (.inr ⟨n, rfl, hw.back hE ha, fun d hd => hl d (hd.back hE hb)⟩)).symm
theorem Way.over {E F : Nat → List (Nat × Nat)} {G : Nat → Prop} (c : Nat → Nat) (hE : ∀ s, G s → ∀ t k, (t, k) ∈ E s → G t ∧ (c t, k) ∈ F (c s)) {a b d : Nat} (h : Way E a b d) (ha : G a) : Way F (c a) (c b) d := by
  have hk : ∀ {b d}, Way E a b d → G b := fun h => h.keeps (fun s hs t k hm => (hE s hs t k hm).1) ha
  induction h with
  | nil => exact .nil _
  | snoc hw hm ih => exact .snoc ih (hE _ (hk hw) _ _ hm).2
end Go.Proofs.Ytlkjglanglpdoaa.T
namespace Go.Proofs.Ytlkjglanglpdoaa.T
open Go.RowKit Go.Proofs.YtlkjglanglpdoaaW.PrintWords
set_option linter.unusedSimpArgs false
def at2 (Wl : List (List Int)) (c : Nat) : List Int := Wl.getD c []
def settled (ds : List Int) : Nat := ds.countP fun x => decide (0 ≤ x)
def Pend (Wl : List (List Int)) (d i c t : Nat) : Prop := (d < c ∧ (t : Int) ∈ at2 Wl c) ∨ (c = d ∧ (t : Int) ∈ (at2 Wl d).drop i)
structure Srch (E : Nat → List (Nat × Nat)) (G : Nat → Prop) (many C K st0 : Nat) (ds : List Int) (Wl : List (List Int)) (d i x p r : Nat) : Prop where
  len : ds.length = many
  dist : ∀ s : Nat, s < many → rd ds s = -1 ∨ (0 ≤ rd ds s ∧ rd ds s ≤ d ∧ G s ∧ Way E st0 s (rd ds s).toNat)
  wait : ∀ c y, y ∈ at2 Wl c → ∃ s : Nat, y = s ∧ s < many ∧ G s ∧ Way E st0 s c
  first : rd ds st0 = 0 ∨ Pend Wl d i 0 st0
  edge : ∀ s : Nat, s < many → 0 ≤ rd ds s → ∀ q t k : Nat, (E s)[q]? = some (t, k) → (s = x → q < p) → (0 ≤ rd ds t ∧ rd ds t ≤ rd ds s + k) ∨ Pend Wl d i ((rd ds s).toNat + k) t
  long : Wl.length ≤ settled ds * C + 1
  wide : ∀ c, (at2 Wl c).length + r ≤ settled ds * K + 1
  deep : x < many → d + C ≤ settled ds * C
theorem rd_nat (ds : List Int) (s : Nat) (h : s < ds.length) : rd ds s = ds[s] := by
  unfold rd
  rw [Int.toNat_natCast, List.getD_eq_getElem?_getD, List.getElem?_eq_getElem h]; rfl
theorem rd_set (ds : List Int) (s t : Nat) (v : Int) (h : s < ds.length) : rd (ds.set s v) t = if s = t then v else rd ds t := by
  unfold rd
  simp only [Int.toNat_natCast, List.getD_eq_getElem?_getD, List.getElem?_set]
  split
  · subst_vars; simp [h]
  · rfl
theorem settled_set (ds : List Int) (s : Nat) (v : Int) (h : s < ds.length) (h0 : rd ds s < 0) (hv : 0 ≤ v) : settled (ds.set s v) = settled ds + 1 := by
  rw [rd_nat ds s h] at h0
  unfold settled
  rw [List.countP_set h]
  have e1 : decide (0 ≤ ds[s]) = false := decide_eq_false (by omega)
  have e2 : decide (0 ≤ v) = true := decide_eq_true hv
  simp [e1, e2]
theorem settled_le (ds : List Int) : settled ds ≤ ds.length := List.countP_le_length
theorem at2_set (Wl : List (List Int)) (c e : Nat) (l : List Int) (h : c < Wl.length) : at2 (Wl.set c l) e = if c = e then l else at2 Wl e := by
  unfold at2
  simp only [List.getD_eq_getElem?_getD, List.getElem?_set]
  split
  · subst_vars; simp [h]
  · rfl
theorem at2_pad (Wl : List (List Int)) (e : Nat) : at2 (Wl ++ [[]]) e = at2 Wl e := by
  unfold at2
  simp only [List.getD_eq_getElem?_getD]
  rcases Nat.lt_or_ge e Wl.length with h | h
  · rw [List.getElem?_append_left h]
  · rw [List.getElem?_append_right h, List.getElem?_eq_none h]
    rcases Nat.eq_zero_or_pos (e - Wl.length) with h0 | h0
    · rw [h0]; rfl
    · rw [List.getElem?_eq_none (by simp; omega)]
theorem at2_none (Wl : List (List Int)) (e : Nat) (h : Wl.length ≤ e) : at2 Wl e = [] := by
  unfold at2
  rw [List.getD_eq_getElem?_getD, List.getElem?_eq_none h]; rfl
variable {E : Nat → List (Nat × Nat)} {G : Nat → Prop} {many C K st0 : Nat} {ds : List Int} {Wl : List (List Int)} {d i x p r : Nat}
theorem Srch.begins (hst : st0 < many) (hG : G st0) : Srch E G many C K st0 (List.replicate many (-1)) [[(st0 : Int)]] 0 0 many 0 0 := by
  have hrd : ∀ s : Nat, s < many → rd (List.replicate many (-1)) s = -1 := fun s hs => by
    rw [rd_nat _ _ (by simpa using hs)]; simp
  have hse : settled (List.replicate many (-1)) = 0 := by unfold settled; rw [List.countP_replicate]; simp
  refine ⟨by simp, fun s hs => .inl (hrd s hs), ?_, ?_, ?_, ?_, ?_, ?_⟩
  · intro c y hy
    match c with
    | 0 => simp [at2] at hy; exact ⟨st0, hy, hst, hG, .nil _⟩
    | c + 1 => simp [at2] at hy
  · exact .inr (.inr ⟨rfl, by simp [at2]⟩)
  · intro s hs h0; rw [hrd s hs] at h0; omega
  · simp
  · intro c
    match c with
    | 0 => simp [at2]
    | c + 1 => simp [at2]
  · intro h; omega
theorem Pend.step {c t : Nat} (h : Pend Wl d i c t) : Pend Wl d (i + 1) c t ∨ (c = d ∧ i < (at2 Wl d).length ∧ rd (at2 Wl d) i = t) := by
  rcases h with h | ⟨rfl, h⟩
  · exact .inl (.inl h)
  · rcases Nat.lt_or_ge i (at2 Wl c).length with hl | hl
    · rw [← List.getElem_cons_drop hl, List.mem_cons] at h
      rcases h with h | h
      · exact .inr ⟨rfl, hl, by rw [rd_nat _ _ hl]; exact h.symm⟩
      · exact .inl (.inr ⟨rfl, h⟩)
    · rw [List.drop_eq_nil_of_le hl] at h; cases h
theorem Srch.skip (h : Srch E G many C K st0 ds Wl d i many 0 0) (_hi : i < (at2 Wl d).length) {s : Nat} (hs : rd (at2 Wl d) i = s) (hk : 0 ≤ rd ds s) (hsm : s < many) : Srch E G many C K st0 ds Wl d (i + 1) many 0 0 := by
  have hd : rd ds s ≤ d := by rcases h.dist s hsm with h1 | h1 <;> omega
  refine ⟨h.len, h.dist, h.wait, ?_, ?_, h.long, h.wide, h.deep⟩
  · rcases h.first with h1 | h1
    · exact .inl h1
    · rcases h1.step with h2 | ⟨h2, _, h3⟩
      · exact .inr h2
      · have : s = st0 := by omega
        subst this
        exact .inl (by omega)
  · intro s' hs' h0 q t k hq hx
    rcases h.edge s' hs' h0 q t k hq hx with h1 | h1
    · exact .inl h1
    · rcases h1.step with h2 | ⟨h2, _, h3⟩
      · exact .inr h2
      · have : s = t := by omega
        subst this
        exact .inl ⟨hk, by omega⟩
theorem Srch.settle (h : Srch E G many C K st0 ds Wl d i many 0 0) (hi : i < (at2 Wl d).length) (hdl : d < Wl.length) {s : Nat} (hs : rd (at2 Wl d) i = s) (hn : rd ds s < 0) (hsm : s < many) :
    Srch E G many C K st0 (ds.set s d) Wl d (i + 1) s 0 K := by
  have hl : s < ds.length := by rw [h.len]; exact hsm
  have hmem : (s : Int) ∈ at2 Wl d := by rw [← hs, rd_nat _ _ hi]; exact List.getElem_mem _
  obtain ⟨s1, e1, _, hGs, hWs⟩ := h.wait d _ hmem
  have : s1 = s := by omega
  subst this
  have hset := settled_set ds s1 d hl hn (by omega)
  have hrd := fun t : Nat => rd_set ds s1 t d hl
  have hpend : ∀ {c t}, Pend Wl d i c t → (0 ≤ rd (ds.set s1 d) t ∧ rd (ds.set s1 d) t ≤ c) ∨ Pend Wl d (i + 1) c t := by
    intro c t hp
    rcases hp.step with h2 | ⟨h2, _, h3⟩
    · exact .inr h2
    · have : s1 = t := by omega
      subst this
      rw [hrd, if_pos rfl]; exact .inl (by omega)
  refine ⟨by simp [h.len], ?_, h.wait, ?_, ?_, ?_, ?_, ?_⟩
  · intro t ht
    rw [hrd]
    split
    · subst_vars; exact .inr ⟨by omega, by omega, hGs, by simpa using hWs⟩
    · exact h.dist t ht
  · rcases h.first with h1 | h1
    · refine .inl ?_
      rw [hrd, if_neg (fun e => by subst e; omega)]; exact h1
    · rcases hpend h1 with h2 | h2
      · exact .inl (by omega)
      · exact .inr h2
  · intro t ht h0 q u k hq hx
    by_cases e : t = s1
    · exact absurd (hx e) (by omega)
    · have e2 : rd (ds.set s1 (d : Int)) (t : Int) = rd ds t := by rw [hrd, if_neg (fun e' => e e'.symm)]
      rw [e2] at h0 ⊢
      rcases h.edge t ht h0 q u k hq (fun e' => by omega) with h1 | h1
      · refine .inl ?_
        rw [hrd]
        split
        · subst_vars; omega
        · exact h1
      · rcases hpend h1 with h2 | h2
        · exact .inl ⟨h2.1, by omega⟩
        · exact .inr h2
  · rw [hset, Nat.add_mul, Nat.one_mul]; have := h.long; omega
  · intro c; rw [hset, Nat.add_mul, Nat.one_mul]; have := h.wide c; omega
  · intro _; rw [hset, Nat.add_mul, Nat.one_mul]; have := h.long; omega
theorem Srch.less (h : Srch E G many C K st0 ds Wl d i x p r) {r' : Nat} (hr : r' ≤ r) : Srch E G many C K st0 ds Wl d i x p r' :=
  ⟨h.len, h.dist, h.wait, h.first, h.edge, h.long, fun c => by have := h.wide c; omega, h.deep⟩
theorem Srch.known (h : Srch E G many C K st0 ds Wl d i x p r) {t k : Nat} (hq : (E x)[p]? = some (t, k)) (ht : t < many) (hk : 0 ≤ rd ds t) (hx : x < many) (hxd : rd ds x = d) : Srch E G many C K st0 ds Wl d i x (p + 1) r := by
  refine ⟨h.len, h.dist, h.wait, h.first, ?_, h.long, h.wide, h.deep⟩
  intro s hs h0 q u k' hq' hx'
  by_cases e : s = x ∧ q = p
  · obtain ⟨rfl, rfl⟩ := e
    rw [hq] at hq'
    obtain ⟨rfl, rfl⟩ := Prod.mk.inj (Option.some.inj hq')
    refine .inl ⟨hk, ?_⟩
    rcases h.dist t ht with h1 | h1 <;> omega
  · exact h.edge s hs h0 q u k' hq' (fun e' => by have := hx' e'; omega)
theorem Srch.pad (h : Srch E G many C K st0 ds Wl d i x p r) (hx : x < many) (hl : Wl.length ≤ d + C) : Srch E G many C K st0 ds (Wl ++ [[]]) d i x p r := by
  have hp : ∀ {c t}, Pend Wl d i c t → Pend (Wl ++ [[]]) d i c t := by
    intro c t h; unfold Pend; simp only [at2_pad]; exact h
  refine ⟨h.len, h.dist, fun c y hy => h.wait c y (by rwa [at2_pad] at hy), h.first.imp_right hp, fun s hs h0 q u k hq hx' => (h.edge s hs h0 q u k hq hx').imp_right hp, ?_, fun c => by rw [at2_pad]; exact h.wide c, h.deep⟩
  have := h.deep hx
  simp only [List.length_append, List.length_cons, List.length_nil]
  omega
theorem Srch.push (h : Srch E G many C K st0 ds Wl d i x p (r + 1)) {t k : Nat} (hq : (E x)[p]? = some (t, k)) (ht : t < many) (hGt : G t) (hk : 1 ≤ k) (hx : x < many) (hxd : rd ds x = d) (hl : d + k < Wl.length) :
    Srch E G many C K st0 ds (Wl.set (d + k) (at2 Wl (d + k) ++ [(t : Int)])) d i x (p + 1) r := by
  have ha := fun e => at2_set Wl (d + k) e (at2 Wl (d + k) ++ [(t : Int)]) hl
  have hp : ∀ {c u}, Pend Wl d i c u → Pend (Wl.set (d + k) (at2 Wl (d + k) ++ [(t : Int)])) d i c u := by
    rintro c u (⟨h1, h2⟩ | ⟨h1, h2⟩)
    · refine .inl ⟨h1, ?_⟩
      rw [ha]; split
      · subst_vars; exact List.mem_append_left _ h2
      · exact h2
    · refine .inr ⟨h1, ?_⟩
      rw [ha, if_neg (by omega)]; exact h2
  have hway : Way E st0 x d := by
    rcases h.dist x hx with h1 | ⟨_, _, _, h1⟩
    · omega
    · rw [hxd] at h1; simpa using h1
  refine ⟨h.len, h.dist, ?_, h.first.imp_right hp, ?_, by rw [List.length_set]; exact h.long, ?_, h.deep⟩
  · intro c y hy
    rw [ha] at hy
    split at hy
    · subst_vars
      rcases List.mem_append.1 hy with h1 | h1
      · exact h.wait _ _ h1
      · rw [List.mem_singleton] at h1
        exact ⟨t, h1, ht, hGt, .snoc hway (List.mem_of_getElem? hq)⟩
    · exact h.wait _ _ hy
  · intro s hs h0 q u k' hq' hx'
    by_cases e : s = x ∧ q = p
    · obtain ⟨rfl, rfl⟩ := e
      rw [hq] at hq'
      obtain ⟨rfl, rfl⟩ := Prod.mk.inj (Option.some.inj hq')
      refine .inr (.inl ⟨by omega, ?_⟩)
      rw [ha, if_pos (by omega)]
      simp
    · exact (h.edge s hs h0 q u k' hq' (fun e' => by have := hx' e'; omega)).imp_right hp
  · intro c
    rw [ha]; split
    · subst_vars; have := h.wide (d + k); simp only [List.length_append, List.length_cons, List.length_nil]; omega
    · have := h.wide c; omega
theorem Srch.seen (h : Srch E G many C K st0 ds Wl d i x p r) (hp : (E x).length ≤ p) : Srch E G many C K st0 ds Wl d i many 0 0 := by
  refine ⟨h.len, h.dist, h.wait, h.first, ?_, h.long, fun c => by have := h.wide c; omega, fun h => by omega⟩
  intro s hs h0 q u k hq _
  exact h.edge s hs h0 q u k hq (fun e => by
    subst e
    have := (List.getElem?_eq_some_iff.1 hq).1
    omega)
theorem Srch.next (h : Srch E G many C K st0 ds Wl d i many 0 0) (hi : (at2 Wl d).length ≤ i) : Srch E G many C K st0 ds Wl (d + 1) 0 many 0 0 := by
  have hp : ∀ {c u}, Pend Wl d i c u → Pend Wl (d + 1) 0 c u := by
    rintro c u (⟨h1, h2⟩ | ⟨h1, h2⟩)
    · rcases Nat.lt_or_ge (d + 1) c with h3 | h3
      · exact .inl ⟨h3, h2⟩
      · have : c = d + 1 := by omega
        subst this
        exact .inr ⟨rfl, by simpa using h2⟩
    · rw [List.drop_eq_nil_of_le hi] at h2; cases h2
  exact ⟨h.len, fun s hs => (h.dist s hs).imp_right (fun ⟨a, b, c⟩ => ⟨a, by omega, c⟩), h.wait, h.first.imp_right hp, fun s hs h0 q u k hq hx => (h.edge s hs h0 q u k hq hx).imp_right hp, h.long, h.wide, fun h => by omega⟩
theorem Srch.ends (h : Srch E G many C K st0 ds Wl d i many 0 0) (hd : Wl.length ≤ d) (hE : ∀ s, G s → ∀ t k, (t, k) ∈ E s → t < many) (hst : st0 < many) : ∀ s : Nat, s < many → rd ds s = least E st0 s := by
  have hno : ∀ {c u}, ¬ Pend Wl d i c u := by
    rintro c u (⟨h1, h2⟩ | ⟨h1, h2⟩)
    · rw [at2_none Wl c (by omega)] at h2; cases h2
    · rw [at2_none Wl d hd, List.drop_nil] at h2; cases h2
  have h0 : rd ds st0 = 0 := h.first.resolve_right hno
  have key := least_of_closed (E := E) (a := st0) (fun s => if s < many then rd ds s else -1) (by simp [hst, h0])
    (fun s hs => by
      split at hs
      · rename_i hl
        rw [if_pos hl]
        rcases h.dist s hl with h1 | h1
        · omega
        · exact h1.2.2.2
      · omega)
    (fun s hs => by
      split at hs
      · rename_i hl
        rw [if_pos hl]
        rcases h.dist s hl with h1 | h1 <;> omega
      · rename_i hl; rw [if_neg hl])
    (fun s hs t k hm => by
      split at hs
      · rename_i hl
        rw [if_pos hl]
        obtain ⟨q, hq⟩ := List.getElem?_of_mem hm
        have hG : G s := by rcases h.dist s hl with h1 | h1; omega; exact h1.2.2.1
        have htm := hE s hG t k hm
        rw [if_pos htm]
        exact (h.edge s hl hs q t k hq (fun e => by omega)).resolve_right hno
      · omega)
  intro s hs
  have := key s
  rwa [if_pos hs] at this
end Go.Proofs.Ytlkjglanglpdoaa.T
namespace Go.Proofs.Ytlkjglanglpdoaa.T
open Go.RowKit Go.Proofs.YtlkjglanglpdoaaW.PrintWords Go.Proofs.YtlkjglanglpdoaaW.PrintLast Go.Proofs.YtlkjglanglpdoaaW.PrintMore
set_option linter.unusedVariables false
set_option linter.unusedSimpArgs false
theorem Kd.R_mineIs {e : Nat} {w : World} {base : Nat} {ok : Nat → Prop} {v : Value} {xs : List Int} (h : Kd.R (Kd.int .i64) e w base ok v xs) : Kd.R (Kd.int .i64) e w base (fun k => ok k ∧ v.ownBlock = some k) v xs :=
  ⟨fun k hk => ⟨h.1 k hk, hk⟩, h.2⟩
def WaitOne (w0 wr : World) (bd : Nat) (Wl : List (List Int)) (j : Nat) (x : Value) : Prop :=
  (j = 0 → ∃ A c, x = .slice A (at2 Wl 0).length c ∧ (at2 Wl 0).length ≤ c ∧ ∀ w', Below w0.heap.size w0 w' → Kd.C (Kd.int .i64) w' A (at2 Wl 0).length (at2 Wl 0)) ∧
  (0 < j → Kd.R (Kd.int .i64) 3 wr w0.heap.size (fun k => k ≠ bd) x (at2 Wl j))
structure Wait (w0 wr : World) (bd : Nat) (v : Value) (Wl : List (List Int)) (vs : List Value) : Prop where
  own : wr.ownsRow w0.heap.size 32 1 v Wl.length vs
  one : ∀ j x, vs[j]? = some x → WaitOne w0 wr bd Wl j x
  apart : ∀ i j x y, 0 < i → 0 < j → i ≠ j → vs[i]? = some x → vs[j]? = some y → ∀ k, x.ownBlock = some k → y.ownBlock ≠ some k
  below : Below w0.heap.size w0 wr
section
variable {w0 wr wr' : World} {bd : Nat} {v : Value} {Wl : List (List Int)} {vs : List Value}
theorem Wait.len (h : Wait w0 wr bd v Wl vs) : vs.length = Wl.length := by have := h.own.1; omega
theorem Wait.kept (h : Wait w0 wr bd v Wl vs) {S : Nat → Prop} (hk : Kept wr wr' S) (hb : Below w0.heap.size w0 wr') (hS : ∀ k, S k → k = bd) (hbd : some bd ≠ v.ownBlock) : Wait w0 wr' bd v Wl vs := by
  refine ⟨own_move h.own (fun k hk' => hk.2 k (own_lt h.own k hk') (fun hs => by have := hS k hs; subst this; exact hbd hk'.symm)), fun j x hx => ⟨(h.one j x hx).1, fun hj => ?_⟩, h.apart, hb⟩
  exact Kd.R_kept ((h.one j x hx).2 hj) hk (fun k hk' hs => hk' (hS k hs))
theorem Wait.later (h : Wait w0 wr bd v Wl vs) (hb : Below wr.heap.size wr wr') : Wait w0 wr' bd v Wl vs :=
  ⟨pw_own_below h.own hb, fun j x hx => ⟨(h.one j x hx).1, fun hj => Kd.R_below ((h.one j x hx).2 hj) hb⟩, h.apart, h.below.trans (hb.mono h.below.size)⟩
theorem Wait.at_ (h : Wait w0 wr bd v Wl vs) {d : Nat} (hd : d < Wl.length) :
    ∃ g cap A c, v = .slice (some ⟨g, 0, none⟩) Wl.length cap ∧ w0.heap.size ≤ g ∧ wr.cell? ⟨g, d, none⟩ = some (.slice A (at2 Wl d).length c) ∧ wr.frozen? ⟨g, d, none⟩ = false ∧ vs[d]? = some (.slice A (at2 Wl d).length c) ∧ Kd.C (Kd.int .i64) wr A (at2 Wl d).length (at2 Wl d) := by
  have hl := h.len
  obtain ⟨x, hx⟩ : ∃ x, vs[d]? = some x := ⟨vs[d]'(by omega), List.getElem?_eq_getElem (by omega)⟩
  have hread : ∃ A c, x = .slice A (at2 Wl d).length c ∧ Kd.C (Kd.int .i64) wr A (at2 Wl d).length (at2 Wl d) := by
    rcases Nat.eq_zero_or_pos d with rfl | h0
    · obtain ⟨A, c, e, _, hc⟩ := (h.one 0 x hx).1 rfl
      exact ⟨A, c, e, hc _ h.below⟩
    · obtain ⟨A, c, e, _, hc⟩ := Kd.R_reads ((h.one d x hx).2 h0)
      exact ⟨A, c, e, hc⟩
  obtain ⟨A, c, rfl, hc⟩ := hread
  obtain ⟨g, cap, rfl, hg, _⟩ := h.own.form (by omega)
  have hcell := h.own.cells (g := g) rfl d _ hx
  rw [add_plain] at hcell
  refine ⟨g, cap, A, c, rfl, hg, hcell, ?_, hx, hc⟩
  rcases h.own.2 with ⟨h', _⟩ | ⟨g', cap', cur, h', _, hh, _⟩
  · cases h'
  · have : g = g' := by injection h' with h'; injection h' with h'; injection h' with h'
    subst this
    simp [World.frozen?, hh]
end
section
variable {w0 W w1 : World} {bd : Nat} {v v1 : Value} {Wl : List (List Int)} {vs : List Value}
theorem Wait.padded (h : Wait w0 W bd v Wl vs) (ho : w1.ownsRow w0.heap.size 32 1 v1 (vs ++ [Value.slice none 0 0]).length (vs ++ [Value.slice none 0 0])) (hb : Below w0.heap.size w0 w1) (hg : W.grownBy w1 v.ownBlock) (h0 : 0 < Wl.length) :
    Wait w0 w1 bd v1 (Wl ++ [[]]) (vs ++ [Value.slice none 0 0]) := by
  have hl := h.len
  refine ⟨by have e : (Wl ++ [[]]).length = (vs ++ [Value.slice none 0 0]).length := by simp [hl]
             rw [e]; exact ho, ?_, ?_, hb⟩
  · intro j x hx
    rcases Nat.lt_or_ge j vs.length with hj | hj
    · rw [List.getElem?_append_left hj] at hx
      have h1 := h.one j x hx
      unfold WaitOne
      simp only [at2_pad]
      exact ⟨h1.1, fun hj0 => Kd.R_over' (e' := 32) (h1.2 hj0) (fun k hk => own_typed h.own k hk) (by decide) hg⟩
    · rw [List.getElem?_append_right hj] at hx
      have hj' : j - vs.length = 0 := by
        rcases Nat.eq_zero_or_pos (j - vs.length) with h | h
        · exact h
        · rw [List.getElem?_eq_none (by simp; omega)] at hx; cases hx
      rw [hj'] at hx
      have hx' : x = .slice none 0 0 := by simpa using hx.symm
      subst hx'
      refine ⟨fun hj0 => by omega, fun _ => ?_⟩
      rw [at2_pad, at2_none Wl j (by omega)]
      exact Kd.R_nil _ _ _ _ _
  · intro i j x y hi hj hij hx hy k hk
    have hnil : ∀ (q : Nat) (z : Value), (vs ++ [Value.slice none 0 0])[q]? = some z → z.ownBlock = some k → q < vs.length := by
      intro q z hz hk
      rcases Nat.lt_or_ge q vs.length with hq | hq
      · exact hq
      · rw [List.getElem?_append_right hq] at hz
        have : z = .slice none 0 0 := by
          rcases Nat.eq_zero_or_pos (q - vs.length) with h | h
          · rw [h] at hz; simpa using hz.symm
          · rw [List.getElem?_eq_none (by simp; omega)] at hz; cases hz
        subst this
        simp [Value.ownBlock] at hk
    intro hk'
    have hi' := hnil i x hx hk
    have hj' := hnil j y hy hk'
    rw [List.getElem?_append_left hi'] at hx
    rw [List.getElem?_append_left hj'] at hy
    exact h.apart i j x y hi hj hij hx hy k hk hk'
theorem Wait.pushed {g cap j n c : Nat} {A : Option Addr} {y : Value} {l : List Int} (h : Wait w0 W bd (.slice (some ⟨g, 0, none⟩) Wl.length cap) Wl vs) (hj0 : 0 < j) (hj : j < Wl.length) (hx : vs[j]? = some (.slice A n c))
    (hy : Kd.R (Kd.int .i64) 3 w1 w0.heap.size (fun k => k ≠ bd) y l) (hg : W.grownBy w1 (Value.slice A n c).ownBlock) (hat : y.ownBlock = (Value.slice A n c).ownBlock ∨ ∃ b, y.ownBlock = some b ∧ W.heap.size ≤ b) :
    Wait w0 (w1.setCell ⟨g, j, none⟩ y) bd (.slice (some ⟨g, 0, none⟩) Wl.length cap) (Wl.set j l) (vs.set j y) := by
  have hl := h.len
  have hone := h.one j _ hx
  have hRx := hone.2 hj0
  have hgt : ∃ cells, W.heap[g]? = some (.cells cells 32 (0, 0)) := own_typed h.own g (by simp [Value.ownBlock])
  have hgne : some g ≠ (Value.slice A n c).ownBlock := Kd.R_ne hRx hgt.choose_spec (by decide)
  have hglt : g < W.heap.size := own_lt h.own g (by simp [Value.ownBlock])
  have hgW : w1.heap[g]? = W.heap[g]? := hg.block g hglt hgne
  have hown1 : w1.ownsRow w0.heap.size 32 1 (.slice (some ⟨g, 0, none⟩) Wl.length cap) Wl.length vs := own_move h.own (fun k hk => by have : g = k := by simpa [Value.ownBlock] using hk
                                                                                                                                      subst this; exact hgW)
  have hst := hown1.stored j y
  have hgt1 : ∃ cells, w1.heap[g]? = some (.cells cells 32 (0, 0)) := by rw [hgW]; exact hgt
  have hfar : ∀ {z : Value} {zs : List Int}, Kd.R (Kd.int .i64) 3 w1 w0.heap.size (fun k => k ≠ bd) z zs → Kd.R (Kd.int .i64) 3 (w1.setCell ⟨g, j, none⟩ y) w0.heap.size (fun k => k ≠ bd) z zs := by
    intro z zs hz
    exact Kd.R_mono (Kd.R_far (Kd.R_types hz hgt1.choose_spec (by decide)) (p := ⟨g, j, none⟩) (fun k hk => hk.2) y) (fun k hk => hk.1)
  refine ⟨by rw [List.length_set]; exact hst.1, ?_, ?_, ?_⟩
  · intro i x hxi
    rw [List.getElem?_set] at hxi
    unfold WaitOne
    have ha := fun e => at2_set Wl j e l hj
    by_cases e : j = i
    · subst e
      rw [if_pos rfl, if_pos (by omega)] at hxi
      obtain rfl := Option.some.inj hxi
      refine ⟨fun h => by omega, fun _ => ?_⟩
      rw [ha, if_pos rfl]
      exact hfar hy
    · rw [if_neg e] at hxi
      have h1 := h.one i x hxi
      have h0 : at2 (Wl.set j l) 0 = at2 Wl 0 := by rw [ha, if_neg (by omega)]
      rw [h0, ha, if_neg e]
      refine ⟨h1.1, fun hi0 => hfar ?_⟩
      have h2 := h1.2 hi0
      exact Kd.R_mono (Kd.R_grown (Kd.R_mono (ok' := fun k => k ≠ bd ∧ some k ≠ (Value.slice A n c).ownBlock) (Kd.R_mineIs h2) (fun k hk => ⟨hk.1, fun he => h.apart i j x _ hi0 hj0 (fun e' => e e'.symm) hxi hx k hk.2 he.symm⟩)) hg (fun k hk => hk.2)) (fun k hk => hk.1)
  · intro i i2 x x2 hi hi2 hne hxi hxi2 k hk
    rw [List.getElem?_set] at hxi hxi2
    by_cases e : j = i
    · subst e
      rw [if_pos rfl, if_pos (by omega)] at hxi
      obtain rfl := Option.some.inj hxi
      rw [if_neg (fun e' => hne e')] at hxi2
      intro hk2
      rcases hat with hat | ⟨b, hb, hle⟩
      · rw [hat] at hk
        exact h.apart j i2 _ x2 hj0 hi2 hne hx hxi2 k hk hk2
      · rw [hb] at hk
        have := Kd.R_lt ((h.one i2 x2 hxi2).2 hi2) k hk2
        have : b = k := by simpa using hk
        omega
    · rw [if_neg e] at hxi
      by_cases e2 : j = i2
      · subst e2
        rw [if_pos rfl, if_pos (by omega)] at hxi2
        obtain rfl := Option.some.inj hxi2
        intro hk2
        rcases hat with hat | ⟨b, hb, hle⟩
        · rw [hat] at hk2
          exact h.apart i j x _ hi hj0 hne hxi hx k hk hk2
        · rw [hb] at hk2
          have := Kd.R_lt ((h.one i x hxi).2 hi) k hk
          have : b = k := by simpa using hk2
          omega
      · rw [if_neg e2] at hxi2
        exact h.apart i i2 x x2 hi hi2 hne hxi hxi2 k hk
  · have h1 : Below w0.heap.size w0 w1 := h.below.grown hg h.below.size (fun k hk => Kd.R_base hRx k hk)
    exact h1.setCell (p := ⟨g, j, none⟩) (own_base h.own g (by simp [Value.ownBlock])) y
end
end Go.Proofs.Ytlkjglanglpdoaa.T
