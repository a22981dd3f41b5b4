/-
  Texts of a proof, laid together by a program of mine: H1, Tf157, Tf298, Tf266, H2, H3, HDist, HP, HW, HFrom, H13, H14, Tf183, Tf274, Tf253, Tf254, H4, Tf269, Tf189.
-/
import Derived.Lib.SliceRun
import Derived.BigRegion
import Derived.Laws.CopyOwn
import Derived.Laws.BitsAllLaws
import Derived.Test.YtlkjglanglpdoaaProg
import Derived.Below
import Derived.Deep.Draws
import Derived.Deep.AppendLies
import Derived.Maps.AppendAt
import Derived.OwnWalk
import Derived.Laws.BytesArg
import Derived.Laws.MakeOwn
import Derived.Laws.OwnMore
import Derived.Deep.OwnRows
import Derived.Tactics
import Derived.Lib.ConvBytes
import Derived.Laws.Slices
import Derived.WalkKit
import Derived.KernelRfl
import Derived.RowKit3
import Derived.Deep.LoopGhost
import Derived.Deep.QuietTactic
import Derived.BigQuiet
import Derived.WideLaws
import Derived.Deep.DeepCutAuto
import Derived.Deep.CutBlock
import Derived.Deep.RegionHeld3
import Derived.Laws.Rows
import Derived.Lib.AppendStr
import Derived.ArgAppend
import Derived.Laws.IdiomCopy
import Derived.OrdersHeld
import Derived.Laws.BitsLemmas
import Derived.RowKit
import Derived.Laws.StructEq
import Derived.Laws.EntriesVeiled
import Derived.Test.YtlkjglanglpdoaaQ7a
namespace Go.Proofs.Ytlkjglanglpdoaa.T
open Go.RowKit Go.Proofs.YtlkjglanglpdoaaW.PrintWords Go.Proofs.YtlkjglanglpdoaaW.PrintLast Go.Proofs.YtlkjglanglpdoaaW.PrintMore
set_option linter.unusedVariables false
set_option linter.unusedSimpArgs false
def slices_Clone_int_int.f (l0 : List Int) : Option (List Int) := if l0.length < 17592186044416 then some l0 else none
set_option maxHeartbeats 8000000 in
set_option maxRecDepth 100000 in
theorem slices_Clone_int_int.calls (A0 : Option Addr) (c0 : Nat) (l0 : List Int) (r : List Int) (w : World) (hr0 : Kd.C (Kd.int .i64) w A0 l0.length l0) (hc0 : l0.length ≤ c0) (h : slices_Clone_int_int.f l0 = some r) :
  Calls Try.prog 276 #[.slice A0 l0.length c0] w fun e w' => ∃ v0_ : Value, e = .returned (v0_) ∧ Kd.R (Kd.int .i64) 3 w' w.heap.size (fun _ => True) v0_ r ∧ Below w.heap.size w w' := by
 unfold slices_Clone_int_int.f at h
 have HR0 := Aside0.mk hr0
 have HC0 := Aside0.mk hc0
 have hn := hr0.2.2
 clear hr0 hc0
 by_cases c2 : l0.length < 17592186044416
 ·rw [if_pos c2] at h
  obtain rfl := Option.some.inj h
  have LM := Aside0.mk c2
  clear c2
  have qT : ∀ (w : World) (a : Option Addr) (n c n' c' : Nat), (binOp .eql 32 (.slice a n c) (.slice none n' c')).run Try.prog w = .ok (.bool a.isNone) w := fun w a n c n' c' => Lib.run_eql_slice_nil w _ _ a n c n' c' Try.underlying32
  rcases A0 with _ | ad
  ·have h0 : l0.length = 0 := by
    rcases Nat.eq_zero_or_pos l0.length with h0 | h0
    ·exact h0
    ·obtain ⟨ad, h1, _⟩ := hn h0
     cases h1
   obtain rfl : l0 = [] := List.eq_nil_of_length_eq_zero h0
   clear hn h0
   go_enter Try.func276, Try.ntmps276
   go_wp2
   go_ret
   exact ⟨_, rfl, Kd.R_nil _ _ _ _ _, Below.refl _ _⟩
  ·clear hn
   have HB := Aside0.mk (Below.refl w.heap.size w)
   go_enter Try.func276, Try.ntmps276
   go_wp2_with (first | ((with_reducible refine gate_dst (N := 5) rfl ?_); refine Kd.R_lit (Kd.int .i64) _ 3 ?hg (N := 5) ?hd (xs := ([] : List Int)) (inner := []) (ok := fun _ => True) (okp := fun _ => True) ?hr ?hp (fun _ hk => hk) trivial (Below.refl _ _) (Nat.le_refl _) (by simp) ?_; (case hd => rfl); (case hg => rfl); (case hr => first | (go_simp; done) | (go_simp; rfl)); (case hp => exact (Reps.none _ _)); intro v171 w3 ho4 hb hg_ hnew_; clear hg_ hnew_; have n0_ := Aside0.mk (Kd.R_lower ho4 (below_size (by repeat (first | (with_reducible first | exact HB.out | apply below_alloc | apply pw_below_drewN | apply below_drew1) | exact HB.out)))); have n1_ := Aside0.mk (below_step (by repeat (first | (with_reducible first | exact HB.out | apply below_alloc | apply pw_below_drewN | apply below_drew1) | exact HB.out)) hb); clear HB; have HO172 := n0_; have HB := n1_; clear n0_ n1_; clear hb ho4) | ((with_reducible refine gate_builtin (b := .append) (xs := #[.tmp 5, .tmp 6]) rfl ?_); at_builtin; refine Kd.R_append_rows (Kd.int .i64) (w0 := w) w.heap.size rfl (.tmp 5) (.tmp 6) 32 3 (.int .i64 0) 8 rfl Try.underlying32 info3 rfl (by decide) (by omega) v171 ([] : List Int) l0 _ _ _ (fun _ => True) (fun _ => False) rfl rfl ?aO ?aR (fun _ _ h => h) (fun _ h => h.elim) ?aF ?aB ?aS ?aL ?_; (case aR => repeat (first | exact (Kd.C_below HR0.out HB.out) | (with_reducible refine Kd.C_alloc ?_ _) | (with_reducible refine Kd.C_drewN ?_ _) | (with_reducible refine Kd.C_drew ?_))); (case aB => exact (by repeat (first | (with_reducible first | exact HB.out | apply below_alloc | apply pw_below_drewN | apply below_drew1) | exact HB.out))); (case aF => exact (fun _ _ => trivial)); (case aO => exact (by (with_reducible repeat (first | apply Kd.R_alloc | apply Kd.R_drewN | apply Kd.R_drew)); exact HO172.out)); (case aS => exact (below_size (by repeat (first | (with_reducible first | exact HB.out | apply below_alloc | apply pw_below_drewN | apply below_drew1) | exact HB.out)))); (case aL => have := LM.out; simp; omega); intro v174 w5 ho hb hg hat; have n0_ := Aside0.mk (hb); have n1_ := Aside0.mk (ho); clear HB; clear HO172; have HB := n0_; have HO175 := n1_; clear n0_ n1_; clear ho hb hg hat))
   go_ret
   exact ⟨_, rfl, by have := HO175.out; simpa using this, HB.out⟩
 ·rw [if_neg c2] at h
  exact absurd h (by simp)
theorem and_small (n : Int) (h0 : 0 ≤ n) (h1 : n < 4294967296) : bits .and .u64 n 4294967295 = n := by
 rw [u64_and n 4294967295 h0 (by omega) (by omega) (by omega)]
 have : n.toNat &&& (4294967295 : Int).toNat = n.toNat := by
  show n.toNat &&& (2 ^ 32 - 1) = n.toNat
  rw [Nat.and_two_pow_sub_one_eq_mod]
  exact Nat.mod_eq_of_lt (by omega)
 rw [this]; omega
set_option maxHeartbeats 800000 in
set_option maxRecDepth 100000 in
theorem mul64_one (n : Int) (h0 : 0 ≤ n) (h1 : n < 1048577) (w : World) : Calls Try.prog 309 #[.int .u64 1, .int .u64 n] w fun e w' => e = .returned (.tuple #[.int .u64 0, .int .u64 n]) ∧ w = w' := by
 have ha := and_small n h0 (by omega)
 have hb := and_small 1 (by omega) (by omega)
 have hd : n / 4294967296 = 0 := by omega
 go_enter Try.func309, Try.ntmps309
 go_wp2
 go_ret2
 exact ⟨rfl, rfl⟩
set_option maxHeartbeats 800000 in
set_option maxRecDepth 100000 in
theorem mul_one (n : Int) (h0 : 0 ≤ n) (h1 : n < 1048577) (w : World) : Calls Try.prog 300 #[.int .u64 1, .int .u64 n] w fun e w' => e = .returned (.tuple #[.int .u64 0, .int .u64 n]) ∧ w = w' := by
 go_enter Try.func300, Try.ntmps300
 go_wp2_with (go_at_call 309; refine (mul64_one n h0 h1 _).mono ?_; rintro e w' ⟨rfl, rfl⟩)
 go_ret2
 exact ⟨rfl, rfl⟩
theorem splice_rep {α : Type} (x z : α) (m N k : Nat) (hm : m ≤ N) (hk : k ≤ N - m) : splice (List.replicate m x ++ List.replicate (N - m) z) m (List.replicate k x) = List.replicate (m + k) x ++ List.replicate (N - (m + k)) z := by
 unfold splice
 rw [List.take_left' (by simp), List.drop_append]
 simp only [List.length_replicate, List.drop_replicate]
 rw [show m + k - m = k by omega, show m - (m + k) = 0 by omega]
 simp only [List.replicate_zero, List.nil_append]
 rw [← List.append_assoc, List.replicate_append_replicate, show N - m - k = N - (m + k) by omega]
theorem madeCells_rep (z : Value) (N : Nat) : madeCells #[z] N = (List.replicate N z).toArray := by
 apply Array.ext'
 apply List.ext_getElem
 ·simp [madeCells]
 ·intro i h1 h2
  simp [madeCells, Nat.mod_one]
theorem rep_src {W : World} {ad : Addr} {x v : Value} {m j : Nat} (h : W.cell? ad = some x) (hm : Aside0 (m ≤ 1)) (hj : (List.replicate m x)[j]? = some v) : W.cell? (ad.add j) = some v := by
 have hm := hm.out
 obtain ⟨hlt, rfl⟩ := List.getElem?_eq_some_iff.1 hj
 rw [List.length_replicate] at hlt
 have : j = 0 := by omega
 subst this
 simpa [Addr.add] using h
theorem splice_start {x z : Value} {N E : Nat} {o : Option Obj} (h : o = some (.cells (splice (List.replicate N z) 0 (List.replicate (min 1 N) x)).toArray E (0, 0))) : o = some (.cells (List.replicate (min 1 N) x ++ List.replicate (N - min 1 N) z).toArray E (0, 0)) := by
 have := splice_rep x z 0 N (min 1 N) (by omega) (by omega)
 simp only [List.replicate_zero, List.nil_append, Nat.sub_zero, Nat.zero_add] at this
 rw [this] at h
 exact h
theorem rep_copy (P : Program) (wr : World) (B : Nat) (w : World) (g m N : Nat) (x z : Value) (dT ty elem : TypeId) (hu : P.underlying dT = some (.slice elem)) (hs : (P.info? elem).map (·.size) = some 1) (hx : x.oneCell' = true)
  (hg : wr.heap[g]? = some (.cells (List.replicate m x ++ List.replicate (N - m) z).toArray elem (0, 0))) (hb : Below B w wr) (hB : B ≤ g) (hm : m ≤ N) :
  ∃ w2, (Builtin.copy_ #[dT, dT] ty #[.slice (some ⟨g, m, none⟩) (N - m) (N - m), .slice (some ⟨g, 0, none⟩) m N]).run P wr = .ok (.int .i64 ((min m (N - m) : Nat) : Int)) w2 ∧
   w2.heap[g]? = some (.cells (List.replicate (m + min m (N - m)) x ++ List.replicate (N - (m + min m (N - m))) z).toArray elem (0, 0)) ∧ Below B w w2 := by
 have hrun := run_copy_row (P := P) wr dT dT ty elem g m (N - m) (N - m) ⟨g, 0, none⟩ m N (List.replicate m x ++ List.replicate (N - m) z).toArray elem (List.replicate (min m (N - m)) x) hu hs hg List.length_replicate
  (fun j v hj => by
   obtain ⟨hlt, rfl⟩ := List.getElem?_eq_some_iff.1 hj
   rw [List.length_replicate] at hlt
   rw [add_plain]
   have : (List.replicate m x ++ List.replicate (N - m) z)[j]? = some x := by
    rw [List.getElem?_append_left (by rw [List.length_replicate]; omega), List.getElem?_replicate, if_pos (by omega)]
   simp [World.cell?, hg, this]) (by simp; omega) (by intro v hv; rw [List.eq_of_mem_replicate hv]; exact hx)
 have hs2 := splice_rep x z m N (min m (N - m)) hm (Nat.min_le_right _ _)
 refine ⟨_, by rw [hrun, List.length_replicate]; rfl, ?_, below_setRow hb hB _⟩
 have h3 : (List.take m (List.replicate m x ++ List.replicate (N - m) z).toArray.toList ++ List.replicate (min m (N - m)) x ++ List.drop (m + min m (N - m)) (List.replicate m x ++ List.replicate (N - m) z).toArray.toList) = splice (List.replicate m x ++ List.replicate (N - m) z) m (List.replicate (min m (N - m)) x) := by
  unfold splice; rw [List.append_assoc, List.length_replicate]
 rw [h3, hs2]
 exact setRow_heap wr g _ _ elem _ hg
theorem rep_own {α : Type} (enc : α → Value) (he : ∀ x, (enc x).oneCell' = true) {W : World} {B m E : Nat} {x : α} (hg : W.heap[B]? = some (.cells (List.replicate m (enc x)).toArray E (0, 0))) (hm : m ≤ 9223372036854775807) :
  (Kd.scalar enc he).R E W B (fun _ => True) (.slice (some ⟨B, 0, none⟩) m m) (List.replicate m x) := by
 refine ⟨fun _ _ => trivial, List.replicate m (enc x), ⟨?_, .inr ⟨B, m, _, ?_, Nat.le_refl _, hg, ?_, hm, ?_, ?_⟩⟩, ?_, ?_⟩
 ·simp [Kd.scalar]
 ·simp
 ·simp
 ·simp [Kd.scalar]
 ·simp [Kd.scalar]
 ·simp [Kd.scalar]
 ·intro j p hj
  obtain ⟨hlt, rfl⟩ := List.getElem?_eq_some_iff.1 hj
  rw [List.length_replicate] at hlt
  show _ = [enc _]
  simp only [List.getElem_replicate, Kd.scalar, Nat.mul_one, List.drop_replicate, List.take_replicate]
  rw [show min 1 (m - j) = 1 by omega]; rfl
def slices_Repeat_int_int.f (l0 : List Int) (a1 : Int) : Option (List Int) := if l0.length = 1 ∧ 0 ≤ a1 ∧ a1 < 1048577 then some (List.replicate a1.toNat (rd l0 0)) else none
set_option maxHeartbeats 1600000 in
set_option maxRecDepth 100000 in
theorem slices_Repeat_int_int.calls (A0 : Option Addr) (c0 : Nat) (l0 : List Int) (a1 : Int) (r : List Int) (w : World) (hr0 : Kd.C (Kd.int .i64) w A0 l0.length l0) (hc0 : l0.length ≤ c0) (h : slices_Repeat_int_int.f l0 a1 = some r) :
  Calls Try.prog 277 #[.slice A0 l0.length c0, .int .i64 a1] w fun e w' => ∃ v0_ : Value, e = .returned (v0_) ∧ Kd.R (Kd.int .i64) 3 w' w.heap.size (fun _ => True) v0_ r ∧ Below w.heap.size w w' := by
 unfold slices_Repeat_int_int.f at h
 by_cases c2 : l0.length = 1 ∧ 0 ≤ a1 ∧ a1 < 1048577
 case neg => rw [if_neg c2] at h; cases h
 rw [if_pos c2] at h
 obtain rfl := Option.some.inj h
 clear h
 obtain ⟨hl, h0, h1⟩ := c2
 obtain ⟨N, rfl⟩ := Int.eq_ofNat_of_zero_le h0
 obtain ⟨x, rfl⟩ : ∃ x, l0 = [x] := by
  match l0, hl with
  | [x], _ => exact ⟨x, rfl⟩
 obtain ⟨ad, rfl, hcell⟩ := Kd.at_int hr0 0 (by omega) (by simp)
 clear hr0 hl
 have hx : w.cell? ad = some (.int .i64 x) := by
  have : ad.add (0 : Int).toNat = ad := by simp [Addr.add]
  rwa [this] at hcell
 clear hcell
 have hxl := World.block_lt_of_cell? w _ hx
 have hxw : ∀ wr : World, Below w.heap.size w wr → wr.cell? ad = some (.int .i64 x) := fun wr hb => (hb.cell hxl).trans hx
 have hmk : ∀ W : World, (Instr.makeSlice 32 (.int .i64 (N : Int)) (.int .i64 (N : Int))).run Try.prog W = .ok (.slice (some ⟨W.heap.size, 0, none⟩) N N) (W.alloc (.cells (madeCells #[.int .i64 0] N) 3)) := print_make 32 3 .i64 8 Try.underlying32 info3 (by omega) N (by omega)
 have hw1 : IntKind.u64.wrap (N : Int) = N := by unfold IntKind.wrap; simp [IntKind.bits, IntKind.signed]; omega
 have hw2 : IntKind.i64.wrap (N : Int) = N := IntWalk.i64_in _ (by omega)
 have HX := Aside0.mk hx
 have HXW := Aside0.mk hxw
 clear hx hxw
 have LB : decide ((N : Int) < 0) = false := by simp
 have LB2 : decide (9223372036854775807 < (N : Int)) = false := by simp; omega
 have HC := Aside0.mk hc0
 have HN := Aside0.mk h1
 clear hc0 hxl
 go_enter Try.func277, Try.ntmps277
 go_wp2_with (first | (go_at_call 300; refine (mul_one (N : Int) h0 HN.out _).mono ?_; rintro e w' ⟨rfl, rfl⟩) | ((with_reducible refine gate_builtin (b := .copy) (xs := #[.tmp 31, .tmp 32]) rfl ?_); go_loud (refine wpList_copy_splice rfl (.tmp 31) (.tmp 32) 32 32 rfl 3 Try.underlying32 (by kernel_rfl) (some ⟨w.heap.size, 0, none⟩) (some ad) N N 1 c0 rfl rfl w.heap.size 0 (List.replicate N (.int .i64 0)) 3 ?cg (List.replicate (min 1 N) (.int .i64 x)) ?cn ?cpos ?cfit ?cone w.heap.size w ?cbelow (Nat.le_refl _) ?_; (case cg => exact (madeCells_rep (.int .i64 0) N) ▸ heap_alloc_new w _); (case cn => exact List.length_replicate); (case cpos => exact fun _ => ⟨rfl, ad, rfl, fun j v hj => rep_src (HXW.out _ (below_alloc (Below.refl _ _) _)) ⟨Nat.min_le_left _ _⟩ hj⟩); (case cfit => simp; omega); (case cone => intro v hv; rw [List.eq_of_mem_replicate hv]; rfl); (case cbelow => exact below_alloc (Below.refl _ _) _); intro w1 HG hb1; have HG1 := Aside0.mk HG; have HB1 := Aside0.mk hb1; clear HG hb1)))
 go_loopw [8] (fun v8 wr => ∃ m : Nat, v8 = .int .i64 (m : Int) ∧ Aside0 (m ≤ N) ∧ Aside0 (0 < N → 0 < m) ∧ Aside0 (wr.heap[w.heap.size]? = some (.cells (List.replicate m (Value.int .i64 x) ++ List.replicate (N - m) (Value.int .i64 0)).toArray 3 (0, 0))) ∧ Aside0 (Below w.heap.size w wr)) (fun v8 _ => N - (intOf v8).toNat)
 case atStart => exact ⟨min 1 N, rfl, ⟨Nat.min_le_right _ _⟩, ⟨fun h => by omega⟩, ⟨splice_start HG1.out⟩, HB1⟩
 case round =>
  clear HG1 HB1
  obtain ⟨m, rfl, HM, HP, HG, HB⟩ := hrel
  by_cases hlt : m < N
  ·have c0b : decide ((m : Int) < (N : Int)) = true := by simpa using hlt
   have c1b : decide (m < N) = true := by simpa using hlt
   go_wp2
   have hne : ¬ N = m := by omega
   have hle : m ≤ N := by omega
   have hmx : m ≤ 9223372036854775807 := by have := HN.out; omega
   obtain ⟨w2, hrun, hg2, hb2⟩ := rep_copy Try.prog wr.drew w.heap.size w w.heap.size m N (Value.int .i64 x) (Value.int .i64 0) 32 3 3 Try.underlying32 (by kernel_rfl) rfl HG.out HB.out.drew (Nat.le_refl _) hle
   have HG2 := Aside0.mk hg2
   have HB2 := Aside0.mk hb2
   clear hg2 hb2 HG HB
   have hsum : IntKind.i64.wrap ((m : Int) + ((min m (N - m) : Nat) : Int)) = ((m + min m (N - m) : Nat) : Int) := by rw [← Int.natCast_add]; exact IntWalk.i64_in _ (by have := HN.out; omega)
   go_region
   all_goals
    go_roundw
    case rel => (repeat apply Exists.intro); exact ⟨⟨m + min m (N - m), rfl, ⟨by omega⟩, ⟨fun _ => by have := HP.out; omega⟩, HG2, HB2⟩, rfl⟩
    case measure => have := HP.out (by omega); simp [intOf]; omega
  ·have c0b : decide ((m : Int) < (N : Int)) = false := by simpa using hlt
   have c1b : decide (m < N) = false := by simpa using hlt
   go_wp2
   go_ret
   have hm : m = N := by have := HM.out; omega
   subst hm
   have hb := HB.out
   refine ⟨_, rfl, ?_, hb⟩
   have hg := HG.out
   simp only [Nat.sub_self, List.replicate_zero, List.append_nil] at hg
   exact rep_own (Value.int .i64) (fun _ => rfl) hg (by have := HN.out; omega)
end Go.Proofs.Ytlkjglanglpdoaa.T
namespace Go.Proofs.Ytlkjglanglpdoaa.T
open Go.RowKit Go.Proofs.YtlkjglanglpdoaaW.PrintWords Go.Proofs.YtlkjglanglpdoaaW.PrintLast Go.Proofs.YtlkjglanglpdoaaW.PrintMore
attribute [local go_sem] max2_int min2_int max_two min_two max_three min_three max_four min_four
set_option linter.unusedVariables false
set_option linter.unusedSimpArgs false
def impl_in.f (a0 : Int) (a1 : Int) (a2 : Int) : Option (Bool) := if a1 ≤ a0 then (some (decide (a0 ≤ a2))) else (some false)
set_option maxHeartbeats 8000000 in
set_option maxRecDepth 100000 in
theorem impl_in.calls (a0 : Int) (a1 : Int) (a2 : Int) (r : Bool) (w : World) (h : impl_in.f a0 a1 a2 = some r) :
  Calls Try.prog 157 #[.int .i64 a0, .int .i64 a1, .int .i64 a2] w fun e w' => e = .returned (.bool r) ∧ Drawn0 w w' := by
 have H : (if a1 ≤ a0 then (some (decide (a0 ≤ a2))) else (some false)) = some r := h
 clear h
 by_cases c4 : a1 ≤ a0
 ·rw [if_pos c4] at H
  have c4b0 : decide (a1 ≤ a0) = true := decide_eq_true c4
  clear c4
  obtain rfl := Option.some.inj H
  go_enter Try.func157, Try.ntmps157
  go_wp2
  go_ret
  exact ⟨by first | rfl | (simp; done) | (simp [*]; done), by repeat (first | exact Drawn0.refl _ | apply Drawn0.step)⟩
 ·rw [if_neg c4] at H
  have c4b0 : decide (a1 ≤ a0) = false := decide_eq_false c4
  clear c4
  obtain rfl := Option.some.inj H
  go_enter Try.func157, Try.ntmps157
  go_wp2
  go_ret
  exact ⟨by first | rfl | (simp; done) | (simp [*]; done), by repeat (first | exact Drawn0.refl _ | apply Drawn0.step)⟩
end Go.Proofs.Ytlkjglanglpdoaa.T
namespace Go.Proofs.Ytlkjglanglpdoaa.T
open Go.RowKit Go.Proofs.YtlkjglanglpdoaaW.PrintWords Go.Proofs.YtlkjglanglpdoaaW.PrintLast Go.Proofs.YtlkjglanglpdoaaW.PrintMore
attribute [local go_sem] max2_int min2_int max_two min_two max_three min_three max_four min_four
set_option linter.unusedVariables false
set_option linter.unusedSimpArgs false
def slices_Index_int_int.l0 : Nat → List Int → Int → Int → Int → Option (Int)
 | 0, _, _, _, _ => none
 | k + 1, x0, x1, x7, x8 => if x8 < x7 then (if 0 ≤ x8 then (if x8 < (x0.length : Int) then (if x1 = (rd x0 x8) then (some x8) else (slices_Index_int_int.l0 k x0 x1 x7 (wrap64 (x8 + 1)))) else (none)) else (none)) else (some (-1))
def slices_Index_int_int.f (k : Nat) (l0 : List Int) (a1 : Int) : Option (Int) := slices_Index_int_int.l0 k l0 a1 (l0.length : Int) 0
theorem slices_Index_int_int.mono_l : ∀ k, (∀ y0 y1 y2 y3, LeO (slices_Index_int_int.l0 k y0 y1 y2 y3) (slices_Index_int_int.l0 (k + 1) y0 y1 y2 y3))
 | 0 => fun _ _ _ _ r h => by simp [slices_Index_int_int.l0] at h
 | k + 1 => by
  have ih0 := slices_Index_int_int.mono_l k
  ·intro y0 y1 y2 y3
   unfold slices_Index_int_int.l0
   repeat' first
   | (with_reducible exact ih0 _ _ _ _)
   | (with_reducible exact LeO.refl _)
   | (with_reducible exact LeO.none _)
   | (with_reducible refine LeO.ite ?_ ?_)
   | (with_reducible refine LeO.bind ?_ (fun _ => ?_))
   | exact ih0 _ _ _ _
   | exact LeO.none _
   | refine LeO.ite ?_ ?_
   | refine LeO.bind ?_ (fun _ => ?_)
theorem slices_Index_int_int.mono : ∀ a0 a1 k, LeO (slices_Index_int_int.f k a0 a1) (slices_Index_int_int.f (k + 1) a0 a1) := by
 intro a0 a1 k
 have ih0 := slices_Index_int_int.mono_l k
 unfold slices_Index_int_int.f
 repeat' first
   | (with_reducible exact ih0 _ _ _ _)
   | (with_reducible exact LeO.refl _)
   | (with_reducible exact LeO.none _)
   | (with_reducible refine LeO.ite ?_ ?_)
   | (with_reducible refine LeO.bind ?_ (fun _ => ?_))
   | exact ih0 _ _ _ _
   | exact LeO.none _
   | refine LeO.ite ?_ ?_
   | refine LeO.bind ?_ (fun _ => ?_)
set_option maxHeartbeats 8000000 in
set_option maxRecDepth 100000 in
theorem slices_Index_int_int.calls (k : Nat) (A0 : Option Addr) (c0 : Nat) (l0 : List Int) (a1 : Int) (r : Int) (w : World) (hr0 : Kd.C (Kd.int .i64) w A0 l0.length l0) (hc0 : l0.length ≤ c0) (h : slices_Index_int_int.f k l0 a1 = some r) :
  Calls Try.prog 298 #[.slice A0 l0.length c0, .int .i64 a1] w fun e w' => e = .returned (.int .i64 r) ∧ Drawn0 w w' := by
 have HR0 := Aside0.mk hr0
 have HC0 := Aside0.mk hc0
 clear hr0 hc0
 have H : (slices_Index_int_int.l0 k l0 a1 (l0.length : Int) 0) = some r := h
 clear h
 have H' := Aside0.mk H
 clear H
 go_enter Try.func298, Try.ntmps298
 go_wp2
 go_loopg [8] k (fun kq v8 w' => ∃ (x8_1 : Int), v8 = .int .i64 x8_1 ∧ Aside0 (slices_Index_int_int.l0 kq l0 a1 (l0.length : Int) x8_1 = some r) ∧ Aside0 (kq ≤ k) ∧ Drawn0 w w')
 case atStart => exact ⟨(0), (by first | rfl | (simp; done) | (simp [*]; done)), H', ⟨Nat.le_refl _⟩, by repeat (first | exact Drawn0.refl _ | apply Drawn0.step)⟩
 case round =>
  clear H'
  try clear c2
  try clear p2
  obtain ⟨x8_1, rfl, HA, HK1, ⟨m1, rfl⟩⟩ := hrel
  cases gk with
  | zero => exact absurd HA.out (by simp [slices_Index_int_int.l0])
  | succ k1 =>
   have H := HA.out
   clear HA
   simp only [slices_Index_int_int.l0] at H
   by_cases c3 : x8_1 < (l0.length : Int)
   ·rw [if_pos c3] at H
    have c3b0 : decide (x8_1 < (l0.length : Int)) = true := decide_eq_true c3
    clear c3
    by_cases c4 : 0 ≤ x8_1
    ·rw [if_pos c4] at H
     have c4b0 : decide (0 ≤ x8_1) = true := decide_eq_true c4
     clear c4
     by_cases c5 : x8_1 < (l0.length : Int)
     ·rw [if_pos c5] at H
      have c5b0 : decide (x8_1 < (l0.length : Int)) = true := decide_eq_true c5
      clear c5
      by_cases c6 : a1 = (rd l0 x8_1)
      ·rw [if_pos c6] at H
       have c6b0 : (a1 == (rd l0 x8_1)) = true := beq_iff_eq.mpr c6
       have c6b1 : (a1 != (rd l0 x8_1)) = false := bne_eq_false_iff_eq.mpr c6
       clear c6
       obtain rfl := Option.some.inj H
       have p993 : 0 ≤ (x8_1 : Int) := of_decide_eq_true (by first | (with_reducible assumption) | assumption)
       have q993 : x8_1 < (l0.length : Int) := of_decide_eq_true (by first | (with_reducible assumption) | assumption)
       obtain ⟨ad993, e993, hx993_0⟩ := Kd.at_int HR0.out x8_1 p993 q993
       cases e993
       replace p993 := eq_true p993
       replace q993 := eq_true q993
       go_wp2
       go_ret
       exact ⟨by first | rfl | (simp; done) | (simp [*]; done), by repeat (first | exact Drawn0.refl _ | apply Drawn0.step)⟩
      ·rw [if_neg c6] at H
       have c6b0 : (a1 == (rd l0 x8_1)) = false := beq_eq_false_iff_ne.mpr c6
       have c6b1 : (a1 != (rd l0 x8_1)) = true := bne_iff_ne.mpr c6
       have H' := Aside0.mk H
       clear H
       have p993 : 0 ≤ (x8_1 : Int) := of_decide_eq_true (by first | (with_reducible assumption) | assumption)
       have q993 : x8_1 < (l0.length : Int) := of_decide_eq_true (by first | (with_reducible assumption) | assumption)
       obtain ⟨ad993, e993, hx993_0⟩ := Kd.at_int HR0.out x8_1 p993 q993
       cases e993
       replace p993 := eq_true p993
       replace q993 := eq_true q993
       go_wp2
       go_roundg k1
       case measure => have := HK1.out; omega
       case rel => exact ⟨(wrap64 (x8_1 + 1)), (by first | rfl | (simp; done) | (simp [*]; done)), H', ⟨by have := HK1.out; omega⟩, by repeat (first | exact Drawn0.refl _ | apply Drawn0.step)⟩
     ·rw [if_neg c5] at H
      exact absurd H (by simp)
    ·rw [if_neg c4] at H
     exact absurd H (by simp)
   ·rw [if_neg c3] at H
    have c3b0 : decide (x8_1 < (l0.length : Int)) = false := decide_eq_false c3
    clear c3
    obtain rfl := Option.some.inj H
    go_wp2
    go_ret
    exact ⟨by first | rfl | (simp; done) | (simp [*]; done), by repeat (first | exact Drawn0.refl _ | apply Drawn0.step)⟩
end Go.Proofs.Ytlkjglanglpdoaa.T
namespace Go.Proofs.Ytlkjglanglpdoaa.T
open Go.RowKit Go.Proofs.YtlkjglanglpdoaaW.PrintWords Go.Proofs.YtlkjglanglpdoaaW.PrintLast Go.Proofs.YtlkjglanglpdoaaW.PrintMore
attribute [local go_sem] max2_int min2_int max_two min_two max_three min_three max_four min_four
set_option linter.unusedVariables false
set_option linter.unusedSimpArgs false
def slices_Contains_int_int.f (k : Nat) (l0 : List Int) (a1 : Int) : Option (Bool) := (slices_Index_int_int.f k l0 a1).bind fun t994 => (some (decide (t994 ≥ 0)))
theorem slices_Contains_int_int.mono : ∀ a0 a1 k, LeO (slices_Contains_int_int.f k a0 a1) (slices_Contains_int_int.f (k + 1) a0 a1) := by
 intro a0 a1 k
 unfold slices_Contains_int_int.f
 repeat' first
   | (with_reducible exact slices_Index_int_int.mono _ _ _)
   | (with_reducible exact LeO.refl _)
   | (with_reducible exact LeO.none _)
   | (with_reducible refine LeO.ite ?_ ?_)
   | (with_reducible refine LeO.bind ?_ (fun _ => ?_))
   | exact slices_Index_int_int.mono _ _ _
   | exact LeO.none _
   | refine LeO.ite ?_ ?_
   | refine LeO.bind ?_ (fun _ => ?_)
set_option maxHeartbeats 8000000 in
set_option maxRecDepth 100000 in
theorem slices_Contains_int_int.calls (k : Nat) (A0 : Option Addr) (c0 : Nat) (l0 : List Int) (a1 : Int) (r : Bool) (w : World) (hr0 : Kd.C (Kd.int .i64) w A0 l0.length l0) (hc0 : l0.length ≤ c0) (h : slices_Contains_int_int.f k l0 a1 = some r) :
  Calls Try.prog 266 #[.slice A0 l0.length c0, .int .i64 a1] w fun e w' => e = .returned (.bool r) ∧ Drawn0 w w' := by
 have HR0 := Aside0.mk hr0
 have HC0 := Aside0.mk hc0
 clear hr0 hc0
 have H : ((slices_Index_int_int.f k l0 a1).bind fun t994 => (some (decide (t994 ≥ 0)))) = some r := h
 clear h
 replace H := Option.bind_eq_some_iff.mp H
 obtain ⟨t994, A30, H⟩ := H
 replace H : (some (decide (t994 ≥ 0))) = some r := H
 have A3 := Aside0.mk A30
 clear A30
 obtain rfl := Option.some.inj H
 go_enter Try.func266, Try.ntmps266
 go_wp2_with (first | ((with_reducible refine gate_callee (f := 298) rfl ?_); refine goesL_ (some 7) rfl rfl Try.func298 (by kernel_rfl) rfl #[.slice A0 l0.length c0, .int .i64 a1] rfl (by (try simp only [List.map_toArray, List.map_cons, List.map_nil]); first | done | rfl | (simp only [List.length_drop, List.length_take]; rfl)) ?_; (with_reducible refine (slices_Index_int_int.calls k _ _ l0 a1 t994 _ ?side1 ?side2 A3.out).mono ?_); (case side1 => repeat (first | exact HR0.out | (with_reducible refine Kd.C_alloc ?_ _) | (with_reducible refine Kd.C_drewN ?_ _) | (with_reducible refine Kd.C_drew ?_))); (case side2 => exact HC0.out); rintro e w' ⟨rfl, ⟨nd, rfl⟩⟩; refine ⟨_, rfl, ?_⟩))
 go_ret
 exact ⟨by first | rfl | (simp; done) | (simp [*]; done), by repeat (first | exact Drawn0.refl _ | apply Drawn0.step)⟩
end Go.Proofs.Ytlkjglanglpdoaa.T
namespace Go.Proofs.Ytlkjglanglpdoaa.T
open Go.RowKit Go.Proofs.YtlkjglanglpdoaaW.PrintWords Go.Proofs.YtlkjglanglpdoaaW.PrintLast Go.Proofs.YtlkjglanglpdoaaW.PrintMore
set_option linter.unusedVariables false
set_option linter.unusedSimpArgs false
theorem goesV_ {P : Program} {ops : Array Oper} {Q : Exit → Act → World → Prop} {rest : List Oper} {oi : Oper} {a : Act} {w : World} (N : Option Tmp) (hd : oi.dst = N) (hg : oi.guard = none) {f : FuncId} {fn : Func} {as_ : Array Operand} {ts : Array TypeId} {c : Operand} (hf : P.funcs[f]? = some fn) (hname : (fn.name == "runtime.NumGoroutine") = false) (hb : fn.body.isSome = true) (cap args : Array Value)
  (hop : oi.op = .call { callee := .value c, args := as_, argTypes := ts }) (hc : a.eval c = .func (.func f) #[] cap) (hargs : as_.map a.eval = args)
  (h : Calls P f (args ++ cap) w fun e w' => ∃ v, e = .returned v ∧ wpList P ops Q rest (a.put N v) w') : wpList P ops Q (oi :: rest) a w := by
 refine wpList_plain hg fun K hK => ?_
 have he := enters_ hf hname hb (args ++ cap) w
 have hrun : (execOp a.eval oi).run P w = .ok (.enter f (args ++ cap)) w := by
  unfold execOp
  simp [hop, resolve, Deferred.ofValue, invoke, hc, hargs, he]
 unfold Oper.wp
 rw [hrun, Oper.upon_enter]
 refine h.mono fun e w'' hh => ?_
 obtain ⟨v, rfl, hk⟩ := hh
 subst hd
 exact hK _ _ hk
theorem ret_bool {a b : Bool} (h : a = b) : Ending.returned (.bool a) = .returned (.bool b) := by rw [h]
def Says (f : FuncId) (cap : Array Value) (p : Int → Bool) (xs : List Int) (w0 : World) : Prop :=
 (∃ fn, Try.prog.funcs[f]? = some fn ∧ (fn.name == "runtime.NumGoroutine") = false ∧ fn.body.isSome = true) ∧
 ∀ x ∈ xs, ∀ w', Below w0.heap.size w0 w' → Calls Try.prog f (#[.int .i64 x] ++ cap) w' fun e w'' => e = .returned (.bool (p x)) ∧ Below w'.heap.size w' w''
def anyUp (p : Int → Bool) (xs : List Int) (k : Nat) : Bool := (xs.take k).any p
theorem anyUp_step (p : Int → Bool) (xs : List Int) (k : Nat) (h : k < xs.length) : anyUp p xs (k + 1) = (anyUp p xs k || p (rd xs k)) := by
 unfold anyUp rd
 rw [List.take_succ_eq_append_getElem h, List.any_append]
 simp [List.getD_eq_getElem?_getD, List.getElem?_eq_getElem h]
set_option maxHeartbeats 1600000 in
set_option maxRecDepth 100000 in
theorem indexFunc (A0 : Option Addr) (c0 : Nat) (l0 : List Int) (f : FuncId) (cap : Array Value) (p : Int → Bool) (w : World) (hr0 : Kd.C (Kd.int .i64) w A0 l0.length l0) (hs : Says f cap p l0 w) :
  Calls Try.prog 297 #[.slice A0 l0.length c0, .func (.func f) #[] cap] w fun e w' => ∃ i : Int, e = .returned (.int .i64 i) ∧ decide (0 ≤ i) = l0.any p ∧ Below w.heap.size w w' := by
 obtain ⟨⟨fn, hf, hname, hbody⟩, hs⟩ := hs
 have hlen : l0.length ≤ 9223372036854775807 := hr0.2.1
 have HF := Aside0.mk hf
 have HS := Aside0.mk hs
 have HR := Aside0.mk hr0
 clear hf hs hr0
 go_enter Try.func297, Try.ntmps297
 go_wp2
 go_loopw [8] (fun v8 wr => ∃ k : Nat, v8 = .int .i64 (k : Int) ∧ Aside0 (k ≤ l0.length) ∧ Aside0 (anyUp p l0 k = false) ∧ Aside0 (Below w.heap.size w wr)) (fun v8 _ => l0.length - (intOf v8).toNat)
 case atStart => exact ⟨0, rfl, ⟨Nat.zero_le _⟩, ⟨rfl⟩, ⟨Below.refl _ _⟩⟩
 case round =>
  obtain ⟨k, rfl, HK, HA, HB⟩ := hrel
  by_cases hlt : k < l0.length
  ·have c0b : decide ((k : Int) < (l0.length : Int)) = true := by simpa using hlt
   obtain ⟨ad, rfl, hcell⟩ := Kd.at_int (Kd.C_below HR.out HB.out) (k : Int) (by omega) (by omega)
   rw [Int.toNat_natCast] at hcell
   have hk0 : k ≤ 9223372036854775806 := by omega
   have hstep := Aside0.mk (anyUp_step p l0 k hlt)
   have hmem : rd l0 k ∈ l0 := by
    unfold rd
    rw [List.getD_eq_getElem?_getD, Int.toNat_natCast, List.getElem?_eq_getElem hlt]
    exact List.getElem_mem _
   have HM := Aside0.mk hmem
   clear hmem
   cases hp : p (rd l0 k)
   ·have HP := Aside0.mk hp
    clear hp
    go_wp2_with ((with_reducible refine gate_dst (N := 16) rfl ?_); refine goesV_ (some 16) rfl rfl HF.out hname hbody cap #[.int .i64 (rd l0 k)] rfl rfl (by simp; rfl) ?_; refine (HS.out _ HM.out _ HB.out).mono ?_; rintro e w' ⟨rfl, hb⟩; refine ⟨_, rfl, ?_⟩; rw [HP.out]; have HB' := Aside0.mk (HB.out.trans (hb.mono HB.out.size)); clear hb)
    go_roundw
    case rel => exact ⟨k + 1, by go_num, ⟨by omega⟩, ⟨by rw [hstep.out, HA.out, HP.out]; rfl⟩, HB'⟩
    case measure => simp [intOf]; omega
   ·have HP := Aside0.mk hp
    clear hp
    go_wp2_with ((with_reducible refine gate_dst (N := 16) rfl ?_); refine goesV_ (some 16) rfl rfl HF.out hname hbody cap #[.int .i64 (rd l0 k)] rfl rfl (by simp; rfl) ?_; refine (HS.out _ HM.out _ HB.out).mono ?_; rintro e w' ⟨rfl, hb⟩; refine ⟨_, rfl, ?_⟩; rw [HP.out]; have HB' := Aside0.mk (HB.out.trans (hb.mono HB.out.size)); clear hb)
    go_ret
    exact ⟨_, rfl, by rw [List.any_eq_true.2 ⟨_, HM.out, HP.out⟩]; simp, HB'.out⟩
  ·have c0b : decide ((k : Int) < (l0.length : Int)) = false := by simpa using hlt
   go_wp2
   go_ret
   have hk := HK.out
   have : k = l0.length := by omega
   subst this
   have ha := HA.out
   unfold anyUp at ha
   rw [List.take_length] at ha
   exact ⟨_, rfl, by rw [ha]; rfl, HB.out⟩
theorem Says.later {f : FuncId} {cap : Array Value} {p : Int → Bool} {xs : List Int} {w0 w1 : World} (h : Says f cap p xs w0) (hb : Below w0.heap.size w0 w1) : Says f cap p xs w1 :=
 ⟨h.1, fun x hx w' hw => h.2 x hx w' (hb.trans (hw.mono hb.size))⟩
set_option maxHeartbeats 800000 in
set_option maxRecDepth 100000 in
theorem containsFunc (A0 : Option Addr) (c0 : Nat) (l0 : List Int) (f : FuncId) (cap : Array Value) (p : Int → Bool) (w : World) (hr0 : Kd.C (Kd.int .i64) w A0 l0.length l0) (hs : Says f cap p l0 w) :
  Calls Try.prog 264 #[.slice A0 l0.length c0, .func (.func f) #[] cap] w fun e w' => e = .returned (.bool (l0.any p)) ∧ Below w.heap.size w w' := by
 have HS := Aside0.mk hs
 have HR := Aside0.mk hr0
 clear hs hr0
 go_enter Try.func264, Try.ntmps264
 go_wp2_with (go_at_call 297; refine (indexFunc _ _ _ _ _ _ _ HR.out HS.out).mono ?_; rintro e w' ⟨i, rfl, hi, hb⟩; have HI := Aside0.mk hi; have HB := Aside0.mk hb; clear hi hb)
 go_ret
 exact ⟨ret_bool HI.out, HB.out⟩
end Go.Proofs.Ytlkjglanglpdoaa.T
namespace Go.Proofs.Ytlkjglanglpdoaa.T
open Go.RowKit Go.Proofs.YtlkjglanglpdoaaW.PrintWords Go.Proofs.YtlkjglanglpdoaaW.PrintLast Go.Proofs.YtlkjglanglpdoaaW.PrintMore
set_option linter.unusedVariables false
set_option linter.unusedSimpArgs false
theorem wrap_up (i n : Int) (h0 : 0 ≤ i) (h : i < n) (hn : n ≤ 9223372036854775807) : wrap64 (i + 1) = i + 1 := by
 unfold wrap64; omega
theorem index_tells (l : List Int) (a : Int) (hl : (l.length : Int) ≤ 9223372036854775807) : ∀ (d k i : Nat), i + d = l.length → d < k → (∀ j, j < i → (rd l j == a) = false) →
  ∃ r, slices_Index_int_int.l0 k l a (l.length : Int) (i : Int) = some r ∧ decide (r ≥ 0) = (l.drop i).contains a := by
 intro d
 induction d with
 | zero =>
  intro k i hi hk _
  obtain ⟨k, rfl⟩ : ∃ m, k = m + 1 := ⟨k - 1, by omega⟩
  refine ⟨-1, ?_, ?_⟩
  ·simp only [slices_Index_int_int.l0]; rw [if_neg (by omega)]
  ·rw [List.drop_eq_nil_of_le (by omega)]; rfl
 | succ d ih =>
  intro k i hi hk hn
  obtain ⟨k, rfl⟩ : ∃ m, k = m + 1 := ⟨k - 1, by omega⟩
  have hlt : i < l.length := by omega
  have hrd : rd l (i : Int) = l[i] := by unfold rd; rw [Int.toNat_natCast, List.getD_eq_getElem?_getD, List.getElem?_eq_getElem hlt]; rfl
  have hd : l.drop i = l[i] :: l.drop (i + 1) := (List.getElem_cons_drop hlt).symm
  by_cases he : a = rd l (i : Int)
  ·refine ⟨i, ?_, ?_⟩
   ·simp only [slices_Index_int_int.l0]; rw [if_pos (by omega), if_pos (by omega), if_pos (by omega), if_pos he]
   ·rw [hd, List.contains_cons, he, hrd]; simp
  ·obtain ⟨r, hr, hc⟩ := ih k (i + 1) (by omega) (by omega) (fun j hj => by
    rcases Nat.lt_or_ge j i with h | h
    ·exact hn j h
    ·have : j = i := by omega
     subst this; simpa using fun e => he e.symm)
   refine ⟨r, ?_, ?_⟩
   ·simp only [slices_Index_int_int.l0]; rw [if_pos (by omega), if_pos (by omega), if_pos (by omega), if_neg he, wrap_up (i : Int) (l.length : Int) (by omega) (by omega) hl]; exact hr
   ·rw [hd, List.contains_cons, hc, hrd.symm]
    have : (a == rd l (i : Int)) = false := by simpa using he
    rw [this, Bool.false_or]
theorem contains_runs (A0 : Option Addr) (c0 : Nat) (l0 : List Int) (a1 : Int) (w : World) (hr0 : Kd.C (Kd.int .i64) w A0 l0.length l0) (hc0 : l0.length ≤ c0) :
  Calls Try.prog 266 #[.slice A0 l0.length c0, .int .i64 a1] w fun e w' => e = .returned (.bool (l0.contains a1)) ∧ Below w.heap.size w w' := by
 obtain ⟨r, hr, hc⟩ := index_tells l0 a1 (by have := hr0.2.1; omega) l0.length (l0.length + 1) 0 (by omega) (by omega) (fun j hj => by omega)
 have h : slices_Contains_int_int.f (l0.length + 1) l0 a1 = some (l0.contains a1) := by
  unfold slices_Contains_int_int.f slices_Index_int_int.f
  rw [show ((0 : Nat) : Int) = 0 from rfl] at hr
  rw [hr]; simp only [Option.bind_some]; rw [hc, List.drop_zero]
 refine (slices_Contains_int_int.calls _ _ _ _ _ _ w hr0 hc0 h).mono ?_
 rintro e w' ⟨rfl, hd⟩
 exact ⟨rfl, hd.below⟩
def evenB (y : Int) : Bool := y.tmod 2 == 0
def oneCalm (l : List Int) (x : Int) : Bool := evenB x || (l.contains (wrap64 (x - 1)) || !l.any evenB)
def calmL (l : List Int) : Bool := l.all (oneCalm l)
def impl_calm.f (l0 : List Int) : Option Bool := some (calmL l0)
set_option maxHeartbeats 800000 in
set_option maxRecDepth 100000 in
theorem even_says (l0 : List Int) (w : World) : Says 267 #[] evenB l0 w := by
 refine ⟨⟨_, Try.func267, by kernel_rfl, rfl⟩, fun x _ w' hw => ?_⟩
 clear hw
 show Calls Try.prog 267 #[.int .i64 x] w' _
 go_enter Try.func267, Try.ntmps267
 go_wp2
 go_ret
 exact ⟨ret_bool rfl, Below.refl _ _⟩
def allUp (p : Int → Bool) (xs : List Int) (k : Nat) : Bool := (xs.take k).all p
theorem allUp_step (p : Int → Bool) (xs : List Int) (k : Nat) (h : k < xs.length) : allUp p xs (k + 1) = (allUp p xs k && p (rd xs k)) := by
 unfold allUp rd
 rw [List.take_succ_eq_append_getElem h, List.all_append]
 simp [List.getD_eq_getElem?_getD, List.getElem?_eq_getElem h]
theorem rd_mem (xs : List Int) (k : Nat) (h : k < xs.length) : rd xs k ∈ xs := by
 unfold rd
 rw [List.getD_eq_getElem?_getD, Int.toNat_natCast, List.getElem?_eq_getElem h]
 exact List.getElem_mem _
set_option maxHeartbeats 3200000 in
set_option maxRecDepth 100000 in
theorem impl_calm.calls (A0 : Option Addr) (c0 : Nat) (l0 : List Int) (r : Bool) (w : World) (hr0 : Kd.C (Kd.int .i64) w A0 l0.length l0) (hc0 : l0.length ≤ c0) (h : impl_calm.f l0 = some r) :
  Calls Try.prog 163 #[.slice A0 l0.length c0] w fun e w' => e = .returned (.bool r) ∧ Below w.heap.size w w' := by
 obtain rfl := Option.some.inj h
 clear h
 have hlen : l0.length ≤ 9223372036854775807 := hr0.2.1
 have HR := Aside0.mk hr0
 have HC := Aside0.mk hc0
 clear hr0 hc0
 go_enter Try.func163, Try.ntmps163
 go_wp2
 go_loopw [7] (fun v7 wr => ∃ k : Nat, v7 = .int .i64 (k : Int) ∧ Aside0 (k ≤ l0.length) ∧ Aside0 (allUp (oneCalm l0) l0 k = true) ∧ Aside0 (Below w.heap.size w wr)) (fun v7 _ => l0.length - (intOf v7).toNat)
 case atStart => exact ⟨0, rfl, ⟨Nat.zero_le _⟩, ⟨rfl⟩, ⟨Below.refl _ _⟩⟩
 case round =>
  obtain ⟨k, rfl, HK, HA, HB⟩ := hrel
  by_cases hlt : k < l0.length
  ·have c0b : decide ((k : Int) < (l0.length : Int)) = true := by simpa using hlt
   obtain ⟨ad, rfl, hcell⟩ := Kd.at_int (Kd.C_below HR.out HB.out) (k : Int) (by omega) (by omega)
   rw [Int.toNat_natCast] at hcell
   have hk0 : k ≤ 9223372036854775806 := by omega
   have HST := Aside0.mk (allUp_step (oneCalm l0) l0 k hlt)
   have HM := Aside0.mk (rd_mem l0 k hlt)
   obtain ⟨x, hx⟩ : ∃ x, x = rd l0 k := ⟨_, rfl⟩
   rw [← hx] at hcell HST HM
   clear hx
   cases he : evenB x
   ·have he2 : (x.tmod 2 == 0) = false := he
    have he3 : ¬ x.tmod 2 = 0 := by simpa using he2
    cases hn : l0.contains (wrap64 (x - 1))
    ·have HN := Aside0.mk hn
     clear hn
     cases hv : l0.any evenB
     ·have HV := Aside0.mk hv
      have HO : Aside0 (oneCalm l0 x = true) := ⟨by unfold oneCalm; rw [hv]; simp⟩
      clear hv he
      go_wp2_with (first | (go_at_call 266; refine (contains_runs _ _ _ _ _ (Kd.C_below HR.out HB.out) HC.out).mono ?_; rintro e w3 ⟨rfl, hb⟩; rw [HN.out]; have HB3 := Aside0.mk (HB.out.trans (hb.mono HB.out.size)); clear hb) | (go_at_call 264; refine (containsFunc _ _ _ _ _ _ _ (Kd.C_below HR.out HB3.out) (even_says _ _)).mono ?_; rintro e w4 ⟨rfl, hb⟩; rw [HV.out]; have HB4 := Aside0.mk (HB3.out.trans (hb.mono HB3.out.size)); clear hb))
      go_roundw
      case rel => exact ⟨k + 1, by go_num, ⟨by omega⟩, ⟨by rw [HST.out, HA.out, HO.out]; rfl⟩, HB4⟩
      case measure => simp [intOf]; omega
     ·have HV := Aside0.mk hv
      have HO : Aside0 (oneCalm l0 x = false) := ⟨by unfold oneCalm; rw [hv, he, HN.out]; rfl⟩
      clear hv he
      go_wp2_with (first | (go_at_call 266; refine (contains_runs _ _ _ _ _ (Kd.C_below HR.out HB.out) HC.out).mono ?_; rintro e w3 ⟨rfl, hb⟩; rw [HN.out]; have HB3 := Aside0.mk (HB.out.trans (hb.mono HB.out.size)); clear hb) | (go_at_call 264; refine (containsFunc _ _ _ _ _ _ _ (Kd.C_below HR.out HB3.out) (even_says _ _)).mono ?_; rintro e w4 ⟨rfl, hb⟩; rw [HV.out]; have HB4 := Aside0.mk (HB3.out.trans (hb.mono HB3.out.size)); clear hb))
      go_ret
      exact ⟨ret_bool (by unfold calmL; rw [eq_comm, List.all_eq_false]; exact ⟨x, HM.out, by rw [HO.out]; simp⟩), HB4.out⟩
    ·have HN := Aside0.mk hn
     have HO : Aside0 (oneCalm l0 x = true) := ⟨by unfold oneCalm; rw [hn]; simp⟩
     clear hn he
     go_wp2_with (first | (go_at_call 266; refine (contains_runs _ _ _ _ _ (Kd.C_below HR.out HB.out) HC.out).mono ?_; rintro e w3 ⟨rfl, hb⟩; rw [HN.out]; have HB3 := Aside0.mk (HB.out.trans (hb.mono HB.out.size)); clear hb))
     go_roundw
     case rel => exact ⟨k + 1, by go_num, ⟨by omega⟩, ⟨by rw [HST.out, HA.out, HO.out]; rfl⟩, HB3⟩
     case measure => simp [intOf]; omega
   ·have he2 : (x.tmod 2 == 0) = true := he
    have HO : Aside0 (oneCalm l0 x = true) := ⟨by unfold oneCalm; rw [he]; rfl⟩
    clear he
    go_wp2
    go_roundw
    case rel => exact ⟨k + 1, by go_num, ⟨by omega⟩, ⟨by rw [HST.out, HA.out, HO.out]; rfl⟩, HB⟩
    case measure => simp [intOf]; omega
  ·have c0b : decide ((k : Int) < (l0.length : Int)) = false := by simpa using hlt
   go_wp2
   go_ret
   have hk := HK.out
   have : k = l0.length := by omega
   subst this
   have ha := HA.out
   unfold allUp at ha
   rw [List.take_length] at ha
   exact ⟨ret_bool ha.symm, HB.out⟩
end Go.Proofs.Ytlkjglanglpdoaa.T
namespace Go.Proofs.Ytlkjglanglpdoaa.T
inductive Way (E : Nat → List (Nat × Nat)) : Nat → Nat → Nat → Prop
  | nil (s : Nat) : Way E s s 0
  | snoc {a b c d k : Nat} : Way E a b d → (c, k) ∈ E b → Way E a c (d + k)
theorem Way.one {E : Nat → List (Nat × Nat)} {a c k : Nat} (h : (c, k) ∈ E a) : Way E a c k := by
  have := Way.snoc (Way.nil a) h
  rwa [Nat.zero_add] at this
theorem Way.trans {E : Nat → List (Nat × Nat)} {a b c d e : Nat} (h : Way E a b d) (h' : Way E b c e) : Way E a c (d + e) := by
  induction h' with
  | nil => exact h
  | snoc _ hm ih => rw [← Nat.add_assoc]; exact .snoc ih hm
theorem Way.cons {E : Nat → List (Nat × Nat)} {a b c k e : Nat} (h : (b, k) ∈ E a) (h' : Way E b c e) : Way E a c (k + e) := (Way.one h).trans h'
theorem Way.head {E : Nat → List (Nat × Nat)} {a c d : Nat} (h : Way E a c d) : (a = c ∧ d = 0) ∨ ∃ b k e, (b, k) ∈ E a ∧ Way E b c e ∧ d = k + e := by
  induction h with
  | nil => exact .inl ⟨rfl, rfl⟩
  | @snoc b c d k h hm ih =>
    rcases ih with ⟨rfl, rfl⟩ | ⟨b', k', e, hm', hw, rfl⟩
    · exact .inr ⟨c, k, 0, hm, .nil _, by omega⟩
    · exact .inr ⟨b', k', e + k, hm', .snoc hw hm, by omega⟩
theorem Way.keeps {E : Nat → List (Nat × Nat)} {G : Nat → Prop} (hE : ∀ s, G s → ∀ t k, (t, k) ∈ E s → G t) {a b d : Nat} (h : Way E a b d) (ha : G a) : G b := by
  induction h with
  | nil => exact ha
  | snoc _ hm ih => exact hE _ ih _ _ hm
def IsLeast (E : Nat → List (Nat × Nat)) (a s : Nat) (x : Int) : Prop :=
  (x = -1 ∧ ∀ d, ¬ Way E a s d) ∨ (∃ n : Nat, x = n ∧ Way E a s n ∧ ∀ d, Way E a s d → n ≤ d)
theorem IsLeast.unique {E : Nat → List (Nat × Nat)} {a s : Nat} {x y : Int} (h : IsLeast E a s x) (h' : IsLeast E a s y) : x = y := by
  rcases h with ⟨rfl, h⟩ | ⟨n, rfl, hw, hl⟩ <;> rcases h' with ⟨rfl, h'⟩ | ⟨m, rfl, hw', hl'⟩
  · rfl
  · exact absurd hw' (h _)
  · exact absurd hw (h' _)
  · have := hl _ hw'; have := hl' _ hw; omega
theorem IsLeast.exists (E : Nat → List (Nat × Nat)) (a s : Nat) : ∃ x, IsLeast E a s x := by
  by_cases h : ∃ d, Way E a s d
  · obtain ⟨d, hd⟩ := h
    have key : ∀ n, (∃ d, d < n ∧ Way E a s d) → ∃ m, Way E a s m ∧ ∀ d, Way E a s d → m ≤ d := by
      intro n
      induction n with
      | zero => rintro ⟨d, h, _⟩; omega
      | succ n ih =>
        rintro ⟨d, h, hw⟩
        by_cases hs : ∃ d, d < n ∧ Way E a s d
        · exact ih hs
        · refine ⟨d, hw, fun e he => ?_⟩
          rcases Nat.lt_or_ge e d with hl | hl
          · exact absurd ⟨e, by omega, he⟩ hs
          · exact hl
    obtain ⟨m, hm, hl⟩ := key (d + 1) ⟨d, by omega, hd⟩
    exact ⟨m, .inr ⟨m, rfl, hm, hl⟩⟩
  · exact ⟨-1, .inl ⟨rfl, fun d hd => h ⟨d, hd⟩⟩⟩
noncomputable def least (E : Nat → List (Nat × Nat)) (a s : Nat) : Int := Classical.choose (IsLeast.exists E a s)
theorem least_is (E : Nat → List (Nat × Nat)) (a s : Nat) : IsLeast E a s (least E a s) := Classical.choose_spec (IsLeast.exists E a s)
theorem least_eq {E : Nat → List (Nat × Nat)} {a s : Nat} {x : Int} (h : IsLeast E a s x) : least E a s = x := (least_is E a s).unique h
theorem least_ge (E : Nat → List (Nat × Nat)) (a s : Nat) : -1 ≤ least E a s := by
  rcases least_is E a s with ⟨h, _⟩ | ⟨n, h, _⟩ <;> omega
theorem least_le {E : Nat → List (Nat × Nat)} {a s d : Nat} (h : Way E a s d) : 0 ≤ least E a s ∧ least E a s ≤ d := by
  rcases least_is E a s with ⟨_, hn⟩ | ⟨n, h', hw, hl⟩
  · exact absurd h (hn d)
  · have := hl _ h; omega
theorem least_way {E : Nat → List (Nat × Nat)} {a s : Nat} (h : 0 ≤ least E a s) : Way E a s (least E a s).toNat := by
  rcases least_is E a s with ⟨h', _⟩ | ⟨n, h', hw, _⟩
  · omega
  · rw [h']; exact hw
theorem least_edge {E : Nat → List (Nat × Nat)} {a s t k : Nat} (h : 0 ≤ least E a s) (hm : (t, k) ∈ E s) : 0 ≤ least E a t ∧ least E a t ≤ least E a s + k := by
  have := least_le (.snoc (least_way h) hm); omega
theorem least_of_closed {E : Nat → List (Nat × Nat)} {a : Nat} (f : Nat → Int) (h0 : f a = 0)
    (hw : ∀ s, 0 ≤ f s → Way E a s (f s).toNat) (hn : ∀ s, f s < 0 → f s = -1)
    (he : ∀ s, 0 ≤ f s → ∀ t k, (t, k) ∈ E s → 0 ≤ f t ∧ f t ≤ f s + k) : ∀ s, f s = least E a s := by
  have key : ∀ s d, Way E a s d → 0 ≤ f s ∧ f s ≤ d := by
    intro s d h
    induction h with
    | nil => omega
    | snoc _ hm ih => have := he _ ih.1 _ _ hm; omega
  intro s
  symm
  rcases Int.lt_or_le (f s) 0 with h | h
  · exact least_eq (.inl ⟨hn s h, fun d hd => by have := (key s d hd).1; omega⟩)
  · exact least_eq (.inr ⟨(f s).toNat, by omega, hw s h, fun d hd => by have := (key s d hd).2; omega⟩)
theorem Way.back {E : Nat → List (Nat × Nat)} {G : Nat → Prop} (hE : ∀ s, G s → ∀ t k, (t, k) ∈ E s → G t ∧ (s, k) ∈ E t) {a b d : Nat} (h : Way E a b d) (ha : G a) : Way E b a d := by
  have hk : ∀ {b d}, Way E a b d → G b := fun h => h.keeps (fun s hs t k hm => (hE s hs t k hm).1) ha
  induction h with
  | nil => exact .nil _
  | snoc hw hm ih => rw [Nat.add_comm]; exact .cons (hE _ (hk hw) _ _ hm).2 ih
theorem least_back {E : Nat → List (Nat × Nat)} {G : Nat → Prop} (hE : ∀ s, G s → ∀ t k, (t, k) ∈ E s → G t ∧ (s, k) ∈ E t) {a b : Nat} (ha : G a) (hb : G b) : least E a b = least E b a := by
  rcases least_is E a b with ⟨h, hn⟩ | ⟨n, h, hw, hl⟩
  · rw [h]; exact (least_eq (.inl ⟨rfl, fun d hd => hn d (hd.back hE hb)⟩)).symm
  · rw [h]; exact (least_eq (.inr ⟨n, rfl, hw.back hE ha, fun d hd => hl d (hd.back hE hb)⟩)).symm
theorem Way.over {E F : Nat → List (Nat × Nat)} {G : Nat → Prop} (c : Nat → Nat) (hE : ∀ s, G s → ∀ t k, (t, k) ∈ E s → G t ∧ (c t, k) ∈ F (c s)) {a b d : Nat} (h : Way E a b d) (ha : G a) : Way F (c a) (c b) d := by
  have hk : ∀ {b d}, Way E a b d → G b := fun h => h.keeps (fun s hs t k hm => (hE s hs t k hm).1) ha
  induction h with
  | nil => exact .nil _
  | snoc hw hm ih => exact .snoc ih (hE _ (hk hw) _ _ hm).2
end Go.Proofs.Ytlkjglanglpdoaa.T
namespace Go.Proofs.Ytlkjglanglpdoaa.T
open Go.RowKit Go.Proofs.YtlkjglanglpdoaaW.PrintWords
set_option linter.unusedSimpArgs false
def at2 (Wl : List (List Int)) (c : Nat) : List Int := Wl.getD c []
def settled (ds : List Int) : Nat := ds.countP fun x => decide (0 ≤ x)
def Pend (Wl : List (List Int)) (d i c t : Nat) : Prop := (d < c ∧ (t : Int) ∈ at2 Wl c) ∨ (c = d ∧ (t : Int) ∈ (at2 Wl d).drop i)
structure Srch (E : Nat → List (Nat × Nat)) (G : Nat → Prop) (many C K st0 : Nat) (ds : List Int) (Wl : List (List Int)) (d i x p r : Nat) : Prop where
  len : ds.length = many
  dist : ∀ s : Nat, s < many → rd ds s = -1 ∨ (0 ≤ rd ds s ∧ rd ds s ≤ d ∧ G s ∧ Way E st0 s (rd ds s).toNat)
  wait : ∀ c y, y ∈ at2 Wl c → ∃ s : Nat, y = s ∧ s < many ∧ G s ∧ Way E st0 s c
  first : rd ds st0 = 0 ∨ Pend Wl d i 0 st0
  edge : ∀ s : Nat, s < many → 0 ≤ rd ds s → ∀ q t k : Nat, (E s)[q]? = some (t, k) → (s = x → q < p) → (0 ≤ rd ds t ∧ rd ds t ≤ rd ds s + k) ∨ Pend Wl d i ((rd ds s).toNat + k) t
  long : Wl.length ≤ settled ds * C + 1
  wide : ∀ c, (at2 Wl c).length + r ≤ settled ds * K + 1
  deep : x < many → d + C ≤ settled ds * C
theorem rd_nat (ds : List Int) (s : Nat) (h : s < ds.length) : rd ds s = ds[s] := by
  unfold rd
  rw [Int.toNat_natCast, List.getD_eq_getElem?_getD, List.getElem?_eq_getElem h]; rfl
theorem rd_set (ds : List Int) (s t : Nat) (v : Int) (h : s < ds.length) : rd (ds.set s v) t = if s = t then v else rd ds t := by
  unfold rd
  simp only [Int.toNat_natCast, List.getD_eq_getElem?_getD, List.getElem?_set]
  split
  · subst_vars; simp [h]
  · rfl
theorem settled_set (ds : List Int) (s : Nat) (v : Int) (h : s < ds.length) (h0 : rd ds s < 0) (hv : 0 ≤ v) : settled (ds.set s v) = settled ds + 1 := by
  rw [rd_nat ds s h] at h0
  unfold settled
  rw [List.countP_set h]
  have e1 : decide (0 ≤ ds[s]) = false := decide_eq_false (by omega)
  have e2 : decide (0 ≤ v) = true := decide_eq_true hv
  simp [e1, e2]
theorem settled_le (ds : List Int) : settled ds ≤ ds.length := List.countP_le_length
theorem at2_set (Wl : List (List Int)) (c e : Nat) (l : List Int) (h : c < Wl.length) : at2 (Wl.set c l) e = if c = e then l else at2 Wl e := by
  unfold at2
  simp only [List.getD_eq_getElem?_getD, List.getElem?_set]
  split
  · subst_vars; simp [h]
  · rfl
theorem at2_pad (Wl : List (List Int)) (e : Nat) : at2 (Wl ++ [[]]) e = at2 Wl e := by
  unfold at2
  simp only [List.getD_eq_getElem?_getD]
  rcases Nat.lt_or_ge e Wl.length with h | h
  · rw [List.getElem?_append_left h]
  · rw [List.getElem?_append_right h, List.getElem?_eq_none h]
    rcases Nat.eq_zero_or_pos (e - Wl.length) with h0 | h0
    · rw [h0]; rfl
    · rw [List.getElem?_eq_none (by simp; omega)]
theorem at2_none (Wl : List (List Int)) (e : Nat) (h : Wl.length ≤ e) : at2 Wl e = [] := by
  unfold at2
  rw [List.getD_eq_getElem?_getD, List.getElem?_eq_none h]; rfl
variable {E : Nat → List (Nat × Nat)} {G : Nat → Prop} {many C K st0 : Nat} {ds : List Int} {Wl : List (List Int)} {d i x p r : Nat}
theorem Srch.begins (hst : st0 < many) (hG : G st0) : Srch E G many C K st0 (List.replicate many (-1)) [[(st0 : Int)]] 0 0 many 0 0 := by
  have hrd : ∀ s : Nat, s < many → rd (List.replicate many (-1)) s = -1 := fun s hs => by
    rw [rd_nat _ _ (by simpa using hs)]; simp
  have hse : settled (List.replicate many (-1)) = 0 := by unfold settled; rw [List.countP_replicate]; simp
  refine ⟨by simp, fun s hs => .inl (hrd s hs), ?_, ?_, ?_, ?_, ?_, ?_⟩
  · intro c y hy
    match c with
    | 0 => simp [at2] at hy; exact ⟨st0, hy, hst, hG, .nil _⟩
    | c + 1 => simp [at2] at hy
  · exact .inr (.inr ⟨rfl, by simp [at2]⟩)
  · intro s hs h0; rw [hrd s hs] at h0; omega
  · simp
  · intro c
    match c with
    | 0 => simp [at2]
    | c + 1 => simp [at2]
  · intro h; omega
theorem Pend.step {c t : Nat} (h : Pend Wl d i c t) : Pend Wl d (i + 1) c t ∨ (c = d ∧ i < (at2 Wl d).length ∧ rd (at2 Wl d) i = t) := by
  rcases h with h | ⟨rfl, h⟩
  · exact .inl (.inl h)
  · rcases Nat.lt_or_ge i (at2 Wl c).length with hl | hl
    · rw [← List.getElem_cons_drop hl, List.mem_cons] at h
      rcases h with h | h
      · exact .inr ⟨rfl, hl, by rw [rd_nat _ _ hl]; exact h.symm⟩
      · exact .inl (.inr ⟨rfl, h⟩)
    · rw [List.drop_eq_nil_of_le hl] at h; cases h
theorem Srch.skip (h : Srch E G many C K st0 ds Wl d i many 0 0) (_hi : i < (at2 Wl d).length) {s : Nat} (hs : rd (at2 Wl d) i = s) (hk : 0 ≤ rd ds s) (hsm : s < many) : Srch E G many C K st0 ds Wl d (i + 1) many 0 0 := by
  have hd : rd ds s ≤ d := by rcases h.dist s hsm with h1 | h1 <;> omega
  refine ⟨h.len, h.dist, h.wait, ?_, ?_, h.long, h.wide, h.deep⟩
  · rcases h.first with h1 | h1
    · exact .inl h1
    · rcases h1.step with h2 | ⟨h2, _, h3⟩
      · exact .inr h2
      · have : s = st0 := by omega
        subst this
        exact .inl (by omega)
  · intro s' hs' h0 q t k hq hx
    rcases h.edge s' hs' h0 q t k hq hx with h1 | h1
    · exact .inl h1
    · rcases h1.step with h2 | ⟨h2, _, h3⟩
      · exact .inr h2
      · have : s = t := by omega
        subst this
        exact .inl ⟨hk, by omega⟩
theorem Srch.settle (h : Srch E G many C K st0 ds Wl d i many 0 0) (hi : i < (at2 Wl d).length) (hdl : d < Wl.length) {s : Nat} (hs : rd (at2 Wl d) i = s) (hn : rd ds s < 0) (hsm : s < many) :
    Srch E G many C K st0 (ds.set s d) Wl d (i + 1) s 0 K := by
  have hl : s < ds.length := by rw [h.len]; exact hsm
  have hmem : (s : Int) ∈ at2 Wl d := by rw [← hs, rd_nat _ _ hi]; exact List.getElem_mem _
  obtain ⟨s1, e1, _, hGs, hWs⟩ := h.wait d _ hmem
  have : s1 = s := by omega
  subst this
  have hset := settled_set ds s1 d hl hn (by omega)
  have hrd := fun t : Nat => rd_set ds s1 t d hl
  have hpend : ∀ {c t}, Pend Wl d i c t → (0 ≤ rd (ds.set s1 d) t ∧ rd (ds.set s1 d) t ≤ c) ∨ Pend Wl d (i + 1) c t := by
    intro c t hp
    rcases hp.step with h2 | ⟨h2, _, h3⟩
    · exact .inr h2
    · have : s1 = t := by omega
      subst this
      rw [hrd, if_pos rfl]; exact .inl (by omega)
  refine ⟨by simp [h.len], ?_, h.wait, ?_, ?_, ?_, ?_, ?_⟩
  · intro t ht
    rw [hrd]
    split
    · subst_vars; exact .inr ⟨by omega, by omega, hGs, by simpa using hWs⟩
    · exact h.dist t ht
  · rcases h.first with h1 | h1
    · refine .inl ?_
      rw [hrd, if_neg (fun e => by subst e; omega)]; exact h1
    · rcases hpend h1 with h2 | h2
      · exact .inl (by omega)
      · exact .inr h2
  · intro t ht h0 q u k hq hx
    by_cases e : t = s1
    · exact absurd (hx e) (by omega)
    · have e2 : rd (ds.set s1 (d : Int)) (t : Int) = rd ds t := by rw [hrd, if_neg (fun e' => e e'.symm)]
      rw [e2] at h0 ⊢
      rcases h.edge t ht h0 q u k hq (fun e' => by omega) with h1 | h1
      · refine .inl ?_
        rw [hrd]
        split
        · subst_vars; omega
        · exact h1
      · rcases hpend h1 with h2 | h2
        · exact .inl ⟨h2.1, by omega⟩
        · exact .inr h2
  · rw [hset, Nat.add_mul, Nat.one_mul]; have := h.long; omega
  · intro c; rw [hset, Nat.add_mul, Nat.one_mul]; have := h.wide c; omega
  · intro _; rw [hset, Nat.add_mul, Nat.one_mul]; have := h.long; omega
theorem Srch.less (h : Srch E G many C K st0 ds Wl d i x p r) {r' : Nat} (hr : r' ≤ r) : Srch E G many C K st0 ds Wl d i x p r' :=
  ⟨h.len, h.dist, h.wait, h.first, h.edge, h.long, fun c => by have := h.wide c; omega, h.deep⟩
theorem Srch.known (h : Srch E G many C K st0 ds Wl d i x p r) {t k : Nat} (hq : (E x)[p]? = some (t, k)) (ht : t < many) (hk : 0 ≤ rd ds t) (hx : x < many) (hxd : rd ds x = d) : Srch E G many C K st0 ds Wl d i x (p + 1) r := by
  refine ⟨h.len, h.dist, h.wait, h.first, ?_, h.long, h.wide, h.deep⟩
  intro s hs h0 q u k' hq' hx'
  by_cases e : s = x ∧ q = p
  · obtain ⟨rfl, rfl⟩ := e
    rw [hq] at hq'
    obtain ⟨rfl, rfl⟩ := Prod.mk.inj (Option.some.inj hq')
    refine .inl ⟨hk, ?_⟩
    rcases h.dist t ht with h1 | h1 <;> omega
  · exact h.edge s hs h0 q u k' hq' (fun e' => by have := hx' e'; omega)
theorem Srch.pad (h : Srch E G many C K st0 ds Wl d i x p r) (hx : x < many) (hl : Wl.length ≤ d + C) : Srch E G many C K st0 ds (Wl ++ [[]]) d i x p r := by
  have hp : ∀ {c t}, Pend Wl d i c t → Pend (Wl ++ [[]]) d i c t := by
    intro c t h; unfold Pend; simp only [at2_pad]; exact h
  refine ⟨h.len, h.dist, fun c y hy => h.wait c y (by rwa [at2_pad] at hy), h.first.imp_right hp, fun s hs h0 q u k hq hx' => (h.edge s hs h0 q u k hq hx').imp_right hp, ?_, fun c => by rw [at2_pad]; exact h.wide c, h.deep⟩
  have := h.deep hx
  simp only [List.length_append, List.length_cons, List.length_nil]
  omega
theorem Srch.push (h : Srch E G many C K st0 ds Wl d i x p (r + 1)) {t k : Nat} (hq : (E x)[p]? = some (t, k)) (ht : t < many) (hGt : G t) (hk : 1 ≤ k) (hx : x < many) (hxd : rd ds x = d) (hl : d + k < Wl.length) :
    Srch E G many C K st0 ds (Wl.set (d + k) (at2 Wl (d + k) ++ [(t : Int)])) d i x (p + 1) r := by
  have ha := fun e => at2_set Wl (d + k) e (at2 Wl (d + k) ++ [(t : Int)]) hl
  have hp : ∀ {c u}, Pend Wl d i c u → Pend (Wl.set (d + k) (at2 Wl (d + k) ++ [(t : Int)])) d i c u := by
    rintro c u (⟨h1, h2⟩ | ⟨h1, h2⟩)
    · refine .inl ⟨h1, ?_⟩
      rw [ha]; split
      · subst_vars; exact List.mem_append_left _ h2
      · exact h2
    · refine .inr ⟨h1, ?_⟩
      rw [ha, if_neg (by omega)]; exact h2
  have hway : Way E st0 x d := by
    rcases h.dist x hx with h1 | ⟨_, _, _, h1⟩
    · omega
    · rw [hxd] at h1; simpa using h1
  refine ⟨h.len, h.dist, ?_, h.first.imp_right hp, ?_, by rw [List.length_set]; exact h.long, ?_, h.deep⟩
  · intro c y hy
    rw [ha] at hy
    split at hy
    · subst_vars
      rcases List.mem_append.1 hy with h1 | h1
      · exact h.wait _ _ h1
      · rw [List.mem_singleton] at h1
        exact ⟨t, h1, ht, hGt, .snoc hway (List.mem_of_getElem? hq)⟩
    · exact h.wait _ _ hy
  · intro s hs h0 q u k' hq' hx'
    by_cases e : s = x ∧ q = p
    · obtain ⟨rfl, rfl⟩ := e
      rw [hq] at hq'
      obtain ⟨rfl, rfl⟩ := Prod.mk.inj (Option.some.inj hq')
      refine .inr (.inl ⟨by omega, ?_⟩)
      rw [ha, if_pos (by omega)]
      simp
    · exact (h.edge s hs h0 q u k' hq' (fun e' => by have := hx' e'; omega)).imp_right hp
  · intro c
    rw [ha]; split
    · subst_vars; have := h.wide (d + k); simp only [List.length_append, List.length_cons, List.length_nil]; omega
    · have := h.wide c; omega
theorem Srch.seen (h : Srch E G many C K st0 ds Wl d i x p r) (hp : (E x).length ≤ p) : Srch E G many C K st0 ds Wl d i many 0 0 := by
  refine ⟨h.len, h.dist, h.wait, h.first, ?_, h.long, fun c => by have := h.wide c; omega, fun h => by omega⟩
  intro s hs h0 q u k hq _
  exact h.edge s hs h0 q u k hq (fun e => by
    subst e
    have := (List.getElem?_eq_some_iff.1 hq).1
    omega)
theorem Srch.next (h : Srch E G many C K st0 ds Wl d i many 0 0) (hi : (at2 Wl d).length ≤ i) : Srch E G many C K st0 ds Wl (d + 1) 0 many 0 0 := by
  have hp : ∀ {c u}, Pend Wl d i c u → Pend Wl (d + 1) 0 c u := by
    rintro c u (⟨h1, h2⟩ | ⟨h1, h2⟩)
    · rcases Nat.lt_or_ge (d + 1) c with h3 | h3
      · exact .inl ⟨h3, h2⟩
      · have : c = d + 1 := by omega
        subst this
        exact .inr ⟨rfl, by simpa using h2⟩
    · rw [List.drop_eq_nil_of_le hi] at h2; cases h2
  exact ⟨h.len, fun s hs => (h.dist s hs).imp_right (fun ⟨a, b, c⟩ => ⟨a, by omega, c⟩), h.wait, h.first.imp_right hp, fun s hs h0 q u k hq hx => (h.edge s hs h0 q u k hq hx).imp_right hp, h.long, h.wide, fun h => by omega⟩
theorem Srch.ends (h : Srch E G many C K st0 ds Wl d i many 0 0) (hd : Wl.length ≤ d) (hE : ∀ s, G s → ∀ t k, (t, k) ∈ E s → t < many) (hst : st0 < many) : ∀ s : Nat, s < many → rd ds s = least E st0 s := by
  have hno : ∀ {c u}, ¬ Pend Wl d i c u := by
    rintro c u (⟨h1, h2⟩ | ⟨h1, h2⟩)
    · rw [at2_none Wl c (by omega)] at h2; cases h2
    · rw [at2_none Wl d hd, List.drop_nil] at h2; cases h2
  have h0 : rd ds st0 = 0 := h.first.resolve_right hno
  have key := least_of_closed (E := E) (a := st0) (fun s => if s < many then rd ds s else -1) (by simp [hst, h0])
    (fun s hs => by
      split at hs
      · rename_i hl
        rw [if_pos hl]
        rcases h.dist s hl with h1 | h1
        · omega
        · exact h1.2.2.2
      · omega)
    (fun s hs => by
      split at hs
      · rename_i hl
        rw [if_pos hl]
        rcases h.dist s hl with h1 | h1 <;> omega
      · rename_i hl; rw [if_neg hl])
    (fun s hs t k hm => by
      split at hs
      · rename_i hl
        rw [if_pos hl]
        obtain ⟨q, hq⟩ := List.getElem?_of_mem hm
        have hG : G s := by rcases h.dist s hl with h1 | h1; omega; exact h1.2.2.1
        have htm := hE s hG t k hm
        rw [if_pos htm]
        exact (h.edge s hl hs q t k hq (fun e => by omega)).resolve_right hno
      · omega)
  intro s hs
  have := key s
  rwa [if_pos hs] at this
end Go.Proofs.Ytlkjglanglpdoaa.T
namespace Go.Proofs.Ytlkjglanglpdoaa.T
open Go.RowKit Go.Proofs.YtlkjglanglpdoaaW.PrintWords Go.Proofs.YtlkjglanglpdoaaW.PrintLast Go.Proofs.YtlkjglanglpdoaaW.PrintMore
set_option linter.unusedVariables false
set_option linter.unusedSimpArgs false
theorem Kd.R_mineIs {e : Nat} {w : World} {base : Nat} {ok : Nat → Prop} {v : Value} {xs : List Int} (h : Kd.R (Kd.int .i64) e w base ok v xs) : Kd.R (Kd.int .i64) e w base (fun k => ok k ∧ v.ownBlock = some k) v xs :=
  ⟨fun k hk => ⟨h.1 k hk, hk⟩, h.2⟩
def WaitOne (w0 wr : World) (bd : Nat) (Wl : List (List Int)) (j : Nat) (x : Value) : Prop :=
  (j = 0 → ∃ A c, x = .slice A (at2 Wl 0).length c ∧ (at2 Wl 0).length ≤ c ∧ ∀ w', Below w0.heap.size w0 w' → Kd.C (Kd.int .i64) w' A (at2 Wl 0).length (at2 Wl 0)) ∧
  (0 < j → Kd.R (Kd.int .i64) 3 wr w0.heap.size (fun k => k ≠ bd) x (at2 Wl j))
structure Wait (w0 wr : World) (bd : Nat) (v : Value) (Wl : List (List Int)) (vs : List Value) : Prop where
  own : wr.ownsRow w0.heap.size 32 1 v Wl.length vs
  one : ∀ j x, vs[j]? = some x → WaitOne w0 wr bd Wl j x
  apart : ∀ i j x y, 0 < i → 0 < j → i ≠ j → vs[i]? = some x → vs[j]? = some y → ∀ k, x.ownBlock = some k → y.ownBlock ≠ some k
  below : Below w0.heap.size w0 wr
section
variable {w0 wr wr' : World} {bd : Nat} {v : Value} {Wl : List (List Int)} {vs : List Value}
theorem Wait.len (h : Wait w0 wr bd v Wl vs) : vs.length = Wl.length := by have := h.own.1; omega
theorem Wait.kept (h : Wait w0 wr bd v Wl vs) {S : Nat → Prop} (hk : Kept wr wr' S) (hb : Below w0.heap.size w0 wr') (hS : ∀ k, S k → k = bd) (hbd : some bd ≠ v.ownBlock) : Wait w0 wr' bd v Wl vs := by
  refine ⟨own_move h.own (fun k hk' => hk.2 k (own_lt h.own k hk') (fun hs => by have := hS k hs; subst this; exact hbd hk'.symm)), fun j x hx => ⟨(h.one j x hx).1, fun hj => ?_⟩, h.apart, hb⟩
  exact Kd.R_kept ((h.one j x hx).2 hj) hk (fun k hk' hs => hk' (hS k hs))
theorem Wait.later (h : Wait w0 wr bd v Wl vs) (hb : Below wr.heap.size wr wr') : Wait w0 wr' bd v Wl vs :=
  ⟨pw_own_below h.own hb, fun j x hx => ⟨(h.one j x hx).1, fun hj => Kd.R_below ((h.one j x hx).2 hj) hb⟩, h.apart, h.below.trans (hb.mono h.below.size)⟩
theorem Wait.at_ (h : Wait w0 wr bd v Wl vs) {d : Nat} (hd : d < Wl.length) :
    ∃ g cap A c, v = .slice (some ⟨g, 0, none⟩) Wl.length cap ∧ w0.heap.size ≤ g ∧ wr.cell? ⟨g, d, none⟩ = some (.slice A (at2 Wl d).length c) ∧ wr.frozen? ⟨g, d, none⟩ = false ∧ vs[d]? = some (.slice A (at2 Wl d).length c) ∧ Kd.C (Kd.int .i64) wr A (at2 Wl d).length (at2 Wl d) := by
  have hl := h.len
  obtain ⟨x, hx⟩ : ∃ x, vs[d]? = some x := ⟨vs[d]'(by omega), List.getElem?_eq_getElem (by omega)⟩
  have hread : ∃ A c, x = .slice A (at2 Wl d).length c ∧ Kd.C (Kd.int .i64) wr A (at2 Wl d).length (at2 Wl d) := by
    rcases Nat.eq_zero_or_pos d with rfl | h0
    · obtain ⟨A, c, e, _, hc⟩ := (h.one 0 x hx).1 rfl
      exact ⟨A, c, e, hc _ h.below⟩
    · obtain ⟨A, c, e, _, hc⟩ := Kd.R_reads ((h.one d x hx).2 h0)
      exact ⟨A, c, e, hc⟩
  obtain ⟨A, c, rfl, hc⟩ := hread
  obtain ⟨g, cap, rfl, hg, _⟩ := h.own.form (by omega)
  have hcell := h.own.cells (g := g) rfl d _ hx
  rw [add_plain] at hcell
  refine ⟨g, cap, A, c, rfl, hg, hcell, ?_, hx, hc⟩
  rcases h.own.2 with ⟨h', _⟩ | ⟨g', cap', cur, h', _, hh, _⟩
  · cases h'
  · have : g = g' := by injection h' with h'; injection h' with h'; injection h' with h'
    subst this
    simp [World.frozen?, hh]
end
section
variable {w0 W w1 : World} {bd : Nat} {v v1 : Value} {Wl : List (List Int)} {vs : List Value}
theorem Wait.padded (h : Wait w0 W bd v Wl vs) (ho : w1.ownsRow w0.heap.size 32 1 v1 (vs ++ [Value.slice none 0 0]).length (vs ++ [Value.slice none 0 0])) (hb : Below w0.heap.size w0 w1) (hg : W.grownBy w1 v.ownBlock) (h0 : 0 < Wl.length) :
    Wait w0 w1 bd v1 (Wl ++ [[]]) (vs ++ [Value.slice none 0 0]) := by
  have hl := h.len
  refine ⟨by have e : (Wl ++ [[]]).length = (vs ++ [Value.slice none 0 0]).length := by simp [hl]
             rw [e]; exact ho, ?_, ?_, hb⟩
  · intro j x hx
    rcases Nat.lt_or_ge j vs.length with hj | hj
    · rw [List.getElem?_append_left hj] at hx
      have h1 := h.one j x hx
      unfold WaitOne
      simp only [at2_pad]
      exact ⟨h1.1, fun hj0 => Kd.R_over' (e' := 32) (h1.2 hj0) (fun k hk => own_typed h.own k hk) (by decide) hg⟩
    · rw [List.getElem?_append_right hj] at hx
      have hj' : j - vs.length = 0 := by
        rcases Nat.eq_zero_or_pos (j - vs.length) with h | h
        · exact h
        · rw [List.getElem?_eq_none (by simp; omega)] at hx; cases hx
      rw [hj'] at hx
      have hx' : x = .slice none 0 0 := by simpa using hx.symm
      subst hx'
      refine ⟨fun hj0 => by omega, fun _ => ?_⟩
      rw [at2_pad, at2_none Wl j (by omega)]
      exact Kd.R_nil _ _ _ _ _
  · intro i j x y hi hj hij hx hy k hk
    have hnil : ∀ (q : Nat) (z : Value), (vs ++ [Value.slice none 0 0])[q]? = some z → z.ownBlock = some k → q < vs.length := by
      intro q z hz hk
      rcases Nat.lt_or_ge q vs.length with hq | hq
      · exact hq
      · rw [List.getElem?_append_right hq] at hz
        have : z = .slice none 0 0 := by
          rcases Nat.eq_zero_or_pos (q - vs.length) with h | h
          · rw [h] at hz; simpa using hz.symm
          · rw [List.getElem?_eq_none (by simp; omega)] at hz; cases hz
        subst this
        simp [Value.ownBlock] at hk
    intro hk'
    have hi' := hnil i x hx hk
    have hj' := hnil j y hy hk'
    rw [List.getElem?_append_left hi'] at hx
    rw [List.getElem?_append_left hj'] at hy
    exact h.apart i j x y hi hj hij hx hy k hk hk'
theorem Wait.pushed {g cap j n c : Nat} {A : Option Addr} {y : Value} {l : List Int} (h : Wait w0 W bd (.slice (some ⟨g, 0, none⟩) Wl.length cap) Wl vs) (hj0 : 0 < j) (hj : j < Wl.length) (hx : vs[j]? = some (.slice A n c))
    (hy : Kd.R (Kd.int .i64) 3 w1 w0.heap.size (fun k => k ≠ bd) y l) (hg : W.grownBy w1 (Value.slice A n c).ownBlock) (hat : y.ownBlock = (Value.slice A n c).ownBlock ∨ ∃ b, y.ownBlock = some b ∧ W.heap.size ≤ b) :
    Wait w0 (w1.setCell ⟨g, j, none⟩ y) bd (.slice (some ⟨g, 0, none⟩) Wl.length cap) (Wl.set j l) (vs.set j y) := by
  have hl := h.len
  have hone := h.one j _ hx
  have hRx := hone.2 hj0
  have hgt : ∃ cells, W.heap[g]? = some (.cells cells 32 (0, 0)) := own_typed h.own g (by simp [Value.ownBlock])
  have hgne : some g ≠ (Value.slice A n c).ownBlock := Kd.R_ne hRx hgt.choose_spec (by decide)
  have hglt : g < W.heap.size := own_lt h.own g (by simp [Value.ownBlock])
  have hgW : w1.heap[g]? = W.heap[g]? := hg.block g hglt hgne
  have hown1 : w1.ownsRow w0.heap.size 32 1 (.slice (some ⟨g, 0, none⟩) Wl.length cap) Wl.length vs := own_move h.own (fun k hk => by have : g = k := by simpa [Value.ownBlock] using hk
                                                                                                                                      subst this; exact hgW)
  have hst := hown1.stored j y
  have hgt1 : ∃ cells, w1.heap[g]? = some (.cells cells 32 (0, 0)) := by rw [hgW]; exact hgt
  have hfar : ∀ {z : Value} {zs : List Int}, Kd.R (Kd.int .i64) 3 w1 w0.heap.size (fun k => k ≠ bd) z zs → Kd.R (Kd.int .i64) 3 (w1.setCell ⟨g, j, none⟩ y) w0.heap.size (fun k => k ≠ bd) z zs := by
    intro z zs hz
    exact Kd.R_mono (Kd.R_far (Kd.R_types hz hgt1.choose_spec (by decide)) (p := ⟨g, j, none⟩) (fun k hk => hk.2) y) (fun k hk => hk.1)
  refine ⟨by rw [List.length_set]; exact hst.1, ?_, ?_, ?_⟩
  · intro i x hxi
    rw [List.getElem?_set] at hxi
    unfold WaitOne
    have ha := fun e => at2_set Wl j e l hj
    by_cases e : j = i
    · subst e
      rw [if_pos rfl, if_pos (by omega)] at hxi
      obtain rfl := Option.some.inj hxi
      refine ⟨fun h => by omega, fun _ => ?_⟩
      rw [ha, if_pos rfl]
      exact hfar hy
    · rw [if_neg e] at hxi
      have h1 := h.one i x hxi
      have h0 : at2 (Wl.set j l) 0 = at2 Wl 0 := by rw [ha, if_neg (by omega)]
      rw [h0, ha, if_neg e]
      refine ⟨h1.1, fun hi0 => hfar ?_⟩
      have h2 := h1.2 hi0
      exact Kd.R_mono (Kd.R_grown (Kd.R_mono (ok' := fun k => k ≠ bd ∧ some k ≠ (Value.slice A n c).ownBlock) (Kd.R_mineIs h2) (fun k hk => ⟨hk.1, fun he => h.apart i j x _ hi0 hj0 (fun e' => e e'.symm) hxi hx k hk.2 he.symm⟩)) hg (fun k hk => hk.2)) (fun k hk => hk.1)
  · intro i i2 x x2 hi hi2 hne hxi hxi2 k hk
    rw [List.getElem?_set] at hxi hxi2
    by_cases e : j = i
    · subst e
      rw [if_pos rfl, if_pos (by omega)] at hxi
      obtain rfl := Option.some.inj hxi
      rw [if_neg (fun e' => hne e')] at hxi2
      intro hk2
      rcases hat with hat | ⟨b, hb, hle⟩
      · rw [hat] at hk
        exact h.apart j i2 _ x2 hj0 hi2 hne hx hxi2 k hk hk2
      · rw [hb] at hk
        have := Kd.R_lt ((h.one i2 x2 hxi2).2 hi2) k hk2
        have : b = k := by simpa using hk
        omega
    · rw [if_neg e] at hxi
      by_cases e2 : j = i2
      · subst e2
        rw [if_pos rfl, if_pos (by omega)] at hxi2
        obtain rfl := Option.some.inj hxi2
        intro hk2
        rcases hat with hat | ⟨b, hb, hle⟩
        · rw [hat] at hk2
          exact h.apart i j x _ hi hj0 hne hxi hx k hk hk2
        · rw [hb] at hk2
          have := Kd.R_lt ((h.one i x hxi).2 hi) k hk
          have : b = k := by simpa using hk2
          omega
      · rw [if_neg e2] at hxi2
        exact h.apart i i2 x x2 hi hi2 hne hxi hxi2 k hk
  · have h1 : Below w0.heap.size w0 w1 := h.below.grown hg h.below.size (fun k hk => Kd.R_base hRx k hk)
    exact h1.setCell (p := ⟨g, j, none⟩) (own_base h.own g (by simp [Value.ownBlock])) y
end
end Go.Proofs.Ytlkjglanglpdoaa.T
namespace Go.Proofs.Ytlkjglanglpdoaa.T
open Go.RowKit Go.Proofs.YtlkjglanglpdoaaW.PrintWords Go.Proofs.YtlkjglanglpdoaaW.PrintLast Go.Proofs.YtlkjglanglpdoaaW.PrintMore
set_option linter.unusedVariables false
set_option linter.unusedSimpArgs false
structure OutsV (f : FuncId) (cap : Array Value) (E : Nat → List S234) (G : Nat → Prop) (many C K : Nat) (w0 : World) : Prop where
 fn : ∃ fn, Try.prog.funcs[f]? = some fn ∧ (fn.name == "runtime.NumGoroutine") = false ∧ fn.body.isSome = true
 call : ∀ s : Nat, s < many → G s → ∀ w', Below w0.heap.size w0 w' → Calls Try.prog f (#[.int .i64 (s : Int)] ++ cap) w' fun e w'' => ∃ v, e = .returned v ∧ Kd.N k234 234 w'' w'.heap.size (fun k => w'.heap.size ≤ k) v (E s) ∧ Below w'.heap.size w' w''
 good : ∀ s, G s → ∀ e ∈ E s, ∃ t k : Nat, e.f0 = t ∧ e.f1 = k ∧ t < many ∧ G t ∧ 1 ≤ k ∧ k ≤ C
 few : ∀ s, G s → (E s).length ≤ K
def eV (E : Nat → List S234) (s : Nat) : List (Nat × Nat) := (E s).map fun e => (e.f0.toNat, e.f1.toNat)
theorem OutsV.later {f : FuncId} {cap : Array Value} {E : Nat → List S234} {G : Nat → Prop} {many C K : Nat} {w0 w1 : World} (h : OutsV f cap E G many C K w0) (hb : Below w0.heap.size w0 w1) : OutsV f cap E G many C K w1 :=
 ⟨h.fn, fun s hs hG w' hw => h.call s hs hG w' (hb.trans (hw.mono hb.size)), h.good, h.few⟩
def CostRow (w0 wr : World) (bd cd many : Nat) (ds : List Int) : Prop := Kd.R (Kd.int .i64) 3 wr w0.heap.size (fun k => k = bd) (.slice (some ⟨bd, 0, none⟩) many cd) ds
theorem cell_at0 {w : World} {cs : Array Value} {E : TypeId} {a j : Nat} (h : a = w.heap.size) {v : Value} (hv : cs[j]? = some v) : (w.alloc (.cells cs E)).cell? ⟨a, j, none⟩ = some v := by
 rw [World.cell?_alloc_at _ _ _ _ h]; exact hv
theorem lit_reads (W : World) (x : Int) : Kd.C (Kd.int .i64) (W.alloc (.cells #[.int .i64 x] 3)) (some ⟨W.heap.size, 0, none⟩) 1 [x] := by
 refine ⟨rfl, by omega, fun _ => ⟨_, rfl, fun j p hj => ?_⟩⟩
 have hj0 : j = 0 := by
  rcases Nat.eq_zero_or_pos j with h | h
  ·exact h
  ·rw [List.getElem?_eq_none (by simp; omega)] at hj; cases hj
 subst hj0
 have hp : p = x := by simpa using hj.symm
 subst hp
 refine ⟨[.int .i64 p], rfl, rfl, fun i u hi => ?_⟩
 have hi0 : i = 0 := by
  rcases Nat.eq_zero_or_pos i with h | h
  ·exact h
  ·rw [List.getElem?_eq_none (by simp; omega)] at hi; cases hi
 subst hi0
 have hu : u = .int .i64 p := by simpa using hi.symm
 subst hu
 rw [add_plain]
 exact cell_at0 rfl rfl
theorem costs_form {w : World} {base n : Nat} {ok : Nat → Prop} {v : Value} (h : Kd.R (Kd.int .i64) 3 w base ok v (List.replicate n (-1))) (hn : 0 < n) : ∃ bd cd, v = .slice (some ⟨bd, 0, none⟩) n cd ∧ base ≤ bd := by
 obtain ⟨inner, ho⟩ := Kd.R_own h
 rw [List.length_replicate] at ho
 obtain ⟨g, cap, rfl, hg, _⟩ := ho.form hn
 exact ⟨g, cap, rfl, hg⟩
theorem costs_free {w0 wr : World} {bd cd many s : Nat} {ds : List Int} (h : CostRow w0 wr bd cd many ds) : wr.frozen? ⟨bd, s, none⟩ = false := by
 obtain ⟨inner, ho⟩ := Kd.R_own h
 rcases ho.2 with ⟨h', _⟩ | ⟨g', cap', cur, h', _, hh, _⟩
 ·cases h'
 ·have : bd = g' := by injection h' with h'; injection h' with h'; injection h' with h'
  subst this
  simp [World.frozen?, hh]
theorem Kd.R_ne_own {w : World} {base base2 n n2 cd bd : Nat} {ok : Nat → Prop} {v : Value} {xs : List Int} {ys : List Value} (h : Kd.R (Kd.int .i64) 3 w base ok (.slice (some ⟨bd, 0, none⟩) n cd) xs) (h2 : w.ownsRow base2 32 1 v n2 ys) : some bd ≠ v.ownBlock := by
 intro he
 obtain ⟨c1, h1⟩ := Kd.R_typed h bd (by simp [Value.ownBlock])
 obtain ⟨c2, h2⟩ := own_typed h2 bd he.symm
 rw [h1] at h2
 injection h2 with h2
 injection h2 with _ h2
 exact absurd h2 (by decide)
structure Edges (w : World) (v : Value) (xs : List S234) : Prop where
 cell : ∀ p : Nat, p < xs.length → ∃ g c A3 c3, v = .slice (some ⟨g, 0, none⟩) xs.length c ∧ w.cell? ⟨g, p * 4, none⟩ = some (.int .i64 (rd_T234 xs p).f0) ∧ w.cell? ⟨g, p * 4 + 1, none⟩ = some (.int .i64 (rd_T234 xs p).f1) ∧ w.cell? ⟨g, p * 4 + 2, none⟩ = some (.int .i64 (rd_T234 xs p).f2.f0) ∧ w.cell? ⟨g, p * 4 + 3, none⟩ = some (.slice A3 (rd_T234 xs p).f2.f1.length c3)
 typed : ∀ k, v.ownBlock = some k → ∃ cells, w.heap[k]? = some (.cells cells 234 (0, 0))
theorem Edges.stay {w w' : World} {v : Value} {xs : List S234} (h : Edges w v xs) (hk : ∀ k, v.ownBlock = some k → w'.heap[k]? = w.heap[k]?) : Edges w' v xs := by
 refine ⟨fun p hp => ?_, fun k hk' => by rw [hk k hk']; exact h.typed k hk'⟩
 obtain ⟨g, c, A3, c3, rfl, h0, h1, h2, h3⟩ := h.cell p hp
 have hg := hk g (by simp [Value.ownBlock])
 have hc : ∀ j, w'.cell? ⟨g, j, none⟩ = w.cell? ⟨g, j, none⟩ := fun j => World.cell?_of_block (w := w) (a := ⟨g, j, none⟩) hg
 exact ⟨g, c, A3, c3, rfl, (hc _).trans h0, (hc _).trans h1, (hc _).trans h2, (hc _).trans h3⟩
theorem Edges.later {w w' : World} {v : Value} {xs : List S234} (h : Edges w v xs) (hb : Below w.heap.size w w') : Edges w' v xs :=
 h.stay (fun k hk => by
  obtain ⟨c, hc⟩ := h.typed k hk
  exact hb.block k (Array.getElem?_eq_some_iff.1 hc).1)
theorem edges_of {w : World} {base : Nat} {ok : Nat → Prop} {v : Value} {xs : List S234} (h : Kd.N k234 234 w base ok v xs) : Edges w v xs := by
 refine ⟨fun p hp => ?_, Kd.N_typed h⟩
 obtain ⟨_, rows, hl, hR, hf⟩ := h
 obtain ⟨inner, ho⟩ := Kd.R_own hR
 obtain ⟨g, cap, rfl, _, _⟩ := ho.form (by omega)
 obtain ⟨hn, _, hC⟩ := Kd.R_reads' hR
 obtain ⟨ad, hade, hcell⟩ := hC.2.2 (by omega)
 obtain rfl : ad = ⟨g, 0, none⟩ := by injection hade with h; exact h.symm
 have hpr : rows[p]? = some (rows[p]'(by omega)) := List.getElem?_eq_getElem (by omega)
 obtain ⟨c, hc4, hK, hcc⟩ := hcell p _ hpr
 have hxp : xs[p]? = some (rd_T234 xs p) := by
  unfold rd_T234
  rw [Int.toNat_natCast, List.getD_eq_getElem?_getD, List.getElem?_eq_getElem hp]; rfl
 obtain ⟨A3, c3, hrow, _, _⟩ := k234_open (Kd.FK_now (hf p _ _ hxp hpr))
 have hce : c = rows[p]'(by omega) := hK.1
 rw [hrow] at hce
 subst hce
 have hz : (Kd.raw k234.sz).sz = 4 := rfl
 have h0 := hcc 0 _ rfl
 have h1 := hcc 1 _ rfl
 have h2 := hcc 2 _ rfl
 have h3 := hcc 3 _ rfl
 rw [add_plain, hz] at h0 h1 h2 h3
 rw [hl]
 exact ⟨g, cap, A3, c3, rfl, h0, h1, h2, h3⟩
theorem rd_T234_mem (xs : List S234) (p : Nat) (h : p < xs.length) : rd_T234 xs p ∈ xs := by
 unfold rd_T234
 rw [Int.toNat_natCast, List.getD_eq_getElem?_getD, List.getElem?_eq_getElem h]
 exact List.getElem_mem _
theorem eV_at (E : Nat → List S234) (s p : Nat) (h : p < (E s).length) {t k : Nat} (ht : (rd_T234 (E s) p).f0 = t) (hk : (rd_T234 (E s) p).f1 = k) : (eV E s)[p]? = some (t, k) := by
 unfold eV
 rw [List.getElem?_map]
 have hxp : (E s)[p]? = some (rd_T234 (E s) p) := by
  unfold rd_T234
  rw [Int.toNat_natCast, List.getD_eq_getElem?_getD, List.getElem?_eq_getElem h]; rfl
 rw [hxp]
 simp [ht, hk]
structure BoxAt (w : World) (bb t k : Nat) : Prop where
 a : w.cell? ⟨bb, 0, none⟩ = some (.int .i64 (t : Int))
 b : w.cell? ⟨bb, 1, none⟩ = some (.int .i64 (k : Int))
 typed : ∃ cells, w.heap[bb]? = some (.cells cells 234 (0, 0))
theorem BoxAt.stay {w w' : World} {bb t k : Nat} (h : BoxAt w bb t k) (hb : w'.heap[bb]? = w.heap[bb]?) : BoxAt w' bb t k :=
 ⟨(World.cell?_of_block (w := w) (a := ⟨bb, 0, none⟩) hb).trans h.a, (World.cell?_of_block (w := w) (a := ⟨bb, 1, none⟩) hb).trans h.b, by rw [hb]; exact h.typed⟩
theorem grown_far {W w1 : World} {row : Option Nat} {b e e' : Nat} (hg : W.grownBy w1 row) (hr : ∀ k, row = some k → ∃ cells, W.heap[k]? = some (.cells cells e' (0, 0))) (hb : ∃ cells, W.heap[b]? = some (.cells cells e (0, 0))) (hne : e ≠ e') : w1.heap[b]? = W.heap[b]? := by
 obtain ⟨c, hc⟩ := hb
 refine hg.block b (Array.getElem?_eq_some_iff.1 hc).1 (fun he => ?_)
 obtain ⟨c', hc'⟩ := hr b he.symm
 rw [hc] at hc'
 injection hc' with hc'
 injection hc' with _ hc'
 exact hne hc'
theorem BoxAt.later {w w' : World} {bb t k : Nat} (h : BoxAt w bb t k) (hb : Below w.heap.size w w') : BoxAt w' bb t k :=
 h.stay (hb.block bb (by obtain ⟨c, hc⟩ := h.typed; exact (Array.getElem?_eq_some_iff.1 hc).1))
theorem wide_le {E : Nat → List (Nat × Nat)} {G : Nat → Prop} {many C K st0 d i x p r : Nat} {ds : List Int} {Wl : List (List Int)} (h : Srch E G many C K st0 ds Wl d i x p r) (hm : many < 1048577) (hK : K ≤ 1048576) : settled ds * K ≤ 1099511627776 := by
 have h1 := settled_le ds
 rw [h.len] at h1
 exact Nat.le_trans (Nat.mul_le_mul (by omega : settled ds ≤ 1048576) hK) (by omega)
def lenOf : Value → Nat
 | .slice _ n _ => n
 | _ => 0
theorem wait_start {w w0 w1 : World} {bd cs st0 : Nat} {As : Option Addr} (hls : Kd.C (Kd.int .i64) w As 1 [(st0 : Int)]) (hcs : 1 ≤ cs) (hb0 : Below w.heap.size w w0) (hb1 : Below w0.heap.size w0 w1) :
  Wait w0 (w1.alloc (.cells #[.slice As 1 cs] 32)) bd (.slice (some ⟨w1.heap.size, 0, none⟩) 1 1) [[(st0 : Int)]] [.slice As 1 cs] := by
 have h0 : ∀ (j : Nat) (x : Value), ([Value.slice As 1 cs] : List Value)[j]? = some x → j = 0 ∧ x = .slice As 1 cs := by
  intro j x hx
  rcases Nat.eq_zero_or_pos j with h | h
  ·subst h; exact ⟨rfl, by simpa using hx.symm⟩
  ·rw [List.getElem?_eq_none (by simp; omega)] at hx; cases hx
 refine ⟨?_, ?_, ?_, below_alloc hb1 _⟩
 ·have := World.ownsRow_lit (base := w0.heap.size) (e := 32) (size := 1) w1 #[.slice As 1 cs] 1 hb1.size (by simp [maxLen]) (by simp)
  simpa using this
 ·intro j x hx
  obtain ⟨rfl, rfl⟩ := h0 j x hx
  exact ⟨fun _ => ⟨As, cs, rfl, hcs, fun w' hw => Kd.C_below (Kd.C_below hls hb0) hw⟩, fun h => by omega⟩
 ·intro i j x y hi hj hij hx hy
  have := (h0 i x hx).1
  omega
set_option maxHeartbeats 6400000 in
set_option maxRecDepth 100000 in
theorem fromV (f : FuncId) (cap : Array Value) (E : Nat → List S234) (G : Nat → Prop) (many C K st0 : Nat) (w : World) (hO : OutsV f cap E G many C K w) (hst : st0 < many) (hG : G st0) (hmany : many < 1048577) (hC : 1 ≤ C ∧ C ≤ 1000) (hK : K ≤ 1048576)
  (As : Option Addr) (cs : Nat) (hls : Kd.C (Kd.int .i64) w As 1 [(st0 : Int)]) (hcs : 1 ≤ cs) :
  Calls Try.prog 255 #[.agg #[.int .i64 (many : Int), .func (.func f) #[] cap], .slice As 1 cs] w fun e w' =>
   ∃ v ds, e = .returned v ∧ Kd.R (Kd.int .i64) 3 w' w.heap.size (fun _ => True) v ds ∧ ds.length = many ∧ (∀ s : Nat, s < many → rd ds s = least (eV E) st0 s) ∧ Below w.heap.size w w' := by
 have HO := Aside0.mk hO
 have HST := Aside0.mk hst
 have HGS := Aside0.mk hG
 have HM := Aside0.mk hmany
 have HC := Aside0.mk hC
 have HK := Aside0.mk hK
 have HLS := Aside0.mk hls
 have HCS := Aside0.mk hcs
 clear hO hst hG hmany hC hK hls hcs
 go_enter Try.func255, Try.ntmps255
 go_wp2_with fail
 obtain ⟨w0, hw0⟩ : ∃ w0, w0 = w.alloc (.cells #[.int .i64 (many : Int), .func (.func f) #[] cap] 151) := ⟨_, rfl⟩
 have hb0 : Below w.heap.size w w0 := by subst hw0; exact below_alloc (Below.refl _ _) _
 have hsz0 : w0.heap.size = w.heap.size + 1 := by subst hw0; simp
 have hx0 : w0.cell? ⟨w.heap.size, 0, none⟩ = some (.int .i64 (many : Int)) := by subst hw0; exact cell_at0 rfl rfl
 have hx1 : w0.cell? ⟨w.heap.size, 1, none⟩ = some (.func (.func f) #[] cap) := by subst hw0; exact cell_at0 rfl rfl
 rw [← hw0, ← hsz0]
 have HB0 := Aside0.mk hb0
 have HX0 := Aside0.mk hx0
 have HX1 := Aside0.mk hx1
 have HSZ := Aside0.mk hsz0
 clear hw0 hb0 hx0 hx1 hsz0
 refine (slices_Repeat_int_int.calls (some ⟨w0.heap.size, 0, none⟩) 1 [-1] (many : Int) (List.replicate many (-1)) _ (lit_reads _ _) (by simp) (by unfold slices_Repeat_int_int.f; rw [if_pos (by have := HM.out; simp; omega)]; simp [rd])).mono ?_
 rintro e w1 ⟨v5, rfl, ho5, hb5⟩
 obtain ⟨bd, cd, rfl, hbd⟩ := costs_form ho5 (by have := HST.out; omega)
 have hb1 : Below w0.heap.size w0 w1 := (below_alloc (Below.refl _ _) _).trans (hb5.mono (by simp))
 have hD1 : CostRow w0 w1 bd cd many (List.replicate many (-1)) := Kd.R_lower (Kd.R_mono (Kd.R_mineIs ho5) (fun k hk => by have := hk.2; simpa [Value.ownBlock] using this.symm)) (by simp)
 have HB1 := Aside0.mk hb1
 have HD1 := Aside0.mk hD1
 clear ho5 hb5 hb1 hD1
 go_wp2
 go_loopw [6, 7] (fun v6 v7 wr => ∃ (d : Nat) (Wl : List (List Int)) (vs : List Value) (ds : List Int), v7 = .int .i64 (d : Int) ∧ Aside0 (Wait w0 wr bd v6 Wl vs) ∧ Aside0 (CostRow w0 wr bd cd many ds) ∧ Aside0 (Srch (eV E) G many C K st0 ds Wl d 0 many 0 0)) (fun v6 v7 _ => many * C + 2 - (intOf v7).toNat)
 case atStart => exact ⟨0, [[(st0 : Int)]], [.slice As 1 cs], List.replicate many (-1), rfl, ⟨wait_start HLS.out HCS.out HB0.out HB1.out⟩, ⟨Kd.R_below HD1.out (below_alloc (Below.refl _ _) _)⟩, ⟨Srch.begins HST.out HGS.out⟩⟩
 case round =>
  clear HD1 HB1
  obtain ⟨d, Wl, vs, ds, rfl, HWT, HD, HS⟩ := hrel
  have hlong := HS.out.long
  have hset : settled ds ≤ many := by have := settled_le ds; rw [HS.out.len] at this; exact this
  have hmc : settled ds * C ≤ many * C := Nat.mul_le_mul_right C hset
  have hmb : many * C ≤ 1048576000 := Nat.le_trans (Nat.mul_le_mul (Nat.le_of_lt_succ HM.out) HC.out.2) (by omega)
  by_cases hlt : d < Wl.length
  ·obtain ⟨g, cap6, A, c, rfl, _⟩ := HWT.out.at_ hlt
   have c0b : decide ((d : Int) < (Wl.length : Int)) = true := by simpa using hlt
   have hdb : d ≤ 1048576001 := by omega
   have HDM := Aside0.mk (show d ≤ many * C by omega)
   clear hlong hset hmc hmb
   go_wp2
   obtain ⟨wo, hwo⟩ : ∃ wo : World, wo = wr := ⟨_, rfl⟩
   rw [← hwo] at HWT HD ⊢
   clear hwo
   obtain ⟨L, hL⟩ : ∃ L, L = at2 Wl d := ⟨_, rfl⟩
   have HLL := Aside0.mk hL
   clear hL
   go_loopw [6, 8] (fun v6 v8 wr => ∃ (i : Nat) (Wl' : List (List Int)) (vs' : List Value) (ds' : List Int), v8 = .int .i64 (i : Int) ∧ Aside0 (i ≤ L.length ∧ d < Wl'.length ∧ L = at2 Wl' d) ∧ Aside0 (Wait w0 wr bd v6 Wl' vs') ∧ Aside0 (CostRow w0 wr bd cd many ds') ∧ Aside0 (Srch (eV E) G many C K st0 ds' Wl' d i many 0 0)) (fun v6 v8 _ => L.length - (intOf v8).toNat)
   case atStart => exact ⟨0, Wl, vs, ds, rfl, ⟨Nat.zero_le _, hlt, HLL.out⟩, HWT, HD, HS⟩
   case round =>
    clear HWT HD HS HLL hlt c0b
    obtain ⟨i, Wl', vs', ds', rfl, HI, HWT, HD, HS⟩ := hrel
    obtain ⟨g', cap', A', c', rfl, hg0, hcell, hfz, hvd, hread⟩ := HWT.out.at_ HI.out.2.1
    rw [← HI.out.2.2] at hcell hread
    have HG0 := Aside0.mk hg0
    have HR := Aside0.mk hread
    have HVD := Aside0.mk hvd
    clear hg0 hread hvd hfz
    have hll : L.length ≤ 9223372036854775807 := HR.out.2.1
    have k0 : 0 ≤ (d : Int) := by omega
    have k1 : (d : Int) < (Wl'.length : Int) := by have := HI.out.2.1; omega
    by_cases hit : i < L.length
    ·have c0b : decide ((i : Int) < (L.length : Int)) = true := by simpa using hit
     obtain ⟨ad, rfl, hce⟩ := Kd.at_int HR.out (i : Int) (by omega) (by omega)
     rw [Int.toNat_natCast] at hce
     have hi0 : i ≤ 9223372036854775806 := by omega
     obtain ⟨s, hs, hsm, hGs, hWs⟩ := HS.out.wait d (rd L i) (by rw [← HI.out.2.2]; exact rd_mem L i hit)
     rw [hs] at hce
     obtain ⟨ad2, e2, hcd⟩ := Kd.at_int (Kd.R_reads' HD.out).2.2 (s : Int) (by omega) (by have := HS.out.len; omega)
     have e3 : ad2 = ⟨bd, 0, none⟩ := by injection e2 with e2; exact e2.symm
     subst e3
     rw [Int.toNat_natCast, add_plain] at hcd
     have HSM := Aside0.mk hsm
     have HGG := Aside0.mk hGs
     have HSE := Aside0.mk hs
     have q0 : 0 ≤ (s : Int) := by omega
     have q1 : (s : Int) < (many : Int) := by omega
     clear e2 hsm hGs hs hWs
     by_cases hk : 0 ≤ rd ds' s
     ·have c1b : decide (0 ≤ rd ds' (s : Int)) = true := by simpa using hk
      go_wp2
      go_roundw
      case rel => exact ⟨i + 1, Wl', vs', ds', by go_num, ⟨by omega, HI.out.2.1, HI.out.2.2⟩, HWT, HD, ⟨HS.out.skip (by rw [← HI.out.2.2]; exact hit) (by rw [← HI.out.2.2]; exact HSE.out) hk HSM.out⟩⟩
      case measure => simp [intOf]; omega
     ·have c1b : decide (0 ≤ rd ds' (s : Int)) = false := by simpa using hk
      have hputs := Kd.R_putg (enc := Value.int .i64) HD.out (s : Int) (d : Int)
      rw [Int.toNat_natCast] at hputs
      have hfz := costs_free HD.out (s := s)
      have hne : bd ≠ w.heap.size := by have := (below_alloc (o := .cells #[.int .i64 (-1)] 3) (Below.refl w0.heap.size w0)).size; have := HSZ.out; simp at hbd; omega
      have hbx : Below w0.heap.size w0 (wr.setCell ⟨bd, s, none⟩ (.int .i64 (d : Int))) := HWT.out.below.setCell (by simp at hbd; simpa using (by omega : w0.heap.size ≤ bd)) _
      have hx1 : (wr.setCell ⟨bd, s, none⟩ (.int .i64 (d : Int))).cell? ⟨w.heap.size, 1, none⟩ = some (.func (.func f) #[] cap) := (hbx.cell (by have := HSZ.out; simp; omega)).trans HX1.out
      have hset2 := HS.out.settle (by rw [← HI.out.2.2]; exact hit) HI.out.2.1 (by rw [← HI.out.2.2]; exact HSE.out) (by omega) HSM.out
      have HS2 := Aside0.mk hset2
      have HPU := Aside0.mk hputs
      have HBX := Aside0.mk hbx
      clear hset2 hputs hbx hk
      obtain ⟨fn, hf, hname, hbody⟩ := HO.out.fn
      have HF := Aside0.mk hf
      clear hf
      go_wp2_with ((with_reducible refine gate_dst (N := 52) rfl ?_); refine goesV_ (some 52) rfl rfl HF.out hname hbody cap #[.int .i64 (s : Int)] rfl rfl (by simp; rfl) ?_; refine (HO.out.call s HSM.out HGG.out _ (HB0.out.trans (HBX.out.mono HB0.out.size))).mono ?_; rintro e w2 ⟨v52, rfl, hN, hb⟩; refine ⟨_, rfl, ?_⟩; obtain ⟨AE, cE, eE⟩ := Kd.N_slice hN; have HED := Aside0.mk (edges_of hN); subst eE; have HB2 := Aside0.mk hb; clear hN hb)
      have HW2 := Aside0.mk ((HWT.out.kept (Kept.of_grown HPU.out.2 (Kept.refl _ (fun k => k = bd)) (fun k hk => .inl (Option.some.inj hk).symm)) HBX.out (fun k hk => hk) (by intro he; have := Kd.R_ne_own HD.out HWT.out.own; exact this he)).later HB2.out)
      have HD2 : Aside0 (CostRow w0 w2 bd cd many (ds'.set s (d : Int))) := ⟨Kd.R_below HPU.out.1 HB2.out⟩
      clear HWT HD HPU HB2 hx1 hfz hcell hce hcd
      have HLI := Aside0.mk (And.intro HI.out.2.1 HI.out.2.2)
      have hnE : (E s).length ≤ 1048576 := Nat.le_trans (HO.out.few s HGG.out) HK.out
      go_loopw [6, 54] (fun v6 v54 wr => ∃ (p : Nat) (Wl3 : List (List Int)) (vs3 : List Value), v54 = .int .i64 (p : Int) ∧ Aside0 (p ≤ (E s).length ∧ d < Wl3.length ∧ L = at2 Wl3 d) ∧ Aside0 (Wait w0 wr bd v6 Wl3 vs3) ∧ Aside0 (CostRow w0 wr bd cd many (ds'.set s (d : Int))) ∧ Aside0 (Srch (eV E) G many C K st0 (ds'.set s (d : Int)) Wl3 d (i + 1) s p (K - p)) ∧ Aside0 (Edges wr (.slice AE (E s).length cE) (E s))) (fun v6 v54 _ => (E s).length - (intOf v54).toNat)
      case atStart => exact ⟨0, Wl', vs', rfl, ⟨Nat.zero_le _, HLI.out.1, HLI.out.2⟩, HW2, HD2, HS2, HED⟩
      case round =>
       clear HW2 HD2 HS2 HED HS HBX
       obtain ⟨p, Wl3, vs3, rfl, HP, HWT, HD, HS, HED⟩ := hrel
       by_cases hpt : p < (E s).length
       ·have c0c : decide ((p : Int) < ((E s).length : Int)) = true := by simpa using hpt
        obtain ⟨gE, cE', A3, c3, hvE, hc0, hc1, hc2, hc3⟩ := HED.out.cell p hpt
        obtain ⟨rfl, rfl⟩ : AE = some ⟨gE, 0, none⟩ ∧ cE = cE' := by injection hvE with h1 h2 h3; exact ⟨h1, h3⟩
        obtain ⟨t, k, ht, hk, htm, hGt, hk1, hkC⟩ := HO.out.good s HGG.out (rd_T234 (E s) p) (rd_T234_mem (E s) p hpt)
        have hep : (eV E s)[p]? = some (t, k) := eV_at E s p hpt ht hk
        rw [ht] at hc0
        rw [hk] at hc1
        obtain ⟨ad2, e2, hcd⟩ := Kd.at_int (Kd.R_reads' HD.out).2.2 (t : Int) (by omega) (by have := HS.out.len; omega)
        have e3 : ad2 = ⟨bd, 0, none⟩ := by injection e2 with e2; exact e2.symm
        subst e3
        rw [Int.toNat_natCast, add_plain] at hcd
        have HTM := Aside0.mk htm
        have HGT := Aside0.mk hGt
        have HEP := Aside0.mk hep
        have HK1 := Aside0.mk hk1
        have r0 : 0 ≤ (t : Int) := by omega
        have r1 : (t : Int) < (many : Int) := by omega
        have hp0 : p ≤ 1048576 := by omega
        have hcd2 : ∀ o, (wr.alloc o).cell? ⟨bd, t, none⟩ = some (.int .i64 (rd (ds'.set s (d : Int)) (t : Int))) := fun o => (World.cell?_alloc_past _ _ _ (World.block_lt_of_cell? wr _ hcd)).trans hcd
        clear hvE ht hk hGt hep e2 hk1 hcd
        by_cases hkn : 0 ≤ rd (ds'.set s (d : Int)) t
        ·have c1c : decide (0 ≤ rd (ds'.set s (d : Int)) (t : Int)) = true := by simpa using hkn
         go_wp2
         go_roundw
         case rel => exact ⟨p + 1, Wl3, vs3, by go_num, ⟨by omega, HP.out.2.1, HP.out.2.2⟩, ⟨HWT.out.later (below_alloc (Below.refl _ _) _)⟩, ⟨Kd.R_below HD.out (below_alloc (Below.refl _ _) _)⟩, ⟨(HS.out.known HEP.out HTM.out hkn HSM.out (by rw [rd_set _ _ _ _ (by have := HS.out.len; simp at this; omega), if_pos rfl])).less (by omega)⟩, ⟨HED.out.later (below_alloc (Below.refl _ _) _)⟩⟩
         case measure => simp [intOf]; omega
        ·have c1c : decide (0 ≤ rd (ds'.set s (d : Int)) (t : Int)) = false := by simpa using hkn
         go_wp2
         have hbox : Below w0.heap.size w0 (wr.alloc (.cells #[.int .i64 (t : Int), .int .i64 (k : Int), .int .i64 (rd_T234 (E s) p).f2.f0, .slice A3 (rd_T234 (E s) p).f2.f1.length c3] 234)) := below_alloc HWT.out.below _
         obtain ⟨W1, hW1⟩ : ∃ W1, W1 = wr.alloc (.cells #[.int .i64 (t : Int), .int .i64 (k : Int), .int .i64 (rd_T234 (E s) p).f2.f0, .slice A3 (rd_T234 (E s) p).f2.f1.length c3] 234) := ⟨_, rfl⟩
         obtain ⟨bb, hbb⟩ : ∃ bb, bb = wr.heap.size := ⟨_, rfl⟩
         have hx0 : W1.cell? ⟨bb, 0, none⟩ = some (.int .i64 (t : Int)) := by subst hW1; exact cell_at0 hbb rfl
         have hx1 : W1.cell? ⟨bb, 1, none⟩ = some (.int .i64 (k : Int)) := by subst hW1; exact cell_at0 hbb rfl
         have hxt : ∃ cells, W1.heap[bb]? = some (.cells cells 234 (0, 0)) := by subst hW1; subst hbb; exact ⟨_, heap_alloc_new wr _⟩
         have hwt1 := HWT.out.later (below_alloc (Below.refl wr.heap.size wr) (.cells #[.int .i64 (t : Int), .int .i64 (k : Int), .int .i64 (rd_T234 (E s) p).f2.f0, .slice A3 (rd_T234 (E s) p).f2.f1.length c3] 234))
         rw [← hW1] at hwt1
         have hd1 : CostRow w0 W1 bd cd many (ds'.set s (d : Int)) := by subst hW1; exact Kd.R_below HD.out (below_alloc (Below.refl _ _) _)
         have hed1 : Edges W1 (.slice (some ⟨gE, 0, none⟩) (E s).length cE) (E s) := by subst hW1; exact HED.out.later (below_alloc (Below.refl _ _) _)
         rw [← hW1, ← hbb]
         have HBX : Aside0 (BoxAt W1 bb t k) := ⟨⟨hx0, hx1, hxt⟩⟩
         have HW1 := Aside0.mk hwt1
         have HD1 := Aside0.mk hd1
         have HE1 := Aside0.mk hed1
         clear hbox hW1 hbb hx0 hx1 hxt hwt1 hd1 hed1 HWT HD HED hc0 hc1 hc2 hc3 hcd2
         have hdk : d + k ≤ 1048577001 := by have := HC.out.2; omega
         have HKN := Aside0.mk (show rd (ds'.set s (d : Int)) (t : Int) < 0 by omega)
         have HKC := Aside0.mk hkC
         clear hkn hkC
         go_loopw [6] (fun v6 wr => ∃ (Wl4 : List (List Int)) (vs4 : List Value), Aside0 (d < Wl4.length ∧ L = at2 Wl4 d) ∧ Aside0 (Wait w0 wr bd v6 Wl4 vs4) ∧ Aside0 (CostRow w0 wr bd cd many (ds'.set s (d : Int))) ∧ Aside0 (Srch (eV E) G many C K st0 (ds'.set s (d : Int)) Wl4 d (i + 1) s p (K - p)) ∧ Aside0 (Edges wr (.slice (some ⟨gE, 0, none⟩) (E s).length cE) (E s)) ∧ Aside0 (BoxAt wr bb t k)) (fun v6 _ => d + k + 1 - lenOf v6)
         case atStart => exact ⟨Wl3, vs3, ⟨HP.out.2.1, HP.out.2.2⟩, HW1, HD1, HS, HE1, HBX⟩
         case round =>
          clear HW1 HD1 HE1 HBX HS
          obtain ⟨Wl4, vs4, HP4, HWT, HD, HS, HED, HBX⟩ := hrel
          obtain ⟨g4, cap4, A4, c4, rfl, hg4, _⟩ := HWT.out.at_ HP4.out.1
          have hx0 := HBX.out.a
          have hx1 := HBX.out.b
          have HG4 := Aside0.mk hg4
          clear hg4
          have hl4 : Wl4.length ≤ 9223372036854775807 := by
           have h1 := HWT.out.own.2
           rcases h1 with ⟨h1, _⟩ | ⟨_, cap', _, h1, _, _, h2, h3, _⟩
           ·cases h1
           ·simp [maxLen] at h3; omega
          by_cases hpd : Wl4.length ≤ d + k
          ·have c0d : decide ((Wl4.length : Int) ≤ (d : Int) + (k : Int)) = true := by simp; omega
           go_wp2_with ((with_reducible refine gate_builtin (b := .append) (xs := #[.tmp 71, .tmp 72]) rfl ?_); at_builtin; refine print_append (w0 := w0) w0.heap.size rfl (.tmp 71) (.tmp 72) 26 32 (.slice none 0 0) 24 rfl Try.underlying26 info32 rfl (by omega) (.slice (some ⟨g4, 0, none⟩) Wl4.length cap4) vs4 (.slice none 0 0) rfl rfl rfl ?cO ?cB ?cS ?cL ?_; (case cO => exact HWT.out.len.symm ▸ HWT.out.own); (case cB => exact HWT.out.below); (case cS => exact HWT.out.below.size); (case cL => have := HWT.out.len; omega); intro v9 w9 ho hb hg hat; have HW9 := Aside0.mk (HWT.out.padded ho hb hg (by have := HP4.out.1; omega)); have HD9 : Aside0 (CostRow w0 w9 bd cd many (ds'.set s (d : Int))) := ⟨Kd.R_over' (e' := 32) HD.out (fun k hk => own_typed HWT.out.own k hk) (by decide) hg⟩; have HG9 := Aside0.mk hg; clear ho hb hg hat)
           obtain ⟨A9, c9, e9⟩ := own_slice HW9.out.own
           subst e9
           have he9 := HED.out.stay (fun k hk => grown_far HG9.out (fun q hq => own_typed HWT.out.own q hq) (HED.out.typed k hk) (by decide))
           have hx9 := HBX.out.stay (grown_far HG9.out (fun q hq => own_typed HWT.out.own q hq) HBX.out.typed (by decide))
           go_roundw
           case rel => exact ⟨Wl4 ++ [[]], vs4 ++ [.slice none 0 0], ⟨by have := HP4.out.1; simp; omega, by rw [at2_pad]; exact HP4.out.2⟩, HW9, HD9, ⟨HS.out.pad HSM.out (by have := HKC.out; omega)⟩, ⟨he9⟩, ⟨hx9⟩⟩
           case measure => simp [lenOf]; omega
          ·have c0d : decide ((Wl4.length : Int) ≤ (d : Int) + (k : Int)) = false := by simp; omega
           go_wp2
           have hdl : d + k < Wl4.length := by omega
           obtain ⟨g5, cap5, A5, c5, hv5, _, hc5, hf5, hvs5, hr5⟩ := HWT.out.at_ hdl
           obtain ⟨rfl, rfl⟩ : g4 = g5 ∧ cap4 = cap5 := by injection hv5 with h1 h2 h3; injection h1 with h1; injection h1 with h1; exact ⟨h1, h3⟩
           have hw5 : IntKind.i64.wrap ((d : Int) + (k : Int)) = (d : Int) + (k : Int) := IntWalk.i64_in _ (by omega)
           have hn5 : ((d : Int) + (k : Int)).toNat = d + k := by omega
           have hb5 : (0 : Int) ≤ (d : Int) + (k : Int) := by omega
           have hb6 : (d : Int) + (k : Int) < (Wl4.length : Int) := by omega
           have HV5 := Aside0.mk hvs5
           have HR5 := Aside0.mk hr5
           have HL5 := Aside0.mk hdl
           have HWT2 := Aside0.mk (HWT.out.later (Below.refl wr.heap.size wr).drew)
           have HD2' : Aside0 (CostRow w0 wr.drew bd cd many (ds'.set s (d : Int))) := ⟨Kd.R_below HD.out (Below.refl wr.heap.size wr).drew⟩
           have HED2 := Aside0.mk (HED.out.later (Below.refl wr.heap.size wr).drew)
           have HBX2 := Aside0.mk (HBX.out.later (Below.refl wr.heap.size wr).drew)
           have hc5d : wr.drew.cell? ⟨g4, d + k, none⟩ = some (.slice A5 (at2 Wl4 (d + k)).length c5) := hc5
           clear hv5 hvs5 hr5 hdl hpd c0d HWT HD HED HBX hc5 hf5 hx0 hx1
           have HWT := HWT2
           have HD := HD2'
           have HED := HED2
           have HBX := HBX2
           clear HWT2 HD2' HED2 HBX2
           refine start_ (n := 18) (S := fun w' => BoxAt w' bb t k ∧ w'.cell? ⟨g4, d + k, none⟩ = some (.slice A5 (at2 Wl4 (d + k)).length c5)) (ds := [17]) #[false, false, false, false, false, false, false, false, false, false, false, false, false, false, false, false, false, false] (by kernel_rfl) rfl rfl ⟨HBX.out, hc5d⟩ (fun hHeld => ?_)
           generalize wr.drew = wd at HWT HD HED HBX hc5d hHeld ⊢
           refine pure_ (i := 0) (N := some 74) (v := ?_) (a' := ?_) #[true, false, false, false, false, false, false, false, false, false, false, false, false, false, false, false, false, false] rfl rfl (by kernel_rfl) (fun _ _ _ h => h) (Or.inl ⟨by rfl, ?_⟩) ?_ ?_
           rotate_left
           ·intro w'
            go_simp
            with_reducible rfl
           rotate_left
           ·simp only [Act.put, List.setIfInBounds_toArray, List.set_cons_zero, List.set_cons_succ, i64_w, i32_w]
            rfl
           refine pure_ (i := 1) (N := some 75) (v := ?_) (a' := ?_) #[true, true, false, false, false, false, false, false, false, false, false, false, false, false, false, false, false, false] rfl rfl (by kernel_rfl) (fun _ _ _ h => h) (Or.inl ⟨by rfl, ?_⟩) ?_ ?_
           rotate_left
           ·intro w'
            go_simp
            with_reducible rfl
           rotate_left
           ·simp only [Act.put, List.setIfInBounds_toArray, List.set_cons_zero, List.set_cons_succ, i64_w, i32_w]
            rfl
           refine pure_ (i := 2) (N := some 76) (v := ?_) (a' := ?_) #[true, true, true, false, false, false, false, false, false, false, false, false, false, false, false, false, false, false] rfl rfl (by kernel_rfl) (fun _ _ _ h => h) (Or.inl ⟨by rfl, ?_⟩) ?_ ?_
           rotate_left
           ·intro w'
            go_simp
            with_reducible rfl
           rotate_left
           ·simp only [Act.put, List.setIfInBounds_toArray, List.set_cons_zero, List.set_cons_succ, i64_w, i32_w]
            rfl
           refine pure_ (i := 5) (N := some 79) (v := ?_) (a' := ?_) #[true, true, true, false, false, true, false, false, false, false, false, false, false, false, false, false, false, false] rfl rfl (by kernel_rfl) (fun _ _ _ h => h) (Or.inl ⟨by rfl, ?_⟩) ?_ ?_
           rotate_left
           ·intro w'
            go_simp
            with_reducible rfl
           rotate_left
           ·simp only [Act.put, List.setIfInBounds_toArray, List.set_cons_zero, List.set_cons_succ, i64_w, i32_w]
            rfl
           refine pure_ (i := 6) (N := some 80) (v := ?_) (a' := ?_) #[true, true, true, false, false, true, true, false, false, false, false, false, false, false, false, false, false, false] rfl rfl (by kernel_rfl) (fun _ _ _ h => h) (Or.inl ⟨by rfl, ?_⟩) ?_ ?_
           rotate_left
           ·intro w'
            go_simp
            with_reducible rfl
           rotate_left
           ·simp only [Act.put, List.setIfInBounds_toArray, List.set_cons_zero, List.set_cons_succ, i64_w, i32_w]
            rfl
           refine pure_ (i := 7) (N := some 81) (v := ?_) (a' := ?_) #[true, true, true, false, false, true, true, true, false, false, false, false, false, false, false, false, false, false] rfl rfl (by kernel_rfl) (fun _ _ _ h => h) (Or.inl ⟨by rfl, ?_⟩) ?_ ?_
           rotate_left
           ·intro w'
            go_simp
            with_reducible rfl
           rotate_left
           ·simp only [Act.put, List.setIfInBounds_toArray, List.set_cons_zero, List.set_cons_succ, i64_w, i32_w]
            rfl
           refine pure_ (i := 12) (N := some 86) (v := ?_) (a' := ?_) #[true, true, true, false, false, true, true, true, false, false, false, false, true, false, false, false, false, false] rfl rfl (by kernel_rfl) (fun _ _ _ h => h) (Or.inl ⟨by rfl, ?_⟩) ?_ ?_
           rotate_left
           ·intro w'
            go_simp
            with_reducible rfl
           rotate_left
           ·simp only [Act.put, List.setIfInBounds_toArray, List.set_cons_zero, List.set_cons_succ, i64_w, i32_w]
            rfl
           refine take_ (i := 3) (N := some 77) (v := ?_) (a' := ?_) #[true, true, true, true, false, true, true, true, false, false, false, false, true, false, false, false, false, false] rfl rfl (by kernel_rfl) (fun _ _ _ h => h) (Or.inl ⟨by rfl, ?_⟩) hHeld ?_ ?_
           rotate_left
           ·intro w' s0
            have s1 := s0.1.b
            clear s0
            go_simp
            with_reducible rfl
           rotate_left
           ·simp only [Act.put, List.setIfInBounds_toArray, List.set_cons_zero, List.set_cons_succ, i64_w, i32_w]
            rfl
           refine take_ (i := 8) (N := some 82) (v := ?_) (a' := ?_) #[true, true, true, true, false, true, true, true, true, false, false, false, true, false, false, false, false, false] rfl rfl (by kernel_rfl) (fun _ _ _ h => h) (Or.inl ⟨by rfl, ?_⟩) hHeld ?_ ?_
           rotate_left
           ·intro w' s0
            have s1 := s0.1.b
            clear s0
            go_simp
            with_reducible rfl
           rotate_left
           ·simp only [Act.put, List.setIfInBounds_toArray, List.set_cons_zero, List.set_cons_succ, i64_w, i32_w]
            rfl
           refine take_ (i := 13) (N := some 87) (v := ?_) (a' := ?_) #[true, true, true, true, false, true, true, true, true, false, false, false, true, true, false, false, false, false] rfl rfl (by kernel_rfl) (fun _ _ _ h => h) (Or.inl ⟨by rfl, ?_⟩) hHeld ?_ ?_
           rotate_left
           ·intro w' s0
            have s1 := s0.1.a
            clear s0
            go_simp
            with_reducible rfl
           rotate_left
           ·simp only [Act.put, List.setIfInBounds_toArray, List.set_cons_zero, List.set_cons_succ, i64_w, i32_w]
            rfl
           refine pure_ (i := 4) (N := some 78) (v := ?_) (a' := ?_) #[true, true, true, true, true, true, true, true, true, false, false, false, true, true, false, false, false, false] rfl rfl (by kernel_rfl) (fun _ _ _ h => h) (Or.inl ⟨by rfl, ?_⟩) ?_ ?_
           rotate_left
           ·intro w'
            go_simp
            with_reducible rfl
           rotate_left
           ·simp only [Act.put, List.setIfInBounds_toArray, List.set_cons_zero, List.set_cons_succ, i64_w, i32_w]
            rfl
           refine pure_ (i := 9) (N := some 83) (v := ?_) (a' := ?_) #[true, true, true, true, true, true, true, true, true, true, false, false, true, true, false, false, false, false] rfl rfl (by kernel_rfl) (fun _ _ _ h => h) (Or.inl ⟨by rfl, ?_⟩) ?_ ?_
           rotate_left
           ·intro w'
            go_simp
            with_reducible rfl
           rotate_left
           ·simp only [Act.put, List.setIfInBounds_toArray, List.set_cons_zero, List.set_cons_succ, i64_w, i32_w]
            rfl
           refine pure_ (i := 10) (N := some 84) (v := ?_) (a' := ?_) #[true, true, true, true, true, true, true, true, true, true, true, false, true, true, false, false, false, false] rfl rfl (by kernel_rfl) (fun _ _ _ h => h) (Or.inl ⟨by rfl, ?_⟩) ?_ ?_
           rotate_left
           ·intro w'
            go_simp
            with_reducible rfl
           rotate_left
           ·simp only [Act.put, List.setIfInBounds_toArray, List.set_cons_zero, List.set_cons_succ, i64_w, i32_w]
            rfl
           refine take_ (i := 11) (N := some 85) (v := ?_) (a' := ?_) #[true, true, true, true, true, true, true, true, true, true, true, true, true, true, false, false, false, false] rfl rfl (by kernel_rfl) (fun _ _ _ h => h) (Or.inl ⟨by rfl, ?_⟩) hHeld ?_ ?_
           rotate_left
           ·intro w' s0
            have s1 := s0.2
            clear s0
            go_simp
            with_reducible rfl
           rotate_left
           ·simp only [Act.put, List.setIfInBounds_toArray, List.set_cons_zero, List.set_cons_succ, i64_w, i32_w]
            rfl
           refine one_ (i := 14) (N := some 88) #[true, true, true, true, true, true, true, true, true, true, true, true, true, true, true, false, false, false] rfl rfl (by kernel_rfl) (by decide) (fun K hK => ?_)
           refine Kd.R_lit_step (Kd.int .i64) _ 3 ?hg (N := 88) ?hd (xs := ([(t : Int)] : List Int)) (inner := [.int .i64 (t : Int)]) (ok := fun _ => True) (okp := fun _ => True) ?hr ?hp (fun _ hk => hk) trivial (Below.refl _ _) (Nat.le_refl _) (by simp) ?_; (case hd => rfl); (case hg => rfl); (case hr => first | (go_simp; done) | (go_simp; rfl)); (case hp => exact (Reps.one (show Kd.M (Kd.int .i64) _ _ _ (t : Int) [.int .i64 (t : Int)] from rfl) (Reps.none _ _)))
           intro v88 w88 ho88 hb88 hg_ hnew_
           clear hg_ hnew_
           obtain ⟨A88, c88, e88⟩ := Kd.R_slice ho88
           subst e88
           have HW8 := Aside0.mk (HWT.out.later hb88)
           have HD8 : Aside0 (CostRow w0 w88 bd cd many (ds'.set s (d : Int))) := ⟨Kd.R_below HD.out hb88⟩
           have HE8 := Aside0.mk (HED.out.later hb88)
           have HX8 := Aside0.mk (HBX.out.later hb88)
           have HR8 := Aside0.mk (Kd.R_reads' ho88).2.2
           have HBL := Aside0.mk hb88.size
           clear HWT HD HED HBX ho88 hb88 HR5
           obtain ⟨g6, cap6', A6, c6, hv6, _, hc6, hf6, hvs6, hr6⟩ := HW8.out.at_ HL5.out
           obtain ⟨rfl, rfl⟩ : g4 = g6 ∧ cap4 = cap6' := by injection hv6 with h1 h2 h3; injection h1 with h1; injection h1 with h1; exact ⟨h1, h3⟩
           obtain ⟨rfl, rfl⟩ : A5 = A6 ∧ c5 = c6 := by have := HV5.out.symm.trans hvs6; injection this with this; injection this with h1 h2 h3; exact ⟨h1, h3⟩
           refine hK.out _ _ ⟨HX8.out, hc6⟩ (fun hHeld => ?_)
           clear hK K hv6 hvs6 hr6
           refine norm_ (a' := ?_) ?_ ?_
           rotate_left
           ·show Act.put _ (some 88) _ = _
            simp only [Act.put, List.setIfInBounds_toArray, List.set_cons_zero, List.set_cons_succ, i64_w, i32_w]
            rfl
           refine one_ (i := 15) (N := some 89) #[true, true, true, true, true, true, true, true, true, true, true, true, true, true, true, true, false, false] rfl rfl (by kernel_rfl) (by decide) (fun K hK => ?_)
           refine Kd.R_append_rows_step (Kd.int .i64) (w0 := w0) w0.heap.size (by rfl) (.tmp 85) (.tmp 88) 32 3 (.int .i64 0) 8 rfl Try.underlying32 info3 rfl (by decide) (by omega) (.slice A5 (at2 Wl4 (d + k)).length c5) (at2 Wl4 (d + k)) [(t : Int)] _ _ _ (fun k_ => k_ ≠ bd) (fun _ => False) rfl rfl ?aO ?aR (fun _ _ h => h) (fun _ h => h.elim) ?aF ?aB ?aS ?aL ?_
           (case aR => exact HR8.out)
           (case aB => exact HW8.out.below)
           (case aF => exact fun k_ hk => by have h1 := Kd.R_lt HD8.out bd (by simp [Value.ownBlock]); intro he; omega)
           (case aO => exact (HW8.out.one _ _ HV5.out).2 (by have := HK1.out; omega))
           (case aS => exact HW8.out.below.size)
           (case aL => have h1 := HS.out.wide (d + k); have h2 := wide_le HS.out HM.out HK.out; simp; omega)
           intro v89 w89 ho89 hb89 hg89 hat89
           have HO9 := Aside0.mk ho89
           have HG9 := Aside0.mk hg89
           have HAT := Aside0.mk hat89
           have hne9 : ∀ q, (Value.slice A5 (at2 Wl4 (d + k)).length c5).ownBlock = some q → ∃ cells, w88.heap[q]? = some (.cells cells 3 (0, 0)) := Kd.R_typed ((HW8.out.one _ _ HV5.out).2 (by have := HK1.out; omega))
           have HX9 := Aside0.mk (HX8.out.stay (grown_far hg89 hne9 HX8.out.typed (by decide)))
           have HE9 := Aside0.mk (HE8.out.stay (fun k hk => grown_far hg89 hne9 (HE8.out.typed k hk) (by decide)))
           have hg4b : w89.heap[g4]? = w88.heap[g4]? := grown_far hg89 hne9 (own_typed HW8.out.own g4 (by simp [Value.ownBlock])) (by decide)
           have hc9 : w89.cell? ⟨g4, d + k, none⟩ = some (.slice A5 (at2 Wl4 (d + k)).length c5) := (World.cell?_of_block (w := w88) (a := ⟨g4, d + k, none⟩) hg4b).trans hc6
           have hf9 : w89.frozen? ⟨g4, d + k, none⟩ = false := (World.frozen?_of_block (w := w88) (a := ⟨g4, d + k, none⟩) hg4b).trans hf6
           have HD9 : Aside0 (CostRow w0 w89 bd cd many (ds'.set s (d : Int))) := ⟨Kd.R_grown (Kd.R_mono (ok' := fun k_ => k_ = bd) HD8.out (fun _ h => h)) hg89 (fun q hq he => by subst hq; exact ((HW8.out.one _ _ HV5.out).2 (by have := HK1.out; omega)).1 q he.symm rfl)⟩
           obtain ⟨A9, c9', e9⟩ := Kd.R_slice HO9.out
           subst e9
           clear ho89 hb89 hg89 hat89 hc6 hf6 hHeld
           refine hK.out _ _ ⟨HX9.out, hc9⟩ (fun hHeld => ?_)
           clear hK K
           refine norm_ (a' := ?_) ?_ ?_
           rotate_left
           ·show Act.put _ (some 89) _ = _
            simp only [Act.put, List.setIfInBounds_toArray, List.set_cons_zero, List.set_cons_succ, i64_w, i32_w]
            rfl
           refine pure_ (i := 16) (N := some 90) (v := ?_) (a' := ?_) #[true, true, true, true, true, true, true, true, true, true, true, true, true, true, true, true, true, false] rfl rfl (by kernel_rfl) (fun _ _ _ h => h) (Or.inl ⟨by rfl, ?_⟩) ?_ ?_
           rotate_left
           ·intro w'
            go_simp
            with_reducible rfl
           rotate_left
           ·simp only [Act.put, List.setIfInBounds_toArray, List.set_cons_zero, List.set_cons_succ, i64_w, i32_w]
            rfl
           refine last_ (i := 17) (N := none) #[true, true, true, true, true, true, true, true, true, true, true, true, true, true, true, true, true, true] rfl rfl (by kernel_rfl) (by decide) (fun K hK => ?_)
           refine skip_ (w1 := w89.setCell ⟨g4, d + k, none⟩ (.slice A9 (at2 Wl4 (d + k) ++ [(t : Int)]).length c9')) rfl rfl ?_ ?_
           ·go_simp
           refine hK.out _ _ ?_
           refine done_ (by kernel_rfl) ?_
           have hW10 := HW8.out.pushed (j := d + k) (by have := HK1.out; omega) HL5.out HV5.out HO9.out HG9.out HAT.out
           have hw4 : ∃ cells, w89.heap[g4]? = some (.cells cells 32 (0, 0)) := by rw [hg4b]; exact own_typed HW8.out.own g4 (by simp [Value.ownBlock])
           have hD10 : CostRow w0 (w89.setCell ⟨g4, d + k, none⟩ (.slice A9 (at2 Wl4 (d + k) ++ [(t : Int)]).length c9')) bd cd many (ds'.set s (d : Int)) := by
            obtain ⟨cs4, hcs4⟩ := hw4
            exact Kd.R_mono (Kd.R_far (Kd.R_types HD9.out hcs4 (by decide)) (p := ⟨g4, d + k, none⟩) (fun k hk => hk.2) _) (fun k hk => hk.1)
           have HW10 := Aside0.mk hW10
           have HD10 := Aside0.mk hD10
           have HE10 := Aside0.mk (HE9.out.stay (w' := w89.setCell ⟨g4, d + k, none⟩ (.slice A9 (at2 Wl4 (d + k) ++ [(t : Int)]).length c9')) (fun q hq => Below.heap_setCell w89 ⟨g4, d + k, none⟩ _ q (by
            intro he
            obtain ⟨c1, h1⟩ := HE9.out.typed q hq
            obtain ⟨c2, h2⟩ := hw4
            subst he
            rw [h1] at h2
            injection h2 with h2
            injection h2 with _ h2
            exact absurd h2 (by decide))))
           clear hW10 hD10 hw4
           simp only [List.length_append, List.length_singleton] at HW10 HD10 HE10
           go_wp2
           go_roundw
           case rel => exact ⟨p + 1, Wl4.set (d + k) (at2 Wl4 (d + k) ++ [(t : Int)]), vs4.set (d + k) (.slice A9 ((at2 Wl4 (d + k)).length + 1) c9'), by go_num, ⟨by omega, by rw [List.length_set]; exact HP4.out.1, by rw [at2_set _ _ _ _ HL5.out, if_neg (by have := HK1.out; omega)]; exact HP4.out.2⟩, HW10, HD10, ⟨(HS.out.less (by have := HO.out.few s HGG.out; omega)).push HEP.out HTM.out HGT.out HK1.out (by have := HSM.out; omega) (by rw [rd_set _ _ _ _ (by have := HS.out.len; simp at this; have := HSM.out; omega), if_pos rfl]) HL5.out⟩, HE10⟩
           case measure => simp only [intOf]; omega
       ·have c0c : decide ((p : Int) < ((E s).length : Int)) = false := by simpa using hpt
        go_wp2
        go_roundw
        case rel => exact ⟨i + 1, Wl3, vs3, ds'.set s (d : Int), by go_num, ⟨by omega, HP.out.2.1, HP.out.2.2⟩, HWT, HD, ⟨HS.out.seen (by unfold eV; rw [List.length_map]; omega)⟩⟩
        case measure => simp [intOf]; omega
    ·have c0b : decide ((i : Int) < (L.length : Int)) = false := by simpa using hit
     go_wp2
     go_roundw
     case rel => exact ⟨d + 1, Wl', vs', ds', by go_num, HWT, HD, ⟨HS.out.next (by rw [← HI.out.2.2]; omega)⟩⟩
     case measure => have := HDM.out; simp [intOf]; omega
  ·obtain ⟨A, c, rfl⟩ := own_slice HWT.out.own
   have c0b : decide ((d : Int) < (Wl.length : Int)) = false := by simpa using hlt
   go_wp2
   go_ret
   refine ⟨_, ds, rfl, ?_, HS.out.len, HS.out.ends (by omega) ?_ HST.out, HB0.out.trans (HWT.out.below.mono HB0.out.size)⟩
   ·exact Kd.R_lower (Kd.R_mono HD.out (fun _ _ => trivial)) HB0.out.size
   ·intro s hs t k hm
    obtain ⟨e, he, e1⟩ := List.mem_map.1 hm
    obtain ⟨t', k', h1, h2, h3, _⟩ := HO.out.good s hs e he
    have := Prod.mk.inj e1
    omega
end Go.Proofs.Ytlkjglanglpdoaa.T
namespace Go.Proofs.Ytlkjglanglpdoaa.T
open Go.RowKit Go.Proofs.YtlkjglanglpdoaaW.PrintWords Go.Proofs.YtlkjglanglpdoaaW.PrintLast Go.Proofs.YtlkjglanglpdoaaW.PrintMore
set_option linter.unusedVariables false
set_option linter.unusedSimpArgs false
theorem setCells_turn (g e : Nat) : ∀ (cs : List Value) (w : World) (o : Nat) (cur : Array Value), w.heap[g]? = some (.cells cur e (0, 0)) →
  (∃ cur' : Array Value, (w.setCells g o cs).heap[g]? = some (.cells cur' e (0, 0)) ∧ cur'.size = cur.size ∧ ∀ m, m ≤ o → cur'.toList.take m = cur.toList.take m) ∧ w.grownBy (w.setCells g o cs) (some g)
 | [], w, o, cur, h => ⟨⟨cur, h, rfl, fun _ _ => rfl⟩, ⟨rfl, rfl, rfl, Nat.le_refl _, fun _ _ _ => rfl⟩⟩
 | v :: cs, w, o, cur, h => by
  have h1 := blk_set h o v
  obtain ⟨⟨cur', h2, h3, h4⟩, h5⟩ := setCells_turn g e cs (w.setCell ⟨g, o, none⟩ v) (o + 1) _ h1
  refine ⟨⟨cur', h2, by rw [h3]; simp, fun m hm => ?_⟩, ?_⟩
  ·rw [h4 m (by omega)]
   simp only [Array.toList_setIfInBounds]
   rw [List.take_set_of_le hm]
  ·exact World.grownBy.trans (⟨rfl, rfl, rfl, by simp [World.setCell], fun k _ hk => Below.heap_setCell w ⟨g, o, none⟩ v k (fun he => hk (by rw [he]))⟩ : w.grownBy (w.setCell ⟨g, o, none⟩ v) (some g)) h5
section
variable {α : Type} {d : Kd α} {e base n cap g : Nat} {ok : Nat → Prop} {W : World} {xs : List α}
theorem N_cleared (h : Kd.N d e W base ok (.slice (some ⟨g, 0, none⟩) n cap) xs) {i : Nat} (hi : i ≤ xs.length) (cs : List Value) :
  Kd.N d e (W.setCells g (i * d.sz) cs) base ok (.slice (some ⟨g, 0, none⟩) i cap) (xs.take i) ∧ W.grownBy (W.setCells g (i * d.sz) cs) (some g) := by
 have hb : ∀ y : Nat, (Value.slice (some ⟨g, 0, none⟩) y cap).ownBlock = some g := fun y => by simp [Value.ownBlock]
 obtain ⟨cells, hcells⟩ := Kd.N_typed h g (hb n)
 obtain ⟨⟨cur', h2, h3, h4⟩, h5⟩ := setCells_turn g e cs W (i * d.sz) cells hcells
 have h' := Kd.N_take h hi
 obtain ⟨h0, rows, hl, ⟨hr0, inner, ho, hrr⟩, hf⟩ := h'
 refine ⟨⟨h0, rows, hl, ⟨hr0, inner, ?_, hrr⟩, fun j x c hx hc => Kd.FK_step (hf j x c hx hc) (fun k hk hlt => h5.block k hlt (fun e' => hk.2 (by rw [hb]; exact e')))⟩, h5⟩
 obtain ⟨hlen, hh⟩ := ho
 refine ⟨hlen, ?_⟩
 rcases hh with ⟨hv, _⟩ | ⟨g', cap', cur, hv, hbase, hheap, hnc, hcm, hcs, htk⟩
 ·cases hv
 ·right
  have hg : g = g' := by injection hv with h1; injection h1 with h1; injection h1 with h1
  subst hg
  have hce : cur = cells := by rw [hcells] at hheap; injection hheap with hq; injection hq with hq; exact hq.symm
  subst hce
  have hlr : rows.length = i := by rw [hl, List.length_take]; omega
  exact ⟨g, cap', cur', hv, hbase, h2, hnc, hcm, by rw [h3]; exact hcs, by rw [← htk]; exact h4 _ (by rw [hlr]; exact Nat.le_refl _)⟩
end
section
variable {α : Type} {d : Kd α} {e base n cap g : Nat} {ok : Nat → Prop} {W : World} {xs : List α}
theorem N_cells (h : Kd.N d e W base ok (.slice (some ⟨g, 0, none⟩) n cap) xs) : ∃ cur : Array Value, W.heap[g]? = some (.cells cur e (0, 0)) ∧ cur.size = cap * d.sz ∧ n ≤ cap := by
 obtain ⟨_, rows, _, ⟨_, inner, ho, _⟩, _⟩ := h
 rcases ho.2 with ⟨hv, _⟩ | ⟨g', cap', cur, hv, _, hheap, hnc, _, hcs, _⟩
 ·cases hv
 ·obtain ⟨rfl, hn, rfl⟩ : g = g' ∧ n = rows.length ∧ cap = cap' := by injection hv with h1 h2 h3; injection h1 with h1; injection h1 with h1; exact ⟨h1, h2, h3⟩
  exact ⟨cur, hheap, hcs, by omega⟩
end
theorem clear_runs {P : Program} (w : World) (t e ty : TypeId) (z : Value) (ht : P.underlying t = some (.slice e)) (hv : (zeroValue e).run P w = .ok z w) (b o n c : Nat) (hn : 0 < n)
  (hz : ∀ v ∈ z.cells.toList, v.oneCell' = true) (hz0 : 0 < z.cells.size)
  (hc : ∀ j, j < n * z.cells.size → (w.cell? ⟨b, o + j, none⟩).isSome = true) (hf : ∀ j, j < n * z.cells.size → w.frozen? ⟨b, o + j, none⟩ = false) :
  (Builtin.clear_ #[t] ty #[.slice (some ⟨b, o, none⟩) n c]).run P w = .ok (.tuple #[]) (w.setCells b o (Builtin.zeroCells z.cells n).toList) := by
 have hlen : (Builtin.zeroCells z.cells n).toList.length = n * z.cells.size := by simp [Builtin.zeroCells]
 have hone : ∀ v ∈ (Builtin.zeroCells z.cells n).toList, v.oneCell' = true := by
  intro v hv'
  simp only [Builtin.zeroCells, Array.toList_map, List.mem_map] at hv'
  obtain ⟨i, _, rfl⟩ := hv'
  have hlt : i % z.cells.size < z.cells.size := Nat.mod_lt _ hz0
  rw [getElem!_pos z.cells _ hlt]
  exact hz _ (by simp)
 have hst := run_storeCells_cells (P := P) b o (Builtin.zeroCells z.cells n).toList 0 w (by rw [hlen]; simpa using hc) (by rw [hlen]; simpa using hf) hone
 simp only [Nat.add_zero] at hst
 obtain ⟨m, rfl⟩ : ∃ m, n = m + 1 := ⟨n - 1, by omega⟩
 simp [Builtin.clear_, run_underlying ht, hv, hst]
theorem rowV {w : World} {base : Nat} {ok : Nat → Prop} {A : Option Addr} {n c : Nat} {xs : List S234} (h : Kd.N k234 234 w base ok (.slice A n c) xs) (p : Nat) (hp : p < xs.length) :
  ∃ g A3 c3, A = some ⟨g, 0, none⟩ ∧ w.cell? ⟨g, p * 4, none⟩ = some (.int .i64 (rd_T234 xs p).f0) ∧ w.cell? ⟨g, p * 4 + 1, none⟩ = some (.int .i64 (rd_T234 xs p).f1) ∧ w.cell? ⟨g, p * 4 + 2, none⟩ = some (.int .i64 (rd_T234 xs p).f2.f0) ∧ w.cell? ⟨g, p * 4 + 3, none⟩ = some (.slice A3 (rd_T234 xs p).f2.f1.length c3) ∧ (∀ j, w.frozen? ⟨g, p * 4 + j, none⟩ = false) ∧ (rd_T234 xs p).f2.f1.length ≤ c3 ∧ Kd.FK k234 w (fun k => ok k ∧ k ≠ g) (rd_T234 xs p) [.int .i64 (rd_T234 xs p).f0, .int .i64 (rd_T234 xs p).f1, .int .i64 (rd_T234 xs p).f2.f0, .slice A3 (rd_T234 xs p).f2.f1.length c3] := by
 obtain ⟨g, cap, hv, _, _, _⟩ := Kd.N_form h (by omega)
 obtain ⟨rfl, rfl, rfl⟩ : A = some ⟨g, 0, none⟩ ∧ n = xs.length ∧ c = cap := by injection hv with h1 h2 h3; exact ⟨h1, h2, h3⟩
 obtain ⟨cl, hcl, hF, hcc, hfr⟩ := Kd.N_elem h z234 (p : Int) (by omega) (by omega)
 obtain ⟨A3, c3, rfl, hl, hF3⟩ := k234_openF hF
 rw [Int.toNat_natCast] at hcc hfr
 exact ⟨g, A3, c3, rfl, hcc 0 _ rfl, hcc 1 _ rfl, hcc 2 _ rfl, hcc 3 _ rfl, hfr, hl, hF⟩
structure SaysV (f : FuncId) (cap : Array Value) (p : S234 → Bool) (xs : List S234) (vb : Option Nat) (w0 : World) : Prop where
 fn : ∃ fn, Try.prog.funcs[f]? = some fn ∧ (fn.name == "runtime.NumGoroutine") = false ∧ fn.body.isSome = true
 call : ∀ x ∈ xs, ∀ (A : Option Addr) (c : Nat) (w' : World), Kept w0 w' (fun k => vb = some k) → Calls Try.prog f (#[.agg #[.int .i64 x.f0, .int .i64 x.f1, .int .i64 x.f2.f0, .slice A x.f2.f1.length c]] ++ cap) w' fun e w'' => e = .returned (.bool (p x)) ∧ Below w'.heap.size w' w''
theorem rd_T234_at (xs : List S234) (p : Nat) (h : p < xs.length) : rd_T234 xs p = xs[p] := by
 unfold rd_T234; rw [Int.toNat_natCast, List.getD_eq_getElem?_getD, List.getElem?_eq_getElem h]; rfl
theorem rd_T234_mem2 (xs : List S234) (p : Nat) (h : p < xs.length) : rd_T234 xs p ∈ xs := by rw [rd_T234_at xs p h]; exact List.getElem_mem _
def IdxV (p : S234 → Bool) (xs : List S234) (i : Int) : Prop := (i = -1 ∧ ∀ x ∈ xs, p x = false) ∨ ∃ k : Nat, i = k ∧ k < xs.length ∧ (∀ x ∈ xs.take k, p x = false) ∧ p (rd_T234 xs k) = true
set_option maxHeartbeats 1600000 in
set_option maxRecDepth 100000 in
theorem indexV (A : Option Addr) (n c : Nat) (xs : List S234) (f : FuncId) (cap : Array Value) (p : S234 → Bool) (vb : Option Nat) (w : World) (base : Nat) (ok : Nat → Prop) (hN : Kd.N k234 234 w base ok (.slice A n c) xs) (hs : SaysV f cap p xs vb w) :
  Calls Try.prog 310 #[.slice A n c, .func (.func f) #[] cap] w fun e w' => ∃ i : Int, e = .returned (.int .i64 i) ∧ IdxV p xs i ∧ Below w.heap.size w w' := by
 obtain ⟨fn, hf, hname, hbody⟩ := hs.fn
 have hcall := hs.call
 have hn := (Kd.N_reads' hN).1
 have hlen : n ≤ 9223372036854775807 := by have := (Kd.N_reads' hN).2.2.2.1; omega
 have HNL := Aside0.mk hn
 have HF := Aside0.mk hf
 have HS := Aside0.mk hcall
 have HN := Aside0.mk hN
 clear hf hs hN hcall hn
 go_enter Try.func310, Try.ntmps310
 go_wp2
 go_loopw [8] (fun v8 wr => ∃ k : Nat, v8 = .int .i64 (k : Int) ∧ Aside0 (k ≤ n) ∧ Aside0 (∀ x ∈ xs.take k, p x = false) ∧ Aside0 (Below w.heap.size w wr)) (fun v8 _ => n - (intOf v8).toNat)
 case atStart => exact ⟨0, rfl, ⟨Nat.zero_le _⟩, ⟨fun x hx => by simp at hx⟩, ⟨Below.refl _ _⟩⟩
 case round =>
  obtain ⟨k, rfl, HK, HA, HB⟩ := hrel
  by_cases hlt : k < n
  ·have c0b : decide ((k : Int) < (n : Int)) = true := by simpa using hlt
   have hltx : k < xs.length := by have := HNL.out; omega
   have HLT := Aside0.mk hltx
   obtain ⟨g, A3, c3, rfl, hx0, hx1, hx2, hx3, hfr, hcap, hF⟩ := rowV (Kd.N_below HN.out HB.out) k hltx
   have HM := Aside0.mk (rd_T234_mem2 xs k hltx)
   obtain ⟨x, hx⟩ : ∃ x, x = rd_T234 xs k := ⟨_, rfl⟩
   have HX := Aside0.mk hx
   rw [← hx] at hx0 hx1 hx2 hx3 HM
   have hk0 : k ≤ 9223372036854775806 := by omega
   clear hfr hcap hF hx hltx
   have HKB := Aside0.mk (Kept.below (Kept.refl w (fun k => vb = some k)) HB.out)
   cases hp : p x
   ·have HP := Aside0.mk hp
    clear hp
    go_wp2_with ((with_reducible refine gate_dst (N := 16) rfl ?_); refine goesV_ (some 16) rfl rfl HF.out hname hbody cap #[.agg #[.int .i64 x.f0, .int .i64 x.f1, .int .i64 x.f2.f0, .slice A3 x.f2.f1.length c3]] rfl rfl (by simp; rfl) ?_; refine (HS.out _ HM.out A3 c3 _ HKB.out).mono ?_; rintro e w' ⟨rfl, hb⟩; refine ⟨_, rfl, ?_⟩; rw [HP.out]; have HB' := Aside0.mk (HB.out.trans (hb.mono HB.out.size)); clear hb)
    go_roundw
    case rel => exact ⟨k + 1, by go_num, ⟨by omega⟩, ⟨fun y hy => by
     rw [List.take_succ_eq_append_getElem HLT.out] at hy
     rcases List.mem_append.1 hy with hy | hy
     ·exact HA.out y hy
     ·rw [List.mem_singleton.1 hy, ← rd_T234_at xs k HLT.out, ← HX.out]; exact HP.out⟩, HB'⟩
    case measure => simp [intOf]; omega
   ·have HP := Aside0.mk hp
    clear hp
    go_wp2_with ((with_reducible refine gate_dst (N := 16) rfl ?_); refine goesV_ (some 16) rfl rfl HF.out hname hbody cap #[.agg #[.int .i64 x.f0, .int .i64 x.f1, .int .i64 x.f2.f0, .slice A3 x.f2.f1.length c3]] rfl rfl (by simp; rfl) ?_; refine (HS.out _ HM.out A3 c3 _ HKB.out).mono ?_; rintro e w' ⟨rfl, hb⟩; refine ⟨_, rfl, ?_⟩; rw [HP.out]; have HB' := Aside0.mk (HB.out.trans (hb.mono HB.out.size)); clear hb)
    go_ret
    exact ⟨_, rfl, .inr ⟨k, rfl, HLT.out, HA.out, by rw [← HX.out]; exact HP.out⟩, HB'.out⟩
  ·have c0b : decide ((k : Int) < (n : Int)) = false := by simpa using hlt
   go_wp2
   go_ret
   exact ⟨_, rfl, .inl ⟨rfl, fun x hx => HA.out x (by rw [List.take_of_length_le (by have := HNL.out; omega)]; exact hx)⟩, HB.out⟩
theorem filter_take_succV (p : S234 → Bool) (xs : List S234) (j : Nat) (h : j < xs.length) : (xs.take (j + 1)).filter p = (xs.take j).filter p ++ (if p (rd_T234 xs j) = true then [rd_T234 xs j] else []) := by
 rw [List.take_succ_eq_append_getElem h, List.filter_append, ← rd_T234_at xs j h]
 congr 1
 by_cases hp : p (rd_T234 xs j) = true
 ·rw [if_pos hp]; simp [List.filter, hp]
 ·rw [if_neg hp]; simp [List.filter, hp]
theorem rd_T234_drop2 (xs ys : List S234) (j : Nat) (h : j < xs.length) (hl : ys.length = xs.length) (hd : ys.drop j = xs.drop j) : rd_T234 ys j = rd_T234 xs j := by
 rw [rd_T234_at xs j h, rd_T234_at ys j (by omega)]
 have : (ys.drop j)[0]? = (xs.drop j)[0]? := by rw [hd]
 rw [List.getElem?_drop, List.getElem?_drop, Nat.add_zero, List.getElem?_eq_getElem h, List.getElem?_eq_getElem (by omega)] at this
 exact Option.some.inj this
structure DelV (p : S234 → Bool) (xs cur : List S234) (i j : Nat) : Prop where
 lt : i < j
 le : j ≤ xs.length
 len : cur.length = xs.length
 kept : cur.take i = (xs.take j).filter (fun x => !p x)
 rest : cur.drop j = xs.drop j
theorem DelV.skip {p : S234 → Bool} {xs cur : List S234} {i j : Nat} (h : DelV p xs cur i j) (hj : j < xs.length) (hp : p (rd_T234 xs j) = true) : DelV p xs cur i (j + 1) :=
 ⟨by have := h.lt; omega, by omega, h.len, by rw [filter_take_succV _ xs j hj, hp, h.kept]; simp, by rw [← List.drop_drop, h.rest, List.drop_drop]⟩
theorem DelV.keep {p : S234 → Bool} {xs cur : List S234} {i j : Nat} (h : DelV p xs cur i j) (hj : j < xs.length) (hp : p (rd_T234 xs j) = false) : DelV p xs (cur.set i (rd_T234 xs j)) (i + 1) (j + 1) := by
 have hl := h.lt
 have hlen := h.len
 refine ⟨by omega, by omega, by rw [List.length_set]; exact h.len, ?_, ?_⟩
 ·rw [filter_take_succV _ xs j hj, hp, ← h.kept, List.take_succ_eq_append_getElem (by rw [List.length_set]; omega), List.take_set_of_le (Nat.le_refl _)]
  simp
 ·rw [List.drop_set_of_lt (by omega), ← List.drop_drop, h.rest, List.drop_drop]
theorem DelV.begins {p : S234 → Bool} {xs : List S234} {k : Nat} (hk : k < xs.length) (ha : ∀ x ∈ xs.take k, p x = false) (hp : p (rd_T234 xs k) = true) : DelV p xs xs k (k + 1) := by
 refine ⟨by omega, by omega, rfl, ?_, rfl⟩
 rw [filter_take_succV _ xs k hk, hp, List.filter_eq_self.2 (fun x hx => by rw [ha x hx]; rfl)]
 simp
theorem zeroV (w : World) : (zeroValue 234).run Try.prog w = .ok (.agg #[.int .i64 0, .int .i64 0, .int .i64 0, .slice none 0 0]) w := by kernel_rfl
set_option maxHeartbeats 3200000 in
set_option maxRecDepth 100000 in
theorem deleteV (A : Option Addr) (n c : Nat) (xs : List S234) (f : FuncId) (cap : Array Value) (p : S234 → Bool) (wb w : World) (ok : Nat → Prop) (hN : Kd.N k234 234 w wb.heap.size ok (.slice A n c) xs) (hs : SaysV f cap p xs (Value.slice A n c).ownBlock w) (hB : Below wb.heap.size wb w) :
    Calls Try.prog 301 #[.slice A n c, .func (.func f) #[] cap] w fun e w' => ∃ m, e = .returned (.slice A m c) ∧ Kd.N k234 234 w' wb.heap.size ok (.slice A m c) (xs.filter (fun x => !p x)) ∧ Kept w w' (fun k => (Value.slice A n c).ownBlock = some k) ∧ Below wb.heap.size wb w' := by
  have hnx := (Kd.N_reads' hN).1
  have hlen : n ≤ 9223372036854775807 := by have := (Kd.N_reads' hN).2.2.2.1; omega
  have hsl := hs
  obtain ⟨fn, hf, hname, hbody⟩ := hs.fn
  have HNL := Aside0.mk hnx
  have HF := Aside0.mk hf
  have HS := Aside0.mk hsl
  have HN := Aside0.mk hN
  have HB := Aside0.mk hB
  clear hf hs hN hB hnx hsl
  go_enter Try.func301, Try.ntmps301
  go_wp2_with (go_at_call 310; refine (indexV A n c xs f cap p _ _ _ ok HN.out HS.out).mono ?_; rintro e w1 ⟨i0, rfl, hi0, hb1⟩; have HB1 := Aside0.mk hb1; clear hb1; rcases hi0 with ⟨rfl, hall⟩ | ⟨k, rfl, hk, ha, hp⟩; rotate_left; (have hkn : k < n := by have := HNL.out; omega); (have HD0 := Aside0.mk (DelV.begins hk ha hp)); (have c0k : ((k : Int) == -1) = false := beq_eq_false_iff_ne.mpr (by omega)); clear hk ha hp; rotate_right; (have HALL := Aside0.mk hall); clear hall)
  · go_ret
    refine ⟨n, rfl, ?_, Kept.below (Kept.refl _ _) HB1.out, HB.out.trans (HB1.out.mono HB.out.size)⟩
    rw [List.filter_eq_self.2 (fun x hx => by rw [HALL.out x hx]; rfl)]
    exact Kd.N_below HN.out HB1.out
  · go_loopw [5, 6] (fun v5 v6 wr => ∃ (i j : Nat) (cur : List S234), v5 = .int .i64 (i : Int) ∧ v6 = .int .i64 (j : Int) ∧ Aside0 (DelV p xs cur i j) ∧ Aside0 (Kd.N k234 234 wr wb.heap.size ok (.slice A n c) cur) ∧ Aside0 (Kept w wr (fun k => (Value.slice A n c).ownBlock = some k)) ∧ Aside0 (Below wb.heap.size wb wr)) (fun _ v6 _ => n - (intOf v6).toNat)
    case atStart => exact ⟨k, k + 1, xs, rfl, by go_num, HD0, ⟨Kd.N_below HN.out HB1.out⟩, ⟨Kept.below (Kept.refl _ _) HB1.out⟩, ⟨HB.out.trans (HB1.out.mono HB.out.size)⟩⟩
    case round =>
      obtain ⟨i, j, cur, rfl, rfl, HD, HNC, HKP, HBW⟩ := hrel
      have hij := HD.out.lt
      have hjn : j ≤ n := by have := HD.out.le; have := HNL.out; omega
      by_cases hlt : j < n
      · have c0b : decide ((j : Int) < (n : Int)) = true := by simpa using hlt
        have hltx : j < xs.length := by have := HNL.out; omega
        have HLT := Aside0.mk hltx
        have hlc : j < cur.length := by have := HD.out.len; omega
        obtain ⟨g, A3, c3, rfl, hx0, hx1, hx2, hx3, hfr, hcap, hF⟩ := rowV HNC.out j hlc
        have hdr := rd_T234_drop2 xs cur j hltx HD.out.len HD.out.rest
        have HM := Aside0.mk (rd_T234_mem2 xs j hltx)
        obtain ⟨x, hx⟩ : ∃ x, x = rd_T234 xs j := ⟨_, rfl⟩
        have HX := Aside0.mk hx
        rw [hdr, ← hx] at hx0 hx1 hx2 hx3 hF
        rw [← hx] at HM
        have HFX := Aside0.mk hF
        clear hfr hcap hF hx hltx hdr hlc
        have HKB := Aside0.mk (Kept.below HKP.out (below_alloc (Below.refl wr.heap.size wr) (.cells #[.int .i64 x.f0, .int .i64 x.f1, .int .i64 x.f2.f0, .slice A3 x.f2.f1.length c3] 234)))
        cases hp : p x
        · have HP := Aside0.mk hp
          clear hp
          go_wp2_with (first | ((with_reducible refine gate_dst (N := 28) rfl ?_); refine goesV_ (some 28) rfl rfl HF.out hname hbody cap #[.agg #[.int .i64 x.f0, .int .i64 x.f1, .int .i64 x.f2.f0, .slice A3 x.f2.f1.length c3]] rfl rfl (by simp; rfl) ?_; refine (HS.out.call _ HM.out A3 c3 _ HKB.out).mono ?_; rintro e w2 ⟨rfl, hb⟩; refine ⟨_, rfl, ?_⟩; rw [HP.out]; have HB2 := Aside0.mk (below_step (below_alloc (Below.refl wr.heap.size wr) _) hb); have hbk := blk_below (blk_new wr (.cells #[.int .i64 x.f0, .int .i64 x.f1, .int .i64 x.f2.f0, .slice A3 x.f2.f1.length c3] 234)) hb; have hb0 : w2.cell? ⟨wr.heap.size, 0, none⟩ = some (.int .i64 x.f0) := (blk_cell hbk 0).trans rfl; have hb1 : w2.cell? ⟨wr.heap.size, 1, none⟩ = some (.int .i64 x.f1) := (blk_cell hbk 1).trans rfl; have hb2 : w2.cell? ⟨wr.heap.size, 2, none⟩ = some (.int .i64 x.f2.f0) := (blk_cell hbk 2).trans rfl; have hb3 : w2.cell? ⟨wr.heap.size, 3, none⟩ = some (.slice A3 x.f2.f1.length c3) := (blk_cell hbk 3).trans rfl; have HN2 := Aside0.mk (Kd.N_below HNC.out HB2.out); have HF2 := Aside0.mk (Kd.FK_step HFX.out (fun k _ hlt => HB2.out.block k hlt)); obtain ⟨cl, hcl, _, hcc, _⟩ := Kd.N_elem HN2.out z234 (i : Int) (by omega) (by omega); have HCL := Aside0.mk hcl; have HCC := Aside0.mk hcc; clear hb hbk hcl hcc hx0 hx1 hx2 hx3) | ((with_reducible refine gate_store (t := 234) (p := 33) rfl ?_); refine Kd.N_store k234 (w0 := wb) wb.heap.size rfl rfl 234 (.tmp 33) (.tmp 32) rfl 234 (g := g) (n := n) (cap := c) (o' := i * 4) (i : Int) 0 cur x (.agg #[.int .i64 x.f0, .int .i64 x.f1, .int .i64 x.f2.f0, .slice A3 x.f2.f1.length c3]) [.int .i64 x.f0, .int .i64 x.f1, .int .i64 x.f2.f0, .slice A3 x.f2.f1.length c3] cl ok (fun k => ok k ∧ k ≠ g) rfl (by rw [Int.toNat_natCast]; rfl) rfl rfl (by kernel_rfl) (by intro q hq; simp at hq; rcases hq with rfl | rfl | rfl | rfl <;> rfl) HN2.out (by omega) (by omega) HCL.out HCC.out (by simp [k234]; decide) (by rw [List.take_zero, List.nil_append, List.drop_of_length_le (by rw [HCL.out]; exact Nat.le_refl _), List.append_nil]; exact HF2.out) (fun _ hk => hk) (HBW.out.trans (HB2.out.mono HBW.out.size)) ?_; intro w3 hn3 hb3 hg3; have HN3 := Aside0.mk hn3; have HB3 := Aside0.mk hb3; have HG3 := Aside0.mk hg3; clear hn3 hb3 hg3))
          go_roundw
          case rel => exact ⟨i + 1, j + 1, cur.set i x, by go_num, by go_num, ⟨by have := HD.out.keep HLT.out (by rw [← HX.out]; exact HP.out); rw [← HX.out] at this; exact this⟩, ⟨by have := HN3.out; rwa [Int.toNat_natCast] at this⟩, ⟨Kept.of_grown HG3.out (Kept.below HKP.out HB2.out) (fun k hk => .inl hk)⟩, HB3⟩
          case measure => simp only [intOf]; omega
        · have HP := Aside0.mk hp
          clear hp
          go_wp2_with ((with_reducible refine gate_dst (N := 28) rfl ?_); refine goesV_ (some 28) rfl rfl HF.out hname hbody cap #[.agg #[.int .i64 x.f0, .int .i64 x.f1, .int .i64 x.f2.f0, .slice A3 x.f2.f1.length c3]] rfl rfl (by simp; rfl) ?_; refine (HS.out.call _ HM.out A3 c3 _ HKB.out).mono ?_; rintro e w2 ⟨rfl, hb⟩; refine ⟨_, rfl, ?_⟩; rw [HP.out]; have HB2 := Aside0.mk (below_step (below_alloc (Below.refl wr.heap.size wr) _) hb); clear hb hx0 hx1 hx2 hx3)
          go_roundw
          case rel => exact ⟨i, j + 1, cur, by first | rfl | go_num, by go_num, ⟨HD.out.skip HLT.out (by rw [← HX.out]; exact HP.out)⟩, ⟨Kd.N_below HNC.out HB2.out⟩, ⟨Kept.below HKP.out HB2.out⟩, ⟨HBW.out.trans (HB2.out.mono HBW.out.size)⟩⟩
          case measure => simp only [intOf]; omega
      · have c0b : decide ((j : Int) < (n : Int)) = false := by simpa using hlt
        have hjx : j = xs.length := by have := HD.out.le; have := HNL.out; omega
        have hin : i < n := by omega
        have hlc := HD.out.len
        have hcl0 : 0 < cur.length := by have := HNL.out; omega
        obtain ⟨g, cc, hv, _, _, _⟩ := Kd.N_form HNC.out hcl0
        obtain ⟨rfl, hcn, rfl⟩ : A = some ⟨g, 0, none⟩ ∧ n = cur.length ∧ c = cc := by injection hv with h1 h2 h3; exact ⟨h1, h2, h3⟩
        obtain ⟨blk, hblk, hbs, hnc⟩ := N_cells HNC.out
        have hic : i < c := by omega
        have hcx : (c == i) = false := by simp; omega
        have hclr := clear_runs (P := Try.prog) wr 232 234 0 (.agg #[.int .i64 0, .int .i64 0, .int .i64 0, .slice none 0 0]) Try.underlying232 (zeroV wr) g (i * 4) (n - i) (c - i) (by omega) (by intro v hv; simp [Value.cells] at hv; rcases hv with rfl | rfl | rfl | rfl <;> rfl) (by simp [Value.cells])
          (fun q hq => by have hz : (Value.agg #[.int .i64 0, .int .i64 0, .int .i64 0, .slice none 0 0]).cells.size = 4 := rfl; rw [hz] at hq; have hlt2 : i * 4 + q < blk.size := by rw [hbs]; show _ < c * 4; omega
                          simp [World.cell?, hblk, hlt2])
          (fun q hq => by simp [World.frozen?, hblk])
        have HCL := Aside0.mk (N_cleared HNC.out (i := i) (by omega) (Builtin.zeroCells (Value.agg #[.int .i64 0, .int .i64 0, .int .i64 0, .slice none 0 0]).cells (n - i)).toList)
        have HV := Aside0.mk hv
        have HJX := Aside0.mk hjx
        clear hv hblk hbs hjx hcn hlc hcl0 HNC
        go_wp2
        go_ret
        refine ⟨i, rfl, ?_, Kept.of_grown HCL.out.2 HKP.out (fun k hk => .inl hk), HBW.out.grown HCL.out.2 HBW.out.size (fun k hk => ?_)⟩
        · have h1 := HCL.out.1
          rw [HD.out.kept, HJX.out, List.take_of_length_le (Nat.le_refl _)] at h1
          exact h1
        · obtain rfl := Option.some.inj hk
          exact Kd.N_base HN.out g (by simp [Value.ownBlock])
end Go.Proofs.Ytlkjglanglpdoaa.T
namespace Go.Proofs.Ytlkjglanglpdoaa.T
open Go.RowKit Go.Proofs.YtlkjglanglpdoaaW.PrintWords Go.Proofs.YtlkjglanglpdoaaW.PrintLast Go.Proofs.YtlkjglanglpdoaaW.PrintMore
set_option linter.unusedVariables false
set_option linter.unusedSimpArgs false
def delV (ds : List Int) (s : Int) (e : S234) : Bool := decide (rd ds e.f0 < 0) || (wrap64 (rd ds e.f0 + e.f1) != rd ds s)
def bestV (ds : List Int) (s : Int) (es : List S234) : List S234 := es.filter (fun e => !delV ds s e)
set_option maxHeartbeats 1600000 in
set_option maxRecDepth 100000 in
theorem bestfnV (pd ps bd n cd : Nat) (ds : List Int) (s t : Nat) (x : S234) (A : Option Addr) (c : Nat) (w : World) (hpd : w.cell? ⟨pd, 0, none⟩ = some (.slice (some ⟨bd, 0, none⟩) n cd)) (hps : w.cell? ⟨ps, 0, none⟩ = some (.int .i64 (s : Int)))
  (hds : Kd.C (Kd.int .i64) w (some ⟨bd, 0, none⟩) n ds) (hx : x.f0 = t) (ht : t < n) (hs : s < n) :
  Calls Try.prog 302 #[.agg #[.int .i64 x.f0, .int .i64 x.f1, .int .i64 x.f2.f0, .slice A x.f2.f1.length c], .pointer (some ⟨pd, 0, none⟩), .pointer (some ⟨ps, 0, none⟩)] w fun e w' => e = .returned (.bool (delV ds s x)) ∧ Below w.heap.size w w' := by
 obtain ⟨ad, hade, hct⟩ := Kd.at_int hds (t : Int) (by omega) (by omega)
 obtain ⟨ad2, hade2, hcs⟩ := Kd.at_int hds (s : Int) (by omega) (by omega)
 have e1 : ad = ⟨bd, 0, none⟩ := by injection hade with e; exact e.symm
 have e2 : ad2 = ⟨bd, 0, none⟩ := by injection hade2 with e; exact e.symm
 subst e1
 subst e2
 rw [Int.toNat_natCast, add_plain] at hct hcs
 obtain ⟨w1, hw1⟩ : ∃ w1, w1 = w.alloc (.cells #[.int .i64 x.f0, .int .i64 x.f1, .int .i64 x.f2.f0, .slice A x.f2.f1.length c] 234) := ⟨_, rfl⟩
 have hb1 : Below w.heap.size w w1 := by rw [hw1]; exact below_alloc (Below.refl _ _) _
 have HPD : Aside0 (w1.cell? ⟨pd, 0, none⟩ = some (.slice (some ⟨bd, 0, none⟩) n cd)) := ⟨(hb1.cell (World.block_lt_of_cell? w _ hpd)).trans hpd⟩
 have HPS : Aside0 (w1.cell? ⟨ps, 0, none⟩ = some (.int .i64 (s : Int))) := ⟨(hb1.cell (World.block_lt_of_cell? w _ hps)).trans hps⟩
 have HDT : Aside0 (w1.cell? ⟨bd, t, none⟩ = some (.int .i64 (rd ds (t : Int)))) := ⟨(hb1.cell (World.block_lt_of_cell? w _ hct)).trans hct⟩
 have HDS : Aside0 (w1.cell? ⟨bd, s, none⟩ = some (.int .i64 (rd ds (s : Int)))) := ⟨(hb1.cell (World.block_lt_of_cell? w _ hcs)).trans hcs⟩
 have HB0 : Aside0 (w1.cell? ⟨w.heap.size, 0, none⟩ = some (.int .i64 (t : Int))) := ⟨by rw [hw1, ← hx]; exact cell_at0 rfl rfl⟩
 have HB1 : Aside0 (w1.cell? ⟨w.heap.size, 1, none⟩ = some (.int .i64 x.f1)) := ⟨by rw [hw1]; exact cell_at0 rfl rfl⟩
 have HW1 := Aside0.mk hw1
 have HBW := Aside0.mk hb1
 have q0 : t < n := ht
 have q1 : s < n := hs
 have HXT := Aside0.mk hx
 clear hade hade2 hct hcs hw1 hb1 hpd hps hds hx ht hs
 by_cases hneg : rd ds (t : Int) < 0
 ·have c0b : decide (rd ds (t : Int) < 0) = true := by simpa using hneg
  have HD : Aside0 (delV ds s x = true) := ⟨by unfold delV; rw [HXT.out, c0b]; rfl⟩
  clear hneg
  go_enter Try.func302, Try.ntmps302
  go_wp2
  rw [← HW1.out]
  refine start_ (n := 22) (S := fun w' => Below w1.heap.size w1 w') (ds := []) #[false, false, false, false, false, false, false, false, false, false, false, false, false, false, false, false, false, false, false, false, false, false] (by kernel_rfl) rfl rfl (Below.refl _ _).drew (fun hHeld => ?_)
  refine take_ (i := 0) (N := some 5) (v := ?_) (a' := ?_) #[true, false, false, false, false, false, false, false, false, false, false, false, false, false, false, false, false, false, false, false, false, false] rfl rfl (by kernel_rfl) (fun _ _ _ h => h) (Or.inl ⟨by rfl, ?_⟩) hHeld ?_ ?_
  rotate_left
  ·intro w' s0
   have s_0 := (s0.cell (World.block_lt_of_cell? w1 _ HPD.out)).trans HPD.out
   clear s0
   go_simp
   with_reducible rfl
  rotate_left
  ·simp only [Act.put, List.setIfInBounds_toArray, List.set_cons_zero, List.set_cons_succ, i64_w, i32_w]
   rfl
  refine pure_ (i := 1) (N := some 6) (v := ?_) (a' := ?_) #[true, true, false, false, false, false, false, false, false, false, false, false, false, false, false, false, false, false, false, false, false, false] rfl rfl (by kernel_rfl) (fun _ _ _ h => h) (Or.inl ⟨by rfl, ?_⟩) ?_ ?_
  rotate_left
  ·intro w'
   go_simp
   with_reducible rfl
  rotate_left
  ·simp only [Act.put, List.setIfInBounds_toArray, List.set_cons_zero, List.set_cons_succ, i64_w, i32_w]
   rfl
  refine take_ (i := 2) (N := some 7) (v := ?_) (a' := ?_) #[true, true, true, false, false, false, false, false, false, false, false, false, false, false, false, false, false, false, false, false, false, false] rfl rfl (by kernel_rfl) (fun _ _ _ h => h) (Or.inl ⟨by rfl, ?_⟩) hHeld ?_ ?_
  rotate_left
  ·intro w' s0
   have s_0 := (s0.cell (World.block_lt_of_cell? w1 _ HB0.out)).trans HB0.out
   clear s0
   go_simp
   with_reducible rfl
  rotate_left
  ·simp only [Act.put, List.setIfInBounds_toArray, List.set_cons_zero, List.set_cons_succ, i64_w, i32_w]
   rfl
  refine pure_ (i := 3) (N := some 8) (v := ?_) (a' := ?_) #[true, true, true, true, false, false, false, false, false, false, false, false, false, false, false, false, false, false, false, false, false, false] rfl rfl (by kernel_rfl) (fun _ _ _ h => h) (Or.inl ⟨by rfl, ?_⟩) ?_ ?_
  rotate_left
  ·intro w'
   go_simp
   with_reducible rfl
  rotate_left
  ·simp only [Act.put, List.setIfInBounds_toArray, List.set_cons_zero, List.set_cons_succ, i64_w, i32_w]
   rfl
  refine take_ (i := 4) (N := some 9) (v := ?_) (a' := ?_) #[true, true, true, true, true, false, false, false, false, false, false, false, false, false, false, false, false, false, false, false, false, false] rfl rfl (by kernel_rfl) (fun _ _ _ h => h) (Or.inl ⟨by rfl, ?_⟩) hHeld ?_ ?_
  rotate_left
  ·intro w' s0
   have s_0 := (s0.cell (World.block_lt_of_cell? w1 _ HDT.out)).trans HDT.out
   clear s0
   go_simp
   with_reducible rfl
  rotate_left
  ·simp only [Act.put, List.setIfInBounds_toArray, List.set_cons_zero, List.set_cons_succ, i64_w, i32_w]
   rfl
  refine pure_ (i := 5) (N := some 10) (v := ?_) (a' := ?_) #[true, true, true, true, true, true, false, false, false, false, false, false, false, false, false, false, false, false, false, false, false, false] rfl rfl (by kernel_rfl) (fun _ _ _ h => h) (Or.inl ⟨by rfl, ?_⟩) ?_ ?_
  rotate_left
  ·intro w'
   go_simp
   with_reducible rfl
  rotate_left
  ·simp only [Act.put, List.setIfInBounds_toArray, List.set_cons_zero, List.set_cons_succ, i64_w, i32_w]
   rfl
  refine pure_ (i := 6) (N := some 11) (v := ?_) (a' := ?_) #[true, true, true, true, true, true, true, false, false, false, false, false, false, false, false, false, false, false, false, false, false, false] rfl rfl (by kernel_rfl) (fun _ _ _ h => h) (Or.inl ⟨by rfl, ?_⟩) ?_ ?_
  rotate_left
  ·intro w'
   go_simp
   with_reducible rfl
  rotate_left
  ·simp only [Act.put, List.setIfInBounds_toArray, List.set_cons_zero, List.set_cons_succ, i64_w, i32_w]
   rfl
  refine pure_ (i := 7) (N := some 12) (v := undef) (a' := ?_) #[true, true, true, true, true, true, true, true, false, false, false, false, false, false, false, false, false, false, false, false, false, false] rfl rfl (by kernel_rfl) (fun _ _ _ h => h) (Or.inr ⟨by rfl, rfl⟩) ?_ ?_
  rotate_left
  ·simp only [Act.put, List.setIfInBounds_toArray, List.set_cons_zero, List.set_cons_succ, i64_w, i32_w]
   rfl
  refine pure_ (i := 8) (N := some 13) (v := undef) (a' := ?_) #[true, true, true, true, true, true, true, true, true, false, false, false, false, false, false, false, false, false, false, false, false, false] rfl rfl (by kernel_rfl) (fun _ _ _ h => h) (Or.inr ⟨by rfl, rfl⟩) ?_ ?_
  rotate_left
  ·simp only [Act.put, List.setIfInBounds_toArray, List.set_cons_zero, List.set_cons_succ, i64_w, i32_w]
   rfl
  refine pure_ (i := 9) (N := some 14) (v := undef) (a' := ?_) #[true, true, true, true, true, true, true, true, true, true, false, false, false, false, false, false, false, false, false, false, false, false] rfl rfl (by kernel_rfl) (fun _ _ _ h => h) (Or.inr ⟨by rfl, rfl⟩) ?_ ?_
  rotate_left
  ·simp only [Act.put, List.setIfInBounds_toArray, List.set_cons_zero, List.set_cons_succ, i64_w, i32_w]
   rfl
  refine pure_ (i := 10) (N := some 15) (v := undef) (a' := ?_) #[true, true, true, true, true, true, true, true, true, true, true, false, false, false, false, false, false, false, false, false, false, false] rfl rfl (by kernel_rfl) (fun _ _ _ h => h) (Or.inr ⟨by rfl, rfl⟩) ?_ ?_
  rotate_left
  ·simp only [Act.put, List.setIfInBounds_toArray, List.set_cons_zero, List.set_cons_succ, i64_w, i32_w]
   rfl
  refine pure_ (i := 11) (N := some 16) (v := undef) (a' := ?_) #[true, true, true, true, true, true, true, true, true, true, true, true, false, false, false, false, false, false, false, false, false, false] rfl rfl (by kernel_rfl) (fun _ _ _ h => h) (Or.inr ⟨by rfl, rfl⟩) ?_ ?_
  rotate_left
  ·simp only [Act.put, List.setIfInBounds_toArray, List.set_cons_zero, List.set_cons_succ, i64_w, i32_w]
   rfl
  refine pure_ (i := 12) (N := some 17) (v := undef) (a' := ?_) #[true, true, true, true, true, true, true, true, true, true, true, true, true, false, false, false, false, false, false, false, false, false] rfl rfl (by kernel_rfl) (fun _ _ _ h => h) (Or.inr ⟨by rfl, rfl⟩) ?_ ?_
  rotate_left
  ·simp only [Act.put, List.setIfInBounds_toArray, List.set_cons_zero, List.set_cons_succ, i64_w, i32_w]
   rfl
  refine pure_ (i := 13) (N := some 18) (v := undef) (a' := ?_) #[true, true, true, true, true, true, true, true, true, true, true, true, true, true, false, false, false, false, false, false, false, false] rfl rfl (by kernel_rfl) (fun _ _ _ h => h) (Or.inr ⟨by rfl, rfl⟩) ?_ ?_
  rotate_left
  ·simp only [Act.put, List.setIfInBounds_toArray, List.set_cons_zero, List.set_cons_succ, i64_w, i32_w]
   rfl
  refine pure_ (i := 14) (N := some 19) (v := undef) (a' := ?_) #[true, true, true, true, true, true, true, true, true, true, true, true, true, true, true, false, false, false, false, false, false, false] rfl rfl (by kernel_rfl) (fun _ _ _ h => h) (Or.inr ⟨by rfl, rfl⟩) ?_ ?_
  rotate_left
  ·simp only [Act.put, List.setIfInBounds_toArray, List.set_cons_zero, List.set_cons_succ, i64_w, i32_w]
   rfl
  refine pure_ (i := 15) (N := some 20) (v := undef) (a' := ?_) #[true, true, true, true, true, true, true, true, true, true, true, true, true, true, true, true, false, false, false, false, false, false] rfl rfl (by kernel_rfl) (fun _ _ _ h => h) (Or.inr ⟨by rfl, rfl⟩) ?_ ?_
  rotate_left
  ·simp only [Act.put, List.setIfInBounds_toArray, List.set_cons_zero, List.set_cons_succ, i64_w, i32_w]
   rfl
  refine pure_ (i := 16) (N := some 21) (v := undef) (a' := ?_) #[true, true, true, true, true, true, true, true, true, true, true, true, true, true, true, true, true, false, false, false, false, false] rfl rfl (by kernel_rfl) (fun _ _ _ h => h) (Or.inr ⟨by rfl, rfl⟩) ?_ ?_
  rotate_left
  ·simp only [Act.put, List.setIfInBounds_toArray, List.set_cons_zero, List.set_cons_succ, i64_w, i32_w]
   rfl
  refine pure_ (i := 17) (N := some 22) (v := undef) (a' := ?_) #[true, true, true, true, true, true, true, true, true, true, true, true, true, true, true, true, true, true, false, false, false, false] rfl rfl (by kernel_rfl) (fun _ _ _ h => h) (Or.inr ⟨by rfl, rfl⟩) ?_ ?_
  rotate_left
  ·simp only [Act.put, List.setIfInBounds_toArray, List.set_cons_zero, List.set_cons_succ, i64_w, i32_w]
   rfl
  refine pure_ (i := 18) (N := some 23) (v := undef) (a' := ?_) #[true, true, true, true, true, true, true, true, true, true, true, true, true, true, true, true, true, true, true, false, false, false] rfl rfl (by kernel_rfl) (fun _ _ _ h => h) (Or.inr ⟨by rfl, rfl⟩) ?_ ?_
  rotate_left
  ·simp only [Act.put, List.setIfInBounds_toArray, List.set_cons_zero, List.set_cons_succ, i64_w, i32_w]
   rfl
  refine pure_ (i := 19) (N := some 24) (v := undef) (a' := ?_) #[true, true, true, true, true, true, true, true, true, true, true, true, true, true, true, true, true, true, true, true, false, false] rfl rfl (by kernel_rfl) (fun _ _ _ h => h) (Or.inr ⟨by rfl, rfl⟩) ?_ ?_
  rotate_left
  ·simp only [Act.put, List.setIfInBounds_toArray, List.set_cons_zero, List.set_cons_succ, i64_w, i32_w]
   rfl
  refine pure_ (i := 20) (N := some 25) (v := ?_) (a' := ?_) #[true, true, true, true, true, true, true, true, true, true, true, true, true, true, true, true, true, true, true, true, true, false] rfl rfl (by kernel_rfl) (fun _ _ _ h => h) (Or.inl ⟨by rfl, ?_⟩) ?_ ?_
  rotate_left
  ·intro w'
   go_simp
   with_reducible rfl
  rotate_left
  ·simp only [Act.put, List.setIfInBounds_toArray, List.set_cons_zero, List.set_cons_succ, i64_w, i32_w]
   rfl
  refine pure_ (i := 21) (N := some 4) (v := ?_) (a' := ?_) #[true, true, true, true, true, true, true, true, true, true, true, true, true, true, true, true, true, true, true, true, true, true] rfl rfl (by kernel_rfl) (fun _ _ _ h => h) (Or.inl ⟨by rfl, ?_⟩) ?_ ?_
  rotate_left
  ·intro w'
   go_simp
   with_reducible rfl
  rotate_left
  ·simp only [Act.put, List.setIfInBounds_toArray, List.set_cons_zero, List.set_cons_succ, i64_w, i32_w]
   rfl
  refine done_ (by kernel_rfl) ?_
  go_wp2
  go_ret
  exact ⟨by rw [HD.out]; rfl, below_drew1 HBW.out⟩
 ·have c0b : decide (rd ds (t : Int) < 0) = false := by simpa using hneg
  have HD : Aside0 (delV ds s x = (wrap64 (rd ds (t : Int) + x.f1) != rd ds (s : Int))) := ⟨by unfold delV; rw [HXT.out, c0b]; rfl⟩
  clear hneg
  go_enter Try.func302, Try.ntmps302
  go_wp2
  rw [← HW1.out]
  refine start_ (n := 22) (S := fun w' => Below w1.heap.size w1 w') (ds := []) #[false, false, false, false, false, false, false, false, false, false, false, false, false, false, false, false, false, false, false, false, false, false] (by kernel_rfl) rfl rfl (Below.refl _ _).drew (fun hHeld => ?_)
  refine take_ (i := 0) (N := some 5) (v := ?_) (a' := ?_) #[true, false, false, false, false, false, false, false, false, false, false, false, false, false, false, false, false, false, false, false, false, false] rfl rfl (by kernel_rfl) (fun _ _ _ h => h) (Or.inl ⟨by rfl, ?_⟩) hHeld ?_ ?_
  rotate_left
  ·intro w' s0
   have s_0 := (s0.cell (World.block_lt_of_cell? w1 _ HPD.out)).trans HPD.out
   clear s0
   go_simp
   with_reducible rfl
  rotate_left
  ·simp only [Act.put, List.setIfInBounds_toArray, List.set_cons_zero, List.set_cons_succ, i64_w, i32_w]
   rfl
  refine pure_ (i := 1) (N := some 6) (v := ?_) (a' := ?_) #[true, true, false, false, false, false, false, false, false, false, false, false, false, false, false, false, false, false, false, false, false, false] rfl rfl (by kernel_rfl) (fun _ _ _ h => h) (Or.inl ⟨by rfl, ?_⟩) ?_ ?_
  rotate_left
  ·intro w'
   go_simp
   with_reducible rfl
  rotate_left
  ·simp only [Act.put, List.setIfInBounds_toArray, List.set_cons_zero, List.set_cons_succ, i64_w, i32_w]
   rfl
  refine take_ (i := 2) (N := some 7) (v := ?_) (a' := ?_) #[true, true, true, false, false, false, false, false, false, false, false, false, false, false, false, false, false, false, false, false, false, false] rfl rfl (by kernel_rfl) (fun _ _ _ h => h) (Or.inl ⟨by rfl, ?_⟩) hHeld ?_ ?_
  rotate_left
  ·intro w' s0
   have s_0 := (s0.cell (World.block_lt_of_cell? w1 _ HB0.out)).trans HB0.out
   clear s0
   go_simp
   with_reducible rfl
  rotate_left
  ·simp only [Act.put, List.setIfInBounds_toArray, List.set_cons_zero, List.set_cons_succ, i64_w, i32_w]
   rfl
  refine pure_ (i := 3) (N := some 8) (v := ?_) (a' := ?_) #[true, true, true, true, false, false, false, false, false, false, false, false, false, false, false, false, false, false, false, false, false, false] rfl rfl (by kernel_rfl) (fun _ _ _ h => h) (Or.inl ⟨by rfl, ?_⟩) ?_ ?_
  rotate_left
  ·intro w'
   go_simp
   with_reducible rfl
  rotate_left
  ·simp only [Act.put, List.setIfInBounds_toArray, List.set_cons_zero, List.set_cons_succ, i64_w, i32_w]
   rfl
  refine take_ (i := 4) (N := some 9) (v := ?_) (a' := ?_) #[true, true, true, true, true, false, false, false, false, false, false, false, false, false, false, false, false, false, false, false, false, false] rfl rfl (by kernel_rfl) (fun _ _ _ h => h) (Or.inl ⟨by rfl, ?_⟩) hHeld ?_ ?_
  rotate_left
  ·intro w' s0
   have s_0 := (s0.cell (World.block_lt_of_cell? w1 _ HDT.out)).trans HDT.out
   clear s0
   go_simp
   with_reducible rfl
  rotate_left
  ·simp only [Act.put, List.setIfInBounds_toArray, List.set_cons_zero, List.set_cons_succ, i64_w, i32_w]
   rfl
  refine pure_ (i := 5) (N := some 10) (v := ?_) (a' := ?_) #[true, true, true, true, true, true, false, false, false, false, false, false, false, false, false, false, false, false, false, false, false, false] rfl rfl (by kernel_rfl) (fun _ _ _ h => h) (Or.inl ⟨by rfl, ?_⟩) ?_ ?_
  rotate_left
  ·intro w'
   go_simp
   with_reducible rfl
  rotate_left
  ·simp only [Act.put, List.setIfInBounds_toArray, List.set_cons_zero, List.set_cons_succ, i64_w, i32_w]
   rfl
  refine pure_ (i := 6) (N := some 11) (v := ?_) (a' := ?_) #[true, true, true, true, true, true, true, false, false, false, false, false, false, false, false, false, false, false, false, false, false, false] rfl rfl (by kernel_rfl) (fun _ _ _ h => h) (Or.inl ⟨by rfl, ?_⟩) ?_ ?_
  rotate_left
  ·intro w'
   go_simp
   with_reducible rfl
  rotate_left
  ·simp only [Act.put, List.setIfInBounds_toArray, List.set_cons_zero, List.set_cons_succ, i64_w, i32_w]
   rfl
  refine take_ (i := 7) (N := some 12) (v := ?_) (a' := ?_) #[true, true, true, true, true, true, true, true, false, false, false, false, false, false, false, false, false, false, false, false, false, false] rfl rfl (by kernel_rfl) (fun _ _ _ h => h) (Or.inl ⟨by rfl, ?_⟩) hHeld ?_ ?_
  rotate_left
  ·intro w' s0
   have s_0 := (s0.cell (World.block_lt_of_cell? w1 _ HPD.out)).trans HPD.out
   clear s0
   go_simp
   with_reducible rfl
  rotate_left
  ·simp only [Act.put, List.setIfInBounds_toArray, List.set_cons_zero, List.set_cons_succ, i64_w, i32_w]
   rfl
  refine pure_ (i := 8) (N := some 13) (v := ?_) (a' := ?_) #[true, true, true, true, true, true, true, true, true, false, false, false, false, false, false, false, false, false, false, false, false, false] rfl rfl (by kernel_rfl) (fun _ _ _ h => h) (Or.inl ⟨by rfl, ?_⟩) ?_ ?_
  rotate_left
  ·intro w'
   go_simp
   with_reducible rfl
  rotate_left
  ·simp only [Act.put, List.setIfInBounds_toArray, List.set_cons_zero, List.set_cons_succ, i64_w, i32_w]
   rfl
  refine take_ (i := 9) (N := some 14) (v := ?_) (a' := ?_) #[true, true, true, true, true, true, true, true, true, true, false, false, false, false, false, false, false, false, false, false, false, false] rfl rfl (by kernel_rfl) (fun _ _ _ h => h) (Or.inl ⟨by rfl, ?_⟩) hHeld ?_ ?_
  rotate_left
  ·intro w' s0
   have s_0 := (s0.cell (World.block_lt_of_cell? w1 _ HB0.out)).trans HB0.out
   clear s0
   go_simp
   with_reducible rfl
  rotate_left
  ·simp only [Act.put, List.setIfInBounds_toArray, List.set_cons_zero, List.set_cons_succ, i64_w, i32_w]
   rfl
  refine pure_ (i := 10) (N := some 15) (v := ?_) (a' := ?_) #[true, true, true, true, true, true, true, true, true, true, true, false, false, false, false, false, false, false, false, false, false, false] rfl rfl (by kernel_rfl) (fun _ _ _ h => h) (Or.inl ⟨by rfl, ?_⟩) ?_ ?_
  rotate_left
  ·intro w'
   go_simp
   with_reducible rfl
  rotate_left
  ·simp only [Act.put, List.setIfInBounds_toArray, List.set_cons_zero, List.set_cons_succ, i64_w, i32_w]
   rfl
  refine take_ (i := 11) (N := some 16) (v := ?_) (a' := ?_) #[true, true, true, true, true, true, true, true, true, true, true, true, false, false, false, false, false, false, false, false, false, false] rfl rfl (by kernel_rfl) (fun _ _ _ h => h) (Or.inl ⟨by rfl, ?_⟩) hHeld ?_ ?_
  rotate_left
  ·intro w' s0
   have s_0 := (s0.cell (World.block_lt_of_cell? w1 _ HDT.out)).trans HDT.out
   clear s0
   go_simp
   with_reducible rfl
  rotate_left
  ·simp only [Act.put, List.setIfInBounds_toArray, List.set_cons_zero, List.set_cons_succ, i64_w, i32_w]
   rfl
  refine pure_ (i := 12) (N := some 17) (v := ?_) (a' := ?_) #[true, true, true, true, true, true, true, true, true, true, true, true, true, false, false, false, false, false, false, false, false, false] rfl rfl (by kernel_rfl) (fun _ _ _ h => h) (Or.inl ⟨by rfl, ?_⟩) ?_ ?_
  rotate_left
  ·intro w'
   go_simp
   with_reducible rfl
  rotate_left
  ·simp only [Act.put, List.setIfInBounds_toArray, List.set_cons_zero, List.set_cons_succ, i64_w, i32_w]
   rfl
  refine take_ (i := 13) (N := some 18) (v := ?_) (a' := ?_) #[true, true, true, true, true, true, true, true, true, true, true, true, true, true, false, false, false, false, false, false, false, false] rfl rfl (by kernel_rfl) (fun _ _ _ h => h) (Or.inl ⟨by rfl, ?_⟩) hHeld ?_ ?_
  rotate_left
  ·intro w' s0
   have s_0 := (s0.cell (World.block_lt_of_cell? w1 _ HB1.out)).trans HB1.out
   clear s0
   go_simp
   with_reducible rfl
  rotate_left
  ·simp only [Act.put, List.setIfInBounds_toArray, List.set_cons_zero, List.set_cons_succ, i64_w, i32_w]
   rfl
  refine pure_ (i := 14) (N := some 19) (v := ?_) (a' := ?_) #[true, true, true, true, true, true, true, true, true, true, true, true, true, true, true, false, false, false, false, false, false, false] rfl rfl (by kernel_rfl) (fun _ _ _ h => h) (Or.inl ⟨by rfl, ?_⟩) ?_ ?_
  rotate_left
  ·intro w'
   go_simp
   with_reducible rfl
  rotate_left
  ·simp only [Act.put, List.setIfInBounds_toArray, List.set_cons_zero, List.set_cons_succ, i64_w, i32_w]
   rfl
  refine take_ (i := 15) (N := some 20) (v := ?_) (a' := ?_) #[true, true, true, true, true, true, true, true, true, true, true, true, true, true, true, true, false, false, false, false, false, false] rfl rfl (by kernel_rfl) (fun _ _ _ h => h) (Or.inl ⟨by rfl, ?_⟩) hHeld ?_ ?_
  rotate_left
  ·intro w' s0
   have s_0 := (s0.cell (World.block_lt_of_cell? w1 _ HPD.out)).trans HPD.out
   clear s0
   go_simp
   with_reducible rfl
  rotate_left
  ·simp only [Act.put, List.setIfInBounds_toArray, List.set_cons_zero, List.set_cons_succ, i64_w, i32_w]
   rfl
  refine take_ (i := 16) (N := some 21) (v := ?_) (a' := ?_) #[true, true, true, true, true, true, true, true, true, true, true, true, true, true, true, true, true, false, false, false, false, false] rfl rfl (by kernel_rfl) (fun _ _ _ h => h) (Or.inl ⟨by rfl, ?_⟩) hHeld ?_ ?_
  rotate_left
  ·intro w' s0
   have s_0 := (s0.cell (World.block_lt_of_cell? w1 _ HPS.out)).trans HPS.out
   clear s0
   go_simp
   with_reducible rfl
  rotate_left
  ·simp only [Act.put, List.setIfInBounds_toArray, List.set_cons_zero, List.set_cons_succ, i64_w, i32_w]
   rfl
  refine pure_ (i := 17) (N := some 22) (v := ?_) (a' := ?_) #[true, true, true, true, true, true, true, true, true, true, true, true, true, true, true, true, true, true, false, false, false, false] rfl rfl (by kernel_rfl) (fun _ _ _ h => h) (Or.inl ⟨by rfl, ?_⟩) ?_ ?_
  rotate_left
  ·intro w'
   go_simp
   with_reducible rfl
  rotate_left
  ·simp only [Act.put, List.setIfInBounds_toArray, List.set_cons_zero, List.set_cons_succ, i64_w, i32_w]
   rfl
  refine take_ (i := 18) (N := some 23) (v := ?_) (a' := ?_) #[true, true, true, true, true, true, true, true, true, true, true, true, true, true, true, true, true, true, true, false, false, false] rfl rfl (by kernel_rfl) (fun _ _ _ h => h) (Or.inl ⟨by rfl, ?_⟩) hHeld ?_ ?_
  rotate_left
  ·intro w' s0
   have s_0 := (s0.cell (World.block_lt_of_cell? w1 _ HDS.out)).trans HDS.out
   clear s0
   go_simp
   with_reducible rfl
  rotate_left
  ·simp only [Act.put, List.setIfInBounds_toArray, List.set_cons_zero, List.set_cons_succ, i64_w, i32_w]
   rfl
  refine pure_ (i := 19) (N := some 24) (v := ?_) (a' := ?_) #[true, true, true, true, true, true, true, true, true, true, true, true, true, true, true, true, true, true, true, true, false, false] rfl rfl (by kernel_rfl) (fun _ _ _ h => h) (Or.inl ⟨by rfl, ?_⟩) ?_ ?_
  rotate_left
  ·intro w'
   go_simp
   with_reducible rfl
  rotate_left
  ·simp only [Act.put, List.setIfInBounds_toArray, List.set_cons_zero, List.set_cons_succ, i64_w, i32_w]
   rfl
  refine pure_ (i := 20) (N := some 25) (v := ?_) (a' := ?_) #[true, true, true, true, true, true, true, true, true, true, true, true, true, true, true, true, true, true, true, true, true, false] rfl rfl (by kernel_rfl) (fun _ _ _ h => h) (Or.inl ⟨by rfl, ?_⟩) ?_ ?_
  rotate_left
  ·intro w'
   go_simp
   with_reducible rfl
  rotate_left
  ·simp only [Act.put, List.setIfInBounds_toArray, List.set_cons_zero, List.set_cons_succ, i64_w, i32_w]
   rfl
  refine pure_ (i := 21) (N := some 4) (v := ?_) (a' := ?_) #[true, true, true, true, true, true, true, true, true, true, true, true, true, true, true, true, true, true, true, true, true, true] rfl rfl (by kernel_rfl) (fun _ _ _ h => h) (Or.inl ⟨by rfl, ?_⟩) ?_ ?_
  rotate_left
  ·intro w'
   go_simp
   with_reducible rfl
  rotate_left
  ·simp only [Act.put, List.setIfInBounds_toArray, List.set_cons_zero, List.set_cons_succ, i64_w, i32_w]
   rfl
  refine done_ (by kernel_rfl) ?_
  go_wp2
  go_ret
  exact ⟨by rw [HD.out]; rfl, below_drew1 HBW.out⟩
theorem says_bestV {w3 w4 : World} {pd ps bd n cd s : Nat} {ds : List Int} {es : List S234} {vb : Option Nat} (hb : Below w3.heap.size w3 w4) (hpd : w3.cell? ⟨pd, 0, none⟩ = some (.slice (some ⟨bd, 0, none⟩) n cd)) (hps : w3.cell? ⟨ps, 0, none⟩ = some (.int .i64 (s : Int)))
  (hds : Kd.C (Kd.int .i64) w3 (some ⟨bd, 0, none⟩) n ds) (hvb : ∀ k, vb = some k → w3.heap.size ≤ k) (hE : ∀ e ∈ es, ∃ t : Nat, e.f0 = t ∧ t < n) (hs : s < n) :
  SaysV 302 #[.pointer (some ⟨pd, 0, none⟩), .pointer (some ⟨ps, 0, none⟩)] (delV ds (s : Int)) es vb w4 := by
 refine ⟨⟨_, Try.func302, by kernel_rfl, rfl⟩, fun x hx A c w' hK => ?_⟩
 obtain ⟨t, ht, htn⟩ := hE x hx
 have h1 := World.block_lt_of_cell? w3 _ hpd
 have h2 := World.block_lt_of_cell? w3 _ hps
 exact bestfnV pd ps bd n cd ds s t x A c w' (cell_kept ((hb.cell h1).trans hpd) hK (fun e => absurd (hvb _ e) (Nat.not_le.2 h1))) (cell_kept ((hb.cell h2).trans hps) hK (fun e => absurd (hvb _ e) (Nat.not_le.2 h2))) (Kd.C_kept_came (Kd.heap_int .i64) hds hb hvb w' hK) ht htn hs
set_option maxHeartbeats 1600000 in
set_option maxRecDepth 100000 in
theorem bestV_runs (f : FuncId) (cap : Array Value) (E : Nat → List S234) (G : Nat → Prop) (many C K bd cd : Nat) (ds : List Int) (s : Nat) (w : World) (hO : OutsV f cap E G many C K w) (hs : s < many) (hG : G s) (hds : Kd.C (Kd.int .i64) w (some ⟨bd, 0, none⟩) many ds) :
  Calls Try.prog 278 #[.agg #[.int .i64 (many : Int), .func (.func f) #[] cap], .int .i64 (s : Int), .slice (some ⟨bd, 0, none⟩) many cd] w fun e w' =>
   ∃ v, e = .returned v ∧ Kd.N k234 234 w' w.heap.size (fun k => w.heap.size ≤ k) v (bestV ds (s : Int) (E s)) ∧ Below w.heap.size w w' := by
 obtain ⟨fn, hf, hname, hbody⟩ := hO.fn
 have HF := Aside0.mk hf
 have HO := Aside0.mk hO
 have HG := Aside0.mk hG
 have HSM := Aside0.mk hs
 have HDS := Aside0.mk hds
 have hmf : ∀ (fn : Fn) (first cap : Array Value) (w : World), (Instr.makeFunc fn first cap).run Try.prog w = .ok (.func fn first cap) w := fun _ _ _ _ => rfl
 obtain ⟨w3, hw3⟩ : ∃ w3, w3 = ((w.alloc (.cells #[.int .i64 (many : Int), .func (.func f) #[] cap] 151)).alloc (.cells #[.int .i64 (s : Int)] 3)).alloc (.cells #[.slice (some ⟨bd, 0, none⟩) many cd] 32) := ⟨_, rfl⟩
 have hb3 : Below w.heap.size w w3 := by rw [hw3]; exact below_alloc (below_alloc (below_alloc (Below.refl _ _) _) _) _
 have hz3 : w3.heap.size = w.heap.size + 3 := by rw [hw3]; simp
 have hps : w3.cell? ⟨w.heap.size + 1, 0, none⟩ = some (.int .i64 (s : Int)) := by
  rw [hw3]; exact (World.cell?_alloc_past _ _ _ (by simp)).trans (cell_at0 (by simp) rfl)
 have hpd : w3.cell? ⟨w.heap.size + 2, 0, none⟩ = some (.slice (some ⟨bd, 0, none⟩) many cd) := by rw [hw3]; exact cell_at0 (by simp) rfl
 have HW3 := Aside0.mk hw3
 have HB3 := Aside0.mk hb3
 have HZ3 := Aside0.mk hz3
 have HPS := Aside0.mk hps
 have HPD := Aside0.mk hpd
 clear hf hO hG hs hds hw3 hb3 hz3 hps hpd
 go_enter Try.func278, Try.ntmps278
 go_wp2_with (first | ((with_reducible refine gate_dst (N := 10) rfl ?_); refine goesV_ (some 10) rfl rfl HF.out hname hbody cap #[.int .i64 (s : Int)] rfl rfl (by simp; rfl) ?_; rw [← HW3.out]; refine (HO.out.call s HSM.out HG.out _ HB3.out).mono ?_; rintro e w4 ⟨v10, rfl, hN, hb4⟩; refine ⟨_, rfl, ?_⟩; obtain ⟨A10, c10, e10⟩ := Kd.N_slice hN; subst e10; have HN := Aside0.mk hN; have HB4 := Aside0.mk hb4; have HSAY := Aside0.mk (says_bestV (vb := (Value.slice A10 (E s).length c10).ownBlock) (es := E s) hb4 HPD.out HPS.out (Kd.C_below HDS.out HB3.out) (Kd.N_base hN) (fun e he => by obtain ⟨t, k, h1, _, h3, _⟩ := HO.out.good s HG.out e he; exact ⟨t, h1, h3⟩) HSM.out); clear hN hb4) | (go_at_call 301; refine (deleteV A10 _ c10 (E s) 302 #[.pointer (some ⟨w.heap.size + 2, 0, none⟩), .pointer (some ⟨w.heap.size + 1, 0, none⟩)] (delV ds (s : Int)) w3 w4 (fun k => w3.heap.size ≤ k) HN.out HSAY.out HB4.out).mono ?_; rintro e w5 ⟨m, rfl, hn5, _, hb5⟩; have HN5 := Aside0.mk hn5; have HB5 := Aside0.mk hb5; clear hn5 hb5))
 go_ret
 exact ⟨_, rfl, Kd.N_mono (Kd.N_lower HN5.out (by have := HZ3.out; omega)) (fun k hk => by have := HZ3.out; omega), HB3.out.trans (HB5.out.mono HB3.out.size)⟩
end Go.Proofs.Ytlkjglanglpdoaa.T
namespace Go.Proofs.Ytlkjglanglpdoaa.T
open Go.RowKit Go.Proofs.YtlkjglanglpdoaaW.PrintWords Go.Proofs.YtlkjglanglpdoaaW.PrintLast Go.Proofs.YtlkjglanglpdoaaW.PrintMore
attribute [local go_sem] max2_int min2_int max_two min_two max_three min_three max_four min_four
set_option linter.unusedVariables false
set_option linter.unusedSimpArgs false
def impl_Places_behind.l0 : Nat → Int → List Int → Int → Int → List Int → Int → Option (List Int × Int)
 | 0, _, _, _, _, _, _ => none
 | k + 1, x1, x15, x16, x17, x1075000, x1075001 => if x17 < x16 then (if 0 ≤ x17 then (if x17 < (x15.length : Int) then (if 0 ≤ (rd x15 x17) then (if (rd x15 x17) < (x1075000.length : Int) then (impl_Places_behind.l0 k x1 x15 x16 (wrap64 (x17 + 1)) (x1075000.set ((rd x15 x17) : Int).toNat x1) x1075001) else (none)) else (none)) else (none)) else (none)) else (some (x1075000, x1075001))
def impl_Places_behind.f (k : Nat) (l0_0 : List Int) (a0_1 : Int) (a1 : Int) (l2 : List Int) : Option (List Int × Int) := (slices_Clone_int_int.f l0_0).bind fun t1071 => (impl_Places_behind.l0 k a1 l2 (l2.length : Int) 0 t1071 a1)
theorem impl_Places_behind.mono_l : ∀ k, (∀ y0 y1 y2 y3 y4 y5, LeO (impl_Places_behind.l0 k y0 y1 y2 y3 y4 y5) (impl_Places_behind.l0 (k + 1) y0 y1 y2 y3 y4 y5))
 | 0 => fun _ _ _ _ _ _ r h => by simp [impl_Places_behind.l0] at h
 | k + 1 => by
  have ih0 := impl_Places_behind.mono_l k
  ·intro y0 y1 y2 y3 y4 y5
   unfold impl_Places_behind.l0
   repeat' first
   | (with_reducible exact ih0 _ _ _ _ _ _)
   | (with_reducible exact LeO.refl _)
   | (with_reducible exact LeO.none _)
   | (with_reducible refine LeO.ite ?_ ?_)
   | (with_reducible refine LeO.bind ?_ (fun _ => ?_))
   | exact ih0 _ _ _ _ _ _
   | exact LeO.none _
   | refine LeO.ite ?_ ?_
   | refine LeO.bind ?_ (fun _ => ?_)
theorem impl_Places_behind.mono : ∀ a0 a1 a2 a3 k, LeO (impl_Places_behind.f k a0 a1 a2 a3) (impl_Places_behind.f (k + 1) a0 a1 a2 a3) := by
 intro a0 a1 a2 a3 k
 have ih0 := impl_Places_behind.mono_l k
 unfold impl_Places_behind.f
 repeat' first
   | (with_reducible exact ih0 _ _ _ _ _ _)
   | (with_reducible exact LeO.refl _)
   | (with_reducible exact LeO.none _)
   | (with_reducible refine LeO.ite ?_ ?_)
   | (with_reducible refine LeO.bind ?_ (fun _ => ?_))
   | exact ih0 _ _ _ _ _ _
   | exact LeO.none _
   | refine LeO.ite ?_ ?_
   | refine LeO.bind ?_ (fun _ => ?_)
set_option maxHeartbeats 8000000 in
set_option maxRecDepth 100000 in
theorem impl_Places_behind.calls (k : Nat) (A0_0 : Option Addr) (c0_0 : Nat) (l0_0 : List Int) (a0_1 : Int) (a1 : Int) (A2 : Option Addr) (c2 : Nat) (l2 : List Int) (r1 : List Int) (r2 : Int) (w : World) (hr0_0 : Kd.C (Kd.int .i64) w A0_0 l0_0.length l0_0) (hc0_0 : l0_0.length ≤ c0_0) (hr2 : Kd.C (Kd.int .i64) w A2 l2.length l2) (hc2 : l2.length ≤ c2) (h : impl_Places_behind.f k l0_0 a0_1 a1 l2 = some (r1, r2)) :
  Calls Try.prog 183 #[.agg #[.slice A0_0 l0_0.length c0_0, .int .i64 a0_1], .int .i64 a1, .slice A2 l2.length c2] w fun e w' => ∃ v0_ : Value, e = .returned (.agg #[v0_, .int .i64 r2]) ∧ Kd.R (Kd.int .i64) 3 w' w.heap.size (fun _ => True) v0_ r1 ∧ Below w.heap.size w w' := by
 have hu64 := Try.underlying64
 have HR0_0 := Aside0.mk hr0_0
 have HC0_0 := Aside0.mk hc0_0
 clear hr0_0 hc0_0
 have HR2 := Aside0.mk hr2
 have HC2 := Aside0.mk hc2
 clear hr2 hc2
 have HB := Aside0.mk (Below.refl w.heap.size w)
 have H : ((slices_Clone_int_int.f l0_0).bind fun t1071 => (impl_Places_behind.l0 k a1 l2 (l2.length : Int) 0 t1071 a1)) = some (r1, r2) := h
 clear h
 replace H := Option.bind_eq_some_iff.mp H
 obtain ⟨t1071, A40, H⟩ := H
 replace H : (impl_Places_behind.l0 k a1 l2 (l2.length : Int) 0 t1071 a1) = some (r1, r2) := H
 have A4 := Aside0.mk A40
 clear A40
 have H' := Aside0.mk H
 clear H
 go_enter Try.func183, Try.ntmps183
 go_wp2_with (first | ((with_reducible refine gate_dst (N := 3) rfl ?_); refine box_event ?hg (N := 3) ?hd (cs := #[.slice A0_0 l0_0.length c0_0, .int .i64 a0_1]) (t := 64) ?hr ?_; (case hd => rfl); (case hg => rfl); (case hr => first | (go_simp; done) | (go_simp; rfl)); intro gb1069 hg w5 hbox hb; have n0_ := Aside0.mk (below_step (by repeat (first | (with_reducible first | exact HB.out | apply below_alloc | apply pw_below_drewN | apply below_drew1) | exact HB.out)) hb); have n1_ := Aside0.mk (hbox); have n2_ := Aside0.mk ((by rw [hg]; exact (below_size (by repeat (first | (with_reducible first | exact HB.out | apply below_alloc | apply pw_below_drewN | apply below_drew1) | exact HB.out))) : w.heap.size ≤ gb1069)); have n3_ := Aside0.mk ((by rw [hg]; exact (below_size (by repeat (first | (with_reducible first | exact HB.out | apply below_alloc | apply pw_below_drewN | apply below_drew1) | exact HB.out))) : w.heap.size ≤ gb1069)); clear HB; have HB := n0_; have BK1069 := n1_; have GW1069 := n2_; have GE1069 := n3_; clear n0_ n1_ n2_ n3_; clear hb hbox hg) | ((with_reducible refine gate_dst (N := 6) rfl ?_); refine box_event ?hg (N := 6) ?hd (cs := #[.slice none 0 0, .int .i64 0]) (t := 64) ?hr ?_; (case hd => rfl); (case hg => rfl); (case hr => first | (go_simp; done) | (go_simp; rfl)); intro gb1070 hg w6 hbox hb; have n0_ := Aside0.mk (blk_below (g := gb1069) (o := .cells #[.slice A0_0 l0_0.length c0_0, .int .i64 a0_1] 64 (0, 0)) (by (with_reducible repeat (first | refine blk_drewN ?_ _ | refine blk_drew ?_ | refine blk_alloc ?_ _)); exact BK1069.out) hb); have n1_ := Aside0.mk (below_step (by repeat (first | (with_reducible first | exact HB.out | apply below_alloc | apply pw_below_drewN | apply below_drew1 | refine below_set ?_ GE1069.out) | exact HB.out)) hb); have n2_ := Aside0.mk (hbox); have n3_ := Aside0.mk ((by rw [hg]; exact (below_size (by repeat (first | (with_reducible first | exact HB.out | apply below_alloc | apply pw_below_drewN | apply below_drew1 | refine below_set ?_ GE1069.out) | exact HB.out))) : w.heap.size ≤ gb1070)); have n4_ := Aside0.mk ((by rw [hg]; exact (below_size (by repeat (first | (with_reducible first | exact HB.out | apply below_alloc | apply pw_below_drewN | apply below_drew1 | refine below_set ?_ GE1069.out) | exact HB.out))) : w.heap.size ≤ gb1070)); have n5_ := Aside0.mk ((by rw [hg]; exact Nat.ne_of_lt (blk_lt (g := gb1069) (o := .cells #[.slice A0_0 l0_0.length c0_0, .int .i64 a0_1] 64 (0, 0)) (by (with_reducible repeat (first | refine blk_drewN ?_ _ | refine blk_drew ?_ | refine blk_alloc ?_ _)); exact BK1069.out)) : gb1069 ≠ gb1070)); have n6_ := Aside0.mk ((by rw [hg]; exact Nat.ne_of_gt (blk_lt (g := gb1069) (o := .cells #[.slice A0_0 l0_0.length c0_0, .int .i64 a0_1] 64 (0, 0)) (by (with_reducible repeat (first | refine blk_drewN ?_ _ | refine blk_drew ?_ | refine blk_alloc ?_ _)); exact BK1069.out)) : gb1070 ≠ gb1069)); clear BK1069; clear HB; have BK1069 := n0_; have HB := n1_; have BK1070 := n2_; have GW1070 := n3_; have GE1070 := n4_; have NB1069_1070 := n5_; have NB1070_1069 := n6_; clear n0_ n1_ n2_ n3_ n4_ n5_ n6_; clear hb hbox hg; have hnb7 := NB1069_1070.out; have hnc7 := NB1070_1069.out; have hcz8_0 : w6.cell? ⟨gb1069, 0, none⟩ = some (.slice A0_0 l0_0.length c0_0) := (blk_cell BK1069.out 0).trans rfl; have hcz8_1 : w6.cell? ⟨gb1069, 1, none⟩ = some (.int .i64 a0_1) := (blk_cell BK1069.out 1).trans rfl; have hfz8_0 := blk_frozen BK1069.out 0; have hfz8_1 := blk_frozen BK1069.out 1) | ((with_reducible refine gate_callee (f := 276) rfl ?_); refine goesL_ (some 12) rfl rfl Try.func276 (by kernel_rfl) rfl #[.slice A0_0 l0_0.length c0_0] rfl (by (try simp only [List.map_toArray, List.map_cons, List.map_nil]); first | done | rfl | (simp only [List.length_drop, List.length_take]; rfl)) ?_; (with_reducible refine (slices_Clone_int_int.calls _ _ l0_0 t1071 _ ?side1 ?side2 A4.out).mono ?_); (case side1 => repeat (first | exact (Kd.C_below HR0_0.out HB.out) | (with_reducible refine Kd.C_alloc ?_ _) | (with_reducible refine Kd.C_drewN ?_ _) | (with_reducible refine Kd.C_drew ?_))); (case side2 => exact HC0_0.out); rintro e w9 ⟨v1072, rfl, ho0, hb⟩; refine ⟨_, rfl, ?_⟩; have n0_ := Aside0.mk (Kd.R_lower ho0 (below_size (by repeat (first | (with_reducible first | exact HB.out | apply below_alloc | apply pw_below_drewN | apply below_drew1 | refine below_set ?_ GE1069.out | refine below_set ?_ GE1070.out) | exact HB.out)))); have n1_ := Aside0.mk (blk_below (g := gb1069) (o := .cells #[.slice A0_0 l0_0.length c0_0, .int .i64 a0_1] 64 (0, 0)) (by (with_reducible repeat (first | refine blk_drewN ?_ _ | refine blk_drew ?_ | refine blk_alloc ?_ _)); exact BK1069.out) hb); have n2_ := Aside0.mk (blk_below (g := gb1070) (o := .cells #[.slice none 0 0, .int .i64 0] 64 (0, 0)) (by (with_reducible repeat (first | refine blk_drewN ?_ _ | refine blk_drew ?_ | refine blk_alloc ?_ _)); exact BK1070.out) hb); have n3_ := Aside0.mk (below_step (by repeat (first | (with_reducible first | exact HB.out | apply below_alloc | apply pw_below_drewN | apply below_drew1 | refine below_set ?_ GE1069.out | refine below_set ?_ GE1070.out) | exact HB.out)) hb); clear BK1069; clear BK1070; clear HB; have HO1073 := n0_; have BK1069 := n1_; have BK1070 := n2_; have HB := n3_; clear n0_ n1_ n2_ n3_; (try clear hb); (try clear hb2); (try clear hk); (try clear hi); (try clear ho0); obtain ⟨Ao10, co10, eo10⟩ := Kd.R_slice HO1073.out; subst eo10) | ((with_reducible refine gate_dst (N := 7) rfl ?_); refine box_event ?hg (N := 7) ?hd (cs := #[.slice none 0 0, .int .i64 0]) (t := 64) ?hr ?_; (case hd => rfl); (case hg => rfl); (case hr => first | (go_simp; done) | (go_simp; rfl)); intro gb1074 hg w11 hbox hb; have n0_ := Aside0.mk (Kd.R_below (by (with_reducible repeat (first | apply Kd.R_alloc | apply Kd.R_drewN | apply Kd.R_drew)); exact HO1073.out) hb); have n1_ := Aside0.mk (blk_below (g := gb1069) (o := .cells #[.slice A0_0 l0_0.length c0_0, .int .i64 a0_1] 64 (0, 0)) (by (with_reducible repeat (first | refine blk_drewN ?_ _ | refine blk_drew ?_ | refine blk_alloc ?_ _)); exact BK1069.out) hb); have n2_ := Aside0.mk (blk_below (g := gb1070) (o := .cells #[.slice none 0 0, .int .i64 0] 64 (0, 0)) (by (with_reducible repeat (first | refine blk_drewN ?_ _ | refine blk_drew ?_ | refine blk_alloc ?_ _)); exact BK1070.out) hb); have n3_ := Aside0.mk (below_step (by repeat (first | (with_reducible first | exact HB.out | apply below_alloc | apply pw_below_drewN | apply below_drew1 | refine below_set ?_ GE1069.out | refine below_set ?_ GE1070.out) | exact HB.out)) hb); have n4_ := Aside0.mk (hbox); have n5_ := Aside0.mk ((by rw [hg]; exact (below_size (by repeat (first | (with_reducible first | exact HB.out | apply below_alloc | apply pw_below_drewN | apply below_drew1 | refine below_set ?_ GE1069.out | refine below_set ?_ GE1070.out) | exact HB.out))) : w.heap.size ≤ gb1074)); have n6_ := Aside0.mk ((by rw [hg]; exact (below_size (by repeat (first | (with_reducible first | exact HB.out | apply below_alloc | apply pw_below_drewN | apply below_drew1 | refine below_set ?_ GE1069.out | refine below_set ?_ GE1070.out) | exact HB.out))) : w.heap.size ≤ gb1074)); have n7_ := Aside0.mk ((by rw [hg]; exact Nat.ne_of_lt (blk_lt (g := gb1069) (o := .cells #[.slice A0_0 l0_0.length c0_0, .int .i64 a0_1] 64 (0, 0)) (by (with_reducible repeat (first | refine blk_drewN ?_ _ | refine blk_drew ?_ | refine blk_alloc ?_ _)); exact BK1069.out)) : gb1069 ≠ gb1074)); have n8_ := Aside0.mk ((by rw [hg]; exact Nat.ne_of_gt (blk_lt (g := gb1069) (o := .cells #[.slice A0_0 l0_0.length c0_0, .int .i64 a0_1] 64 (0, 0)) (by (with_reducible repeat (first | refine blk_drewN ?_ _ | refine blk_drew ?_ | refine blk_alloc ?_ _)); exact BK1069.out)) : gb1074 ≠ gb1069)); have n9_ := Aside0.mk ((by rw [hg]; exact Nat.ne_of_lt (blk_lt (g := gb1070) (o := .cells #[.slice none 0 0, .int .i64 0] 64 (0, 0)) (by (with_reducible repeat (first | refine blk_drewN ?_ _ | refine blk_drew ?_ | refine blk_alloc ?_ _)); exact BK1070.out)) : gb1070 ≠ gb1074)); have n10_ := Aside0.mk ((by rw [hg]; exact Nat.ne_of_gt (blk_lt (g := gb1070) (o := .cells #[.slice none 0 0, .int .i64 0] 64 (0, 0)) (by (with_reducible repeat (first | refine blk_drewN ?_ _ | refine blk_drew ?_ | refine blk_alloc ?_ _)); exact BK1070.out)) : gb1074 ≠ gb1070)); clear HO1073; clear BK1069; clear BK1070; clear HB; have HO1073 := n0_; have BK1069 := n1_; have BK1070 := n2_; have HB := n3_; have BK1074 := n4_; have GW1074 := n5_; have GE1074 := n6_; have NB1069_1074 := n7_; have NB1074_1069 := n8_; have NB1070_1074 := n9_; have NB1074_1070 := n10_; clear n0_ n1_ n2_ n3_ n4_ n5_ n6_ n7_ n8_ n9_ n10_; clear hb hbox hg; have hnb12 := NB1074_1069.out; have hnc12 := NB1069_1074.out; have hnb13 := NB1074_1070.out; have hnc13 := NB1070_1074.out; have hcz14_0 : w11.cell? ⟨gb1074, 0, none⟩ = some (.slice none 0 0) := (blk_cell BK1074.out 0).trans rfl; have hcz14_1 : w11.cell? ⟨gb1074, 1, none⟩ = some (.int .i64 0) := (blk_cell BK1074.out 1).trans rfl; have hfz14_0 := blk_frozen BK1074.out 0; have hfz14_1 := blk_frozen BK1074.out 1))
 go_loopg [17] k (fun kq v17 w' => ∃ (x17_1 : Int) (x1075000_1 : List Int) (u1075000 : Value), v17 = .int .i64 x17_1 ∧ Aside0 (impl_Places_behind.l0 kq a1 l2 (l2.length : Int) x17_1 x1075000_1 a1 = some (r1, r2)) ∧ Aside0 (kq ≤ k) ∧ Aside0 (Kd.R (Kd.int .i64) 3 w' w.heap.size (fun _ => True) u1075000 x1075000_1) ∧ Aside0 (w'.heap[gb1069]? = some (.cells #[(.slice A0_0 l0_0.length c0_0), .int .i64 a0_1] 64 (0, 0))) ∧ Aside0 (w'.heap[gb1070]? = some (.cells #[(.slice none 0 0), .int .i64 0] 64 (0, 0))) ∧ Aside0 (w'.heap[gb1074]? = some (.cells #[u1075000, .int .i64 a1] 64 (0, 0))) ∧ Aside0 (Below w.heap.size w w'))
 case atStart => exact ⟨(0), (t1071), (.slice Ao10 t1071.length co10), (by first | rfl | (simp; done) | (simp [*]; done)), H', ⟨Nat.le_refl _⟩, ⟨by (with_reducible repeat (first | apply Kd.R_alloc | apply Kd.R_drewN | apply Kd.R_drew)); exact Kd.R_mono (Kd.R_far (p := ⟨gb1074, 1, none⟩) (Kd.R_far (p := ⟨gb1074, 0, none⟩) (Kd.R_types HO1073.out BK1074.out (by decide)) (fun _ hk => hk.2) (.slice Ao10 t1071.length co10)) (fun _ hk => hk.2) (.int .i64 a1)) (fun _ hk => trivial)⟩, ⟨by (with_reducible repeat (first | refine blk_drewN ?_ _ | refine blk_drew ?_ | refine blk_alloc ?_ _)); refine blk_far ?_ NB1069_1074.out _; (with_reducible repeat (first | refine blk_drewN ?_ _ | refine blk_drew ?_ | refine blk_alloc ?_ _)); refine blk_far ?_ NB1069_1074.out _; (with_reducible repeat (first | refine blk_drewN ?_ _ | refine blk_drew ?_ | refine blk_alloc ?_ _)); exact BK1069.out⟩, ⟨by (with_reducible repeat (first | refine blk_drewN ?_ _ | refine blk_drew ?_ | refine blk_alloc ?_ _)); refine blk_far ?_ NB1070_1074.out _; (with_reducible repeat (first | refine blk_drewN ?_ _ | refine blk_drew ?_ | refine blk_alloc ?_ _)); refine blk_far ?_ NB1070_1074.out _; (with_reducible repeat (first | refine blk_drewN ?_ _ | refine blk_drew ?_ | refine blk_alloc ?_ _)); exact BK1070.out⟩, ⟨by (with_reducible repeat (first | refine blk_drewN ?_ _ | refine blk_drew ?_ | refine blk_alloc ?_ _)); refine blk_put (cs := #[.slice Ao10 t1071.length co10, .int .i64 0]) ?_ 1 _ rfl; (with_reducible repeat (first | refine blk_drewN ?_ _ | refine blk_drew ?_ | refine blk_alloc ?_ _)); refine blk_put (cs := #[.slice none 0 0, .int .i64 0]) ?_ 0 _ rfl; (with_reducible repeat (first | refine blk_drewN ?_ _ | refine blk_drew ?_ | refine blk_alloc ?_ _)); exact BK1074.out⟩, ⟨by repeat (first | (with_reducible first | exact HB.out | apply below_alloc | apply pw_below_drewN | apply below_drew1 | refine below_set ?_ GE1069.out | refine below_set ?_ GE1070.out | refine below_set ?_ GE1074.out) | exact HB.out)⟩⟩
 case round =>
  clear H'
  try clear c1
  try clear c2
  try clear p2
  try clear c7
  try clear c12
  try clear c13
  try clear hcz14_0
  try clear hcz14_1
  try clear hcz8_0
  try clear hcz8_1
  try clear hfz14_0
  try clear hfz14_1
  try clear hfz8_0
  try clear hfz8_1
  obtain ⟨x17_1, x1075000_1, u1075000, rfl, HA, HK1, HO_1075000, BK1069, BK1070, BK1074, HB⟩ := hrel
  cases gk with
  | zero => exact absurd HA.out (by simp [impl_Places_behind.l0])
  | succ k1 =>
   have H := HA.out
   clear HA
   simp only [impl_Places_behind.l0] at H
   by_cases c15 : x17_1 < (l2.length : Int)
   ·rw [if_pos c15] at H
    have c15b0 : decide (x17_1 < (l2.length : Int)) = true := decide_eq_true c15
    clear c15
    by_cases c16 : 0 ≤ x17_1
    ·rw [if_pos c16] at H
     have c16b0 : decide (0 ≤ x17_1) = true := decide_eq_true c16
     clear c16
     by_cases c17 : x17_1 < (l2.length : Int)
     ·rw [if_pos c17] at H
      have c17b0 : decide (x17_1 < (l2.length : Int)) = true := decide_eq_true c17
      clear c17
      by_cases c18 : 0 ≤ (rd l2 x17_1)
      ·rw [if_pos c18] at H
       have c18b0 : decide (0 ≤ (rd l2 x17_1)) = true := decide_eq_true c18
       clear c18
       by_cases c19 : (rd l2 x17_1) < (x1075000_1.length : Int)
       ·rw [if_pos c19] at H
        have c19b0 : decide ((rd l2 x17_1) < (x1075000_1.length : Int)) = true := decide_eq_true c19
        clear c19
        obtain ⟨y1076, hy1076⟩ : ∃ y_ : List Int, y_ = (x1075000_1.set ((rd l2 x17_1) : Int).toNat a1) := ⟨_, rfl⟩
        replace H : (impl_Places_behind.l0 k1 a1 l2 (l2.length : Int) (wrap64 (x17_1 + 1)) y1076 a1) = some (r1, r2) := by first | (rw [hy1076]; with_reducible exact H) | (have H2_ := (Option.bind_some _ _).symm.trans H; rw [hy1076]; with_reducible exact H2_) | (have H2_ := (Option.bind_some _ _).symm.trans H; with_reducible exact H2_) | with_reducible exact H | (rw [hy1076]; exact H) | exact H
        have Ny1076 := Aside0.mk hy1076
        clear hy1076
        have H' := Aside0.mk H
        clear H
        have p1075 : 0 ≤ (x17_1 : Int) := of_decide_eq_true (by first | (with_reducible assumption) | assumption)
        have q1075 : x17_1 < (l2.length : Int) := of_decide_eq_true (by first | (with_reducible assumption) | assumption)
        obtain ⟨ad1075, e1075, hx1075_0⟩ := Kd.at_int HR2.out x17_1 p1075 q1075
        cases e1075
        replace hx1075_0 := (HB.out.cell (World.block_lt_of_cell? w _ hx1075_0)).trans hx1075_0
        replace p1075 := eq_true p1075
        replace q1075 := eq_true q1075
        have hnb21 := NB1074_1069.out
        have hnc21 := NB1069_1074.out
        have hnb22 := NB1074_1070.out
        have hnc22 := NB1070_1074.out
        have hcz23_0 : wr.cell? ⟨gb1074, 0, none⟩ = some (u1075000) := (blk_cell BK1074.out 0).trans rfl
        have hcz23_1 : wr.cell? ⟨gb1074, 1, none⟩ = some (.int .i64 a1) := (blk_cell BK1074.out 1).trans rfl
        have hfz23_0 := blk_frozen BK1074.out 0
        have hfz23_1 := blk_frozen BK1074.out 1
        have p20 : 0 ≤ ((rd l2 x17_1) : Int) := of_decide_eq_true (by first | (with_reducible assumption) | assumption)
        have q20 : ((rd l2 x17_1) : Int) < ((x1075000_1.length : Int) : Int) := of_decide_eq_true (by first | (with_reducible assumption) | assumption)
        obtain ⟨go20, co20, eo20, gb20, gl20, cl20, HG20⟩ := Kd.R_form HO_1075000.out (by omega)
        (first | cases eo20 | (injection eo20 with ea_ en_ ec_; (first | subst ea_ | (injection ea_ with ea_; subst ea_)); subst ec_; clear en_))
        have GB20 := Aside0.mk gb20
        have GG20 := Aside0.mk HG20
        clear gb20 gl20 HG20
        obtain ⟨hx20_0, hf20_0⟩ := Kd.R_celln 0 HO_1075000.out ((rd l2 x17_1) : Int) p20 q20
        replace p20 := eq_true p20
        replace q20 := eq_true q20
        have HP24 := Kd.R_putg HO_1075000.out ((rd l2 x17_1) : Int) a1
        go_wp2_with (first | ((with_reducible refine gate_store (t := 3) (p := 25) rfl ?_); refine store_event (t := 3) (p := 25) (v := ?vo_w25) (w1 := (wr.setCell ⟨go20, ((rd l2 x17_1) : Int).toNat, none⟩ (.int .i64 a1))) ?hg ?ho ?hn ?hr ?_; (case ho => rfl); (case hg => rfl); (case hn => rfl); (case hr => first | (go_simp; done) | (go_simp; rfl)); intro w25 hw; have hg : wr.grownBy w25 (some go20) := (by rw [hw]; exact HP24.2); have hp_ : Kd.R (Kd.int .i64) 3 w25 w.heap.size (fun _ => True) (.slice (some ⟨go20, 0, none⟩) x1075000_1.length co20) y1076 := (by rw [hw, Ny1076.out]; exact HP24.1); clear HP24; have n0_ := Aside0.mk (hp_); have n1_ := Aside0.mk (blk_grown (g := gb1069) (o := .cells #[.slice A0_0 l0_0.length c0_0, .int .i64 a0_1] 64 (0, 0)) (by (with_reducible repeat (first | refine blk_drewN ?_ _ | refine blk_drew ?_ | refine blk_alloc ?_ _)); exact BK1069.out) hg (Kd.R_ne HO_1075000.out BK1069.out (by decide))); have n2_ := Aside0.mk (blk_grown (g := gb1070) (o := .cells #[.slice none 0 0, .int .i64 0] 64 (0, 0)) (by (with_reducible repeat (first | refine blk_drewN ?_ _ | refine blk_drew ?_ | refine blk_alloc ?_ _)); exact BK1070.out) hg (Kd.R_ne HO_1075000.out BK1070.out (by decide))); have n3_ := Aside0.mk (blk_grown (g := gb1074) (o := .cells #[.slice (some ⟨go20, 0, none⟩) x1075000_1.length co20, .int .i64 a1] 64 (0, 0)) (by (with_reducible repeat (first | refine blk_drewN ?_ _ | refine blk_drew ?_ | refine blk_alloc ?_ _)); exact BK1074.out) hg (Kd.R_ne HO_1075000.out BK1074.out (by decide))); have n4_ := Aside0.mk ((by rw [hw]; exact below_set (HB.out) GB20.out : Below w.heap.size w w25)); clear HO_1075000; clear BK1069; clear BK1070; clear BK1074; clear HB; have HO_1075000 := n0_; have BK1069 := n1_; have BK1070 := n2_; have BK1074 := n3_; have HB := n4_; clear n0_ n1_ n2_ n3_ n4_; clear hg hw hp_))
        go_roundg k1
        case measure => have := HK1.out; omega
        case rel => exact ⟨(wrap64 (x17_1 + 1)), (y1076), (.slice (some ⟨go20, 0, none⟩) x1075000_1.length co20), (by first | rfl | (simp; done) | (simp [*]; done)), H', ⟨by have := HK1.out; omega⟩, ⟨by (with_reducible repeat (first | apply Kd.R_alloc | apply Kd.R_drewN | apply Kd.R_drew)); exact HO_1075000.out⟩, ⟨by (with_reducible repeat (first | refine blk_drewN ?_ _ | refine blk_drew ?_ | refine blk_alloc ?_ _)); exact BK1069.out⟩, ⟨by (with_reducible repeat (first | refine blk_drewN ?_ _ | refine blk_drew ?_ | refine blk_alloc ?_ _)); exact BK1070.out⟩, ⟨by (with_reducible repeat (first | refine blk_drewN ?_ _ | refine blk_drew ?_ | refine blk_alloc ?_ _)); exact BK1074.out⟩, ⟨by repeat (first | (with_reducible first | exact HB.out | apply below_alloc | apply pw_below_drewN | apply below_drew1 | refine below_set ?_ GE1069.out | refine below_set ?_ GE1070.out | refine below_set ?_ GE1074.out) | exact HB.out)⟩⟩
       ·rw [if_neg c19] at H
        exact absurd H (by simp)
      ·rw [if_neg c18] at H
       exact absurd H (by simp)
     ·rw [if_neg c17] at H
      exact absurd H (by simp)
    ·rw [if_neg c16] at H
     exact absurd H (by simp)
   ·rw [if_neg c15] at H
    have c15b0 : decide (x17_1 < (l2.length : Int)) = false := decide_eq_false c15
    clear c15
    simp only [Option.some.injEq, Prod.mk.injEq] at H
    obtain ⟨rfl, rfl⟩ := H
    have hnb26 := NB1074_1069.out
    have hnc26 := NB1069_1074.out
    have hnb27 := NB1074_1070.out
    have hnc27 := NB1070_1074.out
    have hcz28_0 : wr.cell? ⟨gb1074, 0, none⟩ = some (u1075000) := (blk_cell BK1074.out 0).trans rfl
    have hcz28_1 : wr.cell? ⟨gb1074, 1, none⟩ = some (.int .i64 a1) := (blk_cell BK1074.out 1).trans rfl
    have hfz28_0 := blk_frozen BK1074.out 0
    have hfz28_1 := blk_frozen BK1074.out 1
    obtain ⟨Ao29, co29, eo29⟩ := Kd.R_slice HO_1075000.out
    subst eo29
    have hnb30 := NB1070_1069.out
    have hnc30 := NB1069_1070.out
    have hcz31_0 : wr.cell? ⟨gb1070, 0, none⟩ = some (.slice none 0 0) := (blk_cell BK1070.out 0).trans rfl
    have hcz31_1 : wr.cell? ⟨gb1070, 1, none⟩ = some (.int .i64 0) := (blk_cell BK1070.out 1).trans rfl
    have hfz31_0 := blk_frozen BK1070.out 0
    have hfz31_1 := blk_frozen BK1070.out 1
    go_wp2
    refine bodyPost_ret (results_cell_row rfl _ _ gb1070 64 #[.slice Ao29 x1075000_1.length co29, .int .i64 a1] (0, 0) _ rfl (by (with_reducible repeat (first | refine blk_drewN ?_ _ | refine blk_drew ?_ | refine blk_alloc ?_ _)); refine blk_put (cs := #[.slice Ao29 x1075000_1.length co29, .int .i64 0]) ?_ 1 _ rfl; (with_reducible repeat (first | refine blk_drewN ?_ _ | refine blk_drew ?_ | refine blk_alloc ?_ _)); refine blk_put (cs := #[.slice none 0 0, .int .i64 0]) ?_ 0 _ rfl; (with_reducible repeat (first | refine blk_drewN ?_ _ | refine blk_drew ?_ | refine blk_alloc ?_ _)); exact BK1070.out) Try.underlying64 rfl (by kernel_rfl)) rfl ?_
    exact ⟨_, by first | rfl | (simp [errW_none, errW_some] <;> rfl) | (simp [*, errW_none, errW_some] <;> rfl), by (with_reducible repeat (first | apply Kd.R_alloc | apply Kd.R_drewN | apply Kd.R_drew)); exact Kd.R_mono (Kd.R_far (p := ⟨gb1070, 1, none⟩) (Kd.R_far (p := ⟨gb1070, 0, none⟩) (Kd.R_types HO_1075000.out BK1070.out (by decide)) (fun _ hk => hk.2) (.slice Ao29 x1075000_1.length co29)) (fun _ hk => hk.2) (.int .i64 a1)) (fun _ hk => trivial), by repeat (first | (with_reducible first | exact HB.out | apply below_alloc | apply pw_below_drewN | apply below_drew1 | refine below_set ?_ GE1069.out | refine below_set ?_ GE1070.out | refine below_set ?_ GE1074.out) | exact HB.out)⟩
end Go.Proofs.Ytlkjglanglpdoaa.T
namespace Go.Proofs.Ytlkjglanglpdoaa.T
open Go.RowKit Go.Proofs.YtlkjglanglpdoaaW.PrintWords Go.Proofs.YtlkjglanglpdoaaW.PrintLast Go.Proofs.YtlkjglanglpdoaaW.PrintMore
attribute [local go_sem] max2_int min2_int max_two min_two max_three min_three max_four min_four
set_option linter.unusedVariables false
set_option linter.unusedSimpArgs false
def impl_Isles_people.f (a0_0 : Int) (a0_1 : Int) (a0_2 : Int) : Option (Int) := some (wrap64 (2 * a0_0))
set_option maxHeartbeats 8000000 in
set_option maxRecDepth 100000 in
theorem impl_Isles_people.calls (a0_0 : Int) (a0_1 : Int) (a0_2 : Int) (r : Int) (w : World) (h : impl_Isles_people.f a0_0 a0_1 a0_2 = some r) :
  Calls Try.prog 274 #[.agg #[.int .i64 a0_0, .int .i64 a0_1, .int .i64 a0_2]] w fun e w' => e = .returned (.int .i64 r) ∧ Below w.heap.size w w' := by
 have hu39 := Try.underlying39
 have HB := Aside0.mk (Below.refl w.heap.size w)
 have H : (some (wrap64 (2 * a0_0))) = some r := h
 clear h
 obtain rfl := Option.some.inj H
 go_enter Try.func274, Try.ntmps274
 go_wp2_with (first | ((with_reducible refine gate_dst (N := 1) rfl ?_); refine box_event ?hg (N := 1) ?hd (cs := #[.int .i64 a0_0, .int .i64 a0_1, .int .i64 a0_2]) (t := 39) ?hr ?_; (case hd => rfl); (case hg => rfl); (case hr => first | (go_simp; done) | (go_simp; rfl)); intro gb995 hg w2 hbox hb; have n0_ := Aside0.mk (below_step (by repeat (first | (with_reducible first | exact HB.out | apply below_alloc | apply pw_below_drewN | apply below_drew1) | exact HB.out)) hb); have n1_ := Aside0.mk (hbox); have n2_ := Aside0.mk ((by rw [hg]; exact (below_size (by repeat (first | (with_reducible first | exact HB.out | apply below_alloc | apply pw_below_drewN | apply below_drew1) | exact HB.out))) : w.heap.size ≤ gb995)); have n3_ := Aside0.mk ((by rw [hg]; exact (below_size (by repeat (first | (with_reducible first | exact HB.out | apply below_alloc | apply pw_below_drewN | apply below_drew1) | exact HB.out))) : w.heap.size ≤ gb995)); clear HB; have HB := n0_; have BK995 := n1_; have GW995 := n2_; have GE995 := n3_; clear n0_ n1_ n2_ n3_; clear hb hbox hg; have hcz3_0 : w2.cell? ⟨gb995, 0, none⟩ = some (.int .i64 a0_0) := (blk_cell BK995.out 0).trans rfl; have hcz3_1 : w2.cell? ⟨gb995, 1, none⟩ = some (.int .i64 a0_1) := (blk_cell BK995.out 1).trans rfl; have hcz3_2 : w2.cell? ⟨gb995, 2, none⟩ = some (.int .i64 a0_2) := (blk_cell BK995.out 2).trans rfl; have hfz3_0 := blk_frozen BK995.out 0; have hfz3_1 := blk_frozen BK995.out 1; have hfz3_2 := blk_frozen BK995.out 2))
 go_ret
 exact ⟨by first | rfl | (simp [errW_none, errW_some] <;> rfl) | (simp [*, errW_none, errW_some] <;> rfl), by repeat (first | (with_reducible first | exact HB.out | apply below_alloc | apply pw_below_drewN | apply below_drew1 | refine below_set ?_ GE995.out) | exact HB.out)⟩
end Go.Proofs.Ytlkjglanglpdoaa.T
namespace Go.Proofs.Ytlkjglanglpdoaa.T
open Go.RowKit Go.Proofs.YtlkjglanglpdoaaW.PrintWords Go.Proofs.YtlkjglanglpdoaaW.PrintLast Go.Proofs.YtlkjglanglpdoaaW.PrintMore
attribute [local go_sem] max2_int min2_int max_two min_two max_three min_three max_four min_four
set_option linter.unusedVariables false
set_option linter.unusedSimpArgs false
def impl_Isles_places.l0 : Nat → Int → Int → List Int → Int → Option (List Int × Int)
 | 0, _, _, _, _ => none
 | k + 1, x1, x6, x2587000, x2587001 => if x6 ≥ 0 then (if 0 ≤ x6 then (if x6 < (x2587000.length : Int) then (impl_Isles_places.l0 k (wrap64 (Int.tdiv x1 4)) (wrap64 (x6 - 1)) (x2587000.set (x6 : Int).toNat (Int.tmod x1 4)) x2587001) else (none)) else (none)) else (some (x2587000, x1))
def impl_Isles_places.f (k : Nat) (a0_0 : Int) (a0_1 : Int) (a0_2 : Int) (a1 : Int) : Option (List Int × Int) := (impl_Isles_people.f a0_0 a0_1 a0_2).bind fun t2582 => (if 0 ≤ t2582 then (if (t2582 : Int).toNat ≤ 35184372088832 then ((impl_Isles_people.f a0_0 a0_1 a0_2).bind fun t2587 => (impl_Isles_places.l0 k a1 (wrap64 (t2587 - 1)) (List.replicate (t2582 : Int).toNat 0) 0)) else (none)) else (none))
theorem impl_Isles_places.mono_l : ∀ k, (∀ y0 y1 y2 y3, LeO (impl_Isles_places.l0 k y0 y1 y2 y3) (impl_Isles_places.l0 (k + 1) y0 y1 y2 y3))
 | 0 => fun _ _ _ _ r h => by simp [impl_Isles_places.l0] at h
 | k + 1 => by
  have ih0 := impl_Isles_places.mono_l k
  ·intro y0 y1 y2 y3
   unfold impl_Isles_places.l0
   repeat' first
   | (with_reducible exact ih0 _ _ _ _)
   | (with_reducible exact LeO.refl _)
   | (with_reducible exact LeO.none _)
   | (with_reducible refine LeO.ite ?_ ?_)
   | (with_reducible refine LeO.bind ?_ (fun _ => ?_))
   | exact ih0 _ _ _ _
   | exact LeO.none _
   | refine LeO.ite ?_ ?_
   | refine LeO.bind ?_ (fun _ => ?_)
theorem impl_Isles_places.mono : ∀ a0 a1 a2 a3 k, LeO (impl_Isles_places.f k a0 a1 a2 a3) (impl_Isles_places.f (k + 1) a0 a1 a2 a3) := by
 intro a0 a1 a2 a3 k
 have ih0 := impl_Isles_places.mono_l k
 unfold impl_Isles_places.f
 repeat' first
   | (with_reducible exact ih0 _ _ _ _)
   | (with_reducible exact LeO.refl _)
   | (with_reducible exact LeO.none _)
   | (with_reducible refine LeO.ite ?_ ?_)
   | (with_reducible refine LeO.bind ?_ (fun _ => ?_))
   | exact ih0 _ _ _ _
   | exact LeO.none _
   | refine LeO.ite ?_ ?_
   | refine LeO.bind ?_ (fun _ => ?_)
set_option maxHeartbeats 8000000 in
set_option maxRecDepth 100000 in
theorem impl_Isles_places.calls (k : Nat) (a0_0 : Int) (a0_1 : Int) (a0_2 : Int) (a1 : Int) (r1 : List Int) (r2 : Int) (w : World) (h : impl_Isles_places.f k a0_0 a0_1 a0_2 a1 = some (r1, r2)) :
  Calls Try.prog 253 #[.agg #[.int .i64 a0_0, .int .i64 a0_1, .int .i64 a0_2], .int .i64 a1] w fun e w' => ∃ v0_ : Value, e = .returned (.agg #[v0_, .int .i64 r2]) ∧ Kd.R (Kd.int .i64) 3 w' w.heap.size (fun _ => True) v0_ r1 ∧ Below w.heap.size w w' := by
 have hu39 := Try.underlying39
 have hu64 := Try.underlying64
 have HB := Aside0.mk (Below.refl w.heap.size w)
 have H : ((impl_Isles_people.f a0_0 a0_1 a0_2).bind fun t2582 => (if 0 ≤ t2582 then (if (t2582 : Int).toNat ≤ 35184372088832 then ((impl_Isles_people.f a0_0 a0_1 a0_2).bind fun t2587 => (impl_Isles_places.l0 k a1 (wrap64 (t2587 - 1)) (List.replicate (t2582 : Int).toNat 0) 0)) else (none)) else (none))) = some (r1, r2) := h
 clear h
 replace H := Option.bind_eq_some_iff.mp H
 obtain ⟨t2582, A30, H⟩ := H
 replace H : (if 0 ≤ t2582 then (if (t2582 : Int).toNat ≤ 35184372088832 then ((impl_Isles_people.f a0_0 a0_1 a0_2).bind fun t2587 => (impl_Isles_places.l0 k a1 (wrap64 (t2587 - 1)) (List.replicate (t2582 : Int).toNat 0) 0)) else (none)) else (none)) = some (r1, r2) := H
 have A3 := Aside0.mk A30
 clear A30
 by_cases c4 : 0 ≤ t2582
 ·rw [if_pos c4] at H
  have c4b0 := eq_true c4
  have c4b1 : decide (0 ≤ t2582) = true := decide_eq_true c4
  clear c4
  by_cases c5 : (t2582 : Int).toNat ≤ 35184372088832
  ·rw [if_pos c5] at H
   have c5b0 := eq_true c5
   have c5b1 : decide ((t2582 : Int).toNat ≤ 35184372088832) = true := decide_eq_true c5
   clear c5
   obtain ⟨y2583, hy2583⟩ : ∃ y_ : List Int, y_ = (List.replicate (t2582 : Int).toNat 0) := ⟨_, rfl⟩
   replace H : ((impl_Isles_people.f a0_0 a0_1 a0_2).bind fun t2587 => (impl_Isles_places.l0 k a1 (wrap64 (t2587 - 1)) y2583 0)) = some (r1, r2) := by first | (rw [hy2583]; with_reducible exact H) | (have H2_ := (Option.bind_some _ _).symm.trans H; rw [hy2583]; with_reducible exact H2_) | (have H2_ := (Option.bind_some _ _).symm.trans H; with_reducible exact H2_) | with_reducible exact H | (rw [hy2583]; exact H) | exact H
   have Ny2583 := Aside0.mk hy2583
   clear hy2583
   replace H := Option.bind_eq_some_iff.mp H
   obtain ⟨t2587, A60, H⟩ := H
   replace H : (impl_Isles_places.l0 k a1 (wrap64 (t2587 - 1)) y2583 0) = some (r1, r2) := H
   have A6 := Aside0.mk A60
   clear A60
   have H' := Aside0.mk H
   clear H
   go_enter Try.func253, Try.ntmps253
   go_wp2_with (first | ((with_reducible refine gate_dst (N := 2) rfl ?_); refine box_event ?hg (N := 2) ?hd (cs := #[.int .i64 a0_0, .int .i64 a0_1, .int .i64 a0_2]) (t := 39) ?hr ?_; (case hd => rfl); (case hg => rfl); (case hr => first | (go_simp; done) | (go_simp; rfl)); intro gb2580 hg w7 hbox hb; have n0_ := Aside0.mk (below_step (by repeat (first | (with_reducible first | exact HB.out | apply below_alloc | apply pw_below_drewN | apply below_drew1) | exact HB.out)) hb); have n1_ := Aside0.mk (hbox); have n2_ := Aside0.mk ((by rw [hg]; exact (below_size (by repeat (first | (with_reducible first | exact HB.out | apply below_alloc | apply pw_below_drewN | apply below_drew1) | exact HB.out))) : w.heap.size ≤ gb2580)); have n3_ := Aside0.mk ((by rw [hg]; exact (below_size (by repeat (first | (with_reducible first | exact HB.out | apply below_alloc | apply pw_below_drewN | apply below_drew1) | exact HB.out))) : w.heap.size ≤ gb2580)); clear HB; have HB := n0_; have BK2580 := n1_; have GW2580 := n2_; have GE2580 := n3_; clear n0_ n1_ n2_ n3_; clear hb hbox hg) | ((with_reducible refine gate_dst (N := 4) rfl ?_); refine box_event ?hg (N := 4) ?hd (cs := #[.slice none 0 0, .int .i64 0]) (t := 64) ?hr ?_; (case hd => rfl); (case hg => rfl); (case hr => first | (go_simp; done) | (go_simp; rfl)); intro gb2581 hg w8 hbox hb; have n0_ := Aside0.mk (blk_below (g := gb2580) (o := .cells #[.int .i64 a0_0, .int .i64 a0_1, .int .i64 a0_2] 39 (0, 0)) (by (with_reducible repeat (first | refine blk_drewN ?_ _ | refine blk_drew ?_ | refine blk_alloc ?_ _)); exact BK2580.out) hb); have n1_ := Aside0.mk (below_step (by repeat (first | (with_reducible first | exact HB.out | apply below_alloc | apply pw_below_drewN | apply below_drew1 | refine below_set ?_ GE2580.out) | exact HB.out)) hb); have n2_ := Aside0.mk (hbox); have n3_ := Aside0.mk ((by rw [hg]; exact (below_size (by repeat (first | (with_reducible first | exact HB.out | apply below_alloc | apply pw_below_drewN | apply below_drew1 | refine below_set ?_ GE2580.out) | exact HB.out))) : w.heap.size ≤ gb2581)); have n4_ := Aside0.mk ((by rw [hg]; exact (below_size (by repeat (first | (with_reducible first | exact HB.out | apply below_alloc | apply pw_below_drewN | apply below_drew1 | refine below_set ?_ GE2580.out) | exact HB.out))) : w.heap.size ≤ gb2581)); have n5_ := Aside0.mk ((by rw [hg]; exact Nat.ne_of_lt (blk_lt (g := gb2580) (o := .cells #[.int .i64 a0_0, .int .i64 a0_1, .int .i64 a0_2] 39 (0, 0)) (by (with_reducible repeat (first | refine blk_drewN ?_ _ | refine blk_drew ?_ | refine blk_alloc ?_ _)); exact BK2580.out)) : gb2580 ≠ gb2581)); have n6_ := Aside0.mk ((by rw [hg]; exact Nat.ne_of_gt (blk_lt (g := gb2580) (o := .cells #[.int .i64 a0_0, .int .i64 a0_1, .int .i64 a0_2] 39 (0, 0)) (by (with_reducible repeat (first | refine blk_drewN ?_ _ | refine blk_drew ?_ | refine blk_alloc ?_ _)); exact BK2580.out)) : gb2581 ≠ gb2580)); clear BK2580; clear HB; have BK2580 := n0_; have HB := n1_; have BK2581 := n2_; have GW2581 := n3_; have GE2581 := n4_; have NB2580_2581 := n5_; have NB2581_2580 := n6_; clear n0_ n1_ n2_ n3_ n4_ n5_ n6_; clear hb hbox hg; have hnb9 := NB2580_2581.out; have hnc9 := NB2581_2580.out; have hcz10_0 : w8.cell? ⟨gb2580, 0, none⟩ = some (.int .i64 a0_0) := (blk_cell BK2580.out 0).trans rfl; have hcz10_1 : w8.cell? ⟨gb2580, 1, none⟩ = some (.int .i64 a0_1) := (blk_cell BK2580.out 1).trans rfl; have hcz10_2 : w8.cell? ⟨gb2580, 2, none⟩ = some (.int .i64 a0_2) := (blk_cell BK2580.out 2).trans rfl; have hfz10_0 := blk_frozen BK2580.out 0; have hfz10_1 := blk_frozen BK2580.out 1; have hfz10_2 := blk_frozen BK2580.out 2) | ((with_reducible refine gate_callee (f := 274) rfl ?_); refine goesL_ (some 8) rfl rfl Try.func274 (by kernel_rfl) rfl #[.agg #[.int .i64 a0_0, .int .i64 a0_1, .int .i64 a0_2]] rfl (by (try simp only [List.map_toArray, List.map_cons, List.map_nil]); first | done | rfl | (simp only [List.length_drop, List.length_take]; rfl)) ?_; (with_reducible refine (impl_Isles_people.calls a0_0 a0_1 a0_2 t2582 _ A3.out).mono ?_); rintro e w11 ⟨rfl, hb⟩; refine ⟨_, rfl, ?_⟩; have n0_ := Aside0.mk (blk_below (g := gb2580) (o := .cells #[.int .i64 a0_0, .int .i64 a0_1, .int .i64 a0_2] 39 (0, 0)) (by (with_reducible repeat (first | refine blk_drewN ?_ _ | refine blk_drew ?_ | refine blk_alloc ?_ _)); exact BK2580.out) hb); have n1_ := Aside0.mk (blk_below (g := gb2581) (o := .cells #[.slice none 0 0, .int .i64 0] 64 (0, 0)) (by (with_reducible repeat (first | refine blk_drewN ?_ _ | refine blk_drew ?_ | refine blk_alloc ?_ _)); exact BK2581.out) hb); have n2_ := Aside0.mk (below_step (by repeat (first | (with_reducible first | exact HB.out | apply below_alloc | apply pw_below_drewN | apply below_drew1 | refine below_set ?_ GE2580.out | refine below_set ?_ GE2581.out) | exact HB.out)) hb); clear BK2580; clear BK2581; clear HB; have BK2580 := n0_; have BK2581 := n1_; have HB := n2_; clear n0_ n1_ n2_; (try clear hb); (try clear hb2); (try clear hk); (try clear hi)) | ((with_reducible refine gate_dst (N := 9) rfl ?_); refine Kd.R_make (Kd.int .i64) _ 3 rfl (N := 9) rfl 32 _ _ rfl t2582 rfl rfl Try.underlying32 (.int .i64 0) 8 info3 rfl (by decide) (by omega) 0 (ok := fun _ => True) (okp := fun _ => True) rfl (fun _ hk => hk) trivial (of_decide_eq_true (by first | (with_reducible assumption) | assumption)) (Nat.le_trans (Nat.mul_le_mul_right _ (of_decide_eq_true (by first | (with_reducible assumption) | assumption) : t2582.toNat ≤ 35184372088832)) (by omega)) (Below.refl _ _) (Nat.le_refl _) ?_; intro v2584 w12 ho13 hb hg_ hnew_; clear hg_ hnew_; (first | rw [← Ny2583.out] at ho13 | (simp only [Int.reduceToNat] at ho13; rw [← Ny2583.out] at ho13)); have n0_ := Aside0.mk (Kd.R_lower ho13 (below_size (by repeat (first | (with_reducible first | exact HB.out | apply below_alloc | apply pw_below_drewN | apply below_drew1 | refine below_set ?_ GE2580.out | refine below_set ?_ GE2581.out) | exact HB.out)))); have n1_ := Aside0.mk (blk_below (g := gb2580) (o := .cells #[.int .i64 a0_0, .int .i64 a0_1, .int .i64 a0_2] 39 (0, 0)) (by (with_reducible repeat (first | refine blk_drewN ?_ _ | refine blk_drew ?_ | refine blk_alloc ?_ _)); exact BK2580.out) hb); have n2_ := Aside0.mk (blk_below (g := gb2581) (o := .cells #[.slice none 0 0, .int .i64 0] 64 (0, 0)) (by (with_reducible repeat (first | refine blk_drewN ?_ _ | refine blk_drew ?_ | refine blk_alloc ?_ _)); exact BK2581.out) hb); have n3_ := Aside0.mk (below_step (by repeat (first | (with_reducible first | exact HB.out | apply below_alloc | apply pw_below_drewN | apply below_drew1 | refine below_set ?_ GE2580.out | refine below_set ?_ GE2581.out) | exact HB.out)) hb); clear BK2580; clear BK2581; clear HB; have HO2585 := n0_; have BK2580 := n1_; have BK2581 := n2_; have HB := n3_; clear n0_ n1_ n2_ n3_; clear hb ho13; obtain ⟨Ao14, co14, eo14⟩ := Kd.R_slice HO2585.out; subst eo14) | ((with_reducible refine gate_dst (N := 5) rfl ?_); refine box_event ?hg (N := 5) ?hd (cs := #[.slice none 0 0, .int .i64 0]) (t := 64) ?hr ?_; (case hd => rfl); (case hg => rfl); (case hr => first | (go_simp; done) | (go_simp; rfl)); intro gb2586 hg w15 hbox hb; have n0_ := Aside0.mk (Kd.R_below (by (with_reducible repeat (first | apply Kd.R_alloc | apply Kd.R_drewN | apply Kd.R_drew)); exact HO2585.out) hb); have n1_ := Aside0.mk (blk_below (g := gb2580) (o := .cells #[.int .i64 a0_0, .int .i64 a0_1, .int .i64 a0_2] 39 (0, 0)) (by (with_reducible repeat (first | refine blk_drewN ?_ _ | refine blk_drew ?_ | refine blk_alloc ?_ _)); exact BK2580.out) hb); have n2_ := Aside0.mk (blk_below (g := gb2581) (o := .cells #[.slice none 0 0, .int .i64 0] 64 (0, 0)) (by (with_reducible repeat (first | refine blk_drewN ?_ _ | refine blk_drew ?_ | refine blk_alloc ?_ _)); exact BK2581.out) hb); have n3_ := Aside0.mk (below_step (by repeat (first | (with_reducible first | exact HB.out | apply below_alloc | apply pw_below_drewN | apply below_drew1 | refine below_set ?_ GE2580.out | refine below_set ?_ GE2581.out) | exact HB.out)) hb); have n4_ := Aside0.mk (hbox); have n5_ := Aside0.mk ((by rw [hg]; exact (below_size (by repeat (first | (with_reducible first | exact HB.out | apply below_alloc | apply pw_below_drewN | apply below_drew1 | refine below_set ?_ GE2580.out | refine below_set ?_ GE2581.out) | exact HB.out))) : w.heap.size ≤ gb2586)); have n6_ := Aside0.mk ((by rw [hg]; exact (below_size (by repeat (first | (with_reducible first | exact HB.out | apply below_alloc | apply pw_below_drewN | apply below_drew1 | refine below_set ?_ GE2580.out | refine below_set ?_ GE2581.out) | exact HB.out))) : w.heap.size ≤ gb2586)); have n7_ := Aside0.mk ((by rw [hg]; exact Nat.ne_of_lt (blk_lt (g := gb2580) (o := .cells #[.int .i64 a0_0, .int .i64 a0_1, .int .i64 a0_2] 39 (0, 0)) (by (with_reducible repeat (first | refine blk_drewN ?_ _ | refine blk_drew ?_ | refine blk_alloc ?_ _)); exact BK2580.out)) : gb2580 ≠ gb2586)); have n8_ := Aside0.mk ((by rw [hg]; exact Nat.ne_of_gt (blk_lt (g := gb2580) (o := .cells #[.int .i64 a0_0, .int .i64 a0_1, .int .i64 a0_2] 39 (0, 0)) (by (with_reducible repeat (first | refine blk_drewN ?_ _ | refine blk_drew ?_ | refine blk_alloc ?_ _)); exact BK2580.out)) : gb2586 ≠ gb2580)); have n9_ := Aside0.mk ((by rw [hg]; exact Nat.ne_of_lt (blk_lt (g := gb2581) (o := .cells #[.slice none 0 0, .int .i64 0] 64 (0, 0)) (by (with_reducible repeat (first | refine blk_drewN ?_ _ | refine blk_drew ?_ | refine blk_alloc ?_ _)); exact BK2581.out)) : gb2581 ≠ gb2586)); have n10_ := Aside0.mk ((by rw [hg]; exact Nat.ne_of_gt (blk_lt (g := gb2581) (o := .cells #[.slice none 0 0, .int .i64 0] 64 (0, 0)) (by (with_reducible repeat (first | refine blk_drewN ?_ _ | refine blk_drew ?_ | refine blk_alloc ?_ _)); exact BK2581.out)) : gb2586 ≠ gb2581)); clear HO2585; clear BK2580; clear BK2581; clear HB; have HO2585 := n0_; have BK2580 := n1_; have BK2581 := n2_; have HB := n3_; have BK2586 := n4_; have GW2586 := n5_; have GE2586 := n6_; have NB2580_2586 := n7_; have NB2586_2580 := n8_; have NB2581_2586 := n9_; have NB2586_2581 := n10_; clear n0_ n1_ n2_ n3_ n4_ n5_ n6_ n7_ n8_ n9_ n10_; clear hb hbox hg; have hnb16 := NB2586_2580.out; have hnc16 := NB2580_2586.out; have hnb17 := NB2586_2581.out; have hnc17 := NB2581_2586.out; have hcz18_0 : w15.cell? ⟨gb2586, 0, none⟩ = some (.slice none 0 0) := (blk_cell BK2586.out 0).trans rfl; have hcz18_1 : w15.cell? ⟨gb2586, 1, none⟩ = some (.int .i64 0) := (blk_cell BK2586.out 1).trans rfl; have hfz18_0 := blk_frozen BK2586.out 0; have hfz18_1 := blk_frozen BK2586.out 1; have hcz19_0 : w15.cell? ⟨gb2580, 0, none⟩ = some (.int .i64 a0_0) := (blk_cell BK2580.out 0).trans rfl; have hcz19_1 : w15.cell? ⟨gb2580, 1, none⟩ = some (.int .i64 a0_1) := (blk_cell BK2580.out 1).trans rfl; have hcz19_2 : w15.cell? ⟨gb2580, 2, none⟩ = some (.int .i64 a0_2) := (blk_cell BK2580.out 2).trans rfl; have hfz19_0 := blk_frozen BK2580.out 0; have hfz19_1 := blk_frozen BK2580.out 1; have hfz19_2 := blk_frozen BK2580.out 2) | ((with_reducible refine gate_callee (f := 274) rfl ?_); refine goesL_ (some 12) rfl rfl Try.func274 (by kernel_rfl) rfl #[.agg #[.int .i64 a0_0, .int .i64 a0_1, .int .i64 a0_2]] rfl (by (try simp only [List.map_toArray, List.map_cons, List.map_nil]); first | done | rfl | (simp only [List.length_drop, List.length_take]; rfl)) ?_; (with_reducible refine (impl_Isles_people.calls a0_0 a0_1 a0_2 t2587 _ A6.out).mono ?_); rintro e w20 ⟨rfl, hb⟩; refine ⟨_, rfl, ?_⟩; have n0_ := Aside0.mk (Kd.R_below (by (with_reducible repeat (first | apply Kd.R_alloc | apply Kd.R_drewN | apply Kd.R_drew)); exact (Kd.R_mono (Kd.R_far (p := ⟨gb2586, 1, none⟩) (Kd.R_far (p := ⟨gb2586, 0, none⟩) (Kd.R_types HO2585.out BK2586.out (by decide)) (fun _ hk => hk.2) (.slice Ao14 y2583.length co14)) (fun _ hk => hk.2) (.int .i64 0)) (fun _ h_ => h_.1))) hb); have n1_ := Aside0.mk (blk_below (g := gb2580) (o := .cells #[.int .i64 a0_0, .int .i64 a0_1, .int .i64 a0_2] 39 (0, 0)) (by (with_reducible repeat (first | refine blk_drewN ?_ _ | refine blk_drew ?_ | refine blk_alloc ?_ _)); refine blk_far ?_ NB2580_2586.out _; (with_reducible repeat (first | refine blk_drewN ?_ _ | refine blk_drew ?_ | refine blk_alloc ?_ _)); refine blk_far ?_ NB2580_2586.out _; (with_reducible repeat (first | refine blk_drewN ?_ _ | refine blk_drew ?_ | refine blk_alloc ?_ _)); exact BK2580.out) hb); have n2_ := Aside0.mk (blk_below (g := gb2581) (o := .cells #[.slice none 0 0, .int .i64 0] 64 (0, 0)) (by (with_reducible repeat (first | refine blk_drewN ?_ _ | refine blk_drew ?_ | refine blk_alloc ?_ _)); refine blk_far ?_ NB2581_2586.out _; (with_reducible repeat (first | refine blk_drewN ?_ _ | refine blk_drew ?_ | refine blk_alloc ?_ _)); refine blk_far ?_ NB2581_2586.out _; (with_reducible repeat (first | refine blk_drewN ?_ _ | refine blk_drew ?_ | refine blk_alloc ?_ _)); exact BK2581.out) hb); have n3_ := Aside0.mk (blk_below (g := gb2586) (o := .cells #[.slice Ao14 y2583.length co14, .int .i64 0] 64 (0, 0)) (by (with_reducible repeat (first | refine blk_drewN ?_ _ | refine blk_drew ?_ | refine blk_alloc ?_ _)); refine blk_put (cs := #[.slice Ao14 y2583.length co14, .int .i64 0]) ?_ 1 _ rfl; (with_reducible repeat (first | refine blk_drewN ?_ _ | refine blk_drew ?_ | refine blk_alloc ?_ _)); refine blk_put (cs := #[.slice none 0 0, .int .i64 0]) ?_ 0 _ rfl; (with_reducible repeat (first | refine blk_drewN ?_ _ | refine blk_drew ?_ | refine blk_alloc ?_ _)); exact BK2586.out) hb); have n4_ := Aside0.mk (below_step (by repeat (first | (with_reducible first | exact HB.out | apply below_alloc | apply pw_below_drewN | apply below_drew1 | refine below_set ?_ GE2580.out | refine below_set ?_ GE2581.out | refine below_set ?_ GE2586.out) | exact HB.out)) hb); clear HO2585; clear BK2580; clear BK2581; clear BK2586; clear HB; have HO2585 := n0_; have BK2580 := n1_; have BK2581 := n2_; have BK2586 := n3_; have HB := n4_; clear n0_ n1_ n2_ n3_ n4_; (try clear hb); (try clear hb2); (try clear hk); (try clear hi)))
   go_loopg [1, 6] k (fun kq v1 v6 w' => ∃ (x1_1 : Int) (x6_1 : Int) (x2587000_1 : List Int) (u2587000 : Value), v1 = .int .i64 x1_1 ∧ v6 = .int .i64 x6_1 ∧ Aside0 (impl_Isles_places.l0 kq x1_1 x6_1 x2587000_1 0 = some (r1, r2)) ∧ Aside0 (kq ≤ k) ∧ Aside0 (Kd.R (Kd.int .i64) 3 w' w.heap.size (fun _ => True) u2587000 x2587000_1) ∧ Aside0 (w'.heap[gb2580]? = some (.cells #[.int .i64 a0_0, .int .i64 a0_1, .int .i64 a0_2] 39 (0, 0))) ∧ Aside0 (w'.heap[gb2581]? = some (.cells #[(.slice none 0 0), .int .i64 0] 64 (0, 0))) ∧ Aside0 (w'.heap[gb2586]? = some (.cells #[u2587000, .int .i64 0] 64 (0, 0))) ∧ Aside0 (Below w.heap.size w w'))
   case atStart => exact ⟨(a1), (wrap64 (t2587 - 1)), (y2583), (.slice Ao14 y2583.length co14), (by first | rfl | (simp; done) | (simp [*]; done)), (by first | rfl | (simp; done) | (simp [*]; done)), H', ⟨Nat.le_refl _⟩, ⟨by (with_reducible repeat (first | apply Kd.R_alloc | apply Kd.R_drewN | apply Kd.R_drew)); exact HO2585.out⟩, ⟨by (with_reducible repeat (first | refine blk_drewN ?_ _ | refine blk_drew ?_ | refine blk_alloc ?_ _)); exact BK2580.out⟩, ⟨by (with_reducible repeat (first | refine blk_drewN ?_ _ | refine blk_drew ?_ | refine blk_alloc ?_ _)); exact BK2581.out⟩, ⟨by (with_reducible repeat (first | refine blk_drewN ?_ _ | refine blk_drew ?_ | refine blk_alloc ?_ _)); exact BK2586.out⟩, ⟨by repeat (first | (with_reducible first | exact HB.out | apply below_alloc | apply pw_below_drewN | apply below_drew1 | refine below_set ?_ GE2580.out | refine below_set ?_ GE2581.out | refine below_set ?_ GE2586.out) | exact HB.out)⟩⟩
   case round =>
    clear H'
    try clear c1
    try clear c2
    try clear p2
    try clear c4
    try clear c4b0
    try clear c4b1
    try clear c5
    try clear c5b0
    try clear c5b1
    try clear p6
    try clear c9
    try clear c16
    try clear c17
    try clear hcz10_0
    try clear hcz10_1
    try clear hcz10_2
    try clear hcz18_0
    try clear hcz18_1
    try clear hcz19_0
    try clear hcz19_1
    try clear hcz19_2
    try clear hfz10_0
    try clear hfz10_1
    try clear hfz10_2
    try clear hfz18_0
    try clear hfz18_1
    try clear hfz19_0
    try clear hfz19_1
    try clear hfz19_2
    obtain ⟨x1_1, x6_1, x2587000_1, u2587000, rfl, rfl, HA, HK1, HO_2587000, BK2580, BK2581, BK2586, HB⟩ := hrel
    cases gk with
    | zero => exact absurd HA.out (by simp [impl_Isles_places.l0])
    | succ k1 =>
     have H := HA.out
     clear HA
     simp only [impl_Isles_places.l0] at H
     by_cases c21 : x6_1 ≥ 0
     ·rw [if_pos c21] at H
      have c21b0 : decide (0 ≤ x6_1) = true := decide_eq_true c21
      clear c21
      by_cases c22 : 0 ≤ x6_1
      ·rw [if_pos c22] at H
       have c22b0 : decide (0 ≤ x6_1) = true := decide_eq_true c22
       clear c22
       by_cases c23 : x6_1 < (x2587000_1.length : Int)
       ·rw [if_pos c23] at H
        have c23b0 : decide (x6_1 < (x2587000_1.length : Int)) = true := decide_eq_true c23
        clear c23
        obtain ⟨y2588, hy2588⟩ : ∃ y_ : List Int, y_ = (x2587000_1.set (x6_1 : Int).toNat (Int.tmod x1_1 4)) := ⟨_, rfl⟩
        replace H : (impl_Isles_places.l0 k1 (wrap64 (Int.tdiv x1_1 4)) (wrap64 (x6_1 - 1)) y2588 0) = some (r1, r2) := by first | (rw [hy2588]; with_reducible exact H) | (have H2_ := (Option.bind_some _ _).symm.trans H; rw [hy2588]; with_reducible exact H2_) | (have H2_ := (Option.bind_some _ _).symm.trans H; with_reducible exact H2_) | with_reducible exact H | (rw [hy2588]; exact H) | exact H
        have Ny2588 := Aside0.mk hy2588
        clear hy2588
        have H' := Aside0.mk H
        clear H
        have hnb25 := NB2586_2580.out
        have hnc25 := NB2580_2586.out
        have hnb26 := NB2586_2581.out
        have hnc26 := NB2581_2586.out
        have hcz27_0 : wr.cell? ⟨gb2586, 0, none⟩ = some (u2587000) := (blk_cell BK2586.out 0).trans rfl
        have hcz27_1 : wr.cell? ⟨gb2586, 1, none⟩ = some (.int .i64 0) := (blk_cell BK2586.out 1).trans rfl
        have hfz27_0 := blk_frozen BK2586.out 0
        have hfz27_1 := blk_frozen BK2586.out 1
        have p24 : 0 ≤ (x6_1 : Int) := of_decide_eq_true (by first | (with_reducible assumption) | assumption)
        have q24 : (x6_1 : Int) < ((x2587000_1.length : Int) : Int) := of_decide_eq_true (by first | (with_reducible assumption) | assumption)
        obtain ⟨go24, co24, eo24, gb24, gl24, cl24, HG24⟩ := Kd.R_form HO_2587000.out (by omega)
        (first | cases eo24 | (injection eo24 with ea_ en_ ec_; (first | subst ea_ | (injection ea_ with ea_; subst ea_)); subst ec_; clear en_))
        have GB24 := Aside0.mk gb24
        have GG24 := Aside0.mk HG24
        clear gb24 gl24 HG24
        obtain ⟨hx24_0, hf24_0⟩ := Kd.R_celln 0 HO_2587000.out (x6_1 : Int) p24 q24
        replace p24 := eq_true p24
        replace q24 := eq_true q24
        have HP28 := Kd.R_putg HO_2587000.out (x6_1 : Int) (Int.tmod x1_1 4)
        go_wp2_with (first | ((with_reducible refine gate_store (t := 3) (p := 25) rfl ?_); refine store_event (t := 3) (p := 25) (v := ?vo_w29) (w1 := (wr.setCell ⟨go24, (x6_1 : Int).toNat, none⟩ (.int .i64 (Int.tmod x1_1 4)))) ?hg ?ho ?hn ?hr ?_; (case ho => rfl); (case hg => rfl); (case hn => rfl); (case hr => first | (go_simp; done) | (go_simp; rfl)); intro w29 hw; have hg : wr.grownBy w29 (some go24) := (by rw [hw]; exact HP28.2); have hp_ : Kd.R (Kd.int .i64) 3 w29 w.heap.size (fun _ => True) (.slice (some ⟨go24, 0, none⟩) x2587000_1.length co24) y2588 := (by rw [hw, Ny2588.out]; exact HP28.1); clear HP28; have n0_ := Aside0.mk (hp_); have n1_ := Aside0.mk (blk_grown (g := gb2580) (o := .cells #[.int .i64 a0_0, .int .i64 a0_1, .int .i64 a0_2] 39 (0, 0)) (by (with_reducible repeat (first | refine blk_drewN ?_ _ | refine blk_drew ?_ | refine blk_alloc ?_ _)); exact BK2580.out) hg (Kd.R_ne HO_2587000.out BK2580.out (by decide))); have n2_ := Aside0.mk (blk_grown (g := gb2581) (o := .cells #[.slice none 0 0, .int .i64 0] 64 (0, 0)) (by (with_reducible repeat (first | refine blk_drewN ?_ _ | refine blk_drew ?_ | refine blk_alloc ?_ _)); exact BK2581.out) hg (Kd.R_ne HO_2587000.out BK2581.out (by decide))); have n3_ := Aside0.mk (blk_grown (g := gb2586) (o := .cells #[.slice (some ⟨go24, 0, none⟩) x2587000_1.length co24, .int .i64 0] 64 (0, 0)) (by (with_reducible repeat (first | refine blk_drewN ?_ _ | refine blk_drew ?_ | refine blk_alloc ?_ _)); exact BK2586.out) hg (Kd.R_ne HO_2587000.out BK2586.out (by decide))); have n4_ := Aside0.mk ((by rw [hw]; exact below_set (HB.out) GB24.out : Below w.heap.size w w29)); clear HO_2587000; clear BK2580; clear BK2581; clear BK2586; clear HB; have HO_2587000 := n0_; have BK2580 := n1_; have BK2581 := n2_; have BK2586 := n3_; have HB := n4_; clear n0_ n1_ n2_ n3_ n4_; clear hg hw hp_))
        go_roundg k1
        case measure => have := HK1.out; omega
        case rel => exact ⟨(wrap64 (Int.tdiv x1_1 4)), (wrap64 (x6_1 - 1)), (y2588), (.slice (some ⟨go24, 0, none⟩) x2587000_1.length co24), (by first | rfl | (simp; done) | (simp [*]; done)), (by first | rfl | (simp; done) | (simp [*]; done)), H', ⟨by have := HK1.out; omega⟩, ⟨by (with_reducible repeat (first | apply Kd.R_alloc | apply Kd.R_drewN | apply Kd.R_drew)); exact HO_2587000.out⟩, ⟨by (with_reducible repeat (first | refine blk_drewN ?_ _ | refine blk_drew ?_ | refine blk_alloc ?_ _)); exact BK2580.out⟩, ⟨by (with_reducible repeat (first | refine blk_drewN ?_ _ | refine blk_drew ?_ | refine blk_alloc ?_ _)); exact BK2581.out⟩, ⟨by (with_reducible repeat (first | refine blk_drewN ?_ _ | refine blk_drew ?_ | refine blk_alloc ?_ _)); exact BK2586.out⟩, ⟨by repeat (first | (with_reducible first | exact HB.out | apply below_alloc | apply pw_below_drewN | apply below_drew1 | refine below_set ?_ GE2580.out | refine below_set ?_ GE2581.out | refine below_set ?_ GE2586.out) | exact HB.out)⟩⟩
       ·rw [if_neg c23] at H
        exact absurd H (by simp)
      ·rw [if_neg c22] at H
       exact absurd H (by simp)
     ·rw [if_neg c21] at H
      have c21b0 : decide (0 ≤ x6_1) = false := decide_eq_false c21
      clear c21
      simp only [Option.some.injEq, Prod.mk.injEq] at H
      obtain ⟨rfl, rfl⟩ := H
      have hnb30 := NB2586_2580.out
      have hnc30 := NB2580_2586.out
      have hnb31 := NB2586_2581.out
      have hnc31 := NB2581_2586.out
      have hcz32_0 : wr.cell? ⟨gb2586, 0, none⟩ = some (u2587000) := (blk_cell BK2586.out 0).trans rfl
      have hcz32_1 : wr.cell? ⟨gb2586, 1, none⟩ = some (.int .i64 0) := (blk_cell BK2586.out 1).trans rfl
      have hfz32_0 := blk_frozen BK2586.out 0
      have hfz32_1 := blk_frozen BK2586.out 1
      obtain ⟨Ao33, co33, eo33⟩ := Kd.R_slice HO_2587000.out
      subst eo33
      have hnb34 := NB2581_2580.out
      have hnc34 := NB2580_2581.out
      have hcz35_0 : wr.cell? ⟨gb2581, 0, none⟩ = some (.slice none 0 0) := (blk_cell BK2581.out 0).trans rfl
      have hcz35_1 : wr.cell? ⟨gb2581, 1, none⟩ = some (.int .i64 0) := (blk_cell BK2581.out 1).trans rfl
      have hfz35_0 := blk_frozen BK2581.out 0
      have hfz35_1 := blk_frozen BK2581.out 1
      go_wp2
      refine bodyPost_ret (results_cell_row rfl _ _ gb2581 64 #[.slice Ao33 x2587000_1.length co33, .int .i64 x1_1] (0, 0) _ rfl (by (with_reducible repeat (first | refine blk_drewN ?_ _ | refine blk_drew ?_ | refine blk_alloc ?_ _)); refine blk_put (cs := #[.slice Ao33 x2587000_1.length co33, .int .i64 0]) ?_ 1 _ rfl; (with_reducible repeat (first | refine blk_drewN ?_ _ | refine blk_drew ?_ | refine blk_alloc ?_ _)); refine blk_put (cs := #[.slice none 0 0, .int .i64 0]) ?_ 0 _ rfl; (with_reducible repeat (first | refine blk_drewN ?_ _ | refine blk_drew ?_ | refine blk_alloc ?_ _)); refine blk_far ?_ NB2581_2586.out _; (with_reducible repeat (first | refine blk_drewN ?_ _ | refine blk_drew ?_ | refine blk_alloc ?_ _)); exact BK2581.out) Try.underlying64 rfl (by kernel_rfl)) rfl ?_
      exact ⟨_, by first | rfl | (simp [errW_none, errW_some] <;> rfl) | (simp [*, errW_none, errW_some] <;> rfl), by (with_reducible repeat (first | apply Kd.R_alloc | apply Kd.R_drewN | apply Kd.R_drew)); exact Kd.R_mono (Kd.R_far (p := ⟨gb2581, 1, none⟩) (Kd.R_far (p := ⟨gb2581, 0, none⟩) (Kd.R_far (p := ⟨gb2586, 1, none⟩) (Kd.R_types (Kd.R_types HO_2587000.out BK2586.out (by decide)) BK2581.out (by decide)) (fun _ hk => hk.1.2) (.int .i64 x1_1)) (fun _ hk => hk.2) (.slice Ao33 x2587000_1.length co33)) (fun _ hk => hk.2) (.int .i64 x1_1)) (fun _ hk => trivial), by repeat (first | (with_reducible first | exact HB.out | apply below_alloc | apply pw_below_drewN | apply below_drew1 | refine below_set ?_ GE2580.out | refine below_set ?_ GE2581.out | refine below_set ?_ GE2586.out) | exact HB.out)⟩
  ·rw [if_neg c5] at H
   exact absurd H (by simp)
 ·rw [if_neg c4] at H
  exact absurd H (by simp)
end Go.Proofs.Ytlkjglanglpdoaa.T
namespace Go.Proofs.Ytlkjglanglpdoaa.T
open Go.RowKit Go.Proofs.YtlkjglanglpdoaaW.PrintWords Go.Proofs.YtlkjglanglpdoaaW.PrintLast Go.Proofs.YtlkjglanglpdoaaW.PrintMore
attribute [local go_sem] max2_int min2_int max_two min_two max_three min_three max_four min_four
set_option linter.unusedVariables false
set_option linter.unusedSimpArgs false
def impl_Places_code.l0 : Nat → Int → List Int → Int → Int → Option (Int)
 | 0, _, _, _, _ => none
 | k + 1, x3, x9, x10, x11 => if x11 < x10 then (if 0 ≤ x11 then (if x11 < (x9.length : Int) then (impl_Places_code.l0 k (wrap64 ((wrap64 (x3 * 4)) + (rd x9 x11))) x9 x10 (wrap64 (x11 + 1))) else (none)) else (none)) else (some x3)
def impl_Places_code.f (k : Nat) (l0_0 : List Int) (a0_1 : Int) : Option (Int) := impl_Places_code.l0 k a0_1 l0_0 (l0_0.length : Int) 0
theorem impl_Places_code.mono_l : ∀ k, (∀ y0 y1 y2 y3, LeO (impl_Places_code.l0 k y0 y1 y2 y3) (impl_Places_code.l0 (k + 1) y0 y1 y2 y3))
 | 0 => fun _ _ _ _ r h => by simp [impl_Places_code.l0] at h
 | k + 1 => by
  have ih0 := impl_Places_code.mono_l k
  ·intro y0 y1 y2 y3
   unfold impl_Places_code.l0
   repeat' first
   | (with_reducible exact ih0 _ _ _ _)
   | (with_reducible exact LeO.refl _)
   | (with_reducible exact LeO.none _)
   | (with_reducible refine LeO.ite ?_ ?_)
   | (with_reducible refine LeO.bind ?_ (fun _ => ?_))
   | exact ih0 _ _ _ _
   | exact LeO.none _
   | refine LeO.ite ?_ ?_
   | refine LeO.bind ?_ (fun _ => ?_)
theorem impl_Places_code.mono : ∀ a0 a1 k, LeO (impl_Places_code.f k a0 a1) (impl_Places_code.f (k + 1) a0 a1) := by
 intro a0 a1 k
 have ih0 := impl_Places_code.mono_l k
 unfold impl_Places_code.f
 repeat' first
   | (with_reducible exact ih0 _ _ _ _)
   | (with_reducible exact LeO.refl _)
   | (with_reducible exact LeO.none _)
   | (with_reducible refine LeO.ite ?_ ?_)
   | (with_reducible refine LeO.bind ?_ (fun _ => ?_))
   | exact ih0 _ _ _ _
   | exact LeO.none _
   | refine LeO.ite ?_ ?_
   | refine LeO.bind ?_ (fun _ => ?_)
set_option maxHeartbeats 8000000 in
set_option maxRecDepth 100000 in
theorem impl_Places_code.calls (k : Nat) (A0_0 : Option Addr) (c0_0 : Nat) (l0_0 : List Int) (a0_1 : Int) (r : Int) (w : World) (hr0_0 : Kd.C (Kd.int .i64) w A0_0 l0_0.length l0_0) (hc0_0 : l0_0.length ≤ c0_0) (h : impl_Places_code.f k l0_0 a0_1 = some r) :
  Calls Try.prog 254 #[.agg #[.slice A0_0 l0_0.length c0_0, .int .i64 a0_1]] w fun e w' => e = .returned (.int .i64 r) ∧ Below w.heap.size w w' := by
 have hu64 := Try.underlying64
 have HR0_0 := Aside0.mk hr0_0
 have HC0_0 := Aside0.mk hc0_0
 clear hr0_0 hc0_0
 have HB := Aside0.mk (Below.refl w.heap.size w)
 have H : (impl_Places_code.l0 k a0_1 l0_0 (l0_0.length : Int) 0) = some r := h
 clear h
 have H' := Aside0.mk H
 clear H
 go_enter Try.func254, Try.ntmps254
 go_wp2_with (first | ((with_reducible refine gate_dst (N := 1) rfl ?_); refine box_event ?hg (N := 1) ?hd (cs := #[.slice A0_0 l0_0.length c0_0, .int .i64 a0_1]) (t := 64) ?hr ?_; (case hd => rfl); (case hg => rfl); (case hr => first | (go_simp; done) | (go_simp; rfl)); intro gb2589 hg w2 hbox hb; have n0_ := Aside0.mk (below_step (by repeat (first | (with_reducible first | exact HB.out | apply below_alloc | apply pw_below_drewN | apply below_drew1) | exact HB.out)) hb); have n1_ := Aside0.mk (hbox); have n2_ := Aside0.mk ((by rw [hg]; exact (below_size (by repeat (first | (with_reducible first | exact HB.out | apply below_alloc | apply pw_below_drewN | apply below_drew1) | exact HB.out))) : w.heap.size ≤ gb2589)); have n3_ := Aside0.mk ((by rw [hg]; exact (below_size (by repeat (first | (with_reducible first | exact HB.out | apply below_alloc | apply pw_below_drewN | apply below_drew1) | exact HB.out))) : w.heap.size ≤ gb2589)); clear HB; have HB := n0_; have BK2589 := n1_; have GW2589 := n2_; have GE2589 := n3_; clear n0_ n1_ n2_ n3_; clear hb hbox hg; have hcz3_0 : w2.cell? ⟨gb2589, 0, none⟩ = some (.slice A0_0 l0_0.length c0_0) := (blk_cell BK2589.out 0).trans rfl; have hcz3_1 : w2.cell? ⟨gb2589, 1, none⟩ = some (.int .i64 a0_1) := (blk_cell BK2589.out 1).trans rfl; have hfz3_0 := blk_frozen BK2589.out 0; have hfz3_1 := blk_frozen BK2589.out 1))
 go_loopg [3, 11] k (fun kq v3 v11 w' => ∃ (x3_1 : Int) (x11_1 : Int), v3 = .int .i64 x3_1 ∧ v11 = .int .i64 x11_1 ∧ Aside0 (impl_Places_code.l0 kq x3_1 l0_0 (l0_0.length : Int) x11_1 = some r) ∧ Aside0 (kq ≤ k) ∧ Aside0 (w'.heap[gb2589]? = some (.cells #[(.slice A0_0 l0_0.length c0_0), .int .i64 a0_1] 64 (0, 0))) ∧ Aside0 (Below w.heap.size w w'))
 case atStart => exact ⟨(a0_1), (0), (by first | rfl | (simp; done) | (simp [*]; done)), (by first | rfl | (simp; done) | (simp [*]; done)), H', ⟨Nat.le_refl _⟩, ⟨by (with_reducible repeat (first | refine blk_drewN ?_ _ | refine blk_drew ?_ | refine blk_alloc ?_ _)); exact BK2589.out⟩, ⟨by repeat (first | (with_reducible first | exact HB.out | apply below_alloc | apply pw_below_drewN | apply below_drew1 | refine below_set ?_ GE2589.out) | exact HB.out)⟩⟩
 case round =>
  clear H'
  try clear c2
  try clear p2
  try clear hcz3_0
  try clear hcz3_1
  try clear hfz3_0
  try clear hfz3_1
  obtain ⟨x3_1, x11_1, rfl, rfl, HA, HK1, BK2589, HB⟩ := hrel
  cases gk with
  | zero => exact absurd HA.out (by simp [impl_Places_code.l0])
  | succ k1 =>
   have H := HA.out
   clear HA
   simp only [impl_Places_code.l0] at H
   by_cases c4 : x11_1 < (l0_0.length : Int)
   ·rw [if_pos c4] at H
    have c4b0 : decide (x11_1 < (l0_0.length : Int)) = true := decide_eq_true c4
    clear c4
    by_cases c5 : 0 ≤ x11_1
    ·rw [if_pos c5] at H
     have c5b0 : decide (0 ≤ x11_1) = true := decide_eq_true c5
     clear c5
     by_cases c6 : x11_1 < (l0_0.length : Int)
     ·rw [if_pos c6] at H
      have c6b0 : decide (x11_1 < (l0_0.length : Int)) = true := decide_eq_true c6
      clear c6
      have H' := Aside0.mk H
      clear H
      have p2590 : 0 ≤ (x11_1 : Int) := of_decide_eq_true (by first | (with_reducible assumption) | assumption)
      have q2590 : x11_1 < (l0_0.length : Int) := of_decide_eq_true (by first | (with_reducible assumption) | assumption)
      obtain ⟨ad2590, e2590, hx2590_0⟩ := Kd.at_int HR0_0.out x11_1 p2590 q2590
      cases e2590
      replace hx2590_0 := (HB.out.cell (World.block_lt_of_cell? w _ hx2590_0)).trans hx2590_0
      replace p2590 := eq_true p2590
      replace q2590 := eq_true q2590
      go_wp2
      go_roundg k1
      case measure => have := HK1.out; omega
      case rel => exact ⟨(wrap64 ((wrap64 (x3_1 * 4)) + (rd l0_0 x11_1))), (wrap64 (x11_1 + 1)), (by first | rfl | (simp; done) | (simp [*]; done)), (by first | rfl | (simp; done) | (simp [*]; done)), H', ⟨by have := HK1.out; omega⟩, ⟨by (with_reducible repeat (first | refine blk_drewN ?_ _ | refine blk_drew ?_ | refine blk_alloc ?_ _)); exact BK2589.out⟩, ⟨by repeat (first | (with_reducible first | exact HB.out | apply below_alloc | apply pw_below_drewN | apply below_drew1 | refine below_set ?_ GE2589.out) | exact HB.out)⟩⟩
     ·rw [if_neg c6] at H
      exact absurd H (by simp)
    ·rw [if_neg c5] at H
     exact absurd H (by simp)
   ·rw [if_neg c4] at H
    have c4b0 : decide (x11_1 < (l0_0.length : Int)) = false := decide_eq_false c4
    clear c4
    obtain rfl := Option.some.inj H
    go_wp2
    go_ret
    exact ⟨by first | rfl | (simp [errW_none, errW_some] <;> rfl) | (simp [*, errW_none, errW_some] <;> rfl), by repeat (first | (with_reducible first | exact HB.out | apply below_alloc | apply pw_below_drewN | apply below_drew1 | refine below_set ?_ GE2589.out) | exact HB.out)⟩
end Go.Proofs.Ytlkjglanglpdoaa.T
namespace Go.Proofs.Ytlkjglanglpdoaa.T
open Go.RowKit Go.Proofs.YtlkjglanglpdoaaW.PrintWords Go.Proofs.YtlkjglanglpdoaaW.PrintLast Go.Proofs.YtlkjglanglpdoaaW.PrintMore
set_option linter.unusedVariables false
set_option linter.unusedSimpArgs false
def grp (most : Int) : List Int → List Int → List (List Int)
 | [], _ => []
 | x :: rest, list => if (list.length : Int) < most then (list ++ [x]) :: (grp most rest (list ++ [x]) ++ grp most rest list) else []
theorem grp_full (most : Int) (people list : List Int) (h : ¬ (list.length : Int) < most) : grp most people list = [] := by
 cases people with
 | nil => rfl
 | cons x rest => simp only [grp]; rw [if_neg h]
structure Each (f : FuncId) (cap : Array Value) (full : List (List Int)) (I : List (List Int) → (Nat → Prop) → World → Prop) : Prop where
 fn : ∃ fn, Try.prog.funcs[f]? = some fn ∧ (fn.name == "runtime.NumGoroutine") = false ∧ fn.body.isSome = true
 bound : ∀ done m w, I done m w → ∀ k, m k → k < w.heap.size
 later : ∀ done m w w', I done m w → Below w.heap.size w w' → I done m w'
 call : ∀ done l rest m w0 w v, done ++ l :: rest = full → I done m w0 → Below w0.heap.size w0 w → Kd.R (Kd.int .i64) 3 w w0.heap.size (fun _ => True) v l →
  Calls Try.prog f (#[v] ++ cap) w fun e w' => e = .returned (.tuple #[]) ∧ ∃ m', I (done ++ [l]) m' w' ∧ (∀ k, m' k → m k ∨ w.heap.size ≤ k) ∧ Kept w w' m
structure Caught (f : FuncId) (cap : Array Value) (pa pm pe po : Nat) (Ap : Option Addr) (cp : Nat) (people : List Int) (most : Int) (w : World) : Prop where
 a : w.cell? ⟨pa, 0, none⟩ = some (.slice Ap people.length cp)
 b : w.cell? ⟨pm, 0, none⟩ = some (.int .i64 most)
 c : w.cell? ⟨pe, 0, none⟩ = some (.func (.func f) #[] cap)
 d : w.cell? ⟨po, 0, none⟩ = some (.func (.func 281) #[] #[.pointer (some ⟨pa, 0, none⟩), .pointer (some ⟨pm, 0, none⟩), .pointer (some ⟨pe, 0, none⟩), .pointer (some ⟨po, 0, none⟩)])
 e : Kd.C (Kd.int .i64) w Ap people.length people
theorem drop_rd (people : List Int) (i : Nat) (h : i < people.length) : people.drop i = rd people i :: people.drop (i + 1) := by
 unfold rd
 rw [Int.toNat_natCast, List.getD_eq_getElem?_getD, List.getElem?_eq_getElem h]
 exact (List.getElem_cons_drop h).symm
theorem two_new1 {W0 W1 W2 : World} {v1 v2 : Value} {B : Nat} {xs ys : List Int} (h1 : Kd.R (Kd.int .i64) 3 W1 W0.heap.size (fun _ => True) v1 xs) (h2 : Kd.R (Kd.int .i64) 3 W2 W1.heap.size (fun _ => True) v2 ys) (hb : Below W1.heap.size W1 W2) (hB : B ≤ W0.heap.size) :
  Kd.R (Kd.int .i64) 3 W2 B (fun k => some k ≠ v2.ownBlock) v1 xs :=
 Kd.R_mono (Kd.R_lower (Kd.R_below (Kd.R_bound h1) hb) hB) (fun k hk he => by have := Kd.R_base h2 k he.symm; have := hk.2.2.1; omega)
theorem two_new2 {W0 W1 W2 : World} {v1 v2 : Value} {B : Nat} {xs ys : List Int} (h1 : Kd.R (Kd.int .i64) 3 W1 W0.heap.size (fun _ => True) v1 xs) (h2 : Kd.R (Kd.int .i64) 3 W2 W1.heap.size (fun _ => True) v2 ys) (hB : B ≤ W1.heap.size) :
  Kd.R (Kd.int .i64) 3 W2 B (fun k => some k ≠ v1.ownBlock) v2 ys :=
 Kd.R_mono (Kd.R_lower (Kd.R_bound h2) hB) (fun k hk he => by have := Kd.R_lt h1 k he.symm; have := hk.2.1; omega)
theorem groups_mid {f : FuncId} {cap : Array Value} {pa pm pe po : Nat} {Ap : Option Addr} {cp : Nat} {people : List Int} {most : Int} {w wr w28 w2 : World} {m mI m2 : Nat → Prop} {A : Option Addr} {c : Nat} {l : List Int}
  (hC : ∀ w', Kept w w' m → Caught f cap pa pm pe po Ap cp people most w') (hK1 : Kept w w28 m) (hMI : ∀ k, mI k → m k ∨ w.heap.size ≤ k) (hs0 : w.heap.size ≤ wr.heap.size) (hs1 : wr.heap.size ≤ w28.heap.size) (hK2 : Kept w28 w2 mI) (hM2 : ∀ k, m2 k → mI k ∨ w28.heap.size ≤ k)
  (hbd : ∀ k, mI k → k < wr.heap.size) {n : Nat} (hR : Kd.R (Kd.int .i64) 3 w28 wr.heap.size (fun _ => True) (.slice A n c) l) :
  (∀ w', Kept w2 w' m2 → Caught f cap pa pm pe po Ap cp people most w') ∧ (∀ w', Kept w2 w' m2 → Kd.C (Kd.int .i64) w' A n l) := by
 have hK3 : Kept w w2 m := hK1.then_ hK2 hMI
 refine ⟨fun w' hw => hC w' (hK3.then_ hw (fun k hk => ?_)), ?_⟩
 ·rcases hM2 k hk with h | h
  ·exact hMI k h
  ·exact .inr (Nat.le_trans (Nat.le_trans hs0 hs1) h)
 ·have h1 := Kd.R_mono (ok' := fun k => wr.heap.size ≤ k ∧ k < w28.heap.size) (Kd.R_bound hR) (fun k hk => ⟨hk.2.1, hk.2.2.1⟩)
  have h2 := Kd.R_kept h1 hK2 (fun k hk hm => by have := hbd k hm; omega)
  exact Kd.C_kept_own h2 (fun k hk hm => by
   rcases hM2 k hm with h | h
   ·have := hbd k h; omega
   ·omega)
set_option maxHeartbeats 6400000 in
set_option maxRecDepth 100000 in
theorem groups_on (f : FuncId) (cap : Array Value) (full : List (List Int)) (I : List (List Int) → (Nat → Prop) → World → Prop) (hEach : Each f cap full I) (pa pm pe po : Nat) (Ap : Option Addr) (cp : Nat) (people : List Int) (most : Int) (hmost : most ≤ 1048576) :
  ∀ (d b0 : Nat), b0 + d = people.length → ∀ (list : List Int) (done rest : List (List Int)) (m : Nat → Prop) (w : World) (A : Option Addr) (c : Nat),
   done ++ grp most (people.drop b0) list ++ rest = full → I done m w → (∀ w', Kept w w' m → Caught f cap pa pm pe po Ap cp people most w') → (∀ w', Kept w w' m → Kd.C (Kd.int .i64) w' A list.length list) → list.length ≤ c →
   Calls Try.prog 281 #[.int .i64 (b0 : Int), .slice A list.length c, .pointer (some ⟨pa, 0, none⟩), .pointer (some ⟨pm, 0, none⟩), .pointer (some ⟨pe, 0, none⟩), .pointer (some ⟨po, 0, none⟩)] w fun e w' =>
    e = .returned (.tuple #[]) ∧ ∃ m', I (done ++ grp most (people.drop b0) list) m' w' ∧ (∀ k, m' k → m k ∨ w.heap.size ≤ k) ∧ Kept w w' m := by
 intro d
 induction d using Nat.strongRecOn with
 | _ d ih =>
 intro b0 hd list done rest m w A c hfull hI hC hL hcap
 obtain ⟨fn, hf, hname, hbody⟩ := hEach.fn
 have hlen : people.length ≤ 9223372036854775807 := (hC w (Kept.refl _ _)).e.2.1
 have HI := Aside0.mk hI
 have HC := Aside0.mk hC
 have HL := Aside0.mk hL
 have HF := Aside0.mk hf
 have HFULL := Aside0.mk hfull
 have HCAP := Aside0.mk hcap
 have IH := Aside0.mk ih
 have HEA := Aside0.mk hEach
 have HD := Aside0.mk hd
 clear hI hC hL hf hfull hcap ih hEach hd
 go_enter Try.func281, Try.ntmps281
 go_wp2
 go_loopw [8, 9] (fun v8 v9 wr => ∃ (i : Nat) (doneI : List (List Int)) (mI : Nat → Prop), v8 = .int .i64 (i : Int) ∧ Aside0 (b0 ≤ i ∧ i ≤ people.length) ∧ Aside0 (doneI ++ grp most (people.drop i) list = done ++ grp most (people.drop b0) list) ∧ Aside0 (I doneI mI wr) ∧ Aside0 (∀ k, mI k → m k ∨ w.heap.size ≤ k) ∧ Aside0 (Kept w wr m)) (fun v8 _ _ => people.length - (intOf v8).toNat)
 case atStart => exact ⟨b0, done, m, rfl, ⟨Nat.le_refl _, by have := HD.out; omega⟩, ⟨rfl⟩, HI, ⟨fun k hk => .inl hk⟩, ⟨Kept.refl _ _⟩⟩
 case round =>
  obtain ⟨i, doneI, mI, rfl, HB, HG, HII, HMI, HKI⟩ := hrel
  have hnow := HC.out _ HKI.out
  have h1 := hnow.a
  have h2 := hnow.b
  have h3 := hnow.c
  have h4 := hnow.d
  have HN := Aside0.mk hnow
  clear hnow
  by_cases hlt : i < people.length
  ·by_cases hls : (list.length : Int) < most
   ·have c0b : decide ((i : Int) < (people.length : Int)) = true := by simpa using hlt
    have c1b : decide ((list.length : Int) < most) = true := by simpa using hls
    have hk0 : i ≤ 9223372036854775806 := by omega
    go_wp2
    have q0 : (0 : Int) ≤ (i : Int) := by omega
    have q1 : (i : Int) < (people.length : Int) := by omega
    obtain ⟨ad, hade, hcell⟩ := Kd.at_int HN.out.e (i : Int) q0 q1
    obtain rfl := hade
    rw [Int.toNat_natCast] at hcell
    have HCL := Aside0.mk hcell
    clear hcell q0 q1
    refine start_ (n := 9) (S := fun w' => Below wr.heap.size wr w') (ds := []) #[false, false, false, false, false, false, false, false, false] (by kernel_rfl) rfl rfl (Below.refl _ _).drew (fun hHeld => ?_)
    have HCLN : Aside0 (slices_Clone_int_int.f list = some list) := ⟨by unfold slices_Clone_int_int.f; rw [if_pos (by omega)]⟩
    have HLM : Aside0 (list.length < 1048576) := ⟨by omega⟩
    refine pure_ (i := 0) (N := some 23) (v := ?_) (a' := ?_) #[true, false, false, false, false, false, false, false, false] rfl rfl (by kernel_rfl) (fun _ _ _ h => h) (Or.inl ⟨by rfl, ?_⟩) ?_ ?_
    rotate_left
    ·intro w'
     go_simp
     with_reducible rfl
    rotate_left
    ·simp only [Act.put, List.setIfInBounds_toArray, List.set_cons_zero, List.set_cons_succ, i64_w, i32_w]
     rfl
    refine take_ (i := 2) (N := some 25) (v := ?_) (a' := ?_) #[true, false, true, false, false, false, false, false, false] rfl rfl (by kernel_rfl) (fun _ _ _ h => h) (Or.inl ⟨by rfl, ?_⟩) hHeld ?_ ?_
    rotate_left
    ·intro w' s0
     have s1 := (s0.cell (World.block_lt_of_cell? wr _ h1)).trans h1
     clear s0
     go_simp
     with_reducible rfl
    rotate_left
    ·simp only [Act.put, List.setIfInBounds_toArray, List.set_cons_zero, List.set_cons_succ, i64_w, i32_w]
     rfl
    refine pure_ (i := 3) (N := some 26) (v := ?_) (a' := ?_) #[true, false, true, true, false, false, false, false, false] rfl rfl (by kernel_rfl) (fun _ _ _ h => h) (Or.inl ⟨by rfl, ?_⟩) ?_ ?_
    rotate_left
    ·intro w'
     go_simp
     with_reducible rfl
    rotate_left
    ·simp only [Act.put, List.setIfInBounds_toArray, List.set_cons_zero, List.set_cons_succ, i64_w, i32_w]
     rfl
    refine pure_ (i := 4) (N := some 27) (v := ?_) (a' := ?_) #[true, false, true, true, true, false, false, false, false] rfl rfl (by kernel_rfl) (fun _ _ _ h => h) (Or.inl ⟨by rfl, ?_⟩) ?_ ?_
    rotate_left
    ·intro w'
     go_simp
     with_reducible rfl
    rotate_left
    ·simp only [Act.put, List.setIfInBounds_toArray, List.set_cons_zero, List.set_cons_succ, i64_w, i32_w]
     rfl
    refine take_ (i := 5) (N := some 28) (v := ?_) (a' := ?_) #[true, false, true, true, true, true, false, false, false] rfl rfl (by kernel_rfl) (fun _ _ _ h => h) (Or.inl ⟨by rfl, ?_⟩) hHeld ?_ ?_
    rotate_left
    ·intro w' s0
     have s1 := (s0.cell (World.block_lt_of_cell? wr _ HCL.out)).trans HCL.out
     clear s0
     go_simp
     with_reducible rfl
    rotate_left
    ·simp only [Act.put, List.setIfInBounds_toArray, List.set_cons_zero, List.set_cons_succ, i64_w, i32_w]
     rfl
    have HB := Aside0.mk hHeld
    refine join_ (σ := Value × Value) 2 #[true, true, true, true, true, true, true, false, false] (fun s_ => [(24, s_.1), (29, s_.2)]) (fun s_ w' => (Kd.R (Kd.int .i64) 3 w' wr.heap.size (fun k_ => some k_ ≠ (s_.2 : Value).ownBlock) s_.1 list) ∧ (Kd.R (Kd.int .i64) 3 w' wr.heap.size (fun k_ => some k_ ≠ (s_.1 : Value).ownBlock) s_.2 [rd people i]) ∧ (Below wr.heap.size wr w')) ?_ ?_
    rotate_left
    ·intro hCont
     refine two_ (i := 1) (j := 6) (Ni := some 24) (Nj := some 29) #[true, true, true, true, true, true, false, false, false] #[true, false, true, true, true, true, true, false, false] rfl rfl rfl rfl (by kernel_rfl) (by decide) (by decide) (fun K hK => ?_) (fun K hK => ?_)
     ·refine goes_ Try.func276 (by kernel_rfl) rfl #[.slice A list.length c] (by rfl) rfl rfl (by (try simp only [List.map_toArray, List.map_cons, List.map_nil]); first | done | rfl) ?_
      with_reducible refine (slices_Clone_int_int.calls _ _ list list _ (HL.out _ (HKI.out.below HB.out)) HCAP.out HCLN.out).mono ?_
      rintro e w24 ⟨v1, rfl, ho0, hb⟩
      refine ⟨_, rfl, ?_⟩
      have HB1 := Aside0.mk (below_step HB.out hb)
      refine hK.out _ _ HB1.out (fun hHeld1 => ?_)
      clear hK K
      refine norm_ (a' := ?_) ?_ ?_
      rotate_left
      ·show Act.put _ (some 24) _ = _
       simp only [Act.put, List.setIfInBounds_toArray, List.set_cons_zero, List.set_cons_succ, i64_w, i32_w]
       rfl
      refine one_ (i := 6) (N := some 29) #[true, true, true, true, true, true, true, false, false] rfl rfl (by kernel_rfl) (by decide) (fun K hK => ?_)
      refine Kd.R_lit_step (Kd.int .i64) _ 3 ?hg (N := 29) ?hd (xs := ([rd people i] : List Int)) (inner := [.int .i64 (rd people i)]) (ok := fun _ => True) (okp := fun _ => True) ?hr ?hp (fun _ hk => hk) trivial (Below.refl _ _) (Nat.le_refl _) (by simp) ?_; (case hd => rfl); (case hg => rfl); (case hr => first | (go_simp; done) | (go_simp; rfl)); (case hp => exact (Reps.one (show Kd.M (Kd.int .i64) _ _ _ (rd people i) [.int .i64 (rd people i)] from rfl) (Reps.none _ _)))
      intro v2 w25 ho26 hb2 hg_ hnew_
      refine hK.out _ _ (below_step HB1.out hb2) (fun hHeld => ?_)
      clear hK K
      refine norm_ (a' := ?_) ?_ ?_
      rotate_left
      ·show Act.put _ (some 29) _ = _
       simp only [Act.put, List.setIfInBounds_toArray, List.set_cons_zero, List.set_cons_succ, i64_w, i32_w]
       rfl
      exact norm_ (by simp only [putAll, Act.put, List.setIfInBounds_toArray, List.set_cons_zero, List.set_cons_succ]) (hCont (v1, v2) _ ⟨two_new1 ho0 ho26 hb2 HB.out.size, two_new2 ho0 ho26 (Nat.le_trans HB.out.size hb.size), below_step HB1.out hb2⟩)
     ·refine Kd.R_lit_step (Kd.int .i64) _ 3 ?hg (N := 29) ?hd (xs := ([rd people i] : List Int)) (inner := [.int .i64 (rd people i)]) (ok := fun _ => True) (okp := fun _ => True) ?hr ?hp (fun _ hk => hk) trivial (Below.refl _ _) (Nat.le_refl _) (by simp) ?_; (case hd => rfl); (case hg => rfl); (case hr => first | (go_simp; done) | (go_simp; rfl)); (case hp => exact (Reps.one (show Kd.M (Kd.int .i64) _ _ _ (rd people i) [.int .i64 (rd people i)] from rfl) (Reps.none _ _)))
      intro v2 w25 ho26 hb2 hg_ hnew_
      have HB1 := Aside0.mk (below_step HB.out hb2)
      refine hK.out _ _ HB1.out (fun hHeld1 => ?_)
      clear hK K
      refine norm_ (a' := ?_) ?_ ?_
      rotate_left
      ·show Act.put _ (some 29) _ = _
       simp only [Act.put, List.setIfInBounds_toArray, List.set_cons_zero, List.set_cons_succ, i64_w, i32_w]
       rfl
      refine one_ (i := 1) (N := some 24) #[true, true, true, true, true, true, true, false, false] rfl rfl (by kernel_rfl) (by decide) (fun K hK => ?_)
      refine goes_ Try.func276 (by kernel_rfl) rfl #[.slice A list.length c] (by rfl) rfl rfl (by (try simp only [List.map_toArray, List.map_cons, List.map_nil]); first | done | rfl) ?_
      with_reducible refine (slices_Clone_int_int.calls _ _ list list _ (HL.out _ (HKI.out.below HB1.out)) HCAP.out HCLN.out).mono ?_
      rintro e w24 ⟨v1, rfl, ho0, hb⟩
      refine ⟨_, rfl, ?_⟩
      refine hK.out _ _ (below_step HB1.out hb) (fun hHeld => ?_)
      clear hK K
      refine norm_ (a' := ?_) ?_ ?_
      rotate_left
      ·show Act.put _ (some 24) _ = _
       simp only [Act.put, List.setIfInBounds_toArray, List.set_cons_zero, List.set_cons_succ, i64_w, i32_w]
       rfl
      exact norm_ (by simp only [putAll, Act.put, List.setIfInBounds_toArray, List.set_cons_zero, List.set_cons_succ]) (hCont (v1, v2) _ ⟨two_new2 ho26 ho0 (Nat.le_trans HB.out.size hb2.size), two_new1 ho26 ho0 hb HB.out.size, below_step HB1.out hb⟩)
    rintro ⟨v1, v2⟩ w27 ⟨hr1, hr2, hb3⟩
    obtain ⟨Ao29, co29, eo29⟩ := Kd.R_slice hr2
    subst eo29
    have HR1 := Aside0.mk hr1
    have HR2 := Aside0.mk hr2
    have HB3 := Aside0.mk hb3
    clear hr1 hr2 hb3
    refine norm_ (a' := ?_) ?_ ?_
    rotate_left
    ·simp only [putAll, Act.put, List.setIfInBounds_toArray, List.set_cons_zero, List.set_cons_succ]
     rfl
    refine one_ (i := 7) (N := some 30) #[true, true, true, true, true, true, true, true, false] rfl rfl (by kernel_rfl) (by decide) (fun K hK => ?_)
    refine Kd.R_append_rows_step (Kd.int .i64) (w0 := wr) wr.heap.size (by rfl) (.tmp 24) (.tmp 29) 32 3 (.int .i64 0) 8 rfl Try.underlying32 info3 rfl (by decide) (by omega) v1 list [rd people i] _ _ _ (fun k_ => some k_ ≠ (.slice Ao29 [rd people i].length co29 : Value).ownBlock) (fun _ => False) rfl rfl ?aO ?aR (fun _ _ h => h) (fun _ h => h.elim) ?aF ?aB ?aS ?aL ?_
    (case aR => exact (Kd.R_reads' HR2.out).2.2)
    (case aB => exact HB3.out)
    (case aF => exact fun k_ hk => Kd.fresh' (Kd.R_lt HR2.out) k_ hk)
    (case aO => exact HR1.out)
    (case aS => exact HB3.out.size)
    (case aL => have := HLM.out; simp; omega)
    intro v976 w28 ho hb hg hat
    have HR := Aside0.mk (Kd.R_mono (ok' := fun _ => True) ho (fun _ _ => trivial))
    have HB4 := Aside0.mk hb
    clear ho hb hg hat HR1 HR2 HB3 HB
    obtain ⟨Ao30, co30, eo30⟩ := Kd.R_slice HR.out
    subst eo30
    refine hK.out _ _ HB4.out (fun hHeld => ?_)
    clear hK K
    refine norm_ (a' := ?_) ?_ ?_
    rotate_left
    ·show Act.put _ (some 30) _ = _
     simp only [Act.put, List.setIfInBounds_toArray, List.set_cons_zero, List.set_cons_succ, i64_w, i32_w]
     rfl
    refine pure_ (i := 8) (N := some 9) (v := ?_) (a' := ?_) #[true, true, true, true, true, true, true, true, true] rfl rfl (by kernel_rfl) (fun _ _ _ h => h) (Or.inl ⟨by rfl, ?_⟩) ?_ ?_
    rotate_left
    ·intro w'
     go_simp
     with_reducible rfl
    rotate_left
    ·simp only [Act.put, List.setIfInBounds_toArray, List.set_cons_zero, List.set_cons_succ, i64_w, i32_w]
     rfl
    refine done_ (by kernel_rfl) ?_
    have e1 : (list ++ [rd people i]).length = list.length + 1 := by simp
    have hRr := HR.out
    rw [e1] at hRr
    have HR' := Aside0.mk hRr
    have hgrp : grp most (people.drop i) list = (list ++ [rd people i]) :: (grp most (people.drop (i + 1)) (list ++ [rd people i]) ++ grp most (people.drop (i + 1)) list) := by
     rw [drop_rd people i hlt]; simp only [grp]; rw [if_pos hls]
    have HGRP := Aside0.mk hgrp
    have hful : doneI ++ (list ++ [rd people i]) :: (grp most (people.drop (i + 1)) (list ++ [rd people i]) ++ grp most (people.drop (i + 1)) list ++ rest) = full := by
     rw [← HFULL.out, ← HG.out, hgrp]; simp
    have HFUL := Aside0.mk hful
    have HLT := Aside0.mk hlt
    clear e1 hRr hgrp hful HR HN HCL hHeld hls hlt c1b
    have hK1 := Kept.below HKI.out HB4.out
    have HK1 := Aside0.mk hK1
    have h3' := (HC.out _ hK1).c
    clear hK1
    go_wp2_with (((with_reducible refine gate_dst (N := 33) rfl ?_); refine goesV_ (some 33) rfl rfl HF.out hname hbody cap #[.slice Ao30 (list.length + 1) co30] rfl rfl (by simp; rfl) ?_; refine (HEA.out.call _ _ _ _ _ _ _ HFUL.out HII.out HB4.out HR'.out).mono ?_; rintro e w30 ⟨rfl, m2, hI2, hm2, hk2⟩; refine ⟨_, rfl, ?_⟩; have HI2 := Aside0.mk hI2; have HM2 := Aside0.mk hm2; have HK2 := Aside0.mk hk2; clear hI2 hm2 hk2; obtain ⟨g1, g2⟩ := groups_mid HC.out HK1.out HMI.out HKI.out.1 HB4.out.size HK2.out HM2.out (HEA.out.bound _ _ _ HII.out) HR'.out; have h4' := (g1 _ (Kept.refl _ _)).d; have G1 := Aside0.mk g1; have G2 := Aside0.mk g2; clear g1 g2))
    refine calls_of_args (args' := #[.int .i64 ((i + 1 : Nat) : Int), .slice Ao30 (list ++ [rd people i]).length co30, .pointer (some ⟨pa, 0, none⟩), .pointer (some ⟨pm, 0, none⟩), .pointer (some ⟨pe, 0, none⟩), .pointer (some ⟨po, 0, none⟩)]) ?ha ?_
    case ha => simp
    refine (IH.out (people.length - (i + 1)) (by have := HLT.out; have := HD.out; have := HB.out; omega) (i + 1) (by have := HLT.out; omega) (list ++ [rd people i]) (doneI ++ [list ++ [rd people i]]) (grp most (people.drop (i + 1)) list ++ rest) m2 w30 Ao30 co30 ?hy1 HI2.out G1.out ?hy2 ?hy3).mono ?_
    case hy1 => have := HFUL.out; simpa using this
    case hy2 => have := G2.out; simpa using this
    case hy3 => have := (Kd.R_reads' HR'.out).2.1; simpa using this
    rintro e w31 ⟨rfl, m3, hI3, hm3, hk3⟩
    have HI3 := Aside0.mk hI3
    have HM3 := Aside0.mk hm3
    have HK3 := Aside0.mk hk3
    clear hI3 hm3 hk3
    go_wp2
    go_roundw
    case rel =>
     refine ⟨i + 1, doneI ++ [list ++ [rd people i]] ++ grp most (people.drop (i + 1)) (list ++ [rd people i]), m3, by go_num, ⟨by have := HB.out; omega, by have := HLT.out; omega⟩, ⟨?_⟩, HI3, ⟨fun k hk => ?_⟩, ⟨?_⟩⟩
     ·rw [← HG.out, HGRP.out]; simp
     ·have hsz : w.heap.size ≤ w28.heap.size := HK1.out.1
      have hsz2 : w28.heap.size ≤ w30.heap.size := HK2.out.1
      rcases HM3.out k hk with h | h
      ·rcases HM2.out k h with h | h
       ·exact HMI.out k h
       ·exact .inr (by omega)
      ·exact .inr (by omega)
     ·have hsz : w.heap.size ≤ w28.heap.size := HK1.out.1
      exact (HK1.out.then_ HK2.out HMI.out).then_ HK3.out (fun k hk => by
       rcases HM2.out k hk with h | h
       ·exact HMI.out k h
       ·exact .inr (by omega))
    case measure => have := HLT.out; simp [intOf]; omega
   ·have c0b : decide ((i : Int) < (people.length : Int)) = true := by simpa using hlt
    have c1b : decide ((list.length : Int) < most) = false := by simpa using hls
    go_wp2
    go_end0
    rw [grp_full most (people.drop i) list (by omega), List.append_nil] at HG
    exact ⟨rfl, mI, HG.out ▸ HII.out, HMI.out, HKI.out⟩
  ·have c0b : decide ((i : Int) < (people.length : Int)) = false := by simpa using hlt
   go_wp2
   go_end0
   have hi : people.drop i = [] := List.drop_eq_nil_of_le (by omega)
   rw [hi] at HG
   simp only [grp, List.append_nil] at HG
   exact ⟨rfl, mI, HG.out ▸ HII.out, HMI.out, HKI.out⟩
theorem cell_new {w : World} {cs : Array Value} {E : TypeId} {a : Nat} (h : w.heap.size = a) {v : Value} (hv : cs[0]? = some v) : (w.alloc (.cells cs E)).cell? ⟨a, 0, none⟩ = some v := by
 rw [World.cell?_alloc_at _ _ _ _ h.symm]; exact hv
theorem cell_on {w : World} {o : Obj} {a : Nat} {v : Value} (h : w.cell? ⟨a, 0, none⟩ = some v) : (w.alloc o).cell? ⟨a, 0, none⟩ = some v := by
 rw [World.cell?_alloc_past _ _ _ (World.block_lt_of_cell? w _ h)]; exact h
theorem caught_new (f : FuncId) (cap : Array Value) (Ap : Option Addr) (cp : Nat) (people : List Int) (most : Int) (m : Nat → Prop) (w W : World) (hm : ∀ k, m k → k < w.heap.size) (hp : ∀ w', Kept w w' m → Kd.C (Kd.int .i64) w' Ap people.length people)
  (hW : W = ((((w.alloc (.cells #[.slice Ap people.length cp] 32)).alloc (.cells #[.int .i64 most] 3)).alloc (.cells #[.func (.func f) #[] cap] 195)).alloc (.cells #[.func (.func 281) #[] #[.pointer (some ⟨w.heap.size, 0, none⟩), .pointer (some ⟨w.heap.size + 1, 0, none⟩), .pointer (some ⟨w.heap.size + 1 + 1, 0, none⟩), .pointer (some ⟨w.heap.size + 1 + 1 + 1, 0, none⟩)]] 248))) :
  Below w.heap.size w W ∧ ∀ w', Kept W w' m → Caught f cap w.heap.size (w.heap.size + 1) (w.heap.size + 1 + 1) (w.heap.size + 1 + 1 + 1) Ap cp people most w' := by
 have hb : Below w.heap.size w W := by subst hW; exact below_alloc (below_alloc (below_alloc (below_alloc (Below.refl _ _) _) _) _) _
 refine ⟨hb, fun w' hk => ⟨?_, ?_, ?_, ?_, ?_⟩⟩
 ·refine cell_kept ?_ hk (fun h => by have : w.heap.size < w.heap.size := hm _ h; omega)
  subst hW
  exact cell_on (cell_on (cell_on (cell_new rfl rfl)))
 ·refine cell_kept ?_ hk (fun h => by have : w.heap.size + 1 < w.heap.size := hm _ h; omega)
  subst hW
  exact cell_on (cell_on (cell_new (by simp) rfl))
 ·refine cell_kept ?_ hk (fun h => by have : w.heap.size + 1 + 1 < w.heap.size := hm _ h; omega)
  subst hW
  exact cell_on (cell_new (by simp) rfl)
 ·refine cell_kept ?_ hk (fun h => by have : w.heap.size + 1 + 1 + 1 < w.heap.size := hm _ h; omega)
  subst hW
  exact cell_new (by simp) rfl
 ·exact hp _ ((Kept.of_below hb m).then_ hk (fun _ h => .inl h))
set_option maxHeartbeats 1600000 in
set_option maxRecDepth 100000 in
theorem groups_runs (f : FuncId) (cap : Array Value) (Ap : Option Addr) (cp : Nat) (people : List Int) (most : Int) (hmost : most ≤ 1048576) (I : List (List Int) → (Nat → Prop) → World → Prop) (hEach : Each f cap (grp most people []) I) (m : Nat → Prop) (w : World)
  (hI : I [] m w) (hp : ∀ w', Kept w w' m → Kd.C (Kd.int .i64) w' Ap people.length people) :
  Calls Try.prog 201 #[.slice Ap people.length cp, .int .i64 most, .func (.func f) #[] cap] w fun e w' =>
   e = .returned (.tuple #[]) ∧ ∃ m', I (grp most people []) m' w' ∧ (∀ k, m' k → m k ∨ w.heap.size ≤ k) ∧ Kept w w' m := by
 have hmf : ∀ (fn : Fn) (first cap : Array Value) (w : World), (Instr.makeFunc fn first cap).run Try.prog w = .ok (.func fn first cap) w := fun _ _ _ _ => rfl
 have HI := Aside0.mk hI
 have HP := Aside0.mk hp
 have HEA := Aside0.mk hEach
 clear hI hp hEach
 go_enter Try.func201, Try.ntmps201
 go_wp2_with fail
 obtain ⟨W, hW⟩ : ∃ W, W = ((((w.alloc (.cells #[.slice Ap people.length cp] 32)).alloc (.cells #[.int .i64 most] 3)).alloc (.cells #[.func (.func f) #[] cap] 195)).alloc (.cells #[.func (.func 281) #[] #[.pointer (some ⟨w.heap.size, 0, none⟩), .pointer (some ⟨w.heap.size + 1, 0, none⟩), .pointer (some ⟨w.heap.size + 1 + 1, 0, none⟩), .pointer (some ⟨w.heap.size + 1 + 1 + 1, 0, none⟩)]] 248)) := ⟨_, rfl⟩
 obtain ⟨hb, hC⟩ := caught_new f cap Ap cp people most m w W (HEA.out.bound _ _ _ HI.out) HP.out hW
 rw [← hW]
 refine calls_of_args (args' := #[.int .i64 ((0 : Nat) : Int), .slice none ([] : List Int).length 0, .pointer (some ⟨w.heap.size, 0, none⟩), .pointer (some ⟨w.heap.size + 1, 0, none⟩), .pointer (some ⟨w.heap.size + 1 + 1, 0, none⟩), .pointer (some ⟨w.heap.size + 1 + 1 + 1, 0, none⟩)]) rfl ?_
 have HB := Aside0.mk hb
 have HC := Aside0.mk hC
 clear hW hb hC
 refine (groups_on f cap (grp most people []) I HEA.out _ _ _ _ Ap cp people most hmost people.length 0 (by omega) [] [] [] m W none 0 (by simp) (HEA.out.later _ _ _ _ HI.out HB.out) HC.out (fun w' _ => Kd.C_nil _ _) (by simp)).mono ?_
 rintro e w1 ⟨rfl, m', hI', hm', hk'⟩
 have HI' := Aside0.mk hI'
 have HM' := Aside0.mk hm'
 have HK' := Aside0.mk hk'
 clear hI' hm' hk'
 go_wp2
 go_end0
 exact ⟨rfl, m', by have := HI'.out; simpa using this, fun k hk => (HM'.out k hk).imp_right (fun h => Nat.le_trans HB.out.size h), (Kept.of_below HB.out m).then_ HK'.out (fun _ h => .inl h)⟩
end Go.Proofs.Ytlkjglanglpdoaa.T
namespace Go.Proofs.Ytlkjglanglpdoaa.T
open Go.RowKit Go.Proofs.YtlkjglanglpdoaaW.PrintWords Go.Proofs.YtlkjglanglpdoaaW.PrintLast Go.Proofs.YtlkjglanglpdoaaW.PrintMore
attribute [local go_sem] max2_int min2_int max_two min_two max_three min_three max_four min_four
set_option linter.unusedVariables false
set_option linter.unusedSimpArgs false
def impl_Places_standing.l0 : Nat → Int → List Int → List Int → Int → Int → Option (List Int)
 | 0, _, _, _, _, _ => none
 | k + 1, x1, x5, x10, x11, x12 => if x12 < x11 then (if 0 ≤ x12 then (if x12 < (x10.length : Int) then (if (rd x10 x12) = x1 then (if x5.length < 17592186044416 then (impl_Places_standing.l0 k x1 (x5 ++ [x12]) x10 x11 (wrap64 (x12 + 1))) else (none)) else (impl_Places_standing.l0 k x1 x5 x10 x11 (wrap64 (x12 + 1)))) else (none)) else (none)) else (some x5)
def impl_Places_standing.f (k : Nat) (l0_0 : List Int) (a0_1 : Int) (a1 : Int) : Option (List Int) := impl_Places_standing.l0 k a1 (([] : List Int)) l0_0 (l0_0.length : Int) 0
theorem impl_Places_standing.mono_l : ∀ k, (∀ y0 y1 y2 y3 y4, LeO (impl_Places_standing.l0 k y0 y1 y2 y3 y4) (impl_Places_standing.l0 (k + 1) y0 y1 y2 y3 y4))
 | 0 => fun _ _ _ _ _ r h => by simp [impl_Places_standing.l0] at h
 | k + 1 => by
  have ih0 := impl_Places_standing.mono_l k
  ·intro y0 y1 y2 y3 y4
   unfold impl_Places_standing.l0
   repeat' first
   | (with_reducible exact ih0 _ _ _ _ _)
   | (with_reducible exact LeO.refl _)
   | (with_reducible exact LeO.none _)
   | (with_reducible refine LeO.ite ?_ ?_)
   | (with_reducible refine LeO.bind ?_ (fun _ => ?_))
   | exact ih0 _ _ _ _ _
   | exact LeO.none _
   | refine LeO.ite ?_ ?_
   | refine LeO.bind ?_ (fun _ => ?_)
theorem impl_Places_standing.mono : ∀ a0 a1 a2 k, LeO (impl_Places_standing.f k a0 a1 a2) (impl_Places_standing.f (k + 1) a0 a1 a2) := by
 intro a0 a1 a2 k
 have ih0 := impl_Places_standing.mono_l k
 unfold impl_Places_standing.f
 repeat' first
   | (with_reducible exact ih0 _ _ _ _ _)
   | (with_reducible exact LeO.refl _)
   | (with_reducible exact LeO.none _)
   | (with_reducible refine LeO.ite ?_ ?_)
   | (with_reducible refine LeO.bind ?_ (fun _ => ?_))
   | exact ih0 _ _ _ _ _
   | exact LeO.none _
   | refine LeO.ite ?_ ?_
   | refine LeO.bind ?_ (fun _ => ?_)
set_option maxHeartbeats 8000000 in
set_option maxRecDepth 100000 in
theorem impl_Places_standing.calls (k : Nat) (A0_0 : Option Addr) (c0_0 : Nat) (l0_0 : List Int) (a0_1 : Int) (a1 : Int) (r : List Int) (w : World) (hr0_0 : Kd.C (Kd.int .i64) w A0_0 l0_0.length l0_0) (hc0_0 : l0_0.length ≤ c0_0) (h : impl_Places_standing.f k l0_0 a0_1 a1 = some r) :
  Calls Try.prog 269 #[.agg #[.slice A0_0 l0_0.length c0_0, .int .i64 a0_1], .int .i64 a1] w fun e w' => ∃ v0_ : Value, e = .returned (v0_) ∧ Kd.R (Kd.int .i64) 3 w' w.heap.size (fun _ => True) v0_ r ∧ Below w.heap.size w w' := by
 have hu64 := Try.underlying64
 have HR0_0 := Aside0.mk hr0_0
 have HC0_0 := Aside0.mk hc0_0
 clear hr0_0 hc0_0
 have HB := Aside0.mk (Below.refl w.heap.size w)
 have H : (impl_Places_standing.l0 k a1 (([] : List Int)) l0_0 (l0_0.length : Int) 0) = some r := h
 clear h
 obtain ⟨y1008, hy1008⟩ : ∃ y_ : List Int, y_ = (([] : List Int)) := ⟨_, rfl⟩
 replace H : (impl_Places_standing.l0 k a1 y1008 l0_0 (l0_0.length : Int) 0) = some r := by first | (rw [hy1008]; with_reducible exact H) | (have H2_ := (Option.bind_some _ _).symm.trans H; rw [hy1008]; with_reducible exact H2_) | (have H2_ := (Option.bind_some _ _).symm.trans H; with_reducible exact H2_) | with_reducible exact H | (rw [hy1008]; exact H) | exact H
 have Ny1008 := Aside0.mk hy1008
 clear hy1008
 have H' := Aside0.mk H
 clear H
 go_enter Try.func269, Try.ntmps269
 go_wp2_with (first | ((with_reducible refine gate_dst (N := 2) rfl ?_); refine box_event ?hg (N := 2) ?hd (cs := #[.slice A0_0 l0_0.length c0_0, .int .i64 a0_1]) (t := 64) ?hr ?_; (case hd => rfl); (case hg => rfl); (case hr => first | (go_simp; done) | (go_simp; rfl)); intro gb1007 hg w3 hbox hb; have n0_ := Aside0.mk (below_step (by repeat (first | (with_reducible first | exact HB.out | apply below_alloc | apply pw_below_drewN | apply below_drew1) | exact HB.out)) hb); have n1_ := Aside0.mk (hbox); have n2_ := Aside0.mk ((by rw [hg]; exact (below_size (by repeat (first | (with_reducible first | exact HB.out | apply below_alloc | apply pw_below_drewN | apply below_drew1) | exact HB.out))) : w.heap.size ≤ gb1007)); have n3_ := Aside0.mk ((by rw [hg]; exact (below_size (by repeat (first | (with_reducible first | exact HB.out | apply below_alloc | apply pw_below_drewN | apply below_drew1) | exact HB.out))) : w.heap.size ≤ gb1007)); clear HB; have HB := n0_; have BK1007 := n1_; have GW1007 := n2_; have GE1007 := n3_; clear n0_ n1_ n2_ n3_; clear hb hbox hg) | ((with_reducible refine gate_dst (N := 8) rfl ?_); refine Kd.R_lit (Kd.int .i64) _ 3 ?hg (N := 8) ?hd (xs := ([] : List Int)) (inner := []) (ok := fun _ => True) (okp := fun _ => True) ?hr ?hp (fun _ hk => hk) trivial (Below.refl _ _) (Nat.le_refl _) (by simp) ?_; (case hd => rfl); (case hg => rfl); (case hr => first | (go_simp; done) | (go_simp; rfl)); (case hp => exact (Reps.none _ _)); intro v1009 w4 ho5 hb hg_ hnew_; clear hg_ hnew_; (first | rw [← Ny1008.out] at ho5 | (simp only [Int.reduceToNat] at ho5; rw [← Ny1008.out] at ho5)); have n0_ := Aside0.mk (Kd.R_lower ho5 (below_size (by repeat (first | (with_reducible first | exact HB.out | apply below_alloc | apply pw_below_drewN | apply below_drew1 | refine below_set ?_ GE1007.out) | exact HB.out)))); have n1_ := Aside0.mk (blk_below (g := gb1007) (o := .cells #[.slice A0_0 l0_0.length c0_0, .int .i64 a0_1] 64 (0, 0)) (by (with_reducible repeat (first | refine blk_drewN ?_ _ | refine blk_drew ?_ | refine blk_alloc ?_ _)); exact BK1007.out) hb); have n2_ := Aside0.mk (below_step (by repeat (first | (with_reducible first | exact HB.out | apply below_alloc | apply pw_below_drewN | apply below_drew1 | refine below_set ?_ GE1007.out) | exact HB.out)) hb); clear BK1007; clear HB; have HO1010 := n0_; have BK1007 := n1_; have HB := n2_; clear n0_ n1_ n2_; clear hb ho5; have hcz6_0 : w4.cell? ⟨gb1007, 0, none⟩ = some (.slice A0_0 l0_0.length c0_0) := (blk_cell BK1007.out 0).trans rfl; have hcz6_1 : w4.cell? ⟨gb1007, 1, none⟩ = some (.int .i64 a0_1) := (blk_cell BK1007.out 1).trans rfl; have hfz6_0 := blk_frozen BK1007.out 0; have hfz6_1 := blk_frozen BK1007.out 1))
 go_loopg [5, 12] k (fun kq v5 v12 w' => ∃ (x5_1 : List Int) (x12_1 : Int), v12 = .int .i64 x12_1 ∧ Aside0 (impl_Places_standing.l0 kq a1 x5_1 l0_0 (l0_0.length : Int) x12_1 = some r) ∧ Aside0 (kq ≤ k) ∧ Aside0 (Kd.R (Kd.int .i64) 3 w' w.heap.size (fun _ => True) v5 x5_1) ∧ Aside0 (w'.heap[gb1007]? = some (.cells #[(.slice A0_0 l0_0.length c0_0), .int .i64 a0_1] 64 (0, 0))) ∧ Aside0 (Below w.heap.size w w'))
 case atStart => exact ⟨(y1008), (0), (by first | rfl | (simp; done) | (simp [*]; done)), H', ⟨Nat.le_refl _⟩, ⟨by (with_reducible repeat (first | apply Kd.R_alloc | apply Kd.R_drewN | apply Kd.R_drew)); exact HO1010.out⟩, ⟨by (with_reducible repeat (first | refine blk_drewN ?_ _ | refine blk_drew ?_ | refine blk_alloc ?_ _)); exact BK1007.out⟩, ⟨by repeat (first | (with_reducible first | exact HB.out | apply below_alloc | apply pw_below_drewN | apply below_drew1 | refine below_set ?_ GE1007.out) | exact HB.out)⟩⟩
 case round =>
  clear H'
  try clear c2
  try clear p2
  try clear hcz6_0
  try clear hcz6_1
  try clear hfz6_0
  try clear hfz6_1
  obtain ⟨x5_1, x12_1, rfl, HA, HK1, HO_5, BK1007, HB⟩ := hrel
  cases gk with
  | zero => exact absurd HA.out (by simp [impl_Places_standing.l0])
  | succ k1 =>
   have H := HA.out
   clear HA
   simp only [impl_Places_standing.l0] at H
   by_cases c7 : x12_1 < (l0_0.length : Int)
   ·rw [if_pos c7] at H
    have c7b0 : decide (x12_1 < (l0_0.length : Int)) = true := decide_eq_true c7
    clear c7
    by_cases c8 : 0 ≤ x12_1
    ·rw [if_pos c8] at H
     have c8b0 : decide (0 ≤ x12_1) = true := decide_eq_true c8
     clear c8
     by_cases c9 : x12_1 < (l0_0.length : Int)
     ·rw [if_pos c9] at H
      have c9b0 : decide (x12_1 < (l0_0.length : Int)) = true := decide_eq_true c9
      clear c9
      by_cases c10 : (rd l0_0 x12_1) = a1
      ·rw [if_pos c10] at H
       have c10b0 : ((rd l0_0 x12_1) == a1) = true := beq_iff_eq.mpr c10
       have c10b1 : ((rd l0_0 x12_1) != a1) = false := bne_eq_false_iff_eq.mpr c10
       clear c10
       by_cases c11 : x5_1.length < 17592186044416
       ·rw [if_pos c11] at H
        have LMc11 := Aside0.mk c11
        clear c11
        obtain ⟨y1012, hy1012⟩ : ∃ y_ : List Int, y_ = (x5_1 ++ [x12_1]) := ⟨_, rfl⟩
        replace H : (impl_Places_standing.l0 k1 a1 y1012 l0_0 (l0_0.length : Int) (wrap64 (x12_1 + 1))) = some r := by first | (rw [hy1012]; with_reducible exact H) | (have H2_ := (Option.bind_some _ _).symm.trans H; rw [hy1012]; with_reducible exact H2_) | (have H2_ := (Option.bind_some _ _).symm.trans H; with_reducible exact H2_) | with_reducible exact H | (rw [hy1012]; exact H) | exact H
        have Ny1012 := Aside0.mk hy1012
        clear hy1012
        have H' := Aside0.mk H
        clear H
        have p1011 : 0 ≤ (x12_1 : Int) := of_decide_eq_true (by first | (with_reducible assumption) | assumption)
        have q1011 : x12_1 < (l0_0.length : Int) := of_decide_eq_true (by first | (with_reducible assumption) | assumption)
        obtain ⟨ad1011, e1011, hx1011_0⟩ := Kd.at_int HR0_0.out x12_1 p1011 q1011
        cases e1011
        replace hx1011_0 := (HB.out.cell (World.block_lt_of_cell? w _ hx1011_0)).trans hx1011_0
        replace p1011 := eq_true p1011
        replace q1011 := eq_true q1011
        go_wp2_with (first | ((with_reducible refine gate_builtin (b := .append) (xs := #[.tmp 20, .tmp 22]) rfl ?_); at_builtin; refine Kd.R_append (Kd.int .i64) (w0 := w) w.heap.size rfl (.tmp 20) (.tmp 22) 32 3 (.int .i64 0) 8 rfl Try.underlying32 info3 rfl (by decide) (by omega) u5 x5_1 x12_1 [.int .i64 x12_1] (fun _ => True) (fun _ => False) rfl rfl ?aP (fun _ hk => hk.elim) ?aF ?aO ?aB ?aS ?aL ?_; (case aP => exact rfl); (case aB => exact (by repeat (first | (with_reducible first | exact HB.out | apply below_alloc | apply pw_below_drewN | apply below_drew1 | refine below_set ?_ GE1007.out) | exact HB.out))); (case aF => exact (fun _ _ => trivial)); (case aO => exact (by (with_reducible repeat (first | apply Kd.R_alloc | apply Kd.R_drewN | apply Kd.R_drew)); exact HO_5.out)); (case aS => exact (below_size (by repeat (first | (with_reducible first | exact HB.out | apply below_alloc | apply pw_below_drewN | apply below_drew1 | refine below_set ?_ GE1007.out) | exact HB.out)))); (case aL => have := LMc11.out; omega); intro v1013 w12 ho hb hg hat; rw [← Ny1012.out] at ho; have n0_ := Aside0.mk (blk_grown (g := gb1007) (o := .cells #[.slice (some ad1011) l0_0.length c0_0, .int .i64 a0_1] 64 (0, 0)) (by (with_reducible repeat (first | refine blk_drewN ?_ _ | refine blk_drew ?_ | refine blk_alloc ?_ _)); exact BK1007.out) hg (Kd.R_ne HO_5.out BK1007.out (by decide))); have n1_ := Aside0.mk (hb); have n2_ := Aside0.mk (ho); clear BK1007; clear HB; clear HO_5; have BK1007 := n0_; have HB := n1_; have HO1014 := n2_; clear n0_ n1_ n2_; clear ho hb hg hat))
        go_roundg k1
        case measure => have := HK1.out; omega
        case rel => exact ⟨(y1012), (wrap64 (x12_1 + 1)), (by first | rfl | (simp; done) | (simp [*]; done)), H', ⟨by have := HK1.out; omega⟩, ⟨by (with_reducible repeat (first | apply Kd.R_alloc | apply Kd.R_drewN | apply Kd.R_drew)); exact HO1014.out⟩, ⟨by (with_reducible repeat (first | refine blk_drewN ?_ _ | refine blk_drew ?_ | refine blk_alloc ?_ _)); exact BK1007.out⟩, ⟨by repeat (first | (with_reducible first | exact HB.out | apply below_alloc | apply pw_below_drewN | apply below_drew1 | refine below_set ?_ GE1007.out) | exact HB.out)⟩⟩
       ·rw [if_neg c11] at H
        exact absurd H (by simp)
      ·rw [if_neg c10] at H
       have c10b0 : ((rd l0_0 x12_1) == a1) = false := beq_eq_false_iff_ne.mpr c10
       have c10b1 : ((rd l0_0 x12_1) != a1) = true := bne_iff_ne.mpr c10
       have H' := Aside0.mk H
       clear H
       have p1011 : 0 ≤ (x12_1 : Int) := of_decide_eq_true (by first | (with_reducible assumption) | assumption)
       have q1011 : x12_1 < (l0_0.length : Int) := of_decide_eq_true (by first | (with_reducible assumption) | assumption)
       obtain ⟨ad1011, e1011, hx1011_0⟩ := Kd.at_int HR0_0.out x12_1 p1011 q1011
       cases e1011
       replace hx1011_0 := (HB.out.cell (World.block_lt_of_cell? w _ hx1011_0)).trans hx1011_0
       replace p1011 := eq_true p1011
       replace q1011 := eq_true q1011
       go_wp2
       go_roundg k1
       case measure => have := HK1.out; omega
       case rel => exact ⟨(x5_1), (wrap64 (x12_1 + 1)), (by first | rfl | (simp; done) | (simp [*]; done)), H', ⟨by have := HK1.out; omega⟩, ⟨by (with_reducible repeat (first | apply Kd.R_alloc | apply Kd.R_drewN | apply Kd.R_drew)); exact HO_5.out⟩, ⟨by (with_reducible repeat (first | refine blk_drewN ?_ _ | refine blk_drew ?_ | refine blk_alloc ?_ _)); exact BK1007.out⟩, ⟨by repeat (first | (with_reducible first | exact HB.out | apply below_alloc | apply pw_below_drewN | apply below_drew1 | refine below_set ?_ GE1007.out) | exact HB.out)⟩⟩
     ·rw [if_neg c9] at H
      exact absurd H (by simp)
    ·rw [if_neg c8] at H
     exact absurd H (by simp)
   ·rw [if_neg c7] at H
    have c7b0 : decide (x12_1 < (l0_0.length : Int)) = false := decide_eq_false c7
    clear c7
    obtain rfl := Option.some.inj H
    go_wp2
    go_ret
    exact ⟨_, by first | rfl | (simp [errW_none, errW_some] <;> rfl) | (simp [*, errW_none, errW_some] <;> rfl), by (with_reducible repeat (first | apply Kd.R_alloc | apply Kd.R_drewN | apply Kd.R_drew)); exact HO_5.out, by repeat (first | (with_reducible first | exact HB.out | apply below_alloc | apply pw_below_drewN | apply below_drew1 | refine below_set ?_ GE1007.out) | exact HB.out)⟩
end Go.Proofs.Ytlkjglanglpdoaa.T
namespace Go.Proofs.Ytlkjglanglpdoaa.T
open Go.RowKit Go.Proofs.YtlkjglanglpdoaaW.PrintWords Go.Proofs.YtlkjglanglpdoaaW.PrintLast Go.Proofs.YtlkjglanglpdoaaW.PrintMore
attribute [local go_sem] max2_int min2_int max_two min_two max_three min_three max_four min_four
set_option linter.unusedVariables false
set_option linter.unusedSimpArgs false
def impl_Isles_far.f (a0_0 : Int) (a0_1 : Int) (a0_2 : Int) : Option (Int) := some (wrap64 (a0_2 + 1))
set_option maxHeartbeats 8000000 in
set_option maxRecDepth 100000 in
theorem impl_Isles_far.calls (a0_0 : Int) (a0_1 : Int) (a0_2 : Int) (r : Int) (w : World) (h : impl_Isles_far.f a0_0 a0_1 a0_2 = some r) :
  Calls Try.prog 189 #[.agg #[.int .i64 a0_0, .int .i64 a0_1, .int .i64 a0_2]] w fun e w' => e = .returned (.int .i64 r) ∧ Below w.heap.size w w' := by
 have hu39 := Try.underlying39
 have HB := Aside0.mk (Below.refl w.heap.size w)
 have H : (some (wrap64 (a0_2 + 1))) = some r := h
 clear h
 obtain rfl := Option.some.inj H
 go_enter Try.func189, Try.ntmps189
 go_wp2_with (first | ((with_reducible refine gate_dst (N := 1) rfl ?_); refine box_event ?hg (N := 1) ?hd (cs := #[.int .i64 a0_0, .int .i64 a0_1, .int .i64 a0_2]) (t := 39) ?hr ?_; (case hd => rfl); (case hg => rfl); (case hr => first | (go_simp; done) | (go_simp; rfl)); intro gb992 hg w2 hbox hb; have n0_ := Aside0.mk (below_step (by repeat (first | (with_reducible first | exact HB.out | apply below_alloc | apply pw_below_drewN | apply below_drew1) | exact HB.out)) hb); have n1_ := Aside0.mk (hbox); have n2_ := Aside0.mk ((by rw [hg]; exact (below_size (by repeat (first | (with_reducible first | exact HB.out | apply below_alloc | apply pw_below_drewN | apply below_drew1) | exact HB.out))) : w.heap.size ≤ gb992)); have n3_ := Aside0.mk ((by rw [hg]; exact (below_size (by repeat (first | (with_reducible first | exact HB.out | apply below_alloc | apply pw_below_drewN | apply below_drew1) | exact HB.out))) : w.heap.size ≤ gb992)); clear HB; have HB := n0_; have BK992 := n1_; have GW992 := n2_; have GE992 := n3_; clear n0_ n1_ n2_ n3_; clear hb hbox hg; have hcz3_0 : w2.cell? ⟨gb992, 0, none⟩ = some (.int .i64 a0_0) := (blk_cell BK992.out 0).trans rfl; have hcz3_1 : w2.cell? ⟨gb992, 1, none⟩ = some (.int .i64 a0_1) := (blk_cell BK992.out 1).trans rfl; have hcz3_2 : w2.cell? ⟨gb992, 2, none⟩ = some (.int .i64 a0_2) := (blk_cell BK992.out 2).trans rfl; have hfz3_0 := blk_frozen BK992.out 0; have hfz3_1 := blk_frozen BK992.out 1; have hfz3_2 := blk_frozen BK992.out 2))
 go_ret
 exact ⟨by first | rfl | (simp [errW_none, errW_some] <;> rfl) | (simp [*, errW_none, errW_some] <;> rfl), by repeat (first | (with_reducible first | exact HB.out | apply below_alloc | apply pw_below_drewN | apply below_drew1 | refine below_set ?_ GE992.out) | exact HB.out)⟩
end Go.Proofs.Ytlkjglanglpdoaa.T
