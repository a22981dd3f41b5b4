/-
  Texts of a proof, laid together by a program of mine: Tf59, H6, H7, H9a, H9b, H10, H11, Tf140, Tf145, Tf31, Tf32, H12.
-/
import Derived.Test.YtlkjglanglpdoaaProg
import Derived.Below
import Derived.Deep.Draws
import Derived.Deep.AppendLies
import Derived.Maps.AppendAt
import Derived.OwnWalk
import Derived.Laws.BytesArg
import Derived.Laws.MakeOwn
import Derived.Laws.OwnMore
import Derived.Deep.OwnRows
import Derived.Tactics
import Derived.Lib.ConvBytes
import Derived.Laws.Slices
import Derived.WalkKit
import Derived.KernelRfl
import Derived.RowKit3
import Derived.Deep.LoopGhost
import Derived.Deep.QuietTactic
import Derived.BigQuiet
import Derived.WideLaws
import Derived.Deep.DeepCutAuto
import Derived.Deep.CutBlock
import Derived.Deep.RegionHeld3
import Derived.Laws.Rows
import Derived.Lib.AppendStr
import Derived.ArgAppend
import Derived.Laws.IdiomCopy
import Derived.OrdersHeld
import Derived.Laws.BitsLemmas
import Derived.RowKit
import Derived.Laws.StructEq
import Derived.Lib.SliceRun
import Derived.BigRegion
import Derived.Laws.CopyOwn
import Derived.Laws.BitsAllLaws
import Derived.Laws.EntriesVeiled
import Derived.Test.YtlkjglanglpdoaaRows
import Derived.ProofKit
import Derived.OpenShut
import Derived.ChangeOld
import Derived.SizedLaws
import Derived.Lib.SmallJoins
import Derived.Test.YtlkjglanglpdoaaQ6a
import Derived.Test.YtlkjglanglpdoaaQ6d
import Derived.Test.YtlkjglanglpdoaaQ6e
import Derived.Test.YtlkjglanglpdoaaQ6f
import Derived.Test.YtlkjglanglpdoaaQ6g
namespace Go.Proofs.Ytlkjglanglpdoaa.T
open Go.RowKit Go.Proofs.YtlkjglanglpdoaaW.PrintWords Go.Proofs.YtlkjglanglpdoaaW.PrintLast Go.Proofs.YtlkjglanglpdoaaW.PrintMore
attribute [local go_sem] max2_int min2_int max_two min_two max_three min_three max_four min_four
set_option linter.unusedVariables false
set_option linter.unusedSimpArgs false
def impl_IsIsles.f (a0_0 : Int) (a0_1 : Int) (a0_2 : Int) : Option (Bool) := (impl_in.f a0_0 1 3).bind fun t989 => (if t989 = true then ((impl_in.f a0_1 1 3).bind fun t990 => (if t990 = true then ((impl_in.f a0_2 0 2).bind fun t991 => (some t991)) else (some false))) else (some false))
set_option maxHeartbeats 8000000 in
set_option maxRecDepth 100000 in
theorem impl_IsIsles.calls (a0_0 : Int) (a0_1 : Int) (a0_2 : Int) (r : Bool) (w : World) (h : impl_IsIsles.f a0_0 a0_1 a0_2 = some r) :
    Calls Try.prog 59 #[.agg #[.int .i64 a0_0, .int .i64 a0_1, .int .i64 a0_2]] w fun e w' => e = .returned (.bool r) ∧ Below w.heap.size w w' := by
  have hu39 := Try.underlying39
  have HB := Aside0.mk (Below.refl w.heap.size w)
  have H : ((impl_in.f a0_0 1 3).bind fun t989 => (if t989 = true then ((impl_in.f a0_1 1 3).bind fun t990 => (if t990 = true then ((impl_in.f a0_2 0 2).bind fun t991 => (some t991)) else (some false))) else (some false))) = some r := h
  clear h
  replace H := Option.bind_eq_some_iff.mp H
  obtain ⟨t989, A20, H⟩ := H
  replace H : (if t989 = true then ((impl_in.f a0_1 1 3).bind fun t990 => (if t990 = true then ((impl_in.f a0_2 0 2).bind fun t991 => (some t991)) else (some false))) else (some false)) = some r := H
  have A2 := Aside0.mk A20
  clear A20
  by_cases c3 : t989 = true
  · subst c3
    have H1 : ((impl_in.f a0_1 1 3).bind fun t990 => (if t990 = true then ((impl_in.f a0_2 0 2).bind fun t991 => (some t991)) else (some false))) = some r := by rw [if_pos rfl] at H; exact H
    clear H
    have H := H1
    clear H1
    replace H := Option.bind_eq_some_iff.mp H
    obtain ⟨t990, A40, H⟩ := H
    replace H : (if t990 = true then ((impl_in.f a0_2 0 2).bind fun t991 => (some t991)) else (some false)) = some r := H
    have A4 := Aside0.mk A40
    clear A40
    by_cases c5 : t990 = true
    · subst c5
      have H1 : ((impl_in.f a0_2 0 2).bind fun t991 => (some t991)) = some r := by rw [if_pos rfl] at H; exact H
      clear H
      have H := H1
      clear H1
      replace H := Option.bind_eq_some_iff.mp H
      obtain ⟨t991, A60, H⟩ := H
      replace H : (some t991) = some r := H
      have A6 := Aside0.mk A60
      clear A60
      obtain rfl := Option.some.inj H
      go_enter Try.func59, Try.ntmps59
      go_wp2_with (first | ((with_reducible refine gate_dst (N := 1) rfl ?_); refine box_event ?hg (N := 1) ?hd (cs := #[.int .i64 a0_0, .int .i64 a0_1, .int .i64 a0_2]) (t := 39) ?hr ?_; (case hd => rfl); (case hg => rfl); (case hr => first | (go_simp; done) | (go_simp; rfl)); intro gb988 hg w7 hbox hb; have n0_ := Aside0.mk (below_step (by repeat (first | (with_reducible first | exact HB.out | apply below_alloc | apply pw_below_drewN | apply below_drew1) | exact HB.out)) hb); have n1_ := Aside0.mk (hbox); have n2_ := Aside0.mk ((by rw [hg]; exact (below_size (by repeat (first | (with_reducible first | exact HB.out | apply below_alloc | apply pw_below_drewN | apply below_drew1) | exact HB.out))) : w.heap.size ≤ gb988)); have n3_ := Aside0.mk ((by rw [hg]; exact (below_size (by repeat (first | (with_reducible first | exact HB.out | apply below_alloc | apply pw_below_drewN | apply below_drew1) | exact HB.out))) : w.heap.size ≤ gb988)); clear HB; have HB := n0_; have BK988 := n1_; have GW988 := n2_; have GE988 := n3_; clear n0_ n1_ n2_ n3_; clear hb hbox hg; have hcz8_0 : w7.cell? ⟨gb988, 0, none⟩ = some (.int .i64 a0_0) := (blk_cell BK988.out 0).trans rfl; have hcz8_1 : w7.cell? ⟨gb988, 1, none⟩ = some (.int .i64 a0_1) := (blk_cell BK988.out 1).trans rfl; have hcz8_2 : w7.cell? ⟨gb988, 2, none⟩ = some (.int .i64 a0_2) := (blk_cell BK988.out 2).trans rfl; have hfz8_0 := blk_frozen BK988.out 0; have hfz8_1 := blk_frozen BK988.out 1; have hfz8_2 := blk_frozen BK988.out 2) | ((with_reducible refine gate_callee (f := 157) rfl ?_); refine goesL_ (some 5) rfl rfl Try.func157 (by kernel_rfl) rfl #[.int .i64 a0_0, .int .i64 1, .int .i64 3] rfl (by (try simp only [List.map_toArray, List.map_cons, List.map_nil]); first | done | rfl | (simp only [List.length_drop, List.length_take]; rfl)) ?_; (with_reducible refine (impl_in.calls a0_0 1 3 true _ A2.out).mono ?_); rintro e w' ⟨rfl, ⟨nd, rfl⟩⟩; refine ⟨_, rfl, ?_⟩) | (go_at_call 157; (with_reducible refine (impl_in.calls a0_1 1 3 true _ A4.out).mono ?_); rintro e w' ⟨rfl, ⟨nd, rfl⟩⟩) | (go_at_call 157; (with_reducible refine (impl_in.calls a0_2 0 2 t991 _ A6.out).mono ?_); rintro e w' ⟨rfl, ⟨nd, rfl⟩⟩))
      go_ret
      exact ⟨by first | rfl | (simp [errW_none, errW_some] <;> rfl) | (simp [*, errW_none, errW_some] <;> rfl), by repeat (first | (with_reducible first | exact HB.out | apply below_alloc | apply pw_below_drewN | apply below_drew1 | refine below_set ?_ GE988.out) | exact HB.out)⟩
    · replace c5 := Bool.eq_false_iff.mpr c5
      subst c5
      have H1 : (some false) = some r := by rw [if_neg (show ¬ (false = true) by decide)] at H; exact H
      clear H
      have H := H1
      clear H1
      obtain rfl := Option.some.inj H
      go_enter Try.func59, Try.ntmps59
      go_wp2_with (first | ((with_reducible refine gate_dst (N := 1) rfl ?_); refine box_event ?hg (N := 1) ?hd (cs := #[.int .i64 a0_0, .int .i64 a0_1, .int .i64 a0_2]) (t := 39) ?hr ?_; (case hd => rfl); (case hg => rfl); (case hr => first | (go_simp; done) | (go_simp; rfl)); intro gb988 hg w9 hbox hb; have n0_ := Aside0.mk (below_step (by repeat (first | (with_reducible first | exact HB.out | apply below_alloc | apply pw_below_drewN | apply below_drew1) | exact HB.out)) hb); have n1_ := Aside0.mk (hbox); have n2_ := Aside0.mk ((by rw [hg]; exact (below_size (by repeat (first | (with_reducible first | exact HB.out | apply below_alloc | apply pw_below_drewN | apply below_drew1) | exact HB.out))) : w.heap.size ≤ gb988)); have n3_ := Aside0.mk ((by rw [hg]; exact (below_size (by repeat (first | (with_reducible first | exact HB.out | apply below_alloc | apply pw_below_drewN | apply below_drew1) | exact HB.out))) : w.heap.size ≤ gb988)); clear HB; have HB := n0_; have BK988 := n1_; have GW988 := n2_; have GE988 := n3_; clear n0_ n1_ n2_ n3_; clear hb hbox hg; have hcz10_0 : w9.cell? ⟨gb988, 0, none⟩ = some (.int .i64 a0_0) := (blk_cell BK988.out 0).trans rfl; have hcz10_1 : w9.cell? ⟨gb988, 1, none⟩ = some (.int .i64 a0_1) := (blk_cell BK988.out 1).trans rfl; have hcz10_2 : w9.cell? ⟨gb988, 2, none⟩ = some (.int .i64 a0_2) := (blk_cell BK988.out 2).trans rfl; have hfz10_0 := blk_frozen BK988.out 0; have hfz10_1 := blk_frozen BK988.out 1; have hfz10_2 := blk_frozen BK988.out 2) | ((with_reducible refine gate_callee (f := 157) rfl ?_); refine goesL_ (some 5) rfl rfl Try.func157 (by kernel_rfl) rfl #[.int .i64 a0_0, .int .i64 1, .int .i64 3] rfl (by (try simp only [List.map_toArray, List.map_cons, List.map_nil]); first | done | rfl | (simp only [List.length_drop, List.length_take]; rfl)) ?_; (with_reducible refine (impl_in.calls a0_0 1 3 true _ A2.out).mono ?_); rintro e w' ⟨rfl, ⟨nd, rfl⟩⟩; refine ⟨_, rfl, ?_⟩) | (go_at_call 157; (with_reducible refine (impl_in.calls a0_1 1 3 false _ A4.out).mono ?_); rintro e w' ⟨rfl, ⟨nd, rfl⟩⟩))
      go_ret
      exact ⟨by first | rfl | (simp [errW_none, errW_some] <;> rfl) | (simp [*, errW_none, errW_some] <;> rfl), by repeat (first | (with_reducible first | exact HB.out | apply below_alloc | apply pw_below_drewN | apply below_drew1 | refine below_set ?_ GE988.out) | exact HB.out)⟩
  · replace c3 := Bool.eq_false_iff.mpr c3
    subst c3
    have H1 : (some false) = some r := by rw [if_neg (show ¬ (false = true) by decide)] at H; exact H
    clear H
    have H := H1
    clear H1
    obtain rfl := Option.some.inj H
    go_enter Try.func59, Try.ntmps59
    go_wp2_with (first | ((with_reducible refine gate_dst (N := 1) rfl ?_); refine box_event ?hg (N := 1) ?hd (cs := #[.int .i64 a0_0, .int .i64 a0_1, .int .i64 a0_2]) (t := 39) ?hr ?_; (case hd => rfl); (case hg => rfl); (case hr => first | (go_simp; done) | (go_simp; rfl)); intro gb988 hg w11 hbox hb; have n0_ := Aside0.mk (below_step (by repeat (first | (with_reducible first | exact HB.out | apply below_alloc | apply pw_below_drewN | apply below_drew1) | exact HB.out)) hb); have n1_ := Aside0.mk (hbox); have n2_ := Aside0.mk ((by rw [hg]; exact (below_size (by repeat (first | (with_reducible first | exact HB.out | apply below_alloc | apply pw_below_drewN | apply below_drew1) | exact HB.out))) : w.heap.size ≤ gb988)); have n3_ := Aside0.mk ((by rw [hg]; exact (below_size (by repeat (first | (with_reducible first | exact HB.out | apply below_alloc | apply pw_below_drewN | apply below_drew1) | exact HB.out))) : w.heap.size ≤ gb988)); clear HB; have HB := n0_; have BK988 := n1_; have GW988 := n2_; have GE988 := n3_; clear n0_ n1_ n2_ n3_; clear hb hbox hg; have hcz12_0 : w11.cell? ⟨gb988, 0, none⟩ = some (.int .i64 a0_0) := (blk_cell BK988.out 0).trans rfl; have hcz12_1 : w11.cell? ⟨gb988, 1, none⟩ = some (.int .i64 a0_1) := (blk_cell BK988.out 1).trans rfl; have hcz12_2 : w11.cell? ⟨gb988, 2, none⟩ = some (.int .i64 a0_2) := (blk_cell BK988.out 2).trans rfl; have hfz12_0 := blk_frozen BK988.out 0; have hfz12_1 := blk_frozen BK988.out 1; have hfz12_2 := blk_frozen BK988.out 2) | ((with_reducible refine gate_callee (f := 157) rfl ?_); refine goesL_ (some 5) rfl rfl Try.func157 (by kernel_rfl) rfl #[.int .i64 a0_0, .int .i64 1, .int .i64 3] rfl (by (try simp only [List.map_toArray, List.map_cons, List.map_nil]); first | done | rfl | (simp only [List.length_drop, List.length_take]; rfl)) ?_; (with_reducible refine (impl_in.calls a0_0 1 3 false _ A2.out).mono ?_); rintro e w' ⟨rfl, ⟨nd, rfl⟩⟩; refine ⟨_, rfl, ?_⟩))
    go_ret
    exact ⟨by first | rfl | (simp [errW_none, errW_some] <;> rfl) | (simp [*, errW_none, errW_some] <;> rfl), by repeat (first | (with_reducible first | exact HB.out | apply below_alloc | apply pw_below_drewN | apply below_drew1 | refine below_set ?_ GE988.out) | exact HB.out)⟩
end Go.Proofs.Ytlkjglanglpdoaa.T
namespace Go.Proofs.Ytlkjglanglpdoaa.T
open Go.RowKit Go.Proofs.YtlkjglanglpdoaaW.PrintWords Go.Proofs.YtlkjglanglpdoaaW.PrintLast Go.Proofs.YtlkjglanglpdoaaW.PrintMore
set_option linter.unusedVariables false
set_option linter.unusedSimpArgs false
def E4 (a0 a1 a2 : Int) (s : Nat) : List S234 := match impl_Isles_graph_1.f 400 (s : Int) a0 a1 a2 with
  | some (r, _) => r
  | none => []
def G4 (a0 a2 : Int) (s : Nat) : Prop := ∃ at_ b, PlOk (2 * a0).toNat (a2 + 1) at_ b ∧ calmAt (a2 + 2).toNat at_ = true ∧ (s : Int) = codeB 4 at_ b
def many4 (a0 : Int) : Nat := 4 ^ ((2 * a0).toNat + 1)
def IslOk (a0 a1 a2 : Int) : Prop := (1 ≤ a0 ∧ a0 ≤ 3) ∧ (1 ≤ a1 ∧ a1 ≤ 3) ∧ (0 ≤ a2 ∧ a2 ≤ 2)
theorem E4_eq {a0 a1 a2 : Int} (hI : IslOk a0 a1 a2) {at_ : List Int} {b : Int} {s : Nat} (h : PlOk (2 * a0).toNat (a2 + 1) at_ b) (hs : (s : Int) = codeB 4 at_ b) : E4 a0 a1 a2 s = edges4 a1 a2 at_ b := by
  unfold E4
  rw [hs, graph_eq a0 a1 a2 at_ b hI.1 hI.2.1.2 hI.2.2 h 400 (by omega)]
theorem code4_lt {a0 a2 : Int} (h0 : a2 ≤ 2) {at_ : List Int} {b : Int} (h : PlOk (2 * a0).toNat (a2 + 1) at_ b) : 0 ≤ codeB 4 at_ b ∧ codeB 4 at_ b < (many4 a0 : Int) := by
  have h1 := codeB_nonneg 4 (by omega) at_ b h.boat.1 (fun x hx => (h.ats x hx).1)
  have h2 := codeB_lt 4 (by omega) at_ b 1 h.boat.1 (by have := h.boat; omega) (fun x hx => by have := h.ats x hx; omega)
  rw [h.len, Nat.add_comm 1] at h2
  unfold many4
  push_cast
  exact ⟨h1, h2⟩
theorem below_keep {wb w w' : World} {g : Nat} {a0 a1 a2 : Int} (hI : IsS39 wb w g a0 a1 a2) (hI' : IsS39 wb w' g a0 a1 a2) (hB : Below wb.heap.size wb w) (hB' : Below wb.heap.size wb w') (hK : KeepBut w w' g none) : Below w.heap.size w w' := by
  refine ⟨hB'.os.trans hB.os.symm, hB'.tape.trans hB.tape.symm, hB'.output.trans hB.output.symm, hK.1, fun k hk => ?_⟩
  by_cases e : k = g
  · subst e; rw [hI'.1, hI.1]
  · exact hK.2 k hk e (by simp)
theorem outs_isles {a0 a1 a2 : Int} (hI : IslOk a0 a1 a2) {wb w0 : World} {pw : Nat} (hb : IsS39 wb w0 pw a0 a1 a2) (hB : Below wb.heap.size wb w0) :
    OutsV 252 #[.pointer (some ⟨pw, 0, none⟩)] (E4 a0 a1 a2) (G4 a0 a2) (many4 a0) 1 256 w0 := by
  refine ⟨⟨_, Try.func252, by kernel_rfl, rfl⟩, ?_, ?_, ?_⟩
  · rintro s hs ⟨at_, b, hp, hc, he⟩ w' hw
    have h1 := hb.below hw
    have h2 := hB.trans (hw.mono hB.size)
    have hf := graph_eq a0 a1 a2 at_ b hI.1 hI.2.1.2 hI.2.2 hp 400 (by omega)
    rw [← he] at hf
    refine (show Calls Try.prog 252 #[.int .i64 (s : Int), .pointer (some ⟨pw, 0, none⟩)] w' _ from (impl_Isles_graph_1.calls 400 (s : Int) pw a0 a1 a2 (edges4 a1 a2 at_ b) a0 a1 a2 wb w' h1 h2 hf).mono ?_)
    rintro e w'' ⟨v, rfl, hN, hI', hB', hK⟩
    rw [E4_eq hI hp he]
    exact ⟨v, rfl, hN, below_keep h1 hI' h2 hB' hK⟩
  · rintro s ⟨at_, b, hp, hc, he⟩ e hm
    rw [E4_eq hI hp he] at hm
    obtain ⟨v, hv, rfl⟩ := List.mem_map.1 hm
    have hk := voy_ok hI.2.2.1 hp hv
    have hl := code4_lt hI.2.2.2 hk.2.2.2.2
    exact ⟨(codeB 4 (gone at_ v.f0 v.f1) v.f0).toNat, 1, by show codeB 4 (gone at_ v.f0 v.f1) v.f0 = _; omega, rfl, by omega, ⟨_, _, hk.2.2.2.2, hk.2.2.2.1, by omega⟩, by omega, by omega⟩
  · rintro s ⟨at_, b, hp, hc, he⟩
    rw [E4_eq hI hp he]
    unfold edges4
    rw [List.length_map]
    exact voyL_length a1 a2 at_ b (by have := hp.len; have := hI.1; omega) hI.2.2.2
set_option maxHeartbeats 3200000 in
set_option maxRecDepth 100000 in
theorem graphI2 {a0 a1 a2 : Int} (hI : IslOk a0 a1 a2) (w : World) :
    Calls Try.prog 143 #[.agg #[.int .i64 a0, .int .i64 a1, .int .i64 a2]] w fun e w' =>
      ∃ pw : Nat, e = .returned (.agg #[.int .i64 (many4 a0 : Int), .func (.func 252) #[] #[.pointer (some ⟨pw, 0, none⟩)]]) ∧ IsS39 w w' pw a0 a1 a2 ∧ Below w.heap.size w w' := by
  have HI := Aside0.mk hI
  have hm : impl_Isles_many.f 10 a0 a1 a2 = some (many4 a0 : Int) := by
    rw [many_eq a0 a1 a2 hI.1 10 (by omega)]; unfold many4; push_cast; rfl
  have HM := Aside0.mk hm
  clear hm hI
  have hmf : ∀ (fn : Fn) (first cap : Array Value) (w : World), (Instr.makeFunc fn first cap).run Try.prog w = .ok (.func fn first cap) w := fun _ _ _ _ => rfl
  go_enter Try.func143, Try.ntmps143
  go_wp2_with (first | ((with_reducible refine gate_dst (N := 1) rfl ?_); refine box_event ?hg (N := 1) ?hd (cs := #[.int .i64 a0, .int .i64 a1, .int .i64 a2]) (t := 39) ?hr ?_; (case hd => rfl); (case hg => rfl); (case hr => first | (go_simp; done) | (go_simp; rfl)); intro pw hpw w1 hcw hb1; have HP := Aside0.mk hcw; have HB1 := Aside0.mk hb1; have HPW := Aside0.mk (show w.heap.size ≤ pw from by rw [hpw]; exact Nat.le_refl _); have hz0 : ∀ o, (w1.alloc o).cell? ⟨pw, 0, none⟩ = some (.int .i64 a0) := (fun o => (blk_cell (blk_alloc HP.out o) 0).trans rfl); have hz1 : ∀ o, (w1.alloc o).cell? ⟨pw, 1, none⟩ = some (.int .i64 a1) := (fun o => (blk_cell (blk_alloc HP.out o) 1).trans rfl); have hz2 : ∀ o, (w1.alloc o).cell? ⟨pw, 2, none⟩ = some (.int .i64 a2) := (fun o => (blk_cell (blk_alloc HP.out o) 2).trans rfl); clear hcw hb1 hpw) | (go_at_call 251; refine (impl_Isles_many.calls 10 a0 a1 a2 (many4 a0 : Int) _ HM.out).mono ?_; rintro e w4 ⟨rfl, hb4⟩; have HB4 := Aside0.mk hb4; have hblk := blk_below (blk_new w1 (.cells #[.int .i64 0, .nilFunc] 151)) hb4; have HBK := Aside0.mk hblk; have hc0 : w4.cell? ⟨w1.heap.size, 0, none⟩ = some (.int .i64 0) := (blk_cell hblk 0).trans rfl; have hc1 : w4.cell? ⟨w1.heap.size, 1, none⟩ = some .nilFunc := (blk_cell hblk 1).trans rfl; have hf0 := blk_frozen hblk 0; have hf1 := blk_frozen hblk 1; clear hb4 hblk))
  have hp1 : pw < w1.heap.size := blk_lt HP.out
  have hset : ((w4.setCell ⟨w1.heap.size, 0, none⟩ (.int .i64 (many4 a0 : Int))).setCell ⟨w1.heap.size, 1, none⟩ (.func (.func 252) #[] #[.pointer (some ⟨pw, 0, none⟩)])).heap[w1.heap.size]? = some (.cells #[.int .i64 (many4 a0 : Int), .func (.func 252) #[] #[.pointer (some ⟨pw, 0, none⟩)]] 151 (0, 0)) := by
    have h1 := blk_set HBK.out 0 (.int .i64 (many4 a0 : Int))
    have h2 := blk_set h1 1 (.func (.func 252) #[] #[.pointer (some ⟨pw, 0, none⟩)])
    simpa using h2
  refine bodyPost_ret (results_single rfl (.cell w1.heap.size 151 #[.int .i64 (many4 a0 : Int), .func (.func 252) #[] #[.pointer (some ⟨pw, 0, none⟩)]] (0, 0) _ rfl hset Try.underlying151 rfl (by kernel_rfl) .nil)) rfl ?_
  have hB4 := HB1.out.trans ((below_alloc (Below.refl _ _) (.cells #[.int .i64 0, .nilFunc] 151)).mono HB1.out.size) |>.trans (HB4.out.mono (Nat.le_trans HB1.out.size (by simp)))
  have hB5 : Below w.heap.size w ((w4.setCell ⟨w1.heap.size, 0, none⟩ (.int .i64 (many4 a0 : Int))).setCell ⟨w1.heap.size, 1, none⟩ (.func (.func 252) #[] #[.pointer (some ⟨pw, 0, none⟩)])) := below_set (below_set hB4 HB1.out.size) HB1.out.size
  refine ⟨pw, rfl, ⟨?_, HPW.out⟩, hB5⟩
  exact blk_far (blk_far (blk_below (blk_alloc HP.out _) HB4.out) (p := ⟨w1.heap.size, 0, none⟩) (by show pw ≠ w1.heap.size; omega) _) (p := ⟨w1.heap.size, 1, none⟩) (by show pw ≠ w1.heap.size; omega) _
end Go.Proofs.Ytlkjglanglpdoaa.T
namespace Go.Proofs.Ytlkjglanglpdoaa.T
open Go.RowKit Go.Proofs.YtlkjglanglpdoaaW.PrintWords Go.Proofs.YtlkjglanglpdoaaW.PrintLast Go.Proofs.YtlkjglanglpdoaaW.PrintMore
set_option linter.unusedVariables false
set_option linter.unusedSimpArgs false
theorem all_calm {a0 a2 p : Int} (h0 : 1 ≤ a0 ∧ a0 ≤ 3) (h2 : 0 ≤ a2 ∧ a2 ≤ 2) (hp : 0 ≤ p ∧ p ≤ a2 + 1) : calmAt (a2 + 2).toNat (List.replicate (2 * a0).toNat p) = true := by
  obtain rfl | rfl | rfl : a0 = 1 ∨ a0 = 2 ∨ a0 = 3 := by omega
  all_goals obtain rfl | rfl | rfl : a2 = 0 ∨ a2 = 1 ∨ a2 = 2 := by omega
  all_goals obtain rfl | rfl | rfl | rfl : p = 0 ∨ p = 1 ∨ p = 2 ∨ p = 3 := by omega
  all_goals first | (exfalso; omega) | kernel_rfl
theorem all_ok {a0 a2 p : Int} (hp : 0 ≤ p ∧ p ≤ a2 + 1) : PlOk (2 * a0).toNat (a2 + 1) (List.replicate (2 * a0).toNat p) p :=
  ⟨List.length_replicate, fun x hx => by rw [List.eq_of_mem_replicate hx]; exact hp, hp⟩
theorem code_zero : ∀ (n : Nat), codeB 4 (List.replicate n 0) 0 = 0
  | 0 => rfl
  | n + 1 => by
    show codeB 4 (List.replicate n 0) (0 * 4 + 0) = 0
    exact code_zero n
theorem many4_lt {a0 a1 a2 : Int} (hI : IslOk a0 a1 a2) : 0 < many4 a0 ∧ many4 a0 < 1048577 := by
  obtain ⟨⟨h0, h1⟩, _⟩ := hI
  obtain rfl | rfl | rfl : a0 = 1 ∨ a0 = 2 ∨ a0 = 3 := by omega
  all_goals decide
theorem in_eq (a l h : Int) : impl_in.f a l h = some (decide (l ≤ a ∧ a ≤ h)) := by
  unfold impl_in.f
  by_cases h1 : l ≤ a
  · rw [if_pos h1]; simp [h1]
  · rw [if_neg h1]; simp [h1]
theorem isIsles_eq (a0 a1 a2 : Int) : ∃ b, impl_IsIsles.f a0 a1 a2 = some b ∧ (b = true ↔ IslOk a0 a1 a2) := by
  unfold impl_IsIsles.f IslOk
  rw [in_eq, in_eq, in_eq]
  simp only [Option.bind_some, decide_eq_true_eq]
  by_cases h0 : 1 ≤ a0 ∧ a0 ≤ 3
  · rw [if_pos h0]
    by_cases h1 : 1 ≤ a1 ∧ a1 ≤ 3
    · rw [if_pos h1]
      exact ⟨_, rfl, by rw [decide_eq_true_eq]; exact ⟨fun h => ⟨h0, h1, h⟩, fun h => h.2.2⟩⟩
    · rw [if_neg h1]
      exact ⟨_, rfl, ⟨fun h => (Bool.false_ne_true h).elim, fun h => absurd h.2.1 h1⟩⟩
  · rw [if_neg h0]
    exact ⟨_, rfl, ⟨fun h => (Bool.false_ne_true h).elim, fun h => absurd h.1 h0⟩⟩
end Go.Proofs.Ytlkjglanglpdoaa.T
namespace Go.Proofs.Ytlkjglanglpdoaa.T
open Go.RowKit Go.Proofs.YtlkjglanglpdoaaW.PrintWords Go.Proofs.YtlkjglanglpdoaaW.PrintLast Go.Proofs.YtlkjglanglpdoaaW.PrintMore
set_option linter.unusedVariables false
set_option linter.unusedSimpArgs false
def c4S (s : S64) : Nat := (codeB 4 s.f0 s.f1).toNat
theorem c4_code {a0 a2 : Int} (h2 : a2 ≤ 2) {s : S64} (h : GoodS a0 a2 s) : (c4S s : Int) = codeB 4 s.f0 s.f1 ∧ c4S s < many4 a0 := by
  have := code4_lt h2 h.1
  unfold c4S
  omega
theorem c4_inj {a0 a2 : Int} (h2 : a2 ≤ 2) {s t : S64} (h : GoodS a0 a2 s) (h' : GoodS a0 a2 t) (e : c4S s = c4S t) : s = t := by
  have e1 := (c4_code h2 h).1
  have e2 := (c4_code h2 h').1
  obtain ⟨h3, h4⟩ := codeB_inj 4 (by omega) _ s.f0 t.f0 s.f1 t.f1 h.1.len h'.1.len (fun x hx => by have := h.1.ats x hx; omega) (fun x hx => by have := h'.1.ats x hx; omega) h.1.boat.1 h'.1.boat.1 (by rw [← e1, ← e2, e])
  cases s; cases t
  simp at h3 h4
  rw [h3, h4]
theorem eV4 {a0 a1 a2 : Int} (hI : IslOk a0 a1 a2) {s : S64} (h : GoodS a0 a2 s) : eV (E4 a0 a1 a2) (c4S s) = (nextS a1 a2 s).map (fun t => (c4S t, 1)) := by
  unfold eV
  rw [E4_eq hI h.1 (c4_code hI.2.2.2 h).1]
  unfold edges4 nextS
  rw [List.map_map, List.map_map]
  rfl
theorem way_to {a0 a1 a2 : Int} (hI : IslOk a0 a1 a2) {start : S64} (hs : GoodS a0 a2 start) {c d : Nat} (h : Way (eV (E4 a0 a1 a2)) (c4S start) c d) : ∃ p, GoodS a0 a2 p ∧ c4S p = c ∧ Way (EB a0 a1 a2) (cdS a2 start) (cdS a2 p) d := by
  generalize hst : c4S start = st at h
  induction h with
  | nil => exact ⟨start, hs, hst, .nil _⟩
  | snoc _ hm ih =>
    obtain ⟨p, hp, e, hw⟩ := ih
    rw [← e, eV4 hI hp] at hm
    obtain ⟨t, ht, e2⟩ := List.mem_map.1 hm
    obtain ⟨rfl, rfl⟩ := Prod.mk.inj e2
    refine ⟨t, next_good hI.2.2.1 hp ht, rfl, .snoc hw ?_⟩
    rw [EB_eq hI.2.2.1 hp]
    exact List.mem_map.2 ⟨t, ht, rfl⟩
theorem way_from {a0 a1 a2 : Int} (hI : IslOk a0 a1 a2) {start : S64} (hs : GoodS a0 a2 start) {c d : Nat} (h : Way (EB a0 a1 a2) (cdS a2 start) c d) : ∃ p, GoodS a0 a2 p ∧ cdS a2 p = c ∧ Way (eV (E4 a0 a1 a2)) (c4S start) (c4S p) d := by
  generalize hst : cdS a2 start = st at h
  induction h with
  | nil => exact ⟨start, hs, hst, .nil _⟩
  | snoc _ hm ih =>
    obtain ⟨p, hp, e, hw⟩ := ih
    rw [← e, EB_eq hI.2.2.1 hp] at hm
    obtain ⟨t, ht, e2⟩ := List.mem_map.1 hm
    obtain ⟨rfl, rfl⟩ := Prod.mk.inj e2
    refine ⟨t, next_good hI.2.2.1 hp ht, rfl, .snoc hw ?_⟩
    rw [eV4 hI hp]
    exact List.mem_map.2 ⟨t, ht, rfl⟩
theorem least_same {a0 a1 a2 : Int} (hI : IslOk a0 a1 a2) {start p : S64} (hs : GoodS a0 a2 start) (hp : GoodS a0 a2 p) : least (eV (E4 a0 a1 a2)) (c4S start) (c4S p) = least (EB a0 a1 a2) (cdS a2 start) (cdS a2 p) := by
  have h1 : ∀ d, Way (eV (E4 a0 a1 a2)) (c4S start) (c4S p) d ↔ Way (EB a0 a1 a2) (cdS a2 start) (cdS a2 p) d := by
    intro d
    constructor
    · intro h
      obtain ⟨p', hp', e, hw⟩ := way_to hI hs h
      rw [c4_inj hI.2.2.2 hp' hp e] at hw
      exact hw
    · intro h
      obtain ⟨p', hp', e, hw⟩ := way_from hI hs h
      rw [cdS_inj hI.2.2.1 hp' hp e] at hw
      exact hw
  rcases least_is (EB a0 a1 a2) (cdS a2 start) (cdS a2 p) with ⟨h, hn⟩ | ⟨n, h, hw, hl⟩
  · rw [h]; exact least_eq (.inl ⟨rfl, fun d hd => hn d ((h1 d).1 hd)⟩)
  · rw [h]; exact least_eq (.inr ⟨n, rfl, (h1 n).2 hw, fun d hd => hl d ((h1 d).1 hd)⟩)
end Go.Proofs.Ytlkjglanglpdoaa.T
namespace Go.Proofs.Ytlkjglanglpdoaa.T
open Go.RowKit Go.Proofs.YtlkjglanglpdoaaW.PrintWords Go.Proofs.YtlkjglanglpdoaaW.PrintLast Go.Proofs.YtlkjglanglpdoaaW.PrintMore
set_option linter.unusedVariables false
set_option linter.unusedSimpArgs false
theorem grp_has (most : Int) : ∀ (p l s : List Int), s.Sublist p → s ≠ [] → ((l ++ s).length : Int) ≤ most → (l ++ s) ∈ grp most p l
  | [], l, s, hs, hne, _ => absurd (List.sublist_nil.1 hs) hne
  | x :: p, l, s, hs, hne, hl => by
    have hs0 : 0 < s.length := List.length_pos_iff.2 hne
    have hlt : (l.length : Int) < most := by rw [List.length_append] at hl; omega
    simp only [grp]; rw [if_pos hlt]
    cases hs with
    | cons _ hs => exact List.mem_cons_of_mem _ (List.mem_append_right _ (grp_has most p l s hs hne hl))
    | cons_cons _ hs =>
      rename_i s'
      by_cases he : s' = []
      · subst he; exact List.mem_cons_self
      · have h1 := grp_has most p (l ++ [x]) s' hs he (by rw [List.append_assoc]; exact hl)
        rw [List.append_assoc] at h1
        exact List.mem_cons_of_mem _ (List.mem_append_left _ h1)
theorem grp_iff (most : Int) (p s : List Int) : s ∈ grp most p [] ↔ s.Sublist p ∧ s ≠ [] ∧ (s.length : Int) ≤ most := by
  constructor
  · intro h
    obtain ⟨⟨u, rfl, hu⟩, h1, h2⟩ := grp_sub most p [] s h
    refine ⟨by simpa using hu, fun e => ?_, h2⟩
    rw [e] at h1; simp at h1
  · rintro ⟨h1, h2, h3⟩
    have := grp_has most p [] s h1 h2 (by simpa using h3)
    simpa using this
theorem sub_standFrom (p : Int) : ∀ (l : List Int) (i : Nat) (s : List Int), s.Sublist (ups (i : Int) l.length) → (∀ x ∈ s, ∃ j : Nat, x = (i : Int) + j ∧ l[j]? = some p) → s.Sublist (standFrom p (i : Int) l)
  | [], i, s, hs, _ => by
    have : s = [] := List.sublist_nil.1 hs
    subst this; exact List.nil_sublist _
  | y :: l, i, s, hs, hx => by
    have key : ∀ s : List Int, s.Sublist (ups ((i : Int) + 1) l.length) → (∀ x ∈ s, ∃ j : Nat, x = (i : Int) + j ∧ (y :: l)[j]? = some p) → s.Sublist (standFrom p ((i : Int) + 1) l) := by
      intro s hs hx
      have := sub_standFrom p l (i + 1) s (by push_cast; exact hs) (fun x h => by
        obtain ⟨j, h1, h2⟩ := hx x h
        have := ups_mem _ _ _ (hs.subset h)
        obtain ⟨j, rfl⟩ : ∃ m, j = m + 1 := ⟨j - 1, by omega⟩
        exact ⟨j, by push_cast at h1 ⊢; omega, by simpa using h2⟩)
      push_cast at this; exact this
    unfold standFrom
    have hs' : s.Sublist ((i : Int) :: ups ((i : Int) + 1) l.length) := hs
    cases hs' with
    | cons _ h =>
      split
      · exact List.Sublist.cons _ (key s h hx)
      · exact key s h hx
    | cons_cons _ h =>
      rename_i s'
      obtain ⟨j, h1, h2⟩ := hx _ List.mem_cons_self
      obtain rfl : j = 0 := by omega
      have hy : y = p := by simpa using h2
      rw [if_pos hy]
      exact List.Sublist.cons_cons _ (key s' h (fun x hm => hx x (List.mem_cons_of_mem _ hm)))
theorem sub_stand {at_ : List Int} {p : Int} {s : List Int} (hs : s.Sublist (ups 0 at_.length)) (hx : ∀ x ∈ s, 0 ≤ x ∧ at_[x.toNat]? = some p) : s.Sublist (stand at_ p) := by
  have := sub_standFrom p at_ 0 s hs (fun x h => ⟨x.toNat, by have := (hx x h).1; omega, (hx x h).2⟩)
  exact this
theorem gone_at (tt : Int) : ∀ (l at_ : List Int) (j : Nat), (∀ x ∈ l, 0 ≤ x) → (gone at_ tt l)[j]? = if (j : Int) ∈ l then (at_[j]?).map (fun _ => tt) else at_[j]?
  | [], at_, j, _ => by simp [gone]
  | k :: l, at_, j, h => by
    have h0 := h k List.mem_cons_self
    have ih := gone_at tt l (at_.set k.toNat tt) j (fun x hx => h x (List.mem_cons_of_mem _ hx))
    show (gone (at_.set k.toNat tt) tt l)[j]? = _
    rw [ih, List.getElem?_set]
    by_cases hk : k.toNat = j
    · have hkj : (j : Int) = k := by omega
      rw [if_pos hk, if_pos (show (j : Int) ∈ k :: l by rw [hkj]; exact List.mem_cons_self)]
      by_cases hlt : k.toNat < at_.length
      · rw [if_pos hlt, List.getElem?_eq_getElem (by omega : j < at_.length)]
        split <;> rfl
      · rw [if_neg hlt, List.getElem?_eq_none (by omega : at_.length ≤ j)]
        split <;> rfl
    · rw [if_neg hk]
      by_cases hm : (j : Int) ∈ l
      · rw [if_pos hm, if_pos (List.mem_cons_of_mem _ hm)]
      · rw [if_neg hm, if_neg]
        intro h'
        rcases List.mem_cons.1 h' with e | h'
        · omega
        · exact hm h'
theorem gone_back (b tt : Int) (l at_ : List Int) (h : ∀ x ∈ l, 0 ≤ x ∧ at_[x.toNat]? = some b) : gone (gone at_ tt l) b l = at_ := by
  apply List.ext_getElem?
  intro j
  rw [gone_at b l _ j (fun x hx => (h x hx).1), gone_at tt l at_ j (fun x hx => (h x hx).1)]
  by_cases hm : (j : Int) ∈ l
  · rw [if_pos hm, if_pos hm]
    have := (h _ hm).2
    rw [Int.toNat_natCast] at this
    rw [this]; rfl
  · rw [if_neg hm, if_neg hm]
theorem stand_at {at_ : List Int} {p x : Int} (h : x ∈ stand at_ p) : 0 ≤ x ∧ at_[x.toNat]? = some p := by
  obtain ⟨j, h1, h2⟩ := standFrom_rd p at_ 0 x h
  exact ⟨by omega, by rw [show x.toNat = j from by omega]; exact h2⟩
theorem next_back {a0 a1 a2 : Int} (h2 : 0 ≤ a2) {s t : S64} (h : GoodS a0 a2 s) (ht : t ∈ nextS a1 a2 s) : s ∈ nextS a1 a2 t := by
  obtain ⟨v, hv, rfl⟩ := List.mem_map.1 ht
  have hok := voy_ok h2 h.1 hv
  obtain ⟨i, hi, hne, hf, hg, hm⟩ := (voyL_mem a1 a2 s.f0 s.f1 v).1 hv
  obtain ⟨hsub, hnil, hlen⟩ := (grp_iff a1 _ _).1 hg
  have hx : ∀ x ∈ v.f1, 0 ≤ x ∧ s.f0[x.toNat]? = some s.f1 := fun x hx => stand_at (hsub.subset hx)
  have hback := gone_back s.f1 v.f0 v.f1 s.f0 hx
  refine List.mem_map.2 ⟨⟨s.f1, v.f1⟩, ?_, ?_⟩
  · refine (voyL_mem a1 a2 _ _ _).2 ⟨s.f1.toNat, by have := h.1.boat; omega, ?_, ?_, ?_, ?_⟩
    · have := h.1.boat; show ((s.f1.toNat : Nat) : Int) ≠ v.f0; omega
    · have := h.1.boat; show s.f1 = ((s.f1.toNat : Nat) : Int); omega
    · refine (grp_iff a1 _ _).2 ⟨?_, hnil, hlen⟩
      refine sub_stand ?_ (fun x hxm => ⟨(hx x hxm).1, ?_⟩)
      · rw [gone_length]
        exact hsub.trans (standFrom_sub _ _ 0)
      · rw [gone_at v.f0 v.f1 s.f0 x.toNat (fun y hy => (hx y hy).1), if_pos (by rw [show ((x.toNat : Nat) : Int) = x from by have := (hx x hxm).1; omega]; exact hxm), (hx x hxm).2]
        rfl
    · unfold mayGo at hm ⊢
      rw [Bool.and_eq_true] at hm ⊢
      have e1 : ((s.f1.toNat : Nat) : Int) = s.f1 := by have := h.1.boat; omega
      show calmL v.f1 = true ∧ calmAt (a2 + 2).toNat (gone (gone s.f0 v.f0 v.f1) ((s.f1.toNat : Nat) : Int) v.f1) = true
      rw [e1, hback]
      exact ⟨hm.1, h.2⟩
  · show (⟨gone (gone s.f0 v.f0 v.f1) s.f1 v.f1, s.f1⟩ : S64) = s
    rw [hback]
theorem least_back4 {a0 a1 a2 : Int} (hI : IslOk a0 a1 a2) {p q : S64} (hp : GoodS a0 a2 p) (hq : GoodS a0 a2 q) : least (eV (E4 a0 a1 a2)) (c4S p) (c4S q) = least (eV (E4 a0 a1 a2)) (c4S q) (c4S p) := by
  refine least_back (G := fun c => ∃ u, GoodS a0 a2 u ∧ c4S u = c) ?_ ⟨p, hp, rfl⟩ ⟨q, hq, rfl⟩
  rintro s ⟨u, hu, rfl⟩ t k hm
  rw [eV4 hI hu] at hm
  obtain ⟨v, hv, e⟩ := List.mem_map.1 hm
  obtain ⟨rfl, rfl⟩ := Prod.mk.inj e
  have hgv := next_good hI.2.2.1 hu hv
  exact ⟨⟨v, hgv, rfl⟩, by rw [eV4 hI hgv]; exact List.mem_map.2 ⟨u, next_back hI.2.2.1 hu hv, rfl⟩⟩
def allS (a0 p : Int) : S64 := ⟨List.replicate (2 * a0).toNat p, p⟩
theorem allS_good {a0 a1 a2 p : Int} (hI : IslOk a0 a1 a2) (hp : 0 ≤ p ∧ p ≤ a2 + 1) : GoodS a0 a2 (allS a0 p) := ⟨all_ok hp, all_calm hI.1 hI.2.2 hp⟩
theorem c4_first (a0 : Int) : c4S (allS a0 0) = 0 := by
  show (codeB 4 (List.replicate (2 * a0).toNat 0) 0).toNat = 0
  rw [code_zero]; rfl
noncomputable def fewV (a0 a1 a2 : Int) : Int := least (eV (E4 a0 a1 a2)) (c4S (allS a0 (a2 + 1))) 0
open Classical in
noncomputable def fewR (a0 a1 a2 : Int) : Int × Bool := if IslOk a0 a1 a2 ∧ 0 ≤ fewV a0 a1 a2 then (fewV a0 a1 a2, true) else (0, false)
theorem few_far {a0 a1 a2 : Int} (hI : IslOk a0 a1 a2) {far : List Int} {q : List S64} {i : Nat} (hB : Bfs a0 a1 a2 (allS a0 0) far q i 0) (hi : q.length ≤ i) : rd far (cdS a2 (allS a0 (a2 + 1))) = fewV a0 a1 a2 := by
  have h2 := hI.2.2
  have g0 := allS_good hI (p := 0) ⟨by omega, by omega⟩
  have g1 := allS_good hI (p := a2 + 1) ⟨by omega, by omega⟩
  rw [hB.ends h2.1 hi _ (cdS_code h2.1 g1).2, ← least_same hI g0 g1, least_back4 hI g0 g1, c4_first]
  rfl
end Go.Proofs.Ytlkjglanglpdoaa.T
namespace Go.Proofs.Ytlkjglanglpdoaa.T
open Go.RowKit Go.Proofs.YtlkjglanglpdoaaW.PrintWords Go.Proofs.YtlkjglanglpdoaaW.PrintLast Go.Proofs.YtlkjglanglpdoaaW.PrintMore
set_option linter.unusedVariables false
set_option linter.unusedSimpArgs false
theorem row_form {w : World} {base : Nat} {ok : Nat → Prop} {v : Value} {xs : List Int} (h : Kd.R (Kd.int .i64) 3 w base ok v xs) (hn : 0 < xs.length) : ∃ bd cd, v = .slice (some ⟨bd, 0, none⟩) xs.length cd ∧ base ≤ bd := by
  obtain ⟨inner, ho⟩ := Kd.R_own h
  obtain ⟨g, cap, rfl, hg, _⟩ := ho.form hn
  exact ⟨g, cap, rfl, hg⟩
theorem row_cell0 {w : World} {base n c bd : Nat} {ok : Nat → Prop} {xs : List Int} (h : Kd.R (Kd.int .i64) 3 w base ok (.slice (some ⟨bd, 0, none⟩) n c) xs) (hn : 0 < xs.length) : w.cell? ⟨bd, 0, none⟩ = some (.int .i64 (rd xs 0)) := by
  obtain ⟨ad, hade, hc⟩ := Kd.at_int (Kd.R_reads' h).2.2 0 (by omega) (by omega)
  have e3 : ad = ⟨bd, 0, none⟩ := by injection hade with e; exact e.symm
  subst e3
  exact hc
set_option maxHeartbeats 3200000 in
set_option maxRecDepth 100000 in
theorem costsI {a0 a1 a2 : Int} (hI : IslOk a0 a1 a2) (w : World) :
    Calls Try.prog 146 #[.agg #[.int .i64 a0, .int .i64 a1, .int .i64 a2]] w fun e w' =>
      ∃ (pw bd cd : Nat) (ds : List Int), e = .returned (.tuple #[.agg #[.int .i64 (many4 a0 : Int), .func (.func 252) #[] #[.pointer (some ⟨pw, 0, none⟩)]], .slice (some ⟨bd, 0, none⟩) ds.length cd, .bool (decide (0 ≤ rd ds 0))]) ∧
        IsS39 w w' pw a0 a1 a2 ∧ Kd.R (Kd.int .i64) 3 w' w.heap.size (fun _ => True) (.slice (some ⟨bd, 0, none⟩) ds.length cd) ds ∧
        ds.length = many4 a0 ∧ (∀ s : Nat, s < many4 a0 → rd ds s = least (eV (E4 a0 a1 a2)) (c4S (allS a0 (a2 + 1))) s) ∧ Below w.heap.size w w' := by
  have h2 := hI.2.2
  have h0 := hI.1
  have hgl := allS_good hI (p := a2 + 1) ⟨by omega, by omega⟩
  have hcl := c4_code h2.2 hgl
  have HFA : Aside0 (impl_Isles_far.f a0 a1 a2 = some (a2 + 1)) := ⟨by unfold impl_Isles_far.f wrap64; congr 1; omega⟩
  have HCO : Aside0 (impl_Places_code.f 10 (List.replicate (2 * a0).toNat (a2 + 1)) (a2 + 1) = some (c4S (allS a0 (a2 + 1)) : Int)) := ⟨by
    rw [code_eq _ _ (by simp; omega) (fun x hx => by rw [List.eq_of_mem_replicate hx]; omega) (by omega) 10 (by simp; omega), hcl.1]; rfl⟩
  have HLG : Aside0 (c4S (allS a0 (a2 + 1)) < many4 a0 ∧ G4 a0 a2 (c4S (allS a0 (a2 + 1)))) := ⟨hcl.2, ⟨_, _, hgl.1, hgl.2, hcl.1⟩⟩
  have HI := Aside0.mk hI
  have HI0 := Aside0.mk h0
  clear h2 h0 hgl hcl hI
  go_enter Try.func146, Try.ntmps146
  go_wp2_with (go_at_call 143; refine (graphI2 HI.out _).mono ?_; rintro e w8 ⟨pw, rfl, ho, hd⟩; have HIS := Aside0.mk ho; have HB8 := Aside0.mk hd; clear ho hd)
  have hb8 := HB8.out
  have hz8 := hb8.size
  simp only [World.size_alloc] at hz8
  have hk1 := blk_below (blk_alloc (blk_new w (.cells #[.int .i64 a0, .int .i64 a1, .int .i64 a2] 39)) (.cells #[.int .i64 0, .nilFunc] 151)) hb8
  have hk2 := blk_below (blk_new (w.alloc (.cells #[.int .i64 a0, .int .i64 a1, .int .i64 a2] 39)) (.cells #[.int .i64 0, .nilFunc] 151)) hb8
  have hbw := (below_alloc (below_alloc (Below.refl w.heap.size w) (.cells #[.int .i64 a0, .int .i64 a1, .int .i64 a2] 39)) (.cells #[.int .i64 0, .nilFunc] 151)).trans (hb8.mono (by simp; omega))
  have hpw : w.heap.size + 2 ≤ pw ∧ pw < w8.heap.size := ⟨by have := HIS.out.2; simp at this; omega, blk_lt HIS.out.1⟩
  simp only [World.size_alloc] at hk2
  obtain ⟨w9, hw9⟩ : ∃ w9, w9 = w8.alloc (.cells #[.int .i64 (many4 a0 : Int), .func (.func 252) #[] #[.pointer (some ⟨pw, 0, none⟩)]] 151) := ⟨_, rfl⟩
  rw [← hw9]
  have hk1' : w9.heap[w.heap.size]? = some (.cells #[.int .i64 a0, .int .i64 a1, .int .i64 a2] 39 (0, 0)) := by
    rw [hw9]; exact blk_alloc hk1 _
  have hk2' : w9.heap[w.heap.size + 1]? = some (.cells #[.int .i64 0, .nilFunc] 151 (0, 0)) := by
    rw [hw9]; exact blk_alloc hk2 _
  have hkp : w9.heap[pw]? = some (.cells #[.int .i64 a0, .int .i64 a1, .int .i64 a2] 39 (0, 0)) := by
    rw [hw9]; exact blk_alloc HIS.out.1 _
  have hkg : w9.heap[w8.heap.size]? = some (.cells #[.int .i64 (many4 a0 : Int), .func (.func 252) #[] #[.pointer (some ⟨pw, 0, none⟩)]] 151 (0, 0)) := by
    rw [hw9]; exact blk_new w8 _
  have hb9 : Below w.heap.size w w9 := by rw [hw9]; exact below_alloc hbw _
  have hs9 : w9.heap.size = w8.heap.size + 1 := by rw [hw9]; simp
  have HOV := Aside0.mk (outs_isles HI.out (wb := w) ⟨hkp, by omega⟩ hb9)
  have HG0 : Aside0 (w9.cell? ⟨w8.heap.size, 0, none⟩ = some (.int .i64 (many4 a0 : Int))) := ⟨(blk_cell hkg 0).trans rfl⟩
  have HG1 : Aside0 (w9.cell? ⟨w8.heap.size, 1, none⟩ = some (.func (.func 252) #[] #[.pointer (some ⟨pw, 0, none⟩)])) := ⟨(blk_cell hkg 1).trans rfl⟩
  have HW0 : Aside0 (w9.cell? ⟨w.heap.size, 0, none⟩ = some (.int .i64 a0)) := ⟨(blk_cell hk1' 0).trans rfl⟩
  have HW1 : Aside0 (w9.cell? ⟨w.heap.size, 1, none⟩ = some (.int .i64 a1)) := ⟨(blk_cell hk1' 1).trans rfl⟩
  have HW2 : Aside0 (w9.cell? ⟨w.heap.size, 2, none⟩ = some (.int .i64 a2)) := ⟨(blk_cell hk1' 2).trans rfl⟩
  have HKG := Aside0.mk hkg
  have HK2 := Aside0.mk hk2'
  have HKP := Aside0.mk hkp
  have HB9 := Aside0.mk hb9
  have HS9 := Aside0.mk hs9
  have HZ8 : Aside0 (w.heap.size + 2 ≤ w8.heap.size) := ⟨by omega⟩
  have HZ9 : Aside0 (w.heap.size ≤ w9.heap.size) := ⟨by omega⟩
  have HPW := Aside0.mk hpw
  clear hw9 hk1 hk2 hk1' hk2' hkp hkg hb9 hs9 hb8 hz8 hbw hpw HIS HB8
  refine start_ (n := 9) (S := fun w' => Below w9.heap.size w9 w') (ds := []) #[false, false, false, false, false, false, false, false, false] (by kernel_rfl) rfl rfl (Below.refl _ _).drew (fun hHeld => ?_)
  refine take_ (i := 0) (N := some 9) (v := ?_) (a' := ?_) #[true, false, false, false, false, false, false, false, false] rfl rfl (by kernel_rfl) (fun _ _ _ h => h) (Or.inl ⟨by rfl, ?_⟩) hHeld ?_ ?_
  rotate_left
  · intro w' s0
    have s_0 := (s0.cell (World.block_lt_of_cell? w9 _ HG0.out)).trans HG0.out
    have s_1 := (s0.cell (World.block_lt_of_cell? w9 _ HG1.out)).trans HG1.out
    clear s0
    go_simp
    with_reducible rfl
  rotate_left
  · simp only [Act.put, List.setIfInBounds_toArray, List.set_cons_zero, List.set_cons_succ, i64_w, i32_w]
    rfl
  refine take_ (i := 1) (N := some 10) (v := ?_) (a' := ?_) #[true, true, false, false, false, false, false, false, false] rfl rfl (by kernel_rfl) (fun _ _ _ h => h) (Or.inl ⟨by rfl, ?_⟩) hHeld ?_ ?_
  rotate_left
  · intro w' s0
    have s_0 := (s0.cell (World.block_lt_of_cell? w9 _ HW0.out)).trans HW0.out
    have s_1 := (s0.cell (World.block_lt_of_cell? w9 _ HW1.out)).trans HW1.out
    have s_2 := (s0.cell (World.block_lt_of_cell? w9 _ HW2.out)).trans HW2.out
    clear s0
    go_simp
    with_reducible rfl
  rotate_left
  · simp only [Act.put, List.setIfInBounds_toArray, List.set_cons_zero, List.set_cons_succ, i64_w, i32_w]
    rfl
  refine take_ (i := 2) (N := some 11) (v := ?_) (a' := ?_) #[true, true, true, false, false, false, false, false, false] rfl rfl (by kernel_rfl) (fun _ _ _ h => h) (Or.inl ⟨by rfl, ?_⟩) hHeld ?_ ?_
  rotate_left
  · intro w' s0
    have s_0 := (s0.cell (World.block_lt_of_cell? w9 _ HW0.out)).trans HW0.out
    have s_1 := (s0.cell (World.block_lt_of_cell? w9 _ HW1.out)).trans HW1.out
    have s_2 := (s0.cell (World.block_lt_of_cell? w9 _ HW2.out)).trans HW2.out
    clear s0
    go_simp
    with_reducible rfl
  rotate_left
  · simp only [Act.put, List.setIfInBounds_toArray, List.set_cons_zero, List.set_cons_succ, i64_w, i32_w]
    rfl
  refine one_ (i := 3) (N := some 12) #[true, true, true, true, false, false, false, false, false] rfl rfl (by kernel_rfl) (by decide) (fun K hK => ?_)
  refine goes_ Try.func189 (by kernel_rfl) rfl #[.agg #[.int .i64 a0, .int .i64 a1, .int .i64 a2]] (by rfl) rfl rfl (by (try simp only [List.map_toArray, List.map_cons, List.map_nil]); first | done | rfl) ?_
  with_reducible refine (impl_Isles_far.calls a0 a1 a2 (a2 + 1) _ HFA.out).mono ?_
  rintro e w12 ⟨rfl, hb12⟩
  have HB12 := Aside0.mk (below_step hHeld hb12)
  clear hb12
  refine ⟨_, rfl, ?_⟩
  refine hK.out _ _ (HB12.out) (fun hHeld => ?_)
  clear hK K
  refine norm_ (a' := ?_) ?_ ?_
  rotate_left
  · show Act.put _ (some 12) _ = _
    simp only [Act.put, List.setIfInBounds_toArray, List.set_cons_zero, List.set_cons_succ, i64_w, i32_w]
    rfl
  refine one_ (i := 4) (N := some 13) #[true, true, true, true, true, false, false, false, false] rfl rfl (by kernel_rfl) (by decide) (fun K hK => ?_)
  refine goes_ Try.func188 (by kernel_rfl) rfl #[.agg #[.int .i64 a0, .int .i64 a1, .int .i64 a2], .int .i64 (a2 + 1)] (by rfl) rfl rfl (by (try simp only [List.map_toArray, List.map_cons, List.map_nil]); first | done | rfl) ?_
  with_reducible refine (impl_Isles_allIn.calls a0 a1 a2 (a2 + 1) (List.replicate (2 * a0).toNat (a2 + 1)) (a2 + 1) _ (allIn_eq a0 a1 a2 (a2 + 1) HI0.out)).mono ?_
  rintro e w13 ⟨v13, rfl, ho13, hb13⟩
  obtain ⟨A13, c13, e13⟩ := Kd.R_slice ho13
  subst e13
  have HO13 := Aside0.mk (Kd.R_reads' ho13)
  have HB13 := Aside0.mk (below_step hHeld hb13)
  clear hb13 ho13
  refine ⟨_, rfl, ?_⟩
  refine hK.out _ _ (HB13.out) (fun hHeld => ?_)
  clear hK K
  refine norm_ (a' := ?_) ?_ ?_
  rotate_left
  · show Act.put _ (some 13) _ = _
    simp only [Act.put, List.setIfInBounds_toArray, List.set_cons_zero, List.set_cons_succ, i64_w, i32_w]
    rfl
  refine one_ (i := 5) (N := some 14) #[true, true, true, true, true, true, false, false, false] rfl rfl (by kernel_rfl) (by decide) (fun K hK => ?_)
  refine goes_ Try.func254 (by kernel_rfl) rfl #[.agg #[.slice A13 (List.replicate (2 * a0).toNat (a2 + 1)).length c13, .int .i64 (a2 + 1)]] (by rfl) rfl rfl (by (try simp only [List.map_toArray, List.map_cons, List.map_nil]); first | done | rfl) ?_
  with_reducible refine (impl_Places_code.calls 10 _ _ (List.replicate (2 * a0).toNat (a2 + 1)) (a2 + 1) (c4S (allS a0 (a2 + 1)) : Int) _ (Kd.C_below HO13.out.2.2 (Below.refl _ _)) HO13.out.2.1 HCO.out).mono ?_
  rintro e w14 ⟨rfl, hb14⟩
  have HB14 := Aside0.mk (below_step hHeld hb14)
  clear hb14
  refine ⟨_, rfl, ?_⟩
  refine hK.out _ _ (HB14.out) (fun hHeld => ?_)
  clear hK K
  refine norm_ (a' := ?_) ?_ ?_
  rotate_left
  · show Act.put _ (some 14) _ = _
    simp only [Act.put, List.setIfInBounds_toArray, List.set_cons_zero, List.set_cons_succ, i64_w, i32_w]
    rfl
  refine one_ (i := 6) (N := some 15) #[true, true, true, true, true, true, true, false, false] rfl rfl (by kernel_rfl) (by decide) (fun K hK => ?_)
  refine Kd.R_lit_step (Kd.int .i64) _ 3 ?hg (N := 15) ?hd (xs := ([(c4S (allS a0 (a2 + 1)) : Int)] : List Int)) (inner := [.int .i64 (c4S (allS a0 (a2 + 1)) : Int)]) (ok := fun _ => True) (okp := fun _ => True) ?hr ?hp (fun _ hk => hk) trivial (Below.refl _ _) (Nat.le_refl _) (by simp) ?_; (case hd => rfl); (case hg => rfl); (case hr => first | (go_simp; done) | (go_simp; rfl)); (case hp => exact (Reps.one (show Kd.M (Kd.int .i64) _ _ _ (c4S (allS a0 (a2 + 1)) : Int) [.int .i64 (c4S (allS a0 (a2 + 1)) : Int)] from rfl) (Reps.none _ _)))
  intro v15 w15 ho15 hb15 hg_ hnew_
  clear hg_ hnew_
  obtain ⟨A15, c15, e15⟩ := Kd.R_slice ho15
  subst e15
  have HB15 := Aside0.mk (below_step hHeld hb15)
  have HO15 : Aside0 (Kd.C (Kd.int .i64) w15 A15 1 [(c4S (allS a0 (a2 + 1)) : Int)] ∧ 1 ≤ c15) := ⟨(Kd.R_reads' ho15).2.2, (Kd.R_reads' ho15).2.1⟩
  clear hb15 ho15
  refine hK.out _ _ (HB15.out) (fun hHeld => ?_)
  clear hK K
  refine norm_ (a' := ?_) ?_ ?_
  rotate_left
  · show Act.put _ (some 15) _ = _
    simp only [Act.put, List.setIfInBounds_toArray, List.set_cons_zero, List.set_cons_succ, i64_w, i32_w]
    rfl
  refine one_ (i := 7) (N := some 16) #[true, true, true, true, true, true, true, true, false] rfl rfl (by kernel_rfl) (by decide) (fun K hK => ?_)
  refine goes_ Try.func255 (by kernel_rfl) rfl #[.agg #[.int .i64 (many4 a0 : Int), .func (.func 252) #[] #[.pointer (some ⟨pw, 0, none⟩)]], .slice A15 1 c15] (by rfl) rfl rfl (by (try simp only [List.map_toArray, List.map_cons, List.map_nil]); first | done | rfl) ?_
  with_reducible refine ((show Calls Try.prog 255 #[.agg #[.int .i64 (many4 a0 : Int), .func (.func 252) #[] #[.pointer (some ⟨pw, 0, none⟩)]], .slice A15 1 c15] w15 _ from fromV 252 _ _ _ _ _ _ (c4S (allS a0 (a2 + 1))) _ (HOV.out.later HB15.out) HLG.out.1 HLG.out.2 (many4_lt HI.out).2 (by omega) (by omega) A15 c15 HO15.out.1 HO15.out.2)).mono ?_
  rintro e w16 ⟨v16, ds, rfl, ho16, hlen, hle, hb16⟩
  have h0l : 0 < ds.length := by rw [hlen]; exact (many4_lt HI.out).1
  obtain ⟨bd, c16, e16, hbd⟩ := row_form ho16 h0l
  subst e16
  have HBD : Aside0 (w9.heap.size ≤ bd) := ⟨Nat.le_trans HB15.out.size hbd⟩
  have HO16 := Aside0.mk (Kd.R_lower ho16 (Nat.le_trans HZ9.out HB15.out.size))
  have HLEN := Aside0.mk hlen
  have HLE := Aside0.mk hle
  have HB16 := Aside0.mk (below_step hHeld hb16)
  have H0L := Aside0.mk h0l
  clear hb16 ho16 hlen hle hbd h0l
  refine ⟨_, rfl, ?_⟩
  refine hK.out _ _ (HB16.out) (fun hHeld => ?_)
  clear hK K
  refine norm_ (a' := ?_) ?_ ?_
  rotate_left
  · show Act.put _ (some 16) _ = _
    simp only [Act.put, List.setIfInBounds_toArray, List.set_cons_zero, List.set_cons_succ, i64_w, i32_w]
    rfl
  refine pure_ (i := 8) (N := some 6) (v := ?_) (a' := ?_) #[true, true, true, true, true, true, true, true, true] rfl rfl (by kernel_rfl) (fun _ _ _ h => h) (Or.inl ⟨by rfl, ?_⟩) ?_ ?_
  rotate_left
  · intro w'
    go_simp
    with_reducible rfl
  rotate_left
  · simp only [Act.put, List.setIfInBounds_toArray, List.set_cons_zero, List.set_cons_succ, i64_w, i32_w]
    rfl
  refine done_ (by kernel_rfl) ?_
  have hr := HO16.out
  have hcd := row_cell0 hr H0L.out
  have HCD := Aside0.mk hcd
  have hg0 := (blk_cell (blk_below HKG.out HB16.out) 0).trans (show _ = some (Value.int .i64 (many4 a0 : Int)) from rfl)
  have hg1 := (blk_cell (blk_below HKG.out HB16.out) 1).trans (show _ = some (Value.func (.func 252) #[] #[.pointer (some ⟨pw, 0, none⟩)]) from rfl)
  clear HG0 HG1
  have HG0 := Aside0.mk hg0
  have HG1 := Aside0.mk hg1
  have HK2' := Aside0.mk (blk_below HK2.out HB16.out)
  have HKP' := Aside0.mk (blk_below HKP.out HB16.out)
  have hfz0 := blk_frozen HK2'.out 0
  have hz0 : w16.cell? ⟨w.heap.size + 1, 0, none⟩ = some (.int .i64 0) := (blk_cell HK2'.out 0).trans rfl
  have hz1 : w16.cell? ⟨w.heap.size + 1, 1, none⟩ = some .nilFunc := (blk_cell HK2'.out 1).trans rfl
  have hfz1 := blk_frozen HK2'.out 1
  have q0 : 0 < ds.length := H0L.out
  clear hr hcd hg0 hg1 HW0 HW1 HW2 hHeld
  go_wp2
  refine start_ (n := 9) (S := fun w' => (w'.cell? ⟨w8.heap.size, 0, none⟩ = some (.int .i64 (many4 a0 : Int)) ∧ w'.cell? ⟨w8.heap.size, 1, none⟩ = some (.func (.func 252) #[] #[.pointer (some ⟨pw, 0, none⟩)])) ∧ w'.cell? ⟨bd, 0, none⟩ = some (.int .i64 (rd ds 0))) (ds := []) #[false, false, false, false, false, false, false, false, false] (by kernel_rfl) rfl rfl ⟨⟨HG0.out, HG1.out⟩, HCD.out⟩ (fun hHeld => ?_)
  refine take_ (i := 0) (N := some 17) (v := ?_) (a' := ?_) #[true, false, false, false, false, false, false, false, false] rfl rfl (by kernel_rfl) (fun _ _ _ h => h) (Or.inl ⟨by rfl, ?_⟩) hHeld ?_ ?_
  rotate_left
  · intro w' s0
    have s_0 := s0.1.1
    have s_1 := s0.1.2
    clear s0
    go_simp
    with_reducible rfl
  rotate_left
  · simp only [Act.put, List.setIfInBounds_toArray, List.set_cons_zero, List.set_cons_succ, i64_w, i32_w]
    rfl
  refine pure_ (i := 1) (N := some 18) (v := ?_) (a' := ?_) #[true, true, false, false, false, false, false, false, false] rfl rfl (by kernel_rfl) (fun _ _ _ h => h) (Or.inl ⟨by rfl, ?_⟩) ?_ ?_
  rotate_left
  · intro w'
    go_simp
    with_reducible rfl
  rotate_left
  · simp only [Act.put, List.setIfInBounds_toArray, List.set_cons_zero, List.set_cons_succ, i64_w, i32_w]
    rfl
  refine pure_ (i := 2) (N := some 19) (v := ?_) (a' := ?_) #[true, true, true, false, false, false, false, false, false] rfl rfl (by kernel_rfl) (fun _ _ _ h => h) (Or.inl ⟨by rfl, ?_⟩) ?_ ?_
  rotate_left
  · intro w'
    go_simp
    with_reducible rfl
  rotate_left
  · simp only [Act.put, List.setIfInBounds_toArray, List.set_cons_zero, List.set_cons_succ, i64_w, i32_w]
    rfl
  refine pure_ (i := 3) (N := some 20) (v := ?_) (a' := ?_) #[true, true, true, true, false, false, false, false, false] rfl rfl (by kernel_rfl) (fun _ _ _ h => h) (Or.inl ⟨by rfl, ?_⟩) ?_ ?_
  rotate_left
  · intro w'
    go_simp
    with_reducible rfl
  rotate_left
  · simp only [Act.put, List.setIfInBounds_toArray, List.set_cons_zero, List.set_cons_succ, i64_w, i32_w]
    rfl
  refine take_ (i := 4) (N := some 21) (v := ?_) (a' := ?_) #[true, true, true, true, true, false, false, false, false] rfl rfl (by kernel_rfl) (fun _ _ _ h => h) (Or.inl ⟨by rfl, ?_⟩) hHeld ?_ ?_
  rotate_left
  · intro w' s0
    have s_0 := s0.2
    clear s0
    go_simp
    with_reducible rfl
  rotate_left
  · simp only [Act.put, List.setIfInBounds_toArray, List.set_cons_zero, List.set_cons_succ, i64_w, i32_w]
    rfl
  refine pure_ (i := 5) (N := some 22) (v := ?_) (a' := ?_) #[true, true, true, true, true, true, false, false, false] rfl rfl (by kernel_rfl) (fun _ _ _ h => h) (Or.inl ⟨by rfl, ?_⟩) ?_ ?_
  rotate_left
  · intro w'
    go_simp
    with_reducible rfl
  rotate_left
  · simp only [Act.put, List.setIfInBounds_toArray, List.set_cons_zero, List.set_cons_succ, i64_w, i32_w]
    rfl
  refine one_ (i := 6) (N := none) #[true, true, true, true, true, true, true, false, false] rfl rfl (by kernel_rfl) (by decide) (fun K hK => ?_)
  refine skip_ (w1 := ((w16.drew.setCell ⟨w.heap.size + 1, 0, none⟩ (.int .i64 (many4 a0 : Int))).setCell ⟨w.heap.size + 1, 1, none⟩ (.func (.func 252) #[] #[.pointer (some ⟨pw, 0, none⟩)]))) rfl rfl ?_ ?_
  · go_simp
  have hcc : ∀ b o, b ≠ w.heap.size + 1 → ((w16.drew.setCell ⟨w.heap.size + 1, 0, none⟩ (.int .i64 (many4 a0 : Int))).setCell ⟨w.heap.size + 1, 1, none⟩ (.func (.func 252) #[] #[.pointer (some ⟨pw, 0, none⟩)])).cell? ⟨b, o, none⟩ = w16.cell? ⟨b, o, none⟩ := fun b o hne => World.cell?_of_block (w := w16) (a := ⟨b, o, none⟩) ((Below.heap_setCell _ ⟨w.heap.size + 1, 1, none⟩ _ b hne).trans (Below.heap_setCell _ ⟨w.heap.size + 1, 0, none⟩ _ b hne))
  refine hK.out _ _ ⟨⟨(hcc _ _ (by have := HZ8.out; omega)).trans HG0.out, (hcc _ _ (by have := HZ8.out; omega)).trans HG1.out⟩, (hcc _ _ (by have := HBD.out; have := HZ8.out; have := HS9.out; omega)).trans HCD.out⟩ (fun hHeld => ?_)
  clear hK K hcc
  refine pure_ (i := 7) (N := some 3) (v := ?_) (a' := ?_) #[true, true, true, true, true, true, true, true, false] rfl rfl (by kernel_rfl) (fun _ _ _ h => h) (Or.inl ⟨by rfl, ?_⟩) ?_ ?_
  rotate_left
  · intro w'
    go_simp
    with_reducible rfl
  rotate_left
  · simp only [Act.put, List.setIfInBounds_toArray, List.set_cons_zero, List.set_cons_succ, i64_w, i32_w]
    rfl
  refine pure_ (i := 8) (N := some 4) (v := ?_) (a' := ?_) #[true, true, true, true, true, true, true, true, true] rfl rfl (by kernel_rfl) (fun _ _ _ h => h) (Or.inl ⟨by rfl, ?_⟩) ?_ ?_
  rotate_left
  · intro w'
    go_simp
    with_reducible rfl
  rotate_left
  · simp only [Act.put, List.setIfInBounds_toArray, List.set_cons_zero, List.set_cons_succ, i64_w, i32_w]
    rfl
  refine done_ (by kernel_rfl) ?_
  have hset : ((w16.drew.setCell ⟨w.heap.size + 1, 0, none⟩ (.int .i64 (many4 a0 : Int))).setCell ⟨w.heap.size + 1, 1, none⟩ (.func (.func 252) #[] #[.pointer (some ⟨pw, 0, none⟩)])).heap[w.heap.size + 1]? = some (.cells #[.int .i64 (many4 a0 : Int), .func (.func 252) #[] #[.pointer (some ⟨pw, 0, none⟩)]] 151 (0, 0)) :=
    blk_put (cs := #[.int .i64 (many4 a0 : Int), .nilFunc]) (blk_put (cs := #[.int .i64 0, .nilFunc]) (blk_drew HK2'.out) 0 _ rfl) 1 _ rfl
  clear hz0 hz1 hfz0 hfz1 hHeld
  go_wp2
  refine bodyPost_ret (results_list (rs := [.cell 2 151, .tmp 3, .tmp 4]) rfl (by simp) (.cell (w.heap.size + 1) 151 #[.int .i64 (many4 a0 : Int), .func (.func 252) #[] #[.pointer (some ⟨pw, 0, none⟩)]] (0, 0) _ rfl hset Try.underlying151 rfl (by kernel_rfl) (.tmp (.tmp .nil)))) rfl ?_
  refine ⟨pw, bd, c16, ds, rfl, ⟨?_, by have := HPW.out; omega⟩, ?_, HLEN.out, HLE.out, ?_⟩
  · exact blk_far (blk_far (blk_drew HKP'.out) (p := ⟨w.heap.size + 1, 0, none⟩) (by show pw ≠ w.heap.size + 1; have := HPW.out; omega) _) (p := ⟨w.heap.size + 1, 1, none⟩) (by show pw ≠ w.heap.size + 1; have := HPW.out; omega) _
  · exact Kd.R_mono (Kd.R_far (p := ⟨w.heap.size + 1, 1, none⟩) (Kd.R_far (p := ⟨w.heap.size + 1, 0, none⟩) (Kd.R_types (Kd.R_drew HO16.out) (blk_drew HK2'.out) (by decide)) (fun _ hk => hk.2) _) (fun _ hk => hk.2) _) (fun _ h_ => h_.1)
  · exact below_set (below_set (below_drew1 (HB9.out.trans (HB16.out.mono HZ9.out))) (by omega)) (by omega)
end Go.Proofs.Ytlkjglanglpdoaa.T
namespace Go.Proofs.Ytlkjglanglpdoaa.T
open Go.RowKit Go.Proofs.YtlkjglanglpdoaaW.PrintWords Go.Proofs.YtlkjglanglpdoaaW.PrintLast Go.Proofs.YtlkjglanglpdoaaW.PrintMore
set_option linter.unusedVariables false
set_option linter.unusedSimpArgs false
noncomputable def impl_FewestVoyages.f (a0 a1 a2 : Int) : Option (Int × Bool) := some (fewR a0 a1 a2)
theorem fewR_not {a0 a1 a2 : Int} (h : ¬ IslOk a0 a1 a2) : fewR a0 a1 a2 = (0, false) := by unfold fewR; rw [if_neg (fun h' => h h'.1)]
theorem fewR_none {a0 a1 a2 : Int} (h : ¬ 0 ≤ fewV a0 a1 a2) : fewR a0 a1 a2 = (0, false) := by unfold fewR; rw [if_neg (fun h' => h h'.2)]
theorem fewR_some {a0 a1 a2 : Int} (h : IslOk a0 a1 a2) (h' : 0 ≤ fewV a0 a1 a2) : fewR a0 a1 a2 = (fewV a0 a1 a2, true) := by unfold fewR; rw [if_pos ⟨h, h'⟩]
set_option maxHeartbeats 3200000 in
set_option maxRecDepth 100000 in
theorem impl_FewestVoyages.calls (a0 a1 a2 : Int) (r1 : Int) (r2 : Bool) (w : World) (h : impl_FewestVoyages.f a0 a1 a2 = some (r1, r2)) :
    Calls Try.prog 30 #[.agg #[.int .i64 a0, .int .i64 a1, .int .i64 a2]] w fun e w' => e = .returned (.tuple #[.int .i64 r1, .bool r2]) ∧ Below w.heap.size w w' := by
  obtain ⟨b, hf, hb⟩ := isIsles_eq a0 a1 a2
  have HF := Aside0.mk hf
  clear hf
  have hr : fewR a0 a1 a2 = (r1, r2) := Option.some.inj h
  clear h
  cases b
  · have hno : ¬ IslOk a0 a1 a2 := fun h => Bool.false_ne_true (hb.2 h)
    rw [fewR_not hno] at hr
    obtain ⟨rfl, rfl⟩ := Prod.mk.inj hr
    clear hb hno hr
    go_enter Try.func30, Try.ntmps30
    go_wp2_with (go_at_call 59; refine (impl_IsIsles.calls a0 a1 a2 false _ HF.out).mono ?_; rintro e w5 ⟨rfl, hd⟩; have HB := Aside0.mk hd; clear hd)
    go_ret2
    exact ⟨rfl, (below_alloc (Below.refl _ _) _).trans (HB.out.mono (by simp))⟩
  · have hI := hb.1 rfl
    have HI := Aside0.mk hI
    have HR := Aside0.mk hr
    clear hb hI hr
    go_enter Try.func30, Try.ntmps30
    go_wp2_with (go_at_call 59; refine (impl_IsIsles.calls a0 a1 a2 true _ HF.out).mono ?_; rintro e w5 ⟨rfl, hd⟩; have hblk := blk_below (blk_new w (.cells #[.int .i64 a0, .int .i64 a1, .int .i64 a2] 39)) hd; have hz0 : w5.cell? ⟨w.heap.size, 0, none⟩ = some (.int .i64 a0) := (blk_cell hblk 0).trans rfl; have hz1 : w5.cell? ⟨w.heap.size, 1, none⟩ = some (.int .i64 a1) := (blk_cell hblk 1).trans rfl; have hz2 : w5.cell? ⟨w.heap.size, 2, none⟩ = some (.int .i64 a2) := (blk_cell hblk 2).trans rfl; have HB := Aside0.mk ((below_alloc (Below.refl w.heap.size w) (.cells #[.int .i64 a0, .int .i64 a1, .int .i64 a2] 39)).trans (hd.mono (by simp))); clear hd hblk)
    refine (costsI HI.out _).mono ?_
    rintro e w12 ⟨pw, bd, cd, ds, rfl, his, hr, hlen, hle, hd⟩
    have hfew : rd ds 0 = fewV a0 a1 a2 := hle 0 (many4_lt HI.out).1
    have h0l : 0 < ds.length := by rw [hlen]; exact (many4_lt HI.out).1
    have hcd := row_cell0 hr h0l
    have hcd2 : ∀ o, (w12.alloc o).cell? ⟨bd, 0, none⟩ = some (.int .i64 (rd ds 0)) := fun o => (World.cell?_alloc_past _ _ _ (World.block_lt_of_cell? w12 _ hcd)).trans hcd
    have HB2 := Aside0.mk (HB.out.trans (hd.mono HB.out.size))
    have HFEW := Aside0.mk hfew
    clear his hr hlen hle hd hfew hcd
    by_cases hk : 0 ≤ rd ds 0
    · have c0b : decide (0 ≤ rd ds 0) = true := by simpa using hk
      have HK := Aside0.mk hk
      clear hk
      go_wp2
      go_ret2
      have hk := HK.out
      rw [HFEW.out] at hk
      have hR := HR.out
      rw [fewR_some HI.out hk] at hR
      obtain ⟨rfl, rfl⟩ := Prod.mk.inj hR
      exact ⟨by rw [HFEW.out]; rfl, below_alloc HB2.out _⟩
    · have c0b : decide (0 ≤ rd ds 0) = false := by simpa using hk
      have HK := Aside0.mk hk
      clear hk
      go_wp2
      go_ret2
      have hk := HK.out
      rw [HFEW.out] at hk
      have hR := HR.out
      rw [fewR_none (by omega)] at hR
      obtain ⟨rfl, rfl⟩ := Prod.mk.inj hR
      exact ⟨rfl, below_alloc HB2.out _⟩
end Go.Proofs.Ytlkjglanglpdoaa.T
namespace Go.Proofs.Ytlkjglanglpdoaa.T
open Go.RowKit Go.Proofs.YtlkjglanglpdoaaW.PrintWords Go.Proofs.YtlkjglanglpdoaaW.PrintLast Go.Proofs.YtlkjglanglpdoaaW.PrintMore
attribute [local go_sem] max2_int min2_int max_two min_two max_three min_three max_four min_four
set_option linter.unusedVariables false
set_option linter.unusedSimpArgs false
def spec_isGood.f (a0_0 : Int) (a0_1 : Int) (a0_2 : Int) : Option (Bool) := (spec_l1In.f a0_0 1 3).bind fun t273 => (if t273 = true then ((spec_l1In.f a0_1 1 3).bind fun t274 => (if t274 = true then ((spec_l1In.f a0_2 0 2).bind fun t275 => (some t275)) else (some false))) else (some false))
set_option maxHeartbeats 8000000 in
set_option maxRecDepth 100000 in
theorem spec_isGood.calls (a0_0 : Int) (a0_1 : Int) (a0_2 : Int) (r : Bool) (w : World) (h : spec_isGood.f a0_0 a0_1 a0_2 = some r) :
    Calls Try.prog 140 #[.agg #[.int .i64 a0_0, .int .i64 a0_1, .int .i64 a0_2]] w fun e w' => e = .returned (.bool r) ∧ Below w.heap.size w w' := by
  have hu39 := Try.underlying39
  have HB := Aside0.mk (Below.refl w.heap.size w)
  have H : ((spec_l1In.f a0_0 1 3).bind fun t273 => (if t273 = true then ((spec_l1In.f a0_1 1 3).bind fun t274 => (if t274 = true then ((spec_l1In.f a0_2 0 2).bind fun t275 => (some t275)) else (some false))) else (some false))) = some r := h
  clear h
  replace H := Option.bind_eq_some_iff.mp H
  obtain ⟨t273, A20, H⟩ := H
  replace H : (if t273 = true then ((spec_l1In.f a0_1 1 3).bind fun t274 => (if t274 = true then ((spec_l1In.f a0_2 0 2).bind fun t275 => (some t275)) else (some false))) else (some false)) = some r := H
  have A2 := Aside0.mk A20
  clear A20
  by_cases c3 : t273 = true
  · subst c3
    have H1 : ((spec_l1In.f a0_1 1 3).bind fun t274 => (if t274 = true then ((spec_l1In.f a0_2 0 2).bind fun t275 => (some t275)) else (some false))) = some r := by rw [if_pos rfl] at H; exact H
    clear H
    have H := H1
    clear H1
    replace H := Option.bind_eq_some_iff.mp H
    obtain ⟨t274, A40, H⟩ := H
    replace H : (if t274 = true then ((spec_l1In.f a0_2 0 2).bind fun t275 => (some t275)) else (some false)) = some r := H
    have A4 := Aside0.mk A40
    clear A40
    by_cases c5 : t274 = true
    · subst c5
      have H1 : ((spec_l1In.f a0_2 0 2).bind fun t275 => (some t275)) = some r := by rw [if_pos rfl] at H; exact H
      clear H
      have H := H1
      clear H1
      replace H := Option.bind_eq_some_iff.mp H
      obtain ⟨t275, A60, H⟩ := H
      replace H : (some t275) = some r := H
      have A6 := Aside0.mk A60
      clear A60
      obtain rfl := Option.some.inj H
      go_enter Try.func140, Try.ntmps140
      go_wp2_with (first | ((with_reducible refine gate_dst (N := 1) rfl ?_); refine box_event ?hg (N := 1) ?hd (cs := #[.int .i64 a0_0, .int .i64 a0_1, .int .i64 a0_2]) (t := 39) ?hr ?_; (case hd => rfl); (case hg => rfl); (case hr => first | (go_simp; done) | (go_simp; rfl)); intro gb272 hg w7 hbox hb; have n0_ := Aside0.mk (below_step (by repeat (first | (with_reducible first | exact HB.out | apply below_alloc | apply pw_below_drewN | apply below_drew1) | exact HB.out)) hb); have n1_ := Aside0.mk (hbox); have n2_ := Aside0.mk ((by rw [hg]; exact (below_size (by repeat (first | (with_reducible first | exact HB.out | apply below_alloc | apply pw_below_drewN | apply below_drew1) | exact HB.out))) : w.heap.size ≤ gb272)); have n3_ := Aside0.mk ((by rw [hg]; exact (below_size (by repeat (first | (with_reducible first | exact HB.out | apply below_alloc | apply pw_below_drewN | apply below_drew1) | exact HB.out))) : w.heap.size ≤ gb272)); clear HB; have HB := n0_; have BK272 := n1_; have GW272 := n2_; have GE272 := n3_; clear n0_ n1_ n2_ n3_; clear hb hbox hg; have hcz8_0 : w7.cell? ⟨gb272, 0, none⟩ = some (.int .i64 a0_0) := (blk_cell BK272.out 0).trans rfl; have hcz8_1 : w7.cell? ⟨gb272, 1, none⟩ = some (.int .i64 a0_1) := (blk_cell BK272.out 1).trans rfl; have hcz8_2 : w7.cell? ⟨gb272, 2, none⟩ = some (.int .i64 a0_2) := (blk_cell BK272.out 2).trans rfl; have hfz8_0 := blk_frozen BK272.out 0; have hfz8_1 := blk_frozen BK272.out 1; have hfz8_2 := blk_frozen BK272.out 2) | ((with_reducible refine gate_callee (f := 132) rfl ?_); refine goesL_ (some 5) rfl rfl Try.func132 (by kernel_rfl) rfl #[.int .i64 a0_0, .int .i64 1, .int .i64 3] rfl (by (try simp only [List.map_toArray, List.map_cons, List.map_nil]); first | done | rfl | (simp only [List.length_drop, List.length_take]; rfl)) ?_; (with_reducible refine (spec_l1In.calls a0_0 1 3 true _ A2.out).mono ?_); rintro e w' ⟨rfl, ⟨nd, rfl⟩⟩; refine ⟨_, rfl, ?_⟩) | (go_at_call 132; (with_reducible refine (spec_l1In.calls a0_1 1 3 true _ A4.out).mono ?_); rintro e w' ⟨rfl, ⟨nd, rfl⟩⟩) | (go_at_call 132; (with_reducible refine (spec_l1In.calls a0_2 0 2 t275 _ A6.out).mono ?_); rintro e w' ⟨rfl, ⟨nd, rfl⟩⟩))
      go_ret
      exact ⟨by first | rfl | (simp [errW_none, errW_some] <;> rfl) | (simp [*, errW_none, errW_some] <;> rfl), by repeat (first | (with_reducible first | exact HB.out | apply below_alloc | apply pw_below_drewN | apply below_drew1 | refine below_set ?_ GE272.out) | exact HB.out)⟩
    · replace c5 := Bool.eq_false_iff.mpr c5
      subst c5
      have H1 : (some false) = some r := by rw [if_neg (show ¬ (false = true) by decide)] at H; exact H
      clear H
      have H := H1
      clear H1
      obtain rfl := Option.some.inj H
      go_enter Try.func140, Try.ntmps140
      go_wp2_with (first | ((with_reducible refine gate_dst (N := 1) rfl ?_); refine box_event ?hg (N := 1) ?hd (cs := #[.int .i64 a0_0, .int .i64 a0_1, .int .i64 a0_2]) (t := 39) ?hr ?_; (case hd => rfl); (case hg => rfl); (case hr => first | (go_simp; done) | (go_simp; rfl)); intro gb272 hg w9 hbox hb; have n0_ := Aside0.mk (below_step (by repeat (first | (with_reducible first | exact HB.out | apply below_alloc | apply pw_below_drewN | apply below_drew1) | exact HB.out)) hb); have n1_ := Aside0.mk (hbox); have n2_ := Aside0.mk ((by rw [hg]; exact (below_size (by repeat (first | (with_reducible first | exact HB.out | apply below_alloc | apply pw_below_drewN | apply below_drew1) | exact HB.out))) : w.heap.size ≤ gb272)); have n3_ := Aside0.mk ((by rw [hg]; exact (below_size (by repeat (first | (with_reducible first | exact HB.out | apply below_alloc | apply pw_below_drewN | apply below_drew1) | exact HB.out))) : w.heap.size ≤ gb272)); clear HB; have HB := n0_; have BK272 := n1_; have GW272 := n2_; have GE272 := n3_; clear n0_ n1_ n2_ n3_; clear hb hbox hg; have hcz10_0 : w9.cell? ⟨gb272, 0, none⟩ = some (.int .i64 a0_0) := (blk_cell BK272.out 0).trans rfl; have hcz10_1 : w9.cell? ⟨gb272, 1, none⟩ = some (.int .i64 a0_1) := (blk_cell BK272.out 1).trans rfl; have hcz10_2 : w9.cell? ⟨gb272, 2, none⟩ = some (.int .i64 a0_2) := (blk_cell BK272.out 2).trans rfl; have hfz10_0 := blk_frozen BK272.out 0; have hfz10_1 := blk_frozen BK272.out 1; have hfz10_2 := blk_frozen BK272.out 2) | ((with_reducible refine gate_callee (f := 132) rfl ?_); refine goesL_ (some 5) rfl rfl Try.func132 (by kernel_rfl) rfl #[.int .i64 a0_0, .int .i64 1, .int .i64 3] rfl (by (try simp only [List.map_toArray, List.map_cons, List.map_nil]); first | done | rfl | (simp only [List.length_drop, List.length_take]; rfl)) ?_; (with_reducible refine (spec_l1In.calls a0_0 1 3 true _ A2.out).mono ?_); rintro e w' ⟨rfl, ⟨nd, rfl⟩⟩; refine ⟨_, rfl, ?_⟩) | (go_at_call 132; (with_reducible refine (spec_l1In.calls a0_1 1 3 false _ A4.out).mono ?_); rintro e w' ⟨rfl, ⟨nd, rfl⟩⟩))
      go_ret
      exact ⟨by first | rfl | (simp [errW_none, errW_some] <;> rfl) | (simp [*, errW_none, errW_some] <;> rfl), by repeat (first | (with_reducible first | exact HB.out | apply below_alloc | apply pw_below_drewN | apply below_drew1 | refine below_set ?_ GE272.out) | exact HB.out)⟩
  · replace c3 := Bool.eq_false_iff.mpr c3
    subst c3
    have H1 : (some false) = some r := by rw [if_neg (show ¬ (false = true) by decide)] at H; exact H
    clear H
    have H := H1
    clear H1
    obtain rfl := Option.some.inj H
    go_enter Try.func140, Try.ntmps140
    go_wp2_with (first | ((with_reducible refine gate_dst (N := 1) rfl ?_); refine box_event ?hg (N := 1) ?hd (cs := #[.int .i64 a0_0, .int .i64 a0_1, .int .i64 a0_2]) (t := 39) ?hr ?_; (case hd => rfl); (case hg => rfl); (case hr => first | (go_simp; done) | (go_simp; rfl)); intro gb272 hg w11 hbox hb; have n0_ := Aside0.mk (below_step (by repeat (first | (with_reducible first | exact HB.out | apply below_alloc | apply pw_below_drewN | apply below_drew1) | exact HB.out)) hb); have n1_ := Aside0.mk (hbox); have n2_ := Aside0.mk ((by rw [hg]; exact (below_size (by repeat (first | (with_reducible first | exact HB.out | apply below_alloc | apply pw_below_drewN | apply below_drew1) | exact HB.out))) : w.heap.size ≤ gb272)); have n3_ := Aside0.mk ((by rw [hg]; exact (below_size (by repeat (first | (with_reducible first | exact HB.out | apply below_alloc | apply pw_below_drewN | apply below_drew1) | exact HB.out))) : w.heap.size ≤ gb272)); clear HB; have HB := n0_; have BK272 := n1_; have GW272 := n2_; have GE272 := n3_; clear n0_ n1_ n2_ n3_; clear hb hbox hg; have hcz12_0 : w11.cell? ⟨gb272, 0, none⟩ = some (.int .i64 a0_0) := (blk_cell BK272.out 0).trans rfl; have hcz12_1 : w11.cell? ⟨gb272, 1, none⟩ = some (.int .i64 a0_1) := (blk_cell BK272.out 1).trans rfl; have hcz12_2 : w11.cell? ⟨gb272, 2, none⟩ = some (.int .i64 a0_2) := (blk_cell BK272.out 2).trans rfl; have hfz12_0 := blk_frozen BK272.out 0; have hfz12_1 := blk_frozen BK272.out 1; have hfz12_2 := blk_frozen BK272.out 2) | ((with_reducible refine gate_callee (f := 132) rfl ?_); refine goesL_ (some 5) rfl rfl Try.func132 (by kernel_rfl) rfl #[.int .i64 a0_0, .int .i64 1, .int .i64 3] rfl (by (try simp only [List.map_toArray, List.map_cons, List.map_nil]); first | done | rfl | (simp only [List.length_drop, List.length_take]; rfl)) ?_; (with_reducible refine (spec_l1In.calls a0_0 1 3 false _ A2.out).mono ?_); rintro e w' ⟨rfl, ⟨nd, rfl⟩⟩; refine ⟨_, rfl, ?_⟩))
    go_ret
    exact ⟨by first | rfl | (simp [errW_none, errW_some] <;> rfl) | (simp [*, errW_none, errW_some] <;> rfl), by repeat (first | (with_reducible first | exact HB.out | apply below_alloc | apply pw_below_drewN | apply below_drew1 | refine below_set ?_ GE272.out) | exact HB.out)⟩
end Go.Proofs.Ytlkjglanglpdoaa.T
namespace Go.Proofs.Ytlkjglanglpdoaa.T
open Go.RowKit Go.Proofs.YtlkjglanglpdoaaW.PrintWords Go.Proofs.YtlkjglanglpdoaaW.PrintLast Go.Proofs.YtlkjglanglpdoaaW.PrintMore
attribute [local go_sem] max2_int min2_int max_two min_two max_three min_three max_four min_four
set_option linter.unusedVariables false
set_option linter.unusedSimpArgs false
def spec_isFewest.f (k : Nat) (a0_0 : Int) (a0_1 : Int) (a0_2 : Int) : Option (Int × Int) := (spec_isAll.f k a0_0 a0_1 a0_2 0).bind fun bt436 => ((spec_isFar.f k a0_0 a0_1 a0_2 bt436.1 bt436.2).bind fun bt440 => ((spec_isAll.f k a0_0 a0_1 a0_2 (wrap64 (a0_2 + 1))).bind fun bt447 => ((spec_isCode.f k a0_0 a0_1 a0_2 bt447.1 bt447.2).bind fun t451 => (if 0 ≤ t451 then (if t451 < (bt440.1.length : Int) then (if t451 < (bt440.2.1.length : Int) then (some (rd bt440.1 t451, rd bt440.2.1 t451)) else (none)) else (none)) else (none)))))
theorem spec_isFewest.mono : ∀ a0 a1 a2 k, LeO (spec_isFewest.f k a0 a1 a2) (spec_isFewest.f (k + 1) a0 a1 a2) := by
  intro a0 a1 a2 k
  unfold spec_isFewest.f
  repeat' first
      | (with_reducible exact spec_isAll.mono _ _ _ _ _)
      | (with_reducible exact spec_isCode.mono _ _ _ _ _ _)
      | (with_reducible exact spec_isFar.mono _ _ _ _ _ _)
      | (with_reducible exact LeO.refl _)
      | (with_reducible exact LeO.none _)
      | (with_reducible refine LeO.ite ?_ ?_)
      | (with_reducible refine LeO.bind ?_ (fun _ => ?_))
      | exact spec_isAll.mono _ _ _ _ _
      | exact spec_isCode.mono _ _ _ _ _ _
      | exact spec_isFar.mono _ _ _ _ _ _
      | exact LeO.none _
      | refine LeO.ite ?_ ?_
      | refine LeO.bind ?_ (fun _ => ?_)
def spec_isFewest.T1 : Bool × List (List Nat × List Nat) := (true, [([], []), ([], []), ([1], [1]), ([0, 2, 2], [0, 2]), ([3], [3]), ([4], [4]), ([4], [4]), ([4], [4]), ([5, 3, 0, 1, 2, 3, 4, 5], [5]), ([6, 8, 0, 1, 2, 3, 4, 5, 6, 8], [6]), ([7, 9, 0, 1, 2, 3, 4, 5, 6, 7, 8, 9], [7])])
def spec_isFewest.B1 : List Nat := [0, 0, 2, 7, 15, 31, 31, 31, 63, 383, 1023]
theorem spec_isFewest.tab1 : rtab .any (opsOf Try.f145 1) = spec_isFewest.T1 := by kernel_rfl
theorem spec_isFewest.bits1 : waitsOk spec_isFewest.T1.2 spec_isFewest.B1 = true := by kernel_rfl
def spec_isFewest.T2 : Bool × List (List Nat × List Nat) := (true, [([], []), ([], []), ([], []), ([2], [2]), ([3], [3]), ([1, 4], [1, 4]), ([0, 5, 5], [0, 5]), ([6, 6, 0, 1, 2, 3, 4, 5, 6], [6])])
def spec_isFewest.B2 : List Nat := [0, 0, 0, 4, 12, 30, 63, 127]
theorem spec_isFewest.tab2 : rtab .any (opsOf Try.f145 2) = spec_isFewest.T2 := by kernel_rfl
theorem spec_isFewest.bits2 : waitsOk spec_isFewest.T2.2 spec_isFewest.B2 = true := by kernel_rfl
def spec_isFewest.T3 : Bool × List (List Nat × List Nat) := (true, [([], []), ([], []), ([0, 1], [0, 1]), ([2], [2]), ([], []), ([], []), ([4, 5], [4, 5]), ([6], [6]), ([3, 0, 1, 2, 3], [3]), ([7, 8, 0, 1, 2, 3, 4, 5, 6, 7, 8], [7])])
def spec_isFewest.B3 : List Nat := [0, 0, 3, 7, 0, 0, 48, 112, 15, 511]
theorem spec_isFewest.tab3 : rtab .any (opsOf Try.f145 3) = spec_isFewest.T3 := by kernel_rfl
theorem spec_isFewest.bits3 : waitsOk spec_isFewest.T3.2 spec_isFewest.B3 = true := by kernel_rfl
set_option maxHeartbeats 8000000 in
set_option maxRecDepth 100000 in
theorem spec_isFewest.calls (k : Nat) (a0_0 : Int) (a0_1 : Int) (a0_2 : Int) (r1 : Int) (r2 : Int) (w : World) (h : spec_isFewest.f k a0_0 a0_1 a0_2 = some (r1, r2)) :
    Calls Try.prog 145 #[.agg #[.int .i64 a0_0, .int .i64 a0_1, .int .i64 a0_2]] w fun e w' => e = .returned (.tuple #[.int .i64 r1, .int .i64 r2]) ∧ Below w.heap.size w w' := by
  have hu39 := Try.underlying39
  have HB := Aside0.mk (Below.refl w.heap.size w)
  have H : ((spec_isAll.f k a0_0 a0_1 a0_2 0).bind fun bt436 => ((spec_isFar.f k a0_0 a0_1 a0_2 bt436.1 bt436.2).bind fun bt440 => ((spec_isAll.f k a0_0 a0_1 a0_2 (wrap64 (a0_2 + 1))).bind fun bt447 => ((spec_isCode.f k a0_0 a0_1 a0_2 bt447.1 bt447.2).bind fun t451 => (if 0 ≤ t451 then (if t451 < (bt440.1.length : Int) then (if t451 < (bt440.2.1.length : Int) then (some (rd bt440.1 t451, rd bt440.2.1 t451)) else (none)) else (none)) else (none)))))) = some (r1, r2) := h
  clear h
  replace H := Option.bind_eq_some_iff.mp H
  obtain ⟨⟨t436, t439⟩, A20, H⟩ := H
  replace H : ((spec_isFar.f k a0_0 a0_1 a0_2 t436 t439).bind fun bt440 => ((spec_isAll.f k a0_0 a0_1 a0_2 (wrap64 (a0_2 + 1))).bind fun bt447 => ((spec_isCode.f k a0_0 a0_1 a0_2 bt447.1 bt447.2).bind fun t451 => (if 0 ≤ t451 then (if t451 < (bt440.1.length : Int) then (if t451 < (bt440.2.1.length : Int) then (some (rd bt440.1 t451, rd bt440.2.1 t451)) else (none)) else (none)) else (none))))) = some (r1, r2) := H
  have A2 := Aside0.mk A20
  clear A20
  replace H := Option.bind_eq_some_iff.mp H
  obtain ⟨⟨t440, t443, t446⟩, A30, H⟩ := H
  replace H : ((spec_isAll.f k a0_0 a0_1 a0_2 (wrap64 (a0_2 + 1))).bind fun bt447 => ((spec_isCode.f k a0_0 a0_1 a0_2 bt447.1 bt447.2).bind fun t451 => (if 0 ≤ t451 then (if t451 < (t440.length : Int) then (if t451 < (t443.length : Int) then (some (rd t440 t451, rd t443 t451)) else (none)) else (none)) else (none)))) = some (r1, r2) := H
  have A3 := Aside0.mk A30
  clear A30
  replace H := Option.bind_eq_some_iff.mp H
  obtain ⟨⟨t447, t450⟩, A40, H⟩ := H
  replace H : ((spec_isCode.f k a0_0 a0_1 a0_2 t447 t450).bind fun t451 => (if 0 ≤ t451 then (if t451 < (t440.length : Int) then (if t451 < (t443.length : Int) then (some (rd t440 t451, rd t443 t451)) else (none)) else (none)) else (none))) = some (r1, r2) := H
  have A4 := Aside0.mk A40
  clear A40
  replace H := Option.bind_eq_some_iff.mp H
  obtain ⟨t451, A50, H⟩ := H
  replace H : (if 0 ≤ t451 then (if t451 < (t440.length : Int) then (if t451 < (t443.length : Int) then (some (rd t440 t451, rd t443 t451)) else (none)) else (none)) else (none)) = some (r1, r2) := H
  have A5 := Aside0.mk A50
  clear A50
  by_cases c6 : 0 ≤ t451
  · rw [if_pos c6] at H
    have c6b0 : decide (0 ≤ t451) = true := decide_eq_true c6
    clear c6
    by_cases c7 : t451 < (t440.length : Int)
    · rw [if_pos c7] at H
      have c7b0 : decide (t451 < (t440.length : Int)) = true := decide_eq_true c7
      clear c7
      by_cases c8 : t451 < (t443.length : Int)
      · rw [if_pos c8] at H
        have c8b0 : decide (t451 < (t443.length : Int)) = true := decide_eq_true c8
        clear c8
        simp only [Option.some.injEq, Prod.mk.injEq] at H
        obtain ⟨rfl, rfl⟩ := H
        go_enter Try.func145, Try.ntmps145
        try go_wp2_with (first | ((with_reducible refine gate_dst (N := 1) rfl ?_); refine box_event ?hg (N := 1) ?hd (cs := #[.int .i64 a0_0, .int .i64 a0_1, .int .i64 a0_2]) (t := 39) ?hr ?_; (case hd => rfl); (case hg => rfl); (case hr => first | (go_simp; done) | (go_simp; rfl)); intro gb435 hg w9 hbox hb; have n0_ := Aside0.mk (below_step (by repeat (first | (with_reducible first | exact HB.out | apply below_alloc | apply pw_below_drewN | apply below_drew1) | exact HB.out)) hb); have n1_ := Aside0.mk (hbox); have n2_ := Aside0.mk ((by rw [hg]; exact (below_size (by repeat (first | (with_reducible first | exact HB.out | apply below_alloc | apply pw_below_drewN | apply below_drew1) | exact HB.out))) : w.heap.size ≤ gb435)); have n3_ := Aside0.mk ((by rw [hg]; exact (below_size (by repeat (first | (with_reducible first | exact HB.out | apply below_alloc | apply pw_below_drewN | apply below_drew1) | exact HB.out))) : w.heap.size ≤ gb435)); clear HB; have HB := n0_; have BK435 := n1_; have GW435 := n2_; have GE435 := n3_; clear n0_ n1_ n2_ n3_; clear hb hbox hg))
        have n0_ := Aside0.mk (blk_drew BK435.out)
        have n1_ := Aside0.mk (below_drew1 HB.out)
        clear BK435
        clear HB
        have BK435 := n0_
        have HB := n1_
        clear n0_ n1_
        refine start_ (n := 11) (S := fun w' => w'.cell? ⟨gb435, 0, none⟩ = some (.int .i64 a0_0) ∧ w'.cell? ⟨gb435, 1, none⟩ = some (.int .i64 a0_1) ∧ w'.cell? ⟨gb435, 2, none⟩ = some (.int .i64 a0_2)) (ds := []) #[false, false, false, false, false, false, false, false, false, false, false] (by kernel_rfl) rfl rfl ⟨(blk_cell BK435.out 0).trans rfl, (blk_cell BK435.out 1).trans rfl, (blk_cell BK435.out 2).trans rfl⟩ (fun hHeld => ?_); refine with_tabW spec_isFewest.tab1 spec_isFewest.bits1 (fun HT_ HW_ => ?_)
        generalize w9.drew = w10 at BK435 HB hHeld ⊢
        refine take_ (i := 0) (N := some 9) (v := ?_) (a' := ?_) #[true, false, false, false, false, false, false, false, false, false, false] rfl rfl (take_ofW HT_.out HW_.out (by kernel_rfl)) (fun _ _ _ h => h) (Or.inl ⟨by rfl, ?_⟩) hHeld ?_ ?_
        rotate_left
        · rintro w' ⟨s0, s1, s2⟩
          go_simp
          with_reducible rfl
        rotate_left
        · simp only [Act.put, List.setIfInBounds_toArray, List.set_cons_zero, List.set_cons_succ, i64_w, i32_w]
          rfl
        refine take_ (i := 1) (N := some 10) (v := ?_) (a' := ?_) #[true, true, false, false, false, false, false, false, false, false, false] rfl rfl (take_ofW HT_.out HW_.out (by kernel_rfl)) (fun _ _ _ h => h) (Or.inl ⟨by rfl, ?_⟩) hHeld ?_ ?_
        rotate_left
        · rintro w' ⟨s0, s1, s2⟩
          go_simp
          with_reducible rfl
        rotate_left
        · simp only [Act.put, List.setIfInBounds_toArray, List.set_cons_zero, List.set_cons_succ, i64_w, i32_w]
          rfl
        refine one_ (i := 2) (N := some 11) #[true, true, true, false, false, false, false, false, false, false, false] rfl rfl (one_of HT_.out (by kernel_rfl)) (by decide) (fun K hK => ?_)
        refine goes_ Try.func142 (by kernel_rfl) rfl #[.agg #[.int .i64 a0_0, .int .i64 a0_1, .int .i64 a0_2], .int .i64 0] (by rfl) rfl rfl (by (try simp only [List.map_toArray, List.map_cons, List.map_nil]); first | done | rfl | (simp only [List.length_drop, List.length_take]; rfl)) ?_
        with_reducible refine (spec_isAll.calls k a0_0 a0_1 a0_2 0 t436 t439 _ A2.out).mono ?_
        rintro e w11 ⟨v437, rfl, ho0, hb⟩
        refine ⟨_, rfl, ?_⟩
        have n0_ := Aside0.mk (Kd.R_lower ho0 (below_size (by repeat (first | (with_reducible first | exact HB.out | apply below_alloc | apply pw_below_drewN | apply below_drew1 | refine below_set ?_ GE435.out) | exact HB.out))))
        have n1_ := Aside0.mk (blk_below (g := gb435) (o := .cells #[.int .i64 a0_0, .int .i64 a0_1, .int .i64 a0_2] 39 (0, 0)) (by (with_reducible repeat (first | refine blk_drewN ?_ _ | refine blk_drew ?_ | refine blk_alloc ?_ _)); exact BK435.out) hb)
        have n2_ := Aside0.mk (below_step (by repeat (first | (with_reducible first | exact HB.out | apply below_alloc | apply pw_below_drewN | apply below_drew1 | refine below_set ?_ GE435.out) | exact HB.out)) hb)
        clear BK435
        clear HB
        have HO438 := n0_
        have BK435 := n1_
        have HB := n2_
        clear n0_ n1_ n2_
        (try clear hb)
        (try clear hb2)
        (try clear hk)
        (try clear hi)
        (try clear ho0)
        obtain ⟨Ao12, co12, eo12⟩ := Kd.R_slice HO438.out
        (first | subst eo12 | (injection eo12 with f1_ f2_ f3_; have f4_ := f1_.symm; have f5_ := f3_.symm; clear f1_ f2_ f3_; subst f4_; subst f5_))
        refine hK.out _ _ ⟨(blk_cell BK435.out 0).trans rfl, (blk_cell BK435.out 1).trans rfl, (blk_cell BK435.out 2).trans rfl⟩ (fun hHeld => ?_)
        clear hK K
        refine norm_ (a' := ?_) ?_ ?_
        rotate_left
        · show Act.put _ (some 11) _ = _
          simp only [Act.put, List.setIfInBounds_toArray, List.set_cons_zero, List.set_cons_succ, i64_w, i32_w]
          rfl
        refine one_ (i := 3) (N := some 12) #[true, true, true, true, false, false, false, false, false, false, false] rfl rfl (one_of HT_.out (by kernel_rfl)) (by decide) (fun K hK => ?_)
        refine goes_ Try.func141 (by kernel_rfl) rfl #[.agg #[.int .i64 a0_0, .int .i64 a0_1, .int .i64 a0_2], .agg #[.slice Ao12 t436.length co12, .int .i64 t439]] (by rfl) rfl rfl (by (try simp only [List.map_toArray, List.map_cons, List.map_nil]); first | done | rfl | (simp only [List.length_drop, List.length_take]; rfl)) ?_
        with_reducible refine (spec_isFar.calls k a0_0 a0_1 a0_2 (fun k_ => some k_ = (.slice Ao12 t436.length co12 : Value).ownBlock) _ _ t436 t439 t440 t443 t446 _ ?side1 A3.out).mono ?_
        (case side1 => exact Kd.R_V (Kd.R_tight rfl (Kd.R_types (HO438.out) BK435.out (by decide))))
        rintro e w13 ⟨v441, v444, rfl, ho0, ho1, hb⟩
        refine ⟨_, rfl, ?_⟩
        have n0_ := Aside0.mk (Kd.R_mono (Kd.R_told (Kd.R_told (Kd.R_old (by (with_reducible repeat (first | apply Kd.R_alloc | apply Kd.R_drewN | apply Kd.R_drew)); exact HO438.out) hb) (Kd.R_base ho0)) (Kd.R_base ho1)) (fun _ h_ => h_.1))
        have n1_ := Aside0.mk (Kd.R_lower (Kd.R_new' (Kd.R_mono (ok' := fun k_ => some k_ ≠ (v444 : Value).ownBlock) ho0 (fun _ hk_ => hk_.2)) (Kd.R_lt (by (with_reducible repeat (first | apply Kd.R_alloc | apply Kd.R_drewN | apply Kd.R_drew)); exact HO438.out))) (below_size (by repeat (first | (with_reducible first | exact HB.out | apply below_alloc | apply pw_below_drewN | apply below_drew1 | refine below_set ?_ GE435.out) | exact HB.out))))
        have n2_ := Aside0.mk (Kd.R_lower (Kd.R_new' (Kd.R_mono (ok' := fun k_ => some k_ ≠ (v441 : Value).ownBlock) ho1 (fun _ hk_ => hk_.2)) (Kd.R_lt (by (with_reducible repeat (first | apply Kd.R_alloc | apply Kd.R_drewN | apply Kd.R_drew)); exact HO438.out))) (below_size (by repeat (first | (with_reducible first | exact HB.out | apply below_alloc | apply pw_below_drewN | apply below_drew1 | refine below_set ?_ GE435.out) | exact HB.out))))
        have n3_ := Aside0.mk (blk_below (g := gb435) (o := .cells #[.int .i64 a0_0, .int .i64 a0_1, .int .i64 a0_2] 39 (0, 0)) (by (with_reducible repeat (first | refine blk_drewN ?_ _ | refine blk_drew ?_ | refine blk_alloc ?_ _)); exact BK435.out) hb)
        have n4_ := Aside0.mk (below_step (by repeat (first | (with_reducible first | exact HB.out | apply below_alloc | apply pw_below_drewN | apply below_drew1 | refine below_set ?_ GE435.out) | exact HB.out)) hb)
        clear HO438
        clear BK435
        clear HB
        have HO438 := n0_
        have HO442 := n1_
        have HO445 := n2_
        have BK435 := n3_
        have HB := n4_
        clear n0_ n1_ n2_ n3_ n4_
        (try clear hb)
        (try clear hb2)
        (try clear hk)
        (try clear hi)
        (try clear ho0)
        (try clear ho1)
        refine hK.out _ _ ⟨(blk_cell BK435.out 0).trans rfl, (blk_cell BK435.out 1).trans rfl, (blk_cell BK435.out 2).trans rfl⟩ (fun hHeld => ?_)
        clear hK K
        refine norm_ (a' := ?_) ?_ ?_
        rotate_left
        · show Act.put _ (some 12) _ = _
          simp only [Act.put, List.setIfInBounds_toArray, List.set_cons_zero, List.set_cons_succ, i64_w, i32_w]
          rfl
        refine pure_ (i := 4) (N := some 8) (v := ?_) (a' := ?_) #[true, true, true, true, true, false, false, false, false, false, false] rfl rfl (any_of HT_.out (by kernel_rfl)) (fun _ _ _ h => h) (Or.inl ⟨by rfl, ?_⟩) ?_ ?_
        rotate_left
        · intro w'
          go_simp
          with_reducible rfl
        rotate_left
        · simp only [Act.put, List.setIfInBounds_toArray, List.set_cons_zero, List.set_cons_succ, i64_w, i32_w]
          rfl
        refine pure_ (i := 5) (N := some 13) (v := ?_) (a' := ?_) #[true, true, true, true, true, true, false, false, false, false, false] rfl rfl (any_of HT_.out (by kernel_rfl)) (fun _ _ _ h => h) (Or.inl ⟨by rfl, ?_⟩) ?_ ?_
        rotate_left
        · intro w'
          go_simp
          with_reducible rfl
        rotate_left
        · simp only [Act.put, List.setIfInBounds_toArray, List.set_cons_zero, List.set_cons_succ, i64_w, i32_w]
          rfl
        refine pure_ (i := 6) (N := some 14) (v := ?_) (a' := ?_) #[true, true, true, true, true, true, true, false, false, false, false] rfl rfl (any_of HT_.out (by kernel_rfl)) (fun _ _ _ h => h) (Or.inl ⟨by rfl, ?_⟩) ?_ ?_
        rotate_left
        · intro w'
          go_simp
          with_reducible rfl
        rotate_left
        · simp only [Act.put, List.setIfInBounds_toArray, List.set_cons_zero, List.set_cons_succ, i64_w, i32_w]
          rfl
        refine pure_ (i := 7) (N := some 15) (v := ?_) (a' := ?_) #[true, true, true, true, true, true, true, true, false, false, false] rfl rfl (any_of HT_.out (by kernel_rfl)) (fun _ _ _ h => h) (Or.inl ⟨by rfl, ?_⟩) ?_ ?_
        rotate_left
        · intro w'
          go_simp
          with_reducible rfl
        rotate_left
        · simp only [Act.put, List.setIfInBounds_toArray, List.set_cons_zero, List.set_cons_succ, i64_w, i32_w]
          rfl
        refine pure_ (i := 8) (N := some 4) (v := ?_) (a' := ?_) #[true, true, true, true, true, true, true, true, true, false, false] rfl rfl (any_of HT_.out (by kernel_rfl)) (fun _ _ _ h => h) (Or.inl ⟨by rfl, ?_⟩) ?_ ?_
        rotate_left
        · intro w'
          go_simp
          with_reducible rfl
        rotate_left
        · simp only [Act.put, List.setIfInBounds_toArray, List.set_cons_zero, List.set_cons_succ, i64_w, i32_w]
          rfl
        refine pure_ (i := 9) (N := some 5) (v := ?_) (a' := ?_) #[true, true, true, true, true, true, true, true, true, true, false] rfl rfl (any_of HT_.out (by kernel_rfl)) (fun _ _ _ h => h) (Or.inl ⟨by rfl, ?_⟩) ?_ ?_
        rotate_left
        · intro w'
          go_simp
          with_reducible rfl
        rotate_left
        · simp only [Act.put, List.setIfInBounds_toArray, List.set_cons_zero, List.set_cons_succ, i64_w, i32_w]
          rfl
        refine pure_ (i := 10) (N := some 6) (v := ?_) (a' := ?_) #[true, true, true, true, true, true, true, true, true, true, true] rfl rfl (any_of HT_.out (by kernel_rfl)) (fun _ _ _ h => h) (Or.inl ⟨by rfl, ?_⟩) ?_ ?_
        rotate_left
        · intro w'
          go_simp
          with_reducible rfl
        rotate_left
        · simp only [Act.put, List.setIfInBounds_toArray, List.set_cons_zero, List.set_cons_succ, i64_w, i32_w]
          rfl
        refine done_ (done_of HT_.out (by kernel_rfl)) ?_
        try go_wp2
        have n0_ := Aside0.mk (Kd.R_drew HO438.out)
        have n1_ := Aside0.mk (Kd.R_drew HO442.out)
        have n2_ := Aside0.mk (Kd.R_drew HO445.out)
        have n3_ := Aside0.mk (blk_drew BK435.out)
        have n4_ := Aside0.mk (below_drew1 HB.out)
        clear HO438
        clear HO442
        clear HO445
        clear BK435
        clear HB
        have HO438 := n0_
        have HO442 := n1_
        have HO445 := n2_
        have BK435 := n3_
        have HB := n4_
        clear n0_ n1_ n2_ n3_ n4_
        refine start_ (n := 8) (S := fun w' => w'.cell? ⟨gb435, 0, none⟩ = some (.int .i64 a0_0) ∧ w'.cell? ⟨gb435, 1, none⟩ = some (.int .i64 a0_1) ∧ w'.cell? ⟨gb435, 2, none⟩ = some (.int .i64 a0_2)) (ds := []) #[false, false, false, false, false, false, false, false] (by kernel_rfl) rfl rfl ⟨(blk_cell BK435.out 0).trans rfl, (blk_cell BK435.out 1).trans rfl, (blk_cell BK435.out 2).trans rfl⟩ (fun hHeld => ?_); refine with_tabW spec_isFewest.tab2 spec_isFewest.bits2 (fun HT_ HW_ => ?_)
        generalize w13.drew = w14 at HO438 HO442 HO445 BK435 HB hHeld ⊢
        refine pure_ (i := 2) (N := some 18) (v := ?_) (a' := ?_) #[false, false, true, false, false, false, false, false] rfl rfl (any_of HT_.out (by kernel_rfl)) (fun _ _ _ h => h) (Or.inl ⟨by rfl, ?_⟩) ?_ ?_
        rotate_left
        · intro w'
          go_simp
          with_reducible rfl
        rotate_left
        · simp only [Act.put, List.setIfInBounds_toArray, List.set_cons_zero, List.set_cons_succ, i64_w, i32_w]
          rfl
        refine take_ (i := 0) (N := some 16) (v := ?_) (a' := ?_) #[true, false, true, false, false, false, false, false] rfl rfl (take_ofW HT_.out HW_.out (by kernel_rfl)) (fun _ _ _ h => h) (Or.inl ⟨by rfl, ?_⟩) hHeld ?_ ?_
        rotate_left
        · rintro w' ⟨s0, s1, s2⟩
          go_simp
          with_reducible rfl
        rotate_left
        · simp only [Act.put, List.setIfInBounds_toArray, List.set_cons_zero, List.set_cons_succ, i64_w, i32_w]
          rfl
        refine take_ (i := 1) (N := some 17) (v := ?_) (a' := ?_) #[true, true, true, false, false, false, false, false] rfl rfl (take_ofW HT_.out HW_.out (by kernel_rfl)) (fun _ _ _ h => h) (Or.inl ⟨by rfl, ?_⟩) hHeld ?_ ?_
        rotate_left
        · rintro w' ⟨s0, s1, s2⟩
          go_simp
          with_reducible rfl
        rotate_left
        · simp only [Act.put, List.setIfInBounds_toArray, List.set_cons_zero, List.set_cons_succ, i64_w, i32_w]
          rfl
        refine take_ (i := 3) (N := some 19) (v := ?_) (a' := ?_) #[true, true, true, true, false, false, false, false] rfl rfl (take_ofW HT_.out HW_.out (by kernel_rfl)) (fun _ _ _ h => h) (Or.inl ⟨by rfl, ?_⟩) hHeld ?_ ?_
        rotate_left
        · rintro w' ⟨s0, s1, s2⟩
          go_simp
          with_reducible rfl
        rotate_left
        · simp only [Act.put, List.setIfInBounds_toArray, List.set_cons_zero, List.set_cons_succ, i64_w, i32_w]
          rfl
        refine pure_ (i := 4) (N := some 20) (v := ?_) (a' := ?_) #[true, true, true, true, true, false, false, false] rfl rfl (any_of HT_.out (by kernel_rfl)) (fun _ _ _ h => h) (Or.inl ⟨by rfl, ?_⟩) ?_ ?_
        rotate_left
        · intro w'
          go_simp
          with_reducible rfl
        rotate_left
        · simp only [Act.put, List.setIfInBounds_toArray, List.set_cons_zero, List.set_cons_succ, i64_w, i32_w]
          rfl
        refine one_ (i := 5) (N := some 21) #[true, true, true, true, true, true, false, false] rfl rfl (one_of HT_.out (by kernel_rfl)) (by decide) (fun K hK => ?_)
        refine goes_ Try.func142 (by kernel_rfl) rfl #[.agg #[.int .i64 a0_0, .int .i64 a0_1, .int .i64 a0_2], .int .i64 (wrap64 (a0_2 + 1))] (by rfl) rfl rfl (by (try simp only [List.map_toArray, List.map_cons, List.map_nil]); first | done | rfl | (simp only [List.length_drop, List.length_take]; rfl)) ?_
        with_reducible refine (spec_isAll.calls k a0_0 a0_1 a0_2 (wrap64 (a0_2 + 1)) t447 t450 _ A4.out).mono ?_
        rintro e w15 ⟨v448, rfl, ho0, hb⟩
        refine ⟨_, rfl, ?_⟩
        have n0_ := Aside0.mk (Kd.R_elder' (by (with_reducible repeat (first | apply Kd.R_alloc | apply Kd.R_drewN | apply Kd.R_drew)); exact HO438.out) (Kd.R_base ho0) hb)
        have n1_ := Aside0.mk (Kd.R_elder' (by (with_reducible repeat (first | apply Kd.R_alloc | apply Kd.R_drewN | apply Kd.R_drew)); exact HO442.out) (Kd.R_base ho0) hb)
        have n2_ := Aside0.mk (Kd.R_elder' (by (with_reducible repeat (first | apply Kd.R_alloc | apply Kd.R_drewN | apply Kd.R_drew)); exact HO445.out) (Kd.R_base ho0) hb)
        have n3_ := Aside0.mk (Kd.R_lower (Kd.R_new' (Kd.R_new' (Kd.R_new' ho0 (Kd.R_lt (by (with_reducible repeat (first | apply Kd.R_alloc | apply Kd.R_drewN | apply Kd.R_drew)); exact HO438.out))) (Kd.R_lt (by (with_reducible repeat (first | apply Kd.R_alloc | apply Kd.R_drewN | apply Kd.R_drew)); exact HO442.out))) (Kd.R_lt (by (with_reducible repeat (first | apply Kd.R_alloc | apply Kd.R_drewN | apply Kd.R_drew)); exact HO445.out))) (below_size (by repeat (first | (with_reducible first | exact HB.out | apply below_alloc | apply pw_below_drewN | apply below_drew1 | refine below_set ?_ GE435.out) | exact HB.out))))
        have n4_ := Aside0.mk (blk_below (g := gb435) (o := .cells #[.int .i64 a0_0, .int .i64 a0_1, .int .i64 a0_2] 39 (0, 0)) (by (with_reducible repeat (first | refine blk_drewN ?_ _ | refine blk_drew ?_ | refine blk_alloc ?_ _)); exact BK435.out) hb)
        have n5_ := Aside0.mk (below_step (by repeat (first | (with_reducible first | exact HB.out | apply below_alloc | apply pw_below_drewN | apply below_drew1 | refine below_set ?_ GE435.out) | exact HB.out)) hb)
        clear HO438
        clear HO442
        clear HO445
        clear BK435
        clear HB
        have HO438 := n0_
        have HO442 := n1_
        have HO445 := n2_
        have HO449 := n3_
        have BK435 := n4_
        have HB := n5_
        clear n0_ n1_ n2_ n3_ n4_ n5_
        (try clear hb)
        (try clear hb2)
        (try clear hk)
        (try clear hi)
        (try clear ho0)
        obtain ⟨Ao16, co16, eo16⟩ := Kd.R_slice HO449.out
        (first | subst eo16 | (injection eo16 with f1_ f2_ f3_; have f4_ := f1_.symm; have f5_ := f3_.symm; clear f1_ f2_ f3_; subst f4_; subst f5_))
        refine hK.out _ _ ⟨(blk_cell BK435.out 0).trans rfl, (blk_cell BK435.out 1).trans rfl, (blk_cell BK435.out 2).trans rfl⟩ (fun hHeld => ?_)
        clear hK K
        refine norm_ (a' := ?_) ?_ ?_
        rotate_left
        · show Act.put _ (some 21) _ = _
          simp only [Act.put, List.setIfInBounds_toArray, List.set_cons_zero, List.set_cons_succ, i64_w, i32_w]
          rfl
        refine one_ (i := 6) (N := some 22) #[true, true, true, true, true, true, true, false] rfl rfl (one_of HT_.out (by kernel_rfl)) (by decide) (fun K hK => ?_)
        refine goes_ Try.func190 (by kernel_rfl) rfl #[.agg #[.int .i64 a0_0, .int .i64 a0_1, .int .i64 a0_2], .agg #[.slice Ao16 t447.length co16, .int .i64 t450]] (by rfl) rfl rfl (by (try simp only [List.map_toArray, List.map_cons, List.map_nil]); first | done | rfl | (simp only [List.length_drop, List.length_take]; rfl)) ?_
        with_reducible refine (spec_isCode.calls k a0_0 a0_1 a0_2 _ _ t447 t450 t451 _ ?side1 ?side2 A5.out).mono ?_
        (case side1 => repeat (first | exact (Kd.R_reads' HO449.out).2.2 | (with_reducible refine Kd.C_alloc ?_ _) | (with_reducible refine Kd.C_drewN ?_ _) | (with_reducible refine Kd.C_drew ?_)))
        (case side2 => exact (Kd.R_reads' HO449.out).2.1)
        rintro e w17 ⟨rfl, hb⟩
        refine ⟨_, rfl, ?_⟩
        have n0_ := Aside0.mk (Kd.R_below (by (with_reducible repeat (first | apply Kd.R_alloc | apply Kd.R_drewN | apply Kd.R_drew)); exact HO438.out) hb)
        have n1_ := Aside0.mk (Kd.R_below (by (with_reducible repeat (first | apply Kd.R_alloc | apply Kd.R_drewN | apply Kd.R_drew)); exact HO442.out) hb)
        have n2_ := Aside0.mk (Kd.R_below (by (with_reducible repeat (first | apply Kd.R_alloc | apply Kd.R_drewN | apply Kd.R_drew)); exact HO445.out) hb)
        have n3_ := Aside0.mk (Kd.R_below (by (with_reducible repeat (first | apply Kd.R_alloc | apply Kd.R_drewN | apply Kd.R_drew)); exact HO449.out) hb)
        have n4_ := Aside0.mk (blk_below (g := gb435) (o := .cells #[.int .i64 a0_0, .int .i64 a0_1, .int .i64 a0_2] 39 (0, 0)) (by (with_reducible repeat (first | refine blk_drewN ?_ _ | refine blk_drew ?_ | refine blk_alloc ?_ _)); exact BK435.out) hb)
        have n5_ := Aside0.mk (below_step (by repeat (first | (with_reducible first | exact HB.out | apply below_alloc | apply pw_below_drewN | apply below_drew1 | refine below_set ?_ GE435.out) | exact HB.out)) hb)
        clear HO438
        clear HO442
        clear HO445
        clear HO449
        clear BK435
        clear HB
        have HO438 := n0_
        have HO442 := n1_
        have HO445 := n2_
        have HO449 := n3_
        have BK435 := n4_
        have HB := n5_
        clear n0_ n1_ n2_ n3_ n4_ n5_
        (try clear hb)
        (try clear hb2)
        (try clear hk)
        (try clear hi)
        refine hK.out _ _ ⟨(blk_cell BK435.out 0).trans rfl, (blk_cell BK435.out 1).trans rfl, (blk_cell BK435.out 2).trans rfl⟩ (fun hHeld => ?_)
        clear hK K
        refine norm_ (a' := ?_) ?_ ?_
        rotate_left
        · show Act.put _ (some 22) _ = _
          simp only [Act.put, List.setIfInBounds_toArray, List.set_cons_zero, List.set_cons_succ, i64_w, i32_w]
          rfl
        refine pure_ (i := 7) (N := some 7) (v := ?_) (a' := ?_) #[true, true, true, true, true, true, true, true] rfl rfl (any_of HT_.out (by kernel_rfl)) (fun _ _ _ h => h) (Or.inl ⟨by rfl, ?_⟩) ?_ ?_
        rotate_left
        · intro w'
          go_simp
          with_reducible rfl
        rotate_left
        · simp only [Act.put, List.setIfInBounds_toArray, List.set_cons_zero, List.set_cons_succ, i64_w, i32_w]
          rfl
        refine done_ (done_of HT_.out (by kernel_rfl)) ?_
        try go_wp2
        have n0_ := Aside0.mk (Kd.R_drew HO438.out)
        have n1_ := Aside0.mk (Kd.R_drew HO442.out)
        have n2_ := Aside0.mk (Kd.R_drew HO445.out)
        have n3_ := Aside0.mk (Kd.R_drew HO449.out)
        have n4_ := Aside0.mk (blk_drew BK435.out)
        have n5_ := Aside0.mk (below_drew1 HB.out)
        clear HO438
        clear HO442
        clear HO445
        clear HO449
        clear BK435
        clear HB
        have HO438 := n0_
        have HO442 := n1_
        have HO445 := n2_
        have HO449 := n3_
        have BK435 := n4_
        have HB := n5_
        clear n0_ n1_ n2_ n3_ n4_ n5_
        obtain ⟨Ao19, co19, eo19⟩ := Kd.R_slice HO442.out
        (first | subst eo19 | (injection eo19 with f1_ f2_ f3_; have f4_ := f1_.symm; have f5_ := f3_.symm; clear f1_ f2_ f3_; subst f4_; subst f5_))
        have p452 : 0 ≤ (t451 : Int) := of_decide_eq_true (by first | (with_reducible assumption) | assumption)
        have q452 : t451 < (t440.length : Int) := of_decide_eq_true (by first | (with_reducible assumption) | assumption)
        obtain ⟨ad452, e452, hx452_0⟩ := Kd.at_int (Kd.R_reads' HO442.out).2.2 t451 p452 q452
        cases e452
        replace p452 := eq_true p452
        replace q452 := eq_true q452
        obtain ⟨Ao20, co20, eo20⟩ := Kd.R_slice HO445.out
        (first | subst eo20 | (injection eo20 with f1_ f2_ f3_; have f4_ := f1_.symm; have f5_ := f3_.symm; clear f1_ f2_ f3_; subst f4_; subst f5_))
        have p453 : 0 ≤ (t451 : Int) := of_decide_eq_true (by first | (with_reducible assumption) | assumption)
        have q453 : t451 < (t443.length : Int) := of_decide_eq_true (by first | (with_reducible assumption) | assumption)
        obtain ⟨ad453, e453, hx453_0⟩ := Kd.at_int (Kd.R_reads' HO445.out).2.2 t451 p453 q453
        cases e453
        replace p453 := eq_true p453
        replace q453 := eq_true q453
        refine start_ (n := 10) (S := fun w' => w'.cell? (ad452.add (t451).toNat) = some (.int .i64 (rd t440 t451)) ∧ w'.cell? (ad453.add (t451).toNat) = some (.int .i64 (rd t443 t451))) (ds := []) #[false, false, false, false, false, false, false, false, false, false] (by kernel_rfl) rfl rfl ⟨hx452_0, hx453_0⟩ (fun hHeld => ?_); refine with_tabW spec_isFewest.tab3 spec_isFewest.bits3 (fun HT_ HW_ => ?_)
        generalize w17.drew = w18 at HO438 HO442 HO445 HO449 BK435 HB hx452_0 hx453_0 hHeld ⊢
        refine pure_ (i := 0) (N := some 23) (v := ?_) (a' := ?_) #[true, false, false, false, false, false, false, false, false, false] rfl rfl (any_of HT_.out (by kernel_rfl)) (fun _ _ _ h => h) (Or.inl ⟨by rfl, ?_⟩) ?_ ?_
        rotate_left
        · intro w'
          go_simp
          with_reducible rfl
        rotate_left
        · simp only [Act.put, List.setIfInBounds_toArray, List.set_cons_zero, List.set_cons_succ, i64_w, i32_w]
          rfl
        refine pure_ (i := 1) (N := some 24) (v := ?_) (a' := ?_) #[true, true, false, false, false, false, false, false, false, false] rfl rfl (any_of HT_.out (by kernel_rfl)) (fun _ _ _ h => h) (Or.inl ⟨by rfl, ?_⟩) ?_ ?_
        rotate_left
        · intro w'
          go_simp
          with_reducible rfl
        rotate_left
        · simp only [Act.put, List.setIfInBounds_toArray, List.set_cons_zero, List.set_cons_succ, i64_w, i32_w]
          rfl
        refine pure_ (i := 2) (N := some 25) (v := ?_) (a' := ?_) #[true, true, true, false, false, false, false, false, false, false] rfl rfl (any_of HT_.out (by kernel_rfl)) (fun _ _ _ h => h) (Or.inl ⟨by rfl, ?_⟩) ?_ ?_
        rotate_left
        · intro w'
          go_simp
          with_reducible rfl
        rotate_left
        · simp only [Act.put, List.setIfInBounds_toArray, List.set_cons_zero, List.set_cons_succ, i64_w, i32_w]
          rfl
        refine pure_ (i := 4) (N := some 27) (v := ?_) (a' := ?_) #[true, true, true, false, true, false, false, false, false, false] rfl rfl (any_of HT_.out (by kernel_rfl)) (fun _ _ _ h => h) (Or.inl ⟨by rfl, ?_⟩) ?_ ?_
        rotate_left
        · intro w'
          go_simp
          with_reducible rfl
        rotate_left
        · simp only [Act.put, List.setIfInBounds_toArray, List.set_cons_zero, List.set_cons_succ, i64_w, i32_w]
          rfl
        refine pure_ (i := 5) (N := some 28) (v := ?_) (a' := ?_) #[true, true, true, false, true, true, false, false, false, false] rfl rfl (any_of HT_.out (by kernel_rfl)) (fun _ _ _ h => h) (Or.inl ⟨by rfl, ?_⟩) ?_ ?_
        rotate_left
        · intro w'
          go_simp
          with_reducible rfl
        rotate_left
        · simp only [Act.put, List.setIfInBounds_toArray, List.set_cons_zero, List.set_cons_succ, i64_w, i32_w]
          rfl
        refine pure_ (i := 6) (N := some 29) (v := ?_) (a' := ?_) #[true, true, true, false, true, true, true, false, false, false] rfl rfl (any_of HT_.out (by kernel_rfl)) (fun _ _ _ h => h) (Or.inl ⟨by rfl, ?_⟩) ?_ ?_
        rotate_left
        · intro w'
          go_simp
          with_reducible rfl
        rotate_left
        · simp only [Act.put, List.setIfInBounds_toArray, List.set_cons_zero, List.set_cons_succ, i64_w, i32_w]
          rfl
        refine take_ (i := 3) (N := some 26) (v := ?_) (a' := ?_) #[true, true, true, true, true, true, true, false, false, false] rfl rfl (take_ofW HT_.out HW_.out (by kernel_rfl)) (fun _ _ _ h => h) (Or.inl ⟨by rfl, ?_⟩) hHeld ?_ ?_
        rotate_left
        · rintro w' ⟨s0, s1⟩
          go_simp
          with_reducible rfl
        rotate_left
        · simp only [Act.put, List.setIfInBounds_toArray, List.set_cons_zero, List.set_cons_succ, i64_w, i32_w]
          rfl
        refine pure_ (i := 8) (N := some 2) (v := ?_) (a' := ?_) #[true, true, true, true, true, true, true, false, true, false] rfl rfl (any_of HT_.out (by kernel_rfl)) (fun _ _ _ h => h) (Or.inl ⟨by rfl, ?_⟩) ?_ ?_
        rotate_left
        · intro w'
          go_simp
          with_reducible rfl
        rotate_left
        · simp only [Act.put, List.setIfInBounds_toArray, List.set_cons_zero, List.set_cons_succ, i64_w, i32_w]
          rfl
        refine take_ (i := 7) (N := some 30) (v := ?_) (a' := ?_) #[true, true, true, true, true, true, true, true, true, false] rfl rfl (take_ofW HT_.out HW_.out (by kernel_rfl)) (fun _ _ _ h => h) (Or.inl ⟨by rfl, ?_⟩) hHeld ?_ ?_
        rotate_left
        · rintro w' ⟨s0, s1⟩
          go_simp
          with_reducible rfl
        rotate_left
        · simp only [Act.put, List.setIfInBounds_toArray, List.set_cons_zero, List.set_cons_succ, i64_w, i32_w]
          rfl
        refine pure_ (i := 9) (N := some 3) (v := ?_) (a' := ?_) #[true, true, true, true, true, true, true, true, true, true] rfl rfl (any_of HT_.out (by kernel_rfl)) (fun _ _ _ h => h) (Or.inl ⟨by rfl, ?_⟩) ?_ ?_
        rotate_left
        · intro w'
          go_simp
          with_reducible rfl
        rotate_left
        · simp only [Act.put, List.setIfInBounds_toArray, List.set_cons_zero, List.set_cons_succ, i64_w, i32_w]
          rfl
        refine done_ (done_of HT_.out (by kernel_rfl)) ?_
        try go_wp2
        go_ret2
        exact ⟨by first | rfl | (simp [errW_none, errW_some] <;> rfl) | (simp [*, errW_none, errW_some] <;> rfl), by repeat (first | (with_reducible first | exact HB.out | apply below_alloc | apply pw_below_drewN | apply below_drew1 | refine below_set ?_ GE435.out) | exact HB.out)⟩
      · rw [if_neg c8] at H
        exact absurd H (by simp)
    · rw [if_neg c7] at H
      exact absurd H (by simp)
  · rw [if_neg c6] at H
    exact absurd H (by simp)
end Go.Proofs.Ytlkjglanglpdoaa.T
namespace Go.Proofs.Ytlkjglanglpdoaa.T
open Go.RowKit Go.Proofs.YtlkjglanglpdoaaW.PrintWords Go.Proofs.YtlkjglanglpdoaaW.PrintLast Go.Proofs.YtlkjglanglpdoaaW.PrintMore
attribute [local go_sem] max2_int min2_int max_two min_two max_three min_three max_four min_four
set_option linter.unusedVariables false
set_option linter.unusedSimpArgs false
def spec_SavedByIslands.f (k : Nat) (a0_0 : Int) (a0_1 : Int) (a0_2 : Int) : Option (Int × Bool) := (spec_isGood.f a0_0 a0_1 a0_2).bind fun t470 => (if t470 = true then ((spec_isFewest.f k a0_0 a0_1 a0_2).bind fun bt471 => ((spec_isFewest.f k a0_0 a0_1 0).bind fun bt473 => (if bt471.1 < 0 then (some (0, false)) else (if bt473.1 < 0 then (some (0, false)) else (some (wrap64 (bt473.1 - bt471.1), true)))))) else (some (0, false)))
theorem spec_SavedByIslands.mono : ∀ a0 a1 a2 k, LeO (spec_SavedByIslands.f k a0 a1 a2) (spec_SavedByIslands.f (k + 1) a0 a1 a2) := by
  intro a0 a1 a2 k
  unfold spec_SavedByIslands.f
  repeat' first
      | (with_reducible exact spec_isFewest.mono _ _ _ _)
      | (with_reducible exact LeO.refl _)
      | (with_reducible exact LeO.none _)
      | (with_reducible refine LeO.ite ?_ ?_)
      | (with_reducible refine LeO.bind ?_ (fun _ => ?_))
      | exact spec_isFewest.mono _ _ _ _
      | exact LeO.none _
      | refine LeO.ite ?_ ?_
      | refine LeO.bind ?_ (fun _ => ?_)
set_option maxHeartbeats 8000000 in
set_option maxRecDepth 100000 in
theorem spec_SavedByIslands.calls (k : Nat) (a0_0 : Int) (a0_1 : Int) (a0_2 : Int) (r1 : Int) (r2 : Bool) (w : World) (h : spec_SavedByIslands.f k a0_0 a0_1 a0_2 = some (r1, r2)) :
    Calls Try.prog 31 #[.agg #[.int .i64 a0_0, .int .i64 a0_1, .int .i64 a0_2]] w fun e w' => e = .returned (.tuple #[.int .i64 r1, .bool r2]) ∧ Below w.heap.size w w' := by
  have hu39 := Try.underlying39
  have HB := Aside0.mk (Below.refl w.heap.size w)
  have H : ((spec_isGood.f a0_0 a0_1 a0_2).bind fun t470 => (if t470 = true then ((spec_isFewest.f k a0_0 a0_1 a0_2).bind fun bt471 => ((spec_isFewest.f k a0_0 a0_1 0).bind fun bt473 => (if bt471.1 < 0 then (some (0, false)) else (if bt473.1 < 0 then (some (0, false)) else (some (wrap64 (bt473.1 - bt471.1), true)))))) else (some (0, false)))) = some (r1, r2) := h
  clear h
  replace H := Option.bind_eq_some_iff.mp H
  obtain ⟨t470, A20, H⟩ := H
  replace H : (if t470 = true then ((spec_isFewest.f k a0_0 a0_1 a0_2).bind fun bt471 => ((spec_isFewest.f k a0_0 a0_1 0).bind fun bt473 => (if bt471.1 < 0 then (some (0, false)) else (if bt473.1 < 0 then (some (0, false)) else (some (wrap64 (bt473.1 - bt471.1), true)))))) else (some (0, false))) = some (r1, r2) := H
  have A2 := Aside0.mk A20
  clear A20
  by_cases c3 : t470 = true
  · subst c3
    have H1 : ((spec_isFewest.f k a0_0 a0_1 a0_2).bind fun bt471 => ((spec_isFewest.f k a0_0 a0_1 0).bind fun bt473 => (if bt471.1 < 0 then (some (0, false)) else (if bt473.1 < 0 then (some (0, false)) else (some (wrap64 (bt473.1 - bt471.1), true)))))) = some (r1, r2) := by rw [if_pos rfl] at H; exact H
    clear H
    have H := H1
    clear H1
    replace H := Option.bind_eq_some_iff.mp H
    obtain ⟨⟨t471, t472⟩, A40, H⟩ := H
    replace H : ((spec_isFewest.f k a0_0 a0_1 0).bind fun bt473 => (if t471 < 0 then (some (0, false)) else (if bt473.1 < 0 then (some (0, false)) else (some (wrap64 (bt473.1 - t471), true))))) = some (r1, r2) := H
    have A4 := Aside0.mk A40
    clear A40
    replace H := Option.bind_eq_some_iff.mp H
    obtain ⟨⟨t473, t474⟩, A50, H⟩ := H
    replace H : (if t471 < 0 then (some (0, false)) else (if t473 < 0 then (some (0, false)) else (some (wrap64 (t473 - t471), true)))) = some (r1, r2) := H
    have A5 := Aside0.mk A50
    clear A50
    by_cases c6 : t471 < 0
    · rw [if_pos c6] at H
      have c6b0 : decide (t471 < 0) = true := decide_eq_true c6
      clear c6
      simp only [Option.some.injEq, Prod.mk.injEq] at H
      obtain ⟨rfl, rfl⟩ := H
      go_enter Try.func31, Try.ntmps31
      go_wp2_with (first | ((with_reducible refine gate_dst (N := 1) rfl ?_); refine box_event ?hg (N := 1) ?hd (cs := #[.int .i64 a0_0, .int .i64 a0_1, .int .i64 a0_2]) (t := 39) ?hr ?_; (case hd => rfl); (case hg => rfl); (case hr => first | (go_simp; done) | (go_simp; rfl)); intro gb469 hg w7 hbox hb; have n0_ := Aside0.mk (below_step (by repeat (first | (with_reducible first | exact HB.out | apply below_alloc | apply pw_below_drewN | apply below_drew1) | exact HB.out)) hb); have n1_ := Aside0.mk (hbox); have n2_ := Aside0.mk ((by rw [hg]; exact (below_size (by repeat (first | (with_reducible first | exact HB.out | apply below_alloc | apply pw_below_drewN | apply below_drew1) | exact HB.out))) : w.heap.size ≤ gb469)); have n3_ := Aside0.mk ((by rw [hg]; exact (below_size (by repeat (first | (with_reducible first | exact HB.out | apply below_alloc | apply pw_below_drewN | apply below_drew1) | exact HB.out))) : w.heap.size ≤ gb469)); clear HB; have HB := n0_; have BK469 := n1_; have GW469 := n2_; have GE469 := n3_; clear n0_ n1_ n2_ n3_; clear hb hbox hg; have hcz8_0 : w7.cell? ⟨gb469, 0, none⟩ = some (.int .i64 a0_0) := (blk_cell BK469.out 0).trans rfl; have hcz8_1 : w7.cell? ⟨gb469, 1, none⟩ = some (.int .i64 a0_1) := (blk_cell BK469.out 1).trans rfl; have hcz8_2 : w7.cell? ⟨gb469, 2, none⟩ = some (.int .i64 a0_2) := (blk_cell BK469.out 2).trans rfl; have hfz8_0 := blk_frozen BK469.out 0; have hfz8_1 := blk_frozen BK469.out 1; have hfz8_2 := blk_frozen BK469.out 2) | ((with_reducible refine gate_callee (f := 140) rfl ?_); refine goesL_ (some 9) rfl rfl Try.func140 (by kernel_rfl) rfl #[.agg #[.int .i64 a0_0, .int .i64 a0_1, .int .i64 a0_2]] rfl (by (try simp only [List.map_toArray, List.map_cons, List.map_nil]); first | done | rfl | (simp only [List.length_drop, List.length_take]; rfl)) ?_; (with_reducible refine (spec_isGood.calls a0_0 a0_1 a0_2 true _ A2.out).mono ?_); rintro e w9 ⟨rfl, hb⟩; refine ⟨_, rfl, ?_⟩; have n0_ := Aside0.mk (blk_below (g := gb469) (o := .cells #[.int .i64 a0_0, .int .i64 a0_1, .int .i64 a0_2] 39 (0, 0)) (by (with_reducible repeat (first | refine blk_drewN ?_ _ | refine blk_drew ?_ | refine blk_alloc ?_ _)); exact BK469.out) hb); have n1_ := Aside0.mk (below_step (by repeat (first | (with_reducible first | exact HB.out | apply below_alloc | apply pw_below_drewN | apply below_drew1 | refine below_set ?_ GE469.out) | exact HB.out)) hb); clear BK469; clear HB; have BK469 := n0_; have HB := n1_; clear n0_ n1_; (try clear hb); (try clear hb2); (try clear hk); (try clear hi); have hcz10_0 : w9.cell? ⟨gb469, 0, none⟩ = some (.int .i64 a0_0) := (blk_cell BK469.out 0).trans rfl; have hcz10_1 : w9.cell? ⟨gb469, 1, none⟩ = some (.int .i64 a0_1) := (blk_cell BK469.out 1).trans rfl; have hcz10_2 : w9.cell? ⟨gb469, 2, none⟩ = some (.int .i64 a0_2) := (blk_cell BK469.out 2).trans rfl; have hfz10_0 := blk_frozen BK469.out 0; have hfz10_1 := blk_frozen BK469.out 1; have hfz10_2 := blk_frozen BK469.out 2) | ((with_reducible refine gate_callee (f := 145) rfl ?_); refine goesL_ (some 13) rfl rfl Try.func145 (by kernel_rfl) rfl #[.agg #[.int .i64 a0_0, .int .i64 a0_1, .int .i64 a0_2]] rfl (by (try simp only [List.map_toArray, List.map_cons, List.map_nil]); first | done | rfl | (simp only [List.length_drop, List.length_take]; rfl)) ?_; (with_reducible refine (spec_isFewest.calls k a0_0 a0_1 a0_2 t471 t472 _ A4.out).mono ?_); rintro e w11 ⟨rfl, hb⟩; refine ⟨_, rfl, ?_⟩; have n0_ := Aside0.mk (blk_below (g := gb469) (o := .cells #[.int .i64 a0_0, .int .i64 a0_1, .int .i64 a0_2] 39 (0, 0)) (by (with_reducible repeat (first | refine blk_drewN ?_ _ | refine blk_drew ?_ | refine blk_alloc ?_ _)); exact BK469.out) hb); have n1_ := Aside0.mk (below_step (by repeat (first | (with_reducible first | exact HB.out | apply below_alloc | apply pw_below_drewN | apply below_drew1 | refine below_set ?_ GE469.out) | exact HB.out)) hb); clear BK469; clear HB; have BK469 := n0_; have HB := n1_; clear n0_ n1_; (try clear hb); (try clear hb2); (try clear hk); (try clear hi); have hcz12_0 : w11.cell? ⟨gb469, 0, none⟩ = some (.int .i64 a0_0) := (blk_cell BK469.out 0).trans rfl; have hcz12_1 : w11.cell? ⟨gb469, 1, none⟩ = some (.int .i64 a0_1) := (blk_cell BK469.out 1).trans rfl; have hcz12_2 : w11.cell? ⟨gb469, 2, none⟩ = some (.int .i64 a0_2) := (blk_cell BK469.out 2).trans rfl; have hfz12_0 := blk_frozen BK469.out 0; have hfz12_1 := blk_frozen BK469.out 1; have hfz12_2 := blk_frozen BK469.out 2) | ((with_reducible refine gate_callee (f := 145) rfl ?_); refine goesL_ (some 19) rfl rfl Try.func145 (by kernel_rfl) rfl #[.agg #[.int .i64 a0_0, .int .i64 a0_1, .int .i64 0]] rfl (by (try simp only [List.map_toArray, List.map_cons, List.map_nil]); first | done | rfl | (simp only [List.length_drop, List.length_take]; rfl)) ?_; (with_reducible refine (spec_isFewest.calls k a0_0 a0_1 0 t473 t474 _ A5.out).mono ?_); rintro e w13 ⟨rfl, hb⟩; refine ⟨_, rfl, ?_⟩; have n0_ := Aside0.mk (blk_below (g := gb469) (o := .cells #[.int .i64 a0_0, .int .i64 a0_1, .int .i64 0] 39 (0, 0)) (by (with_reducible repeat (first | refine blk_drewN ?_ _ | refine blk_drew ?_ | refine blk_alloc ?_ _)); refine blk_put (cs := #[.int .i64 a0_0, .int .i64 a0_1, .int .i64 a0_2]) ?_ 2 _ rfl; (with_reducible repeat (first | refine blk_drewN ?_ _ | refine blk_drew ?_ | refine blk_alloc ?_ _)); exact BK469.out) hb); have n1_ := Aside0.mk (below_step (by repeat (first | (with_reducible first | exact HB.out | apply below_alloc | apply pw_below_drewN | apply below_drew1 | refine below_set ?_ GE469.out) | exact HB.out)) hb); clear BK469; clear HB; have BK469 := n0_; have HB := n1_; clear n0_ n1_; (try clear hb); (try clear hb2); (try clear hk); (try clear hi)))
      go_ret2
      exact ⟨by first | rfl | (simp [errW_none, errW_some] <;> rfl) | (simp [*, errW_none, errW_some] <;> rfl), by repeat (first | (with_reducible first | exact HB.out | apply below_alloc | apply pw_below_drewN | apply below_drew1 | refine below_set ?_ GE469.out) | exact HB.out)⟩
    · rw [if_neg c6] at H
      have c6b0 : decide (t471 < 0) = false := decide_eq_false c6
      clear c6
      by_cases c14 : t473 < 0
      · rw [if_pos c14] at H
        have c14b0 : decide (t473 < 0) = true := decide_eq_true c14
        clear c14
        simp only [Option.some.injEq, Prod.mk.injEq] at H
        obtain ⟨rfl, rfl⟩ := H
        go_enter Try.func31, Try.ntmps31
        go_wp2_with (first | ((with_reducible refine gate_dst (N := 1) rfl ?_); refine box_event ?hg (N := 1) ?hd (cs := #[.int .i64 a0_0, .int .i64 a0_1, .int .i64 a0_2]) (t := 39) ?hr ?_; (case hd => rfl); (case hg => rfl); (case hr => first | (go_simp; done) | (go_simp; rfl)); intro gb469 hg w15 hbox hb; have n0_ := Aside0.mk (below_step (by repeat (first | (with_reducible first | exact HB.out | apply below_alloc | apply pw_below_drewN | apply below_drew1) | exact HB.out)) hb); have n1_ := Aside0.mk (hbox); have n2_ := Aside0.mk ((by rw [hg]; exact (below_size (by repeat (first | (with_reducible first | exact HB.out | apply below_alloc | apply pw_below_drewN | apply below_drew1) | exact HB.out))) : w.heap.size ≤ gb469)); have n3_ := Aside0.mk ((by rw [hg]; exact (below_size (by repeat (first | (with_reducible first | exact HB.out | apply below_alloc | apply pw_below_drewN | apply below_drew1) | exact HB.out))) : w.heap.size ≤ gb469)); clear HB; have HB := n0_; have BK469 := n1_; have GW469 := n2_; have GE469 := n3_; clear n0_ n1_ n2_ n3_; clear hb hbox hg; have hcz16_0 : w15.cell? ⟨gb469, 0, none⟩ = some (.int .i64 a0_0) := (blk_cell BK469.out 0).trans rfl; have hcz16_1 : w15.cell? ⟨gb469, 1, none⟩ = some (.int .i64 a0_1) := (blk_cell BK469.out 1).trans rfl; have hcz16_2 : w15.cell? ⟨gb469, 2, none⟩ = some (.int .i64 a0_2) := (blk_cell BK469.out 2).trans rfl; have hfz16_0 := blk_frozen BK469.out 0; have hfz16_1 := blk_frozen BK469.out 1; have hfz16_2 := blk_frozen BK469.out 2) | ((with_reducible refine gate_callee (f := 140) rfl ?_); refine goesL_ (some 9) rfl rfl Try.func140 (by kernel_rfl) rfl #[.agg #[.int .i64 a0_0, .int .i64 a0_1, .int .i64 a0_2]] rfl (by (try simp only [List.map_toArray, List.map_cons, List.map_nil]); first | done | rfl | (simp only [List.length_drop, List.length_take]; rfl)) ?_; (with_reducible refine (spec_isGood.calls a0_0 a0_1 a0_2 true _ A2.out).mono ?_); rintro e w17 ⟨rfl, hb⟩; refine ⟨_, rfl, ?_⟩; have n0_ := Aside0.mk (blk_below (g := gb469) (o := .cells #[.int .i64 a0_0, .int .i64 a0_1, .int .i64 a0_2] 39 (0, 0)) (by (with_reducible repeat (first | refine blk_drewN ?_ _ | refine blk_drew ?_ | refine blk_alloc ?_ _)); exact BK469.out) hb); have n1_ := Aside0.mk (below_step (by repeat (first | (with_reducible first | exact HB.out | apply below_alloc | apply pw_below_drewN | apply below_drew1 | refine below_set ?_ GE469.out) | exact HB.out)) hb); clear BK469; clear HB; have BK469 := n0_; have HB := n1_; clear n0_ n1_; (try clear hb); (try clear hb2); (try clear hk); (try clear hi); have hcz18_0 : w17.cell? ⟨gb469, 0, none⟩ = some (.int .i64 a0_0) := (blk_cell BK469.out 0).trans rfl; have hcz18_1 : w17.cell? ⟨gb469, 1, none⟩ = some (.int .i64 a0_1) := (blk_cell BK469.out 1).trans rfl; have hcz18_2 : w17.cell? ⟨gb469, 2, none⟩ = some (.int .i64 a0_2) := (blk_cell BK469.out 2).trans rfl; have hfz18_0 := blk_frozen BK469.out 0; have hfz18_1 := blk_frozen BK469.out 1; have hfz18_2 := blk_frozen BK469.out 2) | ((with_reducible refine gate_callee (f := 145) rfl ?_); refine goesL_ (some 13) rfl rfl Try.func145 (by kernel_rfl) rfl #[.agg #[.int .i64 a0_0, .int .i64 a0_1, .int .i64 a0_2]] rfl (by (try simp only [List.map_toArray, List.map_cons, List.map_nil]); first | done | rfl | (simp only [List.length_drop, List.length_take]; rfl)) ?_; (with_reducible refine (spec_isFewest.calls k a0_0 a0_1 a0_2 t471 t472 _ A4.out).mono ?_); rintro e w19 ⟨rfl, hb⟩; refine ⟨_, rfl, ?_⟩; have n0_ := Aside0.mk (blk_below (g := gb469) (o := .cells #[.int .i64 a0_0, .int .i64 a0_1, .int .i64 a0_2] 39 (0, 0)) (by (with_reducible repeat (first | refine blk_drewN ?_ _ | refine blk_drew ?_ | refine blk_alloc ?_ _)); exact BK469.out) hb); have n1_ := Aside0.mk (below_step (by repeat (first | (with_reducible first | exact HB.out | apply below_alloc | apply pw_below_drewN | apply below_drew1 | refine below_set ?_ GE469.out) | exact HB.out)) hb); clear BK469; clear HB; have BK469 := n0_; have HB := n1_; clear n0_ n1_; (try clear hb); (try clear hb2); (try clear hk); (try clear hi); have hcz20_0 : w19.cell? ⟨gb469, 0, none⟩ = some (.int .i64 a0_0) := (blk_cell BK469.out 0).trans rfl; have hcz20_1 : w19.cell? ⟨gb469, 1, none⟩ = some (.int .i64 a0_1) := (blk_cell BK469.out 1).trans rfl; have hcz20_2 : w19.cell? ⟨gb469, 2, none⟩ = some (.int .i64 a0_2) := (blk_cell BK469.out 2).trans rfl; have hfz20_0 := blk_frozen BK469.out 0; have hfz20_1 := blk_frozen BK469.out 1; have hfz20_2 := blk_frozen BK469.out 2) | ((with_reducible refine gate_callee (f := 145) rfl ?_); refine goesL_ (some 19) rfl rfl Try.func145 (by kernel_rfl) rfl #[.agg #[.int .i64 a0_0, .int .i64 a0_1, .int .i64 0]] rfl (by (try simp only [List.map_toArray, List.map_cons, List.map_nil]); first | done | rfl | (simp only [List.length_drop, List.length_take]; rfl)) ?_; (with_reducible refine (spec_isFewest.calls k a0_0 a0_1 0 t473 t474 _ A5.out).mono ?_); rintro e w21 ⟨rfl, hb⟩; refine ⟨_, rfl, ?_⟩; have n0_ := Aside0.mk (blk_below (g := gb469) (o := .cells #[.int .i64 a0_0, .int .i64 a0_1, .int .i64 0] 39 (0, 0)) (by (with_reducible repeat (first | refine blk_drewN ?_ _ | refine blk_drew ?_ | refine blk_alloc ?_ _)); refine blk_put (cs := #[.int .i64 a0_0, .int .i64 a0_1, .int .i64 a0_2]) ?_ 2 _ rfl; (with_reducible repeat (first | refine blk_drewN ?_ _ | refine blk_drew ?_ | refine blk_alloc ?_ _)); exact BK469.out) hb); have n1_ := Aside0.mk (below_step (by repeat (first | (with_reducible first | exact HB.out | apply below_alloc | apply pw_below_drewN | apply below_drew1 | refine below_set ?_ GE469.out) | exact HB.out)) hb); clear BK469; clear HB; have BK469 := n0_; have HB := n1_; clear n0_ n1_; (try clear hb); (try clear hb2); (try clear hk); (try clear hi)))
        go_ret2
        exact ⟨by first | rfl | (simp [errW_none, errW_some] <;> rfl) | (simp [*, errW_none, errW_some] <;> rfl), by repeat (first | (with_reducible first | exact HB.out | apply below_alloc | apply pw_below_drewN | apply below_drew1 | refine below_set ?_ GE469.out) | exact HB.out)⟩
      · rw [if_neg c14] at H
        have c14b0 : decide (t473 < 0) = false := decide_eq_false c14
        clear c14
        simp only [Option.some.injEq, Prod.mk.injEq] at H
        obtain ⟨rfl, rfl⟩ := H
        go_enter Try.func31, Try.ntmps31
        go_wp2_with (first | ((with_reducible refine gate_dst (N := 1) rfl ?_); refine box_event ?hg (N := 1) ?hd (cs := #[.int .i64 a0_0, .int .i64 a0_1, .int .i64 a0_2]) (t := 39) ?hr ?_; (case hd => rfl); (case hg => rfl); (case hr => first | (go_simp; done) | (go_simp; rfl)); intro gb469 hg w22 hbox hb; have n0_ := Aside0.mk (below_step (by repeat (first | (with_reducible first | exact HB.out | apply below_alloc | apply pw_below_drewN | apply below_drew1) | exact HB.out)) hb); have n1_ := Aside0.mk (hbox); have n2_ := Aside0.mk ((by rw [hg]; exact (below_size (by repeat (first | (with_reducible first | exact HB.out | apply below_alloc | apply pw_below_drewN | apply below_drew1) | exact HB.out))) : w.heap.size ≤ gb469)); have n3_ := Aside0.mk ((by rw [hg]; exact (below_size (by repeat (first | (with_reducible first | exact HB.out | apply below_alloc | apply pw_below_drewN | apply below_drew1) | exact HB.out))) : w.heap.size ≤ gb469)); clear HB; have HB := n0_; have BK469 := n1_; have GW469 := n2_; have GE469 := n3_; clear n0_ n1_ n2_ n3_; clear hb hbox hg; have hcz23_0 : w22.cell? ⟨gb469, 0, none⟩ = some (.int .i64 a0_0) := (blk_cell BK469.out 0).trans rfl; have hcz23_1 : w22.cell? ⟨gb469, 1, none⟩ = some (.int .i64 a0_1) := (blk_cell BK469.out 1).trans rfl; have hcz23_2 : w22.cell? ⟨gb469, 2, none⟩ = some (.int .i64 a0_2) := (blk_cell BK469.out 2).trans rfl; have hfz23_0 := blk_frozen BK469.out 0; have hfz23_1 := blk_frozen BK469.out 1; have hfz23_2 := blk_frozen BK469.out 2) | ((with_reducible refine gate_callee (f := 140) rfl ?_); refine goesL_ (some 9) rfl rfl Try.func140 (by kernel_rfl) rfl #[.agg #[.int .i64 a0_0, .int .i64 a0_1, .int .i64 a0_2]] rfl (by (try simp only [List.map_toArray, List.map_cons, List.map_nil]); first | done | rfl | (simp only [List.length_drop, List.length_take]; rfl)) ?_; (with_reducible refine (spec_isGood.calls a0_0 a0_1 a0_2 true _ A2.out).mono ?_); rintro e w24 ⟨rfl, hb⟩; refine ⟨_, rfl, ?_⟩; have n0_ := Aside0.mk (blk_below (g := gb469) (o := .cells #[.int .i64 a0_0, .int .i64 a0_1, .int .i64 a0_2] 39 (0, 0)) (by (with_reducible repeat (first | refine blk_drewN ?_ _ | refine blk_drew ?_ | refine blk_alloc ?_ _)); exact BK469.out) hb); have n1_ := Aside0.mk (below_step (by repeat (first | (with_reducible first | exact HB.out | apply below_alloc | apply pw_below_drewN | apply below_drew1 | refine below_set ?_ GE469.out) | exact HB.out)) hb); clear BK469; clear HB; have BK469 := n0_; have HB := n1_; clear n0_ n1_; (try clear hb); (try clear hb2); (try clear hk); (try clear hi); have hcz25_0 : w24.cell? ⟨gb469, 0, none⟩ = some (.int .i64 a0_0) := (blk_cell BK469.out 0).trans rfl; have hcz25_1 : w24.cell? ⟨gb469, 1, none⟩ = some (.int .i64 a0_1) := (blk_cell BK469.out 1).trans rfl; have hcz25_2 : w24.cell? ⟨gb469, 2, none⟩ = some (.int .i64 a0_2) := (blk_cell BK469.out 2).trans rfl; have hfz25_0 := blk_frozen BK469.out 0; have hfz25_1 := blk_frozen BK469.out 1; have hfz25_2 := blk_frozen BK469.out 2) | ((with_reducible refine gate_callee (f := 145) rfl ?_); refine goesL_ (some 13) rfl rfl Try.func145 (by kernel_rfl) rfl #[.agg #[.int .i64 a0_0, .int .i64 a0_1, .int .i64 a0_2]] rfl (by (try simp only [List.map_toArray, List.map_cons, List.map_nil]); first | done | rfl | (simp only [List.length_drop, List.length_take]; rfl)) ?_; (with_reducible refine (spec_isFewest.calls k a0_0 a0_1 a0_2 t471 t472 _ A4.out).mono ?_); rintro e w26 ⟨rfl, hb⟩; refine ⟨_, rfl, ?_⟩; have n0_ := Aside0.mk (blk_below (g := gb469) (o := .cells #[.int .i64 a0_0, .int .i64 a0_1, .int .i64 a0_2] 39 (0, 0)) (by (with_reducible repeat (first | refine blk_drewN ?_ _ | refine blk_drew ?_ | refine blk_alloc ?_ _)); exact BK469.out) hb); have n1_ := Aside0.mk (below_step (by repeat (first | (with_reducible first | exact HB.out | apply below_alloc | apply pw_below_drewN | apply below_drew1 | refine below_set ?_ GE469.out) | exact HB.out)) hb); clear BK469; clear HB; have BK469 := n0_; have HB := n1_; clear n0_ n1_; (try clear hb); (try clear hb2); (try clear hk); (try clear hi); have hcz27_0 : w26.cell? ⟨gb469, 0, none⟩ = some (.int .i64 a0_0) := (blk_cell BK469.out 0).trans rfl; have hcz27_1 : w26.cell? ⟨gb469, 1, none⟩ = some (.int .i64 a0_1) := (blk_cell BK469.out 1).trans rfl; have hcz27_2 : w26.cell? ⟨gb469, 2, none⟩ = some (.int .i64 a0_2) := (blk_cell BK469.out 2).trans rfl; have hfz27_0 := blk_frozen BK469.out 0; have hfz27_1 := blk_frozen BK469.out 1; have hfz27_2 := blk_frozen BK469.out 2) | ((with_reducible refine gate_callee (f := 145) rfl ?_); refine goesL_ (some 19) rfl rfl Try.func145 (by kernel_rfl) rfl #[.agg #[.int .i64 a0_0, .int .i64 a0_1, .int .i64 0]] rfl (by (try simp only [List.map_toArray, List.map_cons, List.map_nil]); first | done | rfl | (simp only [List.length_drop, List.length_take]; rfl)) ?_; (with_reducible refine (spec_isFewest.calls k a0_0 a0_1 0 t473 t474 _ A5.out).mono ?_); rintro e w28 ⟨rfl, hb⟩; refine ⟨_, rfl, ?_⟩; have n0_ := Aside0.mk (blk_below (g := gb469) (o := .cells #[.int .i64 a0_0, .int .i64 a0_1, .int .i64 0] 39 (0, 0)) (by (with_reducible repeat (first | refine blk_drewN ?_ _ | refine blk_drew ?_ | refine blk_alloc ?_ _)); refine blk_put (cs := #[.int .i64 a0_0, .int .i64 a0_1, .int .i64 a0_2]) ?_ 2 _ rfl; (with_reducible repeat (first | refine blk_drewN ?_ _ | refine blk_drew ?_ | refine blk_alloc ?_ _)); exact BK469.out) hb); have n1_ := Aside0.mk (below_step (by repeat (first | (with_reducible first | exact HB.out | apply below_alloc | apply pw_below_drewN | apply below_drew1 | refine below_set ?_ GE469.out) | exact HB.out)) hb); clear BK469; clear HB; have BK469 := n0_; have HB := n1_; clear n0_ n1_; (try clear hb); (try clear hb2); (try clear hk); (try clear hi)))
        go_ret2
        exact ⟨by first | rfl | (simp [errW_none, errW_some] <;> rfl) | (simp [*, errW_none, errW_some] <;> rfl), by repeat (first | (with_reducible first | exact HB.out | apply below_alloc | apply pw_below_drewN | apply below_drew1 | refine below_set ?_ GE469.out) | exact HB.out)⟩
  · replace c3 := Bool.eq_false_iff.mpr c3
    subst c3
    have H1 : (some (0, false)) = some (r1, r2) := by rw [if_neg (show ¬ (false = true) by decide)] at H; exact H
    clear H
    have H := H1
    clear H1
    simp only [Option.some.injEq, Prod.mk.injEq] at H
    obtain ⟨rfl, rfl⟩ := H
    go_enter Try.func31, Try.ntmps31
    go_wp2_with (first | ((with_reducible refine gate_dst (N := 1) rfl ?_); refine box_event ?hg (N := 1) ?hd (cs := #[.int .i64 a0_0, .int .i64 a0_1, .int .i64 a0_2]) (t := 39) ?hr ?_; (case hd => rfl); (case hg => rfl); (case hr => first | (go_simp; done) | (go_simp; rfl)); intro gb469 hg w29 hbox hb; have n0_ := Aside0.mk (below_step (by repeat (first | (with_reducible first | exact HB.out | apply below_alloc | apply pw_below_drewN | apply below_drew1) | exact HB.out)) hb); have n1_ := Aside0.mk (hbox); have n2_ := Aside0.mk ((by rw [hg]; exact (below_size (by repeat (first | (with_reducible first | exact HB.out | apply below_alloc | apply pw_below_drewN | apply below_drew1) | exact HB.out))) : w.heap.size ≤ gb469)); have n3_ := Aside0.mk ((by rw [hg]; exact (below_size (by repeat (first | (with_reducible first | exact HB.out | apply below_alloc | apply pw_below_drewN | apply below_drew1) | exact HB.out))) : w.heap.size ≤ gb469)); clear HB; have HB := n0_; have BK469 := n1_; have GW469 := n2_; have GE469 := n3_; clear n0_ n1_ n2_ n3_; clear hb hbox hg; have hcz30_0 : w29.cell? ⟨gb469, 0, none⟩ = some (.int .i64 a0_0) := (blk_cell BK469.out 0).trans rfl; have hcz30_1 : w29.cell? ⟨gb469, 1, none⟩ = some (.int .i64 a0_1) := (blk_cell BK469.out 1).trans rfl; have hcz30_2 : w29.cell? ⟨gb469, 2, none⟩ = some (.int .i64 a0_2) := (blk_cell BK469.out 2).trans rfl; have hfz30_0 := blk_frozen BK469.out 0; have hfz30_1 := blk_frozen BK469.out 1; have hfz30_2 := blk_frozen BK469.out 2) | ((with_reducible refine gate_callee (f := 140) rfl ?_); refine goesL_ (some 9) rfl rfl Try.func140 (by kernel_rfl) rfl #[.agg #[.int .i64 a0_0, .int .i64 a0_1, .int .i64 a0_2]] rfl (by (try simp only [List.map_toArray, List.map_cons, List.map_nil]); first | done | rfl | (simp only [List.length_drop, List.length_take]; rfl)) ?_; (with_reducible refine (spec_isGood.calls a0_0 a0_1 a0_2 false _ A2.out).mono ?_); rintro e w31 ⟨rfl, hb⟩; refine ⟨_, rfl, ?_⟩; have n0_ := Aside0.mk (blk_below (g := gb469) (o := .cells #[.int .i64 a0_0, .int .i64 a0_1, .int .i64 a0_2] 39 (0, 0)) (by (with_reducible repeat (first | refine blk_drewN ?_ _ | refine blk_drew ?_ | refine blk_alloc ?_ _)); exact BK469.out) hb); have n1_ := Aside0.mk (below_step (by repeat (first | (with_reducible first | exact HB.out | apply below_alloc | apply pw_below_drewN | apply below_drew1 | refine below_set ?_ GE469.out) | exact HB.out)) hb); clear BK469; clear HB; have BK469 := n0_; have HB := n1_; clear n0_ n1_; (try clear hb); (try clear hb2); (try clear hk); (try clear hi)))
    go_ret2
    exact ⟨by first | rfl | (simp [errW_none, errW_some] <;> rfl) | (simp [*, errW_none, errW_some] <;> rfl), by repeat (first | (with_reducible first | exact HB.out | apply below_alloc | apply pw_below_drewN | apply below_drew1 | refine below_set ?_ GE469.out) | exact HB.out)⟩
end Go.Proofs.Ytlkjglanglpdoaa.T
namespace Go.Proofs.Ytlkjglanglpdoaa.T
open Go.RowKit Go.Proofs.YtlkjglanglpdoaaW.PrintWords Go.Proofs.YtlkjglanglpdoaaW.PrintLast Go.Proofs.YtlkjglanglpdoaaW.PrintMore
attribute [local go_sem] max2_int min2_int max_two min_two max_three min_three max_four min_four
set_option linter.unusedVariables false
set_option linter.unusedSimpArgs false
noncomputable def impl_SavedByIslands.f (a0_0 : Int) (a0_1 : Int) (a0_2 : Int) : Option (Int × Bool) := (impl_FewestVoyages.f a0_0 a0_1 a0_2).bind fun bt476 => ((impl_FewestVoyages.f a0_0 a0_1 0).bind fun bt478 => (if bt476.2 = true then (if bt478.2 = true then (some (wrap64 (bt478.1 - bt476.1), true)) else (some (0, false))) else (some (0, false))))
set_option maxHeartbeats 8000000 in
set_option maxRecDepth 100000 in
theorem impl_SavedByIslands.calls (a0_0 : Int) (a0_1 : Int) (a0_2 : Int) (r1 : Int) (r2 : Bool) (w : World) (h : impl_SavedByIslands.f a0_0 a0_1 a0_2 = some (r1, r2)) :
    Calls Try.prog 32 #[.agg #[.int .i64 a0_0, .int .i64 a0_1, .int .i64 a0_2]] w fun e w' => e = .returned (.tuple #[.int .i64 r1, .bool r2]) ∧ Below w.heap.size w w' := by
  have hu39 := Try.underlying39
  have HB := Aside0.mk (Below.refl w.heap.size w)
  have H : ((impl_FewestVoyages.f a0_0 a0_1 a0_2).bind fun bt476 => ((impl_FewestVoyages.f a0_0 a0_1 0).bind fun bt478 => (if bt476.2 = true then (if bt478.2 = true then (some (wrap64 (bt478.1 - bt476.1), true)) else (some (0, false))) else (some (0, false))))) = some (r1, r2) := h
  clear h
  replace H := Option.bind_eq_some_iff.mp H
  obtain ⟨⟨t476, t477⟩, A20, H⟩ := H
  replace H : ((impl_FewestVoyages.f a0_0 a0_1 0).bind fun bt478 => (if t477 = true then (if bt478.2 = true then (some (wrap64 (bt478.1 - t476), true)) else (some (0, false))) else (some (0, false)))) = some (r1, r2) := H
  have A2 := Aside0.mk A20
  clear A20
  replace H := Option.bind_eq_some_iff.mp H
  obtain ⟨⟨t478, t479⟩, A30, H⟩ := H
  replace H : (if t477 = true then (if t479 = true then (some (wrap64 (t478 - t476), true)) else (some (0, false))) else (some (0, false))) = some (r1, r2) := H
  have A3 := Aside0.mk A30
  clear A30
  by_cases c4 : t477 = true
  · subst c4
    have H1 : (if t479 = true then (some (wrap64 (t478 - t476), true)) else (some (0, false))) = some (r1, r2) := by rw [if_pos rfl] at H; exact H
    clear H
    have H := H1
    clear H1
    by_cases c5 : t479 = true
    · subst c5
      have H1 : (some (wrap64 (t478 - t476), true)) = some (r1, r2) := by rw [if_pos rfl] at H; exact H
      clear H
      have H := H1
      clear H1
      simp only [Option.some.injEq, Prod.mk.injEq] at H
      obtain ⟨rfl, rfl⟩ := H
      go_enter Try.func32, Try.ntmps32
      go_wp2_with (first | ((with_reducible refine gate_dst (N := 1) rfl ?_); refine box_event ?hg (N := 1) ?hd (cs := #[.int .i64 a0_0, .int .i64 a0_1, .int .i64 a0_2]) (t := 39) ?hr ?_; (case hd => rfl); (case hg => rfl); (case hr => first | (go_simp; done) | (go_simp; rfl)); intro gb475 hg w6 hbox hb; have n0_ := Aside0.mk (below_step (by repeat (first | (with_reducible first | exact HB.out | apply below_alloc | apply pw_below_drewN | apply below_drew1) | exact HB.out)) hb); have n1_ := Aside0.mk (hbox); have n2_ := Aside0.mk ((by rw [hg]; exact (below_size (by repeat (first | (with_reducible first | exact HB.out | apply below_alloc | apply pw_below_drewN | apply below_drew1) | exact HB.out))) : w.heap.size ≤ gb475)); have n3_ := Aside0.mk ((by rw [hg]; exact (below_size (by repeat (first | (with_reducible first | exact HB.out | apply below_alloc | apply pw_below_drewN | apply below_drew1) | exact HB.out))) : w.heap.size ≤ gb475)); clear HB; have HB := n0_; have BK475 := n1_; have GW475 := n2_; have GE475 := n3_; clear n0_ n1_ n2_ n3_; clear hb hbox hg; have hcz7_0 : w6.cell? ⟨gb475, 0, none⟩ = some (.int .i64 a0_0) := (blk_cell BK475.out 0).trans rfl; have hcz7_1 : w6.cell? ⟨gb475, 1, none⟩ = some (.int .i64 a0_1) := (blk_cell BK475.out 1).trans rfl; have hcz7_2 : w6.cell? ⟨gb475, 2, none⟩ = some (.int .i64 a0_2) := (blk_cell BK475.out 2).trans rfl; have hfz7_0 := blk_frozen BK475.out 0; have hfz7_1 := blk_frozen BK475.out 1; have hfz7_2 := blk_frozen BK475.out 2) | ((with_reducible refine gate_callee (f := 30) rfl ?_); refine goesL_ (some 10) rfl rfl Try.func30 (by kernel_rfl) rfl #[.agg #[.int .i64 a0_0, .int .i64 a0_1, .int .i64 a0_2]] rfl (by (try simp only [List.map_toArray, List.map_cons, List.map_nil]); first | done | rfl | (simp only [List.length_drop, List.length_take]; rfl)) ?_; (with_reducible refine (impl_FewestVoyages.calls a0_0 a0_1 a0_2 t476 true _ A2.out).mono ?_); rintro e w8 ⟨rfl, hb⟩; refine ⟨_, rfl, ?_⟩; have n0_ := Aside0.mk (blk_below (g := gb475) (o := .cells #[.int .i64 a0_0, .int .i64 a0_1, .int .i64 a0_2] 39 (0, 0)) (by (with_reducible repeat (first | refine blk_drewN ?_ _ | refine blk_drew ?_ | refine blk_alloc ?_ _)); exact BK475.out) hb); have n1_ := Aside0.mk (below_step (by repeat (first | (with_reducible first | exact HB.out | apply below_alloc | apply pw_below_drewN | apply below_drew1 | refine below_set ?_ GE475.out) | exact HB.out)) hb); clear BK475; clear HB; have BK475 := n0_; have HB := n1_; clear n0_ n1_; (try clear hb); (try clear hb2); (try clear hk); (try clear hi); have hcz9_0 : w8.cell? ⟨gb475, 0, none⟩ = some (.int .i64 a0_0) := (blk_cell BK475.out 0).trans rfl; have hcz9_1 : w8.cell? ⟨gb475, 1, none⟩ = some (.int .i64 a0_1) := (blk_cell BK475.out 1).trans rfl; have hcz9_2 : w8.cell? ⟨gb475, 2, none⟩ = some (.int .i64 a0_2) := (blk_cell BK475.out 2).trans rfl; have hfz9_0 := blk_frozen BK475.out 0; have hfz9_1 := blk_frozen BK475.out 1; have hfz9_2 := blk_frozen BK475.out 2) | ((with_reducible refine gate_callee (f := 30) rfl ?_); refine goesL_ (some 19) rfl rfl Try.func30 (by kernel_rfl) rfl #[.agg #[.int .i64 a0_0, .int .i64 a0_1, .int .i64 0]] rfl (by (try simp only [List.map_toArray, List.map_cons, List.map_nil]); first | done | rfl | (simp only [List.length_drop, List.length_take]; rfl)) ?_; (with_reducible refine (impl_FewestVoyages.calls a0_0 a0_1 0 t478 true _ A3.out).mono ?_); rintro e w10 ⟨rfl, hb⟩; refine ⟨_, rfl, ?_⟩; have n0_ := Aside0.mk (blk_below (g := gb475) (o := .cells #[.int .i64 a0_0, .int .i64 a0_1, .int .i64 a0_2] 39 (0, 0)) (by (with_reducible repeat (first | refine blk_drewN ?_ _ | refine blk_drew ?_ | refine blk_alloc ?_ _)); exact BK475.out) hb); have n1_ := Aside0.mk (below_step (by repeat (first | (with_reducible first | exact HB.out | apply below_alloc | apply pw_below_drewN | apply below_drew1 | refine below_set ?_ GE475.out) | exact HB.out)) hb); clear BK475; clear HB; have BK475 := n0_; have HB := n1_; clear n0_ n1_; (try clear hb); (try clear hb2); (try clear hk); (try clear hi)))
      go_ret2
      exact ⟨by first | rfl | (simp [errW_none, errW_some] <;> rfl) | (simp [*, errW_none, errW_some] <;> rfl), by repeat (first | (with_reducible first | exact HB.out | apply below_alloc | apply pw_below_drewN | apply below_drew1 | refine below_set ?_ GE475.out) | exact HB.out)⟩
    · replace c5 := Bool.eq_false_iff.mpr c5
      subst c5
      have H1 : (some (0, false)) = some (r1, r2) := by rw [if_neg (show ¬ (false = true) by decide)] at H; exact H
      clear H
      have H := H1
      clear H1
      simp only [Option.some.injEq, Prod.mk.injEq] at H
      obtain ⟨rfl, rfl⟩ := H
      go_enter Try.func32, Try.ntmps32
      go_wp2_with (first | ((with_reducible refine gate_dst (N := 1) rfl ?_); refine box_event ?hg (N := 1) ?hd (cs := #[.int .i64 a0_0, .int .i64 a0_1, .int .i64 a0_2]) (t := 39) ?hr ?_; (case hd => rfl); (case hg => rfl); (case hr => first | (go_simp; done) | (go_simp; rfl)); intro gb475 hg w11 hbox hb; have n0_ := Aside0.mk (below_step (by repeat (first | (with_reducible first | exact HB.out | apply below_alloc | apply pw_below_drewN | apply below_drew1) | exact HB.out)) hb); have n1_ := Aside0.mk (hbox); have n2_ := Aside0.mk ((by rw [hg]; exact (below_size (by repeat (first | (with_reducible first | exact HB.out | apply below_alloc | apply pw_below_drewN | apply below_drew1) | exact HB.out))) : w.heap.size ≤ gb475)); have n3_ := Aside0.mk ((by rw [hg]; exact (below_size (by repeat (first | (with_reducible first | exact HB.out | apply below_alloc | apply pw_below_drewN | apply below_drew1) | exact HB.out))) : w.heap.size ≤ gb475)); clear HB; have HB := n0_; have BK475 := n1_; have GW475 := n2_; have GE475 := n3_; clear n0_ n1_ n2_ n3_; clear hb hbox hg; have hcz12_0 : w11.cell? ⟨gb475, 0, none⟩ = some (.int .i64 a0_0) := (blk_cell BK475.out 0).trans rfl; have hcz12_1 : w11.cell? ⟨gb475, 1, none⟩ = some (.int .i64 a0_1) := (blk_cell BK475.out 1).trans rfl; have hcz12_2 : w11.cell? ⟨gb475, 2, none⟩ = some (.int .i64 a0_2) := (blk_cell BK475.out 2).trans rfl; have hfz12_0 := blk_frozen BK475.out 0; have hfz12_1 := blk_frozen BK475.out 1; have hfz12_2 := blk_frozen BK475.out 2) | ((with_reducible refine gate_callee (f := 30) rfl ?_); refine goesL_ (some 10) rfl rfl Try.func30 (by kernel_rfl) rfl #[.agg #[.int .i64 a0_0, .int .i64 a0_1, .int .i64 a0_2]] rfl (by (try simp only [List.map_toArray, List.map_cons, List.map_nil]); first | done | rfl | (simp only [List.length_drop, List.length_take]; rfl)) ?_; (with_reducible refine (impl_FewestVoyages.calls a0_0 a0_1 a0_2 t476 true _ A2.out).mono ?_); rintro e w13 ⟨rfl, hb⟩; refine ⟨_, rfl, ?_⟩; have n0_ := Aside0.mk (blk_below (g := gb475) (o := .cells #[.int .i64 a0_0, .int .i64 a0_1, .int .i64 a0_2] 39 (0, 0)) (by (with_reducible repeat (first | refine blk_drewN ?_ _ | refine blk_drew ?_ | refine blk_alloc ?_ _)); exact BK475.out) hb); have n1_ := Aside0.mk (below_step (by repeat (first | (with_reducible first | exact HB.out | apply below_alloc | apply pw_below_drewN | apply below_drew1 | refine below_set ?_ GE475.out) | exact HB.out)) hb); clear BK475; clear HB; have BK475 := n0_; have HB := n1_; clear n0_ n1_; (try clear hb); (try clear hb2); (try clear hk); (try clear hi); have hcz14_0 : w13.cell? ⟨gb475, 0, none⟩ = some (.int .i64 a0_0) := (blk_cell BK475.out 0).trans rfl; have hcz14_1 : w13.cell? ⟨gb475, 1, none⟩ = some (.int .i64 a0_1) := (blk_cell BK475.out 1).trans rfl; have hcz14_2 : w13.cell? ⟨gb475, 2, none⟩ = some (.int .i64 a0_2) := (blk_cell BK475.out 2).trans rfl; have hfz14_0 := blk_frozen BK475.out 0; have hfz14_1 := blk_frozen BK475.out 1; have hfz14_2 := blk_frozen BK475.out 2) | ((with_reducible refine gate_callee (f := 30) rfl ?_); refine goesL_ (some 19) rfl rfl Try.func30 (by kernel_rfl) rfl #[.agg #[.int .i64 a0_0, .int .i64 a0_1, .int .i64 0]] rfl (by (try simp only [List.map_toArray, List.map_cons, List.map_nil]); first | done | rfl | (simp only [List.length_drop, List.length_take]; rfl)) ?_; (with_reducible refine (impl_FewestVoyages.calls a0_0 a0_1 0 t478 false _ A3.out).mono ?_); rintro e w15 ⟨rfl, hb⟩; refine ⟨_, rfl, ?_⟩; have n0_ := Aside0.mk (blk_below (g := gb475) (o := .cells #[.int .i64 a0_0, .int .i64 a0_1, .int .i64 a0_2] 39 (0, 0)) (by (with_reducible repeat (first | refine blk_drewN ?_ _ | refine blk_drew ?_ | refine blk_alloc ?_ _)); exact BK475.out) hb); have n1_ := Aside0.mk (below_step (by repeat (first | (with_reducible first | exact HB.out | apply below_alloc | apply pw_below_drewN | apply below_drew1 | refine below_set ?_ GE475.out) | exact HB.out)) hb); clear BK475; clear HB; have BK475 := n0_; have HB := n1_; clear n0_ n1_; (try clear hb); (try clear hb2); (try clear hk); (try clear hi)))
      go_ret2
      exact ⟨by first | rfl | (simp [errW_none, errW_some] <;> rfl) | (simp [*, errW_none, errW_some] <;> rfl), by repeat (first | (with_reducible first | exact HB.out | apply below_alloc | apply pw_below_drewN | apply below_drew1 | refine below_set ?_ GE475.out) | exact HB.out)⟩
  · replace c4 := Bool.eq_false_iff.mpr c4
    subst c4
    have H1 : (some (0, false)) = some (r1, r2) := by rw [if_neg (show ¬ (false = true) by decide)] at H; exact H
    clear H
    have H := H1
    clear H1
    simp only [Option.some.injEq, Prod.mk.injEq] at H
    obtain ⟨rfl, rfl⟩ := H
    go_enter Try.func32, Try.ntmps32
    go_wp2_with (first | ((with_reducible refine gate_dst (N := 1) rfl ?_); refine box_event ?hg (N := 1) ?hd (cs := #[.int .i64 a0_0, .int .i64 a0_1, .int .i64 a0_2]) (t := 39) ?hr ?_; (case hd => rfl); (case hg => rfl); (case hr => first | (go_simp; done) | (go_simp; rfl)); intro gb475 hg w16 hbox hb; have n0_ := Aside0.mk (below_step (by repeat (first | (with_reducible first | exact HB.out | apply below_alloc | apply pw_below_drewN | apply below_drew1) | exact HB.out)) hb); have n1_ := Aside0.mk (hbox); have n2_ := Aside0.mk ((by rw [hg]; exact (below_size (by repeat (first | (with_reducible first | exact HB.out | apply below_alloc | apply pw_below_drewN | apply below_drew1) | exact HB.out))) : w.heap.size ≤ gb475)); have n3_ := Aside0.mk ((by rw [hg]; exact (below_size (by repeat (first | (with_reducible first | exact HB.out | apply below_alloc | apply pw_below_drewN | apply below_drew1) | exact HB.out))) : w.heap.size ≤ gb475)); clear HB; have HB := n0_; have BK475 := n1_; have GW475 := n2_; have GE475 := n3_; clear n0_ n1_ n2_ n3_; clear hb hbox hg; have hcz17_0 : w16.cell? ⟨gb475, 0, none⟩ = some (.int .i64 a0_0) := (blk_cell BK475.out 0).trans rfl; have hcz17_1 : w16.cell? ⟨gb475, 1, none⟩ = some (.int .i64 a0_1) := (blk_cell BK475.out 1).trans rfl; have hcz17_2 : w16.cell? ⟨gb475, 2, none⟩ = some (.int .i64 a0_2) := (blk_cell BK475.out 2).trans rfl; have hfz17_0 := blk_frozen BK475.out 0; have hfz17_1 := blk_frozen BK475.out 1; have hfz17_2 := blk_frozen BK475.out 2) | ((with_reducible refine gate_callee (f := 30) rfl ?_); refine goesL_ (some 10) rfl rfl Try.func30 (by kernel_rfl) rfl #[.agg #[.int .i64 a0_0, .int .i64 a0_1, .int .i64 a0_2]] rfl (by (try simp only [List.map_toArray, List.map_cons, List.map_nil]); first | done | rfl | (simp only [List.length_drop, List.length_take]; rfl)) ?_; (with_reducible refine (impl_FewestVoyages.calls a0_0 a0_1 a0_2 t476 false _ A2.out).mono ?_); rintro e w18 ⟨rfl, hb⟩; refine ⟨_, rfl, ?_⟩; have n0_ := Aside0.mk (blk_below (g := gb475) (o := .cells #[.int .i64 a0_0, .int .i64 a0_1, .int .i64 a0_2] 39 (0, 0)) (by (with_reducible repeat (first | refine blk_drewN ?_ _ | refine blk_drew ?_ | refine blk_alloc ?_ _)); exact BK475.out) hb); have n1_ := Aside0.mk (below_step (by repeat (first | (with_reducible first | exact HB.out | apply below_alloc | apply pw_below_drewN | apply below_drew1 | refine below_set ?_ GE475.out) | exact HB.out)) hb); clear BK475; clear HB; have BK475 := n0_; have HB := n1_; clear n0_ n1_; (try clear hb); (try clear hb2); (try clear hk); (try clear hi); have hcz19_0 : w18.cell? ⟨gb475, 0, none⟩ = some (.int .i64 a0_0) := (blk_cell BK475.out 0).trans rfl; have hcz19_1 : w18.cell? ⟨gb475, 1, none⟩ = some (.int .i64 a0_1) := (blk_cell BK475.out 1).trans rfl; have hcz19_2 : w18.cell? ⟨gb475, 2, none⟩ = some (.int .i64 a0_2) := (blk_cell BK475.out 2).trans rfl; have hfz19_0 := blk_frozen BK475.out 0; have hfz19_1 := blk_frozen BK475.out 1; have hfz19_2 := blk_frozen BK475.out 2) | ((with_reducible refine gate_callee (f := 30) rfl ?_); refine goesL_ (some 19) rfl rfl Try.func30 (by kernel_rfl) rfl #[.agg #[.int .i64 a0_0, .int .i64 a0_1, .int .i64 0]] rfl (by (try simp only [List.map_toArray, List.map_cons, List.map_nil]); first | done | rfl | (simp only [List.length_drop, List.length_take]; rfl)) ?_; (with_reducible refine (impl_FewestVoyages.calls a0_0 a0_1 0 t478 t479 _ A3.out).mono ?_); rintro e w20 ⟨rfl, hb⟩; refine ⟨_, rfl, ?_⟩; have n0_ := Aside0.mk (blk_below (g := gb475) (o := .cells #[.int .i64 a0_0, .int .i64 a0_1, .int .i64 a0_2] 39 (0, 0)) (by (with_reducible repeat (first | refine blk_drewN ?_ _ | refine blk_drew ?_ | refine blk_alloc ?_ _)); exact BK475.out) hb); have n1_ := Aside0.mk (below_step (by repeat (first | (with_reducible first | exact HB.out | apply below_alloc | apply pw_below_drewN | apply below_drew1 | refine below_set ?_ GE475.out) | exact HB.out)) hb); clear BK475; clear HB; have BK475 := n0_; have HB := n1_; clear n0_ n1_; (try clear hb); (try clear hb2); (try clear hk); (try clear hi)))
    go_ret2
    exact ⟨by first | rfl | (simp [errW_none, errW_some] <;> rfl) | (simp [*, errW_none, errW_some] <;> rfl), by repeat (first | (with_reducible first | exact HB.out | apply below_alloc | apply pw_below_drewN | apply below_drew1 | refine below_set ?_ GE475.out) | exact HB.out)⟩
end Go.Proofs.Ytlkjglanglpdoaa.T
namespace Go.Proofs.Ytlkjglanglpdoaa.T
open Go.RowKit Go.Proofs.YtlkjglanglpdoaaW.PrintWords Go.Proofs.YtlkjglanglpdoaaW.PrintLast Go.Proofs.YtlkjglanglpdoaaW.PrintMore
set_option linter.unusedVariables false
set_option linter.unusedSimpArgs false
theorem isGood_eq (a0 a1 a2 : Int) : ∃ b, spec_isGood.f a0 a1 a2 = some b ∧ (b = true ↔ IslOk a0 a1 a2) := by
  unfold spec_isGood.f IslOk
  rw [inS_eq, inS_eq, inS_eq]
  simp only [Option.bind_some, decide_eq_true_eq]
  by_cases h0 : 1 ≤ a0 ∧ a0 ≤ 3
  · rw [if_pos h0]
    by_cases h1 : 1 ≤ a1 ∧ a1 ≤ 3
    · rw [if_pos h1]
      exact ⟨_, rfl, by rw [decide_eq_true_eq]; exact ⟨fun h => ⟨h0, h1, h⟩, fun h => h.2.2⟩⟩
    · rw [if_neg h1]
      exact ⟨_, rfl, ⟨fun h => (Bool.false_ne_true h).elim, fun h => absurd h.2.1 h1⟩⟩
  · rw [if_neg h0]
    exact ⟨_, rfl, ⟨fun h => (Bool.false_ne_true h).elim, fun h => absurd h.1 h0⟩⟩
theorem isGood_yes {a0 a1 a2 : Int} (hI : IslOk a0 a1 a2) : spec_isGood.f a0 a1 a2 = some true := by
  obtain ⟨b, h, hb⟩ := isGood_eq a0 a1 a2
  rw [h, hb.2 hI]
theorem isGood_no {a0 a1 a2 : Int} (hI : ¬ IslOk a0 a1 a2) : spec_isGood.f a0 a1 a2 = some false := by
  obtain ⟨b, h, hb⟩ := isGood_eq a0 a1 a2
  rw [h]
  cases b
  · rfl
  · exact absurd (hb.1 rfl) hI
def manyR : Nat := 6000001
theorem fewest_eq {a0 a1 a2 : Int} (hI : IslOk a0 a1 a2) (k : Nat) (hk : 6000000 < k) : ∃ (far ways : List Int) (q : List S64) (i : Nat), spec_isFewest.f k a0 a1 a2 = some (fewV a0 a1 a2, rd ways (cdS a2 (allS a0 (a2 + 1)))) ∧ spec_isFar.f k a0 a1 a2 (allS a0 0).f0 (allS a0 0).f1 = some (far, ways, (q.length : Int)) ∧ ways.length = sizeS a0 a2 := by
  obtain ⟨far, ways, q, i, hf, hB, hi, hw⟩ := far_eq hI (allS a0 0) (allS_good hI ⟨by omega, by have := hI.2.2; omega⟩) k hk
  have hg := allS_good hI (p := a2 + 1) ⟨by have := hI.2.2; omega, by omega⟩
  have hc := cdS_code hI.2.2.1 hg
  have hfew := few_far hI hB hi
  refine ⟨far, ways, q, i, ?_, hf, hw⟩
  unfold spec_isFewest.f
  rw [allS_eq a0 a1 a2 0 hI.1 k (by omega), Option.bind_some]
  rw [show spec_isFar.f k a0 a1 a2 (List.replicate (2 * a0).toNat 0, (0 : Int)).1 (List.replicate (2 * a0).toNat 0, (0 : Int)).2 = some (far, ways, (q.length : Int)) from hf, Option.bind_some]
  rw [show wrap64 (a2 + 1) = a2 + 1 from by have := hI.2.2; unfold wrap64; omega, allS_eq a0 a1 a2 (a2 + 1) hI.1 k (by omega), Option.bind_some]
  have hcode : spec_isCode.f k a0 a1 a2 (List.replicate (2 * a0).toNat (a2 + 1)) (a2 + 1) = some (cdS a2 (allS a0 (a2 + 1)) : Int) := by
    rw [codeS_eq a0 a1 a2 hI.2.2 _ _ (by have := hI.1; simp; omega) (fun x hx => by rw [List.eq_of_mem_replicate hx]; have := hI.2.2; omega) (by have := hI.2.2; omega) k (by have := hI.1; simp; omega)]
    exact congrArg some hc.1
  rw [show spec_isCode.f k a0 a1 a2 (List.replicate (2 * a0).toNat (a2 + 1), a2 + 1).1 (List.replicate (2 * a0).toNat (a2 + 1), a2 + 1).2 = some (cdS a2 (allS a0 (a2 + 1)) : Int) from hcode, Option.bind_some]
  have hfl := hB.len
  rw [if_pos (by omega), if_pos (by show (cdS a2 (allS a0 (a2 + 1)) : Int) < (far.length : Int); omega), if_pos (by show (cdS a2 (allS a0 (a2 + 1)) : Int) < (ways.length : Int); omega)]
  show some (rd far _, rd ways _) = _
  rw [hfew]
theorem both6 : Both6 := by
  intro a0 a1 a2
  have key : ∃ n ok, spec_SavedByIslands.f manyR a0 a1 a2 = some (n, ok) ∧ impl_SavedByIslands.f a0 a1 a2 = some (n, ok) := by
    unfold spec_SavedByIslands.f impl_SavedByIslands.f impl_FewestVoyages.f
    simp only [Option.bind_some]
    by_cases hI : IslOk a0 a1 a2
    · have hI0 : IslOk a0 a1 0 := ⟨hI.1, hI.2.1, by omega⟩
      obtain ⟨_, ways, _, _, hf, _, _⟩ := fewest_eq hI manyR (by unfold manyR; omega)
      obtain ⟨_, ways2, _, _, hf2, _, _⟩ := fewest_eq hI0 manyR (by unfold manyR; omega)
      rw [isGood_yes hI, Option.bind_some, if_pos rfl, hf, Option.bind_some, hf2, Option.bind_some]
      by_cases h : fewV a0 a1 a2 < 0
      · rw [if_pos h, fewR_none (a2 := a2) (by omega), if_neg (by decide)]
        exact ⟨_, _, rfl, rfl⟩
      · rw [if_neg h, fewR_some hI (by omega), if_pos rfl]
        by_cases h2 : fewV a0 a1 0 < 0
        · rw [if_pos h2, fewR_none (a2 := 0) (by omega), if_neg (by decide)]
          exact ⟨_, _, rfl, rfl⟩
        · rw [if_neg h2, fewR_some hI0 (by omega), if_pos rfl]
          exact ⟨_, _, rfl, rfl⟩
    · rw [isGood_no hI, Option.bind_some, if_neg (by decide), fewR_not hI, if_neg (by decide)]
      exact ⟨_, _, rfl, rfl⟩
  obtain ⟨n, ok, h1, h2⟩ := key
  exact ⟨n, ok, fun w => spec_SavedByIslands.calls manyR a0 a1 a2 _ _ w h1, fun w => impl_SavedByIslands.calls a0 a1 a2 _ _ w h2⟩
end Go.Proofs.Ytlkjglanglpdoaa.T
