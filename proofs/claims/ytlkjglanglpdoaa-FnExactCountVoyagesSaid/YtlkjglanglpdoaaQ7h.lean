/-
  Texts of a proof, laid together by a program of mine: H9b, H16a, H16b, H16c, H10, Tf140, Tf145, H12, Tf33, H17.
-/
import Derived.Lib.SliceRun
import Derived.BigRegion
import Derived.Laws.CopyOwn
import Derived.Laws.BitsAllLaws
import Derived.Laws.EntriesVeiled
import Derived.Test.YtlkjglanglpdoaaProg
import Derived.Below
import Derived.Deep.Draws
import Derived.Deep.AppendLies
import Derived.Maps.AppendAt
import Derived.OwnWalk
import Derived.Laws.BytesArg
import Derived.Laws.MakeOwn
import Derived.Laws.OwnMore
import Derived.Deep.OwnRows
import Derived.Tactics
import Derived.Lib.ConvBytes
import Derived.Laws.Slices
import Derived.WalkKit
import Derived.KernelRfl
import Derived.RowKit3
import Derived.Deep.LoopGhost
import Derived.Deep.QuietTactic
import Derived.BigQuiet
import Derived.WideLaws
import Derived.Deep.DeepCutAuto
import Derived.Deep.CutBlock
import Derived.Deep.RegionHeld3
import Derived.Laws.Rows
import Derived.Lib.AppendStr
import Derived.ArgAppend
import Derived.Laws.IdiomCopy
import Derived.OrdersHeld
import Derived.Laws.BitsLemmas
import Derived.RowKit
import Derived.Laws.StructEq
import Derived.Maps.OwnSet
import Derived.Test.YtlkjglanglpdoaaRows
import Derived.ProofKit
import Derived.OpenShut
import Derived.ChangeOld
import Derived.SizedLaws
import Derived.Lib.SmallJoins
import Derived.Test.YtlkjglanglpdoaaQ7a
import Derived.Test.YtlkjglanglpdoaaQ7d
import Derived.Test.YtlkjglanglpdoaaQ7e
import Derived.Test.YtlkjglanglpdoaaQ7f
import Derived.Test.YtlkjglanglpdoaaQ7g
namespace Go.Proofs.Ytlkjglanglpdoaa.T
open Go.RowKit Go.Proofs.YtlkjglanglpdoaaW.PrintWords Go.Proofs.YtlkjglanglpdoaaW.PrintLast Go.Proofs.YtlkjglanglpdoaaW.PrintMore
set_option linter.unusedVariables false
set_option linter.unusedSimpArgs false
theorem grp_has (most : Int) : ∀ (p l s : List Int), s.Sublist p → s ≠ [] → ((l ++ s).length : Int) ≤ most → (l ++ s) ∈ grp most p l
  | [], l, s, hs, hne, _ => absurd (List.sublist_nil.1 hs) hne
  | x :: p, l, s, hs, hne, hl => by
    have hs0 : 0 < s.length := List.length_pos_iff.2 hne
    have hlt : (l.length : Int) < most := by rw [List.length_append] at hl; omega
    simp only [grp]; rw [if_pos hlt]
    cases hs with
    | cons _ hs => exact List.mem_cons_of_mem _ (List.mem_append_right _ (grp_has most p l s hs hne hl))
    | cons_cons _ hs =>
      rename_i s'
      by_cases he : s' = []
      · subst he; exact List.mem_cons_self
      · have h1 := grp_has most p (l ++ [x]) s' hs he (by rw [List.append_assoc]; exact hl)
        rw [List.append_assoc] at h1
        exact List.mem_cons_of_mem _ (List.mem_append_left _ h1)
theorem grp_iff (most : Int) (p s : List Int) : s ∈ grp most p [] ↔ s.Sublist p ∧ s ≠ [] ∧ (s.length : Int) ≤ most := by
  constructor
  · intro h
    obtain ⟨⟨u, rfl, hu⟩, h1, h2⟩ := grp_sub most p [] s h
    refine ⟨by simpa using hu, fun e => ?_, h2⟩
    rw [e] at h1; simp at h1
  · rintro ⟨h1, h2, h3⟩
    have := grp_has most p [] s h1 h2 (by simpa using h3)
    simpa using this
theorem sub_standFrom (p : Int) : ∀ (l : List Int) (i : Nat) (s : List Int), s.Sublist (ups (i : Int) l.length) → (∀ x ∈ s, ∃ j : Nat, x = (i : Int) + j ∧ l[j]? = some p) → s.Sublist (standFrom p (i : Int) l)
  | [], i, s, hs, _ => by
    have : s = [] := List.sublist_nil.1 hs
    subst this; exact List.nil_sublist _
  | y :: l, i, s, hs, hx => by
    have key : ∀ s : List Int, s.Sublist (ups ((i : Int) + 1) l.length) → (∀ x ∈ s, ∃ j : Nat, x = (i : Int) + j ∧ (y :: l)[j]? = some p) → s.Sublist (standFrom p ((i : Int) + 1) l) := by
      intro s hs hx
      have := sub_standFrom p l (i + 1) s (by push_cast; exact hs) (fun x h => by
        obtain ⟨j, h1, h2⟩ := hx x h
        have := ups_mem _ _ _ (hs.subset h)
        obtain ⟨j, rfl⟩ : ∃ m, j = m + 1 := ⟨j - 1, by omega⟩
        exact ⟨j, by push_cast at h1 ⊢; omega, by simpa using h2⟩)
      push_cast at this; exact this
    unfold standFrom
    have hs' : s.Sublist ((i : Int) :: ups ((i : Int) + 1) l.length) := hs
    cases hs' with
    | cons _ h =>
      split
      · exact List.Sublist.cons _ (key s h hx)
      · exact key s h hx
    | cons_cons _ h =>
      rename_i s'
      obtain ⟨j, h1, h2⟩ := hx _ List.mem_cons_self
      obtain rfl : j = 0 := by omega
      have hy : y = p := by simpa using h2
      rw [if_pos hy]
      exact List.Sublist.cons_cons _ (key s' h (fun x hm => hx x (List.mem_cons_of_mem _ hm)))
theorem sub_stand {at_ : List Int} {p : Int} {s : List Int} (hs : s.Sublist (ups 0 at_.length)) (hx : ∀ x ∈ s, 0 ≤ x ∧ at_[x.toNat]? = some p) : s.Sublist (stand at_ p) := by
  have := sub_standFrom p at_ 0 s hs (fun x h => ⟨x.toNat, by have := (hx x h).1; omega, (hx x h).2⟩)
  exact this
theorem gone_at (tt : Int) : ∀ (l at_ : List Int) (j : Nat), (∀ x ∈ l, 0 ≤ x) → (gone at_ tt l)[j]? = if (j : Int) ∈ l then (at_[j]?).map (fun _ => tt) else at_[j]?
  | [], at_, j, _ => by simp [gone]
  | k :: l, at_, j, h => by
    have h0 := h k List.mem_cons_self
    have ih := gone_at tt l (at_.set k.toNat tt) j (fun x hx => h x (List.mem_cons_of_mem _ hx))
    show (gone (at_.set k.toNat tt) tt l)[j]? = _
    rw [ih, List.getElem?_set]
    by_cases hk : k.toNat = j
    · have hkj : (j : Int) = k := by omega
      rw [if_pos hk, if_pos (show (j : Int) ∈ k :: l by rw [hkj]; exact List.mem_cons_self)]
      by_cases hlt : k.toNat < at_.length
      · rw [if_pos hlt, List.getElem?_eq_getElem (by omega : j < at_.length)]
        split <;> rfl
      · rw [if_neg hlt, List.getElem?_eq_none (by omega : at_.length ≤ j)]
        split <;> rfl
    · rw [if_neg hk]
      by_cases hm : (j : Int) ∈ l
      · rw [if_pos hm, if_pos (List.mem_cons_of_mem _ hm)]
      · rw [if_neg hm, if_neg]
        intro h'
        rcases List.mem_cons.1 h' with e | h'
        · omega
        · exact hm h'
theorem gone_back (b tt : Int) (l at_ : List Int) (h : ∀ x ∈ l, 0 ≤ x ∧ at_[x.toNat]? = some b) : gone (gone at_ tt l) b l = at_ := by
  apply List.ext_getElem?
  intro j
  rw [gone_at b l _ j (fun x hx => (h x hx).1), gone_at tt l at_ j (fun x hx => (h x hx).1)]
  by_cases hm : (j : Int) ∈ l
  · rw [if_pos hm, if_pos hm]
    have := (h _ hm).2
    rw [Int.toNat_natCast] at this
    rw [this]; rfl
  · rw [if_neg hm, if_neg hm]
theorem stand_at {at_ : List Int} {p x : Int} (h : x ∈ stand at_ p) : 0 ≤ x ∧ at_[x.toNat]? = some p := by
  obtain ⟨j, h1, h2⟩ := standFrom_rd p at_ 0 x h
  exact ⟨by omega, by rw [show x.toNat = j from by omega]; exact h2⟩
theorem next_back {a0 a1 a2 : Int} (h2 : 0 ≤ a2) {s t : S64} (h : GoodS a0 a2 s) (ht : t ∈ nextS a1 a2 s) : s ∈ nextS a1 a2 t := by
  obtain ⟨v, hv, rfl⟩ := List.mem_map.1 ht
  have hok := voy_ok h2 h.1 hv
  obtain ⟨i, hi, hne, hf, hg, hm⟩ := (voyL_mem a1 a2 s.f0 s.f1 v).1 hv
  obtain ⟨hsub, hnil, hlen⟩ := (grp_iff a1 _ _).1 hg
  have hx : ∀ x ∈ v.f1, 0 ≤ x ∧ s.f0[x.toNat]? = some s.f1 := fun x hx => stand_at (hsub.subset hx)
  have hback := gone_back s.f1 v.f0 v.f1 s.f0 hx
  refine List.mem_map.2 ⟨⟨s.f1, v.f1⟩, ?_, ?_⟩
  · refine (voyL_mem a1 a2 _ _ _).2 ⟨s.f1.toNat, by have := h.1.boat; omega, ?_, ?_, ?_, ?_⟩
    · have := h.1.boat; show ((s.f1.toNat : Nat) : Int) ≠ v.f0; omega
    · have := h.1.boat; show s.f1 = ((s.f1.toNat : Nat) : Int); omega
    · refine (grp_iff a1 _ _).2 ⟨?_, hnil, hlen⟩
      refine sub_stand ?_ (fun x hxm => ⟨(hx x hxm).1, ?_⟩)
      · rw [gone_length]
        exact hsub.trans (standFrom_sub _ _ 0)
      · rw [gone_at v.f0 v.f1 s.f0 x.toNat (fun y hy => (hx y hy).1), if_pos (by rw [show ((x.toNat : Nat) : Int) = x from by have := (hx x hxm).1; omega]; exact hxm), (hx x hxm).2]
        rfl
    · unfold mayGo at hm ⊢
      rw [Bool.and_eq_true] at hm ⊢
      have e1 : ((s.f1.toNat : Nat) : Int) = s.f1 := by have := h.1.boat; omega
      show calmL v.f1 = true ∧ calmAt (a2 + 2).toNat (gone (gone s.f0 v.f0 v.f1) ((s.f1.toNat : Nat) : Int) v.f1) = true
      rw [e1, hback]
      exact ⟨hm.1, h.2⟩
  · show (⟨gone (gone s.f0 v.f0 v.f1) s.f1 v.f1, s.f1⟩ : S64) = s
    rw [hback]
theorem least_back4 {a0 a1 a2 : Int} (hI : IslOk a0 a1 a2) {p q : S64} (hp : GoodS a0 a2 p) (hq : GoodS a0 a2 q) : least (eV (E4 a0 a1 a2)) (c4S p) (c4S q) = least (eV (E4 a0 a1 a2)) (c4S q) (c4S p) := by
  refine least_back (G := fun c => ∃ u, GoodS a0 a2 u ∧ c4S u = c) ?_ ⟨p, hp, rfl⟩ ⟨q, hq, rfl⟩
  rintro s ⟨u, hu, rfl⟩ t k hm
  rw [eV4 hI hu] at hm
  obtain ⟨v, hv, e⟩ := List.mem_map.1 hm
  obtain ⟨rfl, rfl⟩ := Prod.mk.inj e
  have hgv := next_good hI.2.2.1 hu hv
  exact ⟨⟨v, hgv, rfl⟩, by rw [eV4 hI hgv]; exact List.mem_map.2 ⟨u, next_back hI.2.2.1 hu hv, rfl⟩⟩
def allS (a0 p : Int) : S64 := ⟨List.replicate (2 * a0).toNat p, p⟩
theorem allS_good {a0 a1 a2 p : Int} (hI : IslOk a0 a1 a2) (hp : 0 ≤ p ∧ p ≤ a2 + 1) : GoodS a0 a2 (allS a0 p) := ⟨all_ok hp, all_calm hI.1 hI.2.2 hp⟩
theorem c4_first (a0 : Int) : c4S (allS a0 0) = 0 := by
  show (codeB 4 (List.replicate (2 * a0).toNat 0) 0).toNat = 0
  rw [code_zero]; rfl
noncomputable def fewV (a0 a1 a2 : Int) : Int := least (eV (E4 a0 a1 a2)) (c4S (allS a0 (a2 + 1))) 0
theorem few_far {a0 a1 a2 : Int} (hI : IslOk a0 a1 a2) {far : List Int} {q : List S64} {i : Nat} (hB : Bfs a0 a1 a2 (allS a0 0) far q i 0) (hi : q.length ≤ i) : rd far (cdS a2 (allS a0 (a2 + 1))) = fewV a0 a1 a2 := by
  have h2 := hI.2.2
  have g0 := allS_good hI (p := 0) ⟨by omega, by omega⟩
  have g1 := allS_good hI (p := a2 + 1) ⟨by omega, by omega⟩
  rw [hB.ends h2.1 hi _ (cdS_code h2.1 g1).2, ← least_same hI g0 g1, least_back4 hI g0 g1, c4_first]
  rfl
end Go.Proofs.Ytlkjglanglpdoaa.T
namespace Go.Proofs.Ytlkjglanglpdoaa.T
open Go.RowKit Go.Proofs.YtlkjglanglpdoaaW.PrintWords Go.Proofs.YtlkjglanglpdoaaW.PrintLast Go.Proofs.YtlkjglanglpdoaaW.PrintMore
set_option linter.unusedVariables false
set_option linter.unusedSimpArgs false
def Cong (a b : Int) : Prop := ∃ k : Int, a = b + 18446744073709551616 * k
theorem Cong.refl (a : Int) : Cong a a := ⟨0, by omega⟩
theorem Cong.symm {a b : Int} : Cong a b → Cong b a := fun ⟨k, h⟩ => ⟨-k, by omega⟩
theorem Cong.trans {a b c : Int} : Cong a b → Cong b c → Cong a c := fun ⟨k, h⟩ ⟨l, h'⟩ => ⟨k + l, by omega⟩
theorem Cong.add {a b c d : Int} : Cong a b → Cong c d → Cong (a + c) (b + d) := fun ⟨k, h⟩ ⟨l, h'⟩ => ⟨k + l, by omega⟩
theorem Cong.mul {a b : Int} (c : Int) : Cong a b → Cong (a * c) (b * c) := fun ⟨k, h⟩ => ⟨k * c, by rw [h, Int.add_mul, Int.mul_assoc]⟩
theorem wrap_cong (z : Int) : Cong (wrap64 z) z := ⟨(wrap64 z - z) / 18446744073709551616, by unfold wrap64; omega⟩
theorem wrap_eq {a b : Int} : Cong a b → wrap64 a = wrap64 b := fun ⟨k, h⟩ => by unfold wrap64; omega
theorem wrap_idem (z : Int) : wrap64 (wrap64 z) = wrap64 z := wrap_eq (wrap_cong z)
open Classical in
noncomputable def paths (a1 a2 : Int) (x : S64) : Nat → S64 → Int
  | 0, u => if u = x then 1 else 0
  | n + 1, u => ((nextS a1 a2 u).map (fun t => paths a1 a2 x n t)).sum
theorem sum_ne_zero {α : Type} (g : α → Int) : ∀ l : List α, (l.map g).sum ≠ 0 → ∃ t ∈ l, g t ≠ 0
  | [], h => absurd rfl h
  | t :: l, h => by
    by_cases ht : g t = 0
    · rw [List.map_cons, List.sum_cons, ht, Int.zero_add] at h
      obtain ⟨u, hu, h'⟩ := sum_ne_zero g l h
      exact ⟨u, List.mem_cons_of_mem _ hu, h'⟩
    · exact ⟨t, List.mem_cons_self, ht⟩
theorem paths_way {a0 a1 a2 : Int} (h2 : 0 ≤ a2) (x : S64) : ∀ (n : Nat) (u : S64), GoodS a0 a2 u → paths a1 a2 x n u ≠ 0 → Way (EB a0 a1 a2) (cdS a2 u) (cdS a2 x) n
  | 0, u, _, h => by
    unfold paths at h
    split at h
    · rename_i e; rw [e]; exact .nil _
    · exact absurd rfl h
  | n + 1, u, hg, h => by
    unfold paths at h
    obtain ⟨t, ht, h'⟩ := sum_ne_zero _ _ h
    have := paths_way h2 x n t (next_good h2 hg ht) h'
    rw [Nat.add_comm]
    exact .cons (by rw [EB_eq h2 hg]; exact List.mem_map.2 ⟨t, ht, rfl⟩) this
theorem paths_way4 {a0 a1 a2 : Int} (hI : IslOk a0 a1 a2) (x : S64) : ∀ (n : Nat) (u : S64), GoodS a0 a2 u → paths a1 a2 x n u ≠ 0 → Way (eV (E4 a0 a1 a2)) (c4S u) (c4S x) n
  | 0, u, _, h => by
    unfold paths at h
    split at h
    · rename_i e; rw [e]; exact .nil _
    · exact absurd rfl h
  | n + 1, u, hg, h => by
    unfold paths at h
    obtain ⟨t, ht, h'⟩ := sum_ne_zero _ _ h
    have := paths_way4 hI x n t (next_good hI.2.2.1 hg ht) h'
    rw [Nat.add_comm]
    exact .cons (by rw [eV4 hI hg]; exact List.mem_map.2 ⟨t, ht, rfl⟩) this
theorem fold_paths {α : Type} (del : α → Bool) (T : α → Int) (P : α → Int) : ∀ (l : List α) (z : Int), wrap64 z = z → (∀ v ∈ l, (del v = true ∧ P v = 0) ∨ (del v = false ∧ T v = wrap64 (P v))) →
    (l.filter (fun v => !del v)).foldl (fun n v => wrap64 (n + T v)) z = wrap64 (z + (l.map P).sum)
  | [], z, hz, _ => by simp [hz]
  | v :: l, z, hz, h => by
    rcases h v List.mem_cons_self with ⟨h1, h2⟩ | ⟨h1, h2⟩
    · rw [List.filter_cons_of_neg (by simp [h1]), fold_paths del T P l z hz (fun u hu => h u (List.mem_cons_of_mem _ hu)), List.map_cons, List.sum_cons, h2, Int.zero_add]
    · rw [List.filter_cons_of_pos (by simp [h1]), List.foldl_cons, fold_paths del T P l _ (wrap_idem _) (fun u hu => h u (List.mem_cons_of_mem _ hu)), List.map_cons, List.sum_cons]
      apply wrap_eq
      rw [← Int.add_assoc]
      exact ((wrap_cong _).trans (Cong.add (Cong.refl z) (by rw [h2]; exact wrap_cong _))).add (Cong.refl _)
theorem tal_paths {a0 a1 a2 : Int} (hI : IslOk a0 a1 a2) {x : S64} (hx : GoodS a0 a2 x) (ds : List Int) (hds : ∀ c : Nat, c < many4 a0 → rd ds (c : Int) = least (eV (E4 a0 a1 a2)) (c4S x) c) (hsm : ∀ c : Nat, c < many4 a0 → rd ds (c : Int) ≤ 1048576) :
    ∀ (d : Nat) (u : S64), GoodS a0 a2 u → rd ds (c4S u : Int) = d → talV ds (E4 a0 a1 a2) d (c4S u) = wrap64 (paths a1 a2 x d u) := by
  have h2 := hI.2.2
  have hback : ∀ u v : S64, GoodS a0 a2 u → GoodS a0 a2 v → least (eV (E4 a0 a1 a2)) (c4S u) (c4S v) = least (eV (E4 a0 a1 a2)) (c4S v) (c4S u) := fun u v hu hv => least_back4 hI hu hv
  intro d
  induction d with
  | zero =>
    intro u hu hd
    have hc := c4_code h2.2 hu
    rw [hds _ hc.2] at hd
    have hw := least_way (E := eV (E4 a0 a1 a2)) (a := c4S x) (s := c4S u) (by omega)
    rw [hd] at hw
    have he : c4S x = c4S u := by
      rcases hw.head with ⟨h, _⟩ | ⟨b, k, e, hm, _, he⟩
      · exact h
      · rw [eV4 hI hx] at hm
        obtain ⟨t, _, e'⟩ := List.mem_map.1 hm
        have := (Prod.mk.inj e').2
        simp at he
        omega
    have hux : u = x := (c4_inj h2.2 hx hu he).symm
    unfold talV paths
    rw [if_pos hux]
    unfold wrap64; omega
  | succ d ih =>
    intro u hu hd
    have hc := c4_code h2.2 hu
    have hE : E4 a0 a1 a2 (c4S u) = edges4 a1 a2 u.f0 u.f1 := E4_eq hI hu.1 hc.1
    have hpaths : paths a1 a2 x (d + 1) u = ((voyL a1 a2 u.f0 u.f1).map (fun v => paths a1 a2 x d ⟨gone u.f0 v.f0 v.f1, v.f0⟩)).sum := by
      show ((nextS a1 a2 u).map (fun t => paths a1 a2 x d t)).sum = _
      unfold nextS
      rw [List.map_map]
      rfl
    unfold talV bestV
    rw [hE]
    unfold edges4
    rw [List.filter_map, List.foldl_map]
    have key := fold_paths (fun v => delV ds (c4S u : Int) (edge4 u.f0 v)) (fun v => talV ds (E4 a0 a1 a2) d (edge4 u.f0 v).f0.toNat) (fun v => paths a1 a2 x d ⟨gone u.f0 v.f0 v.f1, v.f0⟩) (voyL a1 a2 u.f0 u.f1) 0 (by unfold wrap64; omega) ?_
    · rw [Int.zero_add, ← hpaths] at key
      exact key
    · intro v hv
      have htm : (⟨gone u.f0 v.f0 v.f1, v.f0⟩ : S64) ∈ nextS a1 a2 u := List.mem_map.2 ⟨v, hv, rfl⟩
      obtain ⟨t, hte⟩ : ∃ t : S64, t = ⟨gone u.f0 v.f0 v.f1, v.f0⟩ := ⟨_, rfl⟩
      rw [← hte] at htm ⊢
      have ht := next_good h2.1 hu htm
      have hct := c4_code h2.2 ht
      have hef : (edge4 u.f0 v).f0 = (c4S t : Int) := by rw [hct.1, hte]; rfl
      have hef1 : (edge4 u.f0 v).f1 = 1 := rfl
      have hdt := hds _ hct.2
      have hst := hsm _ hct.2
      have hdel : delV ds (c4S u : Int) (edge4 u.f0 v) = (decide (rd ds (c4S t : Int) < 0) || (wrap64 (rd ds (c4S t : Int) + 1) != rd ds (c4S u : Int))) := by unfold delV; rw [hef, hef1]
      have hge := least_ge (eV (E4 a0 a1 a2)) (c4S x) (c4S t)
      have hw1 : wrap64 (rd ds (c4S t : Int) + 1) = rd ds (c4S t : Int) + 1 := by unfold wrap64; omega
      rw [hdel, hw1, hef, Int.toNat_natCast]
      by_cases hdd : rd ds (c4S t : Int) = d
      · right
        exact ⟨by rw [hdd, hd]; simp, ih t ht hdd⟩
      · left
        refine ⟨?_, ?_⟩
        · rw [hd]
          simp
          omega
        · apply Classical.byContradiction
          intro hne
          have hway := paths_way4 hI x d t ht hne
          have hl1 := least_le hway
          rw [hback t x ht hx] at hl1
          have hedge : (c4S u, 1) ∈ eV (E4 a0 a1 a2) (c4S t) := by
            rw [eV4 hI ht]; exact List.mem_map.2 ⟨u, next_back h2.1 hu htm, rfl⟩
          have hl2 := least_edge hl1.1 hedge
          rw [hds _ hc.2] at hd
          omega
end Go.Proofs.Ytlkjglanglpdoaa.T
namespace Go.Proofs.Ytlkjglanglpdoaa.T
open Go.RowKit Go.Proofs.YtlkjglanglpdoaaW.PrintWords Go.Proofs.YtlkjglanglpdoaaW.PrintLast Go.Proofs.YtlkjglanglpdoaaW.PrintMore
set_option linter.unusedVariables false
set_option linter.unusedSimpArgs false
open Classical
noncomputable def rest (a1 a2 : Int) (x : S64) (D : Int) (far : List Int) (p : S64) : Int := if rd far (cdS a2 p) ≤ D then paths a1 a2 x (D - rd far (cdS a2 p)).toNat p else 0
noncomputable def openSum (a1 a2 : Int) (x : S64) (D : Int) (far ways : List Int) (l : List S64) : Int := (l.map (fun p => rd ways (cdS a2 p) * rest a1 a2 x D far p)).sum
structure BfsW (a0 a1 a2 : Int) (start x : S64) (D : Int) (far wy : List Int) (q : List S64) (i m : Nat) : Prop extends Bfs a0 a1 a2 start far q i m where
  wlen : wy.length = sizeS a0 a2
  zero : ∀ c : Nat, c < sizeS a0 a2 → rd far c < 0 → rd wy c = 0
  rng : ∀ c : Nat, c < sizeS a0 a2 → wrap64 (rd wy c) = rd wy c
  dx : x ∈ q → rd far (cdS a2 x) = D
  pot : i < q.length → rd far (cdS a2 (rd_T64 q i)) < D → Cong (openSum a1 a2 x D far wy (q.drop (i + 1)) + rd wy (cdS a2 (rd_T64 q i)) * (((nextS a1 a2 (rd_T64 q i)).drop m).map (fun t => paths a1 a2 x (D - rd far (cdS a2 (rd_T64 q i)) - 1).toNat t)).sum) (paths a1 a2 x D.toNat start)
  fin : (i < q.length → D ≤ rd far (cdS a2 (rd_T64 q i))) → x ∈ q → Cong (rd wy (cdS a2 x)) (paths a1 a2 x D.toNat start)
section
variable {a0 a1 a2 : Int} {start x : S64} {D : Int} {far ways : List Int} {q : List S64} {i m : Nat}
theorem mem_at {q : List S64} {p : S64} (h : p ∈ q) : ∃ j : Nat, j < q.length ∧ rd_T64 q j = p := by
  obtain ⟨j, hj, e⟩ := List.getElem_of_mem h
  exact ⟨j, hj, by rw [rd_T64_lt q j hj]; exact e⟩
theorem Bfs.near (h : Bfs a0 a1 a2 start far q i m) (h2 : 0 ≤ a2) {c n : Nat} (hw : Way (EB a0 a1 a2) (cdS a2 start) c n) (hn : i < q.length → (n : Int) ≤ rd far (cdS a2 (rd_T64 q i))) : (∃ p ∈ q, cdS a2 p = c) ∧ rd far c ≤ n := by
  generalize hst : cdS a2 start = st at hw
  induction hw with
  | nil => subst hst; exact ⟨⟨start, h.first.1, rfl⟩, by rw [h.first.2]; omega⟩
  | @snoc b c d k hw hm ih =>
    obtain ⟨s, u, hs, hsb, hu, huc, rfl⟩ := EB_mem h2 hm
    obtain ⟨⟨p, hp, e⟩, hl⟩ := ih (fun hi => by have := hn hi; omega)
    have hps : p = s := cdS_inj h2 (h.good p hp) hs (by rw [e, hsb])
    subst hps
    obtain ⟨j, hj, rfl⟩ := mem_at hp
    have hji : j < i := by
      rcases Nat.lt_or_ge j i with hlt | hge
      · exact hlt
      · exfalso
        have h1 := h.sorted i j hge hj
        have h3 := hn (by omega)
        rw [e] at h1
        omega
    have hcl := h.closed j hji hj u hu
    have hgu := next_good h2 (h.good _ hp) hu
    obtain ⟨p', hp', e'⟩ := List.mem_map.1 ((h.told _ (cdS_code h2 hgu).2).1 hcl.1)
    rw [huc] at hcl e'
    rw [e] at hcl
    exact ⟨⟨p', hp', e'⟩, by omega⟩
theorem drop_at (q : List S64) (i : Nat) (h : i < q.length) : q.drop i = rd_T64 q i :: q.drop (i + 1) := by
  rw [rd_T64_lt q i h, List.drop_eq_getElem_cons h]
theorem open_set (h2 : 0 ≤ a2) (rst : S64 → Int) (t : S64) (v : Int) (hw : cdS a2 t < ways.length) : ∀ l : List S64, (∀ p ∈ l, GoodS a0 a2 p) → GoodS a0 a2 t → (l.map (cdS a2)).Nodup →
    (l.map (fun p => rd (ways.set (cdS a2 t) v) (cdS a2 p) * rst p)).sum = (l.map (fun p => rd ways (cdS a2 p) * rst p)).sum + (if t ∈ l then (v - rd ways (cdS a2 t)) * rst t else 0)
  | [], _, _, _ => by simp
  | p :: l, hg, ht, hn => by
    rw [List.map_cons, List.nodup_cons] at hn
    have ih := open_set h2 rst t v hw l (fun q hq => hg q (List.mem_cons_of_mem _ hq)) ht hn.2
    rw [List.map_cons, List.sum_cons, List.map_cons, List.sum_cons, ih, rd_set _ _ _ _ hw]
    by_cases hpt : p = t
    · subst hpt
      have hnm : ¬ p ∈ l := fun h => hn.1 (List.mem_map.2 ⟨p, h, rfl⟩)
      rw [if_pos rfl, if_neg hnm, if_pos List.mem_cons_self, Int.sub_mul]
      omega
    · have hc : ¬ cdS a2 t = cdS a2 p := fun e => hpt (cdS_inj h2 (hg p List.mem_cons_self) ht e.symm)
      rw [if_neg hc]
      by_cases hm : t ∈ l
      · rw [if_pos hm, if_pos (List.mem_cons_of_mem _ hm)]; omega
      · rw [if_neg hm, if_neg (fun h => (List.mem_cons.1 h).elim (fun e => hpt e.symm) hm)]; omega
variable (hD : IsLeast (EB a0 a1 a2) (cdS a2 start) (cdS a2 x) D) (hD0 : 0 ≤ D)
include hD hD0
theorem least_min {n : Nat} (h : Way (EB a0 a1 a2) (cdS a2 start) (cdS a2 x) n) : D ≤ n := by
  rcases hD with ⟨h', _⟩ | ⟨k, h', _, hl⟩
  · omega
  · have := hl n h; omega
theorem BfsW.naught (h : BfsW a0 a1 a2 start x D far ways q i m) (h2 : 0 ≤ a2) (hi : i < q.length) {t : S64} (htq : t ∈ q) (hf : rd far (cdS a2 (rd_T64 q i)) < D) (hne : rd far (cdS a2 t) ≤ rd far (cdS a2 (rd_T64 q i))) :
    paths a1 a2 x (D - rd far (cdS a2 (rd_T64 q i)) - 1).toNat t = 0 := by
  apply Classical.byContradiction
  intro hne'
  have hw := paths_way h2 x _ t (h.good t htq) hne'
  have := least_min hD hD0 ((h.ways t htq).trans hw)
  have h0 : 0 ≤ rd far (cdS a2 t) := (h.told _ (cdS_code h2 (h.good t htq)).2).2 (List.mem_map.2 ⟨t, htq, rfl⟩)
  omega
theorem BfsW.seen (h : BfsW a0 a1 a2 start x D far ways q i m) (h2 : 0 ≤ a2) (hi : i < q.length) {t : S64} (ht : (nextS a1 a2 (rd_T64 q i))[m]? = some t) (hk : 0 ≤ rd far (cdS a2 t)) (hne : rd far (cdS a2 t) ≠ rd far (cdS a2 (rd_T64 q i)) + 1) : BfsW a0 a1 a2 start x D far ways q i (m + 1) := by
  have hgt := next_good h2 (h.good _ (rd_T64_mem q i hi)) (List.mem_of_getElem? ht)
  obtain ⟨p, hp, e⟩ := List.mem_map.1 ((h.told _ (cdS_code h2 hgt).2).1 hk)
  have hpt := cdS_inj h2 (h.good p hp) hgt e
  subst hpt
  obtain ⟨j, hj, hje⟩ := mem_at hp
  have htop := h.top hi j hj
  rw [hje] at htop
  refine { toBfs := h.toBfs.seen h2 hi ht hk, wlen := h.wlen, zero := h.zero, rng := h.rng, dx := h.dx, pot := fun _ hf => ?_, fin := h.fin }
  have hpot := h.pot hi hf
  obtain ⟨hml, hme⟩ := List.getElem?_eq_some_iff.1 ht
  rw [List.drop_eq_getElem_cons hml, hme, List.map_cons, List.sum_cons, h.naught hD hD0 h2 hi hp hf (by omega), Int.zero_add] at hpot
  exact hpot
theorem BfsW.adds (h : BfsW a0 a1 a2 start x D far ways q i m) (h2 : 0 ≤ a2) (hi : i < q.length) {t : S64} (ht : (nextS a1 a2 (rd_T64 q i))[m]? = some t) (hk : rd far (cdS a2 t) = rd far (cdS a2 (rd_T64 q i)) + 1) :
    BfsW a0 a1 a2 start x D far (ways.set (cdS a2 t) (wrap64 (rd ways (cdS a2 t) + rd ways (cdS a2 (rd_T64 q i))))) q i (m + 1) := by
  have _u := hD; have _v := hD0
  have hx := rd_T64_mem q i hi
  have hgt := next_good h2 (h.good _ hx) (List.mem_of_getElem? ht)
  have hct := cdS_code h2 hgt
  have h0 : 0 ≤ rd far (cdS a2 (rd_T64 q i)) := (h.told _ (cdS_code h2 (h.good _ hx)).2).2 (List.mem_map.2 ⟨_, hx, rfl⟩)
  obtain ⟨p, hp, e⟩ := List.mem_map.1 ((h.told _ hct.2).1 (by omega))
  have hpt := cdS_inj h2 (h.good p hp) hgt e
  subst hpt
  have hlw : cdS a2 p < ways.length := by rw [h.wlen]; exact hct.2
  have hset : ∀ c : Nat, c ≠ cdS a2 p → rd (ways.set (cdS a2 p) (wrap64 (rd ways (cdS a2 p) + rd ways (cdS a2 (rd_T64 q i))))) c = rd ways c := fun c hc => by rw [rd_set _ _ _ _ hlw, if_neg (fun e => hc e.symm)]
  refine { toBfs := h.toBfs.seen h2 hi ht (by omega), wlen := by rw [List.length_set]; exact h.wlen, zero := fun c hc hn => ?_, rng := fun c hc => ?_, dx := h.dx, pot := fun _ hf => ?_, fin := fun hf hxq => ?_ }
  · rw [hset c (fun e => by rw [e] at hn; omega)]; exact h.zero c hc hn
  · rw [rd_set _ _ _ _ hlw]
    split
    · exact wrap_idem _
    · exact h.rng c hc
  · have hpot := h.pot hi hf
    obtain ⟨hml, hme⟩ := List.getElem?_eq_some_iff.1 ht
    rw [List.drop_eq_getElem_cons hml, hme, List.map_cons, List.sum_cons] at hpot
    have hdrop : p ∈ q.drop (i + 1) := by
      obtain ⟨j, hj, hje⟩ := mem_at hp
      have hij : i < j := by
        rcases Nat.lt_or_ge i j with hlt | hge
        · exact hlt
        · exfalso
          have := h.sorted j i hge hi
          rw [hje] at this
          omega
      rw [← hje, rd_T64_lt q j hj]
      exact List.mem_of_getElem? (i := j - (i + 1)) (by rw [List.getElem?_drop, show i + 1 + (j - (i + 1)) = j from by omega, List.getElem?_eq_getElem hj])
    have hself : rd (ways.set (cdS a2 p) (wrap64 (rd ways (cdS a2 p) + rd ways (cdS a2 (rd_T64 q i))))) (cdS a2 (rd_T64 q i)) = rd ways (cdS a2 (rd_T64 q i)) := hset _ (fun e => by rw [← e] at hk; omega)
    rw [hself]
    unfold openSum at hpot ⊢
    rw [open_set h2 (rest a1 a2 x D far) p _ hlw (q.drop (i + 1)) (fun u hu => h.good u (List.mem_of_mem_drop hu)) hgt ((List.Sublist.map _ (List.drop_sublist (i + 1) q)).nodup h.nodup), if_pos hdrop]
    have hrest : rest a1 a2 x D far p = paths a1 a2 x (D - rd far (cdS a2 (rd_T64 q i)) - 1).toNat p := by
      unfold rest
      rw [if_pos (by omega), hk, show D - (rd far (cdS a2 (rd_T64 q i)) + 1) = D - rd far (cdS a2 (rd_T64 q i)) - 1 from by omega]
    rw [hrest]
    refine Cong.trans ?_ hpot
    have hc1 := Cong.mul (paths a1 a2 x (D - rd far (cdS a2 (rd_T64 q i)) - 1).toNat p) (Cong.add (wrap_cong (rd ways (cdS a2 p) + rd ways (cdS a2 (rd_T64 q i)))) (Cong.refl (-(rd ways (cdS a2 p)))))
    obtain ⟨k, hk'⟩ := hc1
    refine ⟨k, ?_⟩
    rw [Int.sub_eq_add_neg, hk', Int.mul_add, show rd ways (cdS a2 p) + rd ways (cdS a2 (rd_T64 q i)) + -(rd ways (cdS a2 p)) = rd ways (cdS a2 (rd_T64 q i)) from by omega]
    omega
  · have hne : cdS a2 x ≠ cdS a2 p := fun e => by
      have h1 := h.dx hxq
      have h3 := hf hi
      rw [e] at h1
      omega
    rw [hset _ hne]
    exact h.fin hf hxq
theorem BfsW.push (h : BfsW a0 a1 a2 start x D far ways q i m) (h2 : 0 ≤ a2) (hi : i < q.length) {t : S64} (ht : (nextS a1 a2 (rd_T64 q i))[m]? = some t) (hk : rd far (cdS a2 t) < 0) :
    BfsW a0 a1 a2 start x D (far.set (cdS a2 t) (rd far (cdS a2 (rd_T64 q i)) + 1)) (ways.set (cdS a2 t) (wrap64 (rd ways (cdS a2 t) + rd ways (cdS a2 (rd_T64 q i))))) (q ++ [t]) i (m + 1) := by
  have hx := rd_T64_mem q i hi
  have hgt := next_good h2 (h.good _ hx) (List.mem_of_getElem? ht)
  have hct := cdS_code h2 hgt
  have hb := h.toBfs.push h2 hi ht hk
  have hw0 := h.zero _ hct.2 hk
  have hlf : cdS a2 t < far.length := by rw [h.len]; exact hct.2
  have hlw : cdS a2 t < ways.length := by rw [h.wlen]; exact hct.2
  have hold : ∀ p ∈ q, cdS a2 t ≠ cdS a2 p := fun p hp e => by
    have h1 := (h.told _ (cdS_code h2 (h.good p hp)).2).2 (List.mem_map.2 ⟨p, hp, rfl⟩)
    rw [e] at hk; omega
  have hfo : ∀ p ∈ q, rd (far.set (cdS a2 t) (rd far (cdS a2 (rd_T64 q i)) + 1)) (cdS a2 p) = rd far (cdS a2 p) := fun p hp => by rw [rd_set _ _ _ _ hlf, if_neg (hold p hp)]
  have hwo : ∀ p ∈ q, rd (ways.set (cdS a2 t) (wrap64 (rd ways (cdS a2 t) + rd ways (cdS a2 (rd_T64 q i))))) (cdS a2 p) = rd ways (cdS a2 p) := fun p hp => by rw [rd_set _ _ _ _ hlw, if_neg (hold p hp)]
  have hft : rd (far.set (cdS a2 t) (rd far (cdS a2 (rd_T64 q i)) + 1)) (cdS a2 t) = rd far (cdS a2 (rd_T64 q i)) + 1 := by rw [rd_set _ _ _ _ hlf, if_pos rfl]
  have hwt : rd (ways.set (cdS a2 t) (wrap64 (rd ways (cdS a2 t) + rd ways (cdS a2 (rd_T64 q i))))) (cdS a2 t) = wrap64 (rd ways (cdS a2 t) + rd ways (cdS a2 (rd_T64 q i))) := by rw [rd_set _ _ _ _ hlw, if_pos rfl]
  have hat : rd_T64 (q ++ [t]) i = rd_T64 q i := rd_T64_app q t i hi
  have h0 : 0 ≤ rd far (cdS a2 (rd_T64 q i)) := (h.told _ (cdS_code h2 (h.good _ hx)).2).2 (List.mem_map.2 ⟨_, hx, rfl⟩)
  refine { toBfs := hb, wlen := by rw [List.length_set]; exact h.wlen, zero := fun c hc hn => ?_, rng := fun c hc => ?_, dx := fun hxq => ?_, pot := fun _ hf => ?_, fin := fun hf hxq => ?_ }
  · rw [rd_set _ _ _ _ hlf] at hn
    rw [rd_set _ _ _ _ hlw]
    by_cases e : cdS a2 t = c
    · rw [if_pos e] at hn; omega
    · rw [if_neg e] at hn ⊢; exact h.zero c hc hn
  · rw [rd_set _ _ _ _ hlw]
    split
    · exact wrap_idem _
    · exact h.rng c hc
  · rcases List.mem_append.1 hxq with hxq | hxq
    · rw [hfo x hxq]; exact h.dx hxq
    · have hxt : x = t := List.mem_singleton.1 hxq
      subst hxt
      rw [hft]
      have h1 := hb.ways x (List.mem_append_right _ (List.mem_singleton.2 rfl))
      rw [hft] at h1
      have h3 := least_min hD hD0 h1
      rcases Int.lt_or_le (rd far (cdS a2 (rd_T64 q i))) D with hlt | hge
      · omega
      · exfalso
        rcases hD with ⟨h', _⟩ | ⟨k, h', hw, _⟩
        · omega
        · obtain ⟨⟨p, hp, e⟩, _⟩ := h.toBfs.near h2 hw (fun _ => by omega)
          exact hold p hp e.symm
  · rw [hat] at hf ⊢
    rw [hfo _ hx] at hf ⊢
    rw [hwo _ hx]
    have hpot := h.pot hi hf
    obtain ⟨hml, hme⟩ := List.getElem?_eq_some_iff.1 ht
    rw [List.drop_eq_getElem_cons hml, hme, List.map_cons, List.sum_cons] at hpot
    have hdr : (q ++ [t]).drop (i + 1) = q.drop (i + 1) ++ [t] := List.drop_append_of_le_length (by omega)
    rw [hdr]
    unfold openSum
    rw [List.map_append, List.sum_append]
    have e1 : ((q.drop (i + 1)).map (fun p => rd (ways.set (cdS a2 t) (wrap64 (rd ways (cdS a2 t) + rd ways (cdS a2 (rd_T64 q i))))) (cdS a2 p) * rest a1 a2 x D (far.set (cdS a2 t) (rd far (cdS a2 (rd_T64 q i)) + 1)) p)) = ((q.drop (i + 1)).map (fun p => rd ways (cdS a2 p) * rest a1 a2 x D far p)) := by
      apply List.map_congr_left
      intro p hp
      have hpq := List.mem_of_mem_drop hp
      unfold rest
      rw [hwo p hpq, hfo p hpq]
    rw [e1]
    simp only [List.map_cons, List.map_nil, List.sum_cons, List.sum_nil, Int.add_zero]
    have hrest : rest a1 a2 x D (far.set (cdS a2 t) (rd far (cdS a2 (rd_T64 q i)) + 1)) t = paths a1 a2 x (D - rd far (cdS a2 (rd_T64 q i)) - 1).toNat t := by
      unfold rest
      rw [hft, if_pos (by omega), show D - (rd far (cdS a2 (rd_T64 q i)) + 1) = D - rd far (cdS a2 (rd_T64 q i)) - 1 from by omega]
    rw [hrest, hwt, hw0, Int.zero_add]
    unfold openSum at hpot
    refine Cong.trans ?_ hpot
    obtain ⟨k, hk'⟩ := Cong.mul (paths a1 a2 x (D - rd far (cdS a2 (rd_T64 q i)) - 1).toNat t) (wrap_cong (rd ways (cdS a2 (rd_T64 q i))))
    refine ⟨k, ?_⟩
    rw [hk', Int.mul_add]
    omega
  · rw [hat, hfo _ hx] at hf
    have hf' := hf (by simp; omega)
    have hxq' : x ∈ q := by
      rcases hD with ⟨h', _⟩ | ⟨k, h', hw, _⟩
      · omega
      · obtain ⟨⟨p, hp, e⟩, _⟩ := h.toBfs.near h2 hw (fun _ => by omega)
        rcases List.mem_append.1 hxq with h3 | h3
        · exact h3
        · rw [List.mem_singleton.1 h3] at e
          exact absurd e.symm (hold p hp)
    rw [hwo x hxq']
    exact h.fin (fun _ => hf') hxq'
theorem BfsW.next (h : BfsW a0 a1 a2 start x D far ways q i m) (h2 : 0 ≤ a2) (hgx : GoodS a0 a2 x) (hi : i < q.length) (hm : (nextS a1 a2 (rd_T64 q i)).length ≤ m) : BfsW a0 a1 a2 start x D far ways q (i + 1) 0 := by
  have _v := hD0
  have hb := h.toBfs.next hi hm
  refine { toBfs := hb, wlen := h.wlen, zero := h.zero, rng := h.rng, dx := h.dx, pot := fun hi' hf => ?_, fin := fun hf hxq => ?_ }
  · have hs := h.sorted i (i + 1) (by omega) hi'
    have hpot := h.pot hi (by omega)
    rw [List.drop_of_length_le hm, List.map_nil, List.sum_nil, Int.mul_zero, Int.add_zero] at hpot
    have hx := rd_T64_mem q (i + 1) hi'
    have h0 : 0 ≤ rd far (cdS a2 (rd_T64 q ((i + 1 : Nat) : Int))) := (h.told _ (cdS_code h2 (h.good _ hx)).2).2 (List.mem_map.2 ⟨_, hx, rfl⟩)
    unfold openSum at hpot ⊢
    rw [drop_at q (i + 1) hi', List.map_cons, List.sum_cons] at hpot
    have hrest : rest a1 a2 x D far (rd_T64 q ((i + 1 : Nat) : Int)) = ((nextS a1 a2 (rd_T64 q ((i + 1 : Nat) : Int))).map (fun t => paths a1 a2 x (D - rd far (cdS a2 (rd_T64 q ((i + 1 : Nat) : Int))) - 1).toNat t)).sum := by
      unfold rest
      rw [if_pos (by omega), show (D - rd far (cdS a2 (rd_T64 q ((i + 1 : Nat) : Int)))).toNat = (D - rd far (cdS a2 (rd_T64 q ((i + 1 : Nat) : Int))) - 1).toNat + 1 from by omega]
      rfl
    rw [List.drop_zero, ← hrest, Int.add_comm]
    exact hpot
  · rcases Int.lt_or_le (rd far (cdS a2 (rd_T64 q i))) D with hlt | hge
    · have hpot := h.pot hi hlt
      rw [List.drop_of_length_le hm, List.map_nil, List.sum_nil, Int.mul_zero, Int.add_zero] at hpot
      have hdx := h.dx hxq
      have hnd : ((q.drop (i + 1)).map (cdS a2)).Nodup := (List.Sublist.map _ (List.drop_sublist (i + 1) q)).nodup h.nodup
      obtain ⟨j, hj, hje⟩ := mem_at hxq
      have hij : i < j := by
        rcases Nat.lt_or_ge i j with hl | hg
        · exact hl
        · exfalso
          have := h.sorted j i hg hi
          rw [hje] at this
          omega
      have hmem : x ∈ q.drop (i + 1) := by
        rw [← hje, rd_T64_lt q j hj]
        exact List.mem_of_getElem? (i := j - (i + 1)) (by rw [List.getElem?_drop, show i + 1 + (j - (i + 1)) = j from by omega, List.getElem?_eq_getElem hj])
      have hfar : ∀ p ∈ q.drop (i + 1), D ≤ rd far (cdS a2 p) := by
        intro p hp
        obtain ⟨k, hk, e⟩ := List.getElem_of_mem hp
        rw [List.length_drop] at hk
        rw [List.getElem_drop] at e
        have h3 := h.sorted (i + 1) (i + 1 + k) (by omega) (by omega)
        have h4 := hf (by omega)
        rw [rd_T64_lt q (i + 1 + k) (by omega), e] at h3
        omega
      have hsum : ∀ l : List S64, (∀ p ∈ l, D ≤ rd far (cdS a2 p)) → (l.map (cdS a2)).Nodup → openSum a1 a2 x D far ways l = if x ∈ l then rd ways (cdS a2 x) else 0 := by
        intro l
        induction l with
        | nil => intro _ _; simp [openSum]
        | cons p l ih =>
          intro hfl hnl
          rw [List.map_cons, List.nodup_cons] at hnl
          have ih' := ih (fun u hu => hfl u (List.mem_cons_of_mem _ hu)) hnl.2
          unfold openSum at ih' ⊢
          rw [List.map_cons, List.sum_cons, ih']
          have hp := hfl p List.mem_cons_self
          by_cases hpx : p = x
          · subst hpx
            have hnm : ¬ p ∈ l := fun h' => hnl.1 (List.mem_map.2 ⟨p, h', rfl⟩)
            rw [if_neg hnm, if_pos List.mem_cons_self]
            unfold rest
            rw [hdx, if_pos (Int.le_refl _), Int.sub_self]
            unfold paths
            simp
          · have hr : rest a1 a2 x D far p = 0 := by
              unfold rest
              by_cases hle : rd far (cdS a2 p) ≤ D
              · rw [if_pos hle, show (D - rd far (cdS a2 p)).toNat = 0 from by omega]
                unfold paths
                rw [if_neg hpx]
              · rw [if_neg hle]
            rw [hr, Int.mul_zero, Int.zero_add]
            by_cases hm' : x ∈ l
            · rw [if_pos hm', if_pos (List.mem_cons_of_mem _ hm')]
            · rw [if_neg hm', if_neg (fun h' => (List.mem_cons.1 h').elim (fun e => hpx e.symm) hm')]
      rw [hsum _ hfar hnd, if_pos hmem] at hpot
      exact hpot
    · exact h.fin (fun _ => hge) hxq
theorem BfsW.begins (h2 : 0 ≤ a2) (hs : GoodS a0 a2 start) (hgx : GoodS a0 a2 x) : BfsW a0 a1 a2 start x D ((List.replicate (sizeS a0 a2) (-1)).set (cdS a2 start) 0) ((List.replicate (sizeS a0 a2) 0).set (cdS a2 start) 1) [start] 0 0 := by
  have hb := Bfs.begins (a0 := a0) (a1 := a1) h2 hs
  have hlt := (cdS_code h2 hs).2
  have hat : rd_T64 [start] ((0 : Nat) : Int) = start := rfl
  have hw1 : rd ((List.replicate (sizeS a0 a2) 0).set (cdS a2 start) 1) (cdS a2 start) = 1 := by rw [rd_set _ _ _ _ (by simp; exact hlt), if_pos rfl]
  have hD' : start = x → D = 0 := fun e => by
    have := least_min hD hD0 (n := 0) (by rw [e]; exact .nil _)
    omega
  refine { toBfs := hb, wlen := by simp, zero := fun c hc hn => ?_, rng := fun c hc => ?_, dx := fun hxq => ?_, pot := fun hi hf => ?_, fin := fun hf hxq => ?_ }
  · rw [rd_set _ _ _ _ (by simp; exact hlt)]
    by_cases e : cdS a2 start = c
    · rw [← e, hb.first.2] at hn; omega
    · rw [if_neg e, rd_nat _ _ (by simp; exact hc)]; simp
  · rw [rd_set _ _ _ _ (by simp; exact hlt)]
    split
    · unfold wrap64; omega
    · rw [rd_nat _ _ (by simp; exact hc)]; simp; unfold wrap64; omega
  · have hxs : x = start := List.mem_singleton.1 hxq
    rw [hxs, hb.first.2]
    exact (hD' hxs.symm).symm
  · rw [hat, hb.first.2] at hf ⊢
    rw [hw1]
    unfold openSum
    simp only [List.drop_succ_cons, List.drop_nil, List.map_nil, List.sum_nil, List.drop_zero, Int.one_mul, Int.zero_add, Int.sub_zero]
    rw [show D.toNat = (D - 1).toNat + 1 from by omega]
    exact Cong.refl _
  · have hxs : x = start := List.mem_singleton.1 hxq
    rw [hxs, hw1, hD' hxs.symm]
    unfold paths
    simp
    exact Cong.refl _
end
end Go.Proofs.Ytlkjglanglpdoaa.T
namespace Go.Proofs.Ytlkjglanglpdoaa.T
open Go.RowKit Go.Proofs.YtlkjglanglpdoaaW.PrintWords Go.Proofs.YtlkjglanglpdoaaW.PrintLast Go.Proofs.YtlkjglanglpdoaaW.PrintMore
set_option linter.unusedVariables false
set_option linter.unusedSimpArgs false
theorem far_l3W {a0 a1 a2 : Int} (h0 : 1 ≤ a0 ∧ a0 ≤ 3) (h1 : 1 ≤ a1 ∧ a1 ≤ 3) (h2 : 0 ≤ a2 ∧ a2 ≤ 2) (start x : S64) (i : Nat) (xt : S64) (D : Int) (hD : IsLeast (EB a0 a1 a2) (cdS a2 start) (cdS a2 xt) D) (hD0 : 0 ≤ D) (hgt0 : GoodS a0 a2 xt) :
    ∀ (d k m : Nat) (far ways : List Int) (q : List S64), BfsW a0 a1 a2 start xt D far ways q i m → i < q.length → rd_T64 q i = x → ways.length = sizeS a0 a2 → m + d = (voyL a1 a2 x.f0 x.f1).length → d + 1200 < k →
      ∃ (k' : Nat) (far' ways' : List Int) (q' : List S64), k = k' + (d + 1) ∧
        spec_isFar.l3 k far ways q (i : Int) (cdS a2 x : Int) (voyL a1 a2 x.f0 x.f1) ((voyL a1 a2 x.f0 x.f1).length : Int) (m : Int) a0 a1 a2 x.f0 x.f1 = spec_isFar.l2 k' far' ways' q' (wrap64 ((i : Int) + 1)) a0 a1 a2 ∧
        BfsW a0 a1 a2 start xt D far' ways' q' i (voyL a1 a2 x.f0 x.f1).length ∧ i < q'.length ∧ rd_T64 q' i = x ∧ ways'.length = sizeS a0 a2 := by
  have hsz := sizeS_le h0 h2
  intro d
  induction d with
  | zero =>
    intro k m far ways q hB hi hx hw hm hk
    obtain ⟨k, rfl⟩ : ∃ m, k = m + 1 := ⟨k - 1, by omega⟩
    refine ⟨k, far, ways, q, rfl, ?_, by rw [← hm]; exact hB, hi, hx, hw⟩
    simp only [spec_isFar.l3]
    rw [if_neg (by omega)]
  | succ d ih =>
    intro k m far ways q hB hi hx hw hm hk
    obtain ⟨k, rfl⟩ : ∃ m, k = m + 1 := ⟨k - 1, by omega⟩
    have hlt : m < (voyL a1 a2 x.f0 x.f1).length := by omega
    have hgx : GoodS a0 a2 x := by rw [← hx]; exact hB.good _ (rd_T64_mem q i hi)
    have hvl := voyL_length a1 a2 x.f0 x.f1 (by have := hgx.1.len; omega) h2.2
    obtain ⟨v, hv⟩ : ∃ v, v = rd_T66 (voyL a1 a2 x.f0 x.f1) (m : Int) := ⟨_, rfl⟩
    have hve : (voyL a1 a2 x.f0 x.f1)[m]? = some v := by
      rw [hv]; unfold rd_T66; rw [Int.toNat_natCast, List.getD_eq_getElem?_getD, List.getElem?_eq_getElem hlt]; rfl
    have hvm := List.mem_of_getElem? hve
    have hok := voy_ok h2.1 hgx.1 hvm
    have hnt : (nextS a1 a2 (rd_T64 q i))[m]? = some ⟨gone x.f0 v.f0 v.f1, v.f0⟩ := by
      rw [hx]; unfold nextS; rw [List.getElem?_map, hve]; rfl
    have hgt : GoodS a0 a2 ⟨gone x.f0 v.f0 v.f1, v.f0⟩ := next_good h2.1 hgx (by have := List.mem_of_getElem? hnt; rw [hx] at this; exact this)
    have hct := cdS_code h2.1 hgt
    have hcx := cdS_code h2.1 hgx
    have hql := hB.toBfs.small h2.1
    have hxl := hgx.1.len
    have hdeep := hB.deep i hi
    rw [hx] at hdeep
    have hx0 : 0 ≤ rd far (cdS a2 x) := (hB.told _ hcx.2).2 (List.mem_map.2 ⟨x, by rw [← hx]; exact rd_T64_mem q i hi, rfl⟩)
    simp only [spec_isFar.l3]
    rw [← hv, if_pos (by omega), if_pos (by omega), if_pos (by omega), sail_eq x.f0 x.f1 v.f0 v.f1 (by omega) (by have := hok.2.1.1; omega) (by rw [hxl]; exact hok.2.1.2) k (by have := hok.2.1.1; omega), Option.bind_some]
    have hcode : spec_isCode.f k a0 a1 a2 (gone x.f0 v.f0 v.f1) v.f0 = some (cdS a2 ⟨gone x.f0 v.f0 v.f1, v.f0⟩ : Int) := by
      rw [codeS_eq a0 a1 a2 h2 _ _ (by rw [gone_length]; omega) hok.2.2.2.2.ats hok.2.2.2.2.boat k (by rw [gone_length]; omega)]
      rw [hct.1]
    dsimp only
    obtain ⟨ct, hcte⟩ : ∃ ct, ct = cdS a2 ⟨gone x.f0 v.f0 v.f1, v.f0⟩ := ⟨_, rfl⟩
    obtain ⟨cx, hcxe⟩ : ∃ cx, cx = cdS a2 x := ⟨_, rfl⟩
    rw [hcode, Option.bind_some]
    have hfl := hB.len
    rw [← hcte, ← hcxe]
    rw [← hcte] at hct
    rw [← hcxe] at hcx hdeep hx0
    rw [if_pos (by omega), if_pos (by omega), wrap_up (m : Int) ((voyL a1 a2 x.f0 x.f1).length : Int) (by omega) (by omega) (by omega), show ((m : Int) + 1) = ((m + 1 : Nat) : Int) from by push_cast; rfl]
    have fin : ∀ (far2 ways2 : List Int) (q2 : List S64), BfsW a0 a1 a2 start xt D far2 ways2 q2 i (m + 1) → i < q2.length → rd_T64 q2 i = x → ways2.length = sizeS a0 a2 →
        ∃ (k' : Nat) (far' ways' : List Int) (q' : List S64), k + 1 = k' + (d + 1 + 1) ∧
          spec_isFar.l3 k far2 ways2 q2 (i : Int) (cx : Int) (voyL a1 a2 x.f0 x.f1) ((voyL a1 a2 x.f0 x.f1).length : Int) ((m + 1 : Nat) : Int) a0 a1 a2 x.f0 x.f1 = spec_isFar.l2 k' far' ways' q' (wrap64 ((i : Int) + 1)) a0 a1 a2 ∧
          BfsW a0 a1 a2 start xt D far' ways' q' i (voyL a1 a2 x.f0 x.f1).length ∧ i < q'.length ∧ rd_T64 q' i = x ∧ ways'.length = sizeS a0 a2 := by
      intro far2 ways2 q2 hB2 hi2 hx2 hw2
      rw [hcxe]
      obtain ⟨k', far', ways', q', e1, e2⟩ := ih k (m + 1) far2 ways2 q2 hB2 hi2 hx2 hw2 (by omega) (by omega)
      exact ⟨k', far', ways', q', by omega, e2⟩
    by_cases hneg : rd far (ct : Int) < 0
    · rw [if_pos hneg, if_pos (by omega), if_pos (by omega), Option.bind_some, if_pos (by omega), Option.bind_some]
      have ew : wrap64 (rd far (cx : Int) + 1) = rd far (cx : Int) + 1 := by unfold wrap64; omega
      rw [ew, Int.toNat_natCast]
      have hB2 := hB.push hD hD0 h2.1 hi hnt (by rw [← hcte]; exact hneg)
      rw [hx, ← hcte, ← hcxe] at hB2
      have hi2 : i < (q ++ [(⟨gone x.f0 v.f0 v.f1, v.f0⟩ : S64)]).length := by simp; omega
      have hx2 : rd_T64 (q ++ [(⟨gone x.f0 v.f0 v.f1, v.f0⟩ : S64)]) i = x := by rw [rd_T64_app _ _ _ hi]; exact hx
      have hne : ct ≠ cx := fun e => by rw [← e] at hx0; omega
      rw [if_pos (by rw [rd_set _ _ _ _ (by omega), if_pos rfl, rd_set _ _ _ _ (by omega), if_neg hne, ew]), if_pos (by omega), if_pos (by omega)]
      exact fin _ _ _ hB2 hi2 hx2 (by rw [List.length_set]; exact hw)
    · rw [if_neg hneg, if_pos (by omega), if_pos (by omega)]
      have ew : wrap64 (rd far (cx : Int) + 1) = rd far (cx : Int) + 1 := by unfold wrap64; omega
      rw [ew]
      by_cases heq : rd far (ct : Int) = rd far (cx : Int) + 1
      · rw [if_pos heq, if_pos (by omega), if_pos (by omega), Int.toNat_natCast]
        have hB2 := hB.adds hD hD0 h2.1 hi hnt (by rw [hx, ← hcte, ← hcxe]; exact heq)
        rw [hx, ← hcte, ← hcxe] at hB2
        exact fin _ _ _ hB2 hi hx (by rw [List.length_set]; exact hw)
      · rw [if_neg heq]
        exact fin _ _ _ (hB.seen hD hD0 h2.1 hi hnt (by rw [← hcte]; omega) (by rw [hx, ← hcte, ← hcxe]; exact heq)) hi hx hw
theorem far_l2W {a0 a1 a2 : Int} (h0 : 1 ≤ a0 ∧ a0 ≤ 3) (h1 : 1 ≤ a1 ∧ a1 ≤ 3) (h2 : 0 ≤ a2 ∧ a2 ≤ 2) (start : S64) (xt : S64) (D : Int) (hD : IsLeast (EB a0 a1 a2) (cdS a2 start) (cdS a2 xt) D) (hD0 : 0 ≤ D) (hgt0 : GoodS a0 a2 xt) :
    ∀ (d k i : Nat) (far ways : List Int) (q : List S64), BfsW a0 a1 a2 start xt D far ways q i 0 → ways.length = sizeS a0 a2 → i + d = sizeS a0 a2 → 300 * d + 2000 < k →
      ∃ (far' ways' : List Int) (q' : List S64) (i' : Nat), spec_isFar.l2 k far ways q (i : Int) a0 a1 a2 = some (far', ways', (q'.length : Int)) ∧ BfsW a0 a1 a2 start xt D far' ways' q' i' 0 ∧ q'.length ≤ i' ∧ ways'.length = sizeS a0 a2 := by
  have hsz := sizeS_le h0 h2
  intro d
  induction d with
  | zero =>
    intro k i far ways q hB hw hi hk
    obtain ⟨k, rfl⟩ : ∃ m, k = m + 1 := ⟨k - 1, by omega⟩
    have hql := hB.toBfs.small h2.1
    refine ⟨far, ways, q, i, ?_, hB, by omega, hw⟩
    simp only [spec_isFar.l2]
    rw [if_neg (by omega)]
  | succ d ih =>
    intro k i far ways q hB hw hi hk
    obtain ⟨k, rfl⟩ : ∃ m, k = m + 1 := ⟨k - 1, by omega⟩
    have hql := hB.toBfs.small h2.1
    simp only [spec_isFar.l2]
    by_cases hlt : i < q.length
    · obtain ⟨x, hx⟩ : ∃ x, x = rd_T64 q (i : Int) := ⟨_, rfl⟩
      have hgx : GoodS a0 a2 x := by rw [hx]; exact hB.good _ (rd_T64_mem q i hlt)
      have hxl := hgx.1.len
      have hvl := voyL_length a1 a2 x.f0 x.f1 (by omega) h2.2
      rw [if_pos (by omega), if_pos (by omega), ← hx, codeS_eq a0 a1 a2 h2 x.f0 x.f1 (by omega) hgx.1.ats hgx.1.boat k (by omega), Option.bind_some, (cdS_code h2.1 hgx).1, voyS_eq a0 a1 a2 h0 h1 h2 x.f0 x.f1 hxl k (by omega), Option.bind_some]
      obtain ⟨k', far', ways', q', e1, e2, hB', hi', hx', hw'⟩ := far_l3W h0 h1 h2 start x i xt D hD hD0 hgt0 (voyL a1 a2 x.f0 x.f1).length k 0 far ways q hB hlt hx.symm hw (by omega) (by omega)
      rw [show ((0 : Nat) : Int) = 0 from rfl] at e2
      rw [e2, show wrap64 ((i : Int) + 1) = ((i + 1 : Nat) : Int) from by unfold wrap64; omega]
      have hB2 := hB'.next hD hD0 h2.1 hgt0 hi' (by rw [hx']; unfold nextS; rw [List.length_map]; exact Nat.le_refl _)
      exact ih k' (i + 1) far' ways' q' hB2 hw' (by omega) (by omega)
    · refine ⟨far, ways, q, i, ?_, hB, by omega, hw⟩
      rw [if_neg (by omega)]
theorem far_l1W {a0 a1 a2 : Int} (h0 : 1 ≤ a0 ∧ a0 ≤ 3) (h1 : 1 ≤ a1 ∧ a1 ≤ 3) (h2 : 0 ≤ a2 ∧ a2 ≤ 2) (start : S64) (hs : GoodS a0 a2 start) (xt : S64) (D : Int) (hD : IsLeast (EB a0 a1 a2) (cdS a2 start) (cdS a2 xt) D) (hD0 : 0 ≤ D) (hgt0 : GoodS a0 a2 xt) :
    ∀ (d k i : Nat), i + d = sizeS a0 a2 → d + 300 * sizeS a0 a2 + 3000 < k →
      ∃ (far' ways' : List Int) (q' : List S64) (i' : Nat), spec_isFar.l1 k (List.replicate i (-1) ++ List.replicate d 0) (List.replicate (sizeS a0 a2) 0) (sizeS a0 a2 : Int) (i : Int) a0 a1 a2 start.f0 start.f1 = some (far', ways', (q'.length : Int)) ∧ BfsW a0 a1 a2 start xt D far' ways' q' i' 0 ∧ q'.length ≤ i' ∧ ways'.length = sizeS a0 a2 := by
  have hsz := sizeS_le h0 h2
  have hcs := cdS_code h2.1 hs
  intro d
  induction d with
  | zero =>
    intro k i hi hk
    obtain ⟨k, rfl⟩ : ∃ m, k = m + 1 := ⟨k - 1, by omega⟩
    have hii : i = sizeS a0 a2 := by omega
    subst hii
    simp only [spec_isFar.l1]
    rw [if_neg (by omega), codeS_eq a0 a1 a2 h2 start.f0 start.f1 (by have := hs.1.len; omega) hs.1.ats hs.1.boat k (by have := hs.1.len; omega), Option.bind_some, hcs.1, if_pos (by omega), if_pos (by simp; omega), if_pos (by simp; omega), Int.toNat_natCast]
    have hB := BfsW.begins (a0 := a0) (a1 := a1) hD hD0 h2.1 hs hgt0
    have := far_l2W h0 h1 h2 start xt D hD hD0 hgt0 (sizeS a0 a2) k 0 _ ((List.replicate (sizeS a0 a2) 0).set (cdS a2 start) 1) _ hB (by simp) (by omega) (by omega)
    rw [show ((0 : Nat) : Int) = 0 from rfl] at this
    simpa using this
  | succ d ih =>
    intro k i hi hk
    obtain ⟨k, rfl⟩ : ∃ m, k = m + 1 := ⟨k - 1, by omega⟩
    simp only [spec_isFar.l1]
    rw [if_pos (by omega), if_pos (by omega), if_pos (by simp; omega), Int.toNat_natCast, wrap_up (i : Int) (sizeS a0 a2 : Int) (by omega) (by omega) (by omega), show ((i : Int) + 1) = ((i + 1 : Nat) : Int) from by push_cast; rfl]
    have hset : (List.replicate i (-1) ++ List.replicate (d + 1) (0 : Int)).set i (-1) = List.replicate (i + 1) (-1) ++ List.replicate d 0 := by
      rw [List.set_append_right (s := List.replicate i (-1 : Int)) (h := by simp), List.replicate_succ (n := d), List.replicate_succ' (n := i)]
      simp
    rw [hset]
    exact ih k (i + 1) (by omega) (by omega)
theorem far_eqW {a0 a1 a2 : Int} (hI : (1 ≤ a0 ∧ a0 ≤ 3) ∧ (1 ≤ a1 ∧ a1 ≤ 3) ∧ (0 ≤ a2 ∧ a2 ≤ 2)) (start : S64) (hs : GoodS a0 a2 start) (xt : S64) (D : Int) (hD : IsLeast (EB a0 a1 a2) (cdS a2 start) (cdS a2 xt) D) (hD0 : 0 ≤ D) (hgt0 : GoodS a0 a2 xt) (k : Nat) (hk : 6000000 < k) :
    ∃ (far ways : List Int) (q : List S64) (i : Nat), spec_isFar.f k a0 a1 a2 start.f0 start.f1 = some (far, ways, (q.length : Int)) ∧ BfsW a0 a1 a2 start xt D far ways q i 0 ∧ q.length ≤ i ∧ ways.length = sizeS a0 a2 := by
  have hsz := sizeS_le hI.1 hI.2.2
  have hl := hs.1.len
  unfold spec_isFar.f
  obtain ⟨k', e1, e2⟩ := far_l0 (a1 := a1) hI.1 hI.2.2 start.f0 start.f1 start.f0.length hl start.f0.length k 0 (by omega) (by omega)
  rw [show ((0 : Nat) : Int) = 0 from rfl, Nat.zero_add, Int.pow_succ, Int.pow_zero, Int.one_mul] at e2
  rw [show wrap64 (a2 + 2) = a2 + 2 from by unfold wrap64; omega, e2]
  have := far_l1W hI.1 hI.2.1 hI.2.2 start hs xt D hD hD0 hgt0 (sizeS a0 a2) k' 0 (by omega) (by omega)
  rw [show ((0 : Nat) : Int) = 0 from rfl] at this
  simpa using this
end Go.Proofs.Ytlkjglanglpdoaa.T
namespace Go.Proofs.Ytlkjglanglpdoaa.T
open Go.RowKit Go.Proofs.YtlkjglanglpdoaaW.PrintWords Go.Proofs.YtlkjglanglpdoaaW.PrintLast Go.Proofs.YtlkjglanglpdoaaW.PrintMore
set_option linter.unusedVariables false
set_option linter.unusedSimpArgs false
theorem row_form {w : World} {base : Nat} {ok : Nat → Prop} {v : Value} {xs : List Int} (h : Kd.R (Kd.int .i64) 3 w base ok v xs) (hn : 0 < xs.length) : ∃ bd cd, v = .slice (some ⟨bd, 0, none⟩) xs.length cd ∧ base ≤ bd := by
 obtain ⟨inner, ho⟩ := Kd.R_own h
 obtain ⟨g, cap, rfl, hg, _⟩ := ho.form hn
 exact ⟨g, cap, rfl, hg⟩
theorem row_cell0 {w : World} {base n c bd : Nat} {ok : Nat → Prop} {xs : List Int} (h : Kd.R (Kd.int .i64) 3 w base ok (.slice (some ⟨bd, 0, none⟩) n c) xs) (hn : 0 < xs.length) : w.cell? ⟨bd, 0, none⟩ = some (.int .i64 (rd xs 0)) := by
 obtain ⟨ad, hade, hc⟩ := Kd.at_int (Kd.R_reads' h).2.2 0 (by omega) (by omega)
 have e3 : ad = ⟨bd, 0, none⟩ := by injection hade with e; exact e.symm
 subst e3
 exact hc
set_option maxHeartbeats 3200000 in
set_option maxRecDepth 100000 in
theorem costsI {a0 a1 a2 : Int} (hI : IslOk a0 a1 a2) (w : World) :
  Calls Try.prog 146 #[.agg #[.int .i64 a0, .int .i64 a1, .int .i64 a2]] w fun e w' =>
   ∃ (pw bd cd : Nat) (ds : List Int), e = .returned (.tuple #[.agg #[.int .i64 (many4 a0 : Int), .func (.func 252) #[] #[.pointer (some ⟨pw, 0, none⟩)]], .slice (some ⟨bd, 0, none⟩) ds.length cd, .bool (decide (0 ≤ rd ds 0))]) ∧
    IsS39 w w' pw a0 a1 a2 ∧ Kd.R (Kd.int .i64) 3 w' w.heap.size (fun _ => True) (.slice (some ⟨bd, 0, none⟩) ds.length cd) ds ∧
    ds.length = many4 a0 ∧ (∀ s : Nat, s < many4 a0 → rd ds s = least (eV (E4 a0 a1 a2)) (c4S (allS a0 (a2 + 1))) s) ∧ Below w.heap.size w w' := by
 have h2 := hI.2.2
 have h0 := hI.1
 have hgl := allS_good hI (p := a2 + 1) ⟨by omega, by omega⟩
 have hcl := c4_code h2.2 hgl
 have HFA : Aside0 (impl_Isles_far.f a0 a1 a2 = some (a2 + 1)) := ⟨by unfold impl_Isles_far.f wrap64; congr 1; omega⟩
 have HCO : Aside0 (impl_Places_code.f 10 (List.replicate (2 * a0).toNat (a2 + 1)) (a2 + 1) = some (c4S (allS a0 (a2 + 1)) : Int)) := ⟨by
  rw [code_eq _ _ (by simp; omega) (fun x hx => by rw [List.eq_of_mem_replicate hx]; omega) (by omega) 10 (by simp; omega), hcl.1]; rfl⟩
 have HLG : Aside0 (c4S (allS a0 (a2 + 1)) < many4 a0 ∧ G4 a0 a2 (c4S (allS a0 (a2 + 1)))) := ⟨hcl.2, ⟨_, _, hgl.1, hgl.2, hcl.1⟩⟩
 have HI := Aside0.mk hI
 have HI0 := Aside0.mk h0
 clear h2 h0 hgl hcl hI
 go_enter Try.func146, Try.ntmps146
 go_wp2_with (go_at_call 143; refine (graphI2 HI.out _).mono ?_; rintro e w8 ⟨pw, rfl, ho, hd⟩; have HIS := Aside0.mk ho; have HB8 := Aside0.mk hd; clear ho hd)
 have hb8 := HB8.out
 have hz8 := hb8.size
 simp only [World.size_alloc] at hz8
 have hk1 := blk_below (blk_alloc (blk_new w (.cells #[.int .i64 a0, .int .i64 a1, .int .i64 a2] 39)) (.cells #[.int .i64 0, .nilFunc] 151)) hb8
 have hk2 := blk_below (blk_new (w.alloc (.cells #[.int .i64 a0, .int .i64 a1, .int .i64 a2] 39)) (.cells #[.int .i64 0, .nilFunc] 151)) hb8
 have hbw := (below_alloc (below_alloc (Below.refl w.heap.size w) (.cells #[.int .i64 a0, .int .i64 a1, .int .i64 a2] 39)) (.cells #[.int .i64 0, .nilFunc] 151)).trans (hb8.mono (by simp; omega))
 have hpw : w.heap.size + 2 ≤ pw ∧ pw < w8.heap.size := ⟨by have := HIS.out.2; simp at this; omega, blk_lt HIS.out.1⟩
 simp only [World.size_alloc] at hk2
 obtain ⟨w9, hw9⟩ : ∃ w9, w9 = w8.alloc (.cells #[.int .i64 (many4 a0 : Int), .func (.func 252) #[] #[.pointer (some ⟨pw, 0, none⟩)]] 151) := ⟨_, rfl⟩
 rw [← hw9]
 have hk1' : w9.heap[w.heap.size]? = some (.cells #[.int .i64 a0, .int .i64 a1, .int .i64 a2] 39 (0, 0)) := by
  rw [hw9]; exact blk_alloc hk1 _
 have hk2' : w9.heap[w.heap.size + 1]? = some (.cells #[.int .i64 0, .nilFunc] 151 (0, 0)) := by
  rw [hw9]; exact blk_alloc hk2 _
 have hkp : w9.heap[pw]? = some (.cells #[.int .i64 a0, .int .i64 a1, .int .i64 a2] 39 (0, 0)) := by
  rw [hw9]; exact blk_alloc HIS.out.1 _
 have hkg : w9.heap[w8.heap.size]? = some (.cells #[.int .i64 (many4 a0 : Int), .func (.func 252) #[] #[.pointer (some ⟨pw, 0, none⟩)]] 151 (0, 0)) := by
  rw [hw9]; exact blk_new w8 _
 have hb9 : Below w.heap.size w w9 := by rw [hw9]; exact below_alloc hbw _
 have hs9 : w9.heap.size = w8.heap.size + 1 := by rw [hw9]; simp
 have HOV := Aside0.mk (outs_isles HI.out (wb := w) ⟨hkp, by omega⟩ hb9)
 have HG0 : Aside0 (w9.cell? ⟨w8.heap.size, 0, none⟩ = some (.int .i64 (many4 a0 : Int))) := ⟨(blk_cell hkg 0).trans rfl⟩
 have HG1 : Aside0 (w9.cell? ⟨w8.heap.size, 1, none⟩ = some (.func (.func 252) #[] #[.pointer (some ⟨pw, 0, none⟩)])) := ⟨(blk_cell hkg 1).trans rfl⟩
 have HW0 : Aside0 (w9.cell? ⟨w.heap.size, 0, none⟩ = some (.int .i64 a0)) := ⟨(blk_cell hk1' 0).trans rfl⟩
 have HW1 : Aside0 (w9.cell? ⟨w.heap.size, 1, none⟩ = some (.int .i64 a1)) := ⟨(blk_cell hk1' 1).trans rfl⟩
 have HW2 : Aside0 (w9.cell? ⟨w.heap.size, 2, none⟩ = some (.int .i64 a2)) := ⟨(blk_cell hk1' 2).trans rfl⟩
 have HKG := Aside0.mk hkg
 have HK2 := Aside0.mk hk2'
 have HKP := Aside0.mk hkp
 have HB9 := Aside0.mk hb9
 have HS9 := Aside0.mk hs9
 have HZ8 : Aside0 (w.heap.size + 2 ≤ w8.heap.size) := ⟨by omega⟩
 have HZ9 : Aside0 (w.heap.size ≤ w9.heap.size) := ⟨by omega⟩
 have HPW := Aside0.mk hpw
 clear hw9 hk1 hk2 hk1' hk2' hkp hkg hb9 hs9 hb8 hz8 hbw hpw HIS HB8
 refine start_ (n := 9) (S := fun w' => Below w9.heap.size w9 w') (ds := []) #[false, false, false, false, false, false, false, false, false] (by kernel_rfl) rfl rfl (Below.refl _ _).drew (fun hHeld => ?_)
 refine take_ (i := 0) (N := some 9) (v := ?_) (a' := ?_) #[true, false, false, false, false, false, false, false, false] rfl rfl (by kernel_rfl) (fun _ _ _ h => h) (Or.inl ⟨by rfl, ?_⟩) hHeld ?_ ?_
 rotate_left
 ·intro w' s0
  have s_0 := (s0.cell (World.block_lt_of_cell? w9 _ HG0.out)).trans HG0.out
  have s_1 := (s0.cell (World.block_lt_of_cell? w9 _ HG1.out)).trans HG1.out
  clear s0
  go_simp
  with_reducible rfl
 rotate_left
 ·simp only [Act.put, List.setIfInBounds_toArray, List.set_cons_zero, List.set_cons_succ, i64_w, i32_w]
  rfl
 refine take_ (i := 1) (N := some 10) (v := ?_) (a' := ?_) #[true, true, false, false, false, false, false, false, false] rfl rfl (by kernel_rfl) (fun _ _ _ h => h) (Or.inl ⟨by rfl, ?_⟩) hHeld ?_ ?_
 rotate_left
 ·intro w' s0
  have s_0 := (s0.cell (World.block_lt_of_cell? w9 _ HW0.out)).trans HW0.out
  have s_1 := (s0.cell (World.block_lt_of_cell? w9 _ HW1.out)).trans HW1.out
  have s_2 := (s0.cell (World.block_lt_of_cell? w9 _ HW2.out)).trans HW2.out
  clear s0
  go_simp
  with_reducible rfl
 rotate_left
 ·simp only [Act.put, List.setIfInBounds_toArray, List.set_cons_zero, List.set_cons_succ, i64_w, i32_w]
  rfl
 refine take_ (i := 2) (N := some 11) (v := ?_) (a' := ?_) #[true, true, true, false, false, false, false, false, false] rfl rfl (by kernel_rfl) (fun _ _ _ h => h) (Or.inl ⟨by rfl, ?_⟩) hHeld ?_ ?_
 rotate_left
 ·intro w' s0
  have s_0 := (s0.cell (World.block_lt_of_cell? w9 _ HW0.out)).trans HW0.out
  have s_1 := (s0.cell (World.block_lt_of_cell? w9 _ HW1.out)).trans HW1.out
  have s_2 := (s0.cell (World.block_lt_of_cell? w9 _ HW2.out)).trans HW2.out
  clear s0
  go_simp
  with_reducible rfl
 rotate_left
 ·simp only [Act.put, List.setIfInBounds_toArray, List.set_cons_zero, List.set_cons_succ, i64_w, i32_w]
  rfl
 refine one_ (i := 3) (N := some 12) #[true, true, true, true, false, false, false, false, false] rfl rfl (by kernel_rfl) (by decide) (fun K hK => ?_)
 refine goes_ Try.func189 (by kernel_rfl) rfl #[.agg #[.int .i64 a0, .int .i64 a1, .int .i64 a2]] (by rfl) rfl rfl (by (try simp only [List.map_toArray, List.map_cons, List.map_nil]); first | done | rfl) ?_
 with_reducible refine (impl_Isles_far.calls a0 a1 a2 (a2 + 1) _ HFA.out).mono ?_
 rintro e w12 ⟨rfl, hb12⟩
 have HB12 := Aside0.mk (below_step hHeld hb12)
 clear hb12
 refine ⟨_, rfl, ?_⟩
 refine hK.out _ _ (HB12.out) (fun hHeld => ?_)
 clear hK K
 refine norm_ (a' := ?_) ?_ ?_
 rotate_left
 ·show Act.put _ (some 12) _ = _
  simp only [Act.put, List.setIfInBounds_toArray, List.set_cons_zero, List.set_cons_succ, i64_w, i32_w]
  rfl
 refine one_ (i := 4) (N := some 13) #[true, true, true, true, true, false, false, false, false] rfl rfl (by kernel_rfl) (by decide) (fun K hK => ?_)
 refine goes_ Try.func188 (by kernel_rfl) rfl #[.agg #[.int .i64 a0, .int .i64 a1, .int .i64 a2], .int .i64 (a2 + 1)] (by rfl) rfl rfl (by (try simp only [List.map_toArray, List.map_cons, List.map_nil]); first | done | rfl) ?_
 with_reducible refine (impl_Isles_allIn.calls a0 a1 a2 (a2 + 1) (List.replicate (2 * a0).toNat (a2 + 1)) (a2 + 1) _ (allIn_eq a0 a1 a2 (a2 + 1) HI0.out)).mono ?_
 rintro e w13 ⟨v13, rfl, ho13, hb13⟩
 obtain ⟨A13, c13, e13⟩ := Kd.R_slice ho13
 subst e13
 have HO13 := Aside0.mk (Kd.R_reads' ho13)
 have HB13 := Aside0.mk (below_step hHeld hb13)
 clear hb13 ho13
 refine ⟨_, rfl, ?_⟩
 refine hK.out _ _ (HB13.out) (fun hHeld => ?_)
 clear hK K
 refine norm_ (a' := ?_) ?_ ?_
 rotate_left
 ·show Act.put _ (some 13) _ = _
  simp only [Act.put, List.setIfInBounds_toArray, List.set_cons_zero, List.set_cons_succ, i64_w, i32_w]
  rfl
 refine one_ (i := 5) (N := some 14) #[true, true, true, true, true, true, false, false, false] rfl rfl (by kernel_rfl) (by decide) (fun K hK => ?_)
 refine goes_ Try.func254 (by kernel_rfl) rfl #[.agg #[.slice A13 (List.replicate (2 * a0).toNat (a2 + 1)).length c13, .int .i64 (a2 + 1)]] (by rfl) rfl rfl (by (try simp only [List.map_toArray, List.map_cons, List.map_nil]); first | done | rfl) ?_
 with_reducible refine (impl_Places_code.calls 10 _ _ (List.replicate (2 * a0).toNat (a2 + 1)) (a2 + 1) (c4S (allS a0 (a2 + 1)) : Int) _ (Kd.C_below HO13.out.2.2 (Below.refl _ _)) HO13.out.2.1 HCO.out).mono ?_
 rintro e w14 ⟨rfl, hb14⟩
 have HB14 := Aside0.mk (below_step hHeld hb14)
 clear hb14
 refine ⟨_, rfl, ?_⟩
 refine hK.out _ _ (HB14.out) (fun hHeld => ?_)
 clear hK K
 refine norm_ (a' := ?_) ?_ ?_
 rotate_left
 ·show Act.put _ (some 14) _ = _
  simp only [Act.put, List.setIfInBounds_toArray, List.set_cons_zero, List.set_cons_succ, i64_w, i32_w]
  rfl
 refine one_ (i := 6) (N := some 15) #[true, true, true, true, true, true, true, false, false] rfl rfl (by kernel_rfl) (by decide) (fun K hK => ?_)
 refine Kd.R_lit_step (Kd.int .i64) _ 3 ?hg (N := 15) ?hd (xs := ([(c4S (allS a0 (a2 + 1)) : Int)] : List Int)) (inner := [.int .i64 (c4S (allS a0 (a2 + 1)) : Int)]) (ok := fun _ => True) (okp := fun _ => True) ?hr ?hp (fun _ hk => hk) trivial (Below.refl _ _) (Nat.le_refl _) (by simp) ?_; (case hd => rfl); (case hg => rfl); (case hr => first | (go_simp; done) | (go_simp; rfl)); (case hp => exact (Reps.one (show Kd.M (Kd.int .i64) _ _ _ (c4S (allS a0 (a2 + 1)) : Int) [.int .i64 (c4S (allS a0 (a2 + 1)) : Int)] from rfl) (Reps.none _ _)))
 intro v15 w15 ho15 hb15 hg_ hnew_
 clear hg_ hnew_
 obtain ⟨A15, c15, e15⟩ := Kd.R_slice ho15
 subst e15
 have HB15 := Aside0.mk (below_step hHeld hb15)
 have HO15 : Aside0 (Kd.C (Kd.int .i64) w15 A15 1 [(c4S (allS a0 (a2 + 1)) : Int)] ∧ 1 ≤ c15) := ⟨(Kd.R_reads' ho15).2.2, (Kd.R_reads' ho15).2.1⟩
 clear hb15 ho15
 refine hK.out _ _ (HB15.out) (fun hHeld => ?_)
 clear hK K
 refine norm_ (a' := ?_) ?_ ?_
 rotate_left
 ·show Act.put _ (some 15) _ = _
  simp only [Act.put, List.setIfInBounds_toArray, List.set_cons_zero, List.set_cons_succ, i64_w, i32_w]
  rfl
 refine one_ (i := 7) (N := some 16) #[true, true, true, true, true, true, true, true, false] rfl rfl (by kernel_rfl) (by decide) (fun K hK => ?_)
 refine goes_ Try.func255 (by kernel_rfl) rfl #[.agg #[.int .i64 (many4 a0 : Int), .func (.func 252) #[] #[.pointer (some ⟨pw, 0, none⟩)]], .slice A15 1 c15] (by rfl) rfl rfl (by (try simp only [List.map_toArray, List.map_cons, List.map_nil]); first | done | rfl) ?_
 with_reducible refine ((show Calls Try.prog 255 #[.agg #[.int .i64 (many4 a0 : Int), .func (.func 252) #[] #[.pointer (some ⟨pw, 0, none⟩)]], .slice A15 1 c15] w15 _ from fromV 252 _ _ _ _ _ _ (c4S (allS a0 (a2 + 1))) _ (HOV.out.later HB15.out) HLG.out.1 HLG.out.2 (many4_lt HI.out).2 (by omega) (by omega) A15 c15 HO15.out.1 HO15.out.2)).mono ?_
 rintro e w16 ⟨v16, ds, rfl, ho16, hlen, hle, hb16⟩
 have h0l : 0 < ds.length := by rw [hlen]; exact (many4_lt HI.out).1
 obtain ⟨bd, c16, e16, hbd⟩ := row_form ho16 h0l
 subst e16
 have HBD : Aside0 (w9.heap.size ≤ bd) := ⟨Nat.le_trans HB15.out.size hbd⟩
 have HO16 := Aside0.mk (Kd.R_lower ho16 (Nat.le_trans HZ9.out HB15.out.size))
 have HLEN := Aside0.mk hlen
 have HLE := Aside0.mk hle
 have HB16 := Aside0.mk (below_step hHeld hb16)
 have H0L := Aside0.mk h0l
 clear hb16 ho16 hlen hle hbd h0l
 refine ⟨_, rfl, ?_⟩
 refine hK.out _ _ (HB16.out) (fun hHeld => ?_)
 clear hK K
 refine norm_ (a' := ?_) ?_ ?_
 rotate_left
 ·show Act.put _ (some 16) _ = _
  simp only [Act.put, List.setIfInBounds_toArray, List.set_cons_zero, List.set_cons_succ, i64_w, i32_w]
  rfl
 refine pure_ (i := 8) (N := some 6) (v := ?_) (a' := ?_) #[true, true, true, true, true, true, true, true, true] rfl rfl (by kernel_rfl) (fun _ _ _ h => h) (Or.inl ⟨by rfl, ?_⟩) ?_ ?_
 rotate_left
 ·intro w'
  go_simp
  with_reducible rfl
 rotate_left
 ·simp only [Act.put, List.setIfInBounds_toArray, List.set_cons_zero, List.set_cons_succ, i64_w, i32_w]
  rfl
 refine done_ (by kernel_rfl) ?_
 have hr := HO16.out
 have hcd := row_cell0 hr H0L.out
 have HCD := Aside0.mk hcd
 have hg0 := (blk_cell (blk_below HKG.out HB16.out) 0).trans (show _ = some (Value.int .i64 (many4 a0 : Int)) from rfl)
 have hg1 := (blk_cell (blk_below HKG.out HB16.out) 1).trans (show _ = some (Value.func (.func 252) #[] #[.pointer (some ⟨pw, 0, none⟩)]) from rfl)
 clear HG0 HG1
 have HG0 := Aside0.mk hg0
 have HG1 := Aside0.mk hg1
 have HK2' := Aside0.mk (blk_below HK2.out HB16.out)
 have HKP' := Aside0.mk (blk_below HKP.out HB16.out)
 have hfz0 := blk_frozen HK2'.out 0
 have hz0 : w16.cell? ⟨w.heap.size + 1, 0, none⟩ = some (.int .i64 0) := (blk_cell HK2'.out 0).trans rfl
 have hz1 : w16.cell? ⟨w.heap.size + 1, 1, none⟩ = some .nilFunc := (blk_cell HK2'.out 1).trans rfl
 have hfz1 := blk_frozen HK2'.out 1
 have q0 : 0 < ds.length := H0L.out
 clear hr hcd hg0 hg1 HW0 HW1 HW2 hHeld
 go_wp2
 refine start_ (n := 9) (S := fun w' => (w'.cell? ⟨w8.heap.size, 0, none⟩ = some (.int .i64 (many4 a0 : Int)) ∧ w'.cell? ⟨w8.heap.size, 1, none⟩ = some (.func (.func 252) #[] #[.pointer (some ⟨pw, 0, none⟩)])) ∧ w'.cell? ⟨bd, 0, none⟩ = some (.int .i64 (rd ds 0))) (ds := []) #[false, false, false, false, false, false, false, false, false] (by kernel_rfl) rfl rfl ⟨⟨HG0.out, HG1.out⟩, HCD.out⟩ (fun hHeld => ?_)
 refine take_ (i := 0) (N := some 17) (v := ?_) (a' := ?_) #[true, false, false, false, false, false, false, false, false] rfl rfl (by kernel_rfl) (fun _ _ _ h => h) (Or.inl ⟨by rfl, ?_⟩) hHeld ?_ ?_
 rotate_left
 ·intro w' s0
  have s_0 := s0.1.1
  have s_1 := s0.1.2
  clear s0
  go_simp
  with_reducible rfl
 rotate_left
 ·simp only [Act.put, List.setIfInBounds_toArray, List.set_cons_zero, List.set_cons_succ, i64_w, i32_w]
  rfl
 refine pure_ (i := 1) (N := some 18) (v := ?_) (a' := ?_) #[true, true, false, false, false, false, false, false, false] rfl rfl (by kernel_rfl) (fun _ _ _ h => h) (Or.inl ⟨by rfl, ?_⟩) ?_ ?_
 rotate_left
 ·intro w'
  go_simp
  with_reducible rfl
 rotate_left
 ·simp only [Act.put, List.setIfInBounds_toArray, List.set_cons_zero, List.set_cons_succ, i64_w, i32_w]
  rfl
 refine pure_ (i := 2) (N := some 19) (v := ?_) (a' := ?_) #[true, true, true, false, false, false, false, false, false] rfl rfl (by kernel_rfl) (fun _ _ _ h => h) (Or.inl ⟨by rfl, ?_⟩) ?_ ?_
 rotate_left
 ·intro w'
  go_simp
  with_reducible rfl
 rotate_left
 ·simp only [Act.put, List.setIfInBounds_toArray, List.set_cons_zero, List.set_cons_succ, i64_w, i32_w]
  rfl
 refine pure_ (i := 3) (N := some 20) (v := ?_) (a' := ?_) #[true, true, true, true, false, false, false, false, false] rfl rfl (by kernel_rfl) (fun _ _ _ h => h) (Or.inl ⟨by rfl, ?_⟩) ?_ ?_
 rotate_left
 ·intro w'
  go_simp
  with_reducible rfl
 rotate_left
 ·simp only [Act.put, List.setIfInBounds_toArray, List.set_cons_zero, List.set_cons_succ, i64_w, i32_w]
  rfl
 refine take_ (i := 4) (N := some 21) (v := ?_) (a' := ?_) #[true, true, true, true, true, false, false, false, false] rfl rfl (by kernel_rfl) (fun _ _ _ h => h) (Or.inl ⟨by rfl, ?_⟩) hHeld ?_ ?_
 rotate_left
 ·intro w' s0
  have s_0 := s0.2
  clear s0
  go_simp
  with_reducible rfl
 rotate_left
 ·simp only [Act.put, List.setIfInBounds_toArray, List.set_cons_zero, List.set_cons_succ, i64_w, i32_w]
  rfl
 refine pure_ (i := 5) (N := some 22) (v := ?_) (a' := ?_) #[true, true, true, true, true, true, false, false, false] rfl rfl (by kernel_rfl) (fun _ _ _ h => h) (Or.inl ⟨by rfl, ?_⟩) ?_ ?_
 rotate_left
 ·intro w'
  go_simp
  with_reducible rfl
 rotate_left
 ·simp only [Act.put, List.setIfInBounds_toArray, List.set_cons_zero, List.set_cons_succ, i64_w, i32_w]
  rfl
 refine one_ (i := 6) (N := none) #[true, true, true, true, true, true, true, false, false] rfl rfl (by kernel_rfl) (by decide) (fun K hK => ?_)
 refine skip_ (w1 := ((w16.drew.setCell ⟨w.heap.size + 1, 0, none⟩ (.int .i64 (many4 a0 : Int))).setCell ⟨w.heap.size + 1, 1, none⟩ (.func (.func 252) #[] #[.pointer (some ⟨pw, 0, none⟩)]))) rfl rfl ?_ ?_
 ·go_simp
 have hcc : ∀ b o, b ≠ w.heap.size + 1 → ((w16.drew.setCell ⟨w.heap.size + 1, 0, none⟩ (.int .i64 (many4 a0 : Int))).setCell ⟨w.heap.size + 1, 1, none⟩ (.func (.func 252) #[] #[.pointer (some ⟨pw, 0, none⟩)])).cell? ⟨b, o, none⟩ = w16.cell? ⟨b, o, none⟩ := fun b o hne => World.cell?_of_block (w := w16) (a := ⟨b, o, none⟩) ((Below.heap_setCell _ ⟨w.heap.size + 1, 1, none⟩ _ b hne).trans (Below.heap_setCell _ ⟨w.heap.size + 1, 0, none⟩ _ b hne))
 refine hK.out _ _ ⟨⟨(hcc _ _ (by have := HZ8.out; omega)).trans HG0.out, (hcc _ _ (by have := HZ8.out; omega)).trans HG1.out⟩, (hcc _ _ (by have := HBD.out; have := HZ8.out; have := HS9.out; omega)).trans HCD.out⟩ (fun hHeld => ?_)
 clear hK K hcc
 refine pure_ (i := 7) (N := some 3) (v := ?_) (a' := ?_) #[true, true, true, true, true, true, true, true, false] rfl rfl (by kernel_rfl) (fun _ _ _ h => h) (Or.inl ⟨by rfl, ?_⟩) ?_ ?_
 rotate_left
 ·intro w'
  go_simp
  with_reducible rfl
 rotate_left
 ·simp only [Act.put, List.setIfInBounds_toArray, List.set_cons_zero, List.set_cons_succ, i64_w, i32_w]
  rfl
 refine pure_ (i := 8) (N := some 4) (v := ?_) (a' := ?_) #[true, true, true, true, true, true, true, true, true] rfl rfl (by kernel_rfl) (fun _ _ _ h => h) (Or.inl ⟨by rfl, ?_⟩) ?_ ?_
 rotate_left
 ·intro w'
  go_simp
  with_reducible rfl
 rotate_left
 ·simp only [Act.put, List.setIfInBounds_toArray, List.set_cons_zero, List.set_cons_succ, i64_w, i32_w]
  rfl
 refine done_ (by kernel_rfl) ?_
 have hset : ((w16.drew.setCell ⟨w.heap.size + 1, 0, none⟩ (.int .i64 (many4 a0 : Int))).setCell ⟨w.heap.size + 1, 1, none⟩ (.func (.func 252) #[] #[.pointer (some ⟨pw, 0, none⟩)])).heap[w.heap.size + 1]? = some (.cells #[.int .i64 (many4 a0 : Int), .func (.func 252) #[] #[.pointer (some ⟨pw, 0, none⟩)]] 151 (0, 0)) :=
  blk_put (cs := #[.int .i64 (many4 a0 : Int), .nilFunc]) (blk_put (cs := #[.int .i64 0, .nilFunc]) (blk_drew HK2'.out) 0 _ rfl) 1 _ rfl
 clear hz0 hz1 hfz0 hfz1 hHeld
 go_wp2
 refine bodyPost_ret (results_list (rs := [.cell 2 151, .tmp 3, .tmp 4]) rfl (by simp) (.cell (w.heap.size + 1) 151 #[.int .i64 (many4 a0 : Int), .func (.func 252) #[] #[.pointer (some ⟨pw, 0, none⟩)]] (0, 0) _ rfl hset Try.underlying151 rfl (by kernel_rfl) (.tmp (.tmp .nil)))) rfl ?_
 refine ⟨pw, bd, c16, ds, rfl, ⟨?_, by have := HPW.out; omega⟩, ?_, HLEN.out, HLE.out, ?_⟩
 ·exact blk_far (blk_far (blk_drew HKP'.out) (p := ⟨w.heap.size + 1, 0, none⟩) (by show pw ≠ w.heap.size + 1; have := HPW.out; omega) _) (p := ⟨w.heap.size + 1, 1, none⟩) (by show pw ≠ w.heap.size + 1; have := HPW.out; omega) _
 ·exact Kd.R_mono (Kd.R_far (p := ⟨w.heap.size + 1, 1, none⟩) (Kd.R_far (p := ⟨w.heap.size + 1, 0, none⟩) (Kd.R_types (Kd.R_drew HO16.out) (blk_drew HK2'.out) (by decide)) (fun _ hk => hk.2) _) (fun _ hk => hk.2) _) (fun _ h_ => h_.1)
 ·exact below_set (below_set (below_drew1 (HB9.out.trans (HB16.out.mono HZ9.out))) (by omega)) (by omega)
end Go.Proofs.Ytlkjglanglpdoaa.T
namespace Go.Proofs.Ytlkjglanglpdoaa.T
open Go.RowKit Go.Proofs.YtlkjglanglpdoaaW.PrintWords Go.Proofs.YtlkjglanglpdoaaW.PrintLast Go.Proofs.YtlkjglanglpdoaaW.PrintMore
attribute [local go_sem] max2_int min2_int max_two min_two max_three min_three max_four min_four
set_option linter.unusedVariables false
set_option linter.unusedSimpArgs false
def spec_isGood.f (a0_0 : Int) (a0_1 : Int) (a0_2 : Int) : Option (Bool) := (spec_l1In.f a0_0 1 3).bind fun t273 => (if t273 = true then ((spec_l1In.f a0_1 1 3).bind fun t274 => (if t274 = true then ((spec_l1In.f a0_2 0 2).bind fun t275 => (some t275)) else (some false))) else (some false))
set_option maxHeartbeats 8000000 in
set_option maxRecDepth 100000 in
theorem spec_isGood.calls (a0_0 : Int) (a0_1 : Int) (a0_2 : Int) (r : Bool) (w : World) (h : spec_isGood.f a0_0 a0_1 a0_2 = some r) :
  Calls Try.prog 140 #[.agg #[.int .i64 a0_0, .int .i64 a0_1, .int .i64 a0_2]] w fun e w' => e = .returned (.bool r) ∧ Below w.heap.size w w' := by
 have hu39 := Try.underlying39
 have HB := Aside0.mk (Below.refl w.heap.size w)
 have H : ((spec_l1In.f a0_0 1 3).bind fun t273 => (if t273 = true then ((spec_l1In.f a0_1 1 3).bind fun t274 => (if t274 = true then ((spec_l1In.f a0_2 0 2).bind fun t275 => (some t275)) else (some false))) else (some false))) = some r := h
 clear h
 replace H := Option.bind_eq_some_iff.mp H
 obtain ⟨t273, A20, H⟩ := H
 replace H : (if t273 = true then ((spec_l1In.f a0_1 1 3).bind fun t274 => (if t274 = true then ((spec_l1In.f a0_2 0 2).bind fun t275 => (some t275)) else (some false))) else (some false)) = some r := H
 have A2 := Aside0.mk A20
 clear A20
 by_cases c3 : t273 = true
 ·subst c3
  have H1 : ((spec_l1In.f a0_1 1 3).bind fun t274 => (if t274 = true then ((spec_l1In.f a0_2 0 2).bind fun t275 => (some t275)) else (some false))) = some r := by rw [if_pos rfl] at H; exact H
  clear H
  have H := H1
  clear H1
  replace H := Option.bind_eq_some_iff.mp H
  obtain ⟨t274, A40, H⟩ := H
  replace H : (if t274 = true then ((spec_l1In.f a0_2 0 2).bind fun t275 => (some t275)) else (some false)) = some r := H
  have A4 := Aside0.mk A40
  clear A40
  by_cases c5 : t274 = true
  ·subst c5
   have H1 : ((spec_l1In.f a0_2 0 2).bind fun t275 => (some t275)) = some r := by rw [if_pos rfl] at H; exact H
   clear H
   have H := H1
   clear H1
   replace H := Option.bind_eq_some_iff.mp H
   obtain ⟨t275, A60, H⟩ := H
   replace H : (some t275) = some r := H
   have A6 := Aside0.mk A60
   clear A60
   obtain rfl := Option.some.inj H
   go_enter Try.func140, Try.ntmps140
   go_wp2_with (first | ((with_reducible refine gate_dst (N := 1) rfl ?_); refine box_event ?hg (N := 1) ?hd (cs := #[.int .i64 a0_0, .int .i64 a0_1, .int .i64 a0_2]) (t := 39) ?hr ?_; (case hd => rfl); (case hg => rfl); (case hr => first | (go_simp; done) | (go_simp; rfl)); intro gb272 hg w7 hbox hb; have n0_ := Aside0.mk (below_step (by repeat (first | (with_reducible first | exact HB.out | apply below_alloc | apply pw_below_drewN | apply below_drew1) | exact HB.out)) hb); have n1_ := Aside0.mk (hbox); have n2_ := Aside0.mk ((by rw [hg]; exact (below_size (by repeat (first | (with_reducible first | exact HB.out | apply below_alloc | apply pw_below_drewN | apply below_drew1) | exact HB.out))) : w.heap.size ≤ gb272)); have n3_ := Aside0.mk ((by rw [hg]; exact (below_size (by repeat (first | (with_reducible first | exact HB.out | apply below_alloc | apply pw_below_drewN | apply below_drew1) | exact HB.out))) : w.heap.size ≤ gb272)); clear HB; have HB := n0_; have BK272 := n1_; have GW272 := n2_; have GE272 := n3_; clear n0_ n1_ n2_ n3_; clear hb hbox hg; have hcz8_0 : w7.cell? ⟨gb272, 0, none⟩ = some (.int .i64 a0_0) := (blk_cell BK272.out 0).trans rfl; have hcz8_1 : w7.cell? ⟨gb272, 1, none⟩ = some (.int .i64 a0_1) := (blk_cell BK272.out 1).trans rfl; have hcz8_2 : w7.cell? ⟨gb272, 2, none⟩ = some (.int .i64 a0_2) := (blk_cell BK272.out 2).trans rfl; have hfz8_0 := blk_frozen BK272.out 0; have hfz8_1 := blk_frozen BK272.out 1; have hfz8_2 := blk_frozen BK272.out 2) | ((with_reducible refine gate_callee (f := 132) rfl ?_); refine goesL_ (some 5) rfl rfl Try.func132 (by kernel_rfl) rfl #[.int .i64 a0_0, .int .i64 1, .int .i64 3] rfl (by (try simp only [List.map_toArray, List.map_cons, List.map_nil]); first | done | rfl | (simp only [List.length_drop, List.length_take]; rfl)) ?_; (with_reducible refine (spec_l1In.calls a0_0 1 3 true _ A2.out).mono ?_); rintro e w' ⟨rfl, ⟨nd, rfl⟩⟩; refine ⟨_, rfl, ?_⟩) | (go_at_call 132; (with_reducible refine (spec_l1In.calls a0_1 1 3 true _ A4.out).mono ?_); rintro e w' ⟨rfl, ⟨nd, rfl⟩⟩) | (go_at_call 132; (with_reducible refine (spec_l1In.calls a0_2 0 2 t275 _ A6.out).mono ?_); rintro e w' ⟨rfl, ⟨nd, rfl⟩⟩))
   go_ret
   exact ⟨by first | rfl | (simp [errW_none, errW_some] <;> rfl) | (simp [*, errW_none, errW_some] <;> rfl), by repeat (first | (with_reducible first | exact HB.out | apply below_alloc | apply pw_below_drewN | apply below_drew1 | refine below_set ?_ GE272.out) | exact HB.out)⟩
  ·replace c5 := Bool.eq_false_iff.mpr c5
   subst c5
   have H1 : (some false) = some r := by rw [if_neg (show ¬ (false = true) by decide)] at H; exact H
   clear H
   have H := H1
   clear H1
   obtain rfl := Option.some.inj H
   go_enter Try.func140, Try.ntmps140
   go_wp2_with (first | ((with_reducible refine gate_dst (N := 1) rfl ?_); refine box_event ?hg (N := 1) ?hd (cs := #[.int .i64 a0_0, .int .i64 a0_1, .int .i64 a0_2]) (t := 39) ?hr ?_; (case hd => rfl); (case hg => rfl); (case hr => first | (go_simp; done) | (go_simp; rfl)); intro gb272 hg w9 hbox hb; have n0_ := Aside0.mk (below_step (by repeat (first | (with_reducible first | exact HB.out | apply below_alloc | apply pw_below_drewN | apply below_drew1) | exact HB.out)) hb); have n1_ := Aside0.mk (hbox); have n2_ := Aside0.mk ((by rw [hg]; exact (below_size (by repeat (first | (with_reducible first | exact HB.out | apply below_alloc | apply pw_below_drewN | apply below_drew1) | exact HB.out))) : w.heap.size ≤ gb272)); have n3_ := Aside0.mk ((by rw [hg]; exact (below_size (by repeat (first | (with_reducible first | exact HB.out | apply below_alloc | apply pw_below_drewN | apply below_drew1) | exact HB.out))) : w.heap.size ≤ gb272)); clear HB; have HB := n0_; have BK272 := n1_; have GW272 := n2_; have GE272 := n3_; clear n0_ n1_ n2_ n3_; clear hb hbox hg; have hcz10_0 : w9.cell? ⟨gb272, 0, none⟩ = some (.int .i64 a0_0) := (blk_cell BK272.out 0).trans rfl; have hcz10_1 : w9.cell? ⟨gb272, 1, none⟩ = some (.int .i64 a0_1) := (blk_cell BK272.out 1).trans rfl; have hcz10_2 : w9.cell? ⟨gb272, 2, none⟩ = some (.int .i64 a0_2) := (blk_cell BK272.out 2).trans rfl; have hfz10_0 := blk_frozen BK272.out 0; have hfz10_1 := blk_frozen BK272.out 1; have hfz10_2 := blk_frozen BK272.out 2) | ((with_reducible refine gate_callee (f := 132) rfl ?_); refine goesL_ (some 5) rfl rfl Try.func132 (by kernel_rfl) rfl #[.int .i64 a0_0, .int .i64 1, .int .i64 3] rfl (by (try simp only [List.map_toArray, List.map_cons, List.map_nil]); first | done | rfl | (simp only [List.length_drop, List.length_take]; rfl)) ?_; (with_reducible refine (spec_l1In.calls a0_0 1 3 true _ A2.out).mono ?_); rintro e w' ⟨rfl, ⟨nd, rfl⟩⟩; refine ⟨_, rfl, ?_⟩) | (go_at_call 132; (with_reducible refine (spec_l1In.calls a0_1 1 3 false _ A4.out).mono ?_); rintro e w' ⟨rfl, ⟨nd, rfl⟩⟩))
   go_ret
   exact ⟨by first | rfl | (simp [errW_none, errW_some] <;> rfl) | (simp [*, errW_none, errW_some] <;> rfl), by repeat (first | (with_reducible first | exact HB.out | apply below_alloc | apply pw_below_drewN | apply below_drew1 | refine below_set ?_ GE272.out) | exact HB.out)⟩
 ·replace c3 := Bool.eq_false_iff.mpr c3
  subst c3
  have H1 : (some false) = some r := by rw [if_neg (show ¬ (false = true) by decide)] at H; exact H
  clear H
  have H := H1
  clear H1
  obtain rfl := Option.some.inj H
  go_enter Try.func140, Try.ntmps140
  go_wp2_with (first | ((with_reducible refine gate_dst (N := 1) rfl ?_); refine box_event ?hg (N := 1) ?hd (cs := #[.int .i64 a0_0, .int .i64 a0_1, .int .i64 a0_2]) (t := 39) ?hr ?_; (case hd => rfl); (case hg => rfl); (case hr => first | (go_simp; done) | (go_simp; rfl)); intro gb272 hg w11 hbox hb; have n0_ := Aside0.mk (below_step (by repeat (first | (with_reducible first | exact HB.out | apply below_alloc | apply pw_below_drewN | apply below_drew1) | exact HB.out)) hb); have n1_ := Aside0.mk (hbox); have n2_ := Aside0.mk ((by rw [hg]; exact (below_size (by repeat (first | (with_reducible first | exact HB.out | apply below_alloc | apply pw_below_drewN | apply below_drew1) | exact HB.out))) : w.heap.size ≤ gb272)); have n3_ := Aside0.mk ((by rw [hg]; exact (below_size (by repeat (first | (with_reducible first | exact HB.out | apply below_alloc | apply pw_below_drewN | apply below_drew1) | exact HB.out))) : w.heap.size ≤ gb272)); clear HB; have HB := n0_; have BK272 := n1_; have GW272 := n2_; have GE272 := n3_; clear n0_ n1_ n2_ n3_; clear hb hbox hg; have hcz12_0 : w11.cell? ⟨gb272, 0, none⟩ = some (.int .i64 a0_0) := (blk_cell BK272.out 0).trans rfl; have hcz12_1 : w11.cell? ⟨gb272, 1, none⟩ = some (.int .i64 a0_1) := (blk_cell BK272.out 1).trans rfl; have hcz12_2 : w11.cell? ⟨gb272, 2, none⟩ = some (.int .i64 a0_2) := (blk_cell BK272.out 2).trans rfl; have hfz12_0 := blk_frozen BK272.out 0; have hfz12_1 := blk_frozen BK272.out 1; have hfz12_2 := blk_frozen BK272.out 2) | ((with_reducible refine gate_callee (f := 132) rfl ?_); refine goesL_ (some 5) rfl rfl Try.func132 (by kernel_rfl) rfl #[.int .i64 a0_0, .int .i64 1, .int .i64 3] rfl (by (try simp only [List.map_toArray, List.map_cons, List.map_nil]); first | done | rfl | (simp only [List.length_drop, List.length_take]; rfl)) ?_; (with_reducible refine (spec_l1In.calls a0_0 1 3 false _ A2.out).mono ?_); rintro e w' ⟨rfl, ⟨nd, rfl⟩⟩; refine ⟨_, rfl, ?_⟩))
  go_ret
  exact ⟨by first | rfl | (simp [errW_none, errW_some] <;> rfl) | (simp [*, errW_none, errW_some] <;> rfl), by repeat (first | (with_reducible first | exact HB.out | apply below_alloc | apply pw_below_drewN | apply below_drew1 | refine below_set ?_ GE272.out) | exact HB.out)⟩
end Go.Proofs.Ytlkjglanglpdoaa.T
namespace Go.Proofs.Ytlkjglanglpdoaa.T
open Go.RowKit Go.Proofs.YtlkjglanglpdoaaW.PrintWords Go.Proofs.YtlkjglanglpdoaaW.PrintLast Go.Proofs.YtlkjglanglpdoaaW.PrintMore
attribute [local go_sem] max2_int min2_int max_two min_two max_three min_three max_four min_four
set_option linter.unusedVariables false
set_option linter.unusedSimpArgs false
def spec_isFewest.f (k : Nat) (a0_0 : Int) (a0_1 : Int) (a0_2 : Int) : Option (Int × Int) := (spec_isAll.f k a0_0 a0_1 a0_2 0).bind fun bt436 => ((spec_isFar.f k a0_0 a0_1 a0_2 bt436.1 bt436.2).bind fun bt440 => ((spec_isAll.f k a0_0 a0_1 a0_2 (wrap64 (a0_2 + 1))).bind fun bt447 => ((spec_isCode.f k a0_0 a0_1 a0_2 bt447.1 bt447.2).bind fun t451 => (if 0 ≤ t451 then (if t451 < (bt440.1.length : Int) then (if t451 < (bt440.2.1.length : Int) then (some (rd bt440.1 t451, rd bt440.2.1 t451)) else (none)) else (none)) else (none)))))
theorem spec_isFewest.mono : ∀ a0 a1 a2 k, LeO (spec_isFewest.f k a0 a1 a2) (spec_isFewest.f (k + 1) a0 a1 a2) := by
 intro a0 a1 a2 k
 unfold spec_isFewest.f
 repeat' first
   | (with_reducible exact spec_isAll.mono _ _ _ _ _)
   | (with_reducible exact spec_isCode.mono _ _ _ _ _ _)
   | (with_reducible exact spec_isFar.mono _ _ _ _ _ _)
   | (with_reducible exact LeO.refl _)
   | (with_reducible exact LeO.none _)
   | (with_reducible refine LeO.ite ?_ ?_)
   | (with_reducible refine LeO.bind ?_ (fun _ => ?_))
   | exact spec_isAll.mono _ _ _ _ _
   | exact spec_isCode.mono _ _ _ _ _ _
   | exact spec_isFar.mono _ _ _ _ _ _
   | exact LeO.none _
   | refine LeO.ite ?_ ?_
   | refine LeO.bind ?_ (fun _ => ?_)
def spec_isFewest.T1 : Bool × List (List Nat × List Nat) := (true, [([], []), ([], []), ([1], [1]), ([0, 2, 2], [0, 2]), ([3], [3]), ([4], [4]), ([4], [4]), ([4], [4]), ([5, 3, 0, 1, 2, 3, 4, 5], [5]), ([6, 8, 0, 1, 2, 3, 4, 5, 6, 8], [6]), ([7, 9, 0, 1, 2, 3, 4, 5, 6, 7, 8, 9], [7])])
def spec_isFewest.B1 : List Nat := [0, 0, 2, 7, 15, 31, 31, 31, 63, 383, 1023]
theorem spec_isFewest.tab1 : rtab .any (opsOf Try.f145 1) = spec_isFewest.T1 := by kernel_rfl
theorem spec_isFewest.bits1 : waitsOk spec_isFewest.T1.2 spec_isFewest.B1 = true := by kernel_rfl
def spec_isFewest.T2 : Bool × List (List Nat × List Nat) := (true, [([], []), ([], []), ([], []), ([2], [2]), ([3], [3]), ([1, 4], [1, 4]), ([0, 5, 5], [0, 5]), ([6, 6, 0, 1, 2, 3, 4, 5, 6], [6])])
def spec_isFewest.B2 : List Nat := [0, 0, 0, 4, 12, 30, 63, 127]
theorem spec_isFewest.tab2 : rtab .any (opsOf Try.f145 2) = spec_isFewest.T2 := by kernel_rfl
theorem spec_isFewest.bits2 : waitsOk spec_isFewest.T2.2 spec_isFewest.B2 = true := by kernel_rfl
def spec_isFewest.T3 : Bool × List (List Nat × List Nat) := (true, [([], []), ([], []), ([0, 1], [0, 1]), ([2], [2]), ([], []), ([], []), ([4, 5], [4, 5]), ([6], [6]), ([3, 0, 1, 2, 3], [3]), ([7, 8, 0, 1, 2, 3, 4, 5, 6, 7, 8], [7])])
def spec_isFewest.B3 : List Nat := [0, 0, 3, 7, 0, 0, 48, 112, 15, 511]
theorem spec_isFewest.tab3 : rtab .any (opsOf Try.f145 3) = spec_isFewest.T3 := by kernel_rfl
theorem spec_isFewest.bits3 : waitsOk spec_isFewest.T3.2 spec_isFewest.B3 = true := by kernel_rfl
set_option maxHeartbeats 8000000 in
set_option maxRecDepth 100000 in
theorem spec_isFewest.calls (k : Nat) (a0_0 : Int) (a0_1 : Int) (a0_2 : Int) (r1 : Int) (r2 : Int) (w : World) (h : spec_isFewest.f k a0_0 a0_1 a0_2 = some (r1, r2)) :
  Calls Try.prog 145 #[.agg #[.int .i64 a0_0, .int .i64 a0_1, .int .i64 a0_2]] w fun e w' => e = .returned (.tuple #[.int .i64 r1, .int .i64 r2]) ∧ Below w.heap.size w w' := by
 have hu39 := Try.underlying39
 have HB := Aside0.mk (Below.refl w.heap.size w)
 have H : ((spec_isAll.f k a0_0 a0_1 a0_2 0).bind fun bt436 => ((spec_isFar.f k a0_0 a0_1 a0_2 bt436.1 bt436.2).bind fun bt440 => ((spec_isAll.f k a0_0 a0_1 a0_2 (wrap64 (a0_2 + 1))).bind fun bt447 => ((spec_isCode.f k a0_0 a0_1 a0_2 bt447.1 bt447.2).bind fun t451 => (if 0 ≤ t451 then (if t451 < (bt440.1.length : Int) then (if t451 < (bt440.2.1.length : Int) then (some (rd bt440.1 t451, rd bt440.2.1 t451)) else (none)) else (none)) else (none)))))) = some (r1, r2) := h
 clear h
 replace H := Option.bind_eq_some_iff.mp H
 obtain ⟨⟨t436, t439⟩, A20, H⟩ := H
 replace H : ((spec_isFar.f k a0_0 a0_1 a0_2 t436 t439).bind fun bt440 => ((spec_isAll.f k a0_0 a0_1 a0_2 (wrap64 (a0_2 + 1))).bind fun bt447 => ((spec_isCode.f k a0_0 a0_1 a0_2 bt447.1 bt447.2).bind fun t451 => (if 0 ≤ t451 then (if t451 < (bt440.1.length : Int) then (if t451 < (bt440.2.1.length : Int) then (some (rd bt440.1 t451, rd bt440.2.1 t451)) else (none)) else (none)) else (none))))) = some (r1, r2) := H
 have A2 := Aside0.mk A20
 clear A20
 replace H := Option.bind_eq_some_iff.mp H
 obtain ⟨⟨t440, t443, t446⟩, A30, H⟩ := H
 replace H : ((spec_isAll.f k a0_0 a0_1 a0_2 (wrap64 (a0_2 + 1))).bind fun bt447 => ((spec_isCode.f k a0_0 a0_1 a0_2 bt447.1 bt447.2).bind fun t451 => (if 0 ≤ t451 then (if t451 < (t440.length : Int) then (if t451 < (t443.length : Int) then (some (rd t440 t451, rd t443 t451)) else (none)) else (none)) else (none)))) = some (r1, r2) := H
 have A3 := Aside0.mk A30
 clear A30
 replace H := Option.bind_eq_some_iff.mp H
 obtain ⟨⟨t447, t450⟩, A40, H⟩ := H
 replace H : ((spec_isCode.f k a0_0 a0_1 a0_2 t447 t450).bind fun t451 => (if 0 ≤ t451 then (if t451 < (t440.length : Int) then (if t451 < (t443.length : Int) then (some (rd t440 t451, rd t443 t451)) else (none)) else (none)) else (none))) = some (r1, r2) := H
 have A4 := Aside0.mk A40
 clear A40
 replace H := Option.bind_eq_some_iff.mp H
 obtain ⟨t451, A50, H⟩ := H
 replace H : (if 0 ≤ t451 then (if t451 < (t440.length : Int) then (if t451 < (t443.length : Int) then (some (rd t440 t451, rd t443 t451)) else (none)) else (none)) else (none)) = some (r1, r2) := H
 have A5 := Aside0.mk A50
 clear A50
 by_cases c6 : 0 ≤ t451
 ·rw [if_pos c6] at H
  have c6b0 : decide (0 ≤ t451) = true := decide_eq_true c6
  clear c6
  by_cases c7 : t451 < (t440.length : Int)
  ·rw [if_pos c7] at H
   have c7b0 : decide (t451 < (t440.length : Int)) = true := decide_eq_true c7
   clear c7
   by_cases c8 : t451 < (t443.length : Int)
   ·rw [if_pos c8] at H
    have c8b0 : decide (t451 < (t443.length : Int)) = true := decide_eq_true c8
    clear c8
    simp only [Option.some.injEq, Prod.mk.injEq] at H
    obtain ⟨rfl, rfl⟩ := H
    go_enter Try.func145, Try.ntmps145
    try go_wp2_with (first | ((with_reducible refine gate_dst (N := 1) rfl ?_); refine box_event ?hg (N := 1) ?hd (cs := #[.int .i64 a0_0, .int .i64 a0_1, .int .i64 a0_2]) (t := 39) ?hr ?_; (case hd => rfl); (case hg => rfl); (case hr => first | (go_simp; done) | (go_simp; rfl)); intro gb435 hg w9 hbox hb; have n0_ := Aside0.mk (below_step (by repeat (first | (with_reducible first | exact HB.out | apply below_alloc | apply pw_below_drewN | apply below_drew1) | exact HB.out)) hb); have n1_ := Aside0.mk (hbox); have n2_ := Aside0.mk ((by rw [hg]; exact (below_size (by repeat (first | (with_reducible first | exact HB.out | apply below_alloc | apply pw_below_drewN | apply below_drew1) | exact HB.out))) : w.heap.size ≤ gb435)); have n3_ := Aside0.mk ((by rw [hg]; exact (below_size (by repeat (first | (with_reducible first | exact HB.out | apply below_alloc | apply pw_below_drewN | apply below_drew1) | exact HB.out))) : w.heap.size ≤ gb435)); clear HB; have HB := n0_; have BK435 := n1_; have GW435 := n2_; have GE435 := n3_; clear n0_ n1_ n2_ n3_; clear hb hbox hg))
    have n0_ := Aside0.mk (blk_drew BK435.out)
    have n1_ := Aside0.mk (below_drew1 HB.out)
    clear BK435
    clear HB
    have BK435 := n0_
    have HB := n1_
    clear n0_ n1_
    refine start_ (n := 11) (S := fun w' => w'.cell? ⟨gb435, 0, none⟩ = some (.int .i64 a0_0) ∧ w'.cell? ⟨gb435, 1, none⟩ = some (.int .i64 a0_1) ∧ w'.cell? ⟨gb435, 2, none⟩ = some (.int .i64 a0_2)) (ds := []) #[false, false, false, false, false, false, false, false, false, false, false] (by kernel_rfl) rfl rfl ⟨(blk_cell BK435.out 0).trans rfl, (blk_cell BK435.out 1).trans rfl, (blk_cell BK435.out 2).trans rfl⟩ (fun hHeld => ?_); refine with_tabW spec_isFewest.tab1 spec_isFewest.bits1 (fun HT_ HW_ => ?_)
    generalize w9.drew = w10 at BK435 HB hHeld ⊢
    refine take_ (i := 0) (N := some 9) (v := ?_) (a' := ?_) #[true, false, false, false, false, false, false, false, false, false, false] rfl rfl (take_ofW HT_.out HW_.out (by kernel_rfl)) (fun _ _ _ h => h) (Or.inl ⟨by rfl, ?_⟩) hHeld ?_ ?_
    rotate_left
    ·rintro w' ⟨s0, s1, s2⟩
     go_simp
     with_reducible rfl
    rotate_left
    ·simp only [Act.put, List.setIfInBounds_toArray, List.set_cons_zero, List.set_cons_succ, i64_w, i32_w]
     rfl
    refine take_ (i := 1) (N := some 10) (v := ?_) (a' := ?_) #[true, true, false, false, false, false, false, false, false, false, false] rfl rfl (take_ofW HT_.out HW_.out (by kernel_rfl)) (fun _ _ _ h => h) (Or.inl ⟨by rfl, ?_⟩) hHeld ?_ ?_
    rotate_left
    ·rintro w' ⟨s0, s1, s2⟩
     go_simp
     with_reducible rfl
    rotate_left
    ·simp only [Act.put, List.setIfInBounds_toArray, List.set_cons_zero, List.set_cons_succ, i64_w, i32_w]
     rfl
    refine one_ (i := 2) (N := some 11) #[true, true, true, false, false, false, false, false, false, false, false] rfl rfl (one_of HT_.out (by kernel_rfl)) (by decide) (fun K hK => ?_)
    refine goes_ Try.func142 (by kernel_rfl) rfl #[.agg #[.int .i64 a0_0, .int .i64 a0_1, .int .i64 a0_2], .int .i64 0] (by rfl) rfl rfl (by (try simp only [List.map_toArray, List.map_cons, List.map_nil]); first | done | rfl | (simp only [List.length_drop, List.length_take]; rfl)) ?_
    with_reducible refine (spec_isAll.calls k a0_0 a0_1 a0_2 0 t436 t439 _ A2.out).mono ?_
    rintro e w11 ⟨v437, rfl, ho0, hb⟩
    refine ⟨_, rfl, ?_⟩
    have n0_ := Aside0.mk (Kd.R_lower ho0 (below_size (by repeat (first | (with_reducible first | exact HB.out | apply below_alloc | apply pw_below_drewN | apply below_drew1 | refine below_set ?_ GE435.out) | exact HB.out))))
    have n1_ := Aside0.mk (blk_below (g := gb435) (o := .cells #[.int .i64 a0_0, .int .i64 a0_1, .int .i64 a0_2] 39 (0, 0)) (by (with_reducible repeat (first | refine blk_drewN ?_ _ | refine blk_drew ?_ | refine blk_alloc ?_ _)); exact BK435.out) hb)
    have n2_ := Aside0.mk (below_step (by repeat (first | (with_reducible first | exact HB.out | apply below_alloc | apply pw_below_drewN | apply below_drew1 | refine below_set ?_ GE435.out) | exact HB.out)) hb)
    clear BK435
    clear HB
    have HO438 := n0_
    have BK435 := n1_
    have HB := n2_
    clear n0_ n1_ n2_
    (try clear hb)
    (try clear hb2)
    (try clear hk)
    (try clear hi)
    (try clear ho0)
    obtain ⟨Ao12, co12, eo12⟩ := Kd.R_slice HO438.out
    (first | subst eo12 | (injection eo12 with f1_ f2_ f3_; have f4_ := f1_.symm; have f5_ := f3_.symm; clear f1_ f2_ f3_; subst f4_; subst f5_))
    refine hK.out _ _ ⟨(blk_cell BK435.out 0).trans rfl, (blk_cell BK435.out 1).trans rfl, (blk_cell BK435.out 2).trans rfl⟩ (fun hHeld => ?_)
    clear hK K
    refine norm_ (a' := ?_) ?_ ?_
    rotate_left
    ·show Act.put _ (some 11) _ = _
     simp only [Act.put, List.setIfInBounds_toArray, List.set_cons_zero, List.set_cons_succ, i64_w, i32_w]
     rfl
    refine one_ (i := 3) (N := some 12) #[true, true, true, true, false, false, false, false, false, false, false] rfl rfl (one_of HT_.out (by kernel_rfl)) (by decide) (fun K hK => ?_)
    refine goes_ Try.func141 (by kernel_rfl) rfl #[.agg #[.int .i64 a0_0, .int .i64 a0_1, .int .i64 a0_2], .agg #[.slice Ao12 t436.length co12, .int .i64 t439]] (by rfl) rfl rfl (by (try simp only [List.map_toArray, List.map_cons, List.map_nil]); first | done | rfl | (simp only [List.length_drop, List.length_take]; rfl)) ?_
    with_reducible refine (spec_isFar.calls k a0_0 a0_1 a0_2 (fun k_ => some k_ = (.slice Ao12 t436.length co12 : Value).ownBlock) _ _ t436 t439 t440 t443 t446 _ ?side1 A3.out).mono ?_
    (case side1 => exact Kd.R_V (Kd.R_tight rfl (Kd.R_types (HO438.out) BK435.out (by decide))))
    rintro e w13 ⟨v441, v444, rfl, ho0, ho1, hb⟩
    refine ⟨_, rfl, ?_⟩
    have n0_ := Aside0.mk (Kd.R_mono (Kd.R_told (Kd.R_told (Kd.R_old (by (with_reducible repeat (first | apply Kd.R_alloc | apply Kd.R_drewN | apply Kd.R_drew)); exact HO438.out) hb) (Kd.R_base ho0)) (Kd.R_base ho1)) (fun _ h_ => h_.1))
    have n1_ := Aside0.mk (Kd.R_lower (Kd.R_new' (Kd.R_mono (ok' := fun k_ => some k_ ≠ (v444 : Value).ownBlock) ho0 (fun _ hk_ => hk_.2)) (Kd.R_lt (by (with_reducible repeat (first | apply Kd.R_alloc | apply Kd.R_drewN | apply Kd.R_drew)); exact HO438.out))) (below_size (by repeat (first | (with_reducible first | exact HB.out | apply below_alloc | apply pw_below_drewN | apply below_drew1 | refine below_set ?_ GE435.out) | exact HB.out))))
    have n2_ := Aside0.mk (Kd.R_lower (Kd.R_new' (Kd.R_mono (ok' := fun k_ => some k_ ≠ (v441 : Value).ownBlock) ho1 (fun _ hk_ => hk_.2)) (Kd.R_lt (by (with_reducible repeat (first | apply Kd.R_alloc | apply Kd.R_drewN | apply Kd.R_drew)); exact HO438.out))) (below_size (by repeat (first | (with_reducible first | exact HB.out | apply below_alloc | apply pw_below_drewN | apply below_drew1 | refine below_set ?_ GE435.out) | exact HB.out))))
    have n3_ := Aside0.mk (blk_below (g := gb435) (o := .cells #[.int .i64 a0_0, .int .i64 a0_1, .int .i64 a0_2] 39 (0, 0)) (by (with_reducible repeat (first | refine blk_drewN ?_ _ | refine blk_drew ?_ | refine blk_alloc ?_ _)); exact BK435.out) hb)
    have n4_ := Aside0.mk (below_step (by repeat (first | (with_reducible first | exact HB.out | apply below_alloc | apply pw_below_drewN | apply below_drew1 | refine below_set ?_ GE435.out) | exact HB.out)) hb)
    clear HO438
    clear BK435
    clear HB
    have HO438 := n0_
    have HO442 := n1_
    have HO445 := n2_
    have BK435 := n3_
    have HB := n4_
    clear n0_ n1_ n2_ n3_ n4_
    (try clear hb)
    (try clear hb2)
    (try clear hk)
    (try clear hi)
    (try clear ho0)
    (try clear ho1)
    refine hK.out _ _ ⟨(blk_cell BK435.out 0).trans rfl, (blk_cell BK435.out 1).trans rfl, (blk_cell BK435.out 2).trans rfl⟩ (fun hHeld => ?_)
    clear hK K
    refine norm_ (a' := ?_) ?_ ?_
    rotate_left
    ·show Act.put _ (some 12) _ = _
     simp only [Act.put, List.setIfInBounds_toArray, List.set_cons_zero, List.set_cons_succ, i64_w, i32_w]
     rfl
    refine pure_ (i := 4) (N := some 8) (v := ?_) (a' := ?_) #[true, true, true, true, true, false, false, false, false, false, false] rfl rfl (any_of HT_.out (by kernel_rfl)) (fun _ _ _ h => h) (Or.inl ⟨by rfl, ?_⟩) ?_ ?_
    rotate_left
    ·intro w'
     go_simp
     with_reducible rfl
    rotate_left
    ·simp only [Act.put, List.setIfInBounds_toArray, List.set_cons_zero, List.set_cons_succ, i64_w, i32_w]
     rfl
    refine pure_ (i := 5) (N := some 13) (v := ?_) (a' := ?_) #[true, true, true, true, true, true, false, false, false, false, false] rfl rfl (any_of HT_.out (by kernel_rfl)) (fun _ _ _ h => h) (Or.inl ⟨by rfl, ?_⟩) ?_ ?_
    rotate_left
    ·intro w'
     go_simp
     with_reducible rfl
    rotate_left
    ·simp only [Act.put, List.setIfInBounds_toArray, List.set_cons_zero, List.set_cons_succ, i64_w, i32_w]
     rfl
    refine pure_ (i := 6) (N := some 14) (v := ?_) (a' := ?_) #[true, true, true, true, true, true, true, false, false, false, false] rfl rfl (any_of HT_.out (by kernel_rfl)) (fun _ _ _ h => h) (Or.inl ⟨by rfl, ?_⟩) ?_ ?_
    rotate_left
    ·intro w'
     go_simp
     with_reducible rfl
    rotate_left
    ·simp only [Act.put, List.setIfInBounds_toArray, List.set_cons_zero, List.set_cons_succ, i64_w, i32_w]
     rfl
    refine pure_ (i := 7) (N := some 15) (v := ?_) (a' := ?_) #[true, true, true, true, true, true, true, true, false, false, false] rfl rfl (any_of HT_.out (by kernel_rfl)) (fun _ _ _ h => h) (Or.inl ⟨by rfl, ?_⟩) ?_ ?_
    rotate_left
    ·intro w'
     go_simp
     with_reducible rfl
    rotate_left
    ·simp only [Act.put, List.setIfInBounds_toArray, List.set_cons_zero, List.set_cons_succ, i64_w, i32_w]
     rfl
    refine pure_ (i := 8) (N := some 4) (v := ?_) (a' := ?_) #[true, true, true, true, true, true, true, true, true, false, false] rfl rfl (any_of HT_.out (by kernel_rfl)) (fun _ _ _ h => h) (Or.inl ⟨by rfl, ?_⟩) ?_ ?_
    rotate_left
    ·intro w'
     go_simp
     with_reducible rfl
    rotate_left
    ·simp only [Act.put, List.setIfInBounds_toArray, List.set_cons_zero, List.set_cons_succ, i64_w, i32_w]
     rfl
    refine pure_ (i := 9) (N := some 5) (v := ?_) (a' := ?_) #[true, true, true, true, true, true, true, true, true, true, false] rfl rfl (any_of HT_.out (by kernel_rfl)) (fun _ _ _ h => h) (Or.inl ⟨by rfl, ?_⟩) ?_ ?_
    rotate_left
    ·intro w'
     go_simp
     with_reducible rfl
    rotate_left
    ·simp only [Act.put, List.setIfInBounds_toArray, List.set_cons_zero, List.set_cons_succ, i64_w, i32_w]
     rfl
    refine pure_ (i := 10) (N := some 6) (v := ?_) (a' := ?_) #[true, true, true, true, true, true, true, true, true, true, true] rfl rfl (any_of HT_.out (by kernel_rfl)) (fun _ _ _ h => h) (Or.inl ⟨by rfl, ?_⟩) ?_ ?_
    rotate_left
    ·intro w'
     go_simp
     with_reducible rfl
    rotate_left
    ·simp only [Act.put, List.setIfInBounds_toArray, List.set_cons_zero, List.set_cons_succ, i64_w, i32_w]
     rfl
    refine done_ (done_of HT_.out (by kernel_rfl)) ?_
    try go_wp2
    have n0_ := Aside0.mk (Kd.R_drew HO438.out)
    have n1_ := Aside0.mk (Kd.R_drew HO442.out)
    have n2_ := Aside0.mk (Kd.R_drew HO445.out)
    have n3_ := Aside0.mk (blk_drew BK435.out)
    have n4_ := Aside0.mk (below_drew1 HB.out)
    clear HO438
    clear HO442
    clear HO445
    clear BK435
    clear HB
    have HO438 := n0_
    have HO442 := n1_
    have HO445 := n2_
    have BK435 := n3_
    have HB := n4_
    clear n0_ n1_ n2_ n3_ n4_
    refine start_ (n := 8) (S := fun w' => w'.cell? ⟨gb435, 0, none⟩ = some (.int .i64 a0_0) ∧ w'.cell? ⟨gb435, 1, none⟩ = some (.int .i64 a0_1) ∧ w'.cell? ⟨gb435, 2, none⟩ = some (.int .i64 a0_2)) (ds := []) #[false, false, false, false, false, false, false, false] (by kernel_rfl) rfl rfl ⟨(blk_cell BK435.out 0).trans rfl, (blk_cell BK435.out 1).trans rfl, (blk_cell BK435.out 2).trans rfl⟩ (fun hHeld => ?_); refine with_tabW spec_isFewest.tab2 spec_isFewest.bits2 (fun HT_ HW_ => ?_)
    generalize w13.drew = w14 at HO438 HO442 HO445 BK435 HB hHeld ⊢
    refine pure_ (i := 2) (N := some 18) (v := ?_) (a' := ?_) #[false, false, true, false, false, false, false, false] rfl rfl (any_of HT_.out (by kernel_rfl)) (fun _ _ _ h => h) (Or.inl ⟨by rfl, ?_⟩) ?_ ?_
    rotate_left
    ·intro w'
     go_simp
     with_reducible rfl
    rotate_left
    ·simp only [Act.put, List.setIfInBounds_toArray, List.set_cons_zero, List.set_cons_succ, i64_w, i32_w]
     rfl
    refine take_ (i := 0) (N := some 16) (v := ?_) (a' := ?_) #[true, false, true, false, false, false, false, false] rfl rfl (take_ofW HT_.out HW_.out (by kernel_rfl)) (fun _ _ _ h => h) (Or.inl ⟨by rfl, ?_⟩) hHeld ?_ ?_
    rotate_left
    ·rintro w' ⟨s0, s1, s2⟩
     go_simp
     with_reducible rfl
    rotate_left
    ·simp only [Act.put, List.setIfInBounds_toArray, List.set_cons_zero, List.set_cons_succ, i64_w, i32_w]
     rfl
    refine take_ (i := 1) (N := some 17) (v := ?_) (a' := ?_) #[true, true, true, false, false, false, false, false] rfl rfl (take_ofW HT_.out HW_.out (by kernel_rfl)) (fun _ _ _ h => h) (Or.inl ⟨by rfl, ?_⟩) hHeld ?_ ?_
    rotate_left
    ·rintro w' ⟨s0, s1, s2⟩
     go_simp
     with_reducible rfl
    rotate_left
    ·simp only [Act.put, List.setIfInBounds_toArray, List.set_cons_zero, List.set_cons_succ, i64_w, i32_w]
     rfl
    refine take_ (i := 3) (N := some 19) (v := ?_) (a' := ?_) #[true, true, true, true, false, false, false, false] rfl rfl (take_ofW HT_.out HW_.out (by kernel_rfl)) (fun _ _ _ h => h) (Or.inl ⟨by rfl, ?_⟩) hHeld ?_ ?_
    rotate_left
    ·rintro w' ⟨s0, s1, s2⟩
     go_simp
     with_reducible rfl
    rotate_left
    ·simp only [Act.put, List.setIfInBounds_toArray, List.set_cons_zero, List.set_cons_succ, i64_w, i32_w]
     rfl
    refine pure_ (i := 4) (N := some 20) (v := ?_) (a' := ?_) #[true, true, true, true, true, false, false, false] rfl rfl (any_of HT_.out (by kernel_rfl)) (fun _ _ _ h => h) (Or.inl ⟨by rfl, ?_⟩) ?_ ?_
    rotate_left
    ·intro w'
     go_simp
     with_reducible rfl
    rotate_left
    ·simp only [Act.put, List.setIfInBounds_toArray, List.set_cons_zero, List.set_cons_succ, i64_w, i32_w]
     rfl
    refine one_ (i := 5) (N := some 21) #[true, true, true, true, true, true, false, false] rfl rfl (one_of HT_.out (by kernel_rfl)) (by decide) (fun K hK => ?_)
    refine goes_ Try.func142 (by kernel_rfl) rfl #[.agg #[.int .i64 a0_0, .int .i64 a0_1, .int .i64 a0_2], .int .i64 (wrap64 (a0_2 + 1))] (by rfl) rfl rfl (by (try simp only [List.map_toArray, List.map_cons, List.map_nil]); first | done | rfl | (simp only [List.length_drop, List.length_take]; rfl)) ?_
    with_reducible refine (spec_isAll.calls k a0_0 a0_1 a0_2 (wrap64 (a0_2 + 1)) t447 t450 _ A4.out).mono ?_
    rintro e w15 ⟨v448, rfl, ho0, hb⟩
    refine ⟨_, rfl, ?_⟩
    have n0_ := Aside0.mk (Kd.R_elder' (by (with_reducible repeat (first | apply Kd.R_alloc | apply Kd.R_drewN | apply Kd.R_drew)); exact HO438.out) (Kd.R_base ho0) hb)
    have n1_ := Aside0.mk (Kd.R_elder' (by (with_reducible repeat (first | apply Kd.R_alloc | apply Kd.R_drewN | apply Kd.R_drew)); exact HO442.out) (Kd.R_base ho0) hb)
    have n2_ := Aside0.mk (Kd.R_elder' (by (with_reducible repeat (first | apply Kd.R_alloc | apply Kd.R_drewN | apply Kd.R_drew)); exact HO445.out) (Kd.R_base ho0) hb)
    have n3_ := Aside0.mk (Kd.R_lower (Kd.R_new' (Kd.R_new' (Kd.R_new' ho0 (Kd.R_lt (by (with_reducible repeat (first | apply Kd.R_alloc | apply Kd.R_drewN | apply Kd.R_drew)); exact HO438.out))) (Kd.R_lt (by (with_reducible repeat (first | apply Kd.R_alloc | apply Kd.R_drewN | apply Kd.R_drew)); exact HO442.out))) (Kd.R_lt (by (with_reducible repeat (first | apply Kd.R_alloc | apply Kd.R_drewN | apply Kd.R_drew)); exact HO445.out))) (below_size (by repeat (first | (with_reducible first | exact HB.out | apply below_alloc | apply pw_below_drewN | apply below_drew1 | refine below_set ?_ GE435.out) | exact HB.out))))
    have n4_ := Aside0.mk (blk_below (g := gb435) (o := .cells #[.int .i64 a0_0, .int .i64 a0_1, .int .i64 a0_2] 39 (0, 0)) (by (with_reducible repeat (first | refine blk_drewN ?_ _ | refine blk_drew ?_ | refine blk_alloc ?_ _)); exact BK435.out) hb)
    have n5_ := Aside0.mk (below_step (by repeat (first | (with_reducible first | exact HB.out | apply below_alloc | apply pw_below_drewN | apply below_drew1 | refine below_set ?_ GE435.out) | exact HB.out)) hb)
    clear HO438
    clear HO442
    clear HO445
    clear BK435
    clear HB
    have HO438 := n0_
    have HO442 := n1_
    have HO445 := n2_
    have HO449 := n3_
    have BK435 := n4_
    have HB := n5_
    clear n0_ n1_ n2_ n3_ n4_ n5_
    (try clear hb)
    (try clear hb2)
    (try clear hk)
    (try clear hi)
    (try clear ho0)
    obtain ⟨Ao16, co16, eo16⟩ := Kd.R_slice HO449.out
    (first | subst eo16 | (injection eo16 with f1_ f2_ f3_; have f4_ := f1_.symm; have f5_ := f3_.symm; clear f1_ f2_ f3_; subst f4_; subst f5_))
    refine hK.out _ _ ⟨(blk_cell BK435.out 0).trans rfl, (blk_cell BK435.out 1).trans rfl, (blk_cell BK435.out 2).trans rfl⟩ (fun hHeld => ?_)
    clear hK K
    refine norm_ (a' := ?_) ?_ ?_
    rotate_left
    ·show Act.put _ (some 21) _ = _
     simp only [Act.put, List.setIfInBounds_toArray, List.set_cons_zero, List.set_cons_succ, i64_w, i32_w]
     rfl
    refine one_ (i := 6) (N := some 22) #[true, true, true, true, true, true, true, false] rfl rfl (one_of HT_.out (by kernel_rfl)) (by decide) (fun K hK => ?_)
    refine goes_ Try.func190 (by kernel_rfl) rfl #[.agg #[.int .i64 a0_0, .int .i64 a0_1, .int .i64 a0_2], .agg #[.slice Ao16 t447.length co16, .int .i64 t450]] (by rfl) rfl rfl (by (try simp only [List.map_toArray, List.map_cons, List.map_nil]); first | done | rfl | (simp only [List.length_drop, List.length_take]; rfl)) ?_
    with_reducible refine (spec_isCode.calls k a0_0 a0_1 a0_2 _ _ t447 t450 t451 _ ?side1 ?side2 A5.out).mono ?_
    (case side1 => repeat (first | exact (Kd.R_reads' HO449.out).2.2 | (with_reducible refine Kd.C_alloc ?_ _) | (with_reducible refine Kd.C_drewN ?_ _) | (with_reducible refine Kd.C_drew ?_)))
    (case side2 => exact (Kd.R_reads' HO449.out).2.1)
    rintro e w17 ⟨rfl, hb⟩
    refine ⟨_, rfl, ?_⟩
    have n0_ := Aside0.mk (Kd.R_below (by (with_reducible repeat (first | apply Kd.R_alloc | apply Kd.R_drewN | apply Kd.R_drew)); exact HO438.out) hb)
    have n1_ := Aside0.mk (Kd.R_below (by (with_reducible repeat (first | apply Kd.R_alloc | apply Kd.R_drewN | apply Kd.R_drew)); exact HO442.out) hb)
    have n2_ := Aside0.mk (Kd.R_below (by (with_reducible repeat (first | apply Kd.R_alloc | apply Kd.R_drewN | apply Kd.R_drew)); exact HO445.out) hb)
    have n3_ := Aside0.mk (Kd.R_below (by (with_reducible repeat (first | apply Kd.R_alloc | apply Kd.R_drewN | apply Kd.R_drew)); exact HO449.out) hb)
    have n4_ := Aside0.mk (blk_below (g := gb435) (o := .cells #[.int .i64 a0_0, .int .i64 a0_1, .int .i64 a0_2] 39 (0, 0)) (by (with_reducible repeat (first | refine blk_drewN ?_ _ | refine blk_drew ?_ | refine blk_alloc ?_ _)); exact BK435.out) hb)
    have n5_ := Aside0.mk (below_step (by repeat (first | (with_reducible first | exact HB.out | apply below_alloc | apply pw_below_drewN | apply below_drew1 | refine below_set ?_ GE435.out) | exact HB.out)) hb)
    clear HO438
    clear HO442
    clear HO445
    clear HO449
    clear BK435
    clear HB
    have HO438 := n0_
    have HO442 := n1_
    have HO445 := n2_
    have HO449 := n3_
    have BK435 := n4_
    have HB := n5_
    clear n0_ n1_ n2_ n3_ n4_ n5_
    (try clear hb)
    (try clear hb2)
    (try clear hk)
    (try clear hi)
    refine hK.out _ _ ⟨(blk_cell BK435.out 0).trans rfl, (blk_cell BK435.out 1).trans rfl, (blk_cell BK435.out 2).trans rfl⟩ (fun hHeld => ?_)
    clear hK K
    refine norm_ (a' := ?_) ?_ ?_
    rotate_left
    ·show Act.put _ (some 22) _ = _
     simp only [Act.put, List.setIfInBounds_toArray, List.set_cons_zero, List.set_cons_succ, i64_w, i32_w]
     rfl
    refine pure_ (i := 7) (N := some 7) (v := ?_) (a' := ?_) #[true, true, true, true, true, true, true, true] rfl rfl (any_of HT_.out (by kernel_rfl)) (fun _ _ _ h => h) (Or.inl ⟨by rfl, ?_⟩) ?_ ?_
    rotate_left
    ·intro w'
     go_simp
     with_reducible rfl
    rotate_left
    ·simp only [Act.put, List.setIfInBounds_toArray, List.set_cons_zero, List.set_cons_succ, i64_w, i32_w]
     rfl
    refine done_ (done_of HT_.out (by kernel_rfl)) ?_
    try go_wp2
    have n0_ := Aside0.mk (Kd.R_drew HO438.out)
    have n1_ := Aside0.mk (Kd.R_drew HO442.out)
    have n2_ := Aside0.mk (Kd.R_drew HO445.out)
    have n3_ := Aside0.mk (Kd.R_drew HO449.out)
    have n4_ := Aside0.mk (blk_drew BK435.out)
    have n5_ := Aside0.mk (below_drew1 HB.out)
    clear HO438
    clear HO442
    clear HO445
    clear HO449
    clear BK435
    clear HB
    have HO438 := n0_
    have HO442 := n1_
    have HO445 := n2_
    have HO449 := n3_
    have BK435 := n4_
    have HB := n5_
    clear n0_ n1_ n2_ n3_ n4_ n5_
    obtain ⟨Ao19, co19, eo19⟩ := Kd.R_slice HO442.out
    (first | subst eo19 | (injection eo19 with f1_ f2_ f3_; have f4_ := f1_.symm; have f5_ := f3_.symm; clear f1_ f2_ f3_; subst f4_; subst f5_))
    have p452 : 0 ≤ (t451 : Int) := of_decide_eq_true (by first | (with_reducible assumption) | assumption)
    have q452 : t451 < (t440.length : Int) := of_decide_eq_true (by first | (with_reducible assumption) | assumption)
    obtain ⟨ad452, e452, hx452_0⟩ := Kd.at_int (Kd.R_reads' HO442.out).2.2 t451 p452 q452
    cases e452
    replace p452 := eq_true p452
    replace q452 := eq_true q452
    obtain ⟨Ao20, co20, eo20⟩ := Kd.R_slice HO445.out
    (first | subst eo20 | (injection eo20 with f1_ f2_ f3_; have f4_ := f1_.symm; have f5_ := f3_.symm; clear f1_ f2_ f3_; subst f4_; subst f5_))
    have p453 : 0 ≤ (t451 : Int) := of_decide_eq_true (by first | (with_reducible assumption) | assumption)
    have q453 : t451 < (t443.length : Int) := of_decide_eq_true (by first | (with_reducible assumption) | assumption)
    obtain ⟨ad453, e453, hx453_0⟩ := Kd.at_int (Kd.R_reads' HO445.out).2.2 t451 p453 q453
    cases e453
    replace p453 := eq_true p453
    replace q453 := eq_true q453
    refine start_ (n := 10) (S := fun w' => w'.cell? (ad452.add (t451).toNat) = some (.int .i64 (rd t440 t451)) ∧ w'.cell? (ad453.add (t451).toNat) = some (.int .i64 (rd t443 t451))) (ds := []) #[false, false, false, false, false, false, false, false, false, false] (by kernel_rfl) rfl rfl ⟨hx452_0, hx453_0⟩ (fun hHeld => ?_); refine with_tabW spec_isFewest.tab3 spec_isFewest.bits3 (fun HT_ HW_ => ?_)
    generalize w17.drew = w18 at HO438 HO442 HO445 HO449 BK435 HB hx452_0 hx453_0 hHeld ⊢
    refine pure_ (i := 0) (N := some 23) (v := ?_) (a' := ?_) #[true, false, false, false, false, false, false, false, false, false] rfl rfl (any_of HT_.out (by kernel_rfl)) (fun _ _ _ h => h) (Or.inl ⟨by rfl, ?_⟩) ?_ ?_
    rotate_left
    ·intro w'
     go_simp
     with_reducible rfl
    rotate_left
    ·simp only [Act.put, List.setIfInBounds_toArray, List.set_cons_zero, List.set_cons_succ, i64_w, i32_w]
     rfl
    refine pure_ (i := 1) (N := some 24) (v := ?_) (a' := ?_) #[true, true, false, false, false, false, false, false, false, false] rfl rfl (any_of HT_.out (by kernel_rfl)) (fun _ _ _ h => h) (Or.inl ⟨by rfl, ?_⟩) ?_ ?_
    rotate_left
    ·intro w'
     go_simp
     with_reducible rfl
    rotate_left
    ·simp only [Act.put, List.setIfInBounds_toArray, List.set_cons_zero, List.set_cons_succ, i64_w, i32_w]
     rfl
    refine pure_ (i := 2) (N := some 25) (v := ?_) (a' := ?_) #[true, true, true, false, false, false, false, false, false, false] rfl rfl (any_of HT_.out (by kernel_rfl)) (fun _ _ _ h => h) (Or.inl ⟨by rfl, ?_⟩) ?_ ?_
    rotate_left
    ·intro w'
     go_simp
     with_reducible rfl
    rotate_left
    ·simp only [Act.put, List.setIfInBounds_toArray, List.set_cons_zero, List.set_cons_succ, i64_w, i32_w]
     rfl
    refine pure_ (i := 4) (N := some 27) (v := ?_) (a' := ?_) #[true, true, true, false, true, false, false, false, false, false] rfl rfl (any_of HT_.out (by kernel_rfl)) (fun _ _ _ h => h) (Or.inl ⟨by rfl, ?_⟩) ?_ ?_
    rotate_left
    ·intro w'
     go_simp
     with_reducible rfl
    rotate_left
    ·simp only [Act.put, List.setIfInBounds_toArray, List.set_cons_zero, List.set_cons_succ, i64_w, i32_w]
     rfl
    refine pure_ (i := 5) (N := some 28) (v := ?_) (a' := ?_) #[true, true, true, false, true, true, false, false, false, false] rfl rfl (any_of HT_.out (by kernel_rfl)) (fun _ _ _ h => h) (Or.inl ⟨by rfl, ?_⟩) ?_ ?_
    rotate_left
    ·intro w'
     go_simp
     with_reducible rfl
    rotate_left
    ·simp only [Act.put, List.setIfInBounds_toArray, List.set_cons_zero, List.set_cons_succ, i64_w, i32_w]
     rfl
    refine pure_ (i := 6) (N := some 29) (v := ?_) (a' := ?_) #[true, true, true, false, true, true, true, false, false, false] rfl rfl (any_of HT_.out (by kernel_rfl)) (fun _ _ _ h => h) (Or.inl ⟨by rfl, ?_⟩) ?_ ?_
    rotate_left
    ·intro w'
     go_simp
     with_reducible rfl
    rotate_left
    ·simp only [Act.put, List.setIfInBounds_toArray, List.set_cons_zero, List.set_cons_succ, i64_w, i32_w]
     rfl
    refine take_ (i := 3) (N := some 26) (v := ?_) (a' := ?_) #[true, true, true, true, true, true, true, false, false, false] rfl rfl (take_ofW HT_.out HW_.out (by kernel_rfl)) (fun _ _ _ h => h) (Or.inl ⟨by rfl, ?_⟩) hHeld ?_ ?_
    rotate_left
    ·rintro w' ⟨s0, s1⟩
     go_simp
     with_reducible rfl
    rotate_left
    ·simp only [Act.put, List.setIfInBounds_toArray, List.set_cons_zero, List.set_cons_succ, i64_w, i32_w]
     rfl
    refine pure_ (i := 8) (N := some 2) (v := ?_) (a' := ?_) #[true, true, true, true, true, true, true, false, true, false] rfl rfl (any_of HT_.out (by kernel_rfl)) (fun _ _ _ h => h) (Or.inl ⟨by rfl, ?_⟩) ?_ ?_
    rotate_left
    ·intro w'
     go_simp
     with_reducible rfl
    rotate_left
    ·simp only [Act.put, List.setIfInBounds_toArray, List.set_cons_zero, List.set_cons_succ, i64_w, i32_w]
     rfl
    refine take_ (i := 7) (N := some 30) (v := ?_) (a' := ?_) #[true, true, true, true, true, true, true, true, true, false] rfl rfl (take_ofW HT_.out HW_.out (by kernel_rfl)) (fun _ _ _ h => h) (Or.inl ⟨by rfl, ?_⟩) hHeld ?_ ?_
    rotate_left
    ·rintro w' ⟨s0, s1⟩
     go_simp
     with_reducible rfl
    rotate_left
    ·simp only [Act.put, List.setIfInBounds_toArray, List.set_cons_zero, List.set_cons_succ, i64_w, i32_w]
     rfl
    refine pure_ (i := 9) (N := some 3) (v := ?_) (a' := ?_) #[true, true, true, true, true, true, true, true, true, true] rfl rfl (any_of HT_.out (by kernel_rfl)) (fun _ _ _ h => h) (Or.inl ⟨by rfl, ?_⟩) ?_ ?_
    rotate_left
    ·intro w'
     go_simp
     with_reducible rfl
    rotate_left
    ·simp only [Act.put, List.setIfInBounds_toArray, List.set_cons_zero, List.set_cons_succ, i64_w, i32_w]
     rfl
    refine done_ (done_of HT_.out (by kernel_rfl)) ?_
    try go_wp2
    go_ret2
    exact ⟨by first | rfl | (simp [errW_none, errW_some] <;> rfl) | (simp [*, errW_none, errW_some] <;> rfl), by repeat (first | (with_reducible first | exact HB.out | apply below_alloc | apply pw_below_drewN | apply below_drew1 | refine below_set ?_ GE435.out) | exact HB.out)⟩
   ·rw [if_neg c8] at H
    exact absurd H (by simp)
  ·rw [if_neg c7] at H
   exact absurd H (by simp)
 ·rw [if_neg c6] at H
  exact absurd H (by simp)
end Go.Proofs.Ytlkjglanglpdoaa.T
namespace Go.Proofs.Ytlkjglanglpdoaa.T
open Go.RowKit Go.Proofs.YtlkjglanglpdoaaW.PrintWords Go.Proofs.YtlkjglanglpdoaaW.PrintLast Go.Proofs.YtlkjglanglpdoaaW.PrintMore
set_option linter.unusedVariables false
set_option linter.unusedSimpArgs false
theorem isGood_eq (a0 a1 a2 : Int) : ∃ b, spec_isGood.f a0 a1 a2 = some b ∧ (b = true ↔ IslOk a0 a1 a2) := by
  unfold spec_isGood.f IslOk
  rw [inS_eq, inS_eq, inS_eq]
  simp only [Option.bind_some, decide_eq_true_eq]
  by_cases h0 : 1 ≤ a0 ∧ a0 ≤ 3
  · rw [if_pos h0]
    by_cases h1 : 1 ≤ a1 ∧ a1 ≤ 3
    · rw [if_pos h1]
      exact ⟨_, rfl, by rw [decide_eq_true_eq]; exact ⟨fun h => ⟨h0, h1, h⟩, fun h => h.2.2⟩⟩
    · rw [if_neg h1]
      exact ⟨_, rfl, ⟨fun h => (Bool.false_ne_true h).elim, fun h => absurd h.2.1 h1⟩⟩
  · rw [if_neg h0]
    exact ⟨_, rfl, ⟨fun h => (Bool.false_ne_true h).elim, fun h => absurd h.1 h0⟩⟩
theorem isGood_yes {a0 a1 a2 : Int} (hI : IslOk a0 a1 a2) : spec_isGood.f a0 a1 a2 = some true := by
  obtain ⟨b, h, hb⟩ := isGood_eq a0 a1 a2
  rw [h, hb.2 hI]
theorem isGood_no {a0 a1 a2 : Int} (hI : ¬ IslOk a0 a1 a2) : spec_isGood.f a0 a1 a2 = some false := by
  obtain ⟨b, h, hb⟩ := isGood_eq a0 a1 a2
  rw [h]
  cases b
  · rfl
  · exact absurd (hb.1 rfl) hI
def manyR : Nat := 6000001
theorem fewest_eq {a0 a1 a2 : Int} (hI : IslOk a0 a1 a2) (k : Nat) (hk : 6000000 < k) : ∃ (far ways : List Int) (q : List S64) (i : Nat), spec_isFewest.f k a0 a1 a2 = some (fewV a0 a1 a2, rd ways (cdS a2 (allS a0 (a2 + 1)))) ∧ spec_isFar.f k a0 a1 a2 (allS a0 0).f0 (allS a0 0).f1 = some (far, ways, (q.length : Int)) ∧ ways.length = sizeS a0 a2 := by
  obtain ⟨far, ways, q, i, hf, hB, hi, hw⟩ := far_eq hI (allS a0 0) (allS_good hI ⟨by omega, by have := hI.2.2; omega⟩) k hk
  have hg := allS_good hI (p := a2 + 1) ⟨by have := hI.2.2; omega, by omega⟩
  have hc := cdS_code hI.2.2.1 hg
  have hfew := few_far hI hB hi
  refine ⟨far, ways, q, i, ?_, hf, hw⟩
  unfold spec_isFewest.f
  rw [allS_eq a0 a1 a2 0 hI.1 k (by omega), Option.bind_some]
  rw [show spec_isFar.f k a0 a1 a2 (List.replicate (2 * a0).toNat 0, (0 : Int)).1 (List.replicate (2 * a0).toNat 0, (0 : Int)).2 = some (far, ways, (q.length : Int)) from hf, Option.bind_some]
  rw [show wrap64 (a2 + 1) = a2 + 1 from by have := hI.2.2; unfold wrap64; omega, allS_eq a0 a1 a2 (a2 + 1) hI.1 k (by omega), Option.bind_some]
  have hcode : spec_isCode.f k a0 a1 a2 (List.replicate (2 * a0).toNat (a2 + 1)) (a2 + 1) = some (cdS a2 (allS a0 (a2 + 1)) : Int) := by
    rw [codeS_eq a0 a1 a2 hI.2.2 _ _ (by have := hI.1; simp; omega) (fun x hx => by rw [List.eq_of_mem_replicate hx]; have := hI.2.2; omega) (by have := hI.2.2; omega) k (by have := hI.1; simp; omega)]
    exact congrArg some hc.1
  rw [show spec_isCode.f k a0 a1 a2 (List.replicate (2 * a0).toNat (a2 + 1), a2 + 1).1 (List.replicate (2 * a0).toNat (a2 + 1), a2 + 1).2 = some (cdS a2 (allS a0 (a2 + 1)) : Int) from hcode, Option.bind_some]
  have hfl := hB.len
  rw [if_pos (by omega), if_pos (by show (cdS a2 (allS a0 (a2 + 1)) : Int) < (far.length : Int); omega), if_pos (by show (cdS a2 (allS a0 (a2 + 1)) : Int) < (ways.length : Int); omega)]
  show some (rd far _, rd ways _) = _
  rw [hfew]
end Go.Proofs.Ytlkjglanglpdoaa.T
namespace Go.Proofs.Ytlkjglanglpdoaa.T
open Go.RowKit Go.Proofs.YtlkjglanglpdoaaW.PrintWords Go.Proofs.YtlkjglanglpdoaaW.PrintLast Go.Proofs.YtlkjglanglpdoaaW.PrintMore
attribute [local go_sem] max2_int min2_int max_two min_two max_three min_three max_four min_four
set_option linter.unusedVariables false
set_option linter.unusedSimpArgs false
def spec_CountVoyages.f (k : Nat) (a0_0 : Int) (a0_1 : Int) (a0_2 : Int) : Option (Int × Bool) := (spec_isGood.f a0_0 a0_1 a0_2).bind fun t492 => (if t492 = true then ((spec_isFewest.f k a0_0 a0_1 a0_2).bind fun bt493 => (if bt493.1 < 0 then (some (0, true)) else (some (bt493.2, true)))) else (some (0, false)))
theorem spec_CountVoyages.mono : ∀ a0 a1 a2 k, LeO (spec_CountVoyages.f k a0 a1 a2) (spec_CountVoyages.f (k + 1) a0 a1 a2) := by
 intro a0 a1 a2 k
 unfold spec_CountVoyages.f
 repeat' first
   | (with_reducible exact spec_isFewest.mono _ _ _ _)
   | (with_reducible exact LeO.refl _)
   | (with_reducible exact LeO.none _)
   | (with_reducible refine LeO.ite ?_ ?_)
   | (with_reducible refine LeO.bind ?_ (fun _ => ?_))
   | exact spec_isFewest.mono _ _ _ _
   | exact LeO.none _
   | refine LeO.ite ?_ ?_
   | refine LeO.bind ?_ (fun _ => ?_)
set_option maxHeartbeats 8000000 in
set_option maxRecDepth 100000 in
theorem spec_CountVoyages.calls (k : Nat) (a0_0 : Int) (a0_1 : Int) (a0_2 : Int) (r1 : Int) (r2 : Bool) (w : World) (h : spec_CountVoyages.f k a0_0 a0_1 a0_2 = some (r1, r2)) :
  Calls Try.prog 33 #[.agg #[.int .i64 a0_0, .int .i64 a0_1, .int .i64 a0_2]] w fun e w' => e = .returned (.tuple #[.int .i64 r1, .bool r2]) ∧ Below w.heap.size w w' := by
 have hu39 := Try.underlying39
 have HB := Aside0.mk (Below.refl w.heap.size w)
 have H : ((spec_isGood.f a0_0 a0_1 a0_2).bind fun t492 => (if t492 = true then ((spec_isFewest.f k a0_0 a0_1 a0_2).bind fun bt493 => (if bt493.1 < 0 then (some (0, true)) else (some (bt493.2, true)))) else (some (0, false)))) = some (r1, r2) := h
 clear h
 replace H := Option.bind_eq_some_iff.mp H
 obtain ⟨t492, A20, H⟩ := H
 replace H : (if t492 = true then ((spec_isFewest.f k a0_0 a0_1 a0_2).bind fun bt493 => (if bt493.1 < 0 then (some (0, true)) else (some (bt493.2, true)))) else (some (0, false))) = some (r1, r2) := H
 have A2 := Aside0.mk A20
 clear A20
 by_cases c3 : t492 = true
 ·subst c3
  have H1 : ((spec_isFewest.f k a0_0 a0_1 a0_2).bind fun bt493 => (if bt493.1 < 0 then (some (0, true)) else (some (bt493.2, true)))) = some (r1, r2) := by rw [if_pos rfl] at H; exact H
  clear H
  have H := H1
  clear H1
  replace H := Option.bind_eq_some_iff.mp H
  obtain ⟨⟨t493, t494⟩, A40, H⟩ := H
  replace H : (if t493 < 0 then (some (0, true)) else (some (t494, true))) = some (r1, r2) := H
  have A4 := Aside0.mk A40
  clear A40
  by_cases c5 : t493 < 0
  ·rw [if_pos c5] at H
   have c5b0 : decide (t493 < 0) = true := decide_eq_true c5
   clear c5
   simp only [Option.some.injEq, Prod.mk.injEq] at H
   obtain ⟨rfl, rfl⟩ := H
   go_enter Try.func33, Try.ntmps33
   go_wp2_with (first | ((with_reducible refine gate_dst (N := 1) rfl ?_); refine box_event ?hg (N := 1) ?hd (cs := #[.int .i64 a0_0, .int .i64 a0_1, .int .i64 a0_2]) (t := 39) ?hr ?_; (case hd => rfl); (case hg => rfl); (case hr => first | (go_simp; done) | (go_simp; rfl)); intro gb491 hg w6 hbox hb; have n0_ := Aside0.mk (below_step (by repeat (first | (with_reducible first | exact HB.out | apply below_alloc | apply pw_below_drewN | apply below_drew1) | exact HB.out)) hb); have n1_ := Aside0.mk (hbox); have n2_ := Aside0.mk ((by rw [hg]; exact (below_size (by repeat (first | (with_reducible first | exact HB.out | apply below_alloc | apply pw_below_drewN | apply below_drew1) | exact HB.out))) : w.heap.size ≤ gb491)); have n3_ := Aside0.mk ((by rw [hg]; exact (below_size (by repeat (first | (with_reducible first | exact HB.out | apply below_alloc | apply pw_below_drewN | apply below_drew1) | exact HB.out))) : w.heap.size ≤ gb491)); clear HB; have HB := n0_; have BK491 := n1_; have GW491 := n2_; have GE491 := n3_; clear n0_ n1_ n2_ n3_; clear hb hbox hg; have hcz7_0 : w6.cell? ⟨gb491, 0, none⟩ = some (.int .i64 a0_0) := (blk_cell BK491.out 0).trans rfl; have hcz7_1 : w6.cell? ⟨gb491, 1, none⟩ = some (.int .i64 a0_1) := (blk_cell BK491.out 1).trans rfl; have hcz7_2 : w6.cell? ⟨gb491, 2, none⟩ = some (.int .i64 a0_2) := (blk_cell BK491.out 2).trans rfl; have hfz7_0 := blk_frozen BK491.out 0; have hfz7_1 := blk_frozen BK491.out 1; have hfz7_2 := blk_frozen BK491.out 2) | ((with_reducible refine gate_callee (f := 140) rfl ?_); refine goesL_ (some 7) rfl rfl Try.func140 (by kernel_rfl) rfl #[.agg #[.int .i64 a0_0, .int .i64 a0_1, .int .i64 a0_2]] rfl (by (try simp only [List.map_toArray, List.map_cons, List.map_nil]); first | done | rfl | (simp only [List.length_drop, List.length_take]; rfl)) ?_; (with_reducible refine (spec_isGood.calls a0_0 a0_1 a0_2 true _ A2.out).mono ?_); rintro e w8 ⟨rfl, hb⟩; refine ⟨_, rfl, ?_⟩; have n0_ := Aside0.mk (blk_below (g := gb491) (o := .cells #[.int .i64 a0_0, .int .i64 a0_1, .int .i64 a0_2] 39 (0, 0)) (by (with_reducible repeat (first | refine blk_drewN ?_ _ | refine blk_drew ?_ | refine blk_alloc ?_ _)); exact BK491.out) hb); have n1_ := Aside0.mk (below_step (by repeat (first | (with_reducible first | exact HB.out | apply below_alloc | apply pw_below_drewN | apply below_drew1 | refine below_set ?_ GE491.out) | exact HB.out)) hb); clear BK491; clear HB; have BK491 := n0_; have HB := n1_; clear n0_ n1_; (try clear hb); (try clear hb2); (try clear hk); (try clear hi); have hcz9_0 : w8.cell? ⟨gb491, 0, none⟩ = some (.int .i64 a0_0) := (blk_cell BK491.out 0).trans rfl; have hcz9_1 : w8.cell? ⟨gb491, 1, none⟩ = some (.int .i64 a0_1) := (blk_cell BK491.out 1).trans rfl; have hcz9_2 : w8.cell? ⟨gb491, 2, none⟩ = some (.int .i64 a0_2) := (blk_cell BK491.out 2).trans rfl; have hfz9_0 := blk_frozen BK491.out 0; have hfz9_1 := blk_frozen BK491.out 1; have hfz9_2 := blk_frozen BK491.out 2) | ((with_reducible refine gate_callee (f := 145) rfl ?_); refine goesL_ (some 11) rfl rfl Try.func145 (by kernel_rfl) rfl #[.agg #[.int .i64 a0_0, .int .i64 a0_1, .int .i64 a0_2]] rfl (by (try simp only [List.map_toArray, List.map_cons, List.map_nil]); first | done | rfl | (simp only [List.length_drop, List.length_take]; rfl)) ?_; (with_reducible refine (spec_isFewest.calls k a0_0 a0_1 a0_2 t493 t494 _ A4.out).mono ?_); rintro e w10 ⟨rfl, hb⟩; refine ⟨_, rfl, ?_⟩; have n0_ := Aside0.mk (blk_below (g := gb491) (o := .cells #[.int .i64 a0_0, .int .i64 a0_1, .int .i64 a0_2] 39 (0, 0)) (by (with_reducible repeat (first | refine blk_drewN ?_ _ | refine blk_drew ?_ | refine blk_alloc ?_ _)); exact BK491.out) hb); have n1_ := Aside0.mk (below_step (by repeat (first | (with_reducible first | exact HB.out | apply below_alloc | apply pw_below_drewN | apply below_drew1 | refine below_set ?_ GE491.out) | exact HB.out)) hb); clear BK491; clear HB; have BK491 := n0_; have HB := n1_; clear n0_ n1_; (try clear hb); (try clear hb2); (try clear hk); (try clear hi)))
   go_ret2
   exact ⟨by first | rfl | (simp [errW_none, errW_some] <;> rfl) | (simp [*, errW_none, errW_some] <;> rfl), by repeat (first | (with_reducible first | exact HB.out | apply below_alloc | apply pw_below_drewN | apply below_drew1 | refine below_set ?_ GE491.out) | exact HB.out)⟩
  ·rw [if_neg c5] at H
   have c5b0 : decide (t493 < 0) = false := decide_eq_false c5
   clear c5
   simp only [Option.some.injEq, Prod.mk.injEq] at H
   obtain ⟨rfl, rfl⟩ := H
   go_enter Try.func33, Try.ntmps33
   go_wp2_with (first | ((with_reducible refine gate_dst (N := 1) rfl ?_); refine box_event ?hg (N := 1) ?hd (cs := #[.int .i64 a0_0, .int .i64 a0_1, .int .i64 a0_2]) (t := 39) ?hr ?_; (case hd => rfl); (case hg => rfl); (case hr => first | (go_simp; done) | (go_simp; rfl)); intro gb491 hg w11 hbox hb; have n0_ := Aside0.mk (below_step (by repeat (first | (with_reducible first | exact HB.out | apply below_alloc | apply pw_below_drewN | apply below_drew1) | exact HB.out)) hb); have n1_ := Aside0.mk (hbox); have n2_ := Aside0.mk ((by rw [hg]; exact (below_size (by repeat (first | (with_reducible first | exact HB.out | apply below_alloc | apply pw_below_drewN | apply below_drew1) | exact HB.out))) : w.heap.size ≤ gb491)); have n3_ := Aside0.mk ((by rw [hg]; exact (below_size (by repeat (first | (with_reducible first | exact HB.out | apply below_alloc | apply pw_below_drewN | apply below_drew1) | exact HB.out))) : w.heap.size ≤ gb491)); clear HB; have HB := n0_; have BK491 := n1_; have GW491 := n2_; have GE491 := n3_; clear n0_ n1_ n2_ n3_; clear hb hbox hg; have hcz12_0 : w11.cell? ⟨gb491, 0, none⟩ = some (.int .i64 a0_0) := (blk_cell BK491.out 0).trans rfl; have hcz12_1 : w11.cell? ⟨gb491, 1, none⟩ = some (.int .i64 a0_1) := (blk_cell BK491.out 1).trans rfl; have hcz12_2 : w11.cell? ⟨gb491, 2, none⟩ = some (.int .i64 a0_2) := (blk_cell BK491.out 2).trans rfl; have hfz12_0 := blk_frozen BK491.out 0; have hfz12_1 := blk_frozen BK491.out 1; have hfz12_2 := blk_frozen BK491.out 2) | ((with_reducible refine gate_callee (f := 140) rfl ?_); refine goesL_ (some 7) rfl rfl Try.func140 (by kernel_rfl) rfl #[.agg #[.int .i64 a0_0, .int .i64 a0_1, .int .i64 a0_2]] rfl (by (try simp only [List.map_toArray, List.map_cons, List.map_nil]); first | done | rfl | (simp only [List.length_drop, List.length_take]; rfl)) ?_; (with_reducible refine (spec_isGood.calls a0_0 a0_1 a0_2 true _ A2.out).mono ?_); rintro e w13 ⟨rfl, hb⟩; refine ⟨_, rfl, ?_⟩; have n0_ := Aside0.mk (blk_below (g := gb491) (o := .cells #[.int .i64 a0_0, .int .i64 a0_1, .int .i64 a0_2] 39 (0, 0)) (by (with_reducible repeat (first | refine blk_drewN ?_ _ | refine blk_drew ?_ | refine blk_alloc ?_ _)); exact BK491.out) hb); have n1_ := Aside0.mk (below_step (by repeat (first | (with_reducible first | exact HB.out | apply below_alloc | apply pw_below_drewN | apply below_drew1 | refine below_set ?_ GE491.out) | exact HB.out)) hb); clear BK491; clear HB; have BK491 := n0_; have HB := n1_; clear n0_ n1_; (try clear hb); (try clear hb2); (try clear hk); (try clear hi); have hcz14_0 : w13.cell? ⟨gb491, 0, none⟩ = some (.int .i64 a0_0) := (blk_cell BK491.out 0).trans rfl; have hcz14_1 : w13.cell? ⟨gb491, 1, none⟩ = some (.int .i64 a0_1) := (blk_cell BK491.out 1).trans rfl; have hcz14_2 : w13.cell? ⟨gb491, 2, none⟩ = some (.int .i64 a0_2) := (blk_cell BK491.out 2).trans rfl; have hfz14_0 := blk_frozen BK491.out 0; have hfz14_1 := blk_frozen BK491.out 1; have hfz14_2 := blk_frozen BK491.out 2) | ((with_reducible refine gate_callee (f := 145) rfl ?_); refine goesL_ (some 11) rfl rfl Try.func145 (by kernel_rfl) rfl #[.agg #[.int .i64 a0_0, .int .i64 a0_1, .int .i64 a0_2]] rfl (by (try simp only [List.map_toArray, List.map_cons, List.map_nil]); first | done | rfl | (simp only [List.length_drop, List.length_take]; rfl)) ?_; (with_reducible refine (spec_isFewest.calls k a0_0 a0_1 a0_2 t493 t494 _ A4.out).mono ?_); rintro e w15 ⟨rfl, hb⟩; refine ⟨_, rfl, ?_⟩; have n0_ := Aside0.mk (blk_below (g := gb491) (o := .cells #[.int .i64 a0_0, .int .i64 a0_1, .int .i64 a0_2] 39 (0, 0)) (by (with_reducible repeat (first | refine blk_drewN ?_ _ | refine blk_drew ?_ | refine blk_alloc ?_ _)); exact BK491.out) hb); have n1_ := Aside0.mk (below_step (by repeat (first | (with_reducible first | exact HB.out | apply below_alloc | apply pw_below_drewN | apply below_drew1 | refine below_set ?_ GE491.out) | exact HB.out)) hb); clear BK491; clear HB; have BK491 := n0_; have HB := n1_; clear n0_ n1_; (try clear hb); (try clear hb2); (try clear hk); (try clear hi)))
   go_ret2
   exact ⟨by first | rfl | (simp [errW_none, errW_some] <;> rfl) | (simp [*, errW_none, errW_some] <;> rfl), by repeat (first | (with_reducible first | exact HB.out | apply below_alloc | apply pw_below_drewN | apply below_drew1 | refine below_set ?_ GE491.out) | exact HB.out)⟩
 ·replace c3 := Bool.eq_false_iff.mpr c3
  subst c3
  have H1 : (some (0, false)) = some (r1, r2) := by rw [if_neg (show ¬ (false = true) by decide)] at H; exact H
  clear H
  have H := H1
  clear H1
  simp only [Option.some.injEq, Prod.mk.injEq] at H
  obtain ⟨rfl, rfl⟩ := H
  go_enter Try.func33, Try.ntmps33
  go_wp2_with (first | ((with_reducible refine gate_dst (N := 1) rfl ?_); refine box_event ?hg (N := 1) ?hd (cs := #[.int .i64 a0_0, .int .i64 a0_1, .int .i64 a0_2]) (t := 39) ?hr ?_; (case hd => rfl); (case hg => rfl); (case hr => first | (go_simp; done) | (go_simp; rfl)); intro gb491 hg w16 hbox hb; have n0_ := Aside0.mk (below_step (by repeat (first | (with_reducible first | exact HB.out | apply below_alloc | apply pw_below_drewN | apply below_drew1) | exact HB.out)) hb); have n1_ := Aside0.mk (hbox); have n2_ := Aside0.mk ((by rw [hg]; exact (below_size (by repeat (first | (with_reducible first | exact HB.out | apply below_alloc | apply pw_below_drewN | apply below_drew1) | exact HB.out))) : w.heap.size ≤ gb491)); have n3_ := Aside0.mk ((by rw [hg]; exact (below_size (by repeat (first | (with_reducible first | exact HB.out | apply below_alloc | apply pw_below_drewN | apply below_drew1) | exact HB.out))) : w.heap.size ≤ gb491)); clear HB; have HB := n0_; have BK491 := n1_; have GW491 := n2_; have GE491 := n3_; clear n0_ n1_ n2_ n3_; clear hb hbox hg; have hcz17_0 : w16.cell? ⟨gb491, 0, none⟩ = some (.int .i64 a0_0) := (blk_cell BK491.out 0).trans rfl; have hcz17_1 : w16.cell? ⟨gb491, 1, none⟩ = some (.int .i64 a0_1) := (blk_cell BK491.out 1).trans rfl; have hcz17_2 : w16.cell? ⟨gb491, 2, none⟩ = some (.int .i64 a0_2) := (blk_cell BK491.out 2).trans rfl; have hfz17_0 := blk_frozen BK491.out 0; have hfz17_1 := blk_frozen BK491.out 1; have hfz17_2 := blk_frozen BK491.out 2) | ((with_reducible refine gate_callee (f := 140) rfl ?_); refine goesL_ (some 7) rfl rfl Try.func140 (by kernel_rfl) rfl #[.agg #[.int .i64 a0_0, .int .i64 a0_1, .int .i64 a0_2]] rfl (by (try simp only [List.map_toArray, List.map_cons, List.map_nil]); first | done | rfl | (simp only [List.length_drop, List.length_take]; rfl)) ?_; (with_reducible refine (spec_isGood.calls a0_0 a0_1 a0_2 false _ A2.out).mono ?_); rintro e w18 ⟨rfl, hb⟩; refine ⟨_, rfl, ?_⟩; have n0_ := Aside0.mk (blk_below (g := gb491) (o := .cells #[.int .i64 a0_0, .int .i64 a0_1, .int .i64 a0_2] 39 (0, 0)) (by (with_reducible repeat (first | refine blk_drewN ?_ _ | refine blk_drew ?_ | refine blk_alloc ?_ _)); exact BK491.out) hb); have n1_ := Aside0.mk (below_step (by repeat (first | (with_reducible first | exact HB.out | apply below_alloc | apply pw_below_drewN | apply below_drew1 | refine below_set ?_ GE491.out) | exact HB.out)) hb); clear BK491; clear HB; have BK491 := n0_; have HB := n1_; clear n0_ n1_; (try clear hb); (try clear hb2); (try clear hk); (try clear hi)))
  go_ret2
  exact ⟨by first | rfl | (simp [errW_none, errW_some] <;> rfl) | (simp [*, errW_none, errW_some] <;> rfl), by repeat (first | (with_reducible first | exact HB.out | apply below_alloc | apply pw_below_drewN | apply below_drew1 | refine below_set ?_ GE491.out) | exact HB.out)⟩
end Go.Proofs.Ytlkjglanglpdoaa.T
namespace Go.Proofs.Ytlkjglanglpdoaa.T
open Go.RowKit Go.Proofs.YtlkjglanglpdoaaW.PrintWords Go.Proofs.YtlkjglanglpdoaaW.PrintLast Go.Proofs.YtlkjglanglpdoaaW.PrintMore
set_option linter.unusedVariables false
set_option linter.unusedSimpArgs false
noncomputable def cntV (a0 a1 a2 : Int) : Int := wrap64 (paths a1 a2 (allS a0 (a2 + 1)) (fewV a0 a1 a2).toNat (allS a0 0))
open Classical in
noncomputable def cntR (a0 a1 a2 : Int) : Int × Bool := if IslOk a0 a1 a2 then (if 0 ≤ fewV a0 a1 a2 then cntV a0 a1 a2 else 0, true) else (0, false)
theorem least_few {a0 a1 a2 : Int} (hI : IslOk a0 a1 a2) : IsLeast (EB a0 a1 a2) (cdS a2 (allS a0 0)) (cdS a2 (allS a0 (a2 + 1))) (fewV a0 a1 a2) := by
  have h2 := hI.2.2
  have g0 := allS_good hI (p := 0) ⟨by omega, by omega⟩
  have g1 := allS_good hI (p := a2 + 1) ⟨by omega, by omega⟩
  have h := least_is (EB a0 a1 a2) (cdS a2 (allS a0 0)) (cdS a2 (allS a0 (a2 + 1)))
  rw [← least_same hI g0 g1, least_back4 hI g0 g1, c4_first] at h
  exact h
theorem ways_few {a0 a1 a2 : Int} (hI : IslOk a0 a1 a2) (h0 : 0 ≤ fewV a0 a1 a2) : spec_isFewest.f manyR a0 a1 a2 = some (fewV a0 a1 a2, cntV a0 a1 a2) := by
  have h2 := hI.2.2
  have g0 := allS_good hI (p := 0) ⟨by omega, by omega⟩
  have g1 := allS_good hI (p := a2 + 1) ⟨by omega, by omega⟩
  obtain ⟨far, ways, q, i, hf, hfar, hw⟩ := fewest_eq hI manyR (by unfold manyR; omega)
  obtain ⟨far', ways', q', i', hfar', hB, hi', hw'⟩ := far_eqW hI (allS a0 0) g0 (allS a0 (a2 + 1)) (fewV a0 a1 a2) (least_few hI) h0 g1 manyR (by unfold manyR; omega)
  rw [hfar] at hfar'
  obtain ⟨rfl, rfl, _⟩ : far = far' ∧ ways = ways' ∧ (q.length : Int) = (q'.length : Int) := by
    have := Option.some.inj hfar'
    exact ⟨congrArg (fun z => z.1) this, congrArg (fun z => z.2.1) this, congrArg (fun z => z.2.2) this⟩
  have hc := (cdS_code h2.1 g1).2
  have hfew := few_far hI hB.toBfs hi'
  obtain ⟨p, hp, e⟩ := List.mem_map.1 ((hB.told _ hc).1 (by omega))
  have hpx := cdS_inj h2.1 (hB.good p hp) g1 e
  subst hpx
  have hcong := hB.fin (fun h => absurd h (by omega)) hp
  rw [hf, ← hB.rng _ hc]
  unfold cntV
  rw [wrap_eq hcong]
theorem least_small {a0 a1 a2 : Int} (hI : IslOk a0 a1 a2) {x : S64} (hx : GoodS a0 a2 x) (c : Nat) : least (eV (E4 a0 a1 a2)) (c4S x) c ≤ 1048576 := by
  rcases least_is (eV (E4 a0 a1 a2)) (c4S x) c with ⟨h, _⟩ | ⟨n, h, hw, hl⟩
  · omega
  · obtain ⟨p, hp, e, _⟩ := way_to hI hx hw
    subst e
    obtain ⟨far, ways, q, i, _, hB, hi, _⟩ := far_eq hI x hx manyR (by unfold manyR; omega)
    have hc := (cdS_code hI.2.2.1 hp).2
    have h1 := hB.ends hI.2.2.1 hi _ hc
    rw [← least_same hI hx hp, h] at h1
    obtain ⟨p', hp', e'⟩ := List.mem_map.1 ((hB.told _ hc).1 (by omega))
    obtain ⟨j, hj, hje⟩ := mem_at hp'
    have h2 := hB.deep j hj
    rw [hje, e', h1] at h2
    have h3 := hB.small hI.2.2.1
    have h4 := sizeS_le hI.1 hI.2.2
    omega
set_option maxHeartbeats 3200000 in
set_option maxRecDepth 100000 in
theorem countI (a0 a1 a2 : Int) (w : World) :
    Calls Try.prog 34 #[.agg #[.int .i64 a0, .int .i64 a1, .int .i64 a2]] w fun e w' => e = .returned (.tuple #[.int .i64 (cntR a0 a1 a2).1, .bool (cntR a0 a1 a2).2]) ∧ Below w.heap.size w w' := by
  obtain ⟨b, hf, hb⟩ := isIsles_eq a0 a1 a2
  have HF := Aside0.mk hf
  clear hf
  cases b
  · have hno : ¬ IslOk a0 a1 a2 := fun h => Bool.false_ne_true (hb.2 h)
    have hr : cntR a0 a1 a2 = (0, false) := by unfold cntR; rw [if_neg hno]
    rw [hr]
    clear hb hno hr
    go_enter Try.func34, Try.ntmps34
    go_wp2_with (go_at_call 59; refine (impl_IsIsles.calls a0 a1 a2 false _ HF.out).mono ?_; rintro e w5 ⟨rfl, hd⟩; have HB := Aside0.mk hd; clear hd)
    go_ret2
    exact ⟨rfl, (below_alloc (Below.refl _ _) _).trans (HB.out.mono (by simp))⟩
  · have hI := hb.1 rfl
    have HI := Aside0.mk hI
    have hr : cntR a0 a1 a2 = (if 0 ≤ fewV a0 a1 a2 then cntV a0 a1 a2 else 0, true) := by unfold cntR; rw [if_pos hI]
    have HR := Aside0.mk hr
    clear hb hI hr
    go_enter Try.func34, Try.ntmps34
    go_wp2_with (go_at_call 59; refine (impl_IsIsles.calls a0 a1 a2 true _ HF.out).mono ?_; rintro e w5 ⟨rfl, hd⟩; have hblk := blk_below (blk_new w (.cells #[.int .i64 a0, .int .i64 a1, .int .i64 a2] 39)) hd; have hz0 : w5.cell? ⟨w.heap.size, 0, none⟩ = some (.int .i64 a0) := (blk_cell hblk 0).trans rfl; have hz1 : w5.cell? ⟨w.heap.size, 1, none⟩ = some (.int .i64 a1) := (blk_cell hblk 1).trans rfl; have hz2 : w5.cell? ⟨w.heap.size, 2, none⟩ = some (.int .i64 a2) := (blk_cell hblk 2).trans rfl; have HB := Aside0.mk ((below_alloc (Below.refl w.heap.size w) (.cells #[.int .i64 a0, .int .i64 a1, .int .i64 a2] 39)).trans (hd.mono (by simp))); clear hd hblk)
    refine (costsI HI.out _).mono ?_
    rintro e w12 ⟨pw, bd, cd, ds, rfl, his, hr, hlen, hle, hd⟩
    have hfew : rd ds 0 = fewV a0 a1 a2 := hle 0 (many4_lt HI.out).1
    have HO := Aside0.mk (outs_isles HI.out (wb := w5) his hd)
    have HDS := Aside0.mk (Kd.R_reads' hr)
    have HLEN := Aside0.mk hlen
    have HLE := Aside0.mk hle
    have HB2 := Aside0.mk (HB.out.trans (hd.mono HB.out.size))
    have HFEW := Aside0.mk hfew
    clear his hr hlen hle hd hfew
    by_cases hk : 0 ≤ rd ds 0
    · have c0b : decide (0 ≤ rd ds 0) = true := by simpa using hk
      have HK := Aside0.mk hk
      clear hk
      have hz := zero_good HI.out
      have hsm : ∀ c : Nat, c < many4 a0 → -1 ≤ rd ds (c : Int) ∧ rd ds (c : Int) ≤ 1048576 := fun c hc => by
        rw [HLE.out c hc]
        exact ⟨least_ge _ _ _, least_small HI.out (allS_good HI.out ⟨by have := HI.out.2.2; omega, by omega⟩) c⟩
      have hcnt : ∀ W, Below w12.heap.size w12 W → Calls Try.prog 147 #[.agg #[.int .i64 (many4 a0 : Int), .func (.func 252) #[] #[.pointer (some ⟨pw, 0, none⟩)]], .int .i64 0, .slice (some ⟨bd, 0, none⟩) ds.length cd] W fun e w' => e = .returned (.int .i64 (cntV a0 a1 a2)) ∧ Below W.heap.size W w' := by
        intro W hW
        have hlen := HLEN.out
        have hC := Kd.C_below HDS.out.2.2 hW
        rw [hlen] at hC ⊢
        have h1 := countV 252 #[.pointer (some ⟨pw, 0, none⟩)] (E4 a0 a1 a2) (G4 a0 a2) (many4 a0) 256 bd cd ds (rd ds 0).toNat 0 W (HO.out.later hW) (many4_lt HI.out).2 hC hsm (many4_lt HI.out).1 hz (by have := HK.out; show rd ds 0 = _; omega)
        have h2 := tal_paths HI.out (allS_good HI.out (p := a2 + 1) ⟨by have := HI.out.2.2; omega, by omega⟩) ds HLE.out (fun c hc => (hsm c hc).2) (rd ds 0).toNat (allS a0 0) (allS_good HI.out (p := 0) ⟨by omega, by have := HI.out.2.2; omega⟩) (by rw [c4_first]; have := HK.out; show rd ds 0 = _; omega)
        rw [c4_first] at h2
        rw [h2] at h1
        have h3 : wrap64 (paths a1 a2 (allS a0 (a2 + 1)) (rd ds 0).toNat (allS a0 0)) = cntV a0 a1 a2 := by unfold cntV; rw [HFEW.out]
        rw [h3] at h1
        exact h1
      have HCNT := Aside0.mk hcnt
      clear hcnt hz hsm
      go_wp2_with (go_at_call 147; refine (HCNT.out _ (below_alloc (Below.refl _ _) _)).mono ?_; rintro e w20 ⟨rfl, hd⟩; have HB3 := Aside0.mk ((below_alloc HB2.out (.cells #[.int .i64 (many4 a0 : Int), .func (.func 252) #[] #[.pointer (some ⟨pw, 0, none⟩)]] 151)).trans (hd.mono (by have := HB2.out.size; simp; omega))); clear hd)
      go_ret2
      have hk := HK.out
      rw [HFEW.out] at hk
      rw [HR.out, if_pos hk]
      exact ⟨rfl, HB3.out⟩
    · have c0b : decide (0 ≤ rd ds 0) = false := by simpa using hk
      have HK := Aside0.mk hk
      clear hk
      go_wp2
      go_ret2
      have hk := HK.out
      rw [HFEW.out] at hk
      rw [HR.out, if_neg (by omega)]
      exact ⟨rfl, below_alloc HB2.out _⟩
theorem both7 : Both7 := by
  intro a0 a1 a2
  refine ⟨(cntR a0 a1 a2).1, (cntR a0 a1 a2).2, fun w => spec_CountVoyages.calls manyR a0 a1 a2 _ _ w ?_, fun w => countI a0 a1 a2 w⟩
  unfold spec_CountVoyages.f
  by_cases hI : IslOk a0 a1 a2
  · have hr : cntR a0 a1 a2 = (if 0 ≤ fewV a0 a1 a2 then cntV a0 a1 a2 else 0, true) := by unfold cntR; rw [if_pos hI]
    rw [isGood_yes hI, Option.bind_some, if_pos rfl, hr]
    by_cases h : 0 ≤ fewV a0 a1 a2
    · rw [ways_few hI h, Option.bind_some, if_neg (by show ¬ fewV a0 a1 a2 < 0; omega), if_pos h]
    · obtain ⟨far, ways, q, i, hf, _, _⟩ := fewest_eq hI manyR (by unfold manyR; omega)
      rw [hf, Option.bind_some, if_pos (by show fewV a0 a1 a2 < 0; omega), if_neg h]
  · have hr : cntR a0 a1 a2 = (0, false) := by unfold cntR; rw [if_neg hI]
    rw [isGood_no hI, Option.bind_some, if_neg (by decide), hr]
end Go.Proofs.Ytlkjglanglpdoaa.T
