/- BestCommon of the program and of the reference agree on every two lists of numbers, as a statement over lists alone; the bounds are those of memory. -/
import Derived.Test.YtmblaialihkjfaaPFnExactBestCommonx2
import Derived.Test.YtmblaialihkjfaaGb
import Derived.Test.YtmblaialihkjfaaGv
namespace Go.Proofs.Ytmblaialihkjfaa.Pure
open Go.RowKit Go.Proofs.Ytmblaialihkjfaa.PFnExactBestCommon Go.Proofs.YtmblaialihkjfaaW.PrintWords Go.Proofs.YtmblaialihkjfaaW.PrintLast Go.Proofs.Ytmblaialihkjfaa.Gb Go.Proofs.Ytmblaialihkjfaa.Gv
set_option linter.unusedSimpArgs false
set_option linter.unusedVariables false
namespace FnExactBestCommonAid

/-! ### laws_toIntS -/
theorem laws_toIntS_l0 (l : List Int) (hl : l.length ≤ 9223372036854775807) : ∀ (d k i : Nat), i + d = l.length → d < k → laws_toIntS.l0 k l (l.take i ++ List.replicate (l.length - i) 0) (i : Int) = some l := by
  intro d
  induction d with
  | zero =>
    intro k i h hk
    obtain ⟨k, rfl⟩ := succ_of hk
    obtain rfl : i = l.length := by omega
    simp only [laws_toIntS.l0]; rw [if_neg (by omega), take_all]
  | succ d ih =>
    intro k i h hk
    obtain ⟨k, rfl⟩ := succ_of hk
    simp only [laws_toIntS.l0]
    rw [if_pos (by omega), if_pos (by omega), if_pos (by rw [List.length_append, List.length_take, List.length_replicate]; omega), wrap_up (n := l.length) (by omega) hl, rd_cast, toNat_cast, set_grow _ _ _ (by omega)]
    exact ih k (i + 1) (by omega) (by omega)
theorem laws_toIntS_eq {l : List Int} {k : Nat} (hl : l.length ≤ 35184372088832) (hk : l.length < k) : laws_toIntS.f k l = some l := by
  unfold laws_toIntS.f
  rw [if_pos (by omega), toNat_cast, if_pos hl, ← take_none l 0]
  exact laws_toIntS_l0 l (by omega) l.length k 0 (by omega) hk

/-! ### laws_eqIntS -/
theorem laws_eqIntS_l0 (a b : List Int) (hl : a.length ≤ 9223372036854775807) (he : b.length = a.length) : ∀ (d k i : Nat), i + d = a.length → d < k → laws_eqIntS.l0 k a b (i : Int) = some (decide (a.drop i = b.drop i)) := by
  intro d
  induction d with
  | zero =>
    intro k i h hk
    obtain ⟨k, rfl⟩ := succ_of hk
    obtain rfl : i = a.length := by omega
    simp only [laws_eqIntS.l0]; rw [if_neg (by omega), drop_end, ← he, drop_end, decide_eq_true rfl]
  | succ d ih =>
    intro k i h hk
    obtain ⟨k, rfl⟩ := succ_of hk
    simp only [laws_eqIntS.l0]
    rw [if_pos (by omega), if_pos (by omega), if_pos (by omega), wrap_up (n := a.length) (by omega) hl, rd_cast, rd_cast, drop_step a 0 i (by omega), drop_step b 0 i (by omega), ih k (i + 1) (by omega) (by omega)]
    by_cases e : nt 0 a i = nt 0 b i
    · rw [if_pos e, e]; simp
    · rw [if_neg e]; simp [e]
theorem laws_eqIntS_eq {a b : List Int} {k : Nat} (hl : a.length ≤ 9223372036854775807) (hk : a.length < k) : laws_eqIntS.f k a b = some (decide (a = b)) := by
  unfold laws_eqIntS.f
  by_cases e : a.length = b.length
  · rw [if_pos (by omega)]
    exact laws_eqIntS_l0 a b hl e.symm a.length k 0 (by omega) hk
  · rw [if_neg (by omega), decide_eq_false (fun h => e (by rw [h]))]
theorem laws_eqIntS_self {a : List Int} {k : Nat} (hl : a.length ≤ 9223372036854775807) (hk : a.length < k) : laws_eqIntS.f k a a = some true := by
  rw [laws_eqIntS_eq hl hk, decide_eq_true rfl]

/-! ### spec_l9Has -/
theorem spec_l9Has_eq {l : List Int} {n : Int} {k : Nat} (hl : l.length ≤ 9223372036854775807) (hk : l.length < k) : spec_l9Has.f k l n = some (l.any (· == n)) := by
  unfold spec_l9Has.f
  have h := any_loop (g := fun k i => spec_l9Has.l0 k l n (i : Int)) (l := l) (z := 0) (B := 0) (p := (· == n)) (fun k => by
      simp only [spec_l9Has.l0]; rw [if_neg (by omega)])
    (fun k i hi _ => by
      simp only [spec_l9Has.l0]
      rw [if_pos (by omega), if_pos (by omega), wrap_up (n := l.length) hi hl, rd_cast]
      by_cases e : nt 0 l i = n
      · rw [if_pos e, if_pos (by simp [e])]
      · rw [if_neg e, if_neg (by simp [e])]) l.length k 0 (by omega) (by omega)
  exact h

/-! ### spec_CommonOf -/
theorem spec_CommonOf_eq {a b : List Int} {k : Nat} (ha : a.length ≤ 17592186044416) (hb : b.length ≤ 9223372036854775807) (hk : a.length + b.length + 1 < k) : spec_CommonOf.f k a b = some (a.filter fun x => b.any (· == x)) := by
  unfold spec_CommonOf.f
  have h := filter_loop (g := fun k acc i => spec_CommonOf.l0 k a b acc (i : Int)) (l := a) (z := 0) (B := b.length + 1) (p := fun x => b.any (· == x)) (f := id) (fun k acc => by
      simp only [spec_CommonOf.l0]; rw [if_neg (by omega)])
    (fun k i acc hi hk hacc => by
      simp only [spec_CommonOf.l0]
      rw [if_pos (by omega), if_pos (by omega), wrap_up (n := a.length) hi (by omega), rd_cast, spec_l9Has_eq hb (by omega), Option.bind_some, if_pos (show acc.length < 17592186044416 by omega)]
      rfl) a.length k 0 [] (by omega) (by omega) (by simp)
  simpa using h

/-! ### spec_l1In -/
theorem spec_l1In_eq (a b c : Int) : spec_l1In.f a b c = some (decide (b ≤ a ∧ a ≤ c)) := by
  unfold spec_l1In.f
  by_cases h : a ≥ b
  · rw [if_pos h]; simp [show b ≤ a from h]
  · rw [if_neg h, decide_eq_false (by omega)]

/-! ### spec_AreVersions -/
theorem spec_AreVersions_eq {l : List Int} {k : Nat} (hl : l.length ≤ 9223372036854775807) (hk : l.length < k) : spec_AreVersions.f k l = some (areVers l) := by
  unfold spec_AreVersions.f
  have h := all_loop (g := fun k i => spec_AreVersions.l0 k l (i : Int)) (n := l.length) (B := 0) (ok := verOk l) (fin := decide (0 < l.length)) (fun k => by
      simp only [spec_AreVersions.l0]; rw [if_neg (by omega)]; congr 1; rw [decide_eq_decide]; omega)
    (fun k i hi _ => by
      simp only [spec_AreVersions.l0]
      rw [if_pos (by omega), if_pos (by omega), spec_l1In_eq, Option.bind_some, wrap_up (n := l.length) hi hl, rd_cast]
      unfold verOk
      by_cases h1 : 1 ≤ nt 0 l i ∧ nt 0 l i ≤ 9
      · rw [decide_eq_true h1, if_pos rfl]
        by_cases h0 : 0 < i
        · rw [if_pos (by omega), wrap_dn h0 (by omega), if_pos (by omega), if_pos (by omega), rd_cast]
          by_cases h2 : nt 0 l (i - 1) < nt 0 l i
          · rw [if_neg (by omega), if_pos (by simp [h2])]
          · rw [if_pos (by omega), if_neg (by simp [h2]; omega)]
        · rw [if_neg (by omega), if_pos (by simp; omega)]
      · rw [decide_eq_false h1, if_neg (by simp), if_neg (by simp)]) l.length k 0 (by omega) (by omega)
  exact h

/-! ### spec_BestCommon -/
theorem spec_BestCommon_eq {a b : List Int} {k : Nat} (ha : a.length ≤ 1048576) (hb : b.length ≤ 1048576) (hk : a.length + b.length + 1 < k) : spec_BestCommon.f k a b = some (bestCommon a b) := by
  unfold spec_BestCommon.f bestCommon
  have hcl : (common a b).length ≤ a.length := List.length_filter_le _ _
  have hc := spec_CommonOf_eq (a := a) (b := b) (k := k) (by omega) (by omega) hk
  rw [hc, Option.bind_some, spec_AreVersions_eq (by omega) (by omega), Option.bind_some]
  cases areVers a with
  | false => simp
  | true =>
    rw [if_pos rfl, spec_AreVersions_eq (by omega) (by omega), Option.bind_some]
    cases areVers b with
    | false => simp
    | true =>
      rw [if_pos rfl, ← common]
      by_cases h0 : (common a b).length = 0
      · rw [if_pos (by omega), List.length_eq_zero_iff.1 h0]; rfl
      · rw [if_neg (by omega), wrap_dn (i := (common a b).length) (by omega) (by omega), if_pos (by omega), if_pos (by omega), rd_cast, nt_lt _ _ _ (by omega)]
        simp [List.getLastD_eq_getLast?, List.getLast?_eq_getElem?, List.getElem?_eq_getElem (show (common a b).length - 1 < (common a b).length by omega)]

/-! ### slices_Index_int_int -/
theorem slices_Index_int_int_eq {l : List Int} {n : Int} {k : Nat} (hl : l.length ≤ 9223372036854775807) (hk : l.length < k) : slices_Index_int_int.f k l n = some ((l.findIdx? (· == n)).elim (-1) fun j => (j : Int)) := by
  unfold slices_Index_int_int.f
  have h := find_loop (g := fun k i => slices_Index_int_int.l0 k l n (l.length : Int) (i : Int)) (l := l) (z := 0) (B := 0) (p := (· == n)) (hit := fun j => (j : Int)) (miss := (-1 : Int)) (fun k => by
      simp only [slices_Index_int_int.l0]; rw [if_neg (by omega)])
    (fun k i hi _ => by
      simp only [slices_Index_int_int.l0]
      rw [if_pos (by omega), if_pos (by omega), if_pos (by omega), wrap_up (n := l.length) hi hl, rd_cast]
      by_cases e : nt 0 l i = n
      · rw [if_pos e.symm, if_pos (by simp [e])]
      · rw [if_neg (fun h => e h.symm), if_neg (by simp [e])]) l.length k 0 (by omega) (by omega)
  simpa using h

/-! ### slices_Contains_int_int -/
theorem slices_Contains_int_int_eq {l : List Int} {n : Int} {k : Nat} (hl : l.length ≤ 9223372036854775807) (hk : l.length < k) : slices_Contains_int_int.f k l n = some (l.any (· == n)) := by
  unfold slices_Contains_int_int.f
  rw [slices_Index_int_int_eq hl hk, Option.bind_some, idx_any]

/-! ### impl_CommonOf -/
theorem impl_CommonOf_eq {a b : List Int} {k : Nat} (ha : a.length ≤ 17592186044416) (hb : b.length ≤ 9223372036854775807) (hk : a.length + b.length + 1 < k) : impl_CommonOf.f k a b = some (a.filter fun x => b.any (· == x)) := by
  unfold impl_CommonOf.f
  have h := filter_loop (g := fun k acc i => impl_CommonOf.l0 k b acc a (a.length : Int) (i : Int)) (l := a) (z := 0) (B := b.length + 1) (p := fun x => b.any (· == x)) (f := id) (fun k acc => by
      simp only [impl_CommonOf.l0]; rw [if_neg (by omega)])
    (fun k i acc hi hk hacc => by
      simp only [impl_CommonOf.l0]
      rw [if_pos (by omega), if_pos (by omega), if_pos (by omega), wrap_up (n := a.length) hi (by omega), rd_cast, slices_Contains_int_int_eq hb (by omega), Option.bind_some, if_pos (show acc.length < 17592186044416 by omega)]
      rfl) a.length k 0 [] (by omega) (by omega) (by simp)
  simpa using h

/-! ### impl_InRange -/
theorem impl_InRange_eq (a b c : Int) : impl_InRange.f a b c = some (decide (b ≤ a ∧ a ≤ c)) := by
  unfold impl_InRange.f
  by_cases h : b ≤ a
  · rw [if_pos h]; simp [h]
  · rw [if_neg h, decide_eq_false (by omega)]

/-! ### impl_AreVersions -/
theorem impl_AreVersions_eq {l : List Int} {k : Nat} (hl : l.length ≤ 9223372036854775807) (hk : l.length < k) : impl_AreVersions.f k l = some (areVers l) := by
  unfold impl_AreVersions.f
  have h := all_loop (g := fun k i => impl_AreVersions.l0 k l l (l.length : Int) (i : Int)) (n := l.length) (B := 0) (ok := verOk l) (fin := decide (0 < l.length)) (fun k => by
      simp only [impl_AreVersions.l0]; rw [if_neg (by omega)]; congr 1; rw [decide_eq_decide]; omega)
    (fun k i hi _ => by
      simp only [impl_AreVersions.l0]
      rw [if_pos (by omega), if_pos (by omega), if_pos (by omega), impl_InRange_eq, Option.bind_some, wrap_up (n := l.length) hi hl, rd_cast]
      unfold verOk
      by_cases h1 : 1 ≤ nt 0 l i ∧ nt 0 l i ≤ 9
      · rw [decide_eq_true h1, if_pos rfl]
        by_cases h0 : 0 < i
        · rw [if_pos (by omega), wrap_dn h0 (by omega), if_pos (by omega), if_pos (by omega), rd_cast]
          by_cases h2 : nt 0 l (i - 1) < nt 0 l i
          · rw [if_neg (by omega), if_pos (by simp [h2])]
          · rw [if_pos (by omega), if_neg (by simp [h2]; omega)]
        · rw [if_neg (by omega), if_pos (by simp; omega)]
      · rw [decide_eq_false h1, if_neg (by simp), if_neg (by simp)]) l.length k 0 (by omega) (by omega)
  exact h

/-! ### impl_BestCommon -/
theorem impl_BestCommon_l0 (c : List Int) (hc : c.length ≤ 1048576) (k : Nat) (hk : c.length < k) (s : Int) : impl_BestCommon.l0 k s c (c.length : Int) 0 = some (c.foldl mx s) := by
  have h := fold_loop (g := fun k s i => impl_BestCommon.l0 k s c (c.length : Int) (i : Int)) (n := c.length) (B := 0) (f := fun i s => mx s (nt 0 c i)) (fin := id) (fun _ _ => True) (fun k s _ => by
      simp only [impl_BestCommon.l0]; rw [if_neg (by omega)]; rfl)
    (fun k i s hi _ _ => by
      refine ⟨?_, trivial⟩
      simp only [impl_BestCommon.l0]
      rw [if_pos (by omega), if_pos (by omega), if_pos (by omega), wrap_up (n := c.length) hi (by omega), rd_cast]) c.length k 0 s (by omega) (by omega) trivial
  rw [foldFrom_list (f := mx)] at h
  simpa using h
theorem impl_BestCommon_eq {a b : List Int} {k : Nat} (ha : a.length ≤ 1048576) (hb : b.length ≤ 1048576) (hk : 2 * a.length + b.length + 5 < k) : impl_BestCommon.f k a b = some (bestCommon a b) := by
  unfold impl_BestCommon.f
  have hcl : (common a b).length ≤ a.length := List.length_filter_le _ _
  obtain ⟨k, rfl⟩ := succ_of (show 0 < k by omega)
  rw [impl_AreVersions_eq (by omega) (by omega), Option.bind_some]
  have hf : impl_BestCommon.j0 (k + 1) a b true = some 0 := by simp only [impl_BestCommon.j0, if_true]
  cases hA : areVers a with
  | false => rw [if_neg (by simp), hf]; simp [bestCommon, hA]
  | true =>
    rw [if_pos rfl, impl_AreVersions_eq (by omega) (by omega), Option.bind_some]
    cases hB : areVers b with
    | false => rw [Bool.not_false, hf]; simp [bestCommon, hA, hB]
    | true =>
      simp only [impl_BestCommon.j0, Bool.not_true, Bool.false_eq_true, if_false]
      have hc : impl_CommonOf.f k a b = some (common a b) := impl_CommonOf_eq (by omega) (by omega) (by omega)
      rw [hc, Option.bind_some, impl_BestCommon_l0 _ (by omega) _ (by omega), best_max hA]
      simp [bestCommon, hA, hB]

end FnExactBestCommonAid
open FnExactBestCommonAid

theorem FnExactBestCommon : laws_FnExactBestCommon.Pure := by
  intro a b _ _ _ _ _ _
  obtain ⟨k, hk⟩ : ∃ k, k = 2 * a.length + 2 * b.length + 10 := ⟨_, rfl⟩
  refine ⟨k, ?_⟩
  unfold laws_FnExactBestCommon.f
  by_cases hb1 : (a.length : Int) > 1048576
  · rw [if_pos hb1]
  rw [if_neg hb1]
  by_cases hb2 : (b.length : Int) > 1048576
  · rw [if_pos hb2]
  rw [if_neg hb2]
  have ta : laws_toIntS.f k a = some a := laws_toIntS_eq (by omega) (by omega)
  have tb : laws_toIntS.f k b = some b := laws_toIntS_eq (by omega) (by omega)
  simp only [ta, tb, Option.bind_some, spec_BestCommon_eq (a := a) (b := b) (k := k) (by omega) (by omega) (by omega), impl_BestCommon_eq (a := a) (b := b) (k := k) (by omega) (by omega) (by omega), if_true,
    laws_eqIntS_self (a := a) (k := k) (by omega) (by omega), laws_eqIntS_self (a := b) (k := k) (by omega) (by omega)]

end Go.Proofs.Ytmblaialihkjfaa.Pure
