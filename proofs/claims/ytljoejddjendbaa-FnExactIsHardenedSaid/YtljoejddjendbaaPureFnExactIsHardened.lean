/- IsHardened of the program and of the reference agree on every list of numbers, as a statement over lists alone; the bounds are those of memory. -/
import Derived.Test.YtljoejddjendbaaPFnExactIsHardenedx1
import Derived.Test.YtljoejddjendbaaGb
namespace Go.Proofs.Ytljoejddjendbaa.Pure
open Go.RowKit Go.Proofs.Ytljoejddjendbaa.PFnExactIsHardened Go.Proofs.YtljoejddjendbaaW.PrintWords Go.Proofs.YtljoejddjendbaaW.PrintLast Go.Proofs.Ytljoejddjendbaa.Gb Go.Proofs.Ytljoejddjendbaa
set_option linter.unusedSimpArgs false
set_option linter.unusedVariables false
namespace FnExactIsHardenedAid

/-! ### laws_toIntS -/
theorem laws_toIntS_l0 (l : List Int) (hl : l.length ≤ 9223372036854775807) : ∀ (d k i : Nat), i + d = l.length → d < k → laws_toIntS.l0 k l (l.take i ++ List.replicate (l.length - i) 0) (i : Int) = some l := by
  intro d
  induction d with
  | zero =>
    intro k i h hk
    obtain ⟨k, rfl⟩ := succ_of hk
    obtain rfl : i = l.length := by omega
    simp only [laws_toIntS.l0]; rw [if_neg (by omega), take_all]
  | succ d ih =>
    intro k i h hk
    obtain ⟨k, rfl⟩ := succ_of hk
    simp only [laws_toIntS.l0]
    rw [if_pos (by omega), if_pos (by omega), if_pos (by rw [List.length_append, List.length_take, List.length_replicate]; omega), wrap_up (n := l.length) (by omega) hl, rd_cast, toNat_cast, set_grow _ _ _ (by omega)]
    exact ih k (i + 1) (by omega) (by omega)
theorem laws_toIntS_eq {l : List Int} {k : Nat} (hl : l.length ≤ 35184372088832) (hk : l.length < k) : laws_toIntS.f k l = some l := by
  unfold laws_toIntS.f
  rw [if_pos (by omega), toNat_cast, if_pos hl, ← take_none l 0]
  exact laws_toIntS_l0 l (by omega) l.length k 0 (by omega) hk

/-! ### laws_eqIntS -/
theorem laws_eqIntS_l0 (a b : List Int) (hl : a.length ≤ 9223372036854775807) (he : b.length = a.length) : ∀ (d k i : Nat), i + d = a.length → d < k → laws_eqIntS.l0 k a b (i : Int) = some (decide (a.drop i = b.drop i)) := by
  intro d
  induction d with
  | zero =>
    intro k i h hk
    obtain ⟨k, rfl⟩ := succ_of hk
    obtain rfl : i = a.length := by omega
    simp only [laws_eqIntS.l0]; rw [if_neg (by omega), drop_end, ← he, drop_end, decide_eq_true rfl]
  | succ d ih =>
    intro k i h hk
    obtain ⟨k, rfl⟩ := succ_of hk
    simp only [laws_eqIntS.l0]
    rw [if_pos (by omega), if_pos (by omega), if_pos (by omega), wrap_up (n := a.length) (by omega) hl, rd_cast, rd_cast, drop_step a 0 i (by omega), drop_step b 0 i (by omega), ih k (i + 1) (by omega) (by omega)]
    by_cases e : nt 0 a i = nt 0 b i
    · rw [if_pos e, e]; simp
    · rw [if_neg e]; simp [e]
theorem laws_eqIntS_eq {a b : List Int} {k : Nat} (hl : a.length ≤ 9223372036854775807) (hk : a.length < k) : laws_eqIntS.f k a b = some (decide (a = b)) := by
  unfold laws_eqIntS.f
  by_cases e : a.length = b.length
  · rw [if_pos (by omega)]
    exact laws_eqIntS_l0 a b hl e.symm a.length k 0 (by omega) hk
  · rw [if_neg (by omega), decide_eq_false (fun h => e (by rw [h]))]
theorem laws_eqIntS_self {a : List Int} {k : Nat} (hl : a.length ≤ 9223372036854775807) (hk : a.length < k) : laws_eqIntS.f k a a = some true := by
  rw [laws_eqIntS_eq hl hk, decide_eq_true rfl]

/-! ### spec_l1In -/
theorem spec_l1In_eq (a b c : Int) : spec_l1In.f a b c = some (decide (b ≤ a ∧ a ≤ c)) := by
  unfold spec_l1In.f
  by_cases h : a ≥ b
  · rw [if_pos h]; simp [show b ≤ a from h]
  · rw [if_neg h, decide_eq_false (by omega)]

/-! ### spec_IsReserved -/
theorem spec_IsReserved_eq (a : Int) : spec_IsReserved.f a = some (isReserved a) := by
  unfold spec_IsReserved.f isReserved
  rw [spec_l1In_eq, Option.bind_some]
  by_cases h : (0 : Int) ≤ a ∧ a ≤ 255 <;> simp [h]

/-! ### spec_IsHardened -/
theorem spec_IsHardened_eq {l : List Int} {k : Nat} (hl : l.length ≤ 9223372036854775807) (hk : l.length < k) : spec_IsHardened.f k l = some (l.any isReserved) := by
  unfold spec_IsHardened.f
  have h := any_loop (g := fun k i => spec_IsHardened.l0 k l (i : Int)) (l := l) (z := 0) (B := 0) (p := isReserved) (fun k => by
      simp only [spec_IsHardened.l0]; rw [if_neg (by omega)])
    (fun k i hi _ => by
      simp only [spec_IsHardened.l0]
      rw [if_pos (by omega), if_pos (by omega), wrap_up (n := l.length) hi hl, rd_cast, spec_IsReserved_eq, Option.bind_some]) l.length k 0 (by omega) (by omega)
  exact h

/-! ### impl_InRange -/
theorem impl_InRange_eq (a b c : Int) : impl_InRange.f a b c = some (decide (b ≤ a ∧ a ≤ c)) := by
  unfold impl_InRange.f
  by_cases h : b ≤ a
  · rw [if_pos h]; simp [h]
  · rw [if_neg h, decide_eq_false (by omega)]

/-! ### impl_IsReserved -/
theorem impl_IsReserved_eq (a : Int) : impl_IsReserved.f a = some (isReserved a) := by
  unfold impl_IsReserved.f isReserved
  rw [impl_InRange_eq, Option.bind_some]
  by_cases h : (0 : Int) ≤ a ∧ a ≤ 255 <;> simp [h]

/-! ### impl_IsHardened -/
theorem impl_IsHardened_eq (l : List Int) : impl_IsHardened.f l = some (l.any isReserved) := by
  unfold impl_IsHardened.f impl_IsHardened_any.f
  rw [Option.bind_some]
  simp only [impl_IsReserved_eq, Option.getD_some]

end FnExactIsHardenedAid
open FnExactIsHardenedAid

theorem FnExactIsHardened : laws_FnExactIsHardened.Pure := by
  intro l h0 h1 h2
  refine ⟨l.length + 1, ?_⟩
  unfold laws_FnExactIsHardened.f
  by_cases hb : (l.length : Int) > 1048576
  · rw [if_pos hb]
  · rw [if_neg hb]
    have hl : l.length ≤ 1048576 := by omega
    have f1 := laws_toIntS_eq (l := l) (k := l.length + 1) (by omega) (by omega)
    have f2 : spec_IsHardened.f (l.length + 1) l = some (l.any isReserved) := spec_IsHardened_eq (by omega) (by omega)
    have f3 : laws_eqIntS.f (l.length + 1) l l = some true := laws_eqIntS_self (by omega) (by omega)
    simp only [f1, f2, f3, impl_IsHardened_eq, Option.bind_some, Bool.false_eq_true, if_true, if_false, ↓reduceIte, bne_self_eq_false, Bool.not_true, Bool.not_false, Nat.le_add_right, Nat.le_refl]

end Go.Proofs.Ytljoejddjendbaa.Pure
