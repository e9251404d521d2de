/- GreaseTag of the program and of the reference agree on every seed. -/
import Derived.Test.YtbamdoabaoelbaaPFnExactGreaseTagx1
import Derived.Test.YtbamdoabaoelbaaGb
import Derived.Test.YtbamdoabaoelbaaGh
namespace Go.Proofs.Ytbamdoabaoelbaa.Pure
open Go.RowKit Go.Proofs.Ytbamdoabaoelbaa.PFnExactGreaseTag Go.Proofs.YtbamdoabaoelbaaW.PrintWords Go.Proofs.YtbamdoabaoelbaaW.PrintLast Go.Proofs.Ytbamdoabaoelbaa.Gb Go.Proofs.Ytbamdoabaoelbaa.Gh
set_option linter.unusedSimpArgs false
set_option linter.unusedVariables false
namespace FnExactGreaseTagAid

/-! ### spec_l1In -/
theorem spec_l1In_eq (a b c : Int) : spec_l1In.f a b c = some (decide (b ≤ a ∧ a ≤ c)) := by
  unfold spec_l1In.f
  by_cases h : a ≥ b
  · rw [if_pos h]; simp [show b ≤ a from h]
  · rw [if_neg h, decide_eq_false (by omega)]

/-! ### spec_Mod -/
theorem spec_Mod_eq (a b : Int) : spec_Mod.f a b = some (modOf a b) := by
  unfold spec_Mod.f modOf
  rw [spec_l1In_eq, Option.bind_some]
  by_cases h : (1 : Int) ≤ b ∧ b ≤ 1000000000000
  · rw [decide_eq_true h, if_pos rfl, if_neg (by omega), if_pos h]
  · rw [decide_eq_false h, if_neg (by simp), if_neg h]

/-! ### spec_Hash -/
theorem spec_Hash_eq {l : List Int} {k : Nat} (hl : l.length ≤ 9223372036854775807) (hk : l.length < k) : spec_Hash.f k l = some (hashOf l) := by
  unfold spec_Hash.f
  have h := fold_loop (g := fun k s i => spec_Hash.l0 k l s (i : Int)) (n := l.length) (B := 0) (f := fun i s => hashStep s (nt 0 l i)) (fin := id) (fun _ _ => True) (fun k s _ => by
      simp only [spec_Hash.l0]; rw [if_neg (by omega)]; rfl)
    (fun k i s hi _ _ => by
      refine ⟨?_, trivial⟩
      simp only [spec_Hash.l0]
      rw [if_pos (by omega), if_pos (by omega), wrap_up (n := l.length) hi hl, rd_cast, spec_Mod_eq, Option.bind_some]; rfl) l.length k 0 11 (by omega) (by omega) trivial
  rw [foldFrom_list (f := hashStep)] at h
  exact h

/-! ### spec_PickOf -/
theorem spec_PickOf_eq {a b c : Int} {k : Nat} (hk : 2 < k) : spec_PickOf.f k a b c = some (pickOf a b c) := by
  unfold spec_PickOf.f pickOf
  rw [spec_Hash_eq (by simp) (by simpa using hk), Option.bind_some, spec_Mod_eq, Option.bind_some]
  by_cases h : c < 1
  · rw [if_pos h, if_pos h]
  · rw [if_neg h, if_neg h]

/-! ### spec_GreaseTag -/
theorem spec_GreaseTag_eq {a : Int} {k : Nat} (hk : 2 < k) : spec_GreaseTag.f k a = some (greaseTag a) := by
  unfold spec_GreaseTag.f greaseTag
  rw [spec_PickOf_eq hk, Option.bind_some]

/-! ### impl_InRange -/
theorem impl_InRange_eq (a b c : Int) : impl_InRange.f a b c = some (decide (b ≤ a ∧ a ≤ c)) := by
  unfold impl_InRange.f
  by_cases h : b ≤ a
  · rw [if_pos h]; simp [h]
  · rw [if_neg h, decide_eq_false (by omega)]

/-! ### impl_Mod -/
theorem impl_Mod_eq (a b : Int) : impl_Mod.f a b = some (modOf a b) := by
  unfold impl_Mod.f modOf
  rw [impl_InRange_eq, Option.bind_some]
  by_cases h : (1 : Int) ≤ b ∧ b ≤ 1000000000000
  · rw [decide_eq_true h, if_pos rfl, if_neg (by omega), if_pos h]
  · rw [decide_eq_false h, if_neg (by simp), if_neg h]

/-! ### impl_Hash -/
theorem impl_Hash_eq {l : List Int} {k : Nat} (hl : l.length ≤ 9223372036854775807) (hk : l.length < k) : impl_Hash.f k l = some (hashOf l) := by
  unfold impl_Hash.f
  have h := fold_loop (g := fun k s i => impl_Hash.l0 k s l (l.length : Int) (i : Int)) (n := l.length) (B := 0) (f := fun i s => hashStep s (nt 0 l i)) (fin := id) (fun _ _ => True) (fun k s _ => by
      simp only [impl_Hash.l0]; rw [if_neg (by omega)]; rfl)
    (fun k i s hi _ _ => by
      refine ⟨?_, trivial⟩
      simp only [impl_Hash.l0]
      rw [if_pos (by omega), if_pos (by omega), if_pos (by omega), wrap_up (n := l.length) hi hl, rd_cast, impl_Mod_eq, Option.bind_some]; rfl) l.length k 0 11 (by omega) (by omega) trivial
  rw [foldFrom_list (f := hashStep)] at h
  exact h

/-! ### impl_PickOf -/
theorem impl_PickOf_eq {a b c : Int} {k : Nat} (hk : 2 < k) : impl_PickOf.f k a b c = some (pickOf a b c) := by
  unfold impl_PickOf.f pickOf
  rw [impl_Hash_eq (by simp) (by simpa using hk), Option.bind_some, impl_Mod_eq, Option.bind_some]
  by_cases h : c < 1
  · rw [if_pos h, if_pos h]
  · rw [if_neg h, if_neg h]

/-! ### impl_GreaseTag -/
theorem impl_GreaseTag_eq {a : Int} {k : Nat} (hk : 2 < k) : impl_GreaseTag.f k a = some (greaseTag a) := by
  unfold impl_GreaseTag.f greaseTag
  rw [impl_PickOf_eq hk, Option.bind_some]

end FnExactGreaseTagAid
open FnExactGreaseTagAid

theorem FnExactGreaseTag : laws_FnExactGreaseTag.Pure := by
  intro a _
  refine ⟨3, ?_⟩
  unfold laws_FnExactGreaseTag.f
  rw [spec_GreaseTag_eq (by omega), Option.bind_some, impl_GreaseTag_eq (by omega), Option.bind_some, if_pos rfl]

end Go.Proofs.Ytbamdoabaoelbaa.Pure
