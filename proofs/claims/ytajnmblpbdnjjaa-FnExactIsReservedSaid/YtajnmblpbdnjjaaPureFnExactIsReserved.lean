/- IsReserved of the program and of the reference agree on every number. -/
import Derived.Test.YtajnmblpbdnjjaaPFnExactIsReservedx1
import Derived.Test.YtajnmblpbdnjjaaGb
namespace Go.Proofs.Ytajnmblpbdnjjaa.Pure
open Go.RowKit Go.Proofs.Ytajnmblpbdnjjaa.PFnExactIsReserved Go.Proofs.YtajnmblpbdnjjaaW.PrintWords Go.Proofs.YtajnmblpbdnjjaaW.PrintLast Go.Proofs.Ytajnmblpbdnjjaa.Gb
set_option linter.unusedSimpArgs false
set_option linter.unusedVariables false
namespace FnExactIsReservedAid

/-! ### spec_l1In -/
theorem spec_l1In_eq (a b c : Int) : spec_l1In.f a b c = some (decide (b ≤ a ∧ a ≤ c)) := by
  unfold spec_l1In.f
  by_cases h : a ≥ b
  · rw [if_pos h]; simp [show b ≤ a from h]
  · rw [if_neg h, decide_eq_false (by omega)]

/-! ### spec_IsReserved -/
theorem spec_IsReserved_eq (a : Int) : spec_IsReserved.f a = some (isReserved a) := by
  unfold spec_IsReserved.f isReserved
  rw [spec_l1In_eq, Option.bind_some]
  by_cases h : (0 : Int) ≤ a ∧ a ≤ 255 <;> simp [h]

/-! ### impl_InRange -/
theorem impl_InRange_eq (a b c : Int) : impl_InRange.f a b c = some (decide (b ≤ a ∧ a ≤ c)) := by
  unfold impl_InRange.f
  by_cases h : b ≤ a
  · rw [if_pos h]; simp [h]
  · rw [if_neg h, decide_eq_false (by omega)]

/-! ### impl_IsReserved -/
theorem impl_IsReserved_eq (a : Int) : impl_IsReserved.f a = some (isReserved a) := by
  unfold impl_IsReserved.f isReserved
  rw [impl_InRange_eq, Option.bind_some]
  by_cases h : (0 : Int) ≤ a ∧ a ≤ 255 <;> simp [h]

end FnExactIsReservedAid
open FnExactIsReservedAid

theorem FnExactIsReserved : laws_FnExactIsReserved.Pure := by
  intro a _
  unfold laws_FnExactIsReserved.f
  rw [spec_IsReserved_eq, Option.bind_some, impl_IsReserved_eq, Option.bind_some]
  simp

end Go.Proofs.Ytajnmblpbdnjjaa.Pure
