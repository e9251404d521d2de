/- BreakName of the program and of the reference agree on every number. -/
import Derived.Test.YtjinokcepdgknaaPFnExactBreakNamex1
import Derived.Test.YtjinokcepdgknaaGb
import Derived.Test.YtjinokcepdgknaaGr
namespace Go.Proofs.Ytjinokcepdgknaa.Pure
open Go.RowKit Go.Proofs.Ytjinokcepdgknaa.PFnExactBreakName Go.Proofs.YtjinokcepdgknaaW.PrintWords Go.Proofs.YtjinokcepdgknaaW.PrintLast Go.Proofs.Ytjinokcepdgknaa.Gb Go.Proofs.Ytjinokcepdgknaa.Gr Go.Proofs.Ytjinokcepdgknaa
set_option linter.unusedSimpArgs false
set_option linter.unusedVariables false
namespace FnExactBreakNameAid

/-! ### spec_l1In -/
theorem spec_l1In_eq (a b c : Int) : spec_l1In.f a b c = some (decide (b ≤ a ∧ a ≤ c)) := by
  unfold spec_l1In.f
  by_cases h : a ≥ b
  · rw [if_pos h]; simp [show b ≤ a from h]
  · rw [if_neg h, decide_eq_false (by omega)]

/-! ### impl_InRange -/
theorem impl_InRange_eq (a b c : Int) : impl_InRange.f a b c = some (decide (b ≤ a ∧ a ≤ c)) := by
  unfold impl_InRange.f
  by_cases h : b ≤ a
  · rw [if_pos h]; simp [h]
  · rw [if_neg h, decide_eq_false (by omega)]

end FnExactBreakNameAid
open FnExactBreakNameAid

theorem FnExactBreakName : laws_FnExactBreakName.Pure := by
  intro a ha
  have e : impl_BreakName.f a = spec_BreakName.f a := by
    unfold impl_BreakName.f spec_BreakName.f
    rw [spec_l1In_eq, impl_InRange_eq, Option.bind_some, Option.bind_some]
    by_cases q : 0 ≤ a ∧ a ≤ 4
    · rw [decide_eq_true q, if_pos rfl, if_pos rfl, Option.bind_some, if_pos q.1, if_pos (by simp; omega)]
    · rw [decide_eq_false q, if_neg (by simp), if_neg (by simp)]
  have d : ∃ s, spec_BreakName.f a = some s := by
    unfold spec_BreakName.f
    rw [spec_l1In_eq, Option.bind_some]
    by_cases q : 0 ≤ a ∧ a ≤ 4
    · rw [decide_eq_true q, if_pos rfl, Option.bind_some, if_pos q.1, if_pos (by simp; omega)]; exact ⟨_, rfl⟩
    · rw [decide_eq_false q, if_neg (by simp)]; exact ⟨_, rfl⟩
  obtain ⟨s, hs⟩ := d
  unfold laws_FnExactBreakName.f
  rw [hs, Option.bind_some, e, hs, Option.bind_some]
  simp

end Go.Proofs.Ytjinokcepdgknaa.Pure
