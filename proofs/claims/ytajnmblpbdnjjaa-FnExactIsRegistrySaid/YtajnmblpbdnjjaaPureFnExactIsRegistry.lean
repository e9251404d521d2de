/- IsRegistry of the program and of the reference agree on every list of entries, as a statement over lists alone; the bounds are those of memory. -/
import Derived.Test.YtajnmblpbdnjjaaPFnExactIsRegistryx5
import Derived.Test.YtajnmblpbdnjjaaGb
import Derived.Test.YtajnmblpbdnjjaaGr
namespace Go.Proofs.Ytajnmblpbdnjjaa.Pure
open Go.RowKit Go.Proofs.Ytajnmblpbdnjjaa.PFnExactIsRegistry Go.Proofs.YtajnmblpbdnjjaaW.PrintWords Go.Proofs.YtajnmblpbdnjjaaW.PrintLast Go.Proofs.Ytajnmblpbdnjjaa.Gb Go.Proofs.Ytajnmblpbdnjjaa.Gr
set_option linter.unusedSimpArgs false
set_option linter.unusedVariables false
namespace FnExactIsRegistryAid

/-! ### T_Entry -/
abbrev En := S49
abbrev LEn := S54
abbrev zEn : En := z49
abbrev zLEn : LEn := z54
theorem rd_En (l : List En) (i : Nat) : rd_T49 l (i : Int) = nt zEn l i := by simp [rd_T49, nt]
theorem rd_LEn (l : List LEn) (i : Nat) : rd_T54 l (i : Int) = nt zLEn l i := by simp [rd_T54, nt]
def convEn (x : LEn) : En := ⟨x.f0, x.f1, x.f2⟩

/-! ### laws_szEntryS -/
/-- The size law: beyond the bound the law answers true; within it, the length is small. -/
theorem laws_szEntryS_eq {l : List LEn} {a : Int} (h0 : 0 ≤ a) (h1 : a ≤ 1048576) (hl : l.length ≤ 9223372036854775807) : laws_szEntryS.f l a = some (if a < l.length then -1 else a - l.length) := by
  unfold laws_szEntryS.f
  rw [wrap_id (by omega) (by omega)]
  by_cases h : a < (l.length : Int)
  · rw [if_pos (by omega), if_pos h]
  · rw [if_neg (by omega), if_neg h]

/-! ### laws_toEntryS -/
theorem laws_toEntryS_eq {l : List LEn} {k : Nat} (hl : l.length ≤ 1048576) (hk : l.length < k) : laws_toEntryS.f k l = some (l.map convEn) := by
  unfold laws_toEntryS.f
  rw [if_pos (by omega), toNat_cast, if_pos (by omega)]
  have h := map_loop (g := fun k acc i => laws_toEntryS.l0 k l acc (i : Int)) (l := l) (z := zLEn) (zb := zEn) (f := convEn) (B := 0) (fun k acc ha => by
      simp only [laws_toEntryS.l0]; rw [if_neg (by omega)])
    (fun k i acc hi _ ha => by
      simp only [laws_toEntryS.l0]
      rw [if_pos (by omega), if_pos (by omega), rd_LEn]
      simp only [laws_toEntry.f, Option.bind_some]
      rw [if_pos (by omega), wrap_up (n := l.length) hi (by omega), toNat_cast]; rfl) l.length k 0 (by omega) (by omega)
  simpa using h

/-! ### laws_eqEntryS -/
theorem laws_eqEntryS_self {l : List En} {k : Nat} (hl : l.length ≤ 9223372036854775807) (hk : l.length < k) : laws_eqEntryS.f k l l = some true := by
  unfold laws_eqEntryS.f
  rw [if_pos rfl]
  exact pass_loop (g := fun k i => laws_eqEntryS.l0 k l l (i : Int)) (n := l.length) (B := 0) (fun k => by
      simp only [laws_eqEntryS.l0]; rw [if_neg (by omega)])
    (fun k i hi _ => by
      simp only [laws_eqEntryS.l0]
      rw [if_pos (by omega), if_pos (by omega), if_pos (by omega), wrap_up (n := l.length) hi hl]
      simp only [laws_eqEntry.f, if_true, bne_self_eq_false, Bool.false_eq_true, if_false, Option.bind_some]) l.length k 0 (by omega) (by omega)

/-! ### spec_l1In -/
theorem spec_l1In_eq (a b c : Int) : spec_l1In.f a b c = some (decide (b ≤ a ∧ a ≤ c)) := by
  unfold spec_l1In.f
  by_cases h : a ≥ b
  · rw [if_pos h]; simp [show b ≤ a from h]
  · rw [if_neg h, decide_eq_false (by omega)]

/-! ### spec_IsReserved -/
theorem spec_IsReserved_eq (a : Int) : spec_IsReserved.f a = some (isReserved a) := by
  unfold spec_IsReserved.f isReserved
  rw [spec_l1In_eq, Option.bind_some]
  by_cases h : (0 : Int) ≤ a ∧ a ≤ 255 <;> simp [h]

/-! ### spec_IsRegistry -/
def regOk (l : List En) (i : Nat) : Bool := decide (0 ≤ (nt zEn l i).f0 ∧ (nt zEn l i).f0 ≤ 255) && !isReserved (nt zEn l i).f0 && decide (0 ≤ (nt zEn l i).f1 ∧ (nt zEn l i).f1 ≤ 9) && (i == 0 || decide ((nt zEn l (i - 1)).f0 < (nt zEn l i).f0))
def isRegistry (l : List En) : Bool := allFrom (regOk l) 0 l.length && decide (l.length ≤ 12)
theorem spec_IsRegistry_eq {l : List En} {k : Nat} (hl : l.length ≤ 9223372036854775807) (hk : l.length < k) : spec_IsRegistry.f k l = some (isRegistry l) := by
  unfold spec_IsRegistry.f
  have h := all_loop (g := fun k i => spec_IsRegistry.l0 k l (i : Int)) (n := l.length) (B := 0) (ok := regOk l) (fin := decide (l.length ≤ 12)) (fun k => by
      simp only [spec_IsRegistry.l0]; rw [if_neg (by omega)]; congr 1; rw [decide_eq_decide]; omega)
    (fun k i hi _ => by
      simp only [spec_IsRegistry.l0]
      rw [if_pos (by omega), if_pos (by omega), rd_En, spec_l1In_eq, spec_l1In_eq, spec_IsReserved_eq, wrap_up (n := l.length) hi hl]
      simp only [Option.bind_some]
      unfold regOk
      by_cases h1 : 0 ≤ (nt zEn l i).f0 ∧ (nt zEn l i).f0 ≤ 255
      · rw [decide_eq_true h1, if_pos rfl]
        cases isReserved (nt zEn l i).f0 with
        | true => simp
        | false =>
          rw [if_neg (by simp)]
          by_cases h2 : 0 ≤ (nt zEn l i).f1 ∧ (nt zEn l i).f1 ≤ 9
          · rw [decide_eq_true h2, if_pos rfl]
            by_cases h0 : 0 < i
            · rw [if_pos (by omega), wrap_dn h0 (by omega), if_pos (by omega), if_pos (by omega), rd_En]
              by_cases h3 : (nt zEn l (i - 1)).f0 < (nt zEn l i).f0
              · rw [if_neg (by omega), if_pos (by simp [h3])]
              · rw [if_pos (by omega), if_neg (by simp [h3]; omega)]
            · rw [if_neg (by omega), if_pos (by simp; omega)]
          · rw [decide_eq_false h2, if_neg (by simp), if_neg (by simp)]
      · rw [decide_eq_false h1, if_neg (by simp), if_neg (by simp)]) l.length k 0 (by omega) (by omega)
  exact h

/-! ### impl_InRange -/
theorem impl_InRange_eq (a b c : Int) : impl_InRange.f a b c = some (decide (b ≤ a ∧ a ≤ c)) := by
  unfold impl_InRange.f
  by_cases h : b ≤ a
  · rw [if_pos h]; simp [h]
  · rw [if_neg h, decide_eq_false (by omega)]

/-! ### impl_IsReserved -/
theorem impl_IsReserved_eq (a : Int) : impl_IsReserved.f a = some (isReserved a) := by
  unfold impl_IsReserved.f isReserved
  rw [impl_InRange_eq, Option.bind_some]
  by_cases h : (0 : Int) ≤ a ∧ a ≤ 255 <;> simp [h]

/-! ### impl_IsRegistry -/
theorem impl_IsRegistry_eq {l : List En} {k : Nat} (hl : l.length ≤ 9223372036854775807) (hk : l.length < k) : impl_IsRegistry.f k l = some (isRegistry l) := by
  unfold impl_IsRegistry.f
  have h := all_loop (g := fun k i => impl_IsRegistry.l0 k l l (l.length : Int) (i : Int)) (n := l.length) (B := 0) (ok := regOk l) (fin := decide (l.length ≤ 12)) (fun k => by
      simp only [impl_IsRegistry.l0]; rw [if_neg (by omega)]; congr 1; rw [decide_eq_decide]; omega)
    (fun k i hi _ => by
      simp only [impl_IsRegistry.l0]
      rw [if_pos (by omega), if_pos (by omega), if_pos (by omega), rd_En, impl_InRange_eq, impl_InRange_eq, impl_IsReserved_eq, wrap_up (n := l.length) hi hl]
      simp only [Option.bind_some]
      unfold regOk
      by_cases h1 : 0 ≤ (nt zEn l i).f0 ∧ (nt zEn l i).f0 ≤ 255
      · rw [decide_eq_true h1, if_pos rfl]
        cases isReserved (nt zEn l i).f0 with
        | true => simp
        | false =>
          rw [if_neg (by simp)]
          by_cases h0 : 0 < i
          · rw [if_pos (by omega), wrap_dn h0 (by omega), if_pos (by omega), if_pos (by omega), rd_En]
            by_cases h3 : (nt zEn l (i - 1)).f0 < (nt zEn l i).f0
            · rw [if_neg (by omega)]; simp [h3]
            · rw [if_pos (by omega), if_neg (by simp [h3]; omega)]
          · rw [if_neg (by omega)]
            have e0 : i = 0 := by omega
            simp [e0]
      · rw [decide_eq_false h1, if_neg (by simp), if_neg (by simp)]) l.length k 0 (by omega) (by omega)
  exact h

end FnExactIsRegistryAid
open FnExactIsRegistryAid

theorem FnExactIsRegistry : laws_FnExactIsRegistry.Pure := by
  intro l hl hw
  refine ⟨l.length + 2, ?_⟩
  unfold laws_FnExactIsRegistry.f
  rw [laws_szEntryS_eq (by omega) (by omega) hl, Option.bind_some]
  by_cases hb : (1048576 : Int) < l.length
  · rw [if_pos hb, if_pos (by omega)]
  · rw [if_neg hb, if_neg (by omega)]
    have ht : laws_toEntryS.f (l.length + 2) l = some (l.map convEn) := laws_toEntryS_eq (by omega) (by omega)
    have hm : (l.map convEn).length = l.length := List.length_map ..
    simp only [ht, Option.bind_some, spec_IsRegistry_eq (l := l.map convEn) (k := l.length + 2) (by omega) (by omega), impl_IsRegistry_eq (l := l.map convEn) (k := l.length + 2) (by omega) (by omega), bne_self_eq_false, Bool.false_eq_true, if_false,
      laws_eqEntryS_self (l := l.map convEn) (k := l.length + 2) (by omega) (by omega), if_true]

end Go.Proofs.Ytajnmblpbdnjjaa.Pure
