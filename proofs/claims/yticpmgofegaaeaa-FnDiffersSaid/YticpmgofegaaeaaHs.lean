/- Plain lemmas for the contracts of slices.Sort and slices.Compact on a row of whole numbers of the call's own; for any program. -/
import Derived.Test.YticpmgofegaaeaaWWords
import Derived.Test.YticpmgofegaaeaaWKept
import Derived.Test.YticpmgofegaaeaaWMore
import Derived.Test.YticpmgofegaaeaaWLast
import Derived.Sort.OwnSortedInts
import Derived.Lib.SlicesCompact
set_option linter.unusedSimpArgs false
set_option linter.unusedVariables false
namespace Go.Proofs.Yticpmgofegaaeaa.Hs
open Go.RowKit Go.Sort Go.Proofs.YticpmgofegaaeaaW.PrintWords Go.Proofs.YticpmgofegaaeaaW.PrintLast Go.Proofs.YticpmgofegaaeaaW.PrintMore

theorem int_reps {k : IntKind} {w : World} {base : Nat} {ok : Nat → Prop} (l : List Int) : Reps ((Kd.int k).M w base ok) 1 l (l.map (Value.int k)) := by
  refine ⟨by simp, fun j p hp => ?_⟩
  obtain ⟨hj, rfl⟩ := List.getElem?_eq_some_iff.1 hp
  show ((l.map (Value.int k)).drop (j * 1)).take 1 = [.int k l[j]]
  rw [Nat.mul_one, List.drop_eq_getElem_cons (by simpa using hj), List.take_succ_cons, List.take_zero, List.getElem_map]
section
variable {P : Program} {f : FuncId} {e : Nat}
theorem clone_calls (hC : ∀ (b off n c : Nat) (zs : List Int) (w : World), n ≤ zs.length → n * 8 ≤ 140737488355328 → (∀ j, j < zs.length → w.cell? ⟨b, off + j, none⟩ = some (.int .i64 (zs.getD j 0))) →
      Calls P f #[.slice (some ⟨b, off, none⟩) n c] w fun e' w' => ∃ v', e' = .returned v' ∧ w'.ownsRow w.heap.size e 1 v' n ((zs.take n).map (Value.int .i64)) ∧ v' ≠ .slice none 0 0 ∧ Below w.heap.size w w')
    (hN : ∀ (n c : Nat) (w : World), Calls P f #[.slice none n c] w fun e' w' => e' = .returned (.slice none 0 0) ∧ w' = w)
    (hZ : ∀ (a : Addr) (c : Nat) (w : World), Calls P f #[.slice (some a) 0 c] w fun e' w' => ∃ v', e' = .returned v' ∧ w'.ownsRow w.heap.size e 1 v' 0 [] ∧ v' ≠ .slice none 0 0 ∧ Below w.heap.size w w')
    (A : Option Addr) (c : Nat) (l r : List Int) (w : World) (hr : Kd.C (Kd.int .i64) w A l.length l) (hl : l.length * 8 ≤ 140737488355328) (h : l = r) :
    Calls P f #[.slice A l.length c] w fun e' w' => ∃ v0_ : Value, e' = .returned (v0_) ∧ Kd.R (Kd.int .i64) e w' w.heap.size (fun _ => True) v0_ r ∧ Below w.heap.size w w' := by
  subst h
  cases A with
  | none =>
    have h0 : l = [] := by
      cases l with
      | nil => rfl
      | cons x r =>
        obtain ⟨ad, h1, _⟩ := Kd.at_int hr 0 (by omega) (by simp)
        cases h1
    subst h0
    refine (hN 0 c w).mono fun e' w' h => ?_
    obtain ⟨rfl, rfl⟩ := h
    exact ⟨_, rfl, Kd.R_nil _ _ _ _ _, Below.refl _ _⟩
  | some a =>
    by_cases hz : l = []
    · subst hz
      refine (hZ a c w).mono fun e' w' h => ?_
      obtain ⟨v', rfl, ho, _, hb⟩ := h
      exact ⟨v', rfl, ⟨fun _ _ => trivial, [], ho, int_reps []⟩, hb⟩
    · have hp : 0 < l.length := List.length_pos_iff.2 hz
      have hcell : ∀ j, j < l.length → w.cell? (a.add j) = some (.int .i64 (l.getD j 0)) := by
        intro j hj
        obtain ⟨ad, h1, h2⟩ := Kd.at_int hr (j : Int) (by omega) (by omega)
        cases h1
        simpa [rd] using h2
      obtain ⟨b, off, s⟩ := a
      have hs : s = none := by
        have h0 := hcell 0 hp
        cases s with
        | none => rfl
        | some q => simp [World.cell?, Addr.add] at h0; split at h0 <;> simp at h0
      subst hs
      refine (hC b off l.length c l w (Nat.le_refl _) hl (fun j hj => by
        have := hcell j hj
        by_cases h0 : j = 0
        · subst h0; simpa [Addr.add] using this
        · simpa [Addr.add, h0] using this)).mono fun e' w' h => ?_
      obtain ⟨v', rfl, ho, _, hb⟩ := h
      rw [List.take_length] at ho
      exact ⟨v', rfl, ⟨fun _ _ => trivial, l.map (Value.int .i64), ho, int_reps l⟩, hb⟩
end
end Go.Proofs.Yticpmgofegaaeaa.Hs
