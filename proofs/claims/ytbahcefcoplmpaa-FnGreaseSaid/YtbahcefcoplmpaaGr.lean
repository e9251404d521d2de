/- How an argument that reads as data lies in memory, kind by kind; for any program. -/
import Derived.Test.YtbahcefcoplmpaaWWords
import Derived.Deep.Slices
import Derived.Lib.SmallJoins
set_option linter.unusedSimpArgs false
set_option linter.unusedVariables false
namespace Go.Proofs.Ytbahcefcoplmpaa.Gr
open Go.RowKit Go.Proofs.YtbahcefcoplmpaaW.PrintWords Go.Deep Go.ChangeShapes Go.WideShapes

section
variable {H : Type} {enc : TypeId × Value → H} {P : Program} {w : World} {α : Type}

/-- Whatever reads as type t lies as kind d tells it, and W holds of it. -/
def Opens (enc : TypeId × Value → H) (P : Program) (w : World) (t : TypeId) (d : Kd α) (W : α → Prop) : Prop :=
  ∀ (fuel : Nat) (cs : List Value) (x : DataW H × List MemPlace), DataW.trod enc P w 0 (fun _ => true) true fuel t cs = some x → ∃ a, d.K w a cs ∧ W a

theorem opens_int {t : TypeId} {k : IntKind} (ht : P.underlying t = some (.int k)) : Opens enc P w t (Kd.int k) (fun x => (Lit.int k x).wf = true) := by
  intro fuel cs x h
  obtain ⟨n, rfl, _, hw⟩ := DataW.trod_int ht h
  exact ⟨n, rfl, hw⟩
theorem opens_bool {t : TypeId} (ht : P.underlying t = some .bool) : Opens enc P w t Kd.bool (fun _ => True) := by
  intro fuel cs x h
  obtain ⟨n, rfl, _⟩ := DataW.trod_bool ht h
  exact ⟨n, rfl, trivial⟩
theorem opens_slice {t e : TypeId} {d : Kd α} {W : α → Prop} (ht : P.underlying t = some (.slice e)) (hc : P.cellsOf e = d.sz) (he : Opens enc P w e d W) :
    Opens enc P w t (Kd.slice e d) (fun xs => xs.length ≤ 9223372036854775807 ∧ ∀ x ∈ xs, W x) := by
  intro fuel cs x h
  rcases open_slice ht h with ⟨rfl, _⟩ | ⟨a, len, cap, m, n, D, Pl, rfl, _, hl, hm, hmm, rfl, hx⟩
  · exact ⟨[], ⟨none, 0, rfl, Nat.le_refl _, rfl, by simp, fun h0 => absurd h0 (by simp)⟩, by simp, by simp⟩
  · have hml : m = cap := by rw [hmm, if_pos rfl]
    have hel : ∀ i : Fin len, ∃ a1 : α, ∃ cs', w.cells? 0 (a.add (i.val * P.cellsOf e)) (P.cellsOf e) = some cs' ∧ d.K w a1 cs' ∧ W a1 := fun i => by
      obtain ⟨cs', h1, h2⟩ := hx i.val (by have := i.isLt; omega)
      obtain ⟨a1, h3, h4⟩ := he _ _ _ h2
      exact ⟨a1, cs', h1, h3, h4⟩
    have hm' : cap ≤ 9223372036854775807 := hm
    refine ⟨List.ofFn fun i => Classical.choose (hel i), ⟨some a, cap, by rw [List.length_ofFn], by rw [List.length_ofFn]; exact hl, rfl, by rw [List.length_ofFn]; omega, fun _ => ⟨a, rfl, fun j p hj => ?_⟩⟩, by rw [List.length_ofFn]; omega, fun p hp => ?_⟩
    · obtain ⟨hlt, hp⟩ := List.getElem?_eq_some_iff.1 hj
      rw [List.length_ofFn] at hlt
      rw [List.getElem_ofFn] at hp
      obtain ⟨cs', h1, h2, _⟩ := Classical.choose_spec (hel ⟨j, hlt⟩)
      rw [hp] at h2
      refine ⟨cs', d.K_len h2, h2, fun i u hu => ?_⟩
      obtain ⟨_, h4, h5⟩ := World.cells?_some h1
      have hi : i < cs'.length := (List.getElem?_eq_some_iff.1 hu).1
      have h6 := h5 i (by omega)
      rw [hu, Go.Deep.add_add, hc] at h6
      exact h6
    · obtain ⟨i, rfl⟩ := List.mem_ofFn.1 hp
      exact (Classical.choose_spec (hel i)).choose_spec.2.2
/-- A slice that came in by value. -/
theorem opens_slice_val {t e : TypeId} {d : Kd α} {W : List α → Prop} {A : Option Addr} {len cap : Nat} {x : DataW H} {ps : List MemPlace} (he : Opens enc P w t (Kd.slice e d) W)
    (h : DataW.Trod enc P w 0 (fun _ => true) true t (.slice A len cap) x ps) : ∃ xs : List α, len = xs.length ∧ xs.length ≤ cap ∧ d.C w A xs.length xs ∧ W xs := by
  obtain ⟨fuel, hf⟩ := h
  obtain ⟨xs, ⟨A', c', h1, h2, h3⟩, h4⟩ := he _ _ _ hf
  have e : (Value.slice A len cap) = .slice A' xs.length c' := by
    have h1' : [Value.slice A len cap] = [Value.slice A' xs.length c'] := h1
    injection h1'
  injection e with e1 e2 e3
  subst e1 e2 e3
  exact ⟨xs, rfl, h2, h3, h4⟩
/-- .. as a field's cell. -/
theorem opens_slice_cell {t e : TypeId} {d : Kd α} {W : List α → Prop} {c : Value} {n : Nat} {x : DataW H × List MemPlace} (he : Opens enc P w t (Kd.slice e d) W)
    (h : DataW.trod enc P w 0 (fun _ => true) true n t [c] = some x) : ∃ (xs : List α) (A : Option Addr) (cap : Nat), c = .slice A xs.length cap ∧ xs.length ≤ cap ∧ d.C w A xs.length xs ∧ W xs := by
  obtain ⟨xs, ⟨A, cap, h1, h2, h3⟩, h4⟩ := he _ _ _ h
  injection h1 with h1 _
  exact ⟨xs, A, cap, h1, h2, h3, h4⟩
theorem opens_int_cell {t : TypeId} {k : IntKind} {c : Value} {n : Nat} {x : DataW H × List MemPlace} (ht : P.underlying t = some (.int k)) (h : DataW.trod enc P w 0 (fun _ => true) true n t [c] = some x) : ∃ a : Int, c = .int k a ∧ (Lit.int k a).wf = true := by
  obtain ⟨a, h1, _, hw⟩ := DataW.trod_int ht h
  injection h1 with h1 _
  exact ⟨a, h1, hw⟩
theorem opens_bool_cell {t : TypeId} {c : Value} {n : Nat} {x : DataW H × List MemPlace} (ht : P.underlying t = some .bool) (h : DataW.trod enc P w 0 (fun _ => true) true n t [c] = some x) : ∃ a : Bool, c = .bool a := by
  obtain ⟨a, h1, _⟩ := DataW.trod_bool ht h
  injection h1 with h1 _
  exact ⟨a, h1⟩
theorem len1 {β : Type} {cs : List β} (h : cs.length = 1) : ∃ c0, cs = [c0] := by
  match cs, h with
  | [c0], _ => exact ⟨c0, rfl⟩
theorem len2 {β : Type} {cs : List β} (h : cs.length = 2) : ∃ c0 c1, cs = [c0, c1] := by
  match cs, h with
  | [c0, c1], _ => exact ⟨c0, c1, rfl⟩
theorem len3 {β : Type} {cs : List β} (h : cs.length = 3) : ∃ c0 c1 c2, cs = [c0, c1, c2] := by
  match cs, h with
  | [c0, c1, c2], _ => exact ⟨c0, c1, c2, rfl⟩
theorem len4 {β : Type} {cs : List β} (h : cs.length = 4) : ∃ c0 c1 c2 c3, cs = [c0, c1, c2, c3] := by
  match cs, h with
  | [c0, c1, c2, c3], _ => exact ⟨c0, c1, c2, c3, rfl⟩
theorem len5 {β : Type} {cs : List β} (h : cs.length = 5) : ∃ c0 c1 c2 c3 c4, cs = [c0, c1, c2, c3, c4] := by
  match cs, h with
  | [c0, c1, c2, c3, c4], _ => exact ⟨c0, c1, c2, c3, c4, rfl⟩
theorem len6 {β : Type} {cs : List β} (h : cs.length = 6) : ∃ c0 c1 c2 c3 c4 c5, cs = [c0, c1, c2, c3, c4, c5] := by
  match cs, h with
  | [c0, c1, c2, c3, c4, c5], _ => exact ⟨c0, c1, c2, c3, c4, c5, rfl⟩
end
end Go.Proofs.Ytbahcefcoplmpaa.Gr
