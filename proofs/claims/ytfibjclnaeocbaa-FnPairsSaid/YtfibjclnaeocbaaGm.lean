/- Plain lemmas on ascending lists: a number put in, a list sorted and compacted; no program in sight. -/
import Derived.Test.YtfibjclnaeocbaaGb
import Derived.Lib.SlicesCompact
set_option linter.unusedSimpArgs false
set_option linter.unusedVariables false
namespace Go.Proofs.Ytfibjclnaeocbaa.Gm
open Go.RowKit Go.Proofs.YtfibjclnaeocbaaW.PrintWords Go.Proofs.Ytfibjclnaeocbaa.Gb Go.Lib

def putI : List Int → Int → List Int
  | [], x => [x]
  | y :: r, x => if y < x then y :: putI r x else if y = x then y :: r else x :: y :: r
theorem putI_length (l : List Int) (x : Int) : l.length ≤ (putI l x).length ∧ 1 ≤ (putI l x).length ∧ (putI l x).length ≤ l.length + 1 := by
  induction l with
  | nil => simp [putI]
  | cons y r ih =>
    simp only [putI]
    split
    · simp only [List.length_cons]; omega
    · split <;> simp only [List.length_cons] <;> omega
theorem mem_putI (l : List Int) (x v : Int) : v ∈ putI l x ↔ v = x ∨ v ∈ l := by
  induction l with
  | nil => simp [putI]
  | cons y r ih =>
    simp only [putI]
    by_cases h1 : y < x
    · rw [if_pos h1, List.mem_cons, ih, List.mem_cons]
      constructor
      · rintro (h | h | h)
        · exact .inr (.inl h)
        · exact .inl h
        · exact .inr (.inr h)
      · rintro (h | h | h)
        · exact .inr (.inl h)
        · exact .inl h
        · exact .inr (.inr h)
    · rw [if_neg h1]
      by_cases h2 : y = x
      · rw [if_pos h2, List.mem_cons]; subst h2
        constructor
        · exact fun h => .inr h
        · rintro (h | h)
          · exact .inl h
          · exact h
      · rw [if_neg h2, List.mem_cons, List.mem_cons]
theorem strict_putI {l : List Int} (h : l.Pairwise (· < ·)) (x : Int) : (putI l x).Pairwise (· < ·) := by
  induction l with
  | nil => simp [putI]
  | cons y r ih =>
    obtain ⟨h1, h2⟩ := List.pairwise_cons.1 h
    simp only [putI]
    by_cases q1 : y < x
    · rw [if_pos q1]
      refine List.pairwise_cons.2 ⟨fun v hv => ?_, ih h2⟩
      rcases (mem_putI r x v).1 hv with rfl | hv
      · exact q1
      · exact h1 v hv
    · rw [if_neg q1]
      by_cases q2 : y = x
      · rw [if_pos q2]; exact h
      · rw [if_neg q2]
        refine List.pairwise_cons.2 ⟨fun v hv => ?_, h⟩
        rcases List.mem_cons.1 hv with rfl | hv
        · omega
        · have := h1 v hv; omega
/-- Two strictly ascending lists with the same members are one. -/
theorem strict_ext : ∀ {a b : List Int}, a.Pairwise (· < ·) → b.Pairwise (· < ·) → (∀ x, x ∈ a ↔ x ∈ b) → a = b
  | [], [], _, _, _ => rfl
  | [], y :: r, _, _, h => by have := (h y).2 (by simp); simp at this
  | x :: r, [], _, _, h => by have := (h x).1 (by simp); simp at this
  | x :: r, y :: s, ha, hb, h => by
    obtain ⟨a1, a2⟩ := List.pairwise_cons.1 ha
    obtain ⟨b1, b2⟩ := List.pairwise_cons.1 hb
    have e : x = y := by
      have hx := (h x).1 (by simp)
      have hy := (h y).2 (by simp)
      rcases List.mem_cons.1 hx with e | hx
      · exact e
      · rcases List.mem_cons.1 hy with e | hy
        · exact e.symm
        · have := a1 y hy; have := b1 x hx; omega
    subst e
    rw [strict_ext a2 b2 fun v => ?_]
    constructor
    · intro hv
      rcases List.mem_cons.1 ((h v).1 (List.mem_cons_of_mem _ hv)) with rfl | q
      · have := a1 v hv; omega
      · exact q
    · intro hv
      rcases List.mem_cons.1 ((h v).2 (List.mem_cons_of_mem _ hv)) with rfl | q
      · have := b1 v hv; omega
      · exact q
theorem arr_nt (s : List Int) (j : Nat) (h : j < s.length) : s.toArray[j]! = s[j] := by simp [h]
theorem compact_inv {s : List Int} (hs : s.Pairwise (· ≤ ·)) : ∀ m, m ≤ s.length → (compactUpTo s.toArray m).Pairwise (· < ·) ∧ ∀ x, x ∈ compactUpTo s.toArray m ↔ x ∈ s.take m := by
  intro m
  induction m with
  | zero => intro _; simp [compactUpTo]
  | succ m ih =>
    intro hm
    obtain ⟨h1, h2⟩ := ih (by omega)
    have hp := List.pairwise_iff_getElem.1 hs
    have top : ∀ x, x ∈ compactUpTo s.toArray m → 0 < m ∧ x ≤ s[m - 1] := by
      intro x hx
      obtain ⟨j, hj, rfl⟩ := List.mem_take_iff_getElem.1 ((h2 x).1 hx)
      refine ⟨by omega, ?_⟩
      by_cases e : j = m - 1
      · subst e; exact Int.le_refl _
      · exact hp j (m - 1) (by omega) (by omega) (by omega)
    have htk : ∀ x, x ∈ s.take (m + 1) ↔ x ∈ s.take m ∨ x = s[m] := by
      intro x
      rw [List.take_succ_eq_append_getElem (by omega), List.mem_append, List.mem_singleton]
    rw [compactUpTo_succ]
    by_cases hk : keeps s.toArray m = true
    · rw [if_pos hk, arr_nt s m (by omega)]
      have hk' : m = 0 ∨ s.toArray[m]! ≠ s.toArray[m - 1]! := by simpa [keeps] using hk
      refine ⟨List.pairwise_append.2 ⟨h1, List.pairwise_singleton _ _, fun a ha b hb => ?_⟩, fun x => by rw [List.mem_append, List.mem_singleton, h2, htk]⟩
      obtain ⟨h0, hle⟩ := top a ha
      rw [List.mem_singleton] at hb; subst hb
      rcases hk' with rfl | hne
      · omega
      · rw [arr_nt s m (by omega), arr_nt s (m - 1) (by omega)] at hne
        have := hp (m - 1) m (by omega) (by omega) (by omega)
        omega
    · rw [if_neg hk, List.append_nil]
      have hk' : m ≠ 0 ∧ s.toArray[m]! = s.toArray[m - 1]! := by simpa [keeps] using hk
      rw [arr_nt s m (by omega), arr_nt s (m - 1) (by omega)] at hk'
      refine ⟨h1, fun x => ?_⟩
      rw [h2, htk]
      constructor
      · exact .inl
      · rintro (h | rfl)
        · exact h
        · rw [hk'.2]; exact List.mem_take_iff_getElem.2 ⟨m - 1, by omega, rfl⟩
/-- A list, sorted and compacted. -/
def sortUniq (l : List Int) : List Int := compact (l.mergeSort fun x y => decide (x ≤ y))
theorem sortUniq_spec (l : List Int) : (sortUniq l).Pairwise (· < ·) ∧ ∀ x, x ∈ sortUniq l ↔ x ∈ l := by
  have hs : (l.mergeSort fun x y => decide (x ≤ y)).Pairwise (· ≤ ·) := by
    have := List.pairwise_mergeSort (le := fun x y : Int => decide (x ≤ y)) (fun a b c h1 h2 => by simp at *; omega) (fun a b => by simp; omega) l
    exact this.imp fun h => by simpa using h
  obtain ⟨h1, h2⟩ := compact_inv hs _ (Nat.le_refl _)
  refine ⟨h1, fun x => ?_⟩
  have := h2 x
  rw [List.take_length] at this
  exact this.trans List.mem_mergeSort
theorem foldl_putI (l : List Int) : ∀ (acc : List Int), acc.Pairwise (· < ·) → (l.foldl putI acc).Pairwise (· < ·) ∧ ∀ x, x ∈ l.foldl putI acc ↔ x ∈ acc ∨ x ∈ l := by
  induction l with
  | nil => intro acc h; simp [h]
  | cons y r ih =>
    intro acc h
    obtain ⟨h1, h2⟩ := ih (putI acc y) (strict_putI h y)
    refine ⟨h1, fun x => ?_⟩
    rw [List.foldl_cons, h2, mem_putI, List.mem_cons]
    constructor
    · rintro ((h | h) | h)
      · exact .inr (.inl h)
      · exact .inl h
      · exact .inr (.inr h)
    · rintro (h | h | h)
      · exact .inl (.inr h)
      · exact .inl (.inl h)
      · exact .inr h
theorem sortUniq_eq (l : List Int) : sortUniq l = l.foldl putI [] := by
  obtain ⟨h1, h2⟩ := sortUniq_spec l
  obtain ⟨h3, h4⟩ := foldl_putI l [] List.Pairwise.nil
  exact strict_ext h1 h3 fun x => by rw [h2, h4]; simp
theorem compact_len (l : List Int) : (compact l).length ≤ l.length := by
  unfold compact compactUpTo
  rw [List.length_map]
  exact Nat.le_trans (List.length_filter_le _ _) (by simp)
/-- A loop inside a loop that keeps the elements with p, each turned by f; at its end the outer one goes on with what rounds are left. -/
theorem filter_inner {α β ρ : Type} {g : Nat → List β → Nat → Option ρ} {l : List α} {z : α} {B c : Nat} {p : α → Bool} {f : α → β} {cont : Nat → List β → Option ρ} (stop : ∀ k acc, B ≤ k → acc.length ≤ c + l.length → g (k + 1) acc l.length = cont k acc)
    (step : ∀ k i acc, i < l.length → B ≤ k → acc.length ≤ c + i → g (k + 1) acc i = if p (nt z l i) = true then g k (acc ++ [f (nt z l i)]) (i + 1) else g k acc (i + 1)) :
    ∀ (d k i : Nat) (acc : List β), i + d = l.length → B + d < k → acc.length ≤ c + i → g k acc i = cont (k - d - 1) (acc ++ ((l.drop i).filter p).map f) := by
  intro d
  induction d with
  | zero =>
    intro k i acc h hk ha
    obtain ⟨k, rfl⟩ := succ_of hk
    obtain rfl : i = l.length := by omega
    rw [stop k acc (by omega) ha, drop_end]; simp
  | succ d ih =>
    intro k i acc h hk ha
    obtain ⟨k, rfl⟩ := succ_of hk
    rw [step k i acc (by omega) (by omega) ha, drop_step l z i (by omega)]
    cases e : p (nt z l i) with
    | true => rw [if_pos rfl, ih k (i + 1) _ (by omega) (by omega) (by rw [List.length_append, List.length_singleton]; omega), List.filter_cons, if_pos e, List.map_cons, List.append_assoc, List.singleton_append, show k + 1 - (d + 1) - 1 = k - d - 1 by omega]
    | false => rw [if_neg (by simp), ih k (i + 1) _ (by omega) (by omega) (by omega), List.filter_cons, if_neg (by simp [e]), show k + 1 - (d + 1) - 1 = k - d - 1 by omega]
end Go.Proofs.Ytfibjclnaeocbaa.Gm
