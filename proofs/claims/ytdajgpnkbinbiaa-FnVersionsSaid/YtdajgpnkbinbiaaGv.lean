/- Plain definitions and lemmas on lists of versions; no program in sight. -/
import Derived.Test.YtdajgpnkbinbiaaGb
import Derived.Test.YtdajgpnkbinbiaaWMore
set_option linter.unusedSimpArgs false
set_option linter.unusedVariables false
namespace Go.Proofs.Ytdajgpnkbinbiaa.Gv
open Go.RowKit Go.Proofs.YtdajgpnkbinbiaaW.PrintWords Go.Proofs.YtdajgpnkbinbiaaW.PrintMore Go.Proofs.Ytdajgpnkbinbiaa.Gb

/-- Element i is a version, and greater than the one ahead of it. -/
def verOk (l : List Int) (i : Nat) : Bool := decide (1 ≤ nt 0 l i ∧ nt 0 l i ≤ 9) && (i == 0 || decide (nt 0 l (i - 1) < nt 0 l i))
def areVers (l : List Int) : Bool := allFrom (verOk l) 0 l.length && decide (0 < l.length)
def common (a b : List Int) : List Int := a.filter fun x => b.any (· == x)
def bestCommon (a b : List Int) : Int := if areVers a && areVers b then (common a b).getLastD 0 else 0

def dropVersion (l : List Int) (v : Int) : List Int × Bool := if areVers l && (l.any (· == v) && !(l.length == 1)) then (l.filter fun x => !(x == v), true) else (l, false)

/-- Does a span begin at element i? -/
def gap (l : List Int) (i : Nat) : Bool := decide (i = 0) || !decide (nt 0 l (i - 1) + 1 = nt 0 l i)
def gapsFrom (l : List Int) : Nat → Nat → Int
  | _, 0 => 0
  | i, d + 1 => (if gap l i = true then 1 else 0) + gapsFrom l (i + 1) d
def spansOf (l : List Int) : Int := if areVers l = true then gapsFrom l 0 l.length else 0

/-- What areVers says: in range, ascending, not empty. -/
theorem areVers_iff (l : List Int) : areVers l = true ↔ (∀ x ∈ l, 1 ≤ x ∧ x ≤ 9) ∧ l.Pairwise (· < ·) ∧ l ≠ [] := by
  unfold areVers
  rw [Bool.and_eq_true, allFrom_iff, decide_eq_true_eq]
  have e0 : (0 < l.length) ↔ l ≠ [] := List.length_pos_iff
  rw [e0]
  constructor
  · rintro ⟨h, hne⟩
    have hr : ∀ j, j < l.length → (1 ≤ nt 0 l j ∧ nt 0 l j ≤ 9) ∧ (j = 0 ∨ nt 0 l (j - 1) < nt 0 l j) := by
      intro j hj
      have := h j (by omega) (by omega)
      unfold verOk at this
      simpa using this
    refine ⟨fun x hx => ?_, ?_, hne⟩
    · obtain ⟨j, hj, rfl⟩ := List.mem_iff_getElem.1 hx
      have := (hr j hj).1
      rwa [nt_lt _ _ _ hj] at this
    · refine List.pairwise_iff_getElem.2 ?_
      have step : ∀ d i (hi : i < l.length) (hj : i + d + 1 < l.length), l[i] < l[i + d + 1] := by
        intro d
        induction d with
        | zero =>
          intro i hi hj
          have := (hr (i + 1) hj).2
          rw [nt_lt _ _ _ hj, show i + 1 - 1 = i by omega, nt_lt _ _ _ hi] at this
          rcases this with h | h
          · omega
          · exact h
        | succ d ih =>
          intro i hi hj
          have h1 := ih i hi (by omega)
          have h2 := (hr (i + (d + 1) + 1) hj).2
          rw [nt_lt _ _ _ hj, nt_lt _ _ _ (show i + (d + 1) + 1 - 1 < l.length by omega)] at h2
          rcases h2 with h | h
          · omega
          · simp only [show i + (d + 1) + 1 - 1 = i + d + 1 by omega] at h
            omega
      intro i j hi hj hij
      obtain ⟨d, rfl⟩ : ∃ d, j = i + d + 1 := ⟨j - i - 1, by omega⟩
      exact step d i hi hj
  · rintro ⟨h1, h2, h3⟩
    refine ⟨fun j _ hj => ?_, h3⟩
    have hj' : j < l.length := by omega
    unfold verOk
    rw [nt_lt _ _ _ hj']
    have := h1 _ (List.getElem_mem hj')
    by_cases e : j = 0
    · simp [e]; subst e; exact this
    · have hp := List.pairwise_iff_getElem.1 h2 (j - 1) j (by omega) hj' (by omega)
      rw [nt_lt _ _ _ (show j - 1 < l.length by omega)]
      simp [e, this, hp]

theorem foldl_mx_sorted : ∀ (l : List Int) (s : Int), (∀ x ∈ l, s ≤ x) → l.Pairwise (· < ·) → l.foldl mx s = l.getLastD s
  | [], s, _, _ => rfl
  | x :: r, s, h, hp => by
    have hx : mx s x = x := by
      have := h x (by simp)
      unfold mx
      split <;> omega
    rw [List.foldl_cons, hx, foldl_mx_sorted r x (fun y hy => by have := List.rel_of_pairwise_cons hp hy; omega) (List.Pairwise.of_cons hp), List.getLastD_cons]
theorem best_max {a b : List Int} (h : areVers a = true) : (common a b).foldl mx 0 = (common a b).getLastD 0 := by
  obtain ⟨h1, h2, _⟩ := (areVers_iff a).1 h
  refine foldl_mx_sorted _ _ (fun x hx => ?_) (h2.filter _)
  have := h1 x (List.mem_filter.1 hx).1
  omega

end Go.Proofs.Ytdajgpnkbinbiaa.Gv
