/- SpansOf of the program and of the reference agree on every list of numbers, as a statement over lists alone; the bounds are those of memory. -/
import Derived.Test.YtmblaialihkjfaaPFnExactSpansOfx2
import Derived.Test.YtmblaialihkjfaaGb
import Derived.Test.YtmblaialihkjfaaGv
namespace Go.Proofs.Ytmblaialihkjfaa.Pure
open Go.RowKit Go.Proofs.Ytmblaialihkjfaa.PFnExactSpansOf Go.Proofs.YtmblaialihkjfaaW.PrintWords Go.Proofs.YtmblaialihkjfaaW.PrintLast Go.Proofs.Ytmblaialihkjfaa.Gb Go.Proofs.Ytmblaialihkjfaa.Gv
set_option linter.unusedSimpArgs false
set_option linter.unusedVariables false
namespace FnExactSpansOfAid

/-! ### laws_toIntS -/
theorem laws_toIntS_l0 (l : List Int) (hl : l.length ≤ 9223372036854775807) : ∀ (d k i : Nat), i + d = l.length → d < k → laws_toIntS.l0 k l (l.take i ++ List.replicate (l.length - i) 0) (i : Int) = some l := by
  intro d
  induction d with
  | zero =>
    intro k i h hk
    obtain ⟨k, rfl⟩ := succ_of hk
    obtain rfl : i = l.length := by omega
    simp only [laws_toIntS.l0]; rw [if_neg (by omega), take_all]
  | succ d ih =>
    intro k i h hk
    obtain ⟨k, rfl⟩ := succ_of hk
    simp only [laws_toIntS.l0]
    rw [if_pos (by omega), if_pos (by omega), if_pos (by rw [List.length_append, List.length_take, List.length_replicate]; omega), wrap_up (n := l.length) (by omega) hl, rd_cast, toNat_cast, set_grow _ _ _ (by omega)]
    exact ih k (i + 1) (by omega) (by omega)
theorem laws_toIntS_eq {l : List Int} {k : Nat} (hl : l.length ≤ 35184372088832) (hk : l.length < k) : laws_toIntS.f k l = some l := by
  unfold laws_toIntS.f
  rw [if_pos (by omega), toNat_cast, if_pos hl, ← take_none l 0]
  exact laws_toIntS_l0 l (by omega) l.length k 0 (by omega) hk

/-! ### laws_eqIntS -/
theorem laws_eqIntS_l0 (a b : List Int) (hl : a.length ≤ 9223372036854775807) (he : b.length = a.length) : ∀ (d k i : Nat), i + d = a.length → d < k → laws_eqIntS.l0 k a b (i : Int) = some (decide (a.drop i = b.drop i)) := by
  intro d
  induction d with
  | zero =>
    intro k i h hk
    obtain ⟨k, rfl⟩ := succ_of hk
    obtain rfl : i = a.length := by omega
    simp only [laws_eqIntS.l0]; rw [if_neg (by omega), drop_end, ← he, drop_end, decide_eq_true rfl]
  | succ d ih =>
    intro k i h hk
    obtain ⟨k, rfl⟩ := succ_of hk
    simp only [laws_eqIntS.l0]
    rw [if_pos (by omega), if_pos (by omega), if_pos (by omega), wrap_up (n := a.length) (by omega) hl, rd_cast, rd_cast, drop_step a 0 i (by omega), drop_step b 0 i (by omega), ih k (i + 1) (by omega) (by omega)]
    by_cases e : nt 0 a i = nt 0 b i
    · rw [if_pos e, e]; simp
    · rw [if_neg e]; simp [e]
theorem laws_eqIntS_eq {a b : List Int} {k : Nat} (hl : a.length ≤ 9223372036854775807) (hk : a.length < k) : laws_eqIntS.f k a b = some (decide (a = b)) := by
  unfold laws_eqIntS.f
  by_cases e : a.length = b.length
  · rw [if_pos (by omega)]
    exact laws_eqIntS_l0 a b hl e.symm a.length k 0 (by omega) hk
  · rw [if_neg (by omega), decide_eq_false (fun h => e (by rw [h]))]
theorem laws_eqIntS_self {a : List Int} {k : Nat} (hl : a.length ≤ 9223372036854775807) (hk : a.length < k) : laws_eqIntS.f k a a = some true := by
  rw [laws_eqIntS_eq hl hk, decide_eq_true rfl]

/-! ### spec_l1In -/
theorem spec_l1In_eq (a b c : Int) : spec_l1In.f a b c = some (decide (b ≤ a ∧ a ≤ c)) := by
  unfold spec_l1In.f
  by_cases h : a ≥ b
  · rw [if_pos h]; simp [show b ≤ a from h]
  · rw [if_neg h, decide_eq_false (by omega)]

/-! ### spec_AreVersions -/
theorem spec_AreVersions_eq {l : List Int} {k : Nat} (hl : l.length ≤ 9223372036854775807) (hk : l.length < k) : spec_AreVersions.f k l = some (areVers l) := by
  unfold spec_AreVersions.f
  have h := all_loop (g := fun k i => spec_AreVersions.l0 k l (i : Int)) (n := l.length) (B := 0) (ok := verOk l) (fin := decide (0 < l.length)) (fun k => by
      simp only [spec_AreVersions.l0]; rw [if_neg (by omega)]; congr 1; rw [decide_eq_decide]; omega)
    (fun k i hi _ => by
      simp only [spec_AreVersions.l0]
      rw [if_pos (by omega), if_pos (by omega), spec_l1In_eq, Option.bind_some, wrap_up (n := l.length) hi hl, rd_cast]
      unfold verOk
      by_cases h1 : 1 ≤ nt 0 l i ∧ nt 0 l i ≤ 9
      · rw [decide_eq_true h1, if_pos rfl]
        by_cases h0 : 0 < i
        · rw [if_pos (by omega), wrap_dn h0 (by omega), if_pos (by omega), if_pos (by omega), rd_cast]
          by_cases h2 : nt 0 l (i - 1) < nt 0 l i
          · rw [if_neg (by omega), if_pos (by simp [h2])]
          · rw [if_pos (by omega), if_neg (by simp [h2]; omega)]
        · rw [if_neg (by omega), if_pos (by simp; omega)]
      · rw [decide_eq_false h1, if_neg (by simp), if_neg (by simp)]) l.length k 0 (by omega) (by omega)
  exact h

/-! ### spec_SpansOf -/
theorem spec_SpansOf_eq {l : List Int} {k : Nat} (hl : l.length ≤ 1048576) (hw : ∀ x ∈ l, (Lit.int .i64 x).wf = true) (hk : 3 * l.length + 10 < k) : spec_SpansOf.f k l = some (spansOf l) := by
  unfold spec_SpansOf.f
  cases hA : areVers l with
  | false =>
    obtain ⟨k, rfl⟩ : ∃ m, k = m + 1 + 1 := ⟨k - 2, by omega⟩
    have hj : spec_SpansOf.j1 (k + 1) l 0 0 false = some 0 := by simp only [spec_SpansOf.j1]; rw [if_neg (by simp)]
    simp only [spec_SpansOf.l0]
    by_cases h0 : (0 : Int) < l.length
    · rw [if_pos h0, spec_AreVersions_eq (by omega) (by omega), Option.bind_some, hA, hj]; simp [spansOf, hA]
    · rw [if_neg h0, hj]; simp [spansOf, hA]
  | true =>
    have hr := ((areVers_iff l).1 hA).1
    have hloop : ∀ (d k i : Nat) (n : Int), i + d = l.length → 2 * d + l.length + 5 < k → 0 ≤ n → n ≤ i → spec_SpansOf.l0 k l n (i : Int) = some (n + gapsFrom l i d) := by
      intro d
      induction d with
      | zero =>
        intro k i n h hk h0 h1
        obtain ⟨k, rfl⟩ : ∃ m, k = m + 1 + 1 := ⟨k - 2, by omega⟩
        simp only [spec_SpansOf.l0]
        rw [if_neg (by omega)]
        simp only [spec_SpansOf.j1]
        rw [if_neg (by simp)]; simp [gapsFrom]
      | succ d ih =>
        intro k i n h hk h0 h1
        obtain ⟨k, rfl⟩ : ∃ m, k = m + 1 + 1 := ⟨k - 2, by omega⟩
        simp only [spec_SpansOf.l0]
        rw [if_pos (by omega), spec_AreVersions_eq (by omega) (by omega), Option.bind_some, hA]
        simp only [spec_SpansOf.j1, if_true]
        rw [wrap_up (n := l.length) (by omega) (by omega), wrap_id (x := n + 1) (by omega) (by omega)]
        by_cases hi : i = 0
        · rw [if_pos (by omega), ih k (i + 1) (n + 1) (by omega) (by omega) (by omega) (by omega)]
          simp [gapsFrom, gap, hi]; omega
        · have hp := hr _ (List.getElem_mem (show i - 1 < l.length by omega))
          rw [if_neg (by omega), wrap_dn (i := i) (by omega) (by omega), if_pos (by omega), if_pos (by omega), if_pos (by omega), if_pos (by omega), rd_cast, rd_cast, wrap_id (x := nt 0 l (i - 1) + 1) (by rw [nt_lt _ _ _ (show i - 1 < l.length by omega)]; omega) (by rw [nt_lt _ _ _ (show i - 1 < l.length by omega)]; omega)]
          by_cases e : nt 0 l (i - 1) + 1 = nt 0 l i
          · rw [if_pos e, ih k (i + 1) n (by omega) (by omega) h0 (by omega)]
            simp [gapsFrom, gap, hi, e]
          · rw [if_neg e, ih k (i + 1) (n + 1) (by omega) (by omega) (by omega) (by omega)]
            simp [gapsFrom, gap, hi, e]; omega
    have h := hloop l.length k 0 0 (by omega) (by omega) (by omega) (by omega)
    rw [show ((0 : Nat) : Int) = 0 from rfl] at h
    rw [h]; simp [spansOf, hA]

/-! ### impl_InRange -/
theorem impl_InRange_eq (a b c : Int) : impl_InRange.f a b c = some (decide (b ≤ a ∧ a ≤ c)) := by
  unfold impl_InRange.f
  by_cases h : b ≤ a
  · rw [if_pos h]; simp [h]
  · rw [if_neg h, decide_eq_false (by omega)]

/-! ### impl_AreVersions -/
theorem impl_AreVersions_eq {l : List Int} {k : Nat} (hl : l.length ≤ 9223372036854775807) (hk : l.length < k) : impl_AreVersions.f k l = some (areVers l) := by
  unfold impl_AreVersions.f
  have h := all_loop (g := fun k i => impl_AreVersions.l0 k l l (l.length : Int) (i : Int)) (n := l.length) (B := 0) (ok := verOk l) (fin := decide (0 < l.length)) (fun k => by
      simp only [impl_AreVersions.l0]; rw [if_neg (by omega)]; congr 1; rw [decide_eq_decide]; omega)
    (fun k i hi _ => by
      simp only [impl_AreVersions.l0]
      rw [if_pos (by omega), if_pos (by omega), if_pos (by omega), impl_InRange_eq, Option.bind_some, wrap_up (n := l.length) hi hl, rd_cast]
      unfold verOk
      by_cases h1 : 1 ≤ nt 0 l i ∧ nt 0 l i ≤ 9
      · rw [decide_eq_true h1, if_pos rfl]
        by_cases h0 : 0 < i
        · rw [if_pos (by omega), wrap_dn h0 (by omega), if_pos (by omega), if_pos (by omega), rd_cast]
          by_cases h2 : nt 0 l (i - 1) < nt 0 l i
          · rw [if_neg (by omega), if_pos (by simp [h2])]
          · rw [if_pos (by omega), if_neg (by simp [h2]; omega)]
        · rw [if_neg (by omega), if_pos (by simp; omega)]
      · rw [decide_eq_false h1, if_neg (by simp), if_neg (by simp)]) l.length k 0 (by omega) (by omega)
  exact h

/-! ### impl_SpansOf -/
theorem impl_SpansOf_eq {l : List Int} {k : Nat} (hl : l.length ≤ 1048576) (hk : l.length + 2 < k) : impl_SpansOf.f k l = some (spansOf l) := by
  unfold impl_SpansOf.f
  rw [impl_AreVersions_eq (by omega) (by omega), Option.bind_some]
  cases hA : areVers l with
  | false => simp [spansOf, hA]
  | true =>
    obtain ⟨hr, _, hne⟩ := (areVers_iff l).1 hA
    have hpos : 0 < l.length := List.length_pos_iff.2 hne
    rw [if_pos rfl]
    have hloop : ∀ (d k i : Nat) (n : Int), i + d = l.length → d < k → 0 < i → 0 ≤ n → n ≤ i → impl_SpansOf.l0 k l n (i : Int) = some (n + gapsFrom l i d) := by
      intro d
      induction d with
      | zero =>
        intro k i n h hk hi h0 h1
        obtain ⟨k, rfl⟩ := succ_of hk
        simp only [impl_SpansOf.l0]
        rw [if_neg (by omega)]; simp [gapsFrom]
      | succ d ih =>
        intro k i n h hk hi h0 h1
        obtain ⟨k, rfl⟩ := succ_of hk
        have hp := hr _ (List.getElem_mem (show i - 1 < l.length by omega))
        simp only [impl_SpansOf.l0]
        rw [if_pos (by omega), if_pos (by omega), wrap_up (n := l.length) (by omega) (by omega), wrap_id (x := n + 1) (by omega) (by omega), wrap_dn (i := i) hi (by omega), if_pos (by omega), if_pos (by omega), rd_cast, rd_cast,
          wrap_id (x := nt 0 l (i - 1) + 1) (by rw [nt_lt _ _ _ (show i - 1 < l.length by omega)]; omega) (by rw [nt_lt _ _ _ (show i - 1 < l.length by omega)]; omega)]
        by_cases e : nt 0 l i = nt 0 l (i - 1) + 1
        · rw [if_pos e, ih k (i + 1) n (by omega) (by omega) (by omega) h0 (by omega)]
          simp [gapsFrom, gap, e]; omega
        · rw [if_neg e, ih k (i + 1) (n + 1) (by omega) (by omega) (by omega) (by omega) (by omega)]
          have e' : ¬ (nt 0 l (i - 1) + 1 = nt 0 l i) := fun h => e h.symm
          have hi0 : ¬ i = 0 := by omega
          simp [gapsFrom, gap, e', hi0]; omega
    have h := hloop (l.length - 1) k 1 1 (by omega) (by omega) (by omega) (by omega) (by omega)
    rw [show ((1 : Nat) : Int) = 1 from rfl] at h
    rw [h]
    have e : l.length = (l.length - 1) + 1 := by omega
    unfold spansOf
    rw [hA, if_pos rfl, e, gapsFrom]; simp [gap]

end FnExactSpansOfAid
open FnExactSpansOfAid

theorem FnExactSpansOf : laws_FnExactSpansOf.Pure := by
  intro a _ _ hw
  obtain ⟨k, hk⟩ : ∃ k, k = 3 * a.length + 20 := ⟨_, rfl⟩
  refine ⟨k, ?_⟩
  unfold laws_FnExactSpansOf.f
  by_cases hb1 : (a.length : Int) > 1048576
  · rw [if_pos hb1]
  rw [if_neg hb1]
  have ta : laws_toIntS.f k a = some a := laws_toIntS_eq (by omega) (by omega)
  simp only [ta, Option.bind_some, spec_SpansOf_eq (l := a) (k := k) (by omega) hw (by omega), impl_SpansOf_eq (l := a) (k := k) (by omega) (by omega), if_true, laws_eqIntS_self (a := a) (k := k) (by omega) (by omega)]

end Go.Proofs.Ytmblaialihkjfaa.Pure
