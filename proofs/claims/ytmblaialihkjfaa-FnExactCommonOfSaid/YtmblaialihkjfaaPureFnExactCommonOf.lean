/- CommonOf of the program and of the reference agree on every two lists of numbers, as a statement over lists alone; the bounds are those of memory. -/
import Derived.Test.YtmblaialihkjfaaPFnExactCommonOfx2
import Derived.Test.YtmblaialihkjfaaGb
namespace Go.Proofs.Ytmblaialihkjfaa.Pure
open Go.RowKit Go.Proofs.Ytmblaialihkjfaa.PFnExactCommonOf Go.Proofs.YtmblaialihkjfaaW.PrintWords Go.Proofs.YtmblaialihkjfaaW.PrintLast Go.Proofs.Ytmblaialihkjfaa.Gb
namespace FnExactCommonOfAid

/-! ### laws_toIntS -/
theorem laws_toIntS_l0 (l : List Int) (hl : l.length ≤ 9223372036854775807) : ∀ (d k i : Nat), i + d = l.length → d < k → laws_toIntS.l0 k l (l.take i ++ List.replicate (l.length - i) 0) (i : Int) = some l := by
  intro d
  induction d with
  | zero =>
    intro k i h hk
    obtain ⟨k, rfl⟩ := succ_of hk
    obtain rfl : i = l.length := by omega
    simp only [laws_toIntS.l0]; rw [if_neg (by omega), take_all]
  | succ d ih =>
    intro k i h hk
    obtain ⟨k, rfl⟩ := succ_of hk
    simp only [laws_toIntS.l0]
    rw [if_pos (by omega), if_pos (by omega), if_pos (by rw [List.length_append, List.length_take, List.length_replicate]; omega), wrap_up (n := l.length) (by omega) hl, rd_cast, toNat_cast, set_grow _ _ _ (by omega)]
    exact ih k (i + 1) (by omega) (by omega)
theorem laws_toIntS_eq {l : List Int} {k : Nat} (hl : l.length ≤ 35184372088832) (hk : l.length < k) : laws_toIntS.f k l = some l := by
  unfold laws_toIntS.f
  rw [if_pos (by omega), toNat_cast, if_pos hl, ← take_none l 0]
  exact laws_toIntS_l0 l (by omega) l.length k 0 (by omega) hk

/-! ### laws_eqIntS -/
theorem laws_eqIntS_l0 (a b : List Int) (hl : a.length ≤ 9223372036854775807) (he : b.length = a.length) : ∀ (d k i : Nat), i + d = a.length → d < k → laws_eqIntS.l0 k a b (i : Int) = some (decide (a.drop i = b.drop i)) := by
  intro d
  induction d with
  | zero =>
    intro k i h hk
    obtain ⟨k, rfl⟩ := succ_of hk
    obtain rfl : i = a.length := by omega
    simp only [laws_eqIntS.l0]; rw [if_neg (by omega), drop_end, ← he, drop_end, decide_eq_true rfl]
  | succ d ih =>
    intro k i h hk
    obtain ⟨k, rfl⟩ := succ_of hk
    simp only [laws_eqIntS.l0]
    rw [if_pos (by omega), if_pos (by omega), if_pos (by omega), wrap_up (n := a.length) (by omega) hl, rd_cast, rd_cast, drop_step a 0 i (by omega), drop_step b 0 i (by omega), ih k (i + 1) (by omega) (by omega)]
    by_cases e : nt 0 a i = nt 0 b i
    · rw [if_pos e, e]; simp
    · rw [if_neg e]; simp [e]
theorem laws_eqIntS_eq {a b : List Int} {k : Nat} (hl : a.length ≤ 9223372036854775807) (hk : a.length < k) : laws_eqIntS.f k a b = some (decide (a = b)) := by
  unfold laws_eqIntS.f
  by_cases e : a.length = b.length
  · rw [if_pos (by omega)]
    exact laws_eqIntS_l0 a b hl e.symm a.length k 0 (by omega) hk
  · rw [if_neg (by omega), decide_eq_false (fun h => e (by rw [h]))]
theorem laws_eqIntS_self {a : List Int} {k : Nat} (hl : a.length ≤ 9223372036854775807) (hk : a.length < k) : laws_eqIntS.f k a a = some true := by
  rw [laws_eqIntS_eq hl hk, decide_eq_true rfl]

/-! ### laws_markIntS -/
theorem laws_markIntS_l0 (l : List Int) (hl : l.length ≤ 4611686018427387904) (a : Int) (h0 : 0 ≤ a) (h1 : a ≤ 4611686018427387903) : ∀ (d k i : Nat), i + d = l.length → d < k → laws_markIntS.l0 k (seqFrom a i ++ l.drop i) (a + i) (i : Int) = some (a + l.length, seqFrom a l.length) := by
  intro d
  induction d with
  | zero =>
    intro k i h hk
    obtain ⟨k, rfl⟩ := succ_of hk
    obtain rfl : i = l.length := by omega
    simp only [laws_markIntS.l0]; rw [drop_end, List.append_nil, seqFrom_length, if_neg (by omega)]
  | succ d ih =>
    intro k i h hk
    obtain ⟨k, rfl⟩ := succ_of hk
    simp only [laws_markIntS.l0]
    rw [if_pos (by rw [List.length_append, List.length_drop, seqFrom_length]; omega), if_pos (by omega), wrap_up (n := l.length) (by omega) (by omega), toNat_cast, set_mark _ _ _ _ (seqFrom_length a i) (by omega), ← seqFrom_snoc, wrap_id (by omega) (by omega), Int.add_assoc]
    exact ih k (i + 1) (by omega) (by omega)
theorem laws_markIntS_eq {l : List Int} {a : Int} {k : Nat} (hl : l.length ≤ 4611686018427387904) (h0 : 0 ≤ a) (h1 : a ≤ 4611686018427387903) (hk : l.length < k) : laws_markIntS.f k l a = some (a + l.length, seqFrom a l.length) := by
  unfold laws_markIntS.f
  have h := laws_markIntS_l0 l hl a h0 h1 l.length k 0 (by omega) hk
  simp only [seqFrom, List.drop_zero, List.nil_append, Int.natCast_zero, Int.add_zero] at h
  exact h

/-! ### laws_heldIntS -/
theorem laws_heldIntS_l0 (n : Nat) (hn : n ≤ 4611686018427387904) (a : Int) (h0 : 0 ≤ a) (h1 : a ≤ 4611686018427387903) : ∀ (d k i : Nat), i + d = n → d < k → laws_heldIntS.l0 k (seqFrom a n) (a + i) (i : Int) = some (a + n) := by
  intro d
  induction d with
  | zero =>
    intro k i h hk
    obtain ⟨k, rfl⟩ := succ_of hk
    obtain rfl : i = n := by omega
    simp only [laws_heldIntS.l0]; rw [seqFrom_length, if_neg (by omega)]
  | succ d ih =>
    intro k i h hk
    obtain ⟨k, rfl⟩ := succ_of hk
    simp only [laws_heldIntS.l0]
    rw [seqFrom_length, if_pos (by omega), if_pos (by omega), rd_cast, nt_seq a n i (by omega), if_pos rfl, wrap_up (n := n) (by omega) (by omega), wrap_id (by omega) (by omega), Int.add_assoc]
    exact ih k (i + 1) (by omega) (by omega)
theorem laws_heldIntS_eq {n : Nat} {a : Int} {k : Nat} (hn : n ≤ 4611686018427387904) (h0 : 0 ≤ a) (h1 : a ≤ 4611686018427387903) (hk : n < k) : laws_heldIntS.f k (seqFrom a n) a = some (a + n) := by
  unfold laws_heldIntS.f
  have h := laws_heldIntS_l0 n hn a h0 h1 n k 0 (by omega) hk
  simp only [Int.natCast_zero, Int.add_zero] at h
  exact h

/-! ### spec_l9Has -/
theorem spec_l9Has_eq {l : List Int} {n : Int} {k : Nat} (hl : l.length ≤ 9223372036854775807) (hk : l.length < k) : spec_l9Has.f k l n = some (l.any (· == n)) := by
  unfold spec_l9Has.f
  have h := any_loop (g := fun k i => spec_l9Has.l0 k l n (i : Int)) (l := l) (z := 0) (B := 0) (p := (· == n)) (fun k => by
      simp only [spec_l9Has.l0]; rw [if_neg (by omega)])
    (fun k i hi _ => by
      simp only [spec_l9Has.l0]
      rw [if_pos (by omega), if_pos (by omega), wrap_up (n := l.length) hi hl, rd_cast]
      by_cases e : nt 0 l i = n
      · rw [if_pos e, if_pos (by simp [e])]
      · rw [if_neg e, if_neg (by simp [e])]) l.length k 0 (by omega) (by omega)
  exact h

/-! ### spec_CommonOf -/
theorem spec_CommonOf_eq {a b : List Int} {k : Nat} (ha : a.length ≤ 17592186044416) (hb : b.length ≤ 9223372036854775807) (hk : a.length + b.length + 1 < k) : spec_CommonOf.f k a b = some (a.filter fun x => b.any (· == x)) := by
  unfold spec_CommonOf.f
  have h := filter_loop (g := fun k acc i => spec_CommonOf.l0 k a b acc (i : Int)) (l := a) (z := 0) (B := b.length + 1) (p := fun x => b.any (· == x)) (f := id) (fun k acc => by
      simp only [spec_CommonOf.l0]; rw [if_neg (by omega)])
    (fun k i acc hi hk hacc => by
      simp only [spec_CommonOf.l0]
      rw [if_pos (by omega), if_pos (by omega), wrap_up (n := a.length) hi (by omega), rd_cast, spec_l9Has_eq hb (by omega), Option.bind_some, if_pos (show acc.length < 17592186044416 by omega)]
      rfl) a.length k 0 [] (by omega) (by omega) (by simp)
  simpa using h

/-! ### slices_Index_int_int -/
theorem slices_Index_int_int_eq {l : List Int} {n : Int} {k : Nat} (hl : l.length ≤ 9223372036854775807) (hk : l.length < k) : slices_Index_int_int.f k l n = some ((l.findIdx? (· == n)).elim (-1) fun j => (j : Int)) := by
  unfold slices_Index_int_int.f
  have h := find_loop (g := fun k i => slices_Index_int_int.l0 k l n (l.length : Int) (i : Int)) (l := l) (z := 0) (B := 0) (p := (· == n)) (hit := fun j => (j : Int)) (miss := (-1 : Int)) (fun k => by
      simp only [slices_Index_int_int.l0]; rw [if_neg (by omega)])
    (fun k i hi _ => by
      simp only [slices_Index_int_int.l0]
      rw [if_pos (by omega), if_pos (by omega), if_pos (by omega), wrap_up (n := l.length) hi hl, rd_cast]
      by_cases e : nt 0 l i = n
      · rw [if_pos e.symm, if_pos (by simp [e])]
      · rw [if_neg (fun h => e h.symm), if_neg (by simp [e])]) l.length k 0 (by omega) (by omega)
  simpa using h

/-! ### slices_Contains_int_int -/
theorem slices_Contains_int_int_eq {l : List Int} {n : Int} {k : Nat} (hl : l.length ≤ 9223372036854775807) (hk : l.length < k) : slices_Contains_int_int.f k l n = some (l.any (· == n)) := by
  unfold slices_Contains_int_int.f
  rw [slices_Index_int_int_eq hl hk, Option.bind_some, idx_any]

/-! ### impl_CommonOf -/
theorem impl_CommonOf_eq {a b : List Int} {k : Nat} (ha : a.length ≤ 17592186044416) (hb : b.length ≤ 9223372036854775807) (hk : a.length + b.length + 1 < k) : impl_CommonOf.f k a b = some (a.filter fun x => b.any (· == x)) := by
  unfold impl_CommonOf.f
  have h := filter_loop (g := fun k acc i => impl_CommonOf.l0 k b acc a (a.length : Int) (i : Int)) (l := a) (z := 0) (B := b.length + 1) (p := fun x => b.any (· == x)) (f := id) (fun k acc => by
      simp only [impl_CommonOf.l0]; rw [if_neg (by omega)])
    (fun k i acc hi hk hacc => by
      simp only [impl_CommonOf.l0]
      rw [if_pos (by omega), if_pos (by omega), if_pos (by omega), wrap_up (n := a.length) hi (by omega), rd_cast, slices_Contains_int_int_eq hb (by omega), Option.bind_some, if_pos (show acc.length < 17592186044416 by omega)]
      rfl) a.length k 0 [] (by omega) (by omega) (by simp)
  simpa using h

end FnExactCommonOfAid
open FnExactCommonOfAid

theorem FnExactCommonOf : laws_FnExactCommonOf.Pure := by
  intro a b _ _ _ _ _ _
  obtain ⟨k, hk⟩ : ∃ k, k = 2 * a.length + 2 * b.length + 10 := ⟨_, rfl⟩
  refine ⟨k + 1, ?_⟩
  unfold laws_FnExactCommonOf.f
  by_cases hb1 : (a.length : Int) > 1048576
  · rw [if_pos hb1]
  rw [if_neg hb1]
  by_cases hb2 : (b.length : Int) > 1048576
  · rw [if_pos hb2]
  rw [if_neg hb2]
  have ta : ∀ j, a.length < j → laws_toIntS.f j a = some a := fun j h => laws_toIntS_eq (by omega) h
  have tb : ∀ j, b.length < j → laws_toIntS.f j b = some b := fun j h => laws_toIntS_eq (by omega) h
  obtain ⟨c, hc⟩ : ∃ c, c = a.filter fun x => b.any (· == x) := ⟨_, rfl⟩
  have hcl : c.length ≤ a.length := by rw [hc]; exact List.length_filter_le _ _
  have sc : ∀ j, a.length + b.length + 1 < j → spec_CommonOf.f j a b = some c := fun j h => by rw [spec_CommonOf_eq (by omega) (by omega) h, hc]
  have ic : ∀ j, a.length + b.length + 1 < j → impl_CommonOf.f j a b = some c := fun j h => by rw [impl_CommonOf_eq (by omega) (by omega) h, hc]
  simp only [ta (k + 1) (by omega), tb (k + 1) (by omega), Option.bind_some, sc (k + 1) (by omega), ic (k + 1) (by omega), laws_eqIntS_self (a := c) (k := k + 1) (by omega) (by omega), laws_eqIntS_self (a := a) (k := k + 1) (by omega) (by omega),
    laws_eqIntS_self (a := b) (k := k + 1) (by omega) (by omega), if_true, laws_markIntS_eq (l := a) (a := 1) (k := k + 1) (by omega) (by omega) (by omega) (by omega), laws_markIntS_eq (l := b) (a := 1 + a.length) (k := k + 1) (by omega) (by omega) (by omega) (by omega)]
  rw [if_neg (by omega)]
  simp only [laws_FnExactCommonOf.j0, Bool.not_true, Bool.false_eq_true, if_false, laws_markIntS_eq (l := c) (a := 1) (k := k) (by omega) (by omega) (by omega) (by omega), Option.bind_some, laws_heldIntS_eq (n := c.length) (a := 1) (k := k) (by omega) (by omega) (by omega) (by omega)]
  rw [if_neg (by omega)]
  simp only [ta k (by omega), tb k (by omega), Option.bind_some, ic k (by omega), laws_eqIntS_self (a := c) (k := k) (by omega) (by omega), if_true]
  rw [if_neg (by omega)]

end Go.Proofs.Ytmblaialihkjfaa.Pure
