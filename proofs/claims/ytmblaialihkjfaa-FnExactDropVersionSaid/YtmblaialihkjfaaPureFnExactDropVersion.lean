/- DropVersion of the program and of the reference agree on every list of numbers and every version, as a statement over lists alone; the bounds are those of memory. -/
import Derived.Test.YtmblaialihkjfaaPFnExactDropVersionx3
import Derived.Test.YtmblaialihkjfaaGb
import Derived.Test.YtmblaialihkjfaaGv
namespace Go.Proofs.Ytmblaialihkjfaa.Pure
open Go.RowKit Go.Proofs.Ytmblaialihkjfaa.PFnExactDropVersion Go.Proofs.YtmblaialihkjfaaW.PrintWords Go.Proofs.YtmblaialihkjfaaW.PrintLast Go.Proofs.Ytmblaialihkjfaa.Gb Go.Proofs.Ytmblaialihkjfaa.Gv
set_option linter.unusedSimpArgs false
set_option linter.unusedVariables false
namespace FnExactDropVersionAid

/-! ### laws_toIntS -/
theorem laws_toIntS_l0 (l : List Int) (hl : l.length ≤ 9223372036854775807) : ∀ (d k i : Nat), i + d = l.length → d < k → laws_toIntS.l0 k l (l.take i ++ List.replicate (l.length - i) 0) (i : Int) = some l := by
  intro d
  induction d with
  | zero =>
    intro k i h hk
    obtain ⟨k, rfl⟩ := succ_of hk
    obtain rfl : i = l.length := by omega
    simp only [laws_toIntS.l0]; rw [if_neg (by omega), take_all]
  | succ d ih =>
    intro k i h hk
    obtain ⟨k, rfl⟩ := succ_of hk
    simp only [laws_toIntS.l0]
    rw [if_pos (by omega), if_pos (by omega), if_pos (by rw [List.length_append, List.length_take, List.length_replicate]; omega), wrap_up (n := l.length) (by omega) hl, rd_cast, toNat_cast, set_grow _ _ _ (by omega)]
    exact ih k (i + 1) (by omega) (by omega)
theorem laws_toIntS_eq {l : List Int} {k : Nat} (hl : l.length ≤ 35184372088832) (hk : l.length < k) : laws_toIntS.f k l = some l := by
  unfold laws_toIntS.f
  rw [if_pos (by omega), toNat_cast, if_pos hl, ← take_none l 0]
  exact laws_toIntS_l0 l (by omega) l.length k 0 (by omega) hk

/-! ### laws_eqIntS -/
theorem laws_eqIntS_l0 (a b : List Int) (hl : a.length ≤ 9223372036854775807) (he : b.length = a.length) : ∀ (d k i : Nat), i + d = a.length → d < k → laws_eqIntS.l0 k a b (i : Int) = some (decide (a.drop i = b.drop i)) := by
  intro d
  induction d with
  | zero =>
    intro k i h hk
    obtain ⟨k, rfl⟩ := succ_of hk
    obtain rfl : i = a.length := by omega
    simp only [laws_eqIntS.l0]; rw [if_neg (by omega), drop_end, ← he, drop_end, decide_eq_true rfl]
  | succ d ih =>
    intro k i h hk
    obtain ⟨k, rfl⟩ := succ_of hk
    simp only [laws_eqIntS.l0]
    rw [if_pos (by omega), if_pos (by omega), if_pos (by omega), wrap_up (n := a.length) (by omega) hl, rd_cast, rd_cast, drop_step a 0 i (by omega), drop_step b 0 i (by omega), ih k (i + 1) (by omega) (by omega)]
    by_cases e : nt 0 a i = nt 0 b i
    · rw [if_pos e, e]; simp
    · rw [if_neg e]; simp [e]
theorem laws_eqIntS_eq {a b : List Int} {k : Nat} (hl : a.length ≤ 9223372036854775807) (hk : a.length < k) : laws_eqIntS.f k a b = some (decide (a = b)) := by
  unfold laws_eqIntS.f
  by_cases e : a.length = b.length
  · rw [if_pos (by omega)]
    exact laws_eqIntS_l0 a b hl e.symm a.length k 0 (by omega) hk
  · rw [if_neg (by omega), decide_eq_false (fun h => e (by rw [h]))]
theorem laws_eqIntS_self {a : List Int} {k : Nat} (hl : a.length ≤ 9223372036854775807) (hk : a.length < k) : laws_eqIntS.f k a a = some true := by
  rw [laws_eqIntS_eq hl hk, decide_eq_true rfl]

/-! ### laws_markIntS -/
theorem laws_markIntS_l0 (l : List Int) (hl : l.length ≤ 4611686018427387904) (a : Int) (h0 : 0 ≤ a) (h1 : a ≤ 4611686018427387903) : ∀ (d k i : Nat), i + d = l.length → d < k → laws_markIntS.l0 k (seqFrom a i ++ l.drop i) (a + i) (i : Int) = some (a + l.length, seqFrom a l.length) := by
  intro d
  induction d with
  | zero =>
    intro k i h hk
    obtain ⟨k, rfl⟩ := succ_of hk
    obtain rfl : i = l.length := by omega
    simp only [laws_markIntS.l0]; rw [drop_end, List.append_nil, seqFrom_length, if_neg (by omega)]
  | succ d ih =>
    intro k i h hk
    obtain ⟨k, rfl⟩ := succ_of hk
    simp only [laws_markIntS.l0]
    rw [if_pos (by rw [List.length_append, List.length_drop, seqFrom_length]; omega), if_pos (by omega), wrap_up (n := l.length) (by omega) (by omega), toNat_cast, set_mark _ _ _ _ (seqFrom_length a i) (by omega), ← seqFrom_snoc, wrap_id (by omega) (by omega), Int.add_assoc]
    exact ih k (i + 1) (by omega) (by omega)
theorem laws_markIntS_eq {l : List Int} {a : Int} {k : Nat} (hl : l.length ≤ 4611686018427387904) (h0 : 0 ≤ a) (h1 : a ≤ 4611686018427387903) (hk : l.length < k) : laws_markIntS.f k l a = some (a + l.length, seqFrom a l.length) := by
  unfold laws_markIntS.f
  have h := laws_markIntS_l0 l hl a h0 h1 l.length k 0 (by omega) hk
  simp only [seqFrom, List.drop_zero, List.nil_append, Int.natCast_zero, Int.add_zero] at h
  exact h

/-! ### laws_heldIntS -/
theorem laws_heldIntS_l0 (n : Nat) (hn : n ≤ 4611686018427387904) (a : Int) (h0 : 0 ≤ a) (h1 : a ≤ 4611686018427387903) : ∀ (d k i : Nat), i + d = n → d < k → laws_heldIntS.l0 k (seqFrom a n) (a + i) (i : Int) = some (a + n) := by
  intro d
  induction d with
  | zero =>
    intro k i h hk
    obtain ⟨k, rfl⟩ := succ_of hk
    obtain rfl : i = n := by omega
    simp only [laws_heldIntS.l0]; rw [seqFrom_length, if_neg (by omega)]
  | succ d ih =>
    intro k i h hk
    obtain ⟨k, rfl⟩ := succ_of hk
    simp only [laws_heldIntS.l0]
    rw [seqFrom_length, if_pos (by omega), if_pos (by omega), rd_cast, nt_seq a n i (by omega), if_pos rfl, wrap_up (n := n) (by omega) (by omega), wrap_id (by omega) (by omega), Int.add_assoc]
    exact ih k (i + 1) (by omega) (by omega)
theorem laws_heldIntS_eq {n : Nat} {a : Int} {k : Nat} (hn : n ≤ 4611686018427387904) (h0 : 0 ≤ a) (h1 : a ≤ 4611686018427387903) (hk : n < k) : laws_heldIntS.f k (seqFrom a n) a = some (a + n) := by
  unfold laws_heldIntS.f
  have h := laws_heldIntS_l0 n hn a h0 h1 n k 0 (by omega) hk
  simp only [Int.natCast_zero, Int.add_zero] at h
  exact h

/-! ### spec_l1In -/
theorem spec_l1In_eq (a b c : Int) : spec_l1In.f a b c = some (decide (b ≤ a ∧ a ≤ c)) := by
  unfold spec_l1In.f
  by_cases h : a ≥ b
  · rw [if_pos h]; simp [show b ≤ a from h]
  · rw [if_neg h, decide_eq_false (by omega)]

/-! ### spec_AreVersions -/
theorem spec_AreVersions_eq {l : List Int} {k : Nat} (hl : l.length ≤ 9223372036854775807) (hk : l.length < k) : spec_AreVersions.f k l = some (areVers l) := by
  unfold spec_AreVersions.f
  have h := all_loop (g := fun k i => spec_AreVersions.l0 k l (i : Int)) (n := l.length) (B := 0) (ok := verOk l) (fin := decide (0 < l.length)) (fun k => by
      simp only [spec_AreVersions.l0]; rw [if_neg (by omega)]; congr 1; rw [decide_eq_decide]; omega)
    (fun k i hi _ => by
      simp only [spec_AreVersions.l0]
      rw [if_pos (by omega), if_pos (by omega), spec_l1In_eq, Option.bind_some, wrap_up (n := l.length) hi hl, rd_cast]
      unfold verOk
      by_cases h1 : 1 ≤ nt 0 l i ∧ nt 0 l i ≤ 9
      · rw [decide_eq_true h1, if_pos rfl]
        by_cases h0 : 0 < i
        · rw [if_pos (by omega), wrap_dn h0 (by omega), if_pos (by omega), if_pos (by omega), rd_cast]
          by_cases h2 : nt 0 l (i - 1) < nt 0 l i
          · rw [if_neg (by omega), if_pos (by simp [h2])]
          · rw [if_pos (by omega), if_neg (by simp [h2]; omega)]
        · rw [if_neg (by omega), if_pos (by simp; omega)]
      · rw [decide_eq_false h1, if_neg (by simp), if_neg (by simp)]) l.length k 0 (by omega) (by omega)
  exact h

/-! ### spec_l9Has -/
theorem spec_l9Has_eq {l : List Int} {n : Int} {k : Nat} (hl : l.length ≤ 9223372036854775807) (hk : l.length < k) : spec_l9Has.f k l n = some (l.any (· == n)) := by
  unfold spec_l9Has.f
  have h := any_loop (g := fun k i => spec_l9Has.l0 k l n (i : Int)) (l := l) (z := 0) (B := 0) (p := (· == n)) (fun k => by
      simp only [spec_l9Has.l0]; rw [if_neg (by omega)])
    (fun k i hi _ => by
      simp only [spec_l9Has.l0]
      rw [if_pos (by omega), if_pos (by omega), wrap_up (n := l.length) hi hl, rd_cast]
      by_cases e : nt 0 l i = n
      · rw [if_pos e, if_pos (by simp [e])]
      · rw [if_neg e, if_neg (by simp [e])]) l.length k 0 (by omega) (by omega)
  exact h

/-! ### spec_DropVersion -/
theorem spec_l12Without_eq {l : List Int} {v : Int} {k : Nat} (hl : l.length ≤ 1048576) (hk : l.length < k) : spec_l12Without.f k l v = some (l.filter fun x => !(x == v)) := by
  unfold spec_l12Without.f
  have h := filter_loop (g := fun k acc i => spec_l12Without.l0 k l v acc (i : Int)) (l := l) (z := 0) (B := 0) (p := fun x => !(x == v)) (f := id) (fun k acc => by
      simp only [spec_l12Without.l0]; rw [if_neg (by omega)])
    (fun k i acc hi hk hacc => by
      simp only [spec_l12Without.l0]
      rw [if_pos (by omega), if_pos (by omega), wrap_up (n := l.length) hi (by omega), rd_cast, if_pos (show acc.length < 17592186044416 by omega)]
      by_cases e : nt 0 l i = v
      · rw [if_pos e, if_neg (by simp [e])]
      · rw [if_neg e, if_pos (by simp [e])]; rfl) l.length k 0 [] (by omega) (by omega) (by simp)
  simpa using h
theorem spec_DropVersion_eq {l : List Int} {v : Int} {k : Nat} (hl : l.length ≤ 1048576) (hk : l.length + 1 < k) : spec_DropVersion.f k l v = some (dropVersion l v) := by
  unfold spec_DropVersion.f dropVersion
  have e0 : ([] : List Int).length + l.length < 17592186044416 := by rw [List.length_nil]; omega
  simp only [spec_AreVersions_eq (l := l) (k := k) (by omega) (by omega), spec_l9Has_eq (l := l) (n := v) (k := k) (by omega) (by omega), spec_l12Without_eq (l := l) (v := v) (k := k) hl (by omega), Option.bind_some, List.nil_append, if_pos e0]
  cases areVers l <;> cases l.any (· == v) <;> simp
  by_cases h1 : l.length = 1
  · rw [if_pos (by omega), if_pos h1]
  · rw [if_neg (by omega), if_neg h1]

/-! ### impl_InRange -/
theorem impl_InRange_eq (a b c : Int) : impl_InRange.f a b c = some (decide (b ≤ a ∧ a ≤ c)) := by
  unfold impl_InRange.f
  by_cases h : b ≤ a
  · rw [if_pos h]; simp [h]
  · rw [if_neg h, decide_eq_false (by omega)]

/-! ### impl_AreVersions -/
theorem impl_AreVersions_eq {l : List Int} {k : Nat} (hl : l.length ≤ 9223372036854775807) (hk : l.length < k) : impl_AreVersions.f k l = some (areVers l) := by
  unfold impl_AreVersions.f
  have h := all_loop (g := fun k i => impl_AreVersions.l0 k l l (l.length : Int) (i : Int)) (n := l.length) (B := 0) (ok := verOk l) (fin := decide (0 < l.length)) (fun k => by
      simp only [impl_AreVersions.l0]; rw [if_neg (by omega)]; congr 1; rw [decide_eq_decide]; omega)
    (fun k i hi _ => by
      simp only [impl_AreVersions.l0]
      rw [if_pos (by omega), if_pos (by omega), if_pos (by omega), impl_InRange_eq, Option.bind_some, wrap_up (n := l.length) hi hl, rd_cast]
      unfold verOk
      by_cases h1 : 1 ≤ nt 0 l i ∧ nt 0 l i ≤ 9
      · rw [decide_eq_true h1, if_pos rfl]
        by_cases h0 : 0 < i
        · rw [if_pos (by omega), wrap_dn h0 (by omega), if_pos (by omega), if_pos (by omega), rd_cast]
          by_cases h2 : nt 0 l (i - 1) < nt 0 l i
          · rw [if_neg (by omega), if_pos (by simp [h2])]
          · rw [if_pos (by omega), if_neg (by simp [h2]; omega)]
        · rw [if_neg (by omega), if_pos (by simp; omega)]
      · rw [decide_eq_false h1, if_neg (by simp), if_neg (by simp)]) l.length k 0 (by omega) (by omega)
  exact h

/-! ### slices_Index_int_int -/
theorem slices_Index_int_int_eq {l : List Int} {n : Int} {k : Nat} (hl : l.length ≤ 9223372036854775807) (hk : l.length < k) : slices_Index_int_int.f k l n = some ((l.findIdx? (· == n)).elim (-1) fun j => (j : Int)) := by
  unfold slices_Index_int_int.f
  have h := find_loop (g := fun k i => slices_Index_int_int.l0 k l n (l.length : Int) (i : Int)) (l := l) (z := 0) (B := 0) (p := (· == n)) (hit := fun j => (j : Int)) (miss := (-1 : Int)) (fun k => by
      simp only [slices_Index_int_int.l0]; rw [if_neg (by omega)])
    (fun k i hi _ => by
      simp only [slices_Index_int_int.l0]
      rw [if_pos (by omega), if_pos (by omega), if_pos (by omega), wrap_up (n := l.length) hi hl, rd_cast]
      by_cases e : nt 0 l i = n
      · rw [if_pos e.symm, if_pos (by simp [e])]
      · rw [if_neg (fun h => e h.symm), if_neg (by simp [e])]) l.length k 0 (by omega) (by omega)
  simpa using h

/-! ### slices_Contains_int_int -/
theorem slices_Contains_int_int_eq {l : List Int} {n : Int} {k : Nat} (hl : l.length ≤ 9223372036854775807) (hk : l.length < k) : slices_Contains_int_int.f k l n = some (l.any (· == n)) := by
  unfold slices_Contains_int_int.f
  rw [slices_Index_int_int_eq hl hk, Option.bind_some, idx_any]

/-! ### impl_without -/
theorem impl_without_eq {a b : List Int} {k : Nat} (ha : a.length ≤ 17592186044416) (hb : b.length ≤ 9223372036854775807) (hk : a.length + b.length + 1 < k) : impl_without.f k a b = some (a.filter fun x => !b.any (· == x)) := by
  unfold impl_without.f
  have h := filter_loop (g := fun k acc i => impl_without.l0 k b acc a (a.length : Int) (i : Int)) (l := a) (z := 0) (B := b.length + 1) (p := fun x => !b.any (· == x)) (f := id) (fun k acc => by
      simp only [impl_without.l0]; rw [if_neg (by omega)])
    (fun k i acc hi hk hacc => by
      simp only [impl_without.l0]
      rw [if_pos (by omega), if_pos (by omega), if_pos (by omega), wrap_up (n := a.length) hi (by omega), rd_cast, slices_Contains_int_int_eq hb (by omega), Option.bind_some, if_pos (show acc.length < 17592186044416 by omega)]
      cases b.any (· == nt 0 a i) <;> rfl) a.length k 0 [] (by omega) (by omega) (by simp)
  simpa using h

/-! ### impl_DropVersion -/
theorem impl_DropVersion_eq {l : List Int} {v : Int} {k : Nat} (hl : l.length ≤ 1048576) (hk : l.length + 3 < k) : impl_DropVersion.f k l v = some (dropVersion l v) := by
  unfold impl_DropVersion.f dropVersion
  have e0 : ([] : List Int).length + l.length < 17592186044416 := by rw [List.length_nil]; omega
  have e : (fun x => !([v] : List Int).any (· == x)) = fun x => !(x == v) := by funext x; simp; exact Bool.beq_comm
  simp only [impl_AreVersions_eq (l := l) (k := k) (by omega) (by omega), slices_Contains_int_int_eq (l := l) (n := v) (k := k) (by omega) (by omega), impl_without_eq (a := l) (b := [v]) (k := k) (by omega) (by simp) (by simp; omega), e, Option.bind_some, List.nil_append, if_pos e0]
  cases areVers l <;> cases l.any (· == v) <;> simp
  by_cases h1 : l.length = 1
  · rw [if_pos (by omega), if_pos h1]
  · rw [if_neg (by omega), if_neg h1]

end FnExactDropVersionAid
open FnExactDropVersionAid

theorem FnExactDropVersion : laws_FnExactDropVersion.Pure := by
  intro a v _ _ _ _
  obtain ⟨k, hk⟩ : ∃ k, k = 2 * a.length + 10 := ⟨_, rfl⟩
  refine ⟨k + 3, ?_⟩
  unfold laws_FnExactDropVersion.f
  by_cases hb1 : (a.length : Int) > 1048576
  · rw [if_pos hb1]
  rw [if_neg hb1]
  have ta : ∀ j, k ≤ j → laws_toIntS.f j a = some a := fun j h => laws_toIntS_eq (by omega) (by omega)
  obtain ⟨c, q⟩ : ∃ c, c = dropVersion a v := ⟨_, rfl⟩
  have hcl : c.1.length ≤ a.length := by
    rw [q]; unfold dropVersion; split
    · exact List.length_filter_le _ _
    · exact Nat.le_refl _
  have sc : ∀ j, k ≤ j → spec_DropVersion.f j a v = some c := fun j h => by rw [spec_DropVersion_eq (by omega) (by omega), q]
  have ic : ∀ j, k ≤ j → impl_DropVersion.f j a v = some c := fun j h => by rw [impl_DropVersion_eq (by omega) (by omega), q]
  have ea : ∀ j, k ≤ j → laws_eqIntS.f j a a = some true := fun j h => laws_eqIntS_self (by omega) (by omega)
  have ec : ∀ j, k ≤ j → laws_eqIntS.f j c.1 c.1 = some true := fun j h => laws_eqIntS_self (by omega) (by omega)
  have mc : ∀ j, k ≤ j → laws_markIntS.f j c.1 1 = some (1 + (c.1.length : Int), seqFrom 1 c.1.length) := fun j h => laws_markIntS_eq (by omega) (by omega) (by omega) (by omega)
  have ma : ∀ j, k ≤ j → laws_markIntS.f j a 1 = some (1 + (a.length : Int), seqFrom 1 a.length) := fun j h => laws_markIntS_eq (by omega) (by omega) (by omega) (by omega)
  have hc : ∀ j, k ≤ j → laws_heldIntS.f j (seqFrom 1 c.1.length) 1 = some (1 + (c.1.length : Int)) := fun j h => laws_heldIntS_eq (by omega) (by omega) (by omega) (by omega)
  have p1 : ¬ (1 + (a.length : Int) < 0) := by omega
  have p2 : ¬ (1 + (c.1.length : Int) < 0) := by omega
  simp only [ta (k + 3) (by omega), Option.bind_some, sc (k + 3) (by omega), ic (k + 3) (by omega), ec (k + 3) (by omega), if_true, bne_self_eq_false]
  simp only [laws_FnExactDropVersion.j0, Bool.false_eq_true, if_false, ta (k + 2) (by omega), Option.bind_some, ea (k + 2) (by omega), if_true, ma (k + 2) (by omega), p1, ec (k + 2) (by omega), bne_self_eq_false]
  simp only [laws_FnExactDropVersion.j1, Bool.false_eq_true, if_false, mc (k + 1) (by omega), Option.bind_some, hc (k + 1) (by omega), p2, ta (k + 1) (by omega), ic (k + 1) (by omega), ec (k + 1) (by omega), if_true, bne_self_eq_false]
  simp only [laws_FnExactDropVersion.j2, Bool.false_eq_true, if_false, hc k (by omega), Option.bind_some, p2, if_true]

end Go.Proofs.Ytmblaialihkjfaa.Pure
