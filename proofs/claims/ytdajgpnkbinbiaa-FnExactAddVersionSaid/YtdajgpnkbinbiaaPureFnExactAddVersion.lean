/- AddVersion of the program and of the reference agree on every list of numbers and every number, as a statement over lists alone; the bounds are those of memory. -/
import Derived.Test.YtdajgpnkbinbiaaPFnExactAddVersionx4
import Derived.Test.YtdajgpnkbinbiaaGb
import Derived.Test.YtdajgpnkbinbiaaGr
import Derived.Test.YtdajgpnkbinbiaaGv
import Derived.Test.YtdajgpnkbinbiaaGm
namespace Go.Proofs.Ytdajgpnkbinbiaa.Pure
open Go.RowKit Go.Proofs.Ytdajgpnkbinbiaa.PFnExactAddVersion Go.Proofs.YtdajgpnkbinbiaaW.PrintWords Go.Proofs.YtdajgpnkbinbiaaW.PrintLast Go.Proofs.Ytdajgpnkbinbiaa.Gb Go.Proofs.Ytdajgpnkbinbiaa.Gr Go.Proofs.Ytdajgpnkbinbiaa.Gv Go.Proofs.Ytdajgpnkbinbiaa.Gm Go.Proofs.Ytdajgpnkbinbiaa
set_option linter.unusedSimpArgs false
set_option linter.unusedVariables false
namespace FnExactAddVersionAid

/-! ### laws_toIntS -/
theorem laws_toIntS_l0 (l : List Int) (hl : l.length ≤ 9223372036854775807) : ∀ (d k i : Nat), i + d = l.length → d < k → laws_toIntS.l0 k l (l.take i ++ List.replicate (l.length - i) 0) (i : Int) = some l := by
  intro d
  induction d with
  | zero =>
    intro k i h hk
    obtain ⟨k, rfl⟩ := succ_of hk
    obtain rfl : i = l.length := by omega
    simp only [laws_toIntS.l0]; rw [if_neg (by omega), take_all]
  | succ d ih =>
    intro k i h hk
    obtain ⟨k, rfl⟩ := succ_of hk
    simp only [laws_toIntS.l0]
    rw [if_pos (by omega), if_pos (by omega), if_pos (by rw [List.length_append, List.length_take, List.length_replicate]; omega), wrap_up (n := l.length) (by omega) hl, rd_cast, toNat_cast, set_grow _ _ _ (by omega)]
    exact ih k (i + 1) (by omega) (by omega)
theorem laws_toIntS_eq {l : List Int} {k : Nat} (hl : l.length ≤ 35184372088832) (hk : l.length < k) : laws_toIntS.f k l = some l := by
  unfold laws_toIntS.f
  rw [if_pos (by omega), toNat_cast, if_pos hl, ← take_none l 0]
  exact laws_toIntS_l0 l (by omega) l.length k 0 (by omega) hk

/-! ### laws_eqIntS -/
theorem laws_eqIntS_l0 (a b : List Int) (hl : a.length ≤ 9223372036854775807) (he : b.length = a.length) : ∀ (d k i : Nat), i + d = a.length → d < k → laws_eqIntS.l0 k a b (i : Int) = some (decide (a.drop i = b.drop i)) := by
  intro d
  induction d with
  | zero =>
    intro k i h hk
    obtain ⟨k, rfl⟩ := succ_of hk
    obtain rfl : i = a.length := by omega
    simp only [laws_eqIntS.l0]; rw [if_neg (by omega), drop_end, ← he, drop_end, decide_eq_true rfl]
  | succ d ih =>
    intro k i h hk
    obtain ⟨k, rfl⟩ := succ_of hk
    simp only [laws_eqIntS.l0]
    rw [if_pos (by omega), if_pos (by omega), if_pos (by omega), wrap_up (n := a.length) (by omega) hl, rd_cast, rd_cast, drop_step a 0 i (by omega), drop_step b 0 i (by omega), ih k (i + 1) (by omega) (by omega)]
    by_cases e : nt 0 a i = nt 0 b i
    · rw [if_pos e, e]; simp
    · rw [if_neg e]; simp [e]
theorem laws_eqIntS_eq {a b : List Int} {k : Nat} (hl : a.length ≤ 9223372036854775807) (hk : a.length < k) : laws_eqIntS.f k a b = some (decide (a = b)) := by
  unfold laws_eqIntS.f
  by_cases e : a.length = b.length
  · rw [if_pos (by omega)]
    exact laws_eqIntS_l0 a b hl e.symm a.length k 0 (by omega) hk
  · rw [if_neg (by omega), decide_eq_false (fun h => e (by rw [h]))]
theorem laws_eqIntS_self {a : List Int} {k : Nat} (hl : a.length ≤ 9223372036854775807) (hk : a.length < k) : laws_eqIntS.f k a a = some true := by
  rw [laws_eqIntS_eq hl hk, decide_eq_true rfl]

/-! ### laws_markIntS -/
theorem laws_markIntS_l0 (l : List Int) (hl : l.length ≤ 4611686018427387904) (a : Int) (h0 : 0 ≤ a) (h1 : a ≤ 4611686018427387903) : ∀ (d k i : Nat), i + d = l.length → d < k → laws_markIntS.l0 k (seqFrom a i ++ l.drop i) (a + i) (i : Int) = some (a + l.length, seqFrom a l.length) := by
  intro d
  induction d with
  | zero =>
    intro k i h hk
    obtain ⟨k, rfl⟩ := succ_of hk
    obtain rfl : i = l.length := by omega
    simp only [laws_markIntS.l0]; rw [drop_end, List.append_nil, seqFrom_length, if_neg (by omega)]
  | succ d ih =>
    intro k i h hk
    obtain ⟨k, rfl⟩ := succ_of hk
    simp only [laws_markIntS.l0]
    rw [if_pos (by rw [List.length_append, List.length_drop, seqFrom_length]; omega), if_pos (by omega), wrap_up (n := l.length) (by omega) (by omega), toNat_cast, set_mark _ _ _ _ (seqFrom_length a i) (by omega), ← seqFrom_snoc, wrap_id (by omega) (by omega), Int.add_assoc]
    exact ih k (i + 1) (by omega) (by omega)
theorem laws_markIntS_eq {l : List Int} {a : Int} {k : Nat} (hl : l.length ≤ 4611686018427387904) (h0 : 0 ≤ a) (h1 : a ≤ 4611686018427387903) (hk : l.length < k) : laws_markIntS.f k l a = some (a + l.length, seqFrom a l.length) := by
  unfold laws_markIntS.f
  have h := laws_markIntS_l0 l hl a h0 h1 l.length k 0 (by omega) hk
  simp only [seqFrom, List.drop_zero, List.nil_append, Int.natCast_zero, Int.add_zero] at h
  exact h

/-! ### laws_heldIntS -/
theorem laws_heldIntS_l0 (n : Nat) (hn : n ≤ 4611686018427387904) (a : Int) (h0 : 0 ≤ a) (h1 : a ≤ 4611686018427387903) : ∀ (d k i : Nat), i + d = n → d < k → laws_heldIntS.l0 k (seqFrom a n) (a + i) (i : Int) = some (a + n) := by
  intro d
  induction d with
  | zero =>
    intro k i h hk
    obtain ⟨k, rfl⟩ := succ_of hk
    obtain rfl : i = n := by omega
    simp only [laws_heldIntS.l0]; rw [seqFrom_length, if_neg (by omega)]
  | succ d ih =>
    intro k i h hk
    obtain ⟨k, rfl⟩ := succ_of hk
    simp only [laws_heldIntS.l0]
    rw [seqFrom_length, if_pos (by omega), if_pos (by omega), rd_cast, nt_seq a n i (by omega), if_pos rfl, wrap_up (n := n) (by omega) (by omega), wrap_id (by omega) (by omega), Int.add_assoc]
    exact ih k (i + 1) (by omega) (by omega)
theorem laws_heldIntS_eq {n : Nat} {a : Int} {k : Nat} (hn : n ≤ 4611686018427387904) (h0 : 0 ≤ a) (h1 : a ≤ 4611686018427387903) (hk : n < k) : laws_heldIntS.f k (seqFrom a n) a = some (a + n) := by
  unfold laws_heldIntS.f
  have h := laws_heldIntS_l0 n hn a h0 h1 n k 0 (by omega) hk
  simp only [Int.natCast_zero, Int.add_zero] at h
  exact h

/-! ### spec_l1In -/
theorem spec_l1In_eq (a b c : Int) : spec_l1In.f a b c = some (decide (b ≤ a ∧ a ≤ c)) := by
  unfold spec_l1In.f
  by_cases h : a ≥ b
  · rw [if_pos h]; simp [show b ≤ a from h]
  · rw [if_neg h, decide_eq_false (by omega)]

/-! ### spec_AreVersions -/
theorem spec_AreVersions_eq {l : List Int} {k : Nat} (hl : l.length ≤ 9223372036854775807) (hk : l.length < k) : spec_AreVersions.f k l = some (areVers l) := by
  unfold spec_AreVersions.f
  have h := all_loop (g := fun k i => spec_AreVersions.l0 k l (i : Int)) (n := l.length) (B := 0) (ok := verOk l) (fin := decide (0 < l.length)) (fun k => by
      simp only [spec_AreVersions.l0]; rw [if_neg (by omega)]; congr 1; rw [decide_eq_decide]; omega)
    (fun k i hi _ => by
      simp only [spec_AreVersions.l0]
      rw [if_pos (by omega), if_pos (by omega), spec_l1In_eq, Option.bind_some, wrap_up (n := l.length) hi hl, rd_cast]
      unfold verOk
      by_cases h1 : 1 ≤ nt 0 l i ∧ nt 0 l i ≤ 9
      · rw [decide_eq_true h1, if_pos rfl]
        by_cases h0 : 0 < i
        · rw [if_pos (by omega), wrap_dn h0 (by omega), if_pos (by omega), if_pos (by omega), rd_cast]
          by_cases h2 : nt 0 l (i - 1) < nt 0 l i
          · rw [if_neg (by omega), if_pos (by simp [h2])]
          · rw [if_pos (by omega), if_neg (by simp [h2]; omega)]
        · rw [if_neg (by omega), if_pos (by simp; omega)]
      · rw [decide_eq_false h1, if_neg (by simp), if_neg (by simp)]) l.length k 0 (by omega) (by omega)
  exact h

/-! ### spec_l9Has -/
theorem spec_l9Has_eq {l : List Int} {n : Int} {k : Nat} (hl : l.length ≤ 9223372036854775807) (hk : l.length < k) : spec_l9Has.f k l n = some (l.any (· == n)) := by
  unfold spec_l9Has.f
  have h := any_loop (g := fun k i => spec_l9Has.l0 k l n (i : Int)) (l := l) (z := 0) (B := 0) (p := (· == n)) (fun k => by
      simp only [spec_l9Has.l0]; rw [if_neg (by omega)])
    (fun k i hi _ => by
      simp only [spec_l9Has.l0]
      rw [if_pos (by omega), if_pos (by omega), wrap_up (n := l.length) hi hl, rd_cast]
      by_cases e : nt 0 l i = n
      · rw [if_pos e, if_pos (by simp [e])]
      · rw [if_neg e, if_neg (by simp [e])]) l.length k 0 (by omega) (by omega)
  exact h

/-! ### T_put -/
/-- (putI: a number put into an ascending list: the library text Gm.) -/
theorem putI_nil (x : Int) : putI [] x = [x] := rfl

/-! ### spec_l4Put -/
theorem spec_l4Put_l0 (x : Int) : ∀ (rest done : List Int) (k : Nat), done.length + rest.length ≤ 2097152 → rest.length < k → spec_l4Put.l0 k (done ++ rest) x (done.length : Int) = some (done ++ putI rest x) := by
  intro rest
  induction rest with
  | nil =>
    intro done k hl hk
    obtain ⟨k, rfl⟩ := succ_of hk
    simp only [List.length_nil, Nat.add_zero] at hl
    simp only [spec_l4Put.l0, List.append_nil, Option.bind_some, toNat_cast, List.take_length, List.drop_length, List.nil_append, List.length_nil, List.length_singleton, List.length_append, Nat.zero_add, Nat.add_zero]
    rw [if_neg (by omega), if_pos (by omega), if_pos (by omega), if_pos (by omega), if_pos (by omega), if_pos (by omega)]
    rfl
  | cons y r ih =>
    intro done k hl hk
    obtain ⟨k, rfl⟩ := succ_of hk
    simp only [List.length_cons] at hl hk
    have ht : (done ++ y :: r).take done.length = done := by simp
    have hd : (done ++ y :: r).drop done.length = y :: r := by simp
    have hn : (done ++ y :: r).length = done.length + r.length + 1 := len_at done r y
    simp only [spec_l4Put.l0, Option.bind_some, toNat_cast, ht, hd, List.nil_append, List.length_nil, Nat.zero_add]
    rw [if_pos (by omega), if_pos (by omega), rd_cast, nt_at]
    simp only [putI]
    by_cases h1 : y < x
    · rw [if_pos h1, if_pos h1, wrap_up (n := done.length + 1) (by omega) (by omega)]
      have e := ih (done ++ [y]) k (by rw [len_snoc]; omega) (by omega)
      rw [List.append_assoc, List.singleton_append, len_snoc] at e
      rw [e, List.append_assoc]; rfl
    · rw [if_neg h1, if_neg h1]
      by_cases h2 : y = x
      · rw [if_pos h2, if_pos h2, if_pos (by omega)]
      · rw [if_neg h2, if_neg h2, if_pos (by omega), if_pos (by omega)]
        simp only [List.length_append, List.length_singleton, List.length_cons, List.length_nil, Nat.add_zero, Nat.zero_add]
        rw [if_pos (by omega), if_pos (by omega), List.append_assoc]; rfl
theorem spec_l4Put_eq {l : List Int} {x : Int} {k : Nat} (hl : l.length ≤ 1048576) (hk : l.length < k) : spec_l4Put.f k l x = some (putI l x) := by
  unfold spec_l4Put.f
  exact spec_l4Put_l0 x l [] k (by simp; omega) hk

/-! ### spec_AddVersion -/
def addVersion (l : List Int) (v : Int) : List Int × Bool := if (areVers l && (decide (1 ≤ v ∧ v ≤ 9) && !l.any (· == v))) = true then (putI l v, true) else (l, false)
theorem spec_AddVersion_eq {l : List Int} {v : Int} {k : Nat} (hl : l.length ≤ 1048576) (hk : l.length + 1 < k) : spec_AddVersion.f k l v = some (addVersion l v) := by
  unfold spec_AddVersion.f addVersion
  have e0 : l.length < 17592186044416 := by omega
  simp only [spec_AreVersions_eq (l := l) (k := k) (by omega) (by omega), spec_l1In_eq, spec_l9Has_eq (l := l) (n := v) (k := k) (by omega) (by omega), spec_l4Put_eq (l := l) (x := v) (k := k) (by omega) (by omega), Option.bind_some, List.nil_append, List.length_nil, Nat.zero_add, if_pos e0]
  cases areVers l with
  | false => rfl
  | true =>
    cases decide (1 ≤ v ∧ v ≤ 9) with
    | false => rfl
    | true => cases l.any (· == v) <;> rfl

/-! ### impl_InRange -/
theorem impl_InRange_eq (a b c : Int) : impl_InRange.f a b c = some (decide (b ≤ a ∧ a ≤ c)) := by
  unfold impl_InRange.f
  by_cases h : b ≤ a
  · rw [if_pos h]; simp [h]
  · rw [if_neg h, decide_eq_false (by omega)]

/-! ### impl_AreVersions -/
theorem impl_AreVersions_eq {l : List Int} {k : Nat} (hl : l.length ≤ 9223372036854775807) (hk : l.length < k) : impl_AreVersions.f k l = some (areVers l) := by
  unfold impl_AreVersions.f
  have h := all_loop (g := fun k i => impl_AreVersions.l0 k l l (l.length : Int) (i : Int)) (n := l.length) (B := 0) (ok := verOk l) (fin := decide (0 < l.length)) (fun k => by
      simp only [impl_AreVersions.l0]; rw [if_neg (by omega)]; congr 1; rw [decide_eq_decide]; omega)
    (fun k i hi _ => by
      simp only [impl_AreVersions.l0]
      rw [if_pos (by omega), if_pos (by omega), if_pos (by omega), impl_InRange_eq, Option.bind_some, wrap_up (n := l.length) hi hl, rd_cast]
      unfold verOk
      by_cases h1 : 1 ≤ nt 0 l i ∧ nt 0 l i ≤ 9
      · rw [decide_eq_true h1, if_pos rfl]
        by_cases h0 : 0 < i
        · rw [if_pos (by omega), wrap_dn h0 (by omega), if_pos (by omega), if_pos (by omega), rd_cast]
          by_cases h2 : nt 0 l (i - 1) < nt 0 l i
          · rw [if_neg (by omega), if_pos (by simp [h2])]
          · rw [if_pos (by omega), if_neg (by simp [h2]; omega)]
        · rw [if_neg (by omega), if_pos (by simp; omega)]
      · rw [decide_eq_false h1, if_neg (by simp), if_neg (by simp)]) l.length k 0 (by omega) (by omega)
  exact h

/-! ### slices_Index_int_int -/
theorem slices_Index_int_int_eq {l : List Int} {n : Int} {k : Nat} (hl : l.length ≤ 9223372036854775807) (hk : l.length < k) : slices_Index_int_int.f k l n = some ((l.findIdx? (· == n)).elim (-1) fun j => (j : Int)) := by
  unfold slices_Index_int_int.f
  have h := find_loop (g := fun k i => slices_Index_int_int.l0 k l n (l.length : Int) (i : Int)) (l := l) (z := 0) (B := 0) (p := (· == n)) (hit := fun j => (j : Int)) (miss := (-1 : Int)) (fun k => by
      simp only [slices_Index_int_int.l0]; rw [if_neg (by omega)])
    (fun k i hi _ => by
      simp only [slices_Index_int_int.l0]
      rw [if_pos (by omega), if_pos (by omega), if_pos (by omega), wrap_up (n := l.length) hi hl, rd_cast]
      by_cases e : nt 0 l i = n
      · rw [if_pos e.symm, if_pos (by simp [e])]
      · rw [if_neg (fun h => e h.symm), if_neg (by simp [e])]) l.length k 0 (by omega) (by omega)
  simpa using h

/-! ### slices_Contains_int_int -/
theorem slices_Contains_int_int_eq {l : List Int} {n : Int} {k : Nat} (hl : l.length ≤ 9223372036854775807) (hk : l.length < k) : slices_Contains_int_int.f k l n = some (l.any (· == n)) := by
  unfold slices_Contains_int_int.f
  rw [slices_Index_int_int_eq hl hk, Option.bind_some, idx_any]

/-! ### impl_AddVersion -/
theorem merge_put {l : List Int} {v : Int} (hs : l.Pairwise (· < ·)) (hv : l.any (· == v) = false) : ((l ++ [v]).mergeSort fun x y => decide (x ≤ y)) = putI l v := by
  have h1 : ((l ++ [v]).mergeSort fun x y => decide (x ≤ y)).Pairwise (· < ·) := by
    have hp : ((l ++ [v]).mergeSort fun x y => decide (x ≤ y)).Pairwise (· ≤ ·) := by
      have := List.pairwise_mergeSort (le := fun x y : Int => decide (x ≤ y)) (fun a b c h1 h2 => by simp at *; omega) (fun a b => by simp; omega) (l ++ [v])
      exact this.imp fun h => by simpa using h
    have hn : ((l ++ [v]).mergeSort fun x y => decide (x ≤ y)).Nodup := by
      rw [List.Perm.nodup_iff (List.mergeSort_perm _ _), List.nodup_append]
      refine ⟨hs.imp fun h e => by omega, by simp, fun a ha b hb e => ?_⟩
      rw [List.mem_singleton] at hb
      subst hb; subst e
      rw [List.any_eq_false] at hv
      exact hv _ ha (by simp)
    exact (hp.and hn).imp fun ⟨h1, h2⟩ => by
      have : _ ≠ _ := h2
      omega
  refine strict_ext h1 (strict_putI hs v) fun x => ?_
  rw [List.mem_mergeSort, List.mem_append, List.mem_singleton, mem_putI]
  exact Or.comm
theorem impl_AddVersion_eq {l : List Int} {v : Int} {k : Nat} (hl : l.length ≤ 1048576) (hk : l.length + 1 < k) : impl_AddVersion.f k l v = some (addVersion l v) := by
  unfold impl_AddVersion.f addVersion
  have e0 : l.length < 17592186044416 := by omega
  simp only [impl_AreVersions_eq (l := l) (k := k) (by omega) (by omega), impl_InRange_eq, slices_Contains_int_int_eq (l := l) (n := v) (k := k) (by omega) (by omega), Option.bind_some, List.nil_append, List.length_nil, Nat.zero_add, if_pos e0]
  cases h1 : areVers l with
  | false => rfl
  | true =>
    cases decide (1 ≤ v ∧ v ≤ 9) with
    | false => rfl
    | true =>
      cases h3 : l.any (· == v) with
      | true => rfl
      | false =>
        obtain ⟨_, hs, _⟩ := (areVers_iff l).1 h1
        unfold slices_Sort_int_int.f
        rw [if_pos rfl, if_pos rfl, if_neg (by simp), if_pos (by rw [List.length_append, List.length_singleton]; omega), Option.bind_some, merge_put hs h3]; rfl

end FnExactAddVersionAid
open FnExactAddVersionAid

theorem FnExactAddVersion : laws_FnExactAddVersion.Pure := by
  intro x v hx _ _
  obtain ⟨k, hk⟩ : ∃ k, k = 2 * 1048576 + 100 := ⟨_, rfl⟩
  refine ⟨k, ?_⟩
  unfold laws_FnExactAddVersion.f
  by_cases ht : (x.length : Int) > 1048576
  · rw [if_pos ht]
  · rw [if_neg ht]
    have f1 : laws_toIntS.f k x = some x := laws_toIntS_eq (by omega) (by omega)
    have f4 : laws_eqIntS.f k x x = some true := laws_eqIntS_self (by omega) (by omega)
    have f6 : laws_markIntS.f k x 1 = some (1 + (x.length : Int), seqFrom 1 x.length) := laws_markIntS_eq (by omega) (by omega) (by omega) (by omega)
    have p1 : ¬ (1 + (x.length : Int) < 0) := by omega
    have hc0 : (addVersion x v).1.length ≤ x.length + 1 := by
      unfold addVersion
      split
      · exact (putI_length x v).2.2
      · exact Nat.le_succ _
    obtain ⟨⟨c, b⟩, q⟩ : ∃ c, c = addVersion x v := ⟨_, rfl⟩
    have hc : c.length ≤ x.length + 1 := by rw [← q] at hc0; exact hc0
    have f2 : spec_AddVersion.f k x v = some (c, b) := by rw [spec_AddVersion_eq (by omega) (by omega), q]
    have f3 : impl_AddVersion.f k x v = some (c, b) := by rw [impl_AddVersion_eq (by omega) (by omega), q]
    have f5 : laws_eqIntS.f k c c = some true := laws_eqIntS_self (by omega) (by omega)
    have f7 : laws_markIntS.f k c 1 = some (1 + (c.length : Int), seqFrom 1 c.length) := laws_markIntS_eq (by omega) (by omega) (by omega) (by omega)
    have f8 : laws_heldIntS.f k (seqFrom 1 c.length) 1 = some (1 + (c.length : Int)) := laws_heldIntS_eq (by omega) (by omega) (by omega) (by omega)
    have p2 : ¬ (1 + (c.length : Int) < 0) := by omega
    simp only [f1, f2, f3, f4, f5, f6, f7, f8, p1, p2, Option.bind_some, Bool.false_eq_true, if_true, if_false, ↓reduceIte, bne_self_eq_false, Bool.not_true, Bool.not_false, Nat.le_add_right, Nat.le_refl]

end Go.Proofs.Ytdajgpnkbinbiaa.Pure
