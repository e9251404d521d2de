/- ClashOf of the program and of the reference agree on every list of entries, every list of tags and every vendor, as a statement over lists alone; the bounds are those of memory. -/
import Derived.Test.YtajnmblpbdnjjaaPFnExactClashOfx3
import Derived.Test.YtajnmblpbdnjjaaGb
import Derived.Test.YtajnmblpbdnjjaaGr
namespace Go.Proofs.Ytajnmblpbdnjjaa.Pure
open Go.RowKit Go.Proofs.Ytajnmblpbdnjjaa.PFnExactClashOf Go.Proofs.YtajnmblpbdnjjaaW.PrintWords Go.Proofs.YtajnmblpbdnjjaaW.PrintLast Go.Proofs.Ytajnmblpbdnjjaa.Gb Go.Proofs.Ytajnmblpbdnjjaa.Gr Go.Proofs.Ytajnmblpbdnjjaa
set_option linter.unusedSimpArgs false
set_option linter.unusedVariables false
namespace FnExactClashOfAid

/-! ### T_Entry -/
abbrev En := S49
abbrev LEn := S54
abbrev zEn : En := z49
abbrev zLEn : LEn := z54
theorem rd_En (l : List En) (i : Nat) : rd_T49 l (i : Int) = nt zEn l i := by simp [rd_T49, nt]
theorem rd_LEn (l : List LEn) (i : Nat) : rd_T54 l (i : Int) = nt zLEn l i := by simp [rd_T54, nt]
def convEn (x : LEn) : En := ⟨x.f0, x.f1, x.f2⟩

/-! ### laws_szEntryS -/
/-- The size law: beyond the bound the law answers true; within it, the length is small. -/
theorem laws_szEntryS_eq {l : List LEn} {a : Int} (h0 : 0 ≤ a) (h1 : a ≤ 1048576) (hl : l.length ≤ 9223372036854775807) : laws_szEntryS.f l a = some (if a < l.length then -1 else a - l.length) := by
  unfold laws_szEntryS.f
  rw [wrap_id (by omega) (by omega)]
  by_cases h : a < (l.length : Int)
  · rw [if_pos (by omega), if_pos h]
  · rw [if_neg (by omega), if_neg h]

/-! ### laws_toEntryS -/
theorem laws_toEntryS_eq {l : List LEn} {k : Nat} (hl : l.length ≤ 1048576) (hk : l.length < k) : laws_toEntryS.f k l = some (l.map convEn) := by
  unfold laws_toEntryS.f
  rw [if_pos (by omega), toNat_cast, if_pos (by omega)]
  have h := map_loop (g := fun k acc i => laws_toEntryS.l0 k l acc (i : Int)) (l := l) (z := zLEn) (zb := zEn) (f := convEn) (B := 0) (fun k acc ha => by
      simp only [laws_toEntryS.l0]; rw [if_neg (by omega)])
    (fun k i acc hi _ ha => by
      simp only [laws_toEntryS.l0]
      rw [if_pos (by omega), if_pos (by omega), rd_LEn]
      simp only [laws_toEntry.f, Option.bind_some]
      rw [if_pos (by omega), wrap_up (n := l.length) hi (by omega), toNat_cast]; rfl) l.length k 0 (by omega) (by omega)
  simpa using h

/-! ### laws_toIntS -/
theorem laws_toIntS_l0 (l : List Int) (hl : l.length ≤ 9223372036854775807) : ∀ (d k i : Nat), i + d = l.length → d < k → laws_toIntS.l0 k l (l.take i ++ List.replicate (l.length - i) 0) (i : Int) = some l := by
  intro d
  induction d with
  | zero =>
    intro k i h hk
    obtain ⟨k, rfl⟩ := succ_of hk
    obtain rfl : i = l.length := by omega
    simp only [laws_toIntS.l0]; rw [if_neg (by omega), take_all]
  | succ d ih =>
    intro k i h hk
    obtain ⟨k, rfl⟩ := succ_of hk
    simp only [laws_toIntS.l0]
    rw [if_pos (by omega), if_pos (by omega), if_pos (by rw [List.length_append, List.length_take, List.length_replicate]; omega), wrap_up (n := l.length) (by omega) hl, rd_cast, toNat_cast, set_grow _ _ _ (by omega)]
    exact ih k (i + 1) (by omega) (by omega)
theorem laws_toIntS_eq {l : List Int} {k : Nat} (hl : l.length ≤ 35184372088832) (hk : l.length < k) : laws_toIntS.f k l = some l := by
  unfold laws_toIntS.f
  rw [if_pos (by omega), toNat_cast, if_pos hl, ← take_none l 0]
  exact laws_toIntS_l0 l (by omega) l.length k 0 (by omega) hk

/-! ### laws_eqEntryS -/
theorem laws_eqEntryS_self {l : List En} {k : Nat} (hl : l.length ≤ 9223372036854775807) (hk : l.length < k) : laws_eqEntryS.f k l l = some true := by
  unfold laws_eqEntryS.f
  rw [if_pos rfl]
  exact pass_loop (g := fun k i => laws_eqEntryS.l0 k l l (i : Int)) (n := l.length) (B := 0) (fun k => by
      simp only [laws_eqEntryS.l0]; rw [if_neg (by omega)])
    (fun k i hi _ => by
      simp only [laws_eqEntryS.l0]
      rw [if_pos (by omega), if_pos (by omega), if_pos (by omega), wrap_up (n := l.length) hi hl]
      simp only [laws_eqEntry.f, if_true, bne_self_eq_false, Bool.false_eq_true, if_false, Option.bind_some]) l.length k 0 (by omega) (by omega)

/-! ### laws_eqIntS -/
theorem laws_eqIntS_l0 (a b : List Int) (hl : a.length ≤ 9223372036854775807) (he : b.length = a.length) : ∀ (d k i : Nat), i + d = a.length → d < k → laws_eqIntS.l0 k a b (i : Int) = some (decide (a.drop i = b.drop i)) := by
  intro d
  induction d with
  | zero =>
    intro k i h hk
    obtain ⟨k, rfl⟩ := succ_of hk
    obtain rfl : i = a.length := by omega
    simp only [laws_eqIntS.l0]; rw [if_neg (by omega), drop_end, ← he, drop_end, decide_eq_true rfl]
  | succ d ih =>
    intro k i h hk
    obtain ⟨k, rfl⟩ := succ_of hk
    simp only [laws_eqIntS.l0]
    rw [if_pos (by omega), if_pos (by omega), if_pos (by omega), wrap_up (n := a.length) (by omega) hl, rd_cast, rd_cast, drop_step a 0 i (by omega), drop_step b 0 i (by omega), ih k (i + 1) (by omega) (by omega)]
    by_cases e : nt 0 a i = nt 0 b i
    · rw [if_pos e, e]; simp
    · rw [if_neg e]; simp [e]
theorem laws_eqIntS_eq {a b : List Int} {k : Nat} (hl : a.length ≤ 9223372036854775807) (hk : a.length < k) : laws_eqIntS.f k a b = some (decide (a = b)) := by
  unfold laws_eqIntS.f
  by_cases e : a.length = b.length
  · rw [if_pos (by omega)]
    exact laws_eqIntS_l0 a b hl e.symm a.length k 0 (by omega) hk
  · rw [if_neg (by omega), decide_eq_false (fun h => e (by rw [h]))]
theorem laws_eqIntS_self {a : List Int} {k : Nat} (hl : a.length ≤ 9223372036854775807) (hk : a.length < k) : laws_eqIntS.f k a a = some true := by
  rw [laws_eqIntS_eq hl hk, decide_eq_true rfl]

/-! ### laws_markIntS -/
theorem laws_markIntS_l0 (l : List Int) (hl : l.length ≤ 4611686018427387904) (a : Int) (h0 : 0 ≤ a) (h1 : a ≤ 4611686018427387903) : ∀ (d k i : Nat), i + d = l.length → d < k → laws_markIntS.l0 k (seqFrom a i ++ l.drop i) (a + i) (i : Int) = some (a + l.length, seqFrom a l.length) := by
  intro d
  induction d with
  | zero =>
    intro k i h hk
    obtain ⟨k, rfl⟩ := succ_of hk
    obtain rfl : i = l.length := by omega
    simp only [laws_markIntS.l0]; rw [drop_end, List.append_nil, seqFrom_length, if_neg (by omega)]
  | succ d ih =>
    intro k i h hk
    obtain ⟨k, rfl⟩ := succ_of hk
    simp only [laws_markIntS.l0]
    rw [if_pos (by rw [List.length_append, List.length_drop, seqFrom_length]; omega), if_pos (by omega), wrap_up (n := l.length) (by omega) (by omega), toNat_cast, set_mark _ _ _ _ (seqFrom_length a i) (by omega), ← seqFrom_snoc, wrap_id (by omega) (by omega), Int.add_assoc]
    exact ih k (i + 1) (by omega) (by omega)
theorem laws_markIntS_eq {l : List Int} {a : Int} {k : Nat} (hl : l.length ≤ 4611686018427387904) (h0 : 0 ≤ a) (h1 : a ≤ 4611686018427387903) (hk : l.length < k) : laws_markIntS.f k l a = some (a + l.length, seqFrom a l.length) := by
  unfold laws_markIntS.f
  have h := laws_markIntS_l0 l hl a h0 h1 l.length k 0 (by omega) hk
  simp only [seqFrom, List.drop_zero, List.nil_append, Int.natCast_zero, Int.add_zero] at h
  exact h

/-! ### laws_heldIntS -/
theorem laws_heldIntS_l0 (n : Nat) (hn : n ≤ 4611686018427387904) (a : Int) (h0 : 0 ≤ a) (h1 : a ≤ 4611686018427387903) : ∀ (d k i : Nat), i + d = n → d < k → laws_heldIntS.l0 k (seqFrom a n) (a + i) (i : Int) = some (a + n) := by
  intro d
  induction d with
  | zero =>
    intro k i h hk
    obtain ⟨k, rfl⟩ := succ_of hk
    obtain rfl : i = n := by omega
    simp only [laws_heldIntS.l0]; rw [seqFrom_length, if_neg (by omega)]
  | succ d ih =>
    intro k i h hk
    obtain ⟨k, rfl⟩ := succ_of hk
    simp only [laws_heldIntS.l0]
    rw [seqFrom_length, if_pos (by omega), if_pos (by omega), rd_cast, nt_seq a n i (by omega), if_pos rfl, wrap_up (n := n) (by omega) (by omega), wrap_id (by omega) (by omega), Int.add_assoc]
    exact ih k (i + 1) (by omega) (by omega)
theorem laws_heldIntS_eq {n : Nat} {a : Int} {k : Nat} (hn : n ≤ 4611686018427387904) (h0 : 0 ≤ a) (h1 : a ≤ 4611686018427387903) (hk : n < k) : laws_heldIntS.f k (seqFrom a n) a = some (a + n) := by
  unfold laws_heldIntS.f
  have h := laws_heldIntS_l0 n hn a h0 h1 n k 0 (by omega) hk
  simp only [Int.natCast_zero, Int.add_zero] at h
  exact h

/-! ### laws_markEntryS -/
def markEn (a : Int) : Nat → List En
  | 0 => []
  | n + 1 => (⟨a, a + 1, Int.tmod (a + 2) 3 == 0⟩ : En) :: markEn (a + 3) n
theorem markEn_length (a : Int) (n : Nat) : (markEn a n).length = n := by
  induction n generalizing a with
  | zero => rfl
  | succ n ih => simp [markEn, ih]
theorem markEn_snoc (a : Int) (n : Nat) : markEn a (n + 1) = markEn a n ++ [(⟨a + 3 * n, a + 3 * n + 1, Int.tmod (a + 3 * n + 2) 3 == 0⟩ : En)] := by
  induction n generalizing a with
  | zero => simp [markEn]
  | succ n ih => rw [markEn, ih (a + 3)]; simp only [markEn, List.cons_append, show a + 3 + 3 * (n : Int) = a + 3 * ((n + 1 : Nat) : Int) by omega]
theorem nt_markEn (a : Int) : ∀ (n i : Nat), i < n → nt zEn (markEn a n) i = (⟨a + 3 * i, a + 3 * i + 1, Int.tmod (a + 3 * i + 2) 3 == 0⟩ : En) := by
  intro n
  induction n generalizing a with
  | zero => intro i h; omega
  | succ n ih =>
    intro i h
    cases i with
    | zero => simp [markEn, nt_cons_zero]
    | succ i => rw [markEn, nt_cons_succ, ih (a + 3) i (by omega)]; simp only [show a + 3 + 3 * (i : Int) = a + 3 * ((i + 1 : Nat) : Int) by omega]
theorem laws_markEntryS_l0 (l : List En) (hl : l.length ≤ 1048576) (a : Int) (h0 : 0 ≤ a) (h1 : a ≤ 4611686018427387903) : ∀ (d k i : Nat), i + d = l.length → d < k → laws_markEntryS.l0 k (markEn a i ++ l.drop i) (a + 3 * i) (i : Int) = some (a + 3 * l.length, markEn a l.length) := by
  intro d
  induction d with
  | zero =>
    intro k i h hk
    obtain ⟨k, rfl⟩ := succ_of hk
    obtain rfl : i = l.length := by omega
    simp only [laws_markEntryS.l0]; rw [drop_end, List.append_nil, markEn_length, if_neg (by omega)]
  | succ d ih =>
    intro k i h hk
    obtain ⟨k, rfl⟩ := succ_of hk
    have hm := markEn_length a i
    simp only [laws_markEntryS.l0, Option.bind_some]
    rw [if_pos (by rw [List.length_append, List.length_drop, hm]; omega), if_pos (by omega), wrap_up (n := l.length) (by omega) (by omega)]
    simp only [toNat_cast, set_mark _ _ _ _ hm (show i < l.length by omega), set_mid _ _ _ _ _ hm, rd_En, nt_mid _ _ _ _ _ hm]
    rw [wrap_id (x := a + 3 * (i : Int) + 1) (by omega) (by omega), wrap_id (x := a + 3 * (i : Int) + 1 + 1) (by omega) (by omega), wrap_id (x := a + 3 * (i : Int) + 1 + 1 + 1) (by omega) (by omega)]
    have e := ih k (i + 1) (by omega) (by omega)
    rw [markEn_snoc] at e
    rw [show a + 3 * (i : Int) + 1 + 1 = a + 3 * i + 2 by omega, show a + 3 * (i : Int) + 2 + 1 = a + 3 * ((i + 1 : Nat) : Int) by omega]
    exact e
theorem laws_markEntryS_eq {l : List En} {a : Int} {k : Nat} (hl : l.length ≤ 1048576) (h0 : 0 ≤ a) (h1 : a ≤ 4611686018427387903) (hk : l.length < k) : laws_markEntryS.f k l a = some (a + 3 * l.length, markEn a l.length) := by
  unfold laws_markEntryS.f
  have h := laws_markEntryS_l0 l hl a h0 h1 l.length k 0 (by omega) hk
  simpa [markEn] using h

/-! ### spec_OwnerOf -/
def ownerOf (l : List En) (t : Int) : Int := (l.findIdx? fun x => x.f0 == t).elim (-1) fun j => (nt zEn l j).f1
theorem spec_OwnerOf_eq {l : List En} {t : Int} {k : Nat} (hl : l.length ≤ 9223372036854775807) (hk : l.length < k) : spec_OwnerOf.f k l t = some (ownerOf l t) := by
  unfold spec_OwnerOf.f
  have h := find_loop (g := fun k i => spec_OwnerOf.l0 k l t (i : Int)) (l := l) (z := zEn) (B := 0) (p := fun x => x.f0 == t) (hit := fun j => (nt zEn l j).f1) (miss := (-1 : Int)) (fun k => by
      simp only [spec_OwnerOf.l0]; rw [if_neg (by omega)])
    (fun k i hi _ => by
      simp only [spec_OwnerOf.l0]
      rw [if_pos (by omega), if_pos (by omega), wrap_up (n := l.length) hi hl, rd_En]
      by_cases e : (nt zEn l i).f0 = t
      · rw [if_pos e, if_pos (by simp [e])]
      · rw [if_neg e, if_neg (by simp [e])]) l.length k 0 (by omega) (by omega)
  simpa [ownerOf] using h

/-! ### spec_l1In -/
theorem spec_l1In_eq (a b c : Int) : spec_l1In.f a b c = some (decide (b ≤ a ∧ a ≤ c)) := by
  unfold spec_l1In.f
  by_cases h : a ≥ b
  · rw [if_pos h]; simp [show b ≤ a from h]
  · rw [if_neg h, decide_eq_false (by omega)]

/-! ### spec_IsReserved -/
theorem spec_IsReserved_eq (a : Int) : spec_IsReserved.f a = some (isReserved a) := by
  unfold spec_IsReserved.f isReserved
  rw [spec_l1In_eq, Option.bind_some]
  by_cases h : (0 : Int) ≤ a ∧ a ≤ 255 <;> simp [h]

/-! ### spec_ClashOf -/
def clash (l : List En) (v t : Int) : Bool := (decide (ownerOf l t ≥ 0) && !decide (ownerOf l t = v)) || isReserved t
theorem spec_ClashOf_eq {l : List En} {ts : List Int} {v : Int} {k : Nat} (hl : l.length ≤ 1048576) (ht : ts.length ≤ 1048576) (hk : l.length + ts.length + 2 < k) : spec_ClashOf.f k l ts v = some (ts.filter (clash l v)) := by
  unfold spec_ClashOf.f
  have h := filter_loop (g := fun k acc i => spec_ClashOf.l0 k l ts v acc (i : Int)) (l := ts) (z := 0) (B := l.length + 1) (p := clash l v) (f := id) (fun k acc => by
      simp only [spec_ClashOf.l0]; rw [if_neg (by omega)])
    (fun k i acc hi hk hacc => by
      simp only [spec_ClashOf.l0]
      rw [if_pos (by omega), if_pos (by omega), rd_cast, wrap_up (n := ts.length) hi (by omega), if_pos (show acc.length < 17592186044416 by omega), spec_OwnerOf_eq (by omega) (by omega), spec_IsReserved_eq]
      simp only [Option.bind_some, clash]
      by_cases h1 : ownerOf l (nt 0 ts i) ≥ 0 <;> by_cases h2 : ownerOf l (nt 0 ts i) = v <;> rcases Bool.eq_false_or_eq_true (isReserved (nt 0 ts i)) with h3 | h3 <;> simp [h1, h2, h3]) ts.length k 0 [] (by omega) (by omega) (by simp)
  simpa using h

/-! ### impl_OwnerOf -/
theorem impl_OwnerOf_eq (l : List En) (t : Int) : impl_OwnerOf.f l t = some (ownerOf l t) := by
  unfold impl_OwnerOf.f impl_entryOf.f ownerOf Hw.idxOf
  rw [Option.bind_some]
  obtain ⟨q, hq⟩ : ∃ q : Int, q = (l.findIdx? fun x => x.f0 == t).elim (-1) fun j => (j : Int) := ⟨_, rfl⟩
  rw [← hq]
  cases e : l.findIdx? (fun x => x.f0 == t) with
  | none => rw [e] at hq; rw [hq]; simp
  | some j =>
    obtain ⟨h1, _, _⟩ := List.findIdx?_eq_some_iff_getElem.1 e
    rw [e] at hq
    have hq' : q = (j : Int) := hq
    rw [hq', if_neg (by omega), if_pos (by omega), if_pos (by omega), rd_En]; rfl

/-! ### impl_InRange -/
theorem impl_InRange_eq (a b c : Int) : impl_InRange.f a b c = some (decide (b ≤ a ∧ a ≤ c)) := by
  unfold impl_InRange.f
  by_cases h : b ≤ a
  · rw [if_pos h]; simp [h]
  · rw [if_neg h, decide_eq_false (by omega)]

/-! ### impl_IsReserved -/
theorem impl_IsReserved_eq (a : Int) : impl_IsReserved.f a = some (isReserved a) := by
  unfold impl_IsReserved.f isReserved
  rw [impl_InRange_eq, Option.bind_some]
  by_cases h : (0 : Int) ≤ a ∧ a ≤ 255 <;> simp [h]

/-! ### impl_ClashOf -/
theorem impl_ClashOf_eq {l : List En} {ts : List Int} {v : Int} {k : Nat} (hl : l.length ≤ 1048576) (ht : ts.length ≤ 1048576) (hk : l.length + ts.length + 2 < k) : impl_ClashOf.f k l ts v = some (ts.filter (clash l v)) := by
  unfold impl_ClashOf.f
  have h := filter_loop (g := fun k acc i => impl_ClashOf.l0 k l v acc ts (ts.length : Int) (i : Int)) (l := ts) (z := 0) (B := l.length + 1) (p := clash l v) (f := id) (fun k acc => by
      simp only [impl_ClashOf.l0]; rw [if_neg (by omega)])
    (fun k i acc hi hk hacc => by
      simp only [impl_ClashOf.l0]
      rw [if_pos (by omega), if_pos (by omega), if_pos (by omega), rd_cast, wrap_up (n := ts.length) hi (by omega), if_pos (show acc.length < 17592186044416 by omega), impl_OwnerOf_eq, impl_IsReserved_eq]
      simp only [Option.bind_some, clash]
      by_cases h1 : ownerOf l (nt 0 ts i) ≥ 0 <;> by_cases h2 : ownerOf l (nt 0 ts i) = v <;> rcases Bool.eq_false_or_eq_true (isReserved (nt 0 ts i)) with h3 | h3 <;> simp [h1, h2, h3]) ts.length k 0 [] (by omega) (by omega) (by simp)
  simpa using h

end FnExactClashOfAid
open FnExactClashOfAid

theorem FnExactClashOf : laws_FnExactClashOf.Pure := by
  intro l ts v hl hw hlt _ _
  obtain ⟨k, hk⟩ : ∃ k, k = l.length + ts.length + 5 := ⟨_, rfl⟩
  refine ⟨k + 5, ?_⟩
  unfold laws_FnExactClashOf.f
  by_cases hb1 : (ts.length : Int) > 1048576
  · rw [if_pos hb1]
  rw [if_neg hb1, laws_szEntryS_eq (by omega) (by omega) hl, Option.bind_some]
  by_cases hb : (1048576 : Int) < l.length
  · rw [if_pos hb, if_pos (by omega)]
  · rw [if_neg hb, if_neg (by omega)]
    have hm : (l.map convEn).length = l.length := List.length_map ..
    obtain ⟨c, q⟩ : ∃ c, c = ts.filter (clash (l.map convEn) v) := ⟨_, rfl⟩
    have hc : c.length ≤ ts.length := by rw [q]; exact List.length_filter_le _ _
    have f0 : ∀ j, k ≤ j → laws_toIntS.f j ts = some ts := fun j h => laws_toIntS_eq (by omega) (by omega)
    have f1 : ∀ j, k ≤ j → laws_toEntryS.f j l = some (l.map convEn) := fun j h => laws_toEntryS_eq (by omega) (by omega)
    have f2 : ∀ j, k ≤ j → spec_ClashOf.f j (l.map convEn) ts v = some c := fun j h => by rw [spec_ClashOf_eq (by omega) (by omega) (by omega), q]
    have f3 : ∀ j, k ≤ j → impl_ClashOf.f j (l.map convEn) ts v = some c := fun j h => by rw [impl_ClashOf_eq (by omega) (by omega) (by omega), q]
    have f4 : ∀ j, k ≤ j → laws_eqEntryS.f j (l.map convEn) (l.map convEn) = some true := fun j h => laws_eqEntryS_self (by omega) (by omega)
    have f5 : ∀ j, k ≤ j → laws_eqIntS.f j c c = some true := fun j h => laws_eqIntS_self (by omega) (by omega)
    have f55 : ∀ j, k ≤ j → laws_eqIntS.f j ts ts = some true := fun j h => laws_eqIntS_self (by omega) (by omega)
    have f6 : ∀ j, k ≤ j → laws_markEntryS.f j (l.map convEn) 1 = some (1 + 3 * (l.length : Int), markEn 1 l.length) := fun j h => by rw [laws_markEntryS_eq (by omega) (by omega) (by omega) (by omega), hm]
    have f66 : ∀ j, k ≤ j → laws_markIntS.f j ts (1 + 3 * (l.length : Int)) = some (1 + 3 * (l.length : Int) + (ts.length : Int), seqFrom (1 + 3 * (l.length : Int)) ts.length) := fun j h => laws_markIntS_eq (by omega) (by omega) (by omega) (by omega)
    have f7 : ∀ j, k ≤ j → laws_markIntS.f j c 1 = some (1 + (c.length : Int), seqFrom 1 c.length) := fun j h => laws_markIntS_eq (by omega) (by omega) (by omega) (by omega)
    have f8 : ∀ j, k ≤ j → laws_heldIntS.f j (seqFrom 1 c.length) 1 = some (1 + (c.length : Int)) := fun j h => laws_heldIntS_eq (by omega) (by omega) (by omega) (by omega)
    have p1 : ¬ (1 + 3 * (l.length : Int) + (ts.length : Int) < 0) := by omega
    have p2 : ¬ (1 + (c.length : Int) < 0) := by omega
    simp only [laws_FnExactClashOf.j0, f0, f1, f2, f3, f4, f5, f55, f6, f66, f7, f8, p1, p2, Option.bind_some, Bool.false_eq_true, if_true, if_false, ↓reduceIte, bne_self_eq_false, Bool.not_true, Bool.not_false, Nat.le_add_right, Nat.le_refl]

end Go.Proofs.Ytajnmblpbdnjjaa.Pure
