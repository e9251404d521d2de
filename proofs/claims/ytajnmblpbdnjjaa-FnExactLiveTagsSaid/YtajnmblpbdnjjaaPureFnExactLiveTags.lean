/- LiveTags of the program and of the reference agree on every list of entries, as a statement over lists alone; the bounds are those of memory. -/
import Derived.Test.YtajnmblpbdnjjaaPFnExactLiveTagsx3
import Derived.Test.YtajnmblpbdnjjaaGb
import Derived.Test.YtajnmblpbdnjjaaGr
namespace Go.Proofs.Ytajnmblpbdnjjaa.Pure
open Go.RowKit Go.Proofs.Ytajnmblpbdnjjaa.PFnExactLiveTags Go.Proofs.YtajnmblpbdnjjaaW.PrintWords Go.Proofs.YtajnmblpbdnjjaaW.PrintLast Go.Proofs.Ytajnmblpbdnjjaa.Gb Go.Proofs.Ytajnmblpbdnjjaa.Gr Go.Proofs.Ytajnmblpbdnjjaa
set_option linter.unusedSimpArgs false
set_option linter.unusedVariables false
namespace FnExactLiveTagsAid

/-! ### T_Entry -/
abbrev En := S49
abbrev LEn := S54
abbrev zEn : En := z49
abbrev zLEn : LEn := z54
theorem rd_En (l : List En) (i : Nat) : rd_T49 l (i : Int) = nt zEn l i := by simp [rd_T49, nt]
theorem rd_LEn (l : List LEn) (i : Nat) : rd_T54 l (i : Int) = nt zLEn l i := by simp [rd_T54, nt]
def convEn (x : LEn) : En := ⟨x.f0, x.f1, x.f2⟩

/-! ### laws_szEntryS -/
/-- The size law: beyond the bound the law answers true; within it, the length is small. -/
theorem laws_szEntryS_eq {l : List LEn} {a : Int} (h0 : 0 ≤ a) (h1 : a ≤ 1048576) (hl : l.length ≤ 9223372036854775807) : laws_szEntryS.f l a = some (if a < l.length then -1 else a - l.length) := by
  unfold laws_szEntryS.f
  rw [wrap_id (by omega) (by omega)]
  by_cases h : a < (l.length : Int)
  · rw [if_pos (by omega), if_pos h]
  · rw [if_neg (by omega), if_neg h]

/-! ### laws_toEntryS -/
theorem laws_toEntryS_eq {l : List LEn} {k : Nat} (hl : l.length ≤ 1048576) (hk : l.length < k) : laws_toEntryS.f k l = some (l.map convEn) := by
  unfold laws_toEntryS.f
  rw [if_pos (by omega), toNat_cast, if_pos (by omega)]
  have h := map_loop (g := fun k acc i => laws_toEntryS.l0 k l acc (i : Int)) (l := l) (z := zLEn) (zb := zEn) (f := convEn) (B := 0) (fun k acc ha => by
      simp only [laws_toEntryS.l0]; rw [if_neg (by omega)])
    (fun k i acc hi _ ha => by
      simp only [laws_toEntryS.l0]
      rw [if_pos (by omega), if_pos (by omega), rd_LEn]
      simp only [laws_toEntry.f, Option.bind_some]
      rw [if_pos (by omega), wrap_up (n := l.length) hi (by omega), toNat_cast]; rfl) l.length k 0 (by omega) (by omega)
  simpa using h

/-! ### laws_eqEntryS -/
theorem laws_eqEntryS_self {l : List En} {k : Nat} (hl : l.length ≤ 9223372036854775807) (hk : l.length < k) : laws_eqEntryS.f k l l = some true := by
  unfold laws_eqEntryS.f
  rw [if_pos rfl]
  exact pass_loop (g := fun k i => laws_eqEntryS.l0 k l l (i : Int)) (n := l.length) (B := 0) (fun k => by
      simp only [laws_eqEntryS.l0]; rw [if_neg (by omega)])
    (fun k i hi _ => by
      simp only [laws_eqEntryS.l0]
      rw [if_pos (by omega), if_pos (by omega), if_pos (by omega), wrap_up (n := l.length) hi hl]
      simp only [laws_eqEntry.f, if_true, bne_self_eq_false, Bool.false_eq_true, if_false, Option.bind_some]) l.length k 0 (by omega) (by omega)

/-! ### laws_eqIntS -/
theorem laws_eqIntS_l0 (a b : List Int) (hl : a.length ≤ 9223372036854775807) (he : b.length = a.length) : ∀ (d k i : Nat), i + d = a.length → d < k → laws_eqIntS.l0 k a b (i : Int) = some (decide (a.drop i = b.drop i)) := by
  intro d
  induction d with
  | zero =>
    intro k i h hk
    obtain ⟨k, rfl⟩ := succ_of hk
    obtain rfl : i = a.length := by omega
    simp only [laws_eqIntS.l0]; rw [if_neg (by omega), drop_end, ← he, drop_end, decide_eq_true rfl]
  | succ d ih =>
    intro k i h hk
    obtain ⟨k, rfl⟩ := succ_of hk
    simp only [laws_eqIntS.l0]
    rw [if_pos (by omega), if_pos (by omega), if_pos (by omega), wrap_up (n := a.length) (by omega) hl, rd_cast, rd_cast, drop_step a 0 i (by omega), drop_step b 0 i (by omega), ih k (i + 1) (by omega) (by omega)]
    by_cases e : nt 0 a i = nt 0 b i
    · rw [if_pos e, e]; simp
    · rw [if_neg e]; simp [e]
theorem laws_eqIntS_eq {a b : List Int} {k : Nat} (hl : a.length ≤ 9223372036854775807) (hk : a.length < k) : laws_eqIntS.f k a b = some (decide (a = b)) := by
  unfold laws_eqIntS.f
  by_cases e : a.length = b.length
  · rw [if_pos (by omega)]
    exact laws_eqIntS_l0 a b hl e.symm a.length k 0 (by omega) hk
  · rw [if_neg (by omega), decide_eq_false (fun h => e (by rw [h]))]
theorem laws_eqIntS_self {a : List Int} {k : Nat} (hl : a.length ≤ 9223372036854775807) (hk : a.length < k) : laws_eqIntS.f k a a = some true := by
  rw [laws_eqIntS_eq hl hk, decide_eq_true rfl]

/-! ### laws_markIntS -/
theorem laws_markIntS_l0 (l : List Int) (hl : l.length ≤ 4611686018427387904) (a : Int) (h0 : 0 ≤ a) (h1 : a ≤ 4611686018427387903) : ∀ (d k i : Nat), i + d = l.length → d < k → laws_markIntS.l0 k (seqFrom a i ++ l.drop i) (a + i) (i : Int) = some (a + l.length, seqFrom a l.length) := by
  intro d
  induction d with
  | zero =>
    intro k i h hk
    obtain ⟨k, rfl⟩ := succ_of hk
    obtain rfl : i = l.length := by omega
    simp only [laws_markIntS.l0]; rw [drop_end, List.append_nil, seqFrom_length, if_neg (by omega)]
  | succ d ih =>
    intro k i h hk
    obtain ⟨k, rfl⟩ := succ_of hk
    simp only [laws_markIntS.l0]
    rw [if_pos (by rw [List.length_append, List.length_drop, seqFrom_length]; omega), if_pos (by omega), wrap_up (n := l.length) (by omega) (by omega), toNat_cast, set_mark _ _ _ _ (seqFrom_length a i) (by omega), ← seqFrom_snoc, wrap_id (by omega) (by omega), Int.add_assoc]
    exact ih k (i + 1) (by omega) (by omega)
theorem laws_markIntS_eq {l : List Int} {a : Int} {k : Nat} (hl : l.length ≤ 4611686018427387904) (h0 : 0 ≤ a) (h1 : a ≤ 4611686018427387903) (hk : l.length < k) : laws_markIntS.f k l a = some (a + l.length, seqFrom a l.length) := by
  unfold laws_markIntS.f
  have h := laws_markIntS_l0 l hl a h0 h1 l.length k 0 (by omega) hk
  simp only [seqFrom, List.drop_zero, List.nil_append, Int.natCast_zero, Int.add_zero] at h
  exact h

/-! ### laws_heldIntS -/
theorem laws_heldIntS_l0 (n : Nat) (hn : n ≤ 4611686018427387904) (a : Int) (h0 : 0 ≤ a) (h1 : a ≤ 4611686018427387903) : ∀ (d k i : Nat), i + d = n → d < k → laws_heldIntS.l0 k (seqFrom a n) (a + i) (i : Int) = some (a + n) := by
  intro d
  induction d with
  | zero =>
    intro k i h hk
    obtain ⟨k, rfl⟩ := succ_of hk
    obtain rfl : i = n := by omega
    simp only [laws_heldIntS.l0]; rw [seqFrom_length, if_neg (by omega)]
  | succ d ih =>
    intro k i h hk
    obtain ⟨k, rfl⟩ := succ_of hk
    simp only [laws_heldIntS.l0]
    rw [seqFrom_length, if_pos (by omega), if_pos (by omega), rd_cast, nt_seq a n i (by omega), if_pos rfl, wrap_up (n := n) (by omega) (by omega), wrap_id (by omega) (by omega), Int.add_assoc]
    exact ih k (i + 1) (by omega) (by omega)
theorem laws_heldIntS_eq {n : Nat} {a : Int} {k : Nat} (hn : n ≤ 4611686018427387904) (h0 : 0 ≤ a) (h1 : a ≤ 4611686018427387903) (hk : n < k) : laws_heldIntS.f k (seqFrom a n) a = some (a + n) := by
  unfold laws_heldIntS.f
  have h := laws_heldIntS_l0 n hn a h0 h1 n k 0 (by omega) hk
  simp only [Int.natCast_zero, Int.add_zero] at h
  exact h

/-! ### laws_markEntryS -/
def markEn (a : Int) : Nat → List En
  | 0 => []
  | n + 1 => (⟨a, a + 1, Int.tmod (a + 2) 3 == 0⟩ : En) :: markEn (a + 3) n
theorem markEn_length (a : Int) (n : Nat) : (markEn a n).length = n := by
  induction n generalizing a with
  | zero => rfl
  | succ n ih => simp [markEn, ih]
theorem markEn_snoc (a : Int) (n : Nat) : markEn a (n + 1) = markEn a n ++ [(⟨a + 3 * n, a + 3 * n + 1, Int.tmod (a + 3 * n + 2) 3 == 0⟩ : En)] := by
  induction n generalizing a with
  | zero => simp [markEn]
  | succ n ih => rw [markEn, ih (a + 3)]; simp only [markEn, List.cons_append, show a + 3 + 3 * (n : Int) = a + 3 * ((n + 1 : Nat) : Int) by omega]
theorem nt_markEn (a : Int) : ∀ (n i : Nat), i < n → nt zEn (markEn a n) i = (⟨a + 3 * i, a + 3 * i + 1, Int.tmod (a + 3 * i + 2) 3 == 0⟩ : En) := by
  intro n
  induction n generalizing a with
  | zero => intro i h; omega
  | succ n ih =>
    intro i h
    cases i with
    | zero => simp [markEn, nt_cons_zero]
    | succ i => rw [markEn, nt_cons_succ, ih (a + 3) i (by omega)]; simp only [show a + 3 + 3 * (i : Int) = a + 3 * ((i + 1 : Nat) : Int) by omega]
theorem laws_markEntryS_l0 (l : List En) (hl : l.length ≤ 1048576) (a : Int) (h0 : 0 ≤ a) (h1 : a ≤ 4611686018427387903) : ∀ (d k i : Nat), i + d = l.length → d < k → laws_markEntryS.l0 k (markEn a i ++ l.drop i) (a + 3 * i) (i : Int) = some (a + 3 * l.length, markEn a l.length) := by
  intro d
  induction d with
  | zero =>
    intro k i h hk
    obtain ⟨k, rfl⟩ := succ_of hk
    obtain rfl : i = l.length := by omega
    simp only [laws_markEntryS.l0]; rw [drop_end, List.append_nil, markEn_length, if_neg (by omega)]
  | succ d ih =>
    intro k i h hk
    obtain ⟨k, rfl⟩ := succ_of hk
    have hm := markEn_length a i
    simp only [laws_markEntryS.l0, Option.bind_some]
    rw [if_pos (by rw [List.length_append, List.length_drop, hm]; omega), if_pos (by omega), wrap_up (n := l.length) (by omega) (by omega)]
    simp only [toNat_cast, set_mark _ _ _ _ hm (show i < l.length by omega), set_mid _ _ _ _ _ hm, rd_En, nt_mid _ _ _ _ _ hm]
    rw [wrap_id (x := a + 3 * (i : Int) + 1) (by omega) (by omega), wrap_id (x := a + 3 * (i : Int) + 1 + 1) (by omega) (by omega), wrap_id (x := a + 3 * (i : Int) + 1 + 1 + 1) (by omega) (by omega)]
    have e := ih k (i + 1) (by omega) (by omega)
    rw [markEn_snoc] at e
    rw [show a + 3 * (i : Int) + 1 + 1 = a + 3 * i + 2 by omega, show a + 3 * (i : Int) + 2 + 1 = a + 3 * ((i + 1 : Nat) : Int) by omega]
    exact e
theorem laws_markEntryS_eq {l : List En} {a : Int} {k : Nat} (hl : l.length ≤ 1048576) (h0 : 0 ≤ a) (h1 : a ≤ 4611686018427387903) (hk : l.length < k) : laws_markEntryS.f k l a = some (a + 3 * l.length, markEn a l.length) := by
  unfold laws_markEntryS.f
  have h := laws_markEntryS_l0 l hl a h0 h1 l.length k 0 (by omega) hk
  simpa [markEn] using h

/-! ### spec_LiveTags -/
def liveTags (l : List En) : List Int := (l.filter fun x => !x.f2).map fun x => x.f0
theorem spec_LiveTags_eq {l : List En} {k : Nat} (hl : l.length ≤ 1048576) (hk : l.length < k) : spec_LiveTags.f k l = some (liveTags l) := by
  unfold spec_LiveTags.f
  have h := filter_loop (g := fun k acc i => spec_LiveTags.l0 k l acc (i : Int)) (l := l) (z := zEn) (B := 0) (p := fun x => !x.f2) (f := fun x => x.f0) (fun k acc => by
      simp only [spec_LiveTags.l0]; rw [if_neg (by omega)])
    (fun k i acc hi hk hacc => by
      simp only [spec_LiveTags.l0]
      rw [if_pos (by omega), if_pos (by omega), rd_En, wrap_up (n := l.length) hi (by omega), if_pos (show acc.length < 17592186044416 by omega)]
      cases (nt zEn l i).f2 <;> rfl) l.length k 0 [] (by omega) (by omega) (by simp)
  simpa [liveTags] using h

/-! ### impl_LiveTags -/
theorem impl_LiveTags_eq {l : List En} {k : Nat} (hl : l.length ≤ 1048576) (hk : l.length < k) : impl_LiveTags.f k l = some (liveTags l) := by
  unfold impl_LiveTags.f
  have h := filter_loop (g := fun k acc i => impl_LiveTags.l0 k acc l (l.length : Int) (i : Int)) (l := l) (z := zEn) (B := 0) (p := fun x => !x.f2) (f := fun x => x.f0) (fun k acc => by
      simp only [impl_LiveTags.l0]; rw [if_neg (by omega)])
    (fun k i acc hi hk hacc => by
      simp only [impl_LiveTags.l0]
      rw [if_pos (by omega), if_pos (by omega), if_pos (by omega), rd_En, wrap_up (n := l.length) hi (by omega), if_pos (show acc.length < 17592186044416 by omega)]
      cases (nt zEn l i).f2 <;> rfl) l.length k 0 [] (by omega) (by omega) (by simp)
  simpa [liveTags] using h

end FnExactLiveTagsAid
open FnExactLiveTagsAid

theorem FnExactLiveTags : laws_FnExactLiveTags.Pure := by
  intro l hl hw
  obtain ⟨k, hk⟩ : ∃ k, k = l.length + 2 := ⟨_, rfl⟩
  refine ⟨k + 5, ?_⟩
  unfold laws_FnExactLiveTags.f
  rw [laws_szEntryS_eq (by omega) (by omega) hl, Option.bind_some]
  by_cases hb : (1048576 : Int) < l.length
  · rw [if_pos hb, if_pos (by omega)]
  · rw [if_neg hb, if_neg (by omega)]
    have hm : (l.map convEn).length = l.length := List.length_map ..
    obtain ⟨c, q⟩ : ∃ c, c = liveTags (l.map convEn) := ⟨_, rfl⟩
    have hc : c.length ≤ l.length := by rw [q, liveTags, List.length_map, ← hm]; exact List.length_filter_le _ _
    have f1 : ∀ j, k ≤ j → laws_toEntryS.f j l = some (l.map convEn) := fun j h => laws_toEntryS_eq (by omega) (by omega)
    have f2 : ∀ j, k ≤ j → spec_LiveTags.f j (l.map convEn) = some c := fun j h => by rw [spec_LiveTags_eq (by omega) (by omega), q]
    have f3 : ∀ j, k ≤ j → impl_LiveTags.f j (l.map convEn) = some c := fun j h => by rw [impl_LiveTags_eq (by omega) (by omega), q]
    have f4 : ∀ j, k ≤ j → laws_eqEntryS.f j (l.map convEn) (l.map convEn) = some true := fun j h => laws_eqEntryS_self (by omega) (by omega)
    have f5 : ∀ j, k ≤ j → laws_eqIntS.f j c c = some true := fun j h => laws_eqIntS_self (by omega) (by omega)
    have f6 : ∀ j, k ≤ j → laws_markEntryS.f j (l.map convEn) 1 = some (1 + 3 * (l.length : Int), markEn 1 l.length) := fun j h => by rw [laws_markEntryS_eq (by omega) (by omega) (by omega) (by omega), hm]
    have f7 : ∀ j, k ≤ j → laws_markIntS.f j c 1 = some (1 + (c.length : Int), seqFrom 1 c.length) := fun j h => laws_markIntS_eq (by omega) (by omega) (by omega) (by omega)
    have f8 : ∀ j, k ≤ j → laws_heldIntS.f j (seqFrom 1 c.length) 1 = some (1 + (c.length : Int)) := fun j h => laws_heldIntS_eq (by omega) (by omega) (by omega) (by omega)
    have p1 : ¬ (1 + 3 * (l.length : Int) < 0) := by omega
    have p2 : ¬ (1 + (c.length : Int) < 0) := by omega
    simp only [laws_FnExactLiveTags.j0, f1, f2, f3, f4, f5, f6, f7, f8, p1, p2, Option.bind_some, Bool.false_eq_true, if_true, if_false, ↓reduceIte, bne_self_eq_false, Bool.not_true, Bool.not_false, Nat.le_add_right, Nat.le_refl]

end Go.Proofs.Ytajnmblpbdnjjaa.Pure
