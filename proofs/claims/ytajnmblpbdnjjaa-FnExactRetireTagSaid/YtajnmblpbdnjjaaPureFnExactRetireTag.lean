/- RetireTag of the program and of the reference agree on every list of entries and every tag, as a statement over lists alone; the bounds are those of memory. -/
import Derived.Test.YtajnmblpbdnjjaaPFnExactRetireTagx6
import Derived.Test.YtajnmblpbdnjjaaGb
import Derived.Test.YtajnmblpbdnjjaaGr
namespace Go.Proofs.Ytajnmblpbdnjjaa.Pure
open Go.RowKit Go.Proofs.Ytajnmblpbdnjjaa.PFnExactRetireTag Go.Proofs.YtajnmblpbdnjjaaW.PrintWords Go.Proofs.YtajnmblpbdnjjaaW.PrintLast Go.Proofs.Ytajnmblpbdnjjaa.Gb Go.Proofs.Ytajnmblpbdnjjaa.Gr Go.Proofs.Ytajnmblpbdnjjaa
set_option linter.unusedSimpArgs false
set_option linter.unusedVariables false
namespace FnExactRetireTagAid

/-! ### T_Entry -/
abbrev En := S49
abbrev LEn := S54
abbrev zEn : En := z49
abbrev zLEn : LEn := z54
theorem rd_En (l : List En) (i : Nat) : rd_T49 l (i : Int) = nt zEn l i := by simp [rd_T49, nt]
theorem rd_LEn (l : List LEn) (i : Nat) : rd_T54 l (i : Int) = nt zLEn l i := by simp [rd_T54, nt]
def convEn (x : LEn) : En := ⟨x.f0, x.f1, x.f2⟩

/-! ### laws_szEntryS -/
/-- The size law: beyond the bound the law answers true; within it, the length is small. -/
theorem laws_szEntryS_eq {l : List LEn} {a : Int} (h0 : 0 ≤ a) (h1 : a ≤ 1048576) (hl : l.length ≤ 9223372036854775807) : laws_szEntryS.f l a = some (if a < l.length then -1 else a - l.length) := by
  unfold laws_szEntryS.f
  rw [wrap_id (by omega) (by omega)]
  by_cases h : a < (l.length : Int)
  · rw [if_pos (by omega), if_pos h]
  · rw [if_neg (by omega), if_neg h]

/-! ### laws_toEntryS -/
theorem laws_toEntryS_eq {l : List LEn} {k : Nat} (hl : l.length ≤ 1048576) (hk : l.length < k) : laws_toEntryS.f k l = some (l.map convEn) := by
  unfold laws_toEntryS.f
  rw [if_pos (by omega), toNat_cast, if_pos (by omega)]
  have h := map_loop (g := fun k acc i => laws_toEntryS.l0 k l acc (i : Int)) (l := l) (z := zLEn) (zb := zEn) (f := convEn) (B := 0) (fun k acc ha => by
      simp only [laws_toEntryS.l0]; rw [if_neg (by omega)])
    (fun k i acc hi _ ha => by
      simp only [laws_toEntryS.l0]
      rw [if_pos (by omega), if_pos (by omega), rd_LEn]
      simp only [laws_toEntry.f, Option.bind_some]
      rw [if_pos (by omega), wrap_up (n := l.length) hi (by omega), toNat_cast]; rfl) l.length k 0 (by omega) (by omega)
  simpa using h

/-! ### laws_eqEntryS -/
theorem laws_eqEntryS_self {l : List En} {k : Nat} (hl : l.length ≤ 9223372036854775807) (hk : l.length < k) : laws_eqEntryS.f k l l = some true := by
  unfold laws_eqEntryS.f
  rw [if_pos rfl]
  exact pass_loop (g := fun k i => laws_eqEntryS.l0 k l l (i : Int)) (n := l.length) (B := 0) (fun k => by
      simp only [laws_eqEntryS.l0]; rw [if_neg (by omega)])
    (fun k i hi _ => by
      simp only [laws_eqEntryS.l0]
      rw [if_pos (by omega), if_pos (by omega), if_pos (by omega), wrap_up (n := l.length) hi hl]
      simp only [laws_eqEntry.f, if_true, bne_self_eq_false, Bool.false_eq_true, if_false, Option.bind_some]) l.length k 0 (by omega) (by omega)

/-! ### laws_markEntryS -/
def markEn (a : Int) : Nat → List En
  | 0 => []
  | n + 1 => (⟨a, a + 1, Int.tmod (a + 2) 3 == 0⟩ : En) :: markEn (a + 3) n
theorem markEn_length (a : Int) (n : Nat) : (markEn a n).length = n := by
  induction n generalizing a with
  | zero => rfl
  | succ n ih => simp [markEn, ih]
theorem markEn_snoc (a : Int) (n : Nat) : markEn a (n + 1) = markEn a n ++ [(⟨a + 3 * n, a + 3 * n + 1, Int.tmod (a + 3 * n + 2) 3 == 0⟩ : En)] := by
  induction n generalizing a with
  | zero => simp [markEn]
  | succ n ih => rw [markEn, ih (a + 3)]; simp only [markEn, List.cons_append, show a + 3 + 3 * (n : Int) = a + 3 * ((n + 1 : Nat) : Int) by omega]
theorem nt_markEn (a : Int) : ∀ (n i : Nat), i < n → nt zEn (markEn a n) i = (⟨a + 3 * i, a + 3 * i + 1, Int.tmod (a + 3 * i + 2) 3 == 0⟩ : En) := by
  intro n
  induction n generalizing a with
  | zero => intro i h; omega
  | succ n ih =>
    intro i h
    cases i with
    | zero => simp [markEn, nt_cons_zero]
    | succ i => rw [markEn, nt_cons_succ, ih (a + 3) i (by omega)]; simp only [show a + 3 + 3 * (i : Int) = a + 3 * ((i + 1 : Nat) : Int) by omega]
theorem laws_markEntryS_l0 (l : List En) (hl : l.length ≤ 1048576) (a : Int) (h0 : 0 ≤ a) (h1 : a ≤ 4611686018427387903) : ∀ (d k i : Nat), i + d = l.length → d < k → laws_markEntryS.l0 k (markEn a i ++ l.drop i) (a + 3 * i) (i : Int) = some (a + 3 * l.length, markEn a l.length) := by
  intro d
  induction d with
  | zero =>
    intro k i h hk
    obtain ⟨k, rfl⟩ := succ_of hk
    obtain rfl : i = l.length := by omega
    simp only [laws_markEntryS.l0]; rw [drop_end, List.append_nil, markEn_length, if_neg (by omega)]
  | succ d ih =>
    intro k i h hk
    obtain ⟨k, rfl⟩ := succ_of hk
    have hm := markEn_length a i
    simp only [laws_markEntryS.l0, Option.bind_some]
    rw [if_pos (by rw [List.length_append, List.length_drop, hm]; omega), if_pos (by omega), wrap_up (n := l.length) (by omega) (by omega)]
    simp only [toNat_cast, set_mark _ _ _ _ hm (show i < l.length by omega), set_mid _ _ _ _ _ hm, rd_En, nt_mid _ _ _ _ _ hm]
    rw [wrap_id (x := a + 3 * (i : Int) + 1) (by omega) (by omega), wrap_id (x := a + 3 * (i : Int) + 1 + 1) (by omega) (by omega), wrap_id (x := a + 3 * (i : Int) + 1 + 1 + 1) (by omega) (by omega)]
    have e := ih k (i + 1) (by omega) (by omega)
    rw [markEn_snoc] at e
    rw [show a + 3 * (i : Int) + 1 + 1 = a + 3 * i + 2 by omega, show a + 3 * (i : Int) + 2 + 1 = a + 3 * ((i + 1 : Nat) : Int) by omega]
    exact e
theorem laws_markEntryS_eq {l : List En} {a : Int} {k : Nat} (hl : l.length ≤ 1048576) (h0 : 0 ≤ a) (h1 : a ≤ 4611686018427387903) (hk : l.length < k) : laws_markEntryS.f k l a = some (a + 3 * l.length, markEn a l.length) := by
  unfold laws_markEntryS.f
  have h := laws_markEntryS_l0 l hl a h0 h1 l.length k 0 (by omega) hk
  simpa [markEn] using h

/-! ### laws_heldEntryS -/
theorem laws_heldEntryS_l0 (n : Nat) (hn : n ≤ 1048576) (a : Int) (h0 : 0 ≤ a) (h1 : a ≤ 4611686018427387903) : ∀ (d k i : Nat), i + d = n → d < k → laws_heldEntryS.l0 k (markEn a n) (a + 3 * i) (i : Int) = some (a + 3 * n) := by
  intro d
  induction d with
  | zero =>
    intro k i h hk
    obtain ⟨k, rfl⟩ := succ_of hk
    obtain rfl : i = n := by omega
    simp only [laws_heldEntryS.l0]; rw [markEn_length, if_neg (by omega)]
  | succ d ih =>
    intro k i h hk
    obtain ⟨k, rfl⟩ := succ_of hk
    simp only [laws_heldEntryS.l0]
    rw [markEn_length, if_pos (by omega), if_pos (by omega), rd_En, nt_markEn a n i (by omega), if_pos rfl, wrap_up (n := n) (by omega) (by omega),
      wrap_id (x := a + 3 * (i : Int) + 1) (by omega) (by omega), if_pos rfl, wrap_id (x := a + 3 * (i : Int) + 1 + 1) (by omega) (by omega), wrap_id (x := a + 3 * (i : Int) + 1 + 1 + 1) (by omega) (by omega),
      show a + 3 * (i : Int) + 1 + 1 = a + 3 * i + 2 by omega, show a + 3 * (i : Int) + 2 + 1 = a + 3 * ((i + 1 : Nat) : Int) by omega, if_neg (by simp)]
    exact ih k (i + 1) (by omega) (by omega)
theorem laws_heldEntryS_eq {n : Nat} {a : Int} {k : Nat} (hn : n ≤ 1048576) (h0 : 0 ≤ a) (h1 : a ≤ 4611686018427387903) (hk : n < k) : laws_heldEntryS.f k (markEn a n) a = some (a + 3 * n) := by
  unfold laws_heldEntryS.f
  have h := laws_heldEntryS_l0 n hn a h0 h1 n k 0 (by omega) hk
  simpa using h

/-! ### spec_l1In -/
theorem spec_l1In_eq (a b c : Int) : spec_l1In.f a b c = some (decide (b ≤ a ∧ a ≤ c)) := by
  unfold spec_l1In.f
  by_cases h : a ≥ b
  · rw [if_pos h]; simp [show b ≤ a from h]
  · rw [if_neg h, decide_eq_false (by omega)]

/-! ### spec_IsReserved -/
theorem spec_IsReserved_eq (a : Int) : spec_IsReserved.f a = some (isReserved a) := by
  unfold spec_IsReserved.f isReserved
  rw [spec_l1In_eq, Option.bind_some]
  by_cases h : (0 : Int) ≤ a ∧ a ≤ 255 <;> simp [h]

/-! ### spec_IsRegistry -/
def regOk (l : List En) (i : Nat) : Bool := decide (0 ≤ (nt zEn l i).f0 ∧ (nt zEn l i).f0 ≤ 255) && !isReserved (nt zEn l i).f0 && decide (0 ≤ (nt zEn l i).f1 ∧ (nt zEn l i).f1 ≤ 9) && (i == 0 || decide ((nt zEn l (i - 1)).f0 < (nt zEn l i).f0))
def isRegistry (l : List En) : Bool := allFrom (regOk l) 0 l.length && decide (l.length ≤ 12)
theorem spec_IsRegistry_eq {l : List En} {k : Nat} (hl : l.length ≤ 9223372036854775807) (hk : l.length < k) : spec_IsRegistry.f k l = some (isRegistry l) := by
  unfold spec_IsRegistry.f
  have h := all_loop (g := fun k i => spec_IsRegistry.l0 k l (i : Int)) (n := l.length) (B := 0) (ok := regOk l) (fin := decide (l.length ≤ 12)) (fun k => by
      simp only [spec_IsRegistry.l0]; rw [if_neg (by omega)]; congr 1; rw [decide_eq_decide]; omega)
    (fun k i hi _ => by
      simp only [spec_IsRegistry.l0]
      rw [if_pos (by omega), if_pos (by omega), rd_En, spec_l1In_eq, spec_l1In_eq, spec_IsReserved_eq, wrap_up (n := l.length) hi hl]
      simp only [Option.bind_some]
      unfold regOk
      by_cases h1 : 0 ≤ (nt zEn l i).f0 ∧ (nt zEn l i).f0 ≤ 255
      · rw [decide_eq_true h1, if_pos rfl]
        cases isReserved (nt zEn l i).f0 with
        | true => simp
        | false =>
          rw [if_neg (by simp)]
          by_cases h2 : 0 ≤ (nt zEn l i).f1 ∧ (nt zEn l i).f1 ≤ 9
          · rw [decide_eq_true h2, if_pos rfl]
            by_cases h0 : 0 < i
            · rw [if_pos (by omega), wrap_dn h0 (by omega), if_pos (by omega), if_pos (by omega), rd_En]
              by_cases h3 : (nt zEn l (i - 1)).f0 < (nt zEn l i).f0
              · rw [if_neg (by omega), if_pos (by simp [h3])]
              · rw [if_pos (by omega), if_neg (by simp [h3]; omega)]
            · rw [if_neg (by omega), if_pos (by simp; omega)]
          · rw [decide_eq_false h2, if_neg (by simp), if_neg (by simp)]
      · rw [decide_eq_false h1, if_neg (by simp), if_neg (by simp)]) l.length k 0 (by omega) (by omega)
  exact h

/-! ### spec_RetireTag -/
theorem reg_at {l : List En} (h : isRegistry l = true) (i : Nat) (hi : i < l.length) : 0 ≤ (nt zEn l i).f0 ∧ (nt zEn l i).f0 ≤ 255 ∧ isReserved (nt zEn l i).f0 = false ∧ 0 ≤ (nt zEn l i).f1 ∧ (nt zEn l i).f1 ≤ 9 ∧ (i = 0 ∨ (nt zEn l (i - 1)).f0 < (nt zEn l i).f0) := by
  unfold isRegistry at h
  rw [Bool.and_eq_true, allFrom_iff] at h
  have := h.1 i (by omega) (by omega)
  unfold regOk at this
  simp at this
  obtain ⟨⟨⟨h1, h2⟩, h3⟩, h4⟩ := this
  exact ⟨h1.1, h1.2, h2, h3.1, h3.2, h4⟩
theorem reg_len {l : List En} (h : isRegistry l = true) : l.length ≤ 12 := by
  unfold isRegistry at h
  rw [Bool.and_eq_true, decide_eq_true_eq] at h
  exact h.2
theorem reg_asc {l : List En} (h : isRegistry l = true) : ∀ (d i : Nat), i + d + 1 < l.length → (nt zEn l i).f0 < (nt zEn l (i + d + 1)).f0 := by
  intro d
  induction d with
  | zero =>
    intro i hi
    rcases (reg_at h (i + 1) hi).2.2.2.2.2 with h0 | h0
    · omega
    · exact h0
  | succ d ih =>
    intro i hi
    have h1 := ih i (by omega)
    rcases (reg_at h (i + (d + 1) + 1) hi).2.2.2.2.2 with h0 | h0
    · omega
    · rw [show i + (d + 1) + 1 - 1 = i + d + 1 by omega] at h0
      omega
theorem reg_lt {l : List En} (h : isRegistry l = true) {i j : Nat} (hij : i < j) (hj : j < l.length) : (nt zEn l i).f0 < (nt zEn l j).f0 := by
  obtain ⟨d, rfl⟩ : ∃ d, j = i + d + 1 := ⟨j - i - 1, by omega⟩
  exact reg_asc h d i hj
def retired (x : En) : En := ⟨x.f0, x.f1, true⟩
def retireTag (l : List En) (t : Int) : List En × Bool :=
  if isRegistry l = true then (l.findIdx? fun x => x.f0 == t).elim (l, false) fun j => if (nt zEn l j).f2 = true then (l, false) else (l.set j (retired (nt zEn l j)), true)
  else (l, false)
theorem retireTag_length (l : List En) (t : Int) : (retireTag l t).1.length = l.length := by
  unfold retireTag
  split
  · cases l.findIdx? (fun x => x.f0 == t) with
    | none => rfl
    | some j => show (if _ then _ else _ : List En × Bool).1.length = _; split <;> simp
  · rfl
theorem spec_RetireTag_rest {l : List En} {t : Int} (hr : isRegistry l = true) : ∀ (d k i : Nat), i + d = l.length → 2 * d + l.length + 3 < k → (∀ j, i ≤ j → j < l.length → (nt zEn l j).f0 ≠ t) → spec_RetireTag.l0 k l t l (i : Int) = some (l, false) := by
  have hl := reg_len hr
  intro d
  induction d with
  | zero =>
    intro k i h hk _
    obtain ⟨k, rfl⟩ : ∃ m, k = m + 1 + 1 := ⟨k - 2, by omega⟩
    simp only [spec_RetireTag.l0]
    rw [if_neg (by omega)]
    simp only [spec_RetireTag.j1]
    rw [if_neg (by simp)]
  | succ d ih =>
    intro k i h hk hn
    obtain ⟨k, rfl⟩ : ∃ m, k = m + 1 + 1 := ⟨k - 2, by omega⟩
    simp only [spec_RetireTag.l0]
    rw [if_pos (by omega), spec_IsRegistry_eq (by omega) (by omega), Option.bind_some, hr]
    simp only [spec_RetireTag.j1, if_true]
    rw [if_pos (by omega), if_pos (by omega), rd_En, if_neg (hn i (by omega) (by omega)), wrap_up (n := l.length) (by omega) (by omega)]
    exact ih k (i + 1) (by omega) (by omega) (fun j hj => hn j (by omega))
theorem spec_RetireTag_find {l : List En} {t : Int} (hr : isRegistry l = true) : ∀ (d k i : Nat), i + d = l.length → 2 * d + l.length + 5 < k → spec_RetireTag.l0 k l t l (i : Int) = some (((l.drop i).findIdx? fun x => x.f0 == t).elim (l, false) fun j => if (nt zEn l (i + j)).f2 = true then (l, false) else (l.set (i + j) (retired (nt zEn l (i + j))), true)) := by
  have hl := reg_len hr
  intro d
  induction d with
  | zero =>
    intro k i h hk
    obtain ⟨k, rfl⟩ : ∃ m, k = m + 1 + 1 := ⟨k - 2, by omega⟩
    obtain rfl : i = l.length := by omega
    simp only [spec_RetireTag.l0]
    rw [if_neg (by omega), drop_end]
    simp only [spec_RetireTag.j1]
    rw [if_neg (by simp)]; rfl
  | succ d ih =>
    intro k i h hk
    obtain ⟨k, rfl⟩ : ∃ m, k = m + 1 + 1 := ⟨k - 2, by omega⟩
    simp only [spec_RetireTag.l0]
    rw [if_pos (by omega), spec_IsRegistry_eq (by omega) (by omega), Option.bind_some, hr, drop_step l zEn i (by omega), List.findIdx?_cons]
    simp only [spec_RetireTag.j1, if_true]
    rw [if_pos (by omega), if_pos (by omega), rd_En, wrap_up (n := l.length) (by omega) (by omega)]
    by_cases e : (nt zEn l i).f0 = t
    · have e' : ((nt zEn l i).f0 == t) = true := by simp [e]
      rw [if_pos e, if_pos e']
      have hrest : spec_RetireTag.l0 k l t l ((i + 1 : Nat) : Int) = some (l, false) := spec_RetireTag_rest hr d k (i + 1) (by omega) (by omega) (fun j hj hlt => by have := reg_lt hr (i := i) (j := j) (by omega) hlt; omega)
      simp only [Option.elim, Nat.add_zero, toNat_cast]
      cases hq : (nt zEn l i).f2 with
      | true => rw [if_pos rfl, hrest]; rfl
      | false => rw [if_neg (by simp), if_pos (by omega)]; rfl
    · have e' : ¬ ((nt zEn l i).f0 == t) = true := by simp [e]
      rw [if_neg e, if_neg e', ih k (i + 1) (by omega) (by omega)]
      cases (l.drop (i + 1)).findIdx? (fun x => x.f0 == t) with
      | none => rfl
      | some j => simp only [Option.map, Option.elim, show i + 1 + j = i + (j + 1) by omega]
theorem spec_RetireTag_eq {l : List En} {t : Int} {k : Nat} (hl : l.length ≤ 1048576) (hk : 3 * l.length + 6 < k) : spec_RetireTag.f k l t = some (retireTag l t) := by
  unfold spec_RetireTag.f
  rw [Option.bind_some, if_pos (by rw [List.length_nil]; omega), List.nil_append]
  cases hr : isRegistry l with
  | true =>
    have h := spec_RetireTag_find (t := t) hr l.length k 0 (by omega) (by omega)
    simpa [retireTag, hr] using h
  | false =>
    obtain ⟨k, rfl⟩ : ∃ m, k = m + 1 + 1 := ⟨k - 2, by omega⟩
    have hj : spec_RetireTag.j1 (k + 1) l t l 0 false = some (l, false) := by simp only [spec_RetireTag.j1]; rw [if_neg (by simp)]
    simp only [spec_RetireTag.l0]
    by_cases h0 : (0 : Int) < (l.length : Int)
    · rw [if_pos h0, spec_IsRegistry_eq (by omega) (by omega), Option.bind_some, hr, hj]; simp [retireTag, hr]
    · rw [if_neg h0, hj]; simp [retireTag, hr]

/-! ### impl_InRange -/
theorem impl_InRange_eq (a b c : Int) : impl_InRange.f a b c = some (decide (b ≤ a ∧ a ≤ c)) := by
  unfold impl_InRange.f
  by_cases h : b ≤ a
  · rw [if_pos h]; simp [h]
  · rw [if_neg h, decide_eq_false (by omega)]

/-! ### impl_IsReserved -/
theorem impl_IsReserved_eq (a : Int) : impl_IsReserved.f a = some (isReserved a) := by
  unfold impl_IsReserved.f isReserved
  rw [impl_InRange_eq, Option.bind_some]
  by_cases h : (0 : Int) ≤ a ∧ a ≤ 255 <;> simp [h]

/-! ### impl_IsRegistry -/
theorem impl_IsRegistry_eq {l : List En} {k : Nat} (hl : l.length ≤ 9223372036854775807) (hk : l.length < k) : impl_IsRegistry.f k l = some (isRegistry l) := by
  unfold impl_IsRegistry.f
  have h := all_loop (g := fun k i => impl_IsRegistry.l0 k l l (l.length : Int) (i : Int)) (n := l.length) (B := 0) (ok := regOk l) (fin := decide (l.length ≤ 12)) (fun k => by
      simp only [impl_IsRegistry.l0]; rw [if_neg (by omega)]; congr 1; rw [decide_eq_decide]; omega)
    (fun k i hi _ => by
      simp only [impl_IsRegistry.l0]
      rw [if_pos (by omega), if_pos (by omega), if_pos (by omega), rd_En, impl_InRange_eq, impl_InRange_eq, impl_IsReserved_eq, wrap_up (n := l.length) hi hl]
      simp only [Option.bind_some]
      unfold regOk
      by_cases h1 : 0 ≤ (nt zEn l i).f0 ∧ (nt zEn l i).f0 ≤ 255
      · rw [decide_eq_true h1, if_pos rfl]
        cases isReserved (nt zEn l i).f0 with
        | true => simp
        | false =>
          rw [if_neg (by simp)]
          by_cases h0 : 0 < i
          · rw [if_pos (by omega), wrap_dn h0 (by omega), if_pos (by omega), if_pos (by omega), rd_En]
            by_cases h3 : (nt zEn l (i - 1)).f0 < (nt zEn l i).f0
            · rw [if_neg (by omega)]; simp [h3]
            · rw [if_pos (by omega), if_neg (by simp [h3]; omega)]
          · rw [if_neg (by omega)]
            have e0 : i = 0 := by omega
            simp [e0]
      · rw [decide_eq_false h1, if_neg (by simp), if_neg (by simp)]) l.length k 0 (by omega) (by omega)
  exact h

/-! ### impl_RetireTag -/
theorem impl_RetireTag_eq {l : List En} {t : Int} {k : Nat} (hl : l.length ≤ 1048576) (hk : l.length < k) : impl_RetireTag.f k l t = some (retireTag l t) := by
  unfold impl_RetireTag.f impl_entryOf.f Hw.idxOf
  rw [Option.bind_some, if_pos (by rw [List.length_nil]; omega), List.nil_append, Option.bind_some, Option.bind_some, impl_IsRegistry_eq (by omega) hk, Option.bind_some]
  obtain ⟨q, hq⟩ : ∃ q : Int, q = (l.findIdx? fun x => x.f0 == t).elim (-1) fun j => (j : Int) := ⟨_, rfl⟩
  rw [← hq]
  unfold retireTag
  cases isRegistry l with
  | false => simp
  | true =>
    rw [if_pos rfl, if_pos rfl]
    cases e : l.findIdx? (fun x => x.f0 == t) with
    | none => rw [e] at hq; rw [hq]; simp
    | some j =>
      obtain ⟨h1, _, _⟩ := List.findIdx?_eq_some_iff_getElem.1 e
      rw [e] at hq
      have hq' : q = (j : Int) := hq
      rw [hq', if_neg (by omega), if_pos (by omega), if_pos (by omega), rd_En, toNat_cast]
      simp only [Option.elim]
      cases hf : (nt zEn l j).f2 with
      | true => rw [if_pos rfl, if_pos rfl]
      | false => rw [if_neg (by simp), if_pos (by omega)]; rfl

end FnExactRetireTagAid
open FnExactRetireTagAid

theorem FnExactRetireTag : laws_FnExactRetireTag.Pure := by
  intro l t hl hw _
  obtain ⟨k, hk⟩ : ∃ k, k = 3 * l.length + 10 := ⟨_, rfl⟩
  refine ⟨k + 5, ?_⟩
  unfold laws_FnExactRetireTag.f
  rw [laws_szEntryS_eq (by omega) (by omega) hl, Option.bind_some]
  by_cases hb : (1048576 : Int) < l.length
  · rw [if_pos hb, if_pos (by omega)]
  · rw [if_neg hb, if_neg (by omega)]
    have hm : (l.map convEn).length = l.length := List.length_map ..
    obtain ⟨c, q⟩ : ∃ c, c = retireTag (l.map convEn) t := ⟨_, rfl⟩
    have hc : c.1.length = l.length := by rw [q, retireTag_length, hm]
    have f1 : ∀ j, k ≤ j → laws_toEntryS.f j l = some (l.map convEn) := fun j h => laws_toEntryS_eq (by omega) (by omega)
    have f2 : ∀ j, k ≤ j → spec_RetireTag.f j (l.map convEn) t = some c := fun j h => by rw [spec_RetireTag_eq (by omega) (by omega), q]
    have f3 : ∀ j, k ≤ j → impl_RetireTag.f j (l.map convEn) t = some c := fun j h => by rw [impl_RetireTag_eq (by omega) (by omega), q]
    have f4 : ∀ j, k ≤ j → laws_eqEntryS.f j (l.map convEn) (l.map convEn) = some true := fun j h => laws_eqEntryS_self (by omega) (by omega)
    have f5 : ∀ j, k ≤ j → laws_eqEntryS.f j c.1 c.1 = some true := fun j h => laws_eqEntryS_self (by omega) (by omega)
    have f6 : ∀ j, k ≤ j → laws_markEntryS.f j (l.map convEn) 1 = some (1 + 3 * (l.length : Int), markEn 1 l.length) := fun j h => by rw [laws_markEntryS_eq (by omega) (by omega) (by omega) (by omega), hm]
    have f7 : ∀ j, k ≤ j → laws_markEntryS.f j c.1 1 = some (1 + 3 * (l.length : Int), markEn 1 l.length) := fun j h => by rw [laws_markEntryS_eq (by omega) (by omega) (by omega) (by omega), hc]
    have f8 : ∀ j, k ≤ j → laws_heldEntryS.f j (markEn 1 l.length) 1 = some (1 + 3 * (l.length : Int)) := fun j h => laws_heldEntryS_eq (by omega) (by omega) (by omega) (by omega)
    have p1 : ¬ (1 + 3 * (l.length : Int) < 0) := by omega
    simp only [laws_FnExactRetireTag.j0, laws_FnExactRetireTag.j1, laws_FnExactRetireTag.j2, f1, f2, f3, f4, f5, f6, f7, f8, p1, Option.bind_some, Bool.false_eq_true, if_true, if_false, ↓reduceIte, bne_self_eq_false, Bool.not_true, Bool.not_false, Nat.le_add_right, Nat.le_refl]

end Go.Proofs.Ytajnmblpbdnjjaa.Pure
