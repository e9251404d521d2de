/- AssignTag of the program and of the reference agree on every list of entries and every vendor, as a statement over lists alone; the bounds are those of memory. -/
import Derived.Test.YtgbfbdeeaogigaaPFnExactAssignTagx6
import Derived.Test.YtgbfbdeeaogigaaGb
import Derived.Test.YtgbfbdeeaogigaaGr
namespace Go.Proofs.Ytgbfbdeeaogigaa.Pure
open Go.RowKit Go.Proofs.Ytgbfbdeeaogigaa.PFnExactAssignTag Go.Proofs.YtgbfbdeeaogigaaW.PrintWords Go.Proofs.YtgbfbdeeaogigaaW.PrintLast Go.Proofs.Ytgbfbdeeaogigaa.Gb Go.Proofs.Ytgbfbdeeaogigaa.Gr Go.Proofs.Ytgbfbdeeaogigaa
set_option linter.unusedSimpArgs false
set_option linter.unusedVariables false
namespace FnExactAssignTagAid

/-! ### T_Entry -/
abbrev En := S43
abbrev LEn := S49
abbrev zEn : En := z43
abbrev zLEn : LEn := z49
theorem rd_En (l : List En) (i : Nat) : rd_T43 l (i : Int) = nt zEn l i := by simp [rd_T43, nt]
theorem rd_LEn (l : List LEn) (i : Nat) : rd_T49 l (i : Int) = nt zLEn l i := by simp [rd_T49, nt]
def convEn (x : LEn) : En := ⟨x.f0, x.f1, x.f2⟩

/-! ### laws_szEntryS -/
/-- The size law: beyond the bound the law answers true; within it, the length is small. -/
theorem laws_szEntryS_eq {l : List LEn} {a : Int} (h0 : 0 ≤ a) (h1 : a ≤ 1048576) (hl : l.length ≤ 9223372036854775807) : laws_szEntryS.f l a = some (if a < l.length then -1 else a - l.length) := by
  unfold laws_szEntryS.f
  rw [wrap_id (by omega) (by omega)]
  by_cases h : a < (l.length : Int)
  · rw [if_pos (by omega), if_pos h]
  · rw [if_neg (by omega), if_neg h]

/-! ### laws_toEntryS -/
theorem laws_toEntryS_eq {l : List LEn} {k : Nat} (hl : l.length ≤ 1048576) (hk : l.length < k) : laws_toEntryS.f k l = some (l.map convEn) := by
  unfold laws_toEntryS.f
  rw [if_pos (by omega), toNat_cast, if_pos (by omega)]
  have h := map_loop (g := fun k acc i => laws_toEntryS.l0 k l acc (i : Int)) (l := l) (z := zLEn) (zb := zEn) (f := convEn) (B := 0) (fun k acc ha => by
      simp only [laws_toEntryS.l0]; rw [if_neg (by omega)])
    (fun k i acc hi _ ha => by
      simp only [laws_toEntryS.l0]
      rw [if_pos (by omega), if_pos (by omega), rd_LEn]
      simp only [laws_toEntry.f, Option.bind_some]
      rw [if_pos (by omega), wrap_up (n := l.length) hi (by omega), toNat_cast]; rfl) l.length k 0 (by omega) (by omega)
  simpa using h

/-! ### laws_eqEntryS -/
theorem laws_eqEntryS_self {l : List En} {k : Nat} (hl : l.length ≤ 9223372036854775807) (hk : l.length < k) : laws_eqEntryS.f k l l = some true := by
  unfold laws_eqEntryS.f
  rw [if_pos rfl]
  exact pass_loop (g := fun k i => laws_eqEntryS.l0 k l l (i : Int)) (n := l.length) (B := 0) (fun k => by
      simp only [laws_eqEntryS.l0]; rw [if_neg (by omega)])
    (fun k i hi _ => by
      simp only [laws_eqEntryS.l0]
      rw [if_pos (by omega), if_pos (by omega), if_pos (by omega), wrap_up (n := l.length) hi hl]
      simp only [laws_eqEntry.f, if_true, bne_self_eq_false, Bool.false_eq_true, if_false, Option.bind_some]) l.length k 0 (by omega) (by omega)

/-! ### laws_markEntryS -/
def markEn (a : Int) : Nat → List En
  | 0 => []
  | n + 1 => (⟨a, a + 1, Int.tmod (a + 2) 3 == 0⟩ : En) :: markEn (a + 3) n
theorem markEn_length (a : Int) (n : Nat) : (markEn a n).length = n := by
  induction n generalizing a with
  | zero => rfl
  | succ n ih => simp [markEn, ih]
theorem markEn_snoc (a : Int) (n : Nat) : markEn a (n + 1) = markEn a n ++ [(⟨a + 3 * n, a + 3 * n + 1, Int.tmod (a + 3 * n + 2) 3 == 0⟩ : En)] := by
  induction n generalizing a with
  | zero => simp [markEn]
  | succ n ih => rw [markEn, ih (a + 3)]; simp only [markEn, List.cons_append, show a + 3 + 3 * (n : Int) = a + 3 * ((n + 1 : Nat) : Int) by omega]
theorem nt_markEn (a : Int) : ∀ (n i : Nat), i < n → nt zEn (markEn a n) i = (⟨a + 3 * i, a + 3 * i + 1, Int.tmod (a + 3 * i + 2) 3 == 0⟩ : En) := by
  intro n
  induction n generalizing a with
  | zero => intro i h; omega
  | succ n ih =>
    intro i h
    cases i with
    | zero => simp [markEn, nt_cons_zero]
    | succ i => rw [markEn, nt_cons_succ, ih (a + 3) i (by omega)]; simp only [show a + 3 + 3 * (i : Int) = a + 3 * ((i + 1 : Nat) : Int) by omega]
theorem laws_markEntryS_l0 (l : List En) (hl : l.length ≤ 1048576) (a : Int) (h0 : 0 ≤ a) (h1 : a ≤ 4611686018427387903) : ∀ (d k i : Nat), i + d = l.length → d < k → laws_markEntryS.l0 k (markEn a i ++ l.drop i) (a + 3 * i) (i : Int) = some (a + 3 * l.length, markEn a l.length) := by
  intro d
  induction d with
  | zero =>
    intro k i h hk
    obtain ⟨k, rfl⟩ := succ_of hk
    obtain rfl : i = l.length := by omega
    simp only [laws_markEntryS.l0]; rw [drop_end, List.append_nil, markEn_length, if_neg (by omega)]
  | succ d ih =>
    intro k i h hk
    obtain ⟨k, rfl⟩ := succ_of hk
    have hm := markEn_length a i
    simp only [laws_markEntryS.l0, Option.bind_some]
    rw [if_pos (by rw [List.length_append, List.length_drop, hm]; omega), if_pos (by omega), wrap_up (n := l.length) (by omega) (by omega)]
    simp only [toNat_cast, set_mark _ _ _ _ hm (show i < l.length by omega), set_mid _ _ _ _ _ hm, rd_En, nt_mid _ _ _ _ _ hm]
    rw [wrap_id (x := a + 3 * (i : Int) + 1) (by omega) (by omega), wrap_id (x := a + 3 * (i : Int) + 1 + 1) (by omega) (by omega), wrap_id (x := a + 3 * (i : Int) + 1 + 1 + 1) (by omega) (by omega)]
    have e := ih k (i + 1) (by omega) (by omega)
    rw [markEn_snoc] at e
    rw [show a + 3 * (i : Int) + 1 + 1 = a + 3 * i + 2 by omega, show a + 3 * (i : Int) + 2 + 1 = a + 3 * ((i + 1 : Nat) : Int) by omega]
    exact e
theorem laws_markEntryS_eq {l : List En} {a : Int} {k : Nat} (hl : l.length ≤ 1048576) (h0 : 0 ≤ a) (h1 : a ≤ 4611686018427387903) (hk : l.length < k) : laws_markEntryS.f k l a = some (a + 3 * l.length, markEn a l.length) := by
  unfold laws_markEntryS.f
  have h := laws_markEntryS_l0 l hl a h0 h1 l.length k 0 (by omega) hk
  simpa [markEn] using h

/-! ### laws_heldEntryS -/
theorem laws_heldEntryS_l0 (n : Nat) (hn : n ≤ 1048576) (a : Int) (h0 : 0 ≤ a) (h1 : a ≤ 4611686018427387903) : ∀ (d k i : Nat), i + d = n → d < k → laws_heldEntryS.l0 k (markEn a n) (a + 3 * i) (i : Int) = some (a + 3 * n) := by
  intro d
  induction d with
  | zero =>
    intro k i h hk
    obtain ⟨k, rfl⟩ := succ_of hk
    obtain rfl : i = n := by omega
    simp only [laws_heldEntryS.l0]; rw [markEn_length, if_neg (by omega)]
  | succ d ih =>
    intro k i h hk
    obtain ⟨k, rfl⟩ := succ_of hk
    simp only [laws_heldEntryS.l0]
    rw [markEn_length, if_pos (by omega), if_pos (by omega), rd_En, nt_markEn a n i (by omega), if_pos rfl, wrap_up (n := n) (by omega) (by omega),
      wrap_id (x := a + 3 * (i : Int) + 1) (by omega) (by omega), if_pos rfl, wrap_id (x := a + 3 * (i : Int) + 1 + 1) (by omega) (by omega), wrap_id (x := a + 3 * (i : Int) + 1 + 1 + 1) (by omega) (by omega),
      show a + 3 * (i : Int) + 1 + 1 = a + 3 * i + 2 by omega, show a + 3 * (i : Int) + 2 + 1 = a + 3 * ((i + 1 : Nat) : Int) by omega, if_neg (by simp)]
    exact ih k (i + 1) (by omega) (by omega)
theorem laws_heldEntryS_eq {n : Nat} {a : Int} {k : Nat} (hn : n ≤ 1048576) (h0 : 0 ≤ a) (h1 : a ≤ 4611686018427387903) (hk : n < k) : laws_heldEntryS.f k (markEn a n) a = some (a + 3 * n) := by
  unfold laws_heldEntryS.f
  have h := laws_heldEntryS_l0 n hn a h0 h1 n k 0 (by omega) hk
  simpa using h

/-! ### spec_l1In -/
theorem spec_l1In_eq (a b c : Int) : spec_l1In.f a b c = some (decide (b ≤ a ∧ a ≤ c)) := by
  unfold spec_l1In.f
  by_cases h : a ≥ b
  · rw [if_pos h]; simp [show b ≤ a from h]
  · rw [if_neg h, decide_eq_false (by omega)]

/-! ### spec_IsReserved -/
theorem spec_IsReserved_eq (a : Int) : spec_IsReserved.f a = some (isReserved a) := by
  unfold spec_IsReserved.f isReserved
  rw [spec_l1In_eq, Option.bind_some]
  by_cases h : (0 : Int) ≤ a ∧ a ≤ 255 <;> simp [h]

/-! ### spec_IsRegistry -/
def regOk (l : List En) (i : Nat) : Bool := decide (0 ≤ (nt zEn l i).f0 ∧ (nt zEn l i).f0 ≤ 255) && !isReserved (nt zEn l i).f0 && decide (0 ≤ (nt zEn l i).f1 ∧ (nt zEn l i).f1 ≤ 9) && (i == 0 || decide ((nt zEn l (i - 1)).f0 < (nt zEn l i).f0))
def isRegistry (l : List En) : Bool := allFrom (regOk l) 0 l.length && decide (l.length ≤ 12)
theorem spec_IsRegistry_eq {l : List En} {k : Nat} (hl : l.length ≤ 9223372036854775807) (hk : l.length < k) : spec_IsRegistry.f k l = some (isRegistry l) := by
  unfold spec_IsRegistry.f
  have h := all_loop (g := fun k i => spec_IsRegistry.l0 k l (i : Int)) (n := l.length) (B := 0) (ok := regOk l) (fin := decide (l.length ≤ 12)) (fun k => by
      simp only [spec_IsRegistry.l0]; rw [if_neg (by omega)]; congr 1; rw [decide_eq_decide]; omega)
    (fun k i hi _ => by
      simp only [spec_IsRegistry.l0]
      rw [if_pos (by omega), if_pos (by omega), rd_En, spec_l1In_eq, spec_l1In_eq, spec_IsReserved_eq, wrap_up (n := l.length) hi hl]
      simp only [Option.bind_some]
      unfold regOk
      by_cases h1 : 0 ≤ (nt zEn l i).f0 ∧ (nt zEn l i).f0 ≤ 255
      · rw [decide_eq_true h1, if_pos rfl]
        cases isReserved (nt zEn l i).f0 with
        | true => simp
        | false =>
          rw [if_neg (by simp)]
          by_cases h2 : 0 ≤ (nt zEn l i).f1 ∧ (nt zEn l i).f1 ≤ 9
          · rw [decide_eq_true h2, if_pos rfl]
            by_cases h0 : 0 < i
            · rw [if_pos (by omega), wrap_dn h0 (by omega), if_pos (by omega), if_pos (by omega), rd_En]
              by_cases h3 : (nt zEn l (i - 1)).f0 < (nt zEn l i).f0
              · rw [if_neg (by omega), if_pos (by simp [h3])]
              · rw [if_pos (by omega), if_neg (by simp [h3]; omega)]
            · rw [if_neg (by omega), if_pos (by simp; omega)]
          · rw [decide_eq_false h2, if_neg (by simp), if_neg (by simp)]
      · rw [decide_eq_false h1, if_neg (by simp), if_neg (by simp)]) l.length k 0 (by omega) (by omega)
  exact h

/-! ### T_reg -/
theorem reg_at {l : List En} (h : isRegistry l = true) (i : Nat) (hi : i < l.length) : 0 ≤ (nt zEn l i).f0 ∧ (nt zEn l i).f0 ≤ 255 ∧ isReserved (nt zEn l i).f0 = false ∧ 0 ≤ (nt zEn l i).f1 ∧ (nt zEn l i).f1 ≤ 9 ∧ (i = 0 ∨ (nt zEn l (i - 1)).f0 < (nt zEn l i).f0) := by
  unfold isRegistry at h
  rw [Bool.and_eq_true, allFrom_iff] at h
  have := h.1 i (by omega) (by omega)
  unfold regOk at this
  simp at this
  obtain ⟨⟨⟨h1, h2⟩, h3⟩, h4⟩ := this
  exact ⟨h1.1, h1.2, h2, h3.1, h3.2, h4⟩
theorem reg_len {l : List En} (h : isRegistry l = true) : l.length ≤ 12 := by
  unfold isRegistry at h
  rw [Bool.and_eq_true, decide_eq_true_eq] at h
  exact h.2
theorem reg_asc {l : List En} (h : isRegistry l = true) : ∀ (d i : Nat), i + d + 1 < l.length → (nt zEn l i).f0 < (nt zEn l (i + d + 1)).f0 := by
  intro d
  induction d with
  | zero =>
    intro i hi
    rcases (reg_at h (i + 1) hi).2.2.2.2.2 with h0 | h0
    · omega
    · exact h0
  | succ d ih =>
    intro i hi
    have h1 := ih i (by omega)
    rcases (reg_at h (i + (d + 1) + 1) hi).2.2.2.2.2 with h0 | h0
    · omega
    · rw [show i + (d + 1) + 1 - 1 = i + d + 1 by omega] at h0
      omega
theorem reg_lt {l : List En} (h : isRegistry l = true) {i j : Nat} (hij : i < j) (hj : j < l.length) : (nt zEn l i).f0 < (nt zEn l j).f0 := by
  obtain ⟨d, rfl⟩ : ∃ d, j = i + d + 1 := ⟨j - i - 1, by omega⟩
  exact reg_asc h d i hj

/-! ### spec_OwnerOf -/
def ownerOf (l : List En) (t : Int) : Int := (l.findIdx? fun x => x.f0 == t).elim (-1) fun j => (nt zEn l j).f1
theorem spec_OwnerOf_eq {l : List En} {t : Int} {k : Nat} (hl : l.length ≤ 9223372036854775807) (hk : l.length < k) : spec_OwnerOf.f k l t = some (ownerOf l t) := by
  unfold spec_OwnerOf.f
  have h := find_loop (g := fun k i => spec_OwnerOf.l0 k l t (i : Int)) (l := l) (z := zEn) (B := 0) (p := fun x => x.f0 == t) (hit := fun j => (nt zEn l j).f1) (miss := (-1 : Int)) (fun k => by
      simp only [spec_OwnerOf.l0]; rw [if_neg (by omega)])
    (fun k i hi _ => by
      simp only [spec_OwnerOf.l0]
      rw [if_pos (by omega), if_pos (by omega), wrap_up (n := l.length) hi hl, rd_En]
      by_cases e : (nt zEn l i).f0 = t
      · rw [if_pos e, if_pos (by simp [e])]
      · rw [if_neg e, if_neg (by simp [e])]) l.length k 0 (by omega) (by omega)
  simpa [ownerOf] using h

/-! ### T_assign -/
/-- A new tag cannot be t. -/
def badTag (l : List En) (t : Int) : Bool := isReserved t || l.any fun x => x.f0 == t
def freeTag (l : List En) : Nat → Nat → Nat
  | 0, t => t
  | n + 1, t => if badTag l (t : Int) = true then freeTag l n (t + 1) else t
theorem free_succ (l : List En) (n t : Nat) : freeTag l (n + 1) t = if badTag l (t : Int) = true then freeTag l n (t + 1) else t := rfl
def insEn (e : En) : List En → List En
  | [] => [e]
  | x :: r => if x.f0 < e.f0 then x :: insEn e r else e :: x :: r
theorem ins_cons (e x : En) (r : List En) : insEn e (x :: r) = if x.f0 < e.f0 then x :: insEn e r else e :: x :: r := rfl
def newEn (l : List En) (v : Int) : En := ⟨(freeTag l 13 0 : Nat), v, false⟩
def assignTag (l : List En) (v : Int) : List En × Int × Bool :=
  if isRegistry l = true ∧ (0 ≤ v ∧ v ≤ 9) ∧ l.length < 12 then (insEn (newEn l v) l, ((freeTag l 13 0 : Nat) : Int), true) else (l, -1, false)
theorem count_step (l : List En) (t : Int) : l.countP (fun x => decide (x.f0 < t)) + l.countP (fun x => x.f0 == t) = l.countP (fun x => decide (x.f0 < t + 1)) := by
  induction l with
  | nil => rfl
  | cons x r ih =>
    simp only [List.countP_cons, decide_eq_true_eq, beq_iff_eq]
    rcases Int.lt_trichotomy x.f0 t with h | h | h
    · rw [if_pos h, if_neg (by omega), if_pos (by omega)]; omega
    · rw [if_neg (by omega), if_pos h, if_pos (by omega)]; omega
    · rw [if_neg (by omega), if_neg (by omega), if_neg (by omega)]; omega
theorem resv_low (t : Nat) (h : t < 13) : isReserved (t : Int) = decide (t = 10) := by
  obtain rfl | rfl | rfl | rfl | rfl | rfl | rfl | rfl | rfl | rfl | rfl | rfl | rfl : t = 0 ∨ t = 1 ∨ t = 2 ∨ t = 3 ∨ t = 4 ∨ t = 5 ∨ t = 6 ∨ t = 7 ∨ t = 8 ∨ t = 9 ∨ t = 10 ∨ t = 11 ∨ t = 12 := by omega
  all_goals decide
theorem count_low (l : List En) : ∀ t : Nat, t ≤ 13 → (∀ s : Nat, s < t → badTag l (s : Int) = true) → t ≤ l.countP (fun x => decide (x.f0 < (t : Int))) + (if 10 < t then 1 else 0) := by
  intro t
  induction t with
  | zero => intros; omega
  | succ t ih =>
    intro h hb
    have h1 := ih (by omega) (fun s hs => hb s (by omega))
    have h2 := hb t (by omega)
    unfold badTag at h2
    rw [resv_low t (by omega)] at h2
    have h3 := count_step l (t : Int)
    rw [show ((t + 1 : Nat) : Int) = (t : Int) + 1 by omega, ← h3]
    by_cases e : t = 10
    · rw [if_pos (by omega)]; rw [if_neg (by omega)] at h1; omega
    · rw [decide_eq_false e, Bool.false_or] at h2
      have h4 : 0 < l.countP (fun x => x.f0 == (t : Int)) := by rw [List.countP_pos_iff]; exact List.any_eq_true.1 h2
      by_cases e2 : 10 < t
      · rw [if_pos e2] at h1; rw [if_pos (by omega)]; omega
      · rw [if_neg e2] at h1; rw [if_neg (by omega)]; omega
theorem free_exists {l : List En} (h : l.length < 12) : ∃ s : Nat, 0 ≤ s ∧ s < 0 + 13 ∧ badTag l (s : Int) = false := by
  refine Classical.byContradiction fun hn => ?_
  have := count_low l 13 (by omega) (fun s hs => by
    cases q : badTag l (s : Int) with
    | true => rfl
    | false => exact absurd ⟨s, by omega, by omega, q⟩ hn)
  have h2 : l.countP (fun x => decide (x.f0 < ((13 : Nat) : Int))) ≤ l.length := List.countP_le_length
  rw [if_pos (by omega)] at this
  omega
theorem free_spec (l : List En) : ∀ (n t : Nat), (∃ s : Nat, t ≤ s ∧ s < t + n ∧ badTag l (s : Int) = false) → badTag l (freeTag l n t : Nat) = false ∧ freeTag l n t < t + n := by
  intro n
  induction n with
  | zero => rintro t ⟨s, h1, h2, _⟩; omega
  | succ n ih =>
    rintro t ⟨s, h1, h2, h3⟩
    unfold freeTag
    by_cases q : badTag l (t : Int) = true
    · rw [if_pos q]
      have hne : s ≠ t := fun e => by rw [e, q] at h3; simp at h3
      have := ih (t + 1) ⟨s, by omega, by omega, h3⟩
      exact ⟨this.1, by omega⟩
    · rw [if_neg q]; exact ⟨by simpa using q, by omega⟩
theorem free_ok {l : List En} (h : l.length < 12) : isReserved (freeTag l 13 0 : Nat) = false ∧ (∀ x ∈ l, x.f0 ≠ (freeTag l 13 0 : Nat)) ∧ freeTag l 13 0 < 13 := by
  obtain ⟨h1, h2⟩ := free_spec l 13 0 (free_exists h)
  unfold badTag at h1
  rw [Bool.or_eq_false_iff] at h1
  refine ⟨h1.1, fun x hx e => ?_, by omega⟩
  have := List.any_eq_false.1 h1.2 x hx
  simp [e] at this
theorem ins_perm (e : En) : ∀ l : List En, (insEn e l).Perm (l ++ [e]) := by
  intro l
  induction l with
  | nil => exact List.Perm.refl _
  | cons x r ih =>
    unfold insEn
    split
    · exact List.Perm.cons x ih
    · exact (List.perm_append_singleton e (x :: r)).symm
theorem ins_length (e : En) (l : List En) : (insEn e l).length = l.length + 1 := by rw [(ins_perm e l).length_eq]; simp
theorem ins_sorted (e : En) : ∀ l : List En, l.Pairwise (fun x y => x.f0 < y.f0) → (insEn e l).Pairwise (fun x y => x.f0 ≤ y.f0) := by
  intro l
  induction l with
  | nil => intro _; exact List.pairwise_singleton _ _
  | cons x r ih =>
    intro h
    obtain ⟨h1, h2⟩ := List.pairwise_cons.1 h
    unfold insEn
    split
    · rename_i q
      refine List.pairwise_cons.2 ⟨fun y hy => ?_, ih h2⟩
      rcases List.mem_append.1 ((ins_perm e r).mem_iff.1 hy) with hy | hy
      · have := h1 y hy; omega
      · rw [List.mem_singleton.1 hy]; omega
    · rename_i q
      refine List.pairwise_cons.2 ⟨fun y hy => ?_, List.pairwise_cons.2 ⟨fun y hy => ?_, h2.imp (fun h => by omega)⟩⟩
      · rcases List.mem_cons.1 hy with rfl | hy
        · omega
        · have := h1 y hy; omega
      · have := h1 y hy; omega
theorem reg_pair {l : List En} (h : isRegistry l = true) : l.Pairwise (fun x y => x.f0 < y.f0) := by
  rw [List.pairwise_iff_getElem]
  intro i j hi hj hij
  have := reg_lt h hij hj
  rwa [nt_lt l zEn i hi, nt_lt l zEn j hj] at this
theorem reg_mem {l : List En} (h : isRegistry l = true) (x : En) (hx : x ∈ l) : 0 ≤ x.f0 ∧ x.f0 ≤ 255 ∧ 0 ≤ x.f1 := by
  obtain ⟨i, hi, e⟩ := List.getElem_of_mem hx
  have := reg_at h i hi
  rw [nt_lt l zEn i hi, e] at this
  exact ⟨this.1, this.2.1, this.2.2.2.1⟩
theorem assign_length (l : List En) (v : Int) : (assignTag l v).1.length ≤ l.length + 1 := by
  unfold assignTag
  split
  · show (insEn _ _).length ≤ _; rw [ins_length]; exact Nat.le_refl _
  · show l.length ≤ _; omega
theorem assign_most {l : List En} (v : Int) (h : l.length ≤ 1048576) : (assignTag l v).1.length ≤ 1048576 := by
  unfold assignTag
  split
  · rename_i q; show (insEn _ _).length ≤ _; rw [ins_length]; omega
  · exact h
theorem owner_bad {l : List En} (h : isRegistry l = true) (t : Int) : decide (ownerOf l t ≥ 0) = l.any fun x => x.f0 == t := by
  unfold ownerOf
  cases e : l.findIdx? (fun x => x.f0 == t) with
  | none =>
    have := List.findIdx?_eq_none_iff.1 e
    have h2 : (l.any fun x => x.f0 == t) = false := List.any_eq_false.2 (fun x hx => by simpa using this x hx)
    rw [h2]; rfl
  | some j =>
    obtain ⟨h1, h2, _⟩ := List.findIdx?_eq_some_iff_getElem.1 e
    have h3 : (l.any fun x => x.f0 == t) = true := List.any_eq_true.2 ⟨l[j], List.getElem_mem h1, h2⟩
    have h4 := (reg_at h j h1).2.2.2.1
    rw [h3]
    exact decide_eq_true h4

/-! ### spec_AssignTag -/
theorem spec_AssignTag_l1 {l : List En} {v : Int} {t : Nat} (hl : l.length ≤ 1048576) : ∀ (d k i : Nat), i + d = l.length → d < k → spec_AssignTag.l1 k l v (t : Int) (i : Int) = some (l.take i ++ insEn ⟨(t : Int), v, false⟩ (l.drop i), (t : Int), true) := by
  intro d
  induction d with
  | zero =>
    intro k i h hk
    obtain ⟨k, rfl⟩ := succ_of hk
    obtain rfl : i = l.length := by omega
    have hz : (l.take l.length).length = l.length := by simp
    simp only [spec_AssignTag.l1]
    rw [if_neg (by omega), Option.bind_some, if_pos (by omega), if_pos (by omega), Option.bind_some, toNat_cast, List.nil_append, if_pos (by simp; omega), Option.bind_some, if_pos (by simp; omega), Option.bind_some, Option.bind_some, drop_end, if_pos (by simp; omega)]
    simp [insEn]
  | succ d ih =>
    intro k i h hk
    obtain ⟨k, rfl⟩ := succ_of hk
    simp only [spec_AssignTag.l1]
    rw [if_pos (by omega), if_pos (by omega), rd_En, wrap_up (n := l.length) (by omega) (by omega), ih k (i + 1) (by omega) (by omega), drop_step l zEn i (by omega)]
    rw [ins_cons]
    by_cases q : (nt zEn l i).f0 < (t : Int)
    · rw [if_pos q, if_pos q]
      have e : l.take (i + 1) = l.take i ++ [nt zEn l i] := by rw [List.take_add_one, nt_lt l zEn i (by omega), List.getElem?_eq_getElem (by omega)]; rfl
      rw [e]; simp
    · have hz : (l.take i).length ≤ l.length := by simp; omega
      have hd : (l.drop i).length ≤ l.length := by simp
      rw [if_neg q, if_neg q, Option.bind_some, if_pos (by omega), Option.bind_some, toNat_cast, List.nil_append, if_pos (by rw [List.length_nil]; omega), Option.bind_some, if_pos (by omega), Option.bind_some, Option.bind_some, if_pos (by rw [List.length_append, List.length_singleton]; omega), drop_step l zEn i (by omega)]
      simp
theorem spec_AssignTag_l0 {l : List En} {v : Int} (hr : isRegistry l = true) : ∀ (n k t : Nat), t + n ≤ 13 → 2 * l.length + 5 + n < k → (∃ s : Nat, t ≤ s ∧ s < t + n ∧ badTag l (s : Int) = false) → spec_AssignTag.l0 k l v (t : Int) = some (insEn ⟨(freeTag l n t : Nat), v, false⟩ l, ((freeTag l n t : Nat) : Int), true) := by
  have hl := reg_len hr
  intro n
  induction n with
  | zero => rintro k t _ _ ⟨s, h1, h2, _⟩; omega
  | succ n ih =>
    rintro k t ht hk ⟨s, h1, h2, h3⟩
    obtain ⟨k, rfl⟩ := succ_of hk
    simp only [spec_AssignTag.l0]
    rw [spec_IsReserved_eq, Option.bind_some, spec_OwnerOf_eq (by omega) (by omega), Option.bind_some, wrap_up (n := 16) (by omega) (by omega)]
    have hb := owner_bad hr (t : Int)
    have hu : badTag l (t : Int) = (isReserved (t : Int) || decide (ownerOf l (t : Int) ≥ 0)) := by rw [hb]; rfl
    have hn : badTag l (t : Int) = true → spec_AssignTag.l0 k l v ((t + 1 : Nat) : Int) = some (insEn ⟨(freeTag l n (t + 1) : Nat), v, false⟩ l, ((freeTag l n (t + 1) : Nat) : Int), true) := fun q => by
      have hne : s ≠ t := fun e => by rw [e, q] at h3; simp at h3
      exact ih k (t + 1) (by omega) (by omega) ⟨s, by omega, by omega, h3⟩
    unfold freeTag
    by_cases q : badTag l (t : Int) = true
    · simp only [q, if_true]
      rw [hn q]
      rw [hu] at q
      by_cases q1 : isReserved (t : Int) = true
      · rw [if_pos q1]
      · rw [if_neg q1]
        by_cases q2 : ownerOf l (t : Int) ≥ 0
        · rw [if_pos q2]
        · rw [decide_eq_false q2] at q; simp [q1] at q
    · simp only [if_neg q]
      rw [hu] at q
      have q1 : isReserved (t : Int) = false := by revert q; cases isReserved (t : Int) <;> simp
      have q2 : ¬ ownerOf l (t : Int) ≥ 0 := fun h => q (by rw [decide_eq_true h]; simp)
      rw [if_neg (by simp [q1]), if_neg q2]
      have := spec_AssignTag_l1 (l := l) (v := v) (t := t) (by omega) l.length k 0 (by omega) (by omega)
      simpa using this
theorem spec_AssignTag_eq {l : List En} {v : Int} {k : Nat} (hl : l.length ≤ 1048576) (hk : 2 * l.length + 40 < k) : spec_AssignTag.f k l v = some (assignTag l v) := by
  obtain ⟨k, rfl⟩ : ∃ m, k = m + 1 := ⟨k - 1, by omega⟩
  have hj : spec_AssignTag.j0 (k + 1) l v true = some (l, -1, false) := by
    simp only [spec_AssignTag.j0, if_true]
    rw [Option.bind_some, if_pos (by rw [List.length_nil]; omega)]; rfl
  unfold spec_AssignTag.f assignTag
  rw [spec_IsRegistry_eq (by omega) (by omega), Option.bind_some, spec_l1In_eq, Option.bind_some, hj]
  cases hr : isRegistry l with
  | false => rw [if_neg (by simp), if_neg (by simp)]
  | true =>
    rw [if_pos rfl]
    by_cases hv : 0 ≤ v ∧ v ≤ 9
    · rw [if_pos (by simpa using hv)]
      by_cases h12 : l.length < 12
      · rw [if_pos ⟨rfl, hv, h12⟩, decide_eq_false (by omega)]
        simp only [spec_AssignTag.j0]
        rw [if_neg (by simp)]
        exact spec_AssignTag_l0 hr 13 k 0 (by omega) (by omega) (free_exists h12)
      · rw [if_neg (fun h => h12 h.2.2), decide_eq_true (by omega), hj]
    · rw [if_neg (by simpa using hv), if_neg (fun h => hv h.2.1)]

/-! ### impl_InRange -/
theorem impl_InRange_eq (a b c : Int) : impl_InRange.f a b c = some (decide (b ≤ a ∧ a ≤ c)) := by
  unfold impl_InRange.f
  by_cases h : b ≤ a
  · rw [if_pos h]; simp [h]
  · rw [if_neg h, decide_eq_false (by omega)]

/-! ### impl_IsReserved -/
theorem impl_IsReserved_eq (a : Int) : impl_IsReserved.f a = some (isReserved a) := by
  unfold impl_IsReserved.f isReserved
  rw [impl_InRange_eq, Option.bind_some]
  by_cases h : (0 : Int) ≤ a ∧ a ≤ 255 <;> simp [h]

/-! ### impl_IsRegistry -/
theorem impl_IsRegistry_eq {l : List En} {k : Nat} (hl : l.length ≤ 9223372036854775807) (hk : l.length < k) : impl_IsRegistry.f k l = some (isRegistry l) := by
  unfold impl_IsRegistry.f
  have h := all_loop (g := fun k i => impl_IsRegistry.l0 k l l (l.length : Int) (i : Int)) (n := l.length) (B := 0) (ok := regOk l) (fin := decide (l.length ≤ 12)) (fun k => by
      simp only [impl_IsRegistry.l0]; rw [if_neg (by omega)]; congr 1; rw [decide_eq_decide]; omega)
    (fun k i hi _ => by
      simp only [impl_IsRegistry.l0]
      rw [if_pos (by omega), if_pos (by omega), if_pos (by omega), rd_En, impl_InRange_eq, impl_InRange_eq, impl_IsReserved_eq, wrap_up (n := l.length) hi hl]
      simp only [Option.bind_some]
      unfold regOk
      by_cases h1 : 0 ≤ (nt zEn l i).f0 ∧ (nt zEn l i).f0 ≤ 255
      · rw [decide_eq_true h1, if_pos rfl]
        cases isReserved (nt zEn l i).f0 with
        | true => simp
        | false =>
          rw [if_neg (by simp)]
          by_cases h0 : 0 < i
          · rw [if_pos (by omega), wrap_dn h0 (by omega), if_pos (by omega), if_pos (by omega), rd_En]
            by_cases h3 : (nt zEn l (i - 1)).f0 < (nt zEn l i).f0
            · rw [if_neg (by omega)]; simp [h3]
            · rw [if_pos (by omega), if_neg (by simp [h3]; omega)]
          · rw [if_neg (by omega)]
            have e0 : i = 0 := by omega
            simp [e0]
      · rw [decide_eq_false h1, if_neg (by simp), if_neg (by simp)]) l.length k 0 (by omega) (by omega)
  exact h

/-! ### impl_AssignTag -/
theorem impl_AssignTag_sort_eq {l : List En} {v : Int} (hr : isRegistry l = true) (h : l.length < 12) : impl_AssignTag_sort.f (l ++ [newEn l v]) = some (insEn (newEn l v) l) := by
  obtain ⟨h1, h2, h3⟩ := free_ok h
  have hd : (l ++ [newEn l v]).Pairwise (fun x y => x.f0 ≠ y.f0) := by
    rw [List.pairwise_append]
    refine ⟨(reg_pair hr).imp (fun h => by omega), List.pairwise_singleton _ _, fun a ha b hb => ?_⟩
    rw [List.mem_singleton.1 hb]
    exact h2 a ha
  have hb : ∀ x ∈ l ++ [newEn l v], 0 ≤ x.f0 ∧ x.f0 ≤ 255 := by
    intro x hx
    rcases List.mem_append.1 hx with hx | hx
    · have := reg_mem hr x hx; exact ⟨this.1, this.2.1⟩
    · rw [List.mem_singleton.1 hx]; show 0 ≤ ((freeTag l 13 0 : Nat) : Int) ∧ ((freeTag l 13 0 : Nat) : Int) ≤ 255; omega
  unfold impl_AssignTag_sort.f
  rw [if_pos ⟨by simp, by simp; omega, hb, hd⟩, Hf.sort_uniq (fun x : En => x.f0) (ins_perm (newEn l v) l) hd (ins_sorted (newEn l v) l (reg_pair hr))]
theorem impl_AssignTag_l0 {l : List En} {v : Int} (hr : isRegistry l = true) (h12 : l.length < 12) : ∀ (n k t : Nat), t + n ≤ 13 → n < k → (∃ s : Nat, t ≤ s ∧ s < t + n ∧ badTag l (s : Int) = false) → freeTag l n t = freeTag l 13 0 → impl_AssignTag.l0 k l v l (t : Int) = some (insEn (newEn l v) l, ((freeTag l 13 0 : Nat) : Int), true) := by
  intro n
  induction n with
  | zero => rintro k t _ _ ⟨s, h1, h2, _⟩; omega
  | succ n ih =>
    rintro k t ht hk ⟨s, h1, h2, h3⟩ hf
    obtain ⟨k, rfl⟩ := succ_of hk
    simp only [impl_AssignTag.l0, impl_entryOf.f]
    rw [impl_IsReserved_eq, Option.bind_some, Option.bind_some, wrap_up (n := 16) (by omega) (by omega)]
    have hb := Hw.idxOf_any (fun x : En => x.f0 == (t : Int)) l
    have hu : badTag l (t : Int) = (isReserved (t : Int) || decide (Hw.idxOf (fun x : En => x.f0 == (t : Int)) l ≥ 0)) := by rw [hb]; rfl
    rw [free_succ l n t] at hf
    by_cases q : badTag l (t : Int) = true
    · simp only [q, if_true] at hf
      have hne : s ≠ t := fun e => by rw [e, q] at h3; simp at h3
      rw [ih k (t + 1) (by omega) (by omega) ⟨s, by omega, by omega, h3⟩ hf]
      rw [hu] at q
      by_cases q1 : isReserved (t : Int) = true
      · rw [if_pos q1]
      · rw [if_neg q1]
        by_cases q2 : Hw.idxOf (fun x : En => x.f0 == (t : Int)) l ≥ 0
        · rw [if_pos q2]
        · rw [decide_eq_false q2] at q; simp [q1] at q
    · simp only [if_neg q] at hf
      rw [hu] at q
      have q1 : isReserved (t : Int) = false := by revert q; cases isReserved (t : Int) <;> simp
      have q2 : ¬ Hw.idxOf (fun x : En => x.f0 == (t : Int)) l ≥ 0 := fun h => q (by rw [decide_eq_true h]; simp)
      rw [if_neg (by simp [q1]), if_neg q2, if_pos (by omega), hf, show (⟨((freeTag l 13 0 : Nat) : Int), v, false⟩ : En) = newEn l v from rfl, impl_AssignTag_sort_eq hr h12]; rfl
theorem impl_AssignTag_eq {l : List En} {v : Int} {k : Nat} (hl : l.length ≤ 1048576) (hk : 2 * l.length + 40 < k) : impl_AssignTag.f k l v = some (assignTag l v) := by
  obtain ⟨k, rfl⟩ : ∃ m, k = m + 1 := ⟨k - 1, by omega⟩
  have hj : impl_AssignTag.j0 (k + 1) l v l true = some (l, -1, false) := by
    simp only [impl_AssignTag.j0, if_true]
  unfold impl_AssignTag.f assignTag
  rw [Option.bind_some, if_pos (by rw [List.length_nil]; omega), List.nil_append, Option.bind_some, impl_IsRegistry_eq (by omega) (by omega), Option.bind_some, impl_InRange_eq, Option.bind_some, hj]
  cases hr : isRegistry l with
  | false => rw [if_neg (by simp), if_neg (by simp)]
  | true =>
    have hl := reg_len hr
    rw [if_pos rfl]
    by_cases hv : 0 ≤ v ∧ v ≤ 9
    · rw [if_pos (by simpa using hv)]
      by_cases h12 : l.length < 12
      · rw [if_pos ⟨rfl, hv, h12⟩, beq_eq_false_iff_ne.2 (by omega)]
        simp only [impl_AssignTag.j0]
        rw [if_neg (by simp)]
        exact impl_AssignTag_l0 hr h12 13 k 0 (by omega) (by omega) (free_exists h12) rfl
      · rw [if_neg (fun h => h12 h.2.2), beq_iff_eq.2 (by omega), hj]
    · rw [if_neg (by simpa using hv), if_neg (fun h => hv h.2.1)]

end FnExactAssignTagAid
open FnExactAssignTagAid

theorem FnExactAssignTag : laws_FnExactAssignTag.Pure := by
  intro l t hl hw _
  obtain ⟨k, hk⟩ : ∃ k, k = 3 * l.length + 100 := ⟨_, rfl⟩
  refine ⟨k + 5, ?_⟩
  unfold laws_FnExactAssignTag.f
  rw [laws_szEntryS_eq (by omega) (by omega) hl, Option.bind_some]
  by_cases hb : (1048576 : Int) < l.length
  · rw [if_pos hb, if_pos (by omega)]
  · rw [if_neg hb, if_neg (by omega)]
    have hm : (l.map convEn).length = l.length := List.length_map ..
    obtain ⟨c, q⟩ : ∃ c, c = assignTag (l.map convEn) t := ⟨_, rfl⟩
    have hc : c.1.length ≤ l.length + 1 := by rw [q, ← hm]; exact assign_length _ _
    have hc2 : c.1.length ≤ 1048576 := by rw [q]; exact assign_most _ (by omega)
    have f1 : ∀ j, k ≤ j → laws_toEntryS.f j l = some (l.map convEn) := fun j h => laws_toEntryS_eq (by omega) (by omega)
    have f2 : ∀ j, k ≤ j → spec_AssignTag.f j (l.map convEn) t = some c := fun j h => by rw [spec_AssignTag_eq (by omega) (by omega), q]
    have f3 : ∀ j, k ≤ j → impl_AssignTag.f j (l.map convEn) t = some c := fun j h => by rw [impl_AssignTag_eq (by omega) (by omega), q]
    have f4 : ∀ j, k ≤ j → laws_eqEntryS.f j (l.map convEn) (l.map convEn) = some true := fun j h => laws_eqEntryS_self (by omega) (by omega)
    have f5 : ∀ j, k ≤ j → laws_eqEntryS.f j c.1 c.1 = some true := fun j h => laws_eqEntryS_self (by omega) (by omega)
    have f6 : ∀ j, k ≤ j → laws_markEntryS.f j (l.map convEn) 1 = some (1 + 3 * (l.length : Int), markEn 1 l.length) := fun j h => by rw [laws_markEntryS_eq (by omega) (by omega) (by omega) (by omega), hm]
    have f7 : ∀ j, k ≤ j → laws_markEntryS.f j c.1 1 = some (1 + 3 * (c.1.length : Int), markEn 1 c.1.length) := fun j h => laws_markEntryS_eq (by omega) (by omega) (by omega) (by omega)
    have f8 : ∀ j, k ≤ j → laws_heldEntryS.f j (markEn 1 c.1.length) 1 = some (1 + 3 * (c.1.length : Int)) := fun j h => laws_heldEntryS_eq (by omega) (by omega) (by omega) (by omega)
    have p1 : ¬ (1 + 3 * (l.length : Int) < 0) := by omega
    have p2 : ¬ (1 + 3 * (c.1.length : Int) < 0) := by omega
    simp only [laws_FnExactAssignTag.j0, laws_FnExactAssignTag.j1, laws_FnExactAssignTag.j2, f1, f2, f3, f4, f5, f6, f7, f8, p1, p2, Option.bind_some, Bool.false_eq_true, if_true, if_false, ↓reduceIte, bne_self_eq_false, Bool.not_true, Bool.not_false, Nat.le_add_right, Nat.le_refl]

end Go.Proofs.Ytgbfbdeeaogigaa.Pure
