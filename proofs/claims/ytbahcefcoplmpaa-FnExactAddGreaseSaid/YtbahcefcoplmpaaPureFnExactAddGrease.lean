/- AddGrease of the program and of the reference agree on every list of extensions and every seed, as a statement over lists alone; the bounds are those of memory. -/
import Derived.Test.YtbahcefcoplmpaaPFnExactAddGreasex8
import Derived.Test.YtbahcefcoplmpaaGb
import Derived.Test.YtbahcefcoplmpaaGr
import Derived.Test.YtbahcefcoplmpaaGh
namespace Go.Proofs.Ytbahcefcoplmpaa.Pure
open Go.RowKit Go.Proofs.Ytbahcefcoplmpaa.PFnExactAddGrease Go.Proofs.YtbahcefcoplmpaaW.PrintWords Go.Proofs.YtbahcefcoplmpaaW.PrintLast Go.Proofs.Ytbahcefcoplmpaa.Gb Go.Proofs.Ytbahcefcoplmpaa.Gr Go.Proofs.Ytbahcefcoplmpaa.Gh Go.Proofs.Ytbahcefcoplmpaa
set_option linter.unusedSimpArgs false
set_option linter.unusedVariables false
namespace FnExactAddGreaseAid

/-! ### T_Ex -/
abbrev Ex := S46
abbrev zEx : Ex := z46
theorem rd_Ex (l : List Ex) (i : Nat) : rd_T46 l (i : Int) = nt zEx l i := by simp [rd_T46, nt]
/-- The lengths of the bodies. -/
def inEx : List Ex → Nat
  | [] => 0
  | x :: r => x.f1.length + inEx r
theorem inEx_mem {l : List Ex} {x : Ex} (h : x ∈ l) : x.f1.length ≤ inEx l := by
  induction l with
  | nil => simp at h
  | cons y r ih =>
    rcases List.mem_cons.1 h with rfl | h
    · simp [inEx]
    · have := ih h; simp [inEx]; omega
theorem inEx_filter (p : Ex → Bool) (l : List Ex) : inEx (l.filter p) ≤ inEx l := by
  induction l with
  | nil => simp
  | cons x r ih =>
    rw [List.filter_cons]
    by_cases h : p x = true
    · rw [if_pos h]; simp [inEx]; omega
    · rw [if_neg h]; simp [inEx]; omega

/-! ### T_Ext -/
abbrev LEx := S45
abbrev zLEx : LEx := z45
theorem rd_LEx (l : List LEx) (i : Nat) : rd_T45 l (i : Int) = nt zLEx l i := by simp [rd_T45, nt]
def convEx (x : LEx) : Ex := ⟨x.f0, x.f1⟩
def inLEx : List LEx → Nat
  | [] => 0
  | x :: r => x.f1.length + inLEx r
theorem inEx_map (l : List LEx) : inEx (l.map convEx) = inLEx l := by
  induction l with
  | nil => rfl
  | cons x r ih => simp [inEx, inLEx, ih, convEx]
theorem inLEx_mem {l : List LEx} {x : LEx} (h : x ∈ l) : x.f1.length ≤ inLEx l := by
  induction l with
  | nil => simp at h
  | cons y r ih =>
    rcases List.mem_cons.1 h with rfl | h
    · simp [inLEx]
    · have := ih h; simp [inLEx]; omega

/-! ### laws_szExtS -/
theorem laws_szExtS_l0 {l : List LEx} (hl : l.length ≤ 9223372036854775807) (hw : ∀ x ∈ l, x.f1.length ≤ 9223372036854775807) : ∀ (d k i : Nat) (x : Int), i + d = l.length → d < k → 0 ≤ x → x ≤ 1048576 → laws_szExtS.l0 k l x (i : Int) = some (if x < inLEx (l.drop i) then -1 else x - inLEx (l.drop i)) := by
  intro d
  induction d with
  | zero =>
    intro k i x h hk h0 h1
    obtain ⟨k, rfl⟩ := succ_of hk
    obtain rfl : i = l.length := by omega
    simp only [laws_szExtS.l0]; rw [if_neg (by omega), drop_end, if_neg (by simp [inLEx]; omega)]; simp [inLEx]
  | succ d ih =>
    intro k i x h hk h0 h1
    obtain ⟨k, rfl⟩ := succ_of hk
    have hm := hw _ (nt_mem zLEx l i (by omega))
    simp only [laws_szExtS.l0]
    rw [if_pos (by omega), if_pos (by omega), rd_LEx, wrap_up (n := l.length) (by omega) hl, drop_step l zLEx i (by omega), show inLEx (nt zLEx l i :: l.drop (i + 1)) = (nt zLEx l i).f1.length + inLEx (l.drop (i + 1)) from rfl]
    simp only [laws_szExt.f, laws_szIntS.f]
    rw [wrap_id (by omega) (by omega)]
    by_cases hb : x - (nt zLEx l i).f1.length < 0
    · simp only [if_pos hb, Option.bind_some]; rw [if_pos (by omega), Option.bind_some, if_pos (by omega), if_pos (by omega)]
    · simp only [if_neg hb, Option.bind_some]; rw [ih k (i + 1) _ (by omega) (by omega) (by omega) (by omega)]
      by_cases hc : x - (nt zLEx l i).f1.length < (inLEx (l.drop (i + 1)) : Int)
      · rw [if_pos hc, if_pos (by omega)]
      · rw [if_neg hc, if_neg (by omega)]; congr 1; omega
theorem laws_szExtS_eq {l : List LEx} {a : Int} {k : Nat} (h0 : 0 ≤ a) (h1 : a ≤ 1048576) (hl : l.length ≤ 9223372036854775807) (hw : ∀ x ∈ l, x.f1.length ≤ 9223372036854775807) (hk : l.length < k ∨ 1048576 < k) : laws_szExtS.f k l a = some (if a < l.length + inLEx l then -1 else a - (l.length + inLEx l)) := by
  unfold laws_szExtS.f
  rw [wrap_id (by omega) (by omega)]
  by_cases hb : a - l.length < 0
  · rw [if_pos hb, if_pos (by omega)]
  · rw [if_neg hb]
    have h := laws_szExtS_l0 hl hw l.length k 0 (a - l.length) (by omega) (by omega) (by omega) (by omega)
    rw [Int.natCast_zero] at h
    rw [h, List.drop_zero]
    by_cases hc : a - l.length < (inLEx l : Int)
    · rw [if_pos hc, if_pos (by omega)]
    · rw [if_neg hc, if_neg (by omega)]; congr 1; omega

/-! ### laws_toIntS -/
theorem laws_toIntS_l0 (l : List Int) (hl : l.length ≤ 9223372036854775807) : ∀ (d k i : Nat), i + d = l.length → d < k → laws_toIntS.l0 k l (l.take i ++ List.replicate (l.length - i) 0) (i : Int) = some l := by
  intro d
  induction d with
  | zero =>
    intro k i h hk
    obtain ⟨k, rfl⟩ := succ_of hk
    obtain rfl : i = l.length := by omega
    simp only [laws_toIntS.l0]; rw [if_neg (by omega), take_all]
  | succ d ih =>
    intro k i h hk
    obtain ⟨k, rfl⟩ := succ_of hk
    simp only [laws_toIntS.l0]
    rw [if_pos (by omega), if_pos (by omega), if_pos (by rw [List.length_append, List.length_take, List.length_replicate]; omega), wrap_up (n := l.length) (by omega) hl, rd_cast, toNat_cast, set_grow _ _ _ (by omega)]
    exact ih k (i + 1) (by omega) (by omega)
theorem laws_toIntS_eq {l : List Int} {k : Nat} (hl : l.length ≤ 35184372088832) (hk : l.length < k) : laws_toIntS.f k l = some l := by
  unfold laws_toIntS.f
  rw [if_pos (by omega), toNat_cast, if_pos hl, ← take_none l 0]
  exact laws_toIntS_l0 l (by omega) l.length k 0 (by omega) hk

/-! ### laws_toExtS -/
theorem laws_toExtS_eq {l : List LEx} {k : Nat} (hl : l.length ≤ 1048576) (hm : inLEx l ≤ 1048576) (hk : l.length + inLEx l + 1 < k) : laws_toExtS.f k l = some (l.map convEx) := by
  unfold laws_toExtS.f
  rw [if_pos (by omega), toNat_cast, if_pos (by omega)]
  have h := map_loop (g := fun k acc i => laws_toExtS.l0 k l acc (i : Int)) (l := l) (z := zLEx) (zb := zEx) (f := convEx) (B := inLEx l + 1) (fun k acc ha => by
      simp only [laws_toExtS.l0]; rw [if_neg (by omega)])
    (fun k i acc hi hk ha => by
      have hx := inLEx_mem (nt_mem zLEx l i hi)
      simp only [laws_toExtS.l0]
      rw [if_pos (by omega), if_pos (by omega), rd_LEx]
      simp only [laws_toExt.f]
      rw [laws_toIntS_eq (by omega) (by omega)]
      simp only [Option.bind_some]
      rw [if_pos (by omega), wrap_up (n := l.length) hi (by omega), toNat_cast]; rfl) l.length k 0 (by omega) (by omega)
  simpa using h

/-! ### laws_eqIntS -/
theorem laws_eqIntS_l0 (a b : List Int) (hl : a.length ≤ 9223372036854775807) (he : b.length = a.length) : ∀ (d k i : Nat), i + d = a.length → d < k → laws_eqIntS.l0 k a b (i : Int) = some (decide (a.drop i = b.drop i)) := by
  intro d
  induction d with
  | zero =>
    intro k i h hk
    obtain ⟨k, rfl⟩ := succ_of hk
    obtain rfl : i = a.length := by omega
    simp only [laws_eqIntS.l0]; rw [if_neg (by omega), drop_end, ← he, drop_end, decide_eq_true rfl]
  | succ d ih =>
    intro k i h hk
    obtain ⟨k, rfl⟩ := succ_of hk
    simp only [laws_eqIntS.l0]
    rw [if_pos (by omega), if_pos (by omega), if_pos (by omega), wrap_up (n := a.length) (by omega) hl, rd_cast, rd_cast, drop_step a 0 i (by omega), drop_step b 0 i (by omega), ih k (i + 1) (by omega) (by omega)]
    by_cases e : nt 0 a i = nt 0 b i
    · rw [if_pos e, e]; simp
    · rw [if_neg e]; simp [e]
theorem laws_eqIntS_eq {a b : List Int} {k : Nat} (hl : a.length ≤ 9223372036854775807) (hk : a.length < k) : laws_eqIntS.f k a b = some (decide (a = b)) := by
  unfold laws_eqIntS.f
  by_cases e : a.length = b.length
  · rw [if_pos (by omega)]
    exact laws_eqIntS_l0 a b hl e.symm a.length k 0 (by omega) hk
  · rw [if_neg (by omega), decide_eq_false (fun h => e (by rw [h]))]
theorem laws_eqIntS_self {a : List Int} {k : Nat} (hl : a.length ≤ 9223372036854775807) (hk : a.length < k) : laws_eqIntS.f k a a = some true := by
  rw [laws_eqIntS_eq hl hk, decide_eq_true rfl]

/-! ### laws_eqExtS -/
theorem laws_eqExtS_self {l : List Ex} {k : Nat} (hl : l.length ≤ 9223372036854775807) (hm : inEx l ≤ 1048576) (hk : l.length + inEx l + 1 < k) : laws_eqExtS.f k l l = some true := by
  unfold laws_eqExtS.f
  rw [if_pos rfl]
  exact pass_loop (g := fun k i => laws_eqExtS.l0 k l l (i : Int)) (n := l.length) (B := inEx l + 1) (fun k => by
      simp only [laws_eqExtS.l0]; rw [if_neg (by omega)])
    (fun k i hi hk => by
      have hx := inEx_mem (nt_mem zEx l i hi)
      simp only [laws_eqExtS.l0]
      rw [if_pos (by omega), if_pos (by omega), if_pos (by omega), wrap_up (n := l.length) hi hl, rd_Ex]
      simp only [laws_eqExt.f, if_true]
      rw [laws_eqIntS_self (by omega) (by omega)]
      simp only [if_true, Option.bind_some]) l.length k 0 (by omega) (by omega)

/-! ### laws_markIntS -/
theorem laws_markIntS_l0 (l : List Int) (hl : l.length ≤ 4611686018427387904) (a : Int) (h0 : 0 ≤ a) (h1 : a ≤ 4611686018427387903) : ∀ (d k i : Nat), i + d = l.length → d < k → laws_markIntS.l0 k (seqFrom a i ++ l.drop i) (a + i) (i : Int) = some (a + l.length, seqFrom a l.length) := by
  intro d
  induction d with
  | zero =>
    intro k i h hk
    obtain ⟨k, rfl⟩ := succ_of hk
    obtain rfl : i = l.length := by omega
    simp only [laws_markIntS.l0]; rw [drop_end, List.append_nil, seqFrom_length, if_neg (by omega)]
  | succ d ih =>
    intro k i h hk
    obtain ⟨k, rfl⟩ := succ_of hk
    simp only [laws_markIntS.l0]
    rw [if_pos (by rw [List.length_append, List.length_drop, seqFrom_length]; omega), if_pos (by omega), wrap_up (n := l.length) (by omega) (by omega), toNat_cast, set_mark _ _ _ _ (seqFrom_length a i) (by omega), ← seqFrom_snoc, wrap_id (by omega) (by omega), Int.add_assoc]
    exact ih k (i + 1) (by omega) (by omega)
theorem laws_markIntS_eq {l : List Int} {a : Int} {k : Nat} (hl : l.length ≤ 4611686018427387904) (h0 : 0 ≤ a) (h1 : a ≤ 4611686018427387903) (hk : l.length < k) : laws_markIntS.f k l a = some (a + l.length, seqFrom a l.length) := by
  unfold laws_markIntS.f
  have h := laws_markIntS_l0 l hl a h0 h1 l.length k 0 (by omega) hk
  simp only [seqFrom, List.drop_zero, List.nil_append, Int.natCast_zero, Int.add_zero] at h
  exact h

/-! ### laws_markExtS -/
def markEx : Int → List Ex → List Ex
  | _, [] => []
  | a, x :: r => (⟨a, seqFrom (a + 1) x.f1.length⟩ : Ex) :: markEx (a + 1 + x.f1.length) r
theorem markEx_length (a : Int) (l : List Ex) : (markEx a l).length = l.length := by
  induction l generalizing a with
  | nil => rfl
  | cons x r ih => simp [markEx, ih]
theorem laws_markExtS_l0 : ∀ (rest done : List Ex) (k : Nat) (a : Int), done.length + rest.length ≤ 4611686018427387904 → 0 ≤ a → a + rest.length + inEx rest ≤ 4611686018427387903 → rest.length + inEx rest + 1 < k →
    laws_markExtS.l0 k (done ++ rest) a (done.length : Int) = some (a + (rest.length + inEx rest), done ++ markEx a rest) := by
  intro rest
  induction rest with
  | nil =>
    intro done k a hl h0 h1 hk
    obtain ⟨k, rfl⟩ := succ_of hk
    simp only [laws_markExtS.l0, List.append_nil]; rw [if_neg (by omega)]; simp [markEx, inEx]
  | cons x r ih =>
    intro done k a hl h0 h1 hk
    obtain ⟨k, rfl⟩ := succ_of hk
    simp only [inEx, List.length_cons] at hl h1 hk ⊢
    simp only [laws_markExtS.l0]
    rw [if_pos (by rw [len_at]; omega), if_pos (by omega), rd_Ex, nt_at, wrap_id (x := a + 1) (by omega) (by omega), laws_markIntS_eq (by omega) (by omega) (by omega) (by omega)]
    simp only [Option.bind_some, toNat_cast]
    rw [set_at, wrap_up (n := done.length + 1) (by omega) (by omega), ← len_snoc done (⟨a, seqFrom (a + 1) x.f1.length⟩ : Ex), ih _ k _ (by rw [len_snoc]; omega) (by omega) (by omega) (by omega)]
    simp only [markEx, List.append_assoc, List.singleton_append]
    congr 2; omega
theorem laws_markExtS_eq {l : List Ex} {a : Int} {k : Nat} (hl : l.length ≤ 1048576) (hm : inEx l ≤ 1048576) (h0 : 0 ≤ a) (h1 : a ≤ 1048576) (hk : l.length + inEx l + 1 < k) : laws_markExtS.f k l a = some (a + (l.length + inEx l), markEx a l) := by
  unfold laws_markExtS.f
  exact laws_markExtS_l0 l [] k a (by simp; omega) (by omega) (by omega) (by omega)

/-! ### laws_heldIntS -/
theorem laws_heldIntS_l0 (n : Nat) (hn : n ≤ 4611686018427387904) (a : Int) (h0 : 0 ≤ a) (h1 : a ≤ 4611686018427387903) : ∀ (d k i : Nat), i + d = n → d < k → laws_heldIntS.l0 k (seqFrom a n) (a + i) (i : Int) = some (a + n) := by
  intro d
  induction d with
  | zero =>
    intro k i h hk
    obtain ⟨k, rfl⟩ := succ_of hk
    obtain rfl : i = n := by omega
    simp only [laws_heldIntS.l0]; rw [seqFrom_length, if_neg (by omega)]
  | succ d ih =>
    intro k i h hk
    obtain ⟨k, rfl⟩ := succ_of hk
    simp only [laws_heldIntS.l0]
    rw [seqFrom_length, if_pos (by omega), if_pos (by omega), rd_cast, nt_seq a n i (by omega), if_pos rfl, wrap_up (n := n) (by omega) (by omega), wrap_id (by omega) (by omega), Int.add_assoc]
    exact ih k (i + 1) (by omega) (by omega)
theorem laws_heldIntS_eq {n : Nat} {a : Int} {k : Nat} (hn : n ≤ 4611686018427387904) (h0 : 0 ≤ a) (h1 : a ≤ 4611686018427387903) (hk : n < k) : laws_heldIntS.f k (seqFrom a n) a = some (a + n) := by
  unfold laws_heldIntS.f
  have h := laws_heldIntS_l0 n hn a h0 h1 n k 0 (by omega) hk
  simp only [Int.natCast_zero, Int.add_zero] at h
  exact h

/-! ### laws_heldExtS -/
theorem laws_heldExtS_l0 : ∀ (rest done : List Ex) (k : Nat) (a : Int), done.length + rest.length ≤ 4611686018427387904 → 0 ≤ a → a + rest.length + inEx rest ≤ 4611686018427387903 → rest.length + inEx rest + 1 < k →
    laws_heldExtS.l0 k (done ++ markEx a rest) a (done.length : Int) = some (a + (rest.length + inEx rest)) := by
  intro rest
  induction rest with
  | nil =>
    intro done k a hl h0 h1 hk
    obtain ⟨k, rfl⟩ := succ_of hk
    simp only [laws_heldExtS.l0, markEx, List.append_nil]; rw [if_neg (by omega)]; simp [inEx]
  | cons x r ih =>
    intro done k a hl h0 h1 hk
    obtain ⟨k, rfl⟩ := succ_of hk
    simp only [inEx, List.length_cons] at hl h1 hk ⊢
    rw [show markEx a (x :: r) = (⟨a, seqFrom (a + 1) x.f1.length⟩ : Ex) :: markEx (a + 1 + x.f1.length) r from rfl]
    simp only [laws_heldExtS.l0]
    rw [if_pos (by rw [len_at]; omega), if_pos (by omega), rd_Ex, nt_at, if_pos rfl, wrap_id (x := a + 1) (by omega) (by omega), laws_heldIntS_eq (by omega) (by omega) (by omega) (by omega)]
    simp only [Option.bind_some]
    rw [if_neg (by omega), wrap_up (n := done.length + 1) (by omega) (by omega)]
    have e := ih (done ++ [(⟨a, seqFrom (a + 1) x.f1.length⟩ : Ex)]) k (a + 1 + x.f1.length) (by rw [len_snoc]; omega) (by omega) (by omega) (by omega)
    rw [List.append_assoc, List.singleton_append, len_snoc] at e
    rw [e]; congr 1; omega
theorem laws_heldExtS_eq {l : List Ex} {a : Int} {k : Nat} (hl : l.length ≤ 1048576) (hm : inEx l ≤ 1048576) (h0 : 0 ≤ a) (h1 : a ≤ 1048576) (hk : l.length + inEx l + 1 < k) : laws_heldExtS.f k (markEx a l) a = some (a + (l.length + inEx l)) := by
  unfold laws_heldExtS.f
  exact laws_heldExtS_l0 l [] k a (by simp; omega) (by omega) (by omega) (by omega)

/-! ### spec_ExtOf -/
def extOf (l : List Ex) (t : Int) : Int := Hw.idxOf (fun x => x.f0 == t) l
theorem spec_ExtOf_eq {l : List Ex} {t : Int} {k : Nat} (hl : l.length ≤ 9223372036854775807) (hk : l.length < k) : spec_ExtOf.f k l t = some (extOf l t) := by
  unfold spec_ExtOf.f
  have h := find_loop (g := fun k i => spec_ExtOf.l0 k l t (i : Int)) (l := l) (z := zEx) (B := 0) (p := fun x => x.f0 == t) (hit := fun j => (j : Int)) (miss := (-1 : Int)) (fun k => by
      simp only [spec_ExtOf.l0]; rw [if_neg (by omega)])
    (fun k i hi _ => by
      simp only [spec_ExtOf.l0]
      rw [if_pos (by omega), if_pos (by omega), wrap_up (n := l.length) hi hl, rd_Ex]
      by_cases e : (nt zEx l i).f0 = t
      · rw [if_pos e, if_pos (by simp [e])]
      · rw [if_neg e, if_neg (by simp [e])]) l.length k 0 (by omega) (by omega)
  simpa [extOf, Hw.idxOf] using h

/-! ### T_AreExts -/
def bytes (l : List Int) : Bool := l.all fun x => decide (0 ≤ x ∧ x ≤ 255)
/-- Extension i is one, and its tag is none of those ahead of it. -/
def extOk (l : List Ex) (i : Nat) : Bool := decide (0 ≤ (nt zEx l i).f0 ∧ (nt zEx l i).f0 ≤ 255) && (decide ((nt zEx l i).f1.length ≤ 4) && (bytes (nt zEx l i).f1 && !(l.take i).any fun x => x.f0 == (nt zEx l i).f0))
def areExts (l : List Ex) : Bool := allFrom (extOk l) 0 l.length && decide (l.length ≤ 6)
theorem idxOf_lt {α : Type} {p : α → Bool} {l : List α} {z : α} {i : Nat} (hi : i < l.length) (hp : p (nt z l i) = true) : Hw.idxOf p l < (i : Int) ↔ (l.take i).any p = true := by
  unfold Hw.idxOf
  rw [List.any_eq_true]
  cases e : l.findIdx? p with
  | none =>
    rw [List.findIdx?_eq_none_iff] at e
    have := e _ (nt_mem z l i hi)
    rw [hp] at this; cases this
  | some j =>
    obtain ⟨h1, h2, h3⟩ := List.findIdx?_eq_some_iff_getElem.1 e
    simp only [Option.elim]
    constructor
    · intro h
      exact ⟨l[j], List.mem_take_iff_getElem.2 ⟨j, by omega, rfl⟩, h2⟩
    · rintro ⟨x, hx, hq⟩
      obtain ⟨j', hj', rfl⟩ := List.mem_take_iff_getElem.1 hx
      by_cases h : j' < j
      · have h4 := h3 j' h
        rw [hq] at h4; exact absurd rfl h4
      · omega
theorem areExts_len' {l : List Ex} (h : areExts l = true) : ∀ x ∈ l, x.f1.length ≤ 4 := by
  unfold areExts at h
  rw [Bool.and_eq_true, allFrom_iff, decide_eq_true_eq] at h
  intro x hx
  obtain ⟨j, hj, rfl⟩ := List.mem_iff_getElem.1 hx
  have := h.1 j (by omega) (by omega)
  unfold extOk at this
  simp only [Bool.and_eq_true, decide_eq_true_eq] at this
  have h4 := this.2.1
  rwa [nt_lt _ _ _ hj] at h4
theorem areExts_six {l : List Ex} (h : areExts l = true) : l.length ≤ 6 := by
  unfold areExts at h
  rw [Bool.and_eq_true, decide_eq_true_eq] at h
  exact h.2
theorem inEx_four : ∀ (l : List Ex), (∀ x ∈ l, x.f1.length ≤ 4) → inEx l ≤ 4 * l.length
  | [], _ => by simp [inEx]
  | x :: r, h => by
    have h1 := inEx_four r (fun y hy => h y (List.mem_cons_of_mem _ hy))
    have h2 := h x (by simp)
    simp only [inEx, List.length_cons]; omega

/-! ### T_AddGrease -/
theorem pick_range {a b c : Int} (h0 : 1 ≤ c) (h1 : c ≤ 1000000) : 0 ≤ pickOf a b c ∧ pickOf a b c < c := by
  unfold pickOf modOf
  obtain ⟨h, hh⟩ : ∃ h, h = hashOf [a, b] := ⟨_, rfl⟩
  rw [if_neg (by omega), if_pos ⟨h0, by omega⟩, ← hh]
  have hb : -c < Int.tmod h c ∧ Int.tmod h c < c := by
    refine ⟨?_, Int.tmod_lt_of_pos _ (by omega)⟩
    by_cases q : 0 ≤ h
    · have := Int.tmod_nonneg c q; omega
    · have e := Int.neg_tmod h c
      have h2 : Int.tmod (-h) c < c := Int.tmod_lt_of_pos _ (by omega)
      omega
  rw [wrap_id (by omega) (by omega)]
  exact ⟨Int.tmod_nonneg c (by omega), Int.tmod_lt_of_pos _ (by omega)⟩
def greaseAt (l : List Ex) (s : Int) : Nat := (pickOf s 1 ((l.length : Int) + 1)).toNat
def greaseExt (s : Int) : Ex := ⟨greaseTag s, List.replicate (pickOf s 2 3).toNat (pickOf s 3 256)⟩
def addGrease (l : List Ex) (s : Int) : List Ex := if areExts l = false ∨ (l.length : Int) = 6 ∨ 0 ≤ extOf l (greaseTag s) then l else l.take (greaseAt l s) ++ [greaseExt s] ++ l.drop (greaseAt l s)
theorem inEx_append (a b : List Ex) : inEx (a ++ b) = inEx a + inEx b := by
  induction a with
  | nil => simp [inEx]
  | cons x r ih => simp only [List.cons_append, inEx, ih]; omega
theorem addGrease_len (l : List Ex) (s : Int) : (addGrease l s).length ≤ l.length + 1 := by
  unfold addGrease
  split
  · omega
  · simp only [List.length_append, List.length_take, List.length_drop, List.length_singleton]; omega
theorem addGrease_in (l : List Ex) (s : Int) : inEx (addGrease l s) ≤ inEx l + 2 := by
  unfold addGrease
  split
  · omega
  · have h := inEx_append (l.take (greaseAt l s)) (l.drop (greaseAt l s))
    rw [List.take_append_drop] at h
    have hp := pick_range (a := s) (b := 2) (c := 3) (by omega) (by omega)
    rw [inEx_append, inEx_append]
    simp only [inEx, greaseExt, List.length_replicate]
    omega
theorem greaseAt_le {l : List Ex} (s : Int) (h : l.length ≤ 6) : greaseAt l s ≤ l.length := by
  have := pick_range (a := s) (b := 1) (c := (l.length : Int) + 1) (by omega) (by omega)
  unfold greaseAt
  omega
theorem addGrease_or (l : List Ex) (s : Int) : addGrease l s = l ∨ (addGrease l s).length ≤ 7 ∧ inEx (addGrease l s) ≤ 26 := by
  by_cases hq : areExts l = false ∨ (l.length : Int) = 6 ∨ 0 ≤ extOf l (greaseTag s)
  · left
    unfold addGrease
    rw [if_pos hq]
  · right
    have ha : areExts l = true := by
      cases h : areExts l
      · exact absurd (.inl h) hq
      · rfl
    have h6 := areExts_six ha
    have h4 := inEx_four l (areExts_len' ha)
    have h1 := addGrease_len l s
    have h2 := addGrease_in l s
    omega

/-! ### spec_TagsOf -/
theorem spec_TagsOf_eq {l : List Ex} {k : Nat} (hl : l.length ≤ 1048576) (hk : l.length < k) : spec_TagsOf.f k l = some (l.map (·.f0)) := by
  unfold spec_TagsOf.f
  have h := filter_loop (g := fun k acc i => spec_TagsOf.l0 k l acc (i : Int)) (l := l) (z := zEx) (B := 0) (p := fun x => true) (f := fun x => x.f0) (fun k acc => by
      simp only [spec_TagsOf.l0]; rw [if_neg (by omega)])
    (fun k i acc hi hk hacc => by
      simp only [spec_TagsOf.l0]
      rw [if_pos (by omega), if_pos (by omega), rd_Ex, wrap_up (n := l.length) hi (by omega), if_pos (show acc.length < 17592186044416 by omega)]; rfl) l.length k 0 [] (by omega) (by omega) (by simp)
  have e : (l.filter fun _ => true) = l := List.filter_eq_self.2 (fun _ _ => rfl)
  simpa [e] using h

/-! ### T_known -/
def knownOf (l : List Ex) (t : List Int) : List Ex := l.filter fun x => t.any (· == x.f0)

/-! ### spec_l9Has -/
theorem spec_l9Has_eq {l : List Int} {n : Int} {k : Nat} (hl : l.length ≤ 9223372036854775807) (hk : l.length < k) : spec_l9Has.f k l n = some (l.any (· == n)) := by
  unfold spec_l9Has.f
  have h := any_loop (g := fun k i => spec_l9Has.l0 k l n (i : Int)) (l := l) (z := 0) (B := 0) (p := (· == n)) (fun k => by
      simp only [spec_l9Has.l0]; rw [if_neg (by omega)])
    (fun k i hi _ => by
      simp only [spec_l9Has.l0]
      rw [if_pos (by omega), if_pos (by omega), wrap_up (n := l.length) hi hl, rd_cast]
      by_cases e : nt 0 l i = n
      · rw [if_pos e, if_pos (by simp [e])]
      · rw [if_neg e, if_neg (by simp [e])]) l.length k 0 (by omega) (by omega)
  exact h

/-! ### spec_KnownOf -/
theorem spec_KnownOf_eq {l : List Ex} {t : List Int} {k : Nat} (hl : l.length ≤ 1048576) (hm : inEx l ≤ 1048576) (ht : t.length ≤ 1048576) (hk : l.length + t.length + 1 < k) : spec_KnownOf.f k l t = some (knownOf l t) := by
  unfold spec_KnownOf.f
  have h := filter_loop (g := fun k acc i => spec_KnownOf.l0 k l t acc (i : Int)) (l := l) (z := zEx) (B := t.length + 1) (p := fun x => t.any (· == x.f0)) (f := fun x => x) (fun k acc => by
      simp only [spec_KnownOf.l0]; rw [if_neg (by omega)])
    (fun k i acc hi hk hacc => by
      have hx := inEx_mem (nt_mem zEx l i hi)
      simp only [spec_KnownOf.l0]
      rw [if_pos (by omega), if_pos (by omega), rd_Ex, wrap_up (n := l.length) hi (by omega), spec_l9Has_eq (by omega) (by omega)]
      simp only [Option.bind_some, List.nil_append, List.length_nil, Nat.zero_add]
      cases t.any (· == (nt zEx l i).f0) with
      | false => rfl
      | true => simp only [if_true]; rw [if_pos (by omega), if_pos (show acc.length < 4398046511104 by omega)]) l.length k 0 [] (by omega) (by omega) (by simp)
  simpa [knownOf] using h

/-! ### spec_l11Copy -/
theorem spec_l11Copy_eq {l : List Ex} {k : Nat} (hl : l.length ≤ 1048576) (hm : inEx l ≤ 1048576) (hk : 2 * l.length + 1 < k) : spec_l11Copy.f k l = some l := by
  unfold spec_l11Copy.f
  rw [spec_TagsOf_eq hl (by omega), Option.bind_some, spec_KnownOf_eq hl hm (by rw [List.length_map]; exact hl) (by rw [List.length_map]; omega), Option.bind_some]
  congr 1
  unfold knownOf
  refine List.filter_eq_self.2 (fun x hx => List.any_eq_true.2 ⟨x.f0, List.mem_map_of_mem hx, by simp⟩)

/-! ### spec_l1In -/
theorem spec_l1In_eq (a b c : Int) : spec_l1In.f a b c = some (decide (b ≤ a ∧ a ≤ c)) := by
  unfold spec_l1In.f
  by_cases h : a ≥ b
  · rw [if_pos h]; simp [show b ≤ a from h]
  · rw [if_neg h, decide_eq_false (by omega)]

/-! ### spec_AreExts -/
theorem spec_l9Byte_eq {l : List Int} {k : Nat} (hl : l.length ≤ 9223372036854775807) (hk : l.length < k) : spec_l9Byte.f k l = some (bytes l) := by
  unfold spec_l9Byte.f
  have h := all_loop (g := fun k i => spec_l9Byte.l0 k l (i : Int)) (n := l.length) (B := 0) (ok := fun i => (fun x : Int => decide (0 ≤ x ∧ x ≤ 255)) (nt 0 l i)) (fin := true) (fun k => by
      simp only [spec_l9Byte.l0]; rw [if_neg (by omega)])
    (fun k i hi _ => by
      simp only [spec_l9Byte.l0]
      rw [if_pos (by omega), if_pos (by omega), wrap_up (n := l.length) hi hl, rd_cast, spec_l1In_eq, Option.bind_some]) l.length k 0 (by omega) (by omega)
  exact (h.trans (congrArg (fun b => some (b && true)) (allFrom_all (fun x : Int => decide (0 ≤ x ∧ x ≤ 255)) 0 l))).trans (by simp [bytes])
theorem spec_AreExts_eq {l : List Ex} {k : Nat} (hl : l.length ≤ 1048576) (hk : 2 * l.length + 10 < k) : spec_AreExts.f k l = some (areExts l) := by
  unfold spec_AreExts.f
  have h := all_loop (g := fun k i => spec_AreExts.l0 k l (i : Int)) (n := l.length) (B := l.length + 6) (ok := extOk l) (fin := decide (l.length ≤ 6)) (fun k => by
      simp only [spec_AreExts.l0]; rw [if_neg (by omega)]; congr 1; simp only [decide_eq_decide]; omega)
    (fun k i hi hk => by
      simp only [spec_AreExts.l0]
      rw [if_pos (by omega), if_pos (by omega), wrap_up (n := l.length) hi (by omega), rd_Ex, spec_l1In_eq, Option.bind_some]
      unfold extOk
      by_cases b1 : 0 ≤ (nt zEx l i).f0 ∧ (nt zEx l i).f0 ≤ 255
      · rw [if_pos (by simp [b1])]
        by_cases b2 : (nt zEx l i).f1.length ≤ 4
        · rw [if_neg (by omega), spec_l9Byte_eq (by omega) (by omega), Option.bind_some]
          cases b3 : bytes (nt zEx l i).f1 with
          | false => rw [if_neg (by simp), if_neg (by simp)]
          | true =>
            rw [if_pos rfl, spec_ExtOf_eq (by omega) (by omega), Option.bind_some]
            have b4 := idxOf_lt (p := fun x : Ex => x.f0 == (nt zEx l i).f0) (z := zEx) hi (by simp)
            by_cases b5 : extOf l (nt zEx l i).f0 < (i : Int)
            · rw [if_pos b5, if_neg (by rw [b4.1 b5]; simp)]
            · rw [if_neg b5, if_pos (by
                have : ((l.take i).any fun x => x.f0 == (nt zEx l i).f0) = false := by
                  cases q : (l.take i).any fun x => x.f0 == (nt zEx l i).f0 with
                  | false => rfl
                  | true => exact absurd (b4.2 q) b5
                rw [this]; simp [b1, b2])]
        · rw [if_pos (by omega), if_neg (by simp [b2])]
      · rw [if_neg (by simp [b1]), if_neg (by simp [b1])]) l.length k 0 (by omega) (by omega)
  exact h

/-! ### spec_Mod -/
theorem spec_Mod_eq (a b : Int) : spec_Mod.f a b = some (modOf a b) := by
  unfold spec_Mod.f modOf
  rw [spec_l1In_eq, Option.bind_some]
  by_cases h : (1 : Int) ≤ b ∧ b ≤ 1000000000000
  · rw [decide_eq_true h, if_pos rfl, if_neg (by omega), if_pos h]
  · rw [decide_eq_false h, if_neg (by simp), if_neg h]

/-! ### spec_Hash -/
theorem spec_Hash_eq {l : List Int} {k : Nat} (hl : l.length ≤ 9223372036854775807) (hk : l.length < k) : spec_Hash.f k l = some (hashOf l) := by
  unfold spec_Hash.f
  have h := fold_loop (g := fun k s i => spec_Hash.l0 k l s (i : Int)) (n := l.length) (B := 0) (f := fun i s => hashStep s (nt 0 l i)) (fin := id) (fun _ _ => True) (fun k s _ => by
      simp only [spec_Hash.l0]; rw [if_neg (by omega)]; rfl)
    (fun k i s hi _ _ => by
      refine ⟨?_, trivial⟩
      simp only [spec_Hash.l0]
      rw [if_pos (by omega), if_pos (by omega), wrap_up (n := l.length) hi hl, rd_cast, spec_Mod_eq, Option.bind_some]; rfl) l.length k 0 11 (by omega) (by omega) trivial
  rw [foldFrom_list (f := hashStep)] at h
  exact h

/-! ### spec_PickOf -/
theorem spec_PickOf_eq {a b c : Int} {k : Nat} (hk : 2 < k) : spec_PickOf.f k a b c = some (pickOf a b c) := by
  unfold spec_PickOf.f pickOf
  rw [spec_Hash_eq (by simp) (by simpa using hk), Option.bind_some, spec_Mod_eq, Option.bind_some]
  by_cases h : c < 1
  · rw [if_pos h, if_pos h]
  · rw [if_neg h, if_neg h]

/-! ### spec_GreaseTag -/
theorem spec_GreaseTag_eq {a : Int} {k : Nat} (hk : 2 < k) : spec_GreaseTag.f k a = some (greaseTag a) := by
  unfold spec_GreaseTag.f greaseTag
  rw [spec_PickOf_eq hk, Option.bind_some]

/-! ### spec_AddGrease -/
theorem spec_AddGrease_last {l : List Ex} {s t : Int} {b : List Int} {k : Nat} (hl : l.length ≤ 6) (hk : 2 < k) : spec_AddGrease.l0 (k + 1) l s l 0 t b = some (l.take (greaseAt l s) ++ [⟨t, b⟩] ++ l.drop (greaseAt l s)) := by
  have p1 := pick_range (a := s) (b := 1) (c := (l.length : Int) + 1) (by omega) (by omega)
  have hg := greaseAt_le s hl
  unfold spec_AddGrease.l0
  rw [if_neg (by omega), wrap_id (by omega) (by omega), spec_PickOf_eq hk, Option.bind_some]
  simp only [Option.bind_some]
  rw [if_pos (by omega), if_pos (by omega), if_pos (by simp only [List.length_nil, List.length_take]; omega), if_pos (by simp only [List.length_append, List.length_nil, List.length_take, List.length_singleton]; omega), if_pos (by simp only [List.length_append, List.length_nil, List.length_take, List.length_singleton, List.length_drop]; omega)]
  rfl
theorem spec_AddGrease_step {l : List Ex} {s t c : Int} {b : List Int} {k : Nat} (hc : 1 ≤ c) (hc2 : c ≤ 2) (hb : b.length ≤ 2) (hk : 2 < k) : spec_AddGrease.l0 (k + 1) l s l c t b = spec_AddGrease.l0 k l s l (c - 1) t (b ++ [pickOf s 3 256]) := by
  rw [spec_AddGrease.l0]
  rw [if_pos (by omega), spec_PickOf_eq hk, Option.bind_some]
  simp only [Option.bind_some]
  rw [if_pos (by simp only [List.length_singleton]; omega), wrap_id (by omega) (by omega)]
theorem spec_AddGrease_loop {l : List Ex} {s t c : Int} {k : Nat} (hl : l.length ≤ 6) (hc : 0 ≤ c) (hc2 : c ≤ 2) (hk : 6 < k) : spec_AddGrease.l0 k l s l c t [] = some (l.take (greaseAt l s) ++ [⟨t, List.replicate c.toNat (pickOf s 3 256)⟩] ++ l.drop (greaseAt l s)) := by
  obtain ⟨k, rfl⟩ : ∃ j, k = j + 1 + 1 + 1 := ⟨k - 3, by omega⟩
  rcases (by omega : c = 0 ∨ c = 1 ∨ c = 2) with rfl | rfl | rfl
  · rw [spec_AddGrease_last hl (by omega)]; rfl
  · rw [spec_AddGrease_step (by omega) (by omega) (by simp) (by omega), show (1 : Int) - 1 = 0 from rfl, spec_AddGrease_last hl (by omega)]; rfl
  · rw [spec_AddGrease_step (by omega) (by omega) (by simp) (by omega), show (2 : Int) - 1 = 1 from rfl, spec_AddGrease_step (by omega) (by omega) (by simp) (by omega), show (1 : Int) - 1 = 0 from rfl, spec_AddGrease_last hl (by omega)]; rfl
theorem spec_AddGrease_eq {l : List Ex} {s : Int} {k : Nat} (hl : l.length ≤ 1048576) (hm : inEx l ≤ 1048576) (hk : 2 * l.length + 20 < k) : spec_AddGrease.f k l s = some (addGrease l s) := by
  unfold spec_AddGrease.f addGrease
  rw [spec_GreaseTag_eq (by omega), Option.bind_some, spec_l11Copy_eq hl hm (by omega), Option.bind_some, spec_AreExts_eq hl (by omega), Option.bind_some]
  obtain ⟨k, rfl⟩ : ∃ j, k = j + 1 := ⟨k - 1, by omega⟩
  have hj : ∀ t b, spec_AddGrease.j0 (k + 1) l s t l b = if b = true then some l else (spec_PickOf.f k s 2 3).bind fun c => spec_AddGrease.l0 k l s l c t [] := fun t b => by rw [spec_AddGrease.j0]
  by_cases ha : areExts l = true
  · have h6 := areExts_six ha
    rw [if_pos ha]
    by_cases h : (l.length : Int) ≥ 6
    · rw [if_pos h, hj, if_pos rfl, if_pos (.inr (.inl (by omega)))]
    · rw [if_neg h, spec_ExtOf_eq (by omega) (by omega), Option.bind_some, hj]
      by_cases hx : 0 ≤ extOf l (greaseTag s)
      · rw [if_pos (by simpa using hx), if_pos (.inr (.inr hx))]
      · have p2 := pick_range (a := s) (b := 2) (c := 3) (by omega) (by omega)
        rw [if_neg (by simpa using hx), if_neg (by
          rintro (h1 | h1 | h1)
          · rw [ha] at h1; cases h1
          · omega
          · exact hx h1), spec_PickOf_eq (by omega), Option.bind_some, spec_AddGrease_loop h6 (by omega) (by omega) (by omega)]
        rfl
  · have ha' : areExts l = false := by simpa using ha
    rw [if_neg ha, hj, if_pos rfl, if_pos (.inl ha')]

/-! ### impl_keptExts -/
theorem impl_keptExts_eq {f : Int → Option Bool} {p : Int → Bool} {l : List Ex} {k : Nat} (hf : ∀ x ∈ l, f x.f0 = some (p x.f0)) (hl : l.length ≤ 1048576) (hm : inEx l ≤ 1048576) (hk : l.length < k) : impl_keptExts.f (inst_ := ⟨f⟩) k l = some (l.filter fun x => p x.f0) := by
  unfold impl_keptExts.f
  have h := filter_loop (g := fun k acc i => impl_keptExts.l0 (inst_ := ⟨f⟩) k acc l (l.length : Int) (i : Int)) (l := l) (z := zEx) (B := 0) (p := fun x => p x.f0) (f := fun x => x) (fun k acc => by
      simp only [impl_keptExts.l0]; rw [if_neg (by omega)])
    (fun k i acc hi hk hacc => by
      have hx := inEx_mem (nt_mem zEx l i hi)
      simp only [impl_keptExts.l0, KEEP_impl_keptExts.f]
      rw [if_pos (by omega), if_pos (by omega), if_pos (by omega), rd_Ex, wrap_up (n := l.length) hi (by omega), hf _ (nt_mem zEx l i hi)]
      simp only [Option.bind_some, List.nil_append, List.length_nil, Nat.zero_add]
      cases p (nt zEx l i).f0 with
      | false => rfl
      | true => simp only [if_true]; rw [if_pos (by omega), if_pos (show acc.length < 4398046511104 by omega)]) l.length k 0 [] (by omega) (by omega) (by simp)
  simpa using h

/-! ### impl_copyExts -/
theorem impl_copyExts_eq {l : List Ex} {k : Nat} (hl : l.length ≤ 1048576) (hm : inEx l ≤ 1048576) (hk : l.length < k) : impl_copyExts.f k l = some l := by
  unfold impl_copyExts.f
  rw [impl_keptExts_eq (p := fun _ => true) (fun x _ => rfl) hl hm hk]
  congr 1
  exact List.filter_eq_self.2 (fun _ _ => rfl)

/-! ### impl_InRange -/
theorem impl_InRange_eq (a b c : Int) : impl_InRange.f a b c = some (decide (b ≤ a ∧ a ≤ c)) := by
  unfold impl_InRange.f
  by_cases h : b ≤ a
  · rw [if_pos h]; simp [h]
  · rw [if_neg h, decide_eq_false (by omega)]

/-! ### impl_ExtOf -/
theorem impl_ExtOf_eq (l : List Ex) (t : Int) : impl_ExtOf.f l t = some (extOf l t) := rfl

/-! ### impl_AreExts -/
theorem impl_areNumbers_eq (l : List Int) : impl_areNumbers.f l 0 255 = some (bytes l) := by
  unfold impl_areNumbers.f impl_areNumbers_any.f bytes
  rw [Option.bind_some]
  congr 1
  rw [Bool.eq_iff_iff]
  simp
theorem impl_AreExts_eq {l : List Ex} {k : Nat} (hl : l.length ≤ 1048576) (hk : l.length < k) : impl_AreExts.f k l = some (areExts l) := by
  unfold impl_AreExts.f
  have h := all_loop (g := fun k i => impl_AreExts.l0 k l l (l.length : Int) (i : Int)) (n := l.length) (B := 0) (ok := extOk l) (fin := decide (l.length ≤ 6)) (fun k => by
      simp only [impl_AreExts.l0]; rw [if_neg (by omega)]; congr 1; simp only [decide_eq_decide]; omega)
    (fun k i hi hk => by
      simp only [impl_AreExts.l0]
      rw [if_pos (by omega), if_pos (by omega), if_pos (by omega), wrap_up (n := l.length) hi (by omega), rd_Ex, impl_InRange_eq, Option.bind_some]
      unfold extOk
      by_cases b1 : 0 ≤ (nt zEx l i).f0 ∧ (nt zEx l i).f0 ≤ 255
      · rw [if_pos (by simp [b1]), if_pos (by omega), impl_ExtOf_eq, Option.bind_some, toNat_cast]
        have b4 := Hw.idxOf_any (fun x : Ex => x.f0 == (nt zEx l i).f0) (l.take i)
        by_cases b5 : extOf (l.take i) (nt zEx l i).f0 ≥ 0
        · rw [decide_eq_true (show Hw.idxOf (fun x : Ex => x.f0 == (nt zEx l i).f0) (l.take i) ≥ 0 from b5)] at b4
          rw [if_pos b5, if_neg (by rw [← b4]; simp)]
        · rw [decide_eq_false (show ¬ Hw.idxOf (fun x : Ex => x.f0 == (nt zEx l i).f0) (l.take i) ≥ 0 from b5)] at b4
          rw [if_neg b5]
          by_cases b2 : (nt zEx l i).f1.length ≤ 4
          · rw [if_neg (by omega), impl_areNumbers_eq, Option.bind_some, ← b4]
            cases b3 : bytes (nt zEx l i).f1 <;> simp [b1, b2]
          · rw [if_pos (by omega), if_neg (by simp [b2])]
      · rw [if_neg (by simp [b1]), if_neg (by simp [b1])]) l.length k 0 (by omega) (by omega)
  exact h

/-! ### impl_Mod -/
theorem impl_Mod_eq (a b : Int) : impl_Mod.f a b = some (modOf a b) := by
  unfold impl_Mod.f modOf
  rw [impl_InRange_eq, Option.bind_some]
  by_cases h : (1 : Int) ≤ b ∧ b ≤ 1000000000000
  · rw [decide_eq_true h, if_pos rfl, if_neg (by omega), if_pos h]
  · rw [decide_eq_false h, if_neg (by simp), if_neg h]

/-! ### impl_Hash -/
theorem impl_Hash_eq {l : List Int} {k : Nat} (hl : l.length ≤ 9223372036854775807) (hk : l.length < k) : impl_Hash.f k l = some (hashOf l) := by
  unfold impl_Hash.f
  have h := fold_loop (g := fun k s i => impl_Hash.l0 k s l (l.length : Int) (i : Int)) (n := l.length) (B := 0) (f := fun i s => hashStep s (nt 0 l i)) (fin := id) (fun _ _ => True) (fun k s _ => by
      simp only [impl_Hash.l0]; rw [if_neg (by omega)]; rfl)
    (fun k i s hi _ _ => by
      refine ⟨?_, trivial⟩
      simp only [impl_Hash.l0]
      rw [if_pos (by omega), if_pos (by omega), if_pos (by omega), wrap_up (n := l.length) hi hl, rd_cast, impl_Mod_eq, Option.bind_some]; rfl) l.length k 0 11 (by omega) (by omega) trivial
  rw [foldFrom_list (f := hashStep)] at h
  exact h

/-! ### impl_PickOf -/
theorem impl_PickOf_eq {a b c : Int} {k : Nat} (hk : 2 < k) : impl_PickOf.f k a b c = some (pickOf a b c) := by
  unfold impl_PickOf.f pickOf
  rw [impl_Hash_eq (by simp) (by simpa using hk), Option.bind_some, impl_Mod_eq, Option.bind_some]
  by_cases h : c < 1
  · rw [if_pos h, if_pos h]
  · rw [if_neg h, if_neg h]

/-! ### impl_GreaseTag -/
theorem impl_GreaseTag_eq {a : Int} {k : Nat} (hk : 2 < k) : impl_GreaseTag.f k a = some (greaseTag a) := by
  unfold impl_GreaseTag.f greaseTag
  rw [impl_PickOf_eq hk, Option.bind_some]

/-! ### impl_AddGrease -/
theorem impl_AddGrease_eq {l : List Ex} {s : Int} {k : Nat} (hl : l.length ≤ 1048576) (hm : inEx l ≤ 1048576) (hk : l.length + 5 < k) : impl_AddGrease.f k l s = some (addGrease l s) := by
  unfold impl_AddGrease.f
  rw [impl_copyExts_eq hl hm (by omega), Option.bind_some, impl_GreaseTag_eq (by omega), Option.bind_some, impl_AreExts_eq hl (by omega), Option.bind_some, impl_ExtOf_eq, Option.bind_some]
  unfold addGrease
  by_cases hq : areExts l = false ∨ (l.length : Int) = 6 ∨ 0 ≤ extOf l (greaseTag s)
  · rw [if_pos hq, if_pos hq]
  · rw [if_neg hq, if_neg hq, impl_PickOf_eq (by omega), Option.bind_some, impl_PickOf_eq (by omega), Option.bind_some, wrap_id (by omega) (by omega), impl_PickOf_eq (by omega), Option.bind_some]
    have ha : areExts l = true := by
      cases h : areExts l
      · exact absurd (.inl h) hq
      · rfl
    have h6 := areExts_six ha
    have p2 := pick_range (a := s) (b := 2) (c := 3) (by omega) (by omega)
    have p1 := pick_range (a := s) (b := 1) (c := (l.length : Int) + 1) (by omega) (by omega)
    rw [if_pos ⟨⟨by omega, by omega⟩, ⟨by omega, by omega⟩, by omega⟩]
    rfl

end FnExactAddGreaseAid
open FnExactAddGreaseAid

theorem FnExactAddGrease : laws_FnExactAddGrease.Pure := by
  intro l s hl hw hs
  obtain ⟨k, hk⟩ : ∃ k, k = 1048576 + 1048576 + 1048576 := ⟨_, rfl⟩
  refine ⟨k, ?_⟩
  unfold laws_FnExactAddGrease.f
  rw [laws_szExtS_eq (by omega) (by omega) hl (fun x hx => (hw x hx).2.1) (.inr (by omega)), Option.bind_some]
  by_cases hb : (1048576 : Int) < l.length + inLEx l
  · rw [if_pos hb, if_pos (by omega)]
  · rw [if_neg hb, if_neg (by omega)]
    obtain ⟨x, hx⟩ : ∃ x, x = l.map convEx := ⟨_, rfl⟩
    have hm : x.length = l.length := by rw [hx]; exact List.length_map ..
    have hi : inEx x = inLEx l := by rw [hx]; exact inEx_map l
    have f1 : laws_toExtS.f k l = some x := by rw [laws_toExtS_eq (by omega) (by omega) (by omega), hx]
    have f4 : laws_eqExtS.f k x x = some true := laws_eqExtS_self (by omega) (by omega) (by omega)
    have f6 : laws_markExtS.f k x 1 = some (1 + ((x.length : Int) + inEx x), markEx 1 x) := laws_markExtS_eq (by omega) (by omega) (by omega) (by omega) (by omega)
    have p1 : ¬ (1 + ((x.length : Int) + inEx x) < 0) := by omega
    obtain ⟨c, q⟩ : ∃ c : List Ex, c = addGrease x s := ⟨_, rfl⟩
    have hcd : c.length ≤ 1048576 ∧ inEx c ≤ 1048576 := by
      rcases addGrease_or x s with h | h
      · rw [q, h]; omega
      · rw [q]; omega
    obtain ⟨hc, hd⟩ := hcd
    have f2 : spec_AddGrease.f k x s = some c := by rw [spec_AddGrease_eq (by omega) (by omega) (by omega), q]
    have f3 : impl_AddGrease.f k x s = some c := by rw [impl_AddGrease_eq (by omega) (by omega) (by omega), q]
    have f5 : laws_eqExtS.f k c c = some true := laws_eqExtS_self (by omega) (by omega) (by omega)
    have f7 : laws_markExtS.f k c 1 = some (1 + ((c.length : Int) + inEx c), markEx 1 c) := laws_markExtS_eq (by omega) (by omega) (by omega) (by omega) (by omega)
    have f8 : laws_heldExtS.f k (markEx 1 c) 1 = some (1 + ((c.length : Int) + inEx c)) := laws_heldExtS_eq (by omega) (by omega) (by omega) (by omega) (by omega)
    have p2 : ¬ (1 + ((c.length : Int) + inEx c) < 0) := by omega
    simp only [f1, f2, f3, f4, f5, f6, f7, f8, p1, p2, Option.bind_some, Bool.false_eq_true, if_true, if_false, ↓reduceIte, bne_self_eq_false, Bool.not_true, Bool.not_false, Nat.le_add_right, Nat.le_refl]

end Go.Proofs.Ytbahcefcoplmpaa.Pure
