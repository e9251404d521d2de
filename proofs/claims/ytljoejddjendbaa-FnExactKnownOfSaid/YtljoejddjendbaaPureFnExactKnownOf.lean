/- KnownOf of the program and of the reference agree on every list of extensions and every list of tags, as a statement over lists alone; the bounds are those of memory. -/
import Derived.Test.YtljoejddjendbaaPFnExactKnownOfx5
import Derived.Test.YtljoejddjendbaaGb
import Derived.Test.YtljoejddjendbaaGr
namespace Go.Proofs.Ytljoejddjendbaa.Pure
open Go.RowKit Go.Proofs.Ytljoejddjendbaa.PFnExactKnownOf Go.Proofs.YtljoejddjendbaaW.PrintWords Go.Proofs.YtljoejddjendbaaW.PrintLast Go.Proofs.Ytljoejddjendbaa.Gb Go.Proofs.Ytljoejddjendbaa.Gr Go.Proofs.Ytljoejddjendbaa
set_option linter.unusedSimpArgs false
set_option linter.unusedVariables false
namespace FnExactKnownOfAid

/-! ### T_Ext -/
abbrev Ex := S61
abbrev LEx := S60
abbrev zEx : Ex := z61
abbrev zLEx : LEx := z60
theorem rd_Ex (l : List Ex) (i : Nat) : rd_T61 l (i : Int) = nt zEx l i := by simp [rd_T61, nt]
theorem rd_LEx (l : List LEx) (i : Nat) : rd_T60 l (i : Int) = nt zLEx l i := by simp [rd_T60, nt]
def convEx (x : LEx) : Ex := ⟨x.f0, x.f1⟩
/-- The lengths of the bodies. -/
def inEx : List Ex → Nat
  | [] => 0
  | x :: r => x.f1.length + inEx r
def inLEx : List LEx → Nat
  | [] => 0
  | x :: r => x.f1.length + inLEx r
theorem inEx_map (l : List LEx) : inEx (l.map convEx) = inLEx l := by
  induction l with
  | nil => rfl
  | cons x r ih => simp [inEx, inLEx, ih, convEx]
theorem inEx_mem {l : List Ex} {x : Ex} (h : x ∈ l) : x.f1.length ≤ inEx l := by
  induction l with
  | nil => simp at h
  | cons y r ih =>
    rcases List.mem_cons.1 h with rfl | h
    · simp [inEx]
    · have := ih h; simp [inEx]; omega
theorem inLEx_mem {l : List LEx} {x : LEx} (h : x ∈ l) : x.f1.length ≤ inLEx l := by
  induction l with
  | nil => simp at h
  | cons y r ih =>
    rcases List.mem_cons.1 h with rfl | h
    · simp [inLEx]
    · have := ih h; simp [inLEx]; omega
theorem inEx_filter (p : Ex → Bool) (l : List Ex) : inEx (l.filter p) ≤ inEx l := by
  induction l with
  | nil => simp
  | cons x r ih =>
    rw [List.filter_cons]
    by_cases h : p x = true
    · rw [if_pos h]; simp [inEx]; omega
    · rw [if_neg h]; simp [inEx]; omega

/-! ### laws_szExtS -/
theorem laws_szExtS_l0 {l : List LEx} (hl : l.length ≤ 9223372036854775807) (hw : ∀ x ∈ l, x.f1.length ≤ 9223372036854775807) : ∀ (d k i : Nat) (x : Int), i + d = l.length → d < k → 0 ≤ x → x ≤ 1048576 → laws_szExtS.l0 k l x (i : Int) = some (if x < inLEx (l.drop i) then -1 else x - inLEx (l.drop i)) := by
  intro d
  induction d with
  | zero =>
    intro k i x h hk h0 h1
    obtain ⟨k, rfl⟩ := succ_of hk
    obtain rfl : i = l.length := by omega
    simp only [laws_szExtS.l0]; rw [if_neg (by omega), drop_end, if_neg (by simp [inLEx]; omega)]; simp [inLEx]
  | succ d ih =>
    intro k i x h hk h0 h1
    obtain ⟨k, rfl⟩ := succ_of hk
    have hm := hw _ (nt_mem zLEx l i (by omega))
    simp only [laws_szExtS.l0]
    rw [if_pos (by omega), if_pos (by omega), rd_LEx, wrap_up (n := l.length) (by omega) hl, drop_step l zLEx i (by omega), show inLEx (nt zLEx l i :: l.drop (i + 1)) = (nt zLEx l i).f1.length + inLEx (l.drop (i + 1)) from rfl]
    simp only [laws_szExt.f, laws_szIntS.f]
    rw [wrap_id (by omega) (by omega)]
    by_cases hb : x - (nt zLEx l i).f1.length < 0
    · simp only [if_pos hb, Option.bind_some]; rw [if_pos (by omega), Option.bind_some, if_pos (by omega), if_pos (by omega)]
    · simp only [if_neg hb, Option.bind_some]; rw [ih k (i + 1) _ (by omega) (by omega) (by omega) (by omega)]
      by_cases hc : x - (nt zLEx l i).f1.length < (inLEx (l.drop (i + 1)) : Int)
      · rw [if_pos hc, if_pos (by omega)]
      · rw [if_neg hc, if_neg (by omega)]; congr 1; omega
theorem laws_szExtS_eq {l : List LEx} {a : Int} {k : Nat} (h0 : 0 ≤ a) (h1 : a ≤ 1048576) (hl : l.length ≤ 9223372036854775807) (hw : ∀ x ∈ l, x.f1.length ≤ 9223372036854775807) (hk : l.length < k ∨ 1048576 < k) : laws_szExtS.f k l a = some (if a < l.length + inLEx l then -1 else a - (l.length + inLEx l)) := by
  unfold laws_szExtS.f
  rw [wrap_id (by omega) (by omega)]
  by_cases hb : a - l.length < 0
  · rw [if_pos hb, if_pos (by omega)]
  · rw [if_neg hb]
    have h := laws_szExtS_l0 hl hw l.length k 0 (a - l.length) (by omega) (by omega) (by omega) (by omega)
    rw [Int.natCast_zero] at h
    rw [h, List.drop_zero]
    by_cases hc : a - l.length < (inLEx l : Int)
    · rw [if_pos hc, if_pos (by omega)]
    · rw [if_neg hc, if_neg (by omega)]; congr 1; omega

/-! ### laws_toIntS -/
theorem laws_toIntS_l0 (l : List Int) (hl : l.length ≤ 9223372036854775807) : ∀ (d k i : Nat), i + d = l.length → d < k → laws_toIntS.l0 k l (l.take i ++ List.replicate (l.length - i) 0) (i : Int) = some l := by
  intro d
  induction d with
  | zero =>
    intro k i h hk
    obtain ⟨k, rfl⟩ := succ_of hk
    obtain rfl : i = l.length := by omega
    simp only [laws_toIntS.l0]; rw [if_neg (by omega), take_all]
  | succ d ih =>
    intro k i h hk
    obtain ⟨k, rfl⟩ := succ_of hk
    simp only [laws_toIntS.l0]
    rw [if_pos (by omega), if_pos (by omega), if_pos (by rw [List.length_append, List.length_take, List.length_replicate]; omega), wrap_up (n := l.length) (by omega) hl, rd_cast, toNat_cast, set_grow _ _ _ (by omega)]
    exact ih k (i + 1) (by omega) (by omega)
theorem laws_toIntS_eq {l : List Int} {k : Nat} (hl : l.length ≤ 35184372088832) (hk : l.length < k) : laws_toIntS.f k l = some l := by
  unfold laws_toIntS.f
  rw [if_pos (by omega), toNat_cast, if_pos hl, ← take_none l 0]
  exact laws_toIntS_l0 l (by omega) l.length k 0 (by omega) hk

/-! ### laws_toExtS -/
theorem laws_toExtS_eq {l : List LEx} {k : Nat} (hl : l.length ≤ 1048576) (hm : inLEx l ≤ 1048576) (hk : l.length + inLEx l + 1 < k) : laws_toExtS.f k l = some (l.map convEx) := by
  unfold laws_toExtS.f
  rw [if_pos (by omega), toNat_cast, if_pos (by omega)]
  have h := map_loop (g := fun k acc i => laws_toExtS.l0 k l acc (i : Int)) (l := l) (z := zLEx) (zb := zEx) (f := convEx) (B := inLEx l + 1) (fun k acc ha => by
      simp only [laws_toExtS.l0]; rw [if_neg (by omega)])
    (fun k i acc hi hk ha => by
      have hx := inLEx_mem (nt_mem zLEx l i hi)
      simp only [laws_toExtS.l0]
      rw [if_pos (by omega), if_pos (by omega), rd_LEx]
      simp only [laws_toExt.f]
      rw [laws_toIntS_eq (by omega) (by omega)]
      simp only [Option.bind_some]
      rw [if_pos (by omega), wrap_up (n := l.length) hi (by omega), toNat_cast]; rfl) l.length k 0 (by omega) (by omega)
  simpa using h

/-! ### laws_eqIntS -/
theorem laws_eqIntS_l0 (a b : List Int) (hl : a.length ≤ 9223372036854775807) (he : b.length = a.length) : ∀ (d k i : Nat), i + d = a.length → d < k → laws_eqIntS.l0 k a b (i : Int) = some (decide (a.drop i = b.drop i)) := by
  intro d
  induction d with
  | zero =>
    intro k i h hk
    obtain ⟨k, rfl⟩ := succ_of hk
    obtain rfl : i = a.length := by omega
    simp only [laws_eqIntS.l0]; rw [if_neg (by omega), drop_end, ← he, drop_end, decide_eq_true rfl]
  | succ d ih =>
    intro k i h hk
    obtain ⟨k, rfl⟩ := succ_of hk
    simp only [laws_eqIntS.l0]
    rw [if_pos (by omega), if_pos (by omega), if_pos (by omega), wrap_up (n := a.length) (by omega) hl, rd_cast, rd_cast, drop_step a 0 i (by omega), drop_step b 0 i (by omega), ih k (i + 1) (by omega) (by omega)]
    by_cases e : nt 0 a i = nt 0 b i
    · rw [if_pos e, e]; simp
    · rw [if_neg e]; simp [e]
theorem laws_eqIntS_eq {a b : List Int} {k : Nat} (hl : a.length ≤ 9223372036854775807) (hk : a.length < k) : laws_eqIntS.f k a b = some (decide (a = b)) := by
  unfold laws_eqIntS.f
  by_cases e : a.length = b.length
  · rw [if_pos (by omega)]
    exact laws_eqIntS_l0 a b hl e.symm a.length k 0 (by omega) hk
  · rw [if_neg (by omega), decide_eq_false (fun h => e (by rw [h]))]
theorem laws_eqIntS_self {a : List Int} {k : Nat} (hl : a.length ≤ 9223372036854775807) (hk : a.length < k) : laws_eqIntS.f k a a = some true := by
  rw [laws_eqIntS_eq hl hk, decide_eq_true rfl]

/-! ### laws_eqExtS -/
theorem laws_eqExtS_self {l : List Ex} {k : Nat} (hl : l.length ≤ 9223372036854775807) (hm : inEx l ≤ 1048576) (hk : l.length + inEx l + 1 < k) : laws_eqExtS.f k l l = some true := by
  unfold laws_eqExtS.f
  rw [if_pos rfl]
  exact pass_loop (g := fun k i => laws_eqExtS.l0 k l l (i : Int)) (n := l.length) (B := inEx l + 1) (fun k => by
      simp only [laws_eqExtS.l0]; rw [if_neg (by omega)])
    (fun k i hi hk => by
      have hx := inEx_mem (nt_mem zEx l i hi)
      simp only [laws_eqExtS.l0]
      rw [if_pos (by omega), if_pos (by omega), if_pos (by omega), wrap_up (n := l.length) hi hl, rd_Ex]
      simp only [laws_eqExt.f, if_true]
      rw [laws_eqIntS_self (by omega) (by omega)]
      simp only [if_true, Option.bind_some]) l.length k 0 (by omega) (by omega)

/-! ### laws_markIntS -/
theorem laws_markIntS_l0 (l : List Int) (hl : l.length ≤ 4611686018427387904) (a : Int) (h0 : 0 ≤ a) (h1 : a ≤ 4611686018427387903) : ∀ (d k i : Nat), i + d = l.length → d < k → laws_markIntS.l0 k (seqFrom a i ++ l.drop i) (a + i) (i : Int) = some (a + l.length, seqFrom a l.length) := by
  intro d
  induction d with
  | zero =>
    intro k i h hk
    obtain ⟨k, rfl⟩ := succ_of hk
    obtain rfl : i = l.length := by omega
    simp only [laws_markIntS.l0]; rw [drop_end, List.append_nil, seqFrom_length, if_neg (by omega)]
  | succ d ih =>
    intro k i h hk
    obtain ⟨k, rfl⟩ := succ_of hk
    simp only [laws_markIntS.l0]
    rw [if_pos (by rw [List.length_append, List.length_drop, seqFrom_length]; omega), if_pos (by omega), wrap_up (n := l.length) (by omega) (by omega), toNat_cast, set_mark _ _ _ _ (seqFrom_length a i) (by omega), ← seqFrom_snoc, wrap_id (by omega) (by omega), Int.add_assoc]
    exact ih k (i + 1) (by omega) (by omega)
theorem laws_markIntS_eq {l : List Int} {a : Int} {k : Nat} (hl : l.length ≤ 4611686018427387904) (h0 : 0 ≤ a) (h1 : a ≤ 4611686018427387903) (hk : l.length < k) : laws_markIntS.f k l a = some (a + l.length, seqFrom a l.length) := by
  unfold laws_markIntS.f
  have h := laws_markIntS_l0 l hl a h0 h1 l.length k 0 (by omega) hk
  simp only [seqFrom, List.drop_zero, List.nil_append, Int.natCast_zero, Int.add_zero] at h
  exact h

/-! ### laws_markExtS -/
def markEx : Int → List Ex → List Ex
  | _, [] => []
  | a, x :: r => (⟨a, seqFrom (a + 1) x.f1.length⟩ : Ex) :: markEx (a + 1 + x.f1.length) r
theorem markEx_length (a : Int) (l : List Ex) : (markEx a l).length = l.length := by
  induction l generalizing a with
  | nil => rfl
  | cons x r ih => simp [markEx, ih]
theorem laws_markExtS_l0 : ∀ (rest done : List Ex) (k : Nat) (a : Int), done.length + rest.length ≤ 4611686018427387904 → 0 ≤ a → a + rest.length + inEx rest ≤ 4611686018427387903 → rest.length + inEx rest + 1 < k →
    laws_markExtS.l0 k (done ++ rest) a (done.length : Int) = some (a + (rest.length + inEx rest), done ++ markEx a rest) := by
  intro rest
  induction rest with
  | nil =>
    intro done k a hl h0 h1 hk
    obtain ⟨k, rfl⟩ := succ_of hk
    simp only [laws_markExtS.l0, List.append_nil]; rw [if_neg (by omega)]; simp [markEx, inEx]
  | cons x r ih =>
    intro done k a hl h0 h1 hk
    obtain ⟨k, rfl⟩ := succ_of hk
    simp only [inEx, List.length_cons] at hl h1 hk ⊢
    simp only [laws_markExtS.l0]
    rw [if_pos (by rw [len_at]; omega), if_pos (by omega), rd_Ex, nt_at, wrap_id (x := a + 1) (by omega) (by omega), laws_markIntS_eq (by omega) (by omega) (by omega) (by omega)]
    simp only [Option.bind_some, toNat_cast]
    rw [set_at, wrap_up (n := done.length + 1) (by omega) (by omega), ← len_snoc done (⟨a, seqFrom (a + 1) x.f1.length⟩ : Ex), ih _ k _ (by rw [len_snoc]; omega) (by omega) (by omega) (by omega)]
    simp only [markEx, List.append_assoc, List.singleton_append]
    congr 2; omega
theorem laws_markExtS_eq {l : List Ex} {a : Int} {k : Nat} (hl : l.length ≤ 1048576) (hm : inEx l ≤ 1048576) (h0 : 0 ≤ a) (h1 : a ≤ 1048576) (hk : l.length + inEx l + 1 < k) : laws_markExtS.f k l a = some (a + (l.length + inEx l), markEx a l) := by
  unfold laws_markExtS.f
  exact laws_markExtS_l0 l [] k a (by simp; omega) (by omega) (by omega) (by omega)

/-! ### laws_heldIntS -/
theorem laws_heldIntS_l0 (n : Nat) (hn : n ≤ 4611686018427387904) (a : Int) (h0 : 0 ≤ a) (h1 : a ≤ 4611686018427387903) : ∀ (d k i : Nat), i + d = n → d < k → laws_heldIntS.l0 k (seqFrom a n) (a + i) (i : Int) = some (a + n) := by
  intro d
  induction d with
  | zero =>
    intro k i h hk
    obtain ⟨k, rfl⟩ := succ_of hk
    obtain rfl : i = n := by omega
    simp only [laws_heldIntS.l0]; rw [seqFrom_length, if_neg (by omega)]
  | succ d ih =>
    intro k i h hk
    obtain ⟨k, rfl⟩ := succ_of hk
    simp only [laws_heldIntS.l0]
    rw [seqFrom_length, if_pos (by omega), if_pos (by omega), rd_cast, nt_seq a n i (by omega), if_pos rfl, wrap_up (n := n) (by omega) (by omega), wrap_id (by omega) (by omega), Int.add_assoc]
    exact ih k (i + 1) (by omega) (by omega)
theorem laws_heldIntS_eq {n : Nat} {a : Int} {k : Nat} (hn : n ≤ 4611686018427387904) (h0 : 0 ≤ a) (h1 : a ≤ 4611686018427387903) (hk : n < k) : laws_heldIntS.f k (seqFrom a n) a = some (a + n) := by
  unfold laws_heldIntS.f
  have h := laws_heldIntS_l0 n hn a h0 h1 n k 0 (by omega) hk
  simp only [Int.natCast_zero, Int.add_zero] at h
  exact h

/-! ### laws_heldExtS -/
theorem laws_heldExtS_l0 : ∀ (rest done : List Ex) (k : Nat) (a : Int), done.length + rest.length ≤ 4611686018427387904 → 0 ≤ a → a + rest.length + inEx rest ≤ 4611686018427387903 → rest.length + inEx rest + 1 < k →
    laws_heldExtS.l0 k (done ++ markEx a rest) a (done.length : Int) = some (a + (rest.length + inEx rest)) := by
  intro rest
  induction rest with
  | nil =>
    intro done k a hl h0 h1 hk
    obtain ⟨k, rfl⟩ := succ_of hk
    simp only [laws_heldExtS.l0, markEx, List.append_nil]; rw [if_neg (by omega)]; simp [inEx]
  | cons x r ih =>
    intro done k a hl h0 h1 hk
    obtain ⟨k, rfl⟩ := succ_of hk
    simp only [inEx, List.length_cons] at hl h1 hk ⊢
    rw [show markEx a (x :: r) = (⟨a, seqFrom (a + 1) x.f1.length⟩ : Ex) :: markEx (a + 1 + x.f1.length) r from rfl]
    simp only [laws_heldExtS.l0]
    rw [if_pos (by rw [len_at]; omega), if_pos (by omega), rd_Ex, nt_at, if_pos rfl, wrap_id (x := a + 1) (by omega) (by omega), laws_heldIntS_eq (by omega) (by omega) (by omega) (by omega)]
    simp only [Option.bind_some]
    rw [if_neg (by omega), wrap_up (n := done.length + 1) (by omega) (by omega)]
    have e := ih (done ++ [(⟨a, seqFrom (a + 1) x.f1.length⟩ : Ex)]) k (a + 1 + x.f1.length) (by rw [len_snoc]; omega) (by omega) (by omega) (by omega)
    rw [List.append_assoc, List.singleton_append, len_snoc] at e
    rw [e]; congr 1; omega
theorem laws_heldExtS_eq {l : List Ex} {a : Int} {k : Nat} (hl : l.length ≤ 1048576) (hm : inEx l ≤ 1048576) (h0 : 0 ≤ a) (h1 : a ≤ 1048576) (hk : l.length + inEx l + 1 < k) : laws_heldExtS.f k (markEx a l) a = some (a + (l.length + inEx l)) := by
  unfold laws_heldExtS.f
  exact laws_heldExtS_l0 l [] k a (by simp; omega) (by omega) (by omega) (by omega)

/-! ### spec_l9Has -/
theorem spec_l9Has_eq {l : List Int} {n : Int} {k : Nat} (hl : l.length ≤ 9223372036854775807) (hk : l.length < k) : spec_l9Has.f k l n = some (l.any (· == n)) := by
  unfold spec_l9Has.f
  have h := any_loop (g := fun k i => spec_l9Has.l0 k l n (i : Int)) (l := l) (z := 0) (B := 0) (p := (· == n)) (fun k => by
      simp only [spec_l9Has.l0]; rw [if_neg (by omega)])
    (fun k i hi _ => by
      simp only [spec_l9Has.l0]
      rw [if_pos (by omega), if_pos (by omega), wrap_up (n := l.length) hi hl, rd_cast]
      by_cases e : nt 0 l i = n
      · rw [if_pos e, if_pos (by simp [e])]
      · rw [if_neg e, if_neg (by simp [e])]) l.length k 0 (by omega) (by omega)
  exact h

/-! ### spec_KnownOf -/
def knownOf (l : List Ex) (t : List Int) : List Ex := l.filter fun x => t.any (· == x.f0)
theorem spec_KnownOf_eq {l : List Ex} {t : List Int} {k : Nat} (hl : l.length ≤ 1048576) (hm : inEx l ≤ 1048576) (ht : t.length ≤ 1048576) (hk : l.length + t.length + 1 < k) : spec_KnownOf.f k l t = some (knownOf l t) := by
  unfold spec_KnownOf.f
  have h := filter_loop (g := fun k acc i => spec_KnownOf.l0 k l t acc (i : Int)) (l := l) (z := zEx) (B := t.length + 1) (p := fun x => t.any (· == x.f0)) (f := fun x => x) (fun k acc => by
      simp only [spec_KnownOf.l0]; rw [if_neg (by omega)])
    (fun k i acc hi hk hacc => by
      have hx := inEx_mem (nt_mem zEx l i hi)
      simp only [spec_KnownOf.l0]
      rw [if_pos (by omega), if_pos (by omega), rd_Ex, wrap_up (n := l.length) hi (by omega), spec_l9Has_eq (by omega) (by omega)]
      simp only [Option.bind_some, List.nil_append, List.length_nil, Nat.zero_add]
      cases t.any (· == (nt zEx l i).f0) with
      | false => rfl
      | true => simp only [if_true]; rw [if_pos (by omega), if_pos (show acc.length < 4398046511104 by omega)]) l.length k 0 [] (by omega) (by omega) (by simp)
  simpa [knownOf] using h

/-! ### impl_keptExts -/
theorem impl_keptExts_eq {f : Int → Option Bool} {p : Int → Bool} {l : List Ex} {k : Nat} (hf : ∀ x ∈ l, f x.f0 = some (p x.f0)) (hl : l.length ≤ 1048576) (hm : inEx l ≤ 1048576) (hk : l.length < k) : impl_keptExts.f (inst_ := ⟨f⟩) k l = some (l.filter fun x => p x.f0) := by
  unfold impl_keptExts.f
  have h := filter_loop (g := fun k acc i => impl_keptExts.l0 (inst_ := ⟨f⟩) k acc l (l.length : Int) (i : Int)) (l := l) (z := zEx) (B := 0) (p := fun x => p x.f0) (f := fun x => x) (fun k acc => by
      simp only [impl_keptExts.l0]; rw [if_neg (by omega)])
    (fun k i acc hi hk hacc => by
      have hx := inEx_mem (nt_mem zEx l i hi)
      simp only [impl_keptExts.l0, KEEP_impl_keptExts.f]
      rw [if_pos (by omega), if_pos (by omega), if_pos (by omega), rd_Ex, wrap_up (n := l.length) hi (by omega), hf _ (nt_mem zEx l i hi)]
      simp only [Option.bind_some, List.nil_append, List.length_nil, Nat.zero_add]
      cases p (nt zEx l i).f0 with
      | false => rfl
      | true => simp only [if_true]; rw [if_pos (by omega), if_pos (show acc.length < 4398046511104 by omega)]) l.length k 0 [] (by omega) (by omega) (by simp)
  simpa using h

/-! ### slices_Index_int_int -/
theorem slices_Index_int_int_eq {l : List Int} {n : Int} {k : Nat} (hl : l.length ≤ 9223372036854775807) (hk : l.length < k) : slices_Index_int_int.f k l n = some ((l.findIdx? (· == n)).elim (-1) fun j => (j : Int)) := by
  unfold slices_Index_int_int.f
  have h := find_loop (g := fun k i => slices_Index_int_int.l0 k l n (l.length : Int) (i : Int)) (l := l) (z := 0) (B := 0) (p := (· == n)) (hit := fun j => (j : Int)) (miss := (-1 : Int)) (fun k => by
      simp only [slices_Index_int_int.l0]; rw [if_neg (by omega)])
    (fun k i hi _ => by
      simp only [slices_Index_int_int.l0]
      rw [if_pos (by omega), if_pos (by omega), if_pos (by omega), wrap_up (n := l.length) hi hl, rd_cast]
      by_cases e : nt 0 l i = n
      · rw [if_pos e.symm, if_pos (by simp [e])]
      · rw [if_neg (fun h => e h.symm), if_neg (by simp [e])]) l.length k 0 (by omega) (by omega)
  simpa using h

/-! ### slices_Contains_int_int -/
theorem slices_Contains_int_int_eq {l : List Int} {n : Int} {k : Nat} (hl : l.length ≤ 9223372036854775807) (hk : l.length < k) : slices_Contains_int_int.f k l n = some (l.any (· == n)) := by
  unfold slices_Contains_int_int.f
  rw [slices_Index_int_int_eq hl hk, Option.bind_some, idx_any]

/-! ### impl_KnownOf -/
theorem impl_KnownOf_eq {l : List Ex} {t : List Int} {k : Nat} (hl : l.length ≤ 1048576) (hm : inEx l ≤ 1048576) (ht : t.length ≤ 1048576) (hk : l.length < k) : impl_KnownOf.f k l t = some (knownOf l t) := by
  unfold impl_KnownOf.f impl_KnownOf_kept.f
  rw [impl_keptExts_eq (p := fun a => t.any (· == a)) (fun x _ => slices_Contains_int_int_eq (by omega) (by omega)) hl hm hk, Option.bind_some]; rfl

end FnExactKnownOfAid
open FnExactKnownOfAid

theorem FnExactKnownOf : laws_FnExactKnownOf.Pure := by
  intro l t hl hw htl _
  obtain ⟨k, hk⟩ : ∃ k, k = 4 * 1048576 + 5 := ⟨_, rfl⟩
  refine ⟨k, ?_⟩
  unfold laws_FnExactKnownOf.f
  by_cases ht : (t.length : Int) > 1048576
  · rw [if_pos ht]
  · rw [if_neg ht, laws_szExtS_eq (by omega) (by omega) hl (fun x hx => (hw x hx).2.1) (.inr (by omega)), Option.bind_some]
    by_cases hb : (1048576 : Int) < l.length + inLEx l
    · rw [if_pos hb, if_pos (by omega)]
    · rw [if_neg hb, if_neg (by omega)]
      obtain ⟨x, hx⟩ : ∃ x, x = l.map convEx := ⟨_, rfl⟩
      have hm : x.length = l.length := by rw [hx]; exact List.length_map ..
      have hi : inEx x = inLEx l := by rw [hx]; exact inEx_map l
      have f1 : laws_toExtS.f k l = some x := by rw [laws_toExtS_eq (by omega) (by omega) (by omega), hx]
      have f9 : laws_toIntS.f k t = some t := laws_toIntS_eq (by omega) (by omega)
      have f4 : laws_eqExtS.f k x x = some true := laws_eqExtS_self (by omega) (by omega) (by omega)
      have f10 : laws_eqIntS.f k t t = some true := laws_eqIntS_self (by omega) (by omega)
      have f6 : laws_markExtS.f k x 1 = some (1 + ((x.length : Int) + inEx x), markEx 1 x) := laws_markExtS_eq (by omega) (by omega) (by omega) (by omega) (by omega)
      have f11 : laws_markIntS.f k t (1 + ((x.length : Int) + inEx x)) = some (1 + ((x.length : Int) + inEx x) + (t.length : Int), seqFrom (1 + ((x.length : Int) + inEx x)) t.length) := laws_markIntS_eq (by omega) (by omega) (by omega) (by omega)
      have p1 : ¬ (1 + ((x.length : Int) + inEx x) + (t.length : Int) < 0) := by omega
      obtain ⟨c, q⟩ : ∃ c : List Ex, c = knownOf x t := ⟨_, rfl⟩
      have hc : c.length ≤ x.length := by rw [q]; exact List.length_filter_le _ _
      have hd : inEx c ≤ inEx x := by rw [q]; exact inEx_filter _ x
      have f2 : spec_KnownOf.f k x t = some c := by rw [spec_KnownOf_eq (by omega) (by omega) (by omega) (by omega), q]
      have f3 : impl_KnownOf.f k x t = some c := by rw [impl_KnownOf_eq (by omega) (by omega) (by omega) (by omega), q]
      have f5 : laws_eqExtS.f k c c = some true := laws_eqExtS_self (by omega) (by omega) (by omega)
      have f7 : laws_markExtS.f k c 1 = some (1 + ((c.length : Int) + inEx c), markEx 1 c) := laws_markExtS_eq (by omega) (by omega) (by omega) (by omega) (by omega)
      have f8 : laws_heldExtS.f k (markEx 1 c) 1 = some (1 + ((c.length : Int) + inEx c)) := laws_heldExtS_eq (by omega) (by omega) (by omega) (by omega) (by omega)
      have p2 : ¬ (1 + ((c.length : Int) + inEx c) < 0) := by omega
      simp only [f1, f2, f3, f4, f5, f6, f7, f8, f9, f10, f11, p1, p2, Option.bind_some, Bool.false_eq_true, if_true, if_false, ↓reduceIte, bne_self_eq_false, Bool.not_true, Bool.not_false, Nat.le_add_right, Nat.le_refl]

end Go.Proofs.Ytljoejddjendbaa.Pure
