/- DecodeExts of the program and of the reference agree on every list of numbers, as a statement over lists alone; the bounds are those of memory. -/
import Derived.Test.YtljoejddjendbaaPFnExactDecodeExtsx6
import Derived.Test.YtljoejddjendbaaGb
import Derived.Test.YtljoejddjendbaaGr
namespace Go.Proofs.Ytljoejddjendbaa.Pure
open Go.RowKit Go.Proofs.Ytljoejddjendbaa.PFnExactDecodeExts Go.Proofs.YtljoejddjendbaaW.PrintWords Go.Proofs.YtljoejddjendbaaW.PrintLast Go.Proofs.Ytljoejddjendbaa.Gb Go.Proofs.Ytljoejddjendbaa.Gr Go.Proofs.Ytljoejddjendbaa
set_option linter.unusedSimpArgs false
set_option linter.unusedVariables false
namespace FnExactDecodeExtsAid

/-! ### laws_toIntS -/
theorem laws_toIntS_l0 (l : List Int) (hl : l.length ≤ 9223372036854775807) : ∀ (d k i : Nat), i + d = l.length → d < k → laws_toIntS.l0 k l (l.take i ++ List.replicate (l.length - i) 0) (i : Int) = some l := by
  intro d
  induction d with
  | zero =>
    intro k i h hk
    obtain ⟨k, rfl⟩ := succ_of hk
    obtain rfl : i = l.length := by omega
    simp only [laws_toIntS.l0]; rw [if_neg (by omega), take_all]
  | succ d ih =>
    intro k i h hk
    obtain ⟨k, rfl⟩ := succ_of hk
    simp only [laws_toIntS.l0]
    rw [if_pos (by omega), if_pos (by omega), if_pos (by rw [List.length_append, List.length_take, List.length_replicate]; omega), wrap_up (n := l.length) (by omega) hl, rd_cast, toNat_cast, set_grow _ _ _ (by omega)]
    exact ih k (i + 1) (by omega) (by omega)
theorem laws_toIntS_eq {l : List Int} {k : Nat} (hl : l.length ≤ 35184372088832) (hk : l.length < k) : laws_toIntS.f k l = some l := by
  unfold laws_toIntS.f
  rw [if_pos (by omega), toNat_cast, if_pos hl, ← take_none l 0]
  exact laws_toIntS_l0 l (by omega) l.length k 0 (by omega) hk

/-! ### laws_eqIntS -/
theorem laws_eqIntS_l0 (a b : List Int) (hl : a.length ≤ 9223372036854775807) (he : b.length = a.length) : ∀ (d k i : Nat), i + d = a.length → d < k → laws_eqIntS.l0 k a b (i : Int) = some (decide (a.drop i = b.drop i)) := by
  intro d
  induction d with
  | zero =>
    intro k i h hk
    obtain ⟨k, rfl⟩ := succ_of hk
    obtain rfl : i = a.length := by omega
    simp only [laws_eqIntS.l0]; rw [if_neg (by omega), drop_end, ← he, drop_end, decide_eq_true rfl]
  | succ d ih =>
    intro k i h hk
    obtain ⟨k, rfl⟩ := succ_of hk
    simp only [laws_eqIntS.l0]
    rw [if_pos (by omega), if_pos (by omega), if_pos (by omega), wrap_up (n := a.length) (by omega) hl, rd_cast, rd_cast, drop_step a 0 i (by omega), drop_step b 0 i (by omega), ih k (i + 1) (by omega) (by omega)]
    by_cases e : nt 0 a i = nt 0 b i
    · rw [if_pos e, e]; simp
    · rw [if_neg e]; simp [e]
theorem laws_eqIntS_eq {a b : List Int} {k : Nat} (hl : a.length ≤ 9223372036854775807) (hk : a.length < k) : laws_eqIntS.f k a b = some (decide (a = b)) := by
  unfold laws_eqIntS.f
  by_cases e : a.length = b.length
  · rw [if_pos (by omega)]
    exact laws_eqIntS_l0 a b hl e.symm a.length k 0 (by omega) hk
  · rw [if_neg (by omega), decide_eq_false (fun h => e (by rw [h]))]
theorem laws_eqIntS_self {a : List Int} {k : Nat} (hl : a.length ≤ 9223372036854775807) (hk : a.length < k) : laws_eqIntS.f k a a = some true := by
  rw [laws_eqIntS_eq hl hk, decide_eq_true rfl]

/-! ### laws_markIntS -/
theorem laws_markIntS_l0 (l : List Int) (hl : l.length ≤ 4611686018427387904) (a : Int) (h0 : 0 ≤ a) (h1 : a ≤ 4611686018427387903) : ∀ (d k i : Nat), i + d = l.length → d < k → laws_markIntS.l0 k (seqFrom a i ++ l.drop i) (a + i) (i : Int) = some (a + l.length, seqFrom a l.length) := by
  intro d
  induction d with
  | zero =>
    intro k i h hk
    obtain ⟨k, rfl⟩ := succ_of hk
    obtain rfl : i = l.length := by omega
    simp only [laws_markIntS.l0]; rw [drop_end, List.append_nil, seqFrom_length, if_neg (by omega)]
  | succ d ih =>
    intro k i h hk
    obtain ⟨k, rfl⟩ := succ_of hk
    simp only [laws_markIntS.l0]
    rw [if_pos (by rw [List.length_append, List.length_drop, seqFrom_length]; omega), if_pos (by omega), wrap_up (n := l.length) (by omega) (by omega), toNat_cast, set_mark _ _ _ _ (seqFrom_length a i) (by omega), ← seqFrom_snoc, wrap_id (by omega) (by omega), Int.add_assoc]
    exact ih k (i + 1) (by omega) (by omega)
theorem laws_markIntS_eq {l : List Int} {a : Int} {k : Nat} (hl : l.length ≤ 4611686018427387904) (h0 : 0 ≤ a) (h1 : a ≤ 4611686018427387903) (hk : l.length < k) : laws_markIntS.f k l a = some (a + l.length, seqFrom a l.length) := by
  unfold laws_markIntS.f
  have h := laws_markIntS_l0 l hl a h0 h1 l.length k 0 (by omega) hk
  simp only [seqFrom, List.drop_zero, List.nil_append, Int.natCast_zero, Int.add_zero] at h
  exact h

/-! ### T_Ex -/
abbrev Ex := S61
abbrev zEx : Ex := z61
theorem rd_Ex (l : List Ex) (i : Nat) : rd_T61 l (i : Int) = nt zEx l i := by simp [rd_T61, nt]
/-- The lengths of the bodies. -/
def inEx : List Ex → Nat
  | [] => 0
  | x :: r => x.f1.length + inEx r
theorem inEx_mem {l : List Ex} {x : Ex} (h : x ∈ l) : x.f1.length ≤ inEx l := by
  induction l with
  | nil => simp at h
  | cons y r ih =>
    rcases List.mem_cons.1 h with rfl | h
    · simp [inEx]
    · have := ih h; simp [inEx]; omega
theorem inEx_filter (p : Ex → Bool) (l : List Ex) : inEx (l.filter p) ≤ inEx l := by
  induction l with
  | nil => simp
  | cons x r ih =>
    rw [List.filter_cons]
    by_cases h : p x = true
    · rw [if_pos h]; simp [inEx]; omega
    · rw [if_neg h]; simp [inEx]; omega

/-! ### laws_eqExtS -/
theorem laws_eqExtS_self {l : List Ex} {k : Nat} (hl : l.length ≤ 9223372036854775807) (hm : inEx l ≤ 1048576) (hk : l.length + inEx l + 1 < k) : laws_eqExtS.f k l l = some true := by
  unfold laws_eqExtS.f
  rw [if_pos rfl]
  exact pass_loop (g := fun k i => laws_eqExtS.l0 k l l (i : Int)) (n := l.length) (B := inEx l + 1) (fun k => by
      simp only [laws_eqExtS.l0]; rw [if_neg (by omega)])
    (fun k i hi hk => by
      have hx := inEx_mem (nt_mem zEx l i hi)
      simp only [laws_eqExtS.l0]
      rw [if_pos (by omega), if_pos (by omega), if_pos (by omega), wrap_up (n := l.length) hi hl, rd_Ex]
      simp only [laws_eqExt.f, if_true]
      rw [laws_eqIntS_self (by omega) (by omega)]
      simp only [if_true, Option.bind_some]) l.length k 0 (by omega) (by omega)

/-! ### laws_markExtS -/
def markEx : Int → List Ex → List Ex
  | _, [] => []
  | a, x :: r => (⟨a, seqFrom (a + 1) x.f1.length⟩ : Ex) :: markEx (a + 1 + x.f1.length) r
theorem markEx_length (a : Int) (l : List Ex) : (markEx a l).length = l.length := by
  induction l generalizing a with
  | nil => rfl
  | cons x r ih => simp [markEx, ih]
theorem laws_markExtS_l0 : ∀ (rest done : List Ex) (k : Nat) (a : Int), done.length + rest.length ≤ 4611686018427387904 → 0 ≤ a → a + rest.length + inEx rest ≤ 4611686018427387903 → rest.length + inEx rest + 1 < k →
    laws_markExtS.l0 k (done ++ rest) a (done.length : Int) = some (a + (rest.length + inEx rest), done ++ markEx a rest) := by
  intro rest
  induction rest with
  | nil =>
    intro done k a hl h0 h1 hk
    obtain ⟨k, rfl⟩ := succ_of hk
    simp only [laws_markExtS.l0, List.append_nil]; rw [if_neg (by omega)]; simp [markEx, inEx]
  | cons x r ih =>
    intro done k a hl h0 h1 hk
    obtain ⟨k, rfl⟩ := succ_of hk
    simp only [inEx, List.length_cons] at hl h1 hk ⊢
    simp only [laws_markExtS.l0]
    rw [if_pos (by rw [len_at]; omega), if_pos (by omega), rd_Ex, nt_at, wrap_id (x := a + 1) (by omega) (by omega), laws_markIntS_eq (by omega) (by omega) (by omega) (by omega)]
    simp only [Option.bind_some, toNat_cast]
    rw [set_at, wrap_up (n := done.length + 1) (by omega) (by omega), ← len_snoc done (⟨a, seqFrom (a + 1) x.f1.length⟩ : Ex), ih _ k _ (by rw [len_snoc]; omega) (by omega) (by omega) (by omega)]
    simp only [markEx, List.append_assoc, List.singleton_append]
    congr 2; omega
theorem laws_markExtS_eq {l : List Ex} {a : Int} {k : Nat} (hl : l.length ≤ 1048576) (hm : inEx l ≤ 1048576) (h0 : 0 ≤ a) (h1 : a ≤ 1048576) (hk : l.length + inEx l + 1 < k) : laws_markExtS.f k l a = some (a + (l.length + inEx l), markEx a l) := by
  unfold laws_markExtS.f
  exact laws_markExtS_l0 l [] k a (by simp; omega) (by omega) (by omega) (by omega)

/-! ### laws_heldIntS -/
theorem laws_heldIntS_l0 (n : Nat) (hn : n ≤ 4611686018427387904) (a : Int) (h0 : 0 ≤ a) (h1 : a ≤ 4611686018427387903) : ∀ (d k i : Nat), i + d = n → d < k → laws_heldIntS.l0 k (seqFrom a n) (a + i) (i : Int) = some (a + n) := by
  intro d
  induction d with
  | zero =>
    intro k i h hk
    obtain ⟨k, rfl⟩ := succ_of hk
    obtain rfl : i = n := by omega
    simp only [laws_heldIntS.l0]; rw [seqFrom_length, if_neg (by omega)]
  | succ d ih =>
    intro k i h hk
    obtain ⟨k, rfl⟩ := succ_of hk
    simp only [laws_heldIntS.l0]
    rw [seqFrom_length, if_pos (by omega), if_pos (by omega), rd_cast, nt_seq a n i (by omega), if_pos rfl, wrap_up (n := n) (by omega) (by omega), wrap_id (by omega) (by omega), Int.add_assoc]
    exact ih k (i + 1) (by omega) (by omega)
theorem laws_heldIntS_eq {n : Nat} {a : Int} {k : Nat} (hn : n ≤ 4611686018427387904) (h0 : 0 ≤ a) (h1 : a ≤ 4611686018427387903) (hk : n < k) : laws_heldIntS.f k (seqFrom a n) a = some (a + n) := by
  unfold laws_heldIntS.f
  have h := laws_heldIntS_l0 n hn a h0 h1 n k 0 (by omega) hk
  simp only [Int.natCast_zero, Int.add_zero] at h
  exact h

/-! ### laws_heldExtS -/
theorem laws_heldExtS_l0 : ∀ (rest done : List Ex) (k : Nat) (a : Int), done.length + rest.length ≤ 4611686018427387904 → 0 ≤ a → a + rest.length + inEx rest ≤ 4611686018427387903 → rest.length + inEx rest + 1 < k →
    laws_heldExtS.l0 k (done ++ markEx a rest) a (done.length : Int) = some (a + (rest.length + inEx rest)) := by
  intro rest
  induction rest with
  | nil =>
    intro done k a hl h0 h1 hk
    obtain ⟨k, rfl⟩ := succ_of hk
    simp only [laws_heldExtS.l0, markEx, List.append_nil]; rw [if_neg (by omega)]; simp [inEx]
  | cons x r ih =>
    intro done k a hl h0 h1 hk
    obtain ⟨k, rfl⟩ := succ_of hk
    simp only [inEx, List.length_cons] at hl h1 hk ⊢
    rw [show markEx a (x :: r) = (⟨a, seqFrom (a + 1) x.f1.length⟩ : Ex) :: markEx (a + 1 + x.f1.length) r from rfl]
    simp only [laws_heldExtS.l0]
    rw [if_pos (by rw [len_at]; omega), if_pos (by omega), rd_Ex, nt_at, if_pos rfl, wrap_id (x := a + 1) (by omega) (by omega), laws_heldIntS_eq (by omega) (by omega) (by omega) (by omega)]
    simp only [Option.bind_some]
    rw [if_neg (by omega), wrap_up (n := done.length + 1) (by omega) (by omega)]
    have e := ih (done ++ [(⟨a, seqFrom (a + 1) x.f1.length⟩ : Ex)]) k (a + 1 + x.f1.length) (by rw [len_snoc]; omega) (by omega) (by omega) (by omega)
    rw [List.append_assoc, List.singleton_append, len_snoc] at e
    rw [e]; congr 1; omega
theorem laws_heldExtS_eq {l : List Ex} {a : Int} {k : Nat} (hl : l.length ≤ 1048576) (hm : inEx l ≤ 1048576) (h0 : 0 ≤ a) (h1 : a ≤ 1048576) (hk : l.length + inEx l + 1 < k) : laws_heldExtS.f k (markEx a l) a = some (a + (l.length + inEx l)) := by
  unfold laws_heldExtS.f
  exact laws_heldExtS_l0 l [] k a (by simp; omega) (by omega) (by omega) (by omega)

/-! ### spec_ExtOf -/
def extOf (l : List Ex) (t : Int) : Int := Hw.idxOf (fun x => x.f0 == t) l
theorem spec_ExtOf_eq {l : List Ex} {t : Int} {k : Nat} (hl : l.length ≤ 9223372036854775807) (hk : l.length < k) : spec_ExtOf.f k l t = some (extOf l t) := by
  unfold spec_ExtOf.f
  have h := find_loop (g := fun k i => spec_ExtOf.l0 k l t (i : Int)) (l := l) (z := zEx) (B := 0) (p := fun x => x.f0 == t) (hit := fun j => (j : Int)) (miss := (-1 : Int)) (fun k => by
      simp only [spec_ExtOf.l0]; rw [if_neg (by omega)])
    (fun k i hi _ => by
      simp only [spec_ExtOf.l0]
      rw [if_pos (by omega), if_pos (by omega), wrap_up (n := l.length) hi hl, rd_Ex]
      by_cases e : (nt zEx l i).f0 = t
      · rw [if_pos e, if_pos (by simp [e])]
      · rw [if_neg e, if_neg (by simp [e])]) l.length k 0 (by omega) (by omega)
  simpa [extOf, Hw.idxOf] using h

/-! ### T_AreExts -/
def bytes (l : List Int) : Bool := l.all fun x => decide (0 ≤ x ∧ x ≤ 255)
/-- Extension i is one, and its tag is none of those ahead of it. -/
def extOk (l : List Ex) (i : Nat) : Bool := decide (0 ≤ (nt zEx l i).f0 ∧ (nt zEx l i).f0 ≤ 255) && (decide ((nt zEx l i).f1.length ≤ 4) && (bytes (nt zEx l i).f1 && !(l.take i).any fun x => x.f0 == (nt zEx l i).f0))
def areExts (l : List Ex) : Bool := allFrom (extOk l) 0 l.length && decide (l.length ≤ 6)
theorem idxOf_lt {α : Type} {p : α → Bool} {l : List α} {z : α} {i : Nat} (hi : i < l.length) (hp : p (nt z l i) = true) : Hw.idxOf p l < (i : Int) ↔ (l.take i).any p = true := by
  unfold Hw.idxOf
  rw [List.any_eq_true]
  cases e : l.findIdx? p with
  | none =>
    rw [List.findIdx?_eq_none_iff] at e
    have := e _ (nt_mem z l i hi)
    rw [hp] at this; cases this
  | some j =>
    obtain ⟨h1, h2, h3⟩ := List.findIdx?_eq_some_iff_getElem.1 e
    simp only [Option.elim]
    constructor
    · intro h
      exact ⟨l[j], List.mem_take_iff_getElem.2 ⟨j, by omega, rfl⟩, h2⟩
    · rintro ⟨x, hx, hq⟩
      obtain ⟨j', hj', rfl⟩ := List.mem_take_iff_getElem.1 hx
      by_cases h : j' < j
      · have h4 := h3 j' h
        rw [hq] at h4; exact absurd rfl h4
      · omega
theorem areExts_len' {l : List Ex} (h : areExts l = true) : ∀ x ∈ l, x.f1.length ≤ 4 := by
  unfold areExts at h
  rw [Bool.and_eq_true, allFrom_iff, decide_eq_true_eq] at h
  intro x hx
  obtain ⟨j, hj, rfl⟩ := List.mem_iff_getElem.1 hx
  have := h.1 j (by omega) (by omega)
  unfold extOk at this
  simp only [Bool.and_eq_true, decide_eq_true_eq] at this
  have h4 := this.2.1
  rwa [nt_lt _ _ _ hj] at h4
theorem areExts_six {l : List Ex} (h : areExts l = true) : l.length ≤ 6 := by
  unfold areExts at h
  rw [Bool.and_eq_true, decide_eq_true_eq] at h
  exact h.2
theorem inEx_four : ∀ (l : List Ex), (∀ x ∈ l, x.f1.length ≤ 4) → inEx l ≤ 4 * l.length
  | [], _ => by simp [inEx]
  | x :: r, h => by
    have h1 := inEx_four r (fun y hy => h y (List.mem_cons_of_mem _ hy))
    have h2 := h x (by simp)
    simp only [inEx, List.length_cons]; omega

/-! ### T_Decode -/
/-- The extensions that bytes hold, all of them. -/
def allF : Nat → List Int → Option (List Ex)
  | _, [] => some []
  | _, [_] => none
  | 0, _ :: _ :: _ => none
  | f + 1, t :: n :: s => if 0 ≤ n ∧ n ≤ s.length then (allF f (s.drop n.toNat)).map fun xs => (⟨t, s.take n.toNat⟩ : Ex) :: xs else none
/-- m extensions, and nothing behind them. -/
def cntF : Nat → List Int → Option (List Ex)
  | 0, [] => some []
  | 0, _ :: _ => none
  | _ + 1, [] => none
  | _ + 1, [_] => none
  | m + 1, t :: n :: s => if 0 ≤ n ∧ (n ≤ 4 ∧ n ≤ s.length) then (cntF m (s.drop n.toNat)).map fun xs => (⟨t, s.take n.toNat⟩ : Ex) :: xs else none
def decodeExts (b : List Int) : List Ex × Bool :=
  match b with
  | [] => ([], false)
  | c :: r => match allF r.length r with
    | none => ([], false)
    | some xs => if (xs.length : Int) = c ∧ areExts xs = true then (xs, true) else ([], false)
theorem cnt_all : ∀ (m f : Nat) (r : List Int) (xs : List Ex), r.length ≤ f → cntF m r = some xs → allF f r = some xs ∧ xs.length = m
  | 0, _, [], xs, _, h => by simp only [cntF, Option.some.injEq] at h; subst h; exact ⟨by simp [allF], rfl⟩
  | 0, _, _ :: _, xs, _, h => by simp [cntF] at h
  | m + 1, _, [], xs, _, h => by simp [cntF] at h
  | m + 1, _, [_], xs, _, h => by simp [cntF] at h
  | m + 1, 0, t :: n :: s, xs, hf, h => by simp at hf
  | m + 1, f + 1, t :: n :: s, xs, hf, h => by
    simp only [cntF] at h
    by_cases q : 0 ≤ n ∧ (n ≤ 4 ∧ n ≤ s.length)
    · rw [if_pos q, Option.map_eq_some_iff] at h
      obtain ⟨ys, h1, rfl⟩ := h
      obtain ⟨h2, h3⟩ := cnt_all m f (s.drop n.toNat) ys (by rw [List.length_drop]; simp only [List.length_cons] at hf; omega) h1
      refine ⟨?_, by simp [h3]⟩
      simp only [allF]
      rw [if_pos ⟨q.1, q.2.2⟩, h2]; rfl
    · rw [if_neg q] at h; cases h
theorem all_cnt : ∀ (f : Nat) (r : List Int) (xs : List Ex), allF f r = some xs → (∀ x ∈ xs, x.f1.length ≤ 4) → cntF xs.length r = some xs
  | f, [], xs, h, _ => by simp only [allF, Option.some.injEq] at h; subst h; rfl
  | f, [_], xs, h, _ => by simp [allF] at h
  | 0, _ :: _ :: _, xs, h, _ => by simp [allF] at h
  | f + 1, t :: n :: s, xs, h, hx => by
    simp only [allF] at h
    by_cases q : 0 ≤ n ∧ n ≤ s.length
    · rw [if_pos q, Option.map_eq_some_iff] at h
      obtain ⟨ys, h1, rfl⟩ := h
      have h2 := all_cnt f _ ys h1 (fun x hx' => hx x (List.mem_cons_of_mem _ hx'))
      have h4 := hx _ (List.mem_cons_self ..)
      have h5 : n ≤ 4 := by rw [List.length_take] at h4; omega
      simp only [List.length_cons, cntF]
      rw [if_pos ⟨q.1, h5, q.2⟩, h2]; rfl
    · rw [if_neg q] at h; cases h
theorem decode_ok {b : List Int} : (decodeExts b).1 = [] ∨ areExts (decodeExts b).1 = true := by
  unfold decodeExts
  split
  · exact .inl rfl
  · split
    · exact .inl rfl
    · split
      · rename_i h; exact .inr h.2
      · exact .inl rfl
theorem drop_two {b : List Int} {i : Nat} (h : i + 1 < b.length) : b.drop i = nt 0 b i :: nt 0 b (i + 1) :: b.drop (i + 2) := by
  rw [drop_step b 0 i (by omega), drop_step b 0 (i + 1) h]
theorem cut_row {b : List Int} {i n : Nat} : (b.take (i + 2 + n)).drop (i + 2) = (b.drop (i + 2)).take n := by
  rw [List.drop_take, show i + 2 + n - (i + 2) = n by omega]

/-! ### spec_l1In -/
theorem spec_l1In_eq (a b c : Int) : spec_l1In.f a b c = some (decide (b ≤ a ∧ a ≤ c)) := by
  unfold spec_l1In.f
  by_cases h : a ≥ b
  · rw [if_pos h]; simp [show b ≤ a from h]
  · rw [if_neg h, decide_eq_false (by omega)]

/-! ### spec_AreExts -/
theorem spec_l9Byte_eq {l : List Int} {k : Nat} (hl : l.length ≤ 9223372036854775807) (hk : l.length < k) : spec_l9Byte.f k l = some (bytes l) := by
  unfold spec_l9Byte.f
  have h := all_loop (g := fun k i => spec_l9Byte.l0 k l (i : Int)) (n := l.length) (B := 0) (ok := fun i => (fun x : Int => decide (0 ≤ x ∧ x ≤ 255)) (nt 0 l i)) (fin := true) (fun k => by
      simp only [spec_l9Byte.l0]; rw [if_neg (by omega)])
    (fun k i hi _ => by
      simp only [spec_l9Byte.l0]
      rw [if_pos (by omega), if_pos (by omega), wrap_up (n := l.length) hi hl, rd_cast, spec_l1In_eq, Option.bind_some]) l.length k 0 (by omega) (by omega)
  exact (h.trans (congrArg (fun b => some (b && true)) (allFrom_all (fun x : Int => decide (0 ≤ x ∧ x ≤ 255)) 0 l))).trans (by simp [bytes])
theorem spec_AreExts_eq {l : List Ex} {k : Nat} (hl : l.length ≤ 1048576) (hk : 2 * l.length + 10 < k) : spec_AreExts.f k l = some (areExts l) := by
  unfold spec_AreExts.f
  have h := all_loop (g := fun k i => spec_AreExts.l0 k l (i : Int)) (n := l.length) (B := l.length + 6) (ok := extOk l) (fin := decide (l.length ≤ 6)) (fun k => by
      simp only [spec_AreExts.l0]; rw [if_neg (by omega)]; congr 1; simp only [decide_eq_decide]; omega)
    (fun k i hi hk => by
      simp only [spec_AreExts.l0]
      rw [if_pos (by omega), if_pos (by omega), wrap_up (n := l.length) hi (by omega), rd_Ex, spec_l1In_eq, Option.bind_some]
      unfold extOk
      by_cases b1 : 0 ≤ (nt zEx l i).f0 ∧ (nt zEx l i).f0 ≤ 255
      · rw [if_pos (by simp [b1])]
        by_cases b2 : (nt zEx l i).f1.length ≤ 4
        · rw [if_neg (by omega), spec_l9Byte_eq (by omega) (by omega), Option.bind_some]
          cases b3 : bytes (nt zEx l i).f1 with
          | false => rw [if_neg (by simp), if_neg (by simp)]
          | true =>
            rw [if_pos rfl, spec_ExtOf_eq (by omega) (by omega), Option.bind_some]
            have b4 := idxOf_lt (p := fun x : Ex => x.f0 == (nt zEx l i).f0) (z := zEx) hi (by simp)
            by_cases b5 : extOf l (nt zEx l i).f0 < (i : Int)
            · rw [if_pos b5, if_neg (by rw [b4.1 b5]; simp)]
            · rw [if_neg b5, if_pos (by
                have : ((l.take i).any fun x => x.f0 == (nt zEx l i).f0) = false := by
                  cases q : (l.take i).any fun x => x.f0 == (nt zEx l i).f0 with
                  | false => rfl
                  | true => exact absurd (b4.2 q) b5
                rw [this]; simp [b1, b2])]
        · rw [if_pos (by omega), if_neg (by simp [b2])]
      · rw [if_neg (by simp [b1]), if_neg (by simp [b1])]) l.length k 0 (by omega) (by omega)
  exact h

/-! ### spec_DecodeExts -/
theorem spec_DecodeExts_in {b : List Int} (hb : b.length ≤ 1048576) {k i n : Nat} {out : List Ex} {R : List Int} {X : Option (List Ex × Bool)} (q : i + 1 < b.length) (ho : out.length ≤ i) (hn : nt 0 b (i + 1) = n) (q2 : n ≤ b.length - (i + 2)) (hR : R = (b.drop (i + 2)).take n)
    (hih : spec_DecodeExts.l0 k b (out ++ [(⟨nt 0 b i, R⟩ : Ex)]) ((i + 2 + n : Nat) : Int) = X) : spec_DecodeExts.l0 (k + 1) b out (i : Int) = X := by
  have hRl : R.length ≤ 1048576 := by rw [hR, List.length_take, List.length_drop]; omega
  have hd : (0 : Int) ≤ (n : Int) ∧ (n : Int) ≤ (b.length : Int) - i - 2 := by omega
  have e0 : wrap64 ((i : Int) + 1) = ((i + 1 : Nat) : Int) := by rw [wrap_id (by omega) (by omega)]; omega
  have e1 : wrap64 ((i : Int) + 2) = ((i + 2 : Nat) : Int) := by rw [wrap_id (by omega) (by omega)]; omega
  have e2 : wrap64 (((i + 2 : Nat) : Int) + n) = ((i + 2 + n : Nat) : Int) := by rw [wrap_id (by omega) (by omega)]; omega
  have e3 : wrap64 ((b.length : Int) - i) = (b.length : Int) - i := wrap_id (by omega) (by omega)
  have e4 : wrap64 ((b.length : Int) - i - 2) = (b.length : Int) - i - 2 := wrap_id (by omega) (by omega)
  have c0 : ((i + 1 : Nat) : Int) < (b.length : Int) := by omega
  have c1 : (0 : Int) ≤ ((i + 1 : Nat) : Int) := by omega
  have c2 : (0 : Int) ≤ (i : Int) := by omega
  have c3 : (i : Int) < (b.length : Int) := by omega
  have g1 : (0 : Int) ≤ ((i + 2 : Nat) : Int) := by omega
  have g2 : ((i + 2 : Nat) : Int) ≤ ((i + 2 + n : Nat) : Int) := by omega
  have g3 : ((i + 2 + n : Nat) : Int) ≤ (b.length : Int) := by omega
  have g4 : R.length < 17592186044416 := by omega
  have g5 : out.length < 4398046511104 := by omega
  simp only [spec_DecodeExts.l0, e0]
  rw [if_pos c0, if_pos c1, e3, e4, rd_cast, hn, spec_l1In_eq, Option.bind_some, if_pos (decide_eq_true hd)]
  simp only [Option.bind_some, List.nil_append, List.length_nil, Nat.zero_add, e1, e2, toNat_cast, cut_row, ← hR]
  rw [if_pos c2, if_pos c3, if_pos g1, if_pos g2, if_pos g3, if_pos g4, if_pos g5, rd_cast, hih]
theorem spec_DecodeExts_out {b : List Int} (hb : b.length ≤ 1048576) {k i : Nat} {out : List Ex} (q : i + 1 < b.length) (q2 : ¬ (0 ≤ nt 0 b (i + 1) ∧ nt 0 b (i + 1) ≤ (b.length : Int) - i - 2)) : spec_DecodeExts.l0 (k + 1) b out (i : Int) = some ([], false) := by
  have e0 : wrap64 ((i : Int) + 1) = ((i + 1 : Nat) : Int) := by rw [wrap_id (by omega) (by omega)]; omega
  have e3 : wrap64 ((b.length : Int) - i) = (b.length : Int) - i := wrap_id (by omega) (by omega)
  have e4 : wrap64 ((b.length : Int) - i - 2) = (b.length : Int) - i - 2 := wrap_id (by omega) (by omega)
  have c0 : ((i + 1 : Nat) : Int) < (b.length : Int) := by omega
  have c1 : (0 : Int) ≤ ((i + 1 : Nat) : Int) := by omega
  simp only [spec_DecodeExts.l0, e0]
  rw [if_pos c0, if_pos c1, e3, e4, rd_cast, spec_l1In_eq, Option.bind_some, if_neg (by rw [decide_eq_false q2]; simp)]
theorem spec_DecodeExts_l0 {b : List Int} (hb : b.length ≤ 1048576) : ∀ (f k i : Nat) (out : List Ex), b.length - i ≤ f → i ≤ b.length → out.length ≤ i → 3 * b.length + 20 + f < k → 0 < b.length →
    spec_DecodeExts.l0 k b out (i : Int) = some (match allF f (b.drop i) with | none => ([], false) | some xs => if ((out ++ xs).length : Int) = nt 0 b 0 ∧ areExts (out ++ xs) = true then (out ++ xs, true) else ([], false)) := by
  intro f
  induction f with
  | zero =>
    intro k i out hf hi ho hk h0
    obtain ⟨k, rfl⟩ := succ_of hk
    obtain rfl : i = b.length := by omega
    simp only [spec_DecodeExts.l0]
    rw [wrap_id (x := (b.length : Int) + 1) (by omega) (by omega), if_neg (by omega), if_pos trivial, if_pos (by omega), show rd b 0 = nt 0 b 0 from rd_cast b 0, drop_end]
    simp only [allF, List.append_nil]
    by_cases q : (out.length : Int) = nt 0 b 0
    · rw [if_pos q, spec_AreExts_eq (by omega) (by omega), Option.bind_some]
      by_cases q2 : areExts out = true
      · rw [if_pos q2, if_pos ⟨q, q2⟩]
      · rw [if_neg q2, if_neg (fun h => q2 h.2)]
    · rw [if_neg q, if_neg (fun h => q h.1)]
  | succ f ih =>
    intro k i out hf hi ho hk h0
    obtain ⟨k, rfl⟩ := succ_of hk
    by_cases q : i + 1 < b.length
    · rw [drop_two q]
      simp only [allF]
      have hs : (b.drop (i + 2)).length = b.length - (i + 2) := List.length_drop
      by_cases q2 : 0 ≤ nt 0 b (i + 1) ∧ nt 0 b (i + 1) ≤ (b.drop (i + 2)).length
      · obtain ⟨n, hn⟩ : ∃ n : Nat, nt 0 b (i + 1) = n := ⟨(nt 0 b (i + 1)).toNat, by omega⟩
        obtain ⟨R, hR⟩ : ∃ R, R = (b.drop (i + 2)).take n := ⟨_, rfl⟩
        rw [spec_DecodeExts_in hb q ho hn (by omega) hR (ih k (i + 2 + n) (out ++ [(⟨nt 0 b i, R⟩ : Ex)]) (by omega) (by omega) (by rw [List.length_append, List.length_singleton]; omega) (by omega) h0), if_pos q2, hn, toNat_cast, List.drop_drop, ← hR]
        cases allF f (b.drop (i + 2 + n)) with
        | none => simp only [Option.map_none]
        | some xs => simp only [Option.map_some, List.append_assoc, List.singleton_append]
      · rw [spec_DecodeExts_out hb q (by omega), if_neg q2]
    · simp only [spec_DecodeExts.l0]
      rw [wrap_id (x := (i : Int) + 1) (by omega) (by omega), if_neg (by omega)]
      by_cases q2 : i = b.length
      · subst q2
        rw [if_pos rfl, if_pos (by omega), show rd b 0 = nt 0 b 0 from rd_cast b 0, drop_end]
        simp only [allF, List.append_nil]
        by_cases q : (out.length : Int) = nt 0 b 0
        · rw [if_pos q, spec_AreExts_eq (by omega) (by omega), Option.bind_some]
          by_cases q2 : areExts out = true
          · rw [if_pos q2, if_pos ⟨q, q2⟩]
          · rw [if_neg q2, if_neg (fun h => q2 h.2)]
        · rw [if_neg q, if_neg (fun h => q h.1)]
      · rw [if_neg (by omega), drop_step b 0 i (by omega), List.drop_eq_nil_of_le (by omega)]; simp only [allF]
theorem spec_DecodeExts_eq {b : List Int} {k : Nat} (hb : b.length ≤ 1048576) (hk : 4 * b.length + 40 < k) : spec_DecodeExts.f k b = some (decodeExts b) := by
  unfold spec_DecodeExts.f
  rw [Option.bind_some]
  cases b with
  | nil => rfl
  | cons c r =>
    rw [if_neg (by simp only [List.length_cons]; omega)]
    have h := spec_DecodeExts_l0 (b := c :: r) hb r.length k 1 [] (by simp) (by simp) (by simp) (by simp only [List.length_cons] at hk ⊢; omega) (by simp)
    rw [show spec_DecodeExts.l0 k (c :: r) [] 1 = _ from h]
    simp only [List.nil_append, List.drop_succ_cons, List.drop_zero, nt_cons_zero, decodeExts]

/-! ### impl_InRange -/
theorem impl_InRange_eq (a b c : Int) : impl_InRange.f a b c = some (decide (b ≤ a ∧ a ≤ c)) := by
  unfold impl_InRange.f
  by_cases h : b ≤ a
  · rw [if_pos h]; simp [h]
  · rw [if_neg h, decide_eq_false (by omega)]

/-! ### impl_ExtOf -/
theorem impl_ExtOf_eq (l : List Ex) (t : Int) : impl_ExtOf.f l t = some (extOf l t) := rfl

/-! ### impl_AreExts -/
theorem impl_areNumbers_eq (l : List Int) : impl_areNumbers.f l 0 255 = some (bytes l) := by
  unfold impl_areNumbers.f impl_areNumbers_any.f bytes
  rw [Option.bind_some]
  congr 1
  rw [Bool.eq_iff_iff]
  simp
theorem impl_AreExts_eq {l : List Ex} {k : Nat} (hl : l.length ≤ 1048576) (hk : l.length < k) : impl_AreExts.f k l = some (areExts l) := by
  unfold impl_AreExts.f
  have h := all_loop (g := fun k i => impl_AreExts.l0 k l l (l.length : Int) (i : Int)) (n := l.length) (B := 0) (ok := extOk l) (fin := decide (l.length ≤ 6)) (fun k => by
      simp only [impl_AreExts.l0]; rw [if_neg (by omega)]; congr 1; simp only [decide_eq_decide]; omega)
    (fun k i hi hk => by
      simp only [impl_AreExts.l0]
      rw [if_pos (by omega), if_pos (by omega), if_pos (by omega), wrap_up (n := l.length) hi (by omega), rd_Ex, impl_InRange_eq, Option.bind_some]
      unfold extOk
      by_cases b1 : 0 ≤ (nt zEx l i).f0 ∧ (nt zEx l i).f0 ≤ 255
      · rw [if_pos (by simp [b1]), if_pos (by omega), impl_ExtOf_eq, Option.bind_some, toNat_cast]
        have b4 := Hw.idxOf_any (fun x : Ex => x.f0 == (nt zEx l i).f0) (l.take i)
        by_cases b5 : extOf (l.take i) (nt zEx l i).f0 ≥ 0
        · rw [decide_eq_true (show Hw.idxOf (fun x : Ex => x.f0 == (nt zEx l i).f0) (l.take i) ≥ 0 from b5)] at b4
          rw [if_pos b5, if_neg (by rw [← b4]; simp)]
        · rw [decide_eq_false (show ¬ Hw.idxOf (fun x : Ex => x.f0 == (nt zEx l i).f0) (l.take i) ≥ 0 from b5)] at b4
          rw [if_neg b5]
          by_cases b2 : (nt zEx l i).f1.length ≤ 4
          · rw [if_neg (by omega), impl_areNumbers_eq, Option.bind_some, ← b4]
            cases b3 : bytes (nt zEx l i).f1 <;> simp [b1, b2]
          · rw [if_pos (by omega), if_neg (by simp [b2])]
      · rw [if_neg (by simp [b1]), if_neg (by simp [b1])]) l.length k 0 (by omega) (by omega)
  exact h

/-! ### impl_DecodeExts -/
theorem mn_four (x n : Int) : (0 ≤ n ∧ n ≤ mn 4 x) ↔ (0 ≤ n ∧ (n ≤ 4 ∧ n ≤ x)) := by unfold mn; split <;> omega
theorem impl_DecodeExts_l0 {b : List Int} {c : Nat} (hb : b.length ≤ 1048576) : ∀ (m k i j : Nat) (out : List Ex), j + m = c → c ≤ 6 → i ≤ b.length → out.length ≤ 6 → out.length + m ≤ 6 → 20 + m < k →
    impl_DecodeExts.l0 k b out (i : Int) (c : Int) (j : Int) = some (match cntF m (b.drop i) with | none => ([], false) | some xs => if areExts (out ++ xs) = true then (out ++ xs, true) else ([], false)) := by
  intro m
  induction m with
  | zero =>
    intro k i j out hj hc hi ho hm hk
    obtain ⟨k, rfl⟩ := succ_of hk
    simp only [impl_DecodeExts.l0]
    rw [if_neg (by omega)]
    by_cases q : i = b.length
    · subst q
      rw [if_pos rfl, impl_AreExts_eq (by omega) (by omega), Option.bind_some, drop_end]
      simp only [cntF, List.append_nil]
      by_cases q2 : areExts out = true
      · rw [if_pos q2, if_pos q2]
      · rw [if_neg q2, if_neg q2]
    · rw [if_neg (by omega), drop_step b 0 i (by omega)]; rfl
  | succ m ih =>
    intro k i j out hj hc hi ho hm hk
    obtain ⟨k, rfl⟩ := succ_of hk
    simp only [impl_DecodeExts.l0]
    rw [if_pos (by omega), wrap_id (x := (b.length : Int) - i) (by omega) (by omega)]
    by_cases q : i + 1 < b.length
    · rw [if_neg (by omega), wrap_id (x := (i : Int) + 1) (by omega) (by omega), if_pos (by omega), if_pos (by omega), wrap_id (x := (b.length : Int) - i - 2) (by omega) (by omega), show ((i : Int) + 1) = ((i + 1 : Nat) : Int) by omega, rd_cast, impl_InRange_eq, Option.bind_some, drop_two q]
      simp only [cntF]
      have hs : (b.drop (i + 2)).length = b.length - (i + 2) := List.length_drop
      have hmn := mn_four ((b.length : Int) - i - 2) (nt 0 b (i + 1))
      by_cases q2 : 0 ≤ nt 0 b (i + 1) ∧ (nt 0 b (i + 1) ≤ 4 ∧ nt 0 b (i + 1) ≤ (b.drop (i + 2)).length)
      · obtain ⟨n, hn⟩ : ∃ n : Nat, nt 0 b (i + 1) = n := ⟨(nt 0 b (i + 1)).toNat, by omega⟩
        rw [if_pos (decide_eq_true (hmn.2 ⟨q2.1, q2.2.1, by omega⟩)), if_pos q2]
        rw [hn] at q2 ⊢
        rw [if_pos (by omega), if_pos (by omega), wrap_id (x := (i : Int) + 2) (by omega) (by omega), wrap_id (x := (i : Int) + 2 + n) (by omega) (by omega), show ((i : Int) + 2 + n) = ((i + 2 + n : Nat) : Int) by omega, show ((i : Int) + 2) = ((i + 2 : Nat) : Int) by omega, toNat_cast, toNat_cast, toNat_cast,
          if_pos (by omega), if_pos (by omega), if_pos (by omega), cut_row]
        unfold slices_Clone_int_int.f
        rw [if_pos (by rw [List.length_take]; omega), Option.bind_some, if_pos (by omega), rd_cast, wrap_up (n := 6) (by omega) (by omega), ih k (i + 2 + n) (j + 1) _ (by omega) hc (by omega) (by rw [List.length_append, List.length_singleton]; omega) (by rw [List.length_append, List.length_singleton]; omega) (by omega), List.drop_drop]
        cases cntF m (b.drop (i + 2 + n)) with
        | none => rfl
        | some xs => simp only [Option.map_some, List.append_assoc, List.singleton_append]
      · rw [if_neg (by rw [decide_eq_true_eq, hmn]; omega), if_neg q2]
    · rw [if_pos (by omega)]
      by_cases q2 : i = b.length
      · subst q2; rw [drop_end]; rfl
      · rw [drop_step b 0 i (by omega), List.drop_eq_nil_of_le (by omega)]; rfl
theorem impl_DecodeExts_eq {b : List Int} {k : Nat} (hb : b.length ≤ 1048576) (hk : 100 < k) : impl_DecodeExts.f k b = some (decodeExts b) := by
  unfold impl_DecodeExts.f
  obtain ⟨k, rfl⟩ : ∃ k', k = k' + 1 := ⟨k - 1, by omega⟩
  cases b with
  | nil => simp only [impl_DecodeExts.j0]; rfl
  | cons c r =>
    rw [if_neg (by simp only [List.length_cons]; omega), if_pos (by simp only [List.length_cons]; omega), show rd (c :: r) 0 = c from rfl, impl_InRange_eq, Option.bind_some]
    simp only [impl_DecodeExts.j0]
    by_cases q : 0 ≤ c ∧ c ≤ 6
    · obtain ⟨n, rfl⟩ : ∃ n : Nat, c = n := ⟨c.toNat, by omega⟩
      rw [decide_eq_true q, if_neg (by simp), if_pos (by simp only [List.length_cons]; omega), show rd ((n : Int) :: r) 0 = n from rfl]
      have h := impl_DecodeExts_l0 (b := (n : Int) :: r) (c := n) hb n k 1 0 [] (by omega) (by omega) (by simp) (by simp) (by simp; omega) (by omega)
      rw [show impl_DecodeExts.l0 k ((n : Int) :: r) [] 1 (n : Int) 0 = _ from h]
      simp only [List.nil_append, List.drop_succ_cons, List.drop_zero, decodeExts]
      cases hc : cntF n r with
      | some xs =>
        obtain ⟨h1, h2⟩ := cnt_all n r.length r xs (Nat.le_refl _) hc
        rw [h1]
        by_cases q2 : areExts xs = true
        · simp [q2, h2]
        · simp [q2]
      | none =>
        cases ha : allF r.length r with
        | none => rfl
        | some xs =>
          by_cases q2 : (xs.length : Int) = n ∧ areExts xs = true
          · have h3 := all_cnt _ _ _ ha (areExts_len' q2.2)
            rw [show xs.length = n by omega, hc] at h3; cases h3
          · simp only [if_neg q2]
    · rw [decide_eq_false q, if_pos (by simp)]
      simp only [decodeExts]
      cases ha : allF r.length r with
      | none => rfl
      | some xs =>
        by_cases q2 : (xs.length : Int) = c ∧ areExts xs = true
        · have h6 : xs.length ≤ 6 := by have := q2.2; unfold areExts at this; rw [Bool.and_eq_true, decide_eq_true_eq] at this; exact this.2
          exact absurd (by omega) q
        · simp only [if_neg q2]

end FnExactDecodeExtsAid
open FnExactDecodeExtsAid

theorem FnExactDecodeExts : laws_FnExactDecodeExts.Pure := by
  intro x hx _
  obtain ⟨k, hk⟩ : ∃ k, k = 4 * 1048576 + 100 := ⟨_, rfl⟩
  refine ⟨k, ?_⟩
  unfold laws_FnExactDecodeExts.f
  by_cases ht : (x.length : Int) > 1048576
  · rw [if_pos ht]
  · rw [if_neg ht]
    have f1 : laws_toIntS.f k x = some x := laws_toIntS_eq (by omega) (by omega)
    have f4 : laws_eqIntS.f k x x = some true := laws_eqIntS_self (by omega) (by omega)
    have f6 : laws_markIntS.f k x 1 = some (1 + (x.length : Int), seqFrom 1 x.length) := laws_markIntS_eq (by omega) (by omega) (by omega) (by omega)
    have p1 : ¬ (1 + (x.length : Int) < 0) := by omega
    have hc0 := decode_ok (b := x)
    obtain ⟨⟨c, b⟩, q⟩ : ∃ c, c = decodeExts x := ⟨_, rfl⟩
    rw [← q] at hc0
    have hc : c.length ≤ 6 ∧ inEx c ≤ 24 := by
      rcases hc0 with h | h
      · have h : c = [] := h
        subst h; simp [inEx]
      · have h6 := areExts_six h
        have h4 := inEx_four c (areExts_len' h)
        exact ⟨h6, by simp only at h6; omega⟩
    have f2 : spec_DecodeExts.f k x = some (c, b) := by rw [spec_DecodeExts_eq (by omega) (by omega), q]
    have f3 : impl_DecodeExts.f k x = some (c, b) := by rw [impl_DecodeExts_eq (by omega) (by omega), q]
    have f5 : laws_eqExtS.f k c c = some true := laws_eqExtS_self (by omega) (by omega) (by omega)
    have f7 : laws_markExtS.f k c 1 = some (1 + ((c.length : Int) + inEx c), markEx 1 c) := laws_markExtS_eq (by omega) (by omega) (by omega) (by omega) (by omega)
    have f8 : laws_heldExtS.f k (markEx 1 c) 1 = some (1 + ((c.length : Int) + inEx c)) := laws_heldExtS_eq (by omega) (by omega) (by omega) (by omega) (by omega)
    have p2 : ¬ (1 + ((c.length : Int) + inEx c) < 0) := by omega
    simp only [f1, f2, f3, f4, f5, f6, f7, f8, p1, p2, Option.bind_some, Bool.false_eq_true, if_true, if_false, ↓reduceIte, bne_self_eq_false, Bool.not_true, Bool.not_false, Nat.le_add_right, Nat.le_refl]

end Go.Proofs.Ytljoejddjendbaa.Pure
