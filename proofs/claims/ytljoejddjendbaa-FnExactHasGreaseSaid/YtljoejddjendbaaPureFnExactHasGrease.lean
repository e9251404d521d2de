/- HasGrease of the program and of the reference agree on every list of extensions, as a statement over lists alone; the bounds are those of memory. -/
import Derived.Test.YtljoejddjendbaaPFnExactHasGreasex3
import Derived.Test.YtljoejddjendbaaGb
import Derived.Test.YtljoejddjendbaaGr
namespace Go.Proofs.Ytljoejddjendbaa.Pure
open Go.RowKit Go.Proofs.Ytljoejddjendbaa.PFnExactHasGrease Go.Proofs.YtljoejddjendbaaW.PrintWords Go.Proofs.YtljoejddjendbaaW.PrintLast Go.Proofs.Ytljoejddjendbaa.Gb Go.Proofs.Ytljoejddjendbaa.Gr Go.Proofs.Ytljoejddjendbaa
set_option linter.unusedSimpArgs false
set_option linter.unusedVariables false
namespace FnExactHasGreaseAid

/-! ### T_Ext -/
abbrev Ex := S61
abbrev LEx := S60
abbrev zEx : Ex := z61
abbrev zLEx : LEx := z60
theorem rd_Ex (l : List Ex) (i : Nat) : rd_T61 l (i : Int) = nt zEx l i := by simp [rd_T61, nt]
theorem rd_LEx (l : List LEx) (i : Nat) : rd_T60 l (i : Int) = nt zLEx l i := by simp [rd_T60, nt]
def convEx (x : LEx) : Ex := ⟨x.f0, x.f1⟩
/-- The lengths of the bodies. -/
def inEx : List Ex → Nat
  | [] => 0
  | x :: r => x.f1.length + inEx r
def inLEx : List LEx → Nat
  | [] => 0
  | x :: r => x.f1.length + inLEx r
theorem inEx_map (l : List LEx) : inEx (l.map convEx) = inLEx l := by
  induction l with
  | nil => rfl
  | cons x r ih => simp [inEx, inLEx, ih, convEx]
theorem inEx_mem {l : List Ex} {x : Ex} (h : x ∈ l) : x.f1.length ≤ inEx l := by
  induction l with
  | nil => simp at h
  | cons y r ih =>
    rcases List.mem_cons.1 h with rfl | h
    · simp [inEx]
    · have := ih h; simp [inEx]; omega
theorem inLEx_mem {l : List LEx} {x : LEx} (h : x ∈ l) : x.f1.length ≤ inLEx l := by
  induction l with
  | nil => simp at h
  | cons y r ih =>
    rcases List.mem_cons.1 h with rfl | h
    · simp [inLEx]
    · have := ih h; simp [inLEx]; omega
theorem inEx_filter (p : Ex → Bool) (l : List Ex) : inEx (l.filter p) ≤ inEx l := by
  induction l with
  | nil => simp
  | cons x r ih =>
    rw [List.filter_cons]
    by_cases h : p x = true
    · rw [if_pos h]; simp [inEx]; omega
    · rw [if_neg h]; simp [inEx]; omega

/-! ### laws_szExtS -/
theorem laws_szExtS_l0 {l : List LEx} (hl : l.length ≤ 9223372036854775807) (hw : ∀ x ∈ l, x.f1.length ≤ 9223372036854775807) : ∀ (d k i : Nat) (x : Int), i + d = l.length → d < k → 0 ≤ x → x ≤ 1048576 → laws_szExtS.l0 k l x (i : Int) = some (if x < inLEx (l.drop i) then -1 else x - inLEx (l.drop i)) := by
  intro d
  induction d with
  | zero =>
    intro k i x h hk h0 h1
    obtain ⟨k, rfl⟩ := succ_of hk
    obtain rfl : i = l.length := by omega
    simp only [laws_szExtS.l0]; rw [if_neg (by omega), drop_end, if_neg (by simp [inLEx]; omega)]; simp [inLEx]
  | succ d ih =>
    intro k i x h hk h0 h1
    obtain ⟨k, rfl⟩ := succ_of hk
    have hm := hw _ (nt_mem zLEx l i (by omega))
    simp only [laws_szExtS.l0]
    rw [if_pos (by omega), if_pos (by omega), rd_LEx, wrap_up (n := l.length) (by omega) hl, drop_step l zLEx i (by omega), show inLEx (nt zLEx l i :: l.drop (i + 1)) = (nt zLEx l i).f1.length + inLEx (l.drop (i + 1)) from rfl]
    simp only [laws_szExt.f, laws_szIntS.f]
    rw [wrap_id (by omega) (by omega)]
    by_cases hb : x - (nt zLEx l i).f1.length < 0
    · simp only [if_pos hb, Option.bind_some]; rw [if_pos (by omega), Option.bind_some, if_pos (by omega), if_pos (by omega)]
    · simp only [if_neg hb, Option.bind_some]; rw [ih k (i + 1) _ (by omega) (by omega) (by omega) (by omega)]
      by_cases hc : x - (nt zLEx l i).f1.length < (inLEx (l.drop (i + 1)) : Int)
      · rw [if_pos hc, if_pos (by omega)]
      · rw [if_neg hc, if_neg (by omega)]; congr 1; omega
theorem laws_szExtS_eq {l : List LEx} {a : Int} {k : Nat} (h0 : 0 ≤ a) (h1 : a ≤ 1048576) (hl : l.length ≤ 9223372036854775807) (hw : ∀ x ∈ l, x.f1.length ≤ 9223372036854775807) (hk : l.length < k ∨ 1048576 < k) : laws_szExtS.f k l a = some (if a < l.length + inLEx l then -1 else a - (l.length + inLEx l)) := by
  unfold laws_szExtS.f
  rw [wrap_id (by omega) (by omega)]
  by_cases hb : a - l.length < 0
  · rw [if_pos hb, if_pos (by omega)]
  · rw [if_neg hb]
    have h := laws_szExtS_l0 hl hw l.length k 0 (a - l.length) (by omega) (by omega) (by omega) (by omega)
    rw [Int.natCast_zero] at h
    rw [h, List.drop_zero]
    by_cases hc : a - l.length < (inLEx l : Int)
    · rw [if_pos hc, if_pos (by omega)]
    · rw [if_neg hc, if_neg (by omega)]; congr 1; omega

/-! ### laws_toIntS -/
theorem laws_toIntS_l0 (l : List Int) (hl : l.length ≤ 9223372036854775807) : ∀ (d k i : Nat), i + d = l.length → d < k → laws_toIntS.l0 k l (l.take i ++ List.replicate (l.length - i) 0) (i : Int) = some l := by
  intro d
  induction d with
  | zero =>
    intro k i h hk
    obtain ⟨k, rfl⟩ := succ_of hk
    obtain rfl : i = l.length := by omega
    simp only [laws_toIntS.l0]; rw [if_neg (by omega), take_all]
  | succ d ih =>
    intro k i h hk
    obtain ⟨k, rfl⟩ := succ_of hk
    simp only [laws_toIntS.l0]
    rw [if_pos (by omega), if_pos (by omega), if_pos (by rw [List.length_append, List.length_take, List.length_replicate]; omega), wrap_up (n := l.length) (by omega) hl, rd_cast, toNat_cast, set_grow _ _ _ (by omega)]
    exact ih k (i + 1) (by omega) (by omega)
theorem laws_toIntS_eq {l : List Int} {k : Nat} (hl : l.length ≤ 35184372088832) (hk : l.length < k) : laws_toIntS.f k l = some l := by
  unfold laws_toIntS.f
  rw [if_pos (by omega), toNat_cast, if_pos hl, ← take_none l 0]
  exact laws_toIntS_l0 l (by omega) l.length k 0 (by omega) hk

/-! ### laws_toExtS -/
theorem laws_toExtS_eq {l : List LEx} {k : Nat} (hl : l.length ≤ 1048576) (hm : inLEx l ≤ 1048576) (hk : l.length + inLEx l + 1 < k) : laws_toExtS.f k l = some (l.map convEx) := by
  unfold laws_toExtS.f
  rw [if_pos (by omega), toNat_cast, if_pos (by omega)]
  have h := map_loop (g := fun k acc i => laws_toExtS.l0 k l acc (i : Int)) (l := l) (z := zLEx) (zb := zEx) (f := convEx) (B := inLEx l + 1) (fun k acc ha => by
      simp only [laws_toExtS.l0]; rw [if_neg (by omega)])
    (fun k i acc hi hk ha => by
      have hx := inLEx_mem (nt_mem zLEx l i hi)
      simp only [laws_toExtS.l0]
      rw [if_pos (by omega), if_pos (by omega), rd_LEx]
      simp only [laws_toExt.f]
      rw [laws_toIntS_eq (by omega) (by omega)]
      simp only [Option.bind_some]
      rw [if_pos (by omega), wrap_up (n := l.length) hi (by omega), toNat_cast]; rfl) l.length k 0 (by omega) (by omega)
  simpa using h

/-! ### laws_eqIntS -/
theorem laws_eqIntS_l0 (a b : List Int) (hl : a.length ≤ 9223372036854775807) (he : b.length = a.length) : ∀ (d k i : Nat), i + d = a.length → d < k → laws_eqIntS.l0 k a b (i : Int) = some (decide (a.drop i = b.drop i)) := by
  intro d
  induction d with
  | zero =>
    intro k i h hk
    obtain ⟨k, rfl⟩ := succ_of hk
    obtain rfl : i = a.length := by omega
    simp only [laws_eqIntS.l0]; rw [if_neg (by omega), drop_end, ← he, drop_end, decide_eq_true rfl]
  | succ d ih =>
    intro k i h hk
    obtain ⟨k, rfl⟩ := succ_of hk
    simp only [laws_eqIntS.l0]
    rw [if_pos (by omega), if_pos (by omega), if_pos (by omega), wrap_up (n := a.length) (by omega) hl, rd_cast, rd_cast, drop_step a 0 i (by omega), drop_step b 0 i (by omega), ih k (i + 1) (by omega) (by omega)]
    by_cases e : nt 0 a i = nt 0 b i
    · rw [if_pos e, e]; simp
    · rw [if_neg e]; simp [e]
theorem laws_eqIntS_eq {a b : List Int} {k : Nat} (hl : a.length ≤ 9223372036854775807) (hk : a.length < k) : laws_eqIntS.f k a b = some (decide (a = b)) := by
  unfold laws_eqIntS.f
  by_cases e : a.length = b.length
  · rw [if_pos (by omega)]
    exact laws_eqIntS_l0 a b hl e.symm a.length k 0 (by omega) hk
  · rw [if_neg (by omega), decide_eq_false (fun h => e (by rw [h]))]
theorem laws_eqIntS_self {a : List Int} {k : Nat} (hl : a.length ≤ 9223372036854775807) (hk : a.length < k) : laws_eqIntS.f k a a = some true := by
  rw [laws_eqIntS_eq hl hk, decide_eq_true rfl]

/-! ### laws_eqExtS -/
theorem laws_eqExtS_self {l : List Ex} {k : Nat} (hl : l.length ≤ 9223372036854775807) (hm : inEx l ≤ 1048576) (hk : l.length + inEx l + 1 < k) : laws_eqExtS.f k l l = some true := by
  unfold laws_eqExtS.f
  rw [if_pos rfl]
  exact pass_loop (g := fun k i => laws_eqExtS.l0 k l l (i : Int)) (n := l.length) (B := inEx l + 1) (fun k => by
      simp only [laws_eqExtS.l0]; rw [if_neg (by omega)])
    (fun k i hi hk => by
      have hx := inEx_mem (nt_mem zEx l i hi)
      simp only [laws_eqExtS.l0]
      rw [if_pos (by omega), if_pos (by omega), if_pos (by omega), wrap_up (n := l.length) hi hl, rd_Ex]
      simp only [laws_eqExt.f, if_true]
      rw [laws_eqIntS_self (by omega) (by omega)]
      simp only [if_true, Option.bind_some]) l.length k 0 (by omega) (by omega)

/-! ### T_StripGrease -/
def stripGrease (l : List Ex) : List Ex := l.filter fun x => !isReserved x.f0
theorem stripGrease_len (l : List Ex) : (stripGrease l).length ≤ l.length := List.length_filter_le _ _
theorem stripGrease_in (l : List Ex) : inEx (stripGrease l) ≤ inEx l := inEx_filter _ l

/-! ### spec_l1In -/
theorem spec_l1In_eq (a b c : Int) : spec_l1In.f a b c = some (decide (b ≤ a ∧ a ≤ c)) := by
  unfold spec_l1In.f
  by_cases h : a ≥ b
  · rw [if_pos h]; simp [show b ≤ a from h]
  · rw [if_neg h, decide_eq_false (by omega)]

/-! ### spec_IsReserved -/
theorem spec_IsReserved_eq (a : Int) : spec_IsReserved.f a = some (isReserved a) := by
  unfold spec_IsReserved.f isReserved
  rw [spec_l1In_eq, Option.bind_some]
  by_cases h : (0 : Int) ≤ a ∧ a ≤ 255 <;> simp [h]

/-! ### spec_StripGrease -/
theorem spec_StripGrease_eq {l : List Ex} {k : Nat} (hl : l.length ≤ 1048576) (hm : inEx l ≤ 1048576) (hk : l.length < k) : spec_StripGrease.f k l = some (stripGrease l) := by
  unfold spec_StripGrease.f
  have h := filter_loop (g := fun k acc i => spec_StripGrease.l0 k l acc (i : Int)) (l := l) (z := zEx) (B := 0) (p := fun x => !isReserved x.f0) (f := fun x => x) (fun k acc => by
      simp only [spec_StripGrease.l0]; rw [if_neg (by omega)])
    (fun k i acc hi hk hacc => by
      have hx := inEx_mem (nt_mem zEx l i hi)
      simp only [spec_StripGrease.l0]
      rw [if_pos (by omega), if_pos (by omega), rd_Ex, wrap_up (n := l.length) hi (by omega), spec_IsReserved_eq]
      simp only [Option.bind_some, List.nil_append, List.length_nil, Nat.zero_add]
      cases isReserved (nt zEx l i).f0 with
      | true => rfl
      | false => simp only [Bool.false_eq_true, if_false, Bool.not_false, if_true]; rw [if_pos (by omega), if_pos (show acc.length < 4398046511104 by omega)]) l.length k 0 [] (by omega) (by omega) (by simp)
  simpa [stripGrease] using h

/-! ### spec_HasGrease -/
def hasGrease (l : List Ex) : Bool := l.any fun x => isReserved x.f0
theorem spec_HasGrease_eq {l : List Ex} {k : Nat} (hl : l.length ≤ 1048576) (hm : inEx l ≤ 1048576) (hk : l.length < k) : spec_HasGrease.f k l = some (hasGrease l) := by
  unfold spec_HasGrease.f
  rw [spec_StripGrease_eq hl hm hk, Option.bind_some]
  congr 1
  unfold hasGrease
  rw [Bool.eq_iff_iff, decide_eq_true_eq, List.any_eq_true]
  have h := List.length_filter_lt_length_iff_exists (l := l) (p := fun x : Ex => !isReserved x.f0)
  unfold stripGrease
  constructor
  · intro q
    obtain ⟨x, hx, hq⟩ := h.1 (by omega)
    exact ⟨x, hx, by simpa using hq⟩
  · rintro ⟨x, hx, hq⟩
    have := h.2 ⟨x, hx, by simp [hq]⟩
    omega

/-! ### impl_TagsOf -/
theorem impl_TagsOf_eq {l : List Ex} {k : Nat} (hl : l.length ≤ 1048576) (hk : l.length < k) : impl_TagsOf.f k l = some (l.map (·.f0)) := by
  unfold impl_TagsOf.f
  have h := filter_loop (g := fun k acc i => impl_TagsOf.l0 k acc l (l.length : Int) (i : Int)) (l := l) (z := zEx) (B := 0) (p := fun x => true) (f := fun x => x.f0) (fun k acc => by
      simp only [impl_TagsOf.l0]; rw [if_neg (by omega)])
    (fun k i acc hi hk hacc => by
      simp only [impl_TagsOf.l0]
      rw [if_pos (by omega), if_pos (by omega), if_pos (by omega), rd_Ex, wrap_up (n := l.length) hi (by omega), if_pos (show acc.length < 17592186044416 by omega)]; rfl) l.length k 0 [] (by omega) (by omega) (by simp)
  have e : (l.filter fun _ => true) = l := List.filter_eq_self.2 (fun _ _ => rfl)
  simpa [e] using h

/-! ### impl_InRange -/
theorem impl_InRange_eq (a b c : Int) : impl_InRange.f a b c = some (decide (b ≤ a ∧ a ≤ c)) := by
  unfold impl_InRange.f
  by_cases h : b ≤ a
  · rw [if_pos h]; simp [h]
  · rw [if_neg h, decide_eq_false (by omega)]

/-! ### impl_IsReserved -/
theorem impl_IsReserved_eq (a : Int) : impl_IsReserved.f a = some (isReserved a) := by
  unfold impl_IsReserved.f isReserved
  rw [impl_InRange_eq, Option.bind_some]
  by_cases h : (0 : Int) ≤ a ∧ a ≤ 255 <;> simp [h]

/-! ### impl_IsHardened -/
theorem impl_IsHardened_eq (l : List Int) : impl_IsHardened.f l = some (l.any isReserved) := by
  unfold impl_IsHardened.f impl_IsHardened_any.f
  rw [Option.bind_some]
  simp only [impl_IsReserved_eq, Option.getD_some]

/-! ### impl_HasGrease -/
theorem impl_HasGrease_eq {l : List Ex} {k : Nat} (hl : l.length ≤ 1048576) (hk : l.length < k) : impl_HasGrease.f k l = some (hasGrease l) := by
  unfold impl_HasGrease.f hasGrease
  rw [impl_TagsOf_eq hl hk, Option.bind_some, impl_IsHardened_eq, Option.bind_some, List.any_map]; rfl

end FnExactHasGreaseAid
open FnExactHasGreaseAid

theorem FnExactHasGrease : laws_FnExactHasGrease.Pure := by
  intro l hl hw
  obtain ⟨k, hk⟩ : ∃ k, k = 2 * 1048576 + 100 := ⟨_, rfl⟩
  refine ⟨k, ?_⟩
  unfold laws_FnExactHasGrease.f
  rw [laws_szExtS_eq (by omega) (by omega) hl (fun x hx => (hw x hx).2.1) (.inr (by omega)), Option.bind_some]
  by_cases hb : (1048576 : Int) < l.length + inLEx l
  · rw [if_pos hb, if_pos (by omega)]
  · rw [if_neg hb, if_neg (by omega)]
    obtain ⟨x, hx⟩ : ∃ x, x = l.map convEx := ⟨_, rfl⟩
    have hm : x.length = l.length := by rw [hx]; exact List.length_map ..
    have hi : inEx x = inLEx l := by rw [hx]; exact inEx_map l
    have f1 : laws_toExtS.f k l = some x := by rw [laws_toExtS_eq (by omega) (by omega) (by omega), hx]
    have f4 : laws_eqExtS.f k x x = some true := laws_eqExtS_self (by omega) (by omega) (by omega)
    have f2 : spec_HasGrease.f k x = some (hasGrease x) := spec_HasGrease_eq (by omega) (by omega) (by omega)
    have f3 : impl_HasGrease.f k x = some (hasGrease x) := impl_HasGrease_eq (by omega) (by omega)
    simp only [f1, f2, f3, f4, Option.bind_some, Bool.false_eq_true, if_true, if_false, ↓reduceIte, bne_self_eq_false, Bool.not_true, Bool.not_false, Nat.le_add_right, Nat.le_refl]

end Go.Proofs.Ytljoejddjendbaa.Pure
