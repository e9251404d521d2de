/- EqualExts of the program and of the reference agree on every two lists of extensions, as a statement over lists alone; the bounds are those of memory. -/
import Derived.Test.YtljoejddjendbaaPFnExactEqualExtsx3
import Derived.Test.YtljoejddjendbaaGb
import Derived.Test.YtljoejddjendbaaGr
namespace Go.Proofs.Ytljoejddjendbaa.Pure
open Go.RowKit Go.Proofs.Ytljoejddjendbaa.PFnExactEqualExts Go.Proofs.YtljoejddjendbaaW.PrintWords Go.Proofs.YtljoejddjendbaaW.PrintLast Go.Proofs.Ytljoejddjendbaa.Gb Go.Proofs.Ytljoejddjendbaa.Gr Go.Proofs.Ytljoejddjendbaa
set_option linter.unusedSimpArgs false
set_option linter.unusedVariables false
namespace FnExactEqualExtsAid

/-! ### T_Ext -/
abbrev Ex := S61
abbrev LEx := S60
abbrev zEx : Ex := z61
abbrev zLEx : LEx := z60
theorem rd_Ex (l : List Ex) (i : Nat) : rd_T61 l (i : Int) = nt zEx l i := by simp [rd_T61, nt]
theorem rd_LEx (l : List LEx) (i : Nat) : rd_T60 l (i : Int) = nt zLEx l i := by simp [rd_T60, nt]
def convEx (x : LEx) : Ex := ⟨x.f0, x.f1⟩
/-- The lengths of the bodies. -/
def inEx : List Ex → Nat
  | [] => 0
  | x :: r => x.f1.length + inEx r
def inLEx : List LEx → Nat
  | [] => 0
  | x :: r => x.f1.length + inLEx r
theorem inEx_map (l : List LEx) : inEx (l.map convEx) = inLEx l := by
  induction l with
  | nil => rfl
  | cons x r ih => simp [inEx, inLEx, ih, convEx]
theorem inEx_mem {l : List Ex} {x : Ex} (h : x ∈ l) : x.f1.length ≤ inEx l := by
  induction l with
  | nil => simp at h
  | cons y r ih =>
    rcases List.mem_cons.1 h with rfl | h
    · simp [inEx]
    · have := ih h; simp [inEx]; omega
theorem inLEx_mem {l : List LEx} {x : LEx} (h : x ∈ l) : x.f1.length ≤ inLEx l := by
  induction l with
  | nil => simp at h
  | cons y r ih =>
    rcases List.mem_cons.1 h with rfl | h
    · simp [inLEx]
    · have := ih h; simp [inLEx]; omega
theorem inEx_filter (p : Ex → Bool) (l : List Ex) : inEx (l.filter p) ≤ inEx l := by
  induction l with
  | nil => simp
  | cons x r ih =>
    rw [List.filter_cons]
    by_cases h : p x = true
    · rw [if_pos h]; simp [inEx]; omega
    · rw [if_neg h]; simp [inEx]; omega

/-! ### laws_szExtS -/
theorem laws_szExtS_l0 {l : List LEx} (hl : l.length ≤ 9223372036854775807) (hw : ∀ x ∈ l, x.f1.length ≤ 9223372036854775807) : ∀ (d k i : Nat) (x : Int), i + d = l.length → d < k → 0 ≤ x → x ≤ 1048576 → laws_szExtS.l0 k l x (i : Int) = some (if x < inLEx (l.drop i) then -1 else x - inLEx (l.drop i)) := by
  intro d
  induction d with
  | zero =>
    intro k i x h hk h0 h1
    obtain ⟨k, rfl⟩ := succ_of hk
    obtain rfl : i = l.length := by omega
    simp only [laws_szExtS.l0]; rw [if_neg (by omega), drop_end, if_neg (by simp [inLEx]; omega)]; simp [inLEx]
  | succ d ih =>
    intro k i x h hk h0 h1
    obtain ⟨k, rfl⟩ := succ_of hk
    have hm := hw _ (nt_mem zLEx l i (by omega))
    simp only [laws_szExtS.l0]
    rw [if_pos (by omega), if_pos (by omega), rd_LEx, wrap_up (n := l.length) (by omega) hl, drop_step l zLEx i (by omega), show inLEx (nt zLEx l i :: l.drop (i + 1)) = (nt zLEx l i).f1.length + inLEx (l.drop (i + 1)) from rfl]
    simp only [laws_szExt.f, laws_szIntS.f]
    rw [wrap_id (by omega) (by omega)]
    by_cases hb : x - (nt zLEx l i).f1.length < 0
    · simp only [if_pos hb, Option.bind_some]; rw [if_pos (by omega), Option.bind_some, if_pos (by omega), if_pos (by omega)]
    · simp only [if_neg hb, Option.bind_some]; rw [ih k (i + 1) _ (by omega) (by omega) (by omega) (by omega)]
      by_cases hc : x - (nt zLEx l i).f1.length < (inLEx (l.drop (i + 1)) : Int)
      · rw [if_pos hc, if_pos (by omega)]
      · rw [if_neg hc, if_neg (by omega)]; congr 1; omega
theorem laws_szExtS_eq {l : List LEx} {a : Int} {k : Nat} (h0 : 0 ≤ a) (h1 : a ≤ 1048576) (hl : l.length ≤ 9223372036854775807) (hw : ∀ x ∈ l, x.f1.length ≤ 9223372036854775807) (hk : l.length < k ∨ 1048576 < k) : laws_szExtS.f k l a = some (if a < l.length + inLEx l then -1 else a - (l.length + inLEx l)) := by
  unfold laws_szExtS.f
  rw [wrap_id (by omega) (by omega)]
  by_cases hb : a - l.length < 0
  · rw [if_pos hb, if_pos (by omega)]
  · rw [if_neg hb]
    have h := laws_szExtS_l0 hl hw l.length k 0 (a - l.length) (by omega) (by omega) (by omega) (by omega)
    rw [Int.natCast_zero] at h
    rw [h, List.drop_zero]
    by_cases hc : a - l.length < (inLEx l : Int)
    · rw [if_pos hc, if_pos (by omega)]
    · rw [if_neg hc, if_neg (by omega)]; congr 1; omega

/-! ### laws_toIntS -/
theorem laws_toIntS_l0 (l : List Int) (hl : l.length ≤ 9223372036854775807) : ∀ (d k i : Nat), i + d = l.length → d < k → laws_toIntS.l0 k l (l.take i ++ List.replicate (l.length - i) 0) (i : Int) = some l := by
  intro d
  induction d with
  | zero =>
    intro k i h hk
    obtain ⟨k, rfl⟩ := succ_of hk
    obtain rfl : i = l.length := by omega
    simp only [laws_toIntS.l0]; rw [if_neg (by omega), take_all]
  | succ d ih =>
    intro k i h hk
    obtain ⟨k, rfl⟩ := succ_of hk
    simp only [laws_toIntS.l0]
    rw [if_pos (by omega), if_pos (by omega), if_pos (by rw [List.length_append, List.length_take, List.length_replicate]; omega), wrap_up (n := l.length) (by omega) hl, rd_cast, toNat_cast, set_grow _ _ _ (by omega)]
    exact ih k (i + 1) (by omega) (by omega)
theorem laws_toIntS_eq {l : List Int} {k : Nat} (hl : l.length ≤ 35184372088832) (hk : l.length < k) : laws_toIntS.f k l = some l := by
  unfold laws_toIntS.f
  rw [if_pos (by omega), toNat_cast, if_pos hl, ← take_none l 0]
  exact laws_toIntS_l0 l (by omega) l.length k 0 (by omega) hk

/-! ### laws_toExtS -/
theorem laws_toExtS_eq {l : List LEx} {k : Nat} (hl : l.length ≤ 1048576) (hm : inLEx l ≤ 1048576) (hk : l.length + inLEx l + 1 < k) : laws_toExtS.f k l = some (l.map convEx) := by
  unfold laws_toExtS.f
  rw [if_pos (by omega), toNat_cast, if_pos (by omega)]
  have h := map_loop (g := fun k acc i => laws_toExtS.l0 k l acc (i : Int)) (l := l) (z := zLEx) (zb := zEx) (f := convEx) (B := inLEx l + 1) (fun k acc ha => by
      simp only [laws_toExtS.l0]; rw [if_neg (by omega)])
    (fun k i acc hi hk ha => by
      have hx := inLEx_mem (nt_mem zLEx l i hi)
      simp only [laws_toExtS.l0]
      rw [if_pos (by omega), if_pos (by omega), rd_LEx]
      simp only [laws_toExt.f]
      rw [laws_toIntS_eq (by omega) (by omega)]
      simp only [Option.bind_some]
      rw [if_pos (by omega), wrap_up (n := l.length) hi (by omega), toNat_cast]; rfl) l.length k 0 (by omega) (by omega)
  simpa using h

/-! ### laws_eqIntS -/
theorem laws_eqIntS_l0 (a b : List Int) (hl : a.length ≤ 9223372036854775807) (he : b.length = a.length) : ∀ (d k i : Nat), i + d = a.length → d < k → laws_eqIntS.l0 k a b (i : Int) = some (decide (a.drop i = b.drop i)) := by
  intro d
  induction d with
  | zero =>
    intro k i h hk
    obtain ⟨k, rfl⟩ := succ_of hk
    obtain rfl : i = a.length := by omega
    simp only [laws_eqIntS.l0]; rw [if_neg (by omega), drop_end, ← he, drop_end, decide_eq_true rfl]
  | succ d ih =>
    intro k i h hk
    obtain ⟨k, rfl⟩ := succ_of hk
    simp only [laws_eqIntS.l0]
    rw [if_pos (by omega), if_pos (by omega), if_pos (by omega), wrap_up (n := a.length) (by omega) hl, rd_cast, rd_cast, drop_step a 0 i (by omega), drop_step b 0 i (by omega), ih k (i + 1) (by omega) (by omega)]
    by_cases e : nt 0 a i = nt 0 b i
    · rw [if_pos e, e]; simp
    · rw [if_neg e]; simp [e]
theorem laws_eqIntS_eq {a b : List Int} {k : Nat} (hl : a.length ≤ 9223372036854775807) (hk : a.length < k) : laws_eqIntS.f k a b = some (decide (a = b)) := by
  unfold laws_eqIntS.f
  by_cases e : a.length = b.length
  · rw [if_pos (by omega)]
    exact laws_eqIntS_l0 a b hl e.symm a.length k 0 (by omega) hk
  · rw [if_neg (by omega), decide_eq_false (fun h => e (by rw [h]))]
theorem laws_eqIntS_self {a : List Int} {k : Nat} (hl : a.length ≤ 9223372036854775807) (hk : a.length < k) : laws_eqIntS.f k a a = some true := by
  rw [laws_eqIntS_eq hl hk, decide_eq_true rfl]

/-! ### laws_eqExtS -/
theorem laws_eqExtS_self {l : List Ex} {k : Nat} (hl : l.length ≤ 9223372036854775807) (hm : inEx l ≤ 1048576) (hk : l.length + inEx l + 1 < k) : laws_eqExtS.f k l l = some true := by
  unfold laws_eqExtS.f
  rw [if_pos rfl]
  exact pass_loop (g := fun k i => laws_eqExtS.l0 k l l (i : Int)) (n := l.length) (B := inEx l + 1) (fun k => by
      simp only [laws_eqExtS.l0]; rw [if_neg (by omega)])
    (fun k i hi hk => by
      have hx := inEx_mem (nt_mem zEx l i hi)
      simp only [laws_eqExtS.l0]
      rw [if_pos (by omega), if_pos (by omega), if_pos (by omega), wrap_up (n := l.length) hi hl, rd_Ex]
      simp only [laws_eqExt.f, if_true]
      rw [laws_eqIntS_self (by omega) (by omega)]
      simp only [if_true, Option.bind_some]) l.length k 0 (by omega) (by omega)

/-! ### T_EqualExts -/
def sameEx (x y : Ex) : Bool := (x.f0 == y.f0) && decide (x.f1 = y.f1)
def eqExts (a b : List Ex) : Bool := decide (a.length = b.length) && allFrom (fun i => sameEx (nt zEx a i) (nt zEx b i)) 0 a.length

/-! ### spec_EqualInts -/
theorem spec_EqualInts_l0 (a b : List Int) (hl : a.length ≤ 9223372036854775807) (he : b.length = a.length) : ∀ (d k i : Nat), i + d = a.length → d < k → spec_EqualInts.l0 k a b (i : Int) = some (decide (a.drop i = b.drop i)) := by
  intro d
  induction d with
  | zero =>
    intro k i h hk
    obtain ⟨k, rfl⟩ := succ_of hk
    obtain rfl : i = a.length := by omega
    simp only [spec_EqualInts.l0]; rw [if_neg (by omega), drop_end, ← he, drop_end, decide_eq_true rfl]
  | succ d ih =>
    intro k i h hk
    obtain ⟨k, rfl⟩ := succ_of hk
    simp only [spec_EqualInts.l0]
    rw [if_pos (by omega), if_pos (by omega), if_pos (by omega), wrap_up (n := a.length) (by omega) hl, rd_cast, rd_cast, drop_step a 0 i (by omega), drop_step b 0 i (by omega), ih k (i + 1) (by omega) (by omega)]
    by_cases e : nt 0 a i = nt 0 b i
    · rw [if_pos e, e]; simp
    · rw [if_neg e]; simp [e]
theorem spec_EqualInts_eq {a b : List Int} {k : Nat} (hl : a.length ≤ 9223372036854775807) (hk : a.length < k) : spec_EqualInts.f k a b = some (decide (a = b)) := by
  unfold spec_EqualInts.f
  by_cases e : a.length = b.length
  · rw [if_pos (by omega)]
    exact spec_EqualInts_l0 a b hl e.symm a.length k 0 (by omega) hk
  · rw [if_neg (by omega), decide_eq_false (fun h => e (by rw [h]))]
theorem spec_EqualInts_self {a : List Int} {k : Nat} (hl : a.length ≤ 9223372036854775807) (hk : a.length < k) : spec_EqualInts.f k a a = some true := by
  rw [spec_EqualInts_eq hl hk, decide_eq_true rfl]

/-! ### spec_EqualExts -/
theorem spec_EqualExts_eq {a b : List Ex} {k : Nat} (hl : a.length ≤ 1048576) (hm : inEx a ≤ 1048576) (hk : 2100000 < k) : spec_EqualExts.f k a b = some (eqExts a b) := by
  unfold spec_EqualExts.f eqExts
  by_cases e : a.length = b.length
  · rw [if_pos (by omega), decide_eq_true e]
    have h := all_loop (g := fun k i => spec_EqualExts.l0 k a b (i : Int)) (n := a.length) (B := 1048577) (ok := fun i => sameEx (nt zEx a i) (nt zEx b i)) (fin := true) (fun k => by
        simp only [spec_EqualExts.l0]; rw [if_neg (by omega)])
      (fun k i hi hk => by
        have hx := inEx_mem (nt_mem zEx a i hi)
        simp only [spec_EqualExts.l0]
        rw [if_pos (by omega), if_pos (by omega), if_pos (by omega), rd_Ex, rd_Ex, wrap_up (n := a.length) hi (by omega), spec_EqualInts_eq (by omega) (by omega), Option.bind_some]
        unfold sameEx
        by_cases h1 : (nt zEx a i).f0 = (nt zEx b i).f0
        · rw [if_pos h1]; simp [h1]
        · rw [if_neg h1, if_neg (by simp [h1])]) a.length k 0 (by omega) (by omega)
    simpa using h
  · rw [if_neg (by omega), decide_eq_false e]; rfl

/-! ### slices_Equal_int_int -/
theorem slices_Equal_int_int_l0 (a b : List Int) (hl : a.length ≤ 9223372036854775807) (he : b.length = a.length) : ∀ (d k i : Nat), i + d = a.length → d < k → slices_Equal_int_int.l0 k a b (a.length : Int) (i : Int) = some (decide (a.drop i = b.drop i)) := by
  intro d
  induction d with
  | zero =>
    intro k i h hk
    obtain ⟨k, rfl⟩ := succ_of hk
    obtain rfl : i = a.length := by omega
    simp only [slices_Equal_int_int.l0]; rw [if_neg (by omega), drop_end, ← he, drop_end]; rfl
  | succ d ih =>
    intro k i h hk
    obtain ⟨k, rfl⟩ := succ_of hk
    simp only [slices_Equal_int_int.l0]
    rw [if_pos (by omega), if_pos (by omega), if_pos (by omega), if_pos (by omega), rd_cast, rd_cast, drop_step a 0 i (by omega), drop_step b 0 i (by omega), wrap_up (n := a.length) (by omega) hl, ih k (i + 1) (by omega) (by omega)]
    by_cases e : nt 0 a i = nt 0 b i
    · rw [if_pos e]; simp [e]
    · rw [if_neg e]; simp [e]
theorem slices_Equal_int_int_eq {a b : List Int} {k : Nat} (hl : a.length ≤ 9223372036854775807) (hk : a.length < k) : slices_Equal_int_int.f k a b = some (decide (a = b)) := by
  unfold slices_Equal_int_int.f
  by_cases e : a.length = b.length
  · rw [if_pos (by omega)]
    exact slices_Equal_int_int_l0 a b hl e.symm a.length k 0 (by omega) hk
  · rw [if_neg (by omega), decide_eq_false (fun h => e (by rw [h]))]

/-! ### impl_EqualExts -/
theorem impl_equalExt_eq {x y : Ex} {k : Nat} (hl : x.f1.length ≤ 9223372036854775807) (hk : x.f1.length < k) : impl_equalExt.f k x.f0 x.f1 y.f0 y.f1 = some (sameEx x y) := by
  unfold impl_equalExt.f sameEx
  rw [slices_Equal_int_int_eq hl hk]
  by_cases h : x.f0 = y.f0
  · rw [if_pos h]; simp [h]
  · rw [if_neg h]; simp [h]
theorem impl_EqualExts_eq {a b : List Ex} {k : Nat} (hl : a.length ≤ 1048576) (hm : inEx a ≤ 1048576) (hk : 2100000 < k) : impl_EqualExts.f k a b = some (eqExts a b) := by
  unfold impl_EqualExts.f impl_EqualExts_all.f impl_Ext.f eqExts
  by_cases e : a.length = b.length
  · rw [if_pos (by omega), decide_eq_true e]
    have h := all_loop (g := fun k i => impl_Ext.l0 (inst_ := ⟨fun k_ x0 x1 x2 x3 => impl_equalExt.f k_ x0 x1 x2 x3, fun x0 x1 x2 x3 k_ => impl_equalExt.mono x0 x1 x2 x3 k_⟩) k b a (a.length : Int) (i : Int)) (n := a.length) (B := 1048577) (ok := fun i => sameEx (nt zEx a i) (nt zEx b i)) (fin := true) (fun k => by
        simp only [impl_Ext.l0]; rw [if_neg (by omega)])
      (fun k i hi hk => by
        have hx := inEx_mem (nt_mem zEx a i hi)
        simp only [impl_Ext.l0, KEEP_impl_Ext.f]
        rw [if_pos (by omega), if_pos (by omega), if_pos (by omega), if_pos (by omega), rd_Ex, rd_Ex, wrap_up (n := a.length) hi (by omega), impl_equalExt_eq (by omega) (by omega), Option.bind_some]) a.length k 0 (by omega) (by omega)
    rw [show impl_Ext.l0 (inst_ := _) k b a (a.length : Int) 0 = _ from h]; simp
  · rw [if_neg (by omega), decide_eq_false e]; rfl

end FnExactEqualExtsAid
open FnExactEqualExtsAid

theorem FnExactEqualExts : laws_FnExactEqualExts.Pure := by
  intro l m hl hw hl2 hw2
  obtain ⟨k, hk⟩ : ∃ k, k = 4 * 1048576 + 100 := ⟨_, rfl⟩
  refine ⟨k, ?_⟩
  unfold laws_FnExactEqualExts.f
  rw [laws_szExtS_eq (by omega) (by omega) hl (fun x hx => (hw x hx).2.1) (.inr (by omega)), Option.bind_some]
  by_cases hb : (1048576 : Int) < l.length + inLEx l
  · rw [if_pos hb, if_pos (by omega)]
  · rw [if_neg hb, if_neg (by omega), laws_szExtS_eq (by omega) (by omega) hl2 (fun x hx => (hw2 x hx).2.1) (.inr (by omega)), Option.bind_some]
    by_cases hc : (1048576 : Int) - (l.length + inLEx l) < m.length + inLEx m
    · rw [if_pos hc, if_pos (by omega)]
    · rw [if_neg hc, if_neg (by omega)]
      obtain ⟨x, hx⟩ : ∃ x, x = l.map convEx := ⟨_, rfl⟩
      have hm : x.length = l.length := by rw [hx]; exact List.length_map ..
      have hi : inEx x = inLEx l := by rw [hx]; exact inEx_map l
      obtain ⟨y, hy⟩ : ∃ y, y = m.map convEx := ⟨_, rfl⟩
      have hm2 : y.length = m.length := by rw [hy]; exact List.length_map ..
      have hi2 : inEx y = inLEx m := by rw [hy]; exact inEx_map m
      have f1 : laws_toExtS.f k l = some x := by rw [laws_toExtS_eq (by omega) (by omega) (by omega), hx]
      have f2 : laws_toExtS.f k m = some y := by rw [laws_toExtS_eq (by omega) (by omega) (by omega), hy]
      have f3 : laws_eqExtS.f k x x = some true := laws_eqExtS_self (by omega) (by omega) (by omega)
      have f4 : laws_eqExtS.f k y y = some true := laws_eqExtS_self (by omega) (by omega) (by omega)
      have f5 : spec_EqualExts.f k x y = some (eqExts x y) := spec_EqualExts_eq (by omega) (by omega) (by omega)
      have f6 : impl_EqualExts.f k x y = some (eqExts x y) := impl_EqualExts_eq (by omega) (by omega) (by omega)
      simp only [f1, f2, f3, f4, f5, f6, Option.bind_some, Bool.false_eq_true, if_true, if_false, ↓reduceIte, bne_self_eq_false, Bool.not_true, Bool.not_false, Nat.le_add_right, Nat.le_refl]

end Go.Proofs.Ytljoejddjendbaa.Pure
