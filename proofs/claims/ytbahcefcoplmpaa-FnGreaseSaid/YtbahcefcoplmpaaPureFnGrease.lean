/- The law FnGrease answers true on every list of bytes, as a statement over lists alone; the bounds are those of memory. -/
import Derived.Test.YtbahcefcoplmpaaPFnGreasex7
import Derived.Test.YtbahcefcoplmpaaGb
import Derived.Test.YtbahcefcoplmpaaGr
import Derived.Test.YtbahcefcoplmpaaGh
namespace Go.Proofs.Ytbahcefcoplmpaa.Pure
open Go.RowKit Go.Proofs.Ytbahcefcoplmpaa.PFnGrease Go.Proofs.YtbahcefcoplmpaaW.PrintWords Go.Proofs.YtbahcefcoplmpaaW.PrintLast Go.Proofs.Ytbahcefcoplmpaa.Gb Go.Proofs.Ytbahcefcoplmpaa.Gr Go.Proofs.Ytbahcefcoplmpaa.Gh Go.Proofs.Ytbahcefcoplmpaa
set_option linter.unusedSimpArgs false
set_option linter.unusedVariables false
namespace FnGreaseAid

/-! ### T_Ex -/
abbrev Ex := S46
abbrev zEx : Ex := z46
theorem rd_Ex (l : List Ex) (i : Nat) : rd_T46 l (i : Int) = nt zEx l i := by simp [rd_T46, nt]
/-- The lengths of the bodies. -/
def inEx : List Ex → Nat
  | [] => 0
  | x :: r => x.f1.length + inEx r
theorem inEx_mem {l : List Ex} {x : Ex} (h : x ∈ l) : x.f1.length ≤ inEx l := by
  induction l with
  | nil => simp at h
  | cons y r ih =>
    rcases List.mem_cons.1 h with rfl | h
    · simp [inEx]
    · have := ih h; simp [inEx]; omega
theorem inEx_filter (p : Ex → Bool) (l : List Ex) : inEx (l.filter p) ≤ inEx l := by
  induction l with
  | nil => simp
  | cons x r ih =>
    rw [List.filter_cons]
    by_cases h : p x = true
    · rw [if_pos h]; simp [inEx]; omega
    · rw [if_neg h]; simp [inEx]; omega

/-! ### spec_ExtOf -/
def extOf (l : List Ex) (t : Int) : Int := Hw.idxOf (fun x => x.f0 == t) l
theorem spec_ExtOf_eq {l : List Ex} {t : Int} {k : Nat} (hl : l.length ≤ 9223372036854775807) (hk : l.length < k) : spec_ExtOf.f k l t = some (extOf l t) := by
  unfold spec_ExtOf.f
  have h := find_loop (g := fun k i => spec_ExtOf.l0 k l t (i : Int)) (l := l) (z := zEx) (B := 0) (p := fun x => x.f0 == t) (hit := fun j => (j : Int)) (miss := (-1 : Int)) (fun k => by
      simp only [spec_ExtOf.l0]; rw [if_neg (by omega)])
    (fun k i hi _ => by
      simp only [spec_ExtOf.l0]
      rw [if_pos (by omega), if_pos (by omega), wrap_up (n := l.length) hi hl, rd_Ex]
      by_cases e : (nt zEx l i).f0 = t
      · rw [if_pos e, if_pos (by simp [e])]
      · rw [if_neg e, if_neg (by simp [e])]) l.length k 0 (by omega) (by omega)
  simpa [extOf, Hw.idxOf] using h

/-! ### T_AreExts -/
def bytes (l : List Int) : Bool := l.all fun x => decide (0 ≤ x ∧ x ≤ 255)
/-- Extension i is one, and its tag is none of those ahead of it. -/
def extOk (l : List Ex) (i : Nat) : Bool := decide (0 ≤ (nt zEx l i).f0 ∧ (nt zEx l i).f0 ≤ 255) && (decide ((nt zEx l i).f1.length ≤ 4) && (bytes (nt zEx l i).f1 && !(l.take i).any fun x => x.f0 == (nt zEx l i).f0))
def areExts (l : List Ex) : Bool := allFrom (extOk l) 0 l.length && decide (l.length ≤ 6)
theorem idxOf_lt {α : Type} {p : α → Bool} {l : List α} {z : α} {i : Nat} (hi : i < l.length) (hp : p (nt z l i) = true) : Hw.idxOf p l < (i : Int) ↔ (l.take i).any p = true := by
  unfold Hw.idxOf
  rw [List.any_eq_true]
  cases e : l.findIdx? p with
  | none =>
    rw [List.findIdx?_eq_none_iff] at e
    have := e _ (nt_mem z l i hi)
    rw [hp] at this; cases this
  | some j =>
    obtain ⟨h1, h2, h3⟩ := List.findIdx?_eq_some_iff_getElem.1 e
    simp only [Option.elim]
    constructor
    · intro h
      exact ⟨l[j], List.mem_take_iff_getElem.2 ⟨j, by omega, rfl⟩, h2⟩
    · rintro ⟨x, hx, hq⟩
      obtain ⟨j', hj', rfl⟩ := List.mem_take_iff_getElem.1 hx
      by_cases h : j' < j
      · have h4 := h3 j' h
        rw [hq] at h4; exact absurd rfl h4
      · omega
theorem areExts_len' {l : List Ex} (h : areExts l = true) : ∀ x ∈ l, x.f1.length ≤ 4 := by
  unfold areExts at h
  rw [Bool.and_eq_true, allFrom_iff, decide_eq_true_eq] at h
  intro x hx
  obtain ⟨j, hj, rfl⟩ := List.mem_iff_getElem.1 hx
  have := h.1 j (by omega) (by omega)
  unfold extOk at this
  simp only [Bool.and_eq_true, decide_eq_true_eq] at this
  have h4 := this.2.1
  rwa [nt_lt _ _ _ hj] at h4
theorem areExts_six {l : List Ex} (h : areExts l = true) : l.length ≤ 6 := by
  unfold areExts at h
  rw [Bool.and_eq_true, decide_eq_true_eq] at h
  exact h.2
theorem inEx_four : ∀ (l : List Ex), (∀ x ∈ l, x.f1.length ≤ 4) → inEx l ≤ 4 * l.length
  | [], _ => by simp [inEx]
  | x :: r, h => by
    have h1 := inEx_four r (fun y hy => h y (List.mem_cons_of_mem _ hy))
    have h2 := h x (by simp)
    simp only [inEx, List.length_cons]; omega

/-! ### T_AddGrease -/
theorem pick_range {a b c : Int} (h0 : 1 ≤ c) (h1 : c ≤ 1000000) : 0 ≤ pickOf a b c ∧ pickOf a b c < c := by
  unfold pickOf modOf
  obtain ⟨h, hh⟩ : ∃ h, h = hashOf [a, b] := ⟨_, rfl⟩
  rw [if_neg (by omega), if_pos ⟨h0, by omega⟩, ← hh]
  have hb : -c < Int.tmod h c ∧ Int.tmod h c < c := by
    refine ⟨?_, Int.tmod_lt_of_pos _ (by omega)⟩
    by_cases q : 0 ≤ h
    · have := Int.tmod_nonneg c q; omega
    · have e := Int.neg_tmod h c
      have h2 : Int.tmod (-h) c < c := Int.tmod_lt_of_pos _ (by omega)
      omega
  rw [wrap_id (by omega) (by omega)]
  exact ⟨Int.tmod_nonneg c (by omega), Int.tmod_lt_of_pos _ (by omega)⟩
def greaseAt (l : List Ex) (s : Int) : Nat := (pickOf s 1 ((l.length : Int) + 1)).toNat
def greaseExt (s : Int) : Ex := ⟨greaseTag s, List.replicate (pickOf s 2 3).toNat (pickOf s 3 256)⟩
def addGrease (l : List Ex) (s : Int) : List Ex := if areExts l = false ∨ (l.length : Int) = 6 ∨ 0 ≤ extOf l (greaseTag s) then l else l.take (greaseAt l s) ++ [greaseExt s] ++ l.drop (greaseAt l s)
theorem inEx_append (a b : List Ex) : inEx (a ++ b) = inEx a + inEx b := by
  induction a with
  | nil => simp [inEx]
  | cons x r ih => simp only [List.cons_append, inEx, ih]; omega
theorem addGrease_len (l : List Ex) (s : Int) : (addGrease l s).length ≤ l.length + 1 := by
  unfold addGrease
  split
  · omega
  · simp only [List.length_append, List.length_take, List.length_drop, List.length_singleton]; omega
theorem addGrease_in (l : List Ex) (s : Int) : inEx (addGrease l s) ≤ inEx l + 2 := by
  unfold addGrease
  split
  · omega
  · have h := inEx_append (l.take (greaseAt l s)) (l.drop (greaseAt l s))
    rw [List.take_append_drop] at h
    have hp := pick_range (a := s) (b := 2) (c := 3) (by omega) (by omega)
    rw [inEx_append, inEx_append]
    simp only [inEx, greaseExt, List.length_replicate]
    omega
theorem greaseAt_le {l : List Ex} (s : Int) (h : l.length ≤ 6) : greaseAt l s ≤ l.length := by
  have := pick_range (a := s) (b := 1) (c := (l.length : Int) + 1) (by omega) (by omega)
  unfold greaseAt
  omega
theorem addGrease_or (l : List Ex) (s : Int) : addGrease l s = l ∨ (addGrease l s).length ≤ 7 ∧ inEx (addGrease l s) ≤ 26 := by
  by_cases hq : areExts l = false ∨ (l.length : Int) = 6 ∨ 0 ≤ extOf l (greaseTag s)
  · left
    unfold addGrease
    rw [if_pos hq]
  · right
    have ha : areExts l = true := by
      cases h : areExts l
      · exact absurd (.inl h) hq
      · rfl
    have h6 := areExts_six ha
    have h4 := inEx_four l (areExts_len' ha)
    have h1 := addGrease_len l s
    have h2 := addGrease_in l s
    omega

/-! ### T_StripGrease -/
def stripGrease (l : List Ex) : List Ex := l.filter fun x => !isReserved x.f0
theorem stripGrease_len (l : List Ex) : (stripGrease l).length ≤ l.length := List.length_filter_le _ _
theorem stripGrease_in (l : List Ex) : inEx (stripGrease l) ≤ inEx l := inEx_filter _ l

/-! ### T_EqualExts -/
def sameEx (x y : Ex) : Bool := (x.f0 == y.f0) && decide (x.f1 = y.f1)
def eqExts (a b : List Ex) : Bool := decide (a.length = b.length) && allFrom (fun i => sameEx (nt zEx a i) (nt zEx b i)) 0 a.length

/-! ### T_Decode -/
/-- The extensions that bytes hold, all of them. -/
def allF : Nat → List Int → Option (List Ex)
  | _, [] => some []
  | _, [_] => none
  | 0, _ :: _ :: _ => none
  | f + 1, t :: n :: s => if 0 ≤ n ∧ n ≤ s.length then (allF f (s.drop n.toNat)).map fun xs => (⟨t, s.take n.toNat⟩ : Ex) :: xs else none
/-- m extensions, and nothing behind them. -/
def cntF : Nat → List Int → Option (List Ex)
  | 0, [] => some []
  | 0, _ :: _ => none
  | _ + 1, [] => none
  | _ + 1, [_] => none
  | m + 1, t :: n :: s => if 0 ≤ n ∧ (n ≤ 4 ∧ n ≤ s.length) then (cntF m (s.drop n.toNat)).map fun xs => (⟨t, s.take n.toNat⟩ : Ex) :: xs else none
def decodeExts (b : List Int) : List Ex × Bool :=
  match b with
  | [] => ([], false)
  | c :: r => match allF r.length r with
    | none => ([], false)
    | some xs => if (xs.length : Int) = c ∧ areExts xs = true then (xs, true) else ([], false)
theorem cnt_all : ∀ (m f : Nat) (r : List Int) (xs : List Ex), r.length ≤ f → cntF m r = some xs → allF f r = some xs ∧ xs.length = m
  | 0, _, [], xs, _, h => by simp only [cntF, Option.some.injEq] at h; subst h; exact ⟨by simp [allF], rfl⟩
  | 0, _, _ :: _, xs, _, h => by simp [cntF] at h
  | m + 1, _, [], xs, _, h => by simp [cntF] at h
  | m + 1, _, [_], xs, _, h => by simp [cntF] at h
  | m + 1, 0, t :: n :: s, xs, hf, h => by simp at hf
  | m + 1, f + 1, t :: n :: s, xs, hf, h => by
    simp only [cntF] at h
    by_cases q : 0 ≤ n ∧ (n ≤ 4 ∧ n ≤ s.length)
    · rw [if_pos q, Option.map_eq_some_iff] at h
      obtain ⟨ys, h1, rfl⟩ := h
      obtain ⟨h2, h3⟩ := cnt_all m f (s.drop n.toNat) ys (by rw [List.length_drop]; simp only [List.length_cons] at hf; omega) h1
      refine ⟨?_, by simp [h3]⟩
      simp only [allF]
      rw [if_pos ⟨q.1, q.2.2⟩, h2]; rfl
    · rw [if_neg q] at h; cases h
theorem all_cnt : ∀ (f : Nat) (r : List Int) (xs : List Ex), allF f r = some xs → (∀ x ∈ xs, x.f1.length ≤ 4) → cntF xs.length r = some xs
  | f, [], xs, h, _ => by simp only [allF, Option.some.injEq] at h; subst h; rfl
  | f, [_], xs, h, _ => by simp [allF] at h
  | 0, _ :: _ :: _, xs, h, _ => by simp [allF] at h
  | f + 1, t :: n :: s, xs, h, hx => by
    simp only [allF] at h
    by_cases q : 0 ≤ n ∧ n ≤ s.length
    · rw [if_pos q, Option.map_eq_some_iff] at h
      obtain ⟨ys, h1, rfl⟩ := h
      have h2 := all_cnt f _ ys h1 (fun x hx' => hx x (List.mem_cons_of_mem _ hx'))
      have h4 := hx _ (List.mem_cons_self ..)
      have h5 : n ≤ 4 := by rw [List.length_take] at h4; omega
      simp only [List.length_cons, cntF]
      rw [if_pos ⟨q.1, h5, q.2⟩, h2]; rfl
    · rw [if_neg q] at h; cases h
theorem decode_ok {b : List Int} : (decodeExts b).1 = [] ∨ areExts (decodeExts b).1 = true := by
  unfold decodeExts
  split
  · exact .inl rfl
  · split
    · exact .inl rfl
    · split
      · rename_i h; exact .inr h.2
      · exact .inl rfl
theorem drop_two {b : List Int} {i : Nat} (h : i + 1 < b.length) : b.drop i = nt 0 b i :: nt 0 b (i + 1) :: b.drop (i + 2) := by
  rw [drop_step b 0 i (by omega), drop_step b 0 (i + 1) h]
theorem cut_row {b : List Int} {i n : Nat} : (b.take (i + 2 + n)).drop (i + 2) = (b.drop (i + 2)).take n := by
  rw [List.drop_take, show i + 2 + n - (i + 2) = n by omega]

/-! ### T_Encode -/
def encE (x : Ex) : List Int := x.f0 :: (x.f1.length : Int) :: x.f1
def encL (l : List Ex) : List Int := l.flatMap encE
def encodeExts (l : List Ex) : List Int × Bool := if areExts l = true then ((l.length : Int) :: encL l, true) else ([], false)
theorem areExts_len {l : List Ex} (h : areExts l = true) : l.length ≤ 6 ∧ ∀ x ∈ l, x.f1.length ≤ 4 := by
  unfold areExts at h
  rw [Bool.and_eq_true, allFrom_iff, decide_eq_true_eq] at h
  refine ⟨h.2, fun x hx => ?_⟩
  obtain ⟨j, hj, rfl⟩ := List.mem_iff_getElem.1 hx
  have := h.1 j (by omega) (by omega)
  unfold extOk at this
  simp only [Bool.and_eq_true, decide_eq_true_eq] at this
  have h4 := this.2.1
  rwa [nt_lt _ _ _ hj] at h4
theorem foldl_enc (l : List Ex) : ∀ (s : List Int), l.foldl (fun s x => s ++ encE x) s = s ++ encL l := by
  induction l with
  | nil => intro s; simp [encL]
  | cons x r ih => intro s; rw [List.foldl_cons, ih]; simp [encL]

/-! ### T_known -/
def knownOf (l : List Ex) (t : List Int) : List Ex := l.filter fun x => t.any (· == x.f0)

/-! ### T_round -/
theorem all_enc : ∀ (l : List Ex) (f : Nat), (encL l).length ≤ f → allF f (encL l) = some l
  | [], f, _ => by simp [encL, allF]
  | x :: r, f, h => by
    have e : encL (x :: r) = x.f0 :: (x.f1.length : Int) :: (x.f1 ++ encL r) := by simp [encL, encE]
    rw [e] at h ⊢
    simp only [List.length_cons, List.length_append] at h
    obtain ⟨f, rfl⟩ := succ_of (show 0 < f by omega)
    simp only [allF]
    have hl : (x.f1 ++ encL r).length = x.f1.length + (encL r).length := List.length_append
    rw [if_pos (by omega), toNat_cast, List.drop_left, List.take_left, all_enc r f (by omega)]; rfl
theorem all_inv : ∀ (f : Nat) (b : List Int) (xs : List Ex), allF f b = some xs → b = encL xs
  | _, [], xs, h => by simp only [allF, Option.some.injEq] at h; subst h; rfl
  | _, [_], xs, h => by simp [allF] at h
  | 0, _ :: _ :: _, xs, h => by simp [allF] at h
  | f + 1, t :: n :: s, xs, h => by
    simp only [allF] at h
    by_cases q : 0 ≤ n ∧ n ≤ s.length
    · rw [if_pos q, Option.map_eq_some_iff] at h
      obtain ⟨ys, h1, rfl⟩ := h
      have h2 := all_inv f _ ys h1
      have e : encL ((⟨t, s.take n.toNat⟩ : Ex) :: ys) = t :: ((s.take n.toNat).length : Int) :: (s.take n.toNat ++ encL ys) := by simp [encL, encE]
      rw [e, ← h2, List.take_append_drop, List.length_take]
      congr 2
      omega
    · rw [if_neg q] at h; cases h
theorem decode_encode {l : List Ex} (h : areExts l = true) : decodeExts (encodeExts l).1 = (l, true) := by
  unfold encodeExts
  rw [if_pos h]
  simp only [decodeExts]
  rw [all_enc l _ (Nat.le_refl _)]
  simp [h]
theorem encode_decode {b : List Int} {l : List Ex} (h : decodeExts b = (l, true)) : encodeExts l = (b, true) := by
  cases b with
  | nil => simp [decodeExts] at h
  | cons c r =>
    simp only [decodeExts] at h
    cases e : allF r.length r with
    | none => rw [e] at h; simp at h
    | some xs =>
      rw [e] at h
      simp only at h
      by_cases q : (xs.length : Int) = c ∧ areExts xs = true
      · rw [if_pos q] at h
        obtain ⟨rfl, _⟩ := Prod.mk.inj h
        unfold encodeExts
        rw [if_pos q.2, q.1, ← all_inv _ _ _ e]
      · rw [if_neg q] at h; simp at h
theorem eqExts_self (l : List Ex) : eqExts l l = true := by
  unfold eqExts
  rw [Bool.and_eq_true, allFrom_iff]
  exact ⟨by simp, fun j _ _ => by simp [sameEx]⟩
theorem enc_len : ∀ (l : List Ex), (∀ x ∈ l, x.f1.length ≤ 4) → (encL l).length ≤ 6 * l.length
  | [], _ => by simp [encL]
  | x :: r, h => by
    have h1 := enc_len r (fun y hy => h y (List.mem_cons_of_mem _ hy))
    have h2 := h x (by simp)
    have e : encL (x :: r) = x.f0 :: (x.f1.length : Int) :: (x.f1 ++ encL r) := by simp [encL, encE]
    rw [e]; simp only [List.length_cons, List.length_append]; omega
theorem inEx_five : ∀ (l : List Ex), (∀ x ∈ l, x.f1.length ≤ 5) → inEx l ≤ 5 * l.length
  | [], _ => by simp [inEx]
  | x :: r, h => by
    have h1 := inEx_five r (fun y hy => h y (List.mem_cons_of_mem _ hy))
    have h2 := h x (by simp)
    simp only [inEx, List.length_cons]; omega
theorem known_left : ∀ (l : List Ex) (t : List Int), ((l.map (·.f0)).filter fun x => !t.any (· == x)).length + (knownOf l t).length = l.length
  | [], _ => rfl
  | x :: r, t => by
    have h := known_left r t
    unfold knownOf at h ⊢
    rw [List.map_cons, List.filter_cons, List.filter_cons]
    cases t.any (· == x.f0) <;> simp <;> omega

/-! ### T_grease -/
theorem areExts_iff (l : List Ex) : areExts l = true ↔ l.length ≤ 6 ∧ (∀ x ∈ l, (0 ≤ x.f0 ∧ x.f0 ≤ 255) ∧ x.f1.length ≤ 4 ∧ bytes x.f1 = true) ∧ l.Pairwise (fun x y => x.f0 ≠ y.f0) := by
  have key : ∀ i (hi : i < l.length), extOk l i = true ↔ ((0 ≤ l[i].f0 ∧ l[i].f0 ≤ 255) ∧ l[i].f1.length ≤ 4 ∧ bytes l[i].f1 = true) ∧ ∀ j (hj : j < i), (l[j]'(by omega)).f0 ≠ l[i].f0 := by
    intro i hi
    unfold extOk
    rw [nt_lt _ _ _ hi]
    simp only [Bool.and_eq_true, decide_eq_true_eq, Bool.not_eq_true']
    constructor
    · rintro ⟨h1, h2, h3, h4⟩
      refine ⟨⟨h1, h2, h3⟩, fun j hj he => ?_⟩
      rw [List.any_eq_false] at h4
      exact h4 _ (List.mem_take_iff_getElem.2 ⟨j, by omega, rfl⟩) (by simp [he])
    · rintro ⟨⟨h1, h2, h3⟩, h4⟩
      refine ⟨h1, h2, h3, ?_⟩
      rw [List.any_eq_false]
      intro x hx
      obtain ⟨j, hj, rfl⟩ := List.mem_take_iff_getElem.1 hx
      simpa using h4 j (by omega)
  unfold areExts
  rw [Bool.and_eq_true, allFrom_iff, decide_eq_true_eq]
  constructor
  · rintro ⟨h1, h2⟩
    refine ⟨h2, fun x hx => ?_, ?_⟩
    · obtain ⟨i, hi, rfl⟩ := List.mem_iff_getElem.1 hx
      exact ((key i hi).1 (h1 i (by omega) (by omega))).1
    · rw [List.pairwise_iff_getElem]
      intro i j hi hj hij
      exact ((key j hj).1 (h1 j (by omega) (by omega))).2 i hij
  · rintro ⟨h1, h2, h3⟩
    refine ⟨fun i _ hi => ?_, h1⟩
    have hi' : i < l.length := by omega
    refine (key i hi').2 ⟨h2 _ (List.getElem_mem hi'), fun j hj => ?_⟩
    rw [List.pairwise_iff_getElem] at h3
    exact h3 j i (by omega) hi' hj
theorem extOf_none {l : List Ex} {t : Int} : ¬ 0 ≤ extOf l t ↔ ∀ x ∈ l, x.f0 ≠ t := by
  unfold extOf Hw.idxOf
  cases e : l.findIdx? (fun x => x.f0 == t) with
  | none =>
    rw [List.findIdx?_eq_none_iff] at e
    simp only [Option.elim]
    exact ⟨fun _ x hx he => by have := e x hx; simp [he] at this, fun _ => by omega⟩
  | some j =>
    obtain ⟨h1, h2, h3⟩ := List.findIdx?_eq_some_iff_getElem.1 e
    simp only [Option.elim]
    exact ⟨fun h => absurd (by omega) h, fun h => absurd (by simpa using h2) (h _ (List.getElem_mem h1))⟩
theorem greaseTag_at (s : Int) : ∃ p : Int, 0 ≤ p ∧ p < 16 ∧ greaseTag s = 16 * p + 10 := by
  have h := pick_range (a := s) (b := 0) (c := 16) (by omega) (by omega)
  refine ⟨pickOf s 0 16, h.1, h.2, ?_⟩
  unfold greaseTag
  rw [wrap_id (x := 16 * pickOf s 0 16) (by omega) (by omega), wrap_id (by omega) (by omega)]
theorem greaseTag_res (s : Int) : isReserved (greaseTag s) = true := by
  obtain ⟨p, h0, h1, e⟩ := greaseTag_at s
  rw [e]
  unfold isReserved
  rw [Bool.and_eq_true, decide_eq_true_eq, beq_iff_eq, Int.tmod_eq_emod_of_nonneg (by omega)]
  omega
theorem grease_perm (l : List Ex) (n : Nat) (g : Ex) : (l.take n ++ [g] ++ l.drop n).Perm (g :: l) := by
  rw [List.append_assoc]
  have h := List.perm_middle (a := g) (l₁ := l.take n) (l₂ := l.drop n)
  rwa [List.take_append_drop] at h
theorem addGrease_exts {l : List Ex} (s : Int) (h : areExts l = true) : areExts (addGrease l s) = true := by
  unfold addGrease
  split
  · exact h
  · rename_i hq
    obtain ⟨h1, h2, h3⟩ := (areExts_iff l).1 h
    have hp := grease_perm l (greaseAt l s) (greaseExt s)
    have hn : ∀ x ∈ l, x.f0 ≠ greaseTag s := extOf_none.1 (fun hx => hq (.inr (.inr hx)))
    obtain ⟨p, p0, p1, e⟩ := greaseTag_at s
    have p2 := pick_range (a := s) (b := 2) (c := 3) (by omega) (by omega)
    have p3 := pick_range (a := s) (b := 3) (c := 256) (by omega) (by omega)
    refine (areExts_iff _).2 ⟨?_, fun x hx => ?_, ?_⟩
    · have hl := hp.length_eq
      rw [List.length_cons] at hl
      have : ¬ (l.length : Int) = 6 := fun h6 => hq (.inr (.inl h6))
      omega
    · rcases List.mem_cons.1 (hp.mem_iff.1 hx) with rfl | hx
      · refine ⟨?_, ?_, ?_⟩
        · show 0 ≤ greaseTag s ∧ greaseTag s ≤ 255
          omega
        · show (List.replicate _ _).length ≤ 4
          rw [List.length_replicate]
          omega
        · show bytes (List.replicate _ _) = true
          unfold bytes
          rw [List.all_eq_true]
          intro x hx
          rw [(List.mem_replicate.1 hx).2]
          simp only [decide_eq_true_eq]
          omega
      · exact h2 x hx
    · refine (hp.pairwise_iff (fun {a b} hab => Ne.symm hab)).2 (List.pairwise_cons.2 ⟨fun x hx => ?_, h3⟩)
      exact fun he => hn x hx he.symm
theorem addGrease_filter (p : Ex → Bool) {l : List Ex} {s : Int} (h : p (greaseExt s) = false) : (addGrease l s).filter p = l.filter p := by
  unfold addGrease
  split
  · rfl
  · rw [List.filter_append, List.filter_append, List.filter_cons_of_neg (by simp [h]), List.filter_nil, List.append_nil, ← List.filter_append, List.take_append_drop]
theorem addGrease_strip (l : List Ex) (s : Int) : stripGrease (addGrease l s) = stripGrease l := addGrease_filter _ (by
  show (!isReserved (greaseTag s)) = false
  rw [greaseTag_res]; rfl)
theorem addGrease_known (l : List Ex) (s : Int) : knownOf (addGrease l s) [1, 2, 3, 40, 200] = knownOf l [1, 2, 3, 40, 200] := addGrease_filter _ (by
  obtain ⟨p, h0, h1, e⟩ := greaseTag_at s
  show ([1, 2, 3, 40, 200].any fun a => a == greaseTag s) = false
  rw [e, List.any_eq_false]
  intro x hx
  simp only [List.mem_cons, List.not_mem_nil, or_false] at hx
  simp only [beq_iff_eq]
  omega)
theorem addGrease_ext {l : List Ex} {s : Int} (h : areExts l = true) (hl : (l.length : Int) < 6) : 0 ≤ extOf (addGrease l s) (greaseTag s) := by
  refine Classical.byContradiction fun hn => ?_
  have hn' := extOf_none.1 hn
  unfold addGrease at hn'
  split at hn'
  · rename_i hq
    rcases hq with hq | hq | hq
    · rw [h] at hq; cases hq
    · omega
    · exact extOf_none.2 hn' hq
  · exact hn' (greaseExt s) (by simp) rfl
theorem strip_strip (l : List Ex) : stripGrease (stripGrease l) = stripGrease l := by unfold stripGrease; rw [List.filter_filter]; simp
theorem strip_hard (l : List Ex) : (stripGrease l).any (fun x => isReserved x.f0) = false := by
  rw [List.any_eq_false]
  intro x hx
  have := (List.mem_filter.1 hx).2
  simpa using this

/-! ### T_draw -/
theorem and_byte (x : Int) : 0 ≤ Go.bits .and .i64 x 255 ∧ Go.bits .and .i64 x 255 ≤ 255 := by
  have h : (BitVec.ofInt 64 x &&& BitVec.ofInt 64 255).toNat ≤ 255 := by
    rw [BitVec.toNat_and]
    exact Nat.le_trans Nat.and_le_right (by decide)
  have e : Go.bits .and .i64 x 255 = IntKind.i64.wrap ((BitVec.ofInt 64 x &&& BitVec.ofInt 64 255).toNat : Int) := rfl
  rw [e, IntKind.wrap_i64]; omega
theorem draw_new {l : List Int} {k : Nat} (hl : l.length ≤ 1048576) (hk : l.length < k) : ∃ s, spec_l1New.f k l = some (l, 0, s) := by
  unfold spec_l1New.f
  have h : ∀ (d k i : Nat) (s : Int), i + d = l.length → d < k → ∃ s', spec_l1New.l0 k l s (i : Int) = some (l, 0, s') := by
    intro d
    induction d with
    | zero =>
      intro k i s hi hk
      obtain ⟨k, rfl⟩ := succ_of hk
      simp only [spec_l1New.l0]
      rw [if_neg (by omega)]; exact ⟨_, rfl⟩
    | succ d ih =>
      intro k i s hi hk
      obtain ⟨k, rfl⟩ := succ_of hk
      simp only [spec_l1New.l0]
      rw [if_pos (by omega)]
      by_cases q : (i : Int) < 4000
      · rw [if_pos q, if_pos (by omega), wrap_up (n := l.length) (by omega) (by omega)]
        exact ih k (i + 1) _ (by omega) (by omega)
      · rw [if_neg q]; exact ⟨_, rfl⟩
  exact h l.length k 0 _ (by omega) hk
theorem draw_byte {l : List Int} {i s : Int} (hl : l.length ≤ 1048576) (hi : 0 ≤ i) : ∃ b j t, spec_l1Byte.f l i s = some (b, j, t) ∧ 0 ≤ b ∧ b ≤ 255 ∧ 0 ≤ j := by
  unfold spec_l1Byte.f
  by_cases q : i < (l.length : Int)
  · rw [if_pos q, if_pos hi]
    exact ⟨_, _, _, rfl, (and_byte _).1, (and_byte _).2, by rw [wrap_id (by omega) (by omega)]; omega⟩
  · rw [if_neg q]
    exact ⟨_, _, _, rfl, (and_byte _).1, (and_byte _).2, hi⟩
theorem draw_below {l : List Int} {i s n : Int} (hl : l.length ≤ 1048576) (hi : 0 ≤ i) (h0 : 0 < n) (h1 : n ≤ 256) : ∃ v j t, spec_l1Below.f l i s n = some (v, j, t) ∧ 0 ≤ v ∧ v < n ∧ 0 ≤ j := by
  unfold spec_l1Below.f
  obtain ⟨b, j, t, e, b0, b1, j0⟩ := draw_byte (s := s) hl hi
  rw [if_neg (by omega), if_pos h1, e, Option.bind_some, if_neg (by omega)]
  refine ⟨_, _, _, rfl, Int.tmod_nonneg _ b0, ?_, j0⟩
  exact Int.tmod_lt_of_pos _ h0

/-! ### T_int -/
theorem draw_int {st xs : List Int} {i s : Int} (hl : st.length ≤ 1048576) (hi : 0 ≤ i) (h0 : 0 < xs.length) (h1 : xs.length ≤ 256) : ∃ v j t, spec_l1Int.f st i s xs = some (v, j, t) ∧ v ∈ xs ∧ 0 ≤ j := by
  unfold spec_l1Int.f
  obtain ⟨v, j, t, e, v0, v1, j0⟩ := draw_below (s := s) (n := (xs.length : Int)) hl hi (by omega) (by omega)
  rw [e, Option.bind_some, if_pos v0, if_pos v1]
  obtain ⟨n, rfl⟩ : ∃ n : Nat, v = n := ⟨v.toNat, by omega⟩
  exact ⟨_, _, _, rfl, by rw [rd_cast]; exact nt_mem 0 xs n (by omega), j0⟩

/-! ### spec_l9Draw -/
theorem extOk_snoc {l : List Ex} {x : Ex} {j : Nat} (h : j < l.length) : extOk (l ++ [x]) j = extOk l j := by
  unfold extOk
  have e1 : nt zEx (l ++ [x]) j = nt zEx l j := by
    rw [nt_lt _ _ _ h, nt_lt _ _ _ (by rw [List.length_append]; omega), List.getElem_append_left h]
  rw [e1, List.take_append_of_le_length (by omega)]
theorem areExts_snoc {l : List Ex} {t : Int} {b : List Int} (h : areExts l = true) (hl : l.length ≤ 5) (t0 : 0 ≤ t) (t1 : t ≤ 255) (hb : b.length ≤ 4) (hbb : bytes b = true) (hn : extOf l t < 0) : areExts (l ++ [(⟨t, b⟩ : Ex)]) = true := by
  unfold areExts at h ⊢
  rw [Bool.and_eq_true, allFrom_iff, decide_eq_true_eq] at h ⊢
  rw [List.length_append, List.length_singleton]
  refine ⟨fun j _ hj => ?_, by omega⟩
  by_cases q : j < l.length
  · rw [extOk_snoc q]; exact h.1 j (by omega) (by omega)
  · obtain rfl : j = l.length := by omega
    have hany : (l.any fun x => x.f0 == t) = false := by
      have := Hw.idxOf_any (fun x : Ex => x.f0 == t) l
      rw [← this, decide_eq_false]
      unfold extOf at hn
      omega
    unfold extOk
    rw [nt_at zEx l [] (⟨t, b⟩ : Ex), List.take_left]
    rw [hany, hbb, decide_eq_true (show (0 : Int) ≤ t ∧ t ≤ 255 from ⟨t0, t1⟩), decide_eq_true (show b.length ≤ 4 from hb)]; rfl
theorem bytes_snoc {b : List Int} {v : Int} (h : bytes b = true) (v0 : 0 ≤ v) (v1 : v < 256) : bytes (b ++ [v]) = true := by
  unfold bytes at h ⊢
  rw [List.all_append, h]; simp; omega
theorem draw_l9_l1 {st : List Int} {m : Nat} (ih : ∀ (k : Nat) (l : List Ex) (i s : Int), 0 ≤ i → areExts l = true → l.length + m ≤ 5 → 20 * m + 50 < k → ∃ l' j t, spec_l9Draw.l0 k l (m : Int) st i s = some (l', j, t) ∧ areExts l' = true ∧ l'.length ≤ 5 ∧ 0 ≤ j) (hs : st.length ≤ 1048576) :
    ∀ (d k : Nat) (l : List Ex) (i s t : Int) (b : List Int), 0 ≤ i → areExts l = true → l.length + (m + 1) ≤ 5 → 20 * m + 52 + d < k → 0 ≤ t → t ≤ 255 → b.length + d ≤ 4 → bytes b = true → ∃ l' j u, spec_l9Draw.l1 k l ((m + 1 : Nat) : Int) (d : Int) st i s t b = some (l', j, u) ∧ areExts l' = true ∧ l'.length ≤ 5 ∧ 0 ≤ j := by
  intro d
  induction d with
  | zero =>
    intro k l i s t b hi hl hn hk t0 t1 hb hbb
    obtain ⟨k, rfl⟩ := succ_of hk
    simp only [spec_l9Draw.l1]
    rw [if_neg (by omega), spec_ExtOf_eq (by omega) (by omega), Option.bind_some, show wrap64 (((m + 1 : Nat) : Int) - 1) = (m : Int) by rw [wrap_id (by omega) (by omega)]; omega]
    by_cases q : extOf l t < 0
    · rw [if_pos q, if_pos (by omega)]
      exact ih k _ i s hi (areExts_snoc hl (by omega) t0 t1 (by omega) hbb q) (by rw [List.length_append, List.length_singleton]; omega) (by omega)
    · rw [if_neg q]
      exact ih k l i s hi hl (by omega) (by omega)
  | succ d ihd =>
    intro k l i s t b hi hl hn hk t0 t1 hb hbb
    obtain ⟨k, rfl⟩ := succ_of hk
    simp only [spec_l9Draw.l1]
    obtain ⟨v, j, u, e, v0, v1, j0⟩ := draw_below (s := s) (n := 256) hs hi (by omega) (by omega)
    rw [if_pos (by omega), e, Option.bind_some, if_pos (by omega), show wrap64 (((d + 1 : Nat) : Int) - 1) = (d : Int) by rw [wrap_id (by omega) (by omega)]; omega]
    exact ihd k l j u t (b ++ [v]) j0 hl hn (by omega) t0 t1 (by rw [List.length_append, List.length_singleton]; omega) (bytes_snoc hbb v0 v1)
theorem draw_l9_l0 {st : List Int} (hs : st.length ≤ 1048576) : ∀ (m k : Nat) (l : List Ex) (i s : Int), 0 ≤ i → areExts l = true → l.length + m ≤ 5 → 20 * m + 50 < k → ∃ l' j t, spec_l9Draw.l0 k l (m : Int) st i s = some (l', j, t) ∧ areExts l' = true ∧ l'.length ≤ 5 ∧ 0 ≤ j := by
  intro m
  induction m with
  | zero =>
    intro k l i s hi hl hn hk
    obtain ⟨k, rfl⟩ := succ_of hk
    simp only [spec_l9Draw.l0]
    rw [if_neg (by omega)]
    exact ⟨_, _, _, rfl, hl, by omega, hi⟩
  | succ m ih =>
    intro k l i s hi hl hn hk
    obtain ⟨k, rfl⟩ := succ_of hk
    simp only [spec_l9Draw.l0]
    obtain ⟨t, j, u, e, t0, j0⟩ := draw_int (s := s) (xs := [1, 2, 3, 10, 26, 40, 42, 200]) hs hi (by simp) (by simp)
    rw [if_pos (by omega), e, Option.bind_some]
    dsimp only
    obtain ⟨v, j2, u2, e2, v0, v1, j1⟩ := draw_below (s := u) (n := 4) hs j0 (by omega) (by omega)
    rw [e2, Option.bind_some]
    obtain ⟨d, rfl⟩ : ∃ d : Nat, v = d := ⟨v.toNat, by omega⟩
    have ht : 0 ≤ t ∧ t ≤ 255 := by
      simp only [List.mem_cons, List.not_mem_nil, or_false] at t0
      omega
    exact draw_l9_l1 ih hs d k l j2 u2 t [] j1 hl hn (by omega) ht.1 ht.2 (by simp; omega) rfl
theorem draw_l9 {st : List Int} {k : Nat} {i s : Int} (hs : st.length ≤ 1048576) (hi : 0 ≤ i) (hk : 200 < k) : ∃ l j t, spec_l9Draw.f k st i s = some (l, j, t) ∧ areExts l = true ∧ l.length ≤ 5 ∧ 0 ≤ j := by
  unfold spec_l9Draw.f
  obtain ⟨v, j, t, e, v0, v1, j0⟩ := draw_below (s := s) (n := 6) hs hi (by omega) (by omega)
  rw [e, Option.bind_some]
  obtain ⟨n, rfl⟩ : ∃ n : Nat, v = n := ⟨v.toNat, by omega⟩
  exact draw_l9_l0 hs n k [] j t j0 rfl (by simp; omega) (by omega)
theorem draw_l9any {st : List Int} {k : Nat} {i s : Int} (hs : st.length ≤ 1048576) (hi : 0 ≤ i) (hk : 200 < k) : ∃ l j t, spec_l9Any.f k st i s = some (l, j, t) ∧ l.length ≤ 6 ∧ (∀ x ∈ l, x.f1.length ≤ 5) ∧ 0 ≤ j := by
  unfold spec_l9Any.f
  obtain ⟨l, j, t, e, l1, l2, j0⟩ := draw_l9 (s := s) hs hi hk
  have l3 := areExts_len' l1
  have l4 : ∀ x ∈ l, x.f1.length ≤ 5 := fun x hx => by have := l3 x hx; omega
  rw [e, Option.bind_some]
  dsimp only
  by_cases q : (l.length : Int) = 0
  · rw [if_pos q]; exact ⟨_, _, _, rfl, by omega, l4, j0⟩
  · rw [if_neg q]
    obtain ⟨v, j2, t2, e2, v0, v1, j1⟩ := draw_below (s := t) (n := (l.length : Int)) hs j0 (by omega) (by omega)
    rw [e2, Option.bind_some]
    dsimp only
    obtain ⟨w, j3, t3, e3, w0, w1, j4⟩ := draw_below (s := t2) (n := 9) hs j1 (by omega) (by omega)
    rw [e3, Option.bind_some]
    dsimp only
    obtain ⟨n, rfl⟩ : ∃ n : Nat, v = n := ⟨v.toNat, by omega⟩
    have hx := l3 _ (nt_mem zEx l n (by omega))
    have hset : ∀ y : Ex, y.f1.length ≤ 5 → ∀ x ∈ l.set n y, x.f1.length ≤ 5 := by
      intro y hy x hx
      rcases List.mem_or_eq_of_mem_set hx with h | h
      · exact l4 x h
      · rw [h]; exact hy
    rw [rd_Ex, toNat_cast]
    by_cases q0 : w = 0
    · rw [if_pos q0]
      obtain ⟨v5, j5, t5, e5, _, j6⟩ := draw_int (s := t3) (xs := [-1, 0, 255, 256]) hs j4 (by simp) (by simp)
      rw [e5, Option.bind_some, if_pos v0, if_pos v1]
      exact ⟨_, _, _, rfl, by rw [List.length_set]; omega, hset _ (by dsimp only; omega), j6⟩
    · rw [if_neg q0]
      by_cases q1 : w = 1
      · rw [if_pos q1, if_pos v0, if_pos v1]
        obtain ⟨v5, j5, t5, e5, _, j6⟩ := draw_int (s := t3) (xs := [-1, 255, 256]) hs j4 (by simp) (by simp)
        rw [e5, Option.bind_some, if_pos (by omega)]
        exact ⟨_, _, _, rfl, by rw [List.length_set]; omega, hset _ (by dsimp only; rw [List.length_append, List.length_singleton]; omega), j6⟩
      · rw [if_neg q1]
        by_cases q2 : w = 2
        · rw [if_pos q2, if_pos v0, if_pos v1]
          exact ⟨_, _, _, rfl, by rw [List.length_set]; omega, hset _ (by simp), j4⟩
        · rw [if_neg q2]
          by_cases q3 : w = 3
          · rw [if_pos q3, if_pos (by omega), if_pos (by omega)]
            refine ⟨_, _, _, rfl, by rw [List.length_append, List.length_singleton]; omega, fun x hx => ?_, j4⟩
            rcases List.mem_append.1 hx with h | h
            · exact l4 x h
            · rw [List.mem_singleton] at h; rw [h]; simp
          · rw [if_neg q3]
            exact ⟨_, _, _, rfl, by omega, l4, j4⟩

/-! ### T_once -/
theorem draw_onceB {st : List Int} {i s n : Int} (hl : st.length ≤ 1048576) (hi : 0 ≤ i) (h0 : 0 < n) (h1 : n ≤ 256) : ∃ v j t, spec_l1Once.f st i s n = some (v, j, t) ∧ 0 ≤ j := by
  unfold spec_l1Once.f
  obtain ⟨v, j, t, e, _, _, j0⟩ := draw_below (s := s) (n := n) hl hi h0 h1
  rw [e, Option.bind_some]
  exact ⟨_, _, _, rfl, j0⟩

/-! ### impl_keptExts -/
theorem impl_keptExts_eq {f : Int → Option Bool} {p : Int → Bool} {l : List Ex} {k : Nat} (hf : ∀ x ∈ l, f x.f0 = some (p x.f0)) (hl : l.length ≤ 1048576) (hm : inEx l ≤ 1048576) (hk : l.length < k) : impl_keptExts.f (inst_ := ⟨f⟩) k l = some (l.filter fun x => p x.f0) := by
  unfold impl_keptExts.f
  have h := filter_loop (g := fun k acc i => impl_keptExts.l0 (inst_ := ⟨f⟩) k acc l (l.length : Int) (i : Int)) (l := l) (z := zEx) (B := 0) (p := fun x => p x.f0) (f := fun x => x) (fun k acc => by
      simp only [impl_keptExts.l0]; rw [if_neg (by omega)])
    (fun k i acc hi hk hacc => by
      have hx := inEx_mem (nt_mem zEx l i hi)
      simp only [impl_keptExts.l0, KEEP_impl_keptExts.f]
      rw [if_pos (by omega), if_pos (by omega), if_pos (by omega), rd_Ex, wrap_up (n := l.length) hi (by omega), hf _ (nt_mem zEx l i hi)]
      simp only [Option.bind_some, List.nil_append, List.length_nil, Nat.zero_add]
      cases p (nt zEx l i).f0 with
      | false => rfl
      | true => simp only [if_true]; rw [if_pos (by omega), if_pos (show acc.length < 4398046511104 by omega)]) l.length k 0 [] (by omega) (by omega) (by simp)
  simpa using h

/-! ### impl_copyExts -/
theorem impl_copyExts_eq {l : List Ex} {k : Nat} (hl : l.length ≤ 1048576) (hm : inEx l ≤ 1048576) (hk : l.length < k) : impl_copyExts.f k l = some l := by
  unfold impl_copyExts.f
  rw [impl_keptExts_eq (p := fun _ => true) (fun x _ => rfl) hl hm hk]
  congr 1
  exact List.filter_eq_self.2 (fun _ _ => rfl)

/-! ### impl_InRange -/
theorem impl_InRange_eq (a b c : Int) : impl_InRange.f a b c = some (decide (b ≤ a ∧ a ≤ c)) := by
  unfold impl_InRange.f
  by_cases h : b ≤ a
  · rw [if_pos h]; simp [h]
  · rw [if_neg h, decide_eq_false (by omega)]

/-! ### impl_ExtOf -/
theorem impl_ExtOf_eq (l : List Ex) (t : Int) : impl_ExtOf.f l t = some (extOf l t) := rfl

/-! ### impl_AreExts -/
theorem impl_areNumbers_eq (l : List Int) : impl_areNumbers.f l 0 255 = some (bytes l) := by
  unfold impl_areNumbers.f impl_areNumbers_any.f bytes
  rw [Option.bind_some]
  congr 1
  rw [Bool.eq_iff_iff]
  simp
theorem impl_AreExts_eq {l : List Ex} {k : Nat} (hl : l.length ≤ 1048576) (hk : l.length < k) : impl_AreExts.f k l = some (areExts l) := by
  unfold impl_AreExts.f
  have h := all_loop (g := fun k i => impl_AreExts.l0 k l l (l.length : Int) (i : Int)) (n := l.length) (B := 0) (ok := extOk l) (fin := decide (l.length ≤ 6)) (fun k => by
      simp only [impl_AreExts.l0]; rw [if_neg (by omega)]; congr 1; simp only [decide_eq_decide]; omega)
    (fun k i hi hk => by
      simp only [impl_AreExts.l0]
      rw [if_pos (by omega), if_pos (by omega), if_pos (by omega), wrap_up (n := l.length) hi (by omega), rd_Ex, impl_InRange_eq, Option.bind_some]
      unfold extOk
      by_cases b1 : 0 ≤ (nt zEx l i).f0 ∧ (nt zEx l i).f0 ≤ 255
      · rw [if_pos (by simp [b1]), if_pos (by omega), impl_ExtOf_eq, Option.bind_some, toNat_cast]
        have b4 := Hw.idxOf_any (fun x : Ex => x.f0 == (nt zEx l i).f0) (l.take i)
        by_cases b5 : extOf (l.take i) (nt zEx l i).f0 ≥ 0
        · rw [decide_eq_true (show Hw.idxOf (fun x : Ex => x.f0 == (nt zEx l i).f0) (l.take i) ≥ 0 from b5)] at b4
          rw [if_pos b5, if_neg (by rw [← b4]; simp)]
        · rw [decide_eq_false (show ¬ Hw.idxOf (fun x : Ex => x.f0 == (nt zEx l i).f0) (l.take i) ≥ 0 from b5)] at b4
          rw [if_neg b5]
          by_cases b2 : (nt zEx l i).f1.length ≤ 4
          · rw [if_neg (by omega), impl_areNumbers_eq, Option.bind_some, ← b4]
            cases b3 : bytes (nt zEx l i).f1 <;> simp [b1, b2]
          · rw [if_pos (by omega), if_neg (by simp [b2])]
      · rw [if_neg (by simp [b1]), if_neg (by simp [b1])]) l.length k 0 (by omega) (by omega)
  exact h

/-! ### impl_Mod -/
theorem impl_Mod_eq (a b : Int) : impl_Mod.f a b = some (modOf a b) := by
  unfold impl_Mod.f modOf
  rw [impl_InRange_eq, Option.bind_some]
  by_cases h : (1 : Int) ≤ b ∧ b ≤ 1000000000000
  · rw [decide_eq_true h, if_pos rfl, if_neg (by omega), if_pos h]
  · rw [decide_eq_false h, if_neg (by simp), if_neg h]

/-! ### impl_Hash -/
theorem impl_Hash_eq {l : List Int} {k : Nat} (hl : l.length ≤ 9223372036854775807) (hk : l.length < k) : impl_Hash.f k l = some (hashOf l) := by
  unfold impl_Hash.f
  have h := fold_loop (g := fun k s i => impl_Hash.l0 k s l (l.length : Int) (i : Int)) (n := l.length) (B := 0) (f := fun i s => hashStep s (nt 0 l i)) (fin := id) (fun _ _ => True) (fun k s _ => by
      simp only [impl_Hash.l0]; rw [if_neg (by omega)]; rfl)
    (fun k i s hi _ _ => by
      refine ⟨?_, trivial⟩
      simp only [impl_Hash.l0]
      rw [if_pos (by omega), if_pos (by omega), if_pos (by omega), wrap_up (n := l.length) hi hl, rd_cast, impl_Mod_eq, Option.bind_some]; rfl) l.length k 0 11 (by omega) (by omega) trivial
  rw [foldFrom_list (f := hashStep)] at h
  exact h

/-! ### impl_PickOf -/
theorem impl_PickOf_eq {a b c : Int} {k : Nat} (hk : 2 < k) : impl_PickOf.f k a b c = some (pickOf a b c) := by
  unfold impl_PickOf.f pickOf
  rw [impl_Hash_eq (by simp) (by simpa using hk), Option.bind_some, impl_Mod_eq, Option.bind_some]
  by_cases h : c < 1
  · rw [if_pos h, if_pos h]
  · rw [if_neg h, if_neg h]

/-! ### impl_GreaseTag -/
theorem impl_GreaseTag_eq {a : Int} {k : Nat} (hk : 2 < k) : impl_GreaseTag.f k a = some (greaseTag a) := by
  unfold impl_GreaseTag.f greaseTag
  rw [impl_PickOf_eq hk, Option.bind_some]

/-! ### impl_AddGrease -/
theorem impl_AddGrease_eq {l : List Ex} {s : Int} {k : Nat} (hl : l.length ≤ 1048576) (hm : inEx l ≤ 1048576) (hk : l.length + 5 < k) : impl_AddGrease.f k l s = some (addGrease l s) := by
  unfold impl_AddGrease.f
  rw [impl_copyExts_eq hl hm (by omega), Option.bind_some, impl_GreaseTag_eq (by omega), Option.bind_some, impl_AreExts_eq hl (by omega), Option.bind_some, impl_ExtOf_eq, Option.bind_some]
  unfold addGrease
  by_cases hq : areExts l = false ∨ (l.length : Int) = 6 ∨ 0 ≤ extOf l (greaseTag s)
  · rw [if_pos hq, if_pos hq]
  · rw [if_neg hq, if_neg hq, impl_PickOf_eq (by omega), Option.bind_some, impl_PickOf_eq (by omega), Option.bind_some, wrap_id (by omega) (by omega), impl_PickOf_eq (by omega), Option.bind_some]
    have ha : areExts l = true := by
      cases h : areExts l
      · exact absurd (.inl h) hq
      · rfl
    have h6 := areExts_six ha
    have p2 := pick_range (a := s) (b := 2) (c := 3) (by omega) (by omega)
    have p1 := pick_range (a := s) (b := 1) (c := (l.length : Int) + 1) (by omega) (by omega)
    rw [if_pos ⟨⟨by omega, by omega⟩, ⟨by omega, by omega⟩, by omega⟩]
    rfl

/-! ### impl_IsReserved -/
theorem impl_IsReserved_eq (a : Int) : impl_IsReserved.f a = some (isReserved a) := by
  unfold impl_IsReserved.f isReserved
  rw [impl_InRange_eq, Option.bind_some]
  by_cases h : (0 : Int) ≤ a ∧ a ≤ 255 <;> simp [h]

/-! ### impl_StripGrease -/
theorem impl_StripGrease_eq {l : List Ex} {k : Nat} (hl : l.length ≤ 1048576) (hm : inEx l ≤ 1048576) (hk : l.length < k) : impl_StripGrease.f k l = some (stripGrease l) := by
  unfold impl_StripGrease.f
  exact impl_keptExts_eq (p := fun t => !isReserved t) (fun x _ => by simp only [impl_StripGrease_lit.f, impl_IsReserved_eq, Option.bind_some]) hl hm hk

/-! ### slices_Index_int_int -/
theorem slices_Index_int_int_eq {l : List Int} {n : Int} {k : Nat} (hl : l.length ≤ 9223372036854775807) (hk : l.length < k) : slices_Index_int_int.f k l n = some ((l.findIdx? (· == n)).elim (-1) fun j => (j : Int)) := by
  unfold slices_Index_int_int.f
  have h := find_loop (g := fun k i => slices_Index_int_int.l0 k l n (l.length : Int) (i : Int)) (l := l) (z := 0) (B := 0) (p := (· == n)) (hit := fun j => (j : Int)) (miss := (-1 : Int)) (fun k => by
      simp only [slices_Index_int_int.l0]; rw [if_neg (by omega)])
    (fun k i hi _ => by
      simp only [slices_Index_int_int.l0]
      rw [if_pos (by omega), if_pos (by omega), if_pos (by omega), wrap_up (n := l.length) hi hl, rd_cast]
      by_cases e : nt 0 l i = n
      · rw [if_pos e.symm, if_pos (by simp [e])]
      · rw [if_neg (fun h => e h.symm), if_neg (by simp [e])]) l.length k 0 (by omega) (by omega)
  simpa using h

/-! ### slices_Contains_int_int -/
theorem slices_Contains_int_int_eq {l : List Int} {n : Int} {k : Nat} (hl : l.length ≤ 9223372036854775807) (hk : l.length < k) : slices_Contains_int_int.f k l n = some (l.any (· == n)) := by
  unfold slices_Contains_int_int.f
  rw [slices_Index_int_int_eq hl hk, Option.bind_some, idx_any]

/-! ### impl_KnownOf -/
theorem impl_KnownOf_eq {l : List Ex} {t : List Int} {k : Nat} (hl : l.length ≤ 1048576) (hm : inEx l ≤ 1048576) (ht : t.length ≤ 1048576) (hk : l.length < k) : impl_KnownOf.f k l t = some (knownOf l t) := by
  unfold impl_KnownOf.f impl_KnownOf_kept.f
  rw [impl_keptExts_eq (p := fun a => t.any (· == a)) (fun x _ => slices_Contains_int_int_eq (by omega) (by omega)) hl hm hk, Option.bind_some]; rfl

/-! ### slices_Equal_int_int -/
theorem slices_Equal_int_int_l0 (a b : List Int) (hl : a.length ≤ 9223372036854775807) (he : b.length = a.length) : ∀ (d k i : Nat), i + d = a.length → d < k → slices_Equal_int_int.l0 k a b (a.length : Int) (i : Int) = some (decide (a.drop i = b.drop i)) := by
  intro d
  induction d with
  | zero =>
    intro k i h hk
    obtain ⟨k, rfl⟩ := succ_of hk
    obtain rfl : i = a.length := by omega
    simp only [slices_Equal_int_int.l0]; rw [if_neg (by omega), drop_end, ← he, drop_end]; rfl
  | succ d ih =>
    intro k i h hk
    obtain ⟨k, rfl⟩ := succ_of hk
    simp only [slices_Equal_int_int.l0]
    rw [if_pos (by omega), if_pos (by omega), if_pos (by omega), if_pos (by omega), rd_cast, rd_cast, drop_step a 0 i (by omega), drop_step b 0 i (by omega), wrap_up (n := a.length) (by omega) hl, ih k (i + 1) (by omega) (by omega)]
    by_cases e : nt 0 a i = nt 0 b i
    · rw [if_pos e]; simp [e]
    · rw [if_neg e]; simp [e]
theorem slices_Equal_int_int_eq {a b : List Int} {k : Nat} (hl : a.length ≤ 9223372036854775807) (hk : a.length < k) : slices_Equal_int_int.f k a b = some (decide (a = b)) := by
  unfold slices_Equal_int_int.f
  by_cases e : a.length = b.length
  · rw [if_pos (by omega)]
    exact slices_Equal_int_int_l0 a b hl e.symm a.length k 0 (by omega) hk
  · rw [if_neg (by omega), decide_eq_false (fun h => e (by rw [h]))]

/-! ### impl_EqualExts3 -/
theorem impl_equalExt_eq {x y : Ex} {k : Nat} (hl : x.f1.length ≤ 9223372036854775807) (hk : x.f1.length < k) : impl_equalExt.f k x.f0 x.f1 y.f0 y.f1 = some (sameEx x y) := by
  unfold impl_equalExt.f sameEx
  rw [slices_Equal_int_int_eq hl hk]
  by_cases h : x.f0 = y.f0
  · rw [if_pos h]; simp [h]
  · rw [if_neg h]; simp [h]
theorem impl_EqualExts_eq {a b : List Ex} {k : Nat} (hl : a.length ≤ 1048576) (hm : inEx a ≤ 1048576) (hk : 2100000 < k) : impl_EqualExts.f k a b = some (eqExts a b) := by
  unfold impl_EqualExts.f impl_EqualExts_all.f impl_Ext_45.f eqExts
  by_cases e : a.length = b.length
  · rw [if_pos (by omega), decide_eq_true e]
    have h := all_loop (g := fun k i => impl_Ext_45.l0 (inst_ := ⟨fun k_ x0 x1 x2 x3 => impl_equalExt.f k_ x0 x1 x2 x3, fun x0 x1 x2 x3 k_ => impl_equalExt.mono x0 x1 x2 x3 k_⟩) k b a (a.length : Int) (i : Int)) (n := a.length) (B := 1048577) (ok := fun i => sameEx (nt zEx a i) (nt zEx b i)) (fin := true) (fun k => by
        simp only [impl_Ext_45.l0]; rw [if_neg (by omega)])
      (fun k i hi hk => by
        have hx := inEx_mem (nt_mem zEx a i hi)
        simp only [impl_Ext_45.l0, KEEP_impl_Ext_45.f]
        rw [if_pos (by omega), if_pos (by omega), if_pos (by omega), if_pos (by omega), rd_Ex, rd_Ex, wrap_up (n := a.length) hi (by omega), impl_equalExt_eq (by omega) (by omega), Option.bind_some]) a.length k 0 (by omega) (by omega)
    rw [show impl_Ext_45.l0 (inst_ := _) k b a (a.length : Int) 0 = _ from h]; simp
  · rw [if_neg (by omega), decide_eq_false e]; rfl

/-! ### impl_TagsOf -/
theorem impl_TagsOf_eq {l : List Ex} {k : Nat} (hl : l.length ≤ 1048576) (hk : l.length < k) : impl_TagsOf.f k l = some (l.map (·.f0)) := by
  unfold impl_TagsOf.f
  have h := filter_loop (g := fun k acc i => impl_TagsOf.l0 k acc l (l.length : Int) (i : Int)) (l := l) (z := zEx) (B := 0) (p := fun x => true) (f := fun x => x.f0) (fun k acc => by
      simp only [impl_TagsOf.l0]; rw [if_neg (by omega)])
    (fun k i acc hi hk hacc => by
      simp only [impl_TagsOf.l0]
      rw [if_pos (by omega), if_pos (by omega), if_pos (by omega), rd_Ex, wrap_up (n := l.length) hi (by omega), if_pos (show acc.length < 17592186044416 by omega)]; rfl) l.length k 0 [] (by omega) (by omega) (by simp)
  have e : (l.filter fun _ => true) = l := List.filter_eq_self.2 (fun _ _ => rfl)
  simpa [e] using h

/-! ### impl_IsHardened -/
theorem impl_IsHardened_eq (l : List Int) : impl_IsHardened.f l = some (l.any isReserved) := by
  unfold impl_IsHardened.f impl_IsHardened_any.f
  rw [Option.bind_some]
  simp only [impl_IsReserved_eq, Option.getD_some]

/-! ### impl_HasGrease2 -/
def hasGrease (l : List Ex) : Bool := l.any fun x => isReserved x.f0
theorem impl_HasGrease_eq {l : List Ex} {k : Nat} (hl : l.length ≤ 1048576) (hk : l.length < k) : impl_HasGrease.f k l = some (hasGrease l) := by
  unfold impl_HasGrease.f hasGrease
  rw [impl_TagsOf_eq hl hk, Option.bind_some, impl_IsHardened_eq, Option.bind_some, List.any_map]; rfl

end FnGreaseAid
open FnGreaseAid

theorem FnGrease_j1 {st : List Int} {k : Nat} (hs : st.length ≤ 1048576) (hk : 2200000 < k) : laws_FnGrease.j1 (k + 1) st false = some true := by
  rw [laws_FnGrease.j1]
  rw [if_neg (by simp)]
  unfold spec_DrawStripGrease.f spec_DrawAreExts.f
  obtain ⟨s, e1⟩ := draw_new (k := k) hs (by omega)
  obtain ⟨y, j, t, e2, y1, y2, j0⟩ := draw_l9any (k := k) (s := s) hs (Int.le_refl 0) (by omega)
  have y3 := inEx_five y y2
  have z1 := stripGrease_len y
  have z2 := stripGrease_in y
  have hl : (y.map (·.f0)).length = y.length := List.length_map ..
  simp only [e1, Option.bind_some, e2]
  rw [impl_StripGrease_eq (by omega) (by omega) (by omega), Option.bind_some, impl_HasGrease_eq (by omega) (by omega), Option.bind_some, impl_TagsOf_eq (by omega) (by omega), Option.bind_some, impl_IsHardened_eq, Option.bind_some]
  rw [if_pos (by unfold hasGrease; rw [List.any_map]; exact beq_iff_eq.2 rfl), impl_HasGrease_eq (by omega) (by omega), Option.bind_some, if_neg (by unfold hasGrease; rw [strip_hard]; simp), impl_StripGrease_eq (by omega) (by omega) (by omega), Option.bind_some, strip_strip, impl_EqualExts_eq (by omega) (by omega) (by omega), Option.bind_some, eqExts_self]
theorem FnGrease_j0 {st : List Int} {k : Nat} {l : List Ex} {s : Int} (hs : st.length ≤ 1048576) (hk : 2200001 < k) (hl : l.length ≤ 6) (hm : inEx l ≤ 30) : laws_FnGrease.j0 (k + 1) st l (addGrease l s) (greaseTag s) false = some true := by
  have e2 := FnGrease_j1 (st := st) (k := k - 1) hs (by omega)
  rw [show k - 1 + 1 = k by omega] at e2
  have x1 := addGrease_len l s
  have x2 := addGrease_in l s
  have hK : (knownOf l [1, 2, 3, 40, 200]).length ≤ l.length := List.length_filter_le _ _
  have hKi : inEx (knownOf l [1, 2, 3, 40, 200]) ≤ inEx l := inEx_filter _ l
  rw [laws_FnGrease.j0]
  rw [if_neg (by simp), Option.bind_some, impl_KnownOf_eq (t := [1, 2, 3, 40, 200]) (by omega) (by omega) (by simp) (by omega), Option.bind_some, impl_KnownOf_eq (t := [1, 2, 3, 40, 200]) (by omega) (by omega) (by simp) (by omega), Option.bind_some, addGrease_known, impl_EqualExts_eq (by omega) (by omega) (by omega), Option.bind_some, eqExts_self, if_pos rfl, impl_AreExts_eq (by omega) (by omega), Option.bind_some]
  by_cases ha : areExts l = true
  · rw [if_pos ha]
    by_cases h6 : (l.length : Int) < 6
    · rw [if_pos h6, impl_ExtOf_eq, Option.bind_some, decide_eq_false (by have := addGrease_ext (s := s) ha h6; omega)]
      exact e2
    · rw [if_neg h6]; exact e2
  · rw [if_neg ha]; exact e2
theorem FnGrease_run {st : List Int} {k : Nat} {l : List Ex} {s : Int} (hs : st.length ≤ 1048576) (hk : 2200002 < k) (hl : l.length ≤ 6) (hm : inEx l ≤ 30) (hd : spec_DrawAddGrease.f k st = some (l, s)) (hb : ¬ (st.length : Int) > 1048576) : laws_FnGrease.f k st = some true := by
  have e0 := FnGrease_j0 (st := st) (k := k - 1) (l := l) (s := s) hs (by omega) hl hm
  rw [show k - 1 + 1 = k by omega] at e0
  have x1 := addGrease_len l s
  have x2 := addGrease_in l s
  have z1 := stripGrease_len l
  have z2 := stripGrease_in l
  unfold laws_FnGrease.f laws_big.f
  rw [Option.bind_some, if_neg (by simp [hb]), hd, Option.bind_some]
  dsimp only
  rw [impl_AddGrease_eq (by omega) (by omega) (by omega), Option.bind_some, impl_GreaseTag_eq (by omega), Option.bind_some, impl_IsReserved_eq, Option.bind_some, greaseTag_res, if_pos rfl, impl_AreExts_eq (by omega) (by omega), Option.bind_some]
  by_cases ha : areExts l = true
  · rw [if_pos ha, impl_AreExts_eq (by omega) (by omega), Option.bind_some, addGrease_exts s ha, if_pos rfl, impl_StripGrease_eq (by omega) (by omega) (by omega), Option.bind_some, impl_StripGrease_eq (by omega) (by omega) (by omega), Option.bind_some, addGrease_strip, impl_EqualExts_eq (by omega) (by omega) (by omega), Option.bind_some, eqExts_self]
    exact e0
  · rw [if_neg ha, impl_StripGrease_eq (by omega) (by omega) (by omega), Option.bind_some, impl_StripGrease_eq (by omega) (by omega) (by omega), Option.bind_some, addGrease_strip, impl_EqualExts_eq (by omega) (by omega) (by omega), Option.bind_some, eqExts_self]
    exact e0
theorem FnGrease : laws_FnGrease.Pure := by
  intro st _ _ _
  obtain ⟨k, hk⟩ : ∃ k, k = 2200010 := ⟨_, rfl⟩
  refine ⟨k, ?_⟩
  by_cases hb : (st.length : Int) > 1048576
  · unfold laws_FnGrease.f laws_big.f
    rw [Option.bind_some, if_pos (decide_eq_true hb)]
  · have hs : st.length ≤ 1048576 := by omega
    obtain ⟨s, e1⟩ := draw_new (k := k) hs (by omega)
    obtain ⟨l, j, t, e2, l1, l2, j0⟩ := draw_l9any (k := k) (s := s) hs (Int.le_refl 0) (by omega)
    obtain ⟨b, j2, t2, e3, j1⟩ := draw_onceB (s := t) (n := 8) hs j0 (by omega) (by omega)
    obtain ⟨v, j3, t3, e4, _, _, _⟩ := draw_below (s := t2) (n := 100) hs j1 (by omega) (by omega)
    have l3 := inEx_five l l2
    have hd : ∃ L, spec_DrawAddGrease.f k st = some (L, v) ∧ L.length ≤ 6 ∧ inEx L ≤ 30 := by
      unfold spec_DrawAddGrease.f
      simp only [e1, Option.bind_some, e2, e3, e4]
      split
      · exact ⟨_, rfl, by simp, by simp [inEx]⟩
      · exact ⟨_, rfl, l1, by omega⟩
    obtain ⟨L, hd, h1, h2⟩ := hd
    exact FnGrease_run hs (by omega) h1 h2 hd hb

end Go.Proofs.Ytbahcefcoplmpaa.Pure
