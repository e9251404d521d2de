/- The law FnPairs answers true on every list of bytes, as a statement over lists alone; the bounds are those of memory. -/
import Derived.Test.YtfibjclnaeocbaaPFnPairsx14
import Derived.Test.YtfibjclnaeocbaaGb
import Derived.Test.YtfibjclnaeocbaaGr
import Derived.Test.YtfibjclnaeocbaaGm
namespace Go.Proofs.Ytfibjclnaeocbaa.Pure
open Go.RowKit Go.Proofs.Ytfibjclnaeocbaa.PFnPairs Go.Proofs.YtfibjclnaeocbaaW.PrintWords Go.Proofs.YtfibjclnaeocbaaW.PrintLast Go.Proofs.Ytfibjclnaeocbaa.Gb Go.Proofs.Ytfibjclnaeocbaa.Gr Go.Proofs.Ytfibjclnaeocbaa.Gm Go.Proofs.Ytfibjclnaeocbaa
set_option linter.unusedSimpArgs false
set_option linter.unusedVariables false
namespace FnPairsAid

/-! ### T_Move -/
abbrev Mv := S46
abbrev zMv : Mv := z46
theorem rd_Mv (l : List Mv) (i : Nat) : rd_T46 l (i : Int) = nt zMv l i := by simp [rd_T46, nt]
def sameMv (x y : Mv) : Bool := (x.f0 == y.f0) && ((x.f1 == y.f1) && ((x.f2 == y.f2) && (x.f3 == y.f3)))
theorem sameMv_self (x : Mv) : sameMv x x = true := by simp [sameMv]
def eqBs (a b : List Bool) : Bool := decide (a.length = b.length) && allFrom (fun i => nt false a i == nt false b i) 0 a.length
def eqMvs (a b : List Mv) : Bool := decide (a.length = b.length) && allFrom (fun i => sameMv (nt zMv a i) (nt zMv b i)) 0 a.length
theorem rdb_cast (xs : List Bool) (i : Nat) : rdOf false xs (i : Int) = nt false xs i := rdOf_cast false xs i

/-! ### T_MoveOf -/
def keyMv (a : Int) (s : Bool) (m : Int) (x : Mv) : Bool := (x.f0 == a) && ((x.f1 == s) && (x.f2 == m))
def moveOf (l : List Mv) (a : Int) (s : Bool) (m : Int) : Int := (l.findIdx? (keyMv a s m)).elim (-1) fun j => (j : Int)

/-! ### T_mf -/
def fromMv (a : Int) (s : Bool) (x : Mv) : Bool := (x.f0 == a) && (x.f1 == s)
def movesFrom (l : List Mv) (a : Int) (s : Bool) : List Int := l.foldl (fun acc x => if fromMv a s x = true then putI acc x.f2 else acc) []
theorem movesFrom_nonempty (a : Int) (s : Bool) : ∀ (l : List Mv) (acc : List Int), (0 < (l.foldl (fun acc x => if fromMv a s x = true then putI acc x.f2 else acc) acc).length) ↔ (0 < acc.length ∨ l.any (fromMv a s) = true)
  | [], acc => by simp
  | x :: r, acc => by
    rw [List.foldl_cons, movesFrom_nonempty a s r, List.any_cons]
    have := putI_length acc x.f2
    by_cases h : fromMv a s x = true
    · rw [if_pos h, h]; simp; omega
    · rw [if_neg h]; simp [h]

/-! ### impl_MovesFrom -/
theorem movesFrom_sort (l : List Mv) (a : Int) (s : Bool) : movesFrom l a s = sortUniq ((l.filter (fromMv a s)).map (·.f2)) := by
  rw [sortUniq_eq]
  unfold movesFrom
  have : ∀ (l : List Mv) (acc : List Int), l.foldl (fun acc x => if fromMv a s x = true then putI acc x.f2 else acc) acc = ((l.filter (fromMv a s)).map (·.f2)).foldl putI acc := by
    intro l
    induction l with
    | nil => intro acc; rfl
    | cons x r ih =>
      intro acc
      rw [List.foldl_cons, List.filter_cons, ih]
      by_cases h : fromMv a s x = true
      · rw [if_pos h, if_pos h]; rfl
      · rw [if_neg h, if_neg h]
  exact this l []
theorem impl_MovesFrom_eq {n : Int} {e : List Bool} {l : List Mv} {a : Int} {s : Bool} {k : Nat} (hl : l.length ≤ 1048576) (hk : l.length < k) : impl_MovesFrom.f k n e l a s = some (movesFrom l a s) := by
  unfold impl_MovesFrom.f
  have h := filter_loopC (g := fun k acc i => impl_MovesFrom.l0 k a s acc l (l.length : Int) (i : Int)) (l := l) (z := zMv) (B := 0) (p := fromMv a s) (f := fun x => x.f2) (fin := fun acc => some (sortUniq acc)) (fun k acc _ ha => by
      simp only [impl_MovesFrom.l0]
      rw [if_neg (by omega)]
      unfold slices_Sort_int_int.f slices_Compact_int_int.f
      rw [if_pos (by omega), Option.bind_some, Option.bind_some]; rfl)
    (fun k i acc hi _ hacc => by
      simp only [impl_MovesFrom.l0]
      rw [if_pos (by omega), if_pos (by omega), if_pos (by omega), rd_Mv, wrap_up (n := l.length) hi (by omega)]
      by_cases h1 : (nt zMv l i).f0 = a
      · rw [if_pos h1]
        cases h2 : ((nt zMv l i).f1 == s) with
        | true => rw [if_pos rfl, if_pos (show acc.length < 17592186044416 by omega), if_pos (by simp [fromMv, h1, h2])]
        | false => rw [if_neg (by simp), if_neg (by simp [fromMv, h2])]
      · rw [if_neg h1, if_neg (by simp [fromMv, h1])]) l.length k 0 [] (by omega) (by omega) (by simp)
  rw [movesFrom_sort]
  simpa using h
theorem movesFrom_len (l : List Mv) (a : Int) (s : Bool) : (movesFrom l a s).length ≤ l.length := by
  rw [movesFrom_sort]; unfold sortUniq
  refine Nat.le_trans (compact_len _) ?_
  rw [List.length_mergeSort, List.length_map]
  exact List.length_filter_le _ _
theorem movesFrom_strict (l : List Mv) (a : Int) (s : Bool) : (movesFrom l a s).Pairwise (· < ·) := by rw [movesFrom_sort]; exact (sortUniq_spec _).1
theorem mem_movesFrom {l : List Mv} {a : Int} {s : Bool} {v : Int} : v ∈ movesFrom l a s ↔ ∃ x ∈ l, fromMv a s x = true ∧ x.f2 = v := by
  rw [movesFrom_sort, (sortUniq_spec _).2, List.mem_map]
  constructor
  · rintro ⟨x, hx, rfl⟩; rw [List.mem_filter] at hx; exact ⟨x, hx.1, hx.2, rfl⟩
  · rintro ⟨x, hx, h, rfl⟩; exact ⟨x, List.mem_filter.2 ⟨hx, h⟩, rfl⟩

/-! ### T_moves -/
theorem moveOf_any (l : List Mv) (a : Int) (s : Bool) (v : Int) : 0 ≤ moveOf l a s v ↔ v ∈ movesFrom l a s := by
  rw [mem_movesFrom]
  have h := idx_any (keyMv a s v) l
  have e : decide (moveOf l a s v ≥ 0) = l.any (keyMv a s v) := h
  constructor
  · intro q
    rw [decide_eq_true (show moveOf l a s v ≥ 0 from q)] at e
    obtain ⟨x, hx, hk⟩ := List.any_eq_true.1 e.symm
    simp only [keyMv, Bool.and_eq_true, beq_iff_eq] at hk
    exact ⟨x, hx, by simp [fromMv, hk.1, hk.2.1], hk.2.2⟩
  · rintro ⟨x, hx, hf, rfl⟩
    have : l.any (keyMv a s x.f2) = true := List.any_eq_true.2 ⟨x, hx, by simp only [fromMv, Bool.and_eq_true, beq_iff_eq] at hf; simp [keyMv, hf.1, hf.2]⟩
    rw [this] at e
    exact of_decide_eq_true e

/-! ### T_next -/
theorem moveOf_bnd (l : List Mv) (a : Int) (s : Bool) (m : Int) : moveOf l a s m < 0 ∨ ∃ j : Nat, moveOf l a s m = j ∧ j < l.length ∧ keyMv a s m (nt zMv l j) = true := by
  rcases idx_elim_nonneg (keyMv a s m) l zMv with ⟨h, _⟩ | ⟨j, h1, h2, h3, _⟩
  · exact .inl h
  · exact .inr ⟨j, h1, h2, h3⟩
/-- Both machines make the move of message v: the first as s tells, the second the other way round. -/
def pairOk (l m : List Mv) (x y : Int) (s : Bool) (v : Int) : Bool := decide (0 ≤ moveOf l x s v) && decide (0 ≤ moveOf m y (!s) v)
def pairTo (l m : List Mv) (x y : Int) (s : Bool) (v : Int) : List Int := [(nt zMv l (moveOf l x s v).toNat).f3, (nt zMv m (moveOf m y (!s) v).toNat).f3]
def nextPairs (l m : List Mv) (x y : Int) : List (List Int) :=
  ((movesFrom l x true).filter (pairOk l m x y true)).map (pairTo l m x y true) ++ ((movesFrom m y true).filter (pairOk l m x y false)).map (pairTo l m x y false)
theorem nextPairs_len (l m : List Mv) (x y : Int) : (nextPairs l m x y).length ≤ l.length + m.length := by
  unfold nextPairs
  rw [List.length_append, List.length_map, List.length_map]
  have h1 := List.length_filter_le (pairOk l m x y true) (movesFrom l x true)
  have h2 := List.length_filter_le (pairOk l m x y false) (movesFrom m y true)
  have h3 := movesFrom_len l x true
  have h4 := movesFrom_len m y true
  omega

/-! ### T_inB -/
def inB (x a b : Int) : Bool := decide (a ≤ x) && decide (x ≤ b)
theorem inB_dec (x a b : Int) : decide (a ≤ x ∧ x ≤ b) = inB x a b := by simp [inB]

/-! ### T_IsMachine -/
def okMv (n : Int) (x : Mv) : Bool := inB x.f0 0 (n - 1) && (inB x.f3 0 (n - 1) && inB x.f2 0 5)
/-- Two moves that may not stand together. -/
def clashMv (x y : Mv) : Bool := (x.f0 == y.f0) && (!(x.f1 == y.f1) || (x.f2 == y.f2))
def isMachine (n : Int) (e : List Bool) (l : List Mv) : Bool := inB n 1 6 && (decide ((e.length : Int) = n) && (decide (l.length ≤ 12) &&
  allFrom (fun i => okMv n (nt zMv l i) && allFrom (fun j => !clashMv (nt zMv l j) (nt zMv l i)) 0 i) 0 l.length))
theorem moveOf_lt {l : List Mv} {i : Nat} (hi : i < l.length) : moveOf l (nt zMv l i).f0 (nt zMv l i).f1 (nt zMv l i).f2 < (i : Int) ↔ ∃ j, j < i ∧ keyMv (nt zMv l i).f0 (nt zMv l i).f1 (nt zMv l i).f2 (nt zMv l j) = true := by
  unfold moveOf
  have hs : keyMv (nt zMv l i).f0 (nt zMv l i).f1 (nt zMv l i).f2 (nt zMv l i) = true := by simp [keyMv]
  cases e : l.findIdx? (keyMv (nt zMv l i).f0 (nt zMv l i).f1 (nt zMv l i).f2) with
  | none =>
    rw [List.findIdx?_eq_none_iff] at e
    have := e _ (nt_mem zMv l i hi)
    rw [hs] at this; cases this
  | some j =>
    obtain ⟨h1, h2, h3⟩ := List.findIdx?_eq_some_iff_getElem.1 e
    simp only [Option.elim]
    constructor
    · intro h; exact ⟨j, by omega, by rw [nt_lt _ _ _ h1]; exact h2⟩
    · rintro ⟨j', hj, hq⟩
      by_cases h : j < i
      · omega
      · have h4 := h3 j' (by omega)
        rw [nt_lt l zMv j' (by omega)] at hq
        rw [hq] at h4; exact absurd rfl h4
theorem good_iff (n : Int) (l : List Mv) :
    allFrom (fun i => okMv n (nt zMv l i) && (!decide (moveOf l (nt zMv l i).f0 (nt zMv l i).f1 (nt zMv l i).f2 < (i : Int)) && !decide (((movesFrom l (nt zMv l i).f0 (!(nt zMv l i).f1)).length : Int) > 0))) 0 l.length
    = allFrom (fun i => okMv n (nt zMv l i) && allFrom (fun j => !clashMv (nt zMv l j) (nt zMv l i)) 0 i) 0 l.length := by
  rw [Bool.eq_iff_iff, allFrom_iff, allFrom_iff]
  have hm : ∀ i, ((movesFrom l (nt zMv l i).f0 (!(nt zMv l i).f1)).length : Int) > 0 ↔ ∃ j, j < l.length ∧ fromMv (nt zMv l i).f0 (!(nt zMv l i).f1) (nt zMv l j) = true := by
    intro i
    have h := movesFrom_nonempty (nt zMv l i).f0 (!(nt zMv l i).f1) l []
    simp only [List.length_nil, Nat.lt_irrefl, false_or, List.any_eq_true] at h
    constructor
    · intro hp
      obtain ⟨x, hx, hq⟩ := h.1 (by unfold movesFrom at hp; omega)
      obtain ⟨j, hj, rfl⟩ := List.mem_iff_getElem.1 hx
      exact ⟨j, hj, by rw [nt_lt _ _ _ hj]; exact hq⟩
    · rintro ⟨j, hj, hq⟩
      have := h.2 ⟨_, nt_mem zMv l j hj, hq⟩
      unfold movesFrom; omega
  constructor
  · intro h i h0 hi
    have q := h i h0 hi
    simp only [Bool.and_eq_true, Bool.not_eq_true', decide_eq_false_iff_not] at q ⊢
    refine ⟨q.1, (allFrom_iff _ _ _).2 fun j _ hj => ?_⟩
    simp only [Bool.not_eq_true']
    cases hc : clashMv (nt zMv l j) (nt zMv l i) with
    | false => rfl
    | true =>
      exfalso
      simp only [clashMv, Bool.and_eq_true, Bool.or_eq_true, beq_iff_eq, Bool.not_eq_true', beq_eq_false_iff_ne] at hc
      by_cases hs : (nt zMv l j).f1 = (nt zMv l i).f1
      · rcases hc.2 with h2 | h2
        · exact h2 hs
        · exact q.2.1 ((moveOf_lt (by omega)).2 ⟨j, by omega, by rw [keyMv, hc.1, hs, h2]; simp⟩)
      · exact q.2.2 ((hm i).2 ⟨j, by omega, by
          simp only [fromMv, hc.1, beq_self_eq_true, Bool.true_and]
          cases hA : (nt zMv l j).f1 <;> cases hB : (nt zMv l i).f1 <;> simp_all⟩)
  · intro h i h0 hi
    have q := h i h0 hi
    simp only [Bool.and_eq_true, Bool.not_eq_true', decide_eq_false_iff_not] at q ⊢
    have q2 := (allFrom_iff _ _ _).1 q.2
    refine ⟨q.1, fun hlt => ?_, fun hp => ?_⟩
    · obtain ⟨j, hj, hk⟩ := (moveOf_lt (by omega)).1 hlt
      have := q2 j (by omega) (by omega)
      simp only [keyMv, Bool.and_eq_true, beq_iff_eq] at hk
      simp [clashMv, hk.1, hk.2.2] at this
    · obtain ⟨j, hj, hf⟩ := (hm i).1 hp
      simp only [fromMv, Bool.and_eq_true, beq_iff_eq] at hf
      rcases Nat.lt_trichotomy j i with hji | hji | hji
      · have := q2 j (by omega) (by omega)
        simp [clashMv, hf.1, hf.2] at this
      · subst hji; exact absurd hf.2 (by cases (nt zMv l j).f1 <;> simp)
      · have r := h j (by omega) (by omega)
        simp only [Bool.and_eq_true] at r
        have := (allFrom_iff _ _ _).1 r.2 i (by omega) (by omega)
        simp [clashMv, hf.1, hf.2] at this

/-! ### T_reach -/
/-- A pair is put behind the others if it isn't there. -/
def addPair (out : List (List Int)) (p : List Int) : List (List Int) := if p ∈ out then out else out ++ [p]
def addAll (out ps : List (List Int)) : List (List Int) := ps.foldl addPair out
def reachFrom (nx : Int → Int → List (List Int)) : Nat → Nat → List (List Int) → List (List Int)
  | 0, _, out => out
  | n + 1, i, out => if i < out.length then reachFrom nx n (i + 1) (addAll out (nx (nt 0 (nt [] out i) 0) (nt 0 (nt [] out i) 1))) else out
def reach (nx : Int → Int → List (List Int)) : List (List Int) := reachFrom nx 37 0 [[0, 0]]
/-- Two states of machines with n and m states. -/
def okPair (n m : Int) (p : List Int) : Prop := ∃ x y : Int, p = [x, y] ∧ 0 ≤ x ∧ x < n ∧ 0 ≤ y ∧ y < m
def goodPairs (n m : Int) (out : List (List Int)) : Prop := out.Nodup ∧ ∀ p ∈ out, okPair n m p
/-- The step leads from pairs of states to pairs of states. -/
def okNext (n m : Int) (nx : Int → Int → List (List Int)) : Prop := ∀ x y, 0 ≤ x → x < n → 0 ≤ y → y < m → ∀ p ∈ nx x y, okPair n m p
theorem nodup_len : ∀ {l m : List (List Int)}, l.Nodup → (∀ x ∈ l, x ∈ m) → l.length ≤ m.length
  | [], _, _, _ => Nat.zero_le _
  | a :: l, m, hn, hs => by
    obtain ⟨h1, h2⟩ := List.nodup_cons.1 hn
    have ha := hs a List.mem_cons_self
    have := nodup_len (l := l) (m := m.erase a) h2 (fun x hx => (List.mem_erase_of_ne (fun e : x = a => h1 (e ▸ hx))).2 (hs x (List.mem_cons_of_mem _ hx)))
    have h3 := List.length_erase_of_mem ha
    have h4 := List.length_pos_of_mem ha
    rw [List.length_cons]; omega
def sixes : List (List Int) := (List.range 6).flatMap fun x : Nat => (List.range 6).map fun y : Nat => [(x : Int), (y : Int)]
theorem good_len {n m : Int} {out : List (List Int)} (hn : n ≤ 6) (hm : m ≤ 6) (h : goodPairs n m out) : out.length ≤ 36 := by
  refine Nat.le_trans (nodup_len (m := sixes) h.1 fun p hp => ?_) (by decide)
  obtain ⟨x, y, rfl, h1, h2, h3, h4⟩ := h.2 p hp
  unfold sixes
  refine List.mem_flatMap.2 ⟨x.toNat, List.mem_range.2 (by omega), List.mem_map.2 ⟨y.toNat, List.mem_range.2 (by omega), ?_⟩⟩
  rw [Int.toNat_of_nonneg h1, Int.toNat_of_nonneg h3]
theorem addPair_good {n m : Int} {out : List (List Int)} {p : List Int} (h : goodPairs n m out) (hp : okPair n m p) : goodPairs n m (addPair out p) := by
  unfold addPair
  split
  · exact h
  · rename_i q
    refine ⟨List.nodup_append.2 ⟨h.1, by simp, fun a ha b hb => ?_⟩, fun x hx => ?_⟩
    · rw [List.mem_singleton] at hb; subst hb; exact fun e => q (e ▸ ha)
    · rcases List.mem_append.1 hx with hx | hx
      · exact h.2 x hx
      · rw [List.mem_singleton] at hx; subst hx; exact hp
theorem addAll_good {n m : Int} : ∀ {ps out : List (List Int)}, goodPairs n m out → (∀ p ∈ ps, okPair n m p) → goodPairs n m (addAll out ps)
  | [], _, h, _ => h
  | p :: ps, out, h, hp => addAll_good (ps := ps) (out := addPair out p) (addPair_good h (hp p List.mem_cons_self)) (fun x hx => hp x (List.mem_cons_of_mem _ hx))
theorem good_at {n m : Int} {out : List (List Int)} {i : Nat} (h : goodPairs n m out) (hi : i < out.length) : nt [] out i = [nt 0 (nt [] out i) 0, nt 0 (nt [] out i) 1] ∧ 0 ≤ nt 0 (nt [] out i) 0 ∧ nt 0 (nt [] out i) 0 < n ∧ 0 ≤ nt 0 (nt [] out i) 1 ∧ nt 0 (nt [] out i) 1 < m := by
  obtain ⟨x, y, e, h1, h2, h3, h4⟩ := h.2 _ (nt_mem [] out i hi)
  rw [e]
  exact ⟨rfl, h1, h2, h3, h4⟩
theorem good_next {n m : Int} {nx : Int → Int → List (List Int)} (hx : okNext n m nx) {out : List (List Int)} {i : Nat} (h : goodPairs n m out) (hi : i < out.length) :
    goodPairs n m (addAll out (nx (nt 0 (nt [] out i) 0) (nt 0 (nt [] out i) 1))) := by
  obtain ⟨_, h1, h2, h3, h4⟩ := good_at h hi
  exact addAll_good h (hx _ _ h1 h2 h3 h4)
theorem good_start {n m : Int} (hn : 1 ≤ n) (hm : 1 ≤ m) : goodPairs n m [[0, 0]] := by
  refine ⟨by simp, fun p hp => ?_⟩
  rw [List.mem_singleton] at hp
  exact ⟨0, 0, hp, by omega, by omega, by omega, by omega⟩
theorem reachFrom_good {n m : Int} {nx : Int → Int → List (List Int)} (hx : okNext n m nx) : ∀ (d i : Nat) {out : List (List Int)}, goodPairs n m out → goodPairs n m (reachFrom nx d i out)
  | 0, _, _, h => h
  | d + 1, i, out, h => by
    simp only [reachFrom]
    split
    · rename_i hi; exact reachFrom_good hx d (i + 1) (good_next hx h hi)
    · exact h
theorem reach_good {n m : Int} {nx : Int → Int → List (List Int)} (hx : okNext n m nx) (hn : 1 ≤ n) (hm : 1 ≤ m) : goodPairs n m (reach nx) := reachFrom_good hx _ _ (good_start hn hm)
/-- A machine's moves lead to its states. -/
theorem machine_to {n : Int} {e : List Bool} {l : List Mv} (h : isMachine n e l = true) {j : Nat} (hj : j < l.length) : 0 ≤ (nt zMv l j).f3 ∧ (nt zMv l j).f3 < n := by
  unfold isMachine inB at h
  simp only [Bool.and_eq_true, decide_eq_true_eq] at h
  obtain ⟨_, _, _, hA⟩ := h
  have := (allFrom_iff _ _ _).1 hA j (by omega) (by omega)
  simp only [okMv, inB, Bool.and_eq_true, decide_eq_true_eq] at this
  omega
theorem machine_len {n : Int} {e : List Bool} {l : List Mv} (h : isMachine n e l = true) : 1 ≤ n ∧ n ≤ 6 ∧ (e.length : Int) = n ∧ l.length ≤ 12 := by
  unfold isMachine inB at h
  simp only [Bool.and_eq_true, decide_eq_true_eq] at h
  exact ⟨h.1.1, h.1.2, h.2.1, h.2.2.1⟩
theorem okNext_pairs {n m : Int} {e f : List Bool} {l k : List Mv} (h1 : isMachine n e l = true) (h2 : isMachine m f k = true) : okNext n m (nextPairs l k) := by
  intro x y _ _ _ _ p hp
  have one : ∀ s v, pairOk l k x y s v = true → okPair n m (pairTo l k x y s v) := by
    intro s v q
    simp only [pairOk, Bool.and_eq_true, decide_eq_true_eq] at q
    rcases moveOf_bnd l x s v with a | ⟨i, e1, b1, _⟩
    · omega
    · rcases moveOf_bnd k y (!s) v with a | ⟨j, e2, b2, _⟩
      · omega
      · have c1 := machine_to h1 b1
        have c2 := machine_to h2 b2
        exact ⟨_, _, by rw [pairTo, e1, e2, toNat_cast, toNat_cast], c1.1, c1.2, c2.1, c2.2⟩
  unfold nextPairs at hp
  rcases List.mem_append.1 hp with hp | hp
  · obtain ⟨v, hv, rfl⟩ := List.mem_map.1 hp
    exact one _ _ (List.mem_filter.1 hv).2
  · obtain ⟨v, hv, rfl⟩ := List.mem_map.1 hp
    exact one _ _ (List.mem_filter.1 hv).2

/-! ### T_follow -/
/-- Both machines make the move of message v as s tells. -/
def followOk (l m : List Mv) (x y : Int) (s : Bool) (v : Int) : Bool := decide (0 ≤ moveOf l x s v) && decide (0 ≤ moveOf m y s v)
def followTo (l m : List Mv) (x y : Int) (s : Bool) (v : Int) : List Int := [(nt zMv l (moveOf l x s v).toNat).f3, (nt zMv m (moveOf m y s v).toNat).f3]
def nextFollowed (l m : List Mv) (x y : Int) : List (List Int) :=
  ((movesFrom l x true).filter (followOk l m x y true)).map (followTo l m x y true) ++ ((movesFrom m y false).filter (followOk l m x y false)).map (followTo l m x y false)
theorem nextFollowed_len (l m : List Mv) (x y : Int) : (nextFollowed l m x y).length ≤ l.length + m.length := by
  unfold nextFollowed
  rw [List.length_append, List.length_map, List.length_map]
  have h1 := List.length_filter_le (followOk l m x y true) (movesFrom l x true)
  have h2 := List.length_filter_le (followOk l m x y false) (movesFrom m y false)
  have h3 := movesFrom_len l x true
  have h4 := movesFrom_len m y false
  omega
theorem okNext_follow {n m : Int} {e f : List Bool} {l k : List Mv} (h1 : isMachine n e l = true) (h2 : isMachine m f k = true) : okNext n m (nextFollowed l k) := by
  intro x y _ _ _ _ p hp
  have one : ∀ s v, followOk l k x y s v = true → okPair n m (followTo l k x y s v) := by
    intro s v q
    simp only [followOk, Bool.and_eq_true, decide_eq_true_eq] at q
    rcases moveOf_bnd l x s v with a | ⟨i, e1, b1, _⟩
    · omega
    · rcases moveOf_bnd k y s v with a | ⟨j, e2, b2, _⟩
      · omega
      · have c1 := machine_to h1 b1
        have c2 := machine_to h2 b2
        exact ⟨_, _, by rw [followTo, e1, e2, toNat_cast, toNat_cast], c1.1, c1.2, c2.1, c2.2⟩
  unfold nextFollowed at hp
  rcases List.mem_append.1 hp with hp | hp
  · obtain ⟨v, hv, rfl⟩ := List.mem_map.1 hp
    exact one _ _ (List.mem_filter.1 hv).2
  · obtain ⟨v, hv, rfl⟩ := List.mem_map.1 hp
    exact one _ _ (List.mem_filter.1 hv).2

/-! ### T_closed -/
/-- What is reached from 0 and 0. -/
inductive Rch (nx : Int → Int → List (List Int)) : List Int → Prop
  | start : Rch nx [0, 0]
  | step {p q : List Int} : Rch nx p → q ∈ nx (nt 0 p 0) (nt 0 p 1) → Rch nx q
theorem addPair_mem (out : List (List Int)) (p q : List Int) : q ∈ addPair out p ↔ q ∈ out ∨ q = p := by
  unfold addPair
  split
  · rename_i h
    constructor
    · exact .inl
    · rintro (h2 | rfl)
      · exact h2
      · exact h
  · rw [List.mem_append, List.mem_singleton]
theorem addAll_mem : ∀ (ps out : List (List Int)) (q : List Int), q ∈ addAll out ps ↔ q ∈ out ∨ q ∈ ps
  | [], out, q => by simp [addAll]
  | p :: ps, out, q => by
    show q ∈ addAll (addPair out p) ps ↔ _
    rw [addAll_mem ps, addPair_mem, List.mem_cons, or_assoc]
theorem addPair_pre (out : List (List Int)) (p : List Int) : ∃ t, addPair out p = out ++ t := by
  unfold addPair
  split
  · exact ⟨[], by simp⟩
  · exact ⟨[p], rfl⟩
theorem addAll_pre : ∀ (ps out : List (List Int)), ∃ t, addAll out ps = out ++ t
  | [], out => ⟨[], by simp [addAll]⟩
  | p :: ps, out => by
    obtain ⟨t, h⟩ := addPair_pre out p
    obtain ⟨u, h2⟩ := addAll_pre ps (addPair out p)
    exact ⟨t ++ u, by show addAll (addPair out p) ps = _; rw [h2, h, List.append_assoc]⟩
theorem nt_pre {z : List Int} {out t : List (List Int)} {j : Nat} (h : j < out.length) : nt z (out ++ t) j = nt z out j := by
  rw [nt_lt _ _ _ (by rw [List.length_append]; omega), nt_lt _ _ _ h, List.getElem_append_left h]
theorem reachFrom_sound {nx : Int → Int → List (List Int)} : ∀ (d i : Nat) (out : List (List Int)), (∀ p ∈ out, Rch nx p) → ∀ p ∈ reachFrom nx d i out, Rch nx p
  | 0, _, _, h => h
  | d + 1, i, out, h => by
    simp only [reachFrom]
    split
    · rename_i hi
      refine reachFrom_sound d (i + 1) _ fun p hp => ?_
      rcases (addAll_mem _ _ _).1 hp with hp | hp
      · exact h p hp
      · exact .step (h _ (nt_mem [] out i hi)) hp
    · exact h
theorem reachFrom_closed {n m : Int} {nx : Int → Int → List (List Int)} (hn : n ≤ 6) (hm : m ≤ 6) (hx : okNext n m nx) : ∀ (d i : Nat) (out : List (List Int)), goodPairs n m out → 37 ≤ i + d →
    (∀ j, j < i → j < out.length → ∀ q ∈ nx (nt 0 (nt [] out j) 0) (nt 0 (nt [] out j) 1), q ∈ out) →
    (∀ p ∈ out, p ∈ reachFrom nx d i out) ∧ ∀ p ∈ reachFrom nx d i out, ∀ q ∈ nx (nt 0 p 0) (nt 0 p 1), q ∈ reachFrom nx d i out
  | 0, i, out, hg, hi, hc => by
    refine ⟨fun _ h => h, fun p hp q hq => ?_⟩
    obtain ⟨j, hj, rfl⟩ := List.mem_iff_getElem.1 (show p ∈ out from hp)
    have := good_len hn hm hg
    exact hc j (by omega) hj q (by rw [nt_lt _ _ _ hj]; exact hq)
  | d + 1, i, out, hg, hi, hc => by
    simp only [reachFrom]
    split
    · rename_i h
      obtain ⟨t, ht⟩ := addAll_pre (nx (nt 0 (nt [] out i) 0) (nt 0 (nt [] out i) 1)) out
      have ih := reachFrom_closed hn hm hx d (i + 1) (addAll out (nx (nt 0 (nt [] out i) 0) (nt 0 (nt [] out i) 1))) (good_next hx hg h) (by omega) (fun j hj hjl q hq => by
        have hjo : j < out.length := by omega
        rw [ht, nt_pre hjo] at hq
        rw [addAll_mem]
        by_cases e : j = i
        · subst e; exact .inr hq
        · exact .inl (hc j (by omega) hjo q hq))
      exact ⟨fun p hp => ih.1 p ((addAll_mem _ _ _).2 (.inl hp)), ih.2⟩
    · rename_i h
      refine ⟨fun _ h => h, fun p hp q hq => ?_⟩
      obtain ⟨j, hj, rfl⟩ := List.mem_iff_getElem.1 (show p ∈ out from hp)
      exact hc j (by omega) hj q (by rw [nt_lt _ _ _ hj]; exact hq)
theorem reach_iff {n m : Int} {nx : Int → Int → List (List Int)} (hn : 1 ≤ n ∧ n ≤ 6) (hm : 1 ≤ m ∧ m ≤ 6) (hx : okNext n m nx) (p : List Int) : p ∈ reach nx ↔ Rch nx p := by
  have hc := reachFrom_closed hn.2 hm.2 hx 37 0 [[0, 0]] (good_start hn.1 hm.1) (by omega) (fun j hj => by omega)
  constructor
  · exact reachFrom_sound 37 0 _ (fun q hq => by rw [List.mem_singleton] at hq; subst hq; exact .start) p
  · intro h
    induction h with
    | start => exact hc.1 _ (by simp)
    | step _ hq ih => exact hc.2 _ ih _ hq
theorem nextPairs_mem {l m : List Mv} {x y : Int} {p : List Int} : p ∈ nextPairs l m x y ↔ ∃ s v, pairOk l m x y s v = true ∧ p = pairTo l m x y s v := by
  unfold nextPairs
  rw [List.mem_append, List.mem_map, List.mem_map]
  constructor
  · rintro (⟨v, hv, rfl⟩ | ⟨v, hv, rfl⟩)
    · exact ⟨_, v, (List.mem_filter.1 hv).2, rfl⟩
    · exact ⟨_, v, (List.mem_filter.1 hv).2, rfl⟩
  · rintro ⟨s, v, hp, rfl⟩
    have hq := hp
    simp only [pairOk, Bool.and_eq_true, decide_eq_true_eq] at hq
    cases s with
    | true => exact .inl ⟨v, List.mem_filter.2 ⟨(moveOf_any _ _ _ _).1 hq.1, hp⟩, rfl⟩
    | false => exact .inr ⟨v, List.mem_filter.2 ⟨(moveOf_any _ _ _ _).1 hq.2, hp⟩, rfl⟩
theorem nextFollowed_mem {l m : List Mv} {x y : Int} {p : List Int} : p ∈ nextFollowed l m x y ↔ ∃ s v, followOk l m x y s v = true ∧ p = followTo l m x y s v := by
  unfold nextFollowed
  rw [List.mem_append, List.mem_map, List.mem_map]
  constructor
  · rintro (⟨v, hv, rfl⟩ | ⟨v, hv, rfl⟩)
    · exact ⟨_, v, (List.mem_filter.1 hv).2, rfl⟩
    · exact ⟨_, v, (List.mem_filter.1 hv).2, rfl⟩
  · rintro ⟨s, v, hp, rfl⟩
    have hq := hp
    simp only [followOk, Bool.and_eq_true, decide_eq_true_eq] at hq
    cases s with
    | true => exact .inl ⟨v, List.mem_filter.2 ⟨(moveOf_any _ _ _ _).1 hq.1, hp⟩, rfl⟩
    | false => exact .inr ⟨v, List.mem_filter.2 ⟨(moveOf_any _ _ _ _).1 hq.2, hp⟩, rfl⟩

/-! ### T_pairs -/
/-- Is every number of a among those of b? -/
def within (a b : List Int) : Bool := a.all fun x => b.any (· == x)
def without (a b : List Int) : List Int := a.filter fun x => !b.any (· == x)
def endAt (e : List Bool) (x : Int) : Bool := decide (0 ≤ x ∧ x ≤ (e.length : Int) - 1) && nt false e x.toNat
theorem without_pos (a b : List Int) : ((without a b).length : Int) > 0 ↔ within a b = false := by
  unfold without within
  rw [List.all_eq_false]
  constructor
  · intro h
    obtain ⟨x, hx⟩ := List.exists_mem_of_length_pos (l := a.filter fun x => !b.any (· == x)) (by omega)
    rw [List.mem_filter] at hx
    exact ⟨x, hx.1, fun h => by have h2 := hx.2; rw [h] at h2; cases h2⟩
  · rintro ⟨x, hx, hq⟩
    have : x ∈ a.filter fun x => !b.any (· == x) := List.mem_filter.2 ⟨hx, by rw [Bool.eq_false_iff.2 hq]; rfl⟩
    have := List.length_pos_of_mem this
    omega
theorem endAt_eq {e : List Bool} {x : Int} (he : e.length ≤ 1048576) : endAt e x = if 0 ≤ x ∧ x < (e.length : Int) then nt false e x.toNat else false := by
  unfold endAt
  by_cases h : 0 ≤ x ∧ x < (e.length : Int)
  · rw [if_pos h, decide_eq_true (by omega), Bool.true_and]
  · rw [if_neg h, decide_eq_false (by omega), Bool.false_and]
theorem rdb_toNat (e : List Bool) (x : Int) (h : 0 ≤ x) : rdOf false e x = nt false e x.toNat := by
  have := rdb_cast e x.toNat
  rwa [Int.toNat_of_nonneg h] at this

/-! ### T_troubleAt -/
def unread (l m : List Mv) (x y : Int) : Bool := (movesFrom l x true).any fun v => decide (moveOf m y false v < 0)
def troubleAt (e : List Bool) (l : List Mv) (f : List Bool) (m : List Mv) (x y : Int) : Int :=
  if unread l m x y || unread m l y x then 1 else if decide ((nextPairs l m x y).length = 0) && !(endAt e x && endAt f y) then 2 else 0

/-! ### T_dual -/
def flipMv (x : Mv) : Mv := ⟨x.f0, !x.f1, x.f2, x.f3⟩

/-! ### impl_MoveOf -/
theorem impl_MoveOf_eq (n : Int) (e : List Bool) (l : List Mv) (a : Int) (s : Bool) (m : Int) : impl_MoveOf.f n e l a s m = some (moveOf l a s m) := rfl

/-! ### T_RunMachine -/
theorem moveOf_bound (l : List Mv) (a : Int) (s : Bool) (m : Int) : moveOf l a s m < 0 ∨ ∃ j : Nat, moveOf l a s m = j ∧ j < l.length ∧ keyMv a s m (nt zMv l j) = true := by
  rcases idx_elim_nonneg (keyMv a s m) l zMv with ⟨h, _⟩ | ⟨j, h1, h2, h3, _⟩
  · exact .inl h
  · exact .inr ⟨j, h1, h2, h3⟩
/-- The message of a word's number. -/
def msgOf (n : Int) : Int := if n < 0 then -(n + 1) else n
/-- A word run from state s on. -/
def runFrom (l : List Mv) : Int → List Int → Int
  | s, [] => s
  | s, n :: w => if moveOf l s (decide (n ≥ 0)) (msgOf n) < 0 then -1 else runFrom l (nt zMv l (moveOf l s (decide (n ≥ 0)) (msgOf n)).toNat).f3 w
def runMachine (n : Int) (e : List Bool) (l : List Mv) (w : List Int) : Int := if isMachine n e l && decide (w.length ≤ 20) then runFrom l 0 w else -1
theorem msg_spec {n : Int} (h : -9223372036854775808 ≤ n ∧ n ≤ 9223372036854775807) (hn : n < 0) : wrap64 (-(wrap64 (n + 1))) = msgOf n := by
  unfold msgOf; rw [if_pos hn, wrap_id (x := n + 1) (by omega) (by omega), wrap_id (by omega) (by omega)]
theorem msg_impl {n : Int} (h : -9223372036854775808 ≤ n ∧ n ≤ 9223372036854775807) (hn : n < 0) : wrap64 (wrap64 (-n) - 1) = msgOf n := by
  unfold msgOf; rw [if_pos hn]
  unfold wrap64; omega

/-! ### T_dualM -/
theorem key_flip (a : Int) (s : Bool) (m : Int) (x : Mv) : keyMv a (!s) m (flipMv x) = keyMv a s m x := by
  unfold keyMv flipMv
  cases s <;> cases x.f1 <;> rfl
theorem moveOf_flip (l : List Mv) (a : Int) (s : Bool) (m : Int) : moveOf (l.map flipMv) a (!s) m = moveOf l a s m := by
  unfold moveOf
  rw [List.findIdx?_map, show (keyMv a (!s) m ∘ flipMv) = keyMv a s m from funext fun x => key_flip a s m x]
theorem nt_flip {l : List Mv} {i : Nat} (h : i < l.length) : nt zMv (l.map flipMv) i = flipMv (nt zMv l i) := by
  rw [nt_lt _ _ _ (by rw [List.length_map]; exact h), nt_lt _ _ _ h, List.getElem_map]
theorem clash_flip (x y : Mv) : clashMv (flipMv x) (flipMv y) = clashMv x y := by
  unfold clashMv flipMv
  cases x.f1 <;> cases y.f1 <;> rfl
theorem isMachine_flip (n : Int) (e : List Bool) (l : List Mv) : isMachine n e (l.map flipMv) = isMachine n e l := by
  unfold isMachine
  rw [List.length_map]
  congr 3
  refine allFrom_congr _ _ fun i _ hi => ?_
  rw [nt_flip (by omega)]
  congr 1
  refine allFrom_congr _ _ fun j _ hj => ?_
  rw [nt_flip (by omega), clash_flip]
def negW (w : List Int) : List Int := w.map fun v => -(v + 1)
theorem msg_neg (n : Int) : msgOf (-(n + 1)) = msgOf n := by
  unfold msgOf
  split <;> split <;> omega
theorem run_flip (l : List Mv) : ∀ (w : List Int) (s : Int), runFrom (l.map flipMv) s (negW w) = runFrom l s w
  | [], _ => rfl
  | n :: w, s => by
    have ih := run_flip l w
    have e : decide (-(n + 1) ≥ 0) = !decide (n ≥ 0) := by
      by_cases q : n ≥ 0
      · rw [decide_eq_true q, decide_eq_false (by omega)]; rfl
      · rw [decide_eq_false q, decide_eq_true (by omega)]; rfl
    unfold negW at ih ⊢
    simp only [List.map_cons, runFrom]
    rw [e, msg_neg, moveOf_flip]
    by_cases q : moveOf l s (decide (n ≥ 0)) (msgOf n) < 0
    · rw [if_pos q, if_pos q]
    · rw [if_neg q, if_neg q]
      rcases moveOf_bound l s (decide (n ≥ 0)) (msgOf n) with h | ⟨j, hj, hl, _⟩
      · exact absurd h q
      · rw [hj, toNat_cast, nt_flip hl]
        exact ih _
theorem runMachine_flip (n : Int) (e : List Bool) (l : List Mv) (w : List Int) : runMachine n e (l.map flipMv) (negW w) = runMachine n e l w := by
  unfold runMachine
  rw [isMachine_flip, run_flip, show (negW w).length = w.length from List.length_map ..]
theorem flipMv_two (l : List Mv) : (l.map flipMv).map flipMv = l := by
  rw [List.map_map]
  have : (flipMv ∘ flipMv) = id := funext fun x => by cases x; simp [flipMv]
  rw [this, List.map_id]

/-! ### T_ll -/
theorem rdLL (l : List (List Int)) (i : Nat) : rd_L4 l (i : Int) = nt [] l i := by simp [rd_L4, nt]
theorem rd_nt0 (l : List Int) : rd l 0 = nt 0 l 0 := by simp [rd, nt]
theorem rd_nt1 (l : List Int) : rd l 1 = nt 0 l 1 := by simp [rd, nt]
theorem okPair_len {n m : Int} {p : List Int} (h : okPair n m p) : p.length = 2 := by
  obtain ⟨x, y, rfl, _⟩ := h
  rfl
theorem addAll_cons (out : List (List Int)) (p : List Int) (ps : List (List Int)) : addAll out (p :: ps) = addAll (addPair out p) ps := rfl
theorem addPair_len (out : List (List Int)) (p : List Int) : (addPair out p).length ≤ out.length + 1 := by
  unfold addPair; split
  · omega
  · rw [len_snoc]; omega

/-! ### T_pairsOf -/
def pairsOf (n : Int) (e : List Bool) (l : List Mv) (n2 : Int) (f : List Bool) (m : List Mv) : List (List Int) := if (isMachine n e l && isMachine n2 f m) = true then reach (nextPairs l m) else []
theorem pairsOf_good {n n2 : Int} {e f : List Bool} {l m : List Mv} (h : (isMachine n e l && isMachine n2 f m) = true) : goodPairs n n2 (pairsOf n e l n2 f m) := by
  unfold pairsOf
  rw [if_pos h]
  rw [Bool.and_eq_true] at h
  have h1 := machine_len h.1
  have h2 := machine_len h.2
  exact reach_good (okNext_pairs h.1 h.2) h1.1 h2.1
theorem pairsOf_len2 (n : Int) (e : List Bool) (l : List Mv) (n2 : Int) (f : List Bool) (m : List Mv) : (pairsOf n e l n2 f m).length ≤ 36 ∧ ∀ p ∈ pairsOf n e l n2 f m, p.length = 2 := by
  by_cases h : (isMachine n e l && isMachine n2 f m) = true
  · have hg := pairsOf_good h
    rw [Bool.and_eq_true] at h
    have h1 := machine_len h.1
    have h2 := machine_len h.2
    exact ⟨good_len (by omega) (by omega) hg, fun p hp => okPair_len (hg.2 p hp)⟩
  · unfold pairsOf
    rw [if_neg h]
    exact ⟨by simp, fun p hp => by cases hp⟩

/-! ### T_trouble -/
/-- The first pair with a trouble. -/
def firstOf (p : List Int → Bool) (l : List (List Int)) : List Int := (l.find? p).getD []
theorem firstOf_cons (p : List Int → Bool) (x : List Int) (l : List (List Int)) : firstOf p (x :: l) = if p x = true then x else firstOf p l := by
  unfold firstOf
  rw [List.find?_cons]
  cases h : p x <;> simp
theorem first_loop {g : Nat → Nat → Option (List Int)} {l : List (List Int)} {B : Nat} {p : List Int → Bool} (stop : ∀ k, g (k + 1) l.length = some [])
    (step : ∀ k i, i < l.length → B ≤ k → g (k + 1) i = if p (nt [] l i) = true then some (nt [] l i) else g k (i + 1)) :
    ∀ (d k i : Nat), i + d = l.length → B + d < k → g k i = some (firstOf p (l.drop i)) := by
  intro d
  induction d with
  | zero =>
    intro k i h hk
    obtain ⟨k, rfl⟩ := succ_of hk
    obtain rfl : i = l.length := by omega
    rw [stop, drop_end]; rfl
  | succ d ih =>
    intro k i h hk
    obtain ⟨k, rfl⟩ := succ_of hk
    rw [step k i (by omega) (by omega), drop_step l [] i (by omega), firstOf_cons]
    split
    · rfl
    · exact ih k (i + 1) (by omega) (by omega)

/-! ### impl_reached -/
theorem impl_reached_any_eq (out : List (List Int)) (p : List Int) : impl_reached_any.f out p = some (decide (p ∈ out)) := by
  unfold impl_reached_any.f
  refine congrArg some ?_
  rw [Bool.eq_iff_iff, List.any_eq_true, decide_eq_true_eq]
  constructor
  · rintro ⟨x, hx, h⟩
    rw [decide_eq_true_eq] at h
    exact h ▸ hx
  · exact fun h => ⟨p, h, decide_eq_true rfl⟩
theorem impl_reached_l1 [inst_ : KEEP_impl_reached] {x4 : Int} {ps : List (List Int)} (hp : ps.length ≤ 1048576) : ∀ (d i k : Nat) (out : List (List Int)), i + d = ps.length → out.length + d ≤ 4194304 → d < k →
    impl_reached.l1 k out x4 ps (ps.length : Int) (i : Int) = impl_reached.l0 (k - d - 1) (addAll out (ps.drop i)) (wrap64 (x4 + 1)) := by
  intro d
  induction d with
  | zero =>
    intro i k out h _ hk
    obtain ⟨k, rfl⟩ := succ_of hk
    obtain rfl : i = ps.length := by omega
    simp only [impl_reached.l1]
    rw [if_neg (by omega), drop_end]; rfl
  | succ d ih =>
    intro i k out h ho hk
    obtain ⟨k, rfl⟩ := succ_of hk
    simp only [impl_reached.l1]
    rw [if_pos (by omega), if_pos (by omega), if_pos (by omega), rdLL, impl_reached_any_eq, Option.bind_some, wrap_up (n := ps.length) (by omega) (by omega), drop_step ps [] i (by omega), addAll_cons]
    have hl := addPair_len out (nt [] ps i)
    by_cases q : nt [] ps i ∈ out
    · rw [decide_eq_true q, if_pos rfl, ih (i + 1) k out (by omega) (by omega) (by omega)]
      unfold addPair; rw [if_pos q, show k + 1 - (d + 1) - 1 = k - d - 1 by omega]
    · rw [decide_eq_false q, if_neg (by simp), if_pos (by omega), ih (i + 1) k _ (by omega) (by rw [len_snoc]; omega) (by omega)]
      unfold addPair; rw [if_neg q, show k + 1 - (d + 1) - 1 = k - d - 1 by omega]
theorem impl_reached_l0 [inst_ : KEEP_impl_reached] {n m : Int} {nx : Int → Int → List (List Int)} {B : Nat} (hn : n ≤ 6) (hm : m ≤ 6) (hx : okNext n m nx) (hl : ∀ x y, (nx x y).length ≤ 100)
    (hf : ∀ x y k, 0 ≤ x → x < n → 0 ≤ y → y < m → B < k → KEEP_impl_reached.f k x y = some (nx x y)) : ∀ (d i k : Nat) (out : List (List Int)), goodPairs n m out → 37 ≤ i + d → B + 200 * d < k → impl_reached.l0 k out (i : Int) = some (reachFrom nx d i out) := by
  intro d
  induction d with
  | zero =>
    intro i k out hg hi hk
    obtain ⟨k, rfl⟩ := succ_of hk
    have := good_len hn hm hg
    simp only [impl_reached.l0]
    rw [if_neg (by omega)]; rfl
  | succ d ih =>
    intro i k out hg hi hk
    obtain ⟨k, rfl⟩ := succ_of hk
    simp only [impl_reached.l0, reachFrom]
    by_cases h : i < out.length
    · obtain ⟨e, h1, h2, h3, h4⟩ := good_at hg h
      have hL : (nt [] out i).length = 2 := by rw [e]; rfl
      have hlen := good_len hn hm hg
      have hln := hl (nt 0 (nt [] out i) 0) (nt 0 (nt [] out i) 1)
      rw [if_pos (by omega), if_pos (by omega), rdLL, if_pos (by omega), if_pos (by omega), rd_nt0, rd_nt1, hf _ _ k h1 h2 h3 h4 (by omega), Option.bind_some, if_pos h]
      have e1 := impl_reached_l1 (x4 := (i : Int)) (ps := nx (nt 0 (nt [] out i) 0) (nt 0 (nt [] out i) 1)) (by omega) (nx (nt 0 (nt [] out i) 0) (nt 0 (nt [] out i) 1)).length 0 k out (by omega) (by omega) (by omega)
      rw [List.drop_zero, wrap_up (n := out.length) h (by omega)] at e1
      exact e1.trans (ih (i + 1) _ _ (good_next hx hg h) (by omega) (by omega))
    · rw [if_neg (by omega), if_neg h]
theorem impl_reached_eq [inst_ : KEEP_impl_reached] {n m : Int} {nx : Int → Int → List (List Int)} {B k : Nat} (hn : 1 ≤ n ∧ n ≤ 6) (hm : 1 ≤ m ∧ m ≤ 6) (hx : okNext n m nx) (hl : ∀ x y, (nx x y).length ≤ 100)
    (hf : ∀ x y k, 0 ≤ x → x < n → 0 ≤ y → y < m → B < k → KEEP_impl_reached.f k x y = some (nx x y)) (hk : B + 8000 < k) : impl_reached.f k = some (reach nx) := by
  unfold impl_reached.f reach
  exact impl_reached_l0 hn.2 hm.2 hx hl hf 37 0 k [[0, 0]] (good_start hn.1 hm.1) (by omega) (by omega)

/-! ### impl_NextPairs -/
theorem impl_NextPairs_l1 {n n2 : Int} {e f : List Bool} {l m : List Mv} {x y : Int} {s : Bool} {ws : List Bool} {z j : Int} {w : List Int} {acc : List (List Int)} {k : Nat} (hl : l.length ≤ 1048576) (hm : m.length ≤ 1048576) (hw : w.length ≤ 1048576) (ha : acc.length ≤ 1048576) (hk : 1048580 < k) :
    impl_NextPairs.l1 k x y acc s ws z j w (w.length : Int) 0 n e l n2 f m = impl_NextPairs.l0 (k - w.length - 1) x y (acc ++ (w.filter (pairOk l m x y s)).map (pairTo l m x y s)) ws z (wrap64 (j + 1)) n e l n2 f m := by
  have h := filter_inner (g := fun k acc i => impl_NextPairs.l1 k x y acc s ws z j w (w.length : Int) (i : Int) n e l n2 f m) (l := w) (z := 0) (B := 0) (c := acc.length) (p := pairOk l m x y s) (f := pairTo l m x y s) (cont := fun k acc => impl_NextPairs.l0 k x y acc ws z (wrap64 (j + 1)) n e l n2 f m) (fun k acc _ _ => by
      simp only [impl_NextPairs.l1]; rw [if_neg (by omega)])
    (fun k i acc hi hk hacc => by
      simp only [impl_NextPairs.l1]
      rw [if_pos (by omega), if_pos (by omega), if_pos (by omega), rd_cast, wrap_up (n := w.length) hi (by omega), impl_MoveOf_eq, Option.bind_some, impl_MoveOf_eq, Option.bind_some]
      unfold pairOk pairTo
      rcases moveOf_bnd l x s (nt 0 w i) with q | ⟨j2, e2, b2, _⟩
      · rw [if_neg (by omega), if_neg (by simp; omega)]
      · rcases moveOf_bnd m y (!s) (nt 0 w i) with q | ⟨j3, e1, b1, _⟩
        · rw [if_pos (by omega), if_neg (by omega), if_neg (by simp; omega)]
        · rw [if_pos (by omega), if_pos (by omega), if_pos (by omega), if_pos (by omega), if_pos (by omega), if_pos (by omega), if_pos (by omega), if_pos (by simp; omega), e1, e2, rd_Mv, rd_Mv, toNat_cast, toNat_cast]) w.length k 0 acc (by omega) (by omega) (by omega)
  rw [List.drop_zero] at h
  exact h
theorem impl_NextPairs_eq {n n2 : Int} {e f : List Bool} {l m : List Mv} {x y : Int} {k : Nat} (hl : l.length ≤ 1048576) (hm : m.length ≤ 1048576) (hk : 4000000 + 3000000 < k) : impl_NextPairs.f k n e l n2 f m x y = some (nextPairs l m x y) := by
  have a3 := movesFrom_len l x true
  have a4 := movesFrom_len m y true
  have c1 := List.length_filter_le (pairOk l m x y true) (movesFrom l x true)
  unfold impl_NextPairs.f
  rw [Option.bind_some]
  obtain ⟨k, rfl⟩ : ∃ k', k = k' + 2 := ⟨k - 2, by omega⟩
  have r0 : rdOf false [true, false] 0 = true := rfl
  have r1 : rdOf false [true, false] 1 = false := rfl
  have q0 : (([true, false] : List Bool).length : Int) = 2 := rfl
  simp only [impl_NextPairs.l0, q0]
  rw [if_pos (by omega), if_pos (by omega), if_pos (by omega), impl_MovesFrom_eq (by omega) (by omega), Option.bind_some, r0, if_pos rfl]
  simp only [impl_NextPairs.j1]
  rw [impl_NextPairs_l1 hl hm (by omega) (by simp) (by omega)]
  obtain ⟨k2, e2⟩ : ∃ k2, k - (movesFrom l x true).length - 1 = k2 + 2 := ⟨k - (movesFrom l x true).length - 1 - 2, by omega⟩
  rw [e2, show wrap64 (0 + 1) = 1 by rw [wrap_id (by omega) (by omega)]; rfl]
  simp only [impl_NextPairs.l0]
  rw [if_pos (by omega), if_pos (by omega), if_pos (by rw [q0]; omega), impl_MovesFrom_eq (by omega) (by omega), Option.bind_some, r1, if_neg (by simp), impl_MovesFrom_eq (by omega) (by omega), Option.bind_some]
  simp only [impl_NextPairs.j1]
  rw [impl_NextPairs_l1 hl hm (by omega) (by rw [List.nil_append, List.length_map]; omega) (by omega)]
  obtain ⟨k3, e3⟩ : ∃ k3, k2 - (movesFrom m y true).length - 1 = k3 + 1 := ⟨k2 - (movesFrom m y true).length - 1 - 1, by omega⟩
  rw [e3, show wrap64 (1 + 1) = 2 by rw [wrap_id (by omega) (by omega)]; rfl]
  simp only [impl_NextPairs.l0]
  rw [if_neg (by omega), List.nil_append]; rfl

/-! ### impl_InRange -/
theorem impl_InRange_eq (a b c : Int) : impl_InRange.f a b c = some (decide (b ≤ a ∧ a ≤ c)) := by
  unfold impl_InRange.f
  by_cases h : b ≤ a
  · rw [if_pos h]; simp [h]
  · rw [if_neg h, decide_eq_false (by omega)]

/-! ### impl_IsMachine -/
theorem impl_IsMachine_l1 {n : Int} {e : List Bool} {l : List Mv} {i : Nat} (hi : i < l.length) (hl : l.length ≤ 12) {k : Nat} (hk : i < k) : impl_IsMachine.l1 k l (l.length : Int) (i : Int) (l.take i) ((l.take i).length : Int) 0 n e l (nt zMv l i).f0 (nt zMv l i).f1 (nt zMv l i).f2 (nt zMv l i).f3
    = if allFrom (fun j => !clashMv (nt zMv l j) (nt zMv l i)) 0 i = true then impl_IsMachine.l0 (k - i - 1) l (l.length : Int) ((i + 1 : Nat) : Int) n e l else some false := by
  have ht : (l.take i).length = i := by rw [List.length_take]; omega
  have hnt : ∀ j, j < i → nt zMv (l.take i) j = nt zMv l j := fun j hj => by rw [nt_lt _ _ _ (by omega), nt_lt _ _ _ (by omega), List.getElem_take]
  exact inner_loop (g := fun k j => impl_IsMachine.l1 k l (l.length : Int) (i : Int) (l.take i) ((l.take i).length : Int) (j : Int) n e l (nt zMv l i).f0 (nt zMv l i).f1 (nt zMv l i).f2 (nt zMv l i).f3) (n := i) (cont := fun k => impl_IsMachine.l0 k l (l.length : Int) ((i + 1 : Nat) : Int) n e l) (fun k => by
      simp only [impl_IsMachine.l1]; rw [if_neg (by omega), wrap_up (n := l.length) hi (by omega)])
    (fun k j hj => by
      simp only [impl_IsMachine.l1]
      rw [if_pos (by omega), if_pos (by omega), if_pos (by omega), rd_Mv, hnt j hj, wrap_up (n := i) hj (by omega)]
      by_cases h1 : (nt zMv l j).f0 = (nt zMv l i).f0
      · rw [if_pos h1]
        cases h2 : ((nt zMv l j).f1 == (nt zMv l i).f1) with
        | false => rw [if_pos (by simp only [bne, h2, Bool.not_false]), if_neg (by simp [clashMv, h1, h2])]
        | true =>
          rw [if_neg (by simp only [bne, h2, Bool.not_true]; simp)]
          by_cases h3 : (nt zMv l j).f2 = (nt zMv l i).f2
          · rw [if_pos h3, if_neg (by simp [clashMv, h1, h3])]
          · rw [if_neg h3, if_pos (by simp [clashMv, h2, h3])]
      · rw [if_neg h1, if_pos (by simp [clashMv, h1])]) i k 0 (by omega) (by omega)
theorem impl_IsMachine_l0 {n : Int} {e : List Bool} {l : List Mv} (hN : 1 ≤ n ∧ n ≤ 6) (hl : l.length ≤ 12) : ∀ (d k i : Nat), i + d = l.length → 20 * d + 20 < k → impl_IsMachine.l0 k l (l.length : Int) (i : Int) n e l
    = some (allFrom (fun i => okMv n (nt zMv l i) && allFrom (fun j => !clashMv (nt zMv l j) (nt zMv l i)) 0 i) i d) := by
  intro d
  induction d with
  | zero =>
    intro k i h hk
    obtain ⟨k, rfl⟩ := succ_of hk
    simp only [impl_IsMachine.l0]; rw [if_neg (by omega)]; rfl
  | succ d ih =>
    intro k i h hk
    obtain ⟨k, rfl⟩ : ∃ k', k = k' + 2 := ⟨k - 2, by omega⟩
    simp only [impl_IsMachine.l0]
    rw [if_pos (by omega), if_pos (by omega), if_pos (by omega), rd_Mv, wrap_id (x := n - 1) (by omega) (by omega)]
    simp only [impl_InRange_eq, Option.bind_some]
    have e1 : (decide (0 ≤ (nt zMv l i).f0 ∧ (nt zMv l i).f0 ≤ n - 1)) = inB (nt zMv l i).f0 0 (n - 1) := by simp [inB]
    have e2 : (decide (0 ≤ (nt zMv l i).f3 ∧ (nt zMv l i).f3 ≤ n - 1)) = inB (nt zMv l i).f3 0 (n - 1) := by simp [inB]
    have e3 : (decide (0 ≤ (nt zMv l i).f2 ∧ (nt zMv l i).f2 ≤ 5)) = inB (nt zMv l i).f2 0 5 := by simp [inB]
    simp only [e1, e2, e3, allFrom, okMv, impl_IsMachine.j2, Option.bind_some, toNat_cast]
    cases inB (nt zMv l i).f0 0 (n - 1) <;> cases inB (nt zMv l i).f3 0 (n - 1) <;> cases inB (nt zMv l i).f2 0 5 <;> simp only [Bool.false_eq_true, if_false, if_true, Bool.false_and, Bool.true_and, Bool.and_false, Bool.not_true, Bool.not_false]
    rw [if_pos (by omega), if_pos (by omega), impl_IsMachine_l1 (by omega) hl (by omega)]
    by_cases hc : allFrom (fun j => !clashMv (nt zMv l j) (nt zMv l i)) 0 i = true
    · rw [if_pos hc, hc, ih _ (i + 1) (by omega) (by omega)]; simp [okMv]
    · rw [if_neg hc]; simp only [Bool.not_eq_true] at hc; rw [hc]; rfl
theorem impl_IsMachine_eq {n : Int} {e : List Bool} {l : List Mv} {k : Nat} (hk : 1000 < k) : impl_IsMachine.f k n e l = some (isMachine n e l) := by
  unfold impl_IsMachine.f isMachine
  rw [impl_InRange_eq, Option.bind_some]
  obtain ⟨k, rfl⟩ := succ_of hk
  simp only [impl_IsMachine.j0]
  cases h1 : inB n 1 6 with
  | false => rw [if_neg (by simpa [inB] using h1), if_pos trivial]; rfl
  | true =>
    have hN : 1 ≤ n ∧ n ≤ 6 := by simpa [inB] using h1
    rw [if_pos (by simpa [inB] using h1)]
    by_cases h2 : (e.length : Int) = n
    · rw [if_pos h2]
      by_cases h3 : l.length ≤ 12
      · rw [if_neg (by simp; omega)]
        have h := impl_IsMachine_l0 (e := e) hN h3 l.length k 0 (by omega) (by omega)
        simpa [h2, h3] using h
      · rw [if_pos (by simp; omega)]; simp [h3]
    · rw [if_neg h2, if_pos trivial]; simp [h2]

/-! ### impl_PairsOf -/
theorem impl_PairsOf_eq {n n2 : Int} {e f : List Bool} {l m : List Mv} {k : Nat} (hl : l.length ≤ 1048576) (hm : m.length ≤ 1048576) (hk : 7010000 < k) : impl_PairsOf.f k n e l n2 f m = some (pairsOf n e l n2 f m) := by
  unfold impl_PairsOf.f pairsOf
  rw [impl_IsMachine_eq (by omega), Option.bind_some]
  cases h1 : isMachine n e l with
  | false => rw [if_neg (by simp), if_neg (by simp)]
  | true =>
    rw [if_pos rfl, impl_IsMachine_eq (by omega), Option.bind_some]
    cases h2 : isMachine n2 f m with
    | false => rw [if_neg (by simp), if_neg (by simp)]
    | true =>
      have a1 := machine_len h1
      have a2 := machine_len h2
      rw [if_pos rfl, if_pos (by simp)]
      unfold impl_PairsOf_reach.f
      rw [@impl_reached_eq ⟨fun k_ x_ y_ => impl_NextPairs.f k_ n e l n2 f m x_ y_, fun x_ y_ k_ => impl_NextPairs.mono n e l n2 f m x_ y_ k_⟩ n n2 (nextPairs l m) 7000000 k ⟨a1.1, a1.2.1⟩ ⟨a2.1, a2.2.1⟩ (okNext_pairs h1 h2) (fun x y => by have := nextPairs_len l m x y; omega) (fun x y k _ _ _ _ hk => impl_NextPairs_eq hl hm (by omega)) (by omega), Option.bind_some]

/-! ### slices_Index_int_int -/
theorem slices_Index_int_int_eq {l : List Int} {n : Int} {k : Nat} (hl : l.length ≤ 9223372036854775807) (hk : l.length < k) : slices_Index_int_int.f k l n = some ((l.findIdx? (· == n)).elim (-1) fun j => (j : Int)) := by
  unfold slices_Index_int_int.f
  have h := find_loop (g := fun k i => slices_Index_int_int.l0 k l n (l.length : Int) (i : Int)) (l := l) (z := 0) (B := 0) (p := (· == n)) (hit := fun j => (j : Int)) (miss := (-1 : Int)) (fun k => by
      simp only [slices_Index_int_int.l0]; rw [if_neg (by omega)])
    (fun k i hi _ => by
      simp only [slices_Index_int_int.l0]
      rw [if_pos (by omega), if_pos (by omega), if_pos (by omega), wrap_up (n := l.length) hi hl, rd_cast]
      by_cases e : nt 0 l i = n
      · rw [if_pos e.symm, if_pos (by simp [e])]
      · rw [if_neg (fun h => e h.symm), if_neg (by simp [e])]) l.length k 0 (by omega) (by omega)
  simpa using h

/-! ### slices_Contains_int_int -/
theorem slices_Contains_int_int_eq {l : List Int} {n : Int} {k : Nat} (hl : l.length ≤ 9223372036854775807) (hk : l.length < k) : slices_Contains_int_int.f k l n = some (l.any (· == n)) := by
  unfold slices_Contains_int_int.f
  rw [slices_Index_int_int_eq hl hk, Option.bind_some, idx_any]

/-! ### impl_without2 -/
theorem impl_without_eq2 {a b : List Int} {k : Nat} (ha : a.length ≤ 1048576) (hb : b.length ≤ 1048576) (hk : a.length + b.length + 1 < k) : impl_without.f k a b = some (without a b) := by
  unfold impl_without.f
  have h := filter_loop (g := fun k acc i => impl_without.l0 k b acc a (a.length : Int) (i : Int)) (l := a) (z := 0) (B := b.length + 1) (p := fun x => !b.any (· == x)) (f := id) (fun k acc => by
      simp only [impl_without.l0]; rw [if_neg (by omega)])
    (fun k i acc hi hk hacc => by
      simp only [impl_without.l0]
      rw [if_pos (by omega), if_pos (by omega), if_pos (by omega), rd_cast, wrap_up (n := a.length) hi (by omega), slices_Contains_int_int_eq (by omega) (by omega), Option.bind_some]
      cases b.any (· == nt 0 a i) with
      | true => rfl
      | false => simp only [Bool.false_eq_true, if_false, Bool.not_false, if_true]; rw [if_pos (by omega)]; rfl) a.length k 0 [] (by omega) (by omega) (by simp)
  simpa [without] using h
theorem impl_isEnd_eq {n : Int} {e : List Bool} {l : List Mv} {x : Int} (he : e.length ≤ 1048576) : impl_isEnd.f n e l x = some (endAt e x) := by
  unfold impl_isEnd.f
  rw [wrap_id (by omega) (by omega), impl_InRange_eq, Option.bind_some, endAt_eq he]
  by_cases h : 0 ≤ x ∧ x < (e.length : Int)
  · rw [if_pos (by simp; omega), if_pos h.1, if_pos h.2, if_pos h, rdb_toNat e x h.1]
  · rw [if_neg (by simp; omega), if_neg h]

/-! ### impl_TroubleAt -/
theorem unread_within (l m : List Mv) (x y : Int) : ((without (movesFrom l x true) (movesFrom m y false)).length : Int) > 0 ↔ unread l m x y = true := by
  rw [without_pos]
  unfold within unread
  rw [List.all_eq_false, List.any_eq_true]
  constructor
  · rintro ⟨v, hv, hq⟩
    refine ⟨v, hv, ?_⟩
    have := moveOf_any m y false v
    rw [decide_eq_true_eq]
    by_cases q : moveOf m y false v < 0
    · exact q
    · exfalso
      exact hq (List.any_eq_true.2 ⟨v, this.1 (by omega), by simp⟩)
  · rintro ⟨v, hv, hq⟩
    refine ⟨v, hv, ?_⟩
    rw [decide_eq_true_eq] at hq
    intro h
    obtain ⟨u, hu, he⟩ := List.any_eq_true.1 h
    have : u = v := by simpa using he
    subst this
    have := (moveOf_any m y false u).2 hu
    omega
theorem impl_TroubleAt_eq {n n2 : Int} {e f : List Bool} {l m : List Mv} {x y : Int} {k : Nat} (he : e.length ≤ 1048576) (hf : f.length ≤ 1048576) (hl : l.length ≤ 1048576) (hm : m.length ≤ 1048576) (hk : 8000000 < k) : impl_TroubleAt.f k n e l n2 f m x y = some (troubleAt e l f m x y) := by
  have a1 := movesFrom_len l x true
  have a2 := movesFrom_len l x false
  have a3 := movesFrom_len m y true
  have a4 := movesFrom_len m y false
  unfold impl_TroubleAt.f troubleAt
  obtain ⟨k, rfl⟩ : ∃ k', k = k' + 1 := ⟨k - 1, by omega⟩
  have J : ∀ b, impl_TroubleAt.j0 (k + 1) x y b n e l n2 f m = some (if b = true then 1 else if decide ((nextPairs l m x y).length = 0) && !(endAt e x && endAt f y) then 2 else 0) := by
    intro b
    simp only [impl_TroubleAt.j0]
    cases b with
    | true => rfl
    | false =>
      rw [if_neg (by simp), if_neg (by simp), impl_NextPairs_eq hl hm (by omega), Option.bind_some, impl_isEnd_eq he, impl_isEnd_eq hf]
      by_cases q : (nextPairs l m x y).length = 0
      · rw [if_pos (by omega), decide_eq_true q]
        cases endAt e x <;> cases endAt f y <;> rfl
      · rw [if_neg (by omega), decide_eq_false q]; rfl
  rw [impl_MovesFrom_eq (by omega) (by omega), Option.bind_some, impl_MovesFrom_eq (by omega) (by omega), Option.bind_some, impl_without_eq2 (by omega) (by omega) (by omega), Option.bind_some,
    impl_MovesFrom_eq (by omega) (by omega), Option.bind_some, impl_MovesFrom_eq (by omega) (by omega), Option.bind_some, impl_without_eq2 (by omega) (by omega) (by omega), Option.bind_some]
  simp only [J]
  have u1 := unread_within l m x y
  have u2 := unread_within m l y x
  cases h1 : unread l m x y with
  | true => rw [if_pos (u1.2 h1)]; rfl
  | false =>
    rw [if_neg (fun q => by rw [u1.1 q] at h1; cases h1)]
    cases h2 : unread m l y x with
    | true => rw [decide_eq_true (u2.2 h2)]; rfl
    | false => rw [decide_eq_false (fun q => by rw [u2.1 q] at h2; cases h2)]; rfl

/-! ### impl_FirstTrouble -/
def hasTrouble (e : List Bool) (l : List Mv) (f : List Bool) (m : List Mv) (p : List Int) : Bool := !decide (troubleAt e l f m (nt 0 p 0) (nt 0 p 1) = 0)
def firstTrouble (n : Int) (e : List Bool) (l : List Mv) (n2 : Int) (f : List Bool) (m : List Mv) : List Int := firstOf (hasTrouble e l f m) (pairsOf n e l n2 f m)
theorem impl_FirstTrouble_eq {n n2 : Int} {e f : List Bool} {l m : List Mv} {k : Nat} (he : e.length ≤ 1048576) (hf : f.length ≤ 1048576) (hl : l.length ≤ 1048576) (hm : m.length ≤ 1048576) (hk : 8010000 < k) : impl_FirstTrouble.f k n e l n2 f m = some (firstTrouble n e l n2 f m) := by
  unfold impl_FirstTrouble.f firstTrouble
  rw [impl_PairsOf_eq hl hm (by omega), Option.bind_some]
  obtain ⟨P, hP⟩ : ∃ P, P = pairsOf n e l n2 f m := ⟨_, rfl⟩
  have hb := pairsOf_len2 n e l n2 f m
  rw [← hP] at hb ⊢
  have h := first_loop (g := fun k i => impl_FirstTrouble.l0 k P (P.length : Int) (i : Int) n e l n2 f m) (l := P) (B := 8000001) (p := hasTrouble e l f m) (fun k => by
      simp only [impl_FirstTrouble.l0]; rw [if_neg (by omega)])
    (fun k i hi hk => by
      have h2 := hb.2 _ (nt_mem [] P i hi)
      simp only [impl_FirstTrouble.l0]
      rw [if_pos (by omega), if_pos (by omega), if_pos (by omega), rdLL, if_pos (by omega), if_pos (by omega), rd_nt0, rd_nt1, impl_TroubleAt_eq he hf hl hm (by omega), Option.bind_some, wrap_up (n := P.length) hi (by omega)]
      unfold hasTrouble
      by_cases q : troubleAt e l f m (nt 0 (nt [] P i) 0) (nt 0 (nt [] P i) 1) = 0
      · rw [if_pos q, if_neg (by simp [q])]
      · rw [if_neg q, if_pos (by simp [q])]) P.length k 0 (by omega) (by omega)
  rw [List.drop_zero] at h
  exact h

/-! ### impl_IsSafe -/
def isSafe (n : Int) (e : List Bool) (l : List Mv) (n2 : Int) (f : List Bool) (m : List Mv) : Bool := isMachine n e l && (isMachine n2 f m && ((firstTrouble n e l n2 f m).length : Int) == 0)
theorem impl_IsSafe_eq {n n2 : Int} {e f : List Bool} {l m : List Mv} {k : Nat} (he : e.length ≤ 1048576) (hf : f.length ≤ 1048576) (hl : l.length ≤ 1048576) (hm : m.length ≤ 1048576) (hk : 8010000 < k) : impl_IsSafe.f k n e l n2 f m = some (isSafe n e l n2 f m) := by
  unfold impl_IsSafe.f isSafe
  rw [impl_IsMachine_eq (by omega), Option.bind_some]
  cases isMachine n e l with
  | false => rw [if_neg (by simp)]; rfl
  | true =>
    rw [if_pos rfl, impl_IsMachine_eq (by omega), Option.bind_some]
    cases isMachine n2 f m with
    | false => rw [if_neg (by simp)]; rfl
    | true => rw [if_pos rfl, impl_FirstTrouble_eq he hf hl hm (by omega), Option.bind_some]; rfl

/-! ### T_sym -/
def swapP (p : List Int) : List Int := [nt 0 p 1, nt 0 p 0]
theorem next_swap {l m : List Mv} {x y : Int} {p : List Int} (h : p ∈ nextPairs l m x y) : swapP p ∈ nextPairs m l y x := by
  obtain ⟨s, v, hk, rfl⟩ := nextPairs_mem.1 h
  refine nextPairs_mem.2 ⟨!s, v, ?_, ?_⟩
  · simp only [pairOk, Bool.and_eq_true, decide_eq_true_eq, Bool.not_not] at hk ⊢
    exact ⟨hk.2, hk.1⟩
  · unfold pairTo swapP
    rw [Bool.not_not]; rfl
theorem rch_swap {l m : List Mv} {p : List Int} (h : Rch (nextPairs l m) p) : Rch (nextPairs m l) (swapP p) := by
  induction h with
  | start => exact .start
  | step _ hq ih =>
    rename_i p0 q0 _
    exact Rch.step ih (next_swap hq)
theorem pairs_two {l m : List Mv} {x y : Int} {p : List Int} (h : p ∈ nextPairs l m x y) : ∃ a b : Int, p = [a, b] := by
  obtain ⟨s, v, _, rfl⟩ := nextPairs_mem.1 h
  exact ⟨_, _, rfl⟩
theorem rch_two {l m : List Mv} {p : List Int} (h : Rch (nextPairs l m) p) : ∃ a b : Int, p = [a, b] := by
  cases h with
  | start => exact ⟨0, 0, rfl⟩
  | step _ hq => exact pairs_two hq
theorem swap_swap {a b : Int} : swapP (swapP [a, b]) = [a, b] := rfl
theorem pairsOf_mem {n n2 : Int} {e f : List Bool} {l m : List Mv} {p : List Int} (h1 : isMachine n e l = true) (h2 : isMachine n2 f m = true) : p ∈ pairsOf n e l n2 f m ↔ Rch (nextPairs l m) p := by
  have a1 := machine_len h1
  have a2 := machine_len h2
  unfold pairsOf
  rw [if_pos (by rw [h1, h2]; rfl)]
  exact reach_iff ⟨a1.1, a1.2.1⟩ ⟨a2.1, a2.2.1⟩ (okNext_pairs h1 h2) p
theorem pairsOf_none {n n2 : Int} {e f : List Bool} {l m : List Mv} (h : ¬ (isMachine n e l && isMachine n2 f m) = true) : pairsOf n e l n2 f m = [] := by
  unfold pairsOf
  rw [if_neg h]
theorem swap_len {n n2 : Int} {e f : List Bool} {l m : List Mv} (h1 : isMachine n e l = true) (h2 : isMachine n2 f m = true) : (pairsOf n e l n2 f m).length ≤ (pairsOf n2 f m n e l).length := by
  have hg := pairsOf_good (n := n) (n2 := n2) (e := e) (f := f) (l := l) (m := m) (by rw [h1, h2]; rfl)
  have hn : ((pairsOf n e l n2 f m).map swapP).Nodup := by
    refine List.pairwise_map.2 (List.Pairwise.imp_of_mem ?_ hg.1)
    intro a b ha hb hne he
    obtain ⟨x, y, rfl⟩ := rch_two ((pairsOf_mem h1 h2).1 ha)
    obtain ⟨z, w, rfl⟩ := rch_two ((pairsOf_mem h1 h2).1 hb)
    apply hne
    have := congrArg swapP he
    exact this
  have := nodup_len hn (m := pairsOf n2 f m n e l) (fun q hq => by
    obtain ⟨p, hp, rfl⟩ := List.mem_map.1 hq
    exact (pairsOf_mem h2 h1).2 (rch_swap ((pairsOf_mem h1 h2).1 hp)))
  rw [List.length_map] at this
  exact this
theorem pairsOf_len_swap (n : Int) (e : List Bool) (l : List Mv) (n2 : Int) (f : List Bool) (m : List Mv) : (pairsOf n e l n2 f m).length = (pairsOf n2 f m n e l).length := by
  by_cases h : (isMachine n e l && isMachine n2 f m) = true
  · rw [Bool.and_eq_true] at h
    exact Nat.le_antisymm (swap_len h.1 h.2) (swap_len h.2 h.1)
  · rw [pairsOf_none h, pairsOf_none (by rw [Bool.and_comm]; exact h)]
theorem next_nil {l m : List Mv} {x y : Int} : (nextPairs l m x y).length = 0 ↔ (nextPairs m l y x).length = 0 := by
  have key : ∀ {l m : List Mv} {x y : Int}, (nextPairs l m x y).length = 0 → (nextPairs m l y x).length = 0 := by
    intro l m x y h
    cases q : nextPairs m l y x with
    | nil => rfl
    | cons p r =>
      have := next_swap (show p ∈ nextPairs m l y x by rw [q]; exact List.mem_cons_self)
      rw [List.length_eq_zero_iff.1 h] at this
      cases this
  exact ⟨key, key⟩
theorem trouble_swap (e : List Bool) (l : List Mv) (f : List Bool) (m : List Mv) (x y : Int) : troubleAt e l f m x y = troubleAt f m e l y x := by
  unfold troubleAt
  rw [Bool.or_comm, Bool.and_comm (endAt e x), show decide ((nextPairs l m x y).length = 0) = decide ((nextPairs m l y x).length = 0) from decide_eq_decide.2 next_nil]
/-- Where a machine and its counterpart come to no trouble. -/
theorem first_none {n n2 : Int} {e f : List Bool} {l m : List Mv} : (firstTrouble n e l n2 f m).length = 0 ↔ ∀ p ∈ pairsOf n e l n2 f m, hasTrouble e l f m p = false := by
  unfold firstTrouble firstOf
  cases q : (pairsOf n e l n2 f m).find? (hasTrouble e l f m) with
  | none =>
    rw [List.find?_eq_none] at q
    exact ⟨fun _ p hp => by simpa using q p hp, fun _ => rfl⟩
  | some p =>
    have hm := List.mem_of_find?_eq_some q
    have ht := List.find?_some q
    have h2 := (pairsOf_len2 n e l n2 f m).2 p hm
    exact ⟨fun h => by rw [Option.getD_some] at h; omega, fun h => by rw [h p hm] at ht; cases ht⟩
theorem first_two {n n2 : Int} {e f : List Bool} {l m : List Mv} (h : (firstTrouble n e l n2 f m).length ≠ 0) : (firstTrouble n e l n2 f m).length = 2 := by
  unfold firstTrouble firstOf at h ⊢
  cases q : (pairsOf n e l n2 f m).find? (hasTrouble e l f m) with
  | none => rw [q] at h; exact absurd rfl h
  | some p => exact (pairsOf_len2 n e l n2 f m).2 p (List.mem_of_find?_eq_some q)
theorem safe_le {n n2 : Int} {e f : List Bool} {l m : List Mv} (h : isSafe n e l n2 f m = true) : isSafe n2 f m n e l = true := by
  unfold isSafe at h ⊢
  rw [Bool.and_eq_true, Bool.and_eq_true, beq_iff_eq] at h ⊢
  obtain ⟨h1, h2, h3⟩ := h
  refine ⟨h2, h1, ?_⟩
  have h4 := (first_none (n := n) (e := e) (l := l) (n2 := n2) (f := f) (m := m)).1 (by omega)
  have h5 : (firstTrouble n2 f m n e l).length = 0 := first_none.2 fun p hp => by
    have r := (pairsOf_mem h2 h1).1 hp
    obtain ⟨a, b, rfl⟩ := rch_two r
    have h6 := h4 _ ((pairsOf_mem h1 h2).2 (rch_swap r))
    unfold hasTrouble at h6 ⊢
    rw [trouble_swap] at h6
    exact h6
  omega
theorem safe_swap (n : Int) (e : List Bool) (l : List Mv) (n2 : Int) (f : List Bool) (m : List Mv) : isSafe n e l n2 f m = isSafe n2 f m n e l := by
  rw [Bool.eq_iff_iff]
  exact ⟨safe_le, safe_le⟩
/-- A machine beside its dual: both are in the same state, and no message is left unread. -/
theorem dual_diag {l : List Mv} {p : List Int} (h : Rch (nextPairs l (l.map flipMv)) p) : nt 0 p 0 = nt 0 p 1 := by
  induction h with
  | start => rfl
  | step _ hq ih =>
    rename_i p0 q0 _
    obtain ⟨s, v, hk, rfl⟩ := nextPairs_mem.1 hq
    simp only [pairOk, Bool.and_eq_true, decide_eq_true_eq] at hk
    unfold pairTo
    rw [ih, moveOf_flip]
    rw [ih] at hk
    show (nt zMv l _).f3 = (nt zMv (l.map flipMv) _).f3
    rcases moveOf_bnd l (nt 0 p0 1) s v with q | ⟨j, e1, b1, _⟩
    · omega
    · rw [e1, toNat_cast, nt_flip b1]; rfl
theorem dual_read (e : List Bool) (l : List Mv) (x : Int) : troubleAt e l e (l.map flipMv) x x ≠ 1 := by
  have u1 : unread l (l.map flipMv) x x = false := by
    unfold unread
    rw [List.any_eq_false]
    intro v hv
    have h1 := (moveOf_any l x true v).2 hv
    have h2 := moveOf_flip l x true v
    rw [Bool.not_true] at h2
    rw [decide_eq_true_eq]; omega
  have u2 : unread (l.map flipMv) l x x = false := by
    unfold unread
    rw [List.any_eq_false]
    intro v hv
    have h1 := (moveOf_any (l.map flipMv) x true v).2 hv
    have h2 := moveOf_flip l x false v
    rw [Bool.not_false] at h2
    rw [decide_eq_true_eq]; omega
  unfold troubleAt
  rw [u1, u2, Bool.or_self, if_neg (by simp)]
  split <;> omega

/-! ### T_draw -/
theorem and_byte (x : Int) : 0 ≤ Go.bits .and .i64 x 255 ∧ Go.bits .and .i64 x 255 ≤ 255 := by
  have h : (BitVec.ofInt 64 x &&& BitVec.ofInt 64 255).toNat ≤ 255 := by
    rw [BitVec.toNat_and]
    exact Nat.le_trans Nat.and_le_right (by decide)
  have e : Go.bits .and .i64 x 255 = IntKind.i64.wrap ((BitVec.ofInt 64 x &&& BitVec.ofInt 64 255).toNat : Int) := rfl
  rw [e, IntKind.wrap_i64]; omega
theorem draw_new {l : List Int} {k : Nat} (hl : l.length ≤ 1048576) (hk : l.length < k) : ∃ s, spec_l1New.f k l = some (l, 0, s) := by
  unfold spec_l1New.f
  have h : ∀ (d k i : Nat) (s : Int), i + d = l.length → d < k → ∃ s', spec_l1New.l0 k l s (i : Int) = some (l, 0, s') := by
    intro d
    induction d with
    | zero =>
      intro k i s hi hk
      obtain ⟨k, rfl⟩ := succ_of hk
      simp only [spec_l1New.l0]
      rw [if_neg (by omega)]; exact ⟨_, rfl⟩
    | succ d ih =>
      intro k i s hi hk
      obtain ⟨k, rfl⟩ := succ_of hk
      simp only [spec_l1New.l0]
      rw [if_pos (by omega)]
      by_cases q : (i : Int) < 4000
      · rw [if_pos q, if_pos (by omega), wrap_up (n := l.length) (by omega) (by omega)]
        exact ih k (i + 1) _ (by omega) (by omega)
      · rw [if_neg q]; exact ⟨_, rfl⟩
  exact h l.length k 0 _ (by omega) hk
theorem draw_byte {l : List Int} {i s : Int} (hl : l.length ≤ 1048576) (hi : 0 ≤ i) : ∃ b j t, spec_l1Byte.f l i s = some (b, j, t) ∧ 0 ≤ b ∧ b ≤ 255 ∧ 0 ≤ j := by
  unfold spec_l1Byte.f
  by_cases q : i < (l.length : Int)
  · rw [if_pos q, if_pos hi]
    exact ⟨_, _, _, rfl, (and_byte _).1, (and_byte _).2, by rw [wrap_id (by omega) (by omega)]; omega⟩
  · rw [if_neg q]
    exact ⟨_, _, _, rfl, (and_byte _).1, (and_byte _).2, hi⟩
theorem draw_below {l : List Int} {i s n : Int} (hl : l.length ≤ 1048576) (hi : 0 ≤ i) (h0 : 0 < n) (h1 : n ≤ 256) : ∃ v j t, spec_l1Below.f l i s n = some (v, j, t) ∧ 0 ≤ v ∧ v < n ∧ 0 ≤ j := by
  unfold spec_l1Below.f
  obtain ⟨b, j, t, e, b0, b1, j0⟩ := draw_byte (s := s) hl hi
  rw [if_neg (by omega), if_pos h1, e, Option.bind_some, if_neg (by omega)]
  refine ⟨_, _, _, rfl, Int.tmod_nonneg _ b0, ?_, j0⟩
  exact Int.tmod_lt_of_pos _ h0

/-! ### T_int -/
theorem draw_int {st xs : List Int} {i s : Int} (hl : st.length ≤ 1048576) (hi : 0 ≤ i) (h0 : 0 < xs.length) (h1 : xs.length ≤ 256) : ∃ v j t, spec_l1Int.f st i s xs = some (v, j, t) ∧ v ∈ xs ∧ 0 ≤ j := by
  unfold spec_l1Int.f
  obtain ⟨v, j, t, e, v0, v1, j0⟩ := draw_below (s := s) (n := (xs.length : Int)) hl hi (by omega) (by omega)
  rw [e, Option.bind_some, if_pos v0, if_pos v1]
  obtain ⟨n, rfl⟩ : ∃ n : Nat, v = n := ⟨v.toNat, by omega⟩
  exact ⟨_, _, _, rfl, by rw [rd_cast]; exact nt_mem 0 xs n (by omega), j0⟩

/-! ### spec_MoveOf -/
theorem spec_MoveOf_eq {n : Int} {e : List Bool} {l : List Mv} {a : Int} {s : Bool} {m : Int} {k : Nat} (hl : l.length ≤ 1048576) (hk : l.length < k) : spec_MoveOf.f k n e l a s m = some (moveOf l a s m) := by
  unfold spec_MoveOf.f
  have h := find_loop (g := fun k i => spec_MoveOf.l0 k a s m (i : Int) n e l) (l := l) (z := zMv) (B := 0) (p := keyMv a s m) (hit := fun i => (i : Int)) (miss := -1) (fun k => by
      simp only [spec_MoveOf.l0]; rw [if_neg (by omega)])
    (fun k i hi _ => by
      simp only [spec_MoveOf.l0]
      rw [if_pos (by omega), if_pos (by omega), rd_Mv, wrap_up (n := l.length) hi (by omega)]
      by_cases h1 : (nt zMv l i).f0 = a
      · rw [if_pos h1]
        cases h2 : ((nt zMv l i).f1 == s) with
        | true =>
          rw [if_pos rfl]
          by_cases h3 : (nt zMv l i).f2 = m
          · rw [if_pos h3, if_pos (by simp [keyMv, h1, h2, h3])]
          · rw [if_neg h3, if_neg (by simp [keyMv, h3])]
        | false => rw [if_neg (by simp), if_neg (by simp [keyMv, h2])]
      · rw [if_neg h1, if_neg (by simp [keyMv, h1])]) l.length k 0 (by omega) (by omega)
  simpa [moveOf] using h

/-! ### spec_l13Draw -/
/-- Every message is small. -/
def smallMs (l : List Mv) : Prop := ∀ x ∈ l, -1 ≤ x.f2 ∧ x.f2 ≤ 6
theorem small_snoc {l : List Mv} {x : Mv} (h : smallMs l) (h0 : -1 ≤ x.f2) (h1 : x.f2 ≤ 6) : smallMs (l ++ [x]) := by
  intro y hy
  rcases List.mem_append.1 hy with hy | hy
  · exact h y hy
  · rw [List.mem_singleton] at hy; rw [hy]; exact ⟨h0, h1⟩
theorem draw_once {st : List Int} {i s n : Int} (hl : st.length ≤ 1048576) (hi : 0 ≤ i) (h0 : 0 < n) (h1 : n ≤ 256) : ∃ v j t, spec_l1Once.f st i s n = some (v, j, t) ∧ 0 ≤ j := by
  unfold spec_l1Once.f
  obtain ⟨v, j, t, e, _, _, j0⟩ := draw_below (s := s) (n := n) hl hi h0 h1
  rw [e, Option.bind_some]
  exact ⟨_, _, _, rfl, j0⟩
def GoodM (n : Int) (e : List Bool) (l : List Mv) : Prop := 1 ≤ n ∧ n ≤ 4 ∧ e.length ≤ 4 ∧ l.length ≤ 12 ∧ smallMs l
theorem draw_l13_l1 {st : List Int} (hs : st.length ≤ 1048576) {n : Int} (hn : 1 ≤ n ∧ n ≤ 4) {x : Nat} (hx : (x : Int) < n) {b : Bool} {c : Nat} (hc : c ≤ 3)
    (ih : ∀ (k : Nat) (e : List Bool) (l : List Mv) (i s : Int), 0 ≤ i → e.length = x + 1 → l.length ≤ 3 * (x + 1) → smallMs l → 200 * (4 - (x + 1)) + 100 < k → ∃ e' l' j t, spec_l13Draw.l0 k ((x + 1 : Nat) : Int) st i s n e l = some (n, e', l', j, t) ∧ GoodM n e' l' ∧ 0 ≤ j) :
    ∀ (d y k : Nat) (e : List Bool) (l : List Mv) (i s : Int), y + d = c → 0 ≤ i → e.length = x → l.length ≤ 3 * x + y → smallMs l → 200 * (4 - (x + 1)) + 120 + d < k → ∃ e' l' j t, spec_l13Draw.l1 k (x : Int) b (c : Int) (y : Int) st i s n e l = some (n, e', l', j, t) ∧ GoodM n e' l' ∧ 0 ≤ j := by
  intro d
  induction d with
  | zero =>
    intro y k e l i s hy hi he hl hm hk
    obtain ⟨k, rfl⟩ := succ_of hk
    simp only [spec_l13Draw.l1]
    rw [if_neg (by omega), wrap_id (x := (x : Int) + 1) (by omega) (by omega), show (x : Int) + 1 = ((x + 1 : Nat) : Int) by omega]
    by_cases q : (c : Int) = 0
    · rw [if_pos q, if_pos (by omega)]
      exact ih k _ l i s hi (by rw [List.length_append, List.length_singleton]; omega) (by omega) hm (by omega)
    · rw [if_neg q]
      obtain ⟨v, j, t, e1, j0⟩ := draw_once (s := s) (n := 4) hs hi (by omega) (by omega)
      rw [e1, Option.bind_some, if_pos (by omega)]
      exact ih k _ l j t j0 (by rw [List.length_append, List.length_singleton]; omega) (by omega) hm (by omega)
  | succ d ihd =>
    intro y k e l i s hy hi he hl hm hk
    obtain ⟨k, rfl⟩ := succ_of hk
    simp only [spec_l13Draw.l1]
    obtain ⟨v, j, t, e1, v0, v1, j0⟩ := draw_below (s := s) (n := 3) hs hi (by omega) (by omega)
    obtain ⟨w, j2, t2, e2, w0, w1, j1⟩ := draw_below (s := t) (n := n) hs j0 (by omega) (by omega)
    rw [if_pos (by omega), e1, Option.bind_some]
    dsimp only
    rw [e2, Option.bind_some]
    dsimp only
    rw [spec_MoveOf_eq (by omega) (by omega), Option.bind_some, wrap_id (x := (y : Int) + 1) (by omega) (by omega), show (y : Int) + 1 = ((y + 1 : Nat) : Int) by omega]
    by_cases q : moveOf l (x : Int) b v < 0
    · rw [if_pos q, if_pos (by omega)]
      exact ihd (y + 1) k e _ j2 t2 (by omega) j1 he (by rw [List.length_append, List.length_singleton]; omega) (small_snoc hm (by dsimp only; omega) (by dsimp only; omega)) (by omega)
    · rw [if_neg q]
      exact ihd (y + 1) k e l j2 t2 (by omega) j1 he (by omega) hm (by omega)
theorem draw_l13_l0 {st : List Int} (hs : st.length ≤ 1048576) {n : Int} (hn : 1 ≤ n ∧ n ≤ 4) : ∀ (d x k : Nat) (e : List Bool) (l : List Mv) (i s : Int), x + d = 4 → (x : Int) ≤ n → 0 ≤ i → e.length = x → l.length ≤ 3 * x → smallMs l → 200 * d + 100 < k → ∃ e' l' j t, spec_l13Draw.l0 k (x : Int) st i s n e l = some (n, e', l', j, t) ∧ GoodM n e' l' ∧ 0 ≤ j := by
  intro d
  induction d with
  | zero =>
    intro x k e l i s hd hx hi he hl hm hk
    obtain ⟨k, rfl⟩ := succ_of hk
    simp only [spec_l13Draw.l0]
    rw [if_neg (by omega)]
    exact ⟨_, _, _, _, rfl, ⟨hn.1, hn.2, by omega, by omega, hm⟩, hi⟩
  | succ d ih =>
    intro x k e l i s hd hx hi he hl hm hk
    obtain ⟨k, rfl⟩ := succ_of hk
    simp only [spec_l13Draw.l0]
    by_cases q : (x : Int) < n
    · rw [if_pos q]
      obtain ⟨b, j, t, e1, j0⟩ := draw_once (s := s) (n := 2) hs hi (by omega) (by omega)
      obtain ⟨v, j2, t2, e2, v0, v1, j1⟩ := draw_below (s := t) (n := 3) hs j0 (by omega) (by omega)
      rw [e1, Option.bind_some]
      dsimp only
      rw [e2, Option.bind_some]
      dsimp only
      have key : ∀ (c : Nat) (k : Nat) (i s : Int), c ≤ 3 → 0 ≤ i → 200 * d + 290 < k → ∃ e' l' j t, spec_l13Draw.j1 k (x : Int) b (c : Int) st i s n e l = some (n, e', l', j, t) ∧ GoodM n e' l' ∧ 0 ≤ j := by
        intro c k i s hc hi hk
        obtain ⟨k, rfl⟩ := succ_of hk
        simp only [spec_l13Draw.j1]
        exact draw_l13_l1 hs hn q hc (fun k e l i s hi he hl hm hk => ih (x + 1) k e l i s (by omega) (by omega) hi he hl hm (by omega)) c 0 k e l i s (by omega) hi he (by omega) hm (by omega)
      by_cases q0 : (x : Int) = 0
      · rw [if_pos q0]
        obtain ⟨w, j3, t3, e3, w0, w1, j4⟩ := draw_below (s := t2) (n := 2) hs j1 (by omega) (by omega)
        rw [e3, Option.bind_some]
        dsimp only
        obtain ⟨c, rfl⟩ : ∃ c : Nat, w = c := ⟨w.toNat, by omega⟩
        rw [wrap_id (by omega) (by omega), show (1 : Int) + c = ((1 + c : Nat) : Int) by omega]
        exact key (1 + c) k j3 t3 (by omega) j4 (by omega)
      · rw [if_neg q0]
        obtain ⟨c, rfl⟩ : ∃ c : Nat, v = c := ⟨v.toNat, by omega⟩
        exact key c k j2 t2 (by omega) j1 (by omega)
    · rw [if_neg q]
      exact ⟨_, _, _, _, rfl, ⟨hn.1, hn.2, by omega, by omega, hm⟩, hi⟩
theorem draw_l13 {st : List Int} {k : Nat} {i s : Int} (hs : st.length ≤ 1048576) (hi : 0 ≤ i) (hk : 1000 < k) : ∃ n e l j t, spec_l13Draw.f k st i s = some (n, e, l, j, t) ∧ GoodM n e l ∧ 0 ≤ j := by
  unfold spec_l13Draw.f
  obtain ⟨v, j, t, e1, v0, v1, j0⟩ := draw_below (s := s) (n := 4) hs hi (by omega) (by omega)
  rw [e1, Option.bind_some]
  dsimp only
  rw [wrap_id (by omega) (by omega)]
  obtain ⟨e', l', j2, t2, h1, h2, h3⟩ := draw_l13_l0 hs (n := 1 + v) (by omega) 4 0 k [] [] j t (by omega) (by omega) j0 rfl (by simp) (fun x hx => by simp at hx) (by omega)
  exact ⟨_, _, _, _, _, h1, h2, h3⟩

/-! ### spec_l13Any -/
theorem small_set {l : List Mv} {i : Nat} {y : Mv} (h : smallMs l) (h0 : -1 ≤ y.f2) (h1 : y.f2 ≤ 6) : smallMs (l.set i y) := by
  intro x hx
  rcases List.mem_or_eq_of_mem_set hx with q | q
  · exact h x q
  · rw [q]; exact ⟨h0, h1⟩
theorem draw_l13any {st : List Int} {k : Nat} {i s : Int} (hs : st.length ≤ 1048576) (hi : 0 ≤ i) (hk : 1000 < k) : ∃ n e l j t, spec_l13Any.f k st i s = some (n, e, l, j, t) ∧ e.length ≤ 5 ∧ l.length ≤ 13 ∧ smallMs l ∧ 0 ≤ j := by
  unfold spec_l13Any.f
  obtain ⟨n, e, l, j, t, e1, ⟨n0, n1, he, hl, hm⟩, j0⟩ := draw_l13 (s := s) hs hi hk
  rw [e1, Option.bind_some]
  dsimp only
  by_cases q : (l.length : Int) = 0
  · rw [if_pos q]; exact ⟨_, _, _, _, _, rfl, by omega, by omega, hm, j0⟩
  · rw [if_neg q]
    obtain ⟨v, j2, t2, e2, v0, v1, j1⟩ := draw_below (s := t) (n := (l.length : Int)) hs j0 (by omega) (by omega)
    rw [e2, Option.bind_some]
    dsimp only
    obtain ⟨w, j3, t3, e3, w0, w1, j4⟩ := draw_below (s := t2) (n := 12) hs j1 (by omega) (by omega)
    rw [e3, Option.bind_some]
    dsimp only
    obtain ⟨c, rfl⟩ : ∃ c : Nat, v = c := ⟨v.toNat, by omega⟩
    have hx := hm _ (nt_mem zMv l c (by omega))
    rw [rd_Mv, toNat_cast]
    by_cases q0 : w = 0
    · rw [if_pos q0]
      obtain ⟨v5, j5, t5, e5, _, j6⟩ := draw_int (s := t3) (xs := [-1, n, 9223372036854775807]) hs j4 (by simp) (by simp)
      rw [e5, Option.bind_some, if_pos v0, if_pos v1]
      exact ⟨_, _, _, _, _, rfl, by omega, by rw [List.length_set]; omega, small_set hm hx.1 hx.2, j6⟩
    · rw [if_neg q0]
      by_cases q1 : w = 1
      · rw [if_pos q1]
        obtain ⟨v5, j5, t5, e5, h5, j6⟩ := draw_int (s := t3) (xs := [-1, 5, 6]) hs j4 (by simp) (by simp)
        rw [e5, Option.bind_some, if_pos v0, if_pos v1]
        have h6 : -1 ≤ v5 ∧ v5 ≤ 6 := by
          simp only [List.mem_cons, List.not_mem_nil, or_false] at h5
          omega
        exact ⟨_, _, _, _, _, rfl, by omega, by rw [List.length_set]; omega, small_set hm h6.1 h6.2, j6⟩
      · rw [if_neg q1]
        by_cases q2 : w = 2
        · rw [if_pos q2, if_pos v0, if_pos v1, if_pos (by omega)]
          exact ⟨_, _, _, _, _, rfl, by omega, by rw [List.length_append, List.length_singleton]; omega, small_snoc hm hx.1 hx.2, j4⟩
        · rw [if_neg q2]
          by_cases q3 : w = 3
          · rw [if_pos q3, if_pos v0, if_pos v1, if_pos (by omega)]
            exact ⟨_, _, _, _, _, rfl, by omega, by rw [List.length_append, List.length_singleton]; omega, small_snoc hm hx.1 hx.2, j4⟩
          · rw [if_neg q3]
            by_cases q4 : w = 4
            · rw [if_pos q4]
              obtain ⟨v5, j5, t5, e5, _, j6⟩ := draw_int (s := t3) (xs := [0, 6, 7]) hs j4 (by simp) (by simp)
              rw [e5, Option.bind_some]
              exact ⟨_, _, _, _, _, rfl, by omega, by omega, hm, j6⟩
            · rw [if_neg q4]
              by_cases q5 : w = 5
              · rw [if_pos q5, if_pos (by omega)]
                exact ⟨_, _, _, _, _, rfl, by rw [List.length_append, List.length_singleton]; omega, by omega, hm, j4⟩
              · rw [if_neg q5]
                exact ⟨_, _, _, _, _, rfl, by omega, by omega, hm, j4⟩

/-! ### spec_DualOf -/
theorem spec_DualOf_eq {n : Int} {e : List Bool} {l : List Mv} {k : Nat} (he : e.length ≤ 1048576) (hl : l.length ≤ 1048576) (hk : l.length < k) : spec_DualOf.f k n e l = some (n, e, l.map flipMv) := by
  unfold spec_DualOf.f
  rw [Option.bind_some, if_pos (by rw [List.length_nil]; omega), List.nil_append]
  have h : ∀ (d k i : Nat) (acc : List Mv), i + d = l.length → d < k → acc.length ≤ i → spec_DualOf.l0 k (i : Int) n e l n e acc = some (n, e, acc ++ (l.drop i).map flipMv) := by
    intro d
    induction d with
    | zero =>
      intro k i acc hi hk ha
      obtain ⟨k, rfl⟩ := succ_of hk
      obtain rfl : i = l.length := by omega
      simp only [spec_DualOf.l0]
      rw [if_neg (by omega), drop_end]; simp
    | succ d ih =>
      intro k i acc hi hk ha
      obtain ⟨k, rfl⟩ := succ_of hk
      simp only [spec_DualOf.l0]
      rw [if_pos (by omega), if_pos (by omega), if_pos (by omega), wrap_up (n := l.length) (by omega) (by omega), rd_Mv, drop_step l zMv i (by omega), ih k (i + 1) _ (by omega) (by omega) (by rw [List.length_append, List.length_singleton]; omega), List.append_assoc, List.map_cons]
      rfl
  have := h l.length k 0 [] (by omega) hk (by simp)
  rw [List.drop_zero, List.nil_append] at this
  exact this

/-! ### spec_l14Pair -/
def PairOkD (st : List Int) (n : Int) (e : List Bool) (l : List Mv) (n2 : Int) (f : List Bool) (x : Option (Int × List Bool × List Mv × Int × List Bool × List Mv × Int × Int)) : Prop := ∃ m j t, x = some (n, e, l, n2, f, m, j, t) ∧ m.length ≤ 14 ∧ 0 ≤ j
section
variable {st : List Int} {n n2 : Int} {e f : List Bool} {l m : List Mv} {d k c : Nat} {i j s t v : Int}
theorem pair_cut (hd : d ≤ 100) (hc : c < m.length) (hm : m.length ≤ 14) (ih : ∀ m' : List Mv, m'.length ≤ m.length → PairOkD st n e l n2 f (spec_l14Pair.l0 k (d : Int) st j t n e l n2 f m')) :
    PairOkD st n e l n2 f ((some (([] : List Mv) : List Mv)).bind fun y200 => (if 0 ≤ (c : Int) then (if (c : Int) ≤ (m.length : Int) then ((some (m.take ((c : Int) : Int).toNat : List Mv)).bind fun y203 => (if y200.length + y203.length < 4398046511104 then ((some (y200 ++ y203 : List Mv)).bind fun y207 => (if 0 ≤ (wrap64 ((c : Int) + 1)) then (if (wrap64 ((c : Int) + 1)) ≤ (m.length : Int) then ((some (m.drop ((wrap64 ((c : Int) + 1)) : Int).toNat : List Mv)).bind fun y210 => (if y207.length + y210.length < 4398046511104 then (spec_l14Pair.l0 k (wrap64 (((d + 1 : Nat) : Int) - 1)) st j t n e l n2 f (y207 ++ y210)) else (none))) else (none)) else (none))) else (none))) else (none)) else (none))) := by
  have hw : wrap64 (((d + 1 : Nat) : Int) - 1) = (d : Int) := by rw [wrap_dn (by omega) (by omega)]; rfl
  have hw2 : wrap64 ((c : Int) + 1) = ((c + 1 : Nat) : Int) := wrap_up (n := m.length) (by omega) (by omega)
  obtain ⟨A, hA⟩ : ∃ A : List Mv, A = m.take ((c : Int)).toNat := ⟨_, rfl⟩
  obtain ⟨B, hB⟩ : ∃ B : List Mv, B = m.drop (((c + 1 : Nat) : Int)).toNat := ⟨_, rfl⟩
  have hAl : A.length ≤ 14 := by rw [hA, List.length_take]; omega
  have hAB : ([] ++ A ++ B).length ≤ m.length := by rw [hA, hB, List.nil_append, List.length_append, List.length_take, List.length_drop, toNat_cast, toNat_cast]; omega
  have h := ih _ hAB
  have z1 : ([] : List Mv).length + A.length < 4398046511104 := by rw [List.length_nil]; omega
  have z2 : ([] ++ A : List Mv).length + B.length < 4398046511104 := by have h_ := hAB; rw [List.length_append] at h_; omega
  have g1 : (c : Int) ≤ (m.length : Int) := by omega
  have g2 : ((c + 1 : Nat) : Int) ≤ (m.length : Int) := by omega
  rw [Option.bind_some, if_pos (Int.natCast_nonneg c), if_pos g1, Option.bind_some, ← hA, if_pos z1, Option.bind_some, hw2, if_pos (Int.natCast_nonneg _), if_pos g2, Option.bind_some, ← hB, if_pos z2, hw]
  exact h
theorem pair_end (hk : 0 < k) {x : Int} (hi : 0 ≤ i) (hm : m.length ≤ 14) : PairOkD st n e l n2 f (spec_l14Pair.j1 k x false st i s n e l n2 f m) := by
  obtain ⟨k, rfl⟩ := succ_of hk
  simp only [spec_l14Pair.j1, Bool.false_eq_true, if_false]
  exact ⟨_, _, _, rfl, hm, hi⟩
theorem pair_step (hs : st.length ≤ 1048576) (hn : 1 ≤ n2 ∧ n2 ≤ 4) (hi : 0 ≤ i) (hd : d ≤ 100) (hk : 30 < k) (h0 : 0 < m.length) (hm : m.length + d + 1 ≤ 14) (ih : ∀ (m' : List Mv) (j t : Int), m'.length + d ≤ 14 → 0 ≤ j → PairOkD st n e l n2 f (spec_l14Pair.l0 k (d : Int) st j t n e l n2 f m')) :
    PairOkD st n e l n2 f (spec_l14Pair.j1 (k + 1) ((d + 1 : Nat) : Int) true st i s n e l n2 f m) := by
  obtain ⟨v, j, t, e1, v0, v1, j0⟩ := draw_below (s := s) (n := (m.length : Int)) hs hi (by omega) (by omega)
  obtain ⟨c, rfl⟩ : ∃ c : Nat, v = c := ⟨v.toNat, by omega⟩
  obtain ⟨w, j2, t2, e2, w0, w1, j20⟩ := draw_below (s := t) (n := 4) hs j0 (by omega) (by omega)
  have hw : wrap64 (((d + 1 : Nat) : Int) - 1) = (d : Int) := by rw [wrap_dn (by omega) (by omega)]; rfl
  rw [spec_l14Pair.j1, if_pos rfl, e1, Option.bind_some]
  dsimp only
  rw [e2, Option.bind_some]
  dsimp only
  by_cases q0 : w = 0
  · rw [if_pos q0]
    exact pair_cut (j := j2) (t := t2) (by omega) (by omega) (by omega) (fun m' h => ih m' j2 t2 (by omega) j20)
  · rw [if_neg q0]
    by_cases q1 : w = 1
    · obtain ⟨v3, j3, t3, e3, _, _, j30⟩ := draw_below (s := t2) (n := 4) hs j20 (by omega) (by omega)
      rw [if_pos q1, if_pos v0, if_pos v1, e3, Option.bind_some]
      dsimp only
      rw [spec_MoveOf_eq (by omega) (by omega), Option.bind_some, hw]
      split
      · rw [if_pos (by omega)]
        exact ih _ j3 t3 (by rw [List.length_append, List.length_singleton]; omega) j30
      · exact ih _ j3 t3 (by omega) j30
    · rw [if_neg q1]
      by_cases q2 : w = 2
      · obtain ⟨v3, j3, t3, e3, _, _, j30⟩ := draw_below (s := t2) (n := n2) hs j20 (by omega) (by omega)
        rw [if_pos q2, e3, Option.bind_some]
        dsimp only
        rw [if_pos v0, if_pos v1, hw]
        exact ih _ j3 t3 (by rw [List.length_set]; omega) j30
      · rw [if_neg q2, hw]
        exact ih _ j2 t2 (by omega) j20
theorem pair_l0 (hs : st.length ≤ 1048576) (hn : 1 ≤ n2 ∧ n2 ≤ 4) : ∀ (d k : Nat) (m : List Mv) (i s : Int), d ≤ 100 → 0 ≤ i → m.length + d ≤ 14 → 100 + 10 * d < k → PairOkD st n e l n2 f (spec_l14Pair.l0 k (d : Int) st i s n e l n2 f m) := by
  intro d
  induction d with
  | zero =>
    intro k m i s _ hi hm hk
    obtain ⟨k, rfl⟩ := succ_of hk
    simp only [spec_l14Pair.l0]
    rw [if_neg (by omega)]
    exact pair_end (by omega) hi (by omega)
  | succ d ih =>
    intro k m i s hd hi hm hk
    obtain ⟨k, rfl⟩ : ∃ m, k = m + 2 := ⟨k - 2, by omega⟩
    rw [show k + 2 = (k + 1) + 1 from rfl]
    simp only [spec_l14Pair.l0]
    rw [if_pos (by omega)]
    by_cases q : (m.length : Int) > 0
    · rw [decide_eq_true q]
      exact pair_step hs hn hi (by omega) (by omega) (by omega) (by omega) (fun m' j t h h2 => ih k m' j t (by omega) h2 h (by omega))
    · rw [decide_eq_false q]
      exact pair_end (by omega) hi (by omega)
end
theorem draw_pair {st : List Int} {k : Nat} {i s : Int} (hs : st.length ≤ 1048576) (hi : 0 ≤ i) (hk : 1000 < k) : ∃ n e l n2 f m j t, spec_l14Pair.f k st i s = some (n, e, l, n2, f, m, j, t) ∧ e.length ≤ 5 ∧ l.length ≤ 14 ∧ f.length ≤ 5 ∧ m.length ≤ 14 ∧ 0 ≤ j := by
  unfold spec_l14Pair.f
  obtain ⟨n, e, l, j, t, e1, ⟨n0, n1, he, hl, _⟩, j0⟩ := draw_l13 (s := s) hs hi hk
  have hm : (l.map flipMv).length = l.length := List.length_map ..
  obtain ⟨v, j2, t2, e2, v0, v1, j20⟩ := draw_below (s := t) (n := 3) hs j0 (by omega) (by omega)
  obtain ⟨c, rfl⟩ : ∃ c : Nat, v = c := ⟨v.toNat, by omega⟩
  rw [e1, Option.bind_some]
  dsimp only
  rw [spec_DualOf_eq (by omega) (by omega) (by omega), Option.bind_some]
  dsimp only
  rw [e2, Option.bind_some]
  obtain ⟨m, j3, t3, e3, h3, j30⟩ := pair_l0 (n := n) (e := e) (l := l) (n2 := n) (f := e) hs ⟨n0, n1⟩ c k (l.map flipMv) j2 t2 (by omega) j20 (by omega) (by omega)
  exact ⟨_, _, _, _, _, _, _, _, e3, by omega, by omega, by omega, h3, j30⟩
theorem draw_safe {l0 : List Int} {k : Nat} (hs : l0.length ≤ 1048576) (hk : 1100000 < k) : ∃ n e l n2 f m, spec_DrawIsSafe.f k l0 = some (n, e, l, n2, f, m) ∧ e.length ≤ 5 ∧ l.length ≤ 14 ∧ f.length ≤ 5 ∧ m.length ≤ 14 := by
  unfold spec_DrawIsSafe.f spec_DrawPairsOf.f spec_l14Any.f
  obtain ⟨s, h0⟩ := draw_new (k := k) hs (by omega)
  obtain ⟨n, e, l, n2, f, m, j, t, e1, a1, a2, a3, a4, j0⟩ := draw_pair (k := k) (s := s) (i := 0) hs (by omega) (by omega)
  obtain ⟨v, j2, t2, e2, v0, v1, j20⟩ := draw_below (s := t) (n := 6) hs j0 (by omega) (by omega)
  obtain ⟨n3, e3, l3, j3, t3, q3, b1, b2, _, j30⟩ := draw_l13any (k := k) (s := t2) hs j20 (by omega)
  rw [h0, Option.bind_some]
  dsimp only
  rw [e1, Option.bind_some]
  dsimp only
  rw [e2, Option.bind_some]
  dsimp only
  by_cases c0 : v = 0
  · rw [if_pos c0, q3]
    simp only [Option.bind_some]
    exact ⟨_, _, _, _, _, _, rfl, a1, a2, by omega, by omega⟩
  · rw [if_neg c0]
    by_cases c1 : v = 1
    · rw [if_pos c1, q3]
      simp only [Option.bind_some]
      exact ⟨_, _, _, _, _, _, rfl, by omega, by omega, a3, a4⟩
    · rw [if_neg c1]
      simp only [Option.bind_some]
      exact ⟨_, _, _, _, _, _, rfl, a1, a2, a3, a4⟩

/-! ### impl_DualOf -/
theorem impl_DualOf_l0 {n : Int} {e : List Bool} : ∀ (rest done : List Mv) (k : Nat), done.length + rest.length ≤ 1048576 → rest.length < k → impl_DualOf.l0 k ((done.length + rest.length : Nat) : Int) (done.length : Int) n e (done ++ rest) = some (n, e, done ++ rest.map flipMv) := by
  intro rest
  induction rest with
  | nil =>
    intro done k hl hk
    obtain ⟨k, rfl⟩ := succ_of hk
    simp only [impl_DualOf.l0, List.length_nil, Nat.add_zero]
    rw [if_neg (by omega)]; simp
  | cons x r ih =>
    intro done k hl hk
    obtain ⟨k, rfl⟩ := succ_of hk
    simp only [List.length_cons] at hl hk ⊢
    simp only [impl_DualOf.l0]
    rw [if_pos (by omega), if_pos (by omega), if_pos (by rw [len_at]; omega), toNat_cast, rd_Mv, nt_at, set_at, wrap_up (n := done.length + 1) (by omega) (by omega)]
    have h := ih (done ++ [flipMv x]) k (by rw [len_snoc]; omega) (by omega)
    rw [len_snoc, show done.length + 1 + r.length = done.length + (r.length + 1) by omega] at h
    rw [show (⟨x.f0, !x.f1, x.f2, x.f3⟩ : Mv) = flipMv x from rfl, h, List.append_assoc, List.map_cons]; rfl
theorem impl_DualOf_eq {n : Int} {e : List Bool} {l : List Mv} {k : Nat} (he : e.length ≤ 1048576) (hl : l.length ≤ 1048576) (hk : l.length < k) : impl_DualOf.f k n e l = some (n, e, l.map flipMv) := by
  unfold impl_DualOf.f
  have h := impl_DualOf_l0 (n := n) (e := e) l [] k (by simp; omega) hk
  simp only [List.nil_append, List.length_nil, Nat.zero_add] at h
  simp only [Option.bind_some, List.nil_append, List.length_nil, Nat.zero_add]
  rw [if_pos (by omega), if_pos (by omega)]
  exact h

/-! ### spec_l1In -/
theorem spec_l1In_eq (a b c : Int) : spec_l1In.f a b c = some (decide (b ≤ a ∧ a ≤ c)) := by
  unfold spec_l1In.f
  by_cases h : a ≥ b
  · rw [if_pos h]; simp [show b ≤ a from h]
  · rw [if_neg h, decide_eq_false (by omega)]

/-! ### T_put -/
/-- (putI: a number put into an ascending list: the library text Gm.) -/
theorem putI_nil (x : Int) : putI [] x = [x] := rfl

/-! ### spec_l4Put -/
theorem spec_l4Put_l0 (x : Int) : ∀ (rest done : List Int) (k : Nat), done.length + rest.length ≤ 2097152 → rest.length < k → spec_l4Put.l0 k (done ++ rest) x (done.length : Int) = some (done ++ putI rest x) := by
  intro rest
  induction rest with
  | nil =>
    intro done k hl hk
    obtain ⟨k, rfl⟩ := succ_of hk
    simp only [List.length_nil, Nat.add_zero] at hl
    simp only [spec_l4Put.l0, List.append_nil, Option.bind_some, toNat_cast, List.take_length, List.drop_length, List.nil_append, List.length_nil, List.length_singleton, List.length_append, Nat.zero_add, Nat.add_zero]
    rw [if_neg (by omega), if_pos (by omega), if_pos (by omega), if_pos (by omega), if_pos (by omega), if_pos (by omega)]
    rfl
  | cons y r ih =>
    intro done k hl hk
    obtain ⟨k, rfl⟩ := succ_of hk
    simp only [List.length_cons] at hl hk
    have ht : (done ++ y :: r).take done.length = done := by simp
    have hd : (done ++ y :: r).drop done.length = y :: r := by simp
    have hn : (done ++ y :: r).length = done.length + r.length + 1 := len_at done r y
    simp only [spec_l4Put.l0, Option.bind_some, toNat_cast, ht, hd, List.nil_append, List.length_nil, Nat.zero_add]
    rw [if_pos (by omega), if_pos (by omega), rd_cast, nt_at]
    simp only [putI]
    by_cases h1 : y < x
    · rw [if_pos h1, if_pos h1, wrap_up (n := done.length + 1) (by omega) (by omega)]
      have e := ih (done ++ [y]) k (by rw [len_snoc]; omega) (by omega)
      rw [List.append_assoc, List.singleton_append, len_snoc] at e
      rw [e, List.append_assoc]; rfl
    · rw [if_neg h1, if_neg h1]
      by_cases h2 : y = x
      · rw [if_pos h2, if_pos h2, if_pos (by omega)]
      · rw [if_neg h2, if_neg h2, if_pos (by omega), if_pos (by omega)]
        simp only [List.length_append, List.length_singleton, List.length_cons, List.length_nil, Nat.add_zero, Nat.zero_add]
        rw [if_pos (by omega), if_pos (by omega), List.append_assoc]; rfl
theorem spec_l4Put_eq {l : List Int} {x : Int} {k : Nat} (hl : l.length ≤ 1048576) (hk : l.length < k) : spec_l4Put.f k l x = some (putI l x) := by
  unfold spec_l4Put.f
  exact spec_l4Put_l0 x l [] k (by simp; omega) hk

/-! ### spec_MovesFrom -/
theorem spec_MovesFrom_eq {n : Int} {e : List Bool} {l : List Mv} {a : Int} {s : Bool} {k : Nat} (hl : l.length ≤ 1048576) (hk : 2 * l.length + 2 < k) : spec_MovesFrom.f k n e l a s = some (movesFrom l a s) := by
  unfold spec_MovesFrom.f
  have h := fold_loop (g := fun k acc i => spec_MovesFrom.l0 k a s acc (i : Int) n e l) (n := l.length) (B := l.length + 1) (f := fun i acc => if fromMv a s (nt zMv l i) = true then putI acc (nt zMv l i).f2 else acc) (fin := fun acc => acc) (fun i acc => acc.length ≤ i) (fun k acc _ => by
      simp only [spec_MovesFrom.l0]; rw [if_neg (by omega)])
    (fun k i acc hi hk ha => by
      constructor
      · simp only [spec_MovesFrom.l0]
        rw [if_pos (by omega), if_pos (by omega), rd_Mv, wrap_up (n := l.length) hi (by omega)]
        by_cases h1 : (nt zMv l i).f0 = a
        · rw [if_pos h1]
          cases h2 : ((nt zMv l i).f1 == s) with
          | true => rw [if_pos rfl, if_pos (by simp [fromMv, h1, h2]), spec_l4Put_eq (by omega) (by omega), Option.bind_some]
          | false => rw [if_neg (by simp), if_neg (by simp [fromMv, h2])]
        · rw [if_neg h1, if_neg (by simp [fromMv, h1])]
      · have := putI_length acc (nt zMv l i).f2
        by_cases hq : fromMv a s (nt zMv l i) = true
        · rw [if_pos hq]; omega
        · rw [if_neg hq]; omega) l.length k 0 [] (by omega) (by omega) (by simp)
  have h2 := foldFrom_list (f := fun (acc : List Int) x => if fromMv a s x = true then putI acc x.f2 else acc) (l := l) (z := zMv) (s := [])
  rw [h2] at h
  simpa [movesFrom] using h

/-! ### spec_IsMachine -/
theorem spec_IsMachine_eq {n : Int} {e : List Bool} {l : List Mv} {k : Nat} (hk : 1000 < k) : spec_IsMachine.f k n e l = some (isMachine n e l) := by
  unfold spec_IsMachine.f isMachine
  rw [spec_l1In_eq, Option.bind_some]
  obtain ⟨k, rfl⟩ := succ_of hk
  simp only [spec_IsMachine.j0]
  cases h1 : inB n 1 6 with
  | false => rw [if_neg (by simpa [inB] using h1), if_pos trivial]; rfl
  | true =>
    have hN : 1 ≤ n ∧ n ≤ 6 := by simpa [inB] using h1
    rw [if_pos (by simpa [inB] using h1)]
    by_cases h2 : (e.length : Int) = n
    · rw [if_pos h2]
      by_cases h3 : l.length ≤ 12
      · rw [if_neg (by simp; omega), ← good_iff]
        have h := all_loop (g := fun k i => spec_IsMachine.l0 k (i : Int) n e l) (n := l.length) (B := 100) (ok := fun i => okMv n (nt zMv l i) && (!decide (moveOf l (nt zMv l i).f0 (nt zMv l i).f1 (nt zMv l i).f2 < (i : Int)) && !decide (((movesFrom l (nt zMv l i).f0 (!(nt zMv l i).f1)).length : Int) > 0))) (fin := true) (fun k => by
            simp only [spec_IsMachine.l0]; rw [if_neg (by omega)])
          (fun k i hi hk => by
            simp only [spec_IsMachine.l0]
            rw [if_pos (by omega), if_pos (by omega), rd_Mv, wrap_up (n := l.length) hi (by omega), wrap_id (x := n - 1) (by omega) (by omega)]
            simp only [spec_l1In_eq, Option.bind_some, spec_MoveOf_eq (n := n) (e := e) (l := l) (show l.length ≤ 1048576 by omega) (show l.length < k by omega), spec_MovesFrom_eq (n := n) (e := e) (l := l) (show l.length ≤ 1048576 by omega) (show 2 * l.length + 2 < k by omega)]
            have e1 : (decide (0 ≤ (nt zMv l i).f0 ∧ (nt zMv l i).f0 ≤ n - 1)) = inB (nt zMv l i).f0 0 (n - 1) := by simp [inB]
            have e2 : (decide (0 ≤ (nt zMv l i).f3 ∧ (nt zMv l i).f3 ≤ n - 1)) = inB (nt zMv l i).f3 0 (n - 1) := by simp [inB]
            have e3 : (decide (0 ≤ (nt zMv l i).f2 ∧ (nt zMv l i).f2 ≤ 5)) = inB (nt zMv l i).f2 0 5 := by simp [inB]
            simp only [e1, e2, e3]
            by_cases b1 : inB (nt zMv l i).f0 0 (n - 1) = true
            · by_cases b2 : inB (nt zMv l i).f3 0 (n - 1) = true
              · by_cases b3 : inB (nt zMv l i).f2 0 5 = true
                · have b4 : okMv n (nt zMv l i) = true := by simp [okMv, b1, b2, b3]
                  rw [if_pos b1, if_pos b2, if_pos b3]
                  by_cases q1 : moveOf l (nt zMv l i).f0 (nt zMv l i).f1 (nt zMv l i).f2 < (i : Int)
                  · rw [if_pos q1, if_neg (by simp [q1])]
                  · by_cases q2 : ((movesFrom l (nt zMv l i).f0 (!(nt zMv l i).f1)).length : Int) > 0
                    · rw [if_neg q1, if_pos q2, if_neg (by rw [decide_eq_true q2]; simp)]
                    · rw [if_neg q1, if_neg q2, if_pos (by rw [b4, decide_eq_false q1, decide_eq_false q2]; rfl)]
                · rw [if_pos b1, if_pos b2, if_neg b3, if_neg (by simp [okMv, b3])]
              · rw [if_pos b1, if_neg b2, if_neg (by simp [okMv, b2])]
            · rw [if_neg b1, if_neg (by simp [okMv, b1])]) l.length k 0 (by omega) (by omega)
        simpa [h2, h3] using h
      · rw [if_pos (by simp; omega)]; simp [h3]
    · rw [if_neg h2, if_pos trivial]; simp [h2]

end FnPairsAid
open FnPairsAid

section
variable {n n2 : Int} {e f : List Bool} {l m : List Mv}
theorem FnPairs_end {k : Nat} (he : e.length ≤ 5) (hl : l.length ≤ 14) (hf : f.length ≤ 5) (hm : m.length ≤ 14) (hk : 8010000 < k) :
    (if isSafe n e l n2 f m = true then (some true) else ((impl_IsMachine.f k n e l).bind fun t611 => (if t611 = true then ((impl_IsMachine.f k n2 f m).bind fun t612 => (if t612 = true then ((impl_FirstTrouble.f k n e l n2 f m).bind fun t613 => (some ((t613.length : Int) == 2))) else (some true))) else (some true)))) = some true := by
  cases q : isSafe n e l n2 f m with
  | true => rw [if_pos rfl]
  | false =>
    rw [if_neg (by simp), impl_IsMachine_eq (by omega), Option.bind_some]
    cases h1 : isMachine n e l with
    | false => rw [if_neg (by simp)]
    | true =>
      rw [if_pos rfl, impl_IsMachine_eq (by omega), Option.bind_some]
      cases h2 : isMachine n2 f m with
      | false => rw [if_neg (by simp)]
      | true =>
        rw [if_pos rfl, impl_FirstTrouble_eq (by omega) (by omega) (by omega) (by omega) (by omega), Option.bind_some]
        have h3 : (firstTrouble n e l n2 f m).length = 2 := first_two fun h => by
          unfold isSafe at q
          rw [h1, h2, h] at q
          simp at q
        rw [h3]; rfl
theorem FnPairs_l1 {x5 : Bool} {x7 : List (List Int)} {x8 : Int} {d : Int} {g : List Bool} {o : List Mv} {ps : List (List Int)} (hp : ∀ p ∈ ps, ∃ a b : Int, p = [a, b] ∧ 0 ≤ a ∧ a < n) (hl : ps.length ≤ 1000) : ∀ (c y k : Nat), y + c = ps.length → c < k →
    laws_FnPairs.l1 k x5 x7 x8 ps (y : Int) n e l n2 f m d g o = laws_FnPairs.l0 (k - c - 1) x5 x7 (wrap64 (x8 + 1)) n e l n2 f m d g o := by
  intro c
  induction c with
  | zero =>
    intro y k hy hk
    obtain ⟨k, rfl⟩ := succ_of hk
    simp only [laws_FnPairs.l1]
    rw [if_neg (by omega)]; rfl
  | succ c ih =>
    intro y k hy hk
    obtain ⟨k, rfl⟩ := succ_of hk
    simp only [laws_FnPairs.l1]
    obtain ⟨a, b, hq, a0, a1⟩ := hp _ (nt_mem [] ps y (by omega))
    have hL : (nt [] ps y).length = 2 := by rw [hq]; rfl
    have h0 : nt 0 (nt [] ps y) 0 = a := by rw [hq]; rfl
    rw [if_pos (by omega), if_pos (by omega), rdLL, if_pos (by omega), rd_nt0, h0, if_neg (by omega), if_neg (by omega), wrap_up (n := ps.length) (by omega) (by omega), ih (y + 1) k (by omega) (by omega)]
    congr 1; omega
theorem FnPairs_l0 (he : e.length ≤ 5) (hl : l.length ≤ 14) (hf : f.length ≤ 5) (hm : m.length ≤ 14) : ∀ (c y k : Nat), y + c = (pairsOf n e l n e (l.map flipMv)).length → 8020000 + 100 * c < k →
    laws_FnPairs.l0 k (isSafe n e l n2 f m) (pairsOf n e l n e (l.map flipMv)) (y : Int) n e l n2 f m n e (l.map flipMv) = some true := by
  have lD : (l.map flipMv).length = l.length := List.length_map ..
  have b36 := pairsOf_len2 n e l n e (l.map flipMv)
  intro c
  induction c with
  | zero =>
    intro y k hy hk
    obtain ⟨k, rfl⟩ := succ_of hk
    simp only [laws_FnPairs.l0]
    rw [if_neg (by omega)]
    exact FnPairs_end he hl hf hm (by omega)
  | succ c ih =>
    intro y k hy hk
    obtain ⟨k, rfl⟩ := succ_of hk
    obtain ⟨P, hP⟩ : ∃ P, P = pairsOf n e l n e (l.map flipMv) := ⟨_, rfl⟩
    have hM : isMachine n e l = true := by
      cases q : isMachine n e l with
      | true => rfl
      | false => rw [pairsOf_none (by rw [q]; simp), List.length_nil] at hy; omega
    have hD : isMachine n e (l.map flipMv) = true := by rw [isMachine_flip]; exact hM
    have hmem := nt_mem [] P y (by rw [hP]; omega)
    have hgood := (pairsOf_good (n := n) (n2 := n) (e := e) (f := e) (l := l) (m := l.map flipMv) (by rw [hM, hD]; rfl)).2 _ (by rw [hP] at hmem; exact hmem)
    have hR := (pairsOf_mem hM hD).1 (by rw [hP] at hmem; exact hmem)
    have hdg := dual_diag hR
    rw [← hP] at hgood hdg hy b36 ih ⊢
    obtain ⟨a, b, hq, a0, a1, b0, b1⟩ := hgood
    have hL : (nt [] P y).length = 2 := by rw [hq]; rfl
    rw [laws_FnPairs.l0, if_pos (by omega), if_pos (by omega), rdLL, if_pos (by omega), if_pos (by omega), rd_nt0, rd_nt1, if_pos hdg, ← hdg, impl_TroubleAt_eq (by omega) (by omega) (by omega) (by omega) (by omega), Option.bind_some]
    have h0 : nt 0 (nt [] P y) 0 = a := by rw [hq]; rfl
    have ht : (troubleAt e l e (l.map flipMv) (nt 0 (nt [] P y) 0) (nt 0 (nt [] P y) 0) == 1) = false := by
      rw [beq_eq_false_iff_ne]; exact dual_read e l _
    obtain ⟨k, rfl⟩ := succ_of (show 0 < k by omega)
    have hn := okNext_pairs hM hD (nt 0 (nt [] P y) 0) (nt 0 (nt [] P y) 0) (by omega) (by omega) (by omega) (by omega)
    have hnl := nextPairs_len l (l.map flipMv) (nt 0 (nt [] P y) 0) (nt 0 (nt [] P y) 0)
    rw [ht, laws_FnPairs.j2, if_neg (by simp), if_pos (by omega), if_pos (by omega), rdLL, if_pos (by omega), if_pos (by omega), rd_nt0, rd_nt1, ← hdg, impl_NextPairs_eq (by omega) (by omega) (by omega), Option.bind_some]
    obtain ⟨Q, hQ⟩ : ∃ Q, Q = nextPairs l (l.map flipMv) (nt 0 (nt [] P y) 0) (nt 0 (nt [] P y) 0) := ⟨_, rfl⟩
    rw [← hQ] at hn hnl ⊢
    have L := FnPairs_l1 (n := n) (n2 := n2) (e := e) (f := f) (l := l) (m := m) (x5 := isSafe n e l n2 f m) (x7 := P) (x8 := (y : Int)) (d := n) (g := e) (o := l.map flipMv) (ps := Q) (fun p hp => by
        obtain ⟨u, v, r, u0, u1, _⟩ := hn p hp
        exact ⟨u, v, r, u0, u1⟩) (by omega) Q.length 0 k (Nat.zero_add _) (by omega)
    rw [wrap_up (n := P.length) (by omega) (by omega)] at L
    exact L.trans (ih (y + 1) _ (by omega) (by omega))
theorem FnPairs_j0 {k : Nat} (he : e.length ≤ 5) (hl : l.length ≤ 14) (hf : f.length ≤ 5) (hm : m.length ≤ 14) (hk : 8030000 < k) : laws_FnPairs.j0 k (isSafe n e l n2 f m) false n e l n2 f m = some true := by
  have lD : (l.map flipMv).length = l.length := List.length_map ..
  have b36 := pairsOf_len2 n e l n e (l.map flipMv)
  obtain ⟨k, rfl⟩ := succ_of (show 0 < k by omega)
  rw [laws_FnPairs.j0, if_neg (by simp), impl_DualOf_eq (by omega) (by omega) (by omega), Option.bind_some]
  dsimp only
  rw [impl_PairsOf_eq (by omega) (by omega) (by omega), Option.bind_some]
  exact FnPairs_l0 he hl hf hm _ 0 k (Nat.zero_add _) (by omega)
end
theorem FnPairs : laws_FnPairs.Pure := by
  intro st _ _ _
  obtain ⟨k, hk⟩ : ∃ k, k = 9000000 := ⟨_, rfl⟩
  refine ⟨k, ?_⟩
  unfold laws_FnPairs.f laws_big.f
  rw [Option.bind_some]
  by_cases hb : (st.length : Int) > 1048576
  · rw [if_pos (decide_eq_true hb)]
  · rw [if_neg (by simp [hb])]
    obtain ⟨n, e, l, n2, f, m, e1, he, hl, hf, hm⟩ := draw_safe (k := k) (show st.length ≤ 1048576 by omega) (by omega)
    have J := FnPairs_j0 (n := n) (n2 := n2) (e := e) (f := f) (l := l) (m := m) (k := k) he hl hf hm (by omega)
    have P1 : impl_PairsOf.f k n e l n2 f m = some (pairsOf n e l n2 f m) := impl_PairsOf_eq (by omega) (by omega) (by omega)
    have P2 : impl_PairsOf.f k n2 f m n e l = some (pairsOf n2 f m n e l) := impl_PairsOf_eq (by omega) (by omega) (by omega)
    have P3 : ((pairsOf n e l n2 f m).length : Int) = ((pairsOf n2 f m n e l).length : Int) := by rw [pairsOf_len_swap]
    have M1 : impl_IsMachine.f k n e l = some (isMachine n e l) := impl_IsMachine_eq (by omega)
    have M2 : spec_IsMachine.f k n e l = some (isMachine n e l) := spec_IsMachine_eq (by omega)
    rw [e1, Option.bind_some]
    dsimp only
    rw [impl_IsSafe_eq (by omega) (by omega) (by omega) (by omega) (by omega), Option.bind_some, impl_IsSafe_eq (by omega) (by omega) (by omega) (by omega) (by omega), Option.bind_some, ← safe_swap n e l n2 f m, bne_self_eq_false, if_neg (by simp)]
    cases q : isSafe n e l n2 f m with
    | true =>
      rw [q] at J
      have h0 : (firstTrouble n e l n2 f m).length = 0 := by
        unfold isSafe at q
        rw [Bool.and_eq_true, Bool.and_eq_true, beq_iff_eq] at q
        omega
      rw [if_pos rfl, impl_FirstTrouble_eq (by omega) (by omega) (by omega) (by omega) (by omega), Option.bind_some, if_neg (by omega), P1, Option.bind_some, P2, Option.bind_some, if_pos P3, M1, Option.bind_some, M2, Option.bind_some, bne_self_eq_false]
      exact J
    | false =>
      rw [q] at J
      rw [if_neg (by simp), P1, Option.bind_some, P2, Option.bind_some, if_pos P3, M1, Option.bind_some, M2, Option.bind_some, bne_self_eq_false]
      exact J

end Go.Proofs.Ytfibjclnaeocbaa.Pure
