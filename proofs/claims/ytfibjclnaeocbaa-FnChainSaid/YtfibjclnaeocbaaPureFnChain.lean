/- The law FnChain answers true on every list of bytes, as a statement over lists alone; the bounds are those of memory. -/
import Derived.Test.YtfibjclnaeocbaaPFnChainx16
import Derived.Test.YtfibjclnaeocbaaGb
import Derived.Test.YtfibjclnaeocbaaGr
import Derived.Test.YtfibjclnaeocbaaGm
namespace Go.Proofs.Ytfibjclnaeocbaa.Pure
open Go.RowKit Go.Proofs.Ytfibjclnaeocbaa.PFnChain Go.Proofs.YtfibjclnaeocbaaW.PrintWords Go.Proofs.YtfibjclnaeocbaaW.PrintLast Go.Proofs.Ytfibjclnaeocbaa.Gb Go.Proofs.Ytfibjclnaeocbaa.Gr Go.Proofs.Ytfibjclnaeocbaa.Gm Go.Proofs.Ytfibjclnaeocbaa
set_option linter.unusedSimpArgs false
set_option linter.unusedVariables false
namespace FnChainAid

/-! ### T_Move -/
abbrev Mv := S46
abbrev zMv : Mv := z46
theorem rd_Mv (l : List Mv) (i : Nat) : rd_T46 l (i : Int) = nt zMv l i := by simp [rd_T46, nt]
def sameMv (x y : Mv) : Bool := (x.f0 == y.f0) && ((x.f1 == y.f1) && ((x.f2 == y.f2) && (x.f3 == y.f3)))
theorem sameMv_self (x : Mv) : sameMv x x = true := by simp [sameMv]
def eqBs (a b : List Bool) : Bool := decide (a.length = b.length) && allFrom (fun i => nt false a i == nt false b i) 0 a.length
def eqMvs (a b : List Mv) : Bool := decide (a.length = b.length) && allFrom (fun i => sameMv (nt zMv a i) (nt zMv b i)) 0 a.length
theorem rdb_cast (xs : List Bool) (i : Nat) : rdOf false xs (i : Int) = nt false xs i := rdOf_cast false xs i

/-! ### T_MoveOf -/
def keyMv (a : Int) (s : Bool) (m : Int) (x : Mv) : Bool := (x.f0 == a) && ((x.f1 == s) && (x.f2 == m))
def moveOf (l : List Mv) (a : Int) (s : Bool) (m : Int) : Int := (l.findIdx? (keyMv a s m)).elim (-1) fun j => (j : Int)

/-! ### T_mf -/
def fromMv (a : Int) (s : Bool) (x : Mv) : Bool := (x.f0 == a) && (x.f1 == s)
def movesFrom (l : List Mv) (a : Int) (s : Bool) : List Int := l.foldl (fun acc x => if fromMv a s x = true then putI acc x.f2 else acc) []
theorem movesFrom_nonempty (a : Int) (s : Bool) : ∀ (l : List Mv) (acc : List Int), (0 < (l.foldl (fun acc x => if fromMv a s x = true then putI acc x.f2 else acc) acc).length) ↔ (0 < acc.length ∨ l.any (fromMv a s) = true)
  | [], acc => by simp
  | x :: r, acc => by
    rw [List.foldl_cons, movesFrom_nonempty a s r, List.any_cons]
    have := putI_length acc x.f2
    by_cases h : fromMv a s x = true
    · rw [if_pos h, h]; simp; omega
    · rw [if_neg h]; simp [h]

/-! ### impl_MovesFrom -/
theorem movesFrom_sort (l : List Mv) (a : Int) (s : Bool) : movesFrom l a s = sortUniq ((l.filter (fromMv a s)).map (·.f2)) := by
  rw [sortUniq_eq]
  unfold movesFrom
  have : ∀ (l : List Mv) (acc : List Int), l.foldl (fun acc x => if fromMv a s x = true then putI acc x.f2 else acc) acc = ((l.filter (fromMv a s)).map (·.f2)).foldl putI acc := by
    intro l
    induction l with
    | nil => intro acc; rfl
    | cons x r ih =>
      intro acc
      rw [List.foldl_cons, List.filter_cons, ih]
      by_cases h : fromMv a s x = true
      · rw [if_pos h, if_pos h]; rfl
      · rw [if_neg h, if_neg h]
  exact this l []
theorem impl_MovesFrom_eq {n : Int} {e : List Bool} {l : List Mv} {a : Int} {s : Bool} {k : Nat} (hl : l.length ≤ 1048576) (hk : l.length < k) : impl_MovesFrom.f k n e l a s = some (movesFrom l a s) := by
  unfold impl_MovesFrom.f
  have h := filter_loopC (g := fun k acc i => impl_MovesFrom.l0 k a s acc l (l.length : Int) (i : Int)) (l := l) (z := zMv) (B := 0) (p := fromMv a s) (f := fun x => x.f2) (fin := fun acc => some (sortUniq acc)) (fun k acc _ ha => by
      simp only [impl_MovesFrom.l0]
      rw [if_neg (by omega)]
      unfold slices_Sort_int_int.f slices_Compact_int_int.f
      rw [if_pos (by omega), Option.bind_some, Option.bind_some]; rfl)
    (fun k i acc hi _ hacc => by
      simp only [impl_MovesFrom.l0]
      rw [if_pos (by omega), if_pos (by omega), if_pos (by omega), rd_Mv, wrap_up (n := l.length) hi (by omega)]
      by_cases h1 : (nt zMv l i).f0 = a
      · rw [if_pos h1]
        cases h2 : ((nt zMv l i).f1 == s) with
        | true => rw [if_pos rfl, if_pos (show acc.length < 17592186044416 by omega), if_pos (by simp [fromMv, h1, h2])]
        | false => rw [if_neg (by simp), if_neg (by simp [fromMv, h2])]
      · rw [if_neg h1, if_neg (by simp [fromMv, h1])]) l.length k 0 [] (by omega) (by omega) (by simp)
  rw [movesFrom_sort]
  simpa using h
theorem movesFrom_len (l : List Mv) (a : Int) (s : Bool) : (movesFrom l a s).length ≤ l.length := by
  rw [movesFrom_sort]; unfold sortUniq
  refine Nat.le_trans (compact_len _) ?_
  rw [List.length_mergeSort, List.length_map]
  exact List.length_filter_le _ _
theorem movesFrom_strict (l : List Mv) (a : Int) (s : Bool) : (movesFrom l a s).Pairwise (· < ·) := by rw [movesFrom_sort]; exact (sortUniq_spec _).1
theorem mem_movesFrom {l : List Mv} {a : Int} {s : Bool} {v : Int} : v ∈ movesFrom l a s ↔ ∃ x ∈ l, fromMv a s x = true ∧ x.f2 = v := by
  rw [movesFrom_sort, (sortUniq_spec _).2, List.mem_map]
  constructor
  · rintro ⟨x, hx, rfl⟩; rw [List.mem_filter] at hx; exact ⟨x, hx.1, hx.2, rfl⟩
  · rintro ⟨x, hx, h, rfl⟩; exact ⟨x, List.mem_filter.2 ⟨hx, h⟩, rfl⟩

/-! ### T_moves -/
theorem moveOf_any (l : List Mv) (a : Int) (s : Bool) (v : Int) : 0 ≤ moveOf l a s v ↔ v ∈ movesFrom l a s := by
  rw [mem_movesFrom]
  have h := idx_any (keyMv a s v) l
  have e : decide (moveOf l a s v ≥ 0) = l.any (keyMv a s v) := h
  constructor
  · intro q
    rw [decide_eq_true (show moveOf l a s v ≥ 0 from q)] at e
    obtain ⟨x, hx, hk⟩ := List.any_eq_true.1 e.symm
    simp only [keyMv, Bool.and_eq_true, beq_iff_eq] at hk
    exact ⟨x, hx, by simp [fromMv, hk.1, hk.2.1], hk.2.2⟩
  · rintro ⟨x, hx, hf, rfl⟩
    have : l.any (keyMv a s x.f2) = true := List.any_eq_true.2 ⟨x, hx, by simp only [fromMv, Bool.and_eq_true, beq_iff_eq] at hf; simp [keyMv, hf.1, hf.2]⟩
    rw [this] at e
    exact of_decide_eq_true e

/-! ### T_next -/
theorem moveOf_bnd (l : List Mv) (a : Int) (s : Bool) (m : Int) : moveOf l a s m < 0 ∨ ∃ j : Nat, moveOf l a s m = j ∧ j < l.length ∧ keyMv a s m (nt zMv l j) = true := by
  rcases idx_elim_nonneg (keyMv a s m) l zMv with ⟨h, _⟩ | ⟨j, h1, h2, h3, _⟩
  · exact .inl h
  · exact .inr ⟨j, h1, h2, h3⟩
/-- Both machines make the move of message v: the first as s tells, the second the other way round. -/
def pairOk (l m : List Mv) (x y : Int) (s : Bool) (v : Int) : Bool := decide (0 ≤ moveOf l x s v) && decide (0 ≤ moveOf m y (!s) v)
def pairTo (l m : List Mv) (x y : Int) (s : Bool) (v : Int) : List Int := [(nt zMv l (moveOf l x s v).toNat).f3, (nt zMv m (moveOf m y (!s) v).toNat).f3]
def nextPairs (l m : List Mv) (x y : Int) : List (List Int) :=
  ((movesFrom l x true).filter (pairOk l m x y true)).map (pairTo l m x y true) ++ ((movesFrom m y true).filter (pairOk l m x y false)).map (pairTo l m x y false)
theorem nextPairs_len (l m : List Mv) (x y : Int) : (nextPairs l m x y).length ≤ l.length + m.length := by
  unfold nextPairs
  rw [List.length_append, List.length_map, List.length_map]
  have h1 := List.length_filter_le (pairOk l m x y true) (movesFrom l x true)
  have h2 := List.length_filter_le (pairOk l m x y false) (movesFrom m y true)
  have h3 := movesFrom_len l x true
  have h4 := movesFrom_len m y true
  omega

/-! ### T_inB -/
def inB (x a b : Int) : Bool := decide (a ≤ x) && decide (x ≤ b)
theorem inB_dec (x a b : Int) : decide (a ≤ x ∧ x ≤ b) = inB x a b := by simp [inB]

/-! ### T_IsMachine -/
def okMv (n : Int) (x : Mv) : Bool := inB x.f0 0 (n - 1) && (inB x.f3 0 (n - 1) && inB x.f2 0 5)
/-- Two moves that may not stand together. -/
def clashMv (x y : Mv) : Bool := (x.f0 == y.f0) && (!(x.f1 == y.f1) || (x.f2 == y.f2))
def isMachine (n : Int) (e : List Bool) (l : List Mv) : Bool := inB n 1 6 && (decide ((e.length : Int) = n) && (decide (l.length ≤ 12) &&
  allFrom (fun i => okMv n (nt zMv l i) && allFrom (fun j => !clashMv (nt zMv l j) (nt zMv l i)) 0 i) 0 l.length))
theorem moveOf_lt {l : List Mv} {i : Nat} (hi : i < l.length) : moveOf l (nt zMv l i).f0 (nt zMv l i).f1 (nt zMv l i).f2 < (i : Int) ↔ ∃ j, j < i ∧ keyMv (nt zMv l i).f0 (nt zMv l i).f1 (nt zMv l i).f2 (nt zMv l j) = true := by
  unfold moveOf
  have hs : keyMv (nt zMv l i).f0 (nt zMv l i).f1 (nt zMv l i).f2 (nt zMv l i) = true := by simp [keyMv]
  cases e : l.findIdx? (keyMv (nt zMv l i).f0 (nt zMv l i).f1 (nt zMv l i).f2) with
  | none =>
    rw [List.findIdx?_eq_none_iff] at e
    have := e _ (nt_mem zMv l i hi)
    rw [hs] at this; cases this
  | some j =>
    obtain ⟨h1, h2, h3⟩ := List.findIdx?_eq_some_iff_getElem.1 e
    simp only [Option.elim]
    constructor
    · intro h; exact ⟨j, by omega, by rw [nt_lt _ _ _ h1]; exact h2⟩
    · rintro ⟨j', hj, hq⟩
      by_cases h : j < i
      · omega
      · have h4 := h3 j' (by omega)
        rw [nt_lt l zMv j' (by omega)] at hq
        rw [hq] at h4; exact absurd rfl h4
theorem good_iff (n : Int) (l : List Mv) :
    allFrom (fun i => okMv n (nt zMv l i) && (!decide (moveOf l (nt zMv l i).f0 (nt zMv l i).f1 (nt zMv l i).f2 < (i : Int)) && !decide (((movesFrom l (nt zMv l i).f0 (!(nt zMv l i).f1)).length : Int) > 0))) 0 l.length
    = allFrom (fun i => okMv n (nt zMv l i) && allFrom (fun j => !clashMv (nt zMv l j) (nt zMv l i)) 0 i) 0 l.length := by
  rw [Bool.eq_iff_iff, allFrom_iff, allFrom_iff]
  have hm : ∀ i, ((movesFrom l (nt zMv l i).f0 (!(nt zMv l i).f1)).length : Int) > 0 ↔ ∃ j, j < l.length ∧ fromMv (nt zMv l i).f0 (!(nt zMv l i).f1) (nt zMv l j) = true := by
    intro i
    have h := movesFrom_nonempty (nt zMv l i).f0 (!(nt zMv l i).f1) l []
    simp only [List.length_nil, Nat.lt_irrefl, false_or, List.any_eq_true] at h
    constructor
    · intro hp
      obtain ⟨x, hx, hq⟩ := h.1 (by unfold movesFrom at hp; omega)
      obtain ⟨j, hj, rfl⟩ := List.mem_iff_getElem.1 hx
      exact ⟨j, hj, by rw [nt_lt _ _ _ hj]; exact hq⟩
    · rintro ⟨j, hj, hq⟩
      have := h.2 ⟨_, nt_mem zMv l j hj, hq⟩
      unfold movesFrom; omega
  constructor
  · intro h i h0 hi
    have q := h i h0 hi
    simp only [Bool.and_eq_true, Bool.not_eq_true', decide_eq_false_iff_not] at q ⊢
    refine ⟨q.1, (allFrom_iff _ _ _).2 fun j _ hj => ?_⟩
    simp only [Bool.not_eq_true']
    cases hc : clashMv (nt zMv l j) (nt zMv l i) with
    | false => rfl
    | true =>
      exfalso
      simp only [clashMv, Bool.and_eq_true, Bool.or_eq_true, beq_iff_eq, Bool.not_eq_true', beq_eq_false_iff_ne] at hc
      by_cases hs : (nt zMv l j).f1 = (nt zMv l i).f1
      · rcases hc.2 with h2 | h2
        · exact h2 hs
        · exact q.2.1 ((moveOf_lt (by omega)).2 ⟨j, by omega, by rw [keyMv, hc.1, hs, h2]; simp⟩)
      · exact q.2.2 ((hm i).2 ⟨j, by omega, by
          simp only [fromMv, hc.1, beq_self_eq_true, Bool.true_and]
          cases hA : (nt zMv l j).f1 <;> cases hB : (nt zMv l i).f1 <;> simp_all⟩)
  · intro h i h0 hi
    have q := h i h0 hi
    simp only [Bool.and_eq_true, Bool.not_eq_true', decide_eq_false_iff_not] at q ⊢
    have q2 := (allFrom_iff _ _ _).1 q.2
    refine ⟨q.1, fun hlt => ?_, fun hp => ?_⟩
    · obtain ⟨j, hj, hk⟩ := (moveOf_lt (by omega)).1 hlt
      have := q2 j (by omega) (by omega)
      simp only [keyMv, Bool.and_eq_true, beq_iff_eq] at hk
      simp [clashMv, hk.1, hk.2.2] at this
    · obtain ⟨j, hj, hf⟩ := (hm i).1 hp
      simp only [fromMv, Bool.and_eq_true, beq_iff_eq] at hf
      rcases Nat.lt_trichotomy j i with hji | hji | hji
      · have := q2 j (by omega) (by omega)
        simp [clashMv, hf.1, hf.2] at this
      · subst hji; exact absurd hf.2 (by cases (nt zMv l j).f1 <;> simp)
      · have r := h j (by omega) (by omega)
        simp only [Bool.and_eq_true] at r
        have := (allFrom_iff _ _ _).1 r.2 i (by omega) (by omega)
        simp [clashMv, hf.1, hf.2] at this

/-! ### T_reach -/
/-- A pair is put behind the others if it isn't there. -/
def addPair (out : List (List Int)) (p : List Int) : List (List Int) := if p ∈ out then out else out ++ [p]
def addAll (out ps : List (List Int)) : List (List Int) := ps.foldl addPair out
def reachFrom (nx : Int → Int → List (List Int)) : Nat → Nat → List (List Int) → List (List Int)
  | 0, _, out => out
  | n + 1, i, out => if i < out.length then reachFrom nx n (i + 1) (addAll out (nx (nt 0 (nt [] out i) 0) (nt 0 (nt [] out i) 1))) else out
def reach (nx : Int → Int → List (List Int)) : List (List Int) := reachFrom nx 37 0 [[0, 0]]
/-- Two states of machines with n and m states. -/
def okPair (n m : Int) (p : List Int) : Prop := ∃ x y : Int, p = [x, y] ∧ 0 ≤ x ∧ x < n ∧ 0 ≤ y ∧ y < m
def goodPairs (n m : Int) (out : List (List Int)) : Prop := out.Nodup ∧ ∀ p ∈ out, okPair n m p
/-- The step leads from pairs of states to pairs of states. -/
def okNext (n m : Int) (nx : Int → Int → List (List Int)) : Prop := ∀ x y, 0 ≤ x → x < n → 0 ≤ y → y < m → ∀ p ∈ nx x y, okPair n m p
theorem nodup_len : ∀ {l m : List (List Int)}, l.Nodup → (∀ x ∈ l, x ∈ m) → l.length ≤ m.length
  | [], _, _, _ => Nat.zero_le _
  | a :: l, m, hn, hs => by
    obtain ⟨h1, h2⟩ := List.nodup_cons.1 hn
    have ha := hs a List.mem_cons_self
    have := nodup_len (l := l) (m := m.erase a) h2 (fun x hx => (List.mem_erase_of_ne (fun e : x = a => h1 (e ▸ hx))).2 (hs x (List.mem_cons_of_mem _ hx)))
    have h3 := List.length_erase_of_mem ha
    have h4 := List.length_pos_of_mem ha
    rw [List.length_cons]; omega
def sixes : List (List Int) := (List.range 6).flatMap fun x : Nat => (List.range 6).map fun y : Nat => [(x : Int), (y : Int)]
theorem good_len {n m : Int} {out : List (List Int)} (hn : n ≤ 6) (hm : m ≤ 6) (h : goodPairs n m out) : out.length ≤ 36 := by
  refine Nat.le_trans (nodup_len (m := sixes) h.1 fun p hp => ?_) (by decide)
  obtain ⟨x, y, rfl, h1, h2, h3, h4⟩ := h.2 p hp
  unfold sixes
  refine List.mem_flatMap.2 ⟨x.toNat, List.mem_range.2 (by omega), List.mem_map.2 ⟨y.toNat, List.mem_range.2 (by omega), ?_⟩⟩
  rw [Int.toNat_of_nonneg h1, Int.toNat_of_nonneg h3]
theorem addPair_good {n m : Int} {out : List (List Int)} {p : List Int} (h : goodPairs n m out) (hp : okPair n m p) : goodPairs n m (addPair out p) := by
  unfold addPair
  split
  · exact h
  · rename_i q
    refine ⟨List.nodup_append.2 ⟨h.1, by simp, fun a ha b hb => ?_⟩, fun x hx => ?_⟩
    · rw [List.mem_singleton] at hb; subst hb; exact fun e => q (e ▸ ha)
    · rcases List.mem_append.1 hx with hx | hx
      · exact h.2 x hx
      · rw [List.mem_singleton] at hx; subst hx; exact hp
theorem addAll_good {n m : Int} : ∀ {ps out : List (List Int)}, goodPairs n m out → (∀ p ∈ ps, okPair n m p) → goodPairs n m (addAll out ps)
  | [], _, h, _ => h
  | p :: ps, out, h, hp => addAll_good (ps := ps) (out := addPair out p) (addPair_good h (hp p List.mem_cons_self)) (fun x hx => hp x (List.mem_cons_of_mem _ hx))
theorem good_at {n m : Int} {out : List (List Int)} {i : Nat} (h : goodPairs n m out) (hi : i < out.length) : nt [] out i = [nt 0 (nt [] out i) 0, nt 0 (nt [] out i) 1] ∧ 0 ≤ nt 0 (nt [] out i) 0 ∧ nt 0 (nt [] out i) 0 < n ∧ 0 ≤ nt 0 (nt [] out i) 1 ∧ nt 0 (nt [] out i) 1 < m := by
  obtain ⟨x, y, e, h1, h2, h3, h4⟩ := h.2 _ (nt_mem [] out i hi)
  rw [e]
  exact ⟨rfl, h1, h2, h3, h4⟩
theorem good_next {n m : Int} {nx : Int → Int → List (List Int)} (hx : okNext n m nx) {out : List (List Int)} {i : Nat} (h : goodPairs n m out) (hi : i < out.length) :
    goodPairs n m (addAll out (nx (nt 0 (nt [] out i) 0) (nt 0 (nt [] out i) 1))) := by
  obtain ⟨_, h1, h2, h3, h4⟩ := good_at h hi
  exact addAll_good h (hx _ _ h1 h2 h3 h4)
theorem good_start {n m : Int} (hn : 1 ≤ n) (hm : 1 ≤ m) : goodPairs n m [[0, 0]] := by
  refine ⟨by simp, fun p hp => ?_⟩
  rw [List.mem_singleton] at hp
  exact ⟨0, 0, hp, by omega, by omega, by omega, by omega⟩
theorem reachFrom_good {n m : Int} {nx : Int → Int → List (List Int)} (hx : okNext n m nx) : ∀ (d i : Nat) {out : List (List Int)}, goodPairs n m out → goodPairs n m (reachFrom nx d i out)
  | 0, _, _, h => h
  | d + 1, i, out, h => by
    simp only [reachFrom]
    split
    · rename_i hi; exact reachFrom_good hx d (i + 1) (good_next hx h hi)
    · exact h
theorem reach_good {n m : Int} {nx : Int → Int → List (List Int)} (hx : okNext n m nx) (hn : 1 ≤ n) (hm : 1 ≤ m) : goodPairs n m (reach nx) := reachFrom_good hx _ _ (good_start hn hm)
/-- A machine's moves lead to its states. -/
theorem machine_to {n : Int} {e : List Bool} {l : List Mv} (h : isMachine n e l = true) {j : Nat} (hj : j < l.length) : 0 ≤ (nt zMv l j).f3 ∧ (nt zMv l j).f3 < n := by
  unfold isMachine inB at h
  simp only [Bool.and_eq_true, decide_eq_true_eq] at h
  obtain ⟨_, _, _, hA⟩ := h
  have := (allFrom_iff _ _ _).1 hA j (by omega) (by omega)
  simp only [okMv, inB, Bool.and_eq_true, decide_eq_true_eq] at this
  omega
theorem machine_len {n : Int} {e : List Bool} {l : List Mv} (h : isMachine n e l = true) : 1 ≤ n ∧ n ≤ 6 ∧ (e.length : Int) = n ∧ l.length ≤ 12 := by
  unfold isMachine inB at h
  simp only [Bool.and_eq_true, decide_eq_true_eq] at h
  exact ⟨h.1.1, h.1.2, h.2.1, h.2.2.1⟩
theorem okNext_pairs {n m : Int} {e f : List Bool} {l k : List Mv} (h1 : isMachine n e l = true) (h2 : isMachine m f k = true) : okNext n m (nextPairs l k) := by
  intro x y _ _ _ _ p hp
  have one : ∀ s v, pairOk l k x y s v = true → okPair n m (pairTo l k x y s v) := by
    intro s v q
    simp only [pairOk, Bool.and_eq_true, decide_eq_true_eq] at q
    rcases moveOf_bnd l x s v with a | ⟨i, e1, b1, _⟩
    · omega
    · rcases moveOf_bnd k y (!s) v with a | ⟨j, e2, b2, _⟩
      · omega
      · have c1 := machine_to h1 b1
        have c2 := machine_to h2 b2
        exact ⟨_, _, by rw [pairTo, e1, e2, toNat_cast, toNat_cast], c1.1, c1.2, c2.1, c2.2⟩
  unfold nextPairs at hp
  rcases List.mem_append.1 hp with hp | hp
  · obtain ⟨v, hv, rfl⟩ := List.mem_map.1 hp
    exact one _ _ (List.mem_filter.1 hv).2
  · obtain ⟨v, hv, rfl⟩ := List.mem_map.1 hp
    exact one _ _ (List.mem_filter.1 hv).2

/-! ### T_follow -/
/-- Both machines make the move of message v as s tells. -/
def followOk (l m : List Mv) (x y : Int) (s : Bool) (v : Int) : Bool := decide (0 ≤ moveOf l x s v) && decide (0 ≤ moveOf m y s v)
def followTo (l m : List Mv) (x y : Int) (s : Bool) (v : Int) : List Int := [(nt zMv l (moveOf l x s v).toNat).f3, (nt zMv m (moveOf m y s v).toNat).f3]
def nextFollowed (l m : List Mv) (x y : Int) : List (List Int) :=
  ((movesFrom l x true).filter (followOk l m x y true)).map (followTo l m x y true) ++ ((movesFrom m y false).filter (followOk l m x y false)).map (followTo l m x y false)
theorem nextFollowed_len (l m : List Mv) (x y : Int) : (nextFollowed l m x y).length ≤ l.length + m.length := by
  unfold nextFollowed
  rw [List.length_append, List.length_map, List.length_map]
  have h1 := List.length_filter_le (followOk l m x y true) (movesFrom l x true)
  have h2 := List.length_filter_le (followOk l m x y false) (movesFrom m y false)
  have h3 := movesFrom_len l x true
  have h4 := movesFrom_len m y false
  omega
theorem okNext_follow {n m : Int} {e f : List Bool} {l k : List Mv} (h1 : isMachine n e l = true) (h2 : isMachine m f k = true) : okNext n m (nextFollowed l k) := by
  intro x y _ _ _ _ p hp
  have one : ∀ s v, followOk l k x y s v = true → okPair n m (followTo l k x y s v) := by
    intro s v q
    simp only [followOk, Bool.and_eq_true, decide_eq_true_eq] at q
    rcases moveOf_bnd l x s v with a | ⟨i, e1, b1, _⟩
    · omega
    · rcases moveOf_bnd k y s v with a | ⟨j, e2, b2, _⟩
      · omega
      · have c1 := machine_to h1 b1
        have c2 := machine_to h2 b2
        exact ⟨_, _, by rw [followTo, e1, e2, toNat_cast, toNat_cast], c1.1, c1.2, c2.1, c2.2⟩
  unfold nextFollowed at hp
  rcases List.mem_append.1 hp with hp | hp
  · obtain ⟨v, hv, rfl⟩ := List.mem_map.1 hp
    exact one _ _ (List.mem_filter.1 hv).2
  · obtain ⟨v, hv, rfl⟩ := List.mem_map.1 hp
    exact one _ _ (List.mem_filter.1 hv).2

/-! ### T_closed -/
/-- What is reached from 0 and 0. -/
inductive Rch (nx : Int → Int → List (List Int)) : List Int → Prop
  | start : Rch nx [0, 0]
  | step {p q : List Int} : Rch nx p → q ∈ nx (nt 0 p 0) (nt 0 p 1) → Rch nx q
theorem addPair_mem (out : List (List Int)) (p q : List Int) : q ∈ addPair out p ↔ q ∈ out ∨ q = p := by
  unfold addPair
  split
  · rename_i h
    constructor
    · exact .inl
    · rintro (h2 | rfl)
      · exact h2
      · exact h
  · rw [List.mem_append, List.mem_singleton]
theorem addAll_mem : ∀ (ps out : List (List Int)) (q : List Int), q ∈ addAll out ps ↔ q ∈ out ∨ q ∈ ps
  | [], out, q => by simp [addAll]
  | p :: ps, out, q => by
    show q ∈ addAll (addPair out p) ps ↔ _
    rw [addAll_mem ps, addPair_mem, List.mem_cons, or_assoc]
theorem addPair_pre (out : List (List Int)) (p : List Int) : ∃ t, addPair out p = out ++ t := by
  unfold addPair
  split
  · exact ⟨[], by simp⟩
  · exact ⟨[p], rfl⟩
theorem addAll_pre : ∀ (ps out : List (List Int)), ∃ t, addAll out ps = out ++ t
  | [], out => ⟨[], by simp [addAll]⟩
  | p :: ps, out => by
    obtain ⟨t, h⟩ := addPair_pre out p
    obtain ⟨u, h2⟩ := addAll_pre ps (addPair out p)
    exact ⟨t ++ u, by show addAll (addPair out p) ps = _; rw [h2, h, List.append_assoc]⟩
theorem nt_pre {z : List Int} {out t : List (List Int)} {j : Nat} (h : j < out.length) : nt z (out ++ t) j = nt z out j := by
  rw [nt_lt _ _ _ (by rw [List.length_append]; omega), nt_lt _ _ _ h, List.getElem_append_left h]
theorem reachFrom_sound {nx : Int → Int → List (List Int)} : ∀ (d i : Nat) (out : List (List Int)), (∀ p ∈ out, Rch nx p) → ∀ p ∈ reachFrom nx d i out, Rch nx p
  | 0, _, _, h => h
  | d + 1, i, out, h => by
    simp only [reachFrom]
    split
    · rename_i hi
      refine reachFrom_sound d (i + 1) _ fun p hp => ?_
      rcases (addAll_mem _ _ _).1 hp with hp | hp
      · exact h p hp
      · exact .step (h _ (nt_mem [] out i hi)) hp
    · exact h
theorem reachFrom_closed {n m : Int} {nx : Int → Int → List (List Int)} (hn : n ≤ 6) (hm : m ≤ 6) (hx : okNext n m nx) : ∀ (d i : Nat) (out : List (List Int)), goodPairs n m out → 37 ≤ i + d →
    (∀ j, j < i → j < out.length → ∀ q ∈ nx (nt 0 (nt [] out j) 0) (nt 0 (nt [] out j) 1), q ∈ out) →
    (∀ p ∈ out, p ∈ reachFrom nx d i out) ∧ ∀ p ∈ reachFrom nx d i out, ∀ q ∈ nx (nt 0 p 0) (nt 0 p 1), q ∈ reachFrom nx d i out
  | 0, i, out, hg, hi, hc => by
    refine ⟨fun _ h => h, fun p hp q hq => ?_⟩
    obtain ⟨j, hj, rfl⟩ := List.mem_iff_getElem.1 (show p ∈ out from hp)
    have := good_len hn hm hg
    exact hc j (by omega) hj q (by rw [nt_lt _ _ _ hj]; exact hq)
  | d + 1, i, out, hg, hi, hc => by
    simp only [reachFrom]
    split
    · rename_i h
      obtain ⟨t, ht⟩ := addAll_pre (nx (nt 0 (nt [] out i) 0) (nt 0 (nt [] out i) 1)) out
      have ih := reachFrom_closed hn hm hx d (i + 1) (addAll out (nx (nt 0 (nt [] out i) 0) (nt 0 (nt [] out i) 1))) (good_next hx hg h) (by omega) (fun j hj hjl q hq => by
        have hjo : j < out.length := by omega
        rw [ht, nt_pre hjo] at hq
        rw [addAll_mem]
        by_cases e : j = i
        · subst e; exact .inr hq
        · exact .inl (hc j (by omega) hjo q hq))
      exact ⟨fun p hp => ih.1 p ((addAll_mem _ _ _).2 (.inl hp)), ih.2⟩
    · rename_i h
      refine ⟨fun _ h => h, fun p hp q hq => ?_⟩
      obtain ⟨j, hj, rfl⟩ := List.mem_iff_getElem.1 (show p ∈ out from hp)
      exact hc j (by omega) hj q (by rw [nt_lt _ _ _ hj]; exact hq)
theorem reach_iff {n m : Int} {nx : Int → Int → List (List Int)} (hn : 1 ≤ n ∧ n ≤ 6) (hm : 1 ≤ m ∧ m ≤ 6) (hx : okNext n m nx) (p : List Int) : p ∈ reach nx ↔ Rch nx p := by
  have hc := reachFrom_closed hn.2 hm.2 hx 37 0 [[0, 0]] (good_start hn.1 hm.1) (by omega) (fun j hj => by omega)
  constructor
  · exact reachFrom_sound 37 0 _ (fun q hq => by rw [List.mem_singleton] at hq; subst hq; exact .start) p
  · intro h
    induction h with
    | start => exact hc.1 _ (by simp)
    | step _ hq ih => exact hc.2 _ ih _ hq
theorem nextPairs_mem {l m : List Mv} {x y : Int} {p : List Int} : p ∈ nextPairs l m x y ↔ ∃ s v, pairOk l m x y s v = true ∧ p = pairTo l m x y s v := by
  unfold nextPairs
  rw [List.mem_append, List.mem_map, List.mem_map]
  constructor
  · rintro (⟨v, hv, rfl⟩ | ⟨v, hv, rfl⟩)
    · exact ⟨_, v, (List.mem_filter.1 hv).2, rfl⟩
    · exact ⟨_, v, (List.mem_filter.1 hv).2, rfl⟩
  · rintro ⟨s, v, hp, rfl⟩
    have hq := hp
    simp only [pairOk, Bool.and_eq_true, decide_eq_true_eq] at hq
    cases s with
    | true => exact .inl ⟨v, List.mem_filter.2 ⟨(moveOf_any _ _ _ _).1 hq.1, hp⟩, rfl⟩
    | false => exact .inr ⟨v, List.mem_filter.2 ⟨(moveOf_any _ _ _ _).1 hq.2, hp⟩, rfl⟩
theorem nextFollowed_mem {l m : List Mv} {x y : Int} {p : List Int} : p ∈ nextFollowed l m x y ↔ ∃ s v, followOk l m x y s v = true ∧ p = followTo l m x y s v := by
  unfold nextFollowed
  rw [List.mem_append, List.mem_map, List.mem_map]
  constructor
  · rintro (⟨v, hv, rfl⟩ | ⟨v, hv, rfl⟩)
    · exact ⟨_, v, (List.mem_filter.1 hv).2, rfl⟩
    · exact ⟨_, v, (List.mem_filter.1 hv).2, rfl⟩
  · rintro ⟨s, v, hp, rfl⟩
    have hq := hp
    simp only [followOk, Bool.and_eq_true, decide_eq_true_eq] at hq
    cases s with
    | true => exact .inl ⟨v, List.mem_filter.2 ⟨(moveOf_any _ _ _ _).1 hq.1, hp⟩, rfl⟩
    | false => exact .inr ⟨v, List.mem_filter.2 ⟨(moveOf_any _ _ _ _).1 hq.2, hp⟩, rfl⟩

/-! ### T_pairs -/
/-- Is every number of a among those of b? -/
def within (a b : List Int) : Bool := a.all fun x => b.any (· == x)
def without (a b : List Int) : List Int := a.filter fun x => !b.any (· == x)
def endAt (e : List Bool) (x : Int) : Bool := decide (0 ≤ x ∧ x ≤ (e.length : Int) - 1) && nt false e x.toNat
theorem without_pos (a b : List Int) : ((without a b).length : Int) > 0 ↔ within a b = false := by
  unfold without within
  rw [List.all_eq_false]
  constructor
  · intro h
    obtain ⟨x, hx⟩ := List.exists_mem_of_length_pos (l := a.filter fun x => !b.any (· == x)) (by omega)
    rw [List.mem_filter] at hx
    exact ⟨x, hx.1, fun h => by have h2 := hx.2; rw [h] at h2; cases h2⟩
  · rintro ⟨x, hx, hq⟩
    have : x ∈ a.filter fun x => !b.any (· == x) := List.mem_filter.2 ⟨hx, by rw [Bool.eq_false_iff.2 hq]; rfl⟩
    have := List.length_pos_of_mem this
    omega
theorem endAt_eq {e : List Bool} {x : Int} (he : e.length ≤ 1048576) : endAt e x = if 0 ≤ x ∧ x < (e.length : Int) then nt false e x.toNat else false := by
  unfold endAt
  by_cases h : 0 ≤ x ∧ x < (e.length : Int)
  · rw [if_pos h, decide_eq_true (by omega), Bool.true_and]
  · rw [if_neg h, decide_eq_false (by omega), Bool.false_and]
theorem rdb_toNat (e : List Bool) (x : Int) (h : 0 ≤ x) : rdOf false e x = nt false e x.toNat := by
  have := rdb_cast e x.toNat
  rwa [Int.toNat_of_nonneg h] at this

/-! ### spec_l1In -/
theorem spec_l1In_eq (a b c : Int) : spec_l1In.f a b c = some (decide (b ≤ a ∧ a ≤ c)) := by
  unfold spec_l1In.f
  by_cases h : a ≥ b
  · rw [if_pos h]; simp [show b ≤ a from h]
  · rw [if_neg h, decide_eq_false (by omega)]

/-! ### spec_l14End -/
theorem spec_l14End_eq {n : Int} {e : List Bool} {l : List Mv} {x : Int} (he : e.length ≤ 1048576) : spec_l14End.f n e l x = some (endAt e x) := by
  unfold spec_l14End.f
  rw [wrap_id (by omega) (by omega), spec_l1In_eq, Option.bind_some, endAt_eq he]
  by_cases h : 0 ≤ x ∧ x < (e.length : Int)
  · rw [if_pos (by simp; omega), if_pos h.1, if_pos h.2, if_pos h, rdb_toNat e x h.1]
  · rw [if_neg (by simp; omega), if_neg h]

/-! ### T_put -/
/-- (putI: a number put into an ascending list: the library text Gm.) -/
theorem putI_nil (x : Int) : putI [] x = [x] := rfl

/-! ### spec_l4Put -/
theorem spec_l4Put_l0 (x : Int) : ∀ (rest done : List Int) (k : Nat), done.length + rest.length ≤ 2097152 → rest.length < k → spec_l4Put.l0 k (done ++ rest) x (done.length : Int) = some (done ++ putI rest x) := by
  intro rest
  induction rest with
  | nil =>
    intro done k hl hk
    obtain ⟨k, rfl⟩ := succ_of hk
    simp only [List.length_nil, Nat.add_zero] at hl
    simp only [spec_l4Put.l0, List.append_nil, Option.bind_some, toNat_cast, List.take_length, List.drop_length, List.nil_append, List.length_nil, List.length_singleton, List.length_append, Nat.zero_add, Nat.add_zero]
    rw [if_neg (by omega), if_pos (by omega), if_pos (by omega), if_pos (by omega), if_pos (by omega), if_pos (by omega)]
    rfl
  | cons y r ih =>
    intro done k hl hk
    obtain ⟨k, rfl⟩ := succ_of hk
    simp only [List.length_cons] at hl hk
    have ht : (done ++ y :: r).take done.length = done := by simp
    have hd : (done ++ y :: r).drop done.length = y :: r := by simp
    have hn : (done ++ y :: r).length = done.length + r.length + 1 := len_at done r y
    simp only [spec_l4Put.l0, Option.bind_some, toNat_cast, ht, hd, List.nil_append, List.length_nil, Nat.zero_add]
    rw [if_pos (by omega), if_pos (by omega), rd_cast, nt_at]
    simp only [putI]
    by_cases h1 : y < x
    · rw [if_pos h1, if_pos h1, wrap_up (n := done.length + 1) (by omega) (by omega)]
      have e := ih (done ++ [y]) k (by rw [len_snoc]; omega) (by omega)
      rw [List.append_assoc, List.singleton_append, len_snoc] at e
      rw [e, List.append_assoc]; rfl
    · rw [if_neg h1, if_neg h1]
      by_cases h2 : y = x
      · rw [if_pos h2, if_pos h2, if_pos (by omega)]
      · rw [if_neg h2, if_neg h2, if_pos (by omega), if_pos (by omega)]
        simp only [List.length_append, List.length_singleton, List.length_cons, List.length_nil, Nat.add_zero, Nat.zero_add]
        rw [if_pos (by omega), if_pos (by omega), List.append_assoc]; rfl
theorem spec_l4Put_eq {l : List Int} {x : Int} {k : Nat} (hl : l.length ≤ 1048576) (hk : l.length < k) : spec_l4Put.f k l x = some (putI l x) := by
  unfold spec_l4Put.f
  exact spec_l4Put_l0 x l [] k (by simp; omega) hk

/-! ### spec_MovesFrom -/
theorem spec_MovesFrom_eq {n : Int} {e : List Bool} {l : List Mv} {a : Int} {s : Bool} {k : Nat} (hl : l.length ≤ 1048576) (hk : 2 * l.length + 2 < k) : spec_MovesFrom.f k n e l a s = some (movesFrom l a s) := by
  unfold spec_MovesFrom.f
  have h := fold_loop (g := fun k acc i => spec_MovesFrom.l0 k a s acc (i : Int) n e l) (n := l.length) (B := l.length + 1) (f := fun i acc => if fromMv a s (nt zMv l i) = true then putI acc (nt zMv l i).f2 else acc) (fin := fun acc => acc) (fun i acc => acc.length ≤ i) (fun k acc _ => by
      simp only [spec_MovesFrom.l0]; rw [if_neg (by omega)])
    (fun k i acc hi hk ha => by
      constructor
      · simp only [spec_MovesFrom.l0]
        rw [if_pos (by omega), if_pos (by omega), rd_Mv, wrap_up (n := l.length) hi (by omega)]
        by_cases h1 : (nt zMv l i).f0 = a
        · rw [if_pos h1]
          cases h2 : ((nt zMv l i).f1 == s) with
          | true => rw [if_pos rfl, if_pos (by simp [fromMv, h1, h2]), spec_l4Put_eq (by omega) (by omega), Option.bind_some]
          | false => rw [if_neg (by simp), if_neg (by simp [fromMv, h2])]
        · rw [if_neg h1, if_neg (by simp [fromMv, h1])]
      · have := putI_length acc (nt zMv l i).f2
        by_cases hq : fromMv a s (nt zMv l i) = true
        · rw [if_pos hq]; omega
        · rw [if_neg hq]; omega) l.length k 0 [] (by omega) (by omega) (by simp)
  have h2 := foldFrom_list (f := fun (acc : List Int) x => if fromMv a s x = true then putI acc x.f2 else acc) (l := l) (z := zMv) (s := [])
  rw [h2] at h
  simpa [movesFrom] using h

/-! ### spec_l9Has -/
theorem spec_l9Has_eq {l : List Int} {n : Int} {k : Nat} (hl : l.length ≤ 9223372036854775807) (hk : l.length < k) : spec_l9Has.f k l n = some (l.any (· == n)) := by
  unfold spec_l9Has.f
  have h := any_loop (g := fun k i => spec_l9Has.l0 k l n (i : Int)) (l := l) (z := 0) (B := 0) (p := (· == n)) (fun k => by
      simp only [spec_l9Has.l0]; rw [if_neg (by omega)])
    (fun k i hi _ => by
      simp only [spec_l9Has.l0]
      rw [if_pos (by omega), if_pos (by omega), wrap_up (n := l.length) hi hl, rd_cast]
      by_cases e : nt 0 l i = n
      · rw [if_pos e, if_pos (by simp [e])]
      · rw [if_neg e, if_neg (by simp [e])]) l.length k 0 (by omega) (by omega)
  exact h

/-! ### spec_FollowsAt -/
def followsAt (e : List Bool) (l : List Mv) (f : List Bool) (m : List Mv) (x y : Int) : Bool :=
  within (movesFrom m y false) (movesFrom l x false) && (within (movesFrom l x true) (movesFrom m y true) && (decide (0 < (movesFrom m y true).length) == decide (0 < (movesFrom l x true).length) && (!(decide ((movesFrom m y false).length = 0) && decide (0 < (movesFrom l x false).length)) && (endAt e x || !endAt f y))))
theorem spec_l15Within_eq {a b : List Int} {k : Nat} (ha : a.length ≤ 1048576) (hb : b.length ≤ 1048576) (hk : a.length + b.length + 1 < k) : spec_l15Within.f k a b = some (within a b) := by
  unfold spec_l15Within.f
  have h := all_loop (g := fun k i => spec_l15Within.l0 k a b (i : Int)) (n := a.length) (B := b.length + 1) (ok := fun i => (fun x => b.any (· == x)) (nt 0 a i)) (fin := true) (fun k => by
      simp only [spec_l15Within.l0]; rw [if_neg (by omega)])
    (fun k i hi hk => by
      simp only [spec_l15Within.l0]
      rw [if_pos (by omega), if_pos (by omega), rd_cast, wrap_up (n := a.length) hi (by omega), spec_l9Has_eq (by omega) (by omega), Option.bind_some]) a.length k 0 (by omega) (by omega)
  exact (h.trans (congrArg (fun b => some (b && true)) (allFrom_all (fun x => b.any (· == x)) 0 a))).trans (by simp [within])
theorem spec_FollowsAt_eq {n n2 : Int} {e f : List Bool} {l m : List Mv} {x y : Int} {k : Nat} (he : e.length ≤ 1048576) (hf : f.length ≤ 1048576) (hl : l.length ≤ 1048576) (hm : m.length ≤ 1048576) (hk : 4000000 < k) : spec_FollowsAt.f k n e l n2 f m x y = some (followsAt e l f m x y) := by
  have a1 := movesFrom_len l x true
  have a2 := movesFrom_len l x false
  have a3 := movesFrom_len m y true
  have a4 := movesFrom_len m y false
  unfold spec_FollowsAt.f
  rw [spec_MovesFrom_eq (by omega) (by omega), Option.bind_some, spec_MovesFrom_eq (by omega) (by omega), Option.bind_some, spec_MovesFrom_eq (by omega) (by omega), Option.bind_some, spec_MovesFrom_eq (by omega) (by omega), Option.bind_some,
    spec_l15Within_eq (by omega) (by omega) (by omega), Option.bind_some, spec_l15Within_eq (by omega) (by omega) (by omega)]
  obtain ⟨k, rfl⟩ : ∃ k', k = k' + 1 := ⟨k - 1, by omega⟩
  have J : ∀ b, spec_FollowsAt.j0 (k + 1) x y b n e l n2 f m = some (if b = true then false else (endAt e x || !endAt f y)) := by
    intro b
    simp only [spec_FollowsAt.j0]
    cases b with
    | true => rfl
    | false =>
      rw [if_neg (by simp), if_neg (by simp), spec_l14End_eq hf, Option.bind_some, spec_l14End_eq he]
      cases endAt f y <;> cases endAt e x <;> rfl
  simp only [J, Option.bind_some]
  unfold followsAt
  cases within (movesFrom m y false) (movesFrom l x false) with
  | false => rfl
  | true =>
    cases within (movesFrom l x true) (movesFrom m y true) with
    | false => rfl
    | true =>
      simp only [if_true]
      have e1 : decide (((movesFrom m y true).length : Int) > 0) = decide (0 < (movesFrom m y true).length) := decide_eq_decide.2 (by omega)
      have e2 : decide (((movesFrom l x true).length : Int) > 0) = decide (0 < (movesFrom l x true).length) := decide_eq_decide.2 (by omega)
      have e3 : decide (((movesFrom l x false).length : Int) > 0) = decide (0 < (movesFrom l x false).length) := decide_eq_decide.2 (by omega)
      rw [e1, e2, e3]
      cases decide (0 < (movesFrom m y true).length) <;> cases decide (0 < (movesFrom l x true).length) <;> simp <;> by_cases q : movesFrom m y false = [] <;> simp [q] <;> cases decide (0 < (movesFrom l x false).length) <;> simp_all

/-! ### T_ll -/
theorem rdLL (l : List (List Int)) (i : Nat) : rd_L7 l (i : Int) = nt [] l i := by simp [rd_L7, nt]
theorem rd_nt0 (l : List Int) : rd l 0 = nt 0 l 0 := by simp [rd, nt]
theorem rd_nt1 (l : List Int) : rd l 1 = nt 0 l 1 := by simp [rd, nt]
theorem okPair_len {n m : Int} {p : List Int} (h : okPair n m p) : p.length = 2 := by
  obtain ⟨x, y, rfl, _⟩ := h
  rfl
theorem addAll_cons (out : List (List Int)) (p : List Int) (ps : List (List Int)) : addAll out (p :: ps) = addAll (addPair out p) ps := rfl
theorem addPair_len (out : List (List Int)) (p : List Int) : (addPair out p).length ≤ out.length + 1 := by
  unfold addPair; split
  · omega
  · rw [len_snoc]; omega

/-! ### T_follows -/
def followPairs (n : Int) (e : List Bool) (l : List Mv) (n2 : Int) (f : List Bool) (m : List Mv) : List (List Int) := if (isMachine n e l && isMachine n2 f m) = true then reach (nextFollowed l m) else []
theorem followPairs_good {n n2 : Int} {e f : List Bool} {l m : List Mv} (h : (isMachine n e l && isMachine n2 f m) = true) : goodPairs n n2 (followPairs n e l n2 f m) := by
  unfold followPairs
  rw [if_pos h]
  rw [Bool.and_eq_true] at h
  have h1 := machine_len h.1
  have h2 := machine_len h.2
  exact reach_good (okNext_follow h.1 h.2) h1.1 h2.1
theorem followPairs_len2 (n : Int) (e : List Bool) (l : List Mv) (n2 : Int) (f : List Bool) (m : List Mv) : (followPairs n e l n2 f m).length ≤ 36 ∧ ∀ p ∈ followPairs n e l n2 f m, p.length = 2 := by
  by_cases h : (isMachine n e l && isMachine n2 f m) = true
  · have hg := followPairs_good h
    rw [Bool.and_eq_true] at h
    have h1 := machine_len h.1
    have h2 := machine_len h.2
    exact ⟨good_len (by omega) (by omega) hg, fun p hp => okPair_len (hg.2 p hp)⟩
  · unfold followPairs
    rw [if_neg h]
    exact ⟨by simp, fun p hp => by cases hp⟩

/-! ### impl_reached -/
theorem impl_reached_any_eq (out : List (List Int)) (p : List Int) : impl_reached_any.f out p = some (decide (p ∈ out)) := by
  unfold impl_reached_any.f
  refine congrArg some ?_
  rw [Bool.eq_iff_iff, List.any_eq_true, decide_eq_true_eq]
  constructor
  · rintro ⟨x, hx, h⟩
    rw [decide_eq_true_eq] at h
    exact h ▸ hx
  · exact fun h => ⟨p, h, decide_eq_true rfl⟩
theorem impl_reached_l1 [inst_ : KEEP_impl_reached] {x4 : Int} {ps : List (List Int)} (hp : ps.length ≤ 1048576) : ∀ (d i k : Nat) (out : List (List Int)), i + d = ps.length → out.length + d ≤ 4194304 → d < k →
    impl_reached.l1 k out x4 ps (ps.length : Int) (i : Int) = impl_reached.l0 (k - d - 1) (addAll out (ps.drop i)) (wrap64 (x4 + 1)) := by
  intro d
  induction d with
  | zero =>
    intro i k out h _ hk
    obtain ⟨k, rfl⟩ := succ_of hk
    obtain rfl : i = ps.length := by omega
    simp only [impl_reached.l1]
    rw [if_neg (by omega), drop_end]; rfl
  | succ d ih =>
    intro i k out h ho hk
    obtain ⟨k, rfl⟩ := succ_of hk
    simp only [impl_reached.l1]
    rw [if_pos (by omega), if_pos (by omega), if_pos (by omega), rdLL, impl_reached_any_eq, Option.bind_some, wrap_up (n := ps.length) (by omega) (by omega), drop_step ps [] i (by omega), addAll_cons]
    have hl := addPair_len out (nt [] ps i)
    by_cases q : nt [] ps i ∈ out
    · rw [decide_eq_true q, if_pos rfl, ih (i + 1) k out (by omega) (by omega) (by omega)]
      unfold addPair; rw [if_pos q, show k + 1 - (d + 1) - 1 = k - d - 1 by omega]
    · rw [decide_eq_false q, if_neg (by simp), if_pos (by omega), ih (i + 1) k _ (by omega) (by rw [len_snoc]; omega) (by omega)]
      unfold addPair; rw [if_neg q, show k + 1 - (d + 1) - 1 = k - d - 1 by omega]
theorem impl_reached_l0 [inst_ : KEEP_impl_reached] {n m : Int} {nx : Int → Int → List (List Int)} {B : Nat} (hn : n ≤ 6) (hm : m ≤ 6) (hx : okNext n m nx) (hl : ∀ x y, (nx x y).length ≤ 100)
    (hf : ∀ x y k, 0 ≤ x → x < n → 0 ≤ y → y < m → B < k → KEEP_impl_reached.f k x y = some (nx x y)) : ∀ (d i k : Nat) (out : List (List Int)), goodPairs n m out → 37 ≤ i + d → B + 200 * d < k → impl_reached.l0 k out (i : Int) = some (reachFrom nx d i out) := by
  intro d
  induction d with
  | zero =>
    intro i k out hg hi hk
    obtain ⟨k, rfl⟩ := succ_of hk
    have := good_len hn hm hg
    simp only [impl_reached.l0]
    rw [if_neg (by omega)]; rfl
  | succ d ih =>
    intro i k out hg hi hk
    obtain ⟨k, rfl⟩ := succ_of hk
    simp only [impl_reached.l0, reachFrom]
    by_cases h : i < out.length
    · obtain ⟨e, h1, h2, h3, h4⟩ := good_at hg h
      have hL : (nt [] out i).length = 2 := by rw [e]; rfl
      have hlen := good_len hn hm hg
      have hln := hl (nt 0 (nt [] out i) 0) (nt 0 (nt [] out i) 1)
      rw [if_pos (by omega), if_pos (by omega), rdLL, if_pos (by omega), if_pos (by omega), rd_nt0, rd_nt1, hf _ _ k h1 h2 h3 h4 (by omega), Option.bind_some, if_pos h]
      have e1 := impl_reached_l1 (x4 := (i : Int)) (ps := nx (nt 0 (nt [] out i) 0) (nt 0 (nt [] out i) 1)) (by omega) (nx (nt 0 (nt [] out i) 0) (nt 0 (nt [] out i) 1)).length 0 k out (by omega) (by omega) (by omega)
      rw [List.drop_zero, wrap_up (n := out.length) h (by omega)] at e1
      exact e1.trans (ih (i + 1) _ _ (good_next hx hg h) (by omega) (by omega))
    · rw [if_neg (by omega), if_neg h]
theorem impl_reached_eq [inst_ : KEEP_impl_reached] {n m : Int} {nx : Int → Int → List (List Int)} {B k : Nat} (hn : 1 ≤ n ∧ n ≤ 6) (hm : 1 ≤ m ∧ m ≤ 6) (hx : okNext n m nx) (hl : ∀ x y, (nx x y).length ≤ 100)
    (hf : ∀ x y k, 0 ≤ x → x < n → 0 ≤ y → y < m → B < k → KEEP_impl_reached.f k x y = some (nx x y)) (hk : B + 8000 < k) : impl_reached.f k = some (reach nx) := by
  unfold impl_reached.f reach
  exact impl_reached_l0 hn.2 hm.2 hx hl hf 37 0 k [[0, 0]] (good_start hn.1 hm.1) (by omega) (by omega)

/-! ### impl_MoveOf -/
theorem impl_MoveOf_eq (n : Int) (e : List Bool) (l : List Mv) (a : Int) (s : Bool) (m : Int) : impl_MoveOf.f n e l a s m = some (moveOf l a s m) := rfl

/-! ### impl_nextFollowed -/
theorem impl_nextFollowed_l1 {n n2 : Int} {e f : List Bool} {l m : List Mv} {x y : Int} {s : Bool} {ws : List Bool} {z j : Int} {w : List Int} {acc : List (List Int)} {k : Nat} (hl : l.length ≤ 1048576) (hm : m.length ≤ 1048576) (hw : w.length ≤ 1048576) (ha : acc.length ≤ 1048576) (hk : 1048580 < k) :
    impl_nextFollowed.l1 k x y acc s ws z j w (w.length : Int) 0 n e l n2 f m = impl_nextFollowed.l0 (k - w.length - 1) x y (acc ++ (w.filter (followOk l m x y s)).map (followTo l m x y s)) ws z (wrap64 (j + 1)) n e l n2 f m := by
  have h := filter_inner (g := fun k acc i => impl_nextFollowed.l1 k x y acc s ws z j w (w.length : Int) (i : Int) n e l n2 f m) (l := w) (z := 0) (B := 0) (c := acc.length) (p := followOk l m x y s) (f := followTo l m x y s) (cont := fun k acc => impl_nextFollowed.l0 k x y acc ws z (wrap64 (j + 1)) n e l n2 f m) (fun k acc _ _ => by
      simp only [impl_nextFollowed.l1]; rw [if_neg (by omega)])
    (fun k i acc hi hk hacc => by
      simp only [impl_nextFollowed.l1]
      rw [if_pos (by omega), if_pos (by omega), if_pos (by omega), rd_cast, wrap_up (n := w.length) hi (by omega), impl_MoveOf_eq, Option.bind_some, impl_MoveOf_eq, Option.bind_some]
      unfold followOk followTo
      rcases moveOf_bnd l x s (nt 0 w i) with q | ⟨j2, e2, b2, _⟩
      · rw [if_neg (by omega), if_neg (by simp; omega)]
      · rcases moveOf_bnd m y s (nt 0 w i) with q | ⟨j3, e1, b1, _⟩
        · rw [if_pos (by omega), if_neg (by omega), if_neg (by simp; omega)]
        · rw [if_pos (by omega), if_pos (by omega), if_pos (by omega), if_pos (by omega), if_pos (by omega), if_pos (by omega), if_pos (by omega), if_pos (by simp; omega), e1, e2, rd_Mv, rd_Mv, toNat_cast, toNat_cast]) w.length k 0 acc (by omega) (by omega) (by omega)
  rw [List.drop_zero] at h
  exact h
theorem impl_nextFollowed_eq {n n2 : Int} {e f : List Bool} {l m : List Mv} {x y : Int} {k : Nat} (hl : l.length ≤ 1048576) (hm : m.length ≤ 1048576) (hk : 4000000 + 3000000 < k) : impl_nextFollowed.f k n e l n2 f m x y = some (nextFollowed l m x y) := by
  have a3 := movesFrom_len l x true
  have a4 := movesFrom_len m y false
  have c1 := List.length_filter_le (followOk l m x y true) (movesFrom l x true)
  unfold impl_nextFollowed.f
  rw [Option.bind_some]
  obtain ⟨k, rfl⟩ : ∃ k', k = k' + 2 := ⟨k - 2, by omega⟩
  have r0 : rdOf false [true, false] 0 = true := rfl
  have r1 : rdOf false [true, false] 1 = false := rfl
  have q0 : (([true, false] : List Bool).length : Int) = 2 := rfl
  simp only [impl_nextFollowed.l0, q0]
  rw [if_pos (by omega), if_pos (by omega), if_pos (by omega), impl_MovesFrom_eq (by omega) (by omega), Option.bind_some, r0, if_pos rfl]
  simp only [impl_nextFollowed.j1]
  rw [impl_nextFollowed_l1 hl hm (by omega) (by simp) (by omega)]
  obtain ⟨k2, e2⟩ : ∃ k2, k - (movesFrom l x true).length - 1 = k2 + 2 := ⟨k - (movesFrom l x true).length - 1 - 2, by omega⟩
  rw [e2, show wrap64 (0 + 1) = 1 by rw [wrap_id (by omega) (by omega)]; rfl]
  simp only [impl_nextFollowed.l0]
  rw [if_pos (by omega), if_pos (by omega), if_pos (by rw [q0]; omega), impl_MovesFrom_eq (by omega) (by omega), Option.bind_some, r1, if_neg (by simp), impl_MovesFrom_eq (by omega) (by omega), Option.bind_some]
  simp only [impl_nextFollowed.j1]
  rw [impl_nextFollowed_l1 hl hm (by omega) (by rw [List.nil_append, List.length_map]; omega) (by omega)]
  obtain ⟨k3, e3⟩ : ∃ k3, k2 - (movesFrom m y false).length - 1 = k3 + 1 := ⟨k2 - (movesFrom m y false).length - 1 - 1, by omega⟩
  rw [e3, show wrap64 (1 + 1) = 2 by rw [wrap_id (by omega) (by omega)]; rfl]
  simp only [impl_nextFollowed.l0]
  rw [if_neg (by omega), List.nil_append]; rfl

/-! ### impl_InRange -/
theorem impl_InRange_eq (a b c : Int) : impl_InRange.f a b c = some (decide (b ≤ a ∧ a ≤ c)) := by
  unfold impl_InRange.f
  by_cases h : b ≤ a
  · rw [if_pos h]; simp [h]
  · rw [if_neg h, decide_eq_false (by omega)]

/-! ### impl_IsMachine -/
theorem impl_IsMachine_l1 {n : Int} {e : List Bool} {l : List Mv} {i : Nat} (hi : i < l.length) (hl : l.length ≤ 12) {k : Nat} (hk : i < k) : impl_IsMachine.l1 k l (l.length : Int) (i : Int) (l.take i) ((l.take i).length : Int) 0 n e l (nt zMv l i).f0 (nt zMv l i).f1 (nt zMv l i).f2 (nt zMv l i).f3
    = if allFrom (fun j => !clashMv (nt zMv l j) (nt zMv l i)) 0 i = true then impl_IsMachine.l0 (k - i - 1) l (l.length : Int) ((i + 1 : Nat) : Int) n e l else some false := by
  have ht : (l.take i).length = i := by rw [List.length_take]; omega
  have hnt : ∀ j, j < i → nt zMv (l.take i) j = nt zMv l j := fun j hj => by rw [nt_lt _ _ _ (by omega), nt_lt _ _ _ (by omega), List.getElem_take]
  exact inner_loop (g := fun k j => impl_IsMachine.l1 k l (l.length : Int) (i : Int) (l.take i) ((l.take i).length : Int) (j : Int) n e l (nt zMv l i).f0 (nt zMv l i).f1 (nt zMv l i).f2 (nt zMv l i).f3) (n := i) (cont := fun k => impl_IsMachine.l0 k l (l.length : Int) ((i + 1 : Nat) : Int) n e l) (fun k => by
      simp only [impl_IsMachine.l1]; rw [if_neg (by omega), wrap_up (n := l.length) hi (by omega)])
    (fun k j hj => by
      simp only [impl_IsMachine.l1]
      rw [if_pos (by omega), if_pos (by omega), if_pos (by omega), rd_Mv, hnt j hj, wrap_up (n := i) hj (by omega)]
      by_cases h1 : (nt zMv l j).f0 = (nt zMv l i).f0
      · rw [if_pos h1]
        cases h2 : ((nt zMv l j).f1 == (nt zMv l i).f1) with
        | false => rw [if_pos (by simp only [bne, h2, Bool.not_false]), if_neg (by simp [clashMv, h1, h2])]
        | true =>
          rw [if_neg (by simp only [bne, h2, Bool.not_true]; simp)]
          by_cases h3 : (nt zMv l j).f2 = (nt zMv l i).f2
          · rw [if_pos h3, if_neg (by simp [clashMv, h1, h3])]
          · rw [if_neg h3, if_pos (by simp [clashMv, h2, h3])]
      · rw [if_neg h1, if_pos (by simp [clashMv, h1])]) i k 0 (by omega) (by omega)
theorem impl_IsMachine_l0 {n : Int} {e : List Bool} {l : List Mv} (hN : 1 ≤ n ∧ n ≤ 6) (hl : l.length ≤ 12) : ∀ (d k i : Nat), i + d = l.length → 20 * d + 20 < k → impl_IsMachine.l0 k l (l.length : Int) (i : Int) n e l
    = some (allFrom (fun i => okMv n (nt zMv l i) && allFrom (fun j => !clashMv (nt zMv l j) (nt zMv l i)) 0 i) i d) := by
  intro d
  induction d with
  | zero =>
    intro k i h hk
    obtain ⟨k, rfl⟩ := succ_of hk
    simp only [impl_IsMachine.l0]; rw [if_neg (by omega)]; rfl
  | succ d ih =>
    intro k i h hk
    obtain ⟨k, rfl⟩ : ∃ k', k = k' + 2 := ⟨k - 2, by omega⟩
    simp only [impl_IsMachine.l0]
    rw [if_pos (by omega), if_pos (by omega), if_pos (by omega), rd_Mv, wrap_id (x := n - 1) (by omega) (by omega)]
    simp only [impl_InRange_eq, Option.bind_some]
    have e1 : (decide (0 ≤ (nt zMv l i).f0 ∧ (nt zMv l i).f0 ≤ n - 1)) = inB (nt zMv l i).f0 0 (n - 1) := by simp [inB]
    have e2 : (decide (0 ≤ (nt zMv l i).f3 ∧ (nt zMv l i).f3 ≤ n - 1)) = inB (nt zMv l i).f3 0 (n - 1) := by simp [inB]
    have e3 : (decide (0 ≤ (nt zMv l i).f2 ∧ (nt zMv l i).f2 ≤ 5)) = inB (nt zMv l i).f2 0 5 := by simp [inB]
    simp only [e1, e2, e3, allFrom, okMv, impl_IsMachine.j2, Option.bind_some, toNat_cast]
    cases inB (nt zMv l i).f0 0 (n - 1) <;> cases inB (nt zMv l i).f3 0 (n - 1) <;> cases inB (nt zMv l i).f2 0 5 <;> simp only [Bool.false_eq_true, if_false, if_true, Bool.false_and, Bool.true_and, Bool.and_false, Bool.not_true, Bool.not_false]
    rw [if_pos (by omega), if_pos (by omega), impl_IsMachine_l1 (by omega) hl (by omega)]
    by_cases hc : allFrom (fun j => !clashMv (nt zMv l j) (nt zMv l i)) 0 i = true
    · rw [if_pos hc, hc, ih _ (i + 1) (by omega) (by omega)]; simp [okMv]
    · rw [if_neg hc]; simp only [Bool.not_eq_true] at hc; rw [hc]; rfl
theorem impl_IsMachine_eq {n : Int} {e : List Bool} {l : List Mv} {k : Nat} (hk : 1000 < k) : impl_IsMachine.f k n e l = some (isMachine n e l) := by
  unfold impl_IsMachine.f isMachine
  rw [impl_InRange_eq, Option.bind_some]
  obtain ⟨k, rfl⟩ := succ_of hk
  simp only [impl_IsMachine.j0]
  cases h1 : inB n 1 6 with
  | false => rw [if_neg (by simpa [inB] using h1), if_pos trivial]; rfl
  | true =>
    have hN : 1 ≤ n ∧ n ≤ 6 := by simpa [inB] using h1
    rw [if_pos (by simpa [inB] using h1)]
    by_cases h2 : (e.length : Int) = n
    · rw [if_pos h2]
      by_cases h3 : l.length ≤ 12
      · rw [if_neg (by simp; omega)]
        have h := impl_IsMachine_l0 (e := e) hN h3 l.length k 0 (by omega) (by omega)
        simpa [h2, h3] using h
      · rw [if_pos (by simp; omega)]; simp [h3]
    · rw [if_neg h2, if_pos trivial]; simp [h2]

/-! ### impl_FollowPairs -/
theorem impl_FollowPairs_eq {n n2 : Int} {e f : List Bool} {l m : List Mv} {k : Nat} (hl : l.length ≤ 1048576) (hm : m.length ≤ 1048576) (hk : 7010000 < k) : impl_FollowPairs.f k n e l n2 f m = some (followPairs n e l n2 f m) := by
  unfold impl_FollowPairs.f followPairs
  rw [impl_IsMachine_eq (by omega), Option.bind_some]
  cases h1 : isMachine n e l with
  | false => rw [if_neg (by simp), if_neg (by simp)]
  | true =>
    rw [if_pos rfl, impl_IsMachine_eq (by omega), Option.bind_some]
    cases h2 : isMachine n2 f m with
    | false => rw [if_neg (by simp), if_neg (by simp)]
    | true =>
      have a1 := machine_len h1
      have a2 := machine_len h2
      rw [if_pos rfl, if_pos (by simp)]
      unfold impl_FollowPairs_reach.f
      rw [@impl_reached_eq ⟨fun k_ x_ y_ => impl_nextFollowed.f k_ n e l n2 f m x_ y_, fun x_ y_ k_ => impl_nextFollowed.mono n e l n2 f m x_ y_ k_⟩ n n2 (nextFollowed l m) 7000000 k ⟨a1.1, a1.2.1⟩ ⟨a2.1, a2.2.1⟩ (okNext_follow h1 h2) (fun x y => by have := nextFollowed_len l m x y; omega) (fun x y k _ _ _ _ hk => impl_nextFollowed_eq hl hm (by omega)) (by omega), Option.bind_some]

/-! ### slices_Index_int_int -/
theorem slices_Index_int_int_eq {l : List Int} {n : Int} {k : Nat} (hl : l.length ≤ 9223372036854775807) (hk : l.length < k) : slices_Index_int_int.f k l n = some ((l.findIdx? (· == n)).elim (-1) fun j => (j : Int)) := by
  unfold slices_Index_int_int.f
  have h := find_loop (g := fun k i => slices_Index_int_int.l0 k l n (l.length : Int) (i : Int)) (l := l) (z := 0) (B := 0) (p := (· == n)) (hit := fun j => (j : Int)) (miss := (-1 : Int)) (fun k => by
      simp only [slices_Index_int_int.l0]; rw [if_neg (by omega)])
    (fun k i hi _ => by
      simp only [slices_Index_int_int.l0]
      rw [if_pos (by omega), if_pos (by omega), if_pos (by omega), wrap_up (n := l.length) hi hl, rd_cast]
      by_cases e : nt 0 l i = n
      · rw [if_pos e.symm, if_pos (by simp [e])]
      · rw [if_neg (fun h => e h.symm), if_neg (by simp [e])]) l.length k 0 (by omega) (by omega)
  simpa using h

/-! ### slices_Contains_int_int -/
theorem slices_Contains_int_int_eq {l : List Int} {n : Int} {k : Nat} (hl : l.length ≤ 9223372036854775807) (hk : l.length < k) : slices_Contains_int_int.f k l n = some (l.any (· == n)) := by
  unfold slices_Contains_int_int.f
  rw [slices_Index_int_int_eq hl hk, Option.bind_some, idx_any]

/-! ### impl_without2 -/
theorem impl_without_eq2 {a b : List Int} {k : Nat} (ha : a.length ≤ 1048576) (hb : b.length ≤ 1048576) (hk : a.length + b.length + 1 < k) : impl_without.f k a b = some (without a b) := by
  unfold impl_without.f
  have h := filter_loop (g := fun k acc i => impl_without.l0 k b acc a (a.length : Int) (i : Int)) (l := a) (z := 0) (B := b.length + 1) (p := fun x => !b.any (· == x)) (f := id) (fun k acc => by
      simp only [impl_without.l0]; rw [if_neg (by omega)])
    (fun k i acc hi hk hacc => by
      simp only [impl_without.l0]
      rw [if_pos (by omega), if_pos (by omega), if_pos (by omega), rd_cast, wrap_up (n := a.length) hi (by omega), slices_Contains_int_int_eq (by omega) (by omega), Option.bind_some]
      cases b.any (· == nt 0 a i) with
      | true => rfl
      | false => simp only [Bool.false_eq_true, if_false, Bool.not_false, if_true]; rw [if_pos (by omega)]; rfl) a.length k 0 [] (by omega) (by omega) (by simp)
  simpa [without] using h
theorem impl_isEnd_eq {n : Int} {e : List Bool} {l : List Mv} {x : Int} (he : e.length ≤ 1048576) : impl_isEnd.f n e l x = some (endAt e x) := by
  unfold impl_isEnd.f
  rw [wrap_id (by omega) (by omega), impl_InRange_eq, Option.bind_some, endAt_eq he]
  by_cases h : 0 ≤ x ∧ x < (e.length : Int)
  · rw [if_pos (by simp; omega), if_pos h.1, if_pos h.2, if_pos h, rdb_toNat e x h.1]
  · rw [if_neg (by simp; omega), if_neg h]

/-! ### impl_FollowsAt -/
theorem impl_FollowsAt_eq {n n2 : Int} {e f : List Bool} {l m : List Mv} {x y : Int} {k : Nat} (he : e.length ≤ 1048576) (hf : f.length ≤ 1048576) (hl : l.length ≤ 1048576) (hm : m.length ≤ 1048576) (hk : 4000000 < k) : impl_FollowsAt.f k n e l n2 f m x y = some (followsAt e l f m x y) := by
  have a1 := movesFrom_len l x true
  have a2 := movesFrom_len l x false
  have a3 := movesFrom_len m y true
  have a4 := movesFrom_len m y false
  unfold impl_FollowsAt.f
  rw [impl_MovesFrom_eq (by omega) (by omega), Option.bind_some, impl_MovesFrom_eq (by omega) (by omega), Option.bind_some, impl_MovesFrom_eq (by omega) (by omega), Option.bind_some, impl_MovesFrom_eq (by omega) (by omega), Option.bind_some,
    impl_without_eq2 (by omega) (by omega) (by omega), Option.bind_some, impl_without_eq2 (by omega) (by omega) (by omega)]
  obtain ⟨k, rfl⟩ : ∃ k', k = k' + 2 := ⟨k - 2, by omega⟩
  have J : ∀ k b, impl_FollowsAt.j1 (k + 1) x y b n e l n2 f m = some (if b = true then false else (endAt e x || !endAt f y)) := by
    intro k b
    simp only [impl_FollowsAt.j1]
    cases b with
    | true => rfl
    | false =>
      rw [if_neg (by simp), if_neg (by simp), impl_isEnd_eq he, Option.bind_some, impl_isEnd_eq hf]
      cases endAt f y <;> cases endAt e x <;> rfl
  simp only [impl_FollowsAt.j0, J, Option.bind_some]
  unfold followsAt
  have w1 := without_pos (movesFrom m y false) (movesFrom l x false)
  have w2 := without_pos (movesFrom l x true) (movesFrom m y true)
  cases h1 : within (movesFrom m y false) (movesFrom l x false) with
  | false => rw [if_pos (w1.2 h1)]; rfl
  | true =>
    rw [if_neg (fun q => by rw [w1.1 q] at h1; cases h1)]
    cases h2 : within (movesFrom l x true) (movesFrom m y true) with
    | false => rw [decide_eq_true (w2.2 h2)]; rfl
    | true =>
      rw [decide_eq_false (fun q => by rw [w2.1 q] at h2; cases h2)]
      have e1 : decide (((movesFrom m y true).length : Int) > 0) = decide (0 < (movesFrom m y true).length) := decide_eq_decide.2 (by omega)
      have e2 : decide (((movesFrom l x true).length : Int) > 0) = decide (0 < (movesFrom l x true).length) := decide_eq_decide.2 (by omega)
      have e3 : decide (((movesFrom l x false).length : Int) > 0) = decide (0 < (movesFrom l x false).length) := decide_eq_decide.2 (by omega)
      rw [e1, e2, e3]
      cases decide (0 < (movesFrom m y true).length) <;> cases decide (0 < (movesFrom l x true).length) <;> simp <;> by_cases q : movesFrom m y false = [] <;> simp [q] <;> cases decide (0 < (movesFrom l x false).length) <;> simp_all

/-! ### impl_Follows -/
def followsPair (e : List Bool) (l : List Mv) (f : List Bool) (m : List Mv) (p : List Int) : Bool := followsAt e l f m (nt 0 p 0) (nt 0 p 1)
def follows (n : Int) (e : List Bool) (l : List Mv) (n2 : Int) (f : List Bool) (m : List Mv) : Bool := isMachine n e l && (isMachine n2 f m && (followPairs n e l n2 f m).all (followsPair e l f m))
theorem impl_Follows_eq {n n2 : Int} {e f : List Bool} {l m : List Mv} {k : Nat} (he : e.length ≤ 1048576) (hf : f.length ≤ 1048576) (hl : l.length ≤ 1048576) (hm : m.length ≤ 1048576) (hk : 7020000 < k) : impl_Follows.f k n e l n2 f m = some (follows n e l n2 f m) := by
  unfold impl_Follows.f follows
  obtain ⟨k, rfl⟩ := succ_of hk
  rw [impl_IsMachine_eq (by omega), Option.bind_some]
  cases h1 : isMachine n e l with
  | false => simp only [impl_Follows.j0, Bool.false_eq_true, if_false, if_true, Bool.false_and]
  | true =>
    rw [if_pos rfl, impl_IsMachine_eq (by omega), Option.bind_some]
    cases h2 : isMachine n2 f m with
    | false => simp only [impl_Follows.j0, Bool.not_false, Bool.false_eq_true, if_false, if_true, Bool.false_and, Bool.and_false]
    | true =>
      simp only [impl_Follows.j0, Bool.not_true, Bool.false_eq_true, if_false, Bool.true_and]
      rw [impl_FollowPairs_eq hl hm (by omega), Option.bind_some]
      obtain ⟨P, hP⟩ : ∃ P, P = followPairs n e l n2 f m := ⟨_, rfl⟩
      have hb := followPairs_len2 n e l n2 f m
      rw [← hP] at hb ⊢
      have h := all_loop (g := fun k i => impl_Follows.l0 k P (P.length : Int) (i : Int) n e l n2 f m) (n := P.length) (B := 4000001) (ok := fun i => followsPair e l f m (nt [] P i)) (fin := true) (fun k => by
          simp only [impl_Follows.l0]; rw [if_neg (by omega)])
        (fun k i hi hk => by
          have h2 := hb.2 _ (nt_mem [] P i hi)
          simp only [impl_Follows.l0]
          rw [if_pos (by omega), if_pos (by omega), if_pos (by omega), rdLL, if_pos (by omega), if_pos (by omega), rd_nt0, rd_nt1, impl_FollowsAt_eq he hf hl hm (by omega), Option.bind_some, wrap_up (n := P.length) hi (by omega)]; rfl) P.length k 0 (by omega) (by omega)
      rw [allFrom_all (fun p => followsPair e l f m p), Bool.and_true] at h
      exact h

/-! ### T_chain -/
theorem within_iff {a b : List Int} : within a b = true ↔ ∀ v ∈ a, v ∈ b := by
  unfold within
  rw [List.all_eq_true]
  constructor
  · intro h v hv
    obtain ⟨x, hx, hq⟩ := List.any_eq_true.1 (h v hv)
    rw [← eq_of_beq hq]; exact hx
  · intro h v hv
    exact List.any_eq_true.2 ⟨v, h v hv, by simp⟩
/-- What followsAt tells. -/
def FAt (e : List Bool) (l : List Mv) (f : List Bool) (m : List Mv) (x y : Int) : Prop :=
  (∀ v, 0 ≤ moveOf m y false v → 0 ≤ moveOf l x false v) ∧ (∀ v, 0 ≤ moveOf l x true v → 0 ≤ moveOf m y true v) ∧ ((∃ v, 0 ≤ moveOf m y true v) ↔ ∃ v, 0 ≤ moveOf l x true v) ∧ ((∃ v, 0 ≤ moveOf l x false v) → ∃ v, 0 ≤ moveOf m y false v) ∧ (endAt f y = true → endAt e x = true)
theorem ex_moves (l : List Mv) (x : Int) (s : Bool) : 0 < (movesFrom l x s).length ↔ ∃ v, 0 ≤ moveOf l x s v := by
  constructor
  · intro h
    exact ⟨nt 0 (movesFrom l x s) 0, (moveOf_any l x s _).2 (nt_mem 0 _ 0 h)⟩
  · rintro ⟨v, hv⟩
    exact List.length_pos_of_mem ((moveOf_any l x s v).1 hv)
theorem followsAt_iff {e : List Bool} {l : List Mv} {f : List Bool} {m : List Mv} {x y : Int} : followsAt e l f m x y = true ↔ FAt e l f m x y := by
  unfold followsAt FAt
  rw [Bool.and_eq_true, Bool.and_eq_true, Bool.and_eq_true, Bool.and_eq_true, within_iff, within_iff]
  have e1 : (decide (0 < (movesFrom m y true).length) == decide (0 < (movesFrom l x true).length)) = true ↔ ((∃ v, 0 ≤ moveOf m y true v) ↔ ∃ v, 0 ≤ moveOf l x true v) := by
    rw [← ex_moves, ← ex_moves, beq_iff_eq, decide_eq_decide]
  have e2 : (!(decide ((movesFrom m y false).length = 0) && decide (0 < (movesFrom l x false).length))) = true ↔ ((∃ v, 0 ≤ moveOf l x false v) → ∃ v, 0 ≤ moveOf m y false v) := by
    rw [← ex_moves, ← ex_moves]
    generalize (movesFrom m y false).length = a
    generalize (movesFrom l x false).length = b
    by_cases h1 : a = 0
    · by_cases h2 : 0 < b
      · rw [decide_eq_true h1, decide_eq_true h2]; simp; omega
      · rw [decide_eq_true h1, decide_eq_false h2]; simp; omega
    · rw [decide_eq_false h1]; simp; omega
  have e3 : (endAt e x || !endAt f y) = true ↔ (endAt f y = true → endAt e x = true) := by
    cases endAt e x <;> cases endAt f y <;> simp
  have m1 : (∀ v ∈ movesFrom m y false, v ∈ movesFrom l x false) ↔ ∀ v, 0 ≤ moveOf m y false v → 0 ≤ moveOf l x false v :=
    ⟨fun h v hv => (moveOf_any _ _ _ _).2 (h v ((moveOf_any _ _ _ _).1 hv)), fun h v hv => (moveOf_any _ _ _ _).1 (h v ((moveOf_any _ _ _ _).2 hv))⟩
  have m2 : (∀ v ∈ movesFrom l x true, v ∈ movesFrom m y true) ↔ ∀ v, 0 ≤ moveOf l x true v → 0 ≤ moveOf m y true v :=
    ⟨fun h v hv => (moveOf_any _ _ _ _).2 (h v ((moveOf_any _ _ _ _).1 hv)), fun h v hv => (moveOf_any _ _ _ _).1 (h v ((moveOf_any _ _ _ _).2 hv))⟩
  rw [e1, e2, e3, m1, m2]
theorem FAt.refl (e : List Bool) (l : List Mv) (x : Int) : FAt e l e l x x := ⟨fun _ h => h, fun _ h => h, Iff.rfl, fun h => h, fun h => h⟩
theorem FAt.trans {e f g : List Bool} {l m k : List Mv} {x y z : Int} (h : FAt e l f m x y) (j : FAt f m g k y z) : FAt e l g k x z :=
  ⟨fun v hv => h.1 v (j.1 v hv), fun v hv => j.2.1 v (h.2.1 v hv), j.2.2.1.trans h.2.2.1, fun hv => j.2.2.2.1 (h.2.2.2.1 hv), fun hv => h.2.2.2.2 (j.2.2.2.2 hv)⟩
/-- A machine follows another one: both are machines, and at every pair that is reached. -/
theorem follows_iff {n n2 : Int} {e f : List Bool} {l m : List Mv} : follows n e l n2 f m = true ↔ isMachine n e l = true ∧ isMachine n2 f m = true ∧ ∀ p, Rch (nextFollowed l m) p → FAt e l f m (nt 0 p 0) (nt 0 p 1) := by
  unfold follows
  rw [Bool.and_eq_true, Bool.and_eq_true, List.all_eq_true]
  constructor
  · rintro ⟨h1, h2, h3⟩
    refine ⟨h1, h2, fun p hp => ?_⟩
    have a1 := machine_len h1
    have a2 := machine_len h2
    have hm : p ∈ followPairs n e l n2 f m := by
      unfold followPairs
      rw [if_pos (by rw [h1, h2]; rfl)]
      exact (reach_iff ⟨a1.1, a1.2.1⟩ ⟨a2.1, a2.2.1⟩ (okNext_follow h1 h2) p).2 hp
    exact followsAt_iff.1 (h3 p hm)
  · rintro ⟨h1, h2, h3⟩
    have a1 := machine_len h1
    have a2 := machine_len h2
    refine ⟨h1, h2, fun p hp => followsAt_iff.2 (h3 p ?_)⟩
    unfold followPairs at hp
    rw [if_pos (by rw [h1, h2]; rfl)] at hp
    exact (reach_iff ⟨a1.1, a1.2.1⟩ ⟨a2.1, a2.2.1⟩ (okNext_follow h1 h2) p).1 hp
theorem Rch_two {nx : Int → Int → List (List Int)} (h : ∀ x y, ∀ p ∈ nx x y, ∃ a b : Int, p = [a, b]) {p : List Int} (hp : Rch nx p) : ∃ a b : Int, p = [a, b] := by
  cases hp with
  | start => exact ⟨0, 0, rfl⟩
  | step _ hq => exact h _ _ _ hq
theorem follow_two (l m : List Mv) (x y : Int) : ∀ p ∈ nextFollowed l m x y, ∃ a b : Int, p = [a, b] := by
  intro p hp
  obtain ⟨s, v, _, rfl⟩ := nextFollowed_mem.1 hp
  exact ⟨_, _, rfl⟩
theorem follows_refl {n : Int} {e : List Bool} {l : List Mv} (h : isMachine n e l = true) : follows n e l n e l = true := by
  refine follows_iff.2 ⟨h, h, fun p hp => ?_⟩
  have hd : nt 0 p 0 = nt 0 p 1 := by
    induction hp with
    | start => rfl
    | step _ hq ih =>
      rename_i p0 q0 _
      obtain ⟨s, v, _, rfl⟩ := nextFollowed_mem.1 hq
      unfold followTo
      rw [ih]; rfl
  rw [hd]; exact FAt.refl _ _ _
/-- To a pair that is reached between the newest and the eldest there is a state of the one between. -/
theorem follows_mid {e f g : List Bool} {l m k : List Mv} (h1 : ∀ p, Rch (nextFollowed l m) p → FAt e l f m (nt 0 p 0) (nt 0 p 1)) (h2 : ∀ p, Rch (nextFollowed m k) p → FAt f m g k (nt 0 p 0) (nt 0 p 1)) {p : List Int} (hp : Rch (nextFollowed l k) p) :
    ∃ b : Int, Rch (nextFollowed l m) [nt 0 p 0, b] ∧ Rch (nextFollowed m k) [b, nt 0 p 1] := by
  induction hp with
  | start => exact ⟨0, .start, .start⟩
  | step _ hq ih =>
    rename_i p0 q0 _
    obtain ⟨b, r1, r2⟩ := ih
    obtain ⟨s, v, hk, rfl⟩ := nextFollowed_mem.1 hq
    have f1 := h1 _ r1
    have f2 := h2 _ r2
    simp only [followOk, Bool.and_eq_true, decide_eq_true_eq] at hk
    have n0 : ∀ a c : Int, nt 0 [a, c] 0 = a := fun _ _ => rfl
    have n1 : ∀ a c : Int, nt 0 [a, c] 1 = c := fun _ _ => rfl
    rw [n0, n1] at f1 f2
    have hb : 0 ≤ moveOf m b s v := by
      cases s with
      | true => exact f1.2.1 v hk.1
      | false => exact f2.1 v hk.2
    refine ⟨(nt zMv m (moveOf m b s v).toNat).f3, ?_, ?_⟩
    · refine Rch.step r1 (nextFollowed_mem.2 ⟨s, v, ?_, ?_⟩)
      · simp only [followOk, n0, n1, Bool.and_eq_true, decide_eq_true_eq]; exact ⟨hk.1, hb⟩
      · rfl
    · refine Rch.step r2 (nextFollowed_mem.2 ⟨s, v, ?_, ?_⟩)
      · simp only [followOk, n0, n1, Bool.and_eq_true, decide_eq_true_eq]; exact ⟨hb, hk.2⟩
      · rfl
theorem follows_trans {n n2 n3 : Int} {e f g : List Bool} {l m k : List Mv} (h1 : follows n e l n2 f m = true) (h2 : follows n2 f m n3 g k = true) : follows n e l n3 g k = true := by
  rw [follows_iff] at h1 h2 ⊢
  refine ⟨h1.1, h2.2.1, fun p hp => ?_⟩
  obtain ⟨b, r1, r2⟩ := follows_mid h1.2.2 h2.2.2 hp
  have q1 : FAt e l f m (nt 0 p 0) b := h1.2.2 _ r1
  have q2 : FAt f m g k b (nt 0 p 1) := h2.2.2 _ r2
  exact FAt.trans q1 q2

/-! ### T_draw -/
theorem and_byte (x : Int) : 0 ≤ Go.bits .and .i64 x 255 ∧ Go.bits .and .i64 x 255 ≤ 255 := by
  have h : (BitVec.ofInt 64 x &&& BitVec.ofInt 64 255).toNat ≤ 255 := by
    rw [BitVec.toNat_and]
    exact Nat.le_trans Nat.and_le_right (by decide)
  have e : Go.bits .and .i64 x 255 = IntKind.i64.wrap ((BitVec.ofInt 64 x &&& BitVec.ofInt 64 255).toNat : Int) := rfl
  rw [e, IntKind.wrap_i64]; omega
theorem draw_new {l : List Int} {k : Nat} (hl : l.length ≤ 1048576) (hk : l.length < k) : ∃ s, spec_l1New.f k l = some (l, 0, s) := by
  unfold spec_l1New.f
  have h : ∀ (d k i : Nat) (s : Int), i + d = l.length → d < k → ∃ s', spec_l1New.l0 k l s (i : Int) = some (l, 0, s') := by
    intro d
    induction d with
    | zero =>
      intro k i s hi hk
      obtain ⟨k, rfl⟩ := succ_of hk
      simp only [spec_l1New.l0]
      rw [if_neg (by omega)]; exact ⟨_, rfl⟩
    | succ d ih =>
      intro k i s hi hk
      obtain ⟨k, rfl⟩ := succ_of hk
      simp only [spec_l1New.l0]
      rw [if_pos (by omega)]
      by_cases q : (i : Int) < 4000
      · rw [if_pos q, if_pos (by omega), wrap_up (n := l.length) (by omega) (by omega)]
        exact ih k (i + 1) _ (by omega) (by omega)
      · rw [if_neg q]; exact ⟨_, rfl⟩
  exact h l.length k 0 _ (by omega) hk
theorem draw_byte {l : List Int} {i s : Int} (hl : l.length ≤ 1048576) (hi : 0 ≤ i) : ∃ b j t, spec_l1Byte.f l i s = some (b, j, t) ∧ 0 ≤ b ∧ b ≤ 255 ∧ 0 ≤ j := by
  unfold spec_l1Byte.f
  by_cases q : i < (l.length : Int)
  · rw [if_pos q, if_pos hi]
    exact ⟨_, _, _, rfl, (and_byte _).1, (and_byte _).2, by rw [wrap_id (by omega) (by omega)]; omega⟩
  · rw [if_neg q]
    exact ⟨_, _, _, rfl, (and_byte _).1, (and_byte _).2, hi⟩
theorem draw_below {l : List Int} {i s n : Int} (hl : l.length ≤ 1048576) (hi : 0 ≤ i) (h0 : 0 < n) (h1 : n ≤ 256) : ∃ v j t, spec_l1Below.f l i s n = some (v, j, t) ∧ 0 ≤ v ∧ v < n ∧ 0 ≤ j := by
  unfold spec_l1Below.f
  obtain ⟨b, j, t, e, b0, b1, j0⟩ := draw_byte (s := s) hl hi
  rw [if_neg (by omega), if_pos h1, e, Option.bind_some, if_neg (by omega)]
  refine ⟨_, _, _, rfl, Int.tmod_nonneg _ b0, ?_, j0⟩
  exact Int.tmod_lt_of_pos _ h0

/-! ### spec_MoveOf -/
theorem spec_MoveOf_eq {n : Int} {e : List Bool} {l : List Mv} {a : Int} {s : Bool} {m : Int} {k : Nat} (hl : l.length ≤ 1048576) (hk : l.length < k) : spec_MoveOf.f k n e l a s m = some (moveOf l a s m) := by
  unfold spec_MoveOf.f
  have h := find_loop (g := fun k i => spec_MoveOf.l0 k a s m (i : Int) n e l) (l := l) (z := zMv) (B := 0) (p := keyMv a s m) (hit := fun i => (i : Int)) (miss := -1) (fun k => by
      simp only [spec_MoveOf.l0]; rw [if_neg (by omega)])
    (fun k i hi _ => by
      simp only [spec_MoveOf.l0]
      rw [if_pos (by omega), if_pos (by omega), rd_Mv, wrap_up (n := l.length) hi (by omega)]
      by_cases h1 : (nt zMv l i).f0 = a
      · rw [if_pos h1]
        cases h2 : ((nt zMv l i).f1 == s) with
        | true =>
          rw [if_pos rfl]
          by_cases h3 : (nt zMv l i).f2 = m
          · rw [if_pos h3, if_pos (by simp [keyMv, h1, h2, h3])]
          · rw [if_neg h3, if_neg (by simp [keyMv, h3])]
        | false => rw [if_neg (by simp), if_neg (by simp [keyMv, h2])]
      · rw [if_neg h1, if_neg (by simp [keyMv, h1])]) l.length k 0 (by omega) (by omega)
  simpa [moveOf] using h

/-! ### spec_l13Draw -/
/-- Every message is small. -/
def smallMs (l : List Mv) : Prop := ∀ x ∈ l, -1 ≤ x.f2 ∧ x.f2 ≤ 6
theorem small_snoc {l : List Mv} {x : Mv} (h : smallMs l) (h0 : -1 ≤ x.f2) (h1 : x.f2 ≤ 6) : smallMs (l ++ [x]) := by
  intro y hy
  rcases List.mem_append.1 hy with hy | hy
  · exact h y hy
  · rw [List.mem_singleton] at hy; rw [hy]; exact ⟨h0, h1⟩
theorem draw_once {st : List Int} {i s n : Int} (hl : st.length ≤ 1048576) (hi : 0 ≤ i) (h0 : 0 < n) (h1 : n ≤ 256) : ∃ v j t, spec_l1Once.f st i s n = some (v, j, t) ∧ 0 ≤ j := by
  unfold spec_l1Once.f
  obtain ⟨v, j, t, e, _, _, j0⟩ := draw_below (s := s) (n := n) hl hi h0 h1
  rw [e, Option.bind_some]
  exact ⟨_, _, _, rfl, j0⟩
def GoodM (n : Int) (e : List Bool) (l : List Mv) : Prop := 1 ≤ n ∧ n ≤ 4 ∧ e.length ≤ 4 ∧ l.length ≤ 12 ∧ smallMs l
theorem draw_l13_l1 {st : List Int} (hs : st.length ≤ 1048576) {n : Int} (hn : 1 ≤ n ∧ n ≤ 4) {x : Nat} (hx : (x : Int) < n) {b : Bool} {c : Nat} (hc : c ≤ 3)
    (ih : ∀ (k : Nat) (e : List Bool) (l : List Mv) (i s : Int), 0 ≤ i → e.length = x + 1 → l.length ≤ 3 * (x + 1) → smallMs l → 200 * (4 - (x + 1)) + 100 < k → ∃ e' l' j t, spec_l13Draw.l0 k ((x + 1 : Nat) : Int) st i s n e l = some (n, e', l', j, t) ∧ GoodM n e' l' ∧ 0 ≤ j) :
    ∀ (d y k : Nat) (e : List Bool) (l : List Mv) (i s : Int), y + d = c → 0 ≤ i → e.length = x → l.length ≤ 3 * x + y → smallMs l → 200 * (4 - (x + 1)) + 120 + d < k → ∃ e' l' j t, spec_l13Draw.l1 k (x : Int) b (c : Int) (y : Int) st i s n e l = some (n, e', l', j, t) ∧ GoodM n e' l' ∧ 0 ≤ j := by
  intro d
  induction d with
  | zero =>
    intro y k e l i s hy hi he hl hm hk
    obtain ⟨k, rfl⟩ := succ_of hk
    simp only [spec_l13Draw.l1]
    rw [if_neg (by omega), wrap_id (x := (x : Int) + 1) (by omega) (by omega), show (x : Int) + 1 = ((x + 1 : Nat) : Int) by omega]
    by_cases q : (c : Int) = 0
    · rw [if_pos q, if_pos (by omega)]
      exact ih k _ l i s hi (by rw [List.length_append, List.length_singleton]; omega) (by omega) hm (by omega)
    · rw [if_neg q]
      obtain ⟨v, j, t, e1, j0⟩ := draw_once (s := s) (n := 4) hs hi (by omega) (by omega)
      rw [e1, Option.bind_some, if_pos (by omega)]
      exact ih k _ l j t j0 (by rw [List.length_append, List.length_singleton]; omega) (by omega) hm (by omega)
  | succ d ihd =>
    intro y k e l i s hy hi he hl hm hk
    obtain ⟨k, rfl⟩ := succ_of hk
    simp only [spec_l13Draw.l1]
    obtain ⟨v, j, t, e1, v0, v1, j0⟩ := draw_below (s := s) (n := 3) hs hi (by omega) (by omega)
    obtain ⟨w, j2, t2, e2, w0, w1, j1⟩ := draw_below (s := t) (n := n) hs j0 (by omega) (by omega)
    rw [if_pos (by omega), e1, Option.bind_some]
    dsimp only
    rw [e2, Option.bind_some]
    dsimp only
    rw [spec_MoveOf_eq (by omega) (by omega), Option.bind_some, wrap_id (x := (y : Int) + 1) (by omega) (by omega), show (y : Int) + 1 = ((y + 1 : Nat) : Int) by omega]
    by_cases q : moveOf l (x : Int) b v < 0
    · rw [if_pos q, if_pos (by omega)]
      exact ihd (y + 1) k e _ j2 t2 (by omega) j1 he (by rw [List.length_append, List.length_singleton]; omega) (small_snoc hm (by dsimp only; omega) (by dsimp only; omega)) (by omega)
    · rw [if_neg q]
      exact ihd (y + 1) k e l j2 t2 (by omega) j1 he (by omega) hm (by omega)
theorem draw_l13_l0 {st : List Int} (hs : st.length ≤ 1048576) {n : Int} (hn : 1 ≤ n ∧ n ≤ 4) : ∀ (d x k : Nat) (e : List Bool) (l : List Mv) (i s : Int), x + d = 4 → (x : Int) ≤ n → 0 ≤ i → e.length = x → l.length ≤ 3 * x → smallMs l → 200 * d + 100 < k → ∃ e' l' j t, spec_l13Draw.l0 k (x : Int) st i s n e l = some (n, e', l', j, t) ∧ GoodM n e' l' ∧ 0 ≤ j := by
  intro d
  induction d with
  | zero =>
    intro x k e l i s hd hx hi he hl hm hk
    obtain ⟨k, rfl⟩ := succ_of hk
    simp only [spec_l13Draw.l0]
    rw [if_neg (by omega)]
    exact ⟨_, _, _, _, rfl, ⟨hn.1, hn.2, by omega, by omega, hm⟩, hi⟩
  | succ d ih =>
    intro x k e l i s hd hx hi he hl hm hk
    obtain ⟨k, rfl⟩ := succ_of hk
    simp only [spec_l13Draw.l0]
    by_cases q : (x : Int) < n
    · rw [if_pos q]
      obtain ⟨b, j, t, e1, j0⟩ := draw_once (s := s) (n := 2) hs hi (by omega) (by omega)
      obtain ⟨v, j2, t2, e2, v0, v1, j1⟩ := draw_below (s := t) (n := 3) hs j0 (by omega) (by omega)
      rw [e1, Option.bind_some]
      dsimp only
      rw [e2, Option.bind_some]
      dsimp only
      have key : ∀ (c : Nat) (k : Nat) (i s : Int), c ≤ 3 → 0 ≤ i → 200 * d + 290 < k → ∃ e' l' j t, spec_l13Draw.j1 k (x : Int) b (c : Int) st i s n e l = some (n, e', l', j, t) ∧ GoodM n e' l' ∧ 0 ≤ j := by
        intro c k i s hc hi hk
        obtain ⟨k, rfl⟩ := succ_of hk
        simp only [spec_l13Draw.j1]
        exact draw_l13_l1 hs hn q hc (fun k e l i s hi he hl hm hk => ih (x + 1) k e l i s (by omega) (by omega) hi he hl hm (by omega)) c 0 k e l i s (by omega) hi he (by omega) hm (by omega)
      by_cases q0 : (x : Int) = 0
      · rw [if_pos q0]
        obtain ⟨w, j3, t3, e3, w0, w1, j4⟩ := draw_below (s := t2) (n := 2) hs j1 (by omega) (by omega)
        rw [e3, Option.bind_some]
        dsimp only
        obtain ⟨c, rfl⟩ : ∃ c : Nat, w = c := ⟨w.toNat, by omega⟩
        rw [wrap_id (by omega) (by omega), show (1 : Int) + c = ((1 + c : Nat) : Int) by omega]
        exact key (1 + c) k j3 t3 (by omega) j4 (by omega)
      · rw [if_neg q0]
        obtain ⟨c, rfl⟩ : ∃ c : Nat, v = c := ⟨v.toNat, by omega⟩
        exact key c k j2 t2 (by omega) j1 (by omega)
    · rw [if_neg q]
      exact ⟨_, _, _, _, rfl, ⟨hn.1, hn.2, by omega, by omega, hm⟩, hi⟩
theorem draw_l13 {st : List Int} {k : Nat} {i s : Int} (hs : st.length ≤ 1048576) (hi : 0 ≤ i) (hk : 1000 < k) : ∃ n e l j t, spec_l13Draw.f k st i s = some (n, e, l, j, t) ∧ GoodM n e l ∧ 0 ≤ j := by
  unfold spec_l13Draw.f
  obtain ⟨v, j, t, e1, v0, v1, j0⟩ := draw_below (s := s) (n := 4) hs hi (by omega) (by omega)
  rw [e1, Option.bind_some]
  dsimp only
  rw [wrap_id (by omega) (by omega)]
  obtain ⟨e', l', j2, t2, h1, h2, h3⟩ := draw_l13_l0 hs (n := 1 + v) (by omega) 4 0 k [] [] j t (by omega) (by omega) j0 rfl (by simp) (fun x hx => by simp at hx) (by omega)
  exact ⟨_, _, _, _, _, h1, h2, h3⟩

/-! ### T_dual -/
def flipMv (x : Mv) : Mv := ⟨x.f0, !x.f1, x.f2, x.f3⟩

/-! ### T_RunMachine -/
theorem moveOf_bound (l : List Mv) (a : Int) (s : Bool) (m : Int) : moveOf l a s m < 0 ∨ ∃ j : Nat, moveOf l a s m = j ∧ j < l.length ∧ keyMv a s m (nt zMv l j) = true := by
  rcases idx_elim_nonneg (keyMv a s m) l zMv with ⟨h, _⟩ | ⟨j, h1, h2, h3, _⟩
  · exact .inl h
  · exact .inr ⟨j, h1, h2, h3⟩
/-- The message of a word's number. -/
def msgOf (n : Int) : Int := if n < 0 then -(n + 1) else n
/-- A word run from state s on. -/
def runFrom (l : List Mv) : Int → List Int → Int
  | s, [] => s
  | s, n :: w => if moveOf l s (decide (n ≥ 0)) (msgOf n) < 0 then -1 else runFrom l (nt zMv l (moveOf l s (decide (n ≥ 0)) (msgOf n)).toNat).f3 w
def runMachine (n : Int) (e : List Bool) (l : List Mv) (w : List Int) : Int := if isMachine n e l && decide (w.length ≤ 20) then runFrom l 0 w else -1
theorem msg_spec {n : Int} (h : -9223372036854775808 ≤ n ∧ n ≤ 9223372036854775807) (hn : n < 0) : wrap64 (-(wrap64 (n + 1))) = msgOf n := by
  unfold msgOf; rw [if_pos hn, wrap_id (x := n + 1) (by omega) (by omega), wrap_id (by omega) (by omega)]
theorem msg_impl {n : Int} (h : -9223372036854775808 ≤ n ∧ n ≤ 9223372036854775807) (hn : n < 0) : wrap64 (wrap64 (-n) - 1) = msgOf n := by
  unfold msgOf; rw [if_pos hn]
  unfold wrap64; omega

/-! ### T_dualM -/
theorem key_flip (a : Int) (s : Bool) (m : Int) (x : Mv) : keyMv a (!s) m (flipMv x) = keyMv a s m x := by
  unfold keyMv flipMv
  cases s <;> cases x.f1 <;> rfl
theorem moveOf_flip (l : List Mv) (a : Int) (s : Bool) (m : Int) : moveOf (l.map flipMv) a (!s) m = moveOf l a s m := by
  unfold moveOf
  rw [List.findIdx?_map, show (keyMv a (!s) m ∘ flipMv) = keyMv a s m from funext fun x => key_flip a s m x]
theorem nt_flip {l : List Mv} {i : Nat} (h : i < l.length) : nt zMv (l.map flipMv) i = flipMv (nt zMv l i) := by
  rw [nt_lt _ _ _ (by rw [List.length_map]; exact h), nt_lt _ _ _ h, List.getElem_map]
theorem clash_flip (x y : Mv) : clashMv (flipMv x) (flipMv y) = clashMv x y := by
  unfold clashMv flipMv
  cases x.f1 <;> cases y.f1 <;> rfl
theorem isMachine_flip (n : Int) (e : List Bool) (l : List Mv) : isMachine n e (l.map flipMv) = isMachine n e l := by
  unfold isMachine
  rw [List.length_map]
  congr 3
  refine allFrom_congr _ _ fun i _ hi => ?_
  rw [nt_flip (by omega)]
  congr 1
  refine allFrom_congr _ _ fun j _ hj => ?_
  rw [nt_flip (by omega), clash_flip]
def negW (w : List Int) : List Int := w.map fun v => -(v + 1)
theorem msg_neg (n : Int) : msgOf (-(n + 1)) = msgOf n := by
  unfold msgOf
  split <;> split <;> omega
theorem run_flip (l : List Mv) : ∀ (w : List Int) (s : Int), runFrom (l.map flipMv) s (negW w) = runFrom l s w
  | [], _ => rfl
  | n :: w, s => by
    have ih := run_flip l w
    have e : decide (-(n + 1) ≥ 0) = !decide (n ≥ 0) := by
      by_cases q : n ≥ 0
      · rw [decide_eq_true q, decide_eq_false (by omega)]; rfl
      · rw [decide_eq_false q, decide_eq_true (by omega)]; rfl
    unfold negW at ih ⊢
    simp only [List.map_cons, runFrom]
    rw [e, msg_neg, moveOf_flip]
    by_cases q : moveOf l s (decide (n ≥ 0)) (msgOf n) < 0
    · rw [if_pos q, if_pos q]
    · rw [if_neg q, if_neg q]
      rcases moveOf_bound l s (decide (n ≥ 0)) (msgOf n) with h | ⟨j, hj, hl, _⟩
      · exact absurd h q
      · rw [hj, toNat_cast, nt_flip hl]
        exact ih _
theorem runMachine_flip (n : Int) (e : List Bool) (l : List Mv) (w : List Int) : runMachine n e (l.map flipMv) (negW w) = runMachine n e l w := by
  unfold runMachine
  rw [isMachine_flip, run_flip, show (negW w).length = w.length from List.length_map ..]
theorem flipMv_two (l : List Mv) : (l.map flipMv).map flipMv = l := by
  rw [List.map_map]
  have : (flipMv ∘ flipMv) = id := funext fun x => by cases x; simp [flipMv]
  rw [this, List.map_id]

/-! ### spec_DualOf -/
theorem spec_DualOf_eq {n : Int} {e : List Bool} {l : List Mv} {k : Nat} (he : e.length ≤ 1048576) (hl : l.length ≤ 1048576) (hk : l.length < k) : spec_DualOf.f k n e l = some (n, e, l.map flipMv) := by
  unfold spec_DualOf.f
  rw [Option.bind_some, if_pos (by rw [List.length_nil]; omega), List.nil_append]
  have h : ∀ (d k i : Nat) (acc : List Mv), i + d = l.length → d < k → acc.length ≤ i → spec_DualOf.l0 k (i : Int) n e l n e acc = some (n, e, acc ++ (l.drop i).map flipMv) := by
    intro d
    induction d with
    | zero =>
      intro k i acc hi hk ha
      obtain ⟨k, rfl⟩ := succ_of hk
      obtain rfl : i = l.length := by omega
      simp only [spec_DualOf.l0]
      rw [if_neg (by omega), drop_end]; simp
    | succ d ih =>
      intro k i acc hi hk ha
      obtain ⟨k, rfl⟩ := succ_of hk
      simp only [spec_DualOf.l0]
      rw [if_pos (by omega), if_pos (by omega), if_pos (by omega), wrap_up (n := l.length) (by omega) (by omega), rd_Mv, drop_step l zMv i (by omega), ih k (i + 1) _ (by omega) (by omega) (by rw [List.length_append, List.length_singleton]; omega), List.append_assoc, List.map_cons]
      rfl
  have := h l.length k 0 [] (by omega) hk (by simp)
  rw [List.drop_zero, List.nil_append] at this
  exact this

/-! ### spec_l15Next -/
theorem draw_next_end {st : List Int} (hs : st.length ≤ 1048576) {n x : Int} {e : List Bool} {l : List Mv} {i s : Int} {k : Nat} (hi : 0 ≤ i) (hl : l.length ≤ 12) (hk : 0 < k) :
    ∃ l' j t, spec_l15Next.j1 k x false st i s n e l = some (n, e, l', j, t) ∧ l'.length ≤ 12 ∧ 0 ≤ j := by
  obtain ⟨k, rfl⟩ := succ_of hk
  simp only [spec_l15Next.j1, Bool.false_eq_true, if_false]
  obtain ⟨b, j, t, e1, j0⟩ := draw_once (s := s) (n := 6) hs hi (by omega) (by omega)
  rw [e1, Option.bind_some]
  dsimp only
  cases b with
  | false => rw [if_neg (by simp)]; exact ⟨_, _, _, rfl, hl, j0⟩
  | true =>
    have hw : wrap64 ((l.length : Int) / 2) = (l.length : Int) / 2 := wrap_id (by omega) (by omega)
    rw [if_pos rfl, hw, if_pos (by omega), if_pos (by omega)]
    exact ⟨_, _, _, rfl, by rw [List.length_take]; omega, j0⟩
def NextOk (st : List Int) (n : Int) (e : List Bool) (x : Option (Int × List Bool × List Mv × Int × Int)) : Prop := ∃ l' j t, x = some (n, e, l', j, t) ∧ l'.length ≤ 12 ∧ 0 ≤ j
theorem draw_next_cut {st : List Int} {n : Int} {e : List Bool} {l : List Mv} {c d : Nat} {k : Nat} {j t x0 x2 x3 : Int} {x1 : Bool} (hd : d ≤ 100) (hc : c < l.length) (hl : l.length ≤ 12) (ih : ∀ l' : List Mv, l'.length ≤ 12 → NextOk st n e (spec_l15Next.l0 k (d : Int) st j t n e l')) :
    NextOk st n e (spec_l15Next.j2 (k + 1) ((d + 1 : Nat) : Int) (c : Int) true st j t n e l x0 x1 x2 x3) := by
  have hw : wrap64 (((d + 1 : Nat) : Int) - 1) = (d : Int) := by rw [wrap_dn (by omega) (by omega)]; rfl
  have hw2 : wrap64 ((c : Int) + 1) = ((c + 1 : Nat) : Int) := wrap_up (n := l.length) (by omega) (by omega)
  have a1 : ([] ++ l.take ((c : Int)).toNat : List Mv).length ≤ 12 := by rw [List.nil_append, List.length_take]; omega
  obtain ⟨A, hA⟩ : ∃ A : List Mv, A = l.take ((c : Int)).toNat := ⟨_, rfl⟩
  obtain ⟨B, hB⟩ : ∃ B : List Mv, B = l.drop (((c + 1 : Nat) : Int)).toNat := ⟨_, rfl⟩
  have hAl : A.length ≤ 12 := by rw [hA, List.length_take]; omega
  have hAB : ([] ++ A ++ B).length ≤ 12 := by rw [hA, hB, List.nil_append, List.length_append, List.length_take, List.length_drop, toNat_cast, toNat_cast]; omega
  have h := ih _ hAB
  rw [spec_l15Next.j2, if_pos rfl, Option.bind_some, if_pos (by omega), if_pos (by omega), Option.bind_some, ← hA, if_pos (by simp; omega), Option.bind_some, hw2, if_pos (by omega), if_pos (by omega), Option.bind_some, ← hB, if_pos (by have := hAB; rw [List.length_append] at this; omega), hw]
  exact h
theorem draw_next_more {st : List Int} (hs : st.length ≤ 1048576) {n : Int} (hn : 1 ≤ n ∧ n ≤ 4) {e : List Bool} {l : List Mv} {c d : Nat} {k : Nat} {j t x0 x2 x3 : Int} {x1 : Bool} (hj : 0 ≤ j) (hd : d ≤ 100) (hk : 20 < k) (hl : l.length ≤ 12) (ih : ∀ (l' : List Mv) (j t : Int), l'.length ≤ 12 → 0 ≤ j → NextOk st n e (spec_l15Next.l0 k (d : Int) st j t n e l')) :
    NextOk st n e (spec_l15Next.j2 (k + 1) ((d + 1 : Nat) : Int) (c : Int) false st j t n e l x0 x1 x2 x3) := by
  have hw : wrap64 (((d + 1 : Nat) : Int) - 1) = (d : Int) := by rw [wrap_dn (by omega) (by omega)]; rfl
  rw [spec_l15Next.j2, if_neg (by simp), hw]
  cases x1 with
  | true => rw [if_pos rfl]; exact ih l j t hl hj
  | false =>
    rw [if_neg (by simp)]
    obtain ⟨v2, j2, t2, e2, _, _, j20⟩ := draw_below (s := t) (n := 5) hs hj (by omega) (by omega)
    obtain ⟨v3, j3, t3, e3, _, _, j30⟩ := draw_below (s := t2) (n := n) hs j20 (by omega) (by omega)
    rw [e2, Option.bind_some]
    dsimp only
    rw [e3, Option.bind_some]
    dsimp only
    rw [spec_MoveOf_eq (by omega) (by omega), Option.bind_some]
    by_cases h1 : moveOf l x0 false v2 < 0
    · rw [if_pos h1]
      by_cases h2 : (l.length : Int) < 12
      · rw [if_pos h2, if_pos (by omega)]
        exact ih _ j3 t3 (by rw [List.length_append, List.length_singleton]; omega) j30
      · rw [if_neg h2]; exact ih l j3 t3 hl j30
    · rw [if_neg h1]; exact ih l j3 t3 hl j30
theorem draw_next_step {st : List Int} (hs : st.length ≤ 1048576) {n : Int} (hn : 1 ≤ n ∧ n ≤ 4) {e : List Bool} {l : List Mv} {d : Nat} {k : Nat} {i s : Int} (hi : 0 ≤ i) (hd : d ≤ 100) (hk : 30 < k) (h0 : 0 < l.length) (hl : l.length ≤ 12) (ih : ∀ (l' : List Mv) (j t : Int), l'.length ≤ 12 → 0 ≤ j → NextOk st n e (spec_l15Next.l0 k (d : Int) st j t n e l')) :
    NextOk st n e (spec_l15Next.j1 (k + 2) ((d + 1 : Nat) : Int) true st i s n e l) := by
  obtain ⟨v, j, t, e1, v0, v1, j0⟩ := draw_below (s := s) (n := (l.length : Int)) hs hi (by omega) (by omega)
  obtain ⟨c, rfl⟩ : ∃ c : Nat, v = c := ⟨v.toNat, by omega⟩
  simp only [spec_l15Next.j1, if_true]
  rw [e1, Option.bind_some]
  dsimp only
  rw [if_pos v0, if_pos v1, rd_Mv]
  obtain ⟨x, hx⟩ : ∃ x, x = nt zMv l c := ⟨_, rfl⟩
  rw [← hx]
  have key : ∀ b : Bool, NextOk st n e (spec_l15Next.j2 (k + 1) ((d + 1 : Nat) : Int) (c : Int) b st j t n e l x.f0 x.f1 x.f2 x.f3) := by
    intro b
    cases b with
    | true => exact draw_next_cut hd (by omega) hl (fun l' h => ih l' j t h j0)
    | false => exact draw_next_more hs hn j0 hd (by omega) hl ih
  by_cases q : x.f1 = true
  · rw [if_pos q, spec_MovesFrom_eq (by omega) (by omega), Option.bind_some]
    exact key _
  · rw [if_neg q]
    exact key _
theorem draw_next_l0 {st : List Int} (hs : st.length ≤ 1048576) {n : Int} (hn : 1 ≤ n ∧ n ≤ 4) {e : List Bool} : ∀ (d k : Nat) (l : List Mv) (i s : Int), d ≤ 100 → 0 ≤ i → l.length ≤ 12 → 100 + 10 * d < k → NextOk st n e (spec_l15Next.l0 k (d : Int) st i s n e l) := by
  intro d
  induction d with
  | zero =>
    intro k l i s _ hi hl hk
    obtain ⟨k, rfl⟩ := succ_of hk
    simp only [spec_l15Next.l0]
    rw [if_neg (by omega)]
    exact draw_next_end hs hi hl (by omega)
  | succ d ih =>
    intro k l i s hd hi hl hk
    obtain ⟨k, rfl⟩ : ∃ m, k = m + 3 := ⟨k - 3, by omega⟩
    rw [show k + 3 = (k + 2) + 1 from rfl]
    simp only [spec_l15Next.l0]
    rw [if_pos (by omega)]
    by_cases q : (l.length : Int) > 0
    · rw [decide_eq_true q]
      exact draw_next_step hs hn hi (by omega) (by omega) (by omega) hl (fun l' j t h h2 => ih k l' j t (by omega) h2 h (by omega))
    · rw [decide_eq_false q]
      exact draw_next_end hs hi hl (by omega)
theorem draw_next {st : List Int} (hs : st.length ≤ 1048576) {n : Int} (hn : 1 ≤ n ∧ n ≤ 4) {e : List Bool} {l : List Mv} {i s : Int} {k : Nat} (hi : 0 ≤ i) (he : e.length ≤ 4) (hl : l.length ≤ 12) (hk : 1000 < k) :
    ∃ l' j t, spec_l15Next.f k st i s n e l = some (n, e, l', j, t) ∧ l'.length ≤ 12 ∧ 0 ≤ j := by
  unfold spec_l15Next.f
  have hm : (l.map flipMv).length = l.length := List.length_map ..
  rw [spec_DualOf_eq (by omega) (by omega) (by omega), Option.bind_some]
  dsimp only
  rw [spec_DualOf_eq (by omega) (by omega) (by omega), Option.bind_some, flipMv_two]
  obtain ⟨v, j, t, e1, v0, v1, j0⟩ := draw_below (s := s) (n := 3) hs hi (by omega) (by omega)
  obtain ⟨c, rfl⟩ : ∃ c : Nat, v = c := ⟨v.toNat, by omega⟩
  rw [e1, Option.bind_some]
  exact draw_next_l0 hs hn c k l j t (by omega) j0 hl (by omega)

/-! ### T_MachI -/
abbrev Mach := S27
abbrev zMach : Mach := z27
theorem rd_Mach (l : List Mach) (i : Nat) : rd_T27 l (i : Int) = nt zMach l i := by simp [rd_T27, nt]
def inMach : List Mach → Nat
  | [] => 0
  | x :: r => x.f1.length + x.f2.length + inMach r
theorem inMach_mem {l : List Mach} {x : Mach} (h : x ∈ l) : x.f1.length + x.f2.length ≤ inMach l := by
  induction l with
  | nil => simp at h
  | cons y r ih =>
    rcases List.mem_cons.1 h with rfl | h
    · simp [inMach]
    · have := ih h; simp [inMach]; omega

/-! ### spec_DrawChainFollows -/
/-- Small machines. -/
def GoodC (l : List Mach) : Prop := ∀ x ∈ l, 1 ≤ x.f0 ∧ x.f0 ≤ 4 ∧ x.f1.length ≤ 4 ∧ x.f2.length ≤ 12
theorem goodC_snoc {l : List Mach} {x : Mach} (h : GoodC l) (h1 : 1 ≤ x.f0 ∧ x.f0 ≤ 4 ∧ x.f1.length ≤ 4 ∧ x.f2.length ≤ 12) : GoodC (l ++ [x]) := by
  intro y hy
  rcases List.mem_append.1 hy with hy | hy
  · exact h y hy
  · rw [List.mem_singleton] at hy; rw [hy]; exact h1
theorem goodC_in {l : List Mach} (h : GoodC l) : inMach l ≤ 16 * l.length := by
  induction l with
  | nil => simp [inMach]
  | cons x r ih =>
    have h1 := h x List.mem_cons_self
    have h2 := ih (fun y hy => h y (List.mem_cons_of_mem _ hy))
    simp only [inMach, List.length_cons]; omega
theorem draw_chain_l0 {st : List Int} (hs : st.length ≤ 1048576) : ∀ (d k : Nat) (l : List Mach) (i s : Int), d ≤ 4 → 0 ≤ i → 0 < l.length → l.length + d ≤ 8 → GoodC l → 2000 + d < k →
    ∃ l', spec_DrawChainFollows.l0 k l (d : Int) st i s = some l' ∧ l'.length ≤ 8 ∧ GoodC l' := by
  intro d
  induction d with
  | zero =>
    intro k l i s _ hi h0 hl hg hk
    obtain ⟨k, rfl⟩ := succ_of hk
    simp only [spec_DrawChainFollows.l0]
    rw [if_neg (by omega)]
    exact ⟨_, rfl, by omega, hg⟩
  | succ d ih =>
    intro k l i s hd hi h0 hl hg hk
    obtain ⟨k, rfl⟩ := succ_of hk
    simp only [spec_DrawChainFollows.l0]
    have hw : wrap64 ((l.length : Int) - 1) = ((l.length - 1 : Nat) : Int) := wrap_dn h0 (by omega)
    have hw2 : wrap64 (((d + 1 : Nat) : Int) - 1) = (d : Int) := by rw [wrap_dn (by omega) (by omega)]; rfl
    have hx := hg _ (nt_mem zMach l (l.length - 1) (by omega))
    obtain ⟨l', j, t, e1, hl', j0⟩ := draw_next (k := k) (s := s) hs ⟨hx.1, hx.2.1⟩ hi hx.2.2.1 hx.2.2.2 (by omega)
    rw [if_pos (by omega), hw, if_pos (by omega), if_pos (by omega), rd_Mach, e1, Option.bind_some]
    dsimp only
    rw [if_pos (by omega), hw2]
    exact ih k _ j t (by omega) j0 (by rw [List.length_append, List.length_singleton]; omega) (by rw [List.length_append, List.length_singleton]; omega) (goodC_snoc hg ⟨hx.1, hx.2.1, hx.2.2.1, hl'⟩) (by omega)
theorem draw_chain {l : List Int} {k : Nat} (hl : l.length ≤ 1048576) (hk : 1100000 < k) : ∃ c, spec_DrawChainFollows.f k l = some c ∧ c.length ≤ 8 ∧ GoodC c := by
  unfold spec_DrawChainFollows.f
  obtain ⟨s, h0⟩ := draw_new (k := k) hl (by omega)
  obtain ⟨b, j, t, e1, j0⟩ := draw_once (s := s) (i := 0) (n := 9) hl (by omega) (by omega) (by omega)
  rw [h0, Option.bind_some, Option.bind_some]
  dsimp only
  rw [e1, Option.bind_some]
  dsimp only
  cases b with
  | true => rw [if_pos rfl]; exact ⟨_, rfl, by simp, fun x hx => by cases hx⟩
  | false =>
    obtain ⟨n, e, m, j2, t2, e2, ⟨g1, g2, g3, g4, _⟩, j20⟩ := draw_l13 (k := k) (s := t) hl j0 (by omega)
    obtain ⟨v, j3, t3, e3, v0, v1, j30⟩ := draw_below (s := t2) (n := 4) hl j20 (by omega) (by omega)
    obtain ⟨c, rfl⟩ : ∃ c : Nat, v = c := ⟨v.toNat, by omega⟩
    rw [if_neg (by simp), e2, Option.bind_some]
    dsimp only
    rw [if_pos (by simp), e3, Option.bind_some]
    dsimp only
    rw [List.nil_append]
    exact draw_chain_l0 hl c k _ j3 t3 (by omega) j30 (by simp) (by rw [List.length_singleton]; omega) (fun x hx => by rw [List.mem_singleton] at hx; rw [hx]; exact ⟨g1, g2, g3, g4⟩) (by omega)

/-! ### impl_ChainFollows -/
def followsM (x y : Mach) : Bool := follows x.f0 x.f1 x.f2 y.f0 y.f1 y.f2
def chainFollows (l : List Mach) : Bool := allFrom (fun i => followsM (nt zMach l (i + 1)) (nt zMach l i)) 0 (l.length - 1) && (decide (0 < l.length) && isMachine (nt zMach l 0).f0 (nt zMach l 0).f1 (nt zMach l 0).f2)
theorem impl_ChainFollows_end {l : List Mach} {k : Nat} (hk : 1000 < k) : (if (l.length : Int) > 0 then (if 0 < (l.length : Int) then ((impl_IsMachine.f k ((rd_T27 l 0).f0) ((rd_T27 l 0).f1) ((rd_T27 l 0).f2)).bind fun t => (some t)) else (none)) else (some false)) = some (decide (0 < l.length) && isMachine (nt zMach l 0).f0 (nt zMach l 0).f1 (nt zMach l 0).f2) := by
  by_cases h : 0 < l.length
  · have e : rd_T27 l 0 = nt zMach l 0 := rd_Mach l 0
    rw [if_pos (by omega), if_pos (by omega), e, impl_IsMachine_eq hk, Option.bind_some, decide_eq_true h]; rfl
  · rw [if_neg (by omega), decide_eq_false h]; rfl
theorem impl_ChainFollows_eq {l : List Mach} {k : Nat} (hl : l.length ≤ 1048576) (hm : inMach l ≤ 1048576) (hk : l.length + 7030000 < k) : impl_ChainFollows.f k l = some (chainFollows l) := by
  unfold impl_ChainFollows.f chainFollows
  by_cases h0 : l.length = 0
  · obtain ⟨k, rfl⟩ := succ_of hk
    simp only [impl_ChainFollows.l0]
    rw [if_neg (by omega), impl_ChainFollows_end (by omega), h0]; rfl
  · have h := all_loop2 (g := fun k i => impl_ChainFollows.l0 k l ((i + 1 : Nat) : Int)) (n := l.length - 1) (B := 7020001) (ok := fun i => followsM (nt zMach l (i + 1)) (nt zMach l i)) (fin := decide (0 < l.length) && isMachine (nt zMach l 0).f0 (nt zMach l 0).f1 (nt zMach l 0).f2) (fun k hk => by
        simp only [impl_ChainFollows.l0]
        rw [if_neg (by omega), impl_ChainFollows_end (by omega)])
      (fun k i hi hk => by
        have x1 := inMach_mem (nt_mem zMach l (i + 1) (by omega))
        have x2 := inMach_mem (nt_mem zMach l i (by omega))
        simp only [impl_ChainFollows.l0]
        have e : wrap64 (((i + 1 : Nat) : Int) - 1) = (i : Int) := by rw [wrap_dn (by omega) (by omega)]; rfl
        rw [if_pos (by omega), if_pos (by omega), e, if_pos (by omega), if_pos (by omega), rd_Mach, rd_Mach, impl_Follows_eq (by omega) (by omega) (by omega) (by omega) (by omega), Option.bind_some, wrap_up (n := l.length) (by omega) (by omega)]; rfl) (l.length - 1) k 0 (by omega) (by omega)
    exact h

/-! ### spec_EqualInts -/
theorem spec_EqualInts_l0 (a b : List Int) (hl : a.length ≤ 9223372036854775807) (he : b.length = a.length) : ∀ (d k i : Nat), i + d = a.length → d < k → spec_EqualInts.l0 k a b (i : Int) = some (decide (a.drop i = b.drop i)) := by
  intro d
  induction d with
  | zero =>
    intro k i h hk
    obtain ⟨k, rfl⟩ := succ_of hk
    obtain rfl : i = a.length := by omega
    simp only [spec_EqualInts.l0]; rw [if_neg (by omega), drop_end, ← he, drop_end, decide_eq_true rfl]
  | succ d ih =>
    intro k i h hk
    obtain ⟨k, rfl⟩ := succ_of hk
    simp only [spec_EqualInts.l0]
    rw [if_pos (by omega), if_pos (by omega), if_pos (by omega), wrap_up (n := a.length) (by omega) hl, rd_cast, rd_cast, drop_step a 0 i (by omega), drop_step b 0 i (by omega), ih k (i + 1) (by omega) (by omega)]
    by_cases e : nt 0 a i = nt 0 b i
    · rw [if_pos e, e]; simp
    · rw [if_neg e]; simp [e]
theorem spec_EqualInts_eq {a b : List Int} {k : Nat} (hl : a.length ≤ 9223372036854775807) (hk : a.length < k) : spec_EqualInts.f k a b = some (decide (a = b)) := by
  unfold spec_EqualInts.f
  by_cases e : a.length = b.length
  · rw [if_pos (by omega)]
    exact spec_EqualInts_l0 a b hl e.symm a.length k 0 (by omega) hk
  · rw [if_neg (by omega), decide_eq_false (fun h => e (by rw [h]))]
theorem spec_EqualInts_self {a : List Int} {k : Nat} (hl : a.length ≤ 9223372036854775807) (hk : a.length < k) : spec_EqualInts.f k a a = some true := by
  rw [spec_EqualInts_eq hl hk, decide_eq_true rfl]

/-! ### spec_l14Has -/
theorem spec_l14Has_eq {out : List (List Int)} {p : List Int} {k : Nat} (ho : out.length ≤ 1048576) (hq : ∀ q ∈ out, q.length ≤ 8) (hk : out.length + 10 < k) : spec_l14Has.f k out p = some (decide (p ∈ out)) := by
  have h := any_loop (g := fun k i => spec_l14Has.l0 k out p (i : Int)) (l := out) (z := []) (B := 9) (p := fun q => decide (q = p)) (fun k => by
      simp only [spec_l14Has.l0]; rw [if_neg (by omega)])
    (fun k i hi hk => by
      have hL := hq _ (nt_mem [] out i hi)
      simp only [spec_l14Has.l0]
      rw [if_pos (by omega), if_pos (by omega), rdLL, spec_EqualInts_eq (by omega) (by omega), Option.bind_some, wrap_up (n := out.length) hi (by omega)]) out.length k 0 (by omega) (by omega)
  unfold spec_l14Has.f
  refine h.trans (congrArg some ?_)
  rw [List.drop_zero, Bool.eq_iff_iff, List.any_eq_true, decide_eq_true_eq]
  constructor
  · rintro ⟨x, hx, h⟩
    rw [decide_eq_true_eq] at h
    exact h ▸ hx
  · exact fun h => ⟨p, h, decide_eq_true rfl⟩

/-! ### spec_IsMachine -/
theorem spec_IsMachine_eq {n : Int} {e : List Bool} {l : List Mv} {k : Nat} (hk : 1000 < k) : spec_IsMachine.f k n e l = some (isMachine n e l) := by
  unfold spec_IsMachine.f isMachine
  rw [spec_l1In_eq, Option.bind_some]
  obtain ⟨k, rfl⟩ := succ_of hk
  simp only [spec_IsMachine.j0]
  cases h1 : inB n 1 6 with
  | false => rw [if_neg (by simpa [inB] using h1), if_pos trivial]; rfl
  | true =>
    have hN : 1 ≤ n ∧ n ≤ 6 := by simpa [inB] using h1
    rw [if_pos (by simpa [inB] using h1)]
    by_cases h2 : (e.length : Int) = n
    · rw [if_pos h2]
      by_cases h3 : l.length ≤ 12
      · rw [if_neg (by simp; omega), ← good_iff]
        have h := all_loop (g := fun k i => spec_IsMachine.l0 k (i : Int) n e l) (n := l.length) (B := 100) (ok := fun i => okMv n (nt zMv l i) && (!decide (moveOf l (nt zMv l i).f0 (nt zMv l i).f1 (nt zMv l i).f2 < (i : Int)) && !decide (((movesFrom l (nt zMv l i).f0 (!(nt zMv l i).f1)).length : Int) > 0))) (fin := true) (fun k => by
            simp only [spec_IsMachine.l0]; rw [if_neg (by omega)])
          (fun k i hi hk => by
            simp only [spec_IsMachine.l0]
            rw [if_pos (by omega), if_pos (by omega), rd_Mv, wrap_up (n := l.length) hi (by omega), wrap_id (x := n - 1) (by omega) (by omega)]
            simp only [spec_l1In_eq, Option.bind_some, spec_MoveOf_eq (n := n) (e := e) (l := l) (show l.length ≤ 1048576 by omega) (show l.length < k by omega), spec_MovesFrom_eq (n := n) (e := e) (l := l) (show l.length ≤ 1048576 by omega) (show 2 * l.length + 2 < k by omega)]
            have e1 : (decide (0 ≤ (nt zMv l i).f0 ∧ (nt zMv l i).f0 ≤ n - 1)) = inB (nt zMv l i).f0 0 (n - 1) := by simp [inB]
            have e2 : (decide (0 ≤ (nt zMv l i).f3 ∧ (nt zMv l i).f3 ≤ n - 1)) = inB (nt zMv l i).f3 0 (n - 1) := by simp [inB]
            have e3 : (decide (0 ≤ (nt zMv l i).f2 ∧ (nt zMv l i).f2 ≤ 5)) = inB (nt zMv l i).f2 0 5 := by simp [inB]
            simp only [e1, e2, e3]
            by_cases b1 : inB (nt zMv l i).f0 0 (n - 1) = true
            · by_cases b2 : inB (nt zMv l i).f3 0 (n - 1) = true
              · by_cases b3 : inB (nt zMv l i).f2 0 5 = true
                · have b4 : okMv n (nt zMv l i) = true := by simp [okMv, b1, b2, b3]
                  rw [if_pos b1, if_pos b2, if_pos b3]
                  by_cases q1 : moveOf l (nt zMv l i).f0 (nt zMv l i).f1 (nt zMv l i).f2 < (i : Int)
                  · rw [if_pos q1, if_neg (by simp [q1])]
                  · by_cases q2 : ((movesFrom l (nt zMv l i).f0 (!(nt zMv l i).f1)).length : Int) > 0
                    · rw [if_neg q1, if_pos q2, if_neg (by rw [decide_eq_true q2]; simp)]
                    · rw [if_neg q1, if_neg q2, if_pos (by rw [b4, decide_eq_false q1, decide_eq_false q2]; rfl)]
                · rw [if_pos b1, if_pos b2, if_neg b3, if_neg (by simp [okMv, b3])]
              · rw [if_pos b1, if_neg b2, if_neg (by simp [okMv, b2])]
            · rw [if_neg b1, if_neg (by simp [okMv, b1])]) l.length k 0 (by omega) (by omega)
        simpa [h2, h3] using h
      · rw [if_pos (by simp; omega)]; simp [h3]
    · rw [if_neg h2, if_pos trivial]; simp [h2]

/-! ### spec_FollowPairs -/
theorem addAll_append (out ps qs : List (List Int)) : addAll out (ps ++ qs) = addAll (addAll out ps) qs := by unfold addAll; rw [List.foldl_append]
theorem addAll_len : ∀ (ps out : List (List Int)), (addAll out ps).length ≤ out.length + ps.length
  | [], out => by simp [addAll]
  | p :: ps, out => by
    have h1 := addAll_len ps (addPair out p)
    have h2 := addPair_len out p
    rw [addAll_cons, List.length_cons]; omega
theorem addAll_len8 : ∀ (ps out : List (List Int)), (∀ q ∈ out, q.length ≤ 8) → (∀ q ∈ ps, q.length ≤ 8) → ∀ q ∈ addAll out ps, q.length ≤ 8
  | [], _, h, _ => h
  | p :: ps, out, h, hp => addAll_len8 ps (addPair out p) (fun q hq => by
      unfold addPair at hq
      split at hq
      · exact h q hq
      · rcases List.mem_append.1 hq with hq | hq
        · exact h q hq
        · rw [List.mem_singleton] at hq; subst hq; exact hp _ List.mem_cons_self) (fun q hq => hp q (List.mem_cons_of_mem _ hq))
theorem spec_FollowPairs_l2 {n n2 : Int} {e f : List Bool} {l m : List Mv} {x6 x y sN : Int} {s : Bool} {w : List Int} (hs : (sN == 1) = s) (hl : l.length ≤ 12) (hm : m.length ≤ 12) (hw : w.length ≤ 1000) : ∀ (d i k : Nat) (out : List (List Int)), i + d = w.length → out.length + d ≤ 4194 → (∀ q ∈ out, q.length ≤ 8) → 2 * d + 10000 < k →
    spec_FollowPairs.l2 k out x6 x y sN w (i : Int) n e l n2 f m = spec_FollowPairs.l1 (k - 2 * d - 1) (addAll out (((w.drop i).filter (followOk l m x y s)).map (followTo l m x y s))) x6 x y (wrap64 (sN - 1)) n e l n2 f m := by
  intro d
  induction d with
  | zero =>
    intro i k out h _ _ hk
    obtain ⟨k, rfl⟩ := succ_of hk
    obtain rfl : i = w.length := by omega
    simp only [spec_FollowPairs.l2]
    rw [if_neg (by omega), drop_end]; rfl
  | succ d ih =>
    intro i k out h ho hq hk
    obtain ⟨k, rfl⟩ : ∃ k', k = k' + 2 := ⟨k - 2, by omega⟩
    simp only [spec_FollowPairs.l2]
    rw [if_pos (by omega), if_pos (by omega), hs, rd_cast, spec_MoveOf_eq (by omega) (by omega), Option.bind_some, spec_MoveOf_eq (by omega) (by omega), Option.bind_some, drop_step w 0 i (by omega)]
    rw [show k + 2 - 2 * (d + 1) - 1 = k - 2 * d - 1 by omega]
    rcases moveOf_bnd l x s (nt 0 w i) with q | ⟨j2, e2, b2, _⟩
    · rw [if_pos q]
      simp only [spec_FollowPairs.j5, if_true]
      rw [wrap_up (n := w.length) (by omega) (by omega), ih (i + 1) k out (by omega) (by omega) hq (by omega), List.filter_cons_of_neg (by simp [followOk]; omega)]
    · rcases moveOf_bnd m y s (nt 0 w i) with q | ⟨j3, e1, b1, _⟩
      · rw [if_neg (by omega), decide_eq_true q]
        simp only [spec_FollowPairs.j5, if_true]
        rw [wrap_up (n := w.length) (by omega) (by omega), ih (i + 1) k out (by omega) (by omega) hq (by omega), List.filter_cons_of_neg (by simp [followOk]; omega)]
      · rw [if_neg (by omega), decide_eq_false (by omega), List.filter_cons_of_pos (by simp [followOk]; omega), List.map_cons, addAll_cons]
        simp only [spec_FollowPairs.j5, Bool.false_eq_true, if_false]
        have ht : followTo l m x y s (nt 0 w i) = [(nt zMv l j2).f3, (nt zMv m j3).f3] := by unfold followTo; rw [e2, e1, toNat_cast, toNat_cast]
        rw [if_pos (by omega), if_pos (by omega), if_pos (by omega), if_pos (by omega), Option.bind_some, e2, e1, rd_Mv, rd_Mv, ← ht, spec_l14Has_eq (by omega) hq (by omega), Option.bind_some, wrap_up (n := w.length) (by omega) (by omega)]
        have hL := addPair_len out (followTo l m x y s (nt 0 w i))
        by_cases q : followTo l m x y s (nt 0 w i) ∈ out
        · rw [decide_eq_true q, if_pos rfl, ih (i + 1) k out (by omega) (by omega) hq (by omega)]
          have : addPair out (followTo l m x y s (nt 0 w i)) = out := by unfold addPair; rw [if_pos q]
          rw [this]
        · rw [decide_eq_false q, if_neg (by simp), if_pos (by omega), ih (i + 1) k _ (by omega) (by rw [len_snoc]; omega) (fun z hz => by
            rcases List.mem_append.1 hz with hz | hz
            · exact hq z hz
            · rw [List.mem_singleton] at hz; subst hz; rw [ht]; simp) (by omega)]
          have : addPair out (followTo l m x y s (nt 0 w i)) = out ++ [followTo l m x y s (nt 0 w i)] := by unfold addPair; rw [if_neg q]
          rw [this]
theorem spec_FollowPairs_l1 {n n2 : Int} {e f : List Bool} {l m : List Mv} {x6 x y : Int} {k : Nat} {out : List (List Int)} (hl : l.length ≤ 12) (hm : m.length ≤ 12) (ho : out.length ≤ 100) (hq : ∀ q ∈ out, q.length ≤ 8) (hk : 20000 < k) :
    ∃ k2, k ≤ k2 + 100 ∧ spec_FollowPairs.l1 k out x6 x y 1 n e l n2 f m = spec_FollowPairs.l0 k2 (addAll out (nextFollowed l m x y)) (wrap64 (x6 + 1)) n e l n2 f m := by
  have a1 := movesFrom_len l x true
  have a2 := movesFrom_len m y false
  obtain ⟨k, rfl⟩ : ∃ k', k = k' + 2 := ⟨k - 2, by omega⟩
  simp only [spec_FollowPairs.l1]
  rw [if_pos (by omega), spec_MovesFrom_eq (by omega) (by omega), Option.bind_some, if_neg (by omega)]
  simp only [spec_FollowPairs.j3]
  have h1 := spec_FollowPairs_l2 (n := n) (n2 := n2) (e := e) (f := f) (l := l) (m := m) (x6 := x6) (x := x) (y := y) (sN := 1) (s := true) (w := movesFrom l x true) rfl hl hm (by omega) _ 0 k out (Nat.zero_add _) (by omega) hq (by omega)
  rw [List.drop_zero] at h1
  obtain ⟨A, hA⟩ : ∃ A, A = ((movesFrom l x true).filter (followOk l m x y true)).map (followTo l m x y true) := ⟨_, rfl⟩
  obtain ⟨B, hB⟩ : ∃ B, B = ((movesFrom m y false).filter (followOk l m x y false)).map (followTo l m x y false) := ⟨_, rfl⟩
  have hN : nextFollowed l m x y = A ++ B := by rw [hA, hB]; rfl
  have lA : A.length ≤ 12 := by rw [hA, List.length_map]; have := List.length_filter_le (followOk l m x y true) (movesFrom l x true); omega
  have qA : ∀ q ∈ A, q.length ≤ 8 := by rw [hA]; intro q hq; obtain ⟨v, _, rfl⟩ := List.mem_map.1 hq; simp [followTo]
  rw [← hA] at h1
  have e1 : ∀ K, spec_FollowPairs.l2 K out x6 x y 1 (movesFrom l x true) 0 n e l n2 f m = spec_FollowPairs.l2 K out x6 x y 1 (movesFrom l x true) ((0 : Nat) : Int) n e l n2 f m := fun _ => rfl
  rw [e1, h1, show wrap64 (1 - 1) = 0 by rw [wrap_id (by omega) (by omega)]; rfl]
  obtain ⟨k2, hk2⟩ : ∃ k2, k - 2 * (movesFrom l x true).length - 1 = k2 + 2 := ⟨k - 2 * (movesFrom l x true).length - 1 - 2, by omega⟩
  rw [hk2]
  simp only [spec_FollowPairs.l1]
  rw [if_pos (by omega), spec_MovesFrom_eq (by omega) (by omega), Option.bind_some, if_pos (by simp), spec_MovesFrom_eq (by omega) (by omega), Option.bind_some]
  simp only [spec_FollowPairs.j3]
  have lO := addAll_len A out
  have h2 := spec_FollowPairs_l2 (n := n) (n2 := n2) (e := e) (f := f) (l := l) (m := m) (x6 := x6) (x := x) (y := y) (sN := 0) (s := false) (w := movesFrom m y false) rfl hl hm (by omega) _ 0 k2 (addAll out A) (Nat.zero_add _) (by omega) (addAll_len8 A out hq qA) (by omega)
  rw [List.drop_zero, ← hB] at h2
  have e2 : ∀ K, spec_FollowPairs.l2 K (addAll out A) x6 x y 0 (movesFrom m y false) 0 n e l n2 f m = spec_FollowPairs.l2 K (addAll out A) x6 x y 0 (movesFrom m y false) ((0 : Nat) : Int) n e l n2 f m := fun _ => rfl
  rw [e2, h2, show wrap64 (0 - 1) = -1 by rw [wrap_id (by omega) (by omega)]; rfl, ← addAll_append, ← hN]
  obtain ⟨k3, hk3⟩ : ∃ k3, k2 - 2 * (movesFrom m y false).length - 1 = k3 + 1 := ⟨k2 - 2 * (movesFrom m y false).length - 1 - 1, by omega⟩
  rw [hk3]
  refine ⟨k3, by omega, ?_⟩
  simp only [spec_FollowPairs.l1]
  rw [if_neg (by omega)]
theorem spec_FollowPairs_l0 {n n2 : Int} {e f : List Bool} {l m : List Mv} (h1 : isMachine n e l = true) (h2 : isMachine n2 f m = true) : ∀ (d i k : Nat) (out : List (List Int)), goodPairs n n2 out → 37 ≤ i + d → 50000 + 200 * d < k → spec_FollowPairs.l0 k out (i : Int) n e l n2 f m = some (reachFrom (nextFollowed l m) d i out) := by
  have a1 := machine_len h1
  have a2 := machine_len h2
  have hx := okNext_follow h1 h2
  intro d
  induction d with
  | zero =>
    intro i k out hg hi hk
    obtain ⟨k, rfl⟩ := succ_of hk
    have := good_len a1.2.1 a2.2.1 hg
    simp only [spec_FollowPairs.l0]
    rw [if_neg (by omega)]; rfl
  | succ d ih =>
    intro i k out hg hi hk
    obtain ⟨k, rfl⟩ := succ_of hk
    simp only [spec_FollowPairs.l0, reachFrom]
    by_cases h : i < out.length
    · obtain ⟨e0, b1, b2, b3, b4⟩ := good_at hg h
      have hL : (nt [] out i).length = 2 := by rw [e0]; rfl
      have hlen := good_len a1.2.1 a2.2.1 hg
      rw [if_pos (by omega), if_pos (by omega), rdLL, if_pos (by omega), if_pos (by omega), rd_nt0, rd_nt1, if_pos h]
      obtain ⟨k2, hk2, e1⟩ := spec_FollowPairs_l1 (n := n) (n2 := n2) (e := e) (f := f) (l := l) (m := m) (x6 := (i : Int)) (x := nt 0 (nt [] out i) 0) (y := nt 0 (nt [] out i) 1) (k := k) (out := out) (by omega) (by omega) (by omega) (fun q hq => by have := okPair_len (hg.2 q hq); omega) (by omega)
      rw [e1, wrap_up (n := out.length) h (by omega)]
      exact ih (i + 1) _ _ (good_next hx hg h) (by omega) (by omega)
    · rw [if_neg (by omega), if_neg h]
theorem spec_FollowPairs_eq {n n2 : Int} {e f : List Bool} {l m : List Mv} {k : Nat} (hk : 7010000 < k) : spec_FollowPairs.f k n e l n2 f m = some (followPairs n e l n2 f m) := by
  unfold spec_FollowPairs.f followPairs
  obtain ⟨k, rfl⟩ := succ_of hk
  rw [Option.bind_some, spec_IsMachine_eq (by omega), Option.bind_some]
  cases h1 : isMachine n e l with
  | false => simp only [spec_FollowPairs.j0, Bool.false_eq_true, if_false, if_true, Bool.false_and]
  | true =>
    rw [if_pos rfl, spec_IsMachine_eq (by omega), Option.bind_some]
    cases h2 : isMachine n2 f m with
    | false => simp only [spec_FollowPairs.j0, Bool.not_false, Bool.false_eq_true, if_false, if_true, Bool.and_false]
    | true =>
      have a1 := machine_len h1
      have a2 := machine_len h2
      simp only [spec_FollowPairs.j0, Bool.not_true, Bool.false_eq_true, if_false, Bool.and_self, if_true]
      rw [if_pos (by simp)]
      exact spec_FollowPairs_l0 h1 h2 37 0 k [[0, 0]] (good_start a1.1 a2.1) (by omega) (by omega)

/-! ### spec_Follows -/
theorem spec_Follows_eq {n n2 : Int} {e f : List Bool} {l m : List Mv} {k : Nat} (he : e.length ≤ 1048576) (hf : f.length ≤ 1048576) (hl : l.length ≤ 1048576) (hm : m.length ≤ 1048576) (hk : 7020000 < k) : spec_Follows.f k n e l n2 f m = some (follows n e l n2 f m) := by
  unfold spec_Follows.f follows
  obtain ⟨k, rfl⟩ := succ_of hk
  rw [spec_IsMachine_eq (by omega), Option.bind_some]
  cases h1 : isMachine n e l with
  | false => simp only [spec_Follows.j0, Bool.false_eq_true, if_false, if_true, Bool.false_and]
  | true =>
    rw [if_pos rfl, spec_IsMachine_eq (by omega), Option.bind_some]
    cases h2 : isMachine n2 f m with
    | false => simp only [spec_Follows.j0, Bool.not_false, Bool.false_eq_true, if_false, if_true, Bool.false_and, Bool.and_false]
    | true =>
      simp only [spec_Follows.j0, Bool.not_true, Bool.false_eq_true, if_false, Bool.true_and]
      rw [spec_FollowPairs_eq (by omega), Option.bind_some]
      obtain ⟨P, hP⟩ : ∃ P, P = followPairs n e l n2 f m := ⟨_, rfl⟩
      have hb := followPairs_len2 n e l n2 f m
      rw [← hP] at hb ⊢
      have h := all_loop (g := fun k i => spec_Follows.l0 k P (i : Int) n e l n2 f m) (n := P.length) (B := 4000001) (ok := fun i => followsPair e l f m (nt [] P i)) (fin := true) (fun k => by
          simp only [spec_Follows.l0]; rw [if_neg (by omega)])
        (fun k i hi hk => by
          have h2 := hb.2 _ (nt_mem [] P i hi)
          simp only [spec_Follows.l0]
          rw [if_pos (by omega), if_pos (by omega), rdLL, if_pos (by omega), if_pos (by omega), rd_nt0, rd_nt1, spec_FollowsAt_eq he hf hl hm (by omega), Option.bind_some, wrap_up (n := P.length) hi (by omega)]; rfl) P.length k 0 (by omega) (by omega)
      rw [allFrom_all (fun p => followsPair e l f m p), Bool.and_true] at h
      exact h

/-! ### spec_ChainFollows -/
theorem spec_ChainFollows_end {l : List Mach} {k : Nat} (hk : 1000 < k) : (if (l.length : Int) > 0 then (if 0 < (l.length : Int) then ((spec_IsMachine.f k ((rd_T27 l 0).f0) ((rd_T27 l 0).f1) ((rd_T27 l 0).f2)).bind fun t => (some t)) else (none)) else (some false)) = some (decide (0 < l.length) && isMachine (nt zMach l 0).f0 (nt zMach l 0).f1 (nt zMach l 0).f2) := by
  by_cases h : 0 < l.length
  · have e : rd_T27 l 0 = nt zMach l 0 := rd_Mach l 0
    rw [if_pos (by omega), if_pos (by omega), e, spec_IsMachine_eq hk, Option.bind_some, decide_eq_true h]; rfl
  · rw [if_neg (by omega), decide_eq_false h]; rfl
theorem spec_ChainFollows_eq {l : List Mach} {k : Nat} (hl : l.length ≤ 1048576) (hm : inMach l ≤ 1048576) (hk : l.length + 7030000 < k) : spec_ChainFollows.f k l = some (chainFollows l) := by
  unfold spec_ChainFollows.f chainFollows
  by_cases h0 : l.length = 0
  · obtain ⟨k, rfl⟩ := succ_of hk
    simp only [spec_ChainFollows.l0]
    rw [if_neg (by omega), spec_ChainFollows_end (by omega), h0]; rfl
  · have h := all_loop2 (g := fun k i => spec_ChainFollows.l0 k l ((i + 1 : Nat) : Int)) (n := l.length - 1) (B := 7020001) (ok := fun i => followsM (nt zMach l (i + 1)) (nt zMach l i)) (fin := decide (0 < l.length) && isMachine (nt zMach l 0).f0 (nt zMach l 0).f1 (nt zMach l 0).f2) (fun k hk => by
        simp only [spec_ChainFollows.l0]
        rw [if_neg (by omega), spec_ChainFollows_end (by omega)])
      (fun k i hi hk => by
        have x1 := inMach_mem (nt_mem zMach l (i + 1) (by omega))
        have x2 := inMach_mem (nt_mem zMach l i (by omega))
        simp only [spec_ChainFollows.l0]
        have e : wrap64 (((i + 1 : Nat) : Int) - 1) = (i : Int) := by rw [wrap_dn (by omega) (by omega)]; rfl
        rw [if_pos (by omega), if_pos (by omega), e, if_pos (by omega), if_pos (by omega), rd_Mach, rd_Mach, spec_Follows_eq (by omega) (by omega) (by omega) (by omega) (by omega), Option.bind_some, wrap_up (n := l.length) (by omega) (by omega)]; rfl) (l.length - 1) k 0 (by omega) (by omega)
    exact h

end FnChainAid
open FnChainAid

theorem chain_all {l : List Mach} (h : chainFollows l = true) : 0 < l.length ∧ ∀ (d i : Nat), i + d < l.length → followsM (nt zMach l (i + d)) (nt zMach l i) = true := by
  unfold chainFollows at h
  rw [Bool.and_eq_true, Bool.and_eq_true, allFrom_iff, decide_eq_true_eq] at h
  obtain ⟨h1, h0, h2⟩ := h
  have hm : ∀ i, i < l.length → isMachine (nt zMach l i).f0 (nt zMach l i).f1 (nt zMach l i).f2 = true := by
    intro i hi
    cases i with
    | zero => exact h2
    | succ i => exact (follows_iff.1 (h1 i (by omega) (by omega))).1
  refine ⟨h0, fun d => ?_⟩
  induction d with
  | zero => intro i hi; exact follows_refl (hm i hi)
  | succ d ih =>
    intro i hi
    exact follows_trans (h1 (i + d) (by omega) (by omega)) (ih i (by omega))
theorem FnChain_l1 {l : List Mach} (hl : l.length ≤ 8) (hg : GoodC l) {a : Nat} (ha : a < l.length) (hA : ∀ (d i : Nat), i + d < l.length → followsM (nt zMach l (i + d)) (nt zMach l i) = true) : ∀ (d b k : Nat), b + d = l.length → a ≤ b → 7030000 + d < k → laws_FnChain.l1 k l (a : Int) (b : Int) = laws_FnChain.l0 (k - d - 1) l ((a + 1 : Nat) : Int) := by
  intro d
  induction d with
  | zero =>
    intro b k hb hab hk
    obtain ⟨k, rfl⟩ := succ_of hk
    simp only [laws_FnChain.l1]
    rw [if_neg (by omega), wrap_up (n := l.length) (by omega) (by omega)]; rfl
  | succ d ih =>
    intro b k hb hab hk
    obtain ⟨k, rfl⟩ := succ_of hk
    simp only [laws_FnChain.l1]
    have x1 := hg _ (nt_mem zMach l b (by omega))
    have x2 := hg _ (nt_mem zMach l a (by omega))
    have hf := hA (b - a) a (by omega)
    rw [show a + (b - a) = b by omega] at hf
    unfold followsM at hf
    rw [if_pos (by omega), if_pos (by omega), if_pos (by omega), if_pos (by omega), rd_Mach, rd_Mach, impl_Follows_eq (by omega) (by omega) (by omega) (by omega) (by omega), Option.bind_some, hf, if_pos rfl, wrap_up (n := l.length) (by omega) (by omega), ih (b + 1) k (by omega) (by omega) (by omega)]
    congr 1; omega
theorem FnChain_l0 {l : List Mach} (hl : l.length ≤ 8) (h0 : 0 < l.length) (hg : GoodC l) (hA : ∀ (d i : Nat), i + d < l.length → followsM (nt zMach l (i + d)) (nt zMach l i) = true) : ∀ (d a k : Nat), a + d = l.length → 7040000 + 20 * d < k → laws_FnChain.l0 k l (a : Int) = some true := by
  intro d
  induction d with
  | zero =>
    intro a k ha hk
    obtain ⟨k, rfl⟩ := succ_of hk
    simp only [laws_FnChain.l0]
    rw [if_neg (by omega), decide_eq_true (by omega)]
  | succ d ih =>
    intro a k ha hk
    obtain ⟨k, rfl⟩ := succ_of hk
    simp only [laws_FnChain.l0]
    rw [if_pos (by omega), FnChain_l1 hl hg (by omega) hA (d + 1) a k (by omega) (by omega) (by omega)]
    exact ih (a + 1) _ (by omega) (by omega)
theorem FnChain : laws_FnChain.Pure := by
  intro st _ _ _
  obtain ⟨k, hk⟩ : ∃ k, k = 9000000 := ⟨_, rfl⟩
  refine ⟨k, ?_⟩
  unfold laws_FnChain.f laws_big.f
  rw [Option.bind_some]
  by_cases hb : (st.length : Int) > 1048576
  · rw [if_pos (decide_eq_true hb)]
  · rw [if_neg (by simp [hb])]
    have hs : st.length ≤ 1048576 := by omega
    obtain ⟨l, e1, hl, hg⟩ := draw_chain (k := k) hs (by omega)
    have hi := goodC_in hg
    rw [e1, Option.bind_some, impl_ChainFollows_eq (by omega) (by omega) (by omega), Option.bind_some]
    cases q : chainFollows l with
    | true =>
      obtain ⟨h0, hA⟩ := chain_all q
      rw [if_pos rfl]
      exact FnChain_l0 hl h0 hg hA l.length 0 k (by omega) (by omega)
    | false =>
      rw [if_neg (by simp)]
      by_cases h1 : (l.length : Int) = 1
      · have e : rd_T27 l 0 = nt zMach l 0 := rd_Mach l 0
        have hM : isMachine (nt zMach l 0).f0 (nt zMach l 0).f1 (nt zMach l 0).f2 = false := by
          have hq := q
          unfold chainFollows at hq
          rw [show l.length - 1 = 0 by omega, decide_eq_true (show 0 < l.length by omega)] at hq
          simpa [allFrom] using hq
        rw [if_pos h1, if_pos (by omega), e, impl_IsMachine_eq (by omega), Option.bind_some, hM, if_neg (by simp), spec_ChainFollows_eq (by omega) (by omega) (by omega), Option.bind_some, q]; rfl
      · rw [if_neg h1, spec_ChainFollows_eq (by omega) (by omega) (by omega), Option.bind_some, q]; rfl

end Go.Proofs.Ytfibjclnaeocbaa.Pure
